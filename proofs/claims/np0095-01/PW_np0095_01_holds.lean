import PyProof.Rows.All
import Wide.All
import OpenK.AllK
import Wide.FinOn
import PySem.Challenge.RW_np0095_01
set_option Elab.async false
set_option compiler.extract_closed false
set_option hygiene false
set_option genSizeOf false
set_option maxHeartbeats 4000000
set_option linter.unusedVariables false
set_option linter.unusedSimpArgs false
namespace Mine
open PySem PySem.W PySem.Spec PySem.Calls PyProof.Rows

section
--x combos begin
theorem x02 {P Q : Prop} {X : Prop} (h : P ∧ Q) (f : P → Q → X) : X := f  h.1 h.2
theorem x03 {P Q R : Prop} {X : Prop} (h : P ∧ Q ∧ R) (f : P → Q → R → X) : X := f  h.1 h.2.1 h.2.2
theorem x04 {P Q R S : Prop} {X : Prop} (h : P ∧ Q ∧ R ∧ S) (f : P → Q → R → S → X) : X := f  h.1 h.2.1 h.2.2.1 h.2.2.2
theorem x06 {P Q R S T U : Prop} {X : Prop} (h : P ∧ Q ∧ R ∧ S ∧ T ∧ U) (f : P → Q → R → S → T → U → X) : X := f  h.1 h.2.1 h.2.2.1 h.2.2.2.1 h.2.2.2.2.1 h.2.2.2.2.2
theorem x07 {P Q R S T U V : Prop} {X : Prop} (h : P ∧ Q ∧ R ∧ S ∧ T ∧ U ∧ V) (f : P → Q → R → S → T → U → V → X) : X := f  h.1 h.2.1 h.2.2.1 h.2.2.2.1 h.2.2.2.2.1 h.2.2.2.2.2.1 h.2.2.2.2.2.2
theorem x08 {P Q R S T U V W : Prop} {X : Prop} (h : P ∧ Q ∧ R ∧ S ∧ T ∧ U ∧ V ∧ W) (f : P → Q → R → S → T → U → V → W → X) : X := f  h.1 h.2.1 h.2.2.1 h.2.2.2.1 h.2.2.2.2.1 h.2.2.2.2.2.1 h.2.2.2.2.2.2.1 h.2.2.2.2.2.2.2
theorem x11 {α : Sort _} {P : α → Prop} {X : Prop} (h : ∃ a, P a) (f : ∀ a, P a → X) : X := h.elim fun a h => f a h
theorem x12 {α : Sort _} {P Q : α → Prop} {X : Prop} (h : ∃ a, P a ∧ Q a) (f : ∀ a, P a → Q a → X) : X := h.elim fun a h => f a h.1 h.2
theorem x13 {α : Sort _} {P Q R : α → Prop} {X : Prop} (h : ∃ a, P a ∧ Q a ∧ R a) (f : ∀ a, P a → Q a → R a → X) : X := h.elim fun a h => f a h.1 h.2.1 h.2.2
theorem x14 {α : Sort _} {P Q R S : α → Prop} {X : Prop} (h : ∃ a, P a ∧ Q a ∧ R a ∧ S a) (f : ∀ a, P a → Q a → R a → S a → X) : X := h.elim fun a h => f a h.1 h.2.1 h.2.2.1 h.2.2.2
theorem x15 {α : Sort _} {P Q R S T : α → Prop} {X : Prop} (h : ∃ a, P a ∧ Q a ∧ R a ∧ S a ∧ T a) (f : ∀ a, P a → Q a → R a → S a → T a → X) : X := h.elim fun a h => f a h.1 h.2.1 h.2.2.1 h.2.2.2.1 h.2.2.2.2
theorem x16 {α : Sort _} {P Q R S T U : α → Prop} {X : Prop} (h : ∃ a, P a ∧ Q a ∧ R a ∧ S a ∧ T a ∧ U a) (f : ∀ a, P a → Q a → R a → S a → T a → U a → X) : X := h.elim fun a h => f a h.1 h.2.1 h.2.2.1 h.2.2.2.1 h.2.2.2.2.1 h.2.2.2.2.2
theorem x21 {α β : Sort _} {P : α → β → Prop} {X : Prop} (h : ∃ a b, P a b) (f : ∀ a b, P a b → X) : X := h.elim fun a h => h.elim fun b h => f a b h
theorem x22 {α β : Sort _} {P Q : α → β → Prop} {X : Prop} (h : ∃ a b, P a b ∧ Q a b) (f : ∀ a b, P a b → Q a b → X) : X := h.elim fun a h => h.elim fun b h => f a b h.1 h.2
theorem x23 {α β : Sort _} {P Q R : α → β → Prop} {X : Prop} (h : ∃ a b, P a b ∧ Q a b ∧ R a b) (f : ∀ a b, P a b → Q a b → R a b → X) : X := h.elim fun a h => h.elim fun b h => f a b h.1 h.2.1 h.2.2
theorem x24 {α β : Sort _} {P Q R S : α → β → Prop} {X : Prop} (h : ∃ a b, P a b ∧ Q a b ∧ R a b ∧ S a b) (f : ∀ a b, P a b → Q a b → R a b → S a b → X) : X := h.elim fun a h => h.elim fun b h => f a b h.1 h.2.1 h.2.2.1 h.2.2.2
theorem x25 {α β : Sort _} {P Q R S T : α → β → Prop} {X : Prop} (h : ∃ a b, P a b ∧ Q a b ∧ R a b ∧ S a b ∧ T a b) (f : ∀ a b, P a b → Q a b → R a b → S a b → T a b → X) : X := h.elim fun a h => h.elim fun b h => f a b h.1 h.2.1 h.2.2.1 h.2.2.2.1 h.2.2.2.2
theorem x26 {α β : Sort _} {P Q R S T U : α → β → Prop} {X : Prop} (h : ∃ a b, P a b ∧ Q a b ∧ R a b ∧ S a b ∧ T a b ∧ U a b) (f : ∀ a b, P a b → Q a b → R a b → S a b → T a b → U a b → X) : X := h.elim fun a h => h.elim fun b h => f a b h.1 h.2.1 h.2.2.1 h.2.2.2.1 h.2.2.2.2.1 h.2.2.2.2.2
theorem x31 {α β γ : Sort _} {P : α → β → γ → Prop} {X : Prop} (h : ∃ a b c, P a b c) (f : ∀ a b c, P a b c → X) : X := h.elim fun a h => h.elim fun b h => h.elim fun c h => f a b c h
theorem x32 {α β γ : Sort _} {P Q : α → β → γ → Prop} {X : Prop} (h : ∃ a b c, P a b c ∧ Q a b c) (f : ∀ a b c, P a b c → Q a b c → X) : X := h.elim fun a h => h.elim fun b h => h.elim fun c h => f a b c h.1 h.2
theorem x33 {α β γ : Sort _} {P Q R : α → β → γ → Prop} {X : Prop} (h : ∃ a b c, P a b c ∧ Q a b c ∧ R a b c) (f : ∀ a b c, P a b c → Q a b c → R a b c → X) : X := h.elim fun a h => h.elim fun b h => h.elim fun c h => f a b c h.1 h.2.1 h.2.2
theorem x34 {α β γ : Sort _} {P Q R S : α → β → γ → Prop} {X : Prop} (h : ∃ a b c, P a b c ∧ Q a b c ∧ R a b c ∧ S a b c) (f : ∀ a b c, P a b c → Q a b c → R a b c → S a b c → X) : X := h.elim fun a h => h.elim fun b h => h.elim fun c h => f a b c h.1 h.2.1 h.2.2.1 h.2.2.2
theorem x35 {α β γ : Sort _} {P Q R S T : α → β → γ → Prop} {X : Prop} (h : ∃ a b c, P a b c ∧ Q a b c ∧ R a b c ∧ S a b c ∧ T a b c) (f : ∀ a b c, P a b c → Q a b c → R a b c → S a b c → T a b c → X) : X := h.elim fun a h => h.elim fun b h => h.elim fun c h => f a b c h.1 h.2.1 h.2.2.1 h.2.2.2.1 h.2.2.2.2
theorem x36 {α β γ : Sort _} {P Q R S T U : α → β → γ → Prop} {X : Prop} (h : ∃ a b c, P a b c ∧ Q a b c ∧ R a b c ∧ S a b c ∧ T a b c ∧ U a b c) (f : ∀ a b c, P a b c → Q a b c → R a b c → S a b c → T a b c → U a b c → X) : X := h.elim fun a h => h.elim fun b h => h.elim fun c h => f a b c h.1 h.2.1 h.2.2.1 h.2.2.2.1 h.2.2.2.2.1 h.2.2.2.2.2
theorem x37 {α β γ : Sort _} {P Q R S T U V : α → β → γ → Prop} {X : Prop} (h : ∃ a b c, P a b c ∧ Q a b c ∧ R a b c ∧ S a b c ∧ T a b c ∧ U a b c ∧ V a b c) (f : ∀ a b c, P a b c → Q a b c → R a b c → S a b c → T a b c → U a b c → V a b c → X) : X := h.elim fun a h => h.elim fun b h => h.elim fun c h => f a b c h.1 h.2.1 h.2.2.1 h.2.2.2.1 h.2.2.2.2.1 h.2.2.2.2.2.1 h.2.2.2.2.2.2
theorem x38 {α β γ : Sort _} {P Q R S T U V W : α → β → γ → Prop} {X : Prop} (h : ∃ a b c, P a b c ∧ Q a b c ∧ R a b c ∧ S a b c ∧ T a b c ∧ U a b c ∧ V a b c ∧ W a b c) (f : ∀ a b c, P a b c → Q a b c → R a b c → S a b c → T a b c → U a b c → V a b c → W a b c → X) : X := h.elim fun a h => h.elim fun b h => h.elim fun c h => f a b c h.1 h.2.1 h.2.2.1 h.2.2.2.1 h.2.2.2.2.1 h.2.2.2.2.2.1 h.2.2.2.2.2.2.1 h.2.2.2.2.2.2.2
theorem x42 {α β γ δ : Sort _} {P Q : α → β → γ → δ → Prop} {X : Prop} (h : ∃ a b c d, P a b c d ∧ Q a b c d) (f : ∀ a b c d, P a b c d → Q a b c d → X) : X := h.elim fun a h => h.elim fun b h => h.elim fun c h => h.elim fun d h => f a b c d h.1 h.2
theorem x46 {α β γ δ : Sort _} {P Q R S T U : α → β → γ → δ → Prop} {X : Prop} (h : ∃ a b c d, P a b c d ∧ Q a b c d ∧ R a b c d ∧ S a b c d ∧ T a b c d ∧ U a b c d) (f : ∀ a b c d, P a b c d → Q a b c d → R a b c d → S a b c d → T a b c d → U a b c d → X) : X := h.elim fun a h => h.elim fun b h => h.elim fun c h => h.elim fun d h => f a b c d h.1 h.2.1 h.2.2.1 h.2.2.2.1 h.2.2.2.2.1 h.2.2.2.2.2
theorem x47 {α β γ δ : Sort _} {P Q R S T U V : α → β → γ → δ → Prop} {X : Prop} (h : ∃ a b c d, P a b c d ∧ Q a b c d ∧ R a b c d ∧ S a b c d ∧ T a b c d ∧ U a b c d ∧ V a b c d) (f : ∀ a b c d, P a b c d → Q a b c d → R a b c d → S a b c d → T a b c d → U a b c d → V a b c d → X) : X := h.elim fun a h => h.elim fun b h => h.elim fun c h => h.elim fun d h => f a b c d h.1 h.2.1 h.2.2.1 h.2.2.2.1 h.2.2.2.2.1 h.2.2.2.2.2.1 h.2.2.2.2.2.2
theorem x51 {α β γ δ ε : Sort _} {P : α → β → γ → δ → ε → Prop} {X : Prop} (h : ∃ a b c d e, P a b c d e) (f : ∀ a b c d e, P a b c d e → X) : X := h.elim fun a h => h.elim fun b h => h.elim fun c h => h.elim fun d h => h.elim fun e h => f a b c d e h
theorem x54 {α β γ δ ε : Sort _} {P Q R S : α → β → γ → δ → ε → Prop} {X : Prop} (h : ∃ a b c d e, P a b c d e ∧ Q a b c d e ∧ R a b c d e ∧ S a b c d e) (f : ∀ a b c d e, P a b c d e → Q a b c d e → R a b c d e → S a b c d e → X) : X := h.elim fun a h => h.elim fun b h => h.elim fun c h => h.elim fun d h => h.elim fun e h => f a b c d e h.1 h.2.1 h.2.2.1 h.2.2.2
theorem x57 {α β γ δ ε : Sort _} {P Q R S T U V : α → β → γ → δ → ε → Prop} {X : Prop} (h : ∃ a b c d e, P a b c d e ∧ Q a b c d e ∧ R a b c d e ∧ S a b c d e ∧ T a b c d e ∧ U a b c d e ∧ V a b c d e) (f : ∀ a b c d e, P a b c d e → Q a b c d e → R a b c d e → S a b c d e → T a b c d e → U a b c d e → V a b c d e → X) : X := h.elim fun a h => h.elim fun b h => h.elim fun c h => h.elim fun d h => h.elim fun e h => f a b c d e h.1 h.2.1 h.2.2.1 h.2.2.2.1 h.2.2.2.2.1 h.2.2.2.2.2.1 h.2.2.2.2.2.2
theorem x58 {α β γ δ ε : Sort _} {P Q R S T U V W : α → β → γ → δ → ε → Prop} {X : Prop} (h : ∃ a b c d e, P a b c d e ∧ Q a b c d e ∧ R a b c d e ∧ S a b c d e ∧ T a b c d e ∧ U a b c d e ∧ V a b c d e ∧ W a b c d e) (f : ∀ a b c d e, P a b c d e → Q a b c d e → R a b c d e → S a b c d e → T a b c d e → U a b c d e → V a b c d e → W a b c d e → X) : X := h.elim fun a h => h.elim fun b h => h.elim fun c h => h.elim fun d h => h.elim fun e h => f a b c d e h.1 h.2.1 h.2.2.1 h.2.2.2.1 h.2.2.2.2.1 h.2.2.2.2.2.1 h.2.2.2.2.2.2.1 h.2.2.2.2.2.2.2
--x combos end
--i combos begin
theorem i03 {P Q R : Prop} (h0 : P) (h1 : Q) (h2 : R) : P ∧ Q ∧ R := ⟨h0, h1, h2⟩
theorem i04 {P Q R S : Prop} (h0 : P) (h1 : Q) (h2 : R) (h3 : S) : P ∧ Q ∧ R ∧ S := ⟨h0, h1, h2, h3⟩
theorem i05 {P Q R S T : Prop} (h0 : P) (h1 : Q) (h2 : R) (h3 : S) (h4 : T) : P ∧ Q ∧ R ∧ S ∧ T := ⟨h0, h1, h2, h3, h4⟩
theorem i06 {P Q R S T U : Prop} (h0 : P) (h1 : Q) (h2 : R) (h3 : S) (h4 : T) (h5 : U) : P ∧ Q ∧ R ∧ S ∧ T ∧ U := ⟨h0, h1, h2, h3, h4, h5⟩
theorem i07 {P Q R S T U V : Prop} (h0 : P) (h1 : Q) (h2 : R) (h3 : S) (h4 : T) (h5 : U) (h6 : V) : P ∧ Q ∧ R ∧ S ∧ T ∧ U ∧ V := ⟨h0, h1, h2, h3, h4, h5, h6⟩
theorem i12 {α : Sort _} {P Q : α → Prop} (a : α) (h0 : P a) (h1 : Q a) : ∃ a, P a ∧ Q a := ⟨a, h0, h1⟩
theorem i13 {α : Sort _} {P Q R : α → Prop} (a : α) (h0 : P a) (h1 : Q a) (h2 : R a) : ∃ a, P a ∧ Q a ∧ R a := ⟨a, h0, h1, h2⟩
theorem i14 {α : Sort _} {P Q R S : α → Prop} (a : α) (h0 : P a) (h1 : Q a) (h2 : R a) (h3 : S a) : ∃ a, P a ∧ Q a ∧ R a ∧ S a := ⟨a, h0, h1, h2, h3⟩
theorem i16 {α : Sort _} {P Q R S T U : α → Prop} (a : α) (h0 : P a) (h1 : Q a) (h2 : R a) (h3 : S a) (h4 : T a) (h5 : U a) : ∃ a, P a ∧ Q a ∧ R a ∧ S a ∧ T a ∧ U a := ⟨a, h0, h1, h2, h3, h4, h5⟩
theorem i21 {α β : Sort _} {P : α → β → Prop} (a : α) (b : β) (h0 : P a b) : ∃ a b, P a b := ⟨a, b, h0⟩
theorem i22 {α β : Sort _} {P Q : α → β → Prop} (a : α) (b : β) (h0 : P a b) (h1 : Q a b) : ∃ a b, P a b ∧ Q a b := ⟨a, b, h0, h1⟩
theorem i23 {α β : Sort _} {P Q R : α → β → Prop} (a : α) (b : β) (h0 : P a b) (h1 : Q a b) (h2 : R a b) : ∃ a b, P a b ∧ Q a b ∧ R a b := ⟨a, b, h0, h1, h2⟩
theorem i24 {α β : Sort _} {P Q R S : α → β → Prop} (a : α) (b : β) (h0 : P a b) (h1 : Q a b) (h2 : R a b) (h3 : S a b) : ∃ a b, P a b ∧ Q a b ∧ R a b ∧ S a b := ⟨a, b, h0, h1, h2, h3⟩
theorem i25 {α β : Sort _} {P Q R S T : α → β → Prop} (a : α) (b : β) (h0 : P a b) (h1 : Q a b) (h2 : R a b) (h3 : S a b) (h4 : T a b) : ∃ a b, P a b ∧ Q a b ∧ R a b ∧ S a b ∧ T a b := ⟨a, b, h0, h1, h2, h3, h4⟩
theorem i26 {α β : Sort _} {P Q R S T U : α → β → Prop} (a : α) (b : β) (h0 : P a b) (h1 : Q a b) (h2 : R a b) (h3 : S a b) (h4 : T a b) (h5 : U a b) : ∃ a b, P a b ∧ Q a b ∧ R a b ∧ S a b ∧ T a b ∧ U a b := ⟨a, b, h0, h1, h2, h3, h4, h5⟩
theorem i31 {α β γ : Sort _} {P : α → β → γ → Prop} (a : α) (b : β) (c : γ) (h0 : P a b c) : ∃ a b c, P a b c := ⟨a, b, c, h0⟩
theorem i32 {α β γ : Sort _} {P Q : α → β → γ → Prop} (a : α) (b : β) (c : γ) (h0 : P a b c) (h1 : Q a b c) : ∃ a b c, P a b c ∧ Q a b c := ⟨a, b, c, h0, h1⟩
theorem i33 {α β γ : Sort _} {P Q R : α → β → γ → Prop} (a : α) (b : β) (c : γ) (h0 : P a b c) (h1 : Q a b c) (h2 : R a b c) : ∃ a b c, P a b c ∧ Q a b c ∧ R a b c := ⟨a, b, c, h0, h1, h2⟩
theorem i34 {α β γ : Sort _} {P Q R S : α → β → γ → Prop} (a : α) (b : β) (c : γ) (h0 : P a b c) (h1 : Q a b c) (h2 : R a b c) (h3 : S a b c) : ∃ a b c, P a b c ∧ Q a b c ∧ R a b c ∧ S a b c := ⟨a, b, c, h0, h1, h2, h3⟩
theorem i35 {α β γ : Sort _} {P Q R S T : α → β → γ → Prop} (a : α) (b : β) (c : γ) (h0 : P a b c) (h1 : Q a b c) (h2 : R a b c) (h3 : S a b c) (h4 : T a b c) : ∃ a b c, P a b c ∧ Q a b c ∧ R a b c ∧ S a b c ∧ T a b c := ⟨a, b, c, h0, h1, h2, h3, h4⟩
theorem i36 {α β γ : Sort _} {P Q R S T U : α → β → γ → Prop} (a : α) (b : β) (c : γ) (h0 : P a b c) (h1 : Q a b c) (h2 : R a b c) (h3 : S a b c) (h4 : T a b c) (h5 : U a b c) : ∃ a b c, P a b c ∧ Q a b c ∧ R a b c ∧ S a b c ∧ T a b c ∧ U a b c := ⟨a, b, c, h0, h1, h2, h3, h4, h5⟩
theorem i37 {α β γ : Sort _} {P Q R S T U V : α → β → γ → Prop} (a : α) (b : β) (c : γ) (h0 : P a b c) (h1 : Q a b c) (h2 : R a b c) (h3 : S a b c) (h4 : T a b c) (h5 : U a b c) (h6 : V a b c) : ∃ a b c, P a b c ∧ Q a b c ∧ R a b c ∧ S a b c ∧ T a b c ∧ U a b c ∧ V a b c := ⟨a, b, c, h0, h1, h2, h3, h4, h5, h6⟩
theorem i38 {α β γ : Sort _} {P Q R S T U V W : α → β → γ → Prop} (a : α) (b : β) (c : γ) (h0 : P a b c) (h1 : Q a b c) (h2 : R a b c) (h3 : S a b c) (h4 : T a b c) (h5 : U a b c) (h6 : V a b c) (h7 : W a b c) : ∃ a b c, P a b c ∧ Q a b c ∧ R a b c ∧ S a b c ∧ T a b c ∧ U a b c ∧ V a b c ∧ W a b c := ⟨a, b, c, h0, h1, h2, h3, h4, h5, h6, h7⟩
theorem i41 {α β γ δ : Sort _} {P : α → β → γ → δ → Prop} (a : α) (b : β) (c : γ) (d : δ) (h0 : P a b c d) : ∃ a b c d, P a b c d := ⟨a, b, c, d, h0⟩
theorem i42 {α β γ δ : Sort _} {P Q : α → β → γ → δ → Prop} (a : α) (b : β) (c : γ) (d : δ) (h0 : P a b c d) (h1 : Q a b c d) : ∃ a b c d, P a b c d ∧ Q a b c d := ⟨a, b, c, d, h0, h1⟩
theorem i46 {α β γ δ : Sort _} {P Q R S T U : α → β → γ → δ → Prop} (a : α) (b : β) (c : γ) (d : δ) (h0 : P a b c d) (h1 : Q a b c d) (h2 : R a b c d) (h3 : S a b c d) (h4 : T a b c d) (h5 : U a b c d) : ∃ a b c d, P a b c d ∧ Q a b c d ∧ R a b c d ∧ S a b c d ∧ T a b c d ∧ U a b c d := ⟨a, b, c, d, h0, h1, h2, h3, h4, h5⟩
theorem i47 {α β γ δ : Sort _} {P Q R S T U V : α → β → γ → δ → Prop} (a : α) (b : β) (c : γ) (d : δ) (h0 : P a b c d) (h1 : Q a b c d) (h2 : R a b c d) (h3 : S a b c d) (h4 : T a b c d) (h5 : U a b c d) (h6 : V a b c d) : ∃ a b c d, P a b c d ∧ Q a b c d ∧ R a b c d ∧ S a b c d ∧ T a b c d ∧ U a b c d ∧ V a b c d := ⟨a, b, c, d, h0, h1, h2, h3, h4, h5, h6⟩
theorem i51 {α β γ δ ε : Sort _} {P : α → β → γ → δ → ε → Prop} (a : α) (b : β) (c : γ) (d : δ) (e : ε) (h0 : P a b c d e) : ∃ a b c d e, P a b c d e := ⟨a, b, c, d, e, h0⟩
theorem i57 {α β γ δ ε : Sort _} {P Q R S T U V : α → β → γ → δ → ε → Prop} (a : α) (b : β) (c : γ) (d : δ) (e : ε) (h0 : P a b c d e) (h1 : Q a b c d e) (h2 : R a b c d e) (h3 : S a b c d e) (h4 : T a b c d e) (h5 : U a b c d e) (h6 : V a b c d e) : ∃ a b c d e, P a b c d e ∧ Q a b c d e ∧ R a b c d e ∧ S a b c d e ∧ T a b c d e ∧ U a b c d e ∧ V a b c d e := ⟨a, b, c, d, e, h0, h1, h2, h3, h4, h5, h6⟩
theorem i58 {α β γ δ ε : Sort _} {P Q R S T U V W : α → β → γ → δ → ε → Prop} (a : α) (b : β) (c : γ) (d : δ) (e : ε) (h0 : P a b c d e) (h1 : Q a b c d e) (h2 : R a b c d e) (h3 : S a b c d e) (h4 : T a b c d e) (h5 : U a b c d e) (h6 : V a b c d e) (h7 : W a b c d e) : ∃ a b c d e, P a b c d e ∧ Q a b c d e ∧ R a b c d e ∧ S a b c d e ∧ T a b c d e ∧ U a b c d e ∧ V a b c d e ∧ W a b c d e := ⟨a, b, c, d, e, h0, h1, h2, h3, h4, h5, h6, h7⟩
--i combos end
--ar begin
theorem mbl {a c b k : Nat} (h : c ≤ k) : min a (c - b) ≤ k := Nat.le_trans (Nat.min_le_right _ _) (Nat.le_trans (Nat.sub_le _ _) h)
theorem t_sub (a b : Nat) : ((a : Int) - (b : Int)).toNat = a - b := Int.toNat_sub a b
theorem t_pred (a : Nat) : ((a : Int) - 1).toNat = a - 1 := Int.toNat_sub a 1
theorem tmx (x : Int) : (max 0 x).toNat = x.toNat := match x with
  | .ofNat n => congrArg Int.toNat (Int.max_eq_right (Int.natCast_nonneg n))
  | .negSucc n => (congrArg Int.toNat (Int.max_eq_left (Int.le_of_lt (Int.negSucc_lt_zero n)))).trans rfl
theorem t_max (a b : Nat) : (max 0 ((a : Int) - (b : Int))).toNat = a - b := (tmx _).trans (t_sub a b)
theorem nmin (a b : Nat) : min (a : Int) (b : Int) = ((min a b : Nat) : Int) := (Nat.le_total a b).elim (fun h => (Int.min_eq_left (Int.ofNat_le.mpr h)).trans (congrArg _ (Nat.min_eq_left h).symm)) fun h => (Int.min_eq_right (Int.ofNat_le.mpr h)).trans (congrArg _ (Nat.min_eq_right h).symm)
theorem nmax (a b : Nat) : max (a : Int) (b : Int) = ((max a b : Nat) : Int) := (Nat.le_total a b).elim (fun h => (Int.max_eq_right (Int.ofNat_le.mpr h)).trans (congrArg _ (Nat.max_eq_right h).symm)) fun h => (Int.max_eq_left (Int.ofNat_le.mpr h)).trans (congrArg _ (Nat.max_eq_left h).symm)
theorem t9_max (a b : Nat) : (max (a : Int) (b : Int)).toNat = max a b := congrArg Int.toNat (nmax a b)
theorem cutn (p n : Nat) : min p n + (n - p) = n := (Nat.le_total p n).elim (fun h => by rw [Nat.min_eq_left h, Nat.add_sub_cancel' h]) fun h => by rw [Nat.min_eq_right h, Nat.sub_eq_zero_of_le h, Nat.add_zero]
theorem ar_del {s e L : Nat} (h1 : 1 ≤ s) (h2 : s ≤ e) (h3 : e ≤ L + 1) : ((min (s - 1) L : Nat) : Int) + ((L - (e - 1) : Nat) : Int) + 1 = L + 1 - (e - s) := by
  have h4 : e - 1 ≤ L := Nat.sub_le_of_le_add h3
  have h5 : s - 1 ≤ L := Nat.le_trans (Nat.sub_le_sub_right h2 1) h4
  rw [Nat.min_eq_left h5, Int.ofNat_sub h4, Int.ofNat_sub h1, Int.ofNat_sub (Nat.le_trans h1 h2)]
  lia
theorem t_sub2 (l f x : Nat) : ((l : Int) - f - x).toNat = l - f - x := by rw [Int.sub_sub, ← Int.natCast_add, Int.toNat_sub, Nat.sub_sub]
theorem lt_dec {a b : Nat} (h : decide ((a : Int) < b) = true) : a < b := Int.ofNat_lt.mp (of_decide_eq_true h)
theorem nlt_dec {a b : Nat} (h : decide ((a : Int) < b) = false) : b ≤ a := Int.ofNat_le.mp (Int.not_lt.mp (of_decide_eq_false h))
theorem nle_dec {a b : Nat} (h : decide ((a : Int) ≤ b) = false) : b < a := Int.ofNat_lt.mp (Int.not_le.mp (of_decide_eq_false h))
theorem nge_dec {a b : Nat} (h : decide ((a : Int) ≥ b) = false) : a < b := Int.ofNat_lt.mp (Int.not_le.mp (of_decide_eq_false h))
theorem ph {now col n : Nat} (h : ¬ col ≤ now) : min (col - (now + 1)) n + 1 = min (col - now) (n + 1) := by
  rw [← Nat.add_min_add_right, show col - (now + 1) + 1 = col - now from Nat.sub_add_cancel (Nat.sub_pos_of_lt (Nat.lt_of_not_le h))]
theorem ph0 {now col n : Nat} (h : col ≤ now) : 0 = min (col - now) (n + 1) := by rw [Nat.sub_eq_zero_of_le h, Nat.zero_min]
theorem ar_op {P L c d : Nat} (h0 : P ≤ L) (h : c ≤ d + 4) : min (P - 1) L + (c - d) + (L - P) ≤ L + 4 :=
  Nat.le_trans (Nat.add_le_add_right (Nat.add_le_add (Nat.le_trans (Nat.min_le_left _ _) (Nat.sub_le _ _)) (Nat.sub_le_of_le_add ((Nat.add_comm _ _).subst (motive := fun x => c ≤ x) h))) _) (Nat.le_of_eq (by rw [Nat.add_right_comm, Nat.add_sub_cancel' h0]))
theorem t_4 (a : Nat) : ((4 : Int) - (a : Int) % 4).toNat = 4 - a % 4 := Int.toNat_sub 4 (a % 4)
theorem c_pred {s : Nat} (h : 1 ≤ s) : ((s : Int) - 1) = ((s - 1 : Nat) : Int) := (Int.ofNat_sub h).symm
theorem p_lt {a n : Nat} (h : 1 ≤ a) (h' : a ≤ n) : a - 1 < n := Nat.sub_one_lt_of_le h h'
theorem p_lt' {a n : Nat} (h : 1 ≤ a) (h' : a < n + 1) : a - 1 < n := Nat.sub_one_lt_of_le h (Nat.le_of_lt_succ h')
theorem np_sub (p l : Nat) : p - (l + 1) = p - 1 - l := by rw [Nat.add_comm, Nat.sub_add_eq]
theorem cp_sub {p l : Nat} (h1 : 1 ≤ p) (h : l ≤ p - 1) : ((p : Int) - ((l + 1 : Nat) : Int)) = ((p - 1 - l : Nat) : Int) :=
  (Int.ofNat_sub (Nat.add_le_of_le_sub h1 h)).symm.trans (congrArg _ (np_sub p l))
theorem len_mid {α : Type} (A C B : List α) : (((A ++ C ++ B).length : Nat) : Int) = ((A ++ B).length : Nat) + (C.length : Int) := by
  rw [List.length_append, List.length_append, List.length_append, Int.natCast_add, Int.natCast_add, Int.natCast_add, Int.add_right_comm]
theorem len_put {α : Type} (txt C : List α) (p : Nat) : (((txt.take p ++ C ++ txt.drop p).length : Nat) : Int) + 1 = txt.length + 1 + C.length := by
  rw [len_mid, List.take_append_drop, Int.add_right_comm]
theorem len_del {α : Type} {txt : List α} {s e : Nat} (h1 : 1 ≤ s) (h2 : s ≤ e) (h3 : e ≤ txt.length + 1) : (((txt.take (s - 1) ++ txt.drop (e - 1)).length : Nat) : Int) + 1 = txt.length + 1 - (e - s) := by
  rw [List.length_append, List.length_take, List.length_drop, Int.natCast_add]; exact ar_del h1 h2 h3
theorem len_rep {α : Type} {txt : List α} {s e : Nat} (C : List α) (h1 : 1 ≤ s) (h2 : s ≤ e) (h3 : e ≤ txt.length + 1) : (((txt.take (s - 1) ++ C ++ txt.drop (e - 1)).length : Nat) : Int) + 1 = txt.length + 1 - (e - s) + C.length := by
  rw [len_mid, Int.add_right_comm, len_del h1 h2 h3]
theorem ar_g {a q r : Nat} (h : 4 * q + r = a) : 4 - r = (q + 1) * 4 - a := by subst h; rw [Nat.add_mul, Nat.mul_comm q, Nat.one_mul, Nat.add_sub_add_left]
theorem ar_le {s n L x : Nat} (h1 : 1 ≤ s) (h : s ≤ n) (h3 : n ≤ L + 1) : s ≤ min (s - 1) L + x + 1 := by
  rw [Nat.min_eq_left (Nat.sub_le_of_le_add (Nat.le_trans h h3))]
  exact Nat.le_trans (Nat.le_of_eq (Nat.sub_add_cancel h1).symm) (Nat.add_le_add_right (Nat.le_add_right _ _) 1)
--ar end
theorem hold {P : Prop} (h : ∀ X : Prop, (P → X) → X) : P := h P id

/-! abstract values, objects, locals -/
inductive MV where
  | none | bool (b : Bool) | int (i : Int) | str (s : Str) | ref (k : Nat) | script | edict (k : Nat)
inductive MO where
  | list (its : List MV)
  | tuple (its : List MV)
  | inst (C : Addr) (d : Nat)
  | ns (fs : List (Str × MV))
noncomputable abbrev Loc := List (Str × Option MV)
noncomputable abbrev Led := List (Addr × Obj)
set_option genInjectivity false in
structure Cx where
  prog : Program
  w : World
  K : Frag
  p : Program
  loose : List Str
  mean : ExcName → Option Value
  mg : Str → Option Value
  mb : Str → Option Value
  sl : Addr
  ns : List Int
  q : Bool

inductive All2 {α β : Type} (R : α → β → Prop) : List α → List β → Prop
  | nil : All2 R [] []
  | cons {a b as bs} : R a b → All2 R as bs → All2 R (a :: as) (b :: bs)

section All2
variable {α β : Type} {R S : α → β → Prop}
theorem All2.length {as : List α} {bs : List β} (h : All2 R as bs) : as.length = bs.length := by
  induction h with
  | nil => rfl
  | cons _ _ ih => simp [ih]
theorem All2.mono {as : List α} {bs : List β} (h : All2 R as bs) (f : ∀ a b, R a b → S a b) : All2 S as bs := by
  induction h with
  | nil => exact .nil
  | cons h _ ih => exact .cons (f _ _ h) ih
theorem All2.get {as : List α} {bs : List β} (h : All2 R as bs) : ∀ {k : Nat} {a : α}, as[k]? = some a → ∃ b, bs[k]? = some b ∧ R a b := by
  induction h with
  | nil => intro k a h; simp at h
  | cons h _ ih =>
    intro k a e
    cases k with
    | zero => simp at e; subst e; exact ⟨_, rfl, h⟩
    | succ k => simpa using ih (by simpa using e)
theorem All2.set {as : List α} {bs : List β} (h : All2 R as bs) : ∀ {k a b}, R a b → All2 R (as.set k a) (bs.set k b) := by
  induction h with
  | nil => intro k a b _; exact .nil
  | cons h t ih =>
    intro k a b r
    cases k with
    | zero => exact .cons r t
    | succ k => exact .cons h (ih r)
theorem All2.append {as as' : List α} {bs bs' : List β} (h : All2 R as bs) (h' : All2 R as' bs') : All2 R (as ++ as') (bs ++ bs') := by
  induction h with
  | nil => exact h'
  | cons h _ ih => exact .cons h ih
theorem All2.take {as : List α} {bs : List β} (h : All2 R as bs) : ∀ n, All2 R (as.take n) (bs.take n) := by
  induction h with
  | nil => intro n; simp; exact .nil
  | cons h _ ih => intro n; cases n with | zero => exact .nil | succ n => exact .cons h (ih n)
theorem All2.drop {as : List α} {bs : List β} (h : All2 R as bs) : ∀ n, All2 R (as.drop n) (bs.drop n) := by
  induction h with
  | nil => intro n; simp; exact .nil
  | cons h t ih => intro n; cases n with | zero => exact .cons h t | succ n => exact ih n
theorem All2.reverse {as : List α} {bs : List β} (h : All2 R as bs) : All2 R as.reverse bs.reverse := by
  induction h with
  | nil => exact .nil
  | cons h _ ih => simp only [List.reverse_cons]; exact ih.append (.cons h .nil)
theorem All2.replicate {a : α} {b : β} (h : R a b) : ∀ n, All2 R (List.replicate n a) (List.replicate n b)
  | 0 => .nil
  | n + 1 => .cons h (All2.replicate h n)
end All2

section
variable (sl : Addr)
inductive VR (σ : List Addr) : MV → Value → Prop
  | none : VR σ .none .none
  | bool (b : Bool) : VR σ (.bool b) (.bool b)
  | int (i : Int) (t : Tok) : VR σ (.int i) (.int i t)
  | str (s : Str) (t : Tok) : VR σ (.str s) (.str s t)
  | ref {k : Nat} {a : Addr} : σ[k]? = some a → VR σ (.ref k) (.ref a)
  | script : VR σ .script (.ref sl)
  | edict {k : Nat} {a : Addr} : σ[k]? = some a → (a == sysModules) = false → VR σ (.edict k) (.ref a)
noncomputable def FsR (σ : List Addr) (f : Str × MV) (e : DictEntry) : Prop := (∃ t, e.key = .str f.1 t) ∧ VR sl σ f.2 e.val
inductive OR (σ : List Addr) : MO → Obj → Prop
  | list {its vs n} : All2 (VR sl σ) its vs → OR σ (.list its) (W.listOf vs.toArray n)
  | tuple {its vs n} : All2 (VR sl σ) its vs → OR σ (.tuple its) { cls := .type "tuple", data := .seq vs.toArray n }
  | inst {C d dx} : σ[d]? = some dx → OR σ (.inst C d) (instObj C dx)
  | ns {fs es n} : All2 (FsR sl σ) fs es → (fs.map (·.1)).Nodup → OR σ (.ns fs) (dictOf es n)
end

variable {sl : Addr}
theorem get_of_pre {α : Type} {σ σ' : List α} (h : σ <+: σ') {k : Nat} {a : α} (e : σ[k]? = some a) : σ'[k]? = some a := by
  refine x11 h ?_; try clear h; intro t eq1; subst eq1
  rw [List.getElem?_append_left (List.getElem?_eq_some_iff.mp e).1]; exact e
theorem VR.mono {σ σ' : List Addr} (h : σ <+: σ') {v : MV} {a : Value} (r : VR sl σ v a) : VR sl σ' v a := by
  cases r with
  | none => exact .none
  | bool b => exact .bool b
  | int i t => exact .int i t
  | str s t => exact .str s t
  | ref e => exact .ref (get_of_pre h e)
  | script => exact .script
  | edict e h' => exact .edict (get_of_pre h e) h'
theorem FsR.mono {σ σ' : List Addr} (h : σ <+: σ') {v : Str × MV} {a : DictEntry} (r : FsR sl σ v a) : FsR sl σ' v a := ⟨r.1, r.2.mono h⟩
theorem OR.mono {σ σ' : List Addr} (h : σ <+: σ') {m : MO} {o : Obj} (r : OR sl σ m o) : OR sl σ' m o := by
  cases r with
  | list r => exact .list (r.mono fun _ _ => VR.mono h)
  | tuple r => exact .tuple (r.mono fun _ _ => VR.mono h)
  | inst e => exact .inst (get_of_pre h e)
  | ns r n => exact .ns (r.mono fun _ _ => FsR.mono h) n
theorem OR.notFreed {σ : List Addr} {m : MO} {o : Obj} (r : OR sl σ m o) : o.isFreed = false := by cases r <;> rfl

section
variable {σ : List Addr} {o : Obj} {P : Obj → Prop}
theorem OR.listE {its : List MV} (h : OR sl σ (.list its) o) (f : ∀ vs n, All2 (VR sl σ) its vs → P (W.listOf vs.toArray n)) : P o := match o, h with | _, .list a => f _ _ a
theorem OR.tupleE {its : List MV} (h : OR sl σ (.tuple its) o) (f : ∀ vs n, All2 (VR sl σ) its vs → P { cls := .type "tuple", data := .seq vs.toArray n }) : P o := match o, h with | _, .tuple a => f _ _ a
theorem OR.instE {C : Addr} {d : Nat} (h : OR sl σ (.inst C d) o) (f : ∀ dx, σ[d]? = some dx → P (instObj C dx)) : P o := match o, h with | _, .inst e => f _ e
theorem OR.nsE {fs : List (Str × MV)} (h : OR sl σ (.ns fs) o) (f : ∀ es n, All2 (FsR sl σ) fs es → (fs.map (·.1)).Nodup → P (dictOf es n)) : P o := match o, h with | _, .ns a b => f _ _ a b
end
theorem same_at {α : Type} {o : Option α} {x y : α} {P : α → Prop} (hx : o = some x) (hy : o = some y) (f : P x) : P y := Option.some.inj (hx.symm.trans hy) ▸ f

/-! the heap's relation -/
structure HR (sl : Addr) (h₀ : Heap) (L : Addr) (h : Heap) (X : Led) (σ : List Addr) (H : List MO) (os : List Obj) : Prop where
  news : News h₀ L h (X ++ σ.zip os)
  objs : All2 (OR sl σ) H os
  len : os.length = σ.length
  nd : (X.map (·.1) ++ σ).Nodup

theorem zip_set {α β : Type} : ∀ {σ : List α} {os : List β} {k : Nat} {a : α} {o : β}, σ[k]? = some a → σ.zip (os.set k o) = (σ.zip os).set k (a, o)
  | [], _, _, _, _, e => by simp at e
  | x :: σ, [], k, a, o, e => by simp
  | x :: σ, y :: os, 0, a, o, e => by simp at e; subst e; simp
  | x :: σ, y :: os, k + 1, a, o, e => by simp at e; simp [zip_set e]
theorem zip_get {α β : Type} {σ : List α} {os : List β} {k : Nat} {a : α} {o : β} (h1 : σ[k]? = some a) (h2 : os[k]? = some o) : (σ.zip os)[k]? = some (a, o) := by
  rw [List.getElem?_zip_eq_some]; exact ⟨h1, h2⟩
theorem upd_split {d : Addr} {o o' : Obj} : ∀ {pre post : Led}, (∀ p ∈ pre, p.1 ≠ d) → (∀ p ∈ post, p.1 ≠ d) → Upd d o o' (pre ++ (d, o) :: post) (pre ++ (d, o') :: post)
  | [], _, _, h2 => .head h2
  | p :: pre, _, h1, h2 => .tail (h1 p (.head _)) (upd_split (fun q hq => h1 q (.tail _ hq)) h2)
theorem split_at {α : Type} : ∀ {l : List α} {k : Nat} {a : α}, l[k]? = some a → l = l.take k ++ a :: l.drop (k + 1)
  | [], _, _, e => by simp at e
  | x :: l, 0, a, e => by simp at e; subst e; simp
  | x :: l, k + 1, a, e => by simp at e; have := split_at e; simp; exact this
theorem set_split {α : Type} : ∀ {l : List α} {k : Nat} {a b : α}, l[k]? = some a → l.set k b = l.take k ++ b :: l.drop (k + 1)
  | [], _, _, _, e => by simp at e
  | x :: l, 0, a, b, e => by simp
  | x :: l, k + 1, a, b, e => by simp at e; simpa using set_split (b := b) e
theorem nodup_ne {α : Type} {pre post : List α} {a : α} (h : (pre ++ a :: post).Nodup) : (∀ p ∈ pre, p ≠ a) ∧ ∀ p ∈ post, p ≠ a := by
  rw [List.nodup_append] at h
  refine x03 h ?_; try clear h; intro _ h2 h3
  refine ⟨fun p hp => h3 p hp a (.head _), fun p hp e => ?_⟩
  rw [List.nodup_cons] at h2
  exact h2.1 (e ▸ hp)
theorem map_fst_zip {α β : Type} : ∀ {σ : List α} {os : List β}, os.length = σ.length → (σ.zip os).map (·.1) = σ
  | [], _, _ => by simp
  | _ :: σ, [], e => by simp at e
  | x :: σ, y :: os, e => by simp at e; simp [map_fst_zip e]

theorem HR.upd {h₀ h : Heap} {L : Addr} {X : Led} {σ : List Addr} {H : List MO} {os : List Obj} (R : HR sl h₀ L h X σ H os) {k : Nat} {a : Addr} {o o' : Obj} (ha : σ[k]? = some a) (ho : os[k]? = some o) :
    Upd a o o' (X ++ σ.zip os) (X ++ σ.zip (os.set k o')) := by
  have e := split_at (zip_get ha ho)
  have e' := set_split (b := (a, o')) (zip_get ha ho)
  rw [zip_set ha, e']
  have nd := R.nd
  rw [← map_fst_zip R.len, ← List.map_append] at nd
  conv at nd => rw [e, ← List.append_assoc, List.map_append, List.map_cons]
  have := nodup_ne nd
  conv => arg 4; rw [e]
  rw [← List.append_assoc, ← List.append_assoc]
  exact upd_split (fun p hp => this.1 p.1 (List.mem_map_of_mem hp)) fun p hp => this.2 p.1 (List.mem_map_of_mem hp)
theorem HR.mem {h₀ h : Heap} {L : Addr} {X : Led} {σ : List Addr} {H : List MO} {os : List Obj} (_R : HR sl h₀ L h X σ H os) {k : Nat} {a : Addr} {o : Obj} (ha : σ[k]? = some a) (ho : os[k]? = some o) : (a, o) ∈ X ++ σ.zip os :=
  List.mem_append_right _ (List.mem_of_getElem? (zip_get ha ho))
theorem HR.obj {h₀ h : Heap} {L : Addr} {X : Led} {σ : List Addr} {H : List MO} {os : List Obj} (R : HR sl h₀ L h X σ H os) {k : Nat} {m : MO} (e : H[k]? = some m) :
    ∃ a o, σ[k]? = some a ∧ os[k]? = some o ∧ OR sl σ m o ∧ (a, o) ∈ X ++ σ.zip os := by
  refine x12 (R.objs.get e) fun o ho r => ?_
  have hk : k < σ.length := by rw [← R.len]; exact (List.getElem?_eq_some_iff.mp ho).1
  exact ⟨σ[k], o, by simp [hk], ho, r, R.mem (by simp [hk]) ho⟩
theorem HR.obj' {h₀ h : Heap} {L : Addr} {X : Led} {σ : List Addr} {H : List MO} {os : List Obj} (R : HR sl h₀ L h X σ H os) {k : Nat} {m : MO} {Y : Prop} (e : H[k]? = some m)
    (f : ∀ a o, σ[k]? = some a → os[k]? = some o → OR sl σ m o → (a, o) ∈ X ++ σ.zip os → Y) : Y :=
  (R.obj e).elim fun a h => h.elim fun o h => f a o h.1 h.2.1 h.2.2.1 h.2.2.2
theorem HR.hlen {h₀ h : Heap} {L : Addr} {X : Led} {σ : List Addr} {H : List MO} {os : List Obj} (R : HR sl h₀ L h X σ H os) : H.length = σ.length := R.objs.length.trans R.len
/-- an object changed in its place -/
theorem HR.set {h₀ h h' : Heap} {L : Addr} {X : Led} {σ : List Addr} {H : List MO} {os : List Obj} (R : HR sl h₀ L h X σ H os) {k : Nat} {m : MO} {o' : Obj} (N : News h₀ L h' (X ++ σ.zip (os.set k o'))) (r : OR sl σ m o') :
    HR sl h₀ L h' X σ (H.set k m) (os.set k o') := ⟨N, R.objs.set r, by rw [List.length_set]; exact R.len, R.nd⟩
/-- one more object -/
theorem HR.push {h₀ h h' : Heap} {L a : Addr} {X : Led} {σ : List Addr} {H : List MO} {os : List Obj} (R : HR sl h₀ L h X σ H os) {m : MO} {o : Obj} (N : News h₀ L h' ((a, o) :: (X ++ σ.zip os))) (hf : ∀ p ∈ X ++ σ.zip os, p.1 < a) (r : OR sl (σ ++ [a]) m o) :
    HR sl h₀ L h' X (σ ++ [a]) (H ++ [m]) (os ++ [o]) := by
  refine ⟨fun p hp => N p ?_, (R.objs.mono fun _ _ => OR.mono (List.prefix_append _ _)).append (.cons r .nil), by simp [R.len], ?_⟩
  · rw [List.zip_append R.len.symm] at hp
    simp only [List.mem_append, List.mem_cons, List.zip_cons_cons, List.zip_nil_right, List.not_mem_nil, or_false] at hp ⊢
    rcases hp with hp | hp | hp
    · exact .inr (.inl hp)
    · exact .inr (.inr hp)
    · exact .inl hp
  · rw [← List.append_assoc, List.nodup_append]
    refine ⟨R.nd, by simp, fun x hx y hy e => ?_⟩
    rw [List.mem_singleton] at hy
    subst hy; subst e
    have hx' : x ∈ (X ++ σ.zip os).map (·.1) := by rw [List.map_append, map_fst_zip R.len]; exact hx
    refine x12 (List.mem_map.mp hx') fun p hp e => ?_
    have := hf p hp
    rw [e] at this; exact absurd this (Nat.lt_irrefl _)
theorem HR.lt {h₀ h : Heap} {L : Addr} {X : Led} {σ : List Addr} {H : List MO} {os : List Obj} (R : HR sl h₀ L h X σ H os) : ∀ p ∈ X ++ σ.zip os, p.1 < h.objs.size := fun p hp => Heap.lt_size (R.news p hp).1
theorem HR.keeps {h₀ h h' : Heap} {L : Addr} {X : Led} {σ : List Addr} {H : List MO} {os : List Obj} (R : HR sl h₀ L h X σ H os) (hk : ∀ b o, h.get? b = some o → h'.get? b = some o) : HR sl h₀ L h' X σ H os :=
  ⟨fun p hp => ⟨hk _ _ (R.news p hp).1, (R.news p hp).2⟩, R.objs, R.len, R.nd⟩
theorem HR.of_news {h₀ h h' : Heap} {L : Addr} {X : Led} {σ : List Addr} {H : List MO} {os : List Obj} (R : HR sl h₀ L h X σ H os) (N : News h₀ L h' (X ++ σ.zip os)) : HR sl h₀ L h' X σ H os := ⟨N, R.objs, R.len, R.nd⟩
end
section
set_option genInjectivity false in
structure RR where
  A : Around
  env : Env
  fenv : Env
  A₀ : Around
  base : Heap
  outer : List Env
  h₀ : Heap
  L : Addr
  X : Led

noncomputable def VarAt (r : RR) (m : Str → Option Value) (X : Led) (y : Str) (v : Value) : Prop :=
  (r.env.kindOf y = some .local ∧ ((r.env.locals = r.L ∧ m y = some v) ∨ ∃ o es ep, (r.env.locals, o) ∈ X ∧ o.data = .dict es ep ∧ StrKeys es ∧ nsFind es y = some v)) ∨
  (r.env.kindOf y = some .cell ∧ ∃ a o, r.env.cells.lookup y = some a ∧ (a, o) ∈ X ∧ o.data = .cell (some v))

structure Rel (c : Cx) (n : Nat) (sc : Scope) (r : RR) (m : Str → Option Value) (cs : Led) (h : Heap) (σ : List Addr) (os : List Obj) (loc : Loc) (H : List MO) : Prop where
  fr : r.A.frames = some (r.fenv :: r.outer)
  ff : r.fenv.frame = some r.L
  fk : r.fenv.scope.kind = .function
  dep : r.A.depth + 2 * n < recursionLimit
  un : r.A.units + 16 * n + 200 < cLine
  hd : c.q = true → r.A.handled = none
  B : Below r.A₀ r.base r.outer r.h₀
  F : Fr r.h₀ r.L h m
  K : c.K.In r.h₀
  T : Top c.p c.loose c.mean c.mg c.mb r.h₀
  scr : ∃ vs, r.h₀.IsList c.sl vs.toArray ∧ IntsAre vs c.ns
  N : HR c.sl r.h₀ r.L h (cs ++ r.X) σ H os
  es : r.env.scope = sc
  ek : sc.kind = .function
  eg : r.env.globals = mainGlobals
  eb : r.env.builtins = builtinsNs
  vars : ∀ y v, (y, some v) ∈ loc → ∃ v', VR c.sl σ v v' ∧ VarAt r m (cs ++ r.X) y v'
  nd : (loc.map (·.1)).Nodup

section
variable {c : Cx} {n : Nat} {sc : Scope} {r : RR} {m : Str → Option Value} {cs : Led} {h h' : Heap} {σ σ' : List Addr} {os os' : List Obj} {loc : Loc} {H H' : List MO}
theorem Rel.next (R : Rel c n sc r m cs h σ os loc H) (F' : Fr r.h₀ r.L h' m) (N' : HR c.sl r.h₀ r.L h' (cs ++ r.X) σ' H' os') (p : σ <+: σ') : Rel c n sc r m cs h' σ' os' loc H' :=
  { R with F := F', N := N', vars := fun y v hy => let ⟨v', a, b⟩ := R.vars y v hy; ⟨v', a.mono p, b⟩ }
theorem Rel.alloc {a : Addr} {o : Obj} {mo : MO} (R : Rel c n sc r m cs h σ os loc H) (F' : Fr r.h₀ r.L h' m) (N' : News r.h₀ r.L h' ((a, o) :: ((cs ++ r.X) ++ σ.zip os)))
    (hl : ∀ p ∈ (cs ++ r.X) ++ σ.zip os, p.1 < a) (ho : OR c.sl (σ ++ [a]) mo o) : Rel c n sc r m cs h' (σ ++ [a]) (os ++ [o]) loc (H ++ [mo]) :=
  R.next F' (R.N.push N' hl ho) (List.prefix_append _ _)
theorem Rel.set {k : Nat} {o' : Obj} {mo : MO} (R : Rel c n sc r m cs h σ os loc H) (F' : Fr r.h₀ r.L h' m) (N' : News r.h₀ r.L h' ((cs ++ r.X) ++ σ.zip (os.set k o'))) (ho : OR c.sl σ mo o') :
    Rel c n sc r m cs h' σ (os.set k o') loc (H.set k mo) := R.next F' (R.N.set N' ho) (List.prefix_refl _)
theorem Rel.same (R : Rel c n sc r m cs h σ os loc H) (F' : Fr r.h₀ r.L h' m) (N' : News r.h₀ r.L h' ((cs ++ r.X) ++ σ.zip os)) : Rel c n sc r m cs h' σ os loc H :=
  R.next F' (R.N.of_news N') (List.prefix_refl _)
theorem Rel.Kh (R : Rel c n sc r m cs h σ os loc H) : c.K.In h := R.K.keeps R.F.keep
end

/-! the judgements -/
noncomputable abbrev Post (β : Type) := β → List MO → Prop
noncomputable abbrev KOf {α β : Type} (c : Cx) (n : Nat) (sc : Scope) (r : RR) (m : Str → Option Value) (cs : Led) (s : Shared) (σ : List Addr) (loc : Loc) (rel : List Addr → β → α → Prop) (Q : Post β) (Φ : α → Shared → Prop) : Prop :=
  ∀ v H' v' h' tk' σ' os', Q v H' → Rel c n sc r m cs h' σ' os' loc H' → σ <+: σ' → rel σ' v v' → Φ v' { s with heap := h', toks := tk' }
noncomputable def Run {α β : Type} (c : Cx) (n : Nat) (sc : Scope) (t : Env → Sem α) (rel : List Addr → β → α → Prop) (loc : Loc) (H : List MO) (Q : Post β) : Prop :=
  ∀ (r : RR) (m : Str → Option Value) (cs : Led) (s : Shared) (σ : List Addr) (os : List Obj) (Φ : α → Shared → Prop) (E : Value → Shared → Prop),
    Rel c n sc r m cs s.heap σ os loc H →
    KOf c n sc r m cs s σ loc rel Q Φ →
    wpAny (model c.prog c.w) r.A (t r.env) Φ E s
noncomputable def Ev (c : Cx) (n : Nat) (sc : Scope) (e : Expr) (loc : Loc) (H : List MO) (Q : Post MV) : Prop := Run c n sc (eval e) (VR c.sl) loc H Q
noncomputable def Evs (c : Cx) (n : Nat) (sc : Scope) (pos : Pos) (es : List Expr) (loc : Loc) (H : List MO) (Q : Post (List MV)) : Prop := Run c n sc (fun env => spliced (backTo pos (starEach es env))) (fun σ => All2 (VR c.sl σ)) loc H Q
noncomputable def Tst (c : Cx) (n : Nat) (sc : Scope) (e : Expr) (loc : Loc) (H : List MO) (Q : Post Bool) : Prop := Run c n sc (fun env => isTrue e env (eval e env)) (fun _ b b' => b' = b) loc H Q
/-- a tree over values -/
noncomputable def Op {α β : Type} (c : Cx) (n : Nat) (t : List Value → Sem α) (rel : List Addr → β → α → Prop) (vs : List MV) (H : List MO) (Q : Post β) : Prop :=
  ∀ (sc : Scope) (r : RR) (m : Str → Option Value) (cs : Led) (s : Shared) (σ : List Addr) (os : List Obj) (loc : Loc) (as : List Value) (Φ : α → Shared → Prop) (E : Value → Shared → Prop),
    Rel c n sc r m cs s.heap σ os loc H → All2 (VR c.sl σ) vs as →
    KOf c n sc r m cs s σ loc rel Q Φ →
    wpAny (model c.prog c.w) r.A (t as) Φ E s
noncomputable def at0 (as : List Value) : Value := as.headD .none
noncomputable def at1 (as : List Value) : Value := as.tail.headD .none
noncomputable def at2 (as : List Value) : Value := as.tail.tail.headD .none
/-- a call of a value -/
noncomputable def Cl (c : Cx) (n : Nat) (f : Value) (vs : List MV) (H : List MO) (Q : Post MV) : Prop := Op c n (fun as => call f as) (VR c.sl) vs H Q
noncomputable def Bin (c : Cx) (n : Nat) (op : Operator) (a b : MV) (H : List MO) (Q : Post MV) : Prop := Op c n (fun as => binaryOp op (at0 as) (at1 as)) (VR c.sl) [a, b] H Q
noncomputable def Cmp (c : Cx) (n : Nat) (op : CmpOp) (a b : MV) (H : List MO) (Q : Post Bool) : Prop := Op c n (fun as => compareOp op (at0 as) (at1 as)) (fun _ b v => v = .bool b) [a, b] H Q
noncomputable def Tru (c : Cx) (n : Nat) (a : MV) (H : List MO) (Q : Post Bool) : Prop := Op c n (fun as => truthy (at0 as)) (fun _ b v => v = b) [a] H Q
noncomputable def Get (c : Cx) (n : Nat) (name : Str) (a : MV) (H : List MO) (Q : Post MV) : Prop := Op c n (fun as => getAttr (at0 as) name true) (VR c.sl) [a] H Q
noncomputable def Sub (c : Cx) (n : Nat) (value slice : Expr) (a b : MV) (H : List MO) (Q : Post MV) : Prop := Op c n (fun as => subscriptTail value slice (at0 as) (at1 as)) (VR c.sl) [a, b] H Q

/-! what is asked behind a part -/
noncomputable abbrev BinR (c : Cx) (n : Nat) (op : Operator) (a : MV) (Q : Post MV) : Post MV := fun b H => Bin c n op a b H Q
noncomputable abbrev BinL (c : Cx) (n : Nat) (sc : Scope) (op : Operator) (e : Expr) (loc : Loc) (Q : Post MV) : Post MV := fun a H => Ev c n sc e loc H (BinR c n op a Q)
noncomputable abbrev BoolQ (Q : Post MV) : Post Bool := fun v H => Q (.bool v) H
noncomputable abbrev CmpR (c : Cx) (n : Nat) (op : CmpOp) (a : MV) (Q : Post Bool) : Post MV := fun b H => Cmp c n op a b H Q
noncomputable abbrev CmpL (c : Cx) (n : Nat) (sc : Scope) (op : CmpOp) (e : Expr) (loc : Loc) (Q : Post Bool) : Post MV := fun a H => Ev c n sc e loc H (CmpR c n op a Q)
noncomputable abbrev TruP (c : Cx) (n : Nat) (Q : Post Bool) : Post MV := fun a H => Tru c n a H Q
noncomputable abbrev IfP (c : Cx) (n : Nat) (sc : Scope) (a b : Expr) (loc : Loc) (Q : Post MV) : Post Bool := fun b' H => (b' = true → Ev c n sc a loc H Q) ∧ (b' = false → Ev c n sc b loc H Q)
noncomputable abbrev ConsR (v : MV) (Q : Post (List MV)) : Post (List MV) := fun vs H => Q (v :: vs) H
noncomputable abbrev ConsL (c : Cx) (n : Nat) (sc : Scope) (pos : Pos) (es : List Expr) (loc : Loc) (Q : Post (List MV)) : Post MV := fun v H => Evs c n sc pos es loc H (ConsR v Q)
noncomputable abbrev ListP (Q : Post MV) : Post (List MV) := fun vs H => vs.length ≤ 1000 ∧ Q (.ref H.length) (H ++ [.list vs])
noncomputable abbrev TupP (Q : Post MV) : Post (List MV) := fun vs H => vs.length ≤ 1000 ∧ Q (.ref H.length) (H ++ [.tuple vs])
noncomputable abbrev GetP (c : Cx) (n : Nat) (attr : Str) (Q : Post MV) : Post MV := fun o H => Get c n attr o H Q
noncomputable abbrev SubR (c : Cx) (n : Nat) (value slice : Expr) (o : MV) (Q : Post MV) : Post MV := fun i H => Sub c n value slice o i H Q
noncomputable abbrev SubL (c : Cx) (n : Nat) (sc : Scope) (value slice : Expr) (loc : Loc) (Q : Post MV) : Post MV := fun o H => Ev c n sc slice loc H (SubR c n value slice o Q)
noncomputable abbrev ClP (c : Cx) (n : Nat) (f : Value) (Q : Post MV) : Post (List MV) := fun vs H => Cl c n f vs H Q

section
variable {c : Cx} {n : Nat} {sc : Scope} {loc : Loc} {H : List MO}
theorem Run.mono {α β : Type} {t : Env → Sem α} {rel : List Addr → β → α → Prop} {Q Q' : Post β} (h : Run c n sc t rel loc H Q) (q : ∀ v H', Q v H' → Q' v H') : Run c n sc t rel loc H Q' :=
  fun r m cs s σ os Φ E R k => h r m cs s σ os Φ E R fun v H' v' h' tk' σ' os' p => k v H' v' h' tk' σ' os' (q v H' p)
theorem All2.nil' {α β : Type} {R : α → β → Prop} {bs : List β} {P : List β → Prop} (h : All2 R [] bs) (f : P []) : P bs := match bs, h with | _, .nil => f
theorem All2.cons' {α β : Type} {R : α → β → Prop} {a : α} {as : List α} {bs : List β} {P : List β → Prop} (h : All2 R (a :: as) bs) (f : ∀ b bs, R a b → All2 R as bs → P (b :: bs)) : P bs := match bs, h with | _, .cons x y => f _ _ x y
theorem All2.one' {α β : Type} {R : α → β → Prop} {a : α} {bs : List β} {P : List β → Prop} (h : All2 R [a] bs) (f : ∀ b, R a b → P [b]) : P bs := by
  apply h.cons'; intro b bs x h; apply h.nil'; exact f b x
theorem All2.two' {α β : Type} {R : α → β → Prop} {a a' : α} {bs : List β} {P : List β → Prop} (h : All2 R [a, a'] bs) (f : ∀ b b', R a b → R a' b' → P [b, b']) : P bs := by
  apply h.cons'; intro b bs x h; apply h.one'; intro b' x'; exact f b b' x x'
theorem All2.three' {α β : Type} {R : α → β → Prop} {a a' a'' : α} {bs : List β} {P : List β → Prop} (h : All2 R [a, a', a''] bs) (f : ∀ b b' b'', R a b → R a' b' → R a'' b'' → P [b, b', b'']) : P bs := by
  apply h.cons'; intro b bs x h; apply h.two'; intro b' b'' x' x''; exact f b b' b'' x x' x''
theorem All2.one {α β : Type} {R : α → β → Prop} {a : α} {bs : List β} (h : All2 R [a] bs) : ∃ b, bs = [b] ∧ R a b := by
  apply h.one'; intro b x; exact ⟨b, rfl, x⟩
theorem All2.two {α β : Type} {R : α → β → Prop} {a a' : α} {bs : List β} (h : All2 R [a, a'] bs) : ∃ b b', bs = [b, b'] ∧ R a b ∧ R a' b' := by
  apply h.two'; intro b b' x y; exact ⟨b, b', rfl, x, y⟩
theorem All2.three {α β : Type} {R : α → β → Prop} {a a' a'' : α} {bs : List β} (h : All2 R [a, a', a''] bs) : ∃ b b' b'', bs = [b, b', b''] ∧ R a b ∧ R a' b' ∧ R a'' b'' := by
  apply h.three'; intro b b' b'' x y z; exact ⟨b, b', b'', rfl, x, y, z⟩
theorem VR.refE' {sl : Addr} {σ : List Addr} {k : Nat} {a : Value} {P : Value → Prop} (v : VR sl σ (.ref k) a) (f : ∀ x, σ[k]? = some x → P (.ref x)) : P a := match a, v with | _, .ref e => f _ e
theorem VR.intE' {sl : Addr} {σ : List Addr} {i : Int} {a : Value} {P : Value → Prop} (v : VR sl σ (.int i) a) (f : ∀ t, P (.int i t)) : P a := match a, v with | _, .int _ t => f t
theorem VR.strE' {sl : Addr} {σ : List Addr} {i : Str} {a : Value} {P : Value → Prop} (v : VR sl σ (.str i) a) (f : ∀ t, P (.str i t)) : P a := match a, v with | _, .str _ t => f t
theorem All2.ii {sl : Addr} {σ : List Addr} {a b : Int} {as : List Value} {P : List Value → Prop} (h : All2 (VR sl σ) [.int a, .int b] as) (f : ∀ t u, P [.int a t, .int b u]) : P as :=
  h.two' fun _ y hx hy => hx.intE' (P := fun v => P [v, y]) fun t => hy.intE' (P := fun v => P [_, v]) fun u => f t u
theorem All2.ss {sl : Addr} {σ : List Addr} {a b : Str} {as : List Value} {P : List Value → Prop} (h : All2 (VR sl σ) [.str a, .str b] as) (f : ∀ t u, P [.str a t, .str b u]) : P as :=
  h.two' fun _ y hx hy => hx.strE' (P := fun v => P [v, y]) fun t => hy.strE' (P := fun v => P [_, v]) fun u => f t u

/-! constants and names -/
theorem Ev.int {i : Int} {k pos} {Q : Post MV} (q : Q (.int i) H) : Ev c n sc (.Constant (.int i) k pos) loc H Q :=
  fun r m cs s σ os Φ E R k => wpAny_Constant_int (k _ _ _ _ _ _ _ q R (List.prefix_refl _) (.int _ _))
theorem Ev.str {x : Str} {k pos} {Q : Post MV} (q : Q (.str x) H) : Ev c n sc (.Constant (.str x) k pos) loc H Q :=
  fun r m cs s σ os Φ E R k => Calls.Constant_str (k _ _ _ _ _ _ _ q R (List.prefix_refl _) (.str _ _))
theorem Ev.bool {x : Bool} {k pos} {Q : Post MV} (q : Q (.bool x) H) : Ev c n sc (.Constant (.bool x) k pos) loc H Q :=
  fun r m cs s σ os Φ E R k => Constant_bool (k _ _ _ _ s.toks _ _ q R (List.prefix_refl _) (.bool _))
theorem Ev.none {k pos} {Q : Post MV} (q : Q .none H) : Ev c n sc (.Constant .none k pos) loc H Q :=
  fun r m cs s σ os Φ E R k => Constant_none (k _ _ _ _ s.toks _ _ q R (List.prefix_refl _) .none)

inductive Has : Loc → Str → MV → Prop
  | head {x v l} : Has ((x, some v) :: l) x v
  | tail {p l x v} : Has l x v → Has (p :: l) x v
theorem Has.mem {l : Loc} {x : Str} {v : MV} (h : Has l x v) : (x, some v) ∈ l := by
  induction h with
  | head => exact .head _
  | tail _ ih => exact .tail _ ih

theorem load_var {r : RR} {m : Str → Option Value} {cs : Led} {s : Shared} {σ : List Addr} {os : List Obj} {x : Str} {v' : Value} {Φ : Value → Shared → Prop} {E : Value → Shared → Prop} {M : Model}
    (R : Rel c n sc r m cs s.heap σ os loc H) (hv : VarAt r m (cs ++ r.X) x v') (h : Φ v' s) : wpAny M r.A (loadName r.env x) Φ E s := by
  have ek : r.env.scope.kind = .function := by rw [R.es]; exact R.ek
  rcases hv with ⟨hk, ⟨hL, hm⟩ | ⟨o, es, ep, ho, hd, hs, hf⟩⟩ | ⟨hk, a, o, hl, ho, hd⟩
  · exact wpAny_loadName_local ek hk (by rw [hL]; exact R.F.ns) hm h
  · exact wpAny_loadName_local ek hk ⟨o, es, ep, (R.N.news _ (List.mem_append_left _ ho)).1, hd, hs, fun _ => rfl⟩ hf h
  · exact wpAny_loadName_cell ek hk hl ⟨o, (R.N.news _ (List.mem_append_left _ ho)).1, hd⟩ h

theorem Ev.name {x : Str} {pos} {v : MV} {Q : Post MV} (hx : Has loc x v) (q : Q v H) (hd : (x == ("__debug__" : Str)) = false := by decide) : Ev c n sc (.Name x pos) loc H Q :=
  fun r m cs s σ os Φ E R k => by
    refine x12 (R.vars x v hx.mem) fun v' a b => ?_
    exact wpAny_Name (load_var R b (k v H v' _ s.toks σ os q R (List.prefix_refl _) a)) hd

noncomputable def look : Loc → Str → Option MV
  | [], _ => Option.none
  | (y, o) :: l, x => bif x == y then o else look l x
theorem look_mem {x : Str} {v : MV} {l : Loc} (h : look l x = some v) : (x, some v) ∈ l := by
  induction l with
  | nil => exact nomatch h
  | cons p l ih =>
    unfold look at h
    cases e : x == p.1 with
    | true => rw [e] at h; rw [eq_of_beq e, ← show p.2 = some v from h]; exact .head _
    | false => rw [e] at h; exact .tail _ (ih h)
theorem Ev.nameL {x : Str} {pos} {v : MV} {Q : Post MV} (hx : look loc x = some v) (q : Q v H) (hd : (x == ("__debug__" : Str)) = false := by decide) : Ev c n sc (.Name x pos) loc H Q :=
  fun r m cs s σ os Φ E R k => by
    refine x12 (R.vars x v (look_mem hx)) fun v' a b => ?_
    exact wpAny_Name (load_var R b (k v H v' _ s.toks σ os q R (List.prefix_refl _) a)) hd
/-- a name of the text's own top -/
noncomputable def Glb (c : Cx) (x : Str) (v : Value) : Prop := nsIn c.K mainGlobals x = some (some v)
noncomputable def NoGlb (c : Cx) (x : Str) : Prop := nsIn c.K mainGlobals x = some none
theorem eval_glb {r : RR} {m : Str → Option Value} {cs : Led} {s : Shared} {σ : List Addr} {os : List Obj} {x : Str} {pos} {v : Value} {Φ : Value → Shared → Prop} {E : Value → Shared → Prop} {M : Model}
    (R : Rel c n sc r m cs s.heap σ os loc H) (hg : Glb c x v) (hk : sc.names.lookup x = some .globalImplicit) (hd : (x == ("__debug__" : Str)) = false) (h : Φ v s) : wpAny M r.A (eval (.Name x pos) r.env) Φ E s :=
  Name_function_global (by rw [R.es]; exact R.ek) (by show r.env.scope.names.lookup x = _; rw [R.es]; exact hk)
    (loadGlobal_global (by rw [R.eg]; exact R.T.g.keeps R.F.keep) (mg_of R.K R.T.g hg) h) hd
theorem eval_blt {r : RR} {m : Str → Option Value} {cs : Led} {s : Shared} {σ : List Addr} {os : List Obj} {x : Str} {pos} {v : Value} {Φ : Value → Shared → Prop} {E : Value → Shared → Prop} {M : Model}
    (R : Rel c n sc r m cs s.heap σ os loc H) (hg : NoGlb c x) (hb : bootBuiltins x = some v) (hn : x ≠ "__name__") (hk : sc.names.lookup x = some .globalImplicit) (hd : (x == ("__debug__" : Str)) = false) (h : Φ v s) : wpAny M r.A (eval (.Name x pos) r.env) Φ E s :=
  Name_function_global (by rw [R.es]; exact R.ek) (by show r.env.scope.names.lookup x = _; rw [R.es]; exact hk)
    (loadGlobal_builtin (by rw [R.eg]; exact R.T.g.keeps R.F.keep) (mg_none_of R.K R.T.g hg) (by rw [R.eb]; exact R.T.b.keeps R.F.keep) ((R.T.builtins x hn).trans hb) h) hd
theorem Ev.gint {x : Str} {pos} {i : Int} {t : Tok} {Q : Post MV} (hg : Glb c x (.int i t)) (q : Q (.int i) H) (hk : sc.names.lookup x = some .globalImplicit := by with_unfolding_all rfl) (hd : (x == ("__debug__" : Str)) = false := by decide) :
    Ev c n sc (.Name x pos) loc H Q :=
  fun r m cs s σ os Φ E R k => eval_glb R hg hk hd (k _ H _ _ s.toks σ os q R (List.prefix_refl _) (.int _ _))

/-! expressions -/
theorem Ev.binop {l op e pos} {Q : Post MV} (h : Ev c n sc l loc H (BinL c n sc op e loc Q)) : Ev c n sc (.BinOp l op e pos) loc H Q := by
  intro r m cs s σ os Φ E R k
  refine wpAny_BinOp (h r m cs s σ os _ E R fun a H₁ a' h₁ t₁ σ₁ os₁ q₁ R₁ p₁ v₁ => ?_)
  refine q₁ r m cs _ σ₁ os₁ _ E R₁ fun b H₂ b' h₂ t₂ σ₂ os₂ q₂ R₂ p₂ v₂ => ?_
  exact q₂ sc r m cs _ σ₂ os₂ loc [a', b'] _ E R₂ (.cons (v₁.mono p₂) (.cons v₂ .nil)) fun v H' v' h' t' σ' os' q' R' p' v'' => k v H' v' h' t' σ' os' q' R' ((p₁.trans p₂).trans p') v''
theorem Ev.cmp {l op e pos} {Q : Post MV} (h : Ev c n sc l loc H (CmpL c n sc op e loc (BoolQ Q))) (hm : behindInMarks op e = false := by with_unfolding_all rfl) :
    Ev c n sc (.Compare l [op] [e] pos) loc H Q := by
  intro r m cs s σ os Φ E R k
  refine wpAny_Compare1 (h r m cs s σ os _ E R fun a H₁ a' h₁ t₁ σ₁ os₁ q₁ R₁ p₁ v₁ => ?_) hm
  refine q₁ r m cs _ σ₁ os₁ _ E R₁ fun b H₂ b' h₂ t₂ σ₂ os₂ q₂ R₂ p₂ v₂ => ?_
  exact q₂ sc r m cs _ σ₂ os₂ loc [a', b'] _ E R₂ (.cons (v₁.mono p₂) (.cons v₂ .nil)) fun v H' v' h' t' σ' os' q' R' p' v'' => by
    obtain rfl := v''; exact k _ H' _ h' t' σ' os' q' R' ((p₁.trans p₂).trans p') (.bool _)
theorem Tst.cmp {l op e pos} {Q : Post Bool} (h : Ev c n sc l loc H (CmpL c n sc op e loc Q)) (hm : behindInMarks op e = false := by with_unfolding_all rfl) :
    Tst c n sc (.Compare l [op] [e] pos) loc H Q := by
  intro r m cs s σ os Φ E R k
  refine wpAny_isTrue_Compare1 (h r m cs s σ os _ E R fun a H₁ a' h₁ t₁ σ₁ os₁ q₁ R₁ p₁ v₁ => ?_) hm
  refine q₁ r m cs _ σ₁ os₁ _ E R₁ fun b H₂ b' h₂ t₂ σ₂ os₂ q₂ R₂ p₂ v₂ => ?_
  exact q₂ sc r m cs _ σ₂ os₂ loc [a', b'] _ E R₂ (.cons (v₁.mono p₂) (.cons v₂ .nil)) fun v H' v' h' t' σ' os' q' R' p' v'' => by
    obtain rfl := v''; exact wpAny_truthy_bool (k _ H' _ h' t' σ' os' q' R' ((p₁.trans p₂).trans p') rfl)
theorem Tst.plain {e} {Q : Post Bool} (h : Ev c n sc e loc H (TruP c n Q))
    (hp : ∀ env : Env, isTrue e env (eval e env) = (do let v ← eval e env; standAt e.pos; holding [v] (truthy v)) := by (intro _; with_unfolding_all rfl)) : Tst c n sc e loc H Q := by
  intro r m cs s σ os Φ E R k
  refine isTrue_plain (h r m cs s σ os _ E R fun a H₁ a' h₁ t₁ σ₁ os₁ q₁ R₁ p₁ v₁ => ?_) (hp r.env)
  exact q₁ sc r m cs _ σ₁ os₁ loc [a'] _ E R₁ (.cons v₁ .nil) fun v H' v' h' t' σ' os' q' R' p' v'' => k v H' v' h' t' σ' os' q' R' (p₁.trans p') v''
theorem Tst.and {e es pos} {Q : Post Bool} (h : Tst c n sc e loc H fun b H₁ => (b = true → Run c n sc (fun env => isTrue (.BoolOp .And es pos) env (eval (.BoolOp .And (e :: es) pos) env)) (fun _ b b' => b' = b) loc H₁ Q) ∧ (b = false → Q false H₁)) : Tst c n sc (.BoolOp .And (e :: es) pos) loc H Q := by
  intro r m cs s σ os Φ E R k
  refine isTrue_and (h r m cs s σ os _ E R fun a H₁ a' h₁ t₁ σ₁ os₁ q₁ R₁ p₁ v₁ => ?_)
  obtain rfl := v₁
  cases a' with
  | true => exact q₁.1 rfl r m cs _ σ₁ os₁ _ E R₁ fun v H' v' h' t' σ' os' q' R' p' v'' => k v H' v' h' t' σ' os' q' R' (p₁.trans p') v''
  | false => exact k _ _ _ _ _ _ _ (q₁.2 rfl) R₁ p₁ rfl
theorem Tst.or {e es pos} {Q : Post Bool} (h : Tst c n sc e loc H fun b H₁ => (b = false → Run c n sc (fun env => isTrue (.BoolOp .Or es pos) env (eval (.BoolOp .Or (e :: es) pos) env)) (fun _ b b' => b' = b) loc H₁ Q) ∧ (b = true → Q true H₁)) : Tst c n sc (.BoolOp .Or (e :: es) pos) loc H Q := by
  intro r m cs s σ os Φ E R k
  refine isTrue_or (h r m cs s σ os _ E R fun a H₁ a' h₁ t₁ σ₁ os₁ q₁ R₁ p₁ v₁ => ?_)
  obtain rfl := v₁
  cases a' with
  | false => exact q₁.1 rfl r m cs _ σ₁ os₁ _ E R₁ fun v H' v' h' t' σ' os' q' R' p' v'' => k v H' v' h' t' σ' os' q' R' (p₁.trans p') v''
  | true => exact k _ _ _ _ _ _ _ (q₁.2 rfl) R₁ p₁ rfl
theorem Run.and {e es pos} {w : Env → Sem Value} {Q : Post Bool} (h : Tst c n sc e loc H fun b H₁ => (b = true → Run c n sc (fun env => isTrue (.BoolOp .And es pos) env (w env)) (fun _ b b' => b' = b) loc H₁ Q) ∧ (b = false → Q false H₁)) :
    Run c n sc (fun env => isTrue (.BoolOp .And (e :: es) pos) env (w env)) (fun _ b b' => b' = b) loc H Q := by
  intro r m cs s σ os Φ E R k
  refine isTrue_and (h r m cs s σ os _ E R fun a H₁ a' h₁ t₁ σ₁ os₁ q₁ R₁ p₁ v₁ => ?_)
  obtain rfl := v₁
  cases a' with
  | true => exact q₁.1 rfl r m cs _ σ₁ os₁ _ E R₁ fun v H' v' h' t' σ' os' q' R' p' v'' => k v H' v' h' t' σ' os' q' R' (p₁.trans p') v''
  | false => exact k _ _ _ _ _ _ _ (q₁.2 rfl) R₁ p₁ rfl
theorem Run.and_nil {pos} {w : Env → Sem Value} {Q : Post Bool} (q : Q true H) : Run c n sc (fun env => isTrue (.BoolOp .And [] pos) env (w env)) (fun _ b b' => b' = b) loc H Q := by
  intro r m cs s σ os Φ E R k
  exact isTrue_and_nil (k _ H _ _ s.toks σ os q R (List.prefix_refl _) rfl)
theorem Run.or {e es pos} {w : Env → Sem Value} {Q : Post Bool} (h : Tst c n sc e loc H fun b H₁ => (b = false → Run c n sc (fun env => isTrue (.BoolOp .Or es pos) env (w env)) (fun _ b b' => b' = b) loc H₁ Q) ∧ (b = true → Q true H₁)) :
    Run c n sc (fun env => isTrue (.BoolOp .Or (e :: es) pos) env (w env)) (fun _ b b' => b' = b) loc H Q := by
  intro r m cs s σ os Φ E R k
  refine isTrue_or (h r m cs s σ os _ E R fun a H₁ a' h₁ t₁ σ₁ os₁ q₁ R₁ p₁ v₁ => ?_)
  obtain rfl := v₁
  cases a' with
  | false => exact q₁.1 rfl r m cs _ σ₁ os₁ _ E R₁ fun v H' v' h' t' σ' os' q' R' p' v'' => k v H' v' h' t' σ' os' q' R' (p₁.trans p') v''
  | true => exact k _ _ _ _ _ _ _ (q₁.2 rfl) R₁ p₁ rfl
theorem Run.or_nil {pos} {w : Env → Sem Value} {Q : Post Bool} (q : Q false H) : Run c n sc (fun env => isTrue (.BoolOp .Or [] pos) env (w env)) (fun _ b b' => b' = b) loc H Q := by
  intro r m cs s σ os Φ E R k
  exact isTrue_or_nil (k _ H _ _ s.toks σ os q R (List.prefix_refl _) rfl)
theorem Ev.ifexp {t a b pos} {Q : Post MV} (h : Tst c n sc t loc H (IfP c n sc a b loc Q)) : Ev c n sc (.IfExp t a b pos) loc H Q := by
  intro r m cs s σ os Φ E R k
  refine IfExp_ (h r m cs s σ os _ E R fun a H₁ a' h₁ t₁ σ₁ os₁ q₁ R₁ p₁ v₁ => ?_)
  obtain rfl := v₁
  cases a' with
  | true => rw [if_pos rfl]; exact q₁.1 rfl r m cs _ σ₁ os₁ _ E R₁ fun v H' v' h' t' σ' os' q' R' p' v'' => k v H' v' h' t' σ' os' q' R' (p₁.trans p') v''
  | false => rw [if_neg Bool.false_ne_true]; exact q₁.2 rfl r m cs _ σ₁ os₁ _ E R₁ fun v H' v' h' t' σ' os' q' R' p' v'' => k v H' v' h' t' σ' os' q' R' (p₁.trans p') v''
theorem Ev.and {e₁ e₂ es pos} {Q : Post MV} (h : Ev c n sc e₁ loc H fun v H₁ => Tru c n v H₁ fun b H₂ => (b = true → Ev c n sc (.BoolOp .And (e₂ :: es) pos) loc H₂ Q) ∧ (b = false → Q v H₂)) : Ev c n sc (.BoolOp .And (e₁ :: e₂ :: es) pos) loc H Q := by
  intro r m cs s σ os Φ E R k
  refine BoolOp_and (h r m cs s σ os _ E R fun a H₁ a' h₁ t₁ σ₁ os₁ q₁ R₁ p₁ v₁ => ?_)
  refine q₁ sc r m cs _ σ₁ os₁ loc [a'] _ E R₁ (.cons v₁ .nil) fun v H' v' h' t' σ' os' q' R' p' v'' => ?_
  obtain rfl := v''
  cases v' with
  | true => rw [if_pos rfl]; exact q'.1 rfl r m cs _ σ' os' _ E R' fun w H'' w' h'' t'' σ'' os'' q'' R'' p'' v'' => k w H'' w' h'' t'' σ'' os'' q'' R'' ((p₁.trans p').trans p'') v''
  | false => rw [if_neg Bool.false_ne_true]; exact k _ _ _ _ _ _ _ (q'.2 rfl) R' (p₁.trans p') (v₁.mono p')
theorem Ev.bool1 {op e pos} {Q : Post MV} (h : Ev c n sc e loc H Q) : Ev c n sc (.BoolOp op [e] pos) loc H Q :=
  fun r m cs s σ os Φ E R k => BoolOp_one (h r m cs s σ os Φ E R k)

/-! lists of expressions -/
theorem Evs.nil {pos} {Q : Post (List MV)} (q : Q [] H) : Evs c n sc pos [] loc H Q :=
  fun r m cs s σ os Φ E R k => args_nil (k _ H _ _ s.toks σ os q R (List.prefix_refl _) .nil)
theorem Evs.cons {pos e es} {Q : Post (List MV)} (h : Ev c n sc e loc H (ConsL c n sc pos es loc Q))
    (he : ∀ env, starEach (e :: es) env = (false, eval e env) :: starEach es env := by (intro _; with_unfolding_all rfl)) : Evs c n sc pos (e :: es) loc H Q := by
  intro r m cs s σ os Φ E R k
  refine args_cons (h r m cs s σ os _ E R fun a H₁ a' h₁ t₁ σ₁ os₁ q₁ R₁ p₁ v₁ => ?_) (he r.env)
  exact q₁ r m cs _ σ₁ os₁ _ E R₁ fun v H' v' h' t' σ' os' q' R' p' v'' => k _ H' _ h' t' σ' os' q' R' (p₁.trans p') (.cons (v₁.mono p') v'')
theorem Ev.list {es pos} {Q : Post MV} (h : Evs c n sc pos es loc H (ListP Q)) : Ev c n sc (.List es pos) loc H Q := by
  intro r m cs s σ os Φ E R k
  refine List_ (h r m cs s σ os _ E R fun a H₁ a' h₁ t₁ σ₁ os₁ q₁ R₁ p₁ v₁ => ?_)
  refine newList_N R₁.F R₁.N.news (fun h' F' N' => ?_) (by rw [← v₁.length, sizeLine_eq]; have := q₁.1; lia)
  refine k _ _ _ h' _ _ _ q₁.2 (R₁.alloc F' N' R₁.N.lt (.list (v₁.mono fun _ _ => VR.mono (List.prefix_append _ _)))) (p₁.trans (List.prefix_append _ _)) (.ref ?_)
  rw [R₁.N.hlen]; simp
theorem Ev.tuple {es k pos} {Q : Post MV} (h : Evs c n sc pos es loc H (TupP Q)) : Ev c n sc (.Tuple es k pos) loc H Q := by
  intro r m cs s σ os Φ E R k
  refine Tuple_ (h r m cs s σ os _ E R fun a H₁ a' h₁ t₁ σ₁ os₁ q₁ R₁ p₁ v₁ => ?_)
  refine newTuple_N R₁.F R₁.N.news (fun h' F' N' => ?_) (by rw [← v₁.length, sizeLine_eq]; have := q₁.1; lia)
  refine k _ _ _ h' _ _ _ q₁.2 (R₁.alloc F' N' R₁.N.lt (.tuple (v₁.mono fun _ _ => VR.mono (List.prefix_append _ _)))) (p₁.trans (List.prefix_append _ _)) (.ref ?_)
  rw [R₁.N.hlen]; simp
theorem Ev.attr {value attr pos} {Q : Post MV} (h : Ev c n sc value loc H (GetP c n attr Q))
    (hp : ∀ env, eval (.Attribute value attr pos) env = (do let o ← eval value env; standAt pos.atName; let r ← holding [o] (getAttr o attr true); letTemporaryGo value o r; pure r) := by (intro _; with_unfolding_all rfl)) : Ev c n sc (.Attribute value attr pos) loc H Q := by
  intro r m cs s σ os Φ E R k
  refine Attribute_any_ (h r m cs s σ os _ E R fun a H₁ a' h₁ t₁ σ₁ os₁ q₁ R₁ p₁ v₁ => ?_) (hp r.env)
  exact q₁ sc r m cs _ σ₁ os₁ loc [a'] _ E R₁ (.cons v₁ .nil) fun v H' v' h' t' σ' os' q' R' p' v'' => k v H' v' h' t' σ' os' q' R' (p₁.trans p') v''
theorem Ev.sub {value slice pos} {Q : Post MV} (h : Ev c n sc value loc H (SubL c n sc value slice loc Q)) : Ev c n sc (.Subscript value slice pos) loc H Q := by
  intro r m cs s σ os Φ E R k
  refine Subscript_ (h r m cs s σ os _ E R fun a H₁ a' h₁ t₁ σ₁ os₁ q₁ R₁ p₁ v₁ => ?_)
  refine q₁ r m cs _ σ₁ os₁ _ E R₁ fun b H₂ b' h₂ t₂ σ₂ os₂ q₂ R₂ p₂ v₂ => ?_
  exact q₂ sc r m cs _ σ₂ os₂ loc [a', b'] _ E R₂ (.cons (v₁.mono p₂) (.cons v₂ .nil)) fun v H' v' h' t' σ' os' q' R' p' v'' => k v H' v' h' t' σ' os' q' R' ((p₁.trans p₂).trans p') v''

/-! calls by a name of the top: a def or a class; a builtin; a type -/
theorem Ev.call {x p e es pos} {a : Addr} {Q : Post MV} (hg : Glb c x (.ref a)) (hkeep : keepIn c.K (.ref a) = true) (h : Evs c n sc pos (e :: es) loc H (ClP c n (.ref a) Q))
    (hk : sc.names.lookup x = some .globalImplicit := by with_unfolding_all rfl) (hd : (x == ("__debug__" : Str)) = false := by decide)
    (he : ∀ env, starEach (e :: es) env = (false, eval e env) :: starEach es env := by (intro _; with_unfolding_all rfl)) (hpl : ∀ env, (backTo pos (starEach es env)).any (·.1) = false := by (intro _; with_unfolding_all rfl)) : Ev c n sc (.Call (.Name x p) (e :: es) [] pos) loc H Q := by
  intro r m cs s σ os Φ E R k
  refine Call_ (eval_glb R hg hk hd (callWith_K R.K hkeep (h r m cs s σ os _ E R fun vs H₁ vs' h₁ t₁ σ₁ os₁ q₁ R₁ p₁ v₁ => ⟨R₁.Kh, ?_⟩) (he r.env) (hpl r.env)))
  exact q₁ sc r m cs _ σ₁ os₁ loc vs' _ E R₁ v₁ fun v H' v' h' t' σ' os' q' R' p' v'' => k v H' v' h' t' σ' os' q' R' (p₁.trans p') v''
theorem Ev.call0 {x p pos} {a : Addr} {Q : Post MV} (hg : Glb c x (.ref a)) (hkeep : keepIn c.K (.ref a) = true) (h : Cl c n (.ref a) [] H Q)
    (hk : sc.names.lookup x = some .globalImplicit := by with_unfolding_all rfl) (hd : (x == ("__debug__" : Str)) = false := by decide) : Ev c n sc (.Call (.Name x p) [] [] pos) loc H Q := by
  intro r m cs s σ os Φ E R k
  exact Call_ (eval_glb R hg hk hd (callWith_K0 R.Kh hkeep (h sc r m cs s σ os loc [] _ E R .nil k)))
theorem Ev.bcall {x p e es pos} {id : String} {Q : Post MV} (hg : NoGlb c x) (hb : bootBuiltins x = some (.builtin id)) (h : Evs c n sc pos (e :: es) loc H (ClP c n (.builtin id) Q))
    (hn : x ≠ "__name__" := by decide) (hk : sc.names.lookup x = some .globalImplicit := by with_unfolding_all rfl) (hd : (x == ("__debug__" : Str)) = false := by decide)
    (he : ∀ env, starEach (e :: es) env = (false, eval e env) :: starEach es env := by (intro _; with_unfolding_all rfl)) (hpl : ∀ env, (backTo pos (starEach es env)).any (·.1) = false := by (intro _; with_unfolding_all rfl)) : Ev c n sc (.Call (.Name x p) (e :: es) [] pos) loc H Q := by
  intro r m cs s σ os Φ E R k
  refine Call_ (eval_blt R hg hb hn hk hd (PyProof.Rows.callWith_builtin1 (h r m cs s σ os _ E R fun vs H₁ vs' h₁ t₁ σ₁ os₁ q₁ R₁ p₁ v₁ => ?_) (he r.env) (hpl r.env)))
  exact q₁ sc r m cs _ σ₁ os₁ loc vs' _ E R₁ v₁ fun v H' v' h' t' σ' os' q' R' p' v'' => k v H' v' h' t' σ' os' q' R' (p₁.trans p') v''
theorem Ev.tcall {x p e es pos} {T : String} {Q : Post MV} (hg : NoGlb c x) (hb : bootBuiltins x = some (.type T)) (h : Evs c n sc pos (e :: es) loc H (ClP c n (.type T) Q))
    (hn : x ≠ "__name__" := by decide) (hk : sc.names.lookup x = some .globalImplicit := by with_unfolding_all rfl) (hd : (x == ("__debug__" : Str)) = false := by decide)
    (he : ∀ env, starEach (e :: es) env = (false, eval e env) :: starEach es env := by (intro _; with_unfolding_all rfl)) (hpl : ∀ env, (backTo pos (starEach es env)).any (·.1) = false := by (intro _; with_unfolding_all rfl)) : Ev c n sc (.Call (.Name x p) (e :: es) [] pos) loc H Q := by
  intro r m cs s σ os Φ E R k
  refine Call_ (eval_blt R hg hb hn hk hd (PyProof.Rows.callWith_type1 (h r m cs s σ os _ E R fun vs H₁ vs' h₁ t₁ σ₁ os₁ q₁ R₁ p₁ v₁ => ?_) (he r.env) (hpl r.env)))
  exact q₁ sc r m cs _ σ₁ os₁ loc vs' _ E R₁ v₁ fun v H' v' h' t' σ' os' q' R' p' v'' => k v H' v' h' t' σ' os' q' R' (p₁.trans p') v''
end
end
section
section
variable {c : Cx} {n : Nat} {sc : Scope} {r : RR} {m : Str → Option Value} {cs : Led} {s : Shared} {σ : List Addr} {os : List Obj} {loc : Loc} {H : List MO}

theorem VR.refE {sl : Addr} {k : Nat} {a : Value} (v : VR sl σ (.ref k) a) : ∃ x, a = .ref x ∧ σ[k]? = some x := by cases v with | ref e => exact i12 _ rfl e
theorem VR.intE {sl : Addr} {i : Int} {a : Value} (v : VR sl σ (.int i) a) : ∃ t, a = .int i t := by cases v; exact ⟨_, rfl⟩
theorem VR.strE {sl : Addr} {i : Str} {a : Value} (v : VR sl σ (.str i) a) : ∃ t, a = .str i t := by cases v; exact ⟨_, rfl⟩

structure LObj (c : Cx) (r : RR) (cs : Led) (h : Heap) (σ : List Addr) (os : List Obj) (k : Nat) (its : List MV) (x : Addr) (vs : List Value) (e : Nat) : Prop where
  at_ : σ[k]? = some x
  ob : os[k]? = some (W.listOf vs.toArray e)
  all : All2 (VR c.sl σ) its vs
  is : h.IsList x vs.toArray
  mem : (x, W.listOf vs.toArray e) ∈ (cs ++ r.X) ++ σ.zip os
  len : vs.length = its.length
theorem Rel.lst' {h : Heap} {k : Nat} {its : List MV} {P : Value → Prop} (R : Rel c n sc r m cs h σ os loc H) (e : H[k]? = some (.list its)) {a : Value} (v : VR c.sl σ (.ref k) a)
    (f : ∀ x vs ep, LObj c r cs h σ os k its x vs ep → P (.ref x)) : P a := by
  apply v.refE'; intro x hx
  refine R.N.obj' e fun y o hy ho hr hm => ?_
  apply same_at hy hx
  revert ho hm
  apply hr.listE; intro vs n all ho hm
  exact f y vs n ⟨hy, ho, all, R.N.news.isList hm, hm, all.length.symm⟩
theorem Rel.lst {h : Heap} {k : Nat} {its : List MV} (R : Rel c n sc r m cs h σ os loc H) (e : H[k]? = some (.list its)) {a : Value} (v : VR c.sl σ (.ref k) a) :
    ∃ x vs ep, a = .ref x ∧ LObj c r cs h σ os k its x vs ep := by
  apply R.lst' e v; intro x vs ep l; exact i32 x vs ep rfl l
theorem Rel.newRef {σ' : List Addr} (R : Rel c n sc r m cs s.heap σ os loc H) (a : Addr) : VR c.sl (σ ++ [a]) (.ref H.length) (.ref a) := .ref (by rw [R.N.hlen]; simp)
theorem listOR {sl : Addr} {σ σ' : List Addr} {its : List MV} {vs : List Value} {e : Nat} (h : All2 (VR sl σ) its vs) (p : σ <+: σ') : OR sl σ' (.list its) (W.listOf vs.toArray e) := .list (h.mono fun _ _ => VR.mono p)

/-! int arithmetic -/
theorem Bin.add {a b : Int} {Q : Post MV} (q : Q (.int (a + b)) H) : Bin c n .Add (.int a) (.int b) H Q := by
  intro sc r m cs s σ os loc as Φ E R h k
  apply h.ii; intro t u
  exact add_int (k _ H _ _ _ σ os q R (List.prefix_refl _) (.int _ _))
theorem Bin.sub {a b : Int} {Q : Post MV} (q : Q (.int (a - b)) H) : Bin c n .Sub (.int a) (.int b) H Q := by
  intro sc r m cs s σ os loc as Φ E R h k
  apply h.ii; intro t u
  exact sub_int (k _ H _ _ _ σ os q R (List.prefix_refl _) (.int _ _))
theorem Bin.mul4 {a : Int} {Q : Post MV} (q : Q (.int (a * 4)) H) : Bin c n .Mult (.int a) (.int 4) H Q := by
  intro sc r m cs s σ os loc as Φ E R h k
  apply h.ii; intro t u
  exact mul_int (k _ H _ _ _ σ os q R (List.prefix_refl _) (.int _ _)) (.of_right (by decide))
theorem Bin.div4 {a : Int} {Q : Post MV} (q : Q (.int (a / 4)) H) : Bin c n .FloorDiv (.int a) (.int 4) H Q := by
  intro sc r m cs s σ os loc as Φ E R h k
  apply h.ii; intro t u
  refine floordiv_int (by decide) (k _ H _ _ _ σ os q R (List.prefix_refl _) ?_) (.inl (PyProof.noPylong_small (by decide)))
  rw [Int.fdiv_eq_ediv_of_nonneg _ (by decide)]; exact .int _ _
theorem Bin.mod {a b : Int} {Q : Post MV} (hb : 0 < b) (q : Q (.int (a % b)) H) : Bin c n .Mod (.int a) (.int b) H Q := by
  intro sc r m cs s σ os loc as Φ E R h k
  apply h.ii; intro t u
  refine mod_int' (Int.ne_of_gt hb) (k _ H _ _ _ σ os q R (List.prefix_refl _) ?_)
  rw [Int.fmod_eq_emod_of_nonneg _ (Int.le_of_lt hb)]; exact .int _ _
/-! lists: + and * -/
theorem Bin.cat {a b : Nat} {xs ys : List MV} {Q : Post MV} (ha : H[a]? = some (.list xs)) (hb : H[b]? = some (.list ys)) (hz : xs.length + ys.length ≤ 1000) (q : Q (.ref H.length) (H ++ [.list (xs ++ ys)])) : Bin c n .Add (.ref a) (.ref b) H Q := by
  intro sc r m cs s σ os loc as Φ E R h k
  apply h.two'; intro x y hx hy
  apply R.lst' ha hx; intro x vs e lx
  apply R.lst' hb hy; intro y ws f ly
  refine kmk_add_lit R.F R.N.news lx.is ly.is rfl (fun D h' F' N' hl => ?_) (by simp only [List.size_toArray, lx.len, ly.len, sizeLine_eq]; lia)
  exact k _ _ _ h' _ _ _ q (R.alloc F' N' hl (.list ((lx.all.append ly.all).mono fun _ _ => VR.mono (List.prefix_append _ _)))) (List.prefix_append _ _) (R.newRef (σ' := σ) D)
theorem Bin.rep {a : Nat} {v : MV} {i : Int} {Q : Post MV} (ha : H[a]? = some (.list [v])) (hz : i ≤ 250) (hlo : -1000 ≤ i) (q : Q (.ref H.length) (H ++ [.list (List.replicate i.toNat v)])) : Bin c n .Mult (.ref a) (.int i) H Q := by
  intro sc r m cs s σ os loc as Φ E R h k
  apply h.two'; intro x y hx hy
  apply R.lst' ha hx; intro x vs e lx
  cases hy
  refine x12 lx.all.one fun w eq2 hw => ?_; subst eq2
  refine KMa.mul R.F R.N.news lx.is (by lia) (by lia) (by simp; lia) rfl (fun D h' F' N' hl => ?_)
  have e1 : (List.replicate i.toNat [w]).flatten = List.replicate i.toNat w := by
    generalize i.toNat = j
    induction j with
    | zero => rfl
    | succ j ih => simp [List.replicate_succ, ih]
  rw [e1] at N'
  exact k _ _ _ h' _ _ _ q (R.alloc F' N' hl (.list (All2.replicate (hw.mono (List.prefix_append _ _)) _))) (List.prefix_append _ _) (R.newRef (σ' := σ) D)

/-! comparisons -/
theorem Cmp.eq {a b : Int} {Q : Post Bool} (q : Q (a == b) H) : Cmp c n .Eq (.int a) (.int b) H Q := by
  intro sc r m cs s σ os loc as Φ E R h k
  apply h.ii; intro t u
  exact eq_int (k _ H _ _ s.toks σ os q R (List.prefix_refl _) rfl)
theorem Cmp.ne {a b : Int} {Q : Post Bool} (q : Q (a != b) H) : Cmp c n .NotEq (.int a) (.int b) H Q := by
  intro sc r m cs s σ os loc as Φ E R h k
  apply h.ii; intro t u
  exact ne_int (k _ H _ _ s.toks σ os q R (List.prefix_refl _) rfl)
theorem Cmp.lt {a b : Int} {Q : Post Bool} (q : Q (decide (a < b)) H) : Cmp c n .Lt (.int a) (.int b) H Q := by
  intro sc r m cs s σ os loc as Φ E R h k
  apply h.ii; intro t u
  exact PySem.P.lt_int (k _ H _ _ s.toks σ os q R (List.prefix_refl _) rfl)
theorem Cmp.le {a b : Int} {Q : Post Bool} (q : Q (decide (a ≤ b)) H) : Cmp c n .LtE (.int a) (.int b) H Q := by
  intro sc r m cs s σ os loc as Φ E R h k
  apply h.ii; intro t u
  exact PySem.P.le_int (k _ H _ _ s.toks σ os q R (List.prefix_refl _) rfl)
theorem Cmp.gt {a b : Int} {Q : Post Bool} (q : Q (decide (a > b)) H) : Cmp c n .Gt (.int a) (.int b) H Q := by
  intro sc r m cs s σ os loc as Φ E R h k
  apply h.ii; intro t u
  exact PySem.P.gt_int (k _ H _ _ s.toks σ os q R (List.prefix_refl _) rfl)
theorem Cmp.ge {a b : Int} {Q : Post Bool} (q : Q (decide (a ≥ b)) H) : Cmp c n .GtE (.int a) (.int b) H Q := by
  intro sc r m cs s σ os loc as Φ E R h k
  apply h.ii; intro t u
  exact PySem.P.ge_int (k _ H _ _ s.toks σ os q R (List.prefix_refl _) rfl)
theorem Cmp.eqs {a b : Str} {Q : Post Bool} (q : Q (a == b) H) : Cmp c n .Eq (.str a) (.str b) H Q := by
  intro sc r m cs s σ os loc as Φ E R h k
  apply h.ss; intro t u
  exact eq_str (k _ H _ _ s.toks σ os q R (List.prefix_refl _) rfl)
theorem Cmp.nes {a b : Str} {Q : Post Bool} (q : Q (a != b) H) : Cmp c n .NotEq (.str a) (.str b) H Q := by
  intro sc r m cs s σ os loc as Φ E R h k
  apply h.ss; intro t u
  exact ne_str (k _ H _ _ s.toks σ os q R (List.prefix_refl _) rfl)
theorem Cmp.isNotNone {a : MV} {Q : Post Bool} (b : Bool) (hb : b = match a with | .none => false | _ => true) (q : Q b H) : Cmp c n .IsNot a .none H Q := by
  intro sc r m cs s σ os loc as Φ E R h k
  apply h.two'; intro x y hx hy
  cases hy
  refine isnot_none_gen (k b H _ _ s.toks σ os q R (List.prefix_refl _) ?_)
  subst hb
  cases hx <;> rfl
/-! truth -/
theorem Tru.bool {b : Bool} {Q : Post Bool} (q : Q b H) : Tru c n (.bool b) H Q := by
  intro sc r m cs s σ os loc as Φ E R h k
  apply h.one'; intro x hx
  cases hx
  exact wpAny_truthy_bool (k _ H _ _ s.toks σ os q R (List.prefix_refl _) rfl)

/-! items -/
theorem Sub.item {value slice} {a : Nat} {its : List MV} {i : Int} {v : MV} {Q : Post MV} (ha : H[a]? = some (.list its)) (h0 : 0 ≤ i) (hi : i < 2 ^ 40) (hv : its[i.toNat]? = some v) (q : Q v H)
    (hs : ∀ l u, subscripted slice false (.ref l) (.int i u) = operate [.ref l, .int i u] (getItem (.ref l) (.int i u)) := by intro _ _; with_unfolding_all rfl) : Sub c n value slice (.ref a) (.int i) H Q := by
  intro sc r m cs s σ os loc as Φ E R h k
  apply h.two'; intro x y hx hy
  apply R.lst' ha hx; intro x vs e lx
  cases hy
  refine x12 (lx.all.get hv) fun w hw hr => ?_
  exact tail_any lx.is.typeIs slot_list_getitem.lookup (wpAny_getItem_list lx.is h0 (by lia) (by simpa using hw) (k _ H _ _ s.toks σ os q R (List.prefix_refl _) hr)) (hs _ _)
/-! builtin calls -/
theorem Cl.len {a : Nat} {its : List MV} {Q : Post MV} (ha : H[a]? = some (.list its)) (hz : its.length ≤ 1000) (q : Q (.int its.length) H) : Cl c n (.builtin "len") [.ref a] H Q := by
  intro sc r m cs s σ os loc as Φ E R h k
  apply h.one'; intro x hx
  apply R.lst' ha hx; intro x vs e lx
  refine PyProof.Rows.len_list lx.is (by simp [lx.len]; lia) (k _ H _ _ _ σ os q R (List.prefix_refl _) ?_)
  rw [List.size_toArray, lx.len]; exact .int _ _
theorem Cl.max {a b : Int} {Q : Post MV} (hq : c.q = true) (q : Q (.int (max a b)) H) : Cl c n (.builtin "max") [.int a, .int b] H Q := by
  intro sc r m cs s σ os loc as Φ E R h k
  apply h.ii; intro t u
  refine max_two_N (R.hd hq) R.F R.N.news fun h' tk F' N' => k (.int (Max.max a b)) H _ h' tk σ os q (R.same F' N') (List.prefix_refl _) ?_
  have : (if b > a then b else a) = Max.max a b := by split <;> lia
  rw [this]; exact .int _ _
theorem Cl.min {a b : Int} {Q : Post MV} (hq : c.q = true) (q : Q (.int (min a b)) H) : Cl c n (.builtin "min") [.int a, .int b] H Q := by
  intro sc r m cs s σ os loc as Φ E R h k
  apply h.ii; intro t u
  refine min_two_N (R.hd hq) R.F R.N.news fun h' tk F' N' => k (.int (Min.min a b)) H _ h' tk σ os q (R.same F' N') (List.prefix_refl _) ?_
  have : (if b < a then b else a) = Min.min a b := by split <;> lia
  rw [this]; exact .int _ _
theorem Cl.abs {a : Int} {Q : Post MV} (q : Q (.int (a.natAbs : Int)) H) : Cl c n (.builtin "abs") [.int a] H Q := by
  intro sc r m cs s σ os loc as Φ E R h k
  apply h.one'; intro x hx
  cases hx
  refine call_abs_int fun u tk => k _ H _ _ tk σ os q R (List.prefix_refl _) ?_
  have : (if a < 0 then -a else a) = (a.natAbs : Int) := by split <;> lia
  rw [this]; exact .int _ _
theorem Cl.list {a : Nat} {its : List MV} {Q : Post MV} (ha : H[a]? = some (.list its)) (hz : its.length ≤ 1000) (q : Q (.ref H.length) (H ++ [.list its])) : Cl c n (.type "list") [.ref a] H Q := by
  intro sc r m cs s σ os loc as Φ E R h k
  apply h.one'; intro x hx
  apply R.lst' ha hx; intro x vs e lx
  refine list_copyK R.F R.N.news lx.is (fun D ep h' F' N' hl => ?_) (by simp only [List.size_toArray, lx.len, sizeLine_eq]; lia)
  exact k _ _ _ h' _ _ _ q (R.alloc F' N' hl (listOR lx.all (List.prefix_append _ _))) (List.prefix_append _ _) (R.newRef (σ' := σ) D)
theorem Cl.append {a : Nat} {its : List MV} {v : MV} {Q : Post MV} (ha : H[a]? = some (.list its)) (hz : its.length ≤ 1000) (q : Q .none (H.set a (.list (its ++ [v])))) : Cl c n (.builtin "list.append") [.ref a, v] H Q := by
  intro sc r m cs s σ os loc as Φ E R h k
  apply h.two'; intro x y hx hy
  apply R.lst' ha hx; intro x vs e lx
  refine append_K R.F R.N.news (R.N.upd lx.at_ lx.ob) (fun h' F' N' => ?_) (by simp only [List.size_toArray, lx.len, sizeLine_eq]; lia)
  exact k _ _ _ h' _ _ _ q (R.set F' N' (by simpa using OR.list (n := e + 1) (lx.all.append (.cons hy .nil)))) (List.prefix_refl _) .none
theorem Cl.pop0 {a : Nat} {its : List MV} {v : MV} {Q : Post MV} (ha : H[a]? = some (.list (v :: its))) (hz : its.length ≤ 1000) (q : Q v (H.set a (.list its))) : Cl c n (.builtin "list.pop") [.ref a, .int 0] H Q := by
  intro sc r m cs s σ os loc as Φ E R h k
  apply h.two'; intro x y hx hy
  apply R.lst' ha hx; intro x vs e lx
  cases hy
  obtain ⟨at_, ob, all, is, mem, len⟩ := lx
  cases all with
  | cons hv all =>
    rename_i w ws
    refine kl_popAt (p := []) (q := ws) (y := w) (k := 0) R.F R.N.news (by decide) (by simp [seqIndex?]) rfl (R.N.upd at_ ob) (by have hl : ws.length + 1 = its.length + 1 := len; rw [sizeLine_eq]; show ws.length + 1 ≤ _; lia) fun h' F' N' => ?_
    exact k _ _ _ h' _ _ _ q (R.set F' N' (.list all)) (List.prefix_refl _) hv
theorem Cl.extend {a b : Nat} {xs ys : List MV} {Q : Post MV} (ha : H[a]? = some (.list xs)) (hb : H[b]? = some (.list ys)) (hz : xs.length + ys.length ≤ 1000) (q : Q .none (H.set a (.list (xs ++ ys)))) : Cl c n (.builtin "list.extend") [.ref a, .ref b] H Q := by
  intro sc r m cs s σ os loc as Φ E R h k
  apply h.two'; intro x y hx hy
  apply R.lst' ha hx; intro x vs e lx
  apply R.lst' hb hy; intro y ws f ly
  have hz' : vs.length + ws.length ≤ 1000 := by rw [lx.len, ly.len]; exact hz
  have hnt : ¬ (!(vs.toArray).isEmpty && Builtin.List.listTooLong (vs.toArray.size + ws.toArray.size)) = true := by
    simp only [List.size_toArray, Bool.and_eq_true, not_and]
    intro _
    unfold Builtin.List.listTooLong
    simp [sizeLine_eq]
    lia
  by_cases hw : ws = []
  · subst hw
    have hys : ys = [] := by have := ly.len; simp at this; exact List.length_eq_zero_iff.mp this.symm
    subst hys
    refine kxn_extend R.F R.N.news ly.mem rfl (R.N.upd (o' := W.listOf vs.toArray e) lx.at_ lx.ob) hnt (by simp [sizeLine_eq]; lia) (by simp [sizeLine_eq]; lia) fun h' F' N' => ?_
    exact k _ _ _ h' _ _ _ q (R.set F' N' (by simpa using OR.list (n := e) lx.all)) (List.prefix_refl _) .none
  · refine kl_extend R.F R.N.news ly.mem rfl (by simpa using hw) (R.N.upd lx.at_ lx.ob) hnt (by simp [sizeLine_eq]; lia) (by simp [sizeLine_eq]; lia) fun h' F' N' => ?_
    exact k _ _ _ h' _ _ _ q (R.set F' N' (.list (lx.all.append ly.all))) (List.prefix_refl _) .none
end
end
section
/-! fields of an object -/
inductive FHas : List (Str × MV) → Str → MV → Prop
  | head {x v l} : FHas ((x, v) :: l) x v
  | tail {p l x v} : FHas l x v → FHas (p :: l) x v
inductive FPut : List (Str × MV) → Str → MV → List (Str × MV) → Prop
  | head {x o l v} : FPut ((x, o) :: l) x v ((x, v) :: l)
  | tail {p l x v l'} : FPut l x v l' → FPut (p :: l) x v (p :: l')
theorem FHas.mem {l : List (Str × MV)} {x : Str} {v : MV} (h : FHas l x v) : (x, v) ∈ l := by
  induction h with
  | head => exact .head _
  | tail _ ih => exact .tail _ ih
theorem FPut.keys {l l' : List (Str × MV)} {x : Str} {v : MV} (h : FPut l x v l') : l'.map (·.1) = l.map (·.1) := by
  induction h with
  | head => rfl
  | tail _ ih => simp [ih]
theorem FPut.isIn {l l' : List (Str × MV)} {x : Str} {v : MV} (h : FPut l x v l') : x ∈ l.map (·.1) := by
  induction h with
  | head => exact .head _
  | tail _ ih => exact .tail _ ih

section
variable {sl : Addr} {σ : List Addr}
theorem key_is {f : Str × MV} {e : DictEntry} (h : FsR sl σ f e) (x : Str) : e.key.isStr x = (f.1 == x) := by
  refine x02 h ?_; try clear h; intro hx3 _; obtain ⟨t, h⟩ := hx3
  rw [h]; rfl
theorem getL_of {x : Str} {v : MV} {fs : List (Str × MV)} {es : List DictEntry} (h : All2 (FsR sl σ) fs es) : (fs.map (·.1)).Nodup → (x, v) ∈ fs → ∃ v', getL x es = some (some v') ∧ VR sl σ v v' := by
  induction h with
  | nil => intro _ h; cases h
  | @cons f e fs es h t ih =>
    intro nd hm
    have hk := key_is h x
    rw [List.map_cons, List.nodup_cons] at nd
    unfold getL
    rw [List.find?_cons, hk]
    rcases List.mem_cons.mp hm with e1 | hm'
    · subst e1
      rw [show (x == x) = true from beq_self_eq_true _]
      exact i12 _ rfl h.2
    · have : (f.1 == x) = false := beq_eq_false_iff_ne.mpr fun hx => nd.1 (hx ▸ List.mem_map_of_mem (f := (·.1)) hm')
      rw [this]
      refine x12 (ih nd.2 hm') fun v' a b => i12 v' ?_ b
      rw [← a]
      exact x11 h.1 fun t h => by simp only [getL, List.any_cons, DictEntry.refKey, h]; rfl
theorem getL_none {x : Str} {fs : List (Str × MV)} {es : List DictEntry} (h : All2 (FsR sl σ) fs es) : x ∉ fs.map (·.1) → getL x es = some none := by
  induction h with
  | nil => intro _; rfl
  | @cons f e fs es h t ih =>
    intro hn
    have hk := key_is h x
    rw [List.map_cons, List.mem_cons] at hn
    have hx : (f.1 == x) = false := beq_eq_false_iff_ne.mpr fun q => hn (.inl q.symm)
    have ih := ih fun q => hn (.inr q)
    unfold getL at ih ⊢
    rw [List.find?_cons, hk, hx]
    have hr : e.refKey = false := x11 h.1 fun t h => by simp only [DictEntry.refKey, h]
    simpa [hr] using ih
theorem putL_of {x : Str} {v : MV} {v' : Value} {hsh : Int} {key : Value} {fs fs' : List (Str × MV)} (hp : FPut fs x v fs') : ∀ {es : List DictEntry}, All2 (FsR sl σ) fs es → (fs.map (·.1)).Nodup → VR sl σ v v' → All2 (FsR sl σ) fs' (putL x hsh key v' es) := by
  induction hp with
  | head =>
    intro es h nd r; apply h.cons'; intro e es h t
    unfold putL
    rw [if_pos (by rw [key_is h]; exact beq_self_eq_true _)]
    exact .cons ⟨h.1, r⟩ t
  | tail hp ih =>
    intro es h nd r; apply h.cons'; intro e es h t
    rw [List.map_cons, List.nodup_cons] at nd
    unfold putL
    rw [if_neg (by rw [key_is h]; exact fun q => nd.1 ((beq_iff_eq.mp q) ▸ hp.isIn))]
    exact .cons h (ih t nd.2 r)
theorem putL_new {x : Str} {v : MV} {v' : Value} {hsh : Int} {tk : Tok} {fs : List (Str × MV)} {es : List DictEntry} (h : All2 (FsR sl σ) fs es) : x ∉ fs.map (·.1) → VR sl σ v v' → All2 (FsR sl σ) (fs ++ [(x, v)]) (putL x hsh (.str x tk) v' es) := by
  induction h with
  | nil => intro _ r; exact .cons ⟨⟨_, rfl⟩, r⟩ .nil
  | cons h t ih =>
    intro hn r
    rw [List.map_cons, List.mem_cons] at hn
    unfold putL
    rw [if_neg (by rw [key_is h]; exact fun q => hn (.inl (beq_iff_eq.mp q).symm))]
    exact .cons h (ih (fun q => hn (.inr q)) r)
theorem putL_length {x : Str} {hsh : Int} {key v : Value} : ∀ es : List DictEntry, (putL x hsh key v es).length ≤ es.length + 1
  | [] => by simp [putL]
  | e :: r => by
    unfold putL
    split
    · simp
    · simp; exact putL_length r
end

theorem VR.handed {sl : Addr} {σ : List Addr} {v : MV} {a : Value} (h : VR sl σ v a) : handedIn a = true := by cases h <;> rfl

/-! what the written part says of a class -/
structure ClsOk (c : Cx) (C : Addr) : Prop where
  set : findIn c.K (.ref C) "__setattr__" = some (some (.builtin "object.__setattr__"))
  plain : plainOver c.K C = true
  dict : hasDictIn c.K C = true
  get : ∀ name, plainGet c.K C name = true
/-- a name that no class of the object bears -/
structure FldOk (c : Cx) (C : Addr) (name : Str) : Prop where
  find : findIn c.K (.ref C) name = some none
  take : takerIn c.K C name = some none
structure MthOk (c : Cx) (C : Addr) (name : Str) (f : Addr) : Prop where
  find : findIn c.K (.ref C) name = some (some (.ref f))
  fn : isFn c.K (.ref f) = true
  keep : keepIn c.K (.ref f) = true

section
variable {c : Cx} {n : Nat} {sc : Scope} {r : RR} {m : Str → Option Value} {cs : Led} {s : Shared} {σ : List Addr} {os : List Obj} {loc : Loc} {H : List MO}

structure IObj (c : Cx) (r : RR) (cs : Led) (h : Heap) (σ : List Addr) (os : List Obj) (d C : Addr) (dk : Nat) (fs : List (Str × MV)) (x dx : Addr) (es : List DictEntry) (e : Nat) : Prop where
  at_ : InstAt h x (instObj C dx) C (some (dictOf es e))
  dat : σ[dk]? = some dx
  dob : os[dk]? = some (dictOf es e)
  all : All2 (FsR c.sl σ) fs es
  nd : (fs.map (·.1)).Nodup
theorem Rel.inst' {h : Heap} {k d : Nat} {C : Addr} {fs : List (Str × MV)} {P : Value → Prop} (R : Rel c n sc r m cs h σ os loc H) (e : H[k]? = some (.inst C d)) (ed : H[d]? = some (.ns fs)) {a : Value} (v : VR c.sl σ (.ref k) a)
    (f : ∀ x dx es ep, IObj c r cs h σ os 0 C d fs x dx es ep → P (.ref x)) : P a := by
  apply v.refE'; intro x hx
  refine R.N.obj' e fun y o hy ho hr hm => ?_
  apply same_at hy hx
  clear ho
  revert hm
  apply hr.instE; intro dx hd hm
  refine R.N.obj' ed fun z o hz ho hr' hm' => ?_
  have hm'' := same_at (P := fun z => (z, o) ∈ _) hz hd hm'
  clear hm'
  revert ho hm''
  apply hr'.nsE; intro es n all nd ho hm'
  exact f y dx es n ⟨InstAt.of_news R.N.news hm hm', hd, ho, all, nd⟩
theorem Rel.inst {h : Heap} {k d : Nat} {C : Addr} {fs : List (Str × MV)} (R : Rel c n sc r m cs h σ os loc H) (e : H[k]? = some (.inst C d)) (ed : H[d]? = some (.ns fs)) {a : Value} (v : VR c.sl σ (.ref k) a) :
    ∃ x dx es ep, a = .ref x ∧ IObj c r cs h σ os 0 C d fs x dx es ep := by
  apply R.inst' e ed v; intro x dx es ep I; exact i42 x dx es ep rfl I

theorem Get.field {k d : Nat} {C : Addr} {fs : List (Str × MV)} {name : Str} {v : MV} {Q : Post MV} (e : H[k]? = some (.inst C d)) (ed : H[d]? = some (.ns fs)) (hv : FHas fs name v) (ok : ClsOk c C) (fo : FldOk c C name) (q : Q v H) :
    Get c n name (.ref k) H Q := by
  intro sc r m cs s σ os loc as Φ E R h kk
  apply h.one'; intro x hx
  apply R.inst' e ed hx; intro x dx es ep I
  refine x12 (getL_of I.all I.nd hv.mem) fun v' hl hr => ?_
  exact get_own R.F R.K I.at_ (ok.get _) ok.dict fo.find rfl hl hr.handed (kk _ H _ _ _ σ os q R (List.prefix_refl _) hr)

/-- a store into a field -/
noncomputable def Set (c : Cx) (n : Nat) (name : Str) (a v : MV) (H : List MO) (Q : List MO → Prop) : Prop := Op c n (fun as => setAttr (at0 as) name (at1 as)) (fun _ (_ : Unit) (_ : Unit) => True) [a, v] H (fun _ H' => Q H')
theorem Set.put {k d : Nat} {C : Addr} {fs fs' : List (Str × MV)} {name : Str} {v : MV} {Q : List MO → Prop} (e : H[k]? = some (.inst C d)) (ed : H[d]? = some (.ns fs)) (hv : FPut fs name v fs') (ok : ClsOk c C) (fo : FldOk c C name) (hz : fs.length ≤ 900) (q : Q (H.set d (.ns fs'))) :
    Set c n name (.ref k) v H Q := by
  intro sc r m cs s σ os loc as Φ E R h kk
  apply h.two'; intro x y hx hy
  apply R.inst' e ed hx; intro x dx es ep I
  obtain ⟨o, hm⟩ : ∃ o, (name, o) ∈ fs := by
    have := hv.isIn
    refine x12 (List.mem_map.mp this) fun p hp eq4 => ?_; subst eq4
    exact ⟨_, hp⟩
  refine x12 (getL_of I.all I.nd hm) fun v' hl hr => ?_
  refine set_dict (s := s) R.F R.K R.N.news I.at_ rfl ok.set ok.plain fo.take ok.dict (by rw [hl]; rfl) rfl (R.N.upd I.dat I.dob) ?_ fun h' F' N' => ?_
  · exact Nat.le_trans (putL_length _) (by have := I.all.length; lia)
  · exact kk () _ () h' _ _ _ q (R.set F' N' (.ns (putL_of hv I.all I.nd hy) (by rw [hv.keys]; exact I.nd))) (List.prefix_refl _) trivial
theorem Set.new {k d : Nat} {C : Addr} {fs : List (Str × MV)} {name : Str} {v : MV} {Q : List MO → Prop} (e : H[k]? = some (.inst C d)) (ed : H[d]? = some (.ns fs)) (hv : name ∉ fs.map (·.1)) (ok : ClsOk c C) (fo : FldOk c C name) (hz : fs.length ≤ 900) (q : Q (H.set d (.ns (fs ++ [(name, v)])))) :
    Set c n name (.ref k) v H Q := by
  intro sc r m cs s σ os loc as Φ E R h kk
  apply h.two'; intro x y hx hy
  apply R.inst' e ed hx; intro x dx es ep I
  refine set_dict (s := s) R.F R.K R.N.news I.at_ rfl ok.set ok.plain fo.take ok.dict (by rw [getL_none I.all hv]; rfl) rfl (R.N.upd I.dat I.dob) ?_ fun h' F' N' => ?_
  · exact Nat.le_trans (putL_length _) (by have := I.all.length; lia)
  · refine kk () _ () h' _ _ _ q (R.set F' N' (.ns (putL_new I.all hv hy) ?_)) (List.prefix_refl _) trivial
    rw [List.map_append, List.nodup_append]
    exact i03 I.nd (by simp) (fun a ha b hb e => hv (by simp at hb; rw [← hb, ← e]; exact ha))

/-! method calls -/
theorem Ev.mcall {o name apos e es pos} {k d : Nat} {C f : Addr} {fs : List (Str × MV)} {Q : Post MV} {pl : Env → Sem Bool}
    (h : Ev c n sc o loc H fun ov H₁ => ∃ k C d fs f, ov = .ref k ∧ H₁[k]? = some (.inst C d) ∧ H₁[d]? = some (.ns fs) ∧ name ∉ fs.map (·.1) ∧ ClsOk c C ∧ MthOk c C name f ∧ Evs c n sc pos (e :: es) loc H₁ fun vs H₂ => Cl c n (.ref f) (.ref k :: vs) H₂ Q)
    (hp : ∀ env, eval (.Call (.Attribute o name apos) (e :: es) [] pos) env = (do
      let ov ← eval o env
      standAt apos.atName
      let (f, first) ← holding [ov] (getMethod ov name (pl env))
      callWith pos f first (backTo pos (starEach (e :: es) env)) []) := by (intro _; with_unfolding_all rfl))
    (he : ∀ env, starEach (e :: es) env = (false, eval e env) :: starEach es env := by (intro _; with_unfolding_all rfl)) (hpl : ∀ env, (backTo pos (starEach es env)).any (·.1) = false := by (intro _; with_unfolding_all rfl)) :
    Ev c n sc (.Call (.Attribute o name apos) (e :: es) [] pos) loc H Q := by
  intro r m cs s σ os Φ E R k
  refine MethodCall_ (pl := pl r.env) (h r m cs s σ os _ E R fun a H₁ a' h₁ t₁ σ₁ os₁ q₁ R₁ p₁ v₁ => ?_) (hp r.env)
  refine x57 q₁ ?_
  clear q₁; intro j C d fs f eq ej ed hn ok mo q₁
  subst eq
  have w := v₁; revert w; apply R₁.inst' ej ed v₁; intro x dx es' ep I w
  refine method_inst R₁.F R₁.K I.at_ (ok.get _) mo.find mo.fn (getL_none I.all hn) (callWith_K R₁.K mo.keep (q₁ r m cs _ σ₁ os₁ _ E R₁ fun vs H₂ vs' h₂ t₂ σ₂ os₂ q₂ R₂ p₂ v₂ => ⟨R₂.Kh, ?_⟩) (he r.env) (hpl r.env))
  exact q₂ sc r m cs _ σ₂ os₂ loc _ _ E R₂ (.cons (w.mono p₂) v₂) fun v H' v' h' t' σ' os' q' R' p' v'' => k v H' v' h' t' σ' os' q' R' ((p₁.trans p₂).trans p') v''
theorem Ev.mcall0 {o name apos pos} {Q : Post MV} {pl : Env → Sem Bool}
    (h : Ev c n sc o loc H fun ov H₁ => ∃ k C d fs f, ov = .ref k ∧ H₁[k]? = some (.inst C d) ∧ H₁[d]? = some (.ns fs) ∧ name ∉ fs.map (·.1) ∧ ClsOk c C ∧ MthOk c C name f ∧ Cl c n (.ref f) [.ref k] H₁ Q)
    (hp : ∀ env, eval (.Call (.Attribute o name apos) [] [] pos) env = (do
      let ov ← eval o env
      standAt apos.atName
      let (f, first) ← holding [ov] (getMethod ov name (pl env))
      callWith pos f first (backTo pos (starEach [] env)) []) := by (intro _; with_unfolding_all rfl)) :
    Ev c n sc (.Call (.Attribute o name apos) [] [] pos) loc H Q := by
  intro r m cs s σ os Φ E R k
  refine MethodCall_ (pl := pl r.env) (h r m cs s σ os _ E R fun a H₁ a' h₁ t₁ σ₁ os₁ q₁ R₁ p₁ v₁ => ?_) (hp r.env)
  refine x57 q₁ ?_
  clear q₁; intro j C d fs f eq ej ed hn ok mo q₁
  subst eq
  have w := v₁; revert w; apply R₁.inst' ej ed v₁; intro x dx es' ep I w
  refine method_inst R₁.F R₁.K I.at_ (ok.get _) mo.find mo.fn (getL_none I.all hn) (callWith_K0 R₁.Kh mo.keep ?_)
  exact q₁ sc r m cs _ σ₁ os₁ loc _ _ E R₁ (.cons w .nil) fun v H' v' h' t' σ' os' q' R' p' v'' => k v H' v' h' t' σ' os' q' R' (p₁.trans p') v''
/-- a method of a list -/
theorem Ev.lcall {o name apos e es pos} {id : String} (slot : Slot "list" name id) (hty : typeOf (.builtin id) = pure (.type "method_descriptor")) {Q : Post MV} {pl : Env → Sem Bool}
    (h : Ev c n sc o loc H fun ov H₁ => ∃ k its, ov = .ref k ∧ H₁[k]? = some (.list its) ∧ Evs c n sc pos (e :: es) loc H₁ fun vs H₂ => Cl c n (.builtin id) (.ref k :: vs) H₂ Q)
    (hp : ∀ env, eval (.Call (.Attribute o name apos) (e :: es) [] pos) env = (do
      let ov ← eval o env
      standAt apos.atName
      let (f, first) ← holding [ov] (getMethod ov name (pl env))
      callWith pos f first (backTo pos (starEach (e :: es) env)) []) := by (intro _; with_unfolding_all rfl))
    (he : ∀ env, starEach (e :: es) env = (false, eval e env) :: starEach es env := by (intro _; with_unfolding_all rfl)) (hpl : ∀ env, (backTo pos (starEach es env)).any (·.1) = false := by (intro _; with_unfolding_all rfl)) :
    Ev c n sc (.Call (.Attribute o name apos) (e :: es) [] pos) loc H Q := by
  intro r m cs s σ os Φ E R k
  refine MethodCall_ (pl := pl r.env) (h r m cs s σ os _ E R fun a H₁ a' h₁ t₁ σ₁ os₁ q₁ R₁ p₁ v₁ => ?_) (hp r.env)
  refine x23 q₁ ?_
  clear q₁; intro j its eq ej q₁
  subst eq
  apply R₁.lst' ej v₁; intro x vs ep lx
  refine listMethod_K R₁.N.news lx.mem slot hty (callWith_method1 (q₁ r m cs _ σ₁ os₁ _ E R₁ fun vs H₂ vs' h₂ t₂ σ₂ os₂ q₂ R₂ p₂ v₂ => ?_) (he r.env) (hpl r.env))
  exact q₂ sc r m cs _ σ₂ os₂ loc _ _ E R₂ (.cons (VR.mono p₂ (.ref lx.at_)) v₂) fun v H' v' h' t' σ' os' q' R' p' v'' => k v H' v' h' t' σ' os' q' R' ((p₁.trans p₂).trans p') v''
end

/-! statements -/
inductive MF where
  | next | brk | cont
  | ret (v : MV)
inductive FlR (sl : Addr) (σ : List Addr) : MF → Flow → Prop
  | next : FlR sl σ .next .next
  | brk : FlR sl σ .brk .brk
  | cont : FlR sl σ .cont .cont
  | ret {v a} : VR sl σ v a → FlR sl σ (.ret v) (.ret a)
structure RelF (c : Cx) (n : Nat) (sc : Scope) (r : RR) (m : Str → Option Value) (cs : Led) (h : Heap) (σ : List Addr) (os : List Obj) (loc : Loc) (H : List MO) : Prop extends Rel c n sc r m cs h σ os loc H where
  ef : r.env = r.fenv
  el : r.env.locals = r.L
  slots : ∀ y o, (y, o) ∈ loc → r.env.kindOf y = some .local ∨ (r.env.kindOf y = some .cell ∧ ∃ a ob w, r.env.cells.lookup y = some a ∧ (a, ob) ∈ cs ∧ ob.data = .cell w)
  cinj : ∀ y z a, r.env.cells.lookup y = some a → r.env.cells.lookup z = some a → y = z
noncomputable abbrev PostF := MF → Loc → List MO → Prop
noncomputable abbrev KF (c : Cx) (n : Nat) (sc : Scope) (r : RR) (cs : Led) (s : Shared) (σ : List Addr) (Q : PostF) (Φ : Flow → Shared → Prop) : Prop :=
  ∀ fl loc' H' fl' m' cs' h' tk' σ' os', Q fl loc' H' → RelF c n sc r m' cs' h' σ' os' loc' H' → cs'.map (·.1) = cs.map (·.1) → σ <+: σ' → FlR c.sl σ' fl fl' → Φ fl' { s with heap := h', toks := tk' }
noncomputable def ExT (c : Cx) (n : Nat) (sc : Scope) (t : Env → Sem Flow) (loc : Loc) (H : List MO) (Q : PostF) : Prop :=
  ∀ (r : RR) (m : Str → Option Value) (cs : Led) (s : Shared) (σ : List Addr) (os : List Obj) (Φ : Flow → Shared → Prop) (E : Value → Shared → Prop),
    RelF c n sc r m cs s.heap σ os loc H →
    KF c n sc r cs s σ Q Φ →
    wpAny (model c.prog c.w) r.A (t r.env) Φ E s
noncomputable def Ex (c : Cx) (n : Nat) (sc : Scope) (b : List Stmt) (loc : Loc) (H : List MO) (Q : PostF) : Prop := ExT c n sc (execs b) loc H Q
noncomputable def Ex1 (c : Cx) (n : Nat) (sc : Scope) (b : Stmt) (loc : Loc) (H : List MO) (Q : PostF) : Prop := ExT c n sc (exec b) loc H Q

inductive Put : Loc → Str → MV → Loc → Prop
  | head {x o l v} : Put ((x, o) :: l) x v ((x, some v) :: l)
  | tail {p l x v l'} : Put l x v l' → Put (p :: l) x v (p :: l')
theorem Put.keys {l l' : Loc} {x : Str} {v : MV} (h : Put l x v l') : l'.map (·.1) = l.map (·.1) := by
  induction h with
  | head => rfl
  | tail _ ih => simp [ih]
theorem Put.old {l l' : Loc} {x : Str} {v : MV} (h : Put l x v l') : ∃ o, (x, o) ∈ l := by
  induction h with
  | head => exact ⟨_, .head _⟩
  | tail _ ih => exact ⟨_, .tail _ ih.choose_spec⟩
theorem Put.inv {l l' : Loc} {x : Str} {v : MV} (h : Put l x v l') (nd : (l.map (·.1)).Nodup) : ∀ {y : Str} {w : Option MV}, (y, w) ∈ l' → (y = x ∧ w = some v) ∨ (y ≠ x ∧ (y, w) ∈ l) := by
  induction h with
  | head =>
    intro y w hm
    rw [List.map_cons, List.nodup_cons] at nd
    rcases List.mem_cons.mp hm with e | hm'
    · cases e; exact .inl ⟨rfl, rfl⟩
    · exact .inr ⟨fun e => nd.1 (e ▸ List.mem_map_of_mem (f := (·.1)) hm'), .tail _ hm'⟩
  | tail hp ih =>
    intro y w hm
    rw [List.map_cons, List.nodup_cons] at nd
    rcases List.mem_cons.mp hm with e | hm
    · subst e
      refine x11 hp.old fun o ho => ?_
      exact .inr ⟨fun e => nd.1 (e ▸ List.mem_map_of_mem (f := (·.1)) ho), .head _⟩
    · rcases ih nd.2 hm with h | ⟨h, h'⟩
      · exact .inl h
      · exact .inr ⟨h, .tail _ h'⟩

theorem nodup_eq {l : Led} (nd : (l.map (·.1)).Nodup) {a : Addr} {o o' : Obj} (h1 : (a, o) ∈ l) (h2 : (a, o') ∈ l) : o = o' := by
  induction l with
  | nil => cases h1
  | cons p l ih =>
    rw [List.map_cons, List.nodup_cons] at nd
    rcases List.mem_cons.mp h1 with e1 | h1' <;> rcases List.mem_cons.mp h2 with e2 | h2'
    · rw [← e2] at e1; cases e1; rfl
    · exact absurd (by rw [← e1]; exact List.mem_map_of_mem (f := (·.1)) h2') nd.1
    · exact absurd (by rw [← e2]; exact List.mem_map_of_mem (f := (·.1)) h1') nd.1
    · exact ih nd.2 h1' h2'
theorem HR.turnY {sl : Addr} {h₀ h h' : Heap} {L : Addr} {cs Y Y' X : Led} {σ : List Addr} {H : List MO} {os : List Obj} (R : HR sl h₀ L h (cs ++ (Y ++ X)) σ H os) (e : Y'.map (·.1) = Y.map (·.1)) (hY : ∀ p ∈ Y', h'.get? p.1 = some p.2)
    (hk : ∀ b o, b ∉ Y.map (·.1) → h.get? b = some o → h'.get? b = some o) : HR sl h₀ L h' (cs ++ (Y' ++ X)) σ H os := by
  have e2 : (cs ++ (Y' ++ X)).map (·.1) = (cs ++ (Y ++ X)).map (·.1) := by simp [e]
  have nd : ((cs ++ (Y ++ X)).map (·.1) ++ σ).Nodup := R.nd
  refine ⟨fun p hp => ?_, R.objs, R.len, by rw [e2]; exact nd⟩
  have nd' : (((cs ++ (Y' ++ X)) ++ σ.zip os).map (·.1)).Nodup := by rw [List.map_append, map_fst_zip R.len, e2]; exact nd
  by_cases hpY : p.1 ∈ Y.map (·.1)
  · have hpY' : p.1 ∈ Y'.map (·.1) := by rw [e]; exact hpY
    refine hold fun Xh oh => ?_
    refine x12 (List.mem_map.mp hpY') fun q hq eq => ?_
    have : q.2 = p.2 := nodup_eq (l := (cs ++ (Y' ++ X)) ++ σ.zip os) nd' (a := p.1) (by rw [← eq]; simp [hq]) hp
    refine x12 (List.mem_map.mp hpY) fun q' hq' eq' => ?_
    have N := R.news q' (by simp [hq'])
    rw [eq'] at N
    refine oh ?_
    refine ⟨?_, N.2⟩
    have h1 := hY q hq
    rw [eq, this] at h1; exact h1
  · have hp' : p ∈ (cs ++ (Y ++ X)) ++ σ.zip os := by
      simp only [List.append_assoc, List.mem_append] at hp ⊢
      rcases hp with h1 | h1 | h1 | h1
      · exact .inl h1
      · exact absurd (e ▸ List.mem_map_of_mem (f := (·.1)) h1) hpY
      · exact .inr (.inr (.inl h1))
      · exact .inr (.inr (.inr h1))
    have := R.news p hp'
    exact ⟨hk _ _ hpY this.1, this.2⟩
theorem HR.turn {sl : Addr} {h₀ h h' : Heap} {L : Addr} {cs X : Led} {σ : List Addr} {H : List MO} {os : List Obj} {oI oI' : Obj} (R : HR sl h₀ L h (cs ++ (I, oI) :: X) σ H os) (hI : h'.get? I = some oI') (hk : ∀ b o, b ≠ I → h.get? b = some o → h'.get? b = some o) :
    HR sl h₀ L h' (cs ++ (I, oI') :: X) σ H os :=
  HR.turnY (Y := [(I, oI)]) (Y' := [(I, oI')]) R rfl (fun p hp => by
    cases hp with
    | head => exact hI
    | tail _ h => cases h) fun b o hb => hk b o (fun q => hb (q ▸ .head _))
theorem set_in {cs : Led} {a : Addr} {ob ob' : Obj} (hm : (a, ob) ∈ cs) : ∃ cs' : Led, cs'.map (·.1) = cs.map (·.1) ∧ (a, ob') ∈ cs' ∧ (∀ p ∈ cs, p.1 ≠ a → p ∈ cs') ∧
    ∀ (sl : Addr) (h₀ : Heap) (L : Addr) (h h' : Heap) (X : Led) (σ : List Addr) (H : List MO) (os : List Obj), HR sl h₀ L h (cs ++ X) σ H os → h'.get? a = some ob' → (∀ b o, b ≠ a → h.get? b = some o → h'.get? b = some o) → HR sl h₀ L h' (cs' ++ X) σ H os := by
  refine x21 (List.append_of_mem hm) fun l l' eq5 => ?_; subst eq5
  refine i14 (l ++ (a, ob') :: l') (by rw [List.map_append, List.map_append]; rfl) (List.mem_append_right _ (.head _)) (fun p hp hn => ?_) (fun sl h₀ L h h' X σ H os R h1 hk => ?_)
  · rcases List.mem_append.mp hp with h | h
    · exact List.mem_append_left _ h
    · cases h with
      | head => exact absurd rfl hn
      | tail _ h => exact List.mem_append_right _ (.tail _ h)
  · rw [List.append_assoc] at R ⊢
    exact HR.turn R h1 hk
theorem VarAt.imp {r : RR} {m m' : Str → Option Value} {X X' : Led} {y : Str} {v : Value} (h : VarAt r m X y v) (h1 : m y = some v → m' y = some v) (h2 : ∀ o es ep, (r.env.locals, o) ∈ X → o.data = .dict es ep → StrKeys es → nsFind es y = some v → ∃ o es ep, (r.env.locals, o) ∈ X' ∧ o.data = .dict es ep ∧ StrKeys es ∧ nsFind es y = some v)
    (h3 : ∀ a o, r.env.cells.lookup y = some a → (a, o) ∈ X → o.data = .cell (some v) → (a, o) ∈ X') : VarAt r m' X' y v :=
  Or.imp (fun h => ⟨h.1, h.2.imp (fun e => ⟨e.1, h1 e.2⟩) fun ⟨o, es, ep, a, b, c, d⟩ => h2 o es ep a b c d⟩) (fun ⟨ky, a, o, hl, hm, hd⟩ => And.intro ky (i23 a o hl (h3 a o hl hm hd) hd)) h
theorem vars_put {sl : Addr} {σ : List Addr} {r : RR} {m m' : Str → Option Value} {X X' : Led} {loc loc' : Loc} {x : Str} {v : MV} {v' : Value} (hp : Put loc x v loc') (nd : (loc.map (·.1)).Nodup) (vars : ∀ y u, (y, some u) ∈ loc → ∃ v', VR sl σ u v' ∧ VarAt r m X y v')
    (mono : ∀ y w, y ≠ x → VarAt r m X y w → VarAt r m' X' y w) (hv : VR sl σ v v') (new : VarAt r m' X' x v') : ∀ y u, (y, some u) ∈ loc' → ∃ v', VR sl σ u v' ∧ VarAt r m' X' y v' :=
  fun y u hy => (hp.inv nd hy).elim (fun e => i12 v' (Option.some.inj e.2 ▸ hv) (e.1.symm ▸ new)) fun e => (vars y u e.2).imp fun w h => ⟨h.1, mono y w e.1 h.2⟩
section
variable {c : Cx} {n : Nat} {sc : Scope} {r : RR} {m : Str → Option Value} {cs : Led} {s : Shared} {σ : List Addr} {os : List Obj} {loc loc' : Loc} {H : List MO}

theorem RelF.of {h' : Heap} {σ' : List Addr} {os' : List Obj} {H' : List MO} {h : Heap} (R : RelF c n sc r m cs h σ os loc H) (R' : Rel c n sc r m cs h' σ' os' loc H') : RelF c n sc r m cs h' σ' os' loc H' :=
  { R' with ef := R.ef, el := R.el, slots := R.slots, cinj := R.cinj }

/-- a name stored -/
theorem store_var {x : Str} {v : MV} {v' : Value} {Φ : Unit → Shared → Prop} {E : Value → Shared → Prop} {M : Model} (R : RelF c n sc r m cs s.heap σ os loc H) (hp : Put loc x v loc') (hv : VR c.sl σ v v')
    (k : ∀ m' cs' h' tk', RelF c n sc r m' cs' h' σ os loc' H → cs'.map (·.1) = cs.map (·.1) → Φ () { s with heap := h', toks := tk' }) : wpAny M r.A (storeName r.env x v') Φ E s := by
  have ek : r.env.scope.kind = .function := R.es ▸ R.ek
  refine hold fun Xh oh => ?_
  refine x11 hp.old fun o ho => ?_
  rcases R.slots x o ho with hk | ⟨hk, a, ob, w, hl, hm, hd⟩
  · refine oh (wpAny_storeName_local hk (R.el ▸ R.F.ns) (fun h' hn hs => ?_) (by rw [ek]; rfl))
    rw [R.el] at hn hs
    refine k (fun y => if y = x then some v' else m y) cs h' _ ?_ rfl
    exact { toRel := { R.toRel with F := R.F.set hn hs, N := R.N.of_news (R.N.news.set hs), vars := vars_put hp R.nd R.vars (fun y w ne h => h.imp (fun e => (if_neg ne).trans e) (fun o es ep h _ _ _ => absurd R.el (R.N.news _ (List.mem_append_left _ h)).2.1) (fun _ _ _ h _ => h)) hv (.inl ⟨hk, .inl ⟨R.el, if_pos rfl⟩⟩), nd := hp.keys ▸ R.nd }, ef := R.ef, el := R.el, slots := fun y u hy => (hp.inv R.nd hy).elim (fun e => .inl (e.1 ▸ hk)) (fun e => R.slots y u e.2), cinj := R.cinj }
  · have ha := R.N.news (a, ob) (List.mem_append_left _ (List.mem_append_left _ hm))
    refine oh (wpAny_storeName_cell ek hk hl (i12 ob ha.1 hd) fun h' hc hs => ?_)
    refine x12 hc ?_; try clear hc; intro ob' hob' hd'
    refine x14 (set_in (ob' := ob') hm) fun cs' hcs hm' hin hN => ?_
    have F' : Fr r.h₀ r.L h' m := ⟨R.F.ns.sameBut hs (Ne.symm ha.2.1), fun b o e => (hs.2 b (fun q => by rw [q, ha.2.2] at e; cases e)).trans (R.F.keep b o e), R.F.above⟩
    refine k m cs' h' _ ?_ hcs
    exact { toRel := { R.toRel with F := F', N := (hN _ _ _ _ _ _ _ _ _ R.N hob' fun b o hb e => (hs.2 b hb).trans e), vars := vars_put hp R.nd R.vars (fun y w ne h => h.imp id (fun o es ep h _ _ _ => absurd R.el (R.N.news _ (List.mem_append_left _ h)).2.1) (fun b o hb h _ => (List.mem_append.mp h).elim (fun h => List.mem_append_left _ (hin _ h fun e => ne (R.cinj y x b hb (hl.trans (congrArg some e.symm))))) (List.mem_append_right _))) hv (.inr (And.intro hk (i23 a ob' hl (List.mem_append_left _ hm') hd'))), nd := hp.keys ▸ R.nd }, ef := R.ef, el := R.el, slots := fun y u hy => (hp.inv R.nd hy).elim (fun e => .inr (And.intro (e.1 ▸ hk) (i33 a ob' _ (e.1 ▸ hl) hm' hd'))) (fun e => (R.slots y u e.2).imp id fun ⟨h1, b, o', w', h2, h3, h4⟩ => ⟨h1, (Classical.em (b = a)).elim (fun e => i33 a ob' _ (h2.trans (congrArg some e)) hm' hd') fun e => i33 b o' w' h2 (hin _ h3 e) h4⟩), cinj := R.cinj }
end
end
section
noncomputable abbrev AsgP (loc : Loc) (x : Str) (Q : PostF) : Post MV := fun v H => ∃ loc', Put loc x v loc' ∧ Q .next loc' H
noncomputable abbrev NextP (loc : Loc) (Q : PostF) : List MO → Prop := fun H => Q .next loc H
noncomputable abbrev SetaR (c : Cx) (n : Nat) (attr : Str) (v : MV) (loc : Loc) (Q : PostF) : Post MV := fun ov H => Set c n attr ov v H (NextP loc Q)
noncomputable abbrev SetaL (c : Cx) (n : Nat) (sc : Scope) (o : Expr) (attr : Str) (loc : Loc) (Q : PostF) : Post MV := fun v H => Ev c n sc o loc H (SetaR c n attr v loc Q)
noncomputable abbrev RetP (loc : Loc) (Q : PostF) : Post MV := fun v H => Q (.ret v) loc H
noncomputable abbrev ExprP (loc : Loc) (Q : PostF) : Post MV := fun _ H => Q .next loc H
noncomputable abbrev IteP (c : Cx) (n : Nat) (sc : Scope) (a b : List Stmt) (loc : Loc) (Q : PostF) : Post Bool := fun x H => (x = true → Ex c n sc a loc H Q) ∧ (x = false → Ex c n sc b loc H Q)
section
variable {c : Cx} {n : Nat} {sc : Scope} {loc loc' : Loc} {H : List MO}
theorem ExT.mono {t : Env → Sem Flow} {Q Q' : PostF} (h : ExT c n sc t loc H Q) (q : ∀ f l H', Q f l H' → Q' f l H') : ExT c n sc t loc H Q' :=
  fun r m cs s σ os Φ E R k => h r m cs s σ os Φ E R fun fl loc' H' fl' m' cs' h' tk' σ' os' p => k fl loc' H' fl' m' cs' h' tk' σ' os' (q _ _ _ p)
theorem Ex.nil {Q : PostF} (q : Q .next loc H) : Ex c n sc [] loc H Q :=
  fun r m cs s σ os Φ E R k => wpAny_execs_nil (k _ _ _ _ m cs _ s.toks σ os q R rfl (List.prefix_refl _) .next)
noncomputable def Seq (c : Cx) (n : Nat) (sc : Scope) (rest : List Stmt) (Q : PostF) : PostF := fun fl loc H => match fl with
  | .next => Ex c n sc rest loc H Q
  | fl => Q fl loc H
theorem Ex.cons {st rest} {Q : PostF} (h : Ex1 c n sc st loc H (Seq c n sc rest Q)) : Ex c n sc (st :: rest) loc H Q := by
  intro r m cs s σ os Φ E R k
  refine wpAny_execs_cons (h r m cs s σ os _ E R fun fl loc' H' fl' m' cs' h' tk' σ' os' q R' ec p f => ?_)
  cases f with
  | next => exact q r m' cs' _ σ' os' Φ E R' fun fl l2 H2 fl2 m2 cs2 h2 tk2 σ2 os2 q2 R2 ec2 p2 f2 => k fl l2 H2 fl2 m2 cs2 h2 tk2 σ2 os2 q2 R2 (ec2.trans ec) (p.trans p2) f2
  | brk => exact k _ _ _ _ m' cs' h' tk' σ' os' q R' ec p .brk
  | cont => exact k _ _ _ _ m' cs' h' tk' σ' os' q R' ec p .cont
  | ret hv => exact k _ _ _ _ m' cs' h' tk' σ' os' q R' ec p (.ret hv)
/-- an expression, then the rest of a statement -/
theorem exOf {α β : Type} {t : Env → Sem α} {rel : List Addr → β → α → Prop} {Q : Post β} {r : RR} {m : Str → Option Value} {cs : Led} {s : Shared} {σ : List Addr} {os : List Obj} {Φ : α → Shared → Prop} {E : Value → Shared → Prop}
    (h : Run c n sc t rel loc H Q) (R : RelF c n sc r m cs s.heap σ os loc H)
    (k : ∀ v H' v' h' tk' σ' os', Q v H' → RelF c n sc r m cs h' σ' os' loc H' → σ <+: σ' → rel σ' v v' → Φ v' { s with heap := h', toks := tk' }) : wpAny (model c.prog c.w) r.A (t r.env) Φ E s :=
  h r m cs s σ os Φ E R.toRel fun v H' v' h' tk' σ' os' q R' p rv => k v H' v' h' tk' σ' os' q (R.of R') p rv
theorem Ex1.assign {x px value pos} {Q : PostF} (h : Ev c n sc value loc H (AsgP loc x Q))
    (hs : ∀ env, swapsWith value (some (.Name x px)) pos.line env = pure false := by (intro _; with_unfolding_all rfl)) : Ex1 c n sc (.Assign [.Name x px] value pos) loc H Q := by
  intro r m cs s σ os Φ E R k
  refine wpAny_Assign_Name (exOf h R fun v H₁ v' h₁ t₁ σ₁ os₁ q₁ R₁ p₁ v₁ => ?_) (hs r.env)
  refine x12 q₁ ?_; try clear q₁; intro loc' hp q
  exact store_var R₁ hp v₁ fun m' cs' h' tk' R' ec => k _ _ _ _ m' cs' h' tk' σ₁ os₁ q R' ec p₁ .next
theorem Ex1.setattr {o attr pa value pos} {Q : PostF} (h : Ev c n sc value loc H (SetaL c n sc o attr loc Q))
    (hs : ∀ env, swapsWith value (some (.Attribute o attr pa)) pos.line env = pure false := by (intro _; with_unfolding_all rfl)) : Ex1 c n sc (.Assign [.Attribute o attr pa] value pos) loc H Q := by
  intro r m cs s σ os Φ E R k
  refine plainObj_wpAny_Assign_Attribute (exOf h R fun v H₁ v' h₁ t₁ σ₁ os₁ q₁ R₁ p₁ v₁ => exOf q₁ R₁ fun w H₂ w' h₂ t₂ σ₂ os₂ q₂ R₂ p₂ v₂ => ?_) (hs r.env)
  exact q₂ sc r m cs _ σ₂ os₂ loc [w', v'] _ E R₂.toRel (.cons v₂ (.cons (v₁.mono p₂) .nil)) fun _ H₃ _ h₃ t₃ σ₃ os₃ q₃ R₃ p₃ _ => k _ _ _ _ m cs h₃ t₃ σ₃ os₃ q₃ (R₂.of R₃) rfl ((p₁.trans p₂).trans p₃) .next
noncomputable def SetI (c : Cx) (n : Nat) (a i v : MV) (H : List MO) (Q : List MO → Prop) : Prop := Op c n (fun as => setItem (at0 as) (at1 as) (at2 as)) (fun _ (_ : Unit) (_ : Unit) => True) [a, i, v] H (fun _ H' => Q H')
theorem Ex1.setitem {o i pa value pos} {Q : PostF} (h : Ev c n sc value loc H fun v H₁ => Ev c n sc o loc H₁ fun ov H₂ => Ev c n sc i loc H₂ fun iv H₃ => SetI c n ov iv v H₃ fun H₄ => Q .next loc H₄)
    (hs : ∀ env, swapsWith value (some (.Subscript o i pa)) pos.line env = pure false := by (intro _; with_unfolding_all rfl)) : Ex1 c n sc (.Assign [.Subscript o i pa] value pos) loc H Q := by
  intro r m cs s σ os Φ E R k
  refine wpAny_Assign_Subscript (exOf h R fun v H₁ v' h₁ t₁ σ₁ os₁ q₁ R₁ p₁ v₁ => exOf q₁ R₁ fun w H₂ w' h₂ t₂ σ₂ os₂ q₂ R₂ p₂ v₂ => exOf q₂ R₂ fun u H₃ u' h₃ t₃ σ₃ os₃ q₃ R₃ p₃ v₃ => ?_) (hs r.env)
  exact q₃ sc r m cs _ σ₃ os₃ loc [w', u', v'] _ E R₃.toRel (.cons (v₂.mono p₃) (.cons v₃ (.cons (v₁.mono (p₂.trans p₃)) .nil))) fun _ H₄ _ h₄ t₄ σ₄ os₄ q₄ R₄ p₄ _ => k _ _ _ _ m cs h₄ t₄ σ₄ os₄ q₄ (R₃.of R₄) rfl (((p₁.trans p₂).trans p₃).trans p₄) .next
theorem Ex1.ret {e pos} {Q : PostF} (h : Ev c n sc e loc H (RetP loc Q)) : Ex1 c n sc (.Return (some e) pos) loc H Q := by
  intro r m cs s σ os Φ E R k
  exact wpAny_Return_some (exOf h R fun v H₁ v' h₁ t₁ σ₁ os₁ q₁ R₁ p₁ v₁ => k _ _ _ _ m cs h₁ t₁ σ₁ os₁ q₁ R₁ rfl p₁ (.ret v₁))
theorem Ex1.ret0 {pos} {Q : PostF} (q : Q (.ret .none) loc H) : Ex1 c n sc (.Return none pos) loc H Q :=
  fun r m cs s σ os Φ E R k => wpAny_Return_none (k _ _ _ _ m cs _ s.toks σ os q R rfl (List.prefix_refl _) (.ret .none))
theorem Ex1.expr {e pos} {Q : PostF} (h : Ev c n sc e loc H (ExprP loc Q)) (hs : ∀ env, swapsWith e none pos.line env = pure false := by (intro _; with_unfolding_all rfl)) : Ex1 c n sc (.Expr e pos) loc H Q := by
  intro r m cs s σ os Φ E R k
  exact wpAny_Expr_any (exOf h R fun v H₁ v' h₁ t₁ σ₁ os₁ q₁ R₁ p₁ v₁ => k _ _ _ _ m cs h₁ t₁ σ₁ os₁ q₁ R₁ rfl p₁ .next) (by unfold interactive; rw [R.es, R.ek]; rfl) (hs r.env)
theorem Ex1.ite {t a b pos} {Q : PostF} (h : Tst c n sc t loc H (IteP c n sc a b loc Q)) : Ex1 c n sc (.If t a b pos) loc H Q := by
  intro r m cs s σ os Φ E R k
  refine wpAny_If (exOf (t := fun env => isTrue t env (eval t env)) h R fun x H₁ x' h₁ t₁ σ₁ os₁ q₁ R₁ p₁ v₁ => ?_)
  cases v₁
  cases x with
  | true => rw [if_pos rfl]; exact q₁.1 rfl r m cs _ σ₁ os₁ Φ E R₁ fun fl l2 H2 fl2 m2 cs2 h2 tk2 σ2 os2 q2 R2 ec2 p2 f2 => k fl l2 H2 fl2 m2 cs2 h2 tk2 σ2 os2 q2 R2 ec2 (p₁.trans p2) f2
  | false => rw [if_neg Bool.false_ne_true]; exact q₁.2 rfl r m cs _ σ₁ os₁ Φ E R₁ fun fl l2 H2 fl2 m2 cs2 h2 tk2 σ2 os2 q2 R2 ec2 p2 f2 => k fl l2 H2 fl2 m2 cs2 h2 tk2 σ2 os2 q2 R2 ec2 (p₁.trans p2) f2
end

/-! a def of the text -/
structure DefAt (c : Cx) (f : Addr) (name qual : Str) (params : Arguments) (body : List Stmt) (sc : Scope) (dV : Value) : Prop where
  ex : ∃ kV doc pm an cdv ct oc od osl, c.K.lookup f = some ⟨oc, od, .func (fnOf name qual params body sc dV kV doc pm an cdv ct), osl⟩ ∧ codeIn c.K cdv qual = true
noncomputable def mkLoc (ps : List Str) (ws : List MV) (rest : List Str) : Loc := ps.zip (ws.map some) ++ rest.map fun x => (x, none)

theorem bindL_out {kindOf : Str → Option NameKind} {y : Str} : ∀ {bs : List (Str × Value)} {m : Str → Option Value}, y ∉ bs.map (·.1) → bindL kindOf bs m y = m y
  | [], _, _ => rfl
  | (x, v) :: r, m, h => by
    rw [List.map_cons, List.mem_cons] at h
    unfold bindL
    rw [bindL_out fun q => h (.inr q)]
    split
    · exact if_neg fun q => h (.inl q)
    · rfl
theorem bindL_in {kindOf : Str → Option NameKind} {y : Str} {v : Value} : ∀ {bs : List (Str × Value)} {m : Str → Option Value}, (bs.map (·.1)).Nodup → (y, v) ∈ bs → kindOf y = some .local → bindL kindOf bs m y = some v
  | (x, w) :: r, m, nd, h, hk => by
    rw [List.map_cons, List.nodup_cons] at nd
    unfold bindL
    rcases List.mem_cons.mp h with e | h
    · cases e
      rw [bindL_out nd.1, if_pos hk]; simp
    · exact bindL_in nd.2 h hk
theorem bindC_out {kindOf : Str → Option NameKind} {y : Str} : ∀ {bs : List (Str × Value)} {m : Str → Option Value}, y ∉ bs.map (·.1) → bindC kindOf bs m y = m y
  | [], _, _ => rfl
  | (x, v) :: r, m, h => by
    rw [List.map_cons, List.mem_cons] at h
    unfold bindC
    rw [bindC_out fun q => h (.inr q)]
    split
    · rfl
    · exact if_neg fun q => h (.inl q)
theorem bindC_in {kindOf : Str → Option NameKind} {y : Str} {v : Value} : ∀ {bs : List (Str × Value)} {m : Str → Option Value}, (bs.map (·.1)).Nodup → (y, v) ∈ bs → kindOf y = some .cell → bindC kindOf bs m y = some v
  | (x, w) :: r, m, nd, h, hk => by
    rw [List.map_cons, List.nodup_cons] at nd
    unfold bindC
    rcases List.mem_cons.mp h with e | h
    · cases e
      rw [bindC_out nd.1, if_neg (by rw [hk]; decide)]; simp
    · exact bindC_in nd.2 h hk
theorem cellsFrom_nd : ∀ (names : List (Str × NameKind)) (n : Nat) (acc : List (Str × Addr)), (acc.map (·.2)).Nodup → (∀ p ∈ acc, p.2 < n) → ((cellsFrom n names acc).map (·.2)).Nodup
  | [], n, acc, nd, _ => nd
  | (x, k) :: r, n, acc, nd, hl => by
    unfold cellsFrom
    split
    · refine cellsFrom_nd r (n + 1) _ ?_ ?_
      · rw [List.map_cons, List.nodup_cons]
        refine ⟨fun h => ?_, nd⟩
        refine x12 (List.mem_map.mp h) fun p hp e => ?_
        have := hl p hp
        rw [e] at this; exact absurd this (Nat.lt_irrefl _)
      · intro p hp
        rcases List.mem_cons.mp hp with e | hp
        · subst e; exact Nat.lt_succ_self _
        · exact Nat.lt_succ_of_lt (hl p hp)
    · exact cellsFrom_nd r n acc nd hl
theorem cellsFrom_ge {lo : Nat} : ∀ (names : List (Str × NameKind)) (n : Nat) (acc : List (Str × Addr)), lo ≤ n → (∀ p ∈ acc, lo ≤ p.2) → ∀ p ∈ cellsFrom n names acc, lo ≤ p.2
  | [], n, acc, _, h => h
  | (x, k) :: r, n, acc, hn, h => by
    unfold cellsFrom
    split
    · refine cellsFrom_ge r (n + 1) _ (Nat.le_succ_of_le hn) fun p hp => ?_
      rcases List.mem_cons.mp hp with e | hp
      · subst e; exact hn
      · exact h p hp
    · exact cellsFrom_ge r n acc hn h
theorem cellsAre_map {cm : Str → Option Value} {cl : List (Str × Addr)} {cells : Led} (h : CellsAre cm cl cells) : cells.map (·.1) = cl.map (·.2) := by
  induction h with
  | nil => rfl
  | cons _ _ ih => simp [ih]
theorem cellsAre_mem {cm : Str → Option Value} {cl : List (Str × Addr)} {cells : Led} (h : CellsAre cm cl cells) {y : Str} {a : Addr} (hm : (y, a) ∈ cl) : ∃ o, (a, o) ∈ cells ∧ o.data = .cell (cm y) := by
  induction h with
  | nil => cases hm
  | cons hd _ ih =>
    rcases List.mem_cons.mp hm with e | hm
    · cases e; exact i12 _ (.head _) hd
    · refine x12 (ih hm) fun o h1 h2 => ?_; exact i12 o (.tail _ h1) h2
theorem lookup_mem {α : Type} : ∀ {l : List (Str × α)} {y : Str} {a : α}, l.lookup y = some a → (y, a) ∈ l := fun h => mem_of_lookup h
theorem snd_inj : ∀ {cl : List (Str × Addr)}, (cl.map (·.2)).Nodup → ∀ {y z : Str} {a : Addr}, (y, a) ∈ cl → (z, a) ∈ cl → y = z
  | p :: cl, nd, y, z, a, h1, h2 => by
    rw [List.map_cons, List.nodup_cons] at nd
    rcases List.mem_cons.mp h1 with e1 | h1' <;> rcases List.mem_cons.mp h2 with e2 | h2'
    · rw [← e2] at e1; cases e1; rfl
    · exact absurd (by rw [← e1]; exact List.mem_map_of_mem (f := (·.2)) h2') nd.1
    · exact absurd (by rw [← e2]; exact List.mem_map_of_mem (f := (·.2)) h1') nd.1
    · exact snd_inj nd.2 h1' h2'
theorem zip_mem_right {α β γ : Type} {R : β → γ → Prop} : ∀ {ps : List α} {ws : List β} {bs : List γ} {x : α} {w : β}, All2 R ws bs → (x, w) ∈ ps.zip ws → ∃ b, (x, b) ∈ ps.zip bs ∧ R w b
  | [], _, _, _, _, _, h => by simp at h
  | p :: ps, _, _, x, w, .nil, h => by simp at h
  | p :: ps, _, _, x, w, .cons r t, h => by
    rw [List.zip_cons_cons] at h
    rcases List.mem_cons.mp h with e | h
    · cases e; exact i12 _ (.head _) r
    · refine x12 (zip_mem_right t h) fun b h1 h2 => ?_; exact i12 b (.tail _ h1) h2
theorem zip_map_fst {α β : Type} : ∀ {ps : List α} {bs : List β}, ps.length = bs.length → (ps.zip bs).map (·.1) = ps
  | [], _, _ => by simp
  | p :: ps, [], e => by simp at e
  | p :: ps, b :: bs, e => by simp at e; simp [zip_map_fst e]

/-- the static looks at a def's table of names -/
structure ScOk (sc : Scope) (ps rest : List Str) : Prop where
  kind : sc.kind = .function
  co : sc.isCoroutine = false
  gen : sc.isGenerator = false
  names : ((ps ++ rest).all fun y => sc.names.lookup y == some .local || sc.names.lookup y == some .cell) = true
  nd : (ps ++ rest).Nodup
  cnd : ((cellsFrom 0 sc.names []).map (·.1)).Nodup

section
variable {c : Cx} {n : Nat} {H : List MO}
/-- how arguments are bound -/
noncomputable def BindsAs (c : Cx) (fd : FuncData) (ps : List Str) (vs ws : List MV) : Prop :=
  ∀ (σ : List Addr) (as : List Value) (s : Shared), All2 (VR c.sl σ) vs as → c.K.In s.heap → ∃ bs, BindsTo s fd ⟨as, []⟩ (ps.zip bs) ∧ All2 (VR c.sl σ) ws bs
noncomputable def EndOf (Q : Post MV) : PostF := fun fl _ H => match fl with
  | .ret v => Q v H
  | _ => Q .none H

theorem def_code {f : Addr} {name qual : Str} {params : Arguments} {body : List Stmt} {sc : Scope} {dV : Value} {ps rest : List Str} {vs ws : List MV} {Q : Post MV}
    (D : DefAt c f name qual params body sc dV) (S : ScOk sc ps rest) (hlen : ps.length = ws.length)
    (hb : ∀ kV doc pm an cdv ct, BindsAs c (fnOf name qual params body sc dV kV doc pm an cdv ct) ps vs ws)
    (h : Ex c n sc body (mkLoc ps ws rest) H (EndOf Q)) {sc₀ : Scope} {r : RR} {m : Str → Option Value} {cs : Led} {s : Shared} {σ : List Addr} {os : List Obj} {loc : Loc} {as : List Value} {RR' : Result → Shared → Prop}
    (R : Rel c (n + 1) sc₀ r m cs s.heap σ os loc H) (ha : All2 (VR c.sl σ) vs as)
    (k : ∀ v H' v' h' tk' σ' os', Q v H' → Rel c (n + 1) sc₀ r m cs h' σ' os' loc H' → σ <+: σ' → VR c.sl σ' v v' → RR' (.ok (.ret v')) { s with heap := h', toks := tk' }) :
    codeAny (model c.prog c.w) r.A (.call (.ref f) ⟨as, []⟩) RR' s := by
  refine hold fun Xh oh => ?_
  refine x51 D.ex fun kV doc pm an cdv ht1 => ?_; refine x42 ht1 ?_; clear ht1; intro ct oc od osl ho hcd
  refine x12 (hb kV doc pm an cdv ct σ as s ha R.Kh) fun bs hbind hws => ?_
  have ndp : ps.Nodup := (List.nodup_append.mp S.nd).1
  have hpl : ps.length = bs.length := hlen.trans hws.length
  have hkey : (ps.zip bs).map (·.1) = ps := zip_map_fst hpl
  have hkind : ((ps.zip bs).all fun y => sc.names.lookup y.1 == some .local || sc.names.lookup y.1 == some .cell) = true := by
    rw [List.all_eq_true]
    intro y hy
    refine List.all_eq_true.mp S.names y.1 (List.mem_append_left _ ?_)
    rw [← hkey]; exact List.mem_map_of_mem (f := (·.1)) hy
  refine oh ?_
  refine (callX_cells (news := (cs ++ r.X) ++ σ.zip os) R.B R.F R.N.news R.T.nolimit R.fr R.ff R.fk (R.Kh _ _ ho) rfl (codeRec_of R.Kh hcd) (by have := R.dep; lia) hbind (kindsX hkind) S.cnd
    (fun g L' h₁ tk cells FG F' N' Y B' st hlt => ?_) S.co S.gen S.kind)
  have eadr := cellsAre_map Y
  have cnd2 : ((cellsFrom (L' + 1) sc.names []).map (·.2)).Nodup := cellsFrom_nd _ _ _ (by simp) (by simp)
  have hpos : ∀ y o, (y, o) ∈ mkLoc ps ws rest → sc.names.lookup y = some .local ∨ (sc.names.lookup y = some .cell ∧ ∃ a ob, (cellsFrom (L' + 1) sc.names []).lookup y = some a ∧ (a, ob) ∈ cells ∧ ob.data = .cell (bindC (envOfC qual sc L' f cdv).kindOf (ps.zip bs) (fun _ => none) y)) := by
    intro y o hy
    have hy' : y ∈ ps ++ rest := by
      unfold mkLoc at hy
      rcases List.mem_append.mp hy with h1 | h1
      · exact List.mem_append_left _ (List.of_mem_zip h1).1
      · refine x12 (List.mem_map.mp h1) fun z hz e => ?_
        cases e; exact List.mem_append_right _ hz
    have hb := List.all_eq_true.mp S.names y hy'
    rcases Bool.or_eq_true_iff.mp hb with q | q
    · exact .inl (beq_iff_eq.mp q)
    · have q := beq_iff_eq.mp q
      have hs := cellsFrom_some sc.names (L' + 1) [] (x := y) (.inl q)
      refine x11 (Option.isSome_iff_exists.mp hs) fun a hl => ?_
      refine x12 (cellsAre_mem Y (lookup_mem hl)) fun ob h1 h2 => ?_
      exact .inr (And.intro q (i23 a ob hl h1 h2))
  let env := envOfC qual sc L' f cdv
  let r' : RR := { A := r.A.deeper env, env := env, fenv := env, A₀ := r.A, base := r.base, outer := r.fenv :: r.outer, h₀ := g, L := L', X := cs ++ r.X }
  have R' : RelF c n sc r' (bindL env.kindOf (ps.zip bs) fun _ => none) cells h₁ σ os (mkLoc ps ws rest) H := by
    refine { fr := Around.frames_deeper R.fr, ff := rfl, fk := S.kind, dep := ?_, un := ?_, hd := fun q => R.hd q, B := B', F := F', K := R.K.keeps st, T := R.T.keeps st, scr := ?_, N := ?_, es := rfl, ek := S.kind, eg := rfl, eb := rfl, vars := ?_, nd := ?_, ef := rfl, el := rfl, slots := ?_, cinj := ?_ }
    · have := R.dep; show r.A.depth + 1 + 2 * n < _; lia
    · have := R.un; show r.A.units + 3 + 16 * n + 200 < _; lia
    · refine x12 R.scr fun vs' h1 h2 => ?_
      exact i12 vs' (stays_list st h1) h2
    · refine ⟨by show News g L' h₁ (cells ++ (cs ++ r.X) ++ σ.zip os); rw [List.append_assoc]; exact N', R.N.objs, R.N.len, ?_⟩
      show ((cells ++ (cs ++ r.X)).map (·.1) ++ σ).Nodup
      rw [List.map_append, List.append_assoc, List.nodup_append]
      refine i03 (eadr ▸ cnd2) R.N.nd (fun a ha b hb e => ?_)
      subst e
      rw [eadr] at ha
      refine x12 (List.mem_map.mp ha) fun p hp eq2 => ?_; subst eq2
      have h1 := cellsFrom_ge (lo := L' + 1) sc.names (L' + 1) [] (Nat.le_refl _) (by simp) p hp
      have h2 : p.2 ∈ ((cs ++ r.X) ++ σ.zip os).map (·.1) := by rw [List.map_append, map_fst_zip R.N.len]; exact hb
      refine x12 (List.mem_map.mp h2) fun q hq e => ?_
      have h3 := hlt q hq
      rw [e] at h3
      exact absurd (Nat.lt_of_lt_of_le h3 (Nat.le_of_succ_le h1)) (Nat.lt_irrefl _)
    · intro y v hy
      have hz : (y, v) ∈ ps.zip ws := by
        unfold mkLoc at hy
        rcases List.mem_append.mp hy with h1 | h1
        · have : ∀ {ps : List Str} {ws : List MV}, (y, some v) ∈ ps.zip (ws.map some) → (y, v) ∈ ps.zip ws := by
            intro ps ws hm
            rw [List.zip_map_right] at hm
            refine x12 (List.mem_map.mp hm) fun hx3 hp e => ?_; obtain ⟨a, b⟩ := hx3
            simp at e
            refine x02 e ?_; try clear e; intro eq4 eq5; subst eq4; subst eq5
            exact hp
          exact this h1
        · refine x12 (List.mem_map.mp h1) fun z hz e => ?_
          cases e
      refine x12 (zip_mem_right hws hz) fun b hb hr => ?_
      refine i12 b hr ?_
      rcases hpos y _ hy with hk | ⟨hk, a, ob, hl, hm, hd⟩
      · exact .inl ⟨hk, .inl ⟨rfl, bindL_in (hkey.symm ▸ ndp) hb hk⟩⟩
      · rw [bindC_in (hkey.symm ▸ ndp) hb hk] at hd
        exact .inr (And.intro hk (i23 a ob hl (List.mem_append_left _ hm) hd))
    · have : (mkLoc ps ws rest).map (·.1) = ps ++ rest := by
        unfold mkLoc
        rw [List.map_append, zip_map_fst (by simp [hlen]), List.map_map]
        congr 1
        exact List.map_id' rest
      rw [this]; exact S.nd
    · intro y o hy
      rcases hpos y o hy with hk | ⟨hk, a, ob, hl, hm, hd⟩
      · exact .inl hk
      · exact .inr (And.intro hk (i33 a ob _ hl hm hd))
    · intro y z a h1 h2
      exact snd_inj cnd2 (lookup_mem h1) (lookup_mem h2)
  refine h r' _ cells { s with heap := h₁, toks := tk } σ os _ _ R' fun fl loc' H' fl' m' cs' h' tk' σ' os' q R'' ec p f => ?_
  have N₂ : News g L' h' ((cs ++ r.X) ++ σ'.zip os') := by
    intro p hp
    have := R''.N.news p (by
      show p ∈ (cs' ++ (cs ++ r.X)) ++ σ'.zip os'
      rw [List.append_assoc]; exact List.mem_append_right _ hp)
    exact this
  have nd₂ : ((cs ++ r.X).map (·.1) ++ σ').Nodup := by
    have := R''.N.nd
    change ((cs' ++ (cs ++ r.X)).map (·.1) ++ σ').Nodup at this
    rw [List.map_append, List.append_assoc, List.nodup_append] at this
    exact this.2.1
  refine leaveK_ R''.F N₂ fun F₃ N₃ => ?_
  have R₃ : Rel c (n + 1) sc₀ r m cs h' σ' os' loc H' := R.next F₃ ⟨N₃, R''.N.objs, R''.N.len, nd₂⟩ p
  cases f with
  | next => exact k .none H' .none h' tk' σ' os' q R₃ p .none
  | brk => exact k .none H' .none h' tk' σ' os' q R₃ p .none
  | cont => exact k .none H' .none h' tk' σ' os' q R₃ p .none
  | ret hv => exact k _ H' _ h' tk' σ' os' q R₃ p hv
theorem Cl.def {f : Addr} {name qual : Str} {params : Arguments} {body : List Stmt} {sc : Scope} {dV : Value} {ps rest : List Str} {vs ws : List MV} {Q : Post MV}
    (D : DefAt c f name qual params body sc dV) (S : ScOk sc ps rest) (hlen : ps.length = ws.length)
    (hb : ∀ kV doc pm an cdv ct, BindsAs c (fnOf name qual params body sc dV kV doc pm an cdv ct) ps vs ws)
    (h : Ex c n sc body (mkLoc ps ws rest) H (EndOf Q)) : Cl c (n + 1) (.ref f) vs H Q := by
  intro sc₀ r m cs s σ os loc as Φ E R ha k
  exact wpAny_call (def_code D S hlen hb h R ha k)
end
end
section
section
variable {c : Cx} {n : Nat} {sc : Scope} {r : RR} {m : Str → Option Value} {cs : Led} {h h' : Heap} {σ : List Addr} {os : List Obj} {loc : Loc} {H : List MO}
/-- another ledger beside the frame's own -/
theorem RelF.withX {X' : Led} (R : RelF c n sc r m cs h σ os loc H) (F' : Fr r.h₀ r.L h' m) (N' : HR c.sl r.h₀ r.L h' (cs ++ X') σ H os) : RelF c n sc { r with X := X' } m cs h' σ os loc H := by
  refine { toRel := { fr := R.fr, ff := R.ff, fk := R.fk, dep := R.dep, un := R.un, hd := R.hd, B := R.B, F := F', K := R.K, T := R.T, scr := R.scr, N := N', es := R.es, ek := R.ek, eg := R.eg, eb := R.eb, vars := ?_, nd := R.nd }, ef := R.ef, el := R.el, slots := R.slots, cinj := R.cinj }
  intro y v hy
  refine x12 (R.vars y v hy) fun v' hv ha => ?_
  refine i12 v' hv ?_
  rcases ha with ⟨hk, h1 | ⟨o, es, ep, ho, hd⟩⟩ | ⟨hk, a, o, hl, ho, hd⟩
  · exact .inl ⟨hk, .inl h1⟩
  · exfalso; exact (R.N.news _ (List.mem_append_left _ ho)).2.1 R.el
  · rcases R.slots y _ hy with hk' | ⟨_, a', ob, w, hl', hm, hd'⟩
    · rw [hk] at hk'; cases hk'
    · rw [hl] at hl'; cases hl'
      have nd : ((cs ++ r.X).map (·.1)).Nodup := (List.nodup_append.mp R.N.nd).1
      have := nodup_eq nd ho (List.mem_append_left _ hm)
      subst this
      exact .inr (And.intro hk (i23 a o hl (List.mem_append_left _ hm) hd))
end

/-- an iterator, step by step -/
structure Steps (c : Cx) (A : Around) (I : Addr) (h₀ : Heap) (L : Addr) (σ₀ : List Addr) (its : List MV) (cond : List MO → Prop) (St : Nat → Obj → Prop) : Prop where
  item : ∀ (i : Nat) (v : MV) (s : Shared) (X : Led) (σ : List Addr) (os : List Obj) (H : List MO) (oI : Obj) (Φ : Option Value → Shared → Prop) (E : Value → Shared → Prop),
    its[i]? = some v → HR c.sl h₀ L s.heap X σ H os → σ₀ <+: σ → (I, oI) ∈ X → cond H → St i oI →
    (∀ v' oI' h' tk', VR c.sl σ v v' → St (i + 1) oI' → h'.get? I = some oI' → (∀ b o, b ≠ I → s.heap.get? b = some o → h'.get? b = some o) → Φ (some v') { s with heap := h', toks := tk' }) →
    wpAny (model c.prog c.w) A (pyNext (.ref I)) Φ E s
  done : ∀ (s : Shared) (X : Led) (σ : List Addr) (os : List Obj) (H : List MO) (oI : Obj) (Φ : Option Value → Shared → Prop) (E : Value → Shared → Prop),
    HR c.sl h₀ L s.heap X σ H os → σ₀ <+: σ → (I, oI) ∈ X → cond H → St its.length oI →
    (∀ h' tk', (∀ b o, b ≠ I → s.heap.get? b = some o → h'.get? b = some o) → Φ none { s with heap := h', toks := tk' }) →
    wpAny (model c.prog c.w) A (pyNext (.ref I)) Φ E s
  self : ∀ (s : Shared) (X : Led) (σ : List Addr) (os : List Obj) (H : List MO) (oI : Obj) (Φ : Value → Shared → Prop) (E : Value → Shared → Prop),
    HR c.sl h₀ L s.heap X σ H os → σ₀ <+: σ → (I, oI) ∈ X → cond H → St 0 oI → Φ (.ref I) s → wpAny (model c.prog c.w) A (pyIter (.ref I)) Φ E s

section
variable {c : Cx} {A : Around} {I : Addr} {h₀ : Heap} {L : Addr} {σ₀ : List Addr}
theorem Steps.list {k : Nat} {ax : Addr} {its : List MV} (hh : A.handled = none) (hk : σ₀[k]? = some ax) (hne : ax ≠ I) :
    Steps c A I h₀ L σ₀ its (fun H => H[k]? = some (.list its)) (fun i o => o.cls = .type "list_iterator" ∧ o.data = .fields #[.ref ax, .int i 0] ∧ o.isFreed = false) where
  item := fun i v s X σ os H oI Φ E hv R p hm hc hs k => by
    refine x24 (R.obj hc) fun x o hx ho hr hmem => ?_
    rw [get_of_pre p hk] at hx; cases hx
    cases hr with
    | list all =>
      rename_i vs ep
      refine x12 (all.get hv) fun v' hv' hr => ?_
      have hl := R.news.isList hmem
      refine (Walks.list hh I ax hne vs.toArray).item i s Φ E (by have := (List.getElem?_eq_some_iff.mp hv').1; simpa using this) ⟨(i13 oI ((R.news _ (List.mem_append_left _ hm)).1) hs.1 hs.2.1), hl⟩ fun w h' tk hw st hk' => ?_
      have : w = v' := by simp at hw; rw [hv'] at hw; exact (Option.some.inj hw).symm
      subst this
      refine x02 st ?_; try clear st; intro hx7 _; obtain ⟨oI', g1, g2, g3⟩ := hx7
      exact k w oI' h' tk hr (i03 g2 g3 ((Heap.get?_some_iff.mp g1).2)) g1 fun b o hb e => hk' b o (by simpa using hb) e
  done := fun s X σ os H oI Φ E R p hm hc hs k => by
    refine x24 (R.obj hc) fun x o hx ho hr hmem => ?_
    rw [get_of_pre p hk] at hx; cases hx
    cases hr with
    | list all =>
      rename_i vs ep
      have hl := R.news.isList hmem
      have e : vs.toArray.size = its.length := by simp [all.length]
      exact (Walks.list hh I ax hne vs.toArray).done s Φ E (by rw [e]; exact ⟨(i13 oI ((R.news _ (List.mem_append_left _ hm)).1) hs.1 hs.2.1), hl⟩) fun h' tk hk' => k h' tk fun b o hb e => hk' b o (by simpa using hb) e
  self := fun s X σ os H oI Φ E R p hm hc hs k => wpAny_pyIter_listiter (i := 0) (i13 oI ((R.news _ (List.mem_append_left _ hm)).1) hs.1 hs.2.1) k
theorem Steps.walks {n : Nat} {P : Nat → Value → Prop} {St : Nat → Heap → Prop} {its : List MV} (W : Walks c.prog c.w A I [I] [I] n P St) (hlive : ∀ i h, St i h → ∃ o, h.get? I = some o) (hn : its.length = n)
    (hP : ∀ i v v' σ, its[i]? = some v → P i v' → VR c.sl σ v v') : Steps c A I h₀ L σ₀ its (fun _ => True) (fun i o => ∀ h, h.get? I = some o → St i h) where
  item := fun i v s X σ os H oI Φ E hv R p hm hc hs k => by
    have hg := (R.news _ (List.mem_append_left _ hm)).1
    refine W.item i s Φ E (by rw [← hn]; exact (List.getElem?_eq_some_iff.mp hv).1) (hs _ hg) fun w h' tk hw st hk' => ?_
    refine x11 (hlive _ _ st) fun oI' hI => ?_
    exact k w oI' h' tk (hP i v w σ hv hw) (fun h2 e2 => W.frame _ _ _ st fun b hb o e => by simp at hb; subst hb; rw [hI] at e; cases e; exact e2) hI fun b o hb e => hk' b o (by simpa using hb) e
  done := fun s X σ os H oI Φ E R p hm hc hs k => by
    have hg := (R.news _ (List.mem_append_left _ hm)).1
    exact W.done s Φ E (by rw [← hn]; exact hs _ hg) fun h' tk hk' => k h' tk fun b o hb e => hk' b o (by simpa using hb) e
  self := fun s X σ os H oI Φ E R p hm hc hs k => W.self 0 s Φ E (hs _ (R.news _ (List.mem_append_left _ hm)).1) k
end

/-- the turns of a for -/
noncomputable def Loop (c : Cx) (n : Nat) (sc : Scope) (x : Str) (body : List Stmt) (cond : List MO → Prop) : List MV → Loc → List MO → PostF → Prop
  | [], loc, H, Q => Q .next loc H
  | v :: its, loc, H, Q => ∃ loc', Put loc x v loc' ∧ Ex c n sc body loc' H fun fl loc₂ H₂ => match fl with
    | .next | .cont => cond H₂ ∧ Loop c n sc x body cond its loc₂ H₂ Q
    | .brk => Q .next loc₂ H₂
    | .ret v => Q (.ret v) loc₂ H₂

section
variable {c : Cx} {n : Nat} {sc : Scope} {r : RR} {σ₀ : List Addr} {I : Addr} {its : List MV} {cond : List MO → Prop} {St : Nat → Obj → Prop} {x : Str} {body : List Stmt} {Q : PostF}
/-- a ledger's one entry turned -/
theorem HR.dropX {sl : Addr} {h₀ h h' : Heap} {L : Addr} {cs X : Led} {σ : List Addr} {H : List MO} {os : List Obj} {oI : Obj} (R : HR sl h₀ L h (cs ++ (I, oI) :: X) σ H os) (hk : ∀ b o, b ≠ I → h.get? b = some o → h'.get? b = some o) :
    HR sl h₀ L h' (cs ++ X) σ H os := by
  have nd : ((cs ++ (I, oI) :: X).map (·.1) ++ σ).Nodup := R.nd
  have nd2 : (I :: (cs ++ X).map (·.1) ++ σ).Nodup := by
    refine nd.perm ?_
    simp only [List.map_append, List.map_cons, List.append_assoc, List.cons_append]
    exact List.perm_middle
  rw [List.cons_append, List.nodup_cons] at nd2
  refine ⟨fun p hp => ?_, R.objs, R.len, nd2.2⟩
  have hp' : p ∈ (cs ++ (I, oI) :: X) ++ σ.zip os := by
    simp only [List.append_assoc, List.mem_append, List.cons_append, List.mem_cons] at hp ⊢
    rcases hp with h1 | h1 | h1
    · exact .inl h1
    · exact .inr (.inr (.inl h1))
    · exact .inr (.inr (.inr h1))
  have := R.news p hp'
  have hne : p.1 ≠ I := by
    intro e
    apply nd2.1
    have : p.1 ∈ ((cs ++ X) ++ σ.zip os).map (·.1) := List.mem_map_of_mem hp
    rw [List.map_append, map_fst_zip R.len, e] at this
    exact this
  exact ⟨hk _ _ hne this.1, this.2⟩
theorem fr_but {h₀ h h' : Heap} {L : Addr} {m : Str → Option Value} (F : Fr h₀ L h m) (h1 : I ≠ L) (h2 : h₀.get? I = none) (hk : ∀ b o, b ≠ I → h.get? b = some o → h'.get? b = some o) : Fr h₀ L h' m :=
  ⟨F.ns.extBut (b := I) (fun b o hb e => hk b o hb e) (Ne.symm h1), fun b o e => hk b o (fun q => by rw [q, h2] at e; cases e) (F.keep b o e), F.above⟩

structure LT where
  i : Nat
  m : Str → Option Value
  cs : Led
  h : Heap
  tk : Nat
  σ : List Addr
  os : List Obj
  loc : Loc
  H : List MO
  oI : Obj
  oC : Obj
  es : Array DictEntry
  ep : Nat
  acc : List MV
  old : Value
structure ForI (c : Cx) (n : Nat) (sc : Scope) (r : RR) (I : Addr) (its : List MV) (cond : List MO → Prop) (St : Nat → Obj → Prop) (x : Str) (body : List Stmt) (Q : PostF) (cs : Led) (σ : List Addr) (t : LT) : Prop where
  e2 : t.i ≤ its.length
  e4 : RelF c n sc { r with X := (I, t.oI) :: r.X } t.m t.cs t.h t.σ t.os t.loc t.H
  e5 : St t.i t.oI
  e6 : cond t.H
  e7 : σ <+: t.σ
  e8 : t.cs.map (·.1) = cs.map (·.1)
  e9 : Loop c n sc x body cond (its.drop t.i) t.loc t.H Q
theorem loop_free {prog : Program} {w : World} {A : Around} {R : Result → Shared → Prop} {target : Expr} {it : Value} {body : List Stmt} {env : Env} {ι : Type} (μ : ι → Nat) (st : ι → Shared) (P : ι → Prop)
    (turn : ∀ (x : ι) (X : Option Value → Shared → Prop) (Z : Flow → Shared → Prop) (E : Value → Shared → Prop), P x → (∀ s₁, R (.ok .next) s₁ → X none s₁) →
      (∀ v s₁, wpAny (model prog w) A (letOwnedTupleGo target it v) (fun _ s₁' => wpAny (model prog w) A (assign target env v) (fun _ s₂ => wpAny (model prog w) A (execs body env) Z E s₂) E s₁') E s₁ → X (some v) s₁) →
      (∀ y, P y → μ y < μ x → Z .next (st y) ∧ Z .cont (st y)) → (∀ s₃, R (.ok .next) s₃ → Z .brk s₃) → (∀ v s₃, R (.ok (.ret v)) s₃ → Z (.ret v) s₃) → wpAny (model prog w) A (pyNext it) X E (st x))
    (x₀ : ι) (h₀ : P x₀) : codeAny (model prog w) A (.forLoop target it body [] env) R (st x₀) := by
  refine codeAny_forLoop_any (fun j s' => ∃ x, μ x = j ∧ st x = s' ∧ P x) ?_ (μ x₀) (i13 x₀ rfl rfl h₀)
  intro j s' hr6
  refine x13 hr6 ?_; try clear hr6; intro x eq8 eq9 h; subst eq8; subst eq9
  exact turn x _ _ _ h (fun s₁ h => wpAny_execs_nil h) (fun _ _ h => h) (fun y hy hl => ⟨(i12 _ hl (i13 y rfl rfl hy)), (i12 _ hl (i13 y rfl rfl hy))⟩) (fun _ h => h) (fun _ _ h => h)
theorem for_core (hS : Steps c r.A I r.h₀ r.L σ₀ its cond St) (pxx : Pos) {m : Str → Option Value} {cs : Led} {s : Shared} {σ : List Addr} {os : List Obj} {loc : Loc} {H : List MO} {oI : Obj} {Φ : Flow → Shared → Prop} {E : Value → Shared → Prop}
    (R : RelF c n sc { r with X := (I, oI) :: r.X } m cs s.heap σ os loc H) (hp : σ₀ <+: σ) (hst : St 0 oI) (hc : cond H) (hL : Loop c n sc x body cond its loc H Q)
    (k : ∀ fl loc' H' fl' m' cs' h' tk' σ' os', Q fl loc' H' → RelF c n sc r m' cs' h' σ' os' loc' H' → cs'.map (·.1) = cs.map (·.1) → σ <+: σ' → FlR c.sl σ' fl fl' → Φ fl' { s with heap := h', toks := tk' }) :
    codeAny (model c.prog c.w) r.A (.forLoop (.Name x pxx) (.ref I) body [] r.env) (fun res s' => match res with | .ok f => Φ f s' | .error e => cameBackBy (model c.prog c.w) r.A r.env E e s') s := by
  refine loop_free (fun t : LT => its.length + 1 - t.i) (fun t => { s with heap := t.h, toks := t.tk }) (ForI c n sc r I its cond St x body Q cs σ) (fun t Y Z E' P xN xS zA zB zR => ?_)
    ⟨0, m, cs, s.heap, s.toks, σ, os, loc, H, oI, oI, #[], 0, [], .none⟩ ⟨Nat.zero_le _, R, hst, hc, List.prefix_refl _, rfl, hL⟩
  have R' := P.e4
  have hnew := R'.N.news (I, t.oI) (List.mem_append_left _ (List.mem_append_right _ (.head _)))
  have hmemX : (I, t.oI) ∈ t.cs ++ (I, t.oI) :: r.X := List.mem_append_right _ (.head _)
  have p' := hp.trans P.e7
  by_cases hlt : t.i < its.length
  · refine x12 ((List.drop_eq_getElem_cons hlt ▸ P.e9 : Loop c n sc x body cond (its[t.i] :: its.drop (t.i + 1)) t.loc t.H Q)) fun loc₁ hput hex => ?_
    refine hS.item t.i its[t.i] _ _ t.σ t.os t.H t.oI _ _ (List.getElem?_eq_getElem hlt) R'.N p' hmemX P.e6 P.e5 fun v' oI₂ h₂ t₂ hv hst₂ hI₂ hk₂ => xS _ _ (wpAny_pure (wpAny_assign_Name ?_))
    refine store_var (r := { r with X := (I, oI₂) :: r.X }) (s := { s with heap := h₂, toks := t₂ }) (RelF.withX (r := { r with X := (I, t.oI) :: r.X }) R' (fr_but R'.F hnew.2.1 hnew.2.2 hk₂) (R'.N.turn hI₂ hk₂)) hput hv fun m₃ cs₃ h₃ t₃ R₃ ec₃ => ?_
    refine hex { r with X := (I, oI₂) :: r.X } m₃ cs₃ { s with heap := h₃, toks := t₃ } t.σ t.os _ _ R₃ fun fl loc₄ H₄ fl' m₄ cs₄ h₄ t₄ σ₄ os₄ q R₄ ec₄ p₄ f => ?_
    have drop : RelF c n sc r m₄ cs₄ h₄ σ₄ os₄ loc₄ H₄ := RelF.withX (r := { r with X := (I, oI₂) :: r.X }) R₄ R₄.F (R₄.N.dropX fun _ _ _ e => e)
    have ec := ec₄.trans (ec₃.trans P.e8)
    have again := fun q : cond H₄ ∧ Loop c n sc x body cond (its.drop (t.i + 1)) loc₄ H₄ Q => zA ⟨t.i + 1, m₄, cs₄, h₄, t₄, σ₄, os₄, loc₄, H₄, oI₂, oI₂, #[], 0, [], .none⟩ ⟨hlt, R₄, hst₂, q.1, P.e7.trans p₄, ec, q.2⟩ (Nat.sub_lt_sub_left (Nat.lt_succ_of_lt hlt) (Nat.lt_succ_self _))
    cases f with
    | next => exact (again q).1
    | cont => exact (again q).2
    | brk => exact zB _ (k .next _ _ _ m₄ cs₄ h₄ t₄ σ₄ os₄ q drop ec (P.e7.trans p₄) .next)
    | ret hv => exact zR _ _ (k _ _ _ _ m₄ cs₄ h₄ t₄ σ₄ os₄ q drop ec (P.e7.trans p₄) (.ret hv))
  · have hL' := P.e9
    rw [List.drop_eq_nil_of_le (Nat.le_of_not_lt hlt)] at hL'
    refine hS.done _ _ t.σ t.os t.H t.oI _ _ R'.N p' hmemX P.e6 (Nat.le_antisymm P.e2 (Nat.le_of_not_lt hlt) ▸ P.e5) fun h₂ t₂ hk₂ => xN _ ?_
    exact k .next t.loc t.H .next t.m t.cs h₂ t₂ t.σ t.os hL' (RelF.withX (r := { r with X := (I, t.oI) :: r.X }) R' (fr_but R'.F hnew.2.1 hnew.2.2 hk₂) (R'.N.dropX hk₂)) P.e8 P.e7 .next
end
end
section
section
variable {c : Cx} {n : Nat} {sc : Scope} {r : RR} {m : Str → Option Value} {cs : Led} {h h' : Heap} {σ : List Addr} {os : List Obj} {loc : Loc} {H : List MO}
theorem HR.addX {sl : Addr} {h₀ h : Heap} {L : Addr} {X : Led} {σ : List Addr} {H : List MO} {os : List Obj} {m : Str → Option Value} (F : Fr h₀ L h m) (R : HR sl h₀ L h (cs ++ X) σ H os) {o : Obj} (hf : o.isFreed = false) :
    HR sl h₀ L (h.push o) (cs ++ (h.objs.size, o) :: X) σ H os := by
  have N := R.news.push F o hf
  refine ⟨fun p hp => N p ?_, R.objs, R.len, ?_⟩
  · simp only [List.append_assoc, List.mem_append, List.cons_append, List.mem_cons] at hp ⊢
    rcases hp with h1 | h1 | h1 | h1
    · exact .inr (.inl h1)
    · exact .inl h1
    · exact .inr (.inr (.inl h1))
    · exact .inr (.inr (.inr h1))
  · have nd2 : (h.objs.size :: ((cs ++ X).map (·.1) ++ σ)).Nodup := by
      rw [List.nodup_cons]
      refine ⟨fun q => ?_, R.nd⟩
      have q' : h.objs.size ∈ ((cs ++ X) ++ σ.zip os).map (·.1) := by rw [List.map_append, map_fst_zip R.len]; exact q
      refine x12 (List.mem_map.mp q') fun p hp e => ?_
      have := R.lt p hp
      rw [e] at this; exact absurd this (Nat.lt_irrefl _)
    refine nd2.perm ?_
    simp only [List.map_append, List.map_cons, List.append_assoc, List.cons_append]
    exact (List.perm_middle).symm
theorem RelF.addX (R : RelF c n sc r m cs h σ os loc H) {o : Obj} (hf : o.isFreed = false) : RelF c n sc { r with X := (h.objs.size, o) :: r.X } m cs (h.push o) σ os loc H :=
  R.withX (R.F.push o) (R.N.addX R.F hf)
theorem Rel.push (R : Rel c n sc r m cs h σ os loc H) (o : Obj) : Rel c n sc r m cs (h.push o) σ os loc H :=
  R.next (R.F.push o) (R.N.keeps fun _ _ e => Heap.get?_push_of_some _ e) (List.prefix_refl _)
theorem Rel.keeps (R : Rel c n sc r m cs h σ os loc H) (hk : ∀ b o, h.get? b = some o → h'.get? b = some o) : Rel c n sc r m cs h' σ os loc H :=
  R.next (R.F.keeps hk) (R.N.keeps hk) (List.prefix_refl _)
end

section
variable {c : Cx} {n : Nat} {sc : Scope} {loc : Loc} {H : List MO}
noncomputable def upto (k : Int) : List MV := (List.range k.toNat).map fun i => .int (i : Nat)
theorem upto_get {k : Int} {i : Nat} {v : MV} (h : (upto k)[i]? = some v) : v = .int (i : Nat) ∧ (i : Int) < k := by
  unfold upto at h
  rw [List.getElem?_map, Option.map_eq_some_iff] at h
  refine x12 h ?_; try clear h; intro a ha eq6; subst eq6
  refine x11 (List.getElem?_eq_some_iff.mp ha) fun h1 h2 => ?_
  simp at h1 h2
  subst h2
  exact ⟨rfl, by lia⟩

/-! slices -/
noncomputable def lo (v : Option Int) (n : Nat) : Nat := match v with
  | none => 0
  | some x => if x < 0 then n - (-x).toNat else min x.toNat n
noncomputable def hi (v : Option Int) (n : Nat) : Nat := match v with
  | none => n
  | some y => if y < 0 then n - (-y).toNat else min y.toNat n
noncomputable def pick {α : Type} (l : List α) (a b : Option Int) : List α := (l.drop (lo a l.length)).take (hi b l.length - lo a l.length)
theorem pick_all2 {α β : Type} {R : α → β → Prop} {as : List α} {bs : List β} (h : All2 R as bs) (a b : Option Int) : All2 R (pick as a b) (pick bs a b) := by
  unfold pick; rw [h.length]; exact (h.drop _).take _
/-- a part of a slice: left out, or an int -/
noncomputable def Part (c : Cx) (n : Nat) (sc : Scope) (e : Option Expr) (loc : Loc) (H : List MO) (Q : Post (Option Int)) : Prop := match e with
  | none => Q none H
  | some e => Ev c n sc e loc H fun v H₁ => ∃ i, v = .int i ∧ Q (some i) H₁
theorem part_run {e : Option Expr} {Q : Post (Option Int)} (h : Part c n sc e loc H Q) : Run c n sc (evalPart e) (fun _ i v => IsPart v i) loc H Q := by
  intro r m cs s σ os Φ E R k
  cases e with
  | none => exact evalPart_none_step (k none H .none _ s.toks σ os h R (List.prefix_refl _) .none)
  | some e =>
    refine evalPart_some_step (h r m cs s σ os _ E R fun v H₁ v' h₁ t₁ σ₁ os₁ q₁ R₁ p₁ v₁ => ?_)
    refine x12 q₁ ?_; try clear q₁; intro i eq7 q; subst eq7
    apply v₁.intE'; intro t
    exact k (some i) H₁ _ h₁ t₁ σ₁ os₁ q R₁ p₁ (.int _ _)
theorem ints_all {sl : Addr} {σ : List Addr} : ∀ {vs : List Value} {ns : List Int}, IntsAre vs ns → All2 (VR sl σ) (ns.map .int) vs := by
  intro vs ns h
  induction h with
  | nil => exact .nil
  | cons _ _ _ ih => exact .cons (.int _ _) ih
theorem Ev.slice {value l u sp pos} {Q : Post MV}
    (h : Ev c n sc value loc H fun o H₁ => ∃ k its, o = .ref k ∧ H₁[k]? = some (.list its) ∧ its.length ≤ 1000 ∧ Part c n sc l loc H₁ fun a H₂ => Part c n sc u loc H₂ fun b H₃ => H₃[k]? = some (.list its) ∧ Q (.ref H₃.length) (H₃ ++ [.list (pick its a b)]))
    (hs : ∀ x y, subscripted (.Slice l u Option.none sp) false (.ref x) (.ref y) = operate [.ref y, .ref x] (getItem (.ref x) (.ref y)) := by (intro _ _; with_unfolding_all rfl)) : Ev c n sc (.Subscript value (.Slice l u Option.none sp) pos) loc H Q := by
  intro r m cs s σ os Φ E R kk
  refine Subscript_ (h r m cs s σ os _ E R fun o H₁ o' h₁ t₁ σ₁ os₁ q₁ R₁ p₁ v₁ => ?_)
  refine x24 q₁ ?_; try clear q₁; intro k its eq8 ek hz q₁; subst eq8
  refine wpAny_Slice (part_run q₁ r m cs { s with heap := h₁, toks := t₁ } σ₁ os₁ _ E R₁ fun a H₂ a' h₂ t₂ σ₂ os₂ q₂ R₂ p₂ v₂ => part_run q₂ r m cs { s with heap := h₂, toks := t₂ } σ₂ os₂ _ E R₂ fun b H₃ b' h₃ t₃ σ₃ os₃ q₃ R₃ p₃ v₃ => ?_)
  refine evalPart_none_step ?_
  refine x02 q₃ ?_; try clear q₃; intro ek' q
  apply R₃.lst' ek' (v₁.mono (p₂.trans p₃)); intro x vs ep lx
  refine kba_turn (value' := .Name (PySem.Str.ofString "x") ⟨0, 0, 0, 0⟩) (fun _ => rfl) ?_
  refine kms_slice_lit (s := { s with heap := h₃, toks := t₃ }) (value := .Name (PySem.Str.ofString "x") ⟨0, 0, 0, 0⟩) (slice := .Slice l u Option.none sp) R₃.F R₃.N.news lx.is v₂ v₃ rfl (fun D h' F' N' hl => ?_) (hs _ _) (fun _ => rfl) (by simp only [List.size_toArray, lx.len, sizeLine_eq]; lia)
  exact kk _ _ _ h' _ _ _ q (R₃.alloc F' N' hl (.list ((pick_all2 lx.all a b).mono fun _ _ => VR.mono (List.prefix_append _ _)))) (((p₁.trans p₂).trans p₃).trans (List.prefix_append _ _)) (R₃.newRef (s := { s with heap := h₃, toks := t₃ }) (σ' := σ₃) D)
/-- the script's own slice [:y] -/
theorem Ev.sliceS {value u sp pos} {Q : Post MV} (hlen : c.ns.length ≤ 1000)
    (h : Ev c n sc value loc H fun o H₁ => o = .script ∧ Part c n sc u loc H₁ fun b H₃ => Q (.ref H₃.length) (H₃ ++ [.list ((pick c.ns Option.none b).map .int)]))
    (hs : ∀ x y, subscripted (.Slice Option.none u Option.none sp) false (.ref x) (.ref y) = operate [.ref y, .ref x] (getItem (.ref x) (.ref y)) := by (intro _ _; with_unfolding_all rfl))
    (ht : ∀ x rr, letTemporaryGo value (.ref x) rr = pure () := by (intro _ _; with_unfolding_all rfl)) : Ev c n sc (.Subscript value (.Slice Option.none u Option.none sp) pos) loc H Q := by
  intro r m cs s σ os Φ E R kk
  refine Subscript_ (h r m cs s σ os _ E R fun o H₁ o' h₁ t₁ σ₁ os₁ q₁ R₁ p₁ v₁ => ?_)
  refine x02 q₁ ?_; try clear q₁; intro eq9 q₁; subst eq9
  refine wpAny_Slice (evalPart_none_step (part_run q₁ r m cs { s with heap := h₁, toks := t₁ } σ₁ os₁ _ E R₁ fun b H₃ b' h₃ t₃ σ₃ os₃ q R₃ p₃ v₃ => ?_))
  refine evalPart_none_step ?_
  cases v₁
  refine x12 R₃.scr fun vs hl hi => ?_
  have hl' : h₃.IsList c.sl vs.toArray := stays_list (fun b o e => R₃.F.keep b o e) hl
  have all : All2 (VR c.sl σ₃) (c.ns.map .int) vs := ints_all hi
  refine kms_slice_lit (s := { s with heap := h₃, toks := t₃ }) (value := value) (slice := .Slice Option.none u Option.none sp) R₃.F R₃.N.news hl' .none v₃ rfl (fun D h' F' N' hl => ?_) (hs _ _) (ht _) (by simp only [List.size_toArray, hi.length, sizeLine_eq]; lia)
  have e : (pick c.ns Option.none b).map MV.int = pick (c.ns.map .int) Option.none b := by unfold pick; simp
  dsimp only at q
  rw [e] at q
  exact kk _ _ _ h' _ _ _ q (R₃.alloc F' N' hl (.list ((pick_all2 all Option.none b).mono fun _ _ => VR.mono (List.prefix_append _ _)))) ((p₁.trans p₃).trans (List.prefix_append _ _)) (R₃.newRef (s := { s with heap := h₃, toks := t₃ }) (σ' := σ₃) D)
end
end
section
section
variable {M : Model} {A : Around} {E : Value → Shared → Prop} {s : Shared}
theorem letGo_run : ∀ (l keep : List Value) {s : Shared} {Q : Unit → Shared → Prop}, Q () s → wpAny M A (PySem.letGo l keep) Q E s
  | [], keep, s, Q, h => wpAny_pure h
  | x :: rest, keep, s, Q, h => by
    unfold PySem.letGo
    exact wpAny_bind (wpAny_holding (wpAny_point (letGo_run rest keep h)))
theorem listItems_run {l : Addr} {items : Array Value} {Q : Array Value → Shared → Prop} (hl : s.heap.IsList l items) (h : Q items s) : wpAny M A (Builtin.List.listItems (.ref l)) Q E s := by
  refine hold fun Xh oh => ?_
  refine x13 hl ?_; try clear hl; intro o ho hc ht10; refine x11 ht10 ?_; clear ht10; intro ne hd
  refine oh ?_
  unfold Builtin.List.listItems
  exact wpAny_bind (wpAny_seqItems ho hd (wpAny_pure h))
theorem listAllItems_run {l : Addr} {items : Array Value} {msg : String} {Q : Array Value → Shared → Prop} (hl : s.heap.IsList l items) (h : Q items s) : wpAny M A (Builtin.List.listAllItems (.ref l) msg) Q E s := by
  unfold Builtin.List.listAllItems
  refine wpAny_bind (wpAny_typeOf hl.typeIs ?_)
  rw [if_pos (by decide)]
  exact listItems_run hl h
theorem sliceParts_run {sl : Addr} {vl vu : Value} {lo hi : Option Int} {Q : Value × Value × Value → Shared → Prop} (hs : s.heap.IsSliceOf sl vl vu .none) (pl : IsPart vl lo) (pu : IsPart vu hi) (h : Q (rawPart lo, rawPart hi, rawPart none) s) :
    wpAny M A (Builtin.List.listSliceParts (.ref sl)) Q E s := by
  refine x13 hs ?_; try clear hs; intro os hos hcs hds
  rw [listSliceParts_eq]
  refine wpAny_bind (wpAny_field hos hds (x := .none) rfl (wpAny_bind (wpAny_listPart .none ?_)))
  rw [if_neg (by decide)]
  refine wpAny_bind (wpAny_field hos hds (x := vl) rfl (wpAny_bind (wpAny_listPart pl ?_)))
  exact wpAny_bind (wpAny_field hos hds (x := vu) rfl (wpAny_bind (wpAny_listPart pu (wpAny_pure h))))
end
section
variable {prog : Program} {w : World} {A : Around} {E : Value → Shared → Prop} {s : Shared}
theorem setItem_slice {l sl y : Addr} {items new : Array Value} {vl vu : Value} {a b : Option Int} {Q : Unit → Shared → Prop} (hl : s.heap.IsList l items) (hy : s.heap.IsList y new)
    (hs : s.heap.IsSliceOf sl vl vu .none) (pl : IsPart vl a) (pu : IsPart vu b) (hz : items.size + new.size ≤ 2000)
    (h : Q () { s with heap := s.heap.update l (Obj.mapSeq fun xs => xs.extract 0 (lo a items.size) ++ new ++ xs.extract (max (lo a items.size) (hi b items.size)) xs.size) }) : wpAny (model prog w) A (setItem (.ref l) (.ref sl) (.ref y)) Q E s := by
  refine hold fun Xh oh => ?_
  refine x13 hl fun o ho hc ht11 => ?_; refine x11 ht11 ?_; clear ht11; intro ne hd
  refine x13 hs fun os hos hcs hds => ?_
  have hTs : s.TypeIs (.ref sl) "slice" := i12 os hos hcs
  refine oh ?_
  unfold setItem
  try with_reducible refine wpAny_holding ?_
  first | refine wpAny_bind (wpAny_pure ?_) | skip
  refine wpAny_bind (wpAny_sequenceKey hl.typeIs (by decide) ?_)
  refine wpAny_bind (wpAny_callSpecial?_slot (name := Str.ofString "__setitem__") hl.typeIs slot_list_setitem
    (wpAny_call_entry slot_list_setitem hl.typeIs entry_list_setitem ?_ (args_list_setitem _ _ _)))
  show wpAny _ _ (Builtin.List.listSubscript? (.ref sl) >>= _) _ _ s
  refine wpAny_bind ?_
  unfold Builtin.List.listSubscript?
  refine wpAny_bind (wpAny_specialOf hTs slice_no_index ?_)
  simp only [Option.isNone_none, if_true]
  refine wpAny_pure ?_
  show wpAny _ _ (typeOf (.ref sl) >>= _) _ _ s
  refine wpAny_bind (wpAny_typeOf hTs ?_)
  rw [if_neg (by decide)]
  refine wpAny_bind (sliceParts_run hs pl pu ?_)
  dsimp only
  have e3 : sliceIndices (rawPart a) (rawPart b) (rawPart none) items.size = pure (((lo a items.size : Nat) : Int), ((hi b items.size : Nat) : Int), 1) := by
    rw [sliceIndices_raw a b none items.size (by simp), kms_bounds]; rfl
  have hnt : Builtin.List.listTooLong (items.size + new.size) = false := by
    unfold Builtin.List.listTooLong; rw [sizeLine_eq]; simp; lia
  split
  all_goals
    first
      | refine wpAny_bind (listItems_run hy ?_)
      | refine wpAny_bind (listAllItems_run hy ?_)
    refine wpAny_bind (listItems_run hl ?_)
    rw [e3]
    refine wpAny_bind (wpAny_pure ?_)
    dsimp only
    rw [if_pos (by decide)]
    refine wpAny_bind (wpAny_rule ?_)
    rw [if_neg (by rw [hnt]; decide)]
    refine wpAny_bind (m := Builtin.List.listUpdate (.ref l) _) ?_
    unfold Builtin.List.listUpdate
    refine wpAny_updateSeq ho hd ?_ (by rw [sizeLine_eq]; lia) (by
      rw [sizeLine_eq]
      simp only [Array.size_append, Array.size_extract]
      exact Nat.le_trans (Nat.add_le_add (Nat.add_le_add_right (Nat.le_trans (Nat.sub_le _ _) (Nat.min_le_right _ _)) _) (Nat.le_trans (Nat.sub_le _ _) (Nat.min_le_left _ _))) (Nat.le_trans (Nat.add_le_add hz (Nat.le_trans (Nat.le_add_right _ _) hz)) (by decide)))
    refine wpAny_bind (letGo_run _ _ (wpAny_pure (i12 (.none) rfl (wpAny_pure ?_))))
    have e4 : (max ((lo a items.size : Nat) : Int) ((hi b items.size : Nat) : Int)).toNat = max (lo a items.size) (hi b items.size) := t9_max _ _
    rw [Int.toNat_natCast, e4]
    exact h
end
end
section
section
variable {c : Cx} {n : Nat} {sc : Scope} {r : RR} {m : Str → Option Value} {cs : Led} {h h' : Heap} {σ : List Addr} {os : List Obj} {loc : Loc} {H : List MO}
theorem Rel.update {k : Nat} {a : Addr} {o : Obj} {mo : MO} (R : Rel c n sc r m cs h σ os loc H) (ha : σ[k]? = some a) (ho : os[k]? = some o) (f : Obj → Obj) (hr : OR c.sl σ mo (f o)) :
    Rel c n sc r m cs (h.update a f) σ (os.set k (f o)) loc (H.set k mo) := by
  have e := split_at (zip_get ha ho)
  have e' := set_split (b := (a, f o)) (zip_get ha ho)
  have nd := R.N.nd
  rw [← map_fst_zip R.N.len, ← List.map_append] at nd
  conv at nd => rw [e, ← List.append_assoc, List.map_append, List.map_cons]
  have ne := nodup_ne nd
  have N := R.N.news
  rw [e, ← List.append_assoc] at N
  refine x02 (news_upd (f := f) R.F N (fun p hp => ne.1 p.1 (List.mem_map_of_mem hp)) (fun p hp => ne.2 p.1 (List.mem_map_of_mem hp)) rfl hr.notFreed) fun U1 U2 => ?_
  refine R.set U1 ?_ hr
  rw [zip_set ha, e', ← List.append_assoc]
  exact U2
end

section
variable {c : Cx} {n : Nat} {sc : Scope} {loc : Loc} {H : List MO}
noncomputable def splice {α : Type} (its ys : List α) (a b : Option Int) : List α := its.take (lo a its.length) ++ ys ++ its.drop (max (lo a its.length) (hi b its.length))
theorem Ex1.setslice {o l u sp pa value pos} {Q : PostF}
    (h : Ev c n sc value loc H fun v H₁ => Ev c n sc o loc H₁ fun ov H₂ => Part c n sc l loc H₂ fun a H₃ => Part c n sc u loc H₃ fun b H₄ => ∃ ky ys k its, v = .ref ky ∧ ov = .ref k ∧ H₄[ky]? = some (.list ys) ∧ H₄[k]? = some (.list its) ∧ its.length + ys.length ≤ 1000 ∧
      Q .next loc (H₄.set k (.list (splice its ys a b))))
    (hs : ∀ env, swapsWith value (some (.Subscript o (.Slice l u Option.none sp) pa)) pos.line env = pure false := by (intro _; with_unfolding_all rfl)) : Ex1 c n sc (.Assign [.Subscript o (.Slice l u Option.none sp) pa] value pos) loc H Q := by
  intro r m cs s σ os Φ E R kk
  refine wpAny_Assign_Subscript (exOf h R fun v H₁ v' h₁ t₁ σ₁ os₁ q₁ R₁ p₁ v₁ => exOf q₁ R₁ fun w H₂ w' h₂ t₂ σ₂ os₂ q₂ R₂ p₂ v₂ => ?_) (hs r.env)
  refine wpAny_Slice (exOf (s := { s with heap := h₂, toks := t₂ }) (part_run q₂) R₂ fun a H₃ a' h₃ t₃ σ₃ os₃ q₃ R₃ p₃ v₃ => exOf (s := { s with heap := h₃, toks := t₃ }) (part_run q₃) R₃ fun b H₄ b' h₄ t₄ σ₄ os₄ q₄ R₄ p₄ v₄ => ?_)
  refine evalPart_none_step ?_
  refine x46 q₄ ?_
  clear q₄; intro ky ys k its e1 e2 ey ek hz q
  subst e1 e2
  have R₅ := R₄.of (R₄.toRel.push { cls := .type "slice", data := .fields #[a', b', .none] })
  apply R₅.lst' ey (v₁.mono ((p₂.trans p₃).trans p₄)); intro y2 ws2 ey2 ly2
  apply R₅.lst' ek (v₂.mono (p₃.trans p₄)); intro x2 vs2 ex2 lx2
  refine setItem_slice (s := { s with heap := h₄.push _, toks := t₄ }) lx2.is ly2.is (Heap.IsSliceOf.new ..) v₃ v₄ (by simp only [List.size_toArray, lx2.len, ly2.len]; lia) ?_
  have hsz : vs2.toArray.size = its.length := by simp [lx2.len]
  rw [hsz]
  have hr : OR c.sl σ₄ (.list (splice its ys a b)) (Obj.mapSeq (fun xs => xs.extract 0 (lo a its.length) ++ ws2.toArray ++ xs.extract (max (lo a its.length) (hi b its.length)) xs.size) (W.listOf vs2.toArray ex2)) := by
    have e5 : (vs2.toArray.extract 0 (lo a its.length) ++ ws2.toArray ++ vs2.toArray.extract (max (lo a its.length) (hi b its.length)) vs2.toArray.size) = (vs2.take (lo a its.length) ++ ws2 ++ vs2.drop (max (lo a its.length) (hi b its.length))).toArray := by
      apply Array.toList_inj.mp
      simp
      exact List.take_of_length_le (by simp)
    unfold Obj.mapSeq
    dsimp only
    rw [e5]
    exact .list (((lx2.all.take _).append ly2.all).append (lx2.all.drop _))
  exact kk _ _ _ _ m cs _ t₄ σ₄ _ q (R₅.of (R₅.toRel.update lx2.at_ lx2.ob _ hr)) rfl (((p₁.trans p₂).trans p₃).trans p₄) .next
theorem SetI.item {k : Nat} {its : List MV} {i : Int} {v : MV} {Q : List MO → Prop} (ek : H[k]? = some (.list its)) (h0 : 0 ≤ i) (hi : i < its.length) (hz : its.length ≤ 1000) (q : Q (H.set k (.list (its.set i.toNat v)))) : SetI c n (.ref k) (.int i) v H Q := by
  intro sc r m cs s σ os loc as Φ E R ha kk
  apply ha.three'; intro x y z hx hy hv
  apply R.lst' ek hx; intro x vs e lx
  apply hy.intE'; intro t
  refine ki_setAt (R.N.news _ lx.mem).1 h0 (by lia) (by simp [lx.len]; lia) ?_
  have hr : OR c.sl σ (.list (its.set i.toNat v)) (Obj.mapSeq (fun xs => xs.setIfInBounds i.toNat z) (W.listOf vs.toArray e)) := by
    unfold Obj.mapSeq
    dsimp only
    have e5 : vs.toArray.setIfInBounds i.toNat z = (vs.set i.toNat z).toArray := by apply Array.toList_inj.mp; simp
    rw [e5]
    exact .list (lx.all.set hv)
  exact kk () _ () _ s.toks σ _ q (R.update lx.at_ lx.ob _ hr) (List.prefix_refl _) trivial

/-! unpacking -/
noncomputable abbrev KA (c : Cx) (n : Nat) (sc : Scope) (r : RR) (cs : Led) (s : Shared) (σ : List Addr) (Q : Loc → List MO → Prop) (Φ : Unit → Shared → Prop) : Prop :=
  ∀ loc' H' m' cs' h' tk' σ' os', Q loc' H' → RelF c n sc r m' cs' h' σ' os' loc' H' → cs'.map (·.1) = cs.map (·.1) → σ <+: σ' → Φ () { s with heap := h', toks := tk' }
noncomputable def AsgT (c : Cx) (n : Nat) (sc : Scope) (e : Expr) (v : MV) (loc : Loc) (H : List MO) (Q : Loc → List MO → Prop) : Prop :=
  ∀ (r : RR) (m : Str → Option Value) (cs : Led) (s : Shared) (σ : List Addr) (os : List Obj) (v' : Value) (Φ : Unit → Shared → Prop) (E : Value → Shared → Prop),
    RelF c n sc r m cs s.heap σ os loc H → VR c.sl σ v v' →
    KA c n sc r cs s σ Q Φ →
    wpAny (model c.prog c.w) r.A (assign e r.env v') Φ E s
noncomputable def Asgs (c : Cx) (n : Nat) (sc : Scope) (es : List Expr) (vs : List MV) (loc : Loc) (H : List MO) (Q : Loc → List MO → Prop) : Prop :=
  ∀ (r : RR) (m : Str → Option Value) (cs : Led) (s : Shared) (σ : List Addr) (os : List Obj) (vs' : List Value) (Φ : Unit → Shared → Prop) (E : Value → Shared → Prop),
    RelF c n sc r m cs s.heap σ os loc H → All2 (VR c.sl σ) vs vs' →
    KA c n sc r cs s σ Q Φ →
    wpAny (model c.prog c.w) r.A (assignInOrder ((assignEach es r.env).map (·.2)) vs') Φ E s
theorem AsgT.name {x p} {v : MV} {Q : Loc → List MO → Prop} {loc'} (hp : Put loc x v loc') (q : Q loc' H) : AsgT c n sc (.Name x p) v loc H Q := by
  intro r m cs s σ os v' Φ E R hv k
  exact wpAny_assign_Name (store_var R hp hv fun m' cs' h' tk' R' ec => k _ _ m' cs' h' tk' σ os q R' ec (List.prefix_refl _))
theorem Asgs.nil {Q : Loc → List MO → Prop} (q : Q loc H) : Asgs c n sc [] [] loc H Q := by
  intro r m cs s σ os vs' Φ E R hv k
  apply hv.nil'
  exact wpAny_pure (k _ _ m cs _ s.toks σ os q R rfl (List.prefix_refl _))
theorem Asgs.cons {e es v vs} {Q : Loc → List MO → Prop} (h : AsgT c n sc e v loc H fun loc' H' => Asgs c n sc es vs loc' H' Q) (he : ∀ env, assignEach (e :: es) env = (false, assign e env) :: assignEach es env := by (intro _; with_unfolding_all rfl)) : Asgs c n sc (e :: es) (v :: vs) loc H Q := by
  intro r m cs s σ os vs' Φ E R hv k
  apply hv.cons'; intro b bs h1 h2
  rw [he r.env]
  show wpAny _ _ (do holding bs (assign e r.env b); assignInOrder ((assignEach es r.env).map (·.2)) bs) _ _ _
  refine wpAny_bind (wpAny_holding (h r m cs s σ os b _ E R h1 fun loc' H' m' cs' h' tk' σ' os' q R' ec p => ?_))
  exact q r m' cs' { s with heap := h', toks := tk' } σ' os' bs Φ E R' (h2.mono fun _ _ => VR.mono p) fun l2 H2 m2 cs2 h2 tk2 σ2 os2 q2 R2 ec2 p2 => k l2 H2 m2 cs2 h2 tk2 σ2 os2 q2 R2 (ec2.trans ec) (p.trans p2)

structure TObj (c : Cx) (r : RR) (cs : Led) (h : Heap) (σ : List Addr) (os : List Obj) (k : Nat) (its : List MV) (x : Addr) (vs : List Value) : Prop where
  all : All2 (VR c.sl σ) its vs
  is : IsTup h x vs.toArray
theorem Rel.tup' {r : RR} {m : Str → Option Value} {cs : Led} {h : Heap} {σ : List Addr} {os : List Obj} {k : Nat} {its : List MV} {P : Value → Prop} (R : Rel c n sc r m cs h σ os loc H) (e : H[k]? = some (.tuple its)) {a : Value} (v : VR c.sl σ (.ref k) a)
    (f : ∀ x vs, TObj c r cs h σ os k its x vs → P (.ref x)) : P a := by
  apply v.refE'; intro x hx
  refine R.N.obj' e fun y o hy ho hr hm => ?_
  apply same_at hy hx
  revert hm
  apply hr.tupleE; intro vs n all hm
  exact f y vs ⟨all, R.N.news.isTup hm⟩
theorem Rel.tup {r : RR} {m : Str → Option Value} {cs : Led} {h : Heap} {σ : List Addr} {os : List Obj} {k : Nat} {its : List MV} (R : Rel c n sc r m cs h σ os loc H) (e : H[k]? = some (.tuple its)) {a : Value} (v : VR c.sl σ (.ref k) a) :
    ∃ x vs, a = .ref x ∧ TObj c r cs h σ os k its x vs := by
  apply R.tup' e v; intro x vs T; exact i22 x vs rfl T
theorem AsgT.tuple {elts kk p} {k : Nat} {vs : List MV} {Q : Loc → List MO → Prop} (hq : c.q = true) (ek : H[k]? = some (.tuple vs)) (h : Asgs c n sc elts vs loc H Q)
    (hl : ∀ env, (assignEach elts env).length = vs.length := by (intro _; with_unfolding_all rfl)) (hf : ∀ env, (assignEach elts env).findIdx? (·.1) = none := by (intro _; with_unfolding_all rfl)) : AsgT c n sc (.Tuple elts kk p) (.ref k) loc H Q := by
  intro r m cs s σ os v' Φ E R hv k'
  apply R.tup' ek hv; intro x ws T
  refine unpackN_ R.F R.N.news T.is (R.hd hq) (by rw [hl, List.size_toArray, T.all.length]) (hf r.env) fun h' F' N' => ?_
  exact h r m cs { s with heap := h' } σ os ws Φ E (R.of (R.same F' N')) T.all k'
theorem Ex1.tup {elts kk tp value pos} {Q : PostF} (h : Ev c n sc value loc H fun v H₁ => AsgT c n sc (.Tuple elts kk tp) v loc H₁ (Q .next))
    (hs : ∀ env, swapsWithSole [.Tuple elts kk tp] value pos.line env = pure false := by (intro _; with_unfolding_all rfl))
    (hw : ∀ env : Env, env.scope = sc → swappedStores [.Tuple elts kk tp] value env = pure none) : Ex1 c n sc (.Assign [.Tuple elts kk tp] value pos) loc H Q := by
  intro r m cs s σ os Φ E R k
  refine Assign_Tuple (exOf h R fun v H₁ v' h₁ t₁ σ₁ os₁ q₁ R₁ p₁ v₁ => ?_) (hs r.env) (hw r.env R.es)
  exact q₁ r m cs { s with heap := h₁, toks := t₁ } σ₁ os₁ v' _ E R₁ v₁ fun loc' H' m' cs' h' tk' σ' os' q R' ec p => k _ _ _ _ m' cs' h' tk' σ' os' q R' ec (p₁.trans p) .next
inductive Puts : Loc → List Str → List MV → Loc → Prop
  | nil {l} : Puts l [] [] l
  | cons {l l' l'' x xs v vs} : Put l x v l' → Puts l' xs vs l'' → Puts l (x :: xs) (v :: vs) l''
theorem puts_run {names : List Str} {vs : List MV} {loc' : Loc} (hp : Puts loc names vs loc') {Q : Loc → List MO → Prop} (q : Q loc' H) :
    ∀ (r : RR) (m : Str → Option Value) (cs : Led) (s : Shared) (σ : List Addr) (os : List Obj) (vs' : List Value) (Φ : Unit → Shared → Prop) (E : Value → Shared → Prop),
    RelF c n sc r m cs s.heap σ os loc H → All2 (VR c.sl σ) vs vs' →
    KA c n sc r cs s σ Q Φ →
    wpAny (model c.prog c.w) r.A (assignInOrder (names.map fun x => bindName r.env x) vs') Φ E s := by
  induction hp with
  | nil =>
    intro r m cs s σ os vs' Φ E R hv k
    apply hv.nil'
    exact wpAny_pure (k _ _ m cs _ s.toks σ os q R rfl (List.prefix_refl _))
  | cons h1 h2 ih =>
    intro r m cs s σ os vs' Φ E R hv k
    apply hv.cons'; intro b bs hv1 hv2
    · refine wpAny_bind (wpAny_holding (bindName_ (store_var R h1 hv1 fun m' cs' h' tk' R' ec => ?_)))
      exact ih q r m' cs' { s with heap := h', toks := tk' } σ os _ Φ E R' hv2 fun l2 H2 m2 cs2 h2 tk2 σ2 os2 q2 R2 ec2 p2 => k l2 H2 m2 cs2 h2 tk2 σ2 os2 q2 R2 (ec2.trans ec) p2
theorem Ex1.tupS {elts kk tp value pos} {Q : PostF} (hq : c.q = true) (names : List Str) (h : Ev c n sc value loc H fun v H₁ => ∃ k vs loc', v = .ref k ∧ H₁[k]? = some (.tuple vs) ∧ names.length = vs.length ∧ Puts loc names.reverse vs.reverse loc' ∧ Q .next loc' H₁)
    (hs : ∀ env, swapsWithSole [.Tuple elts kk tp] value pos.line env = pure false := by (intro _; with_unfolding_all rfl))
    (hw : ∀ env : Env, env.scope = sc → swappedStores [.Tuple elts kk tp] value env = pure (some names)) : Ex1 c n sc (.Assign [.Tuple elts kk tp] value pos) loc H Q := by
  intro r m cs s σ os Φ E R k
  refine Assign_Tuple_swapped (exOf h R fun v H₁ v' h₁ t₁ σ₁ os₁ q₁ R₁ p₁ v₁ => ?_) (hs r.env) (hw r.env R.es)
  refine x35 q₁ ?_
  clear q₁; intro j vs loc' e1 ej hl hp q
  subst e1
  apply R₁.tup' ej v₁; intro x ws T
  have e : names.length = ws.toArray.size := by rw [List.size_toArray, ← T.all.length, hl]
  rw [e]
  refine unpackItems_tuple (s := { s with heap := h₁, toks := t₁ }) (R₁.hd hq) T.is fun h' he => ?_
  have R₂ := R₁.of (R₁.toRel.keeps (h' := h') fun b o eb => he b o (Nat.ne_of_lt (Heap.lt_size eb)) eb)
  exact puts_run hp (Q := Q .next) q r m cs { s with heap := h', toks := t₁ } σ₁ os₁ ws.reverse _ E R₂ T.all.reverse fun loc' H' m' cs' h' tk' σ' os' q R' ec p => k _ _ _ _ m' cs' h' tk' σ' os' q R' ec (p₁.trans p) .next
end
end
section
section
variable {c : Cx} {n : Nat} {sc : Scope} {loc : Loc} {H : List MO}
noncomputable def IsI (H : List MO) (k : Nat) (xs : List Int) : Prop := H[k]? = some (.list (xs.map .int))
noncomputable def IsR (H : List MO) (k : Nat) (rows : List (List Int)) : Prop := ∃ ks : List Nat, H[k]? = some (.list (ks.map .ref)) ∧ All2 (IsI H) ks rows
theorem intsAre_of {sl : Addr} {σ : List Addr} : ∀ {xs : List Int} {vs : List Value}, All2 (VR sl σ) (xs.map .int) vs → IntsAre vs xs := by
  intro xs
  induction xs with
  | nil => intro vs h; apply h.nil'; exact .nil
  | cons x xs ih => intro vs h; apply h.cons'; intro v vs h t; apply h.intE'; intro t'; exact .cons _ _ (ih t)
theorem Cmp.eqI {a b : Nat} {xs ys : List Int} {Q : Post Bool} (ha : IsI H a xs) (hb : IsI H b ys) (q : Q (decide (xs = ys)) H) : Cmp c n .Eq (.ref a) (.ref b) H Q := by
  intro sc r m cs s σ os loc as Φ E R h k
  apply h.two'; intro x y hx hy
  apply R.lst' ha hx; intro x vs e lx
  apply R.lst' hb hy; intro y ws f ly
  exact eq_intsK lx.is (intsAre_of lx.all) ly.is (intsAre_of ly.all) (by have := R.un; lia) (k _ H _ _ s.toks σ os q R (List.prefix_refl _) rfl)
theorem Cmp.neI {a b : Nat} {xs ys : List Int} {Q : Post Bool} (ha : IsI H a xs) (hb : IsI H b ys) (q : Q (!decide (xs = ys)) H) : Cmp c n .NotEq (.ref a) (.ref b) H Q := by
  intro sc r m cs s σ os loc as Φ E R h k
  apply h.two'; intro x y hx hy
  apply R.lst' ha hx; intro x vs e lx
  apply R.lst' hb hy; intro y ws f ly
  exact ne_intsK lx.is (intsAre_of lx.all) ly.is (intsAre_of ly.all) (by have := R.un; lia) (k _ H _ _ s.toks σ os q R (List.prefix_refl _) rfl)
noncomputable def rowsP (rows : List (List Int)) : List PyData := rows.map fun r => .list (r.map .int)
theorem rows_reads {r : RR} {m : Str → Option Value} {cs : Led} {h : Heap} {σ : List Addr} {os : List Obj} (R : Rel c n sc r m cs h σ os loc H) : ∀ {ks : List Nat} {rows : List (List Int)} {vs : List Value}, All2 (IsI H) ks rows → All2 (VR c.sl σ) (ks.map .ref) vs → ∃ as, ReadsAll h vs (rowsP rows) as := by
  intro ks rows vs h
  induction h generalizing vs with
  | nil => intro h; apply h.nil'; exact ⟨_, .nil⟩
  | cons h1 t1 ih => intro h; apply h.cons'; intro v vs h2 t2; apply R.lst' h1 h2; intro x ws e lx; exact (ih t2).elim fun as ha => ⟨_, .cons (reads_of_ints lx.is (intsAre_of lx.all)) ha⟩
theorem rowsP_lay : ∀ rows : List (List Int), PyData.canLayAll0 (rowsP rows) = true ∧ PyData.depthAll (rowsP rows) ≤ 2
  | [] => by simp [rowsP, PyData.canLayAll0, PyData.depthAll]
  | r :: rows => by
    refine x02 (rowsP_lay rows) fun h1 h2 => ?_
    have := PySem.W.depthAll_ints r
    unfold rowsP at h1 h2 ⊢
    simp only [List.map_cons, PyData.canLayAll0, PyData.canLay0, PyData.depthAll, PyData.depth, canLayAll0_ints, h1, Bool.and_self, true_and]
    lia
theorem rowsP_shaped (rows : List (List Int)) : SeqAt.shaped (.list (rowsP rows)) = true := by
  have ⟨h1, h2⟩ := rowsP_lay rows
  show (PyData.canLay0 (.list (rowsP rows)) && decide (PyData.depth (.list (rowsP rows)) ≤ 64)) = true
  rw [Bool.and_eq_true]
  exact ⟨by simp only [PyData.canLay0]; exact h1, decide_eq_true (by simp only [PyData.depth]; lia)⟩
theorem rowsP_eqv : ∀ xs ys : List (List Int), PyData.eqvAll (rowsP xs) (rowsP ys) = decide (xs = ys)
  | [], [] => by simp [rowsP, PyData.eqvAll]
  | [], _ :: _ => by simp [rowsP, PyData.eqvAll]
  | _ :: _, [] => by simp [rowsP, PyData.eqvAll]
  | a :: r, b :: t => by
    have ih := rowsP_eqv r t
    unfold rowsP at ih ⊢
    simp only [List.map_cons, PyData.eqvAll, PyData.eqv, ked_eqvAll, ih]
    by_cases h : a = b <;> by_cases h' : r = t <;> simp [h, h']
theorem rows_read {r : RR} {m : Str → Option Value} {cs : Led} {h : Heap} {σ : List Addr} {os : List Obj} (R : Rel c n sc r m cs h σ os loc H) {k : Nat} {rows : List (List Int)} {v : Value} {P : Value → Prop} (hk : IsR H k rows) (hv : VR c.sl σ (.ref k) v)
    (f : ∀ x as, Reads h (.ref x) (.list (rowsP rows)) as → P (.ref x)) : P v := by
  refine x12 hk fun ks e all => ?_
  apply R.lst' e hv; intro x vs g lx
  refine x11 (rows_reads R all lx.all) fun as ha => ?_
  refine x13 lx.is fun o ho hc h' => x11 h' fun nn hd => ?_
  exact f x _ (.list ho hc hd ha)
theorem Cmp.eqR {a b : Nat} {xs ys : List (List Int)} {Q : Post Bool} (ha : IsR H a xs) (hb : IsR H b ys) (q : Q (decide (xs = ys)) H) : Cmp c n .Eq (.ref a) (.ref b) H Q := by
  intro sc r m cs s σ os loc as Φ E R h k
  apply h.two'; intro x y hx hy
  apply rows_read R ha hx; intro x ra ga
  apply rows_read R hb hy; intro y rb gb
  refine eq_dataH ga gb (rowsP_shaped _) (rowsP_shaped _) (by have := R.un; lia) ?_
  simp only [PyData.eqv, rowsP_eqv]
  exact k _ H _ _ s.toks σ os q R (List.prefix_refl _) rfl
theorem Cmp.neR {a b : Nat} {xs ys : List (List Int)} {Q : Post Bool} (ha : IsR H a xs) (hb : IsR H b ys) (q : Q (!decide (xs = ys)) H) : Cmp c n .NotEq (.ref a) (.ref b) H Q := by
  intro sc r m cs s σ os loc as Φ E R h k
  apply h.two'; intro x y hx hy
  apply rows_read R ha hx; intro x ra ga
  apply rows_read R hb hy; intro y rb gb
  refine ne_dataH ga gb (rowsP_shaped _) (rowsP_shaped _) (by have := R.un; lia) ?_
  simp only [PyData.eqv, rowsP_eqv]
  exact k _ H _ _ s.toks σ os q R (List.prefix_refl _) rfl
theorem Cmp.inI {b : Nat} {x : Int} {ys : List Int} {Q : Post Bool} (hb : IsI H b ys) (q : Q (ys.any (· == x)) H) : Cmp c n .In (.int x) (.ref b) H Q := by
  intro sc r m cs s σ os loc as Φ E R h k
  apply h.two'; intro x y hx hy
  apply R.lst' hb hy; intro y ws f ly
  apply hx.intE'; intro t
  exact in_list_ints ly.is (intsAre_of ly.all) (k _ H _ _ s.toks σ os q R (List.prefix_refl _) rfl)
theorem Cmp.notInI {b : Nat} {x : Int} {ys : List Int} {Q : Post Bool} (hb : IsI H b ys) (q : Q (!ys.any (· == x)) H) : Cmp c n .NotIn (.int x) (.ref b) H Q := by
  intro sc r m cs s σ os loc as Φ E R h k
  apply h.two'; intro x y hx hy
  apply R.lst' hb hy; intro y ws f ly
  apply hx.intE'; intro t
  exact notin_list_ints ly.is (intsAre_of ly.all) (k _ H _ _ s.toks σ os q R (List.prefix_refl _) rfl)
end
end
section
noncomputable def relabelS (scC sc : Scope) : Scope := { scC with names := scC.names.map fun (n, k) => if (k == .free && sc.kind == .function && sc.names.lookup n == some .cell) then (n, .cell) else (n, k) }
noncomputable def frees (scC : Scope) : List Str := (scC.names.filter fun p => p.2 == .free).map (·.1)

noncomputable def Ifs (c : Cx) (n : Nat) (sc : Scope) (ifs : List Expr) (loc : Loc) (H : List MO) (Q : Post Bool) : Prop :=
  Run c n sc (fun env => forIn ifs true fun t r => if r = true then do let ok ← isTrue t env (eval t env); pure (ForInStep.yield ok) else pure (ForInStep.yield r)) (fun _ b b' => b' = b) loc H Q
/-- the turns of a comprehension -/
noncomputable def CompL (c : Cx) (n : Nat) (sc : Scope) (x : Str) (elt : Expr) (ifs : List Expr) (cond : List MO → Prop) (kD : Nat) (Q : List MO → Prop) : List MV → List MV → Loc → List MO → Prop
  | [], acc, loc, H => H[kD]? = some (.list acc) ∧ Q H
  | v :: its, acc, loc, H => ∃ loc', Put loc x v loc' ∧ Ifs c n sc ifs loc' H fun b H₁ =>
      (b = true → Ev c n sc elt loc' H₁ fun w H₂ => H₂[kD]? = some (.list acc) ∧ acc.length ≤ 900 ∧ cond (H₂.set kD (.list (acc ++ [w]))) ∧ CompL c n sc x elt ifs cond kD Q its (acc ++ [w]) loc' (H₂.set kD (.list (acc ++ [w])))) ∧
      (b = false → cond H₁ ∧ CompL c n sc x elt ifs cond kD Q its acc loc' H₁)

section
variable {c : Cx} {n : Nat} {sc : Scope} {loc : Loc} {H : List MO}
theorem Ifs.nil {Q : Post Bool} (q : Q true H) : Ifs c n sc [] loc H Q := by
  intro r m cs s σ os Φ E R k
  exact wpAny_pure (k true H true _ s.toks σ os q R (List.prefix_refl _) rfl)
theorem Ifs.one {t : Expr} {Q : Post Bool} (h : Tst c n sc t loc H Q) : Ifs c n sc [t] loc H Q := by
  intro r m cs s σ os Φ E R k
  show wpAny _ _ (forIn [t] true _) _ _ _
  rw [List.forIn_cons]
  rw [if_pos rfl]
  refine wpAny_bind (wpAny_bind (h r m cs s σ os _ E R fun b H' b' h' t' σ' os' q R' p e => ?_))
  cases e
  exact wpAny_pure (wpAny_pure (k b H' b h' t' σ' os' q R' p rfl))

theorem closure_run {env : Env} : ∀ (names : List (Str × NameKind)) (acc : List (Str × Addr)) (fa : Str → Addr), (∀ y, (y, NameKind.free) ∈ names → env.cells.lookup y = some (fa y)) →
    (forIn names acc fun (x : Str × NameKind) (cs : List (Str × Addr)) => if (x.2 == .free) = true then do let a ← cellOf env x.1; pure (ForInStep.yield ((x.1, a) :: cs)) else pure (ForInStep.yield cs) : Sem (List (Str × Addr))) =
      pure ((((names.filter fun p => p.2 == .free).map (·.1)).map fun y => (y, fa y)).reverse ++ acc)
  | [], acc, fa, _ => by rw [List.forIn_nil]; rfl
  | (x, k) :: r, acc, fa, h => by
    rw [List.forIn_cons]
    by_cases hk : (k == .free) = true
    · rw [if_pos hk]
      have hk' : k = .free := by simpa using hk
      subst hk'
      have hc : cellOf env x = pure (fa x) := by unfold cellOf; rw [h x (.head _)]
      dsimp only
      rw [hc]
      simp only [pure_bind]
      rw [closure_run r _ fa fun y hy => h y (.tail _ hy)]
      simp
    · rw [if_neg hk]
      simp only [pure_bind]
      rw [closure_run r acc fa fun y hy => h y (.tail _ hy)]
      simp [hk]
theorem closureFor_run {scC : Scope} {env : Env} (fa : Str → Addr) (h : ∀ y ∈ frees scC, env.cells.lookup y = some (fa y)) : closureFor scC env = pure (((frees scC).map fun y => (y, fa y)).reverse) := by
  have := closure_run (env := env) scC.names [] fa fun y hy => h y (by
    unfold frees
    exact List.mem_map.mpr (i12 (y, .free) (List.mem_filter.mpr ⟨hy, rfl⟩) rfl))
  rw [List.append_nil] at this
  unfold frees
  have e : closureFor scC env = ((forIn scC.names [] fun (x : Str × NameKind) (cs : List (Str × Addr)) => if (x.2 == .free) = true then do let a ← cellOf env x.1; pure (ForInStep.yield ((x.1, a) :: cs)) else pure (ForInStep.yield cs) : Sem (List (Str × Addr))) >>= fun cs => pure cs) := rfl
  rw [e, this, pure_bind]
theorem lookup_fa {ys : List Str} {fa : Str → Addr} {y : Str} (h : y ∈ ys) : ((ys.map fun y => (y, fa y)).reverse).lookup y = some (fa y) := by
  have : ∀ {zs : List Str}, y ∈ zs → (zs.map fun y => (y, fa y)).lookup y = some (fa y) := by
    intro zs
    induction zs with
    | nil => intro h; cases h
    | cons z zs ih =>
      intro h
      rw [List.map_cons, List.lookup_cons]
      by_cases e : y = z
      · subst e; simp
      · have : (y == z) = false := beq_eq_false_iff_ne.mpr e
        rw [this]
        exact ih ((List.mem_cons.mp h).resolve_left e)
  rw [← List.map_reverse]
  exact this (List.mem_reverse.mpr h)

/-- a store into the block's own names -/
theorem comp_store {r : RR} {m : Str → Option Value} {cs X₁ : Led} {s : Shared} {σ : List Addr} {os : List Obj} {oC : Obj} {es : Array DictEntry} {ep : Nat} {x : Str} {v : MV} {v' : Value} {loc' : Loc} {Φ : Unit → Shared → Prop} {E : Value → Shared → Prop} {M : Model}
    (hX : r.X = (r.env.locals, oC) :: X₁) (R : Rel c n sc r m cs s.heap σ os loc H) (hd : oC.data = .dict es ep) (hs : StrKeys es) (hk : sc.names.lookup x = some .local) (hp : Put loc x v loc') (hv : VR c.sl σ v v')
    (k : ∀ oC' es' ep' h' tk', oC'.data = .dict es' ep' → StrKeys es' → Rel c n sc { r with X := (r.env.locals, oC') :: X₁ } m cs h' σ os loc' H → (∀ b o, b ≠ r.env.locals → s.heap.get? b = some o → h'.get? b = some o) → Φ () { s with heap := h', toks := tk' }) : wpAny M r.A (storeName r.env x v') Φ E s := by
  have ek : r.env.scope.kind = .function := by rw [R.es]; exact R.ek
  have hmem : (r.env.locals, oC) ∈ (cs ++ r.X) ++ σ.zip os := by rw [hX]; simp
  have hC := R.N.news _ hmem
  have hns : s.heap.Ns r.env.locals (fun y => nsFind es y) := i34 oC es ep hC.1 hd hs (fun _ => rfl)
  have hkx : r.env.kindOf x = some .local := by show r.env.scope.names.lookup x = _; rw [R.es]; exact hk
  refine wpAny_storeName_local hkx hns (fun h' hn hsb => ?_) (by rw [ek]; rfl)
  refine x34 hn ?_; try clear hn; intro oC' es' ep' ho' hd' hs' hf'
  have hkeep : ∀ b o, b ≠ r.env.locals → s.heap.get? b = some o → h'.get? b = some o := fun b o hb e => (hsb.2 b hb).trans e
  have N₀ := R.N
  rw [hX] at N₀
  have nd : ((cs ++ r.X).map (·.1)).Nodup := (List.nodup_append.mp R.N.nd).1
  have hm : (r.env.locals, oC) ∈ cs ++ r.X := List.mem_append_right _ (hX.symm ▸ .head _)
  refine k oC' es' ep' h' _ hd' hs' ?_ hkeep
  refine { R with F := fr_but R.F hC.2.1 hC.2.2 hkeep, N := N₀.turn ho' hkeep, vars := vars_put (r := r) hp R.nd R.vars (fun y w ne h => h.imp id (fun o es2 ep2 h1 h2 _ h4 => ?_) (fun b o hl h1 h2 => ?_)) hv (.inl ⟨hkx, .inr (i34 oC' es' ep' (List.mem_append_right _ (.head _)) hd' hs' ((hf' x).trans (if_pos rfl)))⟩), nd := hp.keys ▸ R.nd }
  · have e := (nodup_eq nd h1 hm ▸ h2).symm.trans hd
    cases e
    exact i34 oC' es' ep' (List.mem_append_right _ (.head _)) hd' hs' ((hf' y).trans ((if_neg ne).trans h4))
  · rcases List.mem_append.mp h1 with h | h
    · exact List.mem_append_left _ h
    · rw [hX] at h
      cases h with
      | head => rw [hd] at h2; cases h2
      | tail _ h => exact List.mem_append_right _ (.tail _ h)

theorem Rel.setX {r : RR} {m : Str → Option Value} {cs X₂ : Led} {h h' : Heap} {σ : List Addr} {os : List Obj} (R : Rel c n sc r m cs h σ os loc H) (F' : Fr r.h₀ r.L h' m) (N' : HR c.sl r.h₀ r.L h' (cs ++ X₂) σ H os)
    (hX : ∀ a o, (a, o) ∈ cs ++ r.X → ((∃ es ep, o.data = .dict es ep) ∨ ∃ v, o.data = .cell v) → (a, o) ∈ cs ++ X₂) : Rel c n sc { r with X := X₂ } m cs h' σ os loc H :=
  { R with F := F', N := N', vars := fun y w hy => (R.vars y w hy).imp fun w' h => ⟨h.1, h.2.imp (r := r) id (fun o es ep h1 h2 h3 h4 => i34 o es ep (hX _ _ h1 (.inl (i21 _ _ h2))) h2 h3 h4) fun a o _ h1 h2 => hX _ _ h1 (.inr ⟨_, h2⟩)⟩ }

/-- what an iterator's object is not -/
noncomputable def Plain (o : Obj) : Prop := (∀ es ep, o.data ≠ .dict es ep) ∧ ∀ v, o.data ≠ .cell v

structure CompI (c : Cx) (n : Nat) (sc : Scope) (r : RR) (I : Addr) (its : List MV) (cond : List MO → Prop) (St : Nat → Obj → Prop) (x : Str) (elt : Expr) (ifs : List Expr) (kD : Nat) (Q : List MO → Prop) (X₀ : Led) (m : Str → Option Value) (cs : Led) (σ : List Addr) (t : LT) : Prop where
  e2 : t.i ≤ its.length
  e4 : Rel c n sc { r with X := (r.env.locals, t.oC) :: (I, t.oI) :: X₀ } m cs t.h t.σ t.os t.loc t.H
  e5 : t.oC.data = .dict t.es t.ep
  e6 : StrKeys t.es
  e7 : St t.i t.oI
  e8 : cond t.H
  e9 : σ <+: t.σ
  e10 : CompL c n sc x elt ifs cond kD Q (its.drop t.i) t.acc t.loc t.H
theorem comp_free {prog : Program} {w : World} {A : Around} {R : Result → Shared → Prop} {elt target iter : Expr} {ifs : List Expr} {scope : Scope} {pos : Pos} {it acc : Value} {env : Env} {ι : Type} (μ : ι → Nat) (st : ι → Shared) (P : ι → Prop)
    (turn : ∀ (x : ι) (X : Option Value → Shared → Prop) (Y : Bool → Shared → Prop) (V U : Value → Shared → Prop) (E : Value → Shared → Prop), P x → (∀ s₁, R (.ok .next) s₁ → X none s₁) →
      (∀ v s₁, wpAny (model prog w) A (assign target env v) (fun _ s₂ => wpAny (model prog w) A (forIn ifs true fun c r => if r = true then do let ok ← isTrue c env (eval c env); pure (ForInStep.yield ok) else pure (ForInStep.yield r)) Y E s₂) E s₁ → X (some v) s₁) →
      (∀ s₃, wpAny (model prog w) A (eval elt env) V E s₃ → Y true s₃) → (∀ v s₄, wpAny (model prog w) A (call (.builtin "list.append") [acc, v]) U E s₄ → V v s₄) →
      (∀ y, P y → μ y < μ x → (∀ v, U v (st y)) ∧ Y false (st y)) → wpAny (model prog w) A (pyNext it) X E (st x))
    (x₀ : ι) (h₀ : P x₀) (ht : ∀ v, letOwnedTupleGo target it v = pure () := by intro _; rfl) : codeAny (model prog w) A (.compLoop (.ListComp elt [⟨target, iter, ifs, 0⟩] scope pos) 0 it acc env) R (st x₀) := by
  refine codeAny_compLoop_tests (fun j s' => ∃ x, μ x = j ∧ st x = s' ∧ P x) ?_ (μ x₀) (i13 x₀ rfl rfl h₀) ht
  intro j s' hr12
  refine x13 hr12 ?_; try clear hr12; intro x eq13 eq14 h; subst eq13; subst eq14
  apply turn x
  · exact h
  · exact fun _ h => h
  · exact fun _ _ h => h
  · exact fun _ h => by rw [if_pos rfl]; exact h
  · exact fun _ _ h => h
  · intro y hy hl
    refine ⟨fun _ => i12 _ hl (i13 y rfl rfl hy), ?_⟩
    rw [if_neg Bool.false_ne_true]; exact i12 _ hl (i13 y rfl rfl hy)
theorem led_one {cs X : Led} {a : Addr × Obj} : cs ++ a :: X = (cs ++ [a]) ++ X := by rw [List.append_assoc]; rfl
theorem led_mid {cs X : Led} {a b : Addr × Obj} : cs ++ a :: b :: X = (cs ++ [a]) ++ b :: X := by rw [List.append_assoc]; rfl
theorem comp_core {r : RR} {I C D : Addr} {σ₀ : List Addr} {its : List MV} {cond : List MO → Prop} {St : Nat → Obj → Prop} {x : Str} {px pos : Pos} {elt iter : Expr} {ifs : List Expr} {scC : Scope} {kD : Nat} {Q : List MO → Prop} {X₀ : Led}
    (hS : Steps c r.A I r.h₀ r.L σ₀ its cond St) (hpl : ∀ i o, St i o → o.isFreed = false → Plain o) (hx : sc.names.lookup x = some .local) (hC : r.env.locals = C)
    {m : Str → Option Value} {cs : Led} {s : Shared} {σ : List Addr} {os : List Obj} {oI oC : Obj} {es : Array DictEntry} {ep : Nat} {Rr : Result → Shared → Prop}
    (R : Rel c n sc { r with X := (C, oC) :: (I, oI) :: X₀ } m cs s.heap σ os loc H) (hdC : oC.data = .dict es ep) (hsC : StrKeys es) (hp : σ₀ <+: σ) (hD : σ[kD]? = some D) (hst : St 0 oI) (hc : cond H)
    (hL : CompL c n sc x elt ifs cond kD Q its [] loc H)
    (k : ∀ H' h' tk' σ' os' oC' es' ep', Q H' → Fr r.h₀ r.L h' m → HR c.sl r.h₀ r.L h' (cs ++ (C, oC') :: X₀) σ' H' os' → oC'.data = .dict es' ep' → StrKeys es' → σ <+: σ' → Rr (.ok .next) { s with heap := h', toks := tk' }) :
    codeAny (model c.prog c.w) r.A (.compLoop (.ListComp elt [⟨.Name x px, iter, ifs, 0⟩] scC pos) 0 (.ref I) (.ref D) r.env) Rr s := by
  subst hC
  refine comp_free (fun t : LT => its.length + 1 - t.i) (fun t => { s with heap := t.h, toks := t.tk }) (CompI c n sc r I its cond St x elt ifs kD Q X₀ m cs σ) (fun t X Y V U E P xN xS xY xV zA => ?_)
    ⟨0, m, cs, s.heap, s.toks, σ, os, loc, H, oI, oC, es, ep, [], .none⟩ ⟨Nat.zero_le _, R, hdC, hsC, hst, hc, List.prefix_refl _, hL⟩
  have R' := P.e4
  have hmemI : (I, t.oI) ∈ cs ++ (r.env.locals, t.oC) :: (I, t.oI) :: X₀ := List.mem_append_right _ (.tail _ (.head _))
  have nI := R'.N.news _ (List.mem_append_left _ hmemI)
  have pl := hpl _ _ P.e7 (Heap.get?_some_iff.mp nI.1).2
  by_cases hlt : t.i < its.length
  · refine x12 ((List.drop_eq_getElem_cons hlt ▸ P.e10 : CompL c n sc x elt ifs cond kD Q (its[t.i] :: its.drop (t.i + 1)) t.acc t.loc t.H)) fun loc₁ hput hex => ?_
    refine hS.item t.i its[t.i] _ _ t.σ t.os t.H t.oI _ _ (List.getElem?_eq_getElem hlt) R'.N (hp.trans P.e9) hmemI P.e8 P.e7 fun v' oI₂ h₂ t₂ hv hst₂ hI₂ hk₂ => xS _ _ ?_
    have R₂ : Rel c n sc { r with X := (r.env.locals, t.oC) :: (I, oI₂) :: X₀ } m cs h₂ t.σ t.os t.loc t.H := Rel.setX (r := { r with X := (r.env.locals, t.oC) :: (I, t.oI) :: X₀ }) R' (fr_but R'.F nI.2.1 nI.2.2 hk₂) (led_mid ▸ HR.turn (oI := t.oI) (led_mid ▸ R'.N) hI₂ hk₂) fun a o ha hpo => by
      rcases List.mem_append.mp ha with h1 | h1
      · exact List.mem_append_left _ h1
      · cases h1 with
        | head => exact List.mem_append_right _ (.head _)
        | tail _ h1 => cases h1 with
          | tail _ h1 => exact List.mem_append_right _ (.tail _ (.tail _ h1))
          | head =>
            rcases hpo with ⟨es, ep, q⟩ | ⟨v, q⟩
            · exact absurd q (pl.1 _ _)
            · exact absurd q (pl.2 _)
    refine wpAny_assign_Name (comp_store (r := { r with X := (r.env.locals, t.oC) :: (I, oI₂) :: X₀ }) (s := { s with heap := h₂, toks := t₂ }) rfl R₂ P.e5 P.e6 hx hput hv fun oC₃ es₃ ep₃ h₃ t₃ hd₃ hs₃ R₃ hk₃ => ?_)
    refine hex { r with X := (r.env.locals, oC₃) :: (I, oI₂) :: X₀ } m cs { s with heap := h₃, toks := t₃ } t.σ t.os _ _ R₃ fun b H₄ b' h₄ t₄ σ₄ os₄ q R₄ p₄ e => ?_
    cases e
    have mu := Nat.sub_lt_sub_left (Nat.lt_succ_of_lt hlt) (Nat.lt_succ_self _)
    cases b with
    | false => exact (zA ⟨t.i + 1, m, cs, h₄, t₄, σ₄, os₄, loc₁, H₄, oI₂, oC₃, es₃, ep₃, t.acc, .none⟩ ⟨hlt, R₄, hd₃, hs₃, hst₂, (q.2 rfl).1, P.e9.trans p₄, (q.2 rfl).2⟩ mu).2
    | true =>
      refine xY _ (q.1 rfl { r with X := (r.env.locals, oC₃) :: (I, oI₂) :: X₀ } m cs { s with heap := h₄, toks := t₄ } σ₄ os₄ _ _ R₄ fun w H₅ w' h₅ t₅ σ₅ os₅ q₅ R₅ p₅ hw => xV _ _ ?_)
      have p := P.e9.trans (p₄.trans p₅)
      refine Cl.append (c := c) (n := n) (Q := fun _ H₆ => H₆ = H₅.set kD (.list (t.acc ++ [w]))) q₅.1 (Nat.le_trans q₅.2.1 (by decide)) rfl sc { r with X := (r.env.locals, oC₃) :: (I, oI₂) :: X₀ } m cs { s with heap := h₅, toks := t₅ } σ₅ os₅ loc₁ [.ref D, w'] _ _ R₅ (.cons (.ref (get_of_pre p hD)) (.cons hw .nil)) fun v H₆ _ h₆ t₆ σ₆ os₆ q₆ R₆ p₆ _ => ?_
      exact (zA ⟨t.i + 1, m, cs, h₆, t₆, σ₆, os₆, loc₁, H₆, oI₂, oC₃, es₃, ep₃, t.acc ++ [w], .none⟩ ⟨hlt, R₆, hd₃, hs₃, hst₂, q₆ ▸ q₅.2.2.1, p.trans p₆, q₆ ▸ q₅.2.2.2⟩ mu).1 _
  · have hL' := P.e10
    rw [List.drop_eq_nil_of_le (Nat.le_of_not_lt hlt)] at hL'
    refine hS.done _ _ t.σ t.os t.H t.oI _ _ R'.N (hp.trans P.e9) hmemI P.e8 (Nat.le_antisymm P.e2 (Nat.le_of_not_lt hlt) ▸ P.e7) fun h₂ t₂ hk₂ => xN _ ?_
    have N₂ : HR c.sl r.h₀ r.L h₂ ((cs ++ [(r.env.locals, t.oC)]) ++ X₀) t.σ t.H t.os := HR.dropX (oI := t.oI) (led_mid ▸ R'.N) hk₂
    exact k t.H h₂ t₂ t.σ t.os t.oC t.es t.ep hL'.2 (fr_but R'.F nI.2.1 nI.2.2 hk₂) (led_one ▸ N₂) P.e5 P.e6 P.e9
end
end
section
section
variable {c : Cx} {n : Nat} {sc : Scope} {loc : Loc} {H : List MO}
theorem Rel.addX {r : RR} {m : Str → Option Value} {cs : Led} {h : Heap} {σ : List Addr} {os : List Obj} (R : Rel c n sc r m cs h σ os loc H) {o : Obj} (hf : o.isFreed = false) : Rel c n sc { r with X := (h.objs.size, o) :: r.X } m cs (h.push o) σ os loc H :=
  R.setX (R.F.push o) (R.N.addX R.F hf) fun a o' ha _ => by
    simp only [List.mem_append, List.mem_cons] at ha ⊢
    exact ha.elim .inl fun h => .inr (.inr h)

theorem at_heap (I : Addr) {o : Obj} (hf : o.isFreed = false) : ((Heap.mk (Array.replicate I default) {}).push o).get? I = some o := by
  have := Heap.get?_push_size (Heap.mk (Array.replicate I default) {}) hf
  simpa using this
/-- what is iterated: its items, and what must stand while it is -/
noncomputable def Src (c : Cx) (n : Nat) (sc : Scope) (iter : Expr) (loc : Loc) (H : List MO) (Q : List MV → (List MO → Prop) → List MO → Prop) : Prop :=
  ∀ (r : RR) (m : Str → Option Value) (cs : Led) (s : Shared) (σ : List Addr) (os : List Obj) (Φ : Value → Shared → Prop) (E : Value → Shared → Prop),
    Rel c n sc r m cs s.heap σ os loc H →
    (∀ its cond H₁ h₁ tk₁ σ₁ os₁ oI St, Q its cond H₁ → Rel c n sc r m cs h₁ σ₁ os₁ loc H₁ → σ <+: σ₁ → cond H₁ → Steps c r.A h₁.objs.size r.h₀ r.L σ₁ its cond St → (∀ i o, St i o → o.isFreed = false → Plain o) → St 0 oI → oI.isFreed = false →
      Φ (.ref h₁.objs.size) { s with heap := h₁.push oI, toks := tk₁ }) →
    wpAny (model c.prog c.w) r.A (eval iter r.env) (fun x s₁ => wpAny (model c.prog c.w) r.A (pyIter x) Φ E s₁) E s
theorem Src.list {iter} {Q : List MV → (List MO → Prop) → List MO → Prop} (hq : c.q = true) (h : Ev c n sc iter loc H fun v H₁ => ∃ k its, v = .ref k ∧ H₁[k]? = some (.list its) ∧ Q its (fun H => H[k]? = some (.list its)) H₁) : Src c n sc iter loc H Q := by
  intro r m cs s σ os Φ E R k
  refine h r m cs s σ os _ E R fun v H₁ v' h₁ t₁ σ₁ os₁ q₁ R₁ p₁ v₁ => ?_
  refine x23 q₁ ?_; try clear q₁; intro j its eq15 ej q; subst eq15
  apply R₁.lst' ej v₁; intro ax vs ep lx
  refine wpAny_pyIter_list (s := { s with heap := h₁, toks := t₁ }) lx.is ?_
  have hne : ax ≠ h₁.objs.size := Nat.ne_of_lt (R₁.N.lt _ lx.mem)
  exact k its _ H₁ h₁ t₁ σ₁ os₁ _ _ q R₁ p₁ ej (Steps.list (h₀ := r.h₀) (L := r.L) (its := its) (R₁.hd hq) lx.at_ hne) (fun i o ho _ => ⟨fun es ep e => (by rw [ho.2.1] at e; cases e), fun v e => (by rw [ho.2.1] at e; cases e)⟩) (i03 rfl rfl rfl) rfl
theorem Src.range {rp e cpos} {Q : List MV → (List MO → Prop) → List MO → Prop} (hq : c.q = true) (hg : NoGlb c "range")
    (h : Ev c n sc e loc H fun v H₁ => ∃ k, v = .int k ∧ k ≤ 1000 ∧ -1000 ≤ k ∧ Q (upto k) (fun _ => True) H₁)
    (hk : sc.names.lookup ("range" : Str) = some .globalImplicit := by with_unfolding_all rfl)
    (he : ∀ env, starEach [e] env = (false, eval e env) :: starEach [] env := by (intro _; with_unfolding_all rfl)) : Src c n sc (.Call (.Name "range" rp) [e] [] cpos) loc H Q := by
  intro r m cs s σ os Φ E R kk
  refine Call_ (eval_blt R hg boot_range (by decide) hk (by decide) (PyProof.Rows.callWith_type1 (args_cons (h r m cs s σ os _ E R fun v H₁ v' h₁ t₁ σ₁ os₁ q₁ R₁ p₁ v₁ => args_nil ?_) (he r.env)) (he r.env)))
  refine x14 q₁ ?_
  clear q₁; intro k e1 hk1 hk2 q
  subst e1
  apply v₁.intE'; intro t
  refine call_range_1 ?_
  have R₂ := R₁.push { cls := .type "range", data := .fields #[.int 0 t₁, .int k t, .int 1 (t₁ + 1)] }
  refine wpAny_pyIter_range (IsRange.new ..) (small_one (by decide) (by decide) (by lia) (by lia)) ?_
  rw [rangeSize_nat]
  have W := Walks.range (prog := c.prog) (w := c.w) (R₁.hd hq) (h₁.push { cls := .type "range", data := .fields #[.int 0 t₁, .int k t, .int 1 (t₁ + 1)] }).objs.size 0 1 k.toNat
  refine kk (upto k) _ H₁ (h₁.push _) _ σ₁ os₁ _ _ q R₂ p₁ trivial (Steps.walks (c := c) (A := r.A) (h₀ := r.h₀) (L := r.L) (σ₀ := σ₁) (its := upto k) W (fun i h st => ⟨_, st⟩) (by simp [upto]) fun i v v' σ hv hP => ?_) (fun i o ho hf => ?_) ?_ rfl
  · refine hold fun Xh oh => ?_
    refine x02 (upto_get hv) fun eq16 _ => ?_; subst eq16
    refine x11 hP ?_; try clear hP; intro t eq17; subst eq17
    refine oh ?_
    simp only [Int.mul_one, Int.zero_add]
    exact .int _ _
  · have h1 := ho _ (at_heap _ hf)
    have h2 := at_heap (h₁.push { cls := .type "range", data := .fields #[.int 0 t₁, .int k t, .int 1 (t₁ + 1)] }).objs.size hf
    unfold IsRangeIter at h1
    rw [h2] at h1
    cases h1
    exact ⟨fun es ep e => (by cases e), fun v e => (by cases e)⟩
  · intro h2 e2
    simpa [IsRangeIter] using e2
theorem Ex1.for {x px iter body pos} {Q : PostF} (h : Src c n sc iter loc H fun its cond H₁ => Loop c n sc x body cond its loc H₁ Q)
    (hs : ∀ env x, foldedSetIterable iter env x = pure x := by (intro _ _; with_unfolding_all rfl)) : Ex1 c n sc (.For (.Name x px) iter body [] pos) loc H Q := by
  intro r m cs s σ os Φ E R k
  refine wpAny_For (h r m cs s σ os _ E R.toRel fun its cond H₁ h₁ t₁ σ₁ os₁ oI St q R₁ p₁ hc hS hpl hst hf => ?_) (hs r.env)
  exact for_core (r := r) (s := { s with heap := h₁.push _, toks := t₁ }) hS px ((R.of R₁).addX hf) (List.prefix_refl _) hst hc q
    fun fl loc' H' fl' m' cs' h' tk' σ' os' q' R' ec p f => k fl loc' H' fl' m' cs' h' tk' σ' os' q' R' ec (p₁.trans p) f

/-- the looks at a comprehension's table of names -/
noncomputable def compOk (scC sc : Scope) (x : Str) (names : List Str) : Bool :=
  scC.kind == .function && scC.names.all (fun p => p.2 != .cell) && scC.names.all (fun p => p.2 != .local || scC.names.lookup p.1 == some .local) && scC.names.lookup x == some .local && (relabelS scC sc).names.lookup x == some .local &&
    decide (frees scC = names) && names.all (fun y => sc.names.lookup y == some .cell && (relabelS scC sc).names.lookup y == some .cell) && decide (x :: names).Nodup
noncomputable def compLoc (x : Str) (cap : List (Str × MV)) : Loc := (x, none) :: cap.map fun p => (p.1, some p.2)
inductive Caps (loc : Loc) : List (Str × MV) → Prop
  | nil : Caps loc []
  | cons {y v l} : Has loc y v → Caps loc l → Caps loc ((y, v) :: l)
theorem Caps.mem {loc : Loc} {cap : List (Str × MV)} (h : Caps loc cap) : ∀ {y v}, (y, v) ∈ cap → (y, some v) ∈ loc := by
  induction h with
  | nil => intro y v h; cases h
  | cons h _ ih =>
    intro y v hm
    rcases List.mem_cons.mp hm with e | hm
    · cases e; exact h.mem
    · exact ih hm

/-- the block, run from its source on -/
theorem comp_run {elt iter : Expr} {x : Str} {px pos : Pos} {ifs : List Expr} {scC : Scope} {cap : List (Str × MV)} (hok : compOk scC sc x (cap.map (·.1)) = true) (hcap : Caps loc cap)
    {r : RR} {m : Str → Option Value} {cs : Led} {s : Shared} {σ : List Addr} {os : List Obj} {E : Value → Shared → Prop} {use : Option (Value → Sem Unit)} {Φ : Value → Shared → Prop} {QQ : Nat → List MO → Prop}
    (R : Rel c n sc r m cs s.heap σ os loc H)
    (h : Src c n sc iter loc H fun its cond H₁ => cond (H₁ ++ [.list []]) ∧ CompL c n (relabelS scC sc) x elt ifs cond H₁.length (QQ H₁.length) its [] (compLoc x cap) (H₁ ++ [.list []]))
    (hs : ∀ env x, foldedSetIterable iter env x = pure x) (fp : Pos)
    (k : ∀ (D : Addr) (kD : Nat) (C : Addr) (H' : List MO) (h' : Heap) (tk' : Nat) (σ' : List Addr) (os' : List Obj) (oC' : Obj) (es' : Array DictEntry) (ep' : Nat), QQ kD H' → σ'[kD]? = some D → Fr r.h₀ r.L h' m → HR c.sl r.h₀ r.L h' (cs ++ (C, oC') :: r.X) σ' H' os' → oC'.data = .dict es' ep' → StrKeys es' → σ <+: σ' →
      compPost (model c.prog c.w) r.A E use Φ (.ref D) C (.ok .next) { s with heap := h', toks := tk' }) :
    wpAny (model c.prog c.w) r.A (comprehension (.ListComp elt [⟨.Name x px, iter, ifs, 0⟩] scC pos) scC r.env fp (newList []) false (eval iter r.env) use) Φ E s := by
  simp only [compOk, Bool.and_eq_true, beq_iff_eq, decide_eq_true_eq, List.all_eq_true, Bool.or_eq_true, bne_iff_ne, ne_eq] at hok
  refine hold fun Xh oh => ?_
  refine x02 hok ?_; try clear hok; intro hx18 o8; obtain ⟨⟨⟨⟨⟨⟨o1, o2⟩, o3⟩, o4⟩, o5⟩, o6⟩, o7⟩ := hx18
  refine oh ?_
  -- the cells of the names that the block reads
  have hfa : ∃ fa : Str → Addr, ∀ y v, (y, v) ∈ cap → r.env.cells.lookup y = some (fa y) ∧ ∃ v' o, VR c.sl σ v v' ∧ (fa y, o) ∈ cs ++ r.X ∧ o.data = .cell (some v') := by
    refine ⟨fun y => (r.env.cells.lookup y).getD 0, fun y v hy => ?_⟩
    refine x12 (R.vars y v (hcap.mem hy)) fun v' hv ha => ?_
    have hk : r.env.kindOf y = some .cell := by
      show r.env.scope.names.lookup y = _
      rw [R.es]; exact (o7 y (List.mem_map_of_mem (f := (·.1)) hy)).1
    rcases ha with ⟨ky, _⟩ | ⟨ky, a, o, hl, ho, hd⟩
    · rw [hk] at ky; cases ky
    · refine And.intro ?_ (i23 v' o hv ?_ hd)
      · show _ = some ((r.env.cells.lookup y).getD 0)
        rw [hl]; rfl
      · show ((r.env.cells.lookup y).getD 0, o) ∈ _
        rw [hl]; exact ho
  refine hold fun Xh oh => ?_
  refine x11 hfa ?_; try clear hfa; intro fa hfa
  have hcl : closureFor scC r.env = pure (((frees scC).map fun y => (y, fa y)).reverse) := closureFor_run fa fun y hy => by
    rw [o6] at hy
    refine x12 (List.mem_map.mp hy) fun p hp eq19 => ?_; subst eq19
    exact (hfa p.1 p.2 hp).1
  refine oh ?_
  refine wpAny_comprehension_free rfl (hs r.env) hcl o1 (fun y hy hl => (o3 y hy).resolve_left fun q => q hl) (h r m cs s σ os _ E R fun its cond H₁ h₁ t₁ σ₁ os₁ oI St q R₁ p₁ hc hS hpl hst hf => ?_)
  have R₂ := R₁.addX hf
  refine newList_N (s := { s with heap := h₁.push oI, toks := t₁ }) (vs := []) R₂.F R₂.N.news (fun h₃ F₃ N₃ => ?_) (by rw [sizeLine_eq]; decide)
  have R₃ : Rel c n sc { r with X := (h₁.objs.size, oI) :: r.X } m cs h₃ (σ₁ ++ [(h₁.push oI).objs.size]) (os₁ ++ [W.listOf #[] 0]) loc (H₁ ++ [.list []]) :=
    R₂.alloc (o := W.listOf #[] 0) (mo := .list []) F₃ N₃ R₂.N.lt (OR.list (its := []) (vs := []) (n := 0) .nil)
  refine wpAny_newFunctionEnv (s := { s with heap := h₃, toks := t₁ }) o2 (by intro y hy; simp at hy) (fun h₄ hns hsb => ?_) o1
  refine hold fun Xh oh => ?_
  refine x34 hns ?_; try clear hns; intro oC es ep hoC hdC hsC hfC
  have N₄ : HR c.sl r.h₀ r.L h₄ (cs ++ (h₃.objs.size, oC) :: (h₁.objs.size, oI) :: r.X) (σ₁ ++ [(h₁.push oI).objs.size]) (H₁ ++ [.list []]) (os₁ ++ [W.listOf #[] 0]) :=
    HR.turn (R₃.N.addX (o := { cls := .type "dict", data := .dict #[] }) R₃.F rfl) hoC fun b o hb e => (hsb.2 b hb).trans e
  have nC := N₄.news (h₃.objs.size, oC) (by simp)
  have F₄ : Fr r.h₀ r.L h₄ m := fr_but (R₃.F.push _) nC.2.1 nC.2.2 fun b o hb e => (hsb.2 b hb).trans e
  refine oh ?_
  let cenv : Env := compEnvC scC (((frees scC).map fun y => (y, fa y)).reverse) h₃.objs.size r.env
  have hes : cenv.scope = relabelS scC sc := by
    show relabel scC r.env = relabelS scC sc
    unfold relabel relabelS Env.kindOf
    rw [R.es]
  have R₄ : Rel c n (relabelS scC sc) { r with env := cenv, X := (h₃.objs.size, oC) :: (h₁.objs.size, oI) :: r.X } m cs h₄ (σ₁ ++ [(h₁.push oI).objs.size]) (os₁ ++ [W.listOf #[] 0]) (compLoc x cap) (H₁ ++ [.list []]) := by
    refine { fr := R.fr, ff := R.ff, fk := R.fk, dep := R.dep, un := R.un, hd := R.hd, B := R.B, F := F₄, K := R.K, T := R.T, scr := R.scr, N := N₄, es := hes, ek := o1, eg := R.eg, eb := R.eb, vars := ?_, nd := ?_ }
    · intro y v hy
      unfold compLoc at hy
      rcases List.mem_cons.mp hy with e | hy
      · cases e
      · refine x12 (List.mem_map.mp hy) fun p hp e => ?_
        cases e
        refine x02 (hfa p.1 p.2 hp) fun h1 ht20 => ?_; refine x23 ht20 ?_; clear ht20; intro v' o h2 h3 h4
        refine i12 v' (h2.mono (p₁.trans (List.prefix_append _ _))) (.inr (And.intro ?_ (i23 (fa p.1) o ?_ ?_ h4)))
        · show cenv.scope.names.lookup p.1 = _
          rw [hes]; exact (o7 p.1 (List.mem_map_of_mem (f := (·.1)) hp)).2
        · exact lookup_fa (by rw [o6]; exact List.mem_map_of_mem (f := (·.1)) hp)
        · simp only [List.mem_append, List.mem_cons] at h3 ⊢
          exact h3.elim .inl fun h => .inr (.inr (.inr h))
    · have : (compLoc x cap).map (·.1) = x :: cap.map (·.1) := by
        unfold compLoc
        rw [List.map_cons, List.map_map]; rfl
      rw [this]; exact o8
  have hD : (σ₁ ++ [(h₁.push oI).objs.size])[H₁.length]? = some (h₁.push oI).objs.size := by rw [R₁.N.hlen]; simp
  have loop : codeAny (model c.prog c.w) r.A (.compLoop (.ListComp elt [⟨.Name x px, iter, ifs, 0⟩] scC pos) 0 (.ref h₁.objs.size) (.ref (h₁.push oI).objs.size) cenv) (compPost (model c.prog c.w) r.A E use Φ (.ref (h₁.push oI).objs.size) h₃.objs.size) { s with heap := h₄, toks := t₁ } :=
    comp_core (r := { r with env := cenv }) (s := { s with heap := h₄, toks := t₁ }) (X₀ := r.X) (Q := QQ H₁.length) hS hpl o5 rfl R₄ hdC hsC (List.prefix_append _ _) hD hst q.1 q.2
      fun H' h' tk' σ' os' oC' es' ep' hq F' N' hd' hs' p' => k _ H₁.length _ H' h' tk' σ' os' oC' es' ep' hq (get_of_pre p' hD) F' N' hd' hs' ((p₁.trans (List.prefix_append _ _)).trans p')
  exact codeAny_compStart_list loop (hS.self { s with heap := h₄, toks := t₁ } (cs ++ (h₃.objs.size, oC) :: (h₁.objs.size, oI) :: r.X) _ _ _ oI _ _ N₄ (List.prefix_append _ _) (by simp) q.1 hst loop)

theorem Ev.comp {elt iter : Expr} {x : Str} {px pos : Pos} {ifs : List Expr} {scC : Scope} (cap : List (Str × MV)) {Q : Post MV} (hok : compOk scC sc x (cap.map (·.1)) = true) (hcap : Caps loc cap)
    (h : Src c n sc iter loc H fun its cond H₁ => cond (H₁ ++ [.list []]) ∧ CompL c n (relabelS scC sc) x elt ifs cond H₁.length (fun H' => Q (.ref H₁.length) H') its [] (compLoc x cap) (H₁ ++ [.list []]))
    (hs : ∀ env x, foldedSetIterable iter env x = pure x := by (intro _ _; with_unfolding_all rfl)) : Ev c n sc (.ListComp elt [⟨.Name x px, iter, ifs, 0⟩] scC pos) loc H Q := by
  intro r m cs s σ os Φ E R k
  show wpAny _ _ (eval _ r.env) _ _ _
  rw [eval_ListComp]
  refine comp_run (use := Option.none) (QQ := fun kD H' => Q (.ref kD) H') hok hcap R h hs _ fun D kD C H' h' tk' σ' os' oC' es' ep' q hD F' N' hd' hs' p' => ?_
  have nC := N'.news (C, oC') (by simp)
  refine i12 (fun y => nsFind es' y) (i34 oC' es' ep' nC.1 hd' hs' (fun _ => rfl)) (fun h'' hsb => ?_)
  exact k _ H' _ h'' tk' σ' os' q (R.next (fr_but F' nC.2.1 nC.2.2 fun b o hb e => (hsb.2 b hb).trans e) (N'.dropX fun b o hb e => (hsb.2 b hb).trans e) p') p' (.ref hD)
theorem Ex1.comp {elt iter : Expr} {x y : Str} {px py pos spos : Pos} {ifs : List Expr} {scC : Scope} (cap : List (Str × MV)) {Q : PostF} (hok : compOk scC sc x (cap.map (·.1)) = true) (hcap : Caps loc cap)
    (h : Src c n sc iter loc H fun its cond H₁ => cond (H₁ ++ [.list []]) ∧ CompL c n (relabelS scC sc) x elt ifs cond H₁.length (fun H' => ∃ loc', Put loc y (.ref H₁.length) loc' ∧ Q .next loc' H') its [] (compLoc x cap) (H₁ ++ [.list []]))
    (hsw : ∀ env : Env, env.scope = sc → swapsWith (.ListComp elt [⟨.Name x px, iter, ifs, 0⟩] scC pos) (some (.Name y py)) spos.line env = pure true)
    (hs : ∀ env x, foldedSetIterable iter env x = pure x := by (intro _ _; with_unfolding_all rfl)) : Ex1 c n sc (.Assign [.Name y py] (.ListComp elt [⟨.Name x px, iter, ifs, 0⟩] scC pos) spos) loc H Q := by
  intro r m cs s σ os Φ E R k
  show wpAny _ _ (exec _ r.env) _ _ _
  rw [exec_Assign_Name_used _ _ _ _ (hsw r.env R.es)]
  refine wpAny_bind (wpAny_standAt (wpAny_bind ?_))
  show wpAny _ r.A (do let _ ← comprehension (.ListComp elt [⟨.Name x px, iter, ifs, 0⟩] scC pos) scC r.env _ (newList []) false (eval iter r.env) (some (PySem.assign (.Name y py) r.env))) _ _ s
  refine wpAny_bind (wpAny_mono (comp_run (use := some (PySem.assign (.Name y py) r.env)) (Φ := fun _ s' => Φ .next s') (QQ := fun kD H' => ∃ loc', Put loc y (.ref kD) loc' ∧ Q .next loc' H') hok hcap R.toRel h hs _ fun D kD C H' h' tk' σ' os' oC' es' ep' q hD F' N' hd' hs' p' => ?_) (fun _ s' q => wpAny_pure (wpAny_pure q)) fun _ _ e => e)
  refine x12 q ?_; try clear q; intro loc' hput q
  have nC := N'.news (C, oC') (by simp)
  have R' : RelF c n sc { r with X := (C, oC') :: r.X } m cs h' σ' os' loc H' := RelF.withX (R.of (R.toRel.next F' (N'.dropX fun _ _ _ e => e) p')) F' N'
  refine wpAny_assign_Name (store_var (r := { r with X := (C, oC') :: r.X }) (s := { s with heap := h', toks := tk' }) R' hput (.ref hD) fun m₂ cs₂ h₂ t₂ R₂ ec => ?_)
  have nC₂ := R₂.N.news (C, oC') (by simp)
  refine i12 (fun y => nsFind es' y) (i34 oC' es' ep' nC₂.1 hd' hs' (fun _ => rfl)) (fun h'' hsb => ?_)
  exact k _ _ _ _ m₂ cs₂ h'' t₂ σ' os' q (RelF.withX (r := { r with X := (C, oC') :: r.X }) R₂ (fr_but R₂.F nC₂.2.1 nC₂.2.2 fun b o hb e => (hsb.2 b hb).trans e) (R₂.N.dropX fun b o hb e => (hsb.2 b hb).trans e)) ec p' .next
end
end
section
section
variable {c : Cx} {n : Nat} {sc : Scope} {loc : Loc} {H : List MO}
/-! while -/
theorem Ex1.while {t body pos} {Q : PostF} (I : Nat → Loc → List MO → Prop)
    (step : ∀ k loc H, I k loc H → Tst c n sc t loc H fun b H₁ => (b = true → Ex c n sc body loc H₁ fun fl l₂ H₂ => match fl with
      | .next | .cont => ∃ k', k' < k ∧ I k' l₂ H₂
      | .brk => Q .next l₂ H₂
      | .ret v => Q (.ret v) l₂ H₂) ∧ (b = false → Q .next loc H₁)) (k : Nat) (h0 : I k loc H) : Ex1 c n sc (.While t body [] pos) loc H Q := by
  intro r m cs s σ os Φ E R kk
  refine wpAny_While ?_
  refine codeAny_whileLoop (fun j s' => ∃ m' cs' h' tk' σ' os' loc' H', s' = { s with heap := h', toks := tk' } ∧ RelF c n sc r m' cs' h' σ' os' loc' H' ∧ cs'.map (·.1) = cs.map (·.1) ∧ σ <+: σ' ∧ I j loc' H') ?_ k
    ⟨m, cs, s.heap, s.toks, σ, os, loc, H, rfl, R, rfl, List.prefix_refl _, h0⟩
  intro j s' hr1
  refine x51 hr1 ?_; try clear hr1; intro m' cs' h' tk' σ' ht2; refine x35 ht2 ?_; clear ht2; intro os' loc' H' eq3 R' ec' p' hI; subst eq3
  refine exOf (s := { s with heap := h', toks := tk' }) (t := fun env => isTrue t env (eval t env)) (step j loc' H' hI) R' fun b H₁ b' h₁ t₁ σ₁ os₁ q R₁ p₁ e => ?_
  cases e
  cases b with
  | true =>
    rw [if_pos rfl]
    refine q.1 rfl r m' cs' { s with heap := h₁, toks := t₁ } σ₁ os₁ _ _ R₁ fun fl l2 H2 fl2 m2 cs2 h2 tk2 σ2 os2 q2 R2 ec2 p2 f2 => ?_
    cases f2 with
    | next => refine x12 q2 ?_; try clear q2; intro k' hk hI'; exact ⟨k', hk, m2, cs2, h2, tk2, σ2, os2, l2, H2, rfl, R2, ec2.trans ec', (p'.trans p₁).trans p2, hI'⟩
    | cont => refine x12 q2 ?_; try clear q2; intro k' hk hI'; exact ⟨k', hk, m2, cs2, h2, tk2, σ2, os2, l2, H2, rfl, R2, ec2.trans ec', (p'.trans p₁).trans p2, hI'⟩
    | brk => exact kk .next _ _ _ m2 cs2 h2 tk2 σ2 os2 q2 R2 (ec2.trans ec') ((p'.trans p₁).trans p2) .next
    | ret hv => exact kk _ _ _ _ m2 cs2 h2 tk2 σ2 os2 q2 R2 (ec2.trans ec') ((p'.trans p₁).trans p2) (.ret hv)
  | false =>
    rw [if_neg Bool.false_ne_true]
    exact wpAny_execs_nil (kk .next loc' H₁ .next m' cs' h₁ t₁ σ₁ os₁ (q.2 rfl) R₁ ec' (p'.trans p₁) .next)

/-! a negative index -/
theorem Ev.neg {e pos} {Q : Post MV} (h : Ev c n sc e loc H fun v H₁ => ∃ i, v = .int i ∧ Q (.int (-i)) H₁) : Ev c n sc (.UnaryOp .USub e pos) loc H Q := by
  intro r m cs s σ os Φ E R k
  refine UnaryOp_ (h r m cs s σ os _ E R fun v H₁ v' h₁ t₁ σ₁ os₁ q R₁ p₁ v₁ => ?_)
  refine x12 q ?_; try clear q; intro i eq4 q; subst eq4
  apply v₁.intE'; intro t
  exact P.neg_int (k _ H₁ _ h₁ _ σ₁ os₁ q R₁ p₁ (.int _ _))
theorem Sub.last {value slice} {a : Nat} {its : List MV} {v : MV} {Q : Post MV} (ha : H[a]? = some (.list (its ++ [v]))) (hz : its.length ≤ 1000) (q : Q v H)
    (hs : ∀ l u, subscripted slice false (.ref l) (.int (-1) u) = operate [.ref l, .int (-1) u] (getItem (.ref l) (.int (-1) u)) := by intro _ _; with_unfolding_all rfl) : Sub c n value slice (.ref a) (.int (-1)) H Q := by
  intro sc r m cs s σ os loc as Φ E R h k
  apply h.two'; intro x y hx hy
  apply R.lst' ha hx; intro x vs e lx
  cases hy
  refine x12 (lx.all.get (k := its.length) (a := v) (by simp)) fun w hw hr => ?_
  have hl : vs.length = its.length + 1 := by rw [lx.len]; simp
  refine tail_any lx.is.typeIs slot_list_getitem.lookup (wpAny_getItem_list_neg lx.is (by decide) (by simp [hl]; lia) (by decide) ?_ (k _ H _ _ s.toks σ os q R (List.prefix_refl _) hr)) (hs _ _)
  have : ((-1 : Int) + (vs.toArray.size : Int)).toNat = its.length := by simp [hl]; lia
  rw [this]; simpa using hw

/-! sorted -/
theorem Cl.sorted2 {k : Nat} {a b : Int} {Q : Post MV} (hk : IsI H k [a, b]) (q : Q (.ref H.length) (H ++ [.list [.int (Min.min a b), .int (Max.max a b)]])) : Cl c n (.builtin "sorted") [.ref k] H Q := by
  intro sc r m cs s σ os loc as Φ E R h kk
  apply h.one'; intro x hx
  apply R.lst' hk hx; intro x vs e lx
  refine kso_sorted R.F R.N.news lx.is (intsAre_of lx.all) (by simp) fun D vs' ns' ep h' F' N' hl hi hlen hp hs _ => ?_
  have e1 : ns' = [Min.min a b, Max.max a b] := by
    have hp2 : [a, b].Perm [Min.min a b, Max.max a b] := by
      by_cases h : a ≤ b
      · rw [show Min.min a b = a by lia, show Max.max a b = b by lia]
      · rw [show Min.min a b = b by lia, show Max.max a b = a by lia]; exact List.Perm.swap _ _ _
    exact lks_uniq (hp.trans hp2) hs (by simp; lia)
  subst e1
  exact kk _ _ _ h' _ _ _ q (R.alloc F' N' hl (.list (ints_all hi))) (List.prefix_append _ _) (R.newRef (σ' := σ) D)
theorem set_last {α : Type} (l : List α) (a b : α) : (l ++ [a]).set l.length b = l ++ [b] := by simp
theorem Ev.dict {pos} {Q : Post MV} (q : Q (.edict H.length) (H ++ [.ns []])) : Ev c n sc (.Dict [] [] pos) loc H Q := by
  intro r m cs s σ os Φ E R k
  refine newDict_K (prog := c.prog) (w := c.w) R.F R.N.news R.T.nolimit fun d h' o F' N' hl hm hd hf _ _ => ?_
  refine hold fun Xh oh => ?_
  refine x25 hd ?_; try clear hd; intro es ep he hdat hall hp _
  refine x03 he ?_; try clear he; intro e1 e2 e3
  have hes : es = #[] := by
    cases hp' : es.toList with
    | nil => exact Array.toList_eq_nil_iff.mp hp'
    | cons x xs => rw [hp'] at hp; cases hp
  subst hes
  have ho : o = dictOf [] ep := by
    cases o; cases e1; cases e2; cases e3; cases hdat; rfl
  subst ho
  refine oh ?_
  refine k _ _ _ h' s.toks _ _ q (R.alloc F' N' hl (.ns (fs := []) (es := []) .nil (by simp))) (List.prefix_append _ _) (.edict (by rw [R.N.hlen]; simp) hm)
theorem Cl.sortedE {k : Nat} {Q : Post MV} (hq : c.q = true) (hk : H[k]? = some (.ns [])) (q : Q (.ref H.length) (H ++ [.list []])) : Cl c n (.builtin "sorted") [.edict k] H Q := by
  intro sc r m cs s σ os loc as Φ E R h kk
  apply h.one'; intro x hx
  cases hx with
  | edict hσ hmod =>
  rename_i x
  refine x24 (R.N.obj hk) fun y o hy ho hr hm => ?_
  rw [hσ] at hy; cases hy
  cases hr with
  | ns all nd =>
    cases all
    rename_i ep
    have T : TabAt (intKind c.prog c.w) PyData.int s.heap x [] := TabAt.ofNews (kvs := ([] : List (Int × Value))) R.N.news hm hmod (i25 (#[]) ep (i03 rfl rfl rfl) rfl (fun e he => by simp at he) (.nil) List.nodup_nil) .nil
    refine kdu_sortedD (knd := intKind c.prog c.w) (enc := PyData.int) (fun _ _ => kdl_flat_int) (R.hd hq) R.F R.N.news T (by decide) fun B h' tk => ?_
    dsimp only [KdlKeysD, List.map]
    intro F' N' hl
    have R₁ := R.alloc (o := W.listOf #[] 0) (mo := .list []) F' N' hl (OR.list (its := []) (vs := []) (n := 0) .nil)
    have hB : (σ ++ [B])[H.length]? = some B := by rw [R.N.hlen]; simp
    have hoB : (os ++ [W.listOf #[] 0])[H.length]? = some (W.listOf #[] 0) := by rw [R.N.hlen, ← R.N.len]; simp
    have gB : h'.get? B = some (seqObj "list" ([] : List Value).toArray 0) := (N' _ (.head _)).1
    refine wpAny_call_entry slot_list_sort (i12 _ gB rfl) entry_list_sort (list_sort_tree (s := { s with heap := h', toks := tk }) (n := 0) (vs := []) (ns := []) gB .nil (by decide) fun out ns' a1 a2 a3 => i12 _ rfl ?_) (PyProof.Rows.args_list_sort _)
    have hn : ns' = [] := List.perm_nil.mp a2
    subst hn
    have ho : out = #[] := by
      have := a1.length
      exact Array.toList_eq_nil_iff.mp (List.length_eq_zero_iff.mp this)
    subst ho
    have R₂ := R₁.update (mo := .list []) hB hoB (Obj.mapSeq fun _ => #[]) (OR.list (its := []) (vs := []) .nil)
    rw [set_last] at R₂
    have R₃ := (R₂.push (seqObj "tuple" ([] : List Value).toArray 0)).push (seqObj "list" #[] 0)
    have R₄ := R₃.update (mo := .list []) hB (by rw [List.getElem?_set]; simp [R.N.hlen, ← R.N.len]; rfl) (Obj.mapSeq fun _ => #[]) (OR.list (its := []) (vs := []) .nil)
    rw [set_last] at R₄
    exact kk _ _ _ _ tk _ _ q R₄ (List.prefix_append _ _) (.ref hB)
end
end
section
/-! a new object of a class -/
structure MkOk (c : Cx) (C fI : Addr) : Prop where
  make : makesIn c.K C = true
  init : findIn c.K (.ref C) "__init__" = some (some (.ref fI))
  fn : isFn c.K (.ref fI) = true

section
variable {c : Cx} {n : Nat} {sc : Scope} {loc : Loc} {H : List MO}
theorem Rel.under {r : RR} {m : Str → Option Value} {cs : Led} {h : Heap} {σ : List Addr} {os : List Obj} (R : Rel c (n + 2) sc r m cs h σ os loc H) (C : Addr) (as : List Value) : Rel c (n + 1) sc { r with A := r.A.under (.builtin "type.__call__" ⟨.ref C :: as, []⟩) } m cs h σ os loc H := by
  have hu : (Code.builtin "type.__call__" ⟨.ref C :: as, []⟩).cUnits ≤ 2 := by
    have e : (Code.builtin "type.__call__" ⟨.ref C :: as, []⟩).cUnits = (Code.builtin "type.__call__" ⟨[], []⟩).cUnits := rfl
    rw [e]; decide +kernel
  have hw : (Code.builtin "type.__call__" ⟨.ref C :: as, []⟩).weight = 1 := by kernel_rfl
  refine { fr := ?_, ff := R.ff, fk := R.fk, dep := ?_, un := ?_, hd := R.hd, B := R.B, F := R.F, K := R.K, T := R.T, scr := R.scr, N := R.N, es := R.es, ek := R.ek, eg := R.eg, eb := R.eb, vars := R.vars, nd := R.nd }
  · show (r.A.under _).frames = some (r.fenv :: r.outer)
    simp only [Around.under]
    rw [R.fr]; rfl
  · have := R.dep
    show r.A.depth + (Code.builtin "type.__call__" ⟨.ref C :: as, []⟩).weight + 2 * (n + 1) < _
    lia
  · have := R.un
    show r.A.units + (Code.builtin "type.__call__" ⟨.ref C :: as, []⟩).cUnits + 16 * (n + 1) + 200 < _
    lia
theorem Rel.re {n' : Nat} {r r' : RR} {m : Str → Option Value} {cs : Led} {h : Heap} {σ : List Addr} {os : List Obj} (R : Rel c n sc r m cs h σ os loc H)
    (fr : r'.A.frames = some (r'.fenv :: r'.outer)) (dep : r'.A.depth + 2 * n' < recursionLimit) (un : r'.A.units + 16 * n' + 200 < cLine) (hd : c.q = true → r'.A.handled = .none)
    (e : r' = { r with A := r'.A }) : Rel c n' sc r' m cs h σ os loc H := by
  rw [e] at fr ⊢
  exact { fr := fr, ff := R.ff, fk := R.fk, dep := dep, un := un, hd := hd, B := R.B, F := R.F, K := R.K, T := R.T, scr := R.scr, N := R.N, es := R.es, ek := R.ek, eg := R.eg, eb := R.eb, vars := R.vars, nd := R.nd }
theorem Cl.cls {C fI : Addr} {name qual : Str} {params : Arguments} {body : List Stmt} {scI : Scope} {dV : Value} {ps rest : List Str} {vs ws : List MV} {Q : Post MV}
    (M : MkOk c C fI) (D : DefAt c fI name qual params body scI dV) (S : ScOk scI ps rest) (hlen : ps.length = ws.length)
    (hb : ∀ kV doc pm an cdv ct, BindsAs c (fnOf name qual params body scI dV kV doc pm an cdv ct) ps (.ref (H.length + 1) :: vs) ws)
    (h : Ex c n scI body (mkLoc ps ws rest) (H ++ [.ns [], .inst C H.length]) (EndOf fun v H' => v = .none ∧ Q (.ref (H.length + 1)) H')) : Cl c (n + 2) (.ref C) vs H Q := by
  intro sc₀ r m cs s σ os loc as Φ E R ha k
  refine call_cls R.F R.K R.N.news M.make M.init M.fn fun x dx h' F' N' hl hx => ?_
  have N₁ : News r.h₀ r.L h' ((dx, dictOf [] 0) :: ((cs ++ r.X) ++ σ.zip os)) := fun p hp => N' p (.tail _ hp)
  have R₁ : Rel c (n + 2) sc₀ r m cs h' (σ ++ [dx]) (os ++ [dictOf [] 0]) loc (H ++ [.ns []]) := R.alloc F' N₁ hl (.ns (fs := []) (es := []) .nil (by simp))
  have hdx : (σ ++ [dx])[H.length]? = some dx := by rw [R.N.hlen]; simp
  have N₂ : News r.h₀ r.L h' ((x, instObj C dx) :: ((cs ++ r.X) ++ (σ ++ [dx]).zip (os ++ [dictOf [] 0]))) := by
    intro p hp
    apply N'
    rw [List.zip_append R.N.len.symm] at hp
    simp only [List.mem_append, List.mem_cons, List.zip_cons_cons, List.zip_nil_right, List.not_mem_nil, or_false] at hp ⊢
    rcases hp with h1 | h1 | h1 | h1
    · exact .inl h1
    · exact .inr (.inr (.inl h1))
    · exact .inr (.inr (.inr h1))
    · exact .inr (.inl h1)
  have hl₂ : ∀ p ∈ (cs ++ r.X) ++ (σ ++ [dx]).zip (os ++ [dictOf [] 0]), p.1 < x := by
    intro p hp
    rw [List.zip_append R.N.len.symm] at hp
    simp only [List.mem_append, List.mem_cons, List.zip_cons_cons, List.zip_nil_right, List.not_mem_nil, or_false] at hp
    rcases hp with h1 | h1 | h1
    · exact Nat.lt_trans (hl p (List.mem_append_left _ (by simpa using h1))) hx
    · exact Nat.lt_trans (hl p (List.mem_append_right _ h1)) hx
    · subst h1; exact hx
  have R₂ : Rel c (n + 2) sc₀ r m cs h' (σ ++ [dx] ++ [x]) (os ++ [dictOf [] 0] ++ [instObj C dx]) loc (H ++ [.ns []] ++ [.inst C H.length]) :=
    R₁.alloc F' N₂ hl₂ (.inst (get_of_pre (List.prefix_append _ _) hdx))
  have e1 : H ++ [.ns []] ++ [.inst C H.length] = H ++ [.ns [], .inst C H.length] := by simp
  rw [e1] at R₂
  have R₃ := R₂.under C as
  have hσ : σ <+: σ ++ [dx] ++ [x] := by rw [List.append_assoc]; exact List.prefix_append _ _
  have hxx : (σ ++ [dx] ++ [x])[H.length + 1]? = some x := by rw [R.N.hlen]; simp
  refine def_code (r := { r with A := r.A.under (.builtin "type.__call__" ⟨.ref C :: as, []⟩) }) (s := { s with heap := h' }) D S hlen hb h R₃ (.cons (.ref hxx) (ha.mono fun _ _ => VR.mono hσ)) fun v H' v' h₂ tk₂ σ₂ os₂ q R₄ p hv => ?_
  refine x02 q ?_; try clear q; intro eq5 q; subst eq5
  cases hv
  refine ⟨rfl, ?_⟩
  exact k _ H' _ h₂ tk₂ σ₂ os₂ q (R₄.re R.fr R.dep R.un R.hd rfl) (hσ.trans p) (.ref (get_of_pre p hxx))

/-! strings -/
theorem Cl.str {i : Int} {Q : Post MV} (hz : i.natAbs < 10000) (q : Q (.str (Str.ofString (toString i))) H) : Cl c n (.type "str") [.int i] H Q := by
  intro sc r m cs s σ os loc as Φ E R h k
  apply h.one'; intro x hx
  cases hx
  refine P.str_of_int ?_ (k _ H _ _ _ σ os q R (List.prefix_refl _) (.str _ _))
  by_cases h : i.natAbs = 0
  · rw [h]; decide
  · exact Nat.lt_trans ((Nat.log2_lt (k := 14) h).mpr (by lia)) (by decide)
theorem Cl.lenS {x : Str} {Q : Post MV} (hz : x.length ≤ 1000) (q : Q (.int x.length) H) : Cl c n (.builtin "len") [.str x] H Q := by
  intro sc r m cs s σ os loc as Φ E R h k
  apply h.one'; intro y hx
  cases hx
  exact PyProof.Rows.len_str (by lia) (k _ H _ _ _ σ os q R (List.prefix_refl _) (.int _ _))
theorem Cl.rjust {x : Str} {i : Int} {Q : Post MV} (hz : PadOk i = true) (q : Q (.str (Txt.rjust x i)) H) : Cl c n (.builtin "str.rjust") [.str x, .int i] H Q := by
  intro sc r m cs s σ os loc as Φ E R h k
  apply h.two'; intro y z hx hy
  cases hx; cases hy
  exact SC.rjust hz fun t' tk => k _ H _ _ _ σ os q R (List.prefix_refl _) (.str _ _)
theorem Bin.adds {x y : Str} {Q : Post MV} (hz : x.length + y.length ≤ 1000) (q : Q (.str (x ++ y)) H) : Bin c n .Add (.str x) (.str y) H Q := by
  intro sc r m cs s σ os loc as Φ E R h k
  apply h.two'; intro a b hx hy
  cases hx; cases hy
  exact SBL.add (fun t' tk _ => k _ H _ _ _ σ os q R (List.prefix_refl _) (.str _ _)) (by rw [sizeLine_eq]; lia)
theorem Cl.ord {x : Nat} {Q : Post MV} (q : Q (.int x) H) : Cl c n (.builtin "ord") [.str ⟨#[x]⟩] H Q := by
  intro sc r m cs s σ os loc as Φ E R h k
  apply h.one'; intro a hx
  cases hx
  exact P.ord_of_char (k _ H _ _ _ σ os q R (List.prefix_refl _) (.int _ _))
theorem rjust_get {M : Model} {A : Around} {E : Value → Shared → Prop} {s : Shared} {x : Str} {t : Tok} {pl : Sem Bool} {Q : Value × List Value → Shared → Prop} (h : Q (.builtin "str.rjust", [.str x t]) s) : wpAny M A (getMethod (.str x t) "rjust" pl) Q E s := by
  with_reducible exact GM.rjust h
theorem Ev.rjust {o apos e es pos} {Q : Post MV} {pl : Env → Sem Bool}
    (h : Ev c n sc o loc H fun ov H₁ => ∃ x, ov = .str x ∧ Evs c n sc pos (e :: es) loc H₁ fun vs H₂ => Cl c n (.builtin "str.rjust") (.str x :: vs) H₂ Q)
    (hp : ∀ env, eval (.Call (.Attribute o "rjust" apos) (e :: es) [] pos) env = (do
      let ov ← eval o env
      standAt apos.atName
      let (f, first) ← holding [ov] (getMethod ov "rjust" (pl env))
      callWith pos f first (backTo pos (starEach (e :: es) env)) []) := by (intro _; with_unfolding_all rfl))
    (he : ∀ env, starEach (e :: es) env = (false, eval e env) :: starEach es env := by (intro _; with_unfolding_all rfl)) (hpl : ∀ env, (backTo pos (starEach es env)).any (·.1) = false := by (intro _; with_unfolding_all rfl)) :
    Ev c n sc (.Call (.Attribute o "rjust" apos) (e :: es) [] pos) loc H Q := by
  intro r m cs s σ os Φ E R k
  refine MethodCall_ (pl := pl r.env) (h r m cs s σ os _ E R fun a H₁ a' h₁ t₁ σ₁ os₁ q₁ R₁ p₁ v₁ => ?_) (hp r.env)
  refine x12 q₁ ?_; try clear q₁; intro x eq6 q₁; subst eq6
  apply v₁.strE'; intro t
  have key := callWith_method1 (M := model c.prog c.w) (A := r.A) (E := E) (s := { s with heap := h₁, toks := t₁ }) (env := r.env) (pos := pos) (id := "str.rjust") (first := [.str x t]) (Q := Φ) (e := e) (rest := es) (q₁ r m cs { s with heap := h₁, toks := t₁ } σ₁ os₁ _ E R₁ fun vs H₂ vs' h₂ t₂ σ₂ os₂ q₂ R₂ p₂ v₂ =>
    q₂ sc r m cs { s with heap := h₂, toks := t₂ } σ₂ os₂ loc (.str x t :: vs') Φ E R₂ (.cons (.str _ _) v₂) fun v H' v' h' t' σ' os' q' R' p' v'' => k v H' v' h' t' σ' os' q' R' ((p₁.trans p₂).trans p') v'') (he r.env) (hpl r.env)
  with_reducible refine rjust_get ?_
  with_reducible exact key
noncomputable def signs (x : Str) : List MV := x.cps.toList.map fun c => .str ⟨#[c]⟩
theorem Src.str {iter} {Q : List MV → (List MO → Prop) → List MO → Prop} (hq : c.q = true) (h : Ev c n sc iter loc H fun v H₁ => ∃ x, v = .str x ∧ (x.cps.all (· < 128)) = true ∧ Q (signs x) (fun _ => True) H₁) : Src c n sc iter loc H Q := by
  intro r m cs s σ os Φ E R k
  refine h r m cs s σ os _ E R fun v H₁ v' h₁ t₁ σ₁ os₁ q₁ R₁ p₁ v₁ => ?_
  refine x13 q₁ ?_; try clear q₁; intro x eq7 ha q; subst eq7
  apply v₁.strE'; intro t
  refine wpAny_pyIter_ascii (s := { s with heap := h₁, toks := t₁ }) ha ?_
  have W := Walks.strAscii (prog := c.prog) (w := c.w) (R₁.hd hq) h₁.objs.size x t
  refine k (signs x) _ H₁ h₁ t₁ σ₁ os₁ _ _ q R₁ p₁ trivial (Steps.walks (c := c) (A := r.A) (h₀ := r.h₀) (L := r.L) (σ₀ := σ₁) (its := signs x) W (fun i h st => (by refine x12 st ?_; try clear st; intro o h1 _; exact ⟨o, h1⟩)) (by simp [signs]) fun i v v' σ hv hP => ?_) (fun i o ho hf => ?_) ?_ rfl
  · refine x22 hP ?_; try clear hP; intro c' u h1 eq8; subst eq8
    unfold signs at hv
    rw [List.getElem?_map, Option.map_eq_some_iff] at hv
    refine x12 hv ?_; try clear hv; intro a ha eq9; subst eq9
    rw [Array.getElem?_toList] at ha
    rw [h1] at ha; cases ha
    exact .str _ _
  · have h1 := ho _ (at_heap h₁.objs.size hf)
    have h2 := at_heap h₁.objs.size hf
    refine x13 h1 ?_; try clear h1; intro o' g1 g2 g3
    rw [h2] at g1
    cases g1
    exact ⟨fun es ep e => (by rw [g3] at e; cases e), fun v e => (by rw [g3] at e; cases e)⟩
  · intro h2 e2
    exact i13 _ e2 rfl rfl
end
end
section
theorem fr_keep {h₀ h h' : Heap} {L : Addr} {m : Str → Option Value} (F : Fr h₀ L h m) (hL : ∀ o, h.get? L = some o → h'.get? L = some o) (hk : ∀ b o, h₀.get? b = some o → h.get? b = some o → h'.get? b = some o) : Fr h₀ L h' m :=
  ⟨F.ns.at hL, fun b o e => hk b o e (F.keep b o e), F.above⟩

noncomputable def enumO (it : Addr) (i : Nat) (old : Value) : Obj := { cls := .type "enumerate", data := .fields #[.none, .bool false, .ref it, rawInt (i : Int), .none, old] }

/-- the turns of a for over an enumerate -/
noncomputable def LoopE (c : Cx) (n : Nat) (sc : Scope) (x y : Str) (body : List Stmt) (cond : List MO → Prop) : Nat → List MV → Loc → List MO → PostF → Prop
  | _, [], loc, H, Q => Q .next loc H
  | i, v :: its, loc, H, Q => ∃ loc₁ loc', Put loc x (.int i) loc₁ ∧ Put loc₁ y v loc' ∧ Ex c n sc body loc' H fun fl loc₂ H₂ => match fl with
    | .next | .cont => cond H₂ ∧ LoopE c n sc x y body cond (i + 1) its loc₂ H₂ Q
    | .brk => Q .next loc₂ H₂
    | .ret v => Q (.ret v) loc₂ H₂

section
variable {c : Cx} {n : Nat} {sc : Scope} {loc : Loc} {H : List MO}
structure EnumI (c : Cx) (n : Nat) (sc : Scope) (r : RR) (e it ax : Addr) (k : Nat) (its : List MV) (x y : Str) (body : List Stmt) (Q : PostF) (cs : Led) (σ : List Addr) (t : LT) : Prop where
  e2 : t.i ≤ its.length
  e4 : RelF c n sc { r with X := (e, enumO it t.i t.old) :: (it, t.oI) :: r.X } t.m t.cs t.h t.σ t.os t.loc t.H
  e5 : t.oI.cls = .type "list_iterator" ∧ t.oI.data = .fields #[.ref ax, .int (t.i : Int) 0]
  e6 : t.H[k]? = some (.list its)
  e7 : σ <+: t.σ
  e8 : t.cs.map (·.1) = cs.map (·.1)
  e9 : LoopE c n sc x y body (fun H => H[k]? = some (.list its)) t.i (its.drop t.i) t.loc t.H Q
theorem enum_core {r : RR} {σ₀ : List Addr} {e it ax : Addr} {k : Nat} {its : List MV} {x y : Str} {px py pt : Pos} {x1 : Nat} {body : List Stmt} {Q : PostF} (hh : r.A.handled = none) (hσ : σ₀[k]? = some ax)
    {m : Str → Option Value} {cs : Led} {s : Shared} {σ : List Addr} {os : List Obj} {oI : Obj} {Φ : Flow → Shared → Prop} {E : Value → Shared → Prop}
    (R : RelF c n sc { r with X := (e, enumO it 0 .none) :: (it, oI) :: r.X } m cs s.heap σ os loc H) (hp : σ₀ <+: σ) (hI : oI.cls = .type "list_iterator" ∧ oI.data = .fields #[.ref ax, .int 0 0])
    (hc : H[k]? = some (.list its)) (hL : LoopE c n sc x y body (fun H => H[k]? = some (.list its)) 0 its loc H Q)
    (kk : ∀ fl loc' H' fl' m' cs' h' tk' σ' os', Q fl loc' H' → RelF c n sc r m' cs' h' σ' os' loc' H' → cs'.map (·.1) = cs.map (·.1) → σ <+: σ' → FlR c.sl σ' fl fl' → Φ fl' { s with heap := h', toks := tk' }) :
    codeAny (model c.prog c.w) r.A (.forLoop (.Tuple [.Name x px, .Name y py] x1 pt) (.ref e) body [] r.env) (fun res s' => match res with | .ok f => Φ f s' | .error e => cameBackBy (model c.prog c.w) r.A r.env E e s') s := by
  refine loop_free (fun t : LT => its.length + 1 - t.i) (fun t => { s with heap := t.h, toks := t.tk }) (EnumI c n sc r e it ax k its x y body Q cs σ) (fun t Y Z E' P xN xS zA zB zR => ?_)
    ⟨0, m, cs, s.heap, s.toks, σ, os, loc, H, oI, oI, #[], 0, [], .none⟩ ⟨Nat.zero_le _, R, hI, hc, List.prefix_refl _, rfl, hL⟩
  have R' := P.e4
  have nE := R'.N.news (e, enumO it t.i t.old) (List.mem_append_left _ (List.mem_append_right _ (.head _)))
  have nI := R'.N.news (it, t.oI) (List.mem_append_left _ (List.mem_append_right _ (.tail _ (.head _))))
  refine R'.N.obj' P.e6 fun x2 o2 hx2 ho2 hr2 hm2 => ?_
  have hm3 := same_at (P := fun z => (z, o2) ∈ _) hx2 (get_of_pre (hp.trans P.e7) hσ) hm2
  clear hm2 ho2
  revert hm3
  apply hr2.listE; intro vs ep all hm2
  have nA := (R'.N.news _ hm2).1
  have hei : e ≠ it := fun q => absurd ((congrArg Obj.cls (Option.some.inj (nE.1.symm.trans ((congrArg t.h.get? q).trans nI.1)))).trans P.e5.1) (by simp [enumO])
  have hl : t.h.IsList ax vs.toArray := R'.N.news.isList hm2
  have hit : t.h.IsListIter it ax t.i := i12 t.oI nI.1 P.e5
  by_cases hlt : t.i < its.length
  · refine x23 ((List.drop_eq_getElem_cons hlt ▸ P.e9 : LoopE c n sc x y body (fun H => H[k]? = some (.list its)) t.i (its[t.i] :: its.drop (t.i + 1)) t.loc t.H Q)) fun loc₁ loc₂ hput₁ hput₂ hex => ?_
    refine x12 (all.get (List.getElem?_eq_getElem hlt)) fun v' hv' hr => ?_
    refine wpAny_pyNext_enum_item nE.1 hit hl (by simpa using hv') hei fun h₁ heo hit₁ ht₁ hz₁ hk₁ => xS _ _ ?_
    refine wpAny_letOwnedTupleGo_enum heo fun h₂ he₂ hs₂ => ?_
    have heH : e < t.h.objs.size := Heap.lt_size nE.1
    have hz₂ : h₂.objs.size = t.h.objs.size + 1 := hs₂.1.trans hz₁
    refine wpAny_assign_Tuple hh ((i13 _ ((hs₂.2 _ (Nat.ne_of_gt heH)).trans ht₁) rfl (Exists.intro _ rfl)) : h₂.IsTuple t.h.objs.size #[.int t.i t.tk, v']) rfl rfl fun h₃ hx₃ => ?_
    have old₃ : ∀ b o, b < t.h.objs.size → h₂.get? b = some o → h₃.get? b = some o := fun b o hb x => hx₃ b o (Nat.ne_of_lt (Nat.lt_of_lt_of_eq (Nat.lt_succ_of_lt hb) hz₂.symm)) x
    refine x13 hit₁ ?_; try clear hit₁; intro oI₂ g1 g2 g3
    have e1 : h₃.get? e = some (enumO it (t.i + 1 : Nat) v') := old₃ _ _ heH he₂
    have e2 : h₃.get? it = some oI₂ := old₃ _ _ (Heap.lt_size nI.1) ((hs₂.2 _ (Ne.symm hei)).trans g1)
    have keep₃ : ∀ b o, b ≠ e → b ≠ it → t.h.get? b = some o → h₃.get? b = some o := fun b o hbe hbi x => old₃ b o (Heap.lt_size x) ((hs₂.2 b hbe).trans (hk₁ b o hbe hbi x))
    have R₃ : RelF c n sc { r with X := (e, enumO it (t.i + 1 : Nat) v') :: (it, oI₂) :: r.X } t.m t.cs h₃ t.σ t.os t.loc t.H := RelF.withX (r := { r with X := (e, enumO it t.i t.old) :: (it, t.oI) :: r.X }) R'
      (fr_keep R'.F (fun o x => keep₃ _ o (Ne.symm nE.2.1) (Ne.symm nI.2.1) x) fun b o hb x => keep₃ b o (fun q => absurd (q ▸ hb) (by rw [nE.2.2]; exact nofun)) (fun q => absurd (q ▸ hb) (by rw [nI.2.2]; exact nofun)) x)
      (HR.turnY (Y := [(e, enumO it t.i t.old), (it, t.oI)]) (Y' := [(e, enumO it (t.i + 1 : Nat) v'), (it, oI₂)]) R'.N rfl (fun p hp => by
        cases hp with
        | head => exact e1
        | tail _ hp => cases hp with
          | head => exact e2
          | tail _ hp => cases hp) fun b o hb x => keep₃ b o (fun q => hb (q ▸ .head _)) (fun q => hb (q ▸ .tail _ (.head _))) x)
    show wpAny _ r.A (do holding [v'] (assign (.Name x px) r.env (.int t.i t.tk)); do holding [] (assign (.Name y py) r.env v'); pure ()) _ _ _
    refine wpAny_bind (wpAny_holding (wpAny_assign_Name (store_var (r := { r with X := (e, enumO it (t.i + 1 : Nat) v') :: (it, oI₂) :: r.X }) (s := { s with heap := h₃, toks := t.tk + 1 }) R₃ hput₁ (.int _ _) fun m₄ cs₄ h₄ t₄ R₄ ec₄ => ?_)))
    refine wpAny_bind (wpAny_holding (wpAny_assign_Name (store_var (r := { r with X := (e, enumO it (t.i + 1 : Nat) v') :: (it, oI₂) :: r.X }) (s := { s with heap := h₄, toks := t₄ }) R₄ hput₂ hr fun m₅ cs₅ h₅ t₅ R₅ ec₅ => wpAny_pure ?_)))
    refine hex { r with X := (e, enumO it (t.i + 1 : Nat) v') :: (it, oI₂) :: r.X } m₅ cs₅ { s with heap := h₅, toks := t₅ } t.σ t.os _ _ R₅ fun fl loc₄ H₄ fl' m₆ cs₆ h₆ t₆ σ₆ os₆ q R₆ ec₆ p₆ f => ?_
    have drop1 : RelF c n sc { r with X := (it, oI₂) :: r.X } m₆ cs₆ h₆ σ₆ os₆ loc₄ H₄ := RelF.withX (r := { r with X := (e, enumO it (t.i + 1 : Nat) v') :: (it, oI₂) :: r.X }) R₆ R₆.F (R₆.N.dropX fun _ _ _ e => e)
    have drop : RelF c n sc r m₆ cs₆ h₆ σ₆ os₆ loc₄ H₄ := RelF.withX (r := { r with X := (it, oI₂) :: r.X }) drop1 drop1.F (drop1.N.dropX fun _ _ _ e => e)
    have ecc := ec₆.trans (ec₅.trans (ec₄.trans P.e8))
    have again := fun q : H₄[k]? = some (.list its) ∧ LoopE c n sc x y body (fun H => H[k]? = some (.list its)) (t.i + 1) (its.drop (t.i + 1)) loc₄ H₄ Q => zA ⟨t.i + 1, m₆, cs₆, h₆, t₆, σ₆, os₆, loc₄, H₄, oI₂, oI₂, #[], 0, [], v'⟩ ⟨hlt, R₆, ⟨g2, g3⟩, q.1, P.e7.trans p₆, ecc, q.2⟩ (Nat.sub_lt_sub_left (Nat.lt_succ_of_lt hlt) (Nat.lt_succ_self _))
    cases f with
    | next => exact (again q).1
    | cont => exact (again q).2
    | brk => exact zB _ (kk .next _ _ _ m₆ cs₆ h₆ t₆ σ₆ os₆ q drop ecc (P.e7.trans p₆) .next)
    | ret hv => exact zR _ _ (kk _ _ _ _ m₆ cs₆ h₆ t₆ σ₆ os₆ q drop ecc (P.e7.trans p₆) (.ret hv))
  · have hL' := P.e9
    rw [List.drop_eq_nil_of_le (Nat.le_of_not_lt hlt)] at hL'
    refine wpAny_pyNext_enum_end hh nE.1 hit hl (Array.getElem?_eq_none_iff.mpr (Nat.le_trans (Nat.le_of_eq (by simp [all.length])) (Nat.le_of_not_lt hlt))) fun h₂ hx₂ => xN _ ?_
    have R₁ : RelF c n sc { r with X := (it, t.oI) :: r.X } t.m t.cs t.h t.σ t.os t.loc t.H := RelF.withX (r := { r with X := (e, enumO it t.i t.old) :: (it, t.oI) :: r.X }) R' R'.F (R'.N.dropX fun _ _ _ e => e)
    exact kk .next t.loc t.H .next t.m t.cs h₂ t.tk t.σ t.os hL' (RelF.withX (r := { r with X := (it, t.oI) :: r.X }) R₁ (fr_but R₁.F nI.2.1 nI.2.2 fun b o hb e => hx₂ b o hb e) (R₁.N.dropX fun b o hb e => hx₂ b o hb e)) P.e8 P.e7 .next
theorem Ex1.forEnum {x y : Str} {px py pt ep : Pos} {x1 : Nat} {e : Expr} {body pos cpos} {Q : PostF} (hq : c.q = true) (hg : NoGlb c "enumerate")
    (h : Ev c n sc e loc H fun v H₁ => ∃ k its, v = .ref k ∧ H₁[k]? = some (.list its) ∧ LoopE c n sc x y body (fun H => H[k]? = some (.list its)) 0 its loc H₁ Q)
    (hk : sc.names.lookup ("enumerate" : Str) = some .globalImplicit := by with_unfolding_all rfl)
    (he : ∀ env, starEach [e] env = (false, eval e env) :: starEach [] env := by (intro _; with_unfolding_all rfl))
    (hs : ∀ env x, foldedSetIterable (.Call (.Name "enumerate" ep) [e] [] cpos) env x = pure x := by (intro _ _; with_unfolding_all rfl)) : Ex1 c n sc (.For (.Tuple [.Name x px, .Name y py] x1 pt) (.Call (.Name "enumerate" ep) [e] [] cpos) body [] pos) loc H Q := by
  intro r m cs s σ os Φ E R kk
  refine wpAny_For (Call_ (eval_blt R.toRel hg boot_enumerate (by decide) hk (by decide) (PyProof.Rows.callWith_type1 (args_cons (exOf h R fun v H₁ v' h₁ t₁ σ₁ os₁ q₁ R₁ p₁ v₁ => args_nil ?_) (he r.env)) (he r.env)))) (hs r.env)
  refine x23 q₁ ?_
  clear q₁; intro k its e1 ek hL
  subst e1
  apply R₁.lst' ek v₁; intro ax vs ep lx
  have nA := R₁.N.news _ lx.mem
  refine call_enumerate_1 (s := { s with heap := h₁, toks := t₁ }) nA.1 fun h₂ hE hI hz hk => ?_
  replace hz : h₂.objs.size = h₁.objs.size + 2 := hz
  replace hE : IsEnum h₂ (h₁.objs.size + 1) h₁.objs.size 0 .none := hE
  refine wpAny_pyIter_enum (s := { s with heap := h₂, toks := t₁ }) hE ?_
  refine hold fun Xh oh => ?_
  refine x13 hI ?_; try clear hI; intro oI g1 g2 g3
  replace g1 : h₂.get? h₁.objs.size = some oI := g1
  refine oh ?_
  -- both in the ledger
  have R₂ : RelF c n sc r m cs h₂ σ₁ os₁ loc H₁ := R₁.of (R₁.toRel.keeps hk)
  have NL : ∀ a o, h₂.get? a = some o → h₁.objs.size ≤ a → a ≠ r.L ∧ r.h₀.get? a = Option.none := by
    intro a o ha hle
    have hLlt : r.L < h₁.objs.size := R₁.F.ns.lt
    refine ⟨fun q => absurd hLlt (by rw [← q]; exact Nat.not_lt.mpr hle), ?_⟩
    cases hx : r.h₀.get? a with
    | none => rfl
    | some o' => exact absurd (Heap.lt_size (R₁.F.keep _ _ hx)) (Nat.not_lt.mpr hle)
  have nd : (((h₁.objs.size + 1) :: h₁.objs.size :: (cs ++ r.X).map (·.1)) ++ σ₁).Nodup := by
    have hlt : ∀ a ∈ (cs ++ r.X).map (·.1) ++ σ₁, a < h₁.objs.size := by
      intro a ha
      have : a ∈ ((cs ++ r.X) ++ σ₁.zip os₁).map (·.1) := by rw [List.map_append, map_fst_zip R₁.N.len]; exact ha
      refine x12 (List.mem_map.mp this) fun p hp eq10 => ?_; subst eq10
      exact R₁.N.lt p hp
    rw [List.cons_append, List.cons_append, List.nodup_cons, List.nodup_cons]
    refine i03 (fun q => ?_) (fun q => absurd (hlt _ q) (Nat.lt_irrefl _)) R₁.N.nd
    rcases List.mem_cons.mp q with q | q
    · exact absurd q (Nat.succ_ne_self _)
    · exact absurd (Nat.lt_trans (Nat.lt_succ_self _) (hlt _ q)) (Nat.lt_irrefl _)
  have N₃ : HR c.sl r.h₀ r.L h₂ (cs ++ (h₁.objs.size + 1, enumO h₁.objs.size 0 .none) :: (h₁.objs.size, oI) :: r.X) σ₁ H₁ os₁ := by
    refine ⟨fun p hp => ?_, R₂.N.objs, R₂.N.len, ?_⟩
    · simp only [List.append_assoc, List.mem_append, List.cons_append, List.mem_cons] at hp
      rcases hp with h1 | h1 | h1 | h1 | h1
      · exact R₂.N.news p (by simp [h1])
      · subst h1; exact ⟨hE, NL _ _ hE (Nat.le_succ _)⟩
      · subst h1; exact ⟨g1, NL _ _ g1 (Nat.le_refl _)⟩
      · exact R₂.N.news p (by simp [h1])
      · exact R₂.N.news p (by simp [h1])
    · refine nd.perm ?_
      refine List.Perm.append_right _ ?_
      simp only [List.map_append, List.map_cons]
      exact (List.perm_middle.trans ((List.perm_middle).cons _)).symm
  have R₃ : RelF c n sc { r with X := (h₁.objs.size + 1, enumO h₁.objs.size 0 .none) :: (h₁.objs.size, oI) :: r.X } m cs h₂ σ₁ os₁ loc H₁ := R₂.withX R₂.F N₃
  exact enum_core (r := r) (s := { s with heap := h₂, toks := t₁ }) (R₁.hd hq) lx.at_ R₃ (List.prefix_refl _) ⟨g2, g3⟩ ek hL
    fun fl loc' H' fl' m' cs' h' tk' σ' os' q' R' ec p f => kk fl loc' H' fl' m' cs' h' tk' σ' os' q' R' ec (p₁.trans p) f
end
end
section
/-! what stays of a heap -/
noncomputable def Keep (F : List Nat) (H H' : List MO) : Prop := H.length ≤ H'.length ∧ ∀ k m, k ∉ F → H[k]? = some m → H'[k]? = some m
section
variable {F : List Nat} {H H' H'' : List MO} {k j : Nat} {m m' : MO}
theorem Keep.refl : Keep F H H := ⟨Nat.le_refl _, fun _ _ _ e => e⟩
theorem Keep.trans (a : Keep F H H') (b : Keep F H' H'') : Keep F H H'' := ⟨Nat.le_trans a.1 b.1, fun k m h e => b.2 k m h (a.2 k m h e)⟩
theorem Keep.mono {F' : List Nat} (a : Keep F H H') (h : ∀ k ∈ F, k ∈ F') : Keep F' H H' := ⟨a.1, fun k m hk e => a.2 k m (fun q => hk (h k q)) e⟩
theorem Keep.weak (a : Keep [] H H') : Keep F H H' := a.mono fun _ h => by cases h
theorem Keep.app {l : List MO} : Keep F H (H ++ l) := ⟨by simp, fun k m _ e => by rw [List.getElem?_append_left (List.getElem?_eq_some_iff.mp e).1]; exact e⟩
theorem Keep.set (h : k ∈ F) : Keep F H (H.set k m) := ⟨by simp, fun j m' hj e => by rw [List.getElem?_set_ne (fun q => hj (by rw [← q]; exact h))]; exact e⟩
theorem Keep.setNew (a : Keep F H H') (h : H.length ≤ k) : Keep F H (H'.set k m) := ⟨by simpa using a.1, fun j m' hj e => by
  have := (List.getElem?_eq_some_iff.mp e).1
  rw [List.getElem?_set_ne (fun q => by lia)]; exact a.2 j m' hj e⟩
theorem Keep.get (a : Keep F H H') (hk : k ∉ F) (e : H[k]? = some m) : H'[k]? = some m := a.2 k m hk e
theorem Keep.lenLe (a : Keep [] H H') : H.length ≤ H'.length := a.1
theorem Keep.get0 (a : Keep [] H H') (e : H[k]? = some m) : H'[k]? = some m := a.2 k m (by simp) e
theorem get_app {l : List MO} (e : H[k]? = some m) : (H ++ l)[k]? = some m := by rw [List.getElem?_append_left (List.getElem?_eq_some_iff.mp e).1]; exact e
theorem get_new : (H ++ [m])[H.length]? = some m := by simp
theorem get_set_self (e : H[k]? = some m) : (H.set k m')[k]? = some m' := by
  rw [List.getElem?_set_self (List.getElem?_eq_some_iff.mp e).1]
theorem get_set_ne (hn : k ≠ j) (e : H[k]? = some m) : (H.set j m')[k]? = some m := by rw [List.getElem?_set_ne (Ne.symm hn)]; exact e
theorem get_set_of {m₂ : MO} (h : H[k]? = some m) (hj : H[j]? = some m₂) (hn : m ≠ m₂) : (H.set j m')[k]? = some m := get_set_ne (fun e => by subst e; rw [h] at hj; exact hn (Option.some.inj hj)) h
theorem get_lt (e : H[k]? = some m) : k < H.length := (List.getElem?_eq_some_iff.mp e).1
theorem All2.mono' {α β : Type} {R S : α → β → Prop} {as : List α} {bs : List β} (h : All2 R as bs) (f : ∀ a ∈ as, ∀ b, R a b → S a b) : All2 S as bs := by
  induction h with
  | nil => exact .nil
  | cons h _ ih => exact .cons (f _ (.head _) _ h) (ih fun a ha => f a (.tail _ ha))
theorem IsI.keep {xs : List Int} (h : IsI H k xs) (a : Keep [] H H') : IsI H' k xs := a.get0 h
theorem IsI.keepF {xs : List Int} (h : IsI H k xs) (a : Keep F H H') (hk : k ∉ F) : IsI H' k xs := a.get hk h
theorem IsR.keep {xs : List (List Int)} (h : IsR H k xs) (a : Keep [] H H') : IsR H' k xs := by
  refine x12 h ?_; try clear h; intro ks e all
  exact i12 ks (a.get0 e) (all.mono fun _ _ q => IsI.keep q a)
theorem IsI.of {xs ys : List Int} (h : IsI H k xs) (e : xs = ys) : IsI H k ys := e ▸ h
theorem IsI.lt {xs : List Int} (h : IsI H k xs) : k < H.length := get_lt h
end

/-! the turns of a loop by an invariant -/
noncomputable def BodyQ (cond : List MO → Prop) (I : Loc → List MO → Prop) (Q : PostF) : PostF := fun fl loc H => match fl with
  | .next => cond H ∧ I loc H
  | .cont => cond H ∧ I loc H
  | .brk => Q .next loc H
  | .ret v => Q (.ret v) loc H
section
variable {c : Cx} {n : Nat} {sc : Scope} {x y : Str} {body : List Stmt} {cond : List MO → Prop} {Q : PostF}
theorem BodyQ.next {I : Loc → List MO → Prop} {loc H} (h : cond H ∧ I loc H) : BodyQ cond I Q .next loc H := h
theorem BodyQ.ret {I : Loc → List MO → Prop} {loc H v} (h : Q (.ret v) loc H) : BodyQ cond I Q (.ret v) loc H := h
theorem Seq.next {rest : List Stmt} {loc H} (h : Ex c n sc rest loc H Q) : Seq c n sc rest Q .next loc H := h
theorem Seq.ret {rest : List Stmt} {loc H v} (h : Q (.ret v) loc H) : Seq c n sc rest Q (.ret v) loc H := h
theorem EndOf.ret {Q : Post MV} {loc H v} (h : Q v H) : EndOf Q (.ret v) loc H := h
theorem EndOf.next {Q : Post MV} {loc H} (h : Q .none H) : EndOf Q .next loc H := h
theorem Loop.inv (I : Nat → Loc → List MO → Prop) : ∀ (its : List MV) {loc : Loc} {H : List MO}
    (step : ∀ i v loc H, its[i]? = some v → I i loc H → ∃ loc', Put loc x v loc' ∧ Ex c n sc body loc' H (BodyQ cond (I (i + 1)) Q))
    (fin : ∀ loc H, I its.length loc H → Q .next loc H) (h0 : I 0 loc H), Loop c n sc x body cond its loc H Q
  | [], loc, H, step, fin, h0 => fin loc H h0
  | v :: its, loc, H, step, fin, h0 => by
    refine x12 (step 0 v loc H rfl h0) fun loc' hp hx => ?_
    refine i12 loc' hp (ExT.mono hx fun fl l₂ H₂ q => ?_)
    have again : ∀ l₂ H₂, I 1 l₂ H₂ → Loop c n sc x body cond its l₂ H₂ Q := fun l₂ H₂ q =>
      Loop.inv (fun i => I (i + 1)) its (fun i v loc H e q => step (i + 1) v loc H e q) (fun loc H q => fin loc H q) q
    cases fl with
    | next => exact ⟨q.1, again _ _ q.2⟩
    | cont => exact ⟨q.1, again _ _ q.2⟩
    | brk => exact q
    | ret v => exact q
theorem LoopE.inv (I : Nat → Loc → List MO → Prop) : ∀ (its : List MV) (j : Nat) {loc : Loc} {H : List MO}
    (step : ∀ i v loc H, its[i]? = some v → I (j + i) loc H → ∃ loc₁ loc', Put loc x (.int ((j + i : Nat) : Int)) loc₁ ∧ Put loc₁ y v loc' ∧ Ex c n sc body loc' H (BodyQ cond (I (j + i + 1)) Q))
    (fin : ∀ loc H, I (j + its.length) loc H → Q .next loc H) (h0 : I j loc H), LoopE c n sc x y body cond j its loc H Q
  | [], j, loc, H, step, fin, h0 => fin loc H h0
  | v :: its, j, loc, H, step, fin, h0 => by
    refine x23 (step 0 v loc H rfl h0) fun loc₁ loc' hp₁ hp hx => ?_
    refine i23 loc₁ loc' hp₁ hp (ExT.mono hx fun fl l₂ H₂ q => ?_)
    have again : ∀ l₂ H₂, I (j + 1) l₂ H₂ → LoopE c n sc x y body cond (j + 1) its l₂ H₂ Q := fun l₂ H₂ q =>
      LoopE.inv I its (j + 1) (fun i v loc H e q => by
        have := step (i + 1) v loc H e (by rw [← Nat.add_assoc, Nat.add_right_comm]; exact q)
        rw [← Nat.add_assoc, Nat.add_right_comm] at this; exact this) (fun loc H q => fin loc H (by
          rw [List.length_cons, Nat.add_comm its.length 1, ← Nat.add_assoc]; exact q)) q
    cases fl with
    | next => exact ⟨q.1, again _ _ q.2⟩
    | cont => exact ⟨q.1, again _ _ q.2⟩
    | brk => exact q
    | ret v => exact q
/-- the turns of a comprehension by an invariant; its locals are the target and what it captures -/
theorem CompL.inv {elt : Expr} {ifs : List Expr} {kD : Nat} {R : List MO → Prop} {l : Loc} (I : Nat → List MV → List MO → Prop) : ∀ (its : List MV) {acc : List MV} {o : Option MV} {H : List MO}
    (step : ∀ i v acc H, its[i]? = some v → H[kD]? = some (.list acc) → I i acc H → Ifs c n sc ifs ((x, some v) :: l) H fun b H₁ =>
      (b = true → Ev c n sc elt ((x, some v) :: l) H₁ fun w H₂ => H₂[kD]? = some (.list acc) ∧ acc.length ≤ 900 ∧ cond (H₂.set kD (.list (acc ++ [w]))) ∧ I (i + 1) (acc ++ [w]) (H₂.set kD (.list (acc ++ [w])))) ∧
      (b = false → H₁[kD]? = some (.list acc) ∧ cond H₁ ∧ I (i + 1) acc H₁))
    (fin : ∀ acc H, H[kD]? = some (.list acc) → I its.length acc H → R H) (hD : H[kD]? = some (.list acc)) (h0 : I 0 acc H), CompL c n sc x elt ifs cond kD R its acc ((x, o) :: l) H
  | [], acc, o, H, step, fin, hD, h0 => ⟨hD, fin acc H hD h0⟩
  | v :: its, acc, o, H, step, fin, hD, h0 => by
    refine i12 ((x, some v) :: l) (.head) (Run.mono (step 0 v acc H rfl hD h0) fun b H₁ q => ⟨fun hb => Run.mono (q.1 hb) fun w H₂ q => i04 q.1 q.2.1 q.2.2.1 ?_, fun hb => ⟨(q.2 hb).2.1, ?_⟩⟩)
    · exact CompL.inv (fun i => I (i + 1)) its (fun i v acc H e => step (i + 1) v acc H e) (fun acc H e q => fin acc H e q) (get_set_self q.1) q.2.2.2
    · exact CompL.inv (fun i => I (i + 1)) its (fun i v acc H e => step (i + 1) v acc H e) (fun acc H e q => fin acc H e q) (q.2 hb).1 (q.2 hb).2.2
end

section
variable {c : Cx} {n : Nat} {sc : Scope} {loc : Loc} {H : List MO}
theorem Part.none {Q : Post (Option Int)} (h : Q Option.none H) : Part c n sc Option.none loc H Q := h
theorem Part.some {e : Expr} {Q : Post (Option Int)} (h : Ev c n sc e loc H fun v H₁ => ∃ i, v = .int i ∧ Q (some i) H₁) : Part c n sc (some e) loc H Q := h
end
theorem pick_take {α : Type} (l : List α) (p : Nat) : pick l Option.none (some (p : Int)) = l.take p := by
  unfold pick lo hi
  have h : ¬ (p : Int) < 0 := by lia
  simp only [h, if_false, Int.toNat_natCast, List.drop_zero, Nat.sub_zero]
  rw [List.take_eq_take_iff]; lia
theorem pick_drop {α : Type} (l : List α) (p : Nat) : pick l (some (p : Int)) Option.none = l.drop p := by
  unfold pick lo hi
  have h : ¬ (p : Int) < 0 := by lia
  simp only [h, if_false, Int.toNat_natCast]
  rw [List.take_of_length_le (by simp)]
  by_cases hp : p ≤ l.length
  · rw [Nat.min_eq_left hp]
  · rw [Nat.min_eq_right (by lia), List.drop_eq_nil_of_le (Nat.le_refl _), List.drop_eq_nil_of_le (by lia)]
theorem pick_mid {α : Type} (l : List α) (p r : Nat) : pick l (some (p : Int)) (some (r : Int)) = (l.drop p).take (r - p) := by
  unfold pick lo hi
  have h : ¬ (p : Int) < 0 := by lia
  have h' : ¬ (r : Int) < 0 := by lia
  simp only [h, h', if_false, Int.toNat_natCast]
  by_cases hp : p ≤ l.length
  · rw [Nat.min_eq_left hp, List.take_eq_take_iff, List.length_drop, Nat.sub_min_sub_right, Nat.sub_min_sub_right, Nat.min_assoc, Nat.min_self]
  · rw [List.drop_eq_nil_of_le (show l.length ≤ p by lia), List.drop_eq_nil_of_le (show l.length ≤ min p l.length by lia)]; simp
theorem pick_map {α β : Type} (f : α → β) (l : List α) (a b : Option Int) : pick (l.map f) a b = (pick l a b).map f := by
  unfold pick; simp

/-! the program's top -/
noncomputable def nth {α : Type} : List α → Nat → Option α
  | [], _ => none
  | x :: _, 0 => some x
  | _ :: r, n + 1 => nth r n
noncomputable def fdOf : Option Stmt → Option (Str × Arguments × List Stmt × Scope)
  | some (.FunctionDef name args body _ _ _ sc _ _ _) => some (name, args, body, sc)
  | _ => none
noncomputable def clsOf : Option Stmt → List Stmt
  | some (.ClassDef _ _ _ body _ _ _ _ _ _ _) => body
  | _ => []
noncomputable def fdAt (i : Nat) : Option (Str × Arguments × List Stmt × Scope) := fdOf (nth PySem.Challenge.pw_np0095_01.main.body i)
noncomputable def mdAt (i j : Nat) : Option (Str × Arguments × List Stmt × Scope) := fdOf (nth (clsOf (nth PySem.Challenge.pw_np0095_01.main.body i)) j)
end
section
noncomputable def defTable : List (Addr × Str × Value × Option (Str × Arguments × List Stmt × Scope)) :=
  (35, "LispSignal.__init__", Value.none, mdAt 2 0) ::
  (48, "need_writable", Value.none, fdAt 4) ::
  (55, "reached", Value.none, fdAt 5) ::
  (62, "tell_ahead", Value.none, fdAt 6) ::
  (69, "tell_behind", Value.none, fdAt 7) ::
  (76, "text_out", Value.none, fdAt 8) ::
  (83, "text_in", Value.none, fdAt 9) ::
  (90, "hung_out", Value.none, fdAt 10) ::
  (97, "hung_in", Value.none, fdAt 11) ::
  (104, "put_in", Value.none, fdAt 12) ::
  (112, "insert_at", Value.ref 105, fdAt 14) ::
  (120, "insert", Value.ref 113, fdAt 15) ::
  (127, "delete", Value.none, fdAt 16) ::
  (134, "replace", Value.none, fdAt 17) ::
  (141, "line_start", Value.none, fdAt 20) ::
  (148, "line_end", Value.none, fdAt 21) ::
  (155, "column_behind", Value.none, fdAt 25) ::
  (162, "column_at", Value.none, fdAt 26) ::
  (169, "row_columns", Value.none, fdAt 27) ::
  (176, "place_at", Value.none, fdAt 28) ::
  (183, "opened", Value.none, fdAt 29) ::
  (190, "padded", Value.none, fdAt 30) ::
  (197, "cut_at", Value.none, fdAt 31) ::
  (204, "cut_between", Value.none, fdAt 32) ::
  (211, "spread", Value.none, fdAt 33) ::
  (218, "extracted", Value.none, fdAt 34) ::
  (225, "erased", Value.none, fdAt 35) ::
  (232, "cleared", Value.none, fdAt 36) ::
  (239, "opened_up", Value.none, fdAt 37) ::
  (246, "replaced", Value.none, fdAt 38) ::
  (253, "put_in", Value.none, fdAt 39) ::
  (258, "numbered", Value.none, fdAt 41) ::
  (272, "Span.__init__", Value.none, mdAt 44 0) ::
  (286, "rows_in", Value.none, fdAt 45) ::
  (293, "text_of", Value.none, fdAt 46) ::
  (300, "column_of", Value.none, fdAt 47) ::
  (307, "span_of", Value.none, fdAt 48) ::
  (314, "put_rows", Value.none, fdAt 49) ::
  (319, "extract_rectangle", Value.none, fdAt 50) ::
  (324, "delete_rectangle", Value.none, fdAt 51) ::
  (331, "kill_rectangle", Value.none, fdAt 52) ::
  (336, "clear_rectangle", Value.none, fdAt 53) ::
  (341, "open_rectangle", Value.none, fdAt 54) ::
  (346, "string_rectangle", Value.none, fdAt 55) ::
  (353, "number_rectangle", Value.none, fdAt 56) ::
  (358, "yank_rectangle", Value.none, fdAt 57) ::
  (365, "behind_last", Value.none, fdAt 58) ::
  (372, "row_columns_from", Value.none, fdAt 59) ::
  (386, "GapText.__init__", Value.none, mdAt 61 0) ::
  (393, "GapText.size", Value.none, mdAt 61 1) ::
  (400, "GapText.code", Value.none, mdAt 61 2) ::
  (407, "GapText.codes", Value.none, mdAt 61 3) ::
  (414, "GapText.move_gap", Value.none, mdAt 61 4) ::
  (421, "GapText.widen_gap", Value.none, mdAt 61 5) ::
  (428, "GapText.insert", Value.none, mdAt 61 6) ::
  (435, "GapText.delete", Value.none, mdAt 61 7) ::
  (477, "Markers.__init__", Value.none, mdAt 63 0) ::
  (484, "Markers.numbers", Value.none, mdAt 63 1) ::
  (512, "Markers.inserted", Value.none, mdAt 63 5) ::
  (519, "Markers.deleted", Value.none, mdAt 63 6) ::
  (526, "Markers.replaced", Value.none, mdAt 63 7) ::
  (583, "Buffer.__init__", Value.ref 576, mdAt 67 0) ::
  (604, "Buffer.begin", Value.none, mdAt 67 3) ::
  (611, "Buffer.end", Value.none, mdAt 67 4) ::
  (618, "Buffer.size", Value.none, mdAt 67 5) ::
  (625, "Buffer.code_at", Value.none, mdAt 67 6) ::
  (632, "Buffer.codes", Value.none, mdAt 67 7) ::
  (667, "Buffer.touch", Value.none, mdAt 67 12) ::
  (679, "_law_draw", Value.none, fdAt 69) ::
  (684, "_law_line", Value.none, fdAt 70) ::
  (691, "_law_grid", Value.none, fdAt 71) ::
  (698, "_law_lines", Value.none, fdAt 72) ::
  (705, "_law_joined", Value.none, fdAt 73) ::
  (712, "_law_buffer", Value.none, fdAt 74) ::
  (719, "_law_spot", Value.none, fdAt 75) ::
  (724, "_law_due", Value.none, fdAt 76) ::
  (731, "_law_done", Value.none, fdAt 77) ::
  (738, "_law_is_refused", Value.none, fdAt 78) :: []
noncomputable abbrev glbTable : List (Str × Addr) :=
  ("need_writable", 48) ::
  ("reached", 55) ::
  ("tell_ahead", 62) ::
  ("tell_behind", 69) ::
  ("text_out", 76) ::
  ("text_in", 83) ::
  ("hung_out", 90) ::
  ("hung_in", 97) ::
  ("put_in_editing", 104) ::
  ("insert_at", 112) ::
  ("insert", 120) ::
  ("delete", 127) ::
  ("replace", 134) ::
  ("line_start", 141) ::
  ("line_end", 148) ::
  ("column_behind", 155) ::
  ("column_at", 162) ::
  ("row_columns", 169) ::
  ("place_at", 176) ::
  ("opened", 183) ::
  ("padded", 190) ::
  ("cut_at", 197) ::
  ("cut_between", 204) ::
  ("spread", 211) ::
  ("extracted", 218) ::
  ("erased", 225) ::
  ("cleared", 232) ::
  ("opened_up", 239) ::
  ("replaced", 246) ::
  ("put_in_rectcols", 253) ::
  ("numbered", 258) ::
  ("rows_in", 286) ::
  ("text_of", 293) ::
  ("column_of", 300) ::
  ("span_of", 307) ::
  ("put_rows", 314) ::
  ("extract_rectangle", 319) ::
  ("delete_rectangle", 324) ::
  ("kill_rectangle", 331) ::
  ("clear_rectangle", 336) ::
  ("open_rectangle", 341) ::
  ("string_rectangle", 346) ::
  ("number_rectangle", 353) ::
  ("yank_rectangle", 358) ::
  ("behind_last", 365) ::
  ("row_columns_from", 372) ::
  ("_law_draw", 679) ::
  ("_law_line", 684) ::
  ("_law_grid", 691) ::
  ("_law_lines", 698) ::
  ("_law_joined", 705) ::
  ("_law_buffer", 712) ::
  ("_law_spot", 719) ::
  ("_law_due", 724) ::
  ("_law_done", 731) ::
  ("_law_is_refused", 738) ::
  ("LispSignal", 38) ::
  ("Span", 275) ::
  ("GapText", 459) ::
  ("Markers", 529) ::
  ("Buffer", 670) :: []
noncomputable def bltTable : List Str := ["len", "range", "max", "min", "abs", "list", "sorted", "enumerate", "str", "ord"]
noncomputable def clsTable : List Addr := [275, 459, 529, 670]
noncomputable def mkTable : List (Addr × Addr) := [(275, 272), (459, 386), (529, 477), (670, 583)]
noncomputable def fldTable : List (Addr × List Str) := [(275, ["low", "high", "rows", "first", "last"]), (459, ["room", "cells", "gap_start", "gap_end"]), (529, ["rows"]),
  (670, ["number", "name", "text", "markers", "point", "begv", "zv", "mark", "is_live", "is_read_only", "ticks", "codes_ticks", "saved_ticks", "listeners", "undo", "props", "overlays", "locals", "syntax", "file"])]
noncomputable def mthTable : List (Addr × Str × Addr) := [(459, "size", 393), (459, "code", 400), (459, "codes", 407), (459, "move_gap", 414), (459, "widen_gap", 421), (459, "insert", 428), (459, "delete", 435),
  (529, "numbers", 484), (529, "inserted", 512), (529, "deleted", 519), (529, "replaced", 526), (670, "begin", 604), (670, "end", 611), (670, "size", 618), (670, "code_at", 625), (670, "codes", 632), (670, "touch", 667)]
noncomputable def fnDat (K : Frag) (f : Addr) : Option FuncData := match K.lookup f with
  | some ⟨_, _, .func fd, _⟩ => some fd
  | _ => none
noncomputable def fnKey (fd : FuncData) := (fd.name, fd.qualname, fd.params, fd.body, fd.scope, fd.globals, fd.closure, fd.defaults, fd.builtins)
noncomputable def fdKey (qual : Str) (dV : Value) (o : Str × Arguments × List Stmt × Scope) := (o.1, qual, o.2.1, FuncBody.stmts o.2.2.1, o.2.2.2, mainGlobals, ([] : List (Str × Addr)), dV, builtinsNs)
noncomputable def codeOk (K : Frag) (f : Addr) (qual : Str) : Bool := match fnDat K f with
  | some fd => codeIn K fd.code qual
  | none => false
noncomputable def isInt (K : Frag) (x : Str) (i : Int) : Bool := match nsIn K mainGlobals x with
  | some (some (.int j _)) => i == j
  | _ => false
noncomputable def tupIs (K : Frag) (a : Addr) : Option (List Value) := match K.lookup a with
  | some ⟨_, _, .seq vs _, _⟩ => some vs.toList
  | _ => none
noncomputable def tupInt (K : Frag) (a : Addr) (i : Int) : Bool := match tupIs K a with
  | some [.int j _] => i == j
  | _ => false
structure Tops (c : Cx) : Prop where
  tups : (tupIs c.K 105 == some [.bool false] && tupIs c.K 113 == some [.bool false] && tupInt c.K 576 8) = true
  defs : defTable.map (fun e => (fnDat c.K e.1).map fnKey) = defTable.map (fun e => e.2.2.2.map (fdKey e.2.1 e.2.2.1))
  codes : defTable.all (fun e => codeOk c.K e.1 e.2.1) = true
  glb : glbTable.all (fun e => nsIn c.K mainGlobals e.1 == some (some (.ref e.2)) && keepIn c.K (.ref e.2)) = true
  blt : bltTable.all (fun x => nsIn c.K mainGlobals x == some none) = true
  nums : (isInt c.K "NEWLINE" 10 && isInt c.K "TAB" 9 && isInt c.K "BLANK" 32 && isInt c.K "ROW_END" 10) = true
  cls : clsTable.all (fun C => findIn c.K (.ref C) "__setattr__" == some (some (.builtin "object.__setattr__")) && plainOver c.K C && hasDictIn c.K C && plainGet c.K C "x") = true
  makes : mkTable.all (fun e => makesIn c.K e.1 && findIn c.K (.ref e.1) "__init__" == some (some (.ref e.2)) && isFn c.K (.ref e.2)) = true
  fld : fldTable.all (fun e => e.2.all fun x => findIn c.K (.ref e.1) x == some none && takerIn c.K e.1 x == some none) = true
  mth : mthTable.all (fun e => findIn c.K (.ref e.1) e.2.1 == some (some (.ref e.2.2)) && isFn c.K (.ref e.2.2) && keepIn c.K (.ref e.2.2)) = true

theorem nth_mem {α : Type} : ∀ {l : List α} {k : Nat} {x : α}, nth l k = some x → x ∈ l
  | _ :: _, 0, _, e => by cases e; exact .head _
  | _ :: r, k + 1, _, e => .tail _ (nth_mem (l := r) e)
section
variable {c : Cx} (T : Tops c)
include T
theorem Tops.defAt (k : Nat) {f : Addr} {qual : Str} {dV : Value} {name : Str} {args : Arguments} {body : List Stmt} {sc : Scope} (hk : nth defTable k = some (f, qual, dV, some (name, args, body, sc))) : DefAt c f name qual args body sc dV := by
  have hm := nth_mem hk
  have e := (List.map_inj_left.mp T.defs) _ hm
  have ec := List.all_eq_true.mp T.codes _ hm
  dsimp only at e ec
  unfold codeOk at ec
  cases hf : fnDat c.K f with
  | none => rw [hf] at e; cases e
  | some fd =>
    rw [hf] at e ec
    simp only [Option.map_some, Option.some.injEq] at e
    unfold fnDat at hf
    split at hf
    · rename_i oc od fd' osl hl
      cases hf
      unfold fnKey fdKey at e
      obtain ⟨nm, qn, pr, bd, scp, gl, cl, df, kd, dc, pm, an, cdv, ct, bn⟩ := fd
      simp only [Prod.mk.injEq] at e
      refine x08 e ?_; try clear e; intro eq11 eq12 eq13 eq14 eq15 eq16 eq17 ht18; subst eq11; subst eq12; subst eq13; subst eq14; subst eq15; subst eq16; subst eq17; refine x02 ht18 ?_; clear ht18; intro eq19 eq20; subst eq19; subst eq20
      exact ⟨_, _, _, _, _, _, _, _, _, hl, ec⟩
    · cases hf
theorem Tops.gl (k : Nat) {x : Str} {a : Addr} (hk : nth glbTable k = some (x, a)) : Glb c x (.ref a) ∧ keepIn c.K (.ref a) = true := by
  have := List.all_eq_true.mp T.glb _ (nth_mem hk)
  simp only [Bool.and_eq_true, beq_iff_eq] at this
  exact this
theorem Tops.nogl (k : Nat) {x : Str} (hk : nth bltTable k = some x) : NoGlb c x := by
  have := List.all_eq_true.mp T.blt _ (nth_mem hk)
  exact beq_iff_eq.mp this
omit T in
theorem isInt_glb {x : Str} {i : Int} (h : isInt c.K x i = true) : ∃ t, Glb c x (.int i t) := by
  unfold isInt at h
  split at h
  · rename_i j t e
    have : i = j := by simpa using h
    subst this
    exact ⟨t, e⟩
  · cases h
theorem Tops.newline : ∃ t, Glb c "NEWLINE" (.int 10 t) := by
  have := T.nums; simp only [Bool.and_eq_true] at this; exact isInt_glb this.1.1.1
theorem Tops.tab : ∃ t, Glb c "TAB" (.int 9 t) := by
  have := T.nums; simp only [Bool.and_eq_true] at this; exact isInt_glb this.1.1.2
theorem Tops.blank : ∃ t, Glb c "BLANK" (.int 32 t) := by
  have := T.nums; simp only [Bool.and_eq_true] at this; exact isInt_glb this.1.2
theorem Tops.rowend : ∃ t, Glb c "ROW_END" (.int 10 t) := by
  have := T.nums; simp only [Bool.and_eq_true] at this; exact isInt_glb this.2
theorem Tops.mkOk (k : Nat) {C fI : Addr} (hk : nth mkTable k = some (C, fI)) : MkOk c C fI := by
  have := List.all_eq_true.mp T.makes _ (nth_mem hk)
  simp only [Bool.and_eq_true, beq_iff_eq] at this
  exact ⟨this.1.1, this.1.2, this.2⟩
theorem Tops.clsAny {C : Addr} (h : clsTable.contains C = true) : ClsOk c C := by
  have := List.all_eq_true.mp T.cls _ (List.contains_iff_mem.mp h)
  simp only [Bool.and_eq_true, beq_iff_eq] at this
  exact ⟨this.1.1.1, this.1.1.2, this.1.2, fun _ => this.2⟩
theorem Tops.fldAny {C : Addr} {x : Str} (h : (fldTable.any fun e => e.1 == C && e.2.contains x) = true) : FldOk c C x := by
  refine x12 (List.any_eq_true.mp h) fun e he h2 => ?_
  simp only [Bool.and_eq_true, beq_iff_eq] at h2
  refine x02 h2 ?_; try clear h2; intro eq21 h3; subst eq21
  have := List.all_eq_true.mp (List.all_eq_true.mp T.fld _ he) _ (List.contains_iff_mem.mp h3)
  simp only [Bool.and_eq_true, beq_iff_eq] at this
  exact ⟨this.1, this.2⟩
theorem Tops.mthOk (k : Nat) {C f : Addr} {x : Str} (hk : nth mthTable k = some (C, x, f)) : MthOk c C x f := by
  have := List.all_eq_true.mp T.mth _ (nth_mem hk)
  simp only [Bool.and_eq_true, beq_iff_eq] at this
  exact ⟨this.1.1, this.1.2, this.2⟩
end

section
variable {c : Cx} {n : Nat} {sc : Scope} {loc : Loc} {H : List MO}
theorem binds1 {fd : FuncData} {p1 : Str} {v1 : MV} (h : ∀ a, bindArgs fd ⟨[a], []⟩ = pure [(p1, a)]) : BindsAs c fd [p1] [v1] [v1] := by
  intro σ as s ha _
  apply ha.one'; intro a h1
  exact i12 ([a]) (.of_eq (h a)) (.cons h1 .nil)
theorem binds2 {fd : FuncData} {p1 p2 : Str} {v1 v2 : MV} (h : ∀ a b, bindArgs fd ⟨[a, b], []⟩ = pure [(p1, a), (p2, b)]) : BindsAs c fd [p1, p2] [v1, v2] [v1, v2] := by
  intro σ as s ha _
  apply ha.two'; intro a b h1 h2
  exact i12 ([a, b]) (.of_eq (h a b)) (.cons h1 (.cons h2 .nil))
theorem binds3 {fd : FuncData} {p1 p2 p3 : Str} {v1 v2 v3 : MV} (h : ∀ a b d, bindArgs fd ⟨[a, b, d], []⟩ = pure [(p1, a), (p2, b), (p3, d)]) : BindsAs c fd [p1, p2, p3] [v1, v2, v3] [v1, v2, v3] := by
  intro σ as s ha _
  apply ha.three'; intro a b d h1 h2 h3
  exact i12 ([a, b, d]) (.of_eq (h a b d)) (.cons h1 (.cons h2 (.cons h3 .nil)))
theorem binds4 {fd : FuncData} {p1 p2 p3 p4 : Str} {v1 v2 v3 v4 : MV} (h : ∀ a b d e, bindArgs fd ⟨[a, b, d, e], []⟩ = pure [(p1, a), (p2, b), (p3, d), (p4, e)]) : BindsAs c fd [p1, p2, p3, p4] [v1, v2, v3, v4] [v1, v2, v3, v4] := by
  intro σ as s ha _
  apply ha.cons'; intro a as h1 ha
  apply ha.three'; intro b d e h2 h3 h4
  exact i12 ([a, b, d, e]) (.of_eq (h a b d e)) (.cons h1 (.cons h2 (.cons h3 (.cons h4 .nil))))
theorem binds5 {fd : FuncData} {p1 p2 p3 p4 p5 : Str} {v1 v2 v3 v4 v5 : MV} (h : ∀ a b d e f, bindArgs fd ⟨[a, b, d, e, f], []⟩ = pure [(p1, a), (p2, b), (p3, d), (p4, e), (p5, f)]) : BindsAs c fd [p1, p2, p3, p4, p5] [v1, v2, v3, v4, v5] [v1, v2, v3, v4, v5] := by
  intro σ as s ha _
  apply ha.cons'; intro a as h1 ha
  apply ha.cons'; intro a' as h1' ha
  apply ha.three'; intro b d e h2 h3 h4
  exact i12 ([a, a', b, d, e]) (.of_eq (h a a' b d e)) (.cons h1 (.cons h1' (.cons h2 (.cons h3 (.cons h4 .nil)))))
theorem binds6 {fd : FuncData} {p1 p2 p3 p4 p5 p6 : Str} {v1 v2 v3 v4 v5 v6 : MV} (h : ∀ a b d e f g, bindArgs fd ⟨[a, b, d, e, f, g], []⟩ = pure [(p1, a), (p2, b), (p3, d), (p4, e), (p5, f), (p6, g)]) :
    BindsAs c fd [p1, p2, p3, p4, p5, p6] [v1, v2, v3, v4, v5, v6] [v1, v2, v3, v4, v5, v6] := by
  intro σ as s ha _
  apply ha.cons'; intro a as h1 ha
  apply ha.cons'; intro a' as h1' ha
  apply ha.cons'; intro a'' as h1'' ha
  apply ha.three'; intro b d e h2 h3 h4
  exact i12 ([a, a', a'', b, d, e]) (.of_eq (h a a' a'' b d e)) (.cons h1 (.cons h1' (.cons h1'' (.cons h2 (.cons h3 (.cons h4 .nil))))))
theorem tupIs_of {K : Frag} {a : Addr} {vs : List Value} (h : tupIs K a = some vs) : ∃ o n, K.lookup a = some o ∧ o.data = .seq vs.toArray n := by
  unfold tupIs at h
  split at h
  · rename_i e
    cases h
    exact i22 _ _ e rfl
  · cases h
theorem bindsD2 {fd : FuncData} {p1 p2 p3 : Str} {v1 v2 : MV} {t : Addr} (ht : tupIs c.K t = some [.bool false]) (hd : fd.defaults = .ref t)
    (h : ∀ a b, ∃ k, bindArgs fd ⟨[a, b], []⟩ = seqItems? fd.defaults >>= k ∧ k (some #[.bool false]) = pure [(p1, a), (p2, b), (p3, .bool false)]) : BindsAs c fd [p1, p2, p3] [v1, v2] [v1, v2, .bool false] := by
  intro σ as s ha X
  apply ha.two'; intro a b h1 h2
  refine x12 (h a b) fun k e1 e2 => ?_
  refine x22 (tupIs_of ht) fun o n ho hs => ?_
  exact i12 ([a, b, .bool false]) (binds_K X hd ho hs e1 e2) (.cons h1 (.cons h2 (.cons (.bool _) .nil)))
theorem bindsD3 {fd : FuncData} {p1 p2 p3 p4 : Str} {v1 v2 v3 : MV} {t : Addr} (ht : tupIs c.K t = some [.bool false]) (hd : fd.defaults = .ref t)
    (h : ∀ a b d, ∃ k, bindArgs fd ⟨[a, b, d], []⟩ = seqItems? fd.defaults >>= k ∧ k (some #[.bool false]) = pure [(p1, a), (p2, b), (p3, d), (p4, .bool false)]) : BindsAs c fd [p1, p2, p3, p4] [v1, v2, v3] [v1, v2, v3, .bool false] := by
  intro σ as s ha X
  apply ha.three'; intro a b d h1 h2 h3
  refine x12 (h a b d) fun k e1 e2 => ?_
  refine x22 (tupIs_of ht) fun o n ho hs => ?_
  exact i12 ([a, b, d, .bool false]) (binds_K X hd ho hs e1 e2) (.cons h1 (.cons h2 (.cons h3 (.cons (.bool _) .nil))))
theorem bindsR3 {fd : FuncData} {p1 p2 p3 p4 : Str} {v1 v2 v3 : MV} {t : Addr} (ht : tupInt c.K t 8 = true) (hd : fd.defaults = .ref t)
    (h : ∀ a b d tk, ∃ k, bindArgs fd ⟨[a, b, d], []⟩ = seqItems? fd.defaults >>= k ∧ k (some #[.int 8 tk]) = pure [(p1, a), (p2, b), (p3, d), (p4, .int 8 tk)]) : BindsAs c fd [p1, p2, p3, p4] [v1, v2, v3] [v1, v2, v3, .int 8] := by
  intro σ as s ha X
  apply ha.three'; intro a b d h1 h2 h3
  unfold tupInt at ht
  split at ht
  · rename_i j tk e
    have : (8 : Int) = j := by simpa using ht
    subst this
    refine hold fun Xh oh => ?_
    refine x12 (h a b d tk) fun k e1 e2 => ?_
    refine x22 (tupIs_of e) fun o n ho hs => ?_
    refine oh ?_
    exact i12 ([a, b, d, .int 8 tk]) (binds_K X hd ho hs e1 e2) (.cons h1 (.cons h2 (.cons h3 (.cons (.int _ _) .nil))))
  · cases ht
theorem Tops.tup105 (T : Tops c) : tupIs c.K 105 = some [.bool false] := by
  have := T.tups; simp only [Bool.and_eq_true, beq_iff_eq] at this; exact this.1.1
theorem Tops.tup113 (T : Tops c) : tupIs c.K 113 = some [.bool false] := by
  have := T.tups; simp only [Bool.and_eq_true, beq_iff_eq] at this; exact this.1.2
theorem Tops.tup576 (T : Tops c) : tupInt c.K 576 8 = true := by
  have := T.tups; simp only [Bool.and_eq_true, beq_iff_eq] at this; exact this.2
/-- a def of the top entered -/
theorem Tops.call (T : Tops c) (k : Nat) {f : Addr} {qual : Str} {name : Str} {args : Arguments} {body : List Stmt} {sc : Scope} (ps rest : List Str) {vs : List MV} {Q : Post MV} (hk : nth defTable k = some (f, qual, .none, some (name, args, body, sc))) (S : ScOk sc ps rest) (hl : ps.length = vs.length)
    (hb : ∀ kV doc pm an cdv ct, BindsAs c (fnOf name qual args body sc .none kV doc pm an cdv ct) ps vs vs) (h : Ex c n sc body (mkLoc ps vs rest) H (EndOf Q)) : Cl c (n + 1) (.ref f) vs H Q :=
  Cl.def (T.defAt k hk) S hl hb h
theorem Tops.callD (T : Tops c) (k : Nat) {f : Addr} {qual : Str} {name : Str} {args : Arguments} {body : List Stmt} {sc : Scope} {dV : Value} (ps rest : List Str) {vs ws : List MV} {Q : Post MV} (hk : nth defTable k = some (f, qual, dV, some (name, args, body, sc))) (S : ScOk sc ps rest) (hl : ps.length = ws.length)
    (hb : ∀ kV doc pm an cdv ct, BindsAs c (fnOf name qual args body sc dV kV doc pm an cdv ct) ps vs ws) (h : Ex c n sc body (mkLoc ps ws rest) H (EndOf Q)) : Cl c (n + 1) (.ref f) vs H Q :=
  Cl.def (T.defAt k hk) S hl hb h
/-- a call by the top's name -/
theorem Ev.top (T : Tops c) (k : Nat) {x : Str} {p e es pos} {a : Addr} {Q : Post MV} (hk : nth glbTable k = some (x, a)) (h : Evs c n sc pos (e :: es) loc H (ClP c n (.ref a) Q))
    (hl : sc.names.lookup x = some .globalImplicit := by with_unfolding_all rfl) (hd : (x == ("__debug__" : Str)) = false := by decide)
    (he : ∀ env, starEach (e :: es) env = (false, eval e env) :: starEach es env := by (intro _; with_unfolding_all rfl)) (hpl : ∀ env, (backTo pos (starEach es env)).any (·.1) = false := by (intro _; with_unfolding_all rfl)) : Ev c n sc (.Call (.Name x p) (e :: es) [] pos) loc H Q :=
  Ev.call (T.gl k hk).1 (T.gl k hk).2 h hl hd he hpl
/-- a call of a method of an object -/
theorem Ev.meth (T : Tops c) (j : Nat) {o name apos e es pos} {C f : Addr} {Q : Post MV} {pl : Env → Sem Bool} (hm : nth mthTable j = some (C, name, f)) (hC : clsTable.contains C = true)
    (h : Ev c n sc o loc H fun ov H₁ => ∃ k d fs, ov = .ref k ∧ H₁[k]? = some (.inst C d) ∧ H₁[d]? = some (.ns fs) ∧ (fs.map (·.1)).contains name = false ∧ Evs c n sc pos (e :: es) loc H₁ fun vs H₂ => Cl c n (.ref f) (.ref k :: vs) H₂ Q)
    (hp : ∀ env, eval (.Call (.Attribute o name apos) (e :: es) [] pos) env = (do
      let ov ← eval o env
      standAt apos.atName
      let (f, first) ← holding [ov] (getMethod ov name (pl env))
      callWith pos f first (backTo pos (starEach (e :: es) env)) []) := by (intro _; with_unfolding_all rfl))
    (he : ∀ env, starEach (e :: es) env = (false, eval e env) :: starEach es env := by (intro _; with_unfolding_all rfl)) (hpl : ∀ env, (backTo pos (starEach es env)).any (·.1) = false := by (intro _; with_unfolding_all rfl)) :
    Ev c n sc (.Call (.Attribute o name apos) (e :: es) [] pos) loc H Q := by
  refine Ev.mcall (k := 0) (d := 0) (C := C) (f := f) (fs := []) (Run.mono h fun ov H₁ q => ?_) hp he hpl
  refine hold fun Xh oh => ?_
  refine x35 q ?_; try clear q; intro k d fs eq22 h1 h2 h3 q; subst eq22
  refine oh ?_
  exact i57 k C d fs f rfl h1 h2 (fun q => (by rw [List.contains_iff_mem.mpr q] at h3; cases h3)) (T.clsAny hC) (T.mthOk j hm) q
theorem Ev.meth0 (T : Tops c) (j : Nat) {o name apos pos} {C f : Addr} {Q : Post MV} {pl : Env → Sem Bool} (hm : nth mthTable j = some (C, name, f)) (hC : clsTable.contains C = true)
    (h : Ev c n sc o loc H fun ov H₁ => ∃ k d fs, ov = .ref k ∧ H₁[k]? = some (.inst C d) ∧ H₁[d]? = some (.ns fs) ∧ (fs.map (·.1)).contains name = false ∧ Cl c n (.ref f) [.ref k] H₁ Q)
    (hp : ∀ env, eval (.Call (.Attribute o name apos) [] [] pos) env = (do
      let ov ← eval o env
      standAt apos.atName
      let (f, first) ← holding [ov] (getMethod ov name (pl env))
      callWith pos f first (backTo pos (starEach [] env)) []) := by (intro _; with_unfolding_all rfl)) :
    Ev c n sc (.Call (.Attribute o name apos) [] [] pos) loc H Q := by
  refine Ev.mcall0 (Run.mono h fun ov H₁ q => ?_) hp
  refine hold fun Xh oh => ?_
  refine x35 q ?_; try clear q; intro k d fs eq23 h1 h2 h3 q; subst eq23
  refine oh ?_
  exact i57 k C d fs f rfl h1 h2 (fun q => (by rw [List.contains_iff_mem.mpr q] at h3; cases h3)) (T.clsAny hC) (T.mthOk j hm) q
theorem Ev.top0 (T : Tops c) (k : Nat) {x : Str} {p pos} {a : Addr} {Q : Post MV} (hk : nth glbTable k = some (x, a)) (h : Cl c n (.ref a) [] H Q)
    (hl : sc.names.lookup x = some .globalImplicit := by with_unfolding_all rfl) (hd : (x == ("__debug__" : Str)) = false := by decide) : Ev c n sc (.Call (.Name x p) [] [] pos) loc H Q :=
  Ev.call0 (T.gl k hk).1 (T.gl k hk).2 h hl hd
end
end
section
section
variable {c : Cx} {n : Nat} {sc : Scope} {loc : Loc} {H : List MO}
theorem Bin.catI {a b : Nat} {xs ys : List Int} {Q : Post MV} (ha : IsI H a xs) (hb : IsI H b ys) (hz : xs.length + ys.length ≤ 1000) (q : Q (.ref H.length) (H ++ [.list ((xs ++ ys).map .int)])) : Bin c n .Add (.ref a) (.ref b) H Q :=
  Bin.cat ha hb (by simpa using hz) (by rw [← List.map_append]; exact q)
theorem Bin.repI {a : Nat} {v i : Int} {Q : Post MV} (ha : IsI H a [v]) (hz : i ≤ 250) (hlo : -1000 ≤ i) (q : Q (.ref H.length) (H ++ [.list ((List.replicate i.toNat v).map .int)])) : Bin c n .Mult (.ref a) (.int i) H Q :=
  Bin.rep ha hz hlo (by rw [List.map_replicate] at q; exact q)
theorem pick_le {α : Type} (l : List α) (a b : Option Int) : (pick l a b).length ≤ l.length := by
  unfold pick; simp; exact Nat.le_trans (Nat.min_le_right _ _) (Nat.sub_le _ _)
theorem Ev.sliceI {value l u sp pos} {Q : Post MV}
    (h : Ev c n sc value loc H fun o H₁ => ∃ k xs, o = .ref k ∧ IsI H₁ k xs ∧ xs.length ≤ 1000 ∧ Part c n sc l loc H₁ fun a H₂ => Part c n sc u loc H₂ fun b H₃ => IsI H₃ k xs ∧ ∀ zs, zs = pick xs a b → zs.length ≤ xs.length → Q (.ref H₃.length) (H₃ ++ [.list (zs.map .int)]))
    (hs : ∀ x y, subscripted (.Slice l u Option.none sp) false (.ref x) (.ref y) = operate [.ref y, .ref x] (getItem (.ref x) (.ref y)) := by (intro _ _; with_unfolding_all rfl)) : Ev c n sc (.Subscript value (.Slice l u Option.none sp) pos) loc H Q := by
  refine Ev.slice (Run.mono h fun v H₁ q => ?_) hs
  refine x24 q ?_; try clear q; intro k xs eq31 hk hz q; subst eq31
  refine i24 k (xs.map .int) rfl hk (by simpa using hz) ?_
  have m2 : ∀ {b : Option Expr} {loc H} {Q Q' : Post (Option Int)}, Part c n sc b loc H Q → (∀ v H, Q v H → Q' v H) → Part c n sc b loc H Q' := by
    intro b loc H Q Q' h f
    cases b with
    | none => exact f _ _ h
    | some e => exact Run.mono h fun v H' ⟨i, e, q⟩ => ⟨i, e, f _ _ q⟩
  refine m2 q fun a H₂ q => m2 q fun b H₃ q => ⟨q.1, ?_⟩
  rw [pick_map]; exact q.2 _ rfl (pick_le _ _ _)
theorem Sub.itemI {value slice} {a : Nat} {xs : List Int} {i v : Int} {Q : Post MV} (ha : IsI H a xs) (h0 : 0 ≤ i) (hi : i < 2 ^ 40) (hv : xs[i.toNat]? = some v) (q : Q (.int v) H)
    (hs : ∀ l u, subscripted slice false (.ref l) (.int i u) = operate [.ref l, .int i u] (getItem (.ref l) (.int i u)) := by intro _ _; with_unfolding_all rfl) : Sub c n value slice (.ref a) (.int i) H Q :=
  Sub.item ha h0 hi (by rw [List.getElem?_map, hv]; rfl) q hs
theorem Cl.lenI {a : Nat} {xs : List Int} {Q : Post MV} (ha : IsI H a xs) (hz : xs.length ≤ 1000) (q : Q (.int xs.length) H) : Cl c n (.builtin "len") [.ref a] H Q :=
  Cl.len ha (by simpa using hz) (by simpa using q)
theorem Src.listI {iter} {Q : List MV → (List MO → Prop) → List MO → Prop} (hq : c.q = true) (h : Ev c n sc iter loc H fun v H₁ => ∃ k xs, v = .ref k ∧ IsI H₁ k xs ∧ Q (xs.map .int) (fun H => IsI H k xs) H₁) : Src c n sc iter loc H Q :=
  Src.list hq (Run.mono h fun v H₁ ⟨k, xs, e, h1, q⟩ => i23 k (xs.map .int) e h1 q)
theorem Ev.append {o apos e pos} {Q : Post MV} {pl : Env → Sem Bool}
    (h : Ev c n sc o loc H fun ov H₁ => ∃ k its, ov = .ref k ∧ H₁[k]? = some (.list its) ∧ Ev c n sc e loc H₁ fun v H₂ => ∃ its, H₂[k]? = some (.list its) ∧ its.length ≤ 1000 ∧ Q .none (H₂.set k (.list (its ++ [v]))))
    (hp : ∀ env, eval (.Call (.Attribute o "append" apos) [e] [] pos) env = (do
      let ov ← eval o env
      standAt apos.atName
      let (f, first) ← holding [ov] (getMethod ov "append" (pl env))
      callWith pos f first (backTo pos (starEach [e] env)) []) := by (intro _; with_unfolding_all rfl))
    (he : ∀ env, starEach [e] env = (false, eval e env) :: starEach [] env := by (intro _; with_unfolding_all rfl)) : Ev c n sc (.Call (.Attribute o "append" apos) [e] [] pos) loc H Q := by
  refine Ev.lcall PySem.F.slot_list_append PySem.F.type_list_append (Run.mono h fun ov H₁ q => ?_) hp he
  refine x23 q ?_; try clear q; intro k its eq32 hk q; subst eq32
  refine i23 k its rfl hk (Evs.cons (Run.mono q fun v H₂ q => Evs.nil ?_) he)
  refine x13 q ?_; try clear q; intro its h1 h2 q
  exact Cl.append h1 h2 q
theorem Ev.extend {o apos e pos} {Q : Post MV} {pl : Env → Sem Bool}
    (h : Ev c n sc o loc H fun ov H₁ => ∃ k its, ov = .ref k ∧ H₁[k]? = some (.list its) ∧ Ev c n sc e loc H₁ fun v H₂ => ∃ b xs ys, v = .ref b ∧ IsI H₂ k xs ∧ IsI H₂ b ys ∧ xs.length + ys.length ≤ 1000 ∧ Q .none (H₂.set k (.list ((xs ++ ys).map .int))))
    (hp : ∀ env, eval (.Call (.Attribute o "extend" apos) [e] [] pos) env = (do
      let ov ← eval o env
      standAt apos.atName
      let (f, first) ← holding [ov] (getMethod ov "extend" (pl env))
      callWith pos f first (backTo pos (starEach [e] env)) []) := by (intro _; with_unfolding_all rfl))
    (he : ∀ env, starEach [e] env = (false, eval e env) :: starEach [] env := by (intro _; with_unfolding_all rfl)) : Ev c n sc (.Call (.Attribute o "extend" apos) [e] [] pos) loc H Q := by
  refine Ev.lcall PySem.F.slot_list_extend PySem.F.type_list_extend (Run.mono h fun ov H₁ q => ?_) hp he
  refine hold fun Xh oh => ?_
  refine x23 q ?_; try clear q; intro k its eq33 hk q; subst eq33
  refine oh ?_
  refine i23 k its rfl hk (Evs.cons (Run.mono q fun v H₂ q => Evs.nil ?_) he)
  refine hold fun Xh oh => ?_
  refine x35 q ?_; try clear q; intro b xs ys eq34 h1 h2 h3 q; subst eq34
  refine oh ?_
  exact Cl.extend h1 h2 (by simpa using h3) (by rw [← List.map_append]; exact q)
theorem Ev.pop {o apos k' p' pos} {Q : Post MV} {pl : Env → Sem Bool}
    (h : Ev c n sc o loc H fun ov H₁ => ∃ k v its, ov = .ref k ∧ H₁[k]? = some (.list (v :: its)) ∧ its.length ≤ 1000 ∧ Q v (H₁.set k (.list its)))
    (hp : ∀ env, eval (.Call (.Attribute o "pop" apos) [.Constant (.int 0) k' p'] [] pos) env = (do
      let ov ← eval o env
      standAt apos.atName
      let (f, first) ← holding [ov] (getMethod ov "pop" (pl env))
      callWith pos f first (backTo pos (starEach [.Constant (.int 0) k' p'] env)) []) := by (intro _; with_unfolding_all rfl)) : Ev c n sc (.Call (.Attribute o "pop" apos) [.Constant (.int 0) k' p'] [] pos) loc H Q := by
  refine Ev.lcall PySem.F.slot_list_pop PySem.F.type_list_pop (Run.mono h fun ov H₁ q => ?_) hp
  refine hold fun Xh oh => ?_
  refine x34 q ?_; try clear q; intro k v its eq35 hk hz q; subst eq35
  refine oh ?_
  exact i23 k _ rfl hk (Evs.cons (Ev.int (Evs.nil (Cl.pop0 hk hz q))))
theorem pick_takeI {α : Type} (l : List α) (i : Int) (h : 0 ≤ i) : pick l Option.none (some i) = l.take i.toNat := by
  have : i = (i.toNat : Int) := by lia
  rw [this, pick_take]; rfl
theorem Run.or1 {e pos} {w : Env → Sem Value} {Q : Post Bool} (h : Tst c n sc e loc H Q) : Run c n sc (fun env => isTrue (.BoolOp .Or [e] pos) env (w env)) (fun _ b b' => b' = b) loc H Q :=
  Run.or (Run.mono h fun b H₁ q => ⟨fun e => Run.or_nil (by rw [e] at q; exact q), fun e => by rw [e] at q; exact q⟩)
end
theorem look_nth {x : Str} {a : Addr} : ∀ {l : List (Str × Addr)}, l.lookup x = some a → ∃ k, nth l k = some (x, a)
  | [], h => nomatch h
  | (y, b) :: l, h => by
    rw [List.lookup_cons] at h
    cases e : x == y with
    | true => rw [e] at h; cases h; exact ⟨0, by rw [eq_of_beq e]; rfl⟩
    | false => rw [e] at h; exact x11 (look_nth h) fun k q => ⟨k + 1, q⟩
section
variable {c : Cx} {n : Nat} {sc : Scope} {loc : Loc} {H : List MO}
theorem ex_put {P : Loc → Prop} {loc loc' : Loc} {x : Str} {v : MV} (h : Put loc x v loc') (q : P loc') : ∃ l, Put loc x v l ∧ P l := i12 _ h q
theorem ex_lst {e : Expr} {loc' : Loc} {H' : List MO} {Q : Nat → List MV → Post MV} {r : Nat} {its : List MV} (h : H[r]? = some (.list its)) (q : Ev c n sc e loc' H' (Q r its)) : ∃ k its, MV.ref r = .ref k ∧ H[k]? = some (.list its) ∧ Ev c n sc e loc' H' (Q k its) := i23 _ _ rfl h q
theorem ex_int {P : Int → Prop} {i : Int} (q : P i) : ∃ j, MV.int i = .int j ∧ P j := i12 _ rfl q
theorem ex_isl {N : Nat} {P : Nat → List Int → Prop} {r : Nat} {xs : List Int} (h : IsI H r xs) (hl : xs.length ≤ N) (q : P r xs) : ∃ k xs, MV.ref r = .ref k ∧ IsI H k xs ∧ xs.length ≤ N ∧ P k xs := i24 _ _ rfl h hl q
theorem ex_is {P : Nat → List Int → Prop} {r : Nat} {xs : List Int} (h : IsI H r xs) (q : P r xs) : ∃ k xs, MV.ref r = .ref k ∧ IsI H k xs ∧ P k xs := i23 _ _ rfl h q
theorem all_pick {l : List Int} {a b : Option Int} {N : Nat} {P : List Int → Prop} (q : ∀ zs, zs = pick l a b → zs.length ≤ N → P zs) : ∀ zs, zs = pick l a b → zs.length ≤ N → P zs := q
theorem and_len {α : Type} {xs : List α} {N : Nat} {P : Prop} (h : xs.length ≤ N) (q : P) : xs.length ≤ N ∧ P := ⟨h, q⟩
theorem and_is {k : Nat} {xs : List Int} {P : Prop} (h : IsI H k xs) (q : P) : IsI H k xs ∧ P := ⟨h, q⟩
theorem Ev.topI {x : Str} {p e es pos} {a : Addr} {Q : Post MV} (hk : glbTable.lookup x = some a) (T : Tops c) (h : Evs c n sc pos (e :: es) loc H (ClP c n (.ref a) Q))
    (hl : sc.names.lookup x = some .globalImplicit) (hd : (x == ("__debug__" : Str)) = false)
    (he : ∀ env, starEach (e :: es) env = (false, eval e env) :: starEach es env) (hpl : ∀ env, (backTo pos (starEach es env)).any (·.1) = false) : Ev c n sc (.Call (.Name x p) (e :: es) [] pos) loc H Q := by
  refine x11 (look_nth hk) fun k hk => ?_
  exact Ev.top T k hk h hl hd he hpl
theorem Ev.bN {k : Nat} {x : Str} {p e es pos} {id : String} {Q : Post MV} (hk : nth bltTable k = some x) (hb : bootBuiltins x = some (.builtin id)) (hn : x ≠ "__name__") (hd : (x == ("__debug__" : Str)) = false) (T : Tops c) (h : Evs c n sc pos (e :: es) loc H (ClP c n (.builtin id) Q))
    (hl : sc.names.lookup x = some .globalImplicit := by with_unfolding_all rfl)
    (he : ∀ env, starEach (e :: es) env = (false, eval e env) :: starEach es env := by (intro _; with_unfolding_all rfl)) (hpl : ∀ env, (backTo pos (starEach es env)).any (·.1) = false := by (intro _; with_unfolding_all rfl)) : Ev c n sc (.Call (.Name x p) (e :: es) [] pos) loc H Q :=
  Ev.bcall (T.nogl k hk) hb h hn hl hd he hpl
theorem Ev.tN {k : Nat} {x : Str} {p e es pos} {id : String} {Q : Post MV} (hk : nth bltTable k = some x) (hb : bootBuiltins x = some (.type id)) (hn : x ≠ "__name__") (hd : (x == ("__debug__" : Str)) = false) (T : Tops c) (h : Evs c n sc pos (e :: es) loc H (ClP c n (.type id) Q))
    (hl : sc.names.lookup x = some .globalImplicit := by with_unfolding_all rfl)
    (he : ∀ env, starEach (e :: es) env = (false, eval e env) :: starEach es env := by (intro _; with_unfolding_all rfl)) (hpl : ∀ env, (backTo pos (starEach es env)).any (·.1) = false := by (intro _; with_unfolding_all rfl)) : Ev c n sc (.Call (.Name x p) (e :: es) [] pos) loc H Q :=
  Ev.tcall (T.nogl k hk) hb h hn hl hd he hpl
end
theorem G.b0 : nth bltTable 0 = some ("len" : Str) := rfl
theorem G.b2 : nth bltTable 2 = some ("max" : Str) := rfl
theorem G.b3 : nth bltTable 3 = some ("min" : Str) := rfl
theorem G.b4 : nth bltTable 4 = some ("abs" : Str) := rfl
theorem G.b5 : nth bltTable 5 = some ("list" : Str) := rfl
theorem G.b6 : nth bltTable 6 = some ("sorted" : Str) := rfl
theorem G.b8 : nth bltTable 8 = some ("str" : Str) := rfl
theorem splice_map {α β : Type} (f : α → β) (xs ys : List α) (a b : Option Int) : splice (xs.map f) (ys.map f) a b = (splice xs ys a b).map f := by
  unfold splice; simp
section
variable {c : Cx} {n : Nat} {sc : Scope} {loc : Loc} {H : List MO}
theorem Ex1.setsliceI {o l u sp pa value pos} {Q : PostF}
    (h : Ev c n sc value loc H fun v H₁ => Ev c n sc o loc H₁ fun ov H₂ => Part c n sc l loc H₂ fun a H₃ => Part c n sc u loc H₃ fun b H₄ => ∃ ky ys k xs, v = .ref ky ∧ ov = .ref k ∧ IsI H₄ ky ys ∧ IsI H₄ k xs ∧ xs.length + ys.length ≤ 1000 ∧
      Q .next loc (H₄.set k (.list ((splice xs ys a b).map .int))))
    (hs : ∀ env, swapsWith value (some (.Subscript o (.Slice l u Option.none sp) pa)) pos.line env = pure false := by (intro _; with_unfolding_all rfl)) : Ex1 c n sc (.Assign [.Subscript o (.Slice l u Option.none sp) pa] value pos) loc H Q := by
  have m2 : ∀ {b : Option Expr} {loc H} {Q Q' : Post (Option Int)}, Part c n sc b loc H Q → (∀ v H, Q v H → Q' v H) → Part c n sc b loc H Q' := by
    intro b loc H Q Q' h f
    cases b with
    | none => exact f _ _ h
    | some e => exact Run.mono h fun v H' ⟨i, e, q⟩ => ⟨i, e, f _ _ q⟩
  refine Ex1.setslice (Run.mono h fun v H₁ q => Run.mono q fun ov H₂ q => m2 q fun a H₃ q => m2 q fun b H₄ q => ?_) hs
  refine hold fun Xh oh => ?_
  obtain ⟨ky, ys, k, xs, rfl, rfl, h1, h2, h3, q⟩ := q
  refine oh ?_
  exact i46 ky _ k _ rfl rfl h1 h2 (by simpa using h3) (by rw [splice_map]; exact q)
end
theorem min_le_max' (a b : Nat) : min a b ≤ max a b := Nat.le_trans (Nat.min_le_left _ _) (Nat.le_max_left _ _)
end
local macro_rules | `(tactic| walk_at "at") => `(tactic| first | assumption | exact get_new | (apply Keep.get0 (by assumption); walk_at "at"; done) | (apply get_app; walk_at "at"; done))
local macro_rules | `(tactic| walk_at "kp") => `(tactic| first | assumption | exact Keep.refl | exact Keep.app | (refine' Keep.trans ?_ Keep.app; walk_at "kp") | (refine' Keep.setNew ?_ (by lia); walk_at "kp") | (refine' Keep.trans ?_ (by assumption); walk_at "kp"))
local macro_rules | `(tactic| walk_at "len") => `(tactic| first | assumption | lia | (simp only [List.length_map, List.length_nil, List.length_cons, List.length_append, List.length_replicate, List.length_take, List.length_drop, t_max, t_sub]; lia))
local macro_rules | `(tactic| walk_at "st") => `(tactic| first
  | ((fail_if_success (fail_if_success (with_reducible show Ev _ _ _ _ _ _ _))); with_reducible (first
    | refine Ev.nameL (by with_unfolding_all rfl) ?_
    | refine Ev.gint (by assumption) ?_
    | refine Ev.int ?_
    | refine Ev.binop ?_
    | refine Ev.append ?_
    | refine Ev.extend ?_
    | refine Ev.cmp ?_
    | refine Ev.ifexp ?_
    | refine Ev.attr ?_
    | refine Ev.list ?_
    | refine Ev.tuple ?_
    | refine Ev.sliceI ?_
    | refine Ev.sub ?_
    | refine Ev.str ?_
    | refine Ev.bool ?_
    | refine Ev.none ?_
    | refine Ev.neg ?_
    | refine Ev.bool1 ?_
    | refine Ev.and ?_
    | refine Ev.bN Mine.G.b0 boot_len (by decide) (by decide) (by assumption) ?_
    | refine Ev.bN Mine.G.b2 boot_max (by decide) (by decide) (by assumption) ?_
    | refine Ev.bN Mine.G.b3 boot_min (by decide) (by decide) (by assumption) ?_
    | refine Ev.bN Mine.G.b4 boot_abs (by decide) (by decide) (by assumption) ?_
    | refine Ev.bN Mine.G.b6 boot_sorted (by decide) (by decide) (by assumption) ?_
    | refine Ev.tN Mine.G.b5 boot_list (by decide) (by decide) (by assumption) ?_
    | refine Ev.tN Mine.G.b8 boot_str (by decide) (by decide) (by assumption) ?_
    | (apply Ev.topI; (· with_unfolding_all rfl); (· assumption); rotate_left; (· with_unfolding_all rfl); (· decide); (· (intro _; with_unfolding_all rfl)); (· (intro _; with_unfolding_all rfl)))))
  | with_reducible (first
    | refine Evs.cons ?_
    | refine Evs.nil ?_
    | refine Bin.add ?_
    | refine Bin.sub ?_
    | refine Ex.cons ?_
    | refine Ex.nil ?_
    | refine Seq.next ?_
    | refine Tst.cmp ?_
    | refine Tst.and ?_
    | refine Tst.or ?_
    | refine Tst.plain ?_
    | refine Cmp.eq ?_
    | refine Cmp.ne ?_
    | refine Cmp.lt ?_
    | refine Cmp.le ?_
    | refine Cmp.gt ?_
    | refine Cmp.ge ?_
    | refine Cmp.eqs ?_
    | refine Cmp.nes ?_
    | refine Cmp.isNotNone _ (by with_unfolding_all rfl) ?_
    | refine Tru.bool ?_
    | refine Ex1.ret ?_
    | refine Ex1.ret0 ?_
    | refine Ex1.ite ?_
    | (show Ex1 _ _ _ (Stmt.Assign [Expr.Name _ _] (Expr.ListComp _ _ _ _) _) _ _ _; fail)
    | refine Ex1.assign ?_
    | refine Ex1.setattr ?_
    | refine Ex1.setsliceI ?_
    | refine Ex1.setslice ?_
    | refine Ex1.setitem ?_
    | refine Ex1.tup ?_ (hw := by (intro _ _; with_unfolding_all rfl))
    | refine Ex1.expr ?_
    | refine Asgs.cons ?_
    | refine Asgs.nil ?_
    | refine Seq.ret ?_
    | refine EndOf.ret ?_
    | refine EndOf.next ?_
    | refine BodyQ.ret ?_
    | refine BodyQ.next ⟨?_, ?_⟩
    | refine' ex_put (by (repeat constructor); done) ?_
    | refine Part.none ?_
    | refine Part.some ?_
    | refine ex_int ?_
    | refine Bin.div4 ?_
    | refine Bin.mul4 ?_
    | refine Bin.mod (by decide) ?_
    | refine all_pick fun _ _ _ => ?_)
  | ((with_reducible show Bin _ _ Operator.Add (MV.ref _) (MV.ref _) _ _); first
    | refine' Bin.catI (by walk_at "at") (by walk_at "at") (by walk_at "len") ?_
    | refine' Bin.catI (ys := []) (by walk_at "at") get_new (by walk_at "len") ?_
    | refine' Bin.catI (ys := [_]) (by walk_at "at") get_new (by walk_at "len") ?_
    | refine' Bin.catI (ys := [_, _]) (by walk_at "at") get_new (by walk_at "len") ?_)
  | ((with_reducible show Bin _ _ Operator.Mult (MV.ref _) (MV.int _) _ _); refine' Bin.repI (by walk_at "at") (by lia) (by lia) ?_)
  | ((with_reducible show Get _ _ _ (MV.ref _) _ _); refine' Get.field (by walk_at "at") (by walk_at "at") (by (with_reducible repeat constructor); done) (Tops.clsAny (by assumption) (by decide)) (Tops.fldAny (by assumption) (by decide +kernel)) ?_)
  | ((with_reducible show Sub _ _ _ _ (MV.ref _) (MV.int _) _ _); refine' Sub.itemI (by walk_at "at") (by lia) (by lia) (by assumption) ?_)
  | ((with_reducible show Cl _ _ (Value.builtin "len") [MV.ref _] _ _); refine' Cl.lenI (by walk_at "at") (by walk_at "len") ?_)
  | ((with_reducible show Cl _ _ (Value.builtin "max") _ _ _); refine Cl.max (by assumption) ?_)
  | ((with_reducible show Cl _ _ (Value.builtin "min") _ _ _); refine Cl.min (by assumption) ?_)
  | ((with_reducible show AsgT _ _ _ (Expr.Tuple _ _ _) (MV.ref _) _ _ _); refine' AsgT.tuple (by assumption) (by walk_at "at") ?_)
  | ((with_reducible show AsgT _ _ _ (Expr.Name _ _) _ _ _ _); refine' AsgT.name (by (with_reducible repeat constructor); done) ?_)
  | ((with_reducible apply ex_lst); (· walk_at "at"))
  | ((with_reducible apply ex_isl); (· walk_at "at"); (· walk_at "len"))
  | ((with_reducible apply ex_is); (· walk_at "at"))
  | ((with_reducible apply and_len); (· walk_at "len"))
  | ((with_reducible apply and_is); (· walk_at "at")))
section
/-! columns -/
noncomputable def colB (col : Nat) (code : Int) : Nat := if code = 9 then (col / 4 + 1) * 4 else col + 1
noncomputable def colAt (codes : List Int) : Nat := codes.foldl colB 0
noncomputable def placeFrom : Nat → List Int → Nat → Nat
  | _, [], _ => 0
  | now, x :: r, col => if col ≤ now then 0 else placeFrom (colB now x) r col + 1
noncomputable def placeAt (row : List Int) (col : Nat) : Nat := placeFrom 0 row col
noncomputable def opened (row : List Int) (col : Nat) : List Int :=
  if placeAt row col = 0 ∨ row[placeAt row col - 1]? ≠ some 9 ∨ colAt (row.take (placeAt row col)) ≤ col then row
  else row.take (placeAt row col - 1) ++ List.replicate (colAt (row.take (placeAt row col)) - colAt (row.take (placeAt row col - 1))) 32 ++ row.drop (placeAt row col)
noncomputable def padded (row : List Int) (col : Nat) : List Int := row ++ List.replicate (col - colAt row) 32
noncomputable def cutAt (row : List Int) (col : Nat) : List Int × List Int := ((opened row col).take (placeAt (opened row col) col), (opened row col).drop (placeAt (opened row col) col))
noncomputable def cutBetween (row : List Int) (f l : Nat) : List Int × List Int × List Int := ((cutAt (cutAt row l).1 f).1, (cutAt (cutAt row l).1 f).2, (cutAt row l).2)
noncomputable def spread : Nat → List Int → List Int
  | _, [] => []
  | now, x :: r => (if x = 9 then List.replicate (colB now x - now) 32 else [x]) ++ spread (colB now x) r
theorem spread_cons (now : Nat) (x : Int) (r : List Int) : spread now (x :: r) = (if x = 9 then List.replicate (colB now x - now) 32 else [x]) ++ spread (colB now x) r := rfl
noncomputable def extracted (row : List Int) (f l : Nat) : List Int := spread f (cutBetween row f l).2.1 ++ List.replicate (l - f - (spread f (cutBetween row f l).2.1).length) 32
noncomputable def erased (row : List Int) (f l : Nat) : List Int := if colAt row ≤ f then row else (cutBetween row f l).1 ++ (cutBetween row f l).2.2
noncomputable def cleared (row : List Int) (f l : Nat) : List Int := if colAt row ≤ f then row else (cutBetween row f l).1 ++ (if (cutBetween row f l).2.2 = [] then [] else List.replicate (l - f) 32 ++ (cutBetween row f l).2.2)
noncomputable def openedUp (row : List Int) (f l : Nat) : List Int := if colAt row ≤ f then row else (cutAt row f).1 ++ List.replicate (l - f) 32 ++ (cutAt row f).2
noncomputable def replacedBy (row : List Int) (f l : Nat) (codes : List Int) : List Int := (cutBetween (padded row f) f l).1 ++ codes ++ (cutBetween (padded row f) f l).2.2
noncomputable def putIn (row : List Int) (col : Nat) (codes : List Int) : List Int := (cutAt (padded row col) col).1 ++ codes ++ (cutAt (padded row col) col).2

theorem colB_le (a : Nat) (x : Int) : colB a x ≤ a + 4 ∧ a < colB a x := by unfold colB; split <;> lia
theorem colAt_snoc (l : List Int) (x : Int) : colAt (l ++ [x]) = colB (colAt l) x := by simp [colAt]
theorem foldl_colB_le : ∀ (l : List Int) (a : Nat), l.foldl colB a ≤ a + 4 * l.length
  | [], a => by simp
  | x :: l, a => by have := foldl_colB_le l (colB a x); have := colB_le a x; simp; lia
theorem colAt_le (l : List Int) : colAt l ≤ 4 * l.length := by have := foldl_colB_le l 0; unfold colAt; lia
theorem map_get {xs : List Int} {i : Nat} {v : MV} (h : (xs.map MV.int)[i]? = some v) : ∃ x, v = .int x ∧ xs[i]? = some x := by
  rw [List.getElem?_map, Option.map_eq_some_iff] at h
  refine x12 h ?_; try clear h; intro x h1 h2
  exact i12 x h2.symm h1
theorem take_snoc {α : Type} {xs : List α} {i : Nat} {x : α} (h : xs[i]? = some x) : xs.take (i + 1) = xs.take i ++ [x] := by
  rw [List.take_add_one, h]; rfl
theorem placeFrom_le : ∀ (l : List Int) (a c : Nat), placeFrom a l c ≤ l.length
  | [], _, _ => Nat.le_refl _
  | x :: l, a, c => by unfold placeFrom; split; exact Nat.zero_le _; have := placeFrom_le l (colB a x) c; simp; lia
theorem placeAt_le (l : List Int) (c : Nat) : placeAt l c ≤ l.length := placeFrom_le l 0 c
theorem opened_le (row : List Int) (col : Nat) : (opened row col).length ≤ row.length + 4 := by
  unfold opened
  split
  · lia
  · rename_i h
    simp only [not_or] at h
    have h0 := placeAt_le row col
    cases hx : row[placeAt row col - 1]? with
    | none => rw [hx] at h; exact absurd (by simp) h.2.1
    | some x =>
      have e : placeAt row col = placeAt row col - 1 + 1 := (Nat.sub_one_add_one h.1).symm
      have e2 : row.take (placeAt row col) = row.take (placeAt row col - 1) ++ [x] := by conv => lhs; rw [e]
                                                                                         exact take_snoc hx
      have := colB_le (colAt (row.take (placeAt row col - 1))) x
      rw [← colAt_snoc, ← e2] at this
      simp only [List.length_append, List.length_take, List.length_replicate, List.length_drop]
      exact ar_op h0 this.1
theorem cutAt_le (row : List Int) (col : Nat) : (cutAt row col).1.length + (cutAt row col).2.length ≤ row.length + 4 := by
  have := opened_le row col
  unfold cutAt
  simp only [List.length_take, List.length_drop, cutn]
  exact this
theorem cutBetween_le (row : List Int) (f l : Nat) : (cutBetween row f l).1.length + (cutBetween row f l).2.1.length + (cutBetween row f l).2.2.length ≤ row.length + 8 := by
  have h1 := cutAt_le row l
  have h2 := cutAt_le (cutAt row l).1 f
  unfold cutBetween
  dsimp only
  lia
theorem spread_le : ∀ (l : List Int) (a : Nat), (spread a l).length ≤ 4 * l.length
  | [], a => by simp [spread]
  | x :: l, a => by
    have := spread_le l (colB a x)
    have := colB_le a x
    unfold spread
    split <;> simp <;> lia

section
variable {c : Cx} {n : Nat} {H : List MO}
theorem column_behind (T : Tops c) {col : Nat} {code : Int} {Q : Post MV} (q : Q (.int (colB col code : Nat)) H) :
    Cl c (n + 1) (.ref 155) [.int col, .int code, .int 4] H Q := by
  refine x11 T.tab fun t hG => ?_
  refine T.call 16 ["column", "code", "tab"] [] rfl ⟨rfl, rfl, rfl, rfl, by decide, by decide⟩ rfl (fun _ _ _ _ _ _ => binds3 fun _ _ _ => (by kernel_rfl)) ?_
  (dsimp only [mkLoc, List.zip, List.zipWith, List.map, List.cons_append, List.nil_append]; repeat' walk_at "st")
  unfold colB at q
  refine ⟨fun e => ?_, fun e => ?_⟩
  · repeat' walk_at "st"
    rw [if_pos (by simpa using e)] at q
    exact q
  · repeat' walk_at "st"
    rw [if_neg (by simpa using e)] at q
    exact q
theorem column_at (T : Tops c) (hq : c.q = true) {k : Nat} {row : List Int} {p : Nat} {Q : Post MV} (hk : IsI H k row) (hz : row.length ≤ 400) (q : ∀ H', Keep [] H H' → Q (.int (colAt (row.take p) : Nat)) H') :
    Cl c (n + 2) (.ref 162) [.ref k, .int p, .int 4] H Q := by
  refine T.call 17 ["row", "place", "tab"] ["column", "code"] rfl ⟨rfl, rfl, rfl, rfl, by decide, by decide⟩ rfl (fun _ _ _ _ _ _ => binds3 fun _ _ _ => (by kernel_rfl)) ?_
  (dsimp only [mkLoc, List.zip, List.zipWith, List.map, List.cons_append, List.nil_append]; repeat' walk_at "st")
  refine Ex1.for (Src.listI hq ?_)
  repeat' walk_at "st"
  subst_vars
  rw [pick_take]
  refine Loop.inv (fun i loc H' => ∃ o, loc = ([("row", some (.ref k)), ("place", some (.int p)), ("tab", some (.int 4)), ("column", some (.int (colAt ((row.take p).take i) : Nat))), ("code", o)] : Loc) ∧ Keep [] H H' ∧ IsI H' H.length (row.take p)) _ ?_ ?_ (i13 none rfl Keep.app get_new)
  · intro i v loc H' hi hr36
    refine x13 hr36 ?_; try clear hr36; intro o eq40 K hl; subst eq40
    refine hold fun Xh oh => ?_
    refine x12 (map_get hi) fun x eq41 hx => ?_; subst eq41
    refine oh ?_
    refine i12 _ (by (with_reducible repeat constructor)) ?_
    repeat' walk_at "st"
    refine column_behind T ?_
    repeat' walk_at "st"
    · exact hl
    · exact i13 _ (by rw [take_snoc hx, colAt_snoc]) K hl
  · intro loc H' hr37
    refine x13 hr37 ?_; try clear hr37; intro o eq42 K hl; subst eq42
    repeat' walk_at "st"
    rw [List.length_map, List.take_length]
    exact q _ K
theorem row_columns (T : Tops c) (hq : c.q = true) {k : Nat} {row : List Int} {Q : Post MV} (hk : IsI H k row) (hz : row.length ≤ 400) (q : ∀ H', Keep [] H H' → Q (.int (colAt row : Nat)) H') :
    Cl c (n + 3) (.ref 169) [.ref k, .int 4] H Q := by
  refine T.call 18 ["row", "tab"] [] rfl ⟨rfl, rfl, rfl, rfl, by decide, by decide⟩ rfl (fun _ _ _ _ _ _ => binds2 fun _ _ => (by kernel_rfl)) ?_
  (dsimp only [mkLoc, List.zip, List.zipWith, List.map, List.cons_append, List.nil_append]; repeat' walk_at "st")
  refine column_at T hq hk hz fun H' K => ?_
  repeat' walk_at "st"
  rw [List.take_length]
  exact q _ K
theorem place_at (T : Tops c) (hq : c.q = true) {k : Nat} {row : List Int} {col : Nat} {Q : Post MV} (hk : IsI H k row) (hz : row.length ≤ 420) (q : ∀ H', Keep [] H H' → Q (.int (placeAt row col : Nat)) H') :
    Cl c (n + 2) (.ref 176) [.ref k, .int col, .int 4] H Q := by
  refine T.call 19 ["row", "column", "tab"] ["now", "place"] rfl ⟨rfl, rfl, rfl, rfl, by decide, by decide⟩ rfl (fun _ _ _ _ _ _ => binds3 fun _ _ _ => (by kernel_rfl)) ?_
  (dsimp only [mkLoc, List.zip, List.zipWith, List.map, List.cons_append, List.nil_append]; repeat' walk_at "st")
  refine Ex1.for (Src.range hq (T.nogl 1 rfl) ?_)
  repeat' walk_at "st"
  refine i03 (by lia) (by lia) ?_
  refine Loop.inv (fun i loc H' => ∃ o, loc = ([("row", some (.ref k)), ("column", some (.int col)), ("tab", some (.int 4)), ("now", some (.int (colAt (row.take i) : Nat))), ("place", o)] : Loc) ∧ Keep [] H H' ∧ i ≤ row.length ∧ placeAt row col = i + placeFrom (colAt (row.take i)) (row.drop i) col) _ ?_ ?_ (i14 none rfl Keep.refl (Nat.zero_le _) (by simp [placeAt, colAt]))
  · intro i v loc H' hi hr38
    refine x14 hr38 ?_; try clear hr38; intro o eq43 K hle hp; subst eq43
    refine x02 (upto_get hi) fun eq44 hlt => ?_; subst eq44
    have hlt' : i < row.length := by simpa using hlt
    have hd : row.drop i = row[i] :: row.drop (i + 1) := List.drop_eq_getElem_cons hlt'
    have hx : row[(i : Int).toNat]? = some row[i] := by simp [hlt']
    refine i12 _ (by (with_reducible repeat constructor)) ?_
    repeat' walk_at "st"
    refine ⟨fun e => ?_, fun e => ?_⟩
    · repeat' walk_at "st"
      rw [hd] at hp
      unfold placeFrom at hp
      rw [if_pos (by simpa using e)] at hp
      have := q H' K
      rw [hp] at this
      exact this
    · repeat' walk_at "st"
      refine column_behind T ?_
      repeat' walk_at "st"
      · trivial
      · refine i14 _ (by rw [take_snoc (x := row[i]) (by simp), colAt_snoc]) K hlt' ?_
        rw [hd] at hp
        unfold placeFrom at hp
        rw [if_neg (by simpa using e)] at hp
        rw [take_snoc (x := row[i]) (by simp), colAt_snoc]
        lia
  · intro loc H' hr39
    refine x14 hr39 ?_; try clear hr39; intro o eq45 K hle hp; subst eq45
    repeat' walk_at "st"
    have := q H' K
    rw [hp] at this
    simpa [upto, placeFrom] using this
end
end
section
section
variable {c : Cx} {n : Nat} {H : List MO}
theorem opened_call (T : Tops c) (hq : c.q = true) {k : Nat} {row : List Int} {col : Nat} {Q : Post MV} (hk : IsI H k row) (hz : row.length ≤ 400) (q : ∀ k' H', Keep [] H H' → IsI H' k' (opened row col) → Q (.ref k') H') :
    Cl c (n + 3) (.ref 183) [.ref k, .int col, .int 4] H Q := by
  refine x11 T.tab fun t hG => ?_
  refine x11 T.blank fun t' hG' => ?_
  refine T.call 20 ["row", "column", "tab"] ["place", "begin", "end"] rfl ⟨rfl, rfl, rfl, rfl, by decide, by decide⟩ rfl (fun _ _ _ _ _ _ => binds3 fun _ _ _ => (by kernel_rfl)) ?_
  (dsimp only [mkLoc, List.zip, List.zipWith, List.map, List.cons_append, List.nil_append]; repeat' walk_at "st")
  refine place_at T hq hk (by lia) fun H₁ K₁ => ?_
  have hk₁ := hk.keep K₁
  have hple := placeAt_le row col
  have he := opened.eq_1 row col
  generalize placeAt row col = P at *
  repeat' walk_at "st"
  refine ⟨fun e => ?_, fun e => ⟨fun _ => ?_, fun h => (by cases h)⟩⟩
  · have hP0 : P ≠ 0 := by simpa using e
    have hPl : P - 1 < row.length := p_lt (Nat.pos_of_ne_zero hP0) hple
    have hx : row[((P : Int) - 1).toNat]? = some row[P - 1] := by
      rw [t_pred P]; exact List.getElem?_eq_getElem hPl
    have hx' : row[P - 1]? = some row[P - 1] := List.getElem?_eq_getElem hPl
    have e2 : row.take P = row.take (P - 1) ++ [row[P - 1]] := by
      have e : P = P - 1 + 1 := (Nat.sub_one_add_one hP0).symm
      conv => lhs; rw [e]
      exact take_snoc hx'
    have hc := colB_le (colAt (row.take (P - 1))) row[P - 1]
    rw [← colAt_snoc, ← e2] at hc
    refine Run.or ?_
    repeat' walk_at "st"
    refine ⟨fun e => ?_, fun e => ⟨fun _ => ?_, fun h => (by cases h)⟩⟩
    · refine Run.or1 ?_
      repeat' walk_at "st"
      refine column_at T hq hk₁ hz fun H₂ K₂ => ?_
      repeat' walk_at "st"
      refine ⟨fun e' => ?_, fun e' => ?_⟩
      · repeat' walk_at "st"
        refine q _ _ (by walk_at "kp") ?_
        rw [he, if_pos (.inr (.inr (by simpa using e')))]
        walk_at "at"
      · repeat' walk_at "st"
        rw [c_pred (Nat.pos_of_ne_zero hP0)]
        refine column_at T hq (by walk_at "at") hz fun H₃ K₃ => ?_
        repeat' walk_at "st"
        refine column_at T hq (by walk_at "at") hz fun H₄ K₄ => ?_
        repeat' walk_at "st"
        subst_vars
        refine q _ _ (by walk_at "kp") ?_
        refine' IsI.of (by walk_at "at") ?_
        rw [he, if_neg (by
          simp only [not_or]
          exact ⟨hP0, by rw [hx']; simpa using e, by simpa using e'⟩)]
        have e5 : ((colAt (row.take P) : Int) - (colAt (row.take (P - 1)) : Int)).toNat = colAt (row.take P) - colAt (row.take (P - 1)) := t_sub _ _
        rw [pick_drop, pick_takeI _ _ (by lia), e5, t_pred P]
    · repeat' walk_at "st"
      refine q _ _ (by walk_at "kp") ?_
      rw [he, if_pos (.inr (.inl (by rw [hx']; simpa using e)))]
      walk_at "at"
  · repeat' walk_at "st"
    refine q _ _ (by walk_at "kp") ?_
    rw [he, if_pos (.inl (by simpa using e))]
    walk_at "at"
theorem padded_call (T : Tops c) (hq : c.q = true) {k : Nat} {row : List Int} {col : Nat} {Q : Post MV} (hk : IsI H k row) (hz : row.length ≤ 200) (hc : col ≤ 240) (q : ∀ k' H', Keep [] H H' → IsI H' k' (padded row col) → Q (.ref k') H') :
    Cl c (n + 4) (.ref 190) [.ref k, .int col, .int 4] H Q := by
  refine x11 T.blank fun t' hG' => ?_
  refine T.call 21 ["row", "column", "tab"] [] rfl ⟨rfl, rfl, rfl, rfl, by decide, by decide⟩ rfl (fun _ _ _ _ _ _ => binds3 fun _ _ _ => (by kernel_rfl)) ?_
  have hle := colAt_le row
  (dsimp only [mkLoc, List.zip, List.zipWith, List.map, List.cons_append, List.nil_append]; repeat' walk_at "st")
  refine row_columns T hq (by walk_at "at") (by lia) fun H₁ K₁ => ?_
  repeat' walk_at "st"
  refine q _ _ (by walk_at "kp") ?_
  refine' IsI.of (by walk_at "at") ?_
  unfold padded
  rw [t_max col (colAt row)]
theorem cut_at_call (T : Tops c) (hq : c.q = true) {k : Nat} {row : List Int} {col : Nat} {Q : Post MV} (hk : IsI H k row) (hz : row.length ≤ 400)
    (q : ∀ k₁ k₂ kt H', Keep [] H H' → IsI H' k₁ (cutAt row col).1 → IsI H' k₂ (cutAt row col).2 → H'[kt]? = some (.tuple [.ref k₁, .ref k₂]) → Q (.ref kt) H') :
    Cl c (n + 4) (.ref 197) [.ref k, .int col, .int 4] H Q := by
  refine T.call 22 ["row", "column", "tab"] ["whole", "place"] rfl ⟨rfl, rfl, rfl, rfl, by decide, by decide⟩ rfl (fun _ _ _ _ _ _ => binds3 fun _ _ _ => (by kernel_rfl)) ?_
  have hle := opened_le row col
  (dsimp only [mkLoc, List.zip, List.zipWith, List.map, List.cons_append, List.nil_append]; repeat' walk_at "st")
  refine opened_call T hq hk hz fun k₁ H₁ K₁ h₁ => ?_
  repeat' walk_at "st"
  refine place_at T hq h₁ (by lia) fun H₂ K₂ => ?_
  repeat' walk_at "st"
  subst_vars
  refine q _ _ _ _ (by walk_at "kp") ?_ ?_ get_new
  · refine' IsI.of (by walk_at "at") ?_
    rw [pick_take]; rfl
  · refine' IsI.of (by walk_at "at") ?_
    rw [pick_drop]; rfl
theorem cut_between_call (T : Tops c) (hq : c.q = true) {k : Nat} {row : List Int} {f l : Nat} {Q : Post MV} (hk : IsI H k row) (hz : row.length ≤ 390)
    (q : ∀ k₁ k₂ k₃ kt H', Keep [] H H' → IsI H' k₁ (cutBetween row f l).1 → IsI H' k₂ (cutBetween row f l).2.1 → IsI H' k₃ (cutBetween row f l).2.2 → H'[kt]? = some (.tuple [.ref k₁, .ref k₂, .ref k₃]) → Q (.ref kt) H') :
    Cl c (n + 5) (.ref 204) [.ref k, .int f, .int l, .int 4] H Q := by
  refine T.call 23 ["row", "first", "last", "tab"] ["front", "rest", "ahead", "inside"] rfl ⟨rfl, rfl, rfl, rfl, by decide, by decide⟩ rfl (fun _ _ _ _ _ _ => binds4 fun _ _ _ _ => (by kernel_rfl)) ?_
  have hle := cutAt_le row l
  (dsimp only [mkLoc, List.zip, List.zipWith, List.map, List.cons_append, List.nil_append]; repeat' walk_at "st")
  refine cut_at_call T hq hk (by lia) fun k₁ k₂ kt H₁ K₁ h₁ h₂ ht => ?_
  repeat' walk_at "st"
  refine cut_at_call T hq h₁ (by lia) fun k₃ k₄ kt' H₂ K₂ h₃ h₄ ht' => ?_
  repeat' walk_at "st"
  exact q _ _ _ _ _ (by walk_at "kp") (by walk_at "at") (by walk_at "at") (by walk_at "at") get_new
end
end
section
section
variable {c : Cx} {n : Nat} {H : List MO}
theorem spread_call (T : Tops c) (hq : c.q = true) {k : Nat} {codes : List Int} {col : Nat} {Q : Post MV} (hk : IsI H k codes) (hz : codes.length ≤ 210) (q : ∀ k' H', Keep [] H H' → IsI H' k' (spread col codes) → Q (.ref k') H') :
    Cl c (n + 2) (.ref 211) [.ref k, .int col, .int 4] H Q := by
  refine x11 T.tab fun t hG => ?_
  refine x11 T.blank fun t' hG' => ?_
  refine T.call 24 ["codes", "column", "tab"] ["found", "now", "code", "after"] rfl ⟨rfl, rfl, rfl, rfl, by decide, by decide⟩ rfl (fun _ _ _ _ _ _ => binds3 fun _ _ _ => (by kernel_rfl)) ?_
  (dsimp only [mkLoc, List.zip, List.zipWith, List.map, List.cons_append, List.nil_append]; repeat' walk_at "st")
  refine Ex1.for (Src.listI hq ?_)
  repeat' walk_at "st"
  have hlt := hk.lt
  refine Loop.inv (fun i loc H' => ∃ o o' acc, loc = ([("codes", some (.ref k)), ("column", some (.int col)), ("tab", some (.int 4)), ("found", some (.ref H.length)), ("now", some (.int ((codes.take i).foldl colB col : Nat))), ("code", o), ("after", o')] : Loc) ∧
    Keep [] H H' ∧ IsI H' H.length acc ∧ acc.length ≤ 4 * i ∧ i ≤ codes.length ∧ spread col codes = acc ++ spread ((codes.take i).foldl colB col) (codes.drop i)) _ ?_ ?_ ⟨none, none, [], rfl, Keep.app, get_new, by simp, Nat.zero_le _, by simp⟩
  · intro i v loc H' hi hr46
    refine x36 hr46 ?_; try clear hr46; intro o o' acc eq48 K hl hal hic hs; subst eq48
    refine x12 (map_get hi) fun x eq49 hx => ?_; subst eq49
    have hlt' : i < codes.length := (List.getElem?_eq_some_iff.mp hx).1
    have hd : codes.drop i = x :: codes.drop (i + 1) := by rw [List.drop_eq_getElem_cons hlt']; congr 1; exact (List.getElem?_eq_some_iff.mp hx).2
    have hB := colB_le ((codes.take i).foldl colB col) x
    have e1 : colB ((codes.take i).foldl colB col) x = (codes.take (i + 1)).foldl colB col := by rw [take_snoc hx]; simp
    rw [hd] at hs
    rw [spread_cons, e1] at hs
    rw [e1] at hB
    refine i12 _ (by (with_reducible repeat constructor)) ?_
    repeat' walk_at "st"
    refine column_behind T ?_
    rw [e1]
    repeat' walk_at "st"
    refine ⟨fun e => ?_, fun e => ?_⟩
    · rw [if_pos (by simpa using e)] at hs
      repeat' walk_at "st"
      refine i35 _ _ _ rfl (by walk_at "at") (by walk_at "at") (by walk_at "len") ?_
      repeat' walk_at "st"
      · exact get_set_ne (by lia) (by walk_at "at")
      · refine i36 _ _ _ rfl (by walk_at "kp") (get_set_self (by walk_at "at")) (by simp only [List.length_append, List.length_replicate, t_sub]; lia) hlt' ?_
        rw [hs, List.append_assoc, show ((((codes.take (i + 1)).foldl colB col : Nat) : Int) - (((codes.take i).foldl colB col : Nat) : Int)).toNat = (codes.take (i + 1)).foldl colB col - (codes.take i).foldl colB col from t_sub _ _]
    · rw [if_neg (by simpa using e)] at hs
      repeat' walk_at "st"
      refine i13 _ (by walk_at "at") (by walk_at "len") ?_
      repeat' walk_at "st"
      · exact get_set_ne (by lia) (by walk_at "at")
      · refine i36 _ _ (acc ++ [x]) rfl (by walk_at "kp") (by unfold IsI; rw [List.map_append]; exact get_set_self (by walk_at "at")) (by simp only [List.length_append, List.length_cons, List.length_nil]; lia) hlt' ?_
        rw [hs]
        simp
  · intro loc H' hr47
    refine x36 hr47 ?_; try clear hr47; intro o o' acc eq50 K hl hal hic hs; subst eq50
    repeat' walk_at "st"
    refine q _ _ K ?_
    rw [hs]
    simpa [spread] using hl
theorem extracted_call (T : Tops c) (hq : c.q = true) {k : Nat} {row : List Int} {f l : Nat} {Q : Post MV} (hk : IsI H k row) (hz : row.length ≤ 200) (hl : l ≤ 240) (hfl : f ≤ l) (q : ∀ k' H', Keep [] H H' → (k' = k ∨ H.length ≤ k') → IsI H' k' (extracted row f l) → Q (.ref k') H') :
    Cl c (n + 6) (.ref 218) [.ref k, .int f, .int l, .int 4] H Q := by
  refine x11 T.blank fun t' hG' => ?_
  refine T.call 25 ["row", "first", "last", "tab"] ["ahead", "inside", "rest", "codes"] rfl ⟨rfl, rfl, rfl, rfl, by decide, by decide⟩ rfl (fun _ _ _ _ _ _ => binds4 fun _ _ _ _ => (by kernel_rfl)) ?_
  have hle := cutBetween_le row f l
  (dsimp only [mkLoc, List.zip, List.zipWith, List.map, List.cons_append, List.nil_append]; repeat' walk_at "st")
  refine cut_between_call T hq hk (by lia) fun k₁ k₂ k₃ kt H₁ K₁ h₁ h₂ h₃ ht => ?_
  repeat' walk_at "st"
  have hsp := spread_le (cutBetween row f l).2.1 f
  refine spread_call T hq h₂ (by lia) fun k₄ H₂ K₂ h₄ => ?_
  repeat' walk_at "st"
  refine q _ _ (by walk_at "kp") (by first | exact Or.inl rfl | exact Or.inr (Keep.lenLe (by walk_at "kp"))) ?_
  refine' IsI.of (by walk_at "at") ?_
  unfold extracted
  congr 2
  exact t_sub2 _ _ _
theorem erased_call (T : Tops c) (hq : c.q = true) {k : Nat} {row : List Int} {f l : Nat} {Q : Post MV} (hk : IsI H k row) (hz : row.length ≤ 200) (q : ∀ k' H', Keep [] H H' → (k' = k ∨ H.length ≤ k') → IsI H' k' (erased row f l) → Q (.ref k') H') :
    Cl c (n + 6) (.ref 225) [.ref k, .int f, .int l, .int 4] H Q := by
  refine T.call 26 ["row", "first", "last", "tab"] ["ahead", "inside", "rest"] rfl ⟨rfl, rfl, rfl, rfl, by decide, by decide⟩ rfl (fun _ _ _ _ _ _ => binds4 fun _ _ _ _ => (by kernel_rfl)) ?_
  have hle := cutBetween_le row f l
  have he := erased.eq_1 row f l
  (dsimp only [mkLoc, List.zip, List.zipWith, List.map, List.cons_append, List.nil_append]; repeat' walk_at "st")
  refine row_columns T hq hk (by lia) fun H₀ K₀ => ?_
  repeat' walk_at "st"
  refine ⟨fun e => ?_, fun e => ?_⟩
  · repeat' walk_at "st"
    rw [if_pos (by simpa using e)] at he
    exact q _ _ (by walk_at "kp") (by first | exact Or.inl rfl | exact Or.inr (Keep.lenLe (by walk_at "kp"))) (by rw [he]; walk_at "at")
  · rw [if_neg (by simpa using e)] at he
    repeat' walk_at "st"
    refine cut_between_call T hq (hk.keep K₀) (by lia) fun k₁ k₂ k₃ kt H₁ K₁ h₁ h₂ h₃ ht => ?_
    repeat' walk_at "st"
    exact q _ _ (by walk_at "kp") (by first | exact Or.inl rfl | exact Or.inr (Keep.lenLe (by walk_at "kp"))) (by rw [he]; walk_at "at")
theorem cleared_call (T : Tops c) (hq : c.q = true) {k : Nat} {row : List Int} {f l : Nat} {Q : Post MV} (hk : IsI H k row) (hz : row.length ≤ 200) (hl : l ≤ 240) (hfl : f ≤ l) (q : ∀ k' H', Keep [] H H' → (k' = k ∨ H.length ≤ k') → IsI H' k' (cleared row f l) → Q (.ref k') H') :
    Cl c (n + 6) (.ref 232) [.ref k, .int f, .int l, .int 4] H Q := by
  refine x11 T.blank fun t' hG' => ?_
  refine T.call 27 ["row", "first", "last", "tab"] ["ahead", "inside", "rest"] rfl ⟨rfl, rfl, rfl, rfl, by decide, by decide⟩ rfl (fun _ _ _ _ _ _ => binds4 fun _ _ _ _ => (by kernel_rfl)) ?_
  have hle := cutBetween_le row f l
  have he := cleared.eq_1 row f l
  (dsimp only [mkLoc, List.zip, List.zipWith, List.map, List.cons_append, List.nil_append]; repeat' walk_at "st")
  refine row_columns T hq hk (by lia) fun H₀ K₀ => ?_
  repeat' walk_at "st"
  refine ⟨fun e => ?_, fun e => ?_⟩
  · repeat' walk_at "st"
    rw [if_pos (by simpa using e)] at he
    exact q _ _ (by walk_at "kp") (by first | exact Or.inl rfl | exact Or.inr (Keep.lenLe (by walk_at "kp"))) (by rw [he]; walk_at "at")
  · rw [if_neg (by simpa using e)] at he
    repeat' walk_at "st"
    refine cut_between_call T hq (hk.keep K₀) (by lia) fun k₁ k₂ k₃ kt H₁ K₁ h₁ h₂ h₃ ht => ?_
    repeat' walk_at "st"
    refine ⟨fun e => ?_, fun e => ?_⟩
    · rw [if_neg (by intro q; rw [q] at e; simp at e)] at he
      repeat' walk_at "st"
      refine q _ _ (by walk_at "kp") (by first | exact Or.inl rfl | exact Or.inr (Keep.lenLe (by walk_at "kp"))) ?_
      refine' IsI.of (by walk_at "at") ?_
      rw [he, t_sub l f]
    · rw [if_pos (by simpa using e)] at he
      repeat' walk_at "st"
      exact q _ _ (by walk_at "kp") (by first | exact Or.inl rfl | exact Or.inr (Keep.lenLe (by walk_at "kp"))) (by rw [he]; walk_at "at")
theorem opened_up_call (T : Tops c) (hq : c.q = true) {k : Nat} {row : List Int} {f l : Nat} {Q : Post MV} (hk : IsI H k row) (hz : row.length ≤ 200) (hl : l ≤ 240) (hfl : f ≤ l) (q : ∀ k' H', Keep [] H H' → (k' = k ∨ H.length ≤ k') → IsI H' k' (openedUp row f l) → Q (.ref k') H') :
    Cl c (n + 5) (.ref 239) [.ref k, .int f, .int l, .int 4] H Q := by
  refine x11 T.blank fun t' hG' => ?_
  refine T.call 28 ["row", "first", "last", "tab"] ["ahead", "rest"] rfl ⟨rfl, rfl, rfl, rfl, by decide, by decide⟩ rfl (fun _ _ _ _ _ _ => binds4 fun _ _ _ _ => (by kernel_rfl)) ?_
  have hle := cutAt_le row f
  have he := openedUp.eq_1 row f l
  (dsimp only [mkLoc, List.zip, List.zipWith, List.map, List.cons_append, List.nil_append]; repeat' walk_at "st")
  refine row_columns T hq hk (by lia) fun H₀ K₀ => ?_
  repeat' walk_at "st"
  refine ⟨fun e => ?_, fun e => ?_⟩
  · repeat' walk_at "st"
    rw [if_pos (by simpa using e)] at he
    exact q _ _ (by walk_at "kp") (by first | exact Or.inl rfl | exact Or.inr (Keep.lenLe (by walk_at "kp"))) (by rw [he]; walk_at "at")
  · rw [if_neg (by simpa using e)] at he
    repeat' walk_at "st"
    refine cut_at_call T hq (hk.keep K₀) (by lia) fun k₁ k₂ kt H₁ K₁ h₁ h₂ ht => ?_
    repeat' walk_at "st"
    refine q _ _ (by walk_at "kp") (by first | exact Or.inl rfl | exact Or.inr (Keep.lenLe (by walk_at "kp"))) ?_
    refine' IsI.of (by walk_at "at") ?_
    rw [he, t_sub l f]
theorem replaced_call (T : Tops c) (hq : c.q = true) {k kc : Nat} {row codes : List Int} {f l : Nat} {Q : Post MV} (hk : IsI H k row) (hz : row.length ≤ 100) (hc : IsI H kc codes) (hcz : codes.length ≤ 100) (hf : f ≤ 240) (q : ∀ k' H', Keep [] H H' → (k' = k ∨ H.length ≤ k') → IsI H' k' (replacedBy row f l codes) → Q (.ref k') H') :
    Cl c (n + 6) (.ref 246) [.ref k, .int f, .int l, .ref kc, .int 4] H Q := by
  refine T.call 29 ["row", "first", "last", "codes", "tab"] ["ahead", "inside", "rest"] rfl ⟨rfl, rfl, rfl, rfl, by decide, by decide⟩ rfl (fun _ _ _ _ _ _ => binds5 fun _ _ _ _ _ => (by kernel_rfl)) ?_
  have hpl : (padded row f).length ≤ row.length + f := by unfold padded; simp
  have hle := cutBetween_le (padded row f) f l
  (dsimp only [mkLoc, List.zip, List.zipWith, List.map, List.cons_append, List.nil_append]; repeat' walk_at "st")
  refine padded_call T hq hk (by lia) hf fun k₀ H₀ K₀ h₀ => ?_
  repeat' walk_at "st"
  refine cut_between_call T hq h₀ (by lia) fun k₁ k₂ k₃ kt H₁ K₁ h₁ h₂ h₃ ht => ?_
  repeat' walk_at "st"
  exact q _ _ (by walk_at "kp") (by first | exact Or.inl rfl | exact Or.inr (Keep.lenLe (by walk_at "kp"))) get_new
end
end
section
/-! rows -/
noncomputable def rowStep (st : List (List Int) × List Int) (x : Int) : List (List Int) × List Int := if x = 10 then (st.1 ++ [st.2], []) else (st.1, st.2 ++ [x])
noncomputable def rowsSt (codes : List Int) : List (List Int) × List Int := codes.foldl rowStep ([], [])
noncomputable def rowsOf (codes : List Int) : List (List Int) := (rowsSt codes).1 ++ [(rowsSt codes).2]
theorem rowsSt_snoc (l : List Int) (x : Int) : rowsSt (l ++ [x]) = rowStep (rowsSt l) x := by simp [rowsSt]
noncomputable def joinRows : List (List Int) → List Int
  | [] => []
  | r :: rs => r ++ rs.flatMap fun q => 10 :: q
theorem joinRows_snoc (rs : List (List Int)) (r : List Int) : joinRows (rs ++ [r]) = joinRows rs ++ (if rs = [] then [] else [10]) ++ r := by
  cases rs with
  | nil => simp [joinRows]
  | cons a rs => simp [joinRows]
noncomputable def gridStep (acc : List Int) (x : Int) : List Int := acc ++ (if x = 9 then List.replicate (4 - acc.length % 4) 32 else [x])
noncomputable def gridOf (row : List Int) : List Int := row.foldl gridStep []
theorem gridOf_snoc (l : List Int) (x : Int) : gridOf (l ++ [x]) = gridStep (gridOf l) x := by simp [gridOf]
theorem foldl_grid_le : ∀ (l acc : List Int), (l.foldl gridStep acc).length ≤ acc.length + 4 * l.length
  | [], acc => by simp
  | x :: l, acc => by
    have h := foldl_grid_le l (gridStep acc x)
    have : (gridStep acc x).length ≤ acc.length + 4 := by unfold gridStep; split <;> simp <;> lia
    simp only [List.foldl_cons, List.length_cons]; lia
theorem gridOf_le (l : List Int) : (gridOf l).length ≤ 4 * l.length := by have := foldl_grid_le l []; simpa [gridOf] using this
theorem rowsSt_len : ∀ (l : List Int) (st : List (List Int) × List Int), (l.foldl rowStep st).1.flatten.length + (l.foldl rowStep st).2.length + (l.foldl rowStep st).1.length ≤ st.1.flatten.length + st.2.length + st.1.length + l.length
  | [], st => by simp
  | x :: l, st => by
    have h := rowsSt_len l (rowStep st x)
    have : (rowStep st x).1.flatten.length + (rowStep st x).2.length + (rowStep st x).1.length ≤ st.1.flatten.length + st.2.length + st.1.length + 1 := by
      unfold rowStep; split <;> simp <;> lia
    simp only [List.foldl_cons, List.length_cons]; lia
theorem rowsSt_le (l : List Int) : (rowsSt l).1.length ≤ l.length ∧ (rowsSt l).2.length ≤ l.length := by
  have := rowsSt_len l ([], [])
  unfold rowsSt
  simp at this
  lia

section
variable {c : Cx} {n : Nat} {sc : Scope} {loc : Loc} {H H' : List MO}
theorem all2_get {α β : Type} {R : α → β → Prop} {as : List α} {bs : List β} (h : All2 R as bs) {k : Nat} {b : β} (e : bs[k]? = some b) : ∃ a, as[k]? = some a ∧ R a b := by
  induction h generalizing k with
  | nil => simp at e
  | cons h _ ih =>
    cases k with
    | zero => simp at e; subst e; exact ⟨_, rfl, h⟩
    | succ k => simpa using ih (by simpa using e)
theorem IsR.lt {k : Nat} {rows : List (List Int)} (h : IsR H k rows) : k < H.length := by refine x12 h ?_; try clear h; intro _ e _; exact get_lt e
theorem IsR.of {k : Nat} {xs ys : List (List Int)} (h : IsR H k xs) (e : xs = ys) : IsR H k ys := e ▸ h
theorem Sub.itemR {value slice} {a : Nat} {rows : List (List Int)} {i : Int} {row : List Int} {Q : Post MV} (ha : IsR H a rows) (h0 : 0 ≤ i) (hi : i < 2 ^ 40) (hv : rows[i.toNat]? = some row) (q : ∀ j, IsI H j row → Q (.ref j) H)
    (hs : ∀ l u, subscripted slice false (.ref l) (.int i u) = operate [.ref l, .int i u] (getItem (.ref l) (.int i u)) := by intro _ _; with_unfolding_all rfl) : Sub c n value slice (.ref a) (.int i) H Q := by
  refine hold fun Xh oh => ?_
  refine x12 ha ?_; try clear ha; intro ks e all
  refine x12 (all2_get all hv) fun j hj hr => ?_
  refine oh ?_
  exact Sub.item e h0 hi (by rw [List.getElem?_map, hj]; rfl) (q j hr) hs
theorem Cl.lenR {a : Nat} {rows : List (List Int)} {Q : Post MV} (ha : IsR H a rows) (hz : rows.length ≤ 1000) (q : Q (.int rows.length) H) : Cl c n (.builtin "len") [.ref a] H Q := by
  refine x12 ha ?_; try clear ha; intro ks e all
  have := all.length
  exact Cl.len e (by simpa [this] using hz) (by simpa [this] using q)
theorem all2_set {ks : List Nat} {rows : List (List Int)} {i : Nat} {m : MO} (h : All2 (IsI H) ks rows) (hi : ∀ j ∈ ks, j ≠ i) : All2 (IsI (H.set i m)) ks rows :=
  h.mono' fun j hj _ hr => get_set_ne (hi j hj) hr
theorem all2_keep {F : List Nat} {ks : List Nat} {rows : List (List Int)} (h : All2 (IsI H) ks rows) (K : Keep F H H') (hi : ∀ j ∈ ks, j ∉ F) : All2 (IsI H') ks rows :=
  h.mono' fun j hj _ hr => K.get (hi j hj) hr
theorem all2_lt {ks : List Nat} {rows : List (List Int)} (h : All2 (IsI H) ks rows) : ∀ j ∈ ks, j < H.length := by
  induction h with
  | nil => intro j hj; cases hj
  | cons h _ ih =>
    intro j hj
    rcases List.mem_cons.mp hj with rfl | hj
    · exact h.lt
    · exact ih j hj
/-- a comprehension over rows -/
theorem CompL.rows {x : Str} {elt : Expr} {k : Nat} {rows : List (List Int)} {ks : List Nat} {l : Loc} {o : Option MV} {R : List MO → Prop} (f : List Int → List Int) (hz : rows.length ≤ 900) (hk : H[k]? = some (.list (ks.map .ref))) (all : All2 (IsI H) ks rows)
    (step : ∀ j row H', Keep [] H H' → row ∈ rows → IsI H' j row → Ev c n sc elt ((x, some (.ref j)) :: l) H' fun w H₂ => ∃ j', w = .ref j' ∧ Keep [] H' H₂ ∧ (j' = j ∨ H'.length ≤ j') ∧ IsI H₂ j' (f row))
    (fin : ∀ H', Keep [] H H' → IsR H' H.length (rows.map f) → R H') : CompL c n sc x elt [] (fun H => H[k]? = some (.list (ks.map .ref))) H.length R (ks.map .ref) [] ((x, o) :: l) (H ++ [.list []]) := by
  refine CompL.inv (fun i acc H' => i ≤ rows.length ∧ Keep [] H H' ∧ ∃ js : List Nat, acc = js.map .ref ∧ All2 (IsI H') js ((rows.take i).map f) ∧ ∀ j ∈ js, j ≠ H.length) _ ?_ ?_ get_new (i03 (Nat.zero_le _) Keep.app (i13 ([]) rfl (by simp; exact .nil) (by simp)))
  · intro i v acc H' hv hD ⟨hi, K, js, ha, hjs, hne⟩
    rw [List.getElem?_map, Option.map_eq_some_iff] at hv
    refine x12 hv ?_; try clear hv; intro j hj eq54; subst eq54
    refine x12 (all.get hj) fun row hrow hr => ?_
    have hir : i < rows.length := (List.getElem?_eq_some_iff.mp hrow).1
    have hjl : j < H.length := hr.lt
    refine Ifs.nil ⟨fun _ => ?_, fun h => (by cases h)⟩
    refine Run.mono (step j row H' K (List.mem_of_getElem? hrow) (hr.keep K)) fun w H₂ ⟨j', ew, K₂, hf, hj'⟩ => ?_
    subst ew; subst ha
    have hD₂ := K₂.get0 hD
    have hlen : (js.map MV.ref).length ≤ 900 := by
      have := hjs.length
      simp at this ⊢; lia
    have hHl : H.length < H'.length := get_lt hD
    have hne' : j' ≠ H.length := by rcases hf with rfl | hf <;> lia
    refine i06 hD₂ hlen ?_ hir ((K.trans K₂).setNew (Nat.le_refl _)) (i13 (js ++ [j']) (by simp) ?_ ?_)
    · exact get_set_ne (by have := get_lt hk; lia) (K₂.get0 (K.get0 hk))
    · rw [take_snoc hrow, List.map_append]
      exact (all2_set (all2_keep hjs K₂ (by simp)) hne).append (.cons (get_set_ne hne' hj') .nil)
    · intro a ha
      rcases List.mem_append.mp ha with ha | ha
      · exact hne a ha
      · simp at ha; rw [ha]; exact hne'
  · intro acc H' hD hr51
    refine x03 hr51 ?_; try clear hr51; intro hi K ht55; refine x13 ht55 ?_; clear ht55; intro js eq56 hjs hne; subst eq56
    refine fin H' K (i12 js hD ?_)
    have e : (ks.map MV.ref).length = rows.length := by have := all.length; simpa using this
    rw [e, List.take_length] at hjs
    exact hjs
theorem rows_in_call (T : Tops c) (hq : c.q = true) {k : Nat} {codes : List Int} {Q : Post MV} (hk : IsI H k codes) (hz : codes.length ≤ 900) (q : ∀ k' H', Keep [] H H' → H.length ≤ k' → IsR H' k' (rowsOf codes) → Q (.ref k') H') :
    Cl c (n + 1) (.ref 286) [.ref k] H Q := by
  refine x11 T.rowend fun t hG => ?_
  refine T.call 33 ["codes"] ["rows", "code"] rfl ⟨rfl, rfl, rfl, rfl, by decide, by decide⟩ rfl (fun _ _ _ _ _ _ => binds1 fun _ => (by kernel_rfl)) ?_
  (dsimp only [mkLoc, List.zip, List.zipWith, List.map, List.cons_append, List.nil_append]; repeat' walk_at "st")
  refine Ex1.for (Src.listI hq ?_)
  repeat' walk_at "st"
  have hkl := hk.lt
  have hR0 : (H ++ [MO.list []]).length = H.length + 1 := by simp
  rw [hR0]
  refine Loop.inv (fun i loc H' => ∃ o ks kl, loc = ([("codes", some (.ref k)), ("rows", some (.ref (H.length + 1))), ("code", o)] : Loc) ∧ Keep [] H H' ∧ H'[H.length + 1]? = some (.list ((ks ++ [kl]).map .ref)) ∧ All2 (IsI H') ks (rowsSt (codes.take i)).1 ∧ IsI H' kl (rowsSt (codes.take i)).2 ∧
    (∀ j ∈ ks, j ≠ H.length + 1 ∧ j ≠ kl ∧ j < H'.length) ∧ kl ≠ H.length + 1 ∧ H.length ≤ kl ∧ i ≤ codes.length) _ ?_ ?_ ⟨none, [], H.length, rfl, Keep.trans Keep.app Keep.app, ?_, ?_, ?_, by simp, by lia, Nat.le_refl _, Nat.zero_le _⟩
  rotate_left 2
  · rw [← hR0]; exact get_new
  · simp [rowsSt]; exact .nil
  · exact get_app get_new
  · intro i v loc H' hi hr52
    refine x38 hr52 ?_; try clear hr52; intro o ks kl eq57 K hR hall hl hne hkl1 ht58; subst eq57; refine x02 ht58 ?_; clear ht58; intro hkl2 hic
    refine x12 (map_get hi) fun x eq59 hx => ?_; subst eq59
    have hlt' : i < codes.length := (List.getElem?_eq_some_iff.mp hx).1
    have hst := rowsSt_snoc (codes.take i) x
    rw [← take_snoc hx] at hst
    have hb := rowsSt_le (codes.take i)
    have hksl := hall.length
    have hlk := hl.lt
    have hRl := get_lt hR
    simp only [List.length_take] at hb
    refine i12 _ (by (with_reducible repeat constructor)) ?_
    repeat' walk_at "st"
    refine ⟨fun e => ?_, fun e => ?_⟩
    · have hst1 : rowsSt (codes.take (i + 1)) = ((rowsSt (codes.take i)).1 ++ [(rowsSt (codes.take i)).2], []) := by rw [hst]; unfold rowStep; rw [if_pos (by simpa using e)]
      repeat' walk_at "st"
      refine i13 _ (by walk_at "at") (by simp; lia) ?_
      repeat' walk_at "st"
      · exact get_set_ne (by lia) (get_app (K.get0 hk))
      · refine i38 _ (ks ++ [kl]) H'.length rfl (Keep.setNew (Keep.trans K Keep.app) (by lia)) ?_ ?_ ?_ ?_ (by lia) (And.intro (by lia) hlt')
        · rw [List.map_append (l₁ := ks ++ [kl])]; exact get_set_self (get_app hR)
        · rw [hst1]
          refine All2.append (all2_set (all2_keep (F := []) hall Keep.app (by simp)) fun j hj => (hne j hj).1) (.cons (get_set_ne hkl1 (get_app hl)) .nil)
        · rw [hst1]; exact get_set_ne (by lia) get_new
        · intro j hj
          simp only [List.length_set, List.length_append, List.length_cons, List.length_nil]
          rcases List.mem_append.mp hj with hj | hj
          · have := hne j hj; exact i03 this.1 (by lia) (by lia)
          · simp at hj; subst hj; exact i03 hkl1 (by lia) (by lia)
    · have hst1 : rowsSt (codes.take (i + 1)) = ((rowsSt (codes.take i)).1, (rowsSt (codes.take i)).2 ++ [x]) := by rw [hst]; unfold rowStep; rw [if_neg (by simpa using e)]
      repeat' walk_at "st"
      have hlen : (ks ++ [kl]).length ≤ 1000 := by simp; lia
      refine Cl.len hR (by simpa using hlen) ?_
      repeat' walk_at "st"
      refine Sub.item hR (v := .ref kl) (by simp) (by simp; lia) (by simp) ?_
      refine i23 _ _ rfl hl ?_
      repeat' walk_at "st"
      refine i13 _ hl (by simp; lia) ?_
      repeat' walk_at "st"
      · exact get_set_ne (by lia) (K.get0 hk)
      · refine i38 _ ks kl rfl (K.setNew hkl2) (get_set_ne (by lia) hR) ?_ ?_ ?_ (by lia) (And.intro (by lia) hlt')
        · rw [hst1]; exact all2_set hall fun j hj => (hne j hj).2.1
        · rw [hst1]; unfold IsI; rw [List.map_append]; exact get_set_self hl
        · intro j hj
          have := hne j hj
          simp only [List.length_set]; exact this
  · intro loc H' hr53
    refine x38 hr53 ?_; try clear hr53; intro o ks kl eq60 K hR hall hl hne hkl1 ht61; subst eq60; refine x02 ht61 ?_; clear ht61; intro hkl2 hic
    repeat' walk_at "st"
    rw [List.length_map, List.take_length] at hall hl
    exact q _ _ K (by lia) (i12 (ks ++ [kl]) hR (hall.append (.cons hl .nil)))
end
end
section
section
variable {c : Cx} {n : Nat} {sc : Scope} {loc : Loc} {H H' : List MO}
theorem law_lines_call (T : Tops c) (hq : c.q = true) {k : Nat} {codes : List Int} {Q : Post MV} (hk : IsI H k codes) (hz : codes.length ≤ 900) (q : ∀ k' H', Keep [] H H' → H.length ≤ k' → IsR H' k' (rowsOf codes) → Q (.ref k') H') :
    Cl c (n + 1) (.ref 698) [.ref k] H Q := by
  refine T.call 71 ["codes"] ["found", "code"] rfl ⟨rfl, rfl, rfl, rfl, by decide, by decide⟩ rfl (fun _ _ _ _ _ _ => binds1 fun _ => (by kernel_rfl)) ?_
  (dsimp only [mkLoc, List.zip, List.zipWith, List.map, List.cons_append, List.nil_append]; repeat' walk_at "st")
  refine Ex1.for (Src.listI hq ?_)
  repeat' walk_at "st"
  have hkl := hk.lt
  have hR0 : (H ++ [MO.list []]).length = H.length + 1 := by simp
  rw [hR0]
  refine Loop.inv (fun i loc H' => ∃ o ks kl, loc = ([("codes", some (.ref k)), ("found", some (.ref (H.length + 1))), ("code", o)] : Loc) ∧ Keep [] H H' ∧ H'[H.length + 1]? = some (.list ((ks ++ [kl]).map .ref)) ∧ All2 (IsI H') ks (rowsSt (codes.take i)).1 ∧ IsI H' kl (rowsSt (codes.take i)).2 ∧
    (∀ j ∈ ks, j ≠ H.length + 1 ∧ j ≠ kl ∧ j < H'.length) ∧ kl ≠ H.length + 1 ∧ H.length ≤ kl ∧ i ≤ codes.length) _ ?_ ?_ ⟨none, [], H.length, rfl, Keep.trans Keep.app Keep.app, ?_, ?_, ?_, by simp, by lia, Nat.le_refl _, Nat.zero_le _⟩
  rotate_left 2
  · rw [← hR0]; exact get_new
  · simp [rowsSt]; exact .nil
  · exact get_app get_new
  · intro i v loc H' hi hr62
    refine x38 hr62 ?_; try clear hr62; intro o ks kl eq68 K hR hall hl hne hkl1 ht69; subst eq68; refine x02 ht69 ?_; clear ht69; intro hkl2 hic
    refine x12 (map_get hi) fun x eq70 hx => ?_; subst eq70
    have hlt' : i < codes.length := (List.getElem?_eq_some_iff.mp hx).1
    have hst := rowsSt_snoc (codes.take i) x
    rw [← take_snoc hx] at hst
    have hb := rowsSt_le (codes.take i)
    have hksl := hall.length
    have hlk := hl.lt
    have hRl := get_lt hR
    simp only [List.length_take] at hb
    refine i12 _ (by (with_reducible repeat constructor)) ?_
    repeat' walk_at "st"
    refine ⟨fun e => ?_, fun e => ?_⟩
    · have hst1 : rowsSt (codes.take (i + 1)) = ((rowsSt (codes.take i)).1 ++ [(rowsSt (codes.take i)).2], []) := by rw [hst]; unfold rowStep; rw [if_pos (by simpa using e)]
      repeat' walk_at "st"
      refine i13 _ (by walk_at "at") (by simp; lia) ?_
      repeat' walk_at "st"
      · exact get_set_ne (by lia) (get_app (K.get0 hk))
      · refine i38 _ (ks ++ [kl]) H'.length rfl (Keep.setNew (Keep.trans K Keep.app) (by lia)) ?_ ?_ ?_ ?_ (by lia) (And.intro (by lia) hlt')
        · rw [List.map_append (l₁ := ks ++ [kl])]; exact get_set_self (get_app hR)
        · rw [hst1]
          refine All2.append (all2_set (all2_keep (F := []) hall Keep.app (by simp)) fun j hj => (hne j hj).1) (.cons (get_set_ne hkl1 (get_app hl)) .nil)
        · rw [hst1]; exact get_set_ne (by lia) get_new
        · intro j hj
          simp only [List.length_set, List.length_append, List.length_cons, List.length_nil]
          rcases List.mem_append.mp hj with hj | hj
          · have := hne j hj; exact i03 this.1 (by lia) (by lia)
          · simp at hj; subst hj; exact i03 hkl1 (by lia) (by lia)
    · have hst1 : rowsSt (codes.take (i + 1)) = ((rowsSt (codes.take i)).1, (rowsSt (codes.take i)).2 ++ [x]) := by rw [hst]; unfold rowStep; rw [if_neg (by simpa using e)]
      repeat' walk_at "st"
      have hlen : (ks ++ [kl]).length ≤ 1000 := by simp; lia
      have hR' : H'[H.length + 1]? = some (.list (ks.map .ref ++ [.ref kl])) := by rw [hR]; simp
      refine Sub.last hR' (by simpa using (by lia : ks.length ≤ 1000)) ?_
      refine i23 _ _ rfl hl ?_
      repeat' walk_at "st"
      refine i13 _ hl (by simp; lia) ?_
      repeat' walk_at "st"
      · exact get_set_ne (by lia) (K.get0 hk)
      · refine i38 _ ks kl rfl (K.setNew hkl2) (get_set_ne (by lia) hR) ?_ ?_ ?_ (by lia) (And.intro (by lia) hlt')
        · rw [hst1]; exact all2_set hall fun j hj => (hne j hj).2.1
        · rw [hst1]; unfold IsI; rw [List.map_append]; exact get_set_self hl
        · intro j hj
          have := hne j hj
          simp only [List.length_set]; exact this
  · intro loc H' hr63
    refine x38 hr63 ?_; try clear hr63; intro o ks kl eq71 K hR hall hl hne hkl1 ht72; subst eq71; refine x02 ht72 ?_; clear ht72; intro hkl2 hic
    repeat' walk_at "st"
    rw [List.length_map, List.take_length] at hall hl
    exact q _ _ K (by lia) (i12 (ks ++ [kl]) hR (hall.append (.cons hl .nil)))
theorem text_of_call (T : Tops c) (hq : c.q = true) {k : Nat} {rows : List (List Int)} {Q : Post MV} (hk : IsR H k rows) (hz : rows.length ≤ 8) (hr : ∀ r ∈ rows, r.length ≤ 100) (q : ∀ k' H', Keep [] H H' → H.length ≤ k' → IsI H' k' (joinRows rows) → Q (.ref k') H') :
    Cl c (n + 1) (.ref 293) [.ref k] H Q := by
  refine x11 T.rowend fun t hG => ?_
  refine T.call 34 ["rows"] ["codes", "place"] rfl ⟨rfl, rfl, rfl, rfl, by decide, by decide⟩ rfl (fun _ _ _ _ _ _ => binds1 fun _ => (by kernel_rfl)) ?_
  (dsimp only [mkLoc, List.zip, List.zipWith, List.map, List.cons_append, List.nil_append]; repeat' walk_at "st")
  refine Ex1.for (Src.range hq (T.nogl 1 rfl) ?_)
  repeat' walk_at "st"
  refine Cl.lenR (IsR.keep hk Keep.app) (by lia) ?_
  repeat' walk_at "st"
  refine i03 (by lia) (by lia) ?_
  have hkl := hk.lt
  refine Loop.inv (fun i loc H' => ∃ o acc, loc = ([("rows", some (.ref k)), ("codes", some (.ref H.length)), ("place", o)] : Loc) ∧ Keep [] H H' ∧ IsI H' H.length acc ∧ acc = joinRows (rows.take i) ∧ acc.length ≤ 101 * i ∧ i ≤ rows.length) _ ?_ ?_ (i26 none ([]) rfl Keep.app get_new rfl (by simp) (Nat.zero_le _))
  · intro i v loc H' hi hr64
    refine x26 hr64 ?_; try clear hr64; intro o acc eq73 K hl ha hal hic; subst eq73
    refine x02 (upto_get hi) fun eq74 hlt => ?_; subst eq74
    have hlt' : i < rows.length := by simpa using hlt
    have hx : rows[(i : Int).toNat]? = some rows[i] := by simp [hlt']
    have hrow := hr rows[i] (by simp)
    have hj : joinRows (rows.take (i + 1)) = acc ++ (if rows.take i = [] then [] else [10]) ++ rows[i] := by rw [take_snoc (x := rows[i]) (by simp), joinRows_snoc, ha]
    have hte : rows.take i = [] ↔ i = 0 := by rw [List.take_eq_nil_iff]; constructor <;> intro h; (rcases h with h | h; exact h; rw [h] at hlt'; simp at hlt'); exact .inl h
    refine i12 _ (by (with_reducible repeat constructor)) ?_
    repeat' walk_at "st"
    refine ⟨fun e => ?_, fun e => ?_⟩
    · rw [if_neg (by rw [hte]; simpa using Nat.ne_of_gt (by simpa using e))] at hj
      repeat' walk_at "st"
      refine i13 _ hl (by simp; lia) ?_
      have hl2 : IsI (H'.set H.length (.list (acc.map .int ++ [.int 10]))) H.length (acc ++ [10]) := by unfold IsI; rw [List.map_append]; exact get_set_self hl
      have K2 : Keep [] H (H'.set H.length (.list (acc.map .int ++ [.int 10]))) := K.setNew (Nat.le_refl _)
      repeat' walk_at "st"
      refine Sub.itemR (hk.keep K2) (by lia) (by lia) hx fun j hj' => ?_
      refine i35 _ _ _ rfl hl2 hj' (by simp; lia) ?_
      repeat' walk_at "st"
      · trivial
      · exact i26 _ _ rfl (K2.setNew (Nat.le_refl _)) (get_set_self hl2) (by rw [hj]) (by simp; lia) hlt'
    · rw [if_pos (by rw [hte]; simpa using e)] at hj
      repeat' walk_at "st"
      refine Sub.itemR (hk.keep K) (by lia) (by lia) hx fun j hj' => ?_
      refine i35 _ _ _ rfl hl hj' (by lia) ?_
      repeat' walk_at "st"
      · trivial
      · exact i26 _ _ rfl (K.setNew (Nat.le_refl _)) (get_set_self hl) (by rw [hj]; simp) (by simp; lia) hlt'
  · intro loc H' hr65
    refine x26 hr65 ?_; try clear hr65; intro o acc eq75 K hl ha hal hic; subst eq75
    repeat' walk_at "st"
    refine q _ _ K (Nat.le_refl _) ?_
    rw [ha] at hl
    simpa [upto] using hl
theorem law_grid_call (T : Tops c) (hq : c.q = true) {k : Nat} {row : List Int} {Q : Post MV} (hk : IsI H k row) (hz : row.length ≤ 200) (q : ∀ k' H', Keep [] H H' → H.length ≤ k' → IsI H' k' (gridOf row) → Q (.ref k') H') :
    Cl c (n + 1) (.ref 691) [.ref k] H Q := by
  refine T.call 70 ["row"] ["found", "code"] rfl ⟨rfl, rfl, rfl, rfl, by decide, by decide⟩ rfl (fun _ _ _ _ _ _ => binds1 fun _ => (by kernel_rfl)) ?_
  (dsimp only [mkLoc, List.zip, List.zipWith, List.map, List.cons_append, List.nil_append]; repeat' walk_at "st")
  refine Ex1.for (Src.listI hq ?_)
  repeat' walk_at "st"
  refine Loop.inv (fun i loc H' => ∃ o ka acc, loc = ([("row", some (.ref k)), ("found", some (.ref ka)), ("code", o)] : Loc) ∧ Keep [] H H' ∧ H.length ≤ ka ∧ IsI H' ka acc ∧ acc = gridOf (row.take i) ∧ acc.length ≤ 4 * i ∧ i ≤ row.length) _ ?_ ?_ (i37 none _ ([]) rfl Keep.app (Nat.le_refl _) get_new rfl (by simp) (Nat.zero_le _))
  · intro i v loc H' hi hr66
    refine x37 hr66 ?_; try clear hr66; intro o ka acc eq76 K hka hl ha hal hic; subst eq76
    refine x12 (map_get hi) fun x eq77 hx => ?_; subst eq77
    have hlt' : i < row.length := (List.getElem?_eq_some_iff.mp hx).1
    have hst := gridOf_snoc (row.take i) x
    rw [← take_snoc hx, ← ha] at hst
    unfold gridStep at hst
    refine i12 _ (by (with_reducible repeat constructor)) ?_
    repeat' walk_at "st"
    refine ⟨fun e => ?_, fun e => ?_⟩
    · rw [if_pos (by simpa using e)] at hst
      repeat' walk_at "st"
      · exact Keep.get0 (by walk_at "kp") (Keep.get0 K hk)
      · refine i37 _ _ _ rfl (by walk_at "kp") (Keep.lenLe (by walk_at "kp")) get_new ?_ ?_ hlt'
        · rw [hst, t_4 acc.length]
        · simp; lia
    · rw [if_neg (by simpa using e)] at hst
      repeat' walk_at "st"
      · exact Keep.get0 (by walk_at "kp") (Keep.get0 K hk)
      · exact i37 _ _ _ rfl (by walk_at "kp") (Keep.lenLe (by walk_at "kp")) get_new hst.symm (by simp; lia) hlt'
  · intro loc H' hr67
    refine x37 hr67 ?_; try clear hr67; intro o ka acc eq78 K hka hl ha hal hic; subst eq78
    repeat' walk_at "st"
    refine q _ _ K hka ?_
    rw [ha] at hl
    simpa using hl
end
end
section
section
variable {c : Cx} {n : Nat} {sc : Scope} {loc : Loc} {H H' : List MO}
theorem law_joined_call (T : Tops c) (hq : c.q = true) {k : Nat} {rows : List (List Int)} {Q : Post MV} (hk : IsR H k rows) (hz : rows.length ≤ 8) (hr : ∀ r ∈ rows, r.length ≤ 100) (q : ∀ k' H', Keep [] H H' → H.length ≤ k' → IsI H' k' (joinRows rows) → Q (.ref k') H') :
    Cl c (n + 1) (.ref 705) [.ref k] H Q := by
  refine T.call 72 ["lines"] ["codes", "place", "line"] rfl ⟨rfl, rfl, rfl, rfl, by decide, by decide⟩ rfl (fun _ _ _ _ _ _ => binds1 fun _ => (by kernel_rfl)) ?_
  (dsimp only [mkLoc, List.zip, List.zipWith, List.map, List.cons_append, List.nil_append]; repeat' walk_at "st")
  refine Ex1.forEnum hq (T.nogl 7 rfl) ?_
  repeat' walk_at "st"
  refine x12 hk ?_; try clear hk; intro ks hks all
  refine i23 _ _ rfl (get_app hks) ?_
  refine LoopE.inv (fun i loc H' => ∃ o o' ka acc, loc = ([("lines", some (.ref k)), ("codes", some (.ref ka)), ("place", o), ("line", o')] : Loc) ∧ Keep [] H H' ∧ H.length ≤ ka ∧ IsI H' ka acc ∧ acc = joinRows (rows.take i) ∧ acc.length ≤ 101 * i ∧ i ≤ rows.length) _ 0 ?_ ?_ (i47 none none _ ([]) rfl Keep.app (Nat.le_refl _) get_new rfl (by simp) (Nat.zero_le _))
  · intro i v loc H' hi hr79
    refine x47 hr79 ?_; try clear hr79; intro o o' ka acc eq83 K hka hl ha hal hic; subst eq83
    rw [Nat.zero_add] at ha hal hic ⊢
    rw [List.getElem?_map, Option.map_eq_some_iff] at hi
    refine x12 hi ?_; try clear hi; intro j hj eq84; subst eq84
    refine x12 (all.get hj) fun row hrow hjr => ?_
    have hlt' : i < rows.length := (List.getElem?_eq_some_iff.mp hrow).1
    have hrl := hr row (List.mem_of_getElem? hrow)
    have hjn : joinRows (rows.take (i + 1)) = acc ++ (if rows.take i = [] then [] else [10]) ++ row := by rw [take_snoc hrow, joinRows_snoc, ha]
    have hte : rows.take i = [] ↔ i = 0 := by rw [List.take_eq_nil_iff]; constructor <;> intro h; (rcases h with h | h; exact h; rw [h] at hlt'; simp at hlt'); exact .inl h
    refine i23 _ _ (by (with_reducible repeat constructor)) (by (with_reducible repeat constructor)) ?_
    repeat' walk_at "st"
    refine ⟨fun e => ?_, fun e => ?_⟩
    · rw [if_neg (by rw [hte]; simpa using Nat.ne_of_gt (by simpa using e))] at hjn
      repeat' walk_at "st"
      · exact Keep.get0 (by walk_at "kp") (K.get0 hks)
      · exact i47 _ _ _ _ rfl (by walk_at "kp") (Keep.lenLe (by walk_at "kp")) get_new hjn.symm (by simp; lia) hlt'
    · rw [if_pos (by rw [hte]; simpa using e)] at hjn
      repeat' walk_at "st"
      · exact Keep.get0 (by walk_at "kp") (K.get0 hks)
      · exact i47 _ _ _ _ rfl (by walk_at "kp") (Keep.lenLe (by walk_at "kp")) get_new hjn.symm (by simp; lia) hlt'
  · intro loc H' hr80
    refine x47 hr80 ?_; try clear hr80; intro o o' ka acc eq85 K hka hl ha hal hic; subst eq85
    repeat' walk_at "st"
    refine q _ _ K hka ?_
    rw [ha] at hl
    have := all.length
    simpa [this] using hl
/-- one draw: what is drawn is in its bounds -/
theorem law_draw_call (T : Tops c) {k : Nat} {deck : List Int} {many : Int} {Q : Post MV} (hk : IsI H k deck) (hz : deck.length ≤ 900) (hm : 0 < many) (q : ∀ (d : Nat) deck' H', Keep [k] H H' → IsI H' k deck' → deck'.length ≤ deck.length → (d : Int) < many → Q (.int d) H') :
    Cl c (n + 1) (.ref 679) [.ref k, .int many] H Q := by
  refine T.call 68 ["deck", "many"] [] rfl ⟨rfl, rfl, rfl, rfl, by decide, by decide⟩ rfl (fun _ _ _ _ _ _ => binds2 fun _ _ => (by kernel_rfl)) ?_
  (dsimp only [mkLoc, List.zip, List.zipWith, List.map, List.cons_append, List.nil_append]; repeat' walk_at "st")
  refine Cmp.neI (ys := []) (get_app hk) get_new ?_
  refine ⟨fun e => ?_, fun e => ?_⟩
  · cases deck with
    | nil => simp at e
    | cons x deck =>
      refine Ev.binop (Ev.pop ?_)
      repeat' walk_at "st"
      refine i34 _ _ _ rfl (get_app hk) (by simp at hz ⊢; lia) ?_
      repeat' walk_at "st"
      refine Bin.mod hm ?_
      repeat' walk_at "st"
      have h0 : 0 ≤ x % many := Int.emod_nonneg _ (by lia)
      have h1 : x % many < many := Int.emod_lt_of_pos _ hm
      have := q (x % many).toNat deck ((H ++ [MO.list []]).set k (MO.list (deck.map MV.int))) (Keep.trans Keep.app (Keep.set (by simp))) (get_set_self (get_app hk)) (by simp) (by lia)
      rw [show ((x % many).toNat : Int) = x % many by lia] at this
      exact this
  · repeat' walk_at "st"
    exact q 0 deck _ Keep.app (get_app hk) (Nat.le_refl _) hm
/-- a line of the law's own -/
theorem law_line_call (T : Tops c) (hq : c.q = true) {k ks : Nat} {deck signs : List Int} {Q : Post MV} (hk : IsI H k deck) (hz : deck.length ≤ 900) (hs : IsI H ks signs) (hs0 : signs ≠ []) (hsz : signs.length ≤ 5) (hne : ks ≠ k)
    (q : ∀ k' deck' line H', Keep [k] H H' → IsI H' k deck' → deck'.length ≤ deck.length → H.length ≤ k' → IsI H' k' line → line.length ≤ 6 → (∀ x ∈ line, x ∈ signs) → Q (.ref k') H') :
    Cl c (n + 2) (.ref 684) [.ref k, .ref ks] H Q := by
  have hspos : 0 < signs.length := List.length_pos_iff.mpr hs0
  refine T.call 69 ["deck", "signs"] [] rfl ⟨rfl, rfl, rfl, rfl, by decide, by decide⟩ rfl (fun _ _ _ _ _ _ => binds2 fun _ _ => (by kernel_rfl)) ?_
  (dsimp only [mkLoc, List.zip, List.zipWith, List.map, List.cons_append, List.nil_append]; repeat' walk_at "st")
  refine Ev.comp [("deck", .ref k), ("signs", .ref ks)] (by show compOk _ _ _ ["deck", "signs"] = true; decide +kernel) (.cons (by (with_reducible repeat constructor)) (.cons (by (with_reducible repeat constructor)) .nil)) ?_
  refine Src.range hq (T.nogl 1 rfl) ?_
  repeat' walk_at "st"
  refine law_draw_call T hk hz (by decide) fun d deck₁ H₁ K₁ hk₁ hd₁ hdm => ?_
  repeat' walk_at "st"
  refine i04 (by lia) (by lia) trivial ?_
  have hs₁ : IsI H₁ ks signs := K₁.get (by simpa using hne) hs
  have hkl := hk₁.lt
  have hksl := hs₁.lt
  refine CompL.inv (fun i acc H' => i ≤ d ∧ Keep [k] H H' ∧ IsI H' ks signs ∧ ∃ deck', IsI H' k deck' ∧ deck'.length ≤ deck.length ∧ ∃ line : List Int, acc = line.map .int ∧ line.length = i ∧ ∀ x ∈ line, x ∈ signs) _ ?_ ?_ get_new (i04 (Nat.zero_le _) (K₁.trans Keep.app) (get_app hs₁) (i13 deck₁ (get_app hk₁) hd₁ (i13 ([]) rfl rfl (by simp))))
  · intro i v acc H' hv hD hr81
    refine x04 hr81 ?_; try clear hr81; intro hi K hs' ht86; refine x13 ht86 ?_; clear ht86; intro deck' hk' hd' ht87; refine x13 ht87 ?_; clear ht87; intro line eq88 hl hm; subst eq88
    refine x02 (upto_get hv) fun eq89 hlt => ?_; subst eq89
    refine Ifs.nil ⟨fun _ => ?_, fun h => (by cases h)⟩
    dsimp only [compLoc, List.map]
    repeat' walk_at "st"
    refine law_draw_call T hk' (by lia) (by lia) fun d₂ deck₂ H₂ K₂ hk₂ hd₂ hdm₂ => ?_
    repeat' walk_at "st"
    have hs₂ : IsI H₂ ks signs := K₂.get (by simpa using hne) hs'
    have hlt2 : d₂ < signs.length := by lia
    refine Sub.itemI hs₂ (by lia) (by lia) (v := signs[d₂]) (by simp [hlt2]) ?_
    have hD₂ := K₂.get (by simp; lia) hD
    have hHk : H.length ≤ H₁.length := K₁.1
    refine i07 hD₂ (by simp; lia) trivial (by lia) ?_ ?_ (i13 deck₂ ?_ (by lia) (i13 (line ++ [signs[d₂]]) (by simp) (by simp [hl]) ?_))
    · exact (K.trans K₂).setNew hHk
    · exact get_set_ne (by lia) hs₂
    · exact get_set_ne (by lia) hk₂
    · intro x hx
      rcases List.mem_append.mp hx with hx | hx
      · exact hm x hx
      · simp at hx; subst hx; simp
  · intro acc H' hD hr82
    refine x04 hr82 ?_; try clear hr82; intro hi K hs' ht90; refine x13 ht90 ?_; clear ht90; intro deck' hk' hd' ht91; refine x13 ht91 ?_; clear ht91; intro line eq92 hl hm; subst eq92
    repeat' walk_at "st"
    exact q _ _ _ _ K hk' hd' K₁.1 hD (by lia) hm
end
end
section
/-! numbers as text -/
noncomputable def numStr (number : Int) (wide : Nat) : Str := Txt.rjust (Str.ofString (toString number)) wide ++ (" " : Str)
noncomputable def numText (number : Int) (wide : Nat) : List Int := (numStr number wide).cps.toList.map fun (x : Nat) => (x : Int)
theorem numStr_ok {number : Int} {wide : Nat} (h1 : 9 ≤ number) (h2 : number ≤ 12) (h3 : 1 ≤ wide) (h4 : wide ≤ 2) :
    ((numStr number wide).cps.toList.all (· < 128)) = true ∧ (numStr number wide).cps.toList.length ≤ 3 ∧ (Txt.rjust (Str.ofString (toString number)) wide).length ≤ 3 ∧ (Str.ofString (toString number)).length ≤ 3 ∧ PadOk wide = true ∧ (∀ x ∈ numText number wide, x ≠ 9 ∧ x ≠ 10) ∧ number.natAbs < 10000 := by
  have hn : number = 9 ∨ number = 10 ∨ number = 11 ∨ number = 12 := by lia
  have hw : wide = 1 ∨ wide = 2 := by lia
  rcases hn with rfl | rfl | rfl | rfl <;> rcases hw with rfl | rfl <;> decide +kernel
theorem numWide {k : Nat} (h1 : 1 ≤ k) (h2 : k ≤ 4) : (Str.ofString (toString ((9 : Int) + k - 1))).length = if k = 1 then 1 else 2 := by
  have : k = 1 ∨ k = 2 ∨ k = 3 ∨ k = 4 := by lia
  rcases this with rfl | rfl | rfl | rfl <;> decide +kernel
noncomputable def dueOf (word : Str) (line : List Int) (low high : Nat) (number : Int) (wide : Nat) : List Int :=
  if word == "string" then line.take low ++ List.replicate (low - line.length) 32 ++ [88, 89] ++ line.drop high
  else if word == "number" then line.take low ++ List.replicate (low - line.length) 32 ++ numText number wide ++ line.drop high
  else if line.length ≤ low then line
  else if word == "open" then line.take low ++ List.replicate (high - low) 32 ++ line.drop low
  else if word == "clear" then line.take low ++ (if line.drop high = [] then [] else List.replicate (high - low) 32 ++ line.drop high)
  else line.take low ++ line.drop high

theorem nf {b : Bool} (h : b = false) : ¬ b = true := h ▸ Bool.false_ne_true
theorem le_dec {a b : Nat} (h : decide ((a : Int) ≤ b) = true) : a ≤ b := Int.ofNat_le.mp (of_decide_eq_true h)
section
variable {word : Str} {line : List Int} {low high : Nat} {number : Int} {wide : Nat}
theorem due1 (e : (word == "string") = true) : dueOf word line low high number wide = line.take low ++ List.replicate (low - line.length) 32 ++ [88, 89] ++ line.drop high := if_pos e
theorem due2 (e1 : (word == "string") = false) (e : (word == "number") = true) : dueOf word line low high number wide = line.take low ++ List.replicate (low - line.length) 32 ++ numText number wide ++ line.drop high := (if_neg (nf e1)).trans (if_pos e)
theorem due_ (e1 : (word == "string") = false) (e2 : (word == "number") = false) : dueOf word line low high number wide = if line.length ≤ low then line
  else if word == "open" then line.take low ++ List.replicate (high - low) 32 ++ line.drop low
  else if word == "clear" then line.take low ++ (if line.drop high = [] then [] else List.replicate (high - low) 32 ++ line.drop high)
  else line.take low ++ line.drop high := (if_neg (nf e1)).trans (if_neg (nf e2))
theorem due3 (e1 : (word == "string") = false) (e2 : (word == "number") = false) (h : line.length ≤ low) : dueOf word line low high number wide = line := (due_ e1 e2).trans (if_pos h)
theorem due4 (e1 : (word == "string") = false) (e2 : (word == "number") = false) (h : low < line.length) (e : (word == "open") = true) : dueOf word line low high number wide = line.take low ++ List.replicate (high - low) 32 ++ line.drop low :=
  (due_ e1 e2).trans ((if_neg (Nat.not_le.mpr h)).trans (if_pos e))
theorem due5 (e1 : (word == "string") = false) (e2 : (word == "number") = false) (h : low < line.length) (e4 : (word == "open") = false) (e : (word == "clear") = true) : dueOf word line low high number wide = line.take low ++ (if line.drop high = [] then [] else List.replicate (high - low) 32 ++ line.drop high) :=
  (due_ e1 e2).trans ((if_neg (Nat.not_le.mpr h)).trans ((if_neg (nf e4)).trans (if_pos e)))
theorem due6 (e1 : (word == "string") = false) (e2 : (word == "number") = false) (h : low < line.length) (e4 : (word == "open") = false) (e : (word == "clear") = false) : dueOf word line low high number wide = line.take low ++ line.drop high :=
  (due_ e1 e2).trans ((if_neg (Nat.not_le.mpr h)).trans ((if_neg (nf e4)).trans (if_neg (nf e))))
end

section
variable {c : Cx} {n : Nat} {sc : Scope} {loc : Loc} {H H' : List MO}
theorem signs_get {x : Str} {i : Nat} {v : MV} (h : (signs x)[i]? = some v) : ∃ a, v = .str ⟨#[a]⟩ ∧ x.cps.toList[i]? = some a := by
  unfold signs at h
  rw [List.getElem?_map, Option.map_eq_some_iff] at h
  refine x12 h ?_; try clear h; intro a h1 h2
  exact i12 a h2.symm h1
/-- the codes of a text's signs -/
theorem CompL.ords (T : Tops c) {x : Str} {y : Str} {py pc po : Pos} {o : Option MV} {R : List MO → Prop} (hz : x.cps.toList.length ≤ 900) (fin : ∀ H', Keep [] H H' → IsI H' H.length (x.cps.toList.map fun (a : Nat) => (a : Int)) → R H')
    (hl : sc.names.lookup ("ord" : Str) = some .globalImplicit := by rfl) (hd : (y == ("__debug__" : Str)) = false := by decide) : CompL c n sc y (.Call (.Name "ord" po) [.Name y py] [] pc) [] (fun _ => True) H.length R (signs x) [] ((y, o) :: []) (H ++ [.list []]) := by
  refine CompL.inv (fun i acc H' => i ≤ x.cps.toList.length ∧ Keep [] H H' ∧ acc = (x.cps.toList.take i).map fun (a : Nat) => MV.int (a : Int)) _ ?_ ?_ get_new (i03 (Nat.zero_le _) Keep.app rfl)
  · intro i v acc H' hv hD hr1
    refine x03 hr1 ?_; try clear hr1; intro hi K eq3; subst eq3
    refine x12 (signs_get hv) fun a eq4 ha => ?_; subst eq4
    have hlt := (List.getElem?_eq_some_iff.mp ha).1
    refine Ifs.nil ⟨fun _ => ?_, fun h => (by cases h)⟩
    refine Ev.bcall (T.nogl 9 rfl) boot_ord (Evs.cons (Ev.name .head (Evs.nil (Cl.ord ?_)) hd)) (hk := hl)
    refine i06 hD (by simp; lia) trivial hlt (K.setNew (Nat.le_refl _)) ?_
    rw [take_snoc ha]; simp
  · intro acc H' hD hr2
    refine x03 hr2 ?_; try clear hr2; intro hi K eq5; subst eq5
    have e : (signs x).length = x.cps.toList.length := by unfold signs; simp
    rw [e, List.take_length] at hD
    refine fin H' K ?_
    unfold IsI
    rw [List.map_map]
    exact hD
theorem law_due_call (T : Tops c) (hq : c.q = true) {k : Nat} {word : Str} {line : List Int} {low high : Nat} {number : Int} {wide : Nat} {Q : Post MV} (hk : IsI H k line) (hz : line.length ≤ 200) (hlo : low ≤ high) (hhi : high ≤ 200)
    (h1 : 9 ≤ number) (h2 : number ≤ 12) (h3 : 1 ≤ wide) (h4 : wide ≤ 2)
    (q : ∀ k' H', Keep [] H H' → (k' = k ∨ H.length ≤ k') → IsI H' k' (dueOf word line low high number wide) → Q (.ref k') H') :
    Cl c (n + 1) (.ref 724) [.str word, .ref k, .int low, .int high, .int number, .int wide] H Q := by
  refine hold fun Xh oh => ?_
  refine x07 (numStr_ok h1 h2 h3 h4) fun n1 n2 n3 n4 n5 n6 n7 => ?_
  refine oh ?_
  refine T.call 75 ["word", "line", "low", "high", "number", "wide"] ["text"] rfl ⟨rfl, rfl, rfl, rfl, by decide, by decide⟩ rfl (fun _ _ _ _ _ _ => binds6 fun _ _ _ _ _ _ => (by kernel_rfl)) ?_
  (dsimp only [mkLoc, List.zip, List.zipWith, List.map, List.cons_append, List.nil_append]; repeat' walk_at "st")
  refine ⟨fun e1 => ?_, fun e1 => ?_⟩
  · repeat' walk_at "st"
    subst_vars
    refine q _ _ (by walk_at "kp") (by first | exact Or.inl rfl | exact Or.inr (Keep.lenLe (by walk_at "kp"))) ?_
    refine' IsI.of (by walk_at "at") ?_
    rw [due1 e1, pick_take, pick_drop, t_max low line.length]
  · repeat' walk_at "st"
    refine ⟨fun e2 => ?_, fun e2 => ?_⟩
    · repeat' walk_at "st"
      refine Ex1.comp [] (by decide +kernel) .nil ?_ ?_
      · refine Src.str hq ?_
        repeat' walk_at "st"
        refine Ev.rjust ?_
        repeat' walk_at "st"
        refine Cl.str n7 ?_
        refine i12 _ rfl ?_
        repeat' walk_at "st"
        refine Cl.rjust n5 ?_
        repeat' walk_at "st"
        refine Bin.adds ?_ ?_
        · have : (Str.ofString " ").length = 1 := by decide +kernel
          lia
        refine i14 _ rfl (by rw [← Array.all_toList]; exact n1) trivial ?_
        refine CompL.ords T (by unfold numStr at n2; lia) (fun H₁ K₁ h₁ => ?_)
        have h₁' : IsI H₁ H.length (numText number wide) := h₁
        have hnl : (numText number wide).length ≤ 3 := by unfold numText; simpa using n2
        clear h₁
        repeat' walk_at "st"
        subst_vars
        refine q _ _ (by walk_at "kp") (by first | exact Or.inl rfl | exact Or.inr (Keep.lenLe (by walk_at "kp"))) ?_
        refine' IsI.of (by walk_at "at") ?_
        rw [due2 e1 e2, pick_take, pick_drop, t_max low line.length]
      · intro env he
        unfold swapsWith Env.kindOf Env.blockKind
        rw [he]; rfl
    · repeat' walk_at "st"
      refine ⟨fun e3 => ?_, fun e3 => ?_⟩
      · repeat' walk_at "st"
        exact q _ _ (by walk_at "kp") (by first | exact Or.inl rfl | exact Or.inr (Keep.lenLe (by walk_at "kp"))) (by rw [due3 e1 e2 (le_dec e3)]; exact hk)
      · have h3 := nle_dec e3
        repeat' walk_at "st"
        refine ⟨fun e4 => ?_, fun e4 => ?_⟩
        · repeat' walk_at "st"
          subst_vars
          refine q _ _ (by walk_at "kp") (by first | exact Or.inl rfl | exact Or.inr (Keep.lenLe (by walk_at "kp"))) ?_
          refine' IsI.of (by walk_at "at") ?_
          rw [due4 e1 e2 h3 e4, pick_take, pick_drop, t_sub high low]
        · repeat' walk_at "st"
          refine ⟨fun e5 => ?_, fun e5 => ?_⟩
          · repeat' walk_at "st"
            refine Cmp.neI (ys := []) (by walk_at "at") get_new ?_
            refine ⟨fun e => ?_, fun e => ?_⟩
            · repeat' walk_at "st"
              subst_vars
              rw [pick_drop] at e
              refine q _ _ (by walk_at "kp") (by first | exact Or.inl rfl | exact Or.inr (Keep.lenLe (by walk_at "kp"))) ?_
              refine' IsI.of (by walk_at "at") ?_
              rw [due5 e1 e2 h3 e4 e5, if_neg (by simpa using e), pick_take, pick_drop, t_sub high low]
            · repeat' walk_at "st"
              subst_vars
              rw [pick_drop] at e
              refine q _ _ (by walk_at "kp") (by first | exact Or.inl rfl | exact Or.inr (Keep.lenLe (by walk_at "kp"))) ?_
              refine' IsI.of (by walk_at "at") ?_
              rw [due5 e1 e2 h3 e4 e5, if_pos (by simpa using e), pick_take]
          · repeat' walk_at "st"
            subst_vars
            refine q _ _ (by walk_at "kp") (by first | exact Or.inl rfl | exact Or.inr (Keep.lenLe (by walk_at "kp"))) ?_
            refine' IsI.of (by walk_at "at") ?_
            rw [due6 e1 e2 h3 e4 e5, pick_take, pick_drop]
theorem Sub.lastR {value slice} {a : Nat} {rows : List (List Int)} {last : List Int} {Q : Post MV} (ha : IsR H a (rows ++ [last])) (hz : rows.length ≤ 900) (q : ∀ j, IsI H j last → Q (.ref j) H)
    (hs : ∀ l u, subscripted slice false (.ref l) (.int (-1) u) = operate [.ref l, .int (-1) u] (getItem (.ref l) (.int (-1) u)) := by intro _ _; with_unfolding_all rfl) : Sub c n value slice (.ref a) (.int (-1)) H Q := by
  refine hold fun Xh oh => ?_
  refine x12 ha ?_; try clear ha; intro ks e all
  have hl := all.length
  obtain ⟨ks', j, rfl⟩ : ∃ ks' j, ks = ks' ++ [j] := by
    refine i21 ks.dropLast (ks.getLast (by intro q; rw [q] at hl; simp at hl)) ?_
    exact (List.dropLast_concat_getLast _).symm
  simp at hl
  refine x12 (all.get (k := ks'.length) (a := j) (by simp)) fun b hb hr => ?_
  rw [hl] at hb
  simp at hb
  subst hb
  refine oh ?_
  exact Sub.last (its := ks'.map .ref) (by rw [e]; simp) (by simp; lia) (q j hr) hs
/-- a place's row and column -/
noncomputable def spotOf (codes : List Int) (p : Nat) : Nat × Nat := ((rowsOf (codes.take (p - 1))).length - 1, (gridOf (rowsSt (codes.take (p - 1))).2).length)
theorem law_spot_call (T : Tops c) (hq : c.q = true) {k : Nat} {codes : List Int} {p : Nat} {Q : Post MV} (hk : IsI H k codes) (hz : codes.length ≤ 200) (hp : 1 ≤ p)
    (q : ∀ kt H', Keep [] H H' → H'[kt]? = some (.tuple [.int ((spotOf codes p).1 : Nat), .int ((spotOf codes p).2 : Nat)]) → Q (.ref kt) H') :
    Cl c (n + 2) (.ref 719) [.ref k, .int p] H Q := by
  refine T.call 74 ["codes", "place"] ["ahead"] rfl ⟨rfl, rfl, rfl, rfl, by decide, by decide⟩ rfl (fun _ _ _ _ _ _ => binds2 fun _ _ => (by kernel_rfl)) ?_
  (dsimp only [mkLoc, List.zip, List.zipWith, List.map, List.cons_append, List.nil_append]; repeat' walk_at "st")
  rename_i zs ez lz
  have ez' : zs = codes.take (p - 1) := by rw [ez, pick_takeI _ _ (by lia)]; congr 1; lia
  refine law_lines_call T hq get_new (by lia) fun k₁ H₁ K₁ hf₁ h₁ => ?_
  have hb := rowsSt_le zs
  have hlen : (rowsOf zs).length = (rowsSt zs).1.length + 1 := by unfold rowsOf; simp
  repeat' walk_at "st"
  refine Cl.lenR h₁ (by lia) ?_
  repeat' walk_at "st"
  refine Sub.lastR h₁ (by lia) fun j hj => ?_
  repeat' walk_at "st"
  have hg := gridOf_le (rowsSt zs).2
  refine law_grid_call T hq hj (by lia) fun k₂ H₂ K₂ hf₂ h₂ => ?_
  repeat' walk_at "st"
  refine q _ _ (by walk_at "kp") ?_
  rw [get_new]
  unfold spotOf
  rw [← ez', hlen]
  simp
end
end
section
noncomputable def wideOf (k : Nat) : Nat := if k = 1 then 1 else 2
noncomputable def numberedRows (rows : List (List Int)) (f l : Nat) : List (List Int) := rows.mapIdx fun i r => replacedBy r f l (numText (9 + i) (wideOf rows.length))
section
variable {c : Cx} {n : Nat} {sc : Scope} {loc : Loc} {H H' : List MO}
theorem numbered_call (T : Tops c) (hq : c.q = true) {k : Nat} {rows : List (List Int)} {f l : Nat} {Q : Post MV} (hk : IsR H k rows) (hz : rows.length ≤ 4) (hz0 : 1 ≤ rows.length) (hr : ∀ r ∈ rows, r.length ≤ 100) (hf : f ≤ 240)
    (q : ∀ k' H', Keep [] H H' → H.length ≤ k' → IsR H' k' (numberedRows rows f l) → Q (.ref k') H') :
    Cl c (n + 7) (.ref 258) [.ref k, .int f, .int l, .int 9, .int 4] H Q := by
  refine T.call 31 ["rows", "first", "last", "begin", "tab"] ["wide", "found", "place", "text"] rfl ⟨rfl, rfl, rfl, rfl, by decide, by decide⟩ rfl (fun _ _ _ _ _ _ => binds5 fun _ _ _ _ _ => (by kernel_rfl)) ?_
  have hkl := hk.lt
  have hw := numWide hz0 hz
  (dsimp only [mkLoc, List.zip, List.zipWith, List.map, List.cons_append, List.nil_append]; repeat' walk_at "st")
  refine Cl.lenR hk (by lia) ?_
  repeat' walk_at "st"
  refine Cl.str (by lia) ?_
  repeat' walk_at "st"
  refine Cl.lenS (by rw [hw]; split <;> lia) ?_
  rw [hw]
  repeat' walk_at "st"
  refine Ex1.for (Src.range hq (T.nogl 1 rfl) ?_)
  repeat' walk_at "st"
  refine Cl.lenR (hk.keep Keep.app) (by lia) ?_
  repeat' walk_at "st"
  refine i03 (by lia) (by lia) ?_
  refine Loop.inv (fun i loc H' => ∃ o o', loc = ([("rows", some (.ref k)), ("first", some (.int f)), ("last", some (.int l)), ("begin", some (.int 9)), ("tab", some (.int 4)), ("wide", some (.int ((if rows.length = 1 then 1 else 2 : Nat) : Int))), ("found", some (.ref H.length)), ("place", o), ("text", o')] : Loc) ∧
    Keep [] H H' ∧ i ≤ rows.length ∧ ∃ js : List Nat, H'[H.length]? = some (.list (js.map .ref)) ∧ All2 (IsI H') js ((numberedRows rows f l).take i) ∧ ∀ j ∈ js, j ≠ H.length) _ ?_ ?_ ⟨none, none, rfl, Keep.app, Nat.zero_le _, [], get_new, .nil, by simp⟩
  · intro i v loc H' hi hr1
    refine x24 hr1 ?_; try clear hr1; intro o o' eq3 K hic ht4; subst eq3; refine x13 ht4 ?_; clear ht4; intro js hD hjs hne
    refine hold fun Xh oh => ?_
    refine x02 (upto_get hi) fun eq5 hlt => ?_; subst eq5
    have hlt' : i < rows.length := by simpa using hlt
    have hx : rows[(i : Int).toNat]? = some rows[i] := by simp [hlt']
    have hrow := hr rows[i] (by simp)
    have hg : (numberedRows rows f l)[i]? = some (replacedBy rows[i] f l (numText (9 + i) (wideOf rows.length))) := by unfold numberedRows; rw [List.getElem?_mapIdx]; simp [hlt']
    have hjl := hjs.length
    have hnl : (numberedRows rows f l).length = rows.length := by unfold numberedRows; simp
    simp only [List.length_take, hnl] at hjl
    have hwb : 1 ≤ wideOf rows.length ∧ wideOf rows.length ≤ 2 := by unfold wideOf; split <;> lia
    refine x07 (numStr_ok (number := 9 + i) (wide := wideOf rows.length) (by lia) (by lia) hwb.1 hwb.2) fun n1 n2 n3 n4 n5 n6 n7 => ?_
    have hnt : (numText (9 + i) (wideOf rows.length)).length ≤ 3 := by unfold numText; simpa using n2
    refine oh ?_
    refine i12 _ (by (with_reducible repeat constructor)) ?_
    repeat' walk_at "st"
    refine Ev.rjust ?_
    repeat' walk_at "st"
    refine Cl.str n7 ?_
    refine i12 _ rfl ?_
    repeat' walk_at "st"
    refine Cl.rjust n5 ?_
    repeat' walk_at "st"
    refine Bin.adds ?_ ?_
    · have : (Str.ofString " ").length = 1 := by decide +kernel
      show (Txt.rjust _ ((wideOf rows.length : Nat) : Int)).length + _ ≤ 1000
      lia
    repeat' walk_at "st"
    refine hold fun Xh oh => ?_
    refine x12 hk fun ks hks all => ?_
    refine x12 (all2_get all (k := i) (b := rows[i]) (by simp)) fun j hjk hj₀ => ?_
    have hj := hj₀.keep K
    have hjne : j < H.length := hj₀.lt
    refine oh ?_
    refine Sub.item (K.get0 hks) (by lia) (by lia) (v := .ref j) (by simp [hjk]) ?_
    repeat' walk_at "st"
    refine Ev.comp [] (by decide +kernel) .nil ?_
    refine Src.str hq ?_
    repeat' walk_at "st"
    refine i14 _ rfl (by rw [← Array.all_toList]; exact n1) trivial ?_
    refine CompL.ords T (by unfold numStr wideOf at n2; lia) (fun H₁ K₁ h₁ => ?_)
    have h₁' : IsI H₁ H'.length (numText (9 + i) (wideOf rows.length)) := h₁
    clear h₁
    repeat' walk_at "st"
    refine replaced_call T hq (hj.keep K₁) hrow h₁' (by lia) hf fun k₂ H₂ K₂ hfr h₂ => ?_
    repeat' walk_at "st"
    have KK : Keep [] H' H₂ := K₁.trans K₂
    have hDlt := get_lt hD
    refine i13 _ (KK.get0 hD) (by simp; lia) ?_
    repeat' walk_at "st"
    · trivial
    · refine i24 _ _ rfl ((K.trans KK).setNew (Nat.le_refl _)) hlt' (i13 (js ++ [k₂]) ?_ ?_ ?_)
      · rw [List.map_append]; exact get_set_self (KK.get0 hD)
      · rw [take_snoc hg]
        refine (all2_set (all2_keep hjs KK (by simp)) hne).append (.cons (get_set_ne ?_ h₂) .nil)
        have := K₁.1
        rcases hfr with rfl | hfr <;> lia
      · intro a ha
        rcases List.mem_append.mp ha with ha | ha
        · exact hne a ha
        · simp at ha; subst ha
          have := K₁.1
          rcases hfr with rfl | hfr <;> lia
  · intro loc H' hr2
    refine x24 hr2 ?_; try clear hr2; intro o o' eq6 K hic ht7; subst eq6; refine x13 ht7 ?_; clear ht7; intro js hD hjs hne
    repeat' walk_at "st"
    have e : (upto (rows.length : Int)).length = (numberedRows rows f l).length := by unfold upto numberedRows; simp
    rw [e, List.take_length] at hjs
    exact q _ _ K (Nat.le_refl _) (i12 js hD hjs)
end
end
section
/-! the gap text -/
structure GapAt (H : List MO) (g dg kc : Nat) (cells : List Int) (gs ge : Int) : Prop where
  inst : H[g]? = some (.inst 459 dg)
  ns : H[dg]? = some (.ns [("room", .int 8), ("cells", .ref kc), ("gap_start", .int gs), ("gap_end", .int ge)])
  cells : IsI H kc cells
section
variable {H H' : List MO} {g dg kc : Nat} {cells : List Int} {gs ge : Int}
theorem GapAt.app {l : List MO} (G : GapAt H g dg kc cells gs ge) : GapAt (H ++ l) g dg kc cells gs ge := ⟨get_app G.inst, get_app G.ns, get_app G.cells⟩
theorem GapAt.keep (G : GapAt H g dg kc cells gs ge) (K : Keep [] H H') : GapAt H' g dg kc cells gs ge := ⟨K.get0 G.inst, K.get0 G.ns, K.get0 G.cells⟩
theorem GapAt.setNs (G : GapAt H g dg kc cells gs ge) (gs' ge' : Int) : GapAt (H.set dg (.ns [("room", .int 8), ("cells", .ref kc), ("gap_start", .int gs'), ("gap_end", .int ge')])) g dg kc cells gs' ge' :=
  ⟨get_set_of G.inst G.ns (by intro h; cases h), get_set_self G.ns, get_set_of G.cells G.ns (by intro h; cases h)⟩
theorem GapAt.setCells (G : GapAt H g dg kc cells gs ge) (cells' : List Int) : GapAt (H.set kc (.list (cells'.map .int))) g dg kc cells' gs ge :=
  ⟨get_set_of G.inst G.cells (by intro h; cases h), get_set_of G.ns G.cells (by intro h; cases h), get_set_self G.cells⟩
end
/-- a gap text that holds this text -/
noncomputable def GapIs (H : List MO) (g dg kc : Nat) (txt : List Int) (M : Nat) : Prop := ∃ (cells : List Int) (gs ge : Nat), GapAt H g dg kc cells gs ge ∧ gs ≤ ge ∧ ge ≤ cells.length ∧ txt = cells.take gs ++ cells.drop ge ∧ cells.length ≤ M
theorem GapIs.keep {H H' : List MO} {g dg kc M : Nat} {txt : List Int} (G : GapIs H g dg kc txt M) (K : Keep [] H H') : GapIs H' g dg kc txt M := by
  refine x32 G ?_; try clear G; intro cells gs ge h r
  exact i32 cells gs ge (h.keep K) r
theorem splice_nat {α : Type} (xs ys : List α) (a b : Nat) (h : a ≤ b) (h' : b ≤ xs.length) : splice xs ys (some (a : Int)) (some (b : Int)) = xs.take a ++ ys ++ xs.drop b := by
  unfold splice lo hi
  have h1 : ¬ (a : Int) < 0 := by omega
  have h2 : ¬ (b : Int) < 0 := by omega
  simp only [h1, h2, if_false, Int.toNat_natCast]
  rw [Nat.min_eq_left (by omega), Nat.min_eq_left h', Nat.max_eq_right h]

section
variable {c : Cx} {n : Nat} {sc : Scope} {loc : Loc} {H H' : List MO} {g dg kc : Nat} {txt : List Int} {M : Nat}
theorem pick_eq {α : Type} (l : List α) (p r : Int) (i j : Nat) (hp : p = i) (hr : r = j) : pick l (some p) (some r) = (l.drop i).take (j - i) := by subst hp; subst hr; exact pick_mid l i j
theorem splice_parts {α : Type} (U V W ys : List α) (p r : Int) (hp : p = (U.length : Nat)) (hr : r = ((U.length + V.length : Nat) : Int)) : splice (U ++ V ++ W) ys (some p) (some r) = U ++ ys ++ W := by
  subst hp; subst hr
  rw [splice_nat _ _ _ _ (Nat.le_add_right _ _) (by simp), ← List.length_append, List.drop_left, List.append_assoc U V W, List.take_left]
theorem GapIs.parts (G : GapIs H g dg kc txt M) : ∃ A X B : List Int, txt = A ++ B ∧ GapAt H g dg kc (A ++ X ++ B) (A.length : Nat) ((A.length + X.length : Nat) : Int) ∧ (A ++ X ++ B).length ≤ M := by
  refine hold fun Xh oh => ?_
  refine x35 G ?_; try clear G; intro cells gs ge G h1 h2 e h3
  have e1 : cells.take gs = (cells.take ge).take gs := by rw [List.take_take, Nat.min_eq_left h1]
  have ec : cells.take gs ++ (cells.take ge).drop gs ++ cells.drop ge = cells := by rw [e1, List.take_append_drop, List.take_append_drop]
  have l1 : (cells.take gs).length = gs := List.length_take_of_le (Nat.le_trans h1 h2)
  have l2 : (cells.take gs).length + ((cells.take ge).drop gs).length = ge := by rw [← List.length_append, e1, List.take_append_drop, List.length_take_of_le h2]
  refine oh ?_
  refine i33 _ _ _ e ?_ (by rw [ec]; exact h3)
  rw [ec, l2, l1]; exact G
theorem GapIs.of {A X B : List Int} (G : GapAt H g dg kc (A ++ X ++ B) (A.length : Nat) ((A.length + X.length : Nat) : Int)) (h : (A ++ X ++ B).length ≤ M) : GapIs H g dg kc (A ++ B) M := by
  refine i35 _ _ _ G (Nat.le_add_right _ _) (by simp) ?_ h
  rw [← List.length_append, List.drop_left, List.append_assoc, List.take_left]
theorem gap_size (T : Tops c) {Q : Post MV} (G : GapIs H g dg kc txt M) (hM : M ≤ 400) (q : Q (.int txt.length) H) : Cl c (n + 1) (.ref 393) [.ref g] H Q := by
  refine hold fun Xh oh => ?_
  refine x33 G.parts fun A X B eq1 hx2 h3 => ?_; subst eq1; obtain ⟨i1, n1, c1⟩ := hx2
  have h3 := Nat.le_trans h3 hM
  refine oh ?_
  refine T.call 49 ["self"] [] rfl ⟨rfl, rfl, rfl, rfl, by decide, by decide⟩ rfl (fun _ _ _ _ _ _ => binds1 fun _ => (by kernel_rfl)) ?_
  (dsimp only [mkLoc, List.zip, List.zipWith, List.map, List.cons_append, List.nil_append]; repeat' walk_at "st")
  rw [show (((A ++ X ++ B).length : Int) - ((A.length + X.length : Nat) : Int) + (A.length : Int)) = ((A ++ B).length : Int) by simp only [List.length_append]; lia]
  exact q
theorem gap_code (T : Tops c) {Q : Post MV} {a : Nat} {x : Int} (G : GapIs H g dg kc txt M) (hM : M ≤ 400) (hx : txt[a]? = some x) (q : Q (.int x) H) : Cl c (n + 1) (.ref 400) [.ref g, .int a] H Q := by
  refine x33 G.parts fun A X B eq3 hx4 h3 => ?_; subst eq3; obtain ⟨i1, n1, c1⟩ := hx4
  have h3 := Nat.le_trans h3 hM
  have hl := (List.getElem?_eq_some_iff.mp hx).1
  refine T.call 50 ["self", "at"] [] rfl ⟨rfl, rfl, rfl, rfl, by decide, by decide⟩ rfl (fun _ _ _ _ _ _ => binds2 fun _ _ => (by kernel_rfl)) ?_
  (dsimp only [mkLoc, List.zip, List.zipWith, List.map, List.cons_append, List.nil_append]; repeat' walk_at "st")
  refine ⟨fun e => ?_, fun e => ?_⟩
  · have e' : a < A.length := by simpa using e
    rw [List.getElem?_append_left e'] at hx
    have hx' : (A ++ X ++ B)[(a : Int).toNat]? = some x := by rw [Int.toNat_natCast, List.append_assoc, List.getElem?_append_left e']; exact hx
    repeat' walk_at "st"
    refine Sub.itemI (v := x) c1 (Int.natCast_nonneg _) (by simp only [List.length_append] at h3 ⊢; lia) hx' ?_
    repeat' walk_at "st"
    exact q
  · have e' : A.length ≤ a := by simpa using e
    refine x11 (Nat.exists_eq_add_of_le e') fun k eq5 => ?_; subst eq5
    rw [List.getElem?_append_right e', Nat.add_sub_cancel_left] at hx
    repeat' walk_at "st"
    have ei : ((((A.length + k : Nat) : Int) - (A.length : Int) + ((A.length + X.length : Nat) : Int))) = (((A ++ X).length + k : Nat) : Int) := by rw [List.length_append]; lia
    rw [ei]
    refine Sub.itemI (v := x) c1 (Int.natCast_nonneg _) (by simp only [List.length_append] at h3 hl ⊢; lia) ?_ ?_
    · rw [Int.toNat_natCast, List.getElem?_append_right (Nat.le_add_right _ _), Nat.add_sub_cancel_left]; exact hx
    · repeat' walk_at "st"
      exact q
theorem gap_codes (T : Tops c) {Q : Post MV} {a b : Nat} (G : GapIs H g dg kc txt M) (hM : M ≤ 400) (hab : a ≤ b) (hb : b ≤ txt.length)
    (q : ∀ k' H', Keep [] H H' → H.length ≤ k' → IsI H' k' ((txt.drop a).take (b - a)) → Q (.ref k') H') : Cl c (n + 1) (.ref 407) [.ref g, .int a, .int b] H Q := by
  refine x33 G.parts fun A X B eq6 hx7 h3 => ?_; subst eq6; obtain ⟨i1, n1, c1⟩ := hx7
  have h3 := Nat.le_trans h3 hM
  refine T.call 51 ["self", "start", "end"] ["shift"] rfl ⟨rfl, rfl, rfl, rfl, by decide, by decide⟩ rfl (fun _ _ _ _ _ _ => binds3 fun _ _ _ => (by kernel_rfl)) ?_
  have sh : ∀ z : Nat, ((z : Int) + (((A.length + X.length : Nat) : Int) - (A.length : Int))) = ((z + X.length : Nat) : Int) := fun z => by lia
  (dsimp only [mkLoc, List.zip, List.zipWith, List.map, List.cons_append, List.nil_append]; repeat' walk_at "st")
  refine ⟨fun e => ?_, fun e => ?_⟩
  · have e' : b ≤ A.length := by simpa using e
    repeat' walk_at "st"
    subst_vars
    refine q _ _ (by walk_at "kp") (Keep.lenLe (by walk_at "kp")) ?_
    refine' IsI.of (by walk_at "at") ?_
    rw [pick_mid, ← List.drop_take, ← List.drop_take, List.append_assoc, List.take_append_of_le_length e', List.take_append_of_le_length e']
  · have e' : ¬ b ≤ A.length := by simpa using e
    repeat' walk_at "st"
    refine ⟨fun e2 => ?_, fun e2 => ?_⟩
    · have e2' : A.length ≤ a := by simpa using e2
      refine x11 (Nat.exists_eq_add_of_le e2') fun k eq8 => ?_; subst eq8
      repeat' walk_at "st"
      subst_vars
      refine q _ _ (by walk_at "kp") (Keep.lenLe (by walk_at "kp")) ?_
      refine' IsI.of (by walk_at "at") ?_
      rw [pick_eq _ _ _ _ _ (sh _) (sh _), Nat.add_sub_add_right, Nat.add_right_comm, ← List.length_append, List.drop_length_add_append, List.drop_length_add_append]
    · have e2'' : a < A.length := by simpa using e2
      have e2' : a ≤ A.length := Nat.le_of_lt e2''
      have e3 : A.length ≤ b := Nat.le_of_lt (Nat.lt_of_not_le e')
      repeat' walk_at "st"
      subst_vars
      refine q _ _ (by walk_at "kp") (Keep.lenLe (by walk_at "kp")) ?_
      refine' IsI.of (by walk_at "at") ?_
      rw [pick_mid, pick_eq _ _ _ _ _ rfl (sh _), Nat.add_sub_add_right, ← List.length_append (as := A) (bs := X), List.drop_left, ← List.drop_take, List.append_assoc, List.take_left, List.drop_append_of_le_length e2', List.take_append, List.take_of_length_le (l := A.drop a) (by rw [List.length_drop]; exact Nat.sub_le_sub_right e3 a), List.length_drop]
      congr 2
      exact (Nat.sub_sub_sub_cancel_right e2').symm
end
end
local macro_rules | `(tactic| walk_at "at") => `(tactic| first | exact GapAt.inst (by assumption) | exact GapAt.ns (by assumption) | exact GapAt.cells (by assumption))
section
section
variable {c : Cx} {n : Nat} {sc : Scope} {loc : Loc} {H H' : List MO} {g dg kc : Nat} {txt : List Int} {M : Nat} {cells : List Int} {gs ge : Int}
theorem gap_lt (G : GapAt H g dg kc cells gs ge) : g < H.length ∧ dg < H.length ∧ kc < H.length := i03 (get_lt G.inst) (get_lt G.ns) (get_lt G.cells)
theorem gap_dk (G : GapAt H g dg kc cells gs ge) : dg ≠ kc ∧ g ≠ dg ∧ g ≠ kc := by
  refine i03 (fun e => ?_) (fun e => ?_) (fun e => ?_)
  · have h := G.ns; have h' : H[kc]? = _ := G.cells; rw [e, h'] at h; cases h
  · have h := G.inst; rw [e, G.ns] at h; cases h
  · have h := G.inst; have h' : H[kc]? = _ := G.cells; rw [e, h'] at h; cases h
theorem Set.gapEnd (T : Tops c) {v : Int} {Q : List MO → Prop} (G : GapAt H g dg kc cells gs ge) (q : ∀ H', GapAt H' g dg kc cells gs v → Keep [dg] H H' → Q H') : Set c n "gap_end" (.ref g) (.int v) H Q :=
  Set.put G.inst G.ns (.tail (.tail (.tail .head))) (T.clsAny (by decide)) (T.fldAny (by decide +kernel)) (by simp) (q _ (G.setNs gs v) (Keep.set (by simp)))
theorem Set.gapStart (T : Tops c) {v : Int} {Q : List MO → Prop} (G : GapAt H g dg kc cells gs ge) (q : ∀ H', GapAt H' g dg kc cells v ge → Keep [dg] H H' → Q H') : Set c n "gap_start" (.ref g) (.int v) H Q :=
  Set.put G.inst G.ns (.tail (.tail .head)) (T.clsAny (by decide)) (T.fldAny (by decide +kernel)) (by simp) (q _ (G.setNs v ge) (Keep.set (by simp)))
/-- the cells, spliced -/
theorem gap_splice {ky : Nat} {ys : List Int} {a b : Option Int} {Q : List MO → Prop} (G : GapAt H g dg kc cells gs ge) (hy : IsI H ky ys) (hz : cells.length + ys.length ≤ 1000)
    (q : ∀ H', GapAt H' g dg kc (splice cells ys a b) gs ge → Keep [kc] H H' → Q H') : ∃ ky' ys' k xs, MV.ref ky = .ref ky' ∧ MV.ref kc = .ref k ∧ IsI H ky' ys' ∧ IsI H k xs ∧ xs.length + ys'.length ≤ 1000 ∧ Q (H.set k (.list ((splice xs ys' a b).map .int))) :=
  ⟨ky, ys, kc, cells, rfl, rfl, hy, G.cells, hz, q _ (G.setCells _) (Keep.set (by simp))⟩
theorem cut_at {α : Type} (l : List α) {k : Nat} (h : k ≤ l.length) : ∃ u v, l = u ++ v ∧ u.length = k := i22 (l.take k) (l.drop k) ((List.take_append_drop k l).symm) (List.length_take_of_le h)
theorem move_gap (T : Tops c) {Q : Post MV} {A X B : List Int} {a : Nat} (G : GapAt H g dg kc (A ++ X ++ B) (A.length : Nat) ((A.length + X.length : Nat) : Int)) (hM : (A ++ X ++ B).length ≤ 400) (ha : a ≤ A.length + B.length)
    (q : ∀ A' X' B' H', Keep [dg, kc] H H' → A'.length = a → X'.length = X.length → A' ++ B' = A ++ B → GapAt H' g dg kc (A' ++ X' ++ B') (A'.length : Nat) ((A'.length + X'.length : Nat) : Int) → Q .none H') :
    Cl c (n + 1) (.ref 414) [.ref g, .int a] H Q := by
  have hlt := gap_lt G
  have hdk := gap_dk G
  refine T.call 52 ["self", "at"] ["moved"] rfl ⟨rfl, rfl, rfl, rfl, by decide, by decide⟩ rfl (fun _ _ _ _ _ _ => binds2 fun _ _ => (by kernel_rfl)) ?_
  (dsimp only [mkLoc, List.zip, List.zipWith, List.map, List.cons_append, List.nil_append]; repeat' walk_at "st")
  refine ⟨fun e => ?_, fun e => ?_⟩
  · have e' : a < A.length := by simpa using e
    obtain ⟨A1, A2, rfl, rfl⟩ := cut_at A (Nat.le_of_lt e')
    obtain ⟨X', V, hX, hl⟩ := cut_at (A2 ++ X) (k := X.length) (by simp)
    have hV : V.length = A2.length := by have := congrArg List.length hX; simp only [List.length_append] at this; lia
    repeat' walk_at "st"
    rename_i zs ez lz
    have ez : zs = A2 := by rw [ez, pick_mid]; simp only [List.append_assoc, List.drop_left, List.length_append, Nat.add_sub_cancel_left, List.take_left]
    subst ez
    refine gap_splice G.app get_new (by simp only [List.length_append] at hM ⊢; lia) fun H₁ G₁ K₁ => ?_
    have hz₁ : IsI H₁ H.length zs := K₁.get (by simp; lia) get_new
    have K₁' : Keep [dg, kc] H H₁ := Keep.trans Keep.app (K₁.mono (by simp))
    repeat' walk_at "st"
    refine Set.gapEnd T G₁ fun H₂ G₂ K₂ => ?_
    repeat' walk_at "st"
    refine Set.gapStart T G₂ fun H₃ G₃ K₃ => ?_
    repeat' walk_at "st"
    have hc : A1 ++ zs ++ X ++ B = A1 ++ X' ++ V ++ B := by rw [List.append_assoc A1 zs X, hX, ← List.append_assoc A1]
    rw [hc, splice_parts (A1 ++ X') V B zs _ _ (by simp only [List.length_append]; lia) (by simp only [List.length_append]; lia), List.append_assoc (A1 ++ X')] at G₃
    rw [show ((((A1 ++ zs).length + X.length : Nat) : Int) - (zs.length : Int)) = ((A1.length + X'.length : Nat) : Int) by rw [List.length_append]; lia] at G₃
    exact q A1 X' (zs ++ B) _ (K₁'.trans ((K₂.trans K₃).mono (by simp))) rfl hl (by rw [List.append_assoc]) G₃
  · have e' : A.length ≤ a := by simpa using e
    obtain ⟨k, rfl⟩ := Nat.exists_eq_add_of_le e'
    obtain ⟨B1, B2, rfl, rfl⟩ := cut_at B (Nat.le_of_add_le_add_left ha)
    obtain ⟨V, X', hX, hl⟩ := cut_at (X ++ B1) (k := B1.length) (by simp)
    have hV : X'.length = X.length := by have := congrArg List.length hX; simp only [List.length_append] at this; lia
    repeat' walk_at "st"
    rename_i zs ez lz
    have ez : zs = B1 := by
      rw [ez, pick_eq _ _ _ ((A ++ X).length) ((A ++ X).length + B1.length) (by rw [List.length_append]) (by rw [List.length_append]; lia), List.drop_left, Nat.add_sub_cancel_left, List.take_left]
    subst ez
    refine gap_splice G.app get_new (by simp only [List.length_append] at hM ⊢; lia) fun H₁ G₁ K₁ => ?_
    have hz₁ : IsI H₁ H.length zs := K₁.get (by simp; lia) get_new
    have K₁' : Keep [dg, kc] H H₁ := Keep.trans Keep.app (K₁.mono (by simp))
    repeat' walk_at "st"
    refine Set.gapEnd T G₁ fun H₂ G₂ K₂ => ?_
    repeat' walk_at "st"
    refine Set.gapStart T G₂ fun H₃ G₃ K₃ => ?_
    repeat' walk_at "st"
    have hc : A ++ X ++ (zs ++ B2) = A ++ V ++ (X' ++ B2) := by rw [List.append_assoc A X, ← List.append_assoc X, hX, List.append_assoc V, List.append_assoc A]
    rw [hc, splice_parts A V (X' ++ B2) zs _ _ rfl (by rw [hl]; lia), ← List.append_assoc] at G₃
    rw [show (((A.length + X.length : Nat) : Int) + (zs.length : Int)) = (((A ++ zs).length + X'.length : Nat) : Int) by rw [List.length_append]; lia, show (((A.length + zs.length : Nat)) : Int) = ((A ++ zs).length : Int) by rw [List.length_append]] at G₃
    exact q (A ++ zs) X' B2 _ (K₁'.trans ((K₂.trans K₃).mono (by simp))) (by rw [List.length_append]) hV (by rw [List.append_assoc]) G₃
theorem widen_gap (T : Tops c) {Q : Post MV} {A X B : List Int} {want : Nat} (G : GapAt H g dg kc (A ++ X ++ B) (A.length : Nat) ((A.length + X.length : Nat) : Int)) (hM : (A ++ X ++ B).length ≤ 400) (hw : want ≤ 200)
    (q : ∀ X' H', Keep [dg, kc] H H' → want ≤ X'.length → X'.length ≤ X.length + want + 8 → GapAt H' g dg kc (A ++ X' ++ B) (A.length : Nat) ((A.length + X'.length : Nat) : Int) → Q .none H') :
    Cl c (n + 1) (.ref 421) [.ref g, .int want] H Q := by
  have hlt := gap_lt G
  have hdk := gap_dk G
  refine T.call 53 ["self", "wanted"] ["lack"] rfl ⟨rfl, rfl, rfl, rfl, by decide, by decide⟩ rfl (fun _ _ _ _ _ _ => binds2 fun _ _ => (by kernel_rfl)) ?_
  (dsimp only [mkLoc, List.zip, List.zipWith, List.map, List.cons_append, List.nil_append]; repeat' walk_at "st")
  have e0 : ((want : Int) - (((A.length + X.length : Nat) : Int) - (A.length : Int))) = (want : Int) - (X.length : Int) := by lia
  rw [e0]
  refine ⟨fun e => ?_, fun e => ?_⟩
  · have e' : X.length < want := by
      have : (want : Int) - (X.length : Int) > 0 := by simpa using e
      lia
    obtain ⟨k, rfl⟩ := Nat.exists_eq_add_of_lt e'
    repeat' walk_at "st"
    rw [show (((X.length + k + 1 : Nat) : Int) - (X.length : Int) + 8) = ((k + 9 : Nat) : Int) by lia]
    rw [Int.toNat_natCast]
    refine gap_splice G.app.app get_new (by rw [List.length_replicate]; lia) fun H₁ G₁ K₁ => ?_
    have K₁' : Keep [dg, kc] H H₁ := Keep.trans (Keep.trans Keep.app Keep.app) (K₁.mono (by simp))
    repeat' walk_at "st"
    refine Set.gapEnd T G₁ fun H₂ G₂ K₂ => ?_
    repeat' walk_at "st"
    have hl : (X ++ List.replicate (k + 9) (0 : Int)).length = X.length + (k + 9) := by rw [List.length_append, List.length_replicate]
    have hc : splice (A ++ X ++ B) (List.replicate (k + 9) 0) (some ((A.length + X.length : Nat) : Int)) (some ((A.length + X.length : Nat) : Int)) = A ++ (X ++ List.replicate (k + 9) 0) ++ B := by
      have := splice_parts (A ++ X) [] B (List.replicate (k + 9) (0 : Int)) ((A.length + X.length : Nat) : Int) ((A.length + X.length : Nat) : Int) (by rw [List.length_append]) (by rw [List.length_append]; rfl)
      rw [List.append_nil] at this
      rw [this, List.append_assoc A]
    rw [hc, show (((A.length + X.length : Nat) : Int) + (((X.length + k + 1 : Nat) : Int) - (X.length : Int)) + 8) = ((A.length + (X ++ List.replicate (k + 9) (0 : Int)).length : Nat) : Int) by rw [hl]; lia] at G₂
    exact q _ _ (K₁'.trans (K₂.mono (by simp))) (by rw [hl]; lia) (by rw [hl]; lia) G₂
  · have e' : want ≤ X.length := by
      have : ¬ (want : Int) - (X.length : Int) > 0 := by simpa using e
      lia
    repeat' walk_at "st"
    exact q X _ Keep.refl e' (by lia) G
theorem gap_insert (T : Tops c) {Q : Post MV} {a kx : Nat} {codes : List Int} (G : GapIs H g dg kc txt M) (hM : M + codes.length ≤ 390) (hx : IsI H kx codes) (hkx : kx ≠ kc) (hcz : codes.length ≤ 200) (ha : a ≤ txt.length)
    (q : ∀ H', Keep [dg, kc] H H' → GapIs H' g dg kc (txt.take a ++ codes ++ txt.drop a) (M + codes.length + 8) → Q .none H') :
    Cl c (n + 2) (.ref 428) [.ref g, .int a, .ref kx] H Q := by
  refine hold fun Xh oh => ?_
  obtain ⟨A, X, B, rfl, G, h3⟩ := G.parts
  have hlt := gap_lt G
  have hdk := gap_dk G
  have hkd : kx ≠ dg := fun e => by subst e; have h := G.ns; have h' : H[kx]? = _ := hx; rw [h'] at h; cases h
  have hkn : kx ∉ [dg, kc] := by simp [hkd, hkx]
  simp only [List.length_append] at ha h3
  refine oh ?_
  refine T.call 54 ["self", "at", "codes"] [] rfl ⟨rfl, rfl, rfl, rfl, by decide, by decide⟩ rfl (fun _ _ _ _ _ _ => binds3 fun _ _ _ => (by kernel_rfl)) ?_
  (dsimp only [mkLoc, List.zip, List.zipWith, List.map, List.cons_append, List.nil_append]; repeat' walk_at "st")
  refine Ev.meth T 4 rfl (by decide) ?_
  repeat' walk_at "st"
  refine i35 _ _ _ rfl G.inst G.ns (by kernel_rfl) ?_
  repeat' walk_at "st"
  refine widen_gap T G (by simp only [List.length_append]; lia) hcz fun X₁ H₁ K₁ w₁ l₁ G₁ => ?_
  have hx₁ : IsI H₁ kx codes := K₁.get hkn hx
  repeat' walk_at "st"
  refine Ev.meth T 3 rfl (by decide) ?_
  repeat' walk_at "st"
  refine i35 _ _ _ rfl G₁.inst G₁.ns (by kernel_rfl) ?_
  repeat' walk_at "st"
  refine move_gap T G₁ (by simp only [List.length_append]; lia) ha fun A₂ X₂ B₂ H₂ K₂ a₂ l₂ t₂ G₂ => ?_
  have hx₂ : IsI H₂ kx codes := K₂.get hkn hx₁
  subst a₂
  have hl₂ := congrArg List.length t₂
  simp only [List.length_append] at hl₂
  repeat' walk_at "st"
  refine gap_splice G₂ hx₂ (by simp only [List.length_append]; lia) fun H₃ G₃ K₃ => ?_
  have hx₃ : IsI H₃ kx codes := K₃.get (by simpa using hkx) hx₂
  repeat' walk_at "st"
  refine Set.gapStart T G₃ fun H₄ G₄ K₄ => ?_
  repeat' walk_at "st"
  refine hold fun Xh oh => ?_
  obtain ⟨U, V, rfl, hU⟩ := cut_at X₂ (k := codes.length) (by lia)
  refine oh ?_
  rw [← List.append_assoc, List.append_assoc (A₂ ++ U), splice_parts A₂ U (V ++ B₂) codes _ _ rfl (by rw [hU]; rfl), ← List.append_assoc, show ((A₂.length : Int) + (codes.length : Int)) = ((A₂ ++ codes).length : Int) by rw [List.length_append]; rfl,
    show A₂.length + (U ++ V).length = (A₂ ++ codes).length + V.length by simp only [List.length_append]; lia] at G₄
  have K : Keep [dg, kc] H H₄ := (K₁.trans K₂).trans ((K₃.mono (by simp)).trans (K₄.mono (by simp)))
  refine q _ K ?_
  rw [← t₂, List.take_left, List.drop_left]
  exact GapIs.of G₄ (by simp only [List.length_append] at l₂ ⊢; lia)
theorem gap_delete (T : Tops c) {Q : Post MV} {a b : Nat} (G : GapIs H g dg kc txt M) (hM : M ≤ 390) (hab : a ≤ b) (hb : b ≤ txt.length)
    (q : ∀ k' H', Keep [dg, kc] H H' → H.length ≤ k' → IsI H' k' ((txt.drop a).take (b - a)) → GapIs H' g dg kc (txt.take a ++ txt.drop b) M → Q (.ref k') H') :
    Cl c (n + 2) (.ref 435) [.ref g, .int a, .int b] H Q := by
  obtain ⟨A, X, B, rfl, G₀, h3⟩ := G.parts
  have hlt := gap_lt G₀
  have hdk := gap_dk G₀
  have hb' := hb
  rw [List.length_append] at hb'
  have h4 := Nat.le_trans h3 (Nat.le_trans hM (by decide : 390 ≤ 400))
  have fin : ∀ {k₁ : Nat} {H₁ H₆ : List MO} {A X B : List Int} (p : Int), Keep [] H H₁ → H.length ≤ k₁ → IsI H₁ k₁ (((A ++ B).drop a).take (b - a)) → Keep [dg, kc] H₁ H₆ → k₁ ∉ [dg, kc] → a ≤ A.length → A.length ≤ b → b ≤ A.length + B.length → (A ++ X ++ B).length ≤ M →
      p = ((A.length + X.length : Nat) : Int) + (b : Int) - (A.length : Int) → GapAt H₆ g dg kc (A ++ X ++ B) (a : Nat) p → GapIs H₆ g dg kc ((A ++ B).take a ++ (A ++ B).drop b) M := by
    intro k₁ H₁ H₆ A X B p K₁ f₁ h₁ K nk ha hb hb2 hm hp G
    obtain ⟨A1, A2, rfl, rfl⟩ := cut_at A ha
    obtain ⟨j, rfl⟩ := Nat.exists_eq_add_of_le hb
    obtain ⟨B1, B2, rfl, rfl⟩ := cut_at B (Nat.le_of_add_le_add_left hb2)
    rw [List.append_assoc A1, List.take_left, ← List.append_assoc A1, List.drop_length_add_append, List.drop_left]
    have e : A1 ++ A2 ++ X ++ (B1 ++ B2) = A1 ++ (A2 ++ X ++ B1) ++ B2 := by simp only [List.append_assoc]
    rw [e] at G hm
    have e2 : p = ((A1.length + (A2 ++ X ++ B1).length : Nat) : Int) := by rw [hp]; simp only [List.length_append]; lia
    rw [e2] at G
    exact GapIs.of G hm
  refine T.call 55 ["self", "start", "end"] ["gone"] rfl ⟨rfl, rfl, rfl, rfl, by decide, by decide⟩ rfl (fun _ _ _ _ _ _ => binds3 fun _ _ _ => (by kernel_rfl)) ?_
  (dsimp only [mkLoc, List.zip, List.zipWith, List.map, List.cons_append, List.nil_append]; repeat' walk_at "st")
  refine Ev.meth T 2 rfl (by decide) ?_
  repeat' walk_at "st"
  refine i35 _ _ _ rfl G₀.inst G₀.ns (by kernel_rfl) ?_
  repeat' walk_at "st"
  refine gap_codes T G (Nat.le_trans hM (by decide)) hab hb fun k₁ H₁ K₁ f₁ h₁ => ?_
  have G₁ := G₀.keep K₁
  have nk : k₁ ∉ [dg, kc] := by simp only [List.mem_cons, List.not_mem_nil, or_false, not_or]; exact ⟨Nat.ne_of_gt (Nat.lt_of_lt_of_le hlt.2.1 f₁), Nat.ne_of_gt (Nat.lt_of_lt_of_le hlt.2.2 f₁)⟩
  repeat' walk_at "st"
  refine ⟨fun e => ?_, fun e => ?_⟩
  · have e' : b < A.length := by simpa using e
    repeat' walk_at "st"
    refine Ev.meth T 3 rfl (by decide) ?_
    repeat' walk_at "st"
    refine i35 _ _ _ rfl G₁.inst G₁.ns (by kernel_rfl) ?_
    repeat' walk_at "st"
    refine move_gap T G₁ h4 hb' fun A₂ X₂ B₂ H₂ K₂ a₂ l₂ t₂ G₂ => ?_
    have hl₂ := congrArg List.length t₂
    simp only [List.length_append] at hl₂
    have hm : (A₂ ++ X₂ ++ B₂).length ≤ M := by simp only [List.length_append] at h3 ⊢; lia
    repeat' walk_at "st"
    refine ⟨fun e2 => ?_, fun e2 => ?_⟩
    · exfalso
      have : (a : Int) > (A₂.length : Int) := by simpa using e2
      lia
    · repeat' walk_at "st"
      refine Set.gapEnd T G₂ fun H₅ G₅ K₅ => ?_
      repeat' walk_at "st"
      refine Set.gapStart T G₅ fun H₆ G₆ K₆ => ?_
      repeat' walk_at "st"
      have KK : Keep [dg, kc] H₁ H₆ := K₂.trans ((K₅.mono (by simp)).trans (K₆.mono (by simp)))
      rw [← t₂] at q h₁
      exact q _ _ (Keep.trans (K₁.weak) KK) f₁ (KK.get nk h₁) (fin _ K₁ f₁ h₁ KK nk (by lia) (by lia) (by lia) hm rfl G₆)
  · have e' : A.length ≤ b := by simpa using e
    repeat' walk_at "st"
    refine ⟨fun e2 => ?_, fun e2 => ?_⟩
    · have e2' : A.length < a := by simpa using e2
      repeat' walk_at "st"
      refine Ev.meth T 3 rfl (by decide) ?_
      repeat' walk_at "st"
      refine i35 _ _ _ rfl G₁.inst G₁.ns (by kernel_rfl) ?_
      repeat' walk_at "st"
      refine move_gap T G₁ h4 (Nat.le_trans hab hb') fun A₂ X₂ B₂ H₂ K₂ a₂ l₂ t₂ G₂ => ?_
      have hl₂ := congrArg List.length t₂
      simp only [List.length_append] at hl₂
      have hm : (A₂ ++ X₂ ++ B₂).length ≤ M := by simp only [List.length_append] at h3 ⊢; lia
      repeat' walk_at "st"
      refine Set.gapEnd T G₂ fun H₅ G₅ K₅ => ?_
      repeat' walk_at "st"
      refine Set.gapStart T G₅ fun H₆ G₆ K₆ => ?_
      repeat' walk_at "st"
      have KK : Keep [dg, kc] H₁ H₆ := K₂.trans ((K₅.mono (by simp)).trans (K₆.mono (by simp)))
      rw [← t₂] at q h₁
      exact q _ _ (Keep.trans (K₁.weak) KK) f₁ (KK.get nk h₁) (fin _ K₁ f₁ h₁ KK nk (by lia) (by lia) (by lia) hm rfl G₆)
    · have e2' : a ≤ A.length := by simpa using e2
      repeat' walk_at "st"
      refine Set.gapEnd T G₁ fun H₅ G₅ K₅ => ?_
      repeat' walk_at "st"
      refine Set.gapStart T G₅ fun H₆ G₆ K₆ => ?_
      repeat' walk_at "st"
      have KK : Keep [dg, kc] H₁ H₆ := (Keep.refl (H := H₁)).trans ((K₅.mono (by simp)).trans (K₆.mono (by simp)))
      exact q _ _ (Keep.trans (K₁.weak) KK) f₁ (KK.get nk h₁) (fin _ K₁ f₁ h₁ KK nk e2' e' hb' h3 rfl G₆)
end
end
section
/-! the buffer -/
set_option genInjectivity false in
structure BLay where
  b : Nat
  db : Nat
  g : Nat
  dg : Nat
  kc : Nat
  mm : Nat
  dm : Nat
  kd : Nat
  ls : Nat
noncomputable abbrev bufFs (ℓ : BLay) (pt zv tk ck : Int) : List (Str × MV) :=
  [("number", .int 1), ("name", .str "a"), ("text", .ref ℓ.g), ("markers", .ref ℓ.mm), ("point", .int pt), ("begv", .int 1), ("zv", .int zv), ("mark", .none), ("is_live", .bool true), ("is_read_only", .bool false), ("ticks", .int tk), ("codes_ticks", .int ck),
   ("saved_ticks", .int 1), ("listeners", .ref ℓ.ls), ("undo", .none), ("props", .none), ("overlays", .none), ("locals", .none), ("syntax", .none), ("file", .none)]
structure BufS (H : List MO) (ℓ : BLay) (txt : List Int) (pt zv tk ck : Int) (M : Nat) : Prop where
  inst : H[ℓ.b]? = some (.inst 670 ℓ.db)
  ns : H[ℓ.db]? = some (.ns (bufFs ℓ pt zv tk ck))
  gap : GapIs H ℓ.g ℓ.dg ℓ.kc txt M
  mki : H[ℓ.mm]? = some (.inst 529 ℓ.dm)
  mkn : H[ℓ.dm]? = some (.ns [("rows", .edict ℓ.kd)])
  mkd : H[ℓ.kd]? = some (.ns [])
  lst : H[ℓ.ls]? = some (.list [])
  lk : ℓ.ls ≠ ℓ.kc
noncomputable def BLay.foot (ℓ : BLay) : List Nat := [ℓ.db, ℓ.dg, ℓ.kc]
noncomputable def nsLen : MO → Nat
  | .ns f => f.length + 1
  | _ => 0
theorem ns_ne {f f' : List (Str × MV)} (h : f.length ≠ f'.length) : MO.ns f ≠ MO.ns f' := fun e => h (by have := congrArg nsLen e; simpa [nsLen] using this)
theorem GapIs.ginst {H : List MO} {g dg kc M : Nat} {txt : List Int} (G : GapIs H g dg kc txt M) : H[g]? = some (.inst 459 dg) := by refine x32 G ?_; try clear G; intro _ _ _ G _; exact G.inst

section
variable {H H' : List MO} {ℓ : BLay} {txt : List Int} {pt zv tk ck : Int} {M : Nat}
theorem GapIs.dgns {g dg kc : Nat} (G : GapIs H g dg kc txt M) : ∃ f, H[dg]? = some (.ns f) ∧ f.length = 4 := by refine x32 G ?_; try clear G; intro _ _ _ G _; exact i12 _ G.ns rfl
theorem gap_fields {g dg kc : Nat} (G : GapIs H g dg kc txt M) : ∃ f, H[dg]? = some (.ns f) ∧ f.length = 4 ∧ ∀ x : Str, (["room", "cells", "gap_start", "gap_end"] : List Str).contains x = false → (f.map (·.1)).contains x = false := by
  refine x32 G ?_; try clear G; intro _ _ _ G _; exact i13 _ G.ns rfl (fun x h => h)
theorem GapIs.kcl {g dg kc : Nat} (G : GapIs H g dg kc txt M) : ∃ l, H[kc]? = some (.list l) := by refine x32 G ?_; try clear G; intro _ _ _ G _; exact ⟨_, G.cells⟩
theorem BufS.keep (B : BufS H ℓ txt pt zv tk ck M) (K : Keep [] H H') : BufS H' ℓ txt pt zv tk ck M :=
  ⟨K.get0 B.inst, K.get0 B.ns, B.gap.keep K, K.get0 B.mki, K.get0 B.mkn, K.get0 B.mkd, K.get0 B.lst, B.lk⟩
theorem BufS.app {l : List MO} (B : BufS H ℓ txt pt zv tk ck M) : BufS (H ++ l) ℓ txt pt zv tk ck M := B.keep Keep.app
/-- its own fields, changed -/
theorem BufS.setNs (B : BufS H ℓ txt pt zv tk ck M) (pt' zv' tk' ck' : Int) : BufS (H.set ℓ.db (.ns (bufFs ℓ pt' zv' tk' ck'))) ℓ txt pt' zv' tk' ck' M := by
  refine hold fun Xh oh => ?_
  refine x12 B.gap.dgns fun f hf hl => ?_
  refine oh ?_
  refine ⟨get_set_of B.inst B.ns (by intro h; cases h), get_set_self B.ns, ?_, get_set_of B.mki B.ns (by intro h; cases h), get_set_of B.mkn B.ns (ns_ne (by simp)), get_set_of B.mkd B.ns (ns_ne (by simp)), get_set_of B.lst B.ns (by intro h; cases h), B.lk⟩
  refine hold fun Xh oh => ?_
  refine x32 B.gap fun cells gs ge G r => ?_
  refine oh ?_
  exact i32 cells gs ge ⟨get_set_of G.inst B.ns (by intro h; cases h), get_set_of G.ns B.ns (ns_ne (by simp)), get_set_of G.cells B.ns (by intro h; cases h)⟩ r
/-- its gap text, changed -/
theorem BufS.gapped (B : BufS H ℓ txt pt zv tk ck M) {txt' : List Int} {M' : Nat} (K : Keep [ℓ.dg, ℓ.kc] H H') (G : GapIs H' ℓ.g ℓ.dg ℓ.kc txt' M') : BufS H' ℓ txt' pt zv tk ck M' := by
  refine x12 B.gap.dgns fun f hf hl => ?_
  refine x11 B.gap.kcl fun l hkl => ?_
  have ne : ∀ {k : Nat} {m : MO}, H[k]? = some m → m ≠ .ns f → m ≠ .list l → H'[k]? = some m := fun h h1 h2 => K.get (by
    simp only [List.mem_cons, List.not_mem_nil, or_false, not_or]
    exact ⟨fun e => by subst e; rw [h] at hf; exact h1 (Option.some.inj hf), fun e => by subst e; rw [h] at hkl; exact h2 (Option.some.inj hkl)⟩) h
  refine ⟨ne B.inst (by intro h; cases h) (by intro h; cases h), ne B.ns (ns_ne (by rw [hl]; simp)) (by intro h; cases h), G, ne B.mki (by intro h; cases h) (by intro h; cases h), ne B.mkn (ns_ne (by rw [hl]; simp)) (by intro h; cases h), ne B.mkd (ns_ne (by rw [hl]; simp)) (by intro h; cases h), ?_, B.lk⟩
  refine K.get ?_ B.lst
  simp only [List.mem_cons, List.not_mem_nil, or_false, not_or]
  exact ⟨fun e => (by have h := B.lst; rw [e, hf] at h; cases h), B.lk⟩
theorem BufS.lt (B : BufS H ℓ txt pt zv tk ck M) : ℓ.b < H.length ∧ ℓ.db < H.length ∧ ℓ.g < H.length ∧ ℓ.dg < H.length ∧ ℓ.kc < H.length := by
  have : ℓ.g < H.length ∧ ℓ.dg < H.length ∧ ℓ.kc < H.length := by refine x32 B.gap fun _ _ _ G _ => ?_; exact gap_lt G
  exact i05 (get_lt B.inst) (get_lt B.ns) this.1 this.2.1 this.2.2
theorem BufS.notFoot (B : BufS H ℓ txt pt zv tk ck M) {k : Nat} (h : H.length ≤ k) : k ∉ ℓ.foot := by
  have b := B.lt
  unfold BLay.foot
  intro q
  simp only [List.mem_cons, List.not_mem_nil, or_false] at q
  refine q.elim (fun e => ?_) fun q => q.elim (fun e => ?_) fun e => ?_
  · exact Nat.not_lt.mpr h (e ▸ b.2.1)
  · exact Nat.not_lt.mpr h (e ▸ b.2.2.2.1)
  · exact Nat.not_lt.mpr h (e ▸ b.2.2.2.2)
theorem keepDb {F : List Nat} (K : Keep [ℓ.db] H H') (h : F = ℓ.foot) : Keep F H H' := by subst h; exact K.mono (by simp [BLay.foot])
theorem keepGap (K : Keep [ℓ.dg, ℓ.kc] H H') : Keep ℓ.foot H H' := K.mono (by simp [BLay.foot])
end

local macro_rules | `(tactic| walk_at "at") => `(tactic| first | exact BufS.inst (by assumption) | exact BufS.ns (by assumption) | exact BufS.mki (by assumption) | exact BufS.mkn (by assumption) | exact BufS.mkd (by assumption) | exact BufS.lst (by assumption))
section
variable {c : Cx} {n : Nat} {sc : Scope} {loc : Loc} {H H' : List MO} {ℓ : BLay} {txt : List Int} {pt zv tk ck : Int} {M : Nat}
theorem Set.bufPoint (T : Tops c) {v : Int} {Q : List MO → Prop} (B : BufS H ℓ txt pt zv tk ck M) (q : ∀ H', BufS H' ℓ txt v zv tk ck M → Keep [ℓ.db] H H' → Q H') : Set c n "point" (.ref ℓ.b) (.int v) H Q :=
  Set.put B.inst B.ns (.tail (.tail (.tail (.tail .head)))) (T.clsAny (by decide)) (T.fldAny (by decide +kernel)) (by simp) (q _ (B.setNs v zv tk ck) (Keep.set (by simp)))
theorem Set.bufZv (T : Tops c) {v : Int} {Q : List MO → Prop} (B : BufS H ℓ txt pt zv tk ck M) (q : ∀ H', BufS H' ℓ txt pt v tk ck M → Keep [ℓ.db] H H' → Q H') : Set c n "zv" (.ref ℓ.b) (.int v) H Q :=
  Set.put B.inst B.ns (.tail (.tail (.tail (.tail (.tail (.tail .head)))))) (T.clsAny (by decide)) (T.fldAny (by decide +kernel)) (by simp) (q _ (B.setNs pt v tk ck) (Keep.set (by simp)))
theorem Set.bufTicks (T : Tops c) {v : Int} {Q : List MO → Prop} (B : BufS H ℓ txt pt zv tk ck M) (q : ∀ H', BufS H' ℓ txt pt zv v ck M → Keep [ℓ.db] H H' → Q H') : Set c n "ticks" (.ref ℓ.b) (.int v) H Q :=
  Set.put B.inst B.ns (.tail (.tail (.tail (.tail (.tail (.tail (.tail (.tail (.tail (.tail .head)))))))))) (T.clsAny (by decide)) (T.fldAny (by decide +kernel)) (by simp) (q _ (B.setNs pt zv v ck) (Keep.set (by simp)))
theorem Set.bufCodesTicks (T : Tops c) {v : Int} {Q : List MO → Prop} (B : BufS H ℓ txt pt zv tk ck M) (q : ∀ H', BufS H' ℓ txt pt zv tk v M → Keep [ℓ.db] H H' → Q H') : Set c n "codes_ticks" (.ref ℓ.b) (.int v) H Q :=
  Set.put B.inst B.ns (.tail (.tail (.tail (.tail (.tail (.tail (.tail (.tail (.tail (.tail (.tail .head))))))))))) (T.clsAny (by decide)) (T.fldAny (by decide +kernel)) (by simp) (q _ (B.setNs pt zv tk v) (Keep.set (by simp)))
theorem buf_begin (T : Tops c) {Q : Post MV} (B : BufS H ℓ txt pt zv tk ck M) (q : Q (.int 1) H) : Cl c (n + 1) (.ref 604) [.ref ℓ.b] H Q := by
  refine T.call 62 ["self"] [] rfl ⟨rfl, rfl, rfl, rfl, by decide, by decide⟩ rfl (fun _ _ _ _ _ _ => binds1 fun _ => (by kernel_rfl)) ?_
  (dsimp only [mkLoc, List.zip, List.zipWith, List.map, List.cons_append, List.nil_append]; repeat' walk_at "st")
  exact q
theorem buf_end (T : Tops c) {Q : Post MV} (B : BufS H ℓ txt pt zv tk ck M) (q : Q (.int zv) H) : Cl c (n + 1) (.ref 611) [.ref ℓ.b] H Q := by
  refine T.call 63 ["self"] [] rfl ⟨rfl, rfl, rfl, rfl, by decide, by decide⟩ rfl (fun _ _ _ _ _ _ => binds1 fun _ => (by kernel_rfl)) ?_
  (dsimp only [mkLoc, List.zip, List.zipWith, List.map, List.cons_append, List.nil_append]; repeat' walk_at "st")
  exact q
theorem buf_size (T : Tops c) {Q : Post MV} (B : BufS H ℓ txt pt zv tk ck M) (hM : M ≤ 400) (q : Q (.int txt.length) H) : Cl c (n + 2) (.ref 618) [.ref ℓ.b] H Q := by
  refine T.call 64 ["self"] [] rfl ⟨rfl, rfl, rfl, rfl, by decide, by decide⟩ rfl (fun _ _ _ _ _ _ => binds1 fun _ => (by kernel_rfl)) ?_
  (dsimp only [mkLoc, List.zip, List.zipWith, List.map, List.cons_append, List.nil_append]; repeat' walk_at "st")
  refine Ev.meth0 T 0 rfl (by decide) ?_
  refine x13 (gap_fields B.gap) fun f hf hl hk => ?_
  repeat' walk_at "st"
  refine i35 _ _ _ rfl B.gap.ginst hf (hk _ (by decide)) ?_
  refine gap_size T B.gap hM ?_
  repeat' walk_at "st"
  exact q
theorem buf_code_at (T : Tops c) {Q : Post MV} {p : Nat} {x : Int} (B : BufS H ℓ txt pt zv tk ck M) (hM : M ≤ 400) (hp : 1 ≤ p) (hz : (p : Int) < zv) (hx : txt[p - 1]? = some x) (q : Q (.int x) H) : Cl c (n + 2) (.ref 625) [.ref ℓ.b, .int p] H Q := by
  refine T.call 65 ["self", "place"] [] rfl ⟨rfl, rfl, rfl, rfl, by decide, by decide⟩ rfl (fun _ _ _ _ _ _ => binds2 fun _ _ => (by kernel_rfl)) ?_
  refine hold fun Xh oh => ?_
  refine x13 (gap_fields B.gap) fun f hf hl hk => ?_
  refine oh ?_
  (dsimp only [mkLoc, List.zip, List.zipWith, List.map, List.cons_append, List.nil_append]; repeat' walk_at "st")
  refine ⟨fun e => ?_, fun e => ?_⟩
  · refine Run.or1 ?_
    repeat' walk_at "st"
    refine ⟨fun e => ?_, fun e => ?_⟩
    · exfalso
      have : (p : Int) ≥ zv := by simpa using e
      lia
    · repeat' walk_at "st"
      refine Ev.meth T 1 rfl (by decide) ?_
      repeat' walk_at "st"
      refine i35 _ _ _ rfl B.gap.ginst hf (hk _ (by decide)) ?_
      repeat' walk_at "st"
      rw [show ((p : Int) - 1) = ((p - 1 : Nat) : Int) by lia]
      refine gap_code T B.gap hM hx ?_
      repeat' walk_at "st"
      exact q
  · exfalso
    have : (p : Int) < 1 := by simpa using e
    lia
theorem buf_codes (T : Tops c) {Q : Post MV} {a b : Nat} (B : BufS H ℓ txt pt zv tk ck M) (hM : M ≤ 400) (ha : 1 ≤ a) (hab : a ≤ b) (hb : b ≤ txt.length + 1)
    (q : ∀ k' H', Keep [] H H' → H.length ≤ k' → IsI H' k' ((txt.drop (a - 1)).take (b - a)) → Q (.ref k') H') : Cl c (n + 2) (.ref 632) [.ref ℓ.b, .int a, .int b] H Q := by
  refine T.call 66 ["self", "start", "end"] [] rfl ⟨rfl, rfl, rfl, rfl, by decide, by decide⟩ rfl (fun _ _ _ _ _ _ => binds3 fun _ _ _ => (by kernel_rfl)) ?_
  refine hold fun Xh oh => ?_
  refine x13 (gap_fields B.gap) fun f hf hl hk => ?_
  refine oh ?_
  (dsimp only [mkLoc, List.zip, List.zipWith, List.map, List.cons_append, List.nil_append]; repeat' walk_at "st")
  refine Ev.meth T 2 rfl (by decide) ?_
  repeat' walk_at "st"
  refine i35 _ _ _ rfl B.gap.ginst hf (hk _ (by decide)) ?_
  repeat' walk_at "st"
  rw [c_pred ha, c_pred (Nat.le_trans ha hab)]
  refine gap_codes T B.gap hM (Nat.sub_le_sub_right hab 1) (Nat.sub_le_of_le_add hb) fun k' H' K f h => ?_
  repeat' walk_at "st"
  rw [Nat.sub_sub_sub_cancel_right ha] at h
  exact q _ _ K f h
theorem buf_touch (T : Tops c) {Q : Post MV} (B : BufS H ℓ txt pt zv tk ck M) (q : ∀ tk' ck' H', Keep [ℓ.db] H H' → BufS H' ℓ txt pt zv tk' ck' M → Q .none H') : Cl c (n + 1) (.ref 667) [.ref ℓ.b, .bool true] H Q := by
  refine T.call 67 ["self", "are_codes"] [] rfl ⟨rfl, rfl, rfl, rfl, by decide, by decide⟩ rfl (fun _ _ _ _ _ _ => binds2 fun _ _ => (by kernel_rfl)) ?_
  (dsimp only [mkLoc, List.zip, List.zipWith, List.map, List.cons_append, List.nil_append]; repeat' walk_at "st")
  refine Set.bufTicks T B fun H₁ B₁ K₁ => ?_
  repeat' walk_at "st"
  refine ⟨fun e => ?_, fun e => (by cases e)⟩
  repeat' walk_at "st"
  refine Set.bufCodesTicks T B₁ fun H₂ B₂ K₂ => ?_
  repeat' walk_at "st"
  exact q _ _ _ (K₁.trans K₂) B₂
end
end
local macro_rules | `(tactic| walk_at "at") => `(tactic| first | exact BufS.inst (by assumption) | exact BufS.ns (by assumption) | exact BufS.mki (by assumption) | exact BufS.mkn (by assumption) | exact BufS.mkd (by assumption) | exact BufS.lst (by assumption))
section
theorem Loop.nil {c : Cx} {n : Nat} {sc : Scope} {x : Str} {body : List Stmt} {cond : List MO → Prop} {loc : Loc} {H : List MO} {Q : PostF} (h : Q .next loc H) : Loop c n sc x body cond [] loc H Q := h
section
variable {c : Cx} {n : Nat} {sc : Scope} {loc : Loc} {H H' : List MO} {ℓ : BLay} {txt : List Int} {pt zv tk ck : Int} {M : Nat}
theorem ed_need_writable (T : Tops c) {Q : Post MV} (B : BufS H ℓ txt pt zv tk ck M) (q : Q .none H) : Cl c (n + 1) (.ref 48) [.ref ℓ.b] H Q := by
  refine T.call 1 ["buffer"] [] rfl ⟨rfl, rfl, rfl, rfl, by decide, by decide⟩ rfl (fun _ _ _ _ _ _ => binds1 fun _ => (by kernel_rfl)) ?_
  (dsimp only [mkLoc, List.zip, List.zipWith, List.map, List.cons_append, List.nil_append]; repeat' walk_at "st")
  refine ⟨fun e => (by cases e), fun e => ?_⟩
  repeat' walk_at "st"
  exact q
theorem ed_reached (T : Tops c) (hq : c.q = true) {s e : Int} {Q : Post MV} (B : BufS H ℓ txt pt zv tk ck M) (h1 : 1 ≤ min s e) (h2 : max s e ≤ zv) (q : ∀ kt H', Keep [] H H' → H'[kt]? = some (.tuple [.int (min s e), .int (max s e)]) → Q (.ref kt) H') :
    Cl c (n + 1) (.ref 55) [.ref ℓ.b, .int s, .int e] H Q := by
  refine T.call 2 ["buffer", "start", "end"] ["low", "high"] rfl ⟨rfl, rfl, rfl, rfl, by decide, by decide⟩ rfl (fun _ _ _ _ _ _ => binds3 fun _ _ _ => (by kernel_rfl)) ?_
  (dsimp only [mkLoc, List.zip, List.zipWith, List.map, List.cons_append, List.nil_append]; repeat' walk_at "st")
  refine Ex1.tupS hq ["low", "high"] ?_ (hw := by intro env he; unfold swappedStores Env.kindOf Env.blockKind; rw [he]; rfl)
  repeat' walk_at "st"
  refine i35 _ _ _ rfl get_new rfl (.cons (.tail (.tail (.tail (.tail .head)))) (.cons (.tail (.tail (.tail .head))) .nil)) ?_
  have B' := B.app (l := [.tuple [.int (min s e), .int (max s e)]])
  repeat' walk_at "st"
  refine ⟨fun h => ?_, fun h => (by have : min s e < 1 := by simpa using h
                                    lia)⟩
  refine Run.or1 ?_
  repeat' walk_at "st"
  refine ⟨fun h => (by have : max s e > zv := by simpa using h
                       lia), fun h => ?_⟩
  repeat' walk_at "st"
  exact q _ _ (by walk_at "kp") get_new
theorem ed_tell_ahead (T : Tops c) (hq : c.q = true) {s e : Int} {Q : Post MV} (B : BufS H ℓ txt pt zv tk ck M) (q : ∀ H', Keep [] H H' → Q .none H') : Cl c (n + 1) (.ref 62) [.ref ℓ.b, .int s, .int e] H Q := by
  refine T.call 3 ["buffer", "start", "end"] ["listener"] rfl ⟨rfl, rfl, rfl, rfl, by decide, by decide⟩ rfl (fun _ _ _ _ _ _ => binds3 fun _ _ _ => (by kernel_rfl)) ?_
  (dsimp only [mkLoc, List.zip, List.zipWith, List.map, List.cons_append, List.nil_append]; repeat' walk_at "st")
  refine Ex1.for (Src.list hq ?_)
  repeat' walk_at "st"
  refine Cl.list B.lst (by simp) ?_
  refine i23 _ _ rfl get_new (Loop.nil ?_)
  repeat' walk_at "st"
  exact q _ Keep.app
theorem ed_tell_behind (T : Tops c) (hq : c.q = true) {s e o : Int} {Q : Post MV} (B : BufS H ℓ txt pt zv tk ck M) (q : ∀ tk' ck' H', Keep [ℓ.db] H H' → BufS H' ℓ txt pt zv tk' ck' M → Q .none H') : Cl c (n + 2) (.ref 69) [.ref ℓ.b, .int s, .int e, .int o] H Q := by
  refine T.call 4 ["buffer", "start", "end", "old_length"] ["listener"] rfl ⟨rfl, rfl, rfl, rfl, by decide, by decide⟩ rfl (fun _ _ _ _ _ _ => binds4 fun _ _ _ _ => (by kernel_rfl)) ?_
  (dsimp only [mkLoc, List.zip, List.zipWith, List.map, List.cons_append, List.nil_append]; repeat' walk_at "st")
  refine Ev.meth T 16 rfl (by decide) ?_
  repeat' walk_at "st"
  refine i35 _ _ _ rfl B.inst B.ns (by kernel_rfl) ?_
  repeat' walk_at "st"
  refine buf_touch T B fun tk' ck' H₁ K₁ B₁ => ?_
  repeat' walk_at "st"
  refine Ex1.for (Src.list hq ?_)
  repeat' walk_at "st"
  refine Cl.list B₁.lst (by simp) ?_
  refine i23 _ _ rfl get_new (Loop.nil ?_)
  repeat' walk_at "st"
  exact q _ _ _ (K₁.trans Keep.app) B₁.app
theorem ed_text_out (T : Tops c) (hq : c.q = true) {s e : Nat} {Q : Post MV} (B : BufS H ℓ txt pt zv tk ck M) (hM : M ≤ 390) (h1 : 1 ≤ s) (h2 : s ≤ e) (h3 : e ≤ txt.length + 1)
    (q : ∀ k' pt' H', Keep ℓ.foot H H' → H.length ≤ k' → IsI H' k' ((txt.drop (s - 1)).take (e - s)) → BufS H' ℓ (txt.take (s - 1) ++ txt.drop (e - 1)) pt' (zv - (e - s)) tk ck M → Q (.ref k') H') :
    Cl c (n + 3) (.ref 76) [.ref ℓ.b, .int s, .int e] H Q := by
  refine T.call 5 ["buffer", "start", "end"] ["gone"] rfl ⟨rfl, rfl, rfl, rfl, by decide, by decide⟩ rfl (fun _ _ _ _ _ _ => binds3 fun _ _ _ => (by kernel_rfl)) ?_
  have hlt := B.lt
  (dsimp only [mkLoc, List.zip, List.zipWith, List.map, List.cons_append, List.nil_append]; repeat' walk_at "st")
  refine ⟨fun e => (by cases e), fun _ => ?_⟩
  refine hold fun Xh oh => ?_
  refine x13 (gap_fields B.gap) fun f hf hl hk => ?_
  refine oh ?_
  repeat' walk_at "st"
  refine Ev.meth T 6 rfl (by decide) ?_
  repeat' walk_at "st"
  refine i35 _ _ _ rfl B.gap.ginst hf (hk _ (by decide)) ?_
  repeat' walk_at "st"
  rw [c_pred h1, c_pred (Nat.le_trans h1 h2)]
  refine gap_delete T B.gap hM (by lia) (by lia) fun k₁ H₁ K₁ f₁ h₁ G₁ => ?_
  rw [Nat.sub_sub_sub_cancel_right h1] at h₁
  have B₁ := B.gapped K₁ G₁
  repeat' walk_at "st"
  refine Set.bufZv T B₁ fun H₂ B₂ K₂ => ?_
  have h₂ : IsI H₂ k₁ _ := K₂.get (by simp; lia) h₁
  have K02 : Keep ℓ.foot H H₂ := (keepGap K₁).trans (keepDb K₂ rfl)
  repeat' walk_at "st"
  refine ⟨fun _ => ?_, fun _ => ?_⟩
  · repeat' walk_at "st"
    refine Set.bufPoint T B₂ fun H₃ B₃ K₃ => ?_
    have h₃ : IsI H₃ k₁ _ := K₃.get (by simp; lia) h₂
    repeat' walk_at "st"
    exact q _ _ _ (K02.trans (keepDb K₃ rfl)) f₁ h₃ B₃
  · repeat' walk_at "st"
    exact q _ _ _ K02 f₁ h₂ B₂
theorem ed_text_in (T : Tops c) (hq : c.q = true) {p kx : Nat} {codes : List Int} {Q : Post MV} (B : BufS H ℓ txt pt zv tk ck M) (hx : IsI H kx codes) (hkx : kx ∉ ℓ.foot) (hM : M + codes.length ≤ 390) (hcz : codes.length ≤ 200) (h1 : 1 ≤ p) (h2 : p ≤ txt.length + 1)
    (q : ∀ pt' H', Keep ℓ.foot H H' → BufS H' ℓ (txt.take (p - 1) ++ codes ++ txt.drop (p - 1)) pt' (zv + codes.length) tk ck (M + codes.length + 8) → Q .none H') :
    Cl c (n + 3) (.ref 83) [.ref ℓ.b, .int p, .ref kx] H Q := by
  refine T.call 6 ["buffer", "place", "codes"] [] rfl ⟨rfl, rfl, rfl, rfl, by decide, by decide⟩ rfl (fun _ _ _ _ _ _ => binds3 fun _ _ _ => (by kernel_rfl)) ?_
  have hlt := B.lt
  have hkx' : kx ≠ ℓ.db ∧ kx ≠ ℓ.dg ∧ kx ≠ ℓ.kc := by simpa [BLay.foot] using hkx
  (dsimp only [mkLoc, List.zip, List.zipWith, List.map, List.cons_append, List.nil_append]; repeat' walk_at "st")
  refine ⟨fun e => (by cases e), fun _ => ?_⟩
  refine hold fun Xh oh => ?_
  refine x13 (gap_fields B.gap) fun f hf hl hk => ?_
  refine oh ?_
  repeat' walk_at "st"
  refine Ev.meth T 5 rfl (by decide) ?_
  repeat' walk_at "st"
  refine i35 _ _ _ rfl B.gap.ginst hf (hk _ (by decide)) ?_
  repeat' walk_at "st"
  rw [show ((p : Int) - 1) = ((p - 1 : Nat) : Int) by lia]
  refine gap_insert T B.gap hM hx hkx'.2.2 hcz (by lia) fun H₁ K₁ G₁ => ?_
  have B₁ := B.gapped K₁ G₁
  have h₁ : IsI H₁ kx codes := K₁.get (by simp; lia) hx
  repeat' walk_at "st"
  refine Set.bufZv T B₁ fun H₂ B₂ K₂ => ?_
  have h₂ : IsI H₂ kx codes := K₂.get (by simp; lia) h₁
  have K02 : Keep ℓ.foot H H₂ := (keepGap K₁).trans (keepDb K₂ rfl)
  repeat' walk_at "st"
  refine ⟨fun _ => ?_, fun _ => ?_⟩
  · repeat' walk_at "st"
    refine Set.bufPoint T B₂ fun H₃ B₃ K₃ => ?_
    repeat' walk_at "st"
    exact q _ _ (K02.trans (keepDb K₃ rfl)) B₃
  · repeat' walk_at "st"
    exact q _ _ K02 B₂
theorem ed_hung_out (T : Tops c) {s e : Int} {Q : Post MV} (B : BufS H ℓ txt pt zv tk ck M) (q : Q .none H) : Cl c (n + 1) (.ref 90) [.ref ℓ.b, .int s, .int e] H Q := by
  refine T.call 7 ["buffer", "start", "end"] [] rfl ⟨rfl, rfl, rfl, rfl, by decide, by decide⟩ rfl (fun _ _ _ _ _ _ => binds3 fun _ _ _ => (by kernel_rfl)) ?_
  (dsimp only [mkLoc, List.zip, List.zipWith, List.map, List.cons_append, List.nil_append]; repeat' walk_at "st")
  refine ⟨fun e => (by cases e), fun _ => ?_⟩
  repeat' walk_at "st"
  refine ⟨fun e => (by cases e), fun _ => ?_⟩
  repeat' walk_at "st"
  exact q
theorem ed_hung_in (T : Tops c) {s e : Int} {v : MV} {Q : Post MV} (B : BufS H ℓ txt pt zv tk ck M) (q : Q .none H) : Cl c (n + 1) (.ref 97) [.ref ℓ.b, .int s, .int e, v] H Q := by
  refine T.call 8 ["buffer", "place", "many", "before_markers"] [] rfl ⟨rfl, rfl, rfl, rfl, by decide, by decide⟩ rfl (fun _ _ _ _ _ _ => binds4 fun _ _ _ _ => (by kernel_rfl)) ?_
  (dsimp only [mkLoc, List.zip, List.zipWith, List.map, List.cons_append, List.nil_append]; repeat' walk_at "st")
  refine ⟨fun e => (by cases e), fun _ => ?_⟩
  repeat' walk_at "st"
  refine ⟨fun e => (by cases e), fun _ => ?_⟩
  repeat' walk_at "st"
  exact q
theorem mk_numbers (T : Tops c) (hq : c.q = true) {Q : Post MV} (B : BufS H ℓ txt pt zv tk ck M) (q : Q (.ref H.length) (H ++ [.list []])) : Cl c (n + 1) (.ref 484) [.ref ℓ.mm] H Q := by
  refine T.call 57 ["self"] [] rfl ⟨rfl, rfl, rfl, rfl, by decide, by decide⟩ rfl (fun _ _ _ _ _ _ => binds1 fun _ => (by kernel_rfl)) ?_
  (dsimp only [mkLoc, List.zip, List.zipWith, List.map, List.cons_append, List.nil_append]; repeat' walk_at "st")
  refine Cl.sortedE hq B.mkd ?_
  repeat' walk_at "st"
  exact q
theorem mk_inserted (T : Tops c) (hq : c.q = true) {s e : Int} {v : MV} {Q : Post MV} (B : BufS H ℓ txt pt zv tk ck M) (q : Q .none (H ++ [.list []])) : Cl c (n + 2) (.ref 512) [.ref ℓ.mm, .int s, .int e, v] H Q := by
  refine T.call 58 ["self", "start", "end", "is_before"] ["number", "marker"] rfl ⟨rfl, rfl, rfl, rfl, by decide, by decide⟩ rfl (fun _ _ _ _ _ _ => binds4 fun _ _ _ _ => (by kernel_rfl)) ?_
  (dsimp only [mkLoc, List.zip, List.zipWith, List.map, List.cons_append, List.nil_append]; repeat' walk_at "st")
  refine Ex1.for (Src.list hq ?_)
  refine Ev.meth0 T 7 rfl (by decide) ?_
  repeat' walk_at "st"
  refine i35 _ _ _ rfl B.mki B.mkn (by kernel_rfl) ?_
  refine mk_numbers T hq B ?_
  refine i23 _ _ rfl get_new (Loop.nil ?_)
  repeat' walk_at "st"
  exact q
theorem mk_deleted (T : Tops c) (hq : c.q = true) {s e : Int} {Q : Post MV} (B : BufS H ℓ txt pt zv tk ck M) (q : Q .none (H ++ [.list []])) : Cl c (n + 2) (.ref 519) [.ref ℓ.mm, .int s, .int e] H Q := by
  refine T.call 59 ["self", "start", "end"] ["number", "marker"] rfl ⟨rfl, rfl, rfl, rfl, by decide, by decide⟩ rfl (fun _ _ _ _ _ _ => binds3 fun _ _ _ => (by kernel_rfl)) ?_
  (dsimp only [mkLoc, List.zip, List.zipWith, List.map, List.cons_append, List.nil_append]; repeat' walk_at "st")
  refine Ex1.for (Src.list hq ?_)
  refine Ev.meth0 T 7 rfl (by decide) ?_
  repeat' walk_at "st"
  refine i35 _ _ _ rfl B.mki B.mkn (by kernel_rfl) ?_
  refine mk_numbers T hq B ?_
  refine i23 _ _ rfl get_new (Loop.nil ?_)
  repeat' walk_at "st"
  exact q
theorem mk_replaced (T : Tops c) (hq : c.q = true) {s e m : Int} {Q : Post MV} (B : BufS H ℓ txt pt zv tk ck M) (q : Q .none (H ++ [.list []])) : Cl c (n + 2) (.ref 526) [.ref ℓ.mm, .int s, .int e, .int m] H Q := by
  refine T.call 60 ["self", "start", "end", "many"] ["number", "marker"] rfl ⟨rfl, rfl, rfl, rfl, by decide, by decide⟩ rfl (fun _ _ _ _ _ _ => binds4 fun _ _ _ _ => (by kernel_rfl)) ?_
  (dsimp only [mkLoc, List.zip, List.zipWith, List.map, List.cons_append, List.nil_append]; repeat' walk_at "st")
  refine Ex1.for (Src.list hq ?_)
  refine Ev.meth0 T 7 rfl (by decide) ?_
  repeat' walk_at "st"
  refine i35 _ _ _ rfl B.mki B.mkn (by kernel_rfl) ?_
  refine mk_numbers T hq B ?_
  refine i23 _ _ rfl get_new (Loop.nil ?_)
  repeat' walk_at "st"
  exact q
end
end
section
section
variable {c : Cx} {n : Nat} {sc : Scope} {loc : Loc} {H H' : List MO} {ℓ : BLay} {txt : List Int} {pt zv tk ck : Int} {M : Nat}
/-- the whole buffer, at rest -/
noncomputable def BufIs (H : List MO) (ℓ : BLay) (txt : List Int) (pt : Int) (M : Nat) : Prop := ∃ tk ck, BufS H ℓ txt pt (txt.length + 1) tk ck M
theorem BufIs.keep {H H' : List MO} (B : BufIs H ℓ txt pt M) (K : Keep [] H H') : BufIs H' ℓ txt pt M := by refine x21 B ?_; try clear B; intro a b B; exact i21 a b (B.keep K)
theorem foot_lt (B : BufS H ℓ txt pt zv tk ck M) : ∀ k ∈ ℓ.foot, k < H.length := by
  have := B.lt
  intro k hk
  simp [BLay.foot] at hk
  lia
theorem ed_put_in (T : Tops c) (hq : c.q = true) {p kx : Nat} {codes : List Int} {bb : Bool} {Q : Post MV} (B : BufIs H ℓ txt pt M) (hx : IsI H kx codes) (hkx : kx ∉ ℓ.foot) (hM : M + codes.length ≤ 390) (hcz : codes.length ≤ 200) (h1 : 1 ≤ p) (h2 : p ≤ txt.length + 1)
    (q : ∀ pt' H', Keep ℓ.foot H H' → BufIs H' ℓ (txt.take (p - 1) ++ codes ++ txt.drop (p - 1)) pt' (M + codes.length + 8) → Q .none H') :
    Cl c (n + 4) (.ref 104) [.ref ℓ.b, .int p, .ref kx, .bool false, .bool bb] H Q := by
  refine hold fun Xh oh => ?_
  refine x21 B ?_; try clear B; intro tk ck B
  refine oh ?_
  refine T.call 9 ["buffer", "place", "codes", "before_markers", "is_point_behind"] [] rfl ⟨rfl, rfl, rfl, rfl, by decide, by decide⟩ rfl (fun _ _ _ _ _ _ => binds5 fun _ _ _ _ _ => (by kernel_rfl)) ?_
  (dsimp only [mkLoc, List.zip, List.zipWith, List.map, List.cons_append, List.nil_append]; repeat' walk_at "st")
  refine ed_need_writable T B ?_
  repeat' walk_at "st"
  refine ed_reached T hq B (by lia) (by lia) fun kt H₁ K₁ ht => ?_
  have B₁ := B.keep K₁
  have h₁ := hx.keep K₁
  repeat' walk_at "st"
  refine ⟨fun e => ?_, fun e => ?_⟩
  · have e0 : codes = [] := by simpa using e
    subst e0
    repeat' walk_at "st"
    refine q pt _ K₁.weak (i21 tk ck ?_)
    have : txt.take (p - 1) ++ [] ++ txt.drop (p - 1) = txt := by simp
    rw [this]
    refine { B₁ with gap := ?_ }
    refine hold fun Xh oh => ?_
    refine x35 B₁.gap fun cells gs ge G a1 a2 a3 a4 => ?_
    refine oh ?_
    exact i35 cells gs ge G a1 a2 a3 (by lia)
  · repeat' walk_at "st"
    refine ed_tell_ahead T hq B₁ fun H₂ K₂ => ?_
    have B₂ := B₁.keep K₂
    have h₂ := h₁.keep K₂
    repeat' walk_at "st"
    refine ed_text_in T hq B₂ h₂ hkx hM hcz h1 h2 fun pt₃ H₃ K₃ B₃ => ?_
    have h₃ : IsI H₃ kx codes := K₃.get hkx h₂
    have K03 : Keep ℓ.foot H H₃ := ((K₁.trans K₂).weak).trans K₃
    have tail : ∀ pt₄ H₄, Keep ℓ.foot H H₄ → BufS H₄ ℓ (txt.take (p - 1) ++ codes ++ txt.drop (p - 1)) pt₄ ((txt.length : Int) + 1 + codes.length) tk ck (M + codes.length + 8) → ∀ (H₅ : List MO), Keep [] H₄ H₅ → ∀ tk' ck' (H₆ : List MO), Keep [ℓ.db] H₅ H₆ → BufS H₆ ℓ (txt.take (p - 1) ++ codes ++ txt.drop (p - 1)) pt₄ ((txt.length : Int) + 1 + codes.length) tk' ck' (M + codes.length + 8) → Q .none H₆ := by
      intro pt₄ H₄ K₄ B₄ H₅ K₅ tk' ck' H₆ K₆ B₆
      refine q pt₄ H₆ ((K₄.trans K₅.weak).trans (keepDb K₆ rfl)) (i21 tk' ck' ?_)
      have e : (((txt.take (p - 1) ++ codes ++ txt.drop (p - 1)).length : Nat) : Int) + 1 = (txt.length : Int) + 1 + codes.length := len_put _ _ _
      rw [e]; exact B₆
    repeat' walk_at "st"
    refine ⟨fun _ => ?_, fun _ => ?_⟩
    · repeat' walk_at "st"
      refine Set.bufPoint T B₃ fun H₄ B₄ K₄ => ?_
      have h₄ : IsI H₄ kx codes := K₄.get (by simp [BLay.foot] at hkx; simp; lia) h₃
      repeat' walk_at "st"
      refine Ev.meth T 8 rfl (by decide) ?_
      repeat' walk_at "st"
      refine i35 _ _ _ rfl B₄.mki B₄.mkn (by kernel_rfl) ?_
      repeat' walk_at "st"
      refine mk_inserted T hq B₄ ?_
      have B₅ := B₄.app (l := [.list []])
      have h₅ : IsI (H₄ ++ [.list []]) kx codes := get_app h₄
      repeat' walk_at "st"
      refine ed_hung_in T B₅ ?_
      repeat' walk_at "st"
      refine ed_tell_behind T hq B₅ fun tk' ck' H₆ K₆ B₆ => ?_
      repeat' walk_at "st"
      exact tail _ _ (K03.trans (keepDb K₄ rfl)) B₄ _ Keep.app _ _ _ K₆ B₆
    · repeat' walk_at "st"
      refine Ev.meth T 8 rfl (by decide) ?_
      repeat' walk_at "st"
      refine i35 _ _ _ rfl B₃.mki B₃.mkn (by kernel_rfl) ?_
      repeat' walk_at "st"
      refine mk_inserted T hq B₃ ?_
      have B₅ := B₃.app (l := [.list []])
      have h₅ : IsI (H₃ ++ [.list []]) kx codes := get_app h₃
      repeat' walk_at "st"
      refine ed_hung_in T B₅ ?_
      repeat' walk_at "st"
      refine ed_tell_behind T hq B₅ fun tk' ck' H₆ K₆ B₆ => ?_
      repeat' walk_at "st"
      exact tail _ _ K03 B₃ _ Keep.app _ _ _ K₆ B₆
theorem ed_insert_at (T : Tops c) (hq : c.q = true) {p kx : Nat} {codes : List Int} {Q : Post MV} (B : BufIs H ℓ txt pt M) (hx : IsI H kx codes) (hkx : kx ∉ ℓ.foot) (hM : M + codes.length ≤ 390) (hcz : codes.length ≤ 200) (h1 : 1 ≤ p) (h2 : p ≤ txt.length + 1)
    (q : ∀ pt' H', Keep ℓ.foot H H' → BufIs H' ℓ (txt.take (p - 1) ++ codes ++ txt.drop (p - 1)) pt' (M + codes.length + 8) → Q .none H') :
    Cl c (n + 5) (.ref 112) [.ref ℓ.b, .int p, .ref kx] H Q := by
  refine T.callD 10 ["buffer", "place", "codes", "before_markers"] [] (ws := [.ref ℓ.b, .int p, .ref kx, .bool false]) rfl ⟨rfl, rfl, rfl, rfl, by decide, by decide⟩ rfl (fun _ _ _ _ _ _ => bindsD3 T.tup105 rfl fun a b d => i12 _ rfl (by kernel_rfl)) ?_
  (dsimp only [mkLoc, List.zip, List.zipWith, List.map, List.cons_append, List.nil_append]; repeat' walk_at "st")
  refine ed_put_in T hq B hx hkx hM hcz h1 h2 fun pt' H' K B' => ?_
  repeat' walk_at "st"
  exact q _ _ K B'
theorem ed_insert (T : Tops c) (hq : c.q = true) {p kx : Nat} {codes : List Int} {Q : Post MV} (B : BufIs H ℓ txt (p : Nat) M) (hx : IsI H kx codes) (hkx : kx ∉ ℓ.foot) (hM : M + codes.length ≤ 390) (hcz : codes.length ≤ 200) (h1 : 1 ≤ p) (h2 : p ≤ txt.length + 1)
    (q : ∀ pt' H', Keep ℓ.foot H H' → BufIs H' ℓ (txt.take (p - 1) ++ codes ++ txt.drop (p - 1)) pt' (M + codes.length + 8) → Q .none H') :
    Cl c (n + 5) (.ref 120) [.ref ℓ.b, .ref kx] H Q := by
  have B₀ := B
  refine x21 B₀ ?_; try clear B₀; intro tk ck BS
  refine T.callD 11 ["buffer", "codes", "before_markers"] [] (ws := [.ref ℓ.b, .ref kx, .bool false]) rfl ⟨rfl, rfl, rfl, rfl, by decide, by decide⟩ rfl (fun _ _ _ _ _ _ => bindsD2 T.tup113 rfl fun a b => i12 _ rfl (by kernel_rfl)) ?_
  (dsimp only [mkLoc, List.zip, List.zipWith, List.map, List.cons_append, List.nil_append]; repeat' walk_at "st")
  refine ed_put_in T hq B hx hkx hM hcz h1 h2 fun pt' H' K B' => ?_
  repeat' walk_at "st"
  exact q _ _ K B'
theorem ed_delete (T : Tops c) (hq : c.q = true) {s e : Nat} {Q : Post MV} (B : BufIs H ℓ txt pt M) (hM : M ≤ 390) (h1 : 1 ≤ s) (h2 : s ≤ e) (h3 : e ≤ txt.length + 1)
    (q : ∀ k' pt' H', Keep ℓ.foot H H' → BufIs H' ℓ (txt.take (s - 1) ++ txt.drop (e - 1)) pt' M → Q (.ref k') H') :
    Cl c (n + 4) (.ref 127) [.ref ℓ.b, .int s, .int e] H Q := by
  refine x21 B ?_; try clear B; intro tk ck B
  refine T.call 12 ["buffer", "start", "end"] ["low", "high", "gone"] rfl ⟨rfl, rfl, rfl, rfl, by decide, by decide⟩ rfl (fun _ _ _ _ _ _ => binds3 fun _ _ _ => (by kernel_rfl)) ?_
  (dsimp only [mkLoc, List.zip, List.zipWith, List.map, List.cons_append, List.nil_append]; repeat' walk_at "st")
  refine ed_need_writable T B ?_
  repeat' walk_at "st"
  refine ed_reached T hq B (by lia) (by lia) fun kt H₁ K₁ ht => ?_
  have B₁ := B.keep K₁
  rw [Int.min_eq_left (Int.ofNat_le.mpr h2), Int.max_eq_right (Int.ofNat_le.mpr h2)] at ht
  repeat' walk_at "st"
  refine ⟨fun h => ?_, fun h => ?_⟩
  · have he : s = e := by have : (s : Int) = e := by simpa using h
                          lia
    subst he
    repeat' walk_at "st"
    refine q _ pt _ (K₁.weak.trans Keep.app) (i21 tk ck ?_)
    rw [List.take_append_drop]
    exact B₁.app
  · have hne : s ≠ e := by intro hh; subst hh; simp at h
    repeat' walk_at "st"
    refine ed_tell_ahead T hq B₁ fun H₂ K₂ => ?_
    have B₂ := B₁.keep K₂
    repeat' walk_at "st"
    refine ed_text_out T hq B₂ hM h1 h2 h3 fun k₃ pt₃ H₃ K₃ f₃ h₃ B₃ => ?_
    repeat' walk_at "st"
    refine Ev.meth T 9 rfl (by decide) ?_
    repeat' walk_at "st"
    refine i35 _ _ _ rfl B₃.mki B₃.mkn (by kernel_rfl) ?_
    repeat' walk_at "st"
    refine mk_deleted T hq B₃ ?_
    have B₄ := B₃.app (l := [.list []])
    repeat' walk_at "st"
    refine ed_hung_out T B₄ ?_
    repeat' walk_at "st"
    refine ed_tell_behind T hq B₄ fun tk' ck' H₅ K₅ B₅ => ?_
    repeat' walk_at "st"
    refine q _ pt₃ _ ((((K₁.trans K₂).weak).trans K₃).trans ((Keep.app).trans (keepDb K₅ rfl))) (i21 tk' ck' ?_)
    have e : (((txt.take (s - 1) ++ txt.drop (e - 1)).length : Nat) : Int) + 1 = (txt.length : Int) + 1 - (e - s) := len_del h1 h2 h3
    rw [e]; exact B₅
theorem ed_replace (T : Tops c) (hq : c.q = true) {s e kx : Nat} {codes : List Int} {Q : Post MV} (B : BufIs H ℓ txt pt M) (hx : IsI H kx codes) (hkx : kx ∉ ℓ.foot) (hM : M + codes.length ≤ 390) (hcz : codes.length ≤ 200) (h1 : 1 ≤ s) (h2 : s ≤ e) (h3 : e ≤ txt.length + 1)
    (q : ∀ k' pt' H', Keep ℓ.foot H H' → BufIs H' ℓ (txt.take (s - 1) ++ codes ++ txt.drop (e - 1)) pt' (M + codes.length + 8) → Q (.ref k') H') :
    Cl c (n + 6) (.ref 134) [.ref ℓ.b, .int s, .int e, .ref kx] H Q := by
  have BI := B
  refine x21 B ?_; try clear B; intro tk ck B
  refine T.call 13 ["buffer", "start", "end", "codes"] ["low", "high", "point", "gone"] rfl ⟨rfl, rfl, rfl, rfl, by decide, by decide⟩ rfl (fun _ _ _ _ _ _ => binds4 fun _ _ _ _ => (by kernel_rfl)) ?_
  (dsimp only [mkLoc, List.zip, List.zipWith, List.map, List.cons_append, List.nil_append]; repeat' walk_at "st")
  refine ed_need_writable T B ?_
  repeat' walk_at "st"
  refine ed_reached T hq B (by lia) (by lia) fun kt H₁ K₁ ht => ?_
  have B₁ := B.keep K₁
  have BI₁ := BI.keep K₁
  have h₁ := hx.keep K₁
  rw [Int.min_eq_left (Int.ofNat_le.mpr h2), Int.max_eq_right (Int.ofNat_le.mpr h2)] at ht
  repeat' walk_at "st"
  refine ⟨fun h => ?_, fun h => ?_⟩
  · have he : s = e := by have : (s : Int) = e := by simpa using h
                          lia
    subst he
    repeat' walk_at "st"
    refine ed_insert_at T hq BI₁ h₁ hkx hM hcz h1 h3 fun pt' H' K B' => ?_
    repeat' walk_at "st"
    exact q _ _ _ ((K₁.weak.trans K).trans Keep.app) (B'.keep Keep.app)
  · have hne : s ≠ e := by intro hh; subst hh; simp at h
    repeat' walk_at "st"
    refine ⟨fun h => ?_, fun h => ?_⟩
    · have e0 : codes = [] := by simpa using h
      subst e0
      repeat' walk_at "st"
      refine ed_delete T hq BI₁ (by lia) h1 h2 h3 fun k' pt' H' K B' => ?_
      repeat' walk_at "st"
      refine q _ pt' _ (K₁.weak.trans K) ?_
      refine x21 B' ?_; try clear B'; intro tk' ck' B'
      refine i21 tk' ck' ?_
      simp only [List.append_nil, List.length_nil, Nat.add_zero]
      refine { B' with gap := ?_ }
      refine x35 B'.gap fun cells gs ge G a1 a2 a3 a4 => ?_
      exact i35 cells gs ge G a1 a2 a3 (by lia)
    · repeat' walk_at "st"
      refine ed_tell_ahead T hq B₁ fun H₂ K₂ => ?_
      have B₂ := B₁.keep K₂
      have h₂ := h₁.keep K₂
      repeat' walk_at "st"
      refine ed_text_out T hq B₂ (by lia) h1 h2 h3 fun k₃ pt₃ H₃ K₃ f₃ h₃ B₃ => ?_
      have hx₃ : IsI H₃ kx codes := K₃.get hkx h₂
      have e1 : (txt.take (s - 1) ++ txt.drop (e - 1)).take (s - 1) = txt.take (s - 1) := List.take_left' (by simp; lia)
      have e2 : (txt.take (s - 1) ++ txt.drop (e - 1)).drop (s - 1) = txt.drop (e - 1) := List.drop_left' (by simp; lia)
      repeat' walk_at "st"
      refine ed_text_in T hq B₃ hx₃ hkx hM hcz h1 (by simp only [List.length_append, List.length_take, List.length_drop]; exact ar_le h1 h2 h3) fun pt₄ H₄ K₄ B₄ => ?_
      rw [e1, e2] at B₄
      have hx₄ : IsI H₄ kx codes := K₄.get hkx hx₃
      have K04 : Keep ℓ.foot H H₄ := (((K₁.trans K₂).weak).trans K₃).trans K₄
      have tail : ∀ pt₅ k', ∀ (H₆ : List MO), Keep ℓ.foot H H₆ → ∀ tk' ck' (H₇ : List MO), Keep [ℓ.db] H₆ H₇ → BufS H₇ ℓ (txt.take (s - 1) ++ codes ++ txt.drop (e - 1)) pt₅ ((txt.length : Int) + 1 - (e - s) + codes.length) tk' ck' (M + codes.length + 8) → Q (.ref k') H₇ := by
        intro pt₅ k' H₆ K₆ tk' ck' H₇ K₇ B₇
        refine q k' pt₅ H₇ (K₆.trans (keepDb K₇ rfl)) (i21 tk' ck' ?_)
        have e : (((txt.take (s - 1) ++ codes ++ txt.drop (e - 1)).length : Nat) : Int) + 1 = (txt.length : Int) + 1 - (e - s) + codes.length := len_rep _ h1 h2 h3
        rw [e]; exact B₇
      repeat' walk_at "st"
      refine ⟨fun _ => ?_, fun _ => ?_⟩
      · repeat' walk_at "st"
        refine Set.bufPoint T B₄ fun H₅ B₅ K₅ => ?_
        have hx₅ : IsI H₅ kx codes := K₅.get (by simp [BLay.foot] at hkx; simp; lia) hx₄
        repeat' walk_at "st"
        refine Ev.meth T 10 rfl (by decide) ?_
        repeat' walk_at "st"
        refine i35 _ _ _ rfl B₅.mki B₅.mkn (by kernel_rfl) ?_
        repeat' walk_at "st"
        refine mk_replaced T hq B₅ ?_
        have B₆ := B₅.app (l := [.list []])
        have hx₆ : IsI (H₅ ++ [.list []]) kx codes := get_app hx₅
        repeat' walk_at "st"
        refine ed_hung_out T B₆ ?_
        repeat' walk_at "st"
        refine ed_hung_in T B₆ ?_
        repeat' walk_at "st"
        refine ed_tell_behind T hq B₆ fun tk' ck' H₇ K₇ B₇ => ?_
        repeat' walk_at "st"
        exact tail _ _ _ ((K04.trans (keepDb K₅ rfl)).trans Keep.app) _ _ _ K₇ B₇
      · repeat' walk_at "st"
        refine Ev.meth T 10 rfl (by decide) ?_
        repeat' walk_at "st"
        refine i35 _ _ _ rfl B₄.mki B₄.mkn (by kernel_rfl) ?_
        repeat' walk_at "st"
        refine mk_replaced T hq B₄ ?_
        have B₆ := B₄.app (l := [.list []])
        have hx₆ : IsI (H₄ ++ [.list []]) kx codes := get_app hx₄
        repeat' walk_at "st"
        refine ed_hung_out T B₆ ?_
        repeat' walk_at "st"
        refine ed_hung_in T B₆ ?_
        repeat' walk_at "st"
        refine ed_tell_behind T hq B₆ fun tk' ck' H₇ K₇ B₇ => ?_
        repeat' walk_at "st"
        exact tail _ _ _ (K04.trans Keep.app) _ _ _ K₇ B₇
end
end
section
/-! rows and lines, in plain words -/
theorem foldl_join : ∀ (l : List Int) (st : List (List Int) × List Int), joinRows ((l.foldl rowStep st).1 ++ [(l.foldl rowStep st).2]) = joinRows (st.1 ++ [st.2]) ++ l
  | [], st => by simp
  | x :: l, st => by
    rw [List.foldl_cons, foldl_join l (rowStep st x)]
    unfold rowStep
    split
    · rename_i h
      rw [joinRows_snoc (st.1 ++ [st.2])]
      simp [h]
    · rw [joinRows_snoc, joinRows_snoc]; simp
theorem joinRows_rowsOf (l : List Int) : joinRows (rowsOf l) = l := by
  unfold rowsOf rowsSt
  rw [foldl_join]; simp [joinRows]
theorem joinRows_le : ∀ (rows : List (List Int)) (b : Nat), (∀ r ∈ rows, r.length ≤ b) → (joinRows rows).length ≤ rows.length * (b + 1)
  | [], b, _ => by simp [joinRows]
  | r :: rs, b, h => by
    have h1 := h r (.head _)
    have h2 : ∀ (rs : List (List Int)), (∀ r ∈ rs, r.length ≤ b) → (rs.flatMap fun q => (10 : Int) :: q).length ≤ rs.length * (b + 1) := by
      intro rs
      induction rs with
      | nil => intro _; simp
      | cons a rs ih =>
        intro h
        have := ih fun r hr => h r (.tail _ hr)
        have := h a (.head _)
        simp only [List.flatMap_cons, List.length_append, List.length_cons]
        rw [Nat.add_mul]; lia
    have := h2 rs fun r hr => h r (.tail _ hr)
    simp only [joinRows, List.length_append, List.length_cons]
    rw [Nat.add_mul]; lia
noncomputable def ls0 (txt : List Int) : Nat → Nat
  | 0 => 0
  | q + 1 => if txt[q]? = some 10 then q + 1 else ls0 txt q
noncomputable def le0 (txt : List Int) (q : Nat) : Nat := q + ((txt.drop q).takeWhile fun x => x != 10).length
theorem ls0_le (txt : List Int) : ∀ q, ls0 txt q ≤ q
  | 0 => Nat.le_refl _
  | q + 1 => by unfold ls0; split; exact Nat.le_refl _; exact Nat.le_succ_of_le (ls0_le txt q)
theorem le0_ge (txt : List Int) (q : Nat) : q ≤ le0 txt q := Nat.le_add_right _ _
theorem takeWhile_len {α : Type} (p : α → Bool) : ∀ l : List α, (l.takeWhile p).length ≤ l.length
  | [] => by simp
  | x :: l => by have := takeWhile_len p l; rw [List.takeWhile_cons]; split <;> simp; lia
theorem le0_le (txt : List Int) (q : Nat) (h : q ≤ txt.length) : le0 txt q ≤ txt.length := by
  have := takeWhile_len (fun x : Int => x != 10) (txt.drop q)
  rw [List.length_drop] at this
  unfold le0; lia
theorem le0_end (txt : List Int) : le0 txt txt.length = txt.length := by unfold le0; simp
theorem le0_stop {txt : List Int} {q : Nat} (h : txt[q]? = some 10) : le0 txt q = q := by
  have hlt := (List.getElem?_eq_some_iff.mp h).1
  have hd : txt.drop q = 10 :: txt.drop (q + 1) := by rw [List.drop_eq_getElem_cons hlt]; congr 1; exact (List.getElem?_eq_some_iff.mp h).2
  unfold le0
  rw [hd, List.takeWhile_cons]; simp
theorem le0_step {txt : List Int} {q : Nat} {x : Int} (h : txt[q]? = some x) (hx : x ≠ 10) : le0 txt q = le0 txt (q + 1) := by
  have hlt := (List.getElem?_eq_some_iff.mp h).1
  have hd : txt.drop q = x :: txt.drop (q + 1) := by rw [List.drop_eq_getElem_cons hlt]; congr 1; exact (List.getElem?_eq_some_iff.mp h).2
  unfold le0
  rw [hd, List.takeWhile_cons, if_pos (by simpa using hx)]; simp; lia
noncomputable def colOf (txt : List Int) (q : Nat) : Nat := colAt ((txt.drop (ls0 txt q)).take (q - ls0 txt q))

section
variable {c : Cx} {n : Nat} {sc : Scope} {loc : Loc} {H H' : List MO} {ℓ : BLay} {txt : List Int} {pt zv tk ck : Int} {M : Nat}
theorem BufIs.mono {M' : Nat} (B : BufIs H ℓ txt pt M) (h : M ≤ M') : BufIs H ℓ txt pt M' := by
  refine hold fun Xh oh => ?_
  refine x21 B ?_; try clear B; intro tk ck B
  refine oh ?_
  refine i21 tk ck ({ B with gap := ?_ })
  refine hold fun Xh oh => ?_
  refine x35 B.gap fun cells gs ge G a1 a2 a3 a4 => ?_
  refine oh ?_
  exact i35 cells gs ge G a1 a2 a3 (by lia)
theorem line_start_call (T : Tops c) {p : Nat} {Q : Post MV} (B : BufIs H ℓ txt pt M) (hM : M ≤ 400) (h1 : 1 ≤ p) (h2 : p ≤ txt.length + 1) (q : Q (.int (ls0 txt (p - 1) + 1 : Nat)) H) : Cl c (n + 3) (.ref 141) [.ref ℓ.b, .int p] H Q := by
  refine x21 B ?_; try clear B; intro tk ck B
  refine x11 T.newline fun t hG => ?_
  refine T.call 14 ["view", "place"] ["at"] rfl ⟨rfl, rfl, rfl, rfl, by decide, by decide⟩ rfl (fun _ _ _ _ _ _ => binds2 fun _ _ => (by kernel_rfl)) ?_
  (dsimp only [mkLoc, List.zip, List.zipWith, List.map, List.cons_append, List.nil_append]; repeat' walk_at "st")
  refine Ex1.while (fun k loc H' => ∃ a : Nat, loc = ([("view", some (.ref ℓ.b)), ("place", some (.int p)), ("at", some (.int a))] : Loc) ∧ H' = H ∧ k = a ∧ 1 ≤ a ∧ a ≤ p ∧ ls0 txt (a - 1) = ls0 txt (p - 1)) ?_ p (i16 p rfl rfl rfl h1 (Nat.le_refl _) rfl)
  intro k loc H' hr8
  refine x16 hr8 ?_; try clear hr8; intro a eq10 eq11 hk ha hap hs; subst eq10; subst eq11
  replace hk := hk.symm
  subst hk
  refine Tst.and (Tst.cmp (Ev.name (by (with_reducible repeat constructor); done) (Ev.meth0 T 11 rfl (by decide) ?_)))
  repeat' walk_at "st"
  refine i35 _ _ _ rfl B.inst B.ns (by kernel_rfl) ?_
  refine buf_begin T B ?_
  repeat' walk_at "st"
  refine ⟨fun e => ?_, fun e => ⟨fun h => (by cases h), fun _ => ?_⟩⟩
  · have ha1 : 1 < a := by have : (a : Int) > 1 := by simpa using e
                           lia
    have hx : txt[a - 1 - 1]? = some txt[a - 2] := List.getElem?_eq_getElem (by lia)
    refine Run.and ?_
    refine Tst.cmp (Ev.meth T 14 rfl (by decide) ?_)
    repeat' walk_at "st"
    refine i35 _ _ _ rfl B.inst B.ns (by kernel_rfl) ?_
    repeat' walk_at "st"
    rw [show ((a : Int) - 1) = ((a - 1 : Nat) : Int) by lia]
    refine buf_code_at T B hM (by lia) (by lia) hx ?_
    repeat' walk_at "st"
    have hun : ls0 txt (a - 1) = if txt[a - 2]? = some 10 then a - 1 else ls0 txt (a - 2) := by
      obtain ⟨j, rfl⟩ : ∃ j, a = j + 2 := ⟨a - 2, by lia⟩
      rfl
    refine ⟨fun e => Run.and_nil ⟨fun _ => ?_, fun h => (by cases h)⟩, fun e => ⟨fun h => (by cases h), fun _ => ?_⟩⟩
    · repeat' walk_at "st"
      refine i12 (a - 1) (by lia) (i16 (a - 1) ?_ rfl rfl (by lia) (by lia) ?_)
      · rw [show ((a - 1 : Nat) : Int) = (a : Int) - 1 by lia]
      · rw [← hs, hun, if_neg, show a - 1 - 1 = a - 2 by lia]
        rw [show a - 1 - 1 = a - 2 from rfl] at hx
        rw [hx]; simpa using e
    · repeat' walk_at "st"
      rw [← hs, hun, if_pos] at q
      · rw [show a - 1 + 1 = a by lia] at q
        exact q
      · rw [show a - 1 - 1 = a - 2 from rfl] at hx
        rw [hx]; simpa using e
  · have ha1 : a = 1 := by have : ¬ (a : Int) > 1 := by simpa using e
                           lia
    subst ha1
    repeat' walk_at "st"
    rw [← hs] at q
    exact q
theorem line_end_call (T : Tops c) {p : Nat} {Q : Post MV} (B : BufIs H ℓ txt pt M) (hM : M ≤ 400) (h1 : 1 ≤ p) (h2 : p ≤ txt.length + 1) (q : Q (.int (le0 txt (p - 1) + 1 : Nat)) H) : Cl c (n + 3) (.ref 148) [.ref ℓ.b, .int p] H Q := by
  refine x21 B ?_; try clear B; intro tk ck B
  refine x11 T.newline fun t hG => ?_
  refine T.call 15 ["view", "place"] ["at"] rfl ⟨rfl, rfl, rfl, rfl, by decide, by decide⟩ rfl (fun _ _ _ _ _ _ => binds2 fun _ _ => (by kernel_rfl)) ?_
  (dsimp only [mkLoc, List.zip, List.zipWith, List.map, List.cons_append, List.nil_append]; repeat' walk_at "st")
  refine Ex1.while (fun k loc H' => ∃ a : Nat, loc = ([("view", some (.ref ℓ.b)), ("place", some (.int p)), ("at", some (.int a))] : Loc) ∧ H' = H ∧ k = txt.length + 2 - a ∧ p ≤ a ∧ a ≤ txt.length + 1 ∧ le0 txt (a - 1) = le0 txt (p - 1)) ?_ (txt.length + 2 - p) (i16 p rfl rfl rfl (Nat.le_refl _) h2 rfl)
  intro k loc H' hr9
  refine x16 hr9 ?_; try clear hr9; intro a eq12 eq13 hk ha hap hs; subst eq12; subst eq13
  replace hk := hk.symm
  subst hk
  refine Tst.and (Tst.cmp (Ev.name (by (with_reducible repeat constructor); done) (Ev.meth0 T 12 rfl (by decide) ?_)))
  repeat' walk_at "st"
  refine i35 _ _ _ rfl B.inst B.ns (by kernel_rfl) ?_
  refine buf_end T B ?_
  repeat' walk_at "st"
  refine ⟨fun e => ?_, fun e => ⟨fun h => (by cases h), fun _ => ?_⟩⟩
  · have ha1 : a < txt.length + 1 := by have : (a : Int) < (txt.length : Int) + 1 := by simpa using e
                                        lia
    have hx : txt[a - 1]? = some txt[a - 1] := List.getElem?_eq_getElem (by lia)
    refine Run.and ?_
    refine Tst.cmp (Ev.meth T 14 rfl (by decide) ?_)
    repeat' walk_at "st"
    refine i35 _ _ _ rfl B.inst B.ns (by kernel_rfl) ?_
    repeat' walk_at "st"
    refine buf_code_at T B hM (by lia) (by lia) hx ?_
    repeat' walk_at "st"
    refine ⟨fun e => Run.and_nil ⟨fun _ => ?_, fun h => (by cases h)⟩, fun e => ⟨fun h => (by cases h), fun _ => ?_⟩⟩
    · repeat' walk_at "st"
      refine i12 (txt.length + 2 - (a + 1)) (Nat.sub_succ_lt_self _ _ (Nat.lt_succ_of_lt ha1)) (i16 (a + 1) ?_ rfl rfl (by lia) (by lia) ?_)
      · rfl
      · rw [← hs, le0_step hx (by simpa using e), show a - 1 + 1 = a + 1 - 1 by lia]
    · repeat' walk_at "st"
      have h10 : txt[a - 1] = 10 := by simpa using e
      rw [h10] at hx
      rw [← hs, le0_stop hx, show a - 1 + 1 = a by lia] at q
      exact q
  · have ha1 : a = txt.length + 1 := by have : ¬ (a : Int) < (txt.length : Int) + 1 := by simpa using e
                                        lia
    subst ha1
    repeat' walk_at "st"
    rw [← hs, Nat.add_sub_cancel, le0_end] at q
    exact q
theorem column_of_call (T : Tops c) (hq : c.q = true) {p : Nat} {Q : Post MV} (B : BufIs H ℓ txt pt M) (hM : M ≤ 400) (h1 : 1 ≤ p) (h2 : p ≤ txt.length + 1) (hz : txt.length ≤ 300) (q : ∀ H', Keep [] H H' → Q (.int (colOf txt (p - 1) : Nat)) H') : Cl c (n + 4) (.ref 300) [.ref ℓ.b, .int p, .int 4] H Q := by
  have BI := B
  refine x21 B ?_; try clear B; intro tk ck B
  refine T.call 35 ["buffer", "place", "tab"] ["begin"] rfl ⟨rfl, rfl, rfl, rfl, by decide, by decide⟩ rfl (fun _ _ _ _ _ _ => binds3 fun _ _ _ => (by kernel_rfl)) ?_
  have hl := ls0_le txt (p - 1)
  (dsimp only [mkLoc, List.zip, List.zipWith, List.map, List.cons_append, List.nil_append]; repeat' walk_at "st")
  refine line_start_call T BI hM h1 h2 ?_
  repeat' walk_at "st"
  refine Ev.meth T 15 rfl (by decide) ?_
  repeat' walk_at "st"
  refine i35 _ _ _ rfl B.inst B.ns (by kernel_rfl) ?_
  repeat' walk_at "st"
  refine buf_codes T B hM (by lia) (by lia) h2 fun k₁ H₁ K₁ f₁ h₁' => ?_
  repeat' walk_at "st"
  rw [cp_sub h1 hl]
  refine column_at T hq h₁' (by simp; exact mbl (Nat.le_trans hz (by decide))) fun H₂ K₂ => ?_
  repeat' walk_at "st"
  have := q H₂ (K₁.trans K₂)
  unfold colOf at this
  rw [np_sub p (ls0 txt (p - 1)), Nat.add_sub_cancel, List.take_take, Nat.min_self]
  exact this
end
end
section
structure SpanAt (H : List MO) (k lo hi kr f l : Nat) : Prop where
  at_ : ∃ d, H[k]? = some (.inst 275 d) ∧ H[d]? = some (.ns [("low", .int lo), ("high", .int hi), ("rows", .ref kr), ("first", .int f), ("last", .int l)])
theorem SpanAt.keep {H H' : List MO} {k lo hi kr f l : Nat} (S : SpanAt H k lo hi kr f l) (K : Keep [] H H') : SpanAt H' k lo hi kr f l := by
  refine x12 S.at_ fun d h1 h2 => ?_
  exact ⟨d, K.get0 h1, K.get0 h2⟩
section
variable {c : Cx} {n : Nat} {sc : Scope} {loc : Loc} {H H' : List MO} {ℓ : BLay} {txt : List Int} {pt zv tk ck : Int} {M : Nat}
theorem Keep.fresh {H₁ H₂ : List MO} {F : List Nat} (a : Keep [] H H₁) (b : Keep F H₁ H₂) (h : ∀ k ∈ F, H.length ≤ k) : Keep [] H H₂ :=
  ⟨Nat.le_trans a.1 b.1, fun k m _ e => b.get (fun q => by have := h k q; have := get_lt e; lia) (a.get0 e)⟩
theorem Set.newF (T : Tops c) {k d : Nat} {C : Addr} {fs : List (Str × MV)} {name : Str} {v : MV} {Q : List MO → Prop} (e : H[k]? = some (.inst C d)) (ed : H[d]? = some (.ns fs)) (q : ∀ H', H'[k]? = some (.inst C d) → H'[d]? = some (.ns (fs ++ [(name, v)])) → Keep [d] H H' → Q H') (hz : fs.length ≤ 900 := by simp) (hv : (fs.map (·.1)).contains name = false := by kernel_rfl) (hC : clsTable.contains C = true := by decide) (hf : (fldTable.any fun e => e.1 == C && e.2.contains name) = true := by decide +kernel) :
    Set c n name (.ref k) v H Q := Set.new e ed (fun q => by rw [List.contains_iff_mem.mpr q] at hv; cases hv) (T.clsAny hC) (T.fldAny hf) hz (q _ (get_set_of e ed (by intro h; cases h)) (get_set_self ed) (Keep.set (by simp)))
theorem span_new (T : Tops c) {lo hi kr f l : Nat} {Q : Post MV} (q : ∀ H' k', Keep [] H H' → H.length ≤ k' → SpanAt H' k' lo hi kr f l → Q (.ref k') H') :
    Cl c (n + 2) (.ref 275) [.int lo, .int hi, .ref kr, .int f, .int l] H Q := by
  have e1 : (H ++ [MO.ns [], MO.inst 275 H.length])[H.length + 1]? = some (.inst 275 H.length) := by simp
  have e2 : (H ++ [MO.ns [], MO.inst 275 H.length])[H.length]? = some (.ns []) := by simp
  have KA : Keep [] H (H ++ [MO.ns [], MO.inst 275 H.length]) := Keep.app
  refine Cl.cls (T.mkOk 0 rfl) (T.defAt 32 rfl) (ps := ["self", "low", "high", "rows", "first", "last"]) (rest := []) (ws := [.ref (H.length + 1), .int lo, .int hi, .ref kr, .int f, .int l]) ⟨rfl, rfl, rfl, rfl, by decide, by decide⟩ rfl (fun _ _ _ _ _ _ => binds6 fun _ _ _ _ _ _ => (by kernel_rfl)) ?_
  generalize (H ++ [MO.ns [], MO.inst 275 H.length]) = H₁ at e1 e2 KA ⊢
  (dsimp only [mkLoc, List.zip, List.zipWith, List.map, List.cons_append, List.nil_append]; repeat' walk_at "st")
  refine Set.newF T e1 e2 fun H₂ e1 e2 K₂ => ?_
  repeat' walk_at "st"
  refine Set.newF T e1 e2 fun H₃ e1 e2 K₃ => ?_
  repeat' walk_at "st"
  refine Set.newF T e1 e2 fun H₄ e1 e2 K₄ => ?_
  repeat' walk_at "st"
  refine Set.newF T e1 e2 fun H₅ e1 e2 K₅ => ?_
  repeat' walk_at "st"
  refine Set.newF T e1 e2 fun H₆ e1 e2 K₆ => ?_
  repeat' walk_at "st"
  exact ⟨rfl, q _ _ (KA.fresh (K₂.trans (K₃.trans (K₄.trans (K₅.trans K₆)))) (by simp)) (Nat.le_succ _) ⟨_, e1, e2⟩⟩
set_option genInjectivity false in
/-- what stands between two places -/
structure Spn where
  lo : Nat
  hi : Nat
  rows : List (List Int)
  f : Nat
  l : Nat
noncomputable def spanOf (txt : List Int) (a b : Nat) : Spn :=
  { lo := ls0 txt (min a b - 1), hi := le0 txt (max a b - 1), rows := rowsOf ((txt.drop (ls0 txt (min a b - 1))).take (le0 txt (max a b - 1) - ls0 txt (min a b - 1))),
    f := min (colOf txt (a - 1)) (colOf txt (b - 1)), l := max (colOf txt (a - 1)) (colOf txt (b - 1)) }
theorem span_of_call (T : Tops c) (hq : c.q = true) {a b : Nat} {Q : Post MV} (B : BufIs H ℓ txt pt M) (hM : M ≤ 390) (ha : 1 ≤ a) (hb : 1 ≤ b) (ha' : a ≤ txt.length + 1) (hb' : b ≤ txt.length + 1) (hz : txt.length ≤ 200)
    (q : ∀ k' kr H', Keep [] H H' → SpanAt H' k' ((spanOf txt a b).lo + 1) ((spanOf txt a b).hi + 1) kr (spanOf txt a b).f (spanOf txt a b).l → IsR H' kr (spanOf txt a b).rows → Q (.ref k') H') :
    Cl c (n + 5) (.ref 307) [.ref ℓ.b, .int a, .int b, .int 4] H Q := by
  have BI := B
  refine x21 B ?_; try clear B; intro tk ck B
  refine T.call 36 ["buffer", "start", "end", "tab"] ["one", "other", "low", "high", "columns"] rfl ⟨rfl, rfl, rfl, rfl, by decide, by decide⟩ rfl (fun _ _ _ _ _ _ => binds4 fun _ _ _ _ => (by kernel_rfl)) ?_
  have hM' : M ≤ 400 := Nat.le_trans hM (by decide)
  have hp1 : 1 ≤ min a b := Nat.le_min.mpr ⟨ha, hb⟩
  have hp2 : min a b ≤ txt.length + 1 := Nat.le_trans (Nat.min_le_left _ _) ha'
  have hq1 : 1 ≤ max a b := Nat.le_trans ha (Nat.le_max_left _ _)
  have hq2 : max a b ≤ txt.length + 1 := Nat.max_le.mpr ⟨ha', hb'⟩
  have hz' : txt.length ≤ 300 := Nat.le_trans hz (by decide)
  have hls := ls0_le txt (min a b - 1)
  have hle := le0_ge txt (max a b - 1)
  have hle' := le0_le txt (max a b - 1) (Nat.sub_le_of_le_add hq2)
  (dsimp only [mkLoc, List.zip, List.zipWith, List.map, List.cons_append, List.nil_append]; repeat' walk_at "st")
  refine ed_reached T hq B (by lia) (by lia) fun kt H₁ K₁ ht => ?_
  have B₁ := B.keep K₁
  have BI₁ := BI.keep K₁
  rw [nmin, nmax] at ht
  repeat' walk_at "st"
  refine Ex1.tupS hq ["low", "high"] ?_ (hw := by intro env he; unfold swappedStores Env.kindOf Env.blockKind; rw [he]; rfl)
  repeat' walk_at "st"
  refine line_start_call T BI₁ hM' hp1 hp2 ?_
  repeat' walk_at "st"
  refine line_end_call T BI₁ hM' hq1 hq2 ?_
  repeat' walk_at "st"
  refine i35 _ _ _ rfl get_new rfl (.cons (.tail (.tail (.tail (.tail (.tail (.tail (.tail .head))))))) (.cons (.tail (.tail (.tail (.tail (.tail (.tail .head)))))) .nil)) ?_
  have K₂ : Keep [] H (H₁ ++ [MO.tuple [.int ((ls0 txt (min a b - 1) + 1 : Nat) : Int), .int ((le0 txt (max a b - 1) + 1 : Nat) : Int)]]) := K₁.trans Keep.app
  generalize (H₁ ++ [MO.tuple [.int ((ls0 txt (min a b - 1) + 1 : Nat) : Int), .int ((le0 txt (max a b - 1) + 1 : Nat) : Int)]]) = H₂ at K₂ ⊢
  have BI₂ := BI.keep K₂
  repeat' walk_at "st"
  refine column_of_call T hq BI₂ hM' hp1 hp2 hz' fun H₃ K₃ => ?_
  have BI₃ := BI₂.keep K₃
  repeat' walk_at "st"
  refine column_of_call T hq BI₃ hM' hq1 hq2 hz' fun H₄ K₄ => ?_
  have BI₄ := BI₃.keep K₄
  repeat' walk_at "st"
  refine Cl.sorted2 get_new ?_
  repeat' walk_at "st"
  have K₅ : Keep [] H (H₄ ++ [MO.list [.int (colOf txt (min a b - 1)), .int (colOf txt (max a b - 1))]] ++ [MO.list [.int (min (colOf txt (min a b - 1) : Int) (colOf txt (max a b - 1) : Int)), .int (max (colOf txt (min a b - 1) : Int) (colOf txt (max a b - 1) : Int))]]) := K₂.trans (K₃.trans (K₄.trans (Keep.trans Keep.app Keep.app)))
  have hcols : IsI (H₄ ++ [MO.list [.int (colOf txt (min a b - 1)), .int (colOf txt (max a b - 1))]] ++ [MO.list [.int (min (colOf txt (min a b - 1) : Int) (colOf txt (max a b - 1) : Int)), .int (max (colOf txt (min a b - 1) : Int) (colOf txt (max a b - 1) : Int))]]) (H₄ ++ [MO.list [.int (colOf txt (min a b - 1)), .int (colOf txt (max a b - 1))]]).length [((spanOf txt a b).f : Int), ((spanOf txt a b).l : Int)] := by
    have e0 : (spanOf txt a b).f = min (colOf txt (min a b - 1)) (colOf txt (max a b - 1)) ∧ (spanOf txt a b).l = max (colOf txt (min a b - 1)) (colOf txt (max a b - 1)) := by
      unfold spanOf
      rcases Nat.le_total a b with h | h
      · rw [Nat.min_eq_left h, Nat.max_eq_right h]; exact ⟨rfl, rfl⟩
      · rw [Nat.min_eq_right h, Nat.max_eq_left h]; exact ⟨Nat.min_comm _ _, Nat.max_comm _ _⟩
    have e1 : ((spanOf txt a b).f : Int) = min (colOf txt (min a b - 1) : Int) (colOf txt (max a b - 1) : Int) := by rw [e0.1, nmin]
    have e2 : ((spanOf txt a b).l : Int) = max (colOf txt (min a b - 1) : Int) (colOf txt (max a b - 1) : Int) := by rw [e0.2, nmax]
    rw [e1, e2]; exact get_new
  generalize (H₄ ++ [MO.list [.int (colOf txt (min a b - 1)), .int (colOf txt (max a b - 1))]] ++ [MO.list [.int (min (colOf txt (min a b - 1) : Int) (colOf txt (max a b - 1) : Int)), .int (max (colOf txt (min a b - 1) : Int) (colOf txt (max a b - 1) : Int))]]) = H₅ at K₅ hcols ⊢
  generalize (H₄ ++ [MO.list [.int (colOf txt (min a b - 1)), .int (colOf txt (max a b - 1))]]).length = kcol at hcols ⊢
  have BI₅ := BI.keep K₅
  refine x21 BI₅ fun tk₅ ck₅ B₅ => ?_
  refine Ev.meth T 15 rfl (by decide) ?_
  repeat' walk_at "st"
  refine i35 _ _ _ rfl B₅.inst B₅.ns (by kernel_rfl) ?_
  repeat' walk_at "st"
  refine buf_codes T B₅ hM' (by lia) (Nat.succ_le_succ (Nat.le_trans hls (Nat.le_trans (Nat.sub_le_sub_right (min_le_max' a b) 1) hle))) (by lia) fun k₆ H₆ K₆ f₆ h₆ => ?_
  have hc₆ := hcols.keep K₆
  repeat' walk_at "st"
  refine rows_in_call T hq h₆ (Nat.le_trans (by simp only [List.length_take, List.length_drop]; exact Nat.min_le_right _ _) (Nat.le_trans (Nat.sub_le _ _) (Nat.le_trans hz (by decide)))) fun k₇ H₇ K₇ f₇ h₇ => ?_
  have hc₇ := hc₆.keep K₇
  repeat' walk_at "st"
  refine Sub.itemI hc₇ (by lia) (by lia) (v := ((spanOf txt a b).f : Int)) rfl ?_
  repeat' walk_at "st"
  refine Sub.itemI hc₇ (by lia) (by lia) (v := ((spanOf txt a b).l : Int)) rfl ?_
  repeat' walk_at "st"
  refine span_new T fun H₈ k₈ K₈ f₈ S₈ => ?_
  repeat' walk_at "st"
  refine q _ _ _ (K₅.trans (K₆.trans (K₇.trans K₈))) S₈ ?_
  refine (h₇.keep K₈).of ?_
  unfold spanOf
  dsimp only
  congr 2
  lia
end
end
section
theorem erased_le (row : List Int) (f l : Nat) : (erased row f l).length ≤ row.length + 8 := by
  have := cutBetween_le row f l
  unfold erased; split <;> simp <;> lia
theorem cleared_le (row : List Int) (f l : Nat) : (cleared row f l).length ≤ row.length + 8 + (l - f) := by
  have := cutBetween_le row f l
  unfold cleared; split
  · lia
  · split <;> simp <;> lia
theorem openedUp_le (row : List Int) (f l : Nat) : (openedUp row f l).length ≤ row.length + 4 + (l - f) := by
  have := cutAt_le row f
  unfold openedUp; split <;> simp <;> lia
theorem replacedBy_le (row : List Int) (f l : Nat) (codes : List Int) : (replacedBy row f l codes).length ≤ row.length + f + 8 + codes.length := by
  have := cutBetween_le (padded row f) f l
  have hp : (padded row f).length ≤ row.length + f := by unfold padded; simp
  unfold replacedBy; simp; lia
section
variable {c : Cx} {n : Nat} {sc : Scope} {loc : Loc} {H H' : List MO} {ℓ : BLay} {txt : List Int} {pt zv tk ck : Int} {M : Nat}
theorem put_rows_call (T : Tops c) (hq : c.q = true) {k kr k2 lo hi f l : Nat} {rows rows2 : List (List Int)} {Q : Post MV} (B : BufIs H ℓ txt pt M) (S : SpanAt H k (lo + 1) (hi + 1) kr f l) (hr : IsR H kr rows) (h2 : IsR H k2 rows2) (hM : M ≤ 200)
    (hseg : rows = rowsOf ((txt.drop lo).take (hi - lo))) (hlo : lo ≤ hi) (hhi : hi ≤ txt.length) (hz : rows2.length ≤ 4) (hb : ∀ r ∈ rows2, r.length ≤ 41)
    (q : ∀ pt' H', Keep ℓ.foot H H' → BufIs H' ℓ (txt.take lo ++ joinRows rows2 ++ txt.drop hi) pt' (M + 190) → Q .none H') :
    Cl c (n + 7) (.ref 314) [.ref ℓ.b, .ref k, .ref k2] H Q := by
  refine x12 S.at_ fun d s1 s2 => ?_
  have hjl := joinRows_le rows2 41 hb
  have hjl' : (joinRows rows2).length ≤ 168 := by
    refine Nat.le_trans hjl ?_
    have : rows2.length * (41 + 1) ≤ 4 * 42 := Nat.mul_le_mul_right _ hz
    lia
  refine T.call 37 ["buffer", "span", "rows"] [] rfl ⟨rfl, rfl, rfl, rfl, by decide, by decide⟩ rfl (fun _ _ _ _ _ _ => binds3 fun _ _ _ => (by kernel_rfl)) ?_
  (dsimp only [mkLoc, List.zip, List.zipWith, List.map, List.cons_append, List.nil_append]; repeat' walk_at "st")
  refine Cmp.neR h2 hr ?_
  refine ⟨fun e => ?_, fun e => ?_⟩
  · repeat' walk_at "st"
    refine text_of_call T hq h2 (by lia) (fun r h => Nat.le_trans (hb r h) (by lia)) fun kx H₁ K₁ f₁ h₁ => ?_
    repeat' walk_at "st"
    refine x21 B fun tk ck BS => ?_
    refine ed_replace T hq (B.keep K₁) h₁ (BS.notFoot f₁) (by lia) (by lia) (by lia) (by lia) (by lia) fun k' pt' H₂ K₂ B₂ => ?_
    repeat' walk_at "st"
    rw [Nat.add_sub_cancel, Nat.add_sub_cancel] at B₂
    exact q pt' _ (K₁.weak.trans K₂) (B₂.mono (by lia))
  · have e0 : rows2 = rows := by simpa using e
    subst e0
    repeat' walk_at "st"
    refine q pt _ Keep.refl ?_
    rw [hseg, joinRows_rowsOf]
    have : txt.take lo ++ (txt.drop lo).take (hi - lo) ++ txt.drop hi = txt := by
      have e1 : txt.drop hi = (txt.drop lo).drop (hi - lo) := by rw [List.drop_drop]; congr 1; lia
      rw [e1, List.append_assoc, List.take_append_drop, List.take_append_drop]
    rw [this]
    exact B.mono (by lia)
structure SpnOk (txt : List Int) (a b : Nat) : Prop where
  a1 : 1 ≤ a
  b1 : 1 ≤ b
  a2 : a ≤ txt.length + 1
  b2 : b ≤ txt.length + 1
  z : txt.length ≤ 60
  rows : (spanOf txt a b).rows.length ≤ 4
  each : ∀ r ∈ (spanOf txt a b).rows, r.length ≤ 6
  col : (spanOf txt a b).l ≤ 24
theorem SpnOk.fl {a b : Nat} (S : SpnOk txt a b) : (spanOf txt a b).f ≤ (spanOf txt a b).l := by unfold spanOf; dsimp only; lia
theorem SpnOk.lohi {a b : Nat} (S : SpnOk txt a b) : (spanOf txt a b).lo ≤ (spanOf txt a b).hi ∧ (spanOf txt a b).hi ≤ txt.length := by
  have h1 := S.a1; have h2 := S.b1; have h3 := S.a2; have h4 := S.b2
  have a1 := ls0_le txt (min a b - 1)
  have a2 := le0_ge txt (max a b - 1)
  have a3 := le0_le txt (max a b - 1) (Nat.sub_le_of_le_add (Nat.max_le.mpr ⟨h3, h4⟩))
  exact ⟨Nat.le_trans a1 (Nat.le_trans (Nat.sub_le_sub_right (min_le_max' a b) 1) a2), a3⟩
theorem extract_call (T : Tops c) (hq : c.q = true) {a b : Nat} {Q : Post MV} (B : BufIs H ℓ txt pt M) (hM : M ≤ 390) (S : SpnOk txt a b)
    (q : ∀ k' H', Keep [] H H' → IsR H' k' ((spanOf txt a b).rows.map fun r => extracted r (spanOf txt a b).f (spanOf txt a b).l) → Q (.ref k') H') :
    Cl c (n + 7) (.ref 319) [.ref ℓ.b, .int a, .int b, .int 4] H Q := by
  refine T.call 38 ["buffer", "start", "end", "tab"] ["span"] rfl ⟨rfl, rfl, rfl, rfl, by decide, by decide⟩ rfl (fun _ _ _ _ _ _ => binds4 fun _ _ _ _ => (by kernel_rfl)) ?_
  (dsimp only [mkLoc, List.zip, List.zipWith, List.map, List.cons_append, List.nil_append]; repeat' walk_at "st")
  refine span_of_call T hq B hM S.a1 S.b1 S.a2 S.b2 (by have := S.z; lia) fun ks kr H₁ K₁ S₁ h₁ => ?_
  refine x12 S₁.at_ fun d s1 s2 => ?_
  refine x12 h₁ fun js hjs all => ?_
  repeat' walk_at "st"
  refine Ev.comp [("span", .ref ks), ("tab", .int 4)] (by show compOk _ _ _ ["span", "tab"] = true; decide +kernel) (.cons (by (with_reducible repeat constructor)) (.cons (by (with_reducible repeat constructor)) .nil)) ?_
  refine Src.list hq ?_
  repeat' walk_at "st"
  refine i24 _ _ rfl hjs (get_app hjs) ?_
  refine CompL.rows (fun r => extracted r (spanOf txt a b).f (spanOf txt a b).l) (by have := S.rows; lia) hjs all ?_ ?_
  · intro j row H' K hm hrow
    have hrl := S.each row hm
    have hcol := S.col
    have hfl := S.fl
    have s1' := K.get0 s1
    have s2' := K.get0 s2
    dsimp only [List.map]
    repeat' walk_at "st"
    refine extracted_call T hq hrow (by lia) (by lia) (by lia) fun k' H₂ K₂ f₂ h₂ => ?_
    repeat' walk_at "st"
    exact i14 _ rfl K₂ f₂ h₂
  · intro H' K hR
    repeat' walk_at "st"
    exact q _ _ (K₁.trans K) hR
theorem delete_call (T : Tops c) (hq : c.q = true) {a b : Nat} {Q : Post MV} (B : BufIs H ℓ txt pt M) (hM : M ≤ 200) (S : SpnOk txt a b)
    (q : ∀ pt' H', Keep ℓ.foot H H' → BufIs H' ℓ (txt.take (spanOf txt a b).lo ++ joinRows ((spanOf txt a b).rows.map fun r => erased r (spanOf txt a b).f (spanOf txt a b).l) ++ txt.drop (spanOf txt a b).hi) pt' (M + 190) → Q .none H') :
    Cl c (n + 8) (.ref 324) [.ref ℓ.b, .int a, .int b, .int 4] H Q := by
  refine T.call 39 ["buffer", "start", "end", "tab"] ["span"] rfl ⟨rfl, rfl, rfl, rfl, by decide, by decide⟩ rfl (fun _ _ _ _ _ _ => binds4 fun _ _ _ _ => (by kernel_rfl)) ?_
  (dsimp only [mkLoc, List.zip, List.zipWith, List.map, List.cons_append, List.nil_append]; repeat' walk_at "st")
  refine span_of_call T hq B (by lia) S.a1 S.b1 S.a2 S.b2 (by have := S.z; lia) fun ks kr H₁ K₁ S₁ h₁ => ?_
  refine x12 S₁.at_ fun d s1 s2 => ?_
  refine x12 h₁ fun js hjs all => ?_
  repeat' walk_at "st"
  refine Ev.comp [("span", .ref ks), ("tab", .int 4)] (by show compOk _ _ _ ["span", "tab"] = true; decide +kernel) (.cons (by (with_reducible repeat constructor)) (.cons (by (with_reducible repeat constructor)) .nil)) ?_
  refine Src.list hq ?_
  repeat' walk_at "st"
  refine i24 _ _ rfl hjs (get_app hjs) ?_
  refine CompL.rows (fun r => erased r (spanOf txt a b).f (spanOf txt a b).l) (by have := S.rows; lia) hjs all ?_ ?_
  · intro j row H' K hm hrow
    have hrl := S.each row hm
    have hcol := S.col
    have hfl := S.fl
    have s1' := K.get0 s1
    have s2' := K.get0 s2
    dsimp only [List.map]
    repeat' walk_at "st"
    refine erased_call T hq hrow (by lia) fun k' H₂ K₂ f₂ h₂ => ?_
    repeat' walk_at "st"
    exact i14 _ rfl K₂ f₂ h₂
  · intro H₂ K₂ hR
    repeat' walk_at "st"
    refine put_rows_call T hq ((B.keep K₁).keep K₂) (S₁.keep K₂) (h₁.keep K₂) hR hM rfl S.lohi.1 S.lohi.2 (by simpa using S.rows) ?_ fun pt' H₃ K₃ B₃ => ?_
    · intro r hr
      refine x12 (List.mem_map.mp hr) fun row hm eq33 => ?_; subst eq33
      have := S.each row hm; have := S.col; have := S.fl
      have := erased_le row (spanOf txt a b).f (spanOf txt a b).l
      lia
    repeat' walk_at "st"
    exact q pt' _ ((K₁.trans K₂).weak.trans K₃) B₃
end
end
section
section
variable {c : Cx} {n : Nat} {sc : Scope} {loc : Loc} {H H' : List MO} {ℓ : BLay} {txt : List Int} {pt zv tk ck : Int} {M : Nat}
theorem clear_call (T : Tops c) (hq : c.q = true) {a b : Nat} {Q : Post MV} (B : BufIs H ℓ txt pt M) (hM : M ≤ 200) (S : SpnOk txt a b)
    (q : ∀ pt' H', Keep ℓ.foot H H' → BufIs H' ℓ (txt.take (spanOf txt a b).lo ++ joinRows ((spanOf txt a b).rows.map fun r => cleared r (spanOf txt a b).f (spanOf txt a b).l) ++ txt.drop (spanOf txt a b).hi) pt' (M + 190) → Q .none H') :
    Cl c (n + 8) (.ref 336) [.ref ℓ.b, .int a, .int b, .int 4] H Q := by
  refine T.call 41 ["buffer", "start", "end", "tab"] ["span"] rfl ⟨rfl, rfl, rfl, rfl, by decide, by decide⟩ rfl (fun _ _ _ _ _ _ => binds4 fun _ _ _ _ => (by kernel_rfl)) ?_
  (dsimp only [mkLoc, List.zip, List.zipWith, List.map, List.cons_append, List.nil_append]; repeat' walk_at "st")
  refine span_of_call T hq B (by lia) S.a1 S.b1 S.a2 S.b2 (by have := S.z; lia) fun ks kr H₁ K₁ S₁ h₁ => ?_
  refine x12 S₁.at_ fun d s1 s2 => ?_
  refine x12 h₁ fun js hjs all => ?_
  repeat' walk_at "st"
  refine Ev.comp [("span", .ref ks), ("tab", .int 4)] (by show compOk _ _ _ ["span", "tab"] = true; decide +kernel) (.cons (by (with_reducible repeat constructor)) (.cons (by (with_reducible repeat constructor)) .nil)) ?_
  refine Src.list hq ?_
  repeat' walk_at "st"
  refine i24 _ _ rfl hjs (get_app hjs) ?_
  refine CompL.rows (fun r => cleared r (spanOf txt a b).f (spanOf txt a b).l) (by have := S.rows; lia) hjs all ?_ ?_
  · intro j row H' K hm hrow
    have hrl := S.each row hm
    have hcol := S.col
    have hfl := S.fl
    have s1' := K.get0 s1
    have s2' := K.get0 s2
    dsimp only [List.map]
    repeat' walk_at "st"
    refine cleared_call T hq hrow (by lia) (by lia) (by lia) fun k' H₂ K₂ f₂ h₂ => ?_
    repeat' walk_at "st"
    exact i14 _ rfl K₂ f₂ h₂
  · intro H₂ K₂ hR
    repeat' walk_at "st"
    refine put_rows_call T hq ((B.keep K₁).keep K₂) (S₁.keep K₂) (h₁.keep K₂) hR hM rfl S.lohi.1 S.lohi.2 (by simpa using S.rows) ?_ fun pt' H₃ K₃ B₃ => ?_
    · intro r hr
      refine x12 (List.mem_map.mp hr) fun row hm eq18 => ?_; subst eq18
      have := S.each row hm; have := S.col; have := S.fl
      have := cleared_le row (spanOf txt a b).f (spanOf txt a b).l
      lia
    repeat' walk_at "st"
    exact q pt' _ ((K₁.trans K₂).weak.trans K₃) B₃
theorem open_call (T : Tops c) (hq : c.q = true) {a b : Nat} {Q : Post MV} (B : BufIs H ℓ txt pt M) (hM : M ≤ 200) (S : SpnOk txt a b)
    (q : ∀ pt' H', Keep ℓ.foot H H' → BufIs H' ℓ (txt.take (spanOf txt a b).lo ++ joinRows ((spanOf txt a b).rows.map fun r => openedUp r (spanOf txt a b).f (spanOf txt a b).l) ++ txt.drop (spanOf txt a b).hi) pt' (M + 190) → Q .none H') :
    Cl c (n + 8) (.ref 341) [.ref ℓ.b, .int a, .int b, .int 4] H Q := by
  refine T.call 42 ["buffer", "start", "end", "tab"] ["span"] rfl ⟨rfl, rfl, rfl, rfl, by decide, by decide⟩ rfl (fun _ _ _ _ _ _ => binds4 fun _ _ _ _ => (by kernel_rfl)) ?_
  (dsimp only [mkLoc, List.zip, List.zipWith, List.map, List.cons_append, List.nil_append]; repeat' walk_at "st")
  refine span_of_call T hq B (by lia) S.a1 S.b1 S.a2 S.b2 (by have := S.z; lia) fun ks kr H₁ K₁ S₁ h₁ => ?_
  refine x12 S₁.at_ fun d s1 s2 => ?_
  refine x12 h₁ fun js hjs all => ?_
  repeat' walk_at "st"
  refine Ev.comp [("span", .ref ks), ("tab", .int 4)] (by show compOk _ _ _ ["span", "tab"] = true; decide +kernel) (.cons (by (with_reducible repeat constructor)) (.cons (by (with_reducible repeat constructor)) .nil)) ?_
  refine Src.list hq ?_
  repeat' walk_at "st"
  refine i24 _ _ rfl hjs (get_app hjs) ?_
  refine CompL.rows (fun r => openedUp r (spanOf txt a b).f (spanOf txt a b).l) (by have := S.rows; lia) hjs all ?_ ?_
  · intro j row H' K hm hrow
    have hrl := S.each row hm
    have hcol := S.col
    have hfl := S.fl
    have s1' := K.get0 s1
    have s2' := K.get0 s2
    dsimp only [List.map]
    repeat' walk_at "st"
    refine opened_up_call T hq hrow (by lia) (by lia) (by lia) fun k' H₂ K₂ f₂ h₂ => ?_
    repeat' walk_at "st"
    exact i14 _ rfl K₂ f₂ h₂
  · intro H₂ K₂ hR
    repeat' walk_at "st"
    refine put_rows_call T hq ((B.keep K₁).keep K₂) (S₁.keep K₂) (h₁.keep K₂) hR hM rfl S.lohi.1 S.lohi.2 (by simpa using S.rows) ?_ fun pt' H₃ K₃ B₃ => ?_
    · intro r hr
      refine x12 (List.mem_map.mp hr) fun row hm eq19 => ?_; subst eq19
      have := S.each row hm; have := S.col; have := S.fl
      have := openedUp_le row (spanOf txt a b).f (spanOf txt a b).l
      lia
    repeat' walk_at "st"
    exact q pt' _ ((K₁.trans K₂).weak.trans K₃) B₃
theorem string_call (T : Tops c) (hq : c.q = true) {a b kx : Nat} {codes : List Int} {Q : Post MV} (hx : IsI H kx codes) (hcz : codes.length ≤ 3) (B : BufIs H ℓ txt pt M) (hM : M ≤ 200) (S : SpnOk txt a b)
    (q : ∀ pt' H', Keep ℓ.foot H H' → BufIs H' ℓ (txt.take (spanOf txt a b).lo ++ joinRows ((spanOf txt a b).rows.map fun r => replacedBy r (spanOf txt a b).f (spanOf txt a b).l codes) ++ txt.drop (spanOf txt a b).hi) pt' (M + 190) → Q .none H') :
    Cl c (n + 8) (.ref 346) [.ref ℓ.b, .int a, .int b, .ref kx, .int 4] H Q := by
  refine T.call 43 ["buffer", "start", "end", "codes", "tab"] ["span"] rfl ⟨rfl, rfl, rfl, rfl, by decide, by decide⟩ rfl (fun _ _ _ _ _ _ => binds5 fun _ _ _ _ _ => (by kernel_rfl)) ?_
  (dsimp only [mkLoc, List.zip, List.zipWith, List.map, List.cons_append, List.nil_append]; repeat' walk_at "st")
  refine span_of_call T hq B (by lia) S.a1 S.b1 S.a2 S.b2 (by have := S.z; lia) fun ks kr H₁ K₁ S₁ h₁ => ?_
  refine x12 S₁.at_ fun d s1 s2 => ?_
  refine x12 h₁ fun js hjs all => ?_
  repeat' walk_at "st"
  refine Ev.comp [("codes", .ref kx), ("span", .ref ks), ("tab", .int 4)] (by show compOk _ _ _ ["codes", "span", "tab"] = true; decide +kernel) (.cons (by (with_reducible repeat constructor)) (.cons (by (with_reducible repeat constructor)) (.cons (by (with_reducible repeat constructor)) .nil))) ?_
  refine Src.list hq ?_
  repeat' walk_at "st"
  refine i24 _ _ rfl hjs (get_app hjs) ?_
  refine CompL.rows (fun r => replacedBy r (spanOf txt a b).f (spanOf txt a b).l codes) (by have := S.rows; lia) hjs all ?_ ?_
  · intro j row H' K hm hrow
    have hrl := S.each row hm
    have hcol := S.col
    have hfl := S.fl
    have s1' := K.get0 s1
    have s2' := K.get0 s2
    dsimp only [List.map]
    repeat' walk_at "st"
    refine replaced_call T hq hrow (by lia) ((hx.keep K₁).keep K) (by lia) (by lia) fun k' H₂ K₂ f₂ h₂ => ?_
    repeat' walk_at "st"
    exact i14 _ rfl K₂ f₂ h₂
  · intro H₂ K₂ hR
    repeat' walk_at "st"
    refine put_rows_call T hq ((B.keep K₁).keep K₂) (S₁.keep K₂) (h₁.keep K₂) hR hM rfl S.lohi.1 S.lohi.2 (by simpa using S.rows) ?_ fun pt' H₃ K₃ B₃ => ?_
    · intro r hr
      refine x12 (List.mem_map.mp hr) fun row hm eq20 => ?_; subst eq20
      have := S.each row hm; have := S.col; have := S.fl
      have := replacedBy_le row (spanOf txt a b).f (spanOf txt a b).l codes
      lia
    repeat' walk_at "st"
    exact q pt' _ ((K₁.trans K₂).weak.trans K₃) B₃
theorem number_call (T : Tops c) (hq : c.q = true) {a b : Nat} {Q : Post MV} (B : BufIs H ℓ txt pt M) (hM : M ≤ 200) (S : SpnOk txt a b)
    (q : ∀ pt' H', Keep ℓ.foot H H' → BufIs H' ℓ (txt.take (spanOf txt a b).lo ++ joinRows (numberedRows (spanOf txt a b).rows (spanOf txt a b).f (spanOf txt a b).l) ++ txt.drop (spanOf txt a b).hi) pt' (M + 190) → Q .none H') :
    Cl c (n + 8) (.ref 353) [.ref ℓ.b, .int a, .int b, .int 9, .int 4] H Q := by
  refine T.call 44 ["buffer", "start", "end", "begin", "tab"] ["span"] rfl ⟨rfl, rfl, rfl, rfl, by decide, by decide⟩ rfl (fun _ _ _ _ _ _ => binds5 fun _ _ _ _ _ => (by kernel_rfl)) ?_
  have hz0 : 1 ≤ (spanOf txt a b).rows.length := by unfold spanOf rowsOf; simp
  have hz4 := S.rows
  have hcol := S.col
  have hfl := S.fl
  (dsimp only [mkLoc, List.zip, List.zipWith, List.map, List.cons_append, List.nil_append]; repeat' walk_at "st")
  refine span_of_call T hq B (by lia) S.a1 S.b1 S.a2 S.b2 (by have := S.z; lia) fun ks kr H₁ K₁ S₁ h₁ => ?_
  refine x12 S₁.at_ fun d s1 s2 => ?_
  repeat' walk_at "st"
  refine numbered_call T hq h₁ hz4 hz0 (fun r h => Nat.le_trans (S.each r h) (by lia)) (by lia) fun k₂ H₂ K₂ f₂ h₂ => ?_
  repeat' walk_at "st"
  refine put_rows_call T hq ((B.keep K₁).keep K₂) (S₁.keep K₂) (h₁.keep K₂) h₂ hM rfl S.lohi.1 S.lohi.2 (by unfold numberedRows; simpa using hz4) ?_ fun pt' H₃ K₃ B₃ => ?_
  · intro r hr
    unfold numberedRows at hr
    obtain ⟨i, hi, rfl⟩ := List.mem_mapIdx.mp hr
    have := S.each _ (List.getElem_mem hi)
    have hwb : 1 ≤ wideOf (spanOf txt a b).rows.length ∧ wideOf (spanOf txt a b).rows.length ≤ 2 := by unfold wideOf; split <;> lia
    refine x07 (numStr_ok (number := 9 + i) (wide := wideOf (spanOf txt a b).rows.length) (by lia) (by lia) hwb.1 hwb.2) fun n1 n2 n3 n4 n5 n6 n7 => ?_
    have hnt : (numText (9 + i) (wideOf (spanOf txt a b).rows.length)).length ≤ 3 := by unfold numText; simpa using n2
    have := replacedBy_le (spanOf txt a b).rows[i] (spanOf txt a b).f (spanOf txt a b).l (numText (9 + i) (wideOf (spanOf txt a b).rows.length))
    lia
  repeat' walk_at "st"
  exact q pt' _ ((K₁.trans K₂).weak.trans K₃) B₃
theorem kill_call (T : Tops c) (hq : c.q = true) {a b : Nat} {Q : Post MV} (B : BufIs H ℓ txt pt M) (hM : M ≤ 200) (S : SpnOk txt a b)
    (q : ∀ k' pt' H', Keep ℓ.foot H H' → BufIs H' ℓ (txt.take (spanOf txt a b).lo ++ joinRows ((spanOf txt a b).rows.map fun r => erased r (spanOf txt a b).f (spanOf txt a b).l) ++ txt.drop (spanOf txt a b).hi) pt' (M + 190) → Q (.ref k') H') :
    Cl c (n + 9) (.ref 331) [.ref ℓ.b, .int a, .int b, .int 4] H Q := by
  refine T.call 40 ["buffer", "start", "end", "tab"] ["found"] rfl ⟨rfl, rfl, rfl, rfl, by decide, by decide⟩ rfl (fun _ _ _ _ _ _ => binds4 fun _ _ _ _ => (by kernel_rfl)) ?_
  (dsimp only [mkLoc, List.zip, List.zipWith, List.map, List.cons_append, List.nil_append]; repeat' walk_at "st")
  refine extract_call T hq B (by lia) S fun k₁ H₁ K₁ h₁ => ?_
  repeat' walk_at "st"
  refine delete_call T hq (B.keep K₁) hM S fun pt' H₂ K₂ B₂ => ?_
  repeat' walk_at "st"
  exact q _ _ _ (K₁.weak.trans K₂) B₂
end
end
section
noncomputable def hiIter (txt : List Int) : Nat → Nat → Nat
  | 0, h => h
  | k + 1, h => hiIter txt k (if h < txt.length then le0 txt (h + 1) else h)
theorem hiIter_snoc (txt : List Int) : ∀ (k h : Nat), hiIter txt (k + 1) h = (if hiIter txt k h < txt.length then le0 txt (hiIter txt k h + 1) else hiIter txt k h)
  | 0, h => rfl
  | k + 1, h => by
    have := hiIter_snoc txt k (if h < txt.length then le0 txt (h + 1) else h)
    rw [hiIter, this]; rfl
theorem hiIter_le (txt : List Int) : ∀ (k h : Nat), h ≤ txt.length → h ≤ hiIter txt k h ∧ hiIter txt k h ≤ txt.length
  | 0, h, hh => ⟨Nat.le_refl _, hh⟩
  | k + 1, h, hh => by
    unfold hiIter
    split
    · have h1 := le0_ge txt (h + 1)
      have h2 := le0_le txt (h + 1) (by lia)
      have := hiIter_le txt k _ h2
      lia
    · exact hiIter_le txt k h hh
noncomputable def yankOwn (txt : List Int) (q k : Nat) : List (List Int) := rowsOf ((txt.drop (ls0 txt q)).take (hiIter txt (k - 1) (le0 txt q) - ls0 txt q))
noncomputable def yankFound (txt : List Int) (q : Nat) (rows : List (List Int)) : List (List Int) :=
  (List.range rows.length).map fun i => putIn ((yankOwn txt q rows.length)[i]?.getD []) (colOf txt q) (rows[i]?.getD [])
noncomputable def yankTxt (txt : List Int) (q : Nat) (rows : List (List Int)) : List Int := txt.take (ls0 txt q) ++ joinRows (yankFound txt q rows) ++ txt.drop (hiIter txt (rows.length - 1) (le0 txt q))
theorem putIn_le (row : List Int) (col : Nat) (codes : List Int) : (putIn row col codes).length ≤ row.length + col + 4 + codes.length := by
  have := cutAt_le (padded row col) col
  have hp : (padded row col).length ≤ row.length + col := by unfold padded; simp
  unfold putIn; simp; lia
section
variable {c : Cx} {n : Nat} {sc : Scope} {loc : Loc} {H H' : List MO} {ℓ : BLay} {txt : List Int} {pt zv tk ck : Int} {M : Nat}
theorem row_columns_from_call (T : Tops c) (hq : c.q = true) {k col : Nat} {codes : List Int} {Q : Post MV} (hk : IsI H k codes) (hz : codes.length ≤ 100) (hc : col ≤ 240) (q : ∀ (w : Int) H', Keep [] H H' → Q (.int w) H') :
    Cl c (n + 4) (.ref 372) [.ref k, .int col, .int 4] H Q := by
  refine T.call 47 ["codes", "column", "tab"] [] rfl ⟨rfl, rfl, rfl, rfl, by decide, by decide⟩ rfl (fun _ _ _ _ _ _ => binds3 fun _ _ _ => (by kernel_rfl)) ?_
  (dsimp only [mkLoc, List.zip, List.zipWith, List.map, List.cons_append, List.nil_append]; repeat' walk_at "st")
  refine row_columns T hq get_new (by simp; lia) fun H₁ K₁ => ?_
  repeat' walk_at "st"
  exact q _ _ (by walk_at "kp")
theorem behind_last_call (T : Tops c) (hq : c.q = true) {kf kr col : Nat} {found rows : List (List Int)} {Q : Post MV} (hf : IsR H kf found) (hr : IsR H kr rows) (hfn : 1 ≤ found.length) (hrn : 1 ≤ rows.length) (hfz : found.length ≤ 4) (hrz : rows.length ≤ 4) (hfb : ∀ r ∈ found, r.length ≤ 100) (hrb : ∀ r ∈ rows, r.length ≤ 100) (hc : col ≤ 240)
    (q : ∀ (w : Int) H', Keep [] H H' → Q (.int w) H') : Cl c (n + 5) (.ref 365) [.ref kf, .int col, .ref kr, .int 4] H Q := by
  refine T.call 46 ["found", "column", "rows", "tab"] ["last", "wide", "at", "now"] rfl ⟨rfl, rfl, rfl, rfl, by decide, by decide⟩ rfl (fun _ _ _ _ _ _ => binds4 fun _ _ _ _ => (by kernel_rfl)) ?_
  have hl : found[((found.length : Int) - 1).toNat]? = some found[found.length - 1] := by
    rw [t_pred found.length]; exact List.getElem?_eq_getElem _
  have hl' : rows[((rows.length : Int) - 1).toNat]? = some rows[rows.length - 1] := by
    rw [t_pred rows.length]; exact List.getElem?_eq_getElem _
  have hb := hfb found[found.length - 1] (by simp)
  have hb' := hrb rows[rows.length - 1] (by simp)
  (dsimp only [mkLoc, List.zip, List.zipWith, List.map, List.cons_append, List.nil_append]; repeat' walk_at "st")
  refine Cl.lenR hf (by lia) ?_
  repeat' walk_at "st"
  refine Sub.itemR hf (by lia) (by lia) hl fun j hj => ?_
  repeat' walk_at "st"
  refine Cl.lenR hr (by lia) ?_
  repeat' walk_at "st"
  refine Sub.itemR hr (by lia) (by lia) hl' fun j' hj' => ?_
  repeat' walk_at "st"
  refine row_columns_from_call T hq hj' hb' hc fun w H₁ K₁ => ?_
  have hj₁ := hj.keep K₁
  repeat' walk_at "st"
  refine Ex1.while (fun k loc H' => ∃ (a : Nat) (now : Int), loc = ([("found", some (.ref kf)), ("column", some (.int col)), ("rows", some (.ref kr)), ("tab", some (.int 4)), ("last", some (.ref j)), ("wide", some (.int w)), ("at", some (.int a)), ("now", some (.int now))] : Loc) ∧ Keep [] H₁ H' ∧ k = found[found.length - 1].length - a ∧ a ≤ found[found.length - 1].length) ?_ _ (i24 0 0 rfl Keep.refl rfl (Nat.zero_le _))
  intro k loc H' hr9
  refine x24 hr9 ?_; try clear hr9; intro a now eq10 K hk ha; subst eq10
  have hj₂ := hj₁.keep K
  repeat' walk_at "st"
  refine ⟨fun e => ?_, fun e => ⟨fun h => (by cases h), fun _ => ?_⟩⟩
  · have ha' : a < found[found.length - 1].length := by have : (a : Int) < (found[found.length - 1].length : Int) := by simpa using e
                                                        lia
    refine Run.and ?_
    repeat' walk_at "st"
    refine ⟨fun e => Run.and_nil ⟨fun _ => ?_, fun h => (by cases h)⟩, fun e => ⟨fun h => (by cases h), fun _ => ?_⟩⟩
    · repeat' walk_at "st"
      refine row_columns T hq get_new (by lia) fun H₂ K₂ => ?_
      repeat' walk_at "st"
      exact i12 _ (by subst hk; exact Nat.sub_succ_lt_self _ _ ha') (i24 (a + 1) _ (by rw [show ((a + 1 : Nat) : Int) = (a : Int) + 1 from rfl]) (K.trans (Keep.trans Keep.app K₂)) rfl (by lia))
    · repeat' walk_at "st"
      exact q _ _ (K₁.trans K)
  · repeat' walk_at "st"
    exact q _ _ (K₁.trans K)
end
end
section
section
variable {c : Cx} {n : Nat} {sc : Scope} {loc : Loc} {H H' : List MO} {ℓ : BLay} {txt : List Int} {pt zv tk ck : Int} {M : Nat}
theorem put_in_fresh (T : Tops c) (hq : c.q = true) {k kc : Nat} {row codes : List Int} {col : Nat} {Q : Post MV} (hk : IsI H k row) (hz : row.length ≤ 100) (hc : IsI H kc codes) (hcz : codes.length ≤ 100) (hf : col ≤ 240) (q : ∀ k' H', Keep [] H H' → H.length ≤ k' → IsI H' k' (putIn row col codes) → Q (.ref k') H') :
    Cl c (n + 5) (.ref 253) [.ref k, .int col, .ref kc, .int 4] H Q := by
  refine T.call 30 ["row", "column", "codes", "tab"] ["ahead", "rest"] rfl ⟨rfl, rfl, rfl, rfl, by decide, by decide⟩ rfl (fun _ _ _ _ _ _ => binds4 fun _ _ _ _ => (by kernel_rfl)) ?_
  have hpl : (padded row col).length ≤ row.length + col := by unfold padded; simp
  have hle := cutAt_le (padded row col) col
  (dsimp only [mkLoc, List.zip, List.zipWith, List.map, List.cons_append, List.nil_append]; repeat' walk_at "st")
  refine padded_call T hq hk (by lia) hf fun k₀ H₀ K₀ h₀ => ?_
  repeat' walk_at "st"
  refine cut_at_call T hq h₀ (by lia) fun k₁ k₂ kt H₁ K₁ h₁ h₂ ht => ?_
  repeat' walk_at "st"
  exact q _ _ (by walk_at "kp") (Keep.lenLe (by walk_at "kp")) get_new
structure YankOk (txt : List Int) (p : Nat) (rows : List (List Int)) : Prop where
  p1 : 1 ≤ p
  p2 : p ≤ txt.length + 1
  z : txt.length ≤ 60
  rn : 1 ≤ rows.length
  rz : rows.length ≤ 4
  rb : ∀ r ∈ rows, r.length ≤ 10
  ob : ∀ r ∈ yankOwn txt (p - 1) rows.length, r.length ≤ 10
  col : colOf txt (p - 1) ≤ 20
theorem yank_call (T : Tops c) (hq : c.q = true) {kr p : Nat} {rows : List (List Int)} {Q : Post MV} (B : BufIs H ℓ txt (p : Nat) M) (hM : M + (joinRows (yankFound txt (p - 1) rows)).length ≤ 380) (hr : IsR H kr rows) (hkr : kr ∉ ℓ.foot) (hoff : ∀ ks : List Nat, H[kr]? = some (.list (ks.map .ref)) → ∀ j ∈ ks, j ∉ ℓ.foot) (Y : YankOk txt p rows)
    (q : ∀ pt' H', Keep ℓ.foot H H' → BufIs H' ℓ (yankTxt txt (p - 1) rows) pt' 390 → Q .none H') :
    Cl c (n + 7) (.ref 358) [.ref ℓ.b, .ref kr, .int 4] H Q := by
  have BI := B
  refine x21 B ?_; try clear B; intro tk ck B
  obtain ⟨p1, p2, z, rn, rz, rb, ob, col⟩ := Y
  refine T.call 45 ["buffer", "rows", "tab"] ["place", "column", "low", "high", "turn", "own", "found", "text", "rest"] rfl ⟨rfl, rfl, rfl, rfl, by decide, by decide⟩ rfl (fun _ _ _ _ _ _ => binds3 fun _ _ _ => (by kernel_rfl)) ?_
  have hls := ls0_le txt (p - 1)
  have hle := le0_ge txt (p - 1)
  have hle' := le0_le txt (p - 1) (by lia)
  (dsimp only [mkLoc, List.zip, List.zipWith, List.map, List.cons_append, List.nil_append]; repeat' walk_at "st")
  refine Cl.lenR hr (by lia) ?_
  repeat' walk_at "st"
  refine ⟨fun e => (by have : rows = [] := by simpa using e
                       rw [this] at rn; simp at rn), fun e => ?_⟩
  repeat' walk_at "st"
  refine column_of_call T hq BI (by lia) p1 p2 (by lia) fun H₁ K₁ => ?_
  have BI₁ := BI.keep K₁
  have hr₁ := hr.keep K₁
  repeat' walk_at "st"
  refine line_start_call T BI₁ (by lia) p1 p2 ?_
  repeat' walk_at "st"
  refine line_end_call T BI₁ (by lia) p1 p2 ?_
  repeat' walk_at "st"
  refine Ex1.for (Src.range hq (T.nogl 1 rfl) ?_)
  repeat' walk_at "st"
  refine Cl.lenR hr₁ (by lia) ?_
  repeat' walk_at "st"
  refine i03 (by lia) (by lia) ?_
  refine Loop.inv (fun i loc H' => ∃ o, loc = ([("buffer", some (.ref ℓ.b)), ("rows", some (.ref kr)), ("tab", some (.int 4)), ("place", some (.int p)), ("column", some (.int (colOf txt (p - 1) : Nat))), ("low", some (.int (ls0 txt (p - 1) + 1 : Nat))), ("high", some (.int (hiIter txt i (le0 txt (p - 1)) + 1 : Nat))), ("turn", o), ("own", none), ("found", none), ("text", none), ("rest", none)] : Loc) ∧ H' = H₁) _ ?_ ?_ (i12 none rfl rfl)
  · intro i v loc H' hi hr34
    refine x12 hr34 ?_; try clear hr34; intro o eq39 eq40; subst eq39; subst eq40
    have hh := hiIter_le txt i (le0 txt (p - 1)) hle'
    have hsn := hiIter_snoc txt i (le0 txt (p - 1))
    refine x21 BI₁ fun tk₁ ck₁ B₁ => ?_
    refine i12 _ (by (with_reducible repeat constructor)) ?_
    repeat' walk_at "st"
    refine ⟨fun e => ?_, fun e => ?_⟩
    · have e' : hiIter txt i (le0 txt (p - 1)) < txt.length := by
        have : ((hiIter txt i (le0 txt (p - 1)) + 1 : Nat) : Int) < (txt.length : Int) + 1 := by simpa using e
        lia
      rw [if_pos e'] at hsn
      repeat' walk_at "st"
      rw [show (((hiIter txt i (le0 txt (p - 1)) + 1 : Nat) : Int) + 1) = ((hiIter txt i (le0 txt (p - 1)) + 2 : Nat) : Int) from rfl]
      refine line_end_call T BI₁ (by lia) (by lia) (by lia) ?_
      repeat' walk_at "st"
      · trivial
      · exact i12 _ (by rw [hsn]; rfl) rfl
    · have e' : ¬ hiIter txt i (le0 txt (p - 1)) < txt.length := by
        have : ¬ ((hiIter txt i (le0 txt (p - 1)) + 1 : Nat) : Int) < (txt.length : Int) + 1 := by simpa using e
        lia
      rw [if_neg e'] at hsn
      repeat' walk_at "st"
      · trivial
      · exact i12 _ (by rw [hsn]) rfl
  intro loc H' hr35
  refine x12 hr35 ?_; try clear hr35; intro o eq41 eq42; subst eq41; subst eq42
  have hul : (upto ((rows.length : Int) - 1)).length = rows.length - 1 := by unfold upto; simp
  rw [hul]
  have hh := hiIter_le txt (rows.length - 1) (le0 txt (p - 1)) hle'
  generalize hhi : hiIter txt (rows.length - 1) (le0 txt (p - 1)) = hi at hh ⊢
  refine x21 BI₁ fun tk₁ ck₁ B₁ => ?_
  repeat' walk_at "st"
  refine Ev.meth T 15 rfl (by decide) ?_
  repeat' walk_at "st"
  refine i35 _ _ _ rfl B₁.inst B₁.ns (by kernel_rfl) ?_
  repeat' walk_at "st"
  refine buf_codes T B₁ (by lia) (by lia) (by lia) (by lia) fun k₂ H₂ K₂ f₂ h₂ => ?_
  have hown : yankOwn txt (p - 1) rows.length = rowsOf ((txt.drop (ls0 txt (p - 1))).take (hi - ls0 txt (p - 1))) := by unfold yankOwn; rw [hhi]
  rw [Nat.add_sub_cancel, Nat.add_sub_add_right] at h₂
  repeat' walk_at "st"
  refine rows_in_call T hq h₂ (by simp; lia) fun ko H₃ K₃ f₃ h₃ => ?_
  rw [← hown] at h₃
  have hol : (yankOwn txt (p - 1) rows.length).length ≤ 62 := by
    rw [hown]; unfold rowsOf
    have := rowsSt_le ((txt.drop (ls0 txt (p - 1))).take (hi - ls0 txt (p - 1)))
    simp only [List.length_take, List.length_drop] at this
    simp; lia
  have K03 : Keep [] H H₃ := K₁.trans (K₂.trans K₃)
  have hkoH : H.length ≤ ko := Nat.le_trans (Nat.le_trans K₁.1 K₂.1) f₃
  have BI₃ := BI.keep K03
  have hr₃ := hr.keep K03
  repeat' walk_at "st"
  refine Ex1.while (fun k loc H' => ∃ own : List (List Int), loc = ([("buffer", some (.ref ℓ.b)), ("rows", some (.ref kr)), ("tab", some (.int 4)), ("place", some (.int p)), ("column", some (.int (colOf txt (p - 1) : Nat))), ("low", some (.int (ls0 txt (p - 1) + 1 : Nat))), ("high", some (.int (hi + 1 : Nat))), ("turn", o), ("own", some (.ref ko)), ("found", none), ("text", none), ("rest", none)] : Loc) ∧ Keep [] H H' ∧ IsR H' ko own ∧ (∃ j, own = yankOwn txt (p - 1) rows.length ++ List.replicate j []) ∧ (own.length ≤ rows.length ∨ own = yankOwn txt (p - 1) rows.length) ∧ k = rows.length - own.length) ?_ _ (i16 _ rfl K03 h₃ ⟨0, by simp⟩ (.inr rfl) rfl)
  intro k loc H₄ hr36
  refine x16 hr36 ?_; try clear hr36; intro own eq43 K₄ h₄ hx44 hol4 hk; subst eq43; obtain ⟨j, hj⟩ := hx44
  have hr₄ := hr.keep K₄
  have BI₄ := BI.keep K₄
  have hol5 : own.length ≤ 62 := hol4.elim (fun h => by lia) (fun h => by rw [h]; exact hol)
  repeat' walk_at "st"
  refine Cl.lenR h₄ (by lia) ?_
  repeat' walk_at "st"
  refine Cl.lenR hr₄ (by lia) ?_
  repeat' walk_at "st"
  refine ⟨fun e => ?_, fun e => ?_⟩
  · have e' : own.length < rows.length := by have : (own.length : Int) < (rows.length : Int) := by simpa using e
                                             lia
    refine x12 h₄ fun js hjs all => ?_
    have hjl := all.length
    repeat' walk_at "st"
    refine i13 _ (get_app hjs) (by simp; lia) ?_
    repeat' walk_at "st"
    have hkl := get_lt hjs
    refine i12 (rows.length - (own.length + 1)) (hk ▸ Nat.sub_succ_lt_self _ _ e') (i16 (own ++ [[]]) rfl ((K₄.trans Keep.app).setNew hkoH) (i12 (js ++ [H₄.length]) ?_ ?_) ⟨j + 1, by rw [hj, List.append_assoc, ← List.replicate_succ']⟩ (.inl (by simp; lia)) (by simp))
    · rw [List.map_append]; exact get_set_self (get_app hjs)
    · have hne : ∀ i ∈ js, i ≠ ko := by
        intro i hi e
        subst e
        obtain ⟨b, hb⟩ : ∃ b, IsI H₄ i b := by
          have : ∀ {js : List Nat} {own : List (List Int)}, All2 (IsI H₄) js own → ∀ i ∈ js, ∃ b, IsI H₄ i b := by
            intro js own h
            induction h with
            | nil => intro i hi; cases hi
            | cons h _ ih =>
              intro i hi
              rcases List.mem_cons.mp hi with rfl | hi
              · exact ⟨_, h⟩
              · exact ih i hi
          exact this all i hi
        unfold IsI at hb
        rw [hjs] at hb
        have := congrArg (fun m => match m with | some (MO.list (.ref _ :: _)) => true | _ => false) hb
        cases js with
        | nil => cases hi
        | cons a as => cases b <;> simp at this
      exact (all2_set (all2_keep (F := []) all Keep.app (by simp)) hne).append (.cons (get_set_ne (by lia) get_new) .nil)
  · have e' : ¬ own.length < rows.length := by have : ¬ (own.length : Int) < (rows.length : Int) := by simpa using e
                                               lia
    have hget : ∀ i, i < rows.length → own[i]? = some ((yankOwn txt (p - 1) rows.length)[i]?.getD []) := by
      intro i hi
      have hlt : i < own.length := by lia
      rw [List.getElem?_eq_getElem hlt]
      subst hj
      rw [List.getElem_append]
      split
      · rename_i h; rw [List.getElem?_eq_getElem h]; rfl
      · rename_i h; rw [List.getElem?_eq_none (by lia)]; simp
    have hob : ∀ r : List Int, ∀ i : Nat, r = (yankOwn txt (p - 1) rows.length)[i]?.getD [] → r.length ≤ 10 := by
      intro r i hr
      cases h : (yankOwn txt (p - 1) rows.length)[i]? with
      | none => rw [h] at hr; subst hr; simp
      | some a => rw [h] at hr; subst hr; exact ob _ (List.mem_of_getElem? h)
    have hfn : (yankFound txt (p - 1) rows).length = rows.length := by unfold yankFound; simp
    have hfg : ∀ i, i < rows.length → (yankFound txt (p - 1) rows)[i]? = some (putIn ((yankOwn txt (p - 1) rows.length)[i]?.getD []) (colOf txt (p - 1)) (rows[i]?.getD [])) := by
      intro i hi; unfold yankFound; simp [hi]
    have hfb : ∀ r ∈ yankFound txt (p - 1) rows, r.length ≤ 44 := by
      intro r hr
      refine x11 (List.getElem?_of_mem hr) fun i hi => ?_
      have hlt := (List.getElem?_eq_some_iff.mp hi).1
      rw [hfn] at hlt
      rw [hfg i hlt] at hi
      cases hi
      have h1 := hob _ i rfl
      have h2 : (rows[i]?.getD []).length ≤ 10 := by rw [List.getElem?_eq_getElem hlt]; exact rb _ (by simp)
      have := putIn_le ((yankOwn txt (p - 1) rows.length)[i]?.getD []) (colOf txt (p - 1)) (rows[i]?.getD [])
      lia
    refine x12 h₄ fun jo hjo allo => ?_
    refine x12 hr₄ fun jr hjr allr => ?_
    repeat' walk_at "st"
    refine Ex1.comp [("column", .int (colOf txt (p - 1) : Nat)), ("own", .ref ko), ("rows", .ref kr), ("tab", .int 4)] (by show compOk _ _ _ ["column", "own", "rows", "tab"] = true; decide +kernel) (.cons (by (with_reducible repeat constructor)) (.cons (by (with_reducible repeat constructor)) (.cons (by (with_reducible repeat constructor)) (.cons (by (with_reducible repeat constructor)) .nil)))) ?_ (by intro env he; unfold swapsWith Env.kindOf Env.blockKind; rw [he]; rfl)
    refine Src.range hq (T.nogl 1 rfl) ?_
    repeat' walk_at "st"
    refine Cl.lenR hr₄ (by lia) ?_
    repeat' walk_at "st"
    refine i04 (by lia) (by lia) trivial ?_
    refine CompL.inv (fun i acc H' => i ≤ rows.length ∧ Keep [] H₄ H' ∧ ∃ js : List Nat, acc = js.map .ref ∧ All2 (IsI H') js ((yankFound txt (p - 1) rows).take i) ∧ ∀ a ∈ js, H₄.length < a) _ ?_ ?_ get_new (i03 (Nat.zero_le _) Keep.app (i13 ([]) rfl (.nil) (by simp)))
    · intro i v acc H' hv hD hr37
      refine x03 hr37 ?_; try clear hr37; intro hi K ht45; refine x13 ht45 ?_; clear ht45; intro js eq46 hjs hne; subst eq46
      refine x02 (upto_get hv) fun eq47 hlt => ?_; subst eq47
      have hlt' : i < rows.length := by simpa using hlt
      have hjl := hjs.length
      simp only [List.length_take, hfn] at hjl
      refine x12 (all2_get allo (hget i hlt')) fun a ha hao => ?_
      refine x12 (all2_get allr (List.getElem?_eq_getElem hlt')) fun b hb hbr => ?_
      have hal := hao.lt
      have hDl := get_lt hD
      refine Ifs.nil ⟨fun _ => ?_, fun h => (by cases h)⟩
      dsimp only [List.map]
      repeat' walk_at "st"
      refine Sub.item (K.get0 hjo) (by lia) (by lia) (v := .ref a) (by simp [ha]) ?_
      repeat' walk_at "st"
      refine Sub.item (K.get0 hjr) (by lia) (by lia) (v := .ref b) (by simp [hb]) ?_
      repeat' walk_at "st"
      have h1 := hob _ i rfl
      have h2 := rb rows[i] (by simp)
      refine put_in_fresh T hq (hao.keep K) (by lia) (hbr.keep K) (by lia) (by lia) fun k' H₂ K₂ f₂ h₂ => ?_
      repeat' walk_at "st"
      have hk' : H₄.length < k' := by lia
      refine i06 (K₂.get0 hD) (by simp; lia) trivial hlt' ((K.trans K₂).setNew (Nat.le_refl _)) (i13 (js ++ [k']) (by simp) ?_ ?_)
      · rw [take_snoc (hfg i hlt'), List.getElem?_eq_getElem hlt']
        exact (all2_set (all2_keep (F := []) hjs K₂ (by simp)) fun x hx => Nat.ne_of_gt (hne x hx)).append (.cons (get_set_ne (Nat.ne_of_gt hk') h₂) .nil)
      · intro x hx
        rcases List.mem_append.mp hx with hx | hx
        · exact hne x hx
        · simp at hx; subst hx; exact hk'
    · intro acc H₅ hD hr38
      refine x03 hr38 ?_; try clear hr38; intro hi5 K₅ ht48; refine x13 ht48 ?_; clear ht48; intro js eq49 hjs hne; subst eq49
      rw [show (upto (rows.length : Int)).length = (yankFound txt (p - 1) rows).length by rw [hfn]; unfold upto; simp, List.take_length] at hjs
      have h₅ : IsR H₅ H₄.length (yankFound txt (p - 1) rows) := i12 js hD hjs
      have BI₅ := BI₄.keep K₅
      have hr₅ := hr₄.keep K₅
      repeat' walk_at "st"
      refine text_of_call T hq h₅ (by lia) (fun r h => Nat.le_trans (hfb r h) (by lia)) fun kx H₆ K₆ f₆ h₆ => ?_
      have BI₆ := BI₅.keep K₆
      refine x21 BI₆ fun tk₆ ck₆ B₆ => ?_
      refine x21 BI₅ fun tk₅ ck₅ B₅ => ?_
      have hjn := joinRows_le (yankFound txt (p - 1) rows) 44 hfb
      have hjn' : (joinRows (yankFound txt (p - 1) rows)).length ≤ 180 := by
        refine Nat.le_trans hjn ?_
        rw [hfn]
        exact Nat.mul_le_mul_right 45 rz
      repeat' walk_at "st"
      refine ed_replace T hq BI₆ h₆ (B₅.notFoot f₆) (by lia) (by lia) (by lia) (by lia) (by lia) fun k' pt' H₇ K₇ BI₇ => ?_
      have hfl := foot_lt B
      have hnf : ∀ k, H.length ≤ k → k ∉ ℓ.foot := fun k hk hm => by have := hfl k hm; lia
      have hH4 : H.length ≤ H₄.length := K₄.1
      have K06 : Keep [] H H₆ := K₄.trans (K₅.trans K₆)
      have h₇f : IsR H₇ H₄.length (yankFound txt (p - 1) rows) := i12 js (K₇.get (hnf _ hH4) (K₆.get0 hD)) ((all2_keep (F := []) hjs K₆ (by simp)).mono' fun a ha _ hr => K₇.get (hnf _ (by have := hne a ha; lia)) hr)
      have h₇r : IsR H₇ kr rows := by
        refine x12 hr fun ks e all => ?_
        exact i12 ks (K₇.get hkr (K06.get0 e)) ((all2_keep (F := []) all K06 (by simp)).mono' fun a ha _ hr => K₇.get (hoff ks e a ha) hr)
      have hk₆ : H.length ≤ kx := Nat.le_trans (Nat.le_trans hH4 K₅.1) f₆
      have h₇x : IsI H₇ kx (joinRows (yankFound txt (p - 1) rows)) := K₇.get (hnf _ hk₆) h₆
      have hlg : (yankFound txt (p - 1) rows)[(((yankFound txt (p - 1) rows).length : Int) - 1).toNat]? = some (yankFound txt (p - 1) rows)[(yankFound txt (p - 1) rows).length - 1] := by
        rw [t_pred (yankFound txt (p - 1) rows).length]; exact List.getElem?_eq_getElem _
      have hlb := hfb (yankFound txt (p - 1) rows)[(yankFound txt (p - 1) rows).length - 1] (by simp)
      repeat' walk_at "st"
      refine Cl.lenR h₇f (by lia) ?_
      repeat' walk_at "st"
      refine Sub.itemR h₇f (by lia) (by lia) hlg fun j' hj' => ?_
      repeat' walk_at "st"
      refine behind_last_call T hq h₇f h₇r (by lia) rn (by lia) rz (fun r h => Nat.le_trans (hfb r h) (by lia)) (fun r h => Nat.le_trans (rb r h) (by lia)) (by lia) fun w H₈ K₈ => ?_
      have BI₈ := BI₇.keep K₈
      have h₈x := h₇x.keep K₈
      refine x21 BI₈ fun tk₈ ck₈ B₈ => ?_
      repeat' walk_at "st"
      refine Set.bufPoint T B₈ fun H₉ B₉ K₉ => ?_
      repeat' walk_at "st"
      have e9 : txt.take (ls0 txt (p - 1) + 1 - 1) ++ joinRows (yankFound txt (p - 1) rows) ++ txt.drop (hi + 1 - 1) = yankTxt txt (p - 1) rows := by unfold yankTxt; rw [hhi]; rfl
      rw [e9] at B₉
      have B10 := BufIs.mono (M' := 390) (i21 _ _ B₉) (by lia)
      exact q _ _ (((K06.weak).trans K₇).trans ((K₈.weak).trans (keepDb K₉ rfl))) B10
end
end
section
section
variable {c : Cx} {n : Nat} {sc : Scope} {loc : Loc} {H H' : List MO} {ℓ : BLay} {txt : List Int} {pt zv tk ck : Int} {M : Nat}
theorem gap_new (T : Tops c) {k : Nat} {Q : Post MV} (hk : H[k]? = some (.list [])) (q : ∀ H' g dg kc, Keep [] H H' → H.length ≤ g → H.length ≤ dg → H.length ≤ kc → GapIs H' g dg kc [] 8 → Q (.ref g) H') :
    Cl c (n + 2) (.ref 459) [.ref k, .int 8] H Q := by
  have e1 : (H ++ [MO.ns [], MO.inst 459 H.length])[H.length + 1]? = some (.inst 459 H.length) := by simp
  have e2 : (H ++ [MO.ns [], MO.inst 459 H.length])[H.length]? = some (.ns []) := by simp
  have KA : Keep [] H (H ++ [MO.ns [], MO.inst 459 H.length]) := Keep.app
  refine Cl.cls (T.mkOk 1 rfl) (T.defAt 48 rfl) (ps := ["self", "codes", "room"]) (rest := []) (ws := [.ref (H.length + 1), .ref k, .int 8]) ⟨rfl, rfl, rfl, rfl, by decide, by decide⟩ rfl (fun _ _ _ _ _ _ => binds3 fun _ _ _ => (by kernel_rfl)) ?_
  generalize (H ++ [MO.ns [], MO.inst 459 H.length]) = H1 at e1 e2 KA ⊢
  (dsimp only [mkLoc, List.zip, List.zipWith, List.map, List.cons_append, List.nil_append]; repeat' walk_at "st")
  refine Set.newF T e1 e2 fun H2 e1 e2 J2 => ?_
  replace KA := KA.fresh J2 (by simp)
  have hk2 := KA.get0 hk
  repeat' walk_at "st"
  refine Cl.list hk2 (by simp) ?_
  have g1 : IsI (H2 ++ [.list []]) H2.length [] := get_new
  repeat' walk_at "st"
  have hc : IsI (H2 ++ [MO.list []] ++ [MO.list [MV.int 0]] ++ [MO.list (List.map MV.int (List.replicate (Int.toNat 8) 0))] ++ [MO.list (List.map MV.int ([] ++ List.replicate (Int.toNat 8) 0))]) (H2 ++ [MO.list []] ++ [MO.list [MV.int 0]] ++ [MO.list (List.map MV.int (List.replicate (Int.toNat 8) 0))]).length ([] ++ List.replicate (Int.toNat 8) 0) := get_new
  have hcl : H.length ≤ (H2 ++ [MO.list []] ++ [MO.list [MV.int 0]] ++ [MO.list (List.map MV.int (List.replicate (Int.toNat 8) 0))]).length := by have := KA.1; simp; lia
  replace KA := KA.trans (Keep.trans (Keep.trans (Keep.trans (Keep.app (H := H2) (F := []) (l := [MO.list []])) (Keep.app (l := [MO.list [MV.int 0]]))) (Keep.app (l := [MO.list (List.map MV.int (List.replicate (Int.toNat 8) 0))]))) (Keep.app (l := [MO.list (List.map MV.int ([] ++ List.replicate (Int.toNat 8) 0))])))
  replace e1 := get_app (l := [MO.list (List.map MV.int ([] ++ List.replicate (Int.toNat 8) 0))]) (get_app (l := [MO.list (List.map MV.int (List.replicate (Int.toNat 8) 0))]) (get_app (l := [MO.list [MV.int 0]]) (get_app (l := [MO.list []]) e1)))
  replace e2 := get_app (l := [MO.list (List.map MV.int ([] ++ List.replicate (Int.toNat 8) 0))]) (get_app (l := [MO.list (List.map MV.int (List.replicate (Int.toNat 8) 0))]) (get_app (l := [MO.list [MV.int 0]]) (get_app (l := [MO.list []]) e2)))
  clear g1
  generalize (H2 ++ [MO.list []] ++ [MO.list [MV.int 0]] ++ [MO.list (List.map MV.int (List.replicate (Int.toNat 8) 0))]).length = kc at hc hcl ⊢
  generalize (H2 ++ [MO.list []] ++ [MO.list [MV.int 0]] ++ [MO.list (List.map MV.int (List.replicate (Int.toNat 8) 0))] ++ [MO.list (List.map MV.int ([] ++ List.replicate (Int.toNat 8) 0))]) = H3 at e1 e2 hc KA ⊢
  refine Set.newF T e1 e2 fun H4 e1' e2' J4 => ?_
  have hc4 : IsI H4 kc ([] ++ List.replicate (Int.toNat 8) 0) := J4.get (by simp; intro h; subst h; unfold IsI at hc; rw [e2] at hc; cases hc) hc
  replace KA := KA.fresh J4 (by simp)
  have hk4 : IsI H4 k [] := KA.get0 hk
  clear e1 e2
  repeat' walk_at "st"
  refine Set.newF T e1' e2' fun H5 e1 e2 J5 => ?_
  have hc5 : IsI H5 kc ([] ++ List.replicate (Int.toNat 8) 0) := J5.get (by simp; intro h; subst h; unfold IsI at hc4; rw [e2'] at hc4; cases hc4) hc4
  replace KA := KA.fresh J5 (by simp)
  have hk5 : IsI H5 k [] := KA.get0 hk
  clear e1' e2'
  repeat' walk_at "st"
  refine Set.newF T e1 e2 fun H6 e1' e2' J6 => ?_
  have hc6 : IsI H6 kc ([] ++ List.replicate (Int.toNat 8) 0) := J6.get (by simp; intro h; subst h; unfold IsI at hc5; rw [e2] at hc5; cases hc5) hc5
  replace KA := KA.fresh J6 (by simp)
  repeat' walk_at "st"
  exact ⟨rfl, q _ _ _ _ KA (Nat.le_succ _) (Nat.le_refl _) hcl ⟨_, 0, 8, ⟨e1', e2', hc6⟩, by lia, by decide, by decide, by decide⟩⟩
theorem markers_new (T : Tops c) {Q : Post MV} (q : ∀ H' mk dm kd, Keep [] H H' → H'[mk]? = some (.inst 529 dm) → H'[dm]? = some (.ns [("rows", .edict kd)]) → H'[kd]? = some (.ns []) → Q (.ref mk) H') :
    Cl c (n + 2) (.ref 529) [] H Q := by
  have e1 : (H ++ [MO.ns [], MO.inst 529 H.length])[H.length + 1]? = some (.inst 529 H.length) := by simp
  have e2 : (H ++ [MO.ns [], MO.inst 529 H.length])[H.length]? = some (.ns []) := by simp
  have KA : Keep [] H (H ++ [MO.ns [], MO.inst 529 H.length]) := Keep.app
  have hH : H.length < (H ++ [MO.ns [], MO.inst 529 H.length]).length := by simp
  refine Cl.cls (T.mkOk 2 rfl) (T.defAt 56 rfl) (ps := ["self"]) (rest := []) (ws := [.ref (H.length + 1)]) ⟨rfl, rfl, rfl, rfl, by decide, by decide⟩ rfl (fun _ _ _ _ _ _ => binds1 fun _ => (by kernel_rfl)) ?_
  generalize (H ++ [MO.ns [], MO.inst 529 H.length]) = H1 at e1 e2 KA hH ⊢
  (dsimp only [mkLoc, List.zip, List.zipWith, List.map, List.cons_append, List.nil_append]; repeat' walk_at "st")
  refine Ev.dict ?_
  repeat' walk_at "st"
  refine Set.newF T (get_app e1) (get_app e2) fun H2 e1 e2 J2 => ?_
  have hkd : H2[H1.length]? = some (.ns []) := J2.get (by simp; lia) get_new
  replace KA := (KA.trans Keep.app).fresh J2 (by simp)
  repeat' walk_at "st"
  exact ⟨rfl, q _ _ _ _ KA e1 e2 hkd⟩
theorem buffer_new (T : Tops c) {Q : Post MV} (q : ∀ H' ℓ, Keep [] H H' → (∀ k ∈ ℓ.ls :: BLay.foot ℓ, H.length ≤ k) → BufIs H' ℓ [] 1 8 → Q (.ref ℓ.b) H') :
    Cl c (n + 4) (.ref 670) [.int 1, .str "a"] H Q := by
  have e1 : (H ++ [MO.ns [], MO.inst 670 H.length])[H.length + 1]? = some (.inst 670 H.length) := by simp
  have e2 : (H ++ [MO.ns [], MO.inst 670 H.length])[H.length]? = some (.ns []) := by simp
  have KA : Keep [] H (H ++ [MO.ns [], MO.inst 670 H.length]) := Keep.app
  have hH : H.length < (H ++ [MO.ns [], MO.inst 670 H.length]).length := by simp
  refine Cl.cls (T.mkOk 3 rfl) (T.defAt 61 rfl) (ps := ["self", "number", "name", "room"]) (rest := []) (ws := [.ref (H.length + 1), .int 1, .str "a", .int 8]) ⟨rfl, rfl, rfl, rfl, by decide, by decide⟩ rfl (fun _ _ _ _ _ _ => bindsR3 T.tup576 rfl fun a b d tk => ⟨_, rfl, by kernel_rfl⟩) ?_
  generalize (H ++ [MO.ns [], MO.inst 670 H.length]) = H1 at e1 e2 KA hH ⊢
  (dsimp only [mkLoc, List.zip, List.zipWith, List.map, List.cons_append, List.nil_append]; repeat' walk_at "st")
  refine Set.newF T e1 e2 fun H2 e1 e2 J2 => ?_
  replace KA := KA.fresh J2 (by simp)
  repeat' walk_at "st"
  refine Set.newF T e1 e2 fun H3 e1 e2 J3 => ?_
  replace KA := KA.fresh J3 (by simp)
  have hH3 : H.length < H3.length := by have := J2.1; have := J3.1; lia
  repeat' walk_at "st"
  refine gap_new T get_new fun H4 g dg kc K4 f1 f2 f3 G => ?_
  have K4' : Keep [] H3 H4 := Keep.trans Keep.app K4
  replace e1 := K4'.get0 e1
  replace e2 := K4'.get0 e2
  have e24 := e2
  replace KA := KA.trans K4'
  have hfoot : H.length ≤ dg ∧ H.length ≤ kc := by simp at f2 f3; lia
  repeat' walk_at "st"
  refine Set.newF T e1 e2 fun H5 e1 e2 J5 => ?_
  replace KA := KA.fresh J5 (by simp)
  repeat' walk_at "st"
  refine Ev.top0 T 59 rfl ?_
  refine markers_new T fun H6 mk dm kd K6 m1 m2 m3 => ?_
  replace e1 := K6.get0 e1
  replace e2 := K6.get0 e2
  have e26 := e2
  replace KA := KA.trans K6
  have JG : Keep [H.length] H4 H6 := J5.trans K6.weak
  repeat' walk_at "st"
  refine Set.newF T e1 e2 fun H7 e1 e2 J7 => ?_
  replace KA := KA.fresh J7 (by simp)
  have JM : Keep [H.length] H6 H7 := J7
  repeat' walk_at "st"
  refine Set.newF T e1 e2 fun H8 e1 e2 J8 => ?_
  replace KA := KA.fresh J8 (by simp)
  replace JM := JM.trans J8
  repeat' walk_at "st"
  refine Set.newF T e1 e2 fun H9 e1 e2 J9 => ?_
  replace KA := KA.fresh J9 (by simp)
  replace JM := JM.trans J9
  repeat' walk_at "st"
  refine Set.newF T e1 e2 fun H10 e1 e2 J10 => ?_
  replace KA := KA.fresh J10 (by simp)
  replace JM := JM.trans J10
  repeat' walk_at "st"
  refine Set.newF T e1 e2 fun H11 e1 e2 J11 => ?_
  replace KA := KA.fresh J11 (by simp)
  replace JM := JM.trans J11
  repeat' walk_at "st"
  refine Set.newF T e1 e2 fun H12 e1 e2 J12 => ?_
  replace KA := KA.fresh J12 (by simp)
  replace JM := JM.trans J12
  repeat' walk_at "st"
  refine Set.newF T e1 e2 fun H13 e1 e2 J13 => ?_
  replace KA := KA.fresh J13 (by simp)
  replace JM := JM.trans J13
  repeat' walk_at "st"
  refine Set.newF T e1 e2 fun H14 e1 e2 J14 => ?_
  replace KA := KA.fresh J14 (by simp)
  replace JM := JM.trans J14
  repeat' walk_at "st"
  refine Set.newF T e1 e2 fun H15 e1 e2 J15 => ?_
  replace KA := KA.fresh J15 (by simp)
  replace JM := JM.trans J15
  repeat' walk_at "st"
  refine Set.newF T e1 e2 fun H16 e1 e2 J16 => ?_
  replace KA := KA.fresh J16 (by simp)
  replace JM := JM.trans J16
  repeat' walk_at "st"
  have hll : H.length < H16.length := get_lt e2
  replace JM := JM.trans (Keep.app (l := [MO.list []]))
  replace KA := KA.trans (Keep.app (l := [MO.list []]))
  have hls : (H16 ++ [MO.list []])[H16.length]? = some (.list []) := get_new
  have hkl := JM.1
  refine Set.newF T (get_app e1) (get_app e2) fun H17 e1 e2 J17 => ?_
  replace KA := KA.fresh J17 (by simp)
  replace JM := JM.trans J17
  have JL : Keep [H.length] (H16 ++ [MO.list []]) H17 := J17
  repeat' walk_at "st"
  refine Set.newF T e1 e2 fun H18 e1 e2 J18 => ?_
  replace KA := KA.fresh J18 (by simp)
  replace JM := JM.trans J18
  replace JL := JL.trans J18
  repeat' walk_at "st"
  refine Set.newF T e1 e2 fun H19 e1 e2 J19 => ?_
  replace KA := KA.fresh J19 (by simp)
  replace JM := JM.trans J19
  replace JL := JL.trans J19
  repeat' walk_at "st"
  refine Set.newF T e1 e2 fun H20 e1 e2 J20 => ?_
  replace KA := KA.fresh J20 (by simp)
  replace JM := JM.trans J20
  replace JL := JL.trans J20
  repeat' walk_at "st"
  refine Set.newF T e1 e2 fun H21 e1 e2 J21 => ?_
  replace KA := KA.fresh J21 (by simp)
  replace JM := JM.trans J21
  replace JL := JL.trans J21
  repeat' walk_at "st"
  refine Set.newF T e1 e2 fun H22 e1 e2 J22 => ?_
  replace KA := KA.fresh J22 (by simp)
  replace JM := JM.trans J22
  replace JL := JL.trans J22
  repeat' walk_at "st"
  refine Set.newF T e1 e2 fun H23 e1 e2 J23 => ?_
  replace KA := KA.fresh J23 (by simp)
  replace JM := JM.trans J23
  replace JL := JL.trans J23
  repeat' walk_at "st"
  have Hkc : kc < H4.length := by refine x32 G ?_; try clear G; intro cells gs ge GA r; exact get_lt GA.cells
  have hmono : H4.length ≤ H16.length := Nat.le_trans JG.1 (Nat.le_trans J7.1 (Nat.le_trans J8.1 (Nat.le_trans J9.1 (Nat.le_trans J10.1 (Nat.le_trans J11.1 (Nat.le_trans J12.1 (Nat.le_trans J13.1 (Nat.le_trans J14.1 (Nat.le_trans J15.1 J16.1)))))))))
  refine ⟨rfl, q H23 ⟨H.length + 1, H.length, g, dg, kc, mk, dm, kd, H16.length⟩ KA ?_ ⟨1, 1, ?_⟩⟩
  · intro k hk
    simp [BLay.foot] at hk
    lia
  refine ⟨e1, e2, ?_, ?_, ?_, ?_, ?_, ?_⟩
  · have JGM := JG.trans JM
    refine x32 G ?_; try clear G; intro cells gs ge GA r
    refine ⟨cells, gs, ge, ⟨JGM.get ?_ GA.inst, JGM.get ?_ GA.ns, JGM.get ?_ GA.cells⟩, r⟩
    · intro h; have h : g = H.length := by simpa using h
      subst h; have := GA.inst; rw [e24] at this; cases this
    · intro h; have h : dg = H.length := by simpa using h
      have := GA.ns; rw [h, e24] at this; exact ns_ne (by simp) (Option.some.inj this)
    · intro h; have h : kc = H.length := by simpa using h
      have h2 : H4[kc]? = _ := GA.cells; rw [h, e24] at h2; cases h2
  · refine JM.get ?_ m1
    intro h; have h : mk = H.length := by simpa using h
    rw [h, e26] at m1; cases m1
  · refine JM.get ?_ m2
    intro h; have h : dm = H.length := by simpa using h
    rw [h, e26] at m2; exact ns_ne (by simp) (Option.some.inj m2)
  · refine JM.get ?_ m3
    intro h; have h : kd = H.length := by simpa using h
    rw [h, e26] at m3; exact ns_ne (by simp) (Option.some.inj m3)
  · exact JL.get (by simp; lia) hls
  · show H16.length ≠ kc
    lia
theorem law_buffer_call (T : Tops c) (hq : c.q = true) {k : Nat} {codes : List Int} {Q : Post MV} (hk : IsI H k codes) (hz : codes.length ≤ 60) (q : ∀ H' ℓ pt', Keep [] H H' → (∀ k ∈ ℓ.ls :: BLay.foot ℓ, H.length ≤ k) → BufIs H' ℓ codes pt' (codes.length + 16) → Q (.ref ℓ.b) H') :
    Cl c (n + 6) (.ref 712) [.ref k] H Q := by
  refine T.call 73 ["codes"] ["buffer"] rfl ⟨rfl, rfl, rfl, rfl, by decide, by decide⟩ rfl (fun _ _ _ _ _ _ => binds1 fun _ => (by kernel_rfl)) ?_
  have hkl := hk.lt
  (dsimp only [mkLoc, List.zip, List.zipWith, List.map, List.cons_append, List.nil_append]; repeat' walk_at "st")
  refine buffer_new T fun H₁ ℓ K₁ hf B₁ => ?_
  have hk₁ := hk.keep K₁
  repeat' walk_at "st"
  refine ed_insert T hq (p := 1) B₁ hk₁ (fun h => by have := hf _ (.tail _ h); lia) (by lia) (by lia) (by lia) (by simp) fun pt' H₂ K₂ B₂ => ?_
  repeat' walk_at "st"
  refine q _ ℓ pt' (K₁.fresh K₂ fun k hk => hf k (.tail _ hk)) hf ?_
  simp only [Nat.sub_self, List.take_nil, List.nil_append, List.drop_nil, List.append_nil] at B₂
  exact B₂.mono (by lia)
end
end
section
noncomputable def doneRows (word : Str) (rows : List (List Int)) (f l : Nat) : List (List Int) :=
  if word == "string" then rows.map fun r => replacedBy r f l [88, 89]
  else if word == "open" then rows.map fun r => openedUp r f l
  else if word == "clear" then rows.map fun r => cleared r f l
  else if word == "number" then numberedRows rows f l
  else rows.map fun r => erased r f l
noncomputable def doneTxt (word : Str) (txt : List Int) (a b : Nat) : List Int :=
  txt.take (spanOf txt a b).lo ++ joinRows (doneRows word (spanOf txt a b).rows (spanOf txt a b).f (spanOf txt a b).l) ++ txt.drop (spanOf txt a b).hi
section
variable {c : Cx} {n : Nat} {sc : Scope} {loc : Loc} {H H' : List MO} {ℓ : BLay} {txt : List Int} {pt zv tk ck : Int} {M : Nat}
theorem law_done_call (T : Tops c) (hq : c.q = true) {a b : Nat} {word : Str} {Q : Post MV} (B : BufIs H ℓ txt pt M) (hM : M ≤ 200) (S : SpnOk txt a b)
    (q : ∀ k' pt' H', Keep ℓ.foot H H' → H.length ≤ k' → BufIs H' ℓ (doneTxt word txt a b) pt' (M + 190) → IsI H' k' (doneTxt word txt a b) → Q (.ref k') H') :
    Cl c (n + 10) (.ref 731) [.str word, .ref ℓ.b, .int a, .int b] H Q := by
  have hd := doneTxt.eq_1 word txt a b
  have hr := doneRows.eq_1 word (spanOf txt a b).rows (spanOf txt a b).f (spanOf txt a b).l
  refine T.call 76 ["word", "buffer", "one", "other"] [] rfl ⟨rfl, rfl, rfl, rfl, by decide, by decide⟩ rfl (fun _ _ _ _ _ _ => binds4 fun _ _ _ _ => (by kernel_rfl)) ?_
  (dsimp only [mkLoc, List.zip, List.zipWith, List.map, List.cons_append, List.nil_append]; repeat' walk_at "st")
  refine ⟨fun e => ?_, fun e => ?_⟩
  · rw [if_pos e] at hr
    repeat' walk_at "st"
    refine string_call T hq (codes := [88, 89]) get_new (by simp) (B.keep Keep.app) hM S fun pt₂ H₂ K₂ B₂ => ?_
    replace K₂ : Keep ℓ.foot H H₂ := Keep.trans Keep.app K₂
    rw [← hr, ← hd] at B₂
    refine x21 B₂ fun tk₂ ck₂ BS₂ => ?_
    repeat' walk_at "st"
    refine Ev.meth T 15 rfl (by decide) ?_
    repeat' walk_at "st"
    refine i35 _ _ _ rfl BS₂.inst BS₂.ns (by kernel_rfl) ?_
    repeat' walk_at "st"
    refine Ev.meth0 T 13 rfl (by decide) ?_
    repeat' walk_at "st"
    refine i35 _ _ _ rfl BS₂.inst BS₂.ns (by kernel_rfl) ?_
    refine buf_size T BS₂ (by lia) ?_
    repeat' walk_at "st"
    refine buf_codes (a := 1) (b := (doneTxt word txt a b).length + 1) T BS₂ (by lia) (by lia) (by lia) (by lia) fun k₃ H₃ K₃ f₃ h₃ => ?_
    repeat' walk_at "st"
    simp only [Nat.sub_self, List.drop_zero, Nat.add_sub_cancel, List.take_length] at h₃
    exact q _ pt₂ _ (K₂.trans K₃.weak) (Nat.le_trans K₂.1 f₃) (B₂.keep K₃) h₃
  · rw [if_neg (by simpa using e)] at hr
    repeat' walk_at "st"
    refine ⟨fun e => ?_, fun e => ?_⟩
    · rw [if_pos (by simpa using e)] at hr
      repeat' walk_at "st"
      refine open_call T hq B hM S fun pt₂ H₂ K₂ B₂ => ?_
      rw [← hr, ← hd] at B₂
      refine x21 B₂ fun tk₂ ck₂ BS₂ => ?_
      repeat' walk_at "st"
      refine Ev.meth T 15 rfl (by decide) ?_
      repeat' walk_at "st"
      refine i35 _ _ _ rfl BS₂.inst BS₂.ns (by kernel_rfl) ?_
      repeat' walk_at "st"
      refine Ev.meth0 T 13 rfl (by decide) ?_
      repeat' walk_at "st"
      refine i35 _ _ _ rfl BS₂.inst BS₂.ns (by kernel_rfl) ?_
      refine buf_size T BS₂ (by lia) ?_
      repeat' walk_at "st"
      refine buf_codes (a := 1) (b := (doneTxt word txt a b).length + 1) T BS₂ (by lia) (by lia) (by lia) (by lia) fun k₃ H₃ K₃ f₃ h₃ => ?_
      repeat' walk_at "st"
      simp only [Nat.sub_self, List.drop_zero, Nat.add_sub_cancel, List.take_length] at h₃
      exact q _ pt₂ _ (K₂.trans K₃.weak) (Nat.le_trans K₂.1 f₃) (B₂.keep K₃) h₃
    · rw [if_neg (by simpa using e)] at hr
      repeat' walk_at "st"
      refine ⟨fun e => ?_, fun e => ?_⟩
      · rw [if_pos (by simpa using e)] at hr
        repeat' walk_at "st"
        refine clear_call T hq B hM S fun pt₂ H₂ K₂ B₂ => ?_
        rw [← hr, ← hd] at B₂
        refine x21 B₂ fun tk₂ ck₂ BS₂ => ?_
        repeat' walk_at "st"
        refine Ev.meth T 15 rfl (by decide) ?_
        repeat' walk_at "st"
        refine i35 _ _ _ rfl BS₂.inst BS₂.ns (by kernel_rfl) ?_
        repeat' walk_at "st"
        refine Ev.meth0 T 13 rfl (by decide) ?_
        repeat' walk_at "st"
        refine i35 _ _ _ rfl BS₂.inst BS₂.ns (by kernel_rfl) ?_
        refine buf_size T BS₂ (by lia) ?_
        repeat' walk_at "st"
        refine buf_codes (a := 1) (b := (doneTxt word txt a b).length + 1) T BS₂ (by lia) (by lia) (by lia) (by lia) fun k₃ H₃ K₃ f₃ h₃ => ?_
        repeat' walk_at "st"
        simp only [Nat.sub_self, List.drop_zero, Nat.add_sub_cancel, List.take_length] at h₃
        exact q _ pt₂ _ (K₂.trans K₃.weak) (Nat.le_trans K₂.1 f₃) (B₂.keep K₃) h₃
      · rw [if_neg (by simpa using e)] at hr
        repeat' walk_at "st"
        refine ⟨fun e => ?_, fun e => ?_⟩
        · rw [if_pos (by simpa using e)] at hr
          repeat' walk_at "st"
          refine number_call T hq B hM S fun pt₂ H₂ K₂ B₂ => ?_
          rw [← hr, ← hd] at B₂
          refine x21 B₂ fun tk₂ ck₂ BS₂ => ?_
          repeat' walk_at "st"
          refine Ev.meth T 15 rfl (by decide) ?_
          repeat' walk_at "st"
          refine i35 _ _ _ rfl BS₂.inst BS₂.ns (by kernel_rfl) ?_
          repeat' walk_at "st"
          refine Ev.meth0 T 13 rfl (by decide) ?_
          repeat' walk_at "st"
          refine i35 _ _ _ rfl BS₂.inst BS₂.ns (by kernel_rfl) ?_
          refine buf_size T BS₂ (by lia) ?_
          repeat' walk_at "st"
          refine buf_codes (a := 1) (b := (doneTxt word txt a b).length + 1) T BS₂ (by lia) (by lia) (by lia) (by lia) fun k₃ H₃ K₃ f₃ h₃ => ?_
          repeat' walk_at "st"
          simp only [Nat.sub_self, List.drop_zero, Nat.add_sub_cancel, List.take_length] at h₃
          exact q _ pt₂ _ (K₂.trans K₃.weak) (Nat.le_trans K₂.1 f₃) (B₂.keep K₃) h₃
        · rw [if_neg (by simpa using e)] at hr
          repeat' walk_at "st"
          refine kill_call T hq B hM S fun kf pt₂ H₂ K₂ B₂ => ?_
          rw [← hr, ← hd] at B₂
          refine x21 B₂ fun tk₂ ck₂ BS₂ => ?_
          repeat' walk_at "st"
          refine Ev.meth T 15 rfl (by decide) ?_
          repeat' walk_at "st"
          refine i35 _ _ _ rfl BS₂.inst BS₂.ns (by kernel_rfl) ?_
          repeat' walk_at "st"
          refine Ev.meth0 T 13 rfl (by decide) ?_
          repeat' walk_at "st"
          refine i35 _ _ _ rfl BS₂.inst BS₂.ns (by kernel_rfl) ?_
          refine buf_size T BS₂ (by lia) ?_
          repeat' walk_at "st"
          refine buf_codes (a := 1) (b := (doneTxt word txt a b).length + 1) T BS₂ (by lia) (by lia) (by lia) (by lia) fun k₃ H₃ K₃ f₃ h₃ => ?_
          repeat' walk_at "st"
          simp only [Nat.sub_self, List.drop_zero, Nat.add_sub_cancel, List.take_length] at h₃
          exact q _ pt₂ _ (K₂.trans K₃.weak) (Nat.le_trans K₂.1 f₃) (B₂.keep K₃) h₃
end
end
section
open Heap in
/-- an exception on its way: its class, its dict, its traceback's head -/
noncomputable def TraceD (h B : Heap) (e : Addr) (cls : Value) (dct : Option Addr) (fl : Value) : Prop :=
  ∃ oe vs T oT ts, h.get? e = some oe ∧ (oe.cls = cls ∧ oe.dict = dct) ∧ oe.data = .fields vs ∧ vs[1]? = some (.ref T) ∧ B.get? T = none ∧ T ≠ e ∧ h.get? T = some oT ∧ oT.data = .fields ts ∧ ts[3]? = some fl
noncomputable def NotedD (B : Heap) (l : List Env) (e : Addr) (cls : Value) (dct : Option Addr) (fl : Value) (h h' : Heap) : Prop :=
  B.StaysIn h' ∧ h'.FunFrames B l ∧ TraceD h' B e cls dct fl ∧ h.UpToSlots h'
noncomputable def FlyD (B : Heap) (l : List Env) (e : Addr) (cls : Value) (dct : Option Addr) (h : Heap) : Prop := B.StaysIn h ∧ B.get? e = none ∧ h.FunFrames B l ∧ TraceD h B e cls dct .none
theorem dict_mapFields (o : Obj) (f : Array Value → Array Value) : (o.mapFields f).dict = o.dict := by
  obtain ⟨c, d, dt, sl⟩ := o; cases dt <;> rfl
section
variable {M : Model} {A : Around} {E : Value → Shared → Prop} {s : Shared}
theorem fly_entry {B : Heap} {env : Env} {outer : List Env} {L e : Addr} {oe : Obj} {vs : Array Value} {head : Value} {hadNext : Bool} {Q : Unit → Shared → Prop}
    (hfr : A.frames = some (env :: outer)) (hl : s.heap.FunFrames B (env :: outer)) (hf : env.frame = some L)
    (he : s.heap.get? e = some oe) (hkb : B.StaysIn s.heap) (hen : B.get? e = none) (hd : oe.data = .fields vs) (hsz : 1 < vs.size)
    (h : ∀ h', NotedD B (env :: outer) e oe.cls oe.dict (rawInt L) s.heap h' → Q () { s with heap := h' }) :
    wpAny M A (do let a ← frameOf env; let pl ← entryPlaceOf L hadNext; let b ← EntryCells.newEntry head a .none (rawInt L) .none pl; setField (.ref e) 1 b) Q E s := by
  have hene : e ∉ (env :: outer).filterMap (·.frame) := fun hm => by
    refine x02 (hl.mem hm) fun _ ht50 => ?_; refine x12 ht50 ?_; clear ht50; intro o ho hnf
    rw [he] at ho; cases ho; exact hnf vs hd
  refine wpAny_bind (wpAny_frameOf_fun hfr hl hf fun h₁ hs₁ => wpAny_bind (wpAny_entryPlaceOf fun pl hpl => ?_))
  unfold EntryCells.newEntry newFields
  refine wpAny_bind (wpAny_newObj_type ?_ (hpl.sizeOk5 _ _ _ _ _))
  have he₁ : h₁.get? e = some oe := (hs₁.2.1 e hene).trans he
  have kb₁ : B.StaysIn h₁ := fun b o hbo => (hs₁.2.1 b fun hm => by rw [(hl.mem hm).1] at hbo; cases hbo).trans (hkb b o hbo)
  generalize hTo : ({ cls := .type "traceback", dict := Option.none, data := .fields ([head, .ref L, .none, rawInt L, .none] ++ (if pl.isEmpty then List.replicate 6 Value.none else pl)).toArray } : Obj) = oT
  have hTd : ∃ ts : Array Value, oT.data = .fields ts ∧ ts[3]? = some (rawInt L) := by
    subst hTo
    refine i12 _ rfl ?_
    first | (simp; done) | (rcases hpl with rfl | ⟨_, _, _, _, _, _, _, rfl⟩ <;> simp)
  refine x12 hTd ?_; try clear hTd; intro ts hT1 hT2
  have he₂ := Heap.get?_push_of_some (h := h₁) oT he₁
  refine wpAny_setField he₂ hd hsz (h _ ?_)
  have hTe : h₁.objs.size ≠ e := Nat.ne_of_gt (Heap.lt_size he₁)
  have hd₃ := Obj.data_mapFields hd (·.setIfInBounds 1 (Value.ref h₁.objs.size))
  have he₃ := Heap.get?_update_self (Obj.mapFields (·.setIfInBounds 1 (Value.ref h₁.objs.size))) he₂ (Obj.isFreed_of_fields hd₃)
  have hT₃ := (Heap.get?_update_other (h₁.push oT) (Obj.mapFields (·.setIfInBounds 1 (Value.ref h₁.objs.size))) (Ne.symm hTe)).trans (Heap.get?_push_size h₁ (Obj.isFreed_of_fields hT1))
  have keep : ∀ b o, b ≠ e → h₁.get? b = some o → ((h₁.push oT).update e (Obj.mapFields (·.setIfInBounds 1 (Value.ref h₁.objs.size)))).get? b = some o := fun b o hbe hb => by
    rw [Heap.get?_update_other _ _ (Ne.symm hbe)]; exact Heap.get?_push_of_some _ hb
  have noRecord : ∀ b o, s.heap.get? b = some o → (∀ vs, o.data ≠ .fields vs) → b ≠ e := fun b o hb hnf q => by
    rw [q, he] at hb; cases hb; exact hnf vs hd
  refine i04 (fun b o hbo => keep b o (fun q => by rw [q, hen] at hbo; cases hbo) (kb₁ b o hbo)) (hl.of_keeps fun b o hb hnf => ?_) ?_ (fun b o hb hnf => ?_)
  · refine x11 (hs₁.2.2 b o hb) fun sl hs => ?_
    exact i12 _ (keep b _ (noRecord b o hb hnf) hs) rfl
  · exact i58 _ _ h₁.objs.size _ _ he₃ ⟨Obj.cls_mapFields _ _, dict_mapFields _ _⟩ hd₃ (by simp [hsz]) kb₁.fresh hTe hT₃ (And.intro hT1 hT2)
  · refine x11 (hs₁.2.2 b o hb) fun sl hs => ?_
    exact ⟨sl, keep b _ (noRecord b o hb hnf) hs⟩
theorem fly_setFlight {B : Heap} {l : List Env} {e : Addr} {cls fl : Value} {dct : Option Addr} {Q : Unit → Shared → Prop} (hkb : B.StaysIn s.heap) (hl : s.heap.FunFrames B l) (ht : TraceD s.heap B e cls dct fl)
    (h : ∀ h', B.StaysIn h' → h'.FunFrames B l → TraceD h' B e cls dct .none → s.heap.UpToSlots h' → Q () { s with heap := h' }) : wpAny M A (setFlight (.ref e) Option.none) Q E s := by
  refine hold fun Xh oh => ?_
  refine x58 ht ?_; try clear ht; intro oe vs T oT ts he hcls hd h1 hnT hTe hT ht51; refine x02 ht51 ?_; clear ht51; intro hdT h3
  have hsz3 : 3 < ts.size := (Array.getElem?_eq_some_iff.mp h3).1
  have other : ∀ b, b ≠ T → (s.heap.update T (Obj.mapFields (·.setIfInBounds 3 ((Option.none : Option Addr).elim Value.none fun f => rawInt f)))).get? b = s.heap.get? b := fun b hb => Heap.get?_update_other _ _ (Ne.symm hb)
  have noRecord : ∀ b o, s.heap.get? b = some o → (∀ vs, o.data ≠ .fields vs) → b ≠ T := fun b o hb hnf q => by
    rw [q, hT] at hb; cases hb; exact hnf ts hdT
  refine oh ?_
  unfold setFlight
  refine wpAny_bind (wpAny_field he hd h1 ?_)
  rw [if_pos (show (Value.ref T != Value.none) = true from by simp)]
  refine wpAny_setField hT hdT hsz3 (h _ (fun b o hbo => (other b fun q => by rw [q, hnT] at hbo; cases hbo).trans (hkb b o hbo))
    (hl.of_keeps fun b o hb hnf => i12 o ((other b (noRecord b o hb hnf)).trans hb) rfl) ?_ fun b o hb hnf => ⟨o.slots, (other b (noRecord b o hb hnf)).trans hb⟩)
  exact i58 oe vs T _ _ ((other e (Ne.symm hTe)).trans he) hcls hd h1 hnT hTe (Heap.get?_update_self _ hT (Obj.isFreed_of_fields (Obj.data_mapFields hdT _))) (And.intro (Obj.data_mapFields hdT _) (by simp [hsz3]))
/-- the first frame left -/
theorem fly_leave_first {B : Heap} {env : Env} {outer : List Env} {L e : Addr} {oe : Obj} {vs : Array Value} {Q : Unit → Shared → Prop}
    (hfr : A.frames = some (env :: outer)) (hl : s.heap.FunFrames B (env :: outer)) (hf : env.frame = some L)
    (he : s.heap.get? e = some oe) (hkb : B.StaysIn s.heap) (hen : B.get? e = none) (hd : oe.data = .fields vs) (h1 : vs[1]? = some .none)
    (h : ∀ h', FlyD B outer e oe.cls oe.dict h' → s.heap.UpToSlots h' → Q () { s with heap := h' }) : wpAny M A (leaving env (.ref e)) Q E s := by
  unfold leaving noteFrame
  simp only [hf]
  refine wpAny_bind (wpAny_bind (wpAny_field he hd h1 ?_))
  rw [if_neg (by decide)]
  refine fly_entry hfr hl hf he hkb hen hd (Array.getElem?_eq_some_iff.mp h1).1 fun h₁ ⟨a1, a2, a3, a4⟩ => ?_
  refine fly_setFlight (s := { s with heap := h₁ }) a1 a2 a3 fun h₂ b1 b2 b3 b4 => ?_
  exact h h₂ (i04 b1 hen b2.2.2 b3) (a4.trans b4)
/-- the note of a frame that an exception comes to -/
theorem fly_note {B : Heap} {env : Env} {outer : List Env} {L e : Addr} {cls : Value} {dct : Option Addr} {Q : Unit → Shared → Prop}
    (hfr : A.frames = some (env :: outer)) (hf : env.frame = some L) (hfl : FlyD B (env :: outer) e cls dct s.heap)
    (h : ∀ h', NotedD B (env :: outer) e cls dct (rawInt L) s.heap h' → Q () { s with heap := h' }) : wpAny M A (noteFrame (.ref e) env) Q E s := by
  refine hold fun Xh oh => ?_
  refine x04 hfl ?_; try clear hfl; intro hkb hen hl ht52; refine x58 ht52 ?_; clear ht52; intro oe vs T oT ts he hx53 hd h1 hnT hTe hT ht54; obtain ⟨hcls, hdc⟩ := hx53; refine x02 ht54 ?_; clear ht54; intro hdT h3
  refine oh ?_
  subst hcls; subst hdc
  unfold noteFrame
  simp only [hf]
  refine wpAny_bind (wpAny_field he hd h1 ?_)
  rw [if_pos (show (Value.ref T != Value.none) = true from by simp)]
  refine wpAny_bind (wpAny_field hT hdT h3 ?_)
  rw [if_neg (show ¬ ((Value.none == rawInt L) = true) from by simp [rawInt])]
  refine wpAny_bind (wpAny_setField hT hdT (Array.getElem?_eq_some_iff.mp h3).1 ?_)
  have other : ∀ b, b ≠ T → (s.heap.update T (Obj.mapFields (·.setIfInBounds 3 Value.none))).get? b = s.heap.get? b := fun b hb => Heap.get?_update_other _ _ (Ne.symm hb)
  have noRecord : ∀ b o, s.heap.get? b = some o → (∀ vs, o.data ≠ .fields vs) → b ≠ T := fun b o hb hnf q => by
    rw [q, hT] at hb; cases hb; exact hnf ts hdT
  refine fly_entry (s := { s with heap := s.heap.update T (Obj.mapFields (·.setIfInBounds 3 Value.none)) }) hfr (hl.of_keeps fun b o hb hnf => i12 o ((other b (noRecord b o hb hnf)).trans hb) rfl) hf ((other e (Ne.symm hTe)).trans he)
    (fun b o hbo => (other b fun q => by rw [q, hnT] at hbo; cases hbo).trans (hkb b o hbo)) hen hd (Array.getElem?_eq_some_iff.mp h1).1 fun h₁ ⟨a1, a2, a3, a4⟩ => h h₁ (i04 a1 a2 a3 (fun b o hb hnf => a4 b o ((other b (noRecord b o hb hnf)).trans hb) hnf))
theorem fly_leave_next {B : Heap} {env : Env} {outer : List Env} {L e : Addr} {cls : Value} {dct : Option Addr} {Q : Unit → Shared → Prop}
    (hfr : A.frames = some (env :: outer)) (hf : env.frame = some L) (hfl : FlyD B (env :: outer) e cls dct s.heap)
    (h : ∀ h', FlyD B outer e cls dct h' → s.heap.UpToSlots h' → Q () { s with heap := h' }) : wpAny M A (leaving env (.ref e)) Q E s := by
  have hen := hfl.2.1
  unfold leaving
  refine wpAny_bind (fly_note hfr hf hfl fun h₁ ⟨a1, a2, a3, a4⟩ => ?_)
  refine fly_setFlight (s := { s with heap := h₁ }) a1 a2 a3 fun h₂ b1 b2 b3 b4 => ?_
  exact h h₂ (i04 b1 hen b2.2.2 b3) (a4.trans b4)
/-- a handler's suite takes the flight off once more -/
theorem fly_again {B : Heap} {l : List Env} {e : Addr} {cls : Value} {dct : Option Addr} {Q : Unit → Shared → Prop} (hfl : FlyD B l e cls dct s.heap)
    (h : ∀ h', FlyD B l e cls dct h' → s.heap.UpToSlots h' → Q () { s with heap := h' }) : wpAny M A (setFlight (.ref e) Option.none) Q E s :=
  fly_setFlight hfl.1 hfl.2.2.1 hfl.2.2.2 fun h' a b d u => h h' (i04 a hfl.2.1 b d) u
end
end
section
section
open Builtin Builtin.ObjectAttr
variable {prog : Program} {w : World} {A : Around} {E : Value → Shared → Prop} {h : Heap} {g : Array GenState} {d : Drawn} {t : Nat} {os : OsState}
variable {nm q : Str} {C N x : Addr} {bs : List Value} {sn : List Str} {sub : List Value} {ab : Bool} {col : Option Bool} {dd : Option Addr} {k0 k1 k2 k3 k5 : Option Value} {newId B sa owner : String} {bm : List Value}
  {mN mA : Str → Option Value} {name : Str} {v : Value} {o : Obj}
/-- the first store into an exception: its dict is made -/
theorem exc_first_entry {tk : Tok} {Q : Fin → Shared → Prop} (SF : StoreFacts B bm sa owner)
    (hC : h.get? C = some (excClassObj nm q C N bs bm true sn sub ab col dd k0 k1 k2 k3 k5 newId)) (hn : h.Ns N mN) (hna : mN name = Option.none)
    (hB : typeLookup (.type B) name = pure Option.none) (hx : h.get? x = some o) (hc : o.cls = .ref C) (hnc : ∀ c, o.data ≠ .cls c) (hdn : o.dict = Option.none)
    (hq : ∀ h' tk' D, h.get? D = Option.none → D ≠ x → h'.get? x = some { o with dict := some D } → h'.Ns1 D (fun y => if y = name then some v else Option.none) → (∀ b ob, b ≠ x → h.get? b = some ob → h'.get? b = some ob) → Q (.done (.ret .none)) ⟨h', g, d, tk', os⟩) :
    wpAny (model prog w) A (Builtin.«object.__setattr__» ⟨[.ref x, .str name tk, v], []⟩) Q E ⟨h, g, d, t, os⟩ := by
  have hpass := SF.passes (.ref x)
  unfold Builtin.«object.__setattr__»
  repeat (first | rw [refuse_eq] | (rw [refuseLoop_ref, hpass]) | (with_reducible refine wpAny_loadPart_at hx ?_; rw [hc]) | with_reducible refine wpAny_mroOf_exc hC ?_ | (with_reducible refine wpAny_typeLookup_exc hC hn SF.mro hB ?_; rw [hna]) | wp_step)
  rw [hdn, if_neg (by simp [typeHasDict])]
  split
  · rename_i hcd
    cases hcd
  split
  · rename_i c hcd
    exact absurd hcd (hnc c)
  have hx₁ : (h.push { cls := .type "dict", data := .dict #[] }).get? x = some o := Heap.get?_push_of_some _ hx
  have hxs : x ≠ h.objs.size := Nat.ne_of_lt (Heap.lt_size hx)
  refine wpAny_bind (wpAny_alloc' ?_)
  refine wpAny_bind (wpAny_update' hx₁ ?_)
  refine wpAny_pure ?_
  have hgd : ((h.push { cls := .type "dict", data := .dict #[] }).update x fun o => { cls := o.cls, dict := some h.objs.size, data := o.data, slots := o.slots }).get? h.objs.size = some { cls := .type "dict", data := .dict #[] } :=
    (Heap.get?_update_ne _ _ _ _ hxs.symm).trans (Heap.get?_push_at rfl rfl)
  have hnd : ((h.push { cls := .type "dict", data := .dict #[] }).update x fun o => { cls := o.cls, dict := some h.objs.size, data := o.data, slots := o.slots }).Ns h.objs.size (fun _ => Option.none) :=
    ⟨_, #[], _, hgd, rfl, fun e he => absurd he (by simp), fun _ => rfl⟩
  show wpAny _ _ (storeInDict h.objs.size (.str name tk) name v) _ _ _
  unfold storeInDict newKeyGuard
  refine wpAny_bind (wpAny_pure (wpAny_bind (wpAny_nsSet1 (Heap.Ns1.of_empty hnd) fun h' hn' hs => ?_)))
  refine x33 (hn'.count (Within.cons name v Within.nil)) fun oD esD epD hoD hdD hcD => ?_
  refine wpAny_bind (wpAny_lookBehind hoD (by rw [hdD]; exact pastItsLine_dict (Nat.le_trans hcD (by rw [List.length_cons, List.length_nil, sizeLine_eq]; lia))) ?_)
  wp_walk
  refine hq h' _ h.objs.size (Heap.get?_none_of_le (Nat.le_refl _)) hxs.symm ?_ hn' fun b ob hbx hb => (hs.2 b (Nat.ne_of_lt (Heap.lt_size hb))).trans ((Heap.get?_update_ne _ _ _ _ hbx).trans (Heap.get?_push_of_some _ hb))
  refine (hs.2 x hxs).trans (Heap.get?_update_self _ hx₁ ?_)
  have hfr := (Heap.get?_some_iff.mp hx).2
  obtain ⟨oc, od, odt, osl⟩ := o
  cases odt <;> first | rfl | exact hfr
theorem exc_first {Q : Unit → Shared → Prop} (SF : StoreFacts B bm sa owner)
    (hC : h.get? C = some (excClassObj nm q C N bs bm true sn sub ab col dd k0 k1 k2 k3 k5 newId)) (hn : h.Ns N mN) (hns : mN "__setattr__" = Option.none) (hna : mN name = Option.none)
    (hB : typeLookup (.type B) name = pure Option.none) (hx : h.get? x = some o) (hc : o.cls = .ref C) (hnc : ∀ c, o.data ≠ .cls c) (hdn : o.dict = Option.none)
    (hq : ∀ h' tk' D, h.get? D = Option.none → D ≠ x → h'.get? x = some { o with dict := some D } → h'.Ns1 D (fun y => if y = name then some v else Option.none) → (∀ b ob, b ≠ x → h.get? b = some ob → h'.get? b = some ob) → Q () ⟨h', g, d, tk', os⟩) :
    wpAny (model prog w) A (setAttr (.ref x) name v) Q E ⟨h, g, d, t, os⟩ := by
  have f3 := SF.slot.bind (.ref x)
  unfold setAttr callSpecial? specialOf
  repeat (any_goals (first | assumption | (with_reducible refine wpAny_loadPart_at hx ?_; rw [hc]) | (with_reducible refine wpAny_typeLookup_exc hC hn SF.mro SF.slot.lookup ?_; rw [hns]) | wp_step))
  refine codeAny_call_builtin SF.slot.plain SF.entry (wpAny_check_sa SF hC hx hc (exc_first_entry SF hC hn hna hB hx hc hnc hdn fun h' tk' D a1 a2 a3 a4 a5 => ?_))
  repeat (any_goals (first | assumption | wp_step))
  exact hq h' tk' D a1 a2 a3 a4 a5
end
end
section
section
open Builtin Builtin.ObjectAttr
variable {prog : Program} {w : World} {A : Around} {E : Value → Shared → Prop} {h : Heap} {g : Array GenState} {d : Drawn} {t : Nat} {os : OsState}
variable {nm q : Str} {C N x D : Addr} {bs : List Value} {sn : List Str} {sub : List Value} {ab : Bool} {col : Option Bool} {dd : Option Addr} {k0 k1 k2 k3 k5 : Option Value} {newId : String}
  {mN mA : Str → Option Value} {name sv : Str} {st : Tok} {o : Obj}
theorem exc_load_entry {tk : Tok} {Q : Fin → Shared → Prop}
    (hC : h.get? C = some (excClassObj nm q C N bs [.type "Exception", .type "BaseException", .type "object"] true sn sub ab col dd k0 k1 k2 k3 k5 newId)) (hn : h.Ns N mN) (hna : mN name = Option.none)
    (hB : typeLookup (.type "Exception") name = pure Option.none) (hx : h.get? x = some o) (hc : o.cls = .ref C) (hnc : ∀ c, o.data ≠ .cls c) (hd : o.dict = some D) (hD : h.Ns D mA) (hv : mA name = some (.str sv st))
    (hq : Q (.done (.ret (.str sv st))) ⟨h, g, d, t, os⟩) : wpAny (model prog w) A (Builtin.«object.__getattribute__» ⟨[.ref x, .str name tk], []⟩) Q E ⟨h, g, d, t, os⟩ := by
  have FB := PySem.F.attrBase_Exception
  unfold Builtin.«object.__getattribute__»
  repeat (first | (with_reducible refine wpAny_loadPart_at hx ?_; rw [hc]) | (with_reducible refine wpAny_typeLookup_exc hC hn FB.mro hB ?_; rw [hna]) | wp_step)
  split
  · rename_i c hcd
    exact absurd hcd (hnc c)
  unfold instanceDict
  repeat (first | (with_reducible refine wpAny_loadPart_at hx ?_; rw [hc]) | with_reducible refine wpAny_loadPart_at hC ?_ | wp_step)
  rw [hd]
  repeat (first | (with_reducible refine wpAny_nsGet hD ?_; rw [hv]) | wp_step)
  exact hq
theorem exc_load_check {M : Model} {nameV : Value} {Q : Unit → Shared → Prop} (hC : h.get? C = some (excClassObj nm q C N bs [.type "Exception", .type "BaseException", .type "object"] true sn sub ab col dd k0 k1 k2 k3 k5 newId))
    (hx : h.get? x = some o) (hc : o.cls = .ref C) (hq : Q () ⟨h, g, d, t, os⟩) : wpAny M A (checkBuiltinCall "BaseException.__getattribute__" ⟨[.ref x, nameV], []⟩) Q E ⟨h, g, d, t, os⟩ :=
  wpAny_check_ga_own PySem.F.attrBase_Exception hC .base hx hc hq
theorem exc_load {expr : Bool} {Q : Value → Shared → Prop}
    (hC : h.get? C = some (excClassObj nm q C N bs [.type "Exception", .type "BaseException", .type "object"] true sn sub ab col dd k0 k1 k2 k3 k5 newId)) (hn : h.Ns N mN) (hna : mN name = Option.none) (hg : mN "__getattribute__" = Option.none) (hgg : mN "__getattr__" = Option.none)
    (hB : typeLookup (.type "Exception") name = pure Option.none) (hx : h.get? x = some o) (hc : o.cls = .ref C) (hnc : ∀ c, o.data ≠ .cls c) (hd : o.dict = some D) (hD : h.Ns D mA) (hv : mA name = some (.str sv st))
    (hq : Q (.str sv st) ⟨h, g, d, t + 1, os⟩) : wpAny (model prog w) A (getAttr (.ref x) name expr) Q E ⟨h, g, d, t, os⟩ := by
  have FB := PySem.F.attrBase_Exception
  have f3 := FB.ga.bind (.ref x)
  have hx0 : (expr && onTheHeap (Value.builtin "BaseException.__getattribute__")) = false := by cases expr <;> rfl
  have hx2 : (Value.builtin "BaseException.__getattribute__" == Value.builtin "object.__getattribute__") = false := by decide +kernel
  have hx1 : (onTheHeap (Value.ref C) && Value.builtin "BaseException.__getattribute__" == Value.builtin "object.__getattribute__") = false := by rw [hx2]; rfl
  unfold getAttr getAttrBy
  repeat (any_goals (first | assumption | (with_reducible refine wpAny_loadPart_at hx ?_; rw [hc]) | (with_reducible refine wpAny_typeLookup_exc hC hn FB.mro FB.ga.lookup ?_; rw [hg]) | (with_reducible refine wpAny_typeLookup_exc hC hn FB.mro FB.noGetattr ?_; rw [hgg]) | wp_step))
  refine codeAny_call_builtin FB.ga.plain PySem.F.entry_bexc_ga (exc_load_check hC hx hc (exc_load_entry hC hn hna hB hx hc hnc hd hD hv ?_))
  repeat (any_goals (first | assumption | wp_step))
end
end
section
/-- the text's own exception class, by what the written part says -/
noncomputable def dataCls : Data → Option ClassData
  | .cls cd => some cd
  | _ => Option.none
theorem dataCls_eq {d : Data} {cd : ClassData} (h : dataCls d = some cd) : d = .cls cd := by
  unfold dataCls at h
  split at h
  · cases h; rfl
  · cases h
noncomputable def excOk (K : Frag) : Bool := (K.lookup 38).any (fun o => o.cls == .type "type" && o.slots.size == 6 && o.slots[4]? == some (some (.builtin "Exception.__new__")) && (dataCls o.data).any (fun cd => cd.mro == [.ref 38, .type "Exception", .type "BaseException", .type "object"] && !cd.hasDel && cd.hasDict && cd.ns == 37)) &&
  nsOkIn K 37 && nsIn K 37 "__init__" == some (some (.ref 35)) && nsIn K 37 "__setattr__" == some Option.none && nsIn K 37 "symbol" == some Option.none && nsIn K 37 "data" == some Option.none && nsIn K 37 "__getattribute__" == some Option.none && nsIn K 37 "__getattr__" == some Option.none
noncomputable abbrev excMro' : List Value := [.type "Exception", .type "BaseException", .type "object"]
structure ExcCls (h : Heap) (mN : Str → Option Value) : Prop where
  cls : ∃ nm q bs sn sub ab col dd k0 k1 k2 k3 k5, h.get? 38 = some (excClassObj nm q 38 37 bs excMro' true sn sub ab col dd k0 k1 k2 k3 k5 "Exception.__new__")
  ns : h.Ns 37 mN
  init : mN "__init__" = some (.ref 35)
  sa : mN "__setattr__" = Option.none
  symbol : mN "symbol" = Option.none
  data : mN "data" = Option.none
  ga : mN "__getattribute__" = Option.none
  gg : mN "__getattr__" = Option.none
theorem ns_some_of {K : Frag} {h : Heap} {N : Addr} {mg : Str → Option Value} {n : Str} {v : Value} (X : K.In h) (G : h.Ns N mg) (e : nsIn K N n = some (some v)) : mg n = some v := by
  refine x34 G ?_; try clear G; intro o es ep ho hd _ hf
  unfold nsIn at e
  split at e
  · rename_i c d es' n' sl q
    have := X _ _ q
    rw [ho] at this
    cases this
    cases hd
    split at e
    · rename_i en he
      rw [← hf]
      unfold nsFind findBy
      rw [← Array.find?_toList, he]
      cases e
      rfl
    · split at e <;> cases e
  · cases e
theorem six {α : Type} {l : List α} (h : l.length = 6) : ∃ a b c d e f, l = [a, b, c, d, e, f] := by
  refine hold fun Xh oh => ?_
  refine x21 (List.exists_cons_of_length_eq_add_one h) fun a l1 eq55 => ?_; subst eq55
  have h := Nat.succ.inj h
  refine x21 (List.exists_cons_of_length_eq_add_one h) fun b l2 eq56 => ?_; subst eq56
  have h := Nat.succ.inj h
  refine x21 (List.exists_cons_of_length_eq_add_one h) fun c l3 eq57 => ?_; subst eq57
  have h := Nat.succ.inj h
  refine x21 (List.exists_cons_of_length_eq_add_one h) fun d l4 eq58 => ?_; subst eq58
  have h := Nat.succ.inj h
  refine x21 (List.exists_cons_of_length_eq_add_one h) fun e l5 eq59 => ?_; subst eq59
  have h := Nat.succ.inj h
  refine x21 (List.exists_cons_of_length_eq_add_one h) fun f l6 eq60 => ?_; subst eq60
  have h := Nat.succ.inj h
  obtain rfl := List.eq_nil_of_length_eq_zero h
  refine oh ?_
  exact i51 a b c d e (Exists.intro f rfl)
theorem excCls_of {K : Frag} {h : Heap} (X : K.In h) (e : excOk K = true) : ∃ mN, ExcCls h mN := by
  unfold excOk at e
  simp only [Bool.and_eq_true, beq_iff_eq] at e
  refine hold fun Xh oh => ?_
  refine x02 e ?_; try clear e; intro hx61 h5; obtain ⟨⟨⟨⟨⟨⟨e, hok⟩, hi⟩, h1⟩, h2⟩, h3⟩, h4⟩ := hx61
  have N : h.Ns 37 (h.nsMap 37) := .of_isNs (isNs_of_in X hok)
  refine oh ?_
  refine ⟨_, ⟨?_, N, ns_some_of X N hi, ns_none_of X N h1, ns_none_of X N h2, ns_none_of X N h3, ns_none_of X N h4, ns_none_of X N h5⟩⟩
  cases ho : K.lookup 38 with
  | none => rw [ho] at e; cases e
  | some o =>
    rw [ho, Option.any_some] at e
    refine hold fun Xh oh => ?_
    obtain ⟨oc, od, odt, sl⟩ := o
    simp only [Bool.and_eq_true, beq_iff_eq] at e
    refine x02 e ?_; try clear e; intro hx62 e; obtain ⟨⟨rfl, hz⟩, h4'⟩ := hx62
    refine oh ?_
    cases hd : dataCls odt with
    | none => rw [hd] at e; cases e
    | some cd =>
      rw [hd, Option.any_some] at e
      have hd := dataCls_eq hd
      subst hd
      refine hold fun Xh oh => ?_
      obtain ⟨nm, bs, mro, ns, qn, hd, sn, sub, ab, col, del⟩ := cd
      simp only [Bool.and_eq_true, beq_iff_eq, Bool.not_eq_true'] at e
      refine x02 e ?_; try clear e; intro hx63 eq64; obtain ⟨⟨rfl, rfl⟩, rfl⟩ := hx63; subst eq64
      obtain ⟨l⟩ := sl
      refine x51 (six (l := l) hz) fun k0 k1 k2 k3 k4 ht65 => ?_; refine x11 ht65 ?_; clear ht65; intro k5 eq66; subst eq66
      have h4' : k4 = some (.builtin "Exception.__new__") := Option.some.inj h4'
      subst h4'
      refine oh ?_
      exact i51 _ _ _ _ _ (i51 _ _ _ _ _ (i31 _ _ _ (X _ _ ho)))
theorem lk_symbol : typeLookup (.type "Exception") "symbol" = pure Option.none := by rw [typeLookup_type, builtinLookup_eq_fast]; kernel_rfl
theorem lk_data : typeLookup (.type "Exception") "data" = pure Option.none := by rw [typeLookup_type, builtinLookup_eq_fast]; kernel_rfl
/-- such an exception, raised -/
theorem exc_raiseStmt {M : Model} {A : Around} {E : Value → Shared → Prop} {s : Shared} {env : Env} {x : Sem Value} {Q : Flow → Shared → Prop} (hh : A.handled = Option.none)
    (h : wpAny M A x (fun v s₁ => ∃ e o t mN, v = .ref e ∧ ExcCls s₁.heap mN ∧ s₁.heap.get? e = some o ∧ o.cls = .ref 38 ∧ o.data = .fields #[.ref t, .none, .none, .none, .bool false, .none] ∧ E (.ref e) s₁) E s) :
    wpAny M A (raiseStmt env (some x) Option.none) Q E s := by
  unfold raiseStmt
  refine wpAny_bind (wpAny_mono h (fun v s₁ h₁ => ?_) fun _ _ x => x)
  refine hold fun Xh oh => ?_
  refine x46 h₁ ?_; try clear h₁; intro e o t mN eq67 hx68 he hc hd hE; subst eq67; obtain ⟨⟨nm, q, bs, sn, sub, ab, col, dd, k0, k1, k2, k3, k5, hC⟩, _⟩ := hx68
  obtain ⟨hp, g, d, tk, os⟩ := s₁
  have hcB : (Value.ref 38 :: excMro').contains (.type "BaseException") = true := by decide
  refine oh ?_
  repeat (first | (with_reducible refine wpAny_loadPart_at he ?_; rw [hc]) | with_reducible refine wpAny_loadPart_at hC ?_ | (with_reducible refine wpAny_isSubtype_exc hC ?_; rw [hcB]) | with_reducible refine wpAny_field he hd rfl ?_ | wp_step)
  exact wpAny_raiseNew_none hh hE
end
section
noncomputable def fnOk (K : Frag) : Bool := match K.lookup 35 with
  | some o => o.cls == .type "function"
  | _ => false
/-- what an exception has become behind its making -/
structure ExcMade (h : Heap) (e D : Addr) (sym : Str) : Prop where
  obj : ∃ o t, h.get? e = some o ∧ o.cls = .ref 38 ∧ o.dict = some D ∧ o.data = .fields #[.ref t, .none, .none, .none, .bool false, .none]
  dict : ∃ mA st, h.Ns D mA ∧ mA "symbol" = some (.str sym st)
section
variable {c : Cx} {n : Nat} {sc : Scope} {r : RR} {m : Str → Option Value} {cs : Led} {s : Shared} {σ : List Addr} {os : List Obj} {loc : Loc} {H : List MO}
theorem exc_make (T : Tops c) (hx : excOk c.K = true) (hfo : fnOk c.K = true) (R : Rel c (n + 3) sc r m cs s.heap σ os loc H) {sym : Str} {st : Tok} {v2 : Value} {Φ : Value → Shared → Prop} {E : Value → Shared → Prop}
    (k : ∀ e D h' tk', Fr r.h₀ r.L h' m → (∃ eo Do, News r.h₀ r.L h' ((e, eo) :: (D, Do) :: ((cs ++ r.X) ++ σ.zip os))) → ExcMade h' e D sym → (D ≠ e ∧ (∀ p ∈ (cs ++ r.X) ++ σ.zip os, p.1 ≠ e) ∧ ∀ env ∈ r.fenv :: r.outer, env.frame ≠ some D ∧ env.frame ≠ some e) → Φ (.ref e) { s with heap := h', toks := tk' }) :
    wpAny (model c.prog c.w) r.A (call (.ref 38) [.str sym st, v2]) Φ E s := by
  refine hold fun Xh oh => ?_
  refine x11 (excCls_of R.Kh hx) fun mN X => ?_
  obtain ⟨⟨nm, q, bs, sn, sub, ab, col, dd, k0, k1, k2, k3, k5, hC⟩, hN, hi, hsa, hsy, hda, hga, hgg⟩ := id X
  refine x51 ((T.defAt 0 rfl).ex) fun kV doc pm an cdv ht21 => ?_; refine x42 ht21 ?_; clear ht21; intro ct oc od osl ho hcd
  have hocls : oc = .type "function" := by
    unfold fnOk at hfo
    rw [ho] at hfo
    simpa using hfo
  obtain ⟨hp, g, d, tk, oss⟩ := s
  refine oh ?_
  refine wpAny_call_exc_init PySem.F.excBase_Exception hC hN hi (R.Kh _ _ ho) hocls fun h₁ e hm => ?_
  refine hold fun Xh oh => ?_
  refine x13 hm.there fun t he htn ht => ?_
  have R₁ : Rel c (n + 3) sc r m cs h₁ σ os loc H := R.keeps hm.keeps
  have R₂ := R₁.under (n := n + 1) 38 [.str sym st, v2]
  have hen : ∀ p ∈ (cs ++ r.X) ++ σ.zip os, p.1 ≠ e := fun p hp q => by
    have := (R.N.news p hp).1
    rw [q, hm.new] at this; cases this
  have NE : News r.h₀ r.L h₁ ((e, { cls := .ref 38, data := .fields #[.ref t, .none, .none, .none, .bool false, .none] }) :: ((cs ++ r.X) ++ σ.zip os)) := by
    intro p hp
    rcases List.mem_cons.mp hp with rfl | hp
    · refine i03 he (fun q => ?_) ?_
      · refine x32 R.F.ns fun o _ _ h1 _ => ?_
        have q : e = r.L := q
        rw [← q, hm.new] at h1; cases h1
      · cases q : r.h₀.get? e with
        | none => rfl
        | some o => have := R.F.keep _ _ q; rw [hm.new] at this; cases this
    · exact R₁.N.news p hp
  refine oh ?_
  refine wpAny_call ?_
  refine (callX_cells (s := ⟨h₁, g, d, tk, oss⟩) (binds := [("self", .ref e), ("symbol", .str sym st), ("data", v2)]) R₂.B R₂.F NE R₂.T.nolimit R₂.fr R₂.ff R₂.fk (R₂.Kh _ _ ho) rfl (codeRec_of R₂.Kh hcd) (Nat.lt_of_le_of_lt (Nat.le_add_right _ _) R₂.dep) (.of_eq (by kernel_rfl)) (kindsX (by kernel_rfl)) (by decide)
    (fun gg L' h₂ tk₂ cells FG F' N' Y B' st' hlt => ?_) rfl rfl rfl)
  have hcells : cells = [] := by
    have h : cells.map (·.1) = ([] : List Addr) := cellsAre_map Y
    exact List.map_eq_nil_iff.mp h
  subst hcells
  rw [List.nil_append] at N'
  refine hold fun Xh oh => ?_
  refine x11 (excCls_of ((R₂.K.keeps st').keeps F'.keep) hx) fun mN₂ X₂ => ?_
  obtain ⟨⟨nm₂, q₂, bs₂, sn₂, sub₂, ab₂, col₂, dd₂, l0, l1, l2, l3, l5, hC₂⟩, hN₂, -, hsa₂, hsy₂, hda₂, -, -⟩ := id X₂
  have heE : h₂.get? e = some { cls := .ref 38, data := .fields #[.ref t, .none, .none, .none, .bool false, .none] } := (N' _ (.head _)).1
  have eL : e ≠ L' := (N' _ (.head _)).2.1
  have e38 : e ≠ 38 := fun q => by rw [q, hC₂] at heE; cases heE
  refine oh ?_
  refine wpAny_execs_cons (plainObj_wpAny_Assign_Attribute (wpAny_Name (wpAny_loadName_local rfl rfl F'.ns (v := .str sym st) (by kernel_rfl) (wpAny_Name (wpAny_loadName_local rfl rfl F'.ns (v := .ref e) (by kernel_rfl) ?_)))))
  refine exc_first PySem.F.store_Exception hC₂ hN₂ hsa₂ hsy₂ lk_symbol heE rfl (by intro c hc; cases hc) rfl fun h₃ tk₃ D a1 a2 a3 a4 a5 => ?_
  have ns₃ : h₃.Ns L' _ := F'.ns.at fun o ho => a5 L' o (Ne.symm eL) ho
  have DL : D ≠ L' := fun q => by refine x32 F'.ns fun o _ _ ho _ => ?_; rw [← q, a1] at ho; cases ho
  have hC₃ := a5 38 _ (Ne.symm e38) hC₂
  have hN₃ : h₃.Ns 37 mN₂ := by
    refine hN₂.at fun o ho => a5 37 o (fun q => ?_) ho
    refine x33 hN₂ ?_; try clear hN₂; intro o' _ _ ho' hd' _
    rw [q, heE] at ho'; cases ho'; cases hd'
  refine wpAny_execs_cons (plainObj_wpAny_Assign_Attribute (wpAny_Name (wpAny_loadName_local rfl rfl ns₃ (v := v2) (by kernel_rfl) (wpAny_Name (wpAny_loadName_local rfl rfl ns₃ (v := .ref e) (by kernel_rfl) ?_)))))
  have I : h₃.Inst e 38 (fun y => if y = ("symbol" : Str) then some (.str sym st) else Option.none) := i14 _ a3 rfl (by intro c hc; cases hc) (.inr ⟨D, rfl, a2, a4⟩)
  refine store_attr PySem.F.store_Exception hC₃ hN₃ hsa₂ hda₂ lk_data e38 I (fun h₄ tk₄ I' kp same => ?_) (PySem.Within.cons _ _ PySem.Within.nil) (by rw [sizeLine_eq]; decide)
  refine hold fun Xh oh => ?_
  refine x15 (same _ a3) fun o₁ b1 b2 b3 b4 b5 => ?_
  have kp' : ∀ b o, b ≠ e → b ≠ D → h₃.get? b = some o → h₄.get? b = some o := fun b o hb hD ho => kp b o hb (fun o₀ dx h1 h2 => by rw [a3] at h1; cases h1; cases h2; exact hD) ho
  have hD1 := b5 D rfl
  refine x14 I' ?_; try clear I'; intro o₂ c1 c2 c3 c4
  refine oh ?_
  rw [b1] at c1; cases c1
  rcases c4 with ⟨c4, _⟩ | ⟨d', c4, c5, c6⟩
  · rw [hD1] at c4; cases c4
  rw [hD1] at c4; cases c4
  have nsD := c6.ns
  refine hold fun Xh oh => ?_
  refine x32 nsD fun Do _ _ hDo _ => ?_
  have keep24 : ∀ b o, b ≠ e → h₂.get? b = some o → h₄.get? b = some o := fun b o hb ho => kp' b o hb (fun q => by rw [q, a1] at ho; cases ho) (a5 b o hb ho)
  have F₄ : Fr gg L' h₄ _ := fr_keep F' (fun o ho => keep24 L' o (Ne.symm eL) ho) fun b o hb ho => keep24 b o (fun q => by rw [q, (N' _ (.head _)).2.2] at hb; cases hb) ho
  have N₄ : News gg L' h₄ ((e, o₁) :: (D, Do) :: ((cs ++ r.X) ++ σ.zip os)) := by
    intro p hp
    rcases List.mem_cons.mp hp with rfl | hp
    · exact ⟨b1, (N' _ (.head _)).2⟩
    rcases List.mem_cons.mp hp with rfl | hp
    · refine i03 hDo DL ?_
      show gg.get? D = Option.none
      cases q : gg.get? D with
      | none => rfl
      | some o => have := F'.keep _ _ q; rw [a1] at this; cases this
    · have := N' p (.tail _ hp)
      exact ⟨keep24 _ _ (hen p hp) this.1, this.2⟩
  refine oh ?_
  refine wpAny_execs_nil (leaveK_ F₄ N₄ fun F₅ N₅ => ⟨rfl, ?_⟩)
  refine k e D h₄ tk₄ F₅ (i21 _ _ N₅) ⟨(i24 o₁ t b1 b2 hD1 b3), (i22 _ st nsD (by kernel_rfl))⟩ (i03 a2 hen (fun env henv => ⟨fun q => ?_, fun q => ?_⟩))
  · refine hold fun Xh oh => ?_
    refine x02 (B'.frames.mem (List.mem_filterMap.mpr (i12 env henv q))) fun _ ht22 => ?_; refine x12 ht22 ?_; clear ht22; intro o ho _
    have := F'.keep _ _ ho
    refine oh ?_
    rw [a1] at this; cases this
  · refine hold fun Xh oh => ?_
    refine x02 ((pushX R.B R.F R.ff R.fk).frames.mem (List.mem_filterMap.mpr (i12 env henv q))) fun _ ht23 => ?_; refine x12 ht23 ?_; clear ht23; intro o ho _
    refine oh ?_
    rw [hm.new] at ho; cases ho
end
end
section
noncomputable def symS : Str := "args-out-of-range"
/-- an exception that flies towards this frame -/
structure FlownAt (c : Cx) (r : RR) (cs : Led) (H : List MO) (σ : List Addr) (h' : Heap) (e D : Addr) (σ' : List Addr) (os' : List Obj) (H' : List MO) (B : Heap) : Prop where
  a1 : Keep [] H H'
  a2 : σ <+: σ'
  a3 : All2 (OR c.sl σ') H' os'
  a4 : os'.length = σ'.length
  a5 : ((cs ++ r.X).map (·.1) ++ σ').Nodup
  a6 : ∀ p ∈ (cs ++ r.X) ++ σ'.zip os', p.1 ≠ r.L ∧ r.h₀.get? p.1 = Option.none ∧ B.get? p.1 = some p.2
  a7 : FlyD B (r.fenv :: r.outer) e (.ref 38) (some D) h'
  a8 : r.base.StaysIn B
  a9 : ∃ mA st, B.Ns D mA ∧ mA "symbol" = some (.str symS st)
  a10 : ∀ b o, r.h₀.get? b = some o → (∀ env ∈ r.outer, env.frame ≠ some b) → B.get? b = some o
structure Flown (c : Cx) (r : RR) (m : Str → Option Value) (cs : Led) (H : List MO) (σ : List Addr) (h' : Heap) (e D : Addr) : Prop where
  ex : ∃ σ' os' H' B, FlownAt c r cs H σ h' e D σ' os' H' B
  up : r.h₀.UpToSlots h'
  ns : h'.Ns r.L m
noncomputable def ClR (c : Cx) (n : Nat) (f : Value) (vs : List MV) (H : List MO) : Prop :=
  ∀ (sc : Scope) (r : RR) (m : Str → Option Value) (cs : Led) (s : Shared) (σ : List Addr) (os : List Obj) (loc : Loc) (as : List Value) (Φ : Value → Shared → Prop) (E : Value → Shared → Prop),
    Rel c n sc r m cs s.heap σ os loc H → All2 (VR c.sl σ) vs as →
    (∀ e D h' tk', Flown c r m cs H σ h' e D → E (.ref e) { s with heap := h', toks := tk' }) → wpAny (model c.prog c.w) r.A (call f as) Φ E s
noncomputable def EvR (c : Cx) (n : Nat) (sc : Scope) (e : Expr) (loc : Loc) (H : List MO) : Prop :=
  ∀ (r : RR) (m : Str → Option Value) (cs : Led) (s : Shared) (σ : List Addr) (os : List Obj) (Φ : Value → Shared → Prop) (E : Value → Shared → Prop),
    Rel c n sc r m cs s.heap σ os loc H → (∀ e D h' tk', Flown c r m cs H σ h' e D → E (.ref e) { s with heap := h', toks := tk' }) → wpAny (model c.prog c.w) r.A (eval e r.env) Φ E s
noncomputable def ExR (c : Cx) (n : Nat) (sc : Scope) (b : List Stmt) (loc : Loc) (H : List MO) : Prop :=
  ∀ (r : RR) (m : Str → Option Value) (cs : Led) (s : Shared) (σ : List Addr) (os : List Obj) (Φ : Flow → Shared → Prop) (E : Value → Shared → Prop),
    RelF c n sc r m cs s.heap σ os loc H → (∀ e D h' tk', Flown c r m cs H σ h' e D → E (.ref e) { s with heap := h', toks := tk' }) → wpAny (model c.prog c.w) r.A (execs b r.env) Φ E s
/-- the exception made in the frame itself -/
noncomputable def ExM (c : Cx) (n : Nat) (sc : Scope) (b : List Stmt) (loc : Loc) (H : List MO) : Prop :=
  ∀ (r : RR) (m : Str → Option Value) (cs : Led) (s : Shared) (σ : List Addr) (os : List Obj) (Φ : Flow → Shared → Prop) (E : Value → Shared → Prop),
    RelF c n sc r m cs s.heap σ os loc H → (∀ e D h' tk' m' cs' σ' os' loc' H', Keep [] H H' → RelF c n sc r m' cs' h' σ' os' loc' H' → cs'.map (·.1) = cs.map (·.1) → σ <+: σ' → (∃ eo Do, News r.h₀ r.L h' ((e, eo) :: (D, Do) :: ((cs' ++ r.X) ++ σ'.zip os'))) → ExcMade h' e D symS → (D ≠ e ∧ (∀ p ∈ (cs' ++ r.X) ++ σ'.zip os', p.1 ≠ e) ∧ ∀ env ∈ r.fenv :: r.outer, env.frame ≠ some D ∧ env.frame ≠ some e) → E (.ref e) { s with heap := h', toks := tk' }) →
    wpAny (model c.prog c.w) r.A (execs b r.env) Φ E s

section
variable {c : Cx} {n : Nat} {H : List MO}
/-- a def entered, its end left open -/
theorem def_enter {f : Addr} {name qual : Str} {params : Arguments} {body : List Stmt} {sc : Scope} {dV : Value} {ps rest : List Str} {vs ws : List MV}
    (D : DefAt c f name qual params body sc dV) (S : ScOk sc ps rest) (hlen : ps.length = ws.length)
    (hb : ∀ kV doc pm an cdv ct, BindsAs c (fnOf name qual params body sc dV kV doc pm an cdv ct) ps vs ws)
    {sc₀ : Scope} {r : RR} {m : Str → Option Value} {cs : Led} {s : Shared} {σ : List Addr} {os : List Obj} {loc : Loc} {as : List Value} {RR' : Result → Shared → Prop}
    (R : Rel c (n + 1) sc₀ r m cs s.heap σ os loc H) (ha : All2 (VR c.sl σ) vs as)
    (hbody : ∀ (r' : RR) (m' : Str → Option Value) (cells : Led) (h₁ : Heap) (tk : Nat), RelF c n sc r' m' cells h₁ σ os (mkLoc ps ws rest) H → r'.A₀ = r.A → r'.base = r.base → r'.outer = r.fenv :: r.outer → r'.X = cs ++ r.X → Fr r.h₀ r.L r'.h₀ m → r.h₀.StaysIn r'.h₀ → r'.A = r.A.deeper r'.fenv → r'.fenv.scope.kind = .function →
      wpAny (model c.prog c.w) r'.A (execs body r'.env) (fun fl s' => RR' (.ok (.ret (match fl with | .ret v => v | _ => .none))) s')
        (fun e s' => wpAny (model c.prog c.w) r'.A (leaving r'.fenv e) (fun _ s'' => RR' (.error e) s'') (fun e' s'' => RR' (.error e') s'') s') { s with heap := h₁, toks := tk }) :
    codeAny (model c.prog c.w) r.A (.call (.ref f) ⟨as, []⟩) RR' s := by
  refine hold fun Xh oh => ?_
  refine x51 D.ex fun kV doc pm an cdv ht11 => ?_; refine x42 ht11 ?_; clear ht11; intro ct oc od osl ho hcd
  refine x12 (hb kV doc pm an cdv ct σ as s ha R.Kh) fun bs hbind hws => ?_
  have ndp : ps.Nodup := (List.nodup_append.mp S.nd).1
  have hpl : ps.length = bs.length := hlen.trans hws.length
  have hkey : (ps.zip bs).map (·.1) = ps := zip_map_fst hpl
  have hkind : ((ps.zip bs).all fun y => sc.names.lookup y.1 == some .local || sc.names.lookup y.1 == some .cell) = true := by
    rw [List.all_eq_true]
    intro y hy
    refine List.all_eq_true.mp S.names y.1 (List.mem_append_left _ ?_)
    rw [← hkey]; exact List.mem_map_of_mem (f := (·.1)) hy
  refine x04 (groundX (R := RR') R.B R.F R.N.news R.fr R.ff R.fk) fun FG BG st _ => ?_
  refine oh ?_
  refine codeAny_call_function (fd := fnOf name qual params body sc dV kV doc pm an cdv ct) (by have := R.dep; lia) (R.Kh _ _ ho) rfl S.co S.gen rfl (codeRec_of R.Kh hcd) (hbind _ _ _ _ ?_)
  refine wpAny_newFunctionEnv_cells S.kind (kindsX hkind _) fun env' he s' x => ?_
  subst he
  refine ⟨(R.T.nolimit.keeps R.F.keep).keeps x.toInCall.keep, codeAny_func ?_⟩
  refine hold fun Xh oh => ?_
  refine x22 x.done fun h₁ tk eq12 _ => ?_; subst eq12
  have hk₁ := x.toInCall.keep
  refine x12 (PyProof.Rows.Cl.news (h₀ := s.heap) (Nat.le_refl _) fun n c hm => ⟨x.cell n c (lookup_of_mem_nodup (cellsFrom_names sc.names 0 (s.heap.objs.size + 1) [] [] rfl ▸ S.cnd) hm), x.above n c hm⟩) fun cells NC Y => ?_
  refine oh ?_
  let g : Heap := hideAll s.heap (((cs ++ r.X) ++ σ.zip os).map (·.1))
  let L' : Addr := s.heap.objs.size
  have F' : Fr g L' h₁ (bindL (envOfC qual sc L' f cdv).kindOf (ps.zip bs) fun _ => Option.none) := ⟨x.toInCall.ns, fun b o e => hk₁ b o (of_hideAll _ e), Nat.le_of_eq (hideAll_size _ _)⟩
  have N' : News g L' h₁ (cells ++ ((cs ++ r.X) ++ σ.zip os)) := by
    intro p hp
    rcases List.mem_append.mp hp with hp | hp
    · refine i03 ((NC p hp).1) ((NC p hp).2.1) ?_
      cases q : g.get? p.1 with
      | none => rfl
      | some o => have := of_hideAll _ q; rw [(NC p hp).2.2] at this; cases this
    · exact i03 (hk₁ _ _ (R.N.news p hp).1) (Nat.ne_of_lt (Heap.lt_size (R.N.news p hp).1)) (hideAll_none _ (List.mem_map_of_mem hp))
  have B' : Below r.A r.base (r.fenv :: r.outer) g := BG
  have hlt : ∀ p ∈ (cs ++ r.X) ++ σ.zip os, p.1 < L' := fun p hp => Heap.lt_size (R.N.news p hp).1
  have eadr := cellsAre_map Y
  have cnd2 : ((cellsFrom (L' + 1) sc.names []).map (·.2)).Nodup := cellsFrom_nd _ _ _ (by simp) (by simp)
  have hpos : ∀ y o, (y, o) ∈ mkLoc ps ws rest → sc.names.lookup y = some .local ∨ (sc.names.lookup y = some .cell ∧ ∃ a ob, (cellsFrom (L' + 1) sc.names []).lookup y = some a ∧ (a, ob) ∈ cells ∧ ob.data = .cell (bindC (envOfC qual sc L' f cdv).kindOf (ps.zip bs) (fun _ => none) y)) := by
    intro y o hy
    have hy' : y ∈ ps ++ rest := by
      unfold mkLoc at hy
      rcases List.mem_append.mp hy with h1 | h1
      · exact List.mem_append_left _ (List.of_mem_zip h1).1
      · refine x12 (List.mem_map.mp h1) fun z hz e => ?_
        cases e; exact List.mem_append_right _ hz
    have hb := List.all_eq_true.mp S.names y hy'
    rcases Bool.or_eq_true_iff.mp hb with q | q
    · exact .inl (beq_iff_eq.mp q)
    · have q := beq_iff_eq.mp q
      have hs := cellsFrom_some sc.names (L' + 1) [] (x := y) (.inl q)
      refine x11 (Option.isSome_iff_exists.mp hs) fun a hl => ?_
      refine x12 (cellsAre_mem Y (lookup_mem hl)) fun ob h1 h2 => ?_
      exact .inr (And.intro q (i23 a ob hl h1 h2))
  let env := envOfC qual sc L' f cdv
  let r' : RR := { A := r.A.deeper env, env := env, fenv := env, A₀ := r.A, base := r.base, outer := r.fenv :: r.outer, h₀ := g, L := L', X := cs ++ r.X }
  have R' : RelF c n sc r' (bindL env.kindOf (ps.zip bs) fun _ => none) cells h₁ σ os (mkLoc ps ws rest) H := by
    refine { fr := Around.frames_deeper R.fr, ff := rfl, fk := S.kind, dep := ?_, un := ?_, hd := fun q => R.hd q, B := B', F := F', K := R.K.keeps st, T := R.T.keeps st, scr := ?_, N := ?_, es := rfl, ek := S.kind, eg := rfl, eb := rfl, vars := ?_, nd := ?_, ef := rfl, el := rfl, slots := ?_, cinj := ?_ }
    · have := R.dep; show r.A.depth + 1 + 2 * n < _; lia
    · have := R.un; show r.A.units + 3 + 16 * n + 200 < _; lia
    · refine x12 R.scr fun vs' h1 h2 => ?_
      exact i12 vs' (stays_list st h1) h2
    · refine ⟨by show News g L' h₁ (cells ++ (cs ++ r.X) ++ σ.zip os); rw [List.append_assoc]; exact N', R.N.objs, R.N.len, ?_⟩
      show ((cells ++ (cs ++ r.X)).map (·.1) ++ σ).Nodup
      rw [List.map_append, List.append_assoc, List.nodup_append]
      refine i03 (eadr ▸ cnd2) R.N.nd (fun a ha b hb e => ?_)
      subst e
      rw [eadr] at ha
      refine x12 (List.mem_map.mp ha) fun p hp eq13 => ?_; subst eq13
      have h1 := cellsFrom_ge (lo := L' + 1) sc.names (L' + 1) [] (Nat.le_refl _) (by simp) p hp
      have h2 : p.2 ∈ ((cs ++ r.X) ++ σ.zip os).map (·.1) := by rw [List.map_append, map_fst_zip R.N.len]; exact hb
      refine x12 (List.mem_map.mp h2) fun q hq e => ?_
      have h3 := hlt q hq
      rw [e] at h3
      exact absurd (Nat.lt_of_lt_of_le h3 (Nat.le_of_succ_le h1)) (Nat.lt_irrefl _)
    · intro y v hy
      have hz : (y, v) ∈ ps.zip ws := by
        unfold mkLoc at hy
        rcases List.mem_append.mp hy with h1 | h1
        · have : ∀ {ps : List Str} {ws : List MV}, (y, some v) ∈ ps.zip (ws.map some) → (y, v) ∈ ps.zip ws := by
            intro ps ws hm
            rw [List.zip_map_right] at hm
            refine x12 (List.mem_map.mp hm) fun hx14 hp e => ?_; obtain ⟨a, b⟩ := hx14
            simp at e
            refine x02 e ?_; try clear e; intro eq15 eq16; subst eq15; subst eq16
            exact hp
          exact this h1
        · refine x12 (List.mem_map.mp h1) fun z hz e => ?_
          cases e
      refine x12 (zip_mem_right hws hz) fun b hb hr => ?_
      refine i12 b hr ?_
      rcases hpos y _ hy with hk | ⟨hk, a, ob, hl, hm, hd⟩
      · exact .inl ⟨hk, .inl ⟨rfl, bindL_in (hkey.symm ▸ ndp) hb hk⟩⟩
      · rw [bindC_in (hkey.symm ▸ ndp) hb hk] at hd
        exact .inr (And.intro hk (i23 a ob hl (List.mem_append_left _ hm) hd))
    · have : (mkLoc ps ws rest).map (·.1) = ps ++ rest := by
        unfold mkLoc
        rw [List.map_append, zip_map_fst (by simp [hlen]), List.map_map]
        congr 1
        exact List.map_id' rest
      rw [this]; exact S.nd
    · intro y o hy
      rcases hpos y o hy with hk | ⟨hk, a, ob, hl, hm, hd⟩
      · exact .inl hk
      · exact .inr (And.intro hk (i33 a ob _ hl hm hd))
    · intro y z a h1 h2
      exact snd_inj cnd2 (lookup_mem h1) (lookup_mem h2)
  exact hbody r' _ cells h₁ tk R' rfl rfl rfl rfl FG st rfl S.kind

theorem frames_of_rel {sc : Scope} {r : RR} {m : Str → Option Value} {cs : Led} {h : Heap} {σ : List Addr} {os : List Obj} {loc : Loc} (R : Rel c n sc r m cs h σ os loc H) : h.FunFrames r.base (r.fenv :: r.outer) :=
  (pushX R.B R.F R.ff R.fk).frames
theorem def_raises {f : Addr} {name qual : Str} {params : Arguments} {body : List Stmt} {sc : Scope} {dV : Value} {ps rest : List Str} {vs ws : List MV}
    (D : DefAt c f name qual params body sc dV) (S : ScOk sc ps rest) (hlen : ps.length = ws.length)
    (hb : ∀ kV doc pm an cdv ct, BindsAs c (fnOf name qual params body sc dV kV doc pm an cdv ct) ps vs ws)
    (h : ExR c n sc body (mkLoc ps ws rest) H) : ClR c (n + 1) (.ref f) vs H := by
  intro sc₀ r m cs s σ os loc as Φ E R ha k
  refine wpAny_call (def_enter D S hlen hb R ha fun r' m' cells h₁ tk R' eA eb eo eX FG st eAd ek => ?_)
  refine h r' m' cells { s with heap := h₁, toks := tk } σ os _ _ R' fun e D h' tk' F => ?_
  refine hold fun Xh oh => ?_
  obtain ⟨⟨σ', os', H', B, a1, a2, a3, a4, a5, a6, a7, a8, a9, a10⟩, up, ns⟩ := F
  refine oh ?_
  refine fly_leave_next (s := { s with heap := h', toks := tk' }) R'.fr R'.ff a7 fun h'' f1 f2 => ?_
  refine k e D h'' tk' ⟨⟨σ', os', H', B, a1, a2, a3, a4, ?_, fun p hp => ?_, eo ▸ f1, eb ▸ a8, a9, fun b o hb hne => ?_⟩, ?_, ?_⟩
  · rw [eX, List.map_append, List.append_assoc, List.nodup_append] at a5
    exact a5.2.1
  · have hp' : p ∈ (cells ++ r'.X) ++ σ'.zip os' := by rw [eX, List.append_assoc]; exact List.mem_append_right _ hp
    refine hold fun Xh oh => ?_
    refine x03 (a6 p hp') fun b1 b2 b3 => ?_
    refine oh ?_
    refine i03 (fun q => ?_) ?_ b3
    · refine hold fun Xh oh => ?_
      refine x32 FG.ns fun o _ _ ho _ => ?_
      refine oh ?_
      rw [q, ho] at b2; cases b2
    · cases q : r.h₀.get? p.1 with
      | none => rfl
      | some o => rw [st _ _ q] at b2; cases b2
  · refine a10 b o (st b o hb) fun env he q => ?_
    rw [eo] at he
    rcases List.mem_cons.mp he with rfl | he
    · rw [R.ff] at q
      have q := Option.some.inj q
      subst q
      exact absurd (Heap.lt_size hb) (Nat.not_lt.mpr R.F.above)
    · exact hne env he q
  · exact ((Heap.UpToSlots.of_keeps st).trans up).trans f2
  · exact f2.ns (up.ns FG.ns)
theorem def_raises_made {f : Addr} {name qual : Str} {params : Arguments} {body : List Stmt} {sc : Scope} {dV : Value} {ps rest : List Str} {vs ws : List MV}
    (D : DefAt c f name qual params body sc dV) (S : ScOk sc ps rest) (hlen : ps.length = ws.length)
    (hb : ∀ kV doc pm an cdv ct, BindsAs c (fnOf name qual params body sc dV kV doc pm an cdv ct) ps vs ws)
    (h : ExM c n sc body (mkLoc ps ws rest) H) : ClR c (n + 1) (.ref f) vs H := by
  intro sc₀ r m cs s σ os loc as Φ E R ha k
  refine wpAny_call (def_enter D S hlen hb R ha fun r' m' cells h₁ tk R' eA eb eo eX FG st eAd ek => ?_)
  refine h r' m' cells { s with heap := h₁, toks := tk } σ os _ _ R' fun e D h' tk' m₂ cs₂ σ' os' loc' H' K R₂ ec hσ hN hE hap => ?_
  refine hold fun Xh oh => ?_
  refine x21 hN ?_; try clear hN; intro eo' Do N
  obtain ⟨⟨oe, t, h1, h2, h3, h4⟩, ⟨mA, st₀, h5, h6⟩⟩ := hE
  have hfr := frames_of_rel R₂.toRel
  have fin : ∀ env ∈ r'.fenv :: r'.outer, ∀ a, env.frame = some a → a ∈ e :: (r'.fenv :: r'.outer).filterMap (·.frame) := fun env he a ha => .tail _ (List.mem_filterMap.mpr (i12 env he ha))
  have hB : ∀ b o, h'.get? b = some o → b ≠ e → (∀ env ∈ r'.fenv :: r'.outer, env.frame ≠ some b) → (hideAll h' (e :: (r'.fenv :: r'.outer).filterMap (·.frame))).get? b = some o := fun b o ho hbe hne => hideAll_get _ ho fun q => by
    rcases List.mem_cons.mp q with q | q
    · exact hbe q
    · refine x12 (List.mem_filterMap.mp q) fun env he ha => ?_
      exact hne env he ha
  have baseNo : ∀ b o, r'.base.get? b = some o → b ≠ e ∧ ∀ env ∈ r'.fenv :: r'.outer, env.frame ≠ some b := fun b o ho => by
    refine ⟨fun q => ?_, fun env he q => ?_⟩
    · have := R₂.B.stays _ _ ho
      rw [q, (N _ (.head _)).2.2] at this; cases this
    · have := (hfr.mem (List.mem_filterMap.mpr (i12 env he q))).1
      rw [ho] at this; cases this
  have hl := funFrames_hide (as := e :: (r'.fenv :: r'.outer).filterMap (·.frame)) hfr fin
  refine oh ?_
  refine fly_leave_first (s := { s with heap := h', toks := tk' }) R'.fr hl R'.ff h1 (fun b o q => of_hideAll _ q) (hideAll_none _ (.head _)) h4 rfl fun h'' f1 f2 => ?_
  refine hold fun Xh oh => ?_
  refine x03 hap ?_; try clear hap; intro p1 p2 p3
  have hframe : ∀ env ∈ r'.fenv :: r'.outer, ∀ a, env.frame = some a → ∃ o, h'.get? a = some o := fun env he a ha => by
    refine x02 (hfr.mem (List.mem_filterMap.mpr (i12 env he ha))) fun _ ht17 => ?_; refine x12 ht17 ?_; clear ht17; intro o ho _
    exact ⟨o, ho⟩
  refine oh ?_
  -- the ledger is none of the frames
  have ledF : ∀ p ∈ (cs₂ ++ r'.X) ++ σ'.zip os', ∀ env ∈ r'.fenv :: r'.outer, env.frame ≠ some p.1 := fun p hp env he q => by
    rcases List.mem_cons.mp he with rfl | he
    · rw [R₂.ff] at q
      exact (R₂.N.news p hp).2.1 (Option.some.inj q).symm
    · refine x22 (funFrames_in R₂.B.frames env he) fun L₁ o₁ hf₁ ho₁ => ?_
      rw [hf₁] at q
      have q := Option.some.inj q
      rw [q, (R₂.N.news p hp).2.2] at ho₁; cases ho₁
  have gF : ∀ b o, r'.h₀.get? b = some o → b ≠ e := fun b o ho q => by rw [q, (N _ (.head _)).2.2] at ho; cases ho
  refine k e D h'' tk' ⟨⟨σ', os', H', _, K, hσ, R₂.N.objs, R₂.N.len, ?_, fun p hp => ?_, by rw [← eo, ← h2, ← h3]; exact f1, ?_, ?_, fun b o hb hne => ?_⟩, ?_, ?_⟩
  · have nd := R₂.N.nd
    rw [eX, List.map_append, List.append_assoc, List.nodup_append] at nd
    exact nd.2.1
  · have hp' : p ∈ (cs₂ ++ r'.X) ++ σ'.zip os' := by rw [eX, List.append_assoc]; exact List.mem_append_right _ hp
    refine hold fun Xh oh => ?_
    refine x03 (R₂.N.news p hp') fun b1 b2 b3 => ?_
    refine oh ?_
    refine i03 (fun q => ?_) ?_ (hB _ _ b1 (p2 p hp') fun env he => ledF p hp' env he)
    · refine hold fun Xh oh => ?_
      refine x32 FG.ns fun o _ _ ho _ => ?_
      refine oh ?_
      rw [q, ho] at b3; cases b3
    · cases q : r.h₀.get? p.1 with
      | none => rfl
      | some o => rw [st _ _ q] at b3; cases b3
  · intro b o ho
    rw [← eb] at ho
    have := baseNo b o ho
    exact hB b o (R₂.F.keep _ _ (R₂.B.stays _ _ ho)) this.1 this.2
  · refine i22 mA st₀ ?_ h6
    refine h5.at fun o ho => hB D o ho p1 fun env he => (p3 env he).1
  · refine hB b o (R₂.F.keep _ _ (st b o hb)) (gF b o (st b o hb)) fun env he q => ?_
    rcases List.mem_cons.mp he with rfl | he
    · rw [R₂.ff] at q
      have q := Option.some.inj q
      subst q
      exact absurd (Heap.lt_size (st _ _ hb)) (Nat.not_lt.mpr R₂.F.above)
    rw [eo] at he
    rcases List.mem_cons.mp he with rfl | he
    · rw [R.ff] at q
      have q := Option.some.inj q
      subst q
      exact absurd (Heap.lt_size hb) (Nat.not_lt.mpr R.F.above)
    · exact hne env he q
  · exact ((Heap.UpToSlots.of_keeps st).trans (Heap.UpToSlots.of_keeps R₂.F.keep)).trans f2
  · exact f2.ns (FG.ns.at fun o ho => R₂.F.keep _ _ ho)
end
end
section
section
variable {c : Cx} {n : Nat} {sc : Scope} {loc : Loc} {H : List MO}
theorem ExM.next {st : Stmt} {rest : List Stmt} (h : Ex1 c n sc st loc H fun fl loc' H' => fl = .next ∧ Keep [] H H' ∧ ExM c n sc rest loc' H') : ExM c n sc (st :: rest) loc H := by
  intro r m cs s σ os Φ E R k
  refine wpAny_execs_cons (h r m cs s σ os _ E R fun fl loc' H' fl' m' cs' h' tk' σ' os' q R' ec p f => ?_)
  refine x03 q ?_; try clear q; intro eq69 K q; subst eq69
  cases f
  exact q r m' cs' { s with heap := h', toks := tk' } σ' os' Φ E R' fun e D h₂ tk₂ m₂ cs₂ σ₂ os₂ loc₂ H₂ K₂ R₂ ec₂ p₂ => k e D h₂ tk₂ m₂ cs₂ σ₂ os₂ loc₂ H₂ (K.trans K₂) R₂ (ec₂.trans ec) (p.trans p₂)
theorem ExM.ite {t : Expr} {a b : List Stmt} {pos : Pos} {rest : List Stmt} (h : Tst c n sc t loc H fun x H₁ => x = true ∧ Keep [] H H₁ ∧ ExM c n sc a loc H₁) : ExM c n sc (.If t a b pos :: rest) loc H := by
  intro r m cs s σ os Φ E R k
  refine wpAny_execs_cons (wpAny_If (exOf (t := fun env => isTrue t env (eval t env)) h R fun x H₁ x' h₁ t₁ σ₁ os₁ q₁ R₁ p₁ v₁ => ?_))
  cases v₁
  refine x03 q₁ ?_; try clear q₁; intro eq70 K q; subst eq70
  rw [if_pos rfl]
  exact q r m cs { s with heap := h₁, toks := t₁ } σ₁ os₁ _ E R₁ fun e D h₂ tk₂ m₂ cs₂ σ₂ os₂ loc₂ H₂ K₂ R₂ ec₂ p₂ => k e D h₂ tk₂ m₂ cs₂ σ₂ os₂ loc₂ H₂ (K.trans K₂) R₂ ec₂ (p₁.trans p₂)
theorem ExM.raise (T : Tops c) (hx : excOk c.K = true) (hfo : fnOk c.K = true) (hq : c.q = true) {p cpos pos : Pos} {e : Expr} {es : List Expr} {rest : List Stmt} (h : Evs c (n + 3) sc cpos (e :: es) loc H fun vs H₁ => (∃ v2, vs = [.str symS, v2]) ∧ Keep [] H H₁)
    (hl : sc.names.lookup ("LispSignal" : Str) = some .globalImplicit := by rfl) (he : ∀ env, starEach (e :: es) env = (false, eval e env) :: starEach es env := by intro _; rfl) (hpl : ∀ env, (backTo cpos (starEach es env)).any (·.1) = false := by intro _; rfl) :
    ExM c (n + 3) sc (.Raise (some (.Call (.Name "LispSignal" p) (e :: es) [] cpos)) Option.none pos :: rest) loc H := by
  intro r m cs s σ os Φ E R k
  refine x11 (excCls_of R.Kh hx) fun mN _ => ?_
  have G := T.gl 56 rfl
  refine wpAny_execs_cons ?_
  rw [arm_exec_Raise]
  refine wpAny_bind (wpAny_standAt ?_)
  show wpAny _ _ (raiseStmt r.env (some (do let v ← eval (.Call (.Name "LispSignal" p) (e :: es) [] cpos) r.env; standAt pos; pure v)) Option.none) _ _ _
  refine exc_raiseStmt (R.hd hq) (wpAny_bind (wpAny_mono (Call_ (eval_glb R.toRel G.1 hl (by decide) (callWith_K R.toRel.K G.2 (h r m cs s σ os _ _ R.toRel fun vs H₁ vs' h₁ t₁ σ₁ os₁ q₁ R₁ p₁ v₁ => ⟨R₁.Kh, ?_⟩) (he r.env) (hpl r.env)))) (fun v s₃ h₃ => wpAny_bind (wpAny_standAt (wpAny_pure h₃))) fun _ _ x => x))
  refine x02 q₁ ?_; try clear q₁; intro hx71 K; obtain ⟨v2, rfl⟩ := hx71
  apply v₁.two'; intro a b hx1 hx2
  apply hx1.strE'; intro st
  refine exc_make T hx hfo (s := { s with heap := h₁, toks := t₁ }) R₁ fun e D h' tk' F' hN hE hap => ?_
  refine x24 hE.obj fun o t g1 g2 g3 g4 => ?_
  refine x21 hN fun eo Do N => ?_
  have R₂ := R.of (R₁.same F' fun p hp => N p (.tail _ (.tail _ hp)))
  refine x11 (excCls_of R₂.toRel.Kh hx) fun mN X => ?_
  exact i46 e o t mN rfl X g1 g2 g4 (k e D h' tk' m cs σ₁ os₁ loc H₁ K R₂ rfl p₁ hN hE hap)
theorem EvR.top (T : Tops c) (k : Nat) {x : Str} {p e es pos} {a : Addr} (hk : nth glbTable k = some (x, a)) (h : Evs c n sc pos (e :: es) loc H fun vs H₁ => Keep [] H H₁ ∧ ClR c n (.ref a) vs H₁)
    (hl : sc.names.lookup x = some .globalImplicit := by rfl) (hd : (x == ("__debug__" : Str)) = false := by decide)
    (he : ∀ env, starEach (e :: es) env = (false, eval e env) :: starEach es env := by intro _; rfl) (hpl : ∀ env, (backTo pos (starEach es env)).any (·.1) = false := by intro _; rfl) : EvR c n sc (.Call (.Name x p) (e :: es) [] pos) loc H := by
  intro r m cs s σ os Φ E R kk
  have G := T.gl k hk
  refine Call_ (eval_glb R G.1 hl hd (callWith_K R.K G.2 (h r m cs s σ os _ E R fun vs H₁ vs' h₁ t₁ σ₁ os₁ q₁ R₁ p₁ v₁ => ⟨R₁.Kh, ?_⟩) (he r.env) (hpl r.env)))
  refine q₁.2 sc r m cs { s with heap := h₁, toks := t₁ } σ₁ os₁ loc vs' _ E R₁ v₁ fun e D h' tk' F => kk e D h' tk' ?_
  obtain ⟨⟨σ', os', H', B, X⟩, up, ns⟩ := F
  exact ⟨(i41 σ' os' H' B ({ X with a1 := q₁.1.trans X.a1, a2 := p₁.trans X.a2 })), up, ns⟩
theorem ExR.assign {x px value pos} {rest : List Stmt} (h : EvR c n sc value loc H) (hs : ∀ env, swapsWith value (some (.Name x px)) pos.line env = pure false := by intro _; rfl) : ExR c n sc (.Assign [.Name x px] value pos :: rest) loc H :=
  fun r m cs s σ os Φ E R k => wpAny_execs_cons (wpAny_Assign_Name (h r m cs s σ os _ E R.toRel k) (hs r.env))
theorem ExR.tup {elts kk tp value pos} {rest : List Stmt} (h : EvR c n sc value loc H) (hs : ∀ env, swapsWithSole [.Tuple elts kk tp] value pos.line env = pure false := by intro _; rfl)
    (hw : ∀ env : Env, swappedStores [.Tuple elts kk tp] value env = pure Option.none := by intro _; rfl) : ExR c n sc (.Assign [.Tuple elts kk tp] value pos :: rest) loc H :=
  fun r m cs s σ os Φ E R k => wpAny_execs_cons (Assign_Tuple (h r m cs s σ os _ E R.toRel k) (hs r.env) (hw r.env))
theorem ExR.expr {e pos} {rest : List Stmt} (h : EvR c n sc e loc H) (hs : ∀ env, swapsWith e Option.none pos.line env = pure false := by intro _; rfl) : ExR c n sc (.Expr e pos :: rest) loc H :=
  fun r m cs s σ os Φ E R k => wpAny_execs_cons (wpAny_Expr_any (h r m cs s σ os _ E R.toRel k) (by unfold interactive; rw [R.es, R.ek]; rfl) (hs r.env))
theorem Tops.raises (T : Tops c) (k : Nat) {f : Addr} {qual : Str} {name : Str} {args : Arguments} {body : List Stmt} {sc : Scope} (ps rest : List Str) {vs : List MV} (hk : nth defTable k = some (f, qual, .none, some (name, args, body, sc))) (S : ScOk sc ps rest) (hl : ps.length = vs.length)
    (hb : ∀ kV doc pm an cdv ct, BindsAs c (fnOf name qual args body sc .none kV doc pm an cdv ct) ps vs vs) (h : ExR c n sc body (mkLoc ps vs rest) H) : ClR c (n + 1) (.ref f) vs H := def_raises (T.defAt k hk) S hl hb h
variable {ℓ : BLay} {txt : List Int} {pt zv tk ck : Int} {M : Nat}
theorem reached_raises (T : Tops c) (hx : excOk c.K = true) (hfo : fnOk c.K = true) (hq : c.q = true) {s e : Int} (B : BufS H ℓ txt pt zv tk ck M) (h1 : 1 ≤ min s e) (h2 : zv < max s e) : ClR c (n + 4) (.ref 55) [.ref ℓ.b, .int s, .int e] H := by
  refine def_raises_made (T.defAt 2 rfl) (ps := ["buffer", "start", "end"]) (rest := ["low", "high"]) (ws := [.ref ℓ.b, .int s, .int e]) ⟨rfl, rfl, rfl, rfl, by decide, by decide⟩ rfl (fun _ _ _ _ _ _ => binds3 fun _ _ _ => (by kernel_rfl)) ?_
  dsimp only [mkLoc, List.zip, List.zipWith, List.map, List.cons_append, List.nil_append]
  refine ExM.next ?_
  refine Ex1.tupS hq ["low", "high"] ?_ (hw := by intro env he; unfold swappedStores Env.kindOf Env.blockKind; rw [he]; rfl)
  repeat' walk_at "st"
  refine i37 _ _ _ rfl get_new rfl (.cons (.tail (.tail (.tail (.tail .head)))) (.cons (.tail (.tail (.tail .head))) .nil)) rfl Keep.app ?_
  have B' := B.app (l := [.tuple [.int (min s e), .int (max s e)]])
  refine ExM.ite ?_
  repeat' walk_at "st"
  refine ⟨fun h => ?_, fun h => (by have : min s e < 1 := by simpa using h
                                    lia)⟩
  refine Run.or1 ?_
  repeat' walk_at "st"
  refine i03 (by simpa using h2) Keep.refl ?_
  refine ExM.raise T hx hfo hq ?_
  repeat' walk_at "st"
  exact ⟨⟨_, rfl⟩, Keep.app⟩
theorem span_raises (T : Tops c) (hx : excOk c.K = true) (hfo : fnOk c.K = true) (hq : c.q = true) {s e : Int} (B : BufS H ℓ txt pt zv tk ck M) (h1 : 1 ≤ min s e) (h2 : zv < max s e) : ClR c (n + 5) (.ref 307) [.ref ℓ.b, .int s, .int e, .int 4] H := by
  refine T.raises 36 ["buffer", "start", "end", "tab"] ["one", "other", "low", "high", "columns"] rfl ⟨rfl, rfl, rfl, rfl, by decide, by decide⟩ rfl (fun _ _ _ _ _ _ => binds4 fun _ _ _ _ => (by kernel_rfl)) ?_
  dsimp only [mkLoc, List.zip, List.zipWith, List.map, List.cons_append, List.nil_append]
  refine ExR.tup (EvR.top T 1 rfl ?_)
  repeat' walk_at "st"
  exact ⟨Keep.refl, reached_raises T hx hfo hq B h1 h2⟩
theorem extract_raises (T : Tops c) (hx : excOk c.K = true) (hfo : fnOk c.K = true) (hq : c.q = true) {s e : Int} (B : BufS H ℓ txt pt zv tk ck M) (h1 : 1 ≤ min s e) (h2 : zv < max s e) : ClR c (n + 6) (.ref 319) [.ref ℓ.b, .int s, .int e, .int 4] H := by
  refine T.raises 38 ["buffer", "start", "end", "tab"] ["span"] rfl ⟨rfl, rfl, rfl, rfl, by decide, by decide⟩ rfl (fun _ _ _ _ _ _ => binds4 fun _ _ _ _ => (by kernel_rfl)) ?_
  dsimp only [mkLoc, List.zip, List.zipWith, List.map, List.cons_append, List.nil_append]
  refine ExR.assign (EvR.top T 34 rfl ?_)
  repeat' walk_at "st"
  exact ⟨Keep.refl, span_raises T hx hfo hq B h1 h2⟩
theorem kill_raises (T : Tops c) (hx : excOk c.K = true) (hfo : fnOk c.K = true) (hq : c.q = true) {s e : Int} (B : BufS H ℓ txt pt zv tk ck M) (h1 : 1 ≤ min s e) (h2 : zv < max s e) : ClR c (n + 7) (.ref 331) [.ref ℓ.b, .int s, .int e, .int 4] H := by
  refine T.raises 40 ["buffer", "start", "end", "tab"] ["found"] rfl ⟨rfl, rfl, rfl, rfl, by decide, by decide⟩ rfl (fun _ _ _ _ _ _ => binds4 fun _ _ _ _ => (by kernel_rfl)) ?_
  dsimp only [mkLoc, List.zip, List.zipWith, List.map, List.cons_append, List.nil_append]
  refine ExR.assign (EvR.top T 36 rfl ?_)
  repeat' walk_at "st"
  exact ⟨Keep.refl, extract_raises T hx hfo hq B h1 h2⟩
end
end
section
theorem nodup_key : ∀ {l : Loc} {y : Str} {u : MV}, (l.map (·.1)).Nodup → (y, Option.none) ∈ l → (y, some u) ∈ l → False
  | (z, w) :: l, y, u, nd, h1, h2 => by
    rw [List.map_cons, List.nodup_cons] at nd
    rcases List.mem_cons.mp h1 with e1 | h1'
    · rcases List.mem_cons.mp h2 with e2 | h2'
      · rw [← e1] at e2; cases e2
      · cases e1; exact nd.1 (List.mem_map.mpr (i12 _ h2' rfl))
    · rcases List.mem_cons.mp h2 with e2 | h2'
      · cases e2; exact nd.1 (List.mem_map.mpr (i12 _ h1' rfl))
      · exact nodup_key nd.2 h1' h2'
section
variable {c : Cx} {n : Nat} {sc : Scope} {r : RR} {m : Str → Option Value} {cs : Led} {σ : List Addr} {os : List Obj} {loc : Loc} {H : List MO}
noncomputable def quiet (c : Cx) : Cx := { c with q := false }
noncomputable def slotted (sl : Array (Option Value)) (o : Obj) : Obj := { o with slots := sl }
theorem slotted_freed (sl : Array (Option Value)) (o : Obj) : (slotted sl o).isFreed = o.isFreed := by
  obtain ⟨a, b, d, e⟩ := o; cases d <;> rfl
theorem Ns.slotted {h : Heap} {a Lo : Addr} {m : Str → Option Value} {sl : Array (Option Value)} (hn : h.Ns a m) : (h.update Lo (slotted sl)).Ns a m := by
  refine x34 hn ?_; try clear hn; intro o es ep ho hd hs hf
  by_cases e : a = Lo
  · subst e
    exact i34 (Mine.slotted sl o) es ep (Heap.get?_update_self _ ho ((slotted_freed sl o).trans (Heap.get?_some_iff.mp ho).2)) hd hs hf
  · exact i34 o es ep ((Heap.get?_update_other _ _ (Ne.symm e)).trans ho) hd hs hf
/-- what the catching frame stands on, behind the catch -/
theorem catch_rel {h₁ : Heap} (R : RelF c n sc r m cs h₁ σ os loc H) {fe : Env} {Lo : Addr} (ho : r.outer = [fe]) (hfo : fe.frame = some Lo) {hb : Heap} (hK : c.K.In hb) (hT : Top c.p c.loose c.mean c.mg c.mb hb) (hscr : ∃ vs, hb.IsList c.sl vs.toArray ∧ IntsAre vs c.ns)
    (st : hb.StaysIn r.h₀) (hbn : hb.get? Lo = Option.none) {σ' : List Addr} {os' : List Obj} {H' : List MO} {B h : Heap} {x : Option Value} (a2 : σ <+: σ') (a3 : All2 (OR c.sl σ') H' os') (a4 : os'.length = σ'.length) (a5 : ((cs ++ r.X).map (·.1) ++ σ').Nodup)
    (a6 : ∀ p ∈ (cs ++ r.X) ++ σ'.zip os', p.1 ≠ r.L ∧ r.h₀.get? p.1 = Option.none ∧ B.get? p.1 = some p.2) (BH : B.StaysIn h) (up : r.h₀.UpToSlots h) (ns : h.Ns r.L m)
    (a10 : ∀ b o, r.h₀.get? b = some o → (∀ env ∈ r.outer, env.frame ≠ some b) → B.get? b = some o) :
    ∃ sl, (r.h₀.update Lo (slotted sl)).StaysIn h ∧ (∀ b, r.h₀.get? b = Option.none → (r.h₀.update Lo (slotted sl)).get? b = Option.none) ∧ hb.StaysIn (r.h₀.update Lo (slotted sl)) ∧ RelF (quiet c) n sc { r with A := r.A.mark x, h₀ := r.h₀.update Lo (slotted sl) } m cs h σ' os' loc H' := by
  have fr₀ := R.B.frames
  rw [ho] at fr₀
  refine x03 fr₀ ?_; try clear fr₀; intro k0 hx24 _; obtain ⟨L₁, oL, f1, f2, f3, f4⟩ := hx24
  rw [hfo] at f1; cases f1
  refine x11 (up Lo oL f3 f4) fun sl hsl => ?_
  have none' : ∀ b, r.h₀.get? b = Option.none → (r.h₀.update Lo (slotted sl)).get? b = Option.none := fun b hb' => by
    by_cases e : b = Lo
    · rw [e, f3] at hb'; cases hb'
    · exact (Heap.get?_update_other _ _ (Ne.symm e)).trans hb'
  have other : ∀ b o, r.h₀.get? b = some o → b ≠ Lo → (r.h₀.update Lo (slotted sl)).get? b = some o := fun b o ho' e => (Heap.get?_update_other _ _ (Ne.symm e)).trans ho'
  have self : (r.h₀.update Lo (slotted sl)).get? Lo = some (slotted sl oL) := Heap.get?_update_self _ f3 ((slotted_freed sl oL).trans (Heap.get?_some_iff.mp f3).2)
  have stb : hb.StaysIn (r.h₀.update Lo (slotted sl)) := fun b o e => other b o (st b o e) fun q => by rw [q, hbn] at e; cases e
  have keep : (r.h₀.update Lo (slotted sl)).StaysIn h := fun b o e => by
    by_cases q : b = Lo
    · subst q
      rw [self] at e; cases e
      exact hsl
    · rw [Heap.get?_update_other _ _ (Ne.symm q)] at e
      exact BH _ _ (a10 b o e fun env he q' => by
        rw [ho, List.mem_singleton] at he
        subst he
        rw [hfo] at q'
        exact q (Option.some.inj q').symm)
  have size : (r.h₀.update Lo (slotted sl)).objs.size = r.h₀.objs.size := by
    cases hh : r.h₀; simp [Heap.update]
  refine i14 sl keep none' stb ?_
  refine { fr := R.fr, ff := R.ff, fk := R.fk, dep := R.dep, un := R.un, hd := (fun q => by cases q), B := ⟨R.B.stack, fun b o e => other b o (R.B.stays b o e) (fun q => by rw [q, f2] at e; cases e), ?_⟩, F := ⟨ns, keep, by rw [size]; exact R.F.above⟩, K := hK.keeps stb, T := hT.keeps stb, scr := ?_, N := ⟨fun p hp => ?_, a3, a4, a5⟩, es := R.es, ek := R.ek, eg := R.eg, eb := R.eb, vars := fun y v hy => ?_, nd := R.nd, ef := R.ef, el := R.el, slots := R.slots, cinj := R.cinj }
  · refine R.B.frames.of_keeps fun b o hb' hnf => ?_
    by_cases q : b = Lo
    · subst q
      rw [f3] at hb'; cases hb'
      exact i12 _ self rfl
    · exact i12 o (other b o hb' q) rfl
  · refine x12 hscr ?_; try clear hscr; intro vs' h1 h2
    exact i12 vs' (stays_list stb h1) h2
  · refine x03 (a6 p hp) fun b1 b2 b3 => ?_
    exact i03 (BH _ _ b3) b1 (none' _ b2)
  · refine x12 (R.vars y v hy) fun v' h1 h2 => ?_
    exact i12 v' (h1.mono a2) h2
theorem Tops.quiet (T : Tops c) : Tops (quiet c) := { tups := T.tups, defs := T.defs, codes := T.codes, glb := T.glb, blt := T.blt, nums := T.nums, cls := T.cls, makes := T.makes, fld := T.fld, mth := T.mth }
theorem ex1Of {st : Stmt} {Q : PostF} {s : Shared} {Φ : Flow → Shared → Prop} {E : Value → Shared → Prop} (h : Ex1 c n sc st loc H Q) (R : RelF c n sc r m cs s.heap σ os loc H)
    (k : ∀ fl loc' H' fl' m' cs' h' tk' σ' os', Q fl loc' H' → RelF c n sc r m' cs' h' σ' os' loc' H' → cs'.map (·.1) = cs.map (·.1) → σ <+: σ' → FlR c.sl σ' fl fl' → Φ fl' { s with heap := h', toks := tk' }) : wpAny (model c.prog c.w) r.A (exec st r.env) Φ E s := h r m cs s σ os Φ E R k
/-- a value that no law of ours looks at, stored -/
theorem store_out {x : Str} {v' : Value} {h' : Heap} {h : Heap} (R : RelF c n sc r m cs h σ os loc H) (hx : (x, Option.none) ∈ loc) (hn : h'.Ns r.L (fun y => if y = x then some v' else m y)) (hs : Heap.SameBut r.L h h') :
    RelF c n sc r (fun y => if y = x then some v' else m y) cs h' σ os loc H := by
  have F' := R.F.set hn hs
  have N' := R.N.of_news (R.N.news.set hs)
  refine { toRel := { R.toRel with F := F', N := N', vars := fun y u hy => ?_ }, ef := R.ef, el := R.el, slots := R.slots, cinj := R.cinj }
  refine x12 (R.vars y u hy) fun u' hu ha => ?_
  refine i12 u' hu ?_
  have hne : y ≠ x := fun e => by
    subst e
    exact nodup_key R.nd hx hy
  rcases ha with ⟨ky, ⟨e1, e2⟩ | hd⟩ | hc
  · exact .inl ⟨ky, .inl ⟨e1, by simpa [hne] using e2⟩⟩
  · exact .inl ⟨ky, .inr hd⟩
  · exact .inr hc
end
end
section
noncomputable def refLoc (b : Nat) (one other : Int) (o : Option MV) : Loc := [("buffer", some (.ref b)), ("one", some (.int one)), ("other", some (.int other)), ("before", o), ("signal_here", Option.none)]
section
variable {c : Cx} {n : Nat} {sc : Scope} {r : RR} {m : Str → Option Value} {cs : Led} {s : Shared} {σ : List Addr} {os : List Obj} {loc : Loc} {H : List MO} {ℓ : BLay} {txt : List Int} {pt zv tk ck : Int} {M : Nat}
theorem exROf {b : List Stmt} {Φ : Flow → Shared → Prop} {E : Value → Shared → Prop} (h : ExR c n sc b loc H) (R : RelF c n sc r m cs s.heap σ os loc H)
    (k : ∀ e D h' tk', Flown c r m cs H σ h' e D → E (.ref e) { s with heap := h', toks := tk' }) : wpAny (model c.prog c.w) r.A (execs b r.env) Φ E s := h r m cs s σ os Φ E R k
theorem evOf {e : Expr} {Q : Post MV} {Φ : Value → Shared → Prop} {E : Value → Shared → Prop} (h : Ev c n sc e loc H Q) (R : Rel c n sc r m cs s.heap σ os loc H)
    (k : ∀ v H' v' h' tk' σ' os', Q v H' → Rel c n sc r m cs h' σ' os' loc H' → σ <+: σ' → VR c.sl σ' v v' → Φ v' { s with heap := h', toks := tk' }) : wpAny (model c.prog c.w) r.A (eval e r.env) Φ E s := h r m cs s σ os Φ E R k
theorem eqsOf {a b : Str} {t u : Tok} {Φ : Value → Shared → Prop} {E : Value → Shared → Prop} (R : Rel c n sc r m cs s.heap σ os loc H)
    (k : ∀ h' tk' σ' os', Rel c n sc r m cs h' σ' os' loc H → σ <+: σ' → Φ (.bool (a == b)) { s with heap := h', toks := tk' }) : wpAny (model c.prog c.w) r.A (compareOp .Eq (.str a t) (.str b u)) Φ E s :=
  (Cmp.eqs (c := c) (n := n) (a := a) (b := b) (Q := fun v H' => v = (a == b) ∧ H' = H) (H := H) ⟨rfl, rfl⟩) sc r m cs s σ os loc [.str a t, .str b u] Φ E R (.cons (.str _ _) (.cons (.str _ _) .nil)) fun v H' v' h' tk' σ' os' q R' p e => by
    refine x02 q ?_; try clear q; intro eq18 eq19; subst eq18; subst eq19
    subst e
    exact k h' tk' σ' os' R' p
theorem ExcCls.same {M : Model} {A : Around} {E : Value → Shared → Prop} {h : Heap} {g : Array GenState} {d : Drawn} {t : Nat} {os : OsState} {mN : Str → Option Value} {e : Addr} {oe : Obj} {Q : Bool → Shared → Prop} (X : ExcCls h mN) (he : h.get? e = some oe) (hcls : oe.cls = .ref 38)
    (hq : Q true ⟨h, g, d, t, os⟩) : wpAny M A (excMatches (.ref e) (.ref 38)) Q E ⟨h, g, d, t, os⟩ := by
  refine x51 X.cls fun nm q bs sn sub ht20 => ?_; refine x51 ht20 ?_; clear ht20; intro ab col dd k0 k1 ht21; refine x31 ht21 ?_; clear ht21; intro k2 k3 k5 hC
  exact wpAny_excMatches_sub_self hC he hcls (by decide) hq
theorem ExcCls.load {p : Program} {w : World} {A : Around} {E : Value → Shared → Prop} {h : Heap} {g : Array GenState} {d : Drawn} {t : Nat} {os : OsState} {mN mA : Str → Option Value} {x D : Addr} {o : Obj} {sv : Str} {st : Tok} {ex : Bool} {Q : Value → Shared → Prop} (X : ExcCls h mN)
    (hx : h.get? x = some o) (hc : o.cls = .ref 38) (hnc : ∀ c, o.data ≠ .cls c) (hd : o.dict = some D) (hD : h.Ns D mA) (hv : mA "symbol" = some (.str sv st)) (hq : Q (.str sv st) ⟨h, g, d, t + 1, os⟩) :
    wpAny (model p w) A (getAttr (.ref x) "symbol" ex) Q E ⟨h, g, d, t, os⟩ := by
  refine x51 X.cls fun nm q bs sn sub ht22 => ?_; refine x51 ht22 ?_; clear ht22; intro ab col dd k0 k1 ht23; refine x31 ht23 ?_; clear ht23; intro k2 k3 k5 hC
  exact exc_load hC X.ns X.symbol X.ga X.gg lk_symbol hx hc hnc hd hD hv hq
theorem refused_call (T : Tops c) (hx : excOk c.K = true) (hfo : fnOk c.K = true) (hq : c.q = true) {one other : Int} (B : BufS H ℓ txt pt zv tk ck M) (hM : M ≤ 400) (hl : txt.length ≤ 400) (h1 : 1 ≤ min one other) (h2 : zv < max one other) {as : List Value} {Φ : Value → Shared → Prop} {E : Value → Shared → Prop}
    (R : Rel c (n + 8) sc r m cs s.heap σ os loc H) (ho : r.outer = []) (ha : All2 (VR c.sl σ) [.ref ℓ.b, .int one, .int other] as)
    (k : ∀ H' h' tk' σ' os', Keep [] H H' → Rel c (n + 8) sc r m cs h' σ' os' loc H' → σ <+: σ' → Φ (.bool true) { s with heap := h', toks := tk' }) :
    wpAny (model c.prog c.w) r.A (call (.ref 738) as) Φ E s := by
  refine wpAny_call (def_enter (ps := ["buffer", "one", "other"]) (rest := ["before", "signal_here"]) (ws := [.ref ℓ.b, .int one, .int other]) (T.defAt 77 rfl) ⟨rfl, rfl, rfl, rfl, by decide, by decide⟩ rfl (fun _ _ _ _ _ _ => binds3 fun _ _ _ => (by kernel_rfl)) R ha fun r' m' cells h₁ tk₁ R' eA eb eo eX FG st eAd ek => ?_)
  dsimp only [mkLoc, List.zip, List.zipWith, List.map, List.cons_append, List.nil_append] at R'
  refine wpAny_execs_cons (ex1Of (s := { s with heap := h₁, toks := tk₁ }) (Q := fun fl loc' H' => fl = .next ∧ ∃ k₁, loc' = refLoc ℓ.b one other (some (.ref k₁)) ∧ Keep [] H H' ∧ IsI H' k₁ txt) ?_ R' fun fl loc₂ H₂ fl' m₂ cs₂ h₂ tk₂ σ₂ os₂ q₂ R₂ ec₂ p₂ f₂ => ?_)
  · repeat' walk_at "st"
    refine Ev.meth T 15 rfl (by decide) ?_
    repeat' walk_at "st"
    refine i35 _ _ _ rfl B.inst B.ns (by kernel_rfl) ?_
    repeat' walk_at "st"
    refine Ev.meth0 T 13 rfl (by decide) ?_
    repeat' walk_at "st"
    refine i35 _ _ _ rfl B.inst B.ns (by kernel_rfl) ?_
    refine buf_size T B (by lia) ?_
    repeat' walk_at "st"
    refine buf_codes (a := 1) (b := txt.length + 1) T B (by lia) (by lia) (by lia) (by lia) fun k₃ H₃ K₃ f₃ h₃ => ?_
    repeat' walk_at "st"
    simp only [Nat.sub_self, List.drop_zero, Nat.add_sub_cancel, List.take_length] at h₃
    exact And.intro rfl (i13 k₃ rfl K₃ h₃)
  refine x02 q₂ ?_; try clear q₂; intro eq24 ht25; subst eq24; refine x13 ht25 ?_; clear ht25; intro k₁ eq26 K₂ i₂; subst eq26
  cases f₂
  dsimp only
  have B₂ := B.keep K₂
  have hbn : r.h₀.get? r.L = Option.none := by
    cases q : r.h₀.get? r.L with
    | none => rfl
    | some o => exact absurd (Nat.lt_of_lt_of_le (Heap.lt_size q) R.F.above) (Nat.lt_irrefl _)
  have ho' : r'.outer = [r.fenv] := by rw [eo, ho]
  refine wpAny_execs_cons (wpAny_Try_except (exROf (s := { s with heap := h₂, toks := tk₂ }) ?_ R₂ fun e D h₃ tk₃ F => ?_))
  · refine ExR.expr (EvR.top T 38 rfl ?_)
    unfold refLoc
    repeat' walk_at "st"
    exact ⟨Keep.refl, kill_raises T hx hfo hq B₂ h1 h2⟩
  obtain ⟨⟨σ', os', H', BB, a1, a2, a3, a4, a5, a6, a7, a8, ⟨mA, stk, a9, a9'⟩, a10⟩, up, ns⟩ := F
  have hDL : BB.get? r'.L = Option.none := (a7.2.2.1.mem (List.mem_filterMap.mpr (i12 r'.fenv (.head _) R₂.ff))).1
  refine fly_note (s := { s with heap := h₃, toks := tk₃ }) (L := r'.L) (by rw [R₂.ef]; exact R₂.fr) (by rw [R₂.ef]; exact R₂.ff) (by rw [R₂.ef]; exact a7) fun h₄ N₄ => ?_
  refine x04 N₄ ?_; try clear N₄; intro n1 n2 n3 n4
  refine fly_setFlight (s := { s with heap := h₄, toks := tk₃ }) n1 n2 n3 fun h₅ s1 s2 s3 s4 => ?_
  have u₅ := (up.trans n4).trans s4
  refine x14 (catch_rel (x := some (.ref e)) R₂ ho' R.ff R.K R.T R.scr st hbn a2 a3 a4 a5 a6 s1 u₅ (s4.ns (n4.ns ns)) a10) fun sl kp₅ no₅ st₅ R₅ => ?_
  refine wpAny_handleBy_cons (codeAny_handlers_test ?_) (by intro q; cases q)
  refine eval_glb (s := { s with heap := h₅, toks := tk₃ }) R₅.toRel (T.gl 56 rfl).1 rfl (by decide) ?_
  refine x11 (excCls_of R₅.toRel.Kh hx) fun mN X₅ => ?_
  refine x54 s3 fun oe vs Tb oT ts he hx27 hd hr => ?_; obtain ⟨hcls, hdc⟩ := hx27
  refine X₅.same he hcls ?_
  refine codeAny_handlers_suite_as ?_
  refine fly_again (s := { s with heap := h₅, toks := tk₃ }) (B := BB) (i04 s1 a7.2.1 s2 s3) fun h₆ g1 g2 => ?_
  refine x14 (catch_rel (x := some (.ref e)) R₂ ho' R.ff R.K R.T R.scr st hbn a2 a3 a4 a5 a6 g1.1 (u₅.trans g2) (g2.ns (s4.ns (n4.ns ns))) a10) fun sl₆ kp₆ no₆ st₆ R₆ => ?_
  refine x54 g1.2.2.2 fun oe₆ vs₆ Tb₆ oT₆ ts₆ he₆ hx28 hd₆ hr₆ => ?_; obtain ⟨hcls₆, hdc₆⟩ := hx28
  have heL : e ≠ r'.L := fun q => by
    refine x33 R₆.toRel.F.ns fun o _ _ ho hdd _ => ?_
    have ho : h₆.get? r'.L = some o := ho
    rw [← q, he₆] at ho; cases ho; rw [hd₆] at hdd; cases hdd
  have eL : r'.env.locals = r'.L := R₂.el
  have ek' : r'.env.scope.kind = .function := by rw [R₂.ef]; exact ek
  have kSig : r'.env.kindOf "signal_here" = some .local := by show r'.env.scope.names.lookup _ = _; rw [R₂.es]; rfl
  refine wpAny_storeName_local (s := { s with heap := h₆, toks := tk₃ }) kSig (by rw [eL]; exact R₆.toRel.F.ns) (fun h₇ hn hs => ?_) (by rw [ek']; rfl)
  rw [eL] at hn hs
  have R₇ := store_out R₆ (x := "signal_here") (v' := .ref e) (by unfold refLoc; simp) hn hs
  refine x11 (excCls_of R₇.toRel.Kh hx) fun mN₇ X₇ => ?_
  have hDr : D ≠ r'.L := fun q => by
    refine x32 a9 ?_; try clear a9; intro o _ _ ho _
    rw [q, hDL] at ho; cases ho
  refine wpAny_execs_cons (wpAny_Return_some (BoolOp_and (wpAny_Compare1 (Attribute_any_ (wpAny_Name (wpAny_loadName_local ek' kSig (by rw [eL]; exact hn) (if_pos rfl) ?_))))))
  refine X₇.load ((hs.2 e heL).trans he₆) hcls₆ (by intro c hc; rw [hd₆] at hc; cases hc) hdc₆ ((a9.keeps g1.1).sameBut hs hDr) a9' ?_
  refine Calls.Constant_str ?_
  refine eqsOf (s := { s with heap := h₇, toks := _ }) R₇.toRel fun h₈ tk₈ σ₈ os₈ R₈ p₈ => ?_
  refine wpAny_truthy_bool ?_
  rw [if_pos (by decide)]
  have TQ := T.quiet
  have B' := B₂.keep a1
  refine evOf (s := { s with heap := h₈, toks := tk₈ }) (Q := fun v H'' => v = .bool true ∧ Keep [] H' H'') ?_ R₈ fun v H₉ v' h₉ tk₉ σ₉ os₉ q₉ R₉ p₉ rv => ?_
  · refine Ev.bool1 ?_
    unfold refLoc
    refine Ev.cmp ?_
    refine Ev.meth TQ 15 rfl (by decide) ?_
    repeat' walk_at "st"
    refine i35 _ _ _ rfl B'.inst B'.ns (by kernel_rfl) ?_
    repeat' walk_at "st"
    refine Ev.meth0 TQ 13 rfl (by decide) ?_
    repeat' walk_at "st"
    refine i35 _ _ _ rfl B'.inst B'.ns (by kernel_rfl) ?_
    refine buf_size TQ B' (by lia) ?_
    repeat' walk_at "st"
    refine buf_codes (a := 1) (b := txt.length + 1) TQ B' (by lia) (by lia) (by lia) (by lia) fun k₃ H₃ K₃ f₃ h₃ => ?_
    simp only [Nat.sub_self, List.drop_zero, Nat.add_sub_cancel, List.take_length] at h₃
    repeat' walk_at "st"
    refine Cmp.eqI h₃ (i₂.keep (a1.trans K₃)) ?_
    exact ⟨by simp, K₃⟩
  refine x02 q₉ ?_; try clear q₉; intro eq29 K₉; subst eq29
  cases rv
  refine wpAny_nameGoes_keeps (s := { s with heap := h₉, toks := tk₉ }) kSig (by rw [eL]; exact R₉.F.ns) (by rw [ek']; rfl) fun h₁₀ vv hn' hs' => ?_
  rw [eL] at hn' hs'
  have F₁₀ := R₉.F.set hn' hs'
  have N₁₀ := R₉.N.news.set hs'
  have hgL := Ns.slotted (Lo := r.L) (sl := sl₆) FG.ns
  refine k H₉ h₁₀ _ σ₉ os₉ ((K₂.trans a1).trans K₉) (R.next ⟨hgL.keeps F₁₀.keep, fun b o e => F₁₀.keep b o (st₆ b o e), R.F.above⟩ ⟨fun p hp => ?_, R₉.N.objs, R₉.N.len, ?_⟩ ?_) ?_
  · have hp' : p ∈ (cs₂ ++ r'.X) ++ σ₉.zip os₉ := by rw [eX, List.append_assoc]; exact List.mem_append_right _ hp
    refine x03 (N₁₀ p hp') fun b1 b2 b3 => ?_
    refine i03 b1 (fun q => ?_) ?_
    · refine x32 hgL ?_; try clear hgL; intro o _ _ ho _
      have b3 : (r'.h₀.update r.L (slotted sl₆)).get? p.1 = Option.none := b3
      rw [q, ho] at b3; cases b3
    · cases q : r.h₀.get? p.1 with
      | none => rfl
      | some o =>
        have b3 : (r'.h₀.update r.L (slotted sl₆)).get? p.1 = Option.none := b3
        rw [st₆ _ _ q] at b3; cases b3
  · have nd := R₉.N.nd
    have nd : ((cs₂ ++ r'.X).map (·.1) ++ σ₉).Nodup := nd
    rw [eX, List.map_append, List.append_assoc, List.nodup_append] at nd
    exact nd.2.1
  · exact (((p₂.trans a2).trans p₈).trans p₉)
  · exact (((p₂.trans a2).trans p₈).trans p₉)
end
end
section
/-- rows that stand ahead of the buffer, and are none of the deck -/
noncomputable def IsRb (kd b : Nat) (H : List MO) (k : Nat) (rows : List (List Int)) : Prop := ∃ ks : List Nat, H[k]? = some (.list (ks.map .ref)) ∧ All2 (IsI H) ks rows ∧ ∀ j ∈ k :: ks, j ≠ kd ∧ j < b
theorem IsRb.keep {kd b k : Nat} {F : List Nat} {H H' : List MO} {rows : List (List Int)} (h : IsRb kd b H k rows) (K : Keep F H H') (hF : ∀ j ∈ F, j = kd ∨ b ≤ j) : IsRb kd b H' k rows := by
  refine x13 h ?_; try clear h; intro ks e all no
  have off : ∀ j ∈ k :: ks, j ∉ F := fun j hj q => by
    have := no j hj
    rcases hF j q with h | h <;> lia
  exact ⟨ks, K.get (off k (.head _)) e, all2_keep all K fun j hj => off j (.tail _ hj), no⟩
theorem IsRb.isR {kd b k : Nat} {H : List MO} {rows : List (List Int)} (h : IsRb kd b H k rows) : IsR H k rows := by
  refine x13 h ?_; try clear h; intro ks e all _
  exact ⟨ks, e, all⟩
section
variable {c : Cx} {n : Nat} {sc : Scope} {loc : Loc} {H : List MO}
theorem CompL.rowsF {x : Str} {elt : Expr} {k : Nat} {rows : List (List Int)} {ks : List Nat} {l : Loc} {o : Option MV} {R : List MO → Prop} (f : List Int → List Int) (hz : rows.length ≤ 900) (hk : H[k]? = some (.list (ks.map .ref))) (all : All2 (IsI H) ks rows)
    (step : ∀ j row H', Keep [] H H' → row ∈ rows → IsI H' j row → Ev c n sc elt ((x, some (.ref j)) :: l) H' fun w H₂ => ∃ j', w = .ref j' ∧ Keep [] H' H₂ ∧ H'.length ≤ j' ∧ IsI H₂ j' (f row))
    (fin : ∀ H' js, Keep [] H H' → H'[H.length]? = some (.list (js.map .ref)) → All2 (IsI H') js (rows.map f) → (∀ j ∈ H.length :: js, H.length ≤ j) → R H') : CompL c n sc x elt [] (fun H => H[k]? = some (.list (ks.map .ref))) H.length R (ks.map .ref) [] ((x, o) :: l) (H ++ [.list []]) := by
  refine CompL.inv (fun i acc H' => i ≤ rows.length ∧ Keep [] H H' ∧ ∃ js : List Nat, acc = js.map .ref ∧ All2 (IsI H') js ((rows.take i).map f) ∧ ∀ j ∈ js, H.length < j) _ ?_ ?_ get_new ⟨Nat.zero_le _, Keep.app, [], rfl, by simp; exact .nil, by simp⟩
  · intro i v acc H' hv hD ⟨hi, K, js, ha, hjs, hne⟩
    rw [List.getElem?_map, Option.map_eq_some_iff] at hv
    refine x12 hv ?_; try clear hv; intro j hj eq77; subst eq77
    refine x12 (all.get hj) fun row hrow hr => ?_
    have hir : i < rows.length := (List.getElem?_eq_some_iff.mp hrow).1
    have hjl : j < H.length := hr.lt
    refine Ifs.nil ⟨fun _ => ?_, fun h => (by cases h)⟩
    refine Run.mono (step j row H' K (List.mem_of_getElem? hrow) (hr.keep K)) fun w H₂ ⟨j', ew, K₂, hf, hj'⟩ => ?_
    subst ew; subst ha
    have hD₂ := K₂.get0 hD
    have hlen : (js.map MV.ref).length ≤ 900 := by
      have := hjs.length
      simp at this ⊢; lia
    have hHl : H.length < H'.length := get_lt hD
    have hlt' : H.length < j' := by lia
    refine ⟨hD₂, hlen, ?_, hir, (K.trans K₂).setNew (Nat.le_refl _), js ++ [j'], by simp, ?_, ?_⟩
    · exact get_set_ne (by have := get_lt hk; lia) (K₂.get0 (K.get0 hk))
    · rw [take_snoc hrow, List.map_append]
      exact (all2_set (all2_keep hjs K₂ (by simp)) fun j hj => by have := hne j hj; lia).append (.cons (get_set_ne (by lia) hj') .nil)
    · intro a ha
      rcases List.mem_append.mp ha with ha | ha
      · exact hne a ha
      · simp at ha; rw [ha]; exact hlt'
  · intro acc H' hD hr72
    refine x03 hr72 ?_; try clear hr72; intro hi K ht78; refine x13 ht78 ?_; clear ht78; intro js eq79 hjs hne; subst eq79
    have e : (ks.map MV.ref).length = rows.length := by have := all.length; simpa using this
    rw [e, List.take_length] at hjs
    refine fin H' js K hD hjs fun j hj => ?_
    rcases List.mem_cons.mp hj with rfl | hj
    · exact Nat.le_refl _
    · exact Nat.le_of_lt (hne j hj)
end
set_option genInjectivity false in
/-- the law's own locals -/
structure LV where
  deck : Option MV := Option.none
  signs : Option MV := Option.none
  lines : Option MV := Option.none
  codes : Option MV := Option.none
  one : Option MV := Option.none
  other : Option MV := Option.none
  top : Option MV := Option.none
  first : Option MV := Option.none
  bottom : Option MV := Option.none
  last : Option MV := Option.none
  low : Option MV := Option.none
  high : Option MV := Option.none
  grids : Option MV := Option.none
  due : Option MV := Option.none
  buffer : Option MV := Option.none
  word : Option MV := Option.none
  many : Option MV := Option.none
  left : Option MV := Option.none
  turn : Option MV := Option.none
  told : Option MV := Option.none
noncomputable def LV.loc (v : LV) : Loc := [("script", some .script), ("deck", v.deck), ("signs", v.signs), ("lines", v.lines), ("codes", v.codes), ("one", v.one), ("other", v.other), ("top", v.top), ("first", v.first), ("bottom", v.bottom), ("last", v.last), ("low", v.low), ("high", v.high),
  ("grids", v.grids), ("due", v.due), ("buffer", v.buffer), ("word", v.word), ("many", v.many), ("left", v.left), ("turn", v.turn), ("told_here", v.told)]
section
variable {c : Cx} {n : Nat} {sc : Scope} {loc : Loc} {H : List MO}
/-- statements of a frame that stands on the ground alone -/
noncomputable def ExO (c : Cx) (n : Nat) (sc : Scope) (b : List Stmt) (loc : Loc) (H : List MO) (Q : PostF) : Prop :=
  ∀ (r : RR) (m : Str → Option Value) (cs : Led) (s : Shared) (σ : List Addr) (os : List Obj) (Φ : Flow → Shared → Prop) (E : Value → Shared → Prop),
    RelF c n sc r m cs s.heap σ os loc H → r.outer = [] →
    KF c n sc r cs s σ Q Φ →
    wpAny (model c.prog c.w) r.A (execs b r.env) Φ E s
noncomputable def SeqO (c : Cx) (n : Nat) (sc : Scope) (rest : List Stmt) (Q : PostF) : PostF := fun fl loc H => match fl with
  | .next => ExO c n sc rest loc H Q
  | fl => Q fl loc H
theorem ExO.cons {st rest} {Q : PostF} (h : Ex1 c n sc st loc H (SeqO c n sc rest Q)) : ExO c n sc (st :: rest) loc H Q := by
  intro r m cs s σ os Φ E R ho k
  refine wpAny_execs_cons (h r m cs s σ os _ E R fun fl loc' H' fl' m' cs' h' tk' σ' os' q R' ec p f => ?_)
  cases f with
  | next => exact q r m' cs' _ σ' os' Φ E R' ho fun fl l2 H2 fl2 m2 cs2 h2 tk2 σ2 os2 q2 R2 ec2 p2 f2 => k fl l2 H2 fl2 m2 cs2 h2 tk2 σ2 os2 q2 R2 (ec2.trans ec) (p.trans p2) f2
  | brk => exact k _ _ _ _ m' cs' h' tk' σ' os' q R' ec p .brk
  | cont => exact k _ _ _ _ m' cs' h' tk' σ' os' q R' ec p .cont
  | ret hv => exact k _ _ _ _ m' cs' h' tk' σ' os' q R' ec p (.ret hv)
theorem SeqO.next {rest : List Stmt} {Q : PostF} (h : ExO c n sc rest loc H Q) : SeqO c n sc rest Q .next loc H := h
theorem Ex1.assignS {x px value pos} {Q : PostF} (h : Ev c n sc value loc H fun v H₁ => ∃ loc', Put loc x v loc' ∧ Q .next loc' H₁)
    (hs : ∀ env : Env, env.scope = sc → swapsWith value (some (.Name x px)) pos.line env = pure false) : Ex1 c n sc (.Assign [.Name x px] value pos) loc H Q := by
  intro r m cs s σ os Φ E R k
  refine wpAny_Assign_Name (exOf h R fun v H₁ v' h₁ t₁ σ₁ os₁ q₁ R₁ p₁ v₁ => ?_) (hs r.env R.es)
  refine x12 q₁ ?_; try clear q₁; intro loc' hp q
  exact store_var R₁ hp v₁ fun m' cs' h' tk' R' ec => k _ _ _ _ m' cs' h' tk' σ₁ os₁ q R' ec p₁ .next
variable {nm : Str} {ar : Arguments} {s0 s1 s2 s3 : Stmt} {rs : List Stmt}
noncomputable def lawSt (j : Nat) : Option Stmt := (fdAt 79).bind fun x => x.2.2.1[j]?
noncomputable def lawSc : Option Scope := (fdAt 79).map fun x => x.2.2.2
theorem lawSt_of {l : List Stmt} (e : fdAt 79 = some (nm, ar, l, sc)) (j : Nat) : lawSt j = l[j]? := by unfold lawSt; rw [e]; rfl
theorem lawSc_of {l : List Stmt} (e : fdAt 79 = some (nm, ar, l, sc)) : lawSc = some sc := by unfold lawSc; rw [e]; rfl
theorem law_s0 (e : lawSt 0 = some s0) (eS : lawSc = some sc) (T : Tops c) (hq : c.q = true) (hns : c.ns.length ≤ 1000) {Q : PostF}
    (q : ∀ kd deck H', Keep [] H H' → IsI H' kd deck → deck.length ≤ 40 → Q .next (LV.loc { deck := some (.ref kd) }) H') : Ex1 c n sc s0 (LV.loc {}) H Q := by
  cases e
  cases eS
  dsimp only [LV.loc]
  refine Ex1.assignS ?_ (by intro env he; unfold swapsWith Env.kindOf Env.blockKind; rw [he]; rfl)
  refine Ev.comp [] (by show compOk _ _ _ [] = true; decide +kernel) .nil ?_
  refine Src.list hq (Ev.sliceS hns ?_)
  repeat' walk_at "st"
  refine ⟨rfl, Part.some ?_⟩
  repeat' walk_at "st"
  refine ⟨_, _, rfl, get_new, get_app get_new, ?_⟩
  rw [show ((40 : Int)) = ((40 : Nat) : Int) from rfl, pick_take]
  have hl : (c.ns.take 40).length ≤ 40 := by simp; lia
  generalize c.ns.take 40 = dk at hl
  refine CompL.inv (fun i acc H' => i ≤ dk.length ∧ Keep [] H H' ∧ H'[H.length]? = some (.list (dk.map .int)) ∧ ∃ ds : List Int, acc = ds.map .int ∧ ds.length = i) _ ?_ ?_ get_new ⟨Nat.zero_le _, Keep.trans Keep.app Keep.app, get_app get_new, [], rfl, rfl⟩
  · intro i v acc H' hv hD hr73
    refine x04 hr73 ?_; try clear hr73; intro hi K hk ht80; refine x12 ht80 ?_; clear ht80; intro ds eq81 hdl; subst eq81
    refine x12 (map_get hv) fun x eq82 hx => ?_; subst eq82
    refine Ifs.nil ⟨fun _ => ?_, fun h => (by cases h)⟩
    dsimp only [compLoc, List.map]
    repeat' walk_at "st"
    refine Cl.abs ?_
    have hne : (H ++ [MO.list (List.map MV.int dk)]).length ≠ H.length := by simp
    have hlt : i < dk.length := (List.getElem?_eq_some_iff.mp hx).1
    exact ⟨hD, by simp; lia, get_set_ne hne.symm hk, hlt, K.setNew (by simp), get_set_ne hne.symm hk, ds ++ [(x.natAbs : Int)], by simp, by simp [hdl]⟩
  · intro acc H' hD hr74
    refine x04 hr74 ?_; try clear hr74; intro hi K hk ht83; refine x12 ht83 ?_; clear ht83; intro ds eq84 hdl; subst eq84
    repeat' walk_at "st"
    exact q _ ds _ K hD (by simp at hdl; lia)
noncomputable abbrev allSigns : List Int := [97, 98, 99, 32, 9]
theorem law_s1 (e : lawSt 1 = some s1) (eS : lawSc = some sc) (T : Tops c) {Q : PostF} {kd : Nat} {deck : List Int} (hk : IsI H kd deck) (hz : deck.length ≤ 40)
    (q : ∀ ks deck' signs H', Keep [kd] H H' → IsI H' kd deck' → deck'.length ≤ 40 → IsI H' ks signs → ks ≠ kd → signs ≠ [] → signs.length ≤ 5 → (∀ x ∈ signs, x ∈ allSigns) → Q .next (LV.loc { deck := some (.ref kd), signs := some (.ref ks) }) H') :
    Ex1 c (n + 1) sc s1 (LV.loc { deck := some (.ref kd) }) H Q := by
  cases e
  cases eS
  dsimp only [LV.loc]
  have hkl := hk.lt
  repeat' walk_at "st"
  refine law_draw_call T hk (by lia) (by decide) fun d deck₁ H₁ K₁ hk₁ hd₁ hdm => ?_
  repeat' walk_at "st"
  have hkl₁ := hk₁.lt
  refine ⟨fun e => ?_, fun e => ?_⟩
  · repeat' walk_at "st"
    exact q _ deck₁ [97, 98, 99, 32, 9] _ (K₁.trans Keep.app) (get_app hk₁) (by lia) get_new (by lia) (by simp) (by simp) (by simp)
  · repeat' walk_at "st"
    exact q _ deck₁ [97, 98, 99, 32] _ (K₁.trans Keep.app) (get_app hk₁) (by lia) get_new (by lia) (by simp) (by simp) (by simp)
theorem law_s2 (e : lawSt 2 = some s2) (eS : lawSc = some sc) (T : Tops c) (hq : c.q = true) {Q : PostF} {kd ks : Nat} {deck signs : List Int} (hk : IsI H kd deck) (hz : deck.length ≤ 40) (hs : IsI H ks signs) (hne : ks ≠ kd) (hs0 : signs ≠ []) (hsz : signs.length ≤ 5) (hal : ∀ x ∈ signs, x ∈ allSigns)
    (q : ∀ kl deck' L H', Keep [kd] H H' → IsI H' kd deck' → deck'.length ≤ 40 → IsRb kd H'.length H' kl L → 1 ≤ L.length → L.length ≤ 4 → (∀ r ∈ L, r.length ≤ 6 ∧ ∀ x ∈ r, x ∈ allSigns) → Q .next (LV.loc { deck := some (.ref kd), signs := some (.ref ks), lines := some (.ref kl) }) H') :
    Ex1 c (n + 2) sc s2 (LV.loc { deck := some (.ref kd), signs := some (.ref ks) }) H Q := by
  cases e
  cases eS
  dsimp only [LV.loc]
  refine Ex1.comp [("deck", .ref kd), ("signs", .ref ks)] (by show compOk _ _ _ ["deck", "signs"] = true; decide +kernel) (.cons (by (with_reducible repeat constructor)) (.cons (by (with_reducible repeat constructor)) .nil)) ?_ (by intro env he; unfold swapsWith Env.kindOf Env.blockKind; rw [he]; rfl)
  refine Src.range hq (T.nogl 1 rfl) ?_
  repeat' walk_at "st"
  refine law_draw_call T hk (by lia) (by decide) fun d deck₁ H₁ K₁ hk₁ hd₁ hdm => ?_
  repeat' walk_at "st"
  refine ⟨by lia, by lia, trivial, ?_⟩
  have hs₁ : IsI H₁ ks signs := K₁.get (by simpa using hne) hs
  have hkl := hk₁.lt
  have hksl := hs₁.lt
  refine CompL.inv (fun i acc H' => i ≤ d + 1 ∧ Keep [kd] H H' ∧ IsI H' ks signs ∧ ∃ deck', IsI H' kd deck' ∧ deck'.length ≤ 40 ∧ ∃ (js : List Nat) (L : List (List Int)), acc = js.map .ref ∧ All2 (IsI H') js L ∧ (∀ j ∈ js, H₁.length < j) ∧ L.length = i ∧ ∀ r ∈ L, r.length ≤ 6 ∧ ∀ x ∈ r, x ∈ allSigns) _ ?_ ?_ get_new ⟨Nat.zero_le _, K₁.trans Keep.app, get_app hs₁, deck₁, get_app hk₁, by lia, [], [], rfl, .nil, by simp, rfl, by simp⟩
  · intro i v acc H' hv hD hr75
    refine x04 hr75 ?_; try clear hr75; intro hi K hs' ht85; refine x13 ht85 ?_; clear ht85; intro deck' hk' hd' ht86; refine x25 ht86 ?_; clear ht86; intro js L eq87 hjs hne' hl hm; subst eq87
    refine x02 (upto_get hv) fun eq88 hlt => ?_; subst eq88
    refine Ifs.nil ⟨fun _ => ?_, fun h => (by cases h)⟩
    dsimp only [compLoc, List.map]
    have hHl : H₁.length < H'.length := get_lt hD
    repeat' walk_at "st"
    refine law_line_call T hq hk' (by lia) hs' hs0 hsz hne fun k₂ deck₂ line H₂ K₂ hk₂ hd₂ hf₂ hl₂ hz₂ hm₂ => ?_
    repeat' walk_at "st"
    have hs₂ : IsI H₂ ks signs := K₂.get (by simpa using hne) hs'
    have hD₂ := K₂.get (by simp; lia) hD
    have hjl := hjs.length
    have hHk : H.length ≤ H₁.length := K₁.1
    refine ⟨hD₂, by simp; lia, trivial, by lia, (K.trans K₂).setNew hHk, get_set_ne (by lia) hs₂, deck₂, get_set_ne (by lia) hk₂, by lia, js ++ [k₂], L ++ [line], by simp, ?_, ?_, by simp [hl], ?_⟩
    · exact (all2_set (all2_keep hjs K₂ fun j hj => by have := hne' j hj; simp; lia) fun j hj => by have := hne' j hj; lia).append (.cons (get_set_ne (by lia) hl₂) .nil)
    · intro j hj
      rcases List.mem_append.mp hj with hj | hj
      · exact hne' j hj
      · simp at hj; lia
    · intro r hr
      rcases List.mem_append.mp hr with hr | hr
      · exact hm r hr
      · simp at hr; subst hr; exact ⟨hz₂, fun x hx => hal x (hm₂ x hx)⟩
  · intro acc H' hD hr76
    refine x04 hr76 ?_; try clear hr76; intro hi K hs' ht89; refine x13 ht89 ?_; clear ht89; intro deck' hk' hd' ht90; refine x25 ht90 ?_; clear ht90; intro js L eq91 hjs hne' hl hm; subst eq91
    repeat' walk_at "st"
    have hll : L.length = d + 1 := by rw [hl, show (1 : Int) + (d : Int) = ((1 + d : Nat) : Int) from rfl, Nat.add_comm 1 d]; simp [upto]
    have hdl := get_lt hD
    refine q _ deck' L _ K hk' hd' ⟨js, hD, hjs, fun j hj => ?_⟩ (by lia) (by lia) hm
    rcases List.mem_cons.mp hj with rfl | hj
    · exact ⟨Nat.ne_of_gt hkl, hdl⟩
    · exact ⟨Nat.ne_of_gt (Nat.lt_trans hkl (hne' j hj)), all2_lt hjs j hj⟩
theorem law_s3 (e : lawSt 3 = some s3) (eS : lawSc = some sc) (T : Tops c) (hq : c.q = true) {Q : PostF} {kd ks kl : Nat} {L : List (List Int)} (hl : IsR H kl L) (h4 : L.length ≤ 4) (h6 : ∀ r ∈ L, r.length ≤ 6 ∧ ∀ x ∈ r, x ∈ allSigns)
    (q : ∀ kc H', Keep [] H H' → H.length ≤ kc → IsI H' kc (joinRows L) → Q .next (LV.loc { deck := some (.ref kd), signs := some (.ref ks), lines := some (.ref kl), codes := some (.ref kc) }) H') :
    Ex1 c (n + 2) sc s3 (LV.loc { deck := some (.ref kd), signs := some (.ref ks), lines := some (.ref kl) }) H Q := by
  cases e
  cases eS
  dsimp only [LV.loc]
  repeat' walk_at "st"
  refine law_joined_call T hq hl (by lia) (fun r hr => by have := (h6 r hr).1; lia) fun kc H₁ K₁ f₁ h₁ => ?_
  repeat' walk_at "st"
  exact q kc H₁ K₁ f₁ h₁
end
end
section
noncomputable def cutOf (g : List Int) (low high : Nat) : List Int := ((g.drop low).take (high - low) ++ List.replicate (high - low) 32).take (high - low)
section
variable {c : Cx} {n : Nat} {sc : Scope} {loc : Loc} {H : List MO} {nm : Str} {ar : Arguments} {s0 s1 s2 s3 s4 s5 s6 s7 s8 s9 : Stmt} {rs : List Stmt} {kd ks kl kc kg ku : Nat} {deck codes : List Int} {L G D : List (List Int)}
theorem law_s4 (e : lawSt 4 = some s4) (eS : lawSc = some sc) (T : Tops c) (hq : c.q = true) {Q : PostF} (hk : IsI H kd deck) (hz : deck.length ≤ 40) (hc : IsI H kc codes) (hcz : codes.length ≤ 60) (hne : kc ≠ kd)
    (q : ∀ (a b : Nat) deck' H', Keep [kd] H H' → IsI H' kd deck' → deck'.length ≤ 40 → 1 ≤ a → a ≤ codes.length + 1 → 1 ≤ b → b ≤ codes.length + 1 → Q .next (LV.loc { deck := some (.ref kd), signs := some (.ref ks), lines := some (.ref kl), codes := some (.ref kc), one := some (.int a), other := some (.int b) }) H') :
    Ex1 c (n + 1) sc s4 (LV.loc { deck := some (.ref kd), signs := some (.ref ks), lines := some (.ref kl), codes := some (.ref kc) }) H Q := by
  cases e
  cases eS
  dsimp only [LV.loc]
  refine Ex1.tupS hq ["one", "other"] ?_ (hw := by intro env he; unfold swappedStores Env.kindOf Env.blockKind; rw [he]; rfl)
  repeat' walk_at "st"
  refine law_draw_call T hk (by lia) (by lia) fun d deck₁ H₁ K₁ hk₁ hd₁ hdm => ?_
  have hc₁ : IsI H₁ kc codes := K₁.get (by simpa using hne) hc
  repeat' walk_at "st"
  refine law_draw_call T hk₁ (by lia) (by lia) fun d₂ deck₂ H₂ K₂ hk₂ hd₂ hdm₂ => ?_
  repeat' walk_at "st"
  refine i35 _ _ _ rfl get_new rfl (.cons (by (with_reducible repeat constructor)) (.cons (by (with_reducible repeat constructor)) .nil)) ?_
  rw [show (1 + (d : Int)) = ((1 + d : Nat) : Int) from rfl, show (1 + (d₂ : Int)) = ((1 + d₂ : Nat) : Int) from rfl]
  exact q (1 + d) (1 + d₂) deck₂ _ ((K₁.trans K₂).trans Keep.app) (get_app hk₂) (by lia) (by lia) (by lia) (by lia) (by lia)
theorem law_s5 (e : lawSt 5 = some s5) (eS : lawSc = some sc) (T : Tops c) (hq : c.q = true) {a b : Nat} {Q : PostF} (hc : IsI H kc codes) (hcz : codes.length ≤ 60) (ha : 1 ≤ a) (hb : 1 ≤ b)
    (q : ∀ H', Keep [] H H' → Q .next (LV.loc { deck := some (.ref kd), signs := some (.ref ks), lines := some (.ref kl), codes := some (.ref kc), one := some (.int a), other := some (.int b), top := some (.int (spotOf codes (min a b)).1), first := some (.int (spotOf codes (min a b)).2), bottom := some (.int (spotOf codes (max a b)).1), last := some (.int (spotOf codes (max a b)).2) }) H') :
    Ex1 c (n + 2) sc s5 (LV.loc { deck := some (.ref kd), signs := some (.ref ks), lines := some (.ref kl), codes := some (.ref kc), one := some (.int a), other := some (.int b) }) H Q := by
  cases e
  cases eS
  dsimp only [LV.loc]
  refine Ex1.tup ?_ (hw := by intro env he; unfold swappedStores Env.kindOf Env.blockKind; rw [he]; rfl)
  repeat' walk_at "st"
  rw [nmin a b]
  refine law_spot_call T hq hc (by lia) (by lia) fun k₁ H₁ K₁ h₁ => ?_
  have hc₁ := hc.keep K₁
  repeat' walk_at "st"
  rw [nmax a b]
  refine law_spot_call T hq hc₁ (by lia) (by lia) fun k₂ H₂ K₂ h₂ => ?_
  repeat' walk_at "st"
  exact q _ ((K₁.trans K₂).trans Keep.app)
theorem law_s6 (e : lawSt 6 = some s6) (eS : lawSc = some sc) (T : Tops c) (hq : c.q = true) {a b top f bot l : Nat} {Q : PostF}
    (q : ∀ H', Keep [] H H' → Q .next (LV.loc { deck := some (.ref kd), signs := some (.ref ks), lines := some (.ref kl), codes := some (.ref kc), one := some (.int a), other := some (.int b), top := some (.int top), first := some (.int f), bottom := some (.int bot), last := some (.int l), low := some (.int (min f l : Nat)), high := some (.int (max f l : Nat)) }) H') :
    Ex1 c n sc s6 (LV.loc { deck := some (.ref kd), signs := some (.ref ks), lines := some (.ref kl), codes := some (.ref kc), one := some (.int a), other := some (.int b), top := some (.int top), first := some (.int f), bottom := some (.int bot), last := some (.int l) }) H Q := by
  cases e
  cases eS
  dsimp only [LV.loc]
  refine Ex1.tup ?_ (hw := by intro env he; unfold swappedStores Env.kindOf Env.blockKind; rw [he]; rfl)
  repeat' walk_at "st"
  rw [nmin f l, nmax f l]
  exact q _ Keep.app
theorem law_s7 (e : lawSt 7 = some s7) (eS : lawSc = some sc) (T : Tops c) (hq : c.q = true) {x_deck x_signs x_codes x_one x_other x_top x_first x_bottom x_last x_low x_high x_due x_buffer x_word x_many x_left x_turn x_told : Option MV} {Q : PostF} (hkd : kd < H.length) (hl : IsR H kl L) (h4 : L.length ≤ 4) (h6 : ∀ r ∈ L, r.length ≤ 6)
    (q : ∀ kg H', Keep [] H H' → IsRb kd H'.length H' kg (L.map gridOf) → Q .next (LV.loc ⟨x_deck, x_signs, some (.ref kl), x_codes, x_one, x_other, x_top, x_first, x_bottom, x_last, x_low, x_high, some (.ref kg), x_due, x_buffer, x_word, x_many, x_left, x_turn, x_told⟩) H') :
    Ex1 c (n + 1) sc s7 (LV.loc ⟨x_deck, x_signs, some (.ref kl), x_codes, x_one, x_other, x_top, x_first, x_bottom, x_last, x_low, x_high, Option.none, x_due, x_buffer, x_word, x_many, x_left, x_turn, x_told⟩) H Q := by
  cases e
  cases eS
  dsimp only [LV.loc]
  refine Ex1.comp [] (by show compOk _ _ _ [] = true; decide +kernel) .nil ?_ (by intro env he; unfold swapsWith Env.kindOf Env.blockKind; rw [he]; rfl)
  refine x12 hl ?_; try clear hl; intro ks' e all
  refine Src.list hq ?_
  repeat' walk_at "st"
  refine i24 _ _ rfl e (get_app e) ?_
  refine CompL.rowsF gridOf (by lia) e all ?_ ?_
  · intro j row H' K hm hrow
    dsimp only [List.map]
    repeat' walk_at "st"
    refine law_grid_call T hq hrow (by have := h6 row hm; lia) fun k' H₂ K₂ f₂ h₂ => ?_
    repeat' walk_at "st"
    exact i14 _ rfl K₂ f₂ h₂
  · intro H' js K hD all' hf
    repeat' walk_at "st"
    have := q H.length H' K (i13 js hD all' (fun j hj => ⟨by have := hf j hj; lia, ?_⟩))
    · dsimp only [LV.loc] at this
      exact this
    · rcases List.mem_cons.mp hj with rfl | hj
      · exact get_lt hD
      · exact all2_lt all' j hj
theorem law_s8 (e : lawSt 8 = some s8) (eS : lawSc = some sc) (T : Tops c) (hq : c.q = true) {x_deck x_signs x_lines x_codes x_one x_other x_first x_last x_buffer x_word x_many x_left x_turn x_told : Option MV} {low high top bot : Nat} {Q : PostF} (hkd : kd < H.length) (hg : IsR H kg G) (h4 : G.length ≤ 4) (h6 : ∀ r ∈ G, r.length ≤ 24) (hlh : low ≤ high) (hh : high ≤ 24)
    (q : ∀ ku H', Keep [] H H' → IsRb kd H'.length H' ku (((G.drop top).take (bot + 1 - top)).map fun g => cutOf g low high) → Q .next (LV.loc ⟨x_deck, x_signs, x_lines, x_codes, x_one, x_other, some (.int top), x_first, some (.int bot), x_last, some (.int low), some (.int high), some (.ref kg), some (.ref ku), x_buffer, x_word, x_many, x_left, x_turn, x_told⟩) H') :
    Ex1 c (n + 1) sc s8 (LV.loc ⟨x_deck, x_signs, x_lines, x_codes, x_one, x_other, some (.int top), x_first, some (.int bot), x_last, some (.int low), some (.int high), some (.ref kg), Option.none, x_buffer, x_word, x_many, x_left, x_turn, x_told⟩) H Q := by
  cases e
  cases eS
  dsimp only [LV.loc]
  refine Ex1.comp [("high", .int high), ("low", .int low)] (by show compOk _ _ _ ["high", "low"] = true; decide +kernel) (.cons (by (with_reducible repeat constructor)) (.cons (by (with_reducible repeat constructor)) .nil)) ?_ (by intro env he; unfold swapsWith Env.kindOf Env.blockKind; rw [he]; rfl)
  refine x12 hg ?_; try clear hg; intro ks' e all
  have al := all.length
  refine Src.list hq ?_
  refine Ev.slice ?_
  repeat' walk_at "st"
  refine i24 _ _ rfl e (by simp; lia) (Part.some ?_)
  repeat' walk_at "st"
  refine And.intro e (i24 _ _ rfl get_new (get_app get_new) ?_)
  rw [show (bot : Int) + 1 = ((bot + 1 : Nat) : Int) from rfl, pick_mid, ← List.map_drop, ← List.map_take]
  have all' : All2 (IsI (H ++ [MO.list (((ks'.drop top).take (bot + 1 - top)).map MV.ref)])) ((ks'.drop top).take (bot + 1 - top)) ((G.drop top).take (bot + 1 - top)) := ((all.drop top).take _).mono fun _ _ h => get_app h
  refine CompL.rowsF (fun g => cutOf g low high) (by simp; exact mbl (Nat.le_trans h4 (by decide))) get_new all' ?_ ?_
  · intro j row H' K hm hrow
    have hrl := h6 row (List.mem_of_mem_drop (List.mem_of_mem_take hm))
    dsimp only [List.map]
    repeat' walk_at "st"
    refine i14 _ rfl (by walk_at "kp") (by simp) (IsI.of get_new ?_)
    rename_i zs1 e1 l1 zs2 e2 l2
    rw [e2, e1, pick_mid, show (high : Int) - (low : Int) = ((high - low : Nat) : Int) by lia, pick_take, Int.toNat_natCast]
    rfl
  · intro H' js K hD all'' hf
    repeat' walk_at "st"
    have := q _ H' (Keep.app.trans K) (i13 js hD all'' (fun j hj => ⟨by have := hf j hj; simp at this; lia, ?_⟩))
    · dsimp only [LV.loc] at this
      exact this
    · rcases List.mem_cons.mp hj with rfl | hj
      · exact get_lt hD
      · exact all2_lt all'' j hj
theorem law_s9 (e : lawSt 9 = some s9) (eS : lawSc = some sc) (T : Tops c) (hq : c.q = true) {x_deck x_signs x_lines x_one x_other x_top x_first x_bottom x_last x_low x_high x_grids x_due x_word x_many x_left x_turn x_told : Option MV} {Q : PostF} (hc : IsI H kc codes) (hcz : codes.length ≤ 28)
    (q : ∀ ℓ pt' H', Keep [] H H' → (∀ k ∈ ℓ.ls :: BLay.foot ℓ, H.length ≤ k) → BufIs H' ℓ codes pt' 44 → Q .next (LV.loc ⟨x_deck, x_signs, x_lines, some (.ref kc), x_one, x_other, x_top, x_first, x_bottom, x_last, x_low, x_high, x_grids, x_due, some (.ref ℓ.b), x_word, x_many, x_left, x_turn, x_told⟩) H') :
    Ex1 c (n + 6) sc s9 (LV.loc ⟨x_deck, x_signs, x_lines, some (.ref kc), x_one, x_other, x_top, x_first, x_bottom, x_last, x_low, x_high, x_grids, x_due, Option.none, x_word, x_many, x_left, x_turn, x_told⟩) H Q := by
  cases e
  cases eS
  dsimp only [LV.loc]
  repeat' walk_at "st"
  refine law_buffer_call T hq hc (by lia) fun H' ℓ pt' K hf B => ?_
  repeat' walk_at "st"
  have := q ℓ pt' H' K hf (B.mono (by lia))
  dsimp only [LV.loc] at this
  exact this
end
end
section
noncomputable abbrev theWords : List Str := ["kill", "string", "open", "clear", "number"]
/-- a list of rows that is none of its own rows -/
noncomputable def IsRo (z0 : Nat) (H : List MO) (k : Nat) (rows : List (List Int)) : Prop := z0 ≤ k ∧ ∃ ks : List Nat, H[k]? = some (.list (ks.map .ref)) ∧ All2 (IsI H) ks rows ∧ ∀ j ∈ ks, j < z0 ∨ k < j
theorem IsRo.isR {z0 : Nat} {H : List MO} {k : Nat} {rows : List (List Int)} (h : IsRo z0 H k rows) : IsR H k rows := by
  refine x02 h ?_; try clear h; intro _ ht30; refine x13 ht30 ?_; clear ht30; intro ks e all _
  exact i12 ks e all
theorem IsRo.keep {z0 : Nat} {F : List Nat} {H H' : List MO} {k : Nat} {rows : List (List Int)} (h : IsRo z0 H k rows) (K : Keep F H H') (hF : ∀ j ∈ F, z0 ≤ j ∧ j < k) : IsRo z0 H' k rows := by
  refine x02 h ?_; try clear h; intro hz ht31; refine x13 ht31 ?_; clear ht31; intro ks e all no
  refine And.intro hz (i13 ks (K.get (fun q => by have := hF k q; lia) e) (all2_keep all K fun j hj q => ?_) no)
  have := hF j q
  rcases no j hj with h | h <;> lia
theorem IsRb.refs {kd b k : Nat} {H : List MO} {rows : List (List Int)} (h : IsRb kd b H k rows) : ∀ ks : List Nat, H[k]? = some (.list (ks.map .ref)) → ∀ j ∈ k :: ks, j ≠ kd ∧ j < b := by
  refine x13 h ?_; try clear h; intro ks' e all no
  intro ks e2
  rw [e] at e2
  have e3 : ks'.map MV.ref = ks.map MV.ref := by simpa using e2
  have inj : ∀ {a b : List Nat}, a.map MV.ref = b.map MV.ref → a = b := by
    intro a
    induction a with
    | nil => intro b h; cases b with | nil => rfl | cons _ _ => simp at h
    | cons x a ih => intro b h; cases b with | nil => simp at h | cons y b => simp at h; rw [h.1, ih (by simpa using h.2)]
  rw [← inj e3]
  exact no
section
variable {c : Cx} {n : Nat} {sc : Scope} {loc : Loc} {H : List MO} {nm : Str} {ar : Arguments} {s0 s1 s2 s3 s4 s5 s6 s7 s8 s9 s10 s11 s12 s13 : Stmt} {rs : List Stmt} {kd ks kl kc kg ku : Nat} {deck codes : List Int} {L G D : List (List Int)} {ℓ : BLay} {pt : Int} {a b : Nat}
theorem law_s10 (e : lawSt 10 = some s10) (eS : lawSc = some sc) (T : Tops c) (hq : c.q = true) {x_deck x_signs x_lines x_top x_first x_bottom x_last x_low x_high x_grids x_word x_many x_left x_turn x_told : Option MV} {Q : PostF} 
    (hc : IsI H kc codes) (hu : IsR H ku D) (B : BufIs H ℓ codes pt 44) (S : SpnOk codes a b) (hD : (spanOf codes a b).rows.map (fun r => extracted r (spanOf codes a b).f (spanOf codes a b).l) = D)
    (q : ∀ H', Keep [] H H' → Q .next (LV.loc ⟨x_deck, x_signs, x_lines, some (.ref kc), some (.int a), some (.int b), x_top, x_first, x_bottom, x_last, x_low, x_high, x_grids, some (.ref ku), some (.ref ℓ.b), x_word, x_many, x_left, x_turn, x_told⟩) H') : Ex1 c (n + 7) sc s10 (LV.loc ⟨x_deck, x_signs, x_lines, some (.ref kc), some (.int a), some (.int b), x_top, x_first, x_bottom, x_last, x_low, x_high, x_grids, some (.ref ku), some (.ref ℓ.b), x_word, x_many, x_left, x_turn, x_told⟩) H Q := by
  cases e
  cases eS
  have hz := S.z
  dsimp only [LV.loc] at q ⊢
  repeat' walk_at "st"
  refine extract_call T hq B (by lia) S fun k₁ H₁ K₁ h₁ => ?_
  rw [hD] at h₁
  repeat' walk_at "st"
  refine Cmp.neR h₁ (hu.keep K₁) ?_
  refine ⟨fun e => ?_, fun e => (by simp at e)⟩
  refine x21 (id (B.keep K₁)) fun tk ck BS => ?_
  refine Run.or1 ?_
  refine Tst.cmp ?_
  refine Ev.meth T 15 rfl (by decide) ?_
  repeat' walk_at "st"
  refine i35 _ _ _ rfl BS.inst BS.ns (by kernel_rfl) ?_
  repeat' walk_at "st"
  refine Ev.meth0 T 13 rfl (by decide) ?_
  repeat' walk_at "st"
  refine i35 _ _ _ rfl BS.inst BS.ns (by kernel_rfl) ?_
  refine buf_size T BS (by lia) ?_
  repeat' walk_at "st"
  refine buf_codes (a := 1) (b := codes.length + 1) T BS (by lia) (by lia) (by lia) (by lia) fun k₃ H₃ K₃ f₃ h₃ => ?_
  simp only [Nat.sub_self, List.drop_zero, Nat.add_sub_cancel, List.take_length] at h₃
  repeat' walk_at "st"
  refine Cmp.neI h₃ (hc.keep (K₁.trans K₃)) ?_
  refine ⟨fun e => (by simp at e), fun e => ?_⟩
  repeat' walk_at "st"
  exact q _ (K₁.trans K₃)
theorem law_s12 (e : lawSt 12 = some s12) (eS : lawSc = some sc) (T : Tops c) (hq : c.q = true) {x_signs x_lines x_codes x_one x_other x_first x_last x_low x_high x_grids x_due x_buffer x_left x_turn x_told : Option MV} {top bot : Nat} {Q : PostF} (htb : top ≤ bot) (hk : IsI H kd deck) (hz : deck.length ≤ 40)
    (q : ∀ w H', w ∈ theWords → Keep [kd] H H' → Q .next (LV.loc ⟨some (.ref kd), x_signs, x_lines, x_codes, x_one, x_other, some (.int top), x_first, some (.int bot), x_last, x_low, x_high, x_grids, x_due, x_buffer, some (.str w), some (.int (bot - top : Nat)), x_left, x_turn, x_told⟩) H') : Ex1 c (n + 1) sc s12 (LV.loc ⟨some (.ref kd), x_signs, x_lines, x_codes, x_one, x_other, some (.int top), x_first, some (.int bot), x_last, x_low, x_high, x_grids, x_due, x_buffer, Option.none, Option.none, x_left, x_turn, x_told⟩) H Q := by
  cases e
  cases eS
  dsimp only [LV.loc] at q ⊢
  refine Ex1.tupS hq ["word", "many"] ?_ (hw := by intro env he; unfold swappedStores Env.kindOf Env.blockKind; rw [he]; rfl)
  repeat' walk_at "st"
  refine law_draw_call T (get_app hk) (by lia) (by lia) fun d deck₁ H₁ K₁ hk₁ hd₁ hdm => ?_
  repeat' walk_at "st"
  have hd5 : d < 5 := by lia
  have hkl := hk.lt
  have hW : H₁[H.length]? = some (.list (theWords.map .str)) := K₁.get (by simp; lia) get_new
  have hw : (theWords.map MV.str)[((d : Int)).toNat]? = some (.str (theWords[d]'(by simpa using hd5))) := by
    rw [Int.toNat_natCast, List.getElem?_map, List.getElem?_eq_getElem (by simpa using hd5)]; rfl
  refine Sub.item hW (by lia) (by lia) hw ?_
  repeat' walk_at "st"
  rw [show (bot : Int) - (top : Int) = ((bot - top : Nat) : Int) by lia]
  refine i35 _ _ _ rfl get_new rfl (.cons (by (with_reducible repeat constructor)) (.cons (by (with_reducible repeat constructor)) .nil)) ?_
  exact q _ _ (List.getElem_mem _) ((Keep.app.trans K₁).trans Keep.app)
theorem law_s13 (e : lawSt 13 = some s13) (eS : lawSc = some sc) (T : Tops c) (hq : c.q = true) {x_deck x_signs x_lines x_codes x_one x_other x_top x_first x_bottom x_last x_low x_high x_due x_buffer x_word x_many x_turn x_told : Option MV} {Q : PostF} {z0 : Nat} (hg : IsRb kd z0 H kg G) (hz0 : z0 ≤ H.length) (h4 : G.length ≤ 4)
    (q : ∀ H', Keep [] H H' → H'.length = H.length + 1 → IsRo z0 H' H.length G → Q .next (LV.loc ⟨x_deck, x_signs, x_lines, x_codes, x_one, x_other, x_top, x_first, x_bottom, x_last, x_low, x_high, some (.ref kg), x_due, x_buffer, x_word, x_many, some (.ref H.length), x_turn, x_told⟩) H') : Ex1 c n sc s13 (LV.loc ⟨x_deck, x_signs, x_lines, x_codes, x_one, x_other, x_top, x_first, x_bottom, x_last, x_low, x_high, some (.ref kg), x_due, x_buffer, x_word, x_many, Option.none, x_turn, x_told⟩) H Q := by
  cases e
  cases eS
  dsimp only [LV.loc] at q ⊢
  refine x13 hg ?_; try clear hg; intro ks e all no
  have al := all.length
  repeat' walk_at "st"
  refine Cl.list e (by simp; lia) ?_
  repeat' walk_at "st"
  exact q _ Keep.app (by simp) (And.intro hz0 (i13 ks get_new (all.mono fun _ _ h => get_app h) (fun j hj => .inl (no j (.tail _ hj)).2)))
theorem argsOf {pos : Pos} {es : List Expr} {r : RR} {m : Str → Option Value} {cs : Led} {s : Shared} {σ : List Addr} {os : List Obj} {Q : Post (List MV)} {Φ : List Value → Shared → Prop} {E : Value → Shared → Prop} (h : Evs c n sc pos es loc H Q) (R : Rel c n sc r m cs s.heap σ os loc H)
    (k : ∀ v H' v' h' tk' σ' os', Q v H' → Rel c n sc r m cs h' σ' os' loc H' → σ <+: σ' → All2 (VR c.sl σ') v v' → Φ v' { s with heap := h', toks := tk' }) : wpAny (model c.prog c.w) r.A (spliced (backTo pos (starEach es r.env))) Φ E s := h r m cs s σ os Φ E R k
/-- the law's own question to what is out of reach -/
theorem law_s11 (e : lawSt 11 = some s11) (eS : lawSc = some sc) (T : Tops c) (hq : c.q = true) (hx : excOk c.K = true) (hfo : fnOk c.K = true) {x_deck x_signs x_lines x_other x_top x_first x_bottom x_last x_low x_high x_grids x_due x_word x_many x_left x_turn x_told : Option MV} {Q : PostF} 
    (hc : IsI H kc codes) (hcz : codes.length ≤ 60) (B : BufIs H ℓ codes pt 44) (ha : 1 ≤ a)
    (q : ∀ H', Keep [] H H' → ExO c (n + 8) sc rs (LV.loc ⟨x_deck, x_signs, x_lines, some (.ref kc), some (.int a), x_other, x_top, x_first, x_bottom, x_last, x_low, x_high, x_grids, x_due, some (.ref ℓ.b), x_word, x_many, x_left, x_turn, x_told⟩) H' Q) : ExO c (n + 8) sc (s11 :: rs) (LV.loc ⟨x_deck, x_signs, x_lines, some (.ref kc), some (.int a), x_other, x_top, x_first, x_bottom, x_last, x_low, x_high, x_grids, x_due, some (.ref ℓ.b), x_word, x_many, x_left, x_turn, x_told⟩) H Q := by
  cases e
  cases eS
  refine x21 B fun tk ck BS => ?_
  intro r m cs s σ os Φ E R ho k
  have G := T.gl 55 rfl
  have R₀ := R
  dsimp only [LV.loc] at R
  refine wpAny_execs_cons (wpAny_If (isTrue_not (isTrue_plain (Call_ (eval_glb R.toRel G.1 rfl (by decide) (callWith_K R.toRel.K G.2 (argsOf (Q := fun vs H' => vs = [.ref ℓ.b, .int a, .int (codes.length + 2)] ∧ H' = H) ?_ R.toRel fun vs H' vs' h₁ t₁ σ₁ os₁ q₁ R₁ p₁ v₁ => ⟨R₁.Kh, ?_⟩) ?_ ?_))) ?_)))
  · repeat' walk_at "st"
    exact ⟨rfl, rfl⟩
  · refine x02 q₁ ?_; try clear q₁; intro eq32 eq33; subst eq32; subst eq33
    refine refused_call T hx hfo hq (s := { s with heap := h₁, toks := t₁ }) (one := a) (other := codes.length + 2) BS (by lia) (by lia) (by lia) (by lia) R₁ ho v₁ fun H₂ h₂ tk₂ σ₂ os₂ K₂ R₂ p₂ => ?_
    refine wpAny_truthy_bool ?_
    rw [if_neg (by decide)]
    refine wpAny_execs_nil ?_
    have R₃ := R₀.of (h' := h₂) (σ' := σ₂) (os' := os₂) (H' := H₂) (by dsimp only [LV.loc]; exact R₂)
    exact q H₂ K₂ r m cs { s with heap := h₂, toks := tk₂ } σ₂ os₂ Φ E R₃ ho fun fl l2 H2 fl2 m2 cs2 h2 tk2 σ2 os2 q2 R4 ec2 p4 f2 => k fl l2 H2 fl2 m2 cs2 h2 tk2 σ2 os2 q2 R4 ec2 ((p₁.trans p₂).trans p4) f2
  · rfl
  · rfl
  · rfl
end
end
section
noncomputable def leftRows (word : Str) (G : List (List Int)) (top low high wide : Nat) : Nat → List (List Int)
  | 0 => G
  | i + 1 => (leftRows word G top low high wide i).set (top + i) (dueOf word (G[top + i]?.getD []) low high (9 + (i : Int)) wide)
theorem leftRows_len (word : Str) (G : List (List Int)) (top low high wide : Nat) : ∀ i, (leftRows word G top low high wide i).length = G.length
  | 0 => rfl
  | i + 1 => by rw [leftRows, List.length_set]; exact leftRows_len word G top low high wide i
theorem IsRo.set {z0 : Nat} {H : List MO} {k i j : Nat} {rows : List (List Int)} {ks : List Nat} {row : List Int} (hz : z0 ≤ k) (e : H[k]? = some (.list (ks.map .ref))) (all : All2 (IsI H) ks rows) (hn : ∀ x ∈ ks, x < z0 ∨ k < x) (hj : IsI H j row) (hjk : j < z0 ∨ k < j) :
    IsRo z0 (H.set k (.list ((ks.map MV.ref).set i (.ref j)))) k (rows.set i row) := by
  refine ⟨hz, ks.set i j, ?_, ?_, ?_⟩
  · rw [← List.map_set]; exact get_set_self e
  · exact (all2_set all fun x hx => by rcases hn x hx with h | h <;> lia).set (get_set_ne (by lia) hj)
  · intro x hx
    rcases List.mem_or_eq_of_mem_set hx with h | h
    · exact hn x h
    · rw [h]; exact hjk
section
variable {c : Cx} {n : Nat} {sc : Scope} {loc : Loc} {H : List MO} {nm : Str} {ar : Arguments} {s0 s1 s2 s3 s4 s5 s6 s7 s8 s9 s10 s11 s12 s13 s14 s15 s16 s17 s18 s19 s20 : Stmt} {rs : List Stmt} {kd ks kl kc kg ku kf kt : Nat} {deck codes : List Int} {L G D told left : List (List Int)} {ℓ : BLay} {pt : Int} {a b : Nat} {w : Str}
theorem law_s14 (e : lawSt 14 = some s14) (eS : lawSc = some sc) (T : Tops c) (hq : c.q = true) {x_deck x_signs x_lines x_codes x_one x_other x_first x_bottom x_last x_due x_buffer x_turn x_told : Option MV} {top bot low high : Nat} {Q : PostF} 
    {z0 : Nat} (hg : IsRb kd z0 H kg G) (hf : IsRo z0 H kf G) (hlf : kf + 1 = H.length) (h4 : G.length ≤ 4) (h6 : ∀ r ∈ G, r.length ≤ 24) (htb : top ≤ bot) (hbg : bot < G.length) (hlh : low ≤ high) (hh : high ≤ 24)
    (q : ∀ o H', Keep [kf] H H' → IsRo z0 H' kf (leftRows w G top low high (if bot - top = 0 then 1 else 2) (bot - top + 1)) → Q .next (LV.loc ⟨x_deck, x_signs, x_lines, x_codes, x_one, x_other, some (.int top), x_first, x_bottom, x_last, some (.int low), some (.int high), some (.ref kg), x_due, x_buffer, some (.str w), some (.int (bot - top : Nat)), some (.ref kf), o, x_told⟩) H') : Ex1 c (n + 1) sc s14 (LV.loc ⟨x_deck, x_signs, x_lines, x_codes, x_one, x_other, some (.int top), x_first, x_bottom, x_last, some (.int low), some (.int high), some (.ref kg), x_due, x_buffer, some (.str w), some (.int (bot - top : Nat)), some (.ref kf), x_turn, x_told⟩) H Q := by
  cases e
  cases eS
  refine x13 hg fun ks' e' all' no' => ?_
  have hzk : z0 ≤ kf := hf.1
  have hne : ∀ j ∈ kg :: ks', j < z0 := fun j hj => (no' j hj).2
  dsimp only [LV.loc] at q ⊢
  refine Ex1.for (Src.range hq (T.nogl 1 rfl) ?_)
  repeat' walk_at "st"
  refine ⟨by lia, by lia, ?_⟩
  refine Loop.inv (fun i loc H' => ∃ o, loc = LV.loc ⟨x_deck, x_signs, x_lines, x_codes, x_one, x_other, some (.int top), x_first, x_bottom, x_last, some (.int low), some (.int high), some (.ref kg), x_due, x_buffer, some (.str w), some (.int (bot - top : Nat)), some (.ref kf), o, x_told⟩ ∧ i ≤ bot - top + 1 ∧ Keep [kf] H H' ∧ IsRo z0 H' kf (leftRows w G top low high (if bot - top = 0 then 1 else 2) i)) _ ?_ ?_ ⟨x_turn, ?_, Nat.zero_le _, Keep.refl, hf⟩
  rotate_left 2
  · dsimp only [LV.loc]
  · intro i vv loc H' hi hr92
    refine x15 hr92 ?_; try clear hr92; intro o eq94 hib K _ ht95; subst eq94; refine x13 ht95 ?_; clear ht95; intro kx ex allx nox
    refine x02 (upto_get hi) fun eq96 hlt => ?_; subst eq96
    have hlt' : i ≤ bot - top := by lia
    dsimp only [LV.loc]
    refine ⟨_, by (with_reducible repeat constructor), ?_⟩
    have hgx : H'[kg]? = some (.list (ks'.map .ref)) := K.get (by have := hne kg (.head _); simp; lia) e'
    have allg : All2 (IsI H') ks' G := all2_keep all' K fun j hj => by have := hne j (.tail _ hj); simp; lia
    have hgr : G[top + i]? = some (G[top + i]'(by lia)) := List.getElem?_eq_getElem _
    refine x12 (all2_get allg hgr) fun j hj hjr => ?_
    have hjn : j < z0 := hne j (.tail _ (List.mem_of_getElem? hj))
    have hrl := h6 (G[top + i]'(by lia)) (List.getElem_mem _)
    have hxl : (leftRows w G top low high (if bot - top = 0 then 1 else 2) i).length = G.length := leftRows_len ..
    have hkx : kx.length = G.length := allx.length.trans hxl
    have hkf := get_lt ex
    have stepS : leftRows w G top low high (if bot - top = 0 then 1 else 2) (i + 1) = (leftRows w G top low high (if bot - top = 0 then 1 else 2) i).set (top + i) (dueOf w (G[top + i]'(by lia)) low high (9 + (i : Int)) (if bot - top = 0 then 1 else 2)) := by
      rw [leftRows, hgr]; rfl
    have rest : ∀ k' H₁, Keep [] H' H₁ → (k' = j ∨ H'.length ≤ k') → IsI H₁ k' (dueOf w (G[top + i]'(by lia)) low high (9 + (i : Int)) (if bot - top = 0 then 1 else 2)) →
        ∃ its, H₁[kf]? = some (.list its) ∧ its = kx.map MV.ref ∧ Keep [kf] H (H₁.set kf (.list (its.set (top + i) (.ref k')))) ∧ IsRo z0 (H₁.set kf (.list (its.set (top + i) (.ref k')))) kf (leftRows w G top low high (if bot - top = 0 then 1 else 2) (i + 1)) := by
      intro k' H₁ K₁ hk' h₁
      refine ⟨_, K₁.get0 ex, rfl, (K.trans K₁.weak).trans (Keep.set (by simp)), ?_⟩
      rw [stepS]
      refine IsRo.set hzk (K₁.get0 ex) (all2_keep allx K₁ (by simp)) nox h₁ ?_
      rcases hk' with h | h
      · rw [h]; exact .inl hjn
      · exact .inr (by lia)
    repeat' walk_at "st"
    refine Sub.item hgx (by lia) (by lia) (v := .ref j) (by rw [show ((top : Int) + (i : Int)).toNat = top + i from rfl, List.getElem?_map, hj]; rfl) ?_
    repeat' walk_at "st"
    refine ⟨fun e => ?_, fun e => ?_⟩
    · have e0 : bot - top = 0 := by have : ((bot - top : Nat) : Int) = 0 := by simpa using e
                                    lia
      rw [if_pos e0] at rest
      repeat' walk_at "st"
      refine law_due_call T hq (wide := 1) hjr (by lia) hlh (by lia) (by lia) (by lia) (by lia) (by lia) fun k' H₁ K₁ f₁ h₁ => ?_
      refine x14 (rest k' H₁ K₁ f₁ h₁) fun its r1 r2 r3 r4 => ?_
      repeat' walk_at "st"
      have hil : its.length = G.length := by rw [r2]; simpa using hkx
      refine SetI.item r1 (by lia) (by lia) (by lia) ?_
      rw [show ((top : Int) + (i : Int)).toNat = top + i from rfl]
      repeat' walk_at "st"
      · trivial
      · exact ⟨_, rfl, by lia, r3, by rw [if_pos e0]; exact r4⟩
    · have e0 : ¬ bot - top = 0 := by have : ¬ ((bot - top : Nat) : Int) = 0 := by simpa using e
                                      lia
      rw [if_neg e0] at rest
      repeat' walk_at "st"
      refine law_due_call T hq (wide := 2) hjr (by lia) hlh (by lia) (by lia) (by lia) (by lia) (by lia) fun k' H₁ K₁ f₁ h₁ => ?_
      refine x14 (rest k' H₁ K₁ f₁ h₁) fun its r1 r2 r3 r4 => ?_
      repeat' walk_at "st"
      have hil : its.length = G.length := by rw [r2]; simpa using hkx
      refine SetI.item r1 (by lia) (by lia) (by lia) ?_
      rw [show ((top : Int) + (i : Int)).toNat = top + i from rfl]
      repeat' walk_at "st"
      · trivial
      · exact ⟨_, rfl, by lia, r3, by rw [if_neg e0]; exact r4⟩
  · intro loc H' hr93
    refine x14 hr93 ?_; try clear hr93; intro o eq97 hib K hx; subst eq97
    have hul : (upto ((bot - top : Nat) + 1 : Int)).length = bot - top + 1 := by unfold upto; simp
    rw [hul] at hx
    have := q o H' K hx
    dsimp only [LV.loc]
    exact this
theorem law_s15 (e : lawSt 15 = some s15) (eS : lawSc = some sc) (T : Tops c) (hq : c.q = true) {x_deck x_signs x_lines x_codes x_top x_first x_bottom x_last x_low x_high x_grids x_due x_many x_left x_turn : Option MV} {Q : PostF} 
    (B : BufIs H ℓ codes pt 44) (S : SpnOk codes a b) (hz : (doneTxt w codes a b).length ≤ 900)
    (q : ∀ kt pt' H', Keep ℓ.foot H H' → BufIs H' ℓ (doneTxt w codes a b) pt' 234 → IsR H' kt (rowsOf (doneTxt w codes a b)) → Q .next (LV.loc ⟨x_deck, x_signs, x_lines, x_codes, some (.int a), some (.int b), x_top, x_first, x_bottom, x_last, x_low, x_high, x_grids, x_due, some (.ref ℓ.b), some (.str w), x_many, x_left, x_turn, some (.ref kt)⟩) H') : Ex1 c (n + 10) sc s15 (LV.loc ⟨x_deck, x_signs, x_lines, x_codes, some (.int a), some (.int b), x_top, x_first, x_bottom, x_last, x_low, x_high, x_grids, x_due, some (.ref ℓ.b), some (.str w), x_many, x_left, x_turn, Option.none⟩) H Q := by
  cases e
  cases eS
  dsimp only [LV.loc] at q ⊢
  repeat' walk_at "st"
  refine law_done_call T hq B (by lia) S fun k₁ pt₁ H₁ K₁ f₁ B₁ h₁ => ?_
  repeat' walk_at "st"
  refine law_lines_call T hq h₁ hz fun k₂ H₂ K₂ f₂ h₂ => ?_
  repeat' walk_at "st"
  exact q _ pt₁ _ (K₁.trans K₂.weak) (B₁.keep K₂) h₂
theorem law_s16 (e : lawSt 16 = some s16) (eS : lawSc = some sc) (T : Tops c) (hq : c.q = true) {x_deck x_signs x_lines x_one x_other x_top x_first x_bottom x_last x_low x_high x_grids x_due x_buffer x_word x_many x_turn : Option MV} {Q : PostF} 
    (hc : IsI H kc codes) (hcz : codes.length ≤ 60) (ht : IsR H kt told) (hf : IsR H kf left) (ht4 : told.length ≤ 900) (ht6 : ∀ r ∈ told, r.length ≤ 200) (hf4 : left.length ≤ 900) (hf6 : ∀ r ∈ left, r.length ≤ 200) (hgl : 9 ∉ codes → told.map gridOf = left.map gridOf)
    (q : ∀ H', Keep [] H H' → Q .next (LV.loc ⟨x_deck, x_signs, x_lines, some (.ref kc), x_one, x_other, x_top, x_first, x_bottom, x_last, x_low, x_high, x_grids, x_due, x_buffer, x_word, x_many, some (.ref kf), x_turn, some (.ref kt)⟩) H') : Ex1 c (n + 1) sc s16 (LV.loc ⟨x_deck, x_signs, x_lines, some (.ref kc), x_one, x_other, x_top, x_first, x_bottom, x_last, x_low, x_high, x_grids, x_due, x_buffer, x_word, x_many, some (.ref kf), x_turn, some (.ref kt)⟩) H Q := by
  cases e
  cases eS
  dsimp only [LV.loc] at q ⊢
  refine x12 ht fun js ej allj => ?_
  repeat' walk_at "st"
  refine Ev.comp [] (by show compOk _ _ _ [] = true; decide +kernel) .nil ?_
  refine Src.list hq ?_
  repeat' walk_at "st"
  refine ⟨_, _, rfl, ej, get_app ej, ?_⟩
  refine CompL.rows gridOf ht4 ej allj ?_ ?_
  · intro j row H' K hm hrow
    dsimp only [List.map]
    repeat' walk_at "st"
    refine law_grid_call T hq hrow (ht6 row hm) fun k' H₂ K₂ f₂ h₂ => ?_
    repeat' walk_at "st"
    exact ⟨_, rfl, K₂, .inr f₂, h₂⟩
  intro H₁ K₁ h₁
  refine x12 (hf.keep K₁) fun js₂ ej₂ allj₂ => ?_
  refine Ev.comp [] (by show compOk _ _ _ [] = true; decide +kernel) .nil ?_
  refine Src.list hq ?_
  repeat' walk_at "st"
  refine ⟨_, _, rfl, ej₂, get_app ej₂, ?_⟩
  refine CompL.rows gridOf hf4 ej₂ allj₂ ?_ ?_
  · intro j row H' K hm hrow
    dsimp only [List.map]
    repeat' walk_at "st"
    refine law_grid_call T hq hrow (hf6 row hm) fun k' H₂ K₂ f₂ h₂ => ?_
    repeat' walk_at "st"
    exact ⟨_, rfl, K₂, .inr f₂, h₂⟩
  intro H₂ K₂ h₂
  refine Cmp.neR (h₁.keep K₂) h₂ ?_
  refine ⟨fun e => ?_, fun e => ?_⟩
  · refine Run.and ?_
    refine Tst.cmp ?_
    repeat' walk_at "st"
    refine Cmp.notInI (hc.keep (K₁.trans K₂)) ?_
    refine ⟨fun e2 => ?_, fun e2 => ?_⟩
    · exfalso
      have h9 : 9 ∉ codes := fun h => by
        have : codes.any (fun x => x == 9) = true := List.any_eq_true.mpr ⟨9, h, by simp⟩
        rw [this] at e2; cases e2
      rw [hgl h9] at e
      simp at e
    · repeat' walk_at "st"
      refine ⟨fun e3 => (by cases e3), fun _ => ?_⟩
      repeat' walk_at "st"
      exact q _ (K₁.trans K₂)
  · refine ⟨fun e3 => (by cases e3), fun _ => ?_⟩
    repeat' walk_at "st"
    exact q _ (K₁.trans K₂)
end
end
section
section
variable {c : Cx} {n : Nat} {sc : Scope} {loc : Loc} {H : List MO}
theorem Ev.sliceR {value l u sp pos} {Q : Post MV}
    (h : Ev c n sc value loc H fun o H₁ => ∃ k rows, o = .ref k ∧ IsR H₁ k rows ∧ rows.length ≤ 1000 ∧ Part c n sc l loc H₁ fun a H₂ => Part c n sc u loc H₂ fun b H₃ => Keep [] H₁ H₃ ∧ ∀ H₄, Keep [] H₃ H₄ → IsR H₄ H₃.length (pick rows a b) → Q (.ref H₃.length) H₄)
    (hs : ∀ x y, subscripted (.Slice l u Option.none sp) false (.ref x) (.ref y) = operate [.ref y, .ref x] (getItem (.ref x) (.ref y)) := by intro _ _; rfl) : Ev c n sc (.Subscript value (.Slice l u Option.none sp) pos) loc H Q := by
  refine Ev.slice (Run.mono h fun v H₁ q => ?_) hs
  refine x24 q ?_; try clear q; intro k rows eq27 hx28 hz q; subst eq27; obtain ⟨ks, e, all⟩ := hx28
  have al := all.length
  refine i24 k (ks.map .ref) rfl e (by simp; lia) ?_
  have m2 : ∀ {b : Option Expr} {loc H} {Q Q' : Post (Option Int)}, Part c n sc b loc H Q → (∀ v H, Q v H → Q' v H) → Part c n sc b loc H Q' := by
    intro b loc H Q Q' h f
    cases b with
    | none => exact f _ _ h
    | some e => exact Run.mono h fun v H' ⟨i, e, q⟩ => ⟨i, e, f _ _ q⟩
  refine m2 q fun a H₂ q => m2 q fun b H₃ q => ⟨q.1.get0 e, ?_⟩
  rw [pick_map]
  refine q.2 _ Keep.app (i12 _ get_new ((pick_all2 (all2_keep all q.1 (by simp)) a b).mono fun _ _ h => get_app h))
variable {nm : Str} {ar : Arguments} {s0 s1 s2 s3 s4 s5 s6 s7 s8 s9 s10 s11 s12 s13 s14 s15 s16 s17 s18 s19 s20 : Stmt} {rs : List Stmt} {kd ks kl kc kg ku kf kt : Nat} {deck codes txt : List Int} {L G D told left : List (List Int)} {ℓ : BLay} {pt : Int} {a b : Nat} {w : Str}
theorem law_s17 (e : lawSt 17 = some s17) (eS : lawSc = some sc) (T : Tops c) (hq : c.q = true) {x_deck x_signs x_one x_other x_first x_last x_low x_due x_buffer x_many x_left x_turn : Option MV} {top bot high : Nat} {Q : PostF} 
    (hc : IsI H kc codes) (hcz : codes.length ≤ 60) (ht : IsR H kt told) (hL : IsR H kl L) (hg : IsR H kg G) (ht4 : told.length ≤ 900) (hL4 : L.length ≤ 4) (hg4 : G.length ≤ 4) (hg6 : ∀ r ∈ G, r.length ≤ 24) (e1 : told.take top = L.take top) (e2 : told.drop (bot + 1) = L.drop (bot + 1))
    (q : ∀ H', Keep [] H H' → 9 ∉ codes → w = "kill" → (∀ g ∈ (G.drop top).take (bot + 1 - top), high ≤ g.length) → Q .next (LV.loc ⟨x_deck, x_signs, some (.ref kl), some (.ref kc), x_one, x_other, some (.int top), x_first, some (.int bot), x_last, x_low, some (.int high), some (.ref kg), x_due, x_buffer, some (.str w), x_many, x_left, x_turn, some (.ref kt)⟩) H') (qr : ∀ H', Q (.ret (.bool true)) (LV.loc ⟨x_deck, x_signs, some (.ref kl), some (.ref kc), x_one, x_other, some (.int top), x_first, some (.int bot), x_last, x_low, some (.int high), some (.ref kg), x_due, x_buffer, some (.str w), x_many, x_left, x_turn, some (.ref kt)⟩) H') : Ex1 c n sc s17 (LV.loc ⟨x_deck, x_signs, some (.ref kl), some (.ref kc), x_one, x_other, some (.int top), x_first, some (.int bot), x_last, x_low, some (.int high), some (.ref kg), x_due, x_buffer, some (.str w), x_many, x_left, x_turn, some (.ref kt)⟩) H Q := by
  cases e
  cases eS
  dsimp only [LV.loc] at q qr ⊢
  refine Ex1.ite (Run.mono (Q := fun x H₁ => Keep [] H H₁ ∧ (x = false → 9 ∉ codes ∧ w = "kill" ∧ ∀ g ∈ (G.drop top).take (bot + 1 - top), high ≤ g.length)) ?_ fun x H₁ p => ⟨fun _ => ?_, fun hx => ?_⟩)
  · show Tst c n _ _ _ _ _
    repeat' walk_at "st"
    refine Cmp.inI hc ?_
    refine ⟨fun e9 => ?_, fun e9 => ⟨Keep.refl, fun h => (by cases h)⟩⟩
    have h9 : 9 ∉ codes := fun h => by
      have : codes.any (fun x => x == 9) = true := List.any_eq_true.mpr (i12 9 h (by simp))
      rw [this] at e9; cases e9
    refine Run.or ?_
    repeat' walk_at "st"
    refine ⟨fun e8 => ?_, fun e8 => ⟨Keep.refl, fun h => (by cases h)⟩⟩
    have hw : w = "kill" := by simpa using e8
    refine Run.or1 ?_
    refine Tst.cmp ?_
    refine Ev.comp [("high", .int high)] (by show compOk _ _ _ ["high"] = true; decide +kernel) (.cons (by (with_reducible repeat constructor)) .nil) ?_
    refine x12 hg ?_; try clear hg; intro ks' e' all
    have al := all.length
    refine Src.list hq ?_
    refine Ev.slice ?_
    repeat' walk_at "st"
    refine i24 _ _ rfl e' (by simp; lia) (Part.some ?_)
    repeat' walk_at "st"
    refine And.intro e' (i24 _ _ rfl get_new (get_app get_new) ?_)
    rw [show (bot : Int) + 1 = ((bot + 1 : Nat) : Int) from rfl, pick_mid, ← List.map_drop, ← List.map_take]
    have all' : All2 (IsI (H ++ [MO.list (((ks'.drop top).take (bot + 1 - top)).map MV.ref)])) ((ks'.drop top).take (bot + 1 - top)) ((G.drop top).take (bot + 1 - top)) := ((all.drop top).take _).mono fun _ _ h => get_app h
    generalize (ks'.drop top).take (bot + 1 - top) = kz at all' ⊢
    generalize hsg : (G.drop top).take (bot + 1 - top) = sg at all' ⊢
    have hsz : sg.length ≤ 4 := by rw [← hsg]; simp; exact mbl hg4
    have hs6 : ∀ r ∈ sg, r.length ≤ 24 := fun r hr => hg6 r (by rw [← hsg] at hr; exact List.mem_of_mem_drop (List.mem_of_mem_take hr))
    have kzl := all'.length
    refine CompL.inv (fun i acc H' => i ≤ sg.length ∧ Keep [] (H ++ [MO.list (kz.map MV.ref)]) H' ∧ ∃ xs : List Int, acc = xs.map .int ∧ xs.length ≤ i ∧ (xs = [] → ∀ g ∈ sg.take i, high ≤ g.length)) _ ?_ ?_ get_new (i03 (Nat.zero_le _) Keep.app (i13 ([]) rfl (Nat.le_refl _) (by simp)))
    · intro i v acc H' hv hD hr25
      refine x03 hr25 ?_; try clear hr25; intro hi K ht29; refine x13 ht29 ?_; clear ht29; intro xs eq30 hxl hxs; subst eq30
      rw [List.getElem?_map, Option.map_eq_some_iff] at hv
      refine x12 hv ?_; try clear hv; intro j hj eq31; subst eq31
      refine x12 (all'.get hj) fun row hrow hr => ?_
      have hir : i < sg.length := (List.getElem?_eq_some_iff.mp hrow).1
      have hr' := hr.keep K
      have hr24 := hs6 row (List.mem_of_getElem? hrow)
      refine Ifs.one ?_
      dsimp only [compLoc, List.map]
      repeat' walk_at "st"
      have hne : (H ++ [MO.list (kz.map MV.ref)]).length ≠ H.length := by simp
      have hHk : H'[H.length]? = some (.list (kz.map MV.ref)) := K.get0 get_new
      refine ⟨fun e => ?_, fun e => i05 hD hHk hir K (i13 xs rfl (by lia) (fun hx0 g hg => ?_))⟩
      · repeat' walk_at "st"
        exact i06 hD (by simp; lia) (get_set_ne hne.symm hHk) hir (K.setNew (Nat.le_refl _)) (i13 (xs ++ [1]) (by simp) (by simp; lia) (by simp))
      · rw [take_snoc hrow] at hg
        rcases List.mem_append.mp hg with hg | hg
        · exact hxs hx0 g hg
        · simp at hg; subst hg
          have : ¬ ((g.length : Int) < (high : Int)) := by simpa using e
          lia
    · intro acc H' hD hr26
      refine x03 hr26 ?_; try clear hr26; intro hi K ht32; refine x13 ht32 ?_; clear ht32; intro xs eq33 hxl hxs; subst eq33
      repeat' walk_at "st"
      refine Cmp.neI (xs := xs) (ys := []) (get_app hD) get_new ?_
      refine ⟨(Keep.app.trans K).trans Keep.app, fun e => i03 h9 hw ?_⟩
      have hx0 : xs = [] := by simpa using e
      have := hxs hx0
      rw [show (kz.map MV.ref).length = sg.length by simpa using kzl, List.take_length] at this
      exact this
  · refine x02 p ?_; try clear p; intro K _
    refine Ex.cons (Ex1.ret (Ev.and (Ev.cmp (Ev.sliceR ?_))))
    repeat' walk_at "st"
    refine i24 _ _ rfl (ht.keep K) (by lia) (Part.none (Part.some ?_))
    repeat' walk_at "st"
    refine ⟨Keep.refl, fun H₂ K₂ h₂ => ?_⟩
    refine Ev.sliceR ?_
    repeat' walk_at "st"
    refine i24 _ _ rfl ((hL.keep K).keep K₂) (by lia) (Part.none (Part.some ?_))
    repeat' walk_at "st"
    refine ⟨Keep.refl, fun H₃ K₃ h₃ => ?_⟩
    refine Cmp.eqR (h₂.keep K₃) h₃ ?_
    repeat' walk_at "st"
    refine ⟨fun _ => ?_, fun e => ?_⟩
    · refine Ev.bool1 (Ev.cmp (Ev.sliceR ?_))
      repeat' walk_at "st"
      refine i24 _ _ rfl (((ht.keep K).keep K₂).keep K₃) (by lia) (Part.some ?_)
      repeat' walk_at "st"
      first | refine Part.none ?_ | skip
      refine ⟨Keep.refl, fun H₄ K₄ h₄ => ?_⟩
      refine Ev.sliceR ?_
      repeat' walk_at "st"
      refine i24 _ _ rfl ((((hL.keep K).keep K₂).keep K₃).keep K₄) (by lia) (Part.some ?_)
      repeat' walk_at "st"
      first | refine Part.none ?_ | skip
      refine ⟨Keep.refl, fun H₅ K₅ h₅ => ?_⟩
      refine Cmp.eqR (h₄.keep K₅) h₅ ?_
      rw [show (bot : Int) + 1 = ((bot + 1 : Nat) : Int) from rfl, pick_drop, pick_drop, e2]
      repeat' walk_at "st"
      rw [decide_eq_true rfl]
      exact qr _
    · rw [pick_take, pick_take, e1] at e
      simp at e
  · refine x02 p ?_; try clear p; intro K p
    refine x03 (p hx) fun p1 p2 p3 => ?_
    repeat' walk_at "st"
    exact q _ K p1 p2 p3
theorem law_s18 (e : lawSt 18 = some s18) (eS : lawSc = some sc) (T : Tops c) (hq : c.q = true) {x_deck x_signs x_lines x_codes x_one x_other x_first x_bottom x_last x_high x_grids x_due x_word x_many x_turn x_told : Option MV} {top low M : Nat} {Q : PostF} 
    (hf : IsR H kf left) (hf4 : left.length ≤ 4) (hf6 : ∀ r ∈ left, r.length ≤ 100) (B : BufIs H ℓ txt pt M)
    (q : ∀ H', Keep ℓ.foot H H' → BufIs H' ℓ txt ((1 + (joinRows (left.take top)).length + (if 0 < top then 1 else 0) + low : Nat) : Int) M → Q .next (LV.loc ⟨x_deck, x_signs, x_lines, x_codes, x_one, x_other, some (.int top), x_first, x_bottom, x_last, some (.int low), x_high, x_grids, x_due, some (.ref ℓ.b), x_word, x_many, some (.ref kf), x_turn, x_told⟩) H') : Ex1 c (n + 2) sc s18 (LV.loc ⟨x_deck, x_signs, x_lines, x_codes, x_one, x_other, some (.int top), x_first, x_bottom, x_last, some (.int low), x_high, x_grids, x_due, some (.ref ℓ.b), x_word, x_many, some (.ref kf), x_turn, x_told⟩) H Q := by
  cases e
  cases eS
  dsimp only [LV.loc] at q ⊢
  refine Ex1.setattr (Ev.binop (Ev.binop (Ev.binop (Ev.int ?_))))
  refine Ev.bcall (T.nogl 0 rfl) boot_len (Evs.cons (Ev.top T 50 rfl (Evs.cons (Ev.sliceR ?_))))
  repeat' walk_at "st"
  refine i24 _ _ rfl hf (by lia) (Part.none (Part.some ?_))
  repeat' walk_at "st"
  refine ⟨Keep.refl, fun H₂ K₂ h₂ => ?_⟩
  rw [pick_take] at h₂
  repeat' walk_at "st"
  have hb : ∀ r ∈ left.take top, r.length ≤ 100 := fun r hr => hf6 r (List.mem_of_mem_take hr)
  have hjl : (joinRows (left.take top)).length ≤ 404 := by
    refine Nat.le_trans (joinRows_le (left.take top) 100 hb) ?_
    have : (left.take top).length ≤ 4 := by simp; lia
    have := Nat.mul_le_mul_right (100 + 1) this
    lia
  refine law_joined_call T hq h₂ (by simp; lia) hb fun kj H₃ K₃ f₃ h₃ => ?_
  refine x21 (id ((B.keep K₂).keep K₃)) fun tk₃ ck₃ B₃ => ?_
  repeat' walk_at "st"
  refine ⟨fun e => ?_, fun e => ?_⟩
  · have e' : 0 < top := by have : (top : Int) > 0 := by simpa using e
                            lia
    rw [if_pos e'] at q
    repeat' walk_at "st"
    refine Set.bufPoint T B₃ fun H₄ B₄ K₄ => ?_
    repeat' walk_at "st"
    refine q _ (((K₂.trans K₃).weak).trans (keepDb K₄ rfl)) (i21 tk₃ ck₃ ?_)
    rw [show (((1 + (joinRows (left.take top)).length + 1 + low : Nat)) : Int) = 1 + ((joinRows (left.take top)).length : Int) + 1 + (low : Int) from rfl]
    exact B₄
  · have e' : ¬ 0 < top := by have : ¬ (top : Int) > 0 := by simpa using e
                              lia
    rw [if_neg e'] at q
    repeat' walk_at "st"
    refine Set.bufPoint T B₃ fun H₄ B₄ K₄ => ?_
    repeat' walk_at "st"
    refine q _ (((K₂.trans K₃).weak).trans (keepDb K₄ rfl)) (i21 tk₃ ck₃ ?_)
    rw [show (((1 + (joinRows (left.take top)).length + 0 + low : Nat)) : Int) = 1 + ((joinRows (left.take top)).length : Int) + 0 + (low : Int) from rfl]
    exact B₄
theorem law_s19 (e : lawSt 19 = some s19) (eS : lawSc = some sc) (T : Tops c) (hq : c.q = true) {x_deck x_signs x_lines x_codes x_one x_other x_top x_first x_bottom x_last x_low x_high x_grids x_word x_many x_left x_turn x_told : Option MV} {p M : Nat} {Q : PostF} 
    (B : BufIs H ℓ txt (p : Nat) M) (hM : M + (joinRows (yankFound txt (p - 1) D)).length ≤ 380) (hr : IsR H ku D) (hkr : ku ∉ ℓ.foot) (hoff : ∀ ks : List Nat, H[ku]? = some (.list (ks.map .ref)) → ∀ j ∈ ks, j ∉ ℓ.foot) (Y : YankOk txt p D)
    (q : ∀ pt' H', Keep ℓ.foot H H' → BufIs H' ℓ (yankTxt txt (p - 1) D) pt' 390 → Q .next (LV.loc ⟨x_deck, x_signs, x_lines, x_codes, x_one, x_other, x_top, x_first, x_bottom, x_last, x_low, x_high, x_grids, some (.ref ku), some (.ref ℓ.b), x_word, x_many, x_left, x_turn, x_told⟩) H') : Ex1 c (n + 7) sc s19 (LV.loc ⟨x_deck, x_signs, x_lines, x_codes, x_one, x_other, x_top, x_first, x_bottom, x_last, x_low, x_high, x_grids, some (.ref ku), some (.ref ℓ.b), x_word, x_many, x_left, x_turn, x_told⟩) H Q := by
  cases e
  cases eS
  dsimp only [LV.loc] at q ⊢
  repeat' walk_at "st"
  refine yank_call T hq B hM hr hkr hoff Y fun pt' H' K' B' => ?_
  repeat' walk_at "st"
  exact q pt' H' K' B'
theorem law_s20 (e : lawSt 20 = some s20) (eS : lawSc = some sc) (T : Tops c) (hq : c.q = true) {x_deck x_signs x_lines x_one x_other x_top x_first x_bottom x_last x_low x_high x_grids x_due x_word x_many x_left x_turn x_told : Option MV} {Q : PostF} 
    (B : BufIs H ℓ codes pt 390) (hc : IsI H kc codes) (hcz : codes.length ≤ 60)
    (q : ∀ H', Q (.ret (.bool true)) (LV.loc ⟨x_deck, x_signs, x_lines, some (.ref kc), x_one, x_other, x_top, x_first, x_bottom, x_last, x_low, x_high, x_grids, x_due, some (.ref ℓ.b), x_word, x_many, x_left, x_turn, x_told⟩) H') : Ex1 c (n + 7) sc s20 (LV.loc ⟨x_deck, x_signs, x_lines, some (.ref kc), x_one, x_other, x_top, x_first, x_bottom, x_last, x_low, x_high, x_grids, x_due, some (.ref ℓ.b), x_word, x_many, x_left, x_turn, x_told⟩) H Q := by
  cases e
  cases eS
  dsimp only [LV.loc] at q ⊢
  refine x21 B fun tk ck BS => ?_
  repeat' walk_at "st"
  refine Ev.meth T 15 rfl (by decide) ?_
  repeat' walk_at "st"
  refine i35 _ _ _ rfl BS.inst BS.ns (by kernel_rfl) ?_
  repeat' walk_at "st"
  refine Ev.meth0 T 13 rfl (by decide) ?_
  repeat' walk_at "st"
  refine i35 _ _ _ rfl BS.inst BS.ns (by kernel_rfl) ?_
  refine buf_size T BS (by lia) ?_
  repeat' walk_at "st"
  refine buf_codes (a := 1) (b := codes.length + 1) T BS (by lia) (by lia) (by lia) (by lia) fun k₃ H₃ K₃ f₃ h₃ => ?_
  simp only [Nat.sub_self, List.drop_zero, Nat.add_sub_cancel, List.take_length] at h₃
  repeat' walk_at "st"
  refine Cmp.eqI h₃ (hc.keep K₃) ?_
  rw [decide_eq_true rfl]
  repeat' walk_at "st"
  exact q _
end
end
section
/-! the statements, one behind the other -/
theorem BufIs.keepDeck {H H' : List MO} {ℓ : BLay} {txt deck : List Int} {pt : Int} {M kd : Nat} (B : BufIs H ℓ txt pt M) (K : Keep [kd] H H') (hk : IsI H kd deck) (h1 : ℓ.ls ≠ kd) (h2 : ℓ.kc ≠ kd) : BufIs H' ℓ txt pt M := by
  refine x21 B ?_; try clear B; intro tk ck B
  refine x32 (id B.gap) fun cells gs ge G r => ?_
  have ne : ∀ {k : Nat} {m : MO}, H[k]? = some m → m ≠ .list (deck.map .int) → H'[k]? = some m := fun h h9 => K.get (by
    simp only [List.mem_cons, List.not_mem_nil, or_false]
    exact fun e => by subst e; rw [hk] at h; exact h9 (Option.some.inj h).symm) h
  exact ⟨tk, ck, ne B.inst (by intro h; cases h), ne B.ns (by intro h; cases h), ⟨cells, gs, ge, ⟨ne G.inst (by intro h; cases h), ne G.ns (by intro h; cases h), K.get (by simpa using h2) G.cells⟩, r⟩, ne B.mki (by intro h; cases h), ne B.mkn (by intro h; cases h), ne B.mkd (by intro h; cases h), K.get (by simpa using h1) B.lst, B.lk⟩
noncomputable def dueRows (L : List (List Int)) (top bot low high : Nat) : List (List Int) := (((L.map gridOf).drop top).take (bot + 1 - top)).map fun g => cutOf g low high
noncomputable def leftOf (w : Str) (L : List (List Int)) (top bot low high : Nat) : List (List Int) := leftRows w (L.map gridOf) top low high (if bot - top = 0 then 1 else 2) (bot - top + 1)
noncomputable def backAt (left : List (List Int)) (top low : Nat) : Nat := 1 + (joinRows (left.take top)).length + (if 0 < top then 1 else 0) + low
/-- what the law has drawn -/
structure LawIn (L : List (List Int)) (a b : Nat) : Prop where
  l1 : 1 ≤ L.length
  l4 : L.length ≤ 4
  r6 : ∀ r ∈ L, r.length ≤ 6 ∧ ∀ x ∈ r, x ∈ allSigns
  a1 : 1 ≤ a
  a2 : a ≤ (joinRows L).length + 1
  b1 : 1 ≤ b
  b2 : b ≤ (joinRows L).length + 1
/-- what is so of it -/
structure LawFacts (L : List (List Int)) (a b top bot low high : Nat) : Prop where
  tb : top ≤ bot
  bl : bot < L.length
  lh : low ≤ high
  hh : high ≤ 24
  sp : SpnOk (joinRows L) a b
  ex : (spanOf (joinRows L) a b).rows.map (fun r => extracted r (spanOf (joinRows L) a b).f (spanOf (joinRows L) a b).l) = dueRows L top bot low high
  dz : ∀ w ∈ theWords, (doneTxt w (joinRows L) a b).length ≤ 900
  tz : ∀ w ∈ theWords, (rowsOf (doneTxt w (joinRows L) a b)).length ≤ 900 ∧ ∀ r ∈ rowsOf (doneTxt w (joinRows L) a b), r.length ≤ 200
  lz : ∀ w ∈ theWords, ∀ r ∈ leftOf w L top bot low high, r.length ≤ 100
  gl : ∀ w ∈ theWords, 9 ∉ joinRows L → (rowsOf (doneTxt w (joinRows L) a b)).map gridOf = (leftOf w L top bot low high).map gridOf
  t1 : ∀ w ∈ theWords, (rowsOf (doneTxt w (joinRows L) a b)).take top = L.take top
  t2 : ∀ w ∈ theWords, (rowsOf (doneTxt w (joinRows L) a b)).drop (bot + 1) = L.drop (bot + 1)
  yk : 9 ∉ joinRows L → (∀ g ∈ ((L.map gridOf).drop top).take (bot + 1 - top), high ≤ g.length) →
    YankOk (doneTxt "kill" (joinRows L) a b) (backAt (leftOf "kill" L top bot low high) top low) (dueRows L top bot low high) ∧
    (joinRows (yankFound (doneTxt "kill" (joinRows L) a b) (backAt (leftOf "kill" L top bot low high) top low - 1) (dueRows L top bot low high))).length ≤ 100 ∧
    yankTxt (doneTxt "kill" (joinRows L) a b) (backAt (leftOf "kill" L top bot low high) top low - 1) (dueRows L top bot low high) = joinRows L
end
section
section
variable {c : Cx} {n : Nat} {sc : Scope} {H6 H2 : List MO} {nm : Str} {ar : Arguments} {s0 s1 s2 s3 s4 s5 s6 s7 s8 s9 s10 s11 s12 s13 s14 s15 s16 s17 s18 s19 s20 : Stmt} {kd ks kl kc : Nat} {deck : List Int} {L : List (List Int)} {a b top fst bot lst low high : Nat} {Q : PostF}
theorem law_tail (F : LawFacts L a b top bot low high) (e : fdAt 79 = some (nm, ar, [s0, s1, s2, s3, s4, s5, s6, s7, s8, s9, s10, s11, s12, s13, s14, s15, s16, s17, s18, s19, s20], sc)) (T : Tops c) (hq : c.q = true) (hx : excOk c.K = true) (hfn : fnOk c.K = true)
    (hl4 : L.length ≤ 4) (hl6 : ∀ r ∈ L, r.length ≤ 6) (hcz : (joinRows L).length ≤ 28) (ha1 : 1 ≤ a) (hz4 : deck.length ≤ 40) (hcd : kc ≠ kd) (hk6 : IsI H6 kd deck) (hL6 : IsRb kd H2.length H6 kl L) (hH26 : H2.length ≤ H6.length) (hc6 : IsI H6 kc (joinRows L))
    (qr : ∀ loc H', Q (.ret (.bool true)) loc H') :
    ExO c (n + 10) sc [s7, s8, s9, s10, s11, s12, s13, s14, s15, s16, s17, s18, s19, s20]
      (LV.loc { deck := some (.ref kd), signs := some (.ref ks), lines := some (.ref kl), codes := some (.ref kc), one := some (.int a), other := some (.int b), top := some (.int top), first := some (.int fst), bottom := some (.int bot), last := some (.int lst), low := some (.int low), high := some (.int high) }) H6 Q := by
  have hbl : bot < (L.map gridOf).length := by simpa using F.bl
  have hg24 : ∀ r ∈ L.map gridOf, r.length ≤ 24 := fun r hr => by
    refine x12 (List.mem_map.mp hr) fun x hx eq40 => ?_; subst eq40
    have := gridOf_le x; have := hl6 x hx; lia
  refine ExO.cons (law_s7 (n := n + 9) (lawSt_of e 7) (lawSc_of e) T hq hk6.lt hL6.isR hl4 hl6 fun kg H7 K7 hg7 => SeqO.next ?_)
  have hk7 := hk6.keep K7
  refine ExO.cons (law_s8 (n := n + 9) (lawSt_of e 8) (lawSc_of e) T hq hk7.lt hg7.isR (by simpa using hl4) hg24 F.lh F.hh fun ku H8 K8 hu8 => SeqO.next ?_)
  have hk8 := hk7.keep K8
  have hc8 := (hc6.keep K7).keep K8
  have hL8 : IsRb kd H2.length H8 kl L := (hL6.keep K7 (by simp)).keep K8 (by simp)
  have hg8 : IsRb kd H7.length H8 kg (L.map gridOf) := hg7.keep K8 (by simp)
  have hH78 := K8.1
  have hH67 := K7.1
  refine ExO.cons (law_s9 (n := n + 4) (lawSt_of e 9) (lawSc_of e) T hq hc8 hcz fun ℓ pt9 H9 K9 hf9 B9 => SeqO.next ?_)
  have hkd8 := hk8.lt
  have hkc8 := hc8.lt
  have hH89 := K9.1
  have hfo : ∀ j ∈ ℓ.foot, H8.length ≤ j := fun j hj => hf9 j (.tail _ hj)
  have hlsd : ℓ.ls ≠ kd := by have := hf9 _ (.head _); lia
  have hkcd : ℓ.kc ≠ kd := by have := hfo ℓ.kc (by simp [BLay.foot]); lia
  refine ExO.cons (law_s10 (n := n + 3) (lawSt_of e 10) (lawSc_of e) T hq (hc8.keep K9) (hu8.keep K9 (by simp)).isR B9 F.sp F.ex fun H10 K10 => SeqO.next ?_)
  have K810 := K9.trans K10
  have B10 := B9.keep K10
  refine law_s11 (n := n + 2) (lawSt_of e 11) (lawSc_of e) T hq hx hfn (hc8.keep K810) (by lia) B10 ha1 fun H11 K11 => ?_
  have K811 := K810.trans K11
  have B11 := B10.keep K11
  have hk11 := hk8.keep K811
  refine ExO.cons (law_s12 (n := n + 9) (lawSt_of e 12) (lawSc_of e) T hq F.tb hk11 hz4 fun w H12 hw K12 => SeqO.next ?_)
  have B12 := B11.keepDeck K12 hk11 hlsd hkcd
  have hg12 : IsRb kd H7.length H12 kg (L.map gridOf) := (hg8.keep K811 (by simp)).keep K12 (by simp)
  have hL12 : IsRb kd H2.length H12 kl L := (hL8.keep K811 (by simp)).keep K12 (by simp)
  have hu12 : IsRb kd H8.length H12 ku _ := (hu8.keep K811 (by simp)).keep K12 (by simp)
  have hc12 : IsI H12 kc (joinRows L) := (hc8.keep K811).keepF K12 (by simpa using hcd)
  have hH812 : H8.length ≤ H12.length := Nat.le_trans K811.1 K12.1
  refine ExO.cons (law_s13 (n := n + 10) (lawSt_of e 13) (lawSc_of e) T hq hg12 (by lia) (by simpa using hl4) fun H13 K13 hn13 hf13 => SeqO.next ?_)
  refine ExO.cons (law_s14 (n := n + 9) (lawSt_of e 14) (lawSc_of e) T hq (hg12.keep K13 (by simp)) hf13 hn13.symm (by simpa using hl4) hg24 F.tb hbl F.lh F.hh fun o H14 K14 hf14 => SeqO.next ?_)
  have K1214 := K13.fresh K14 (by simp)
  have B14 := B12.keep K1214
  have hfl : ∀ j ∈ ℓ.foot, j < H12.length := by refine x21 B12 ?_; try clear B12; intro _ _ B; exact foot_lt B
  refine ExO.cons (law_s15 (n := n) (lawSt_of e 15) (lawSc_of e) T hq B14 F.sp (F.dz w hw) fun kt pt15 H15 K15 B15 ht15 => SeqO.next ?_)
  have hf15 := hf14.keep K15 fun j hj => ⟨by have := hfo j hj; lia, hfl j hj⟩
  have hc15 : IsI H15 kc (joinRows L) := (hc12.keep K1214).keepF K15 fun h => by have := hfo _ h; lia
  have fk : ∀ j ∈ ℓ.foot, j = kd ∨ H8.length ≤ j := fun j hj => .inr (hfo j hj)
  have hL15 := (hL12.keep K1214 (by simp)).keep K15 fun j hj => (fk j hj).imp id fun h => by lia
  have hg15 := (hg12.keep K1214 (by simp)).keep K15 fun j hj => (fk j hj).imp id fun h => by lia
  have hu15 := (hu12.keep K1214 (by simp)).keep K15 fk
  refine ExO.cons (law_s16 (n := n + 9) (lawSt_of e 16) (lawSc_of e) T hq hc15 (by lia) ht15 hf15.isR (F.tz w hw).1 (F.tz w hw).2 (by show (leftRows _ _ _ _ _ _ _).length ≤ 900; rw [leftRows_len]; simp; lia) (fun r hr => Nat.le_trans (F.lz w hw r hr) (by decide)) (F.gl w hw) fun H16 K16 => SeqO.next ?_)
  refine ExO.cons (law_s17 (n := n + 10) (lawSt_of e 17) (lawSc_of e) T hq (hc15.keep K16) (by lia) (ht15.keep K16) (hL15.keep K16 (by simp)).isR (hg15.keep K16 (by simp)).isR (F.tz w hw).1 hl4 (by simpa using hl4) hg24 (F.t1 w hw) (F.t2 w hw) (fun H17 K17 h9 hwk hsg => SeqO.next ?_) fun H17 => qr _ _)
  subst hwk
  have hyk := F.yk h9 hsg
  have y1 := hyk.1
  have y2 := hyk.2.1
  have y3 := hyk.2.2
  clear hyk
  have K1517 := K16.trans K17
  refine ExO.cons (law_s18 (n := n + 8) (lawSt_of e 18) (lawSc_of e) T hq (hf15.keep K1517 (by simp)).isR (by show (leftRows _ _ _ _ _ _ _).length ≤ 4; rw [leftRows_len]; simpa using hl4) (F.lz _ hw) (B15.keep K1517) fun H18 K18 B18 => SeqO.next ?_)
  have hu18 := (hu15.keep K1517 (by simp)).keep K18 fk
  refine ExO.cons (law_s19 (n := n + 3) (p := backAt (leftOf "kill" L top bot low high) top low) (D := dueRows L top bot low high) (lawSt_of e 19) (lawSc_of e) T hq B18 (by lia) hu18.isR ?_ ?_ y1 fun pt19 H19 K19 B19 => SeqO.next ?_)
  · refine x13 hu18 ?_; try clear hu18; intro ks' e' _ no
    intro h
    have h1 := (no ku (.head _)).2
    have h2 := hfo ku h
    lia
  · intro ks' e' j hj h
    have h1 := (hu18.refs ks' e' j (.tail _ hj)).2
    have h2 := hfo j h
    lia
  rw [y3] at B19
  refine ExO.cons (law_s20 (n := n + 3) (lawSt_of e 20) (lawSc_of e) T hq B19 ?_ (by lia) fun H20 => qr _ _)
  exact ((hc15.keep K1517).keepF K18 fun h => by have := hfo _ h; lia).keepF K19 fun h => by have := hfo _ h; lia
theorem law_body {H : List MO} (P : ∀ L a b, LawIn L a b → LawFacts L a b (spotOf (joinRows L) (min a b)).1 (spotOf (joinRows L) (max a b)).1 (min (spotOf (joinRows L) (min a b)).2 (spotOf (joinRows L) (max a b)).2) (max (spotOf (joinRows L) (min a b)).2 (spotOf (joinRows L) (max a b)).2))
    (e : fdAt 79 = some (nm, ar, [s0, s1, s2, s3, s4, s5, s6, s7, s8, s9, s10, s11, s12, s13, s14, s15, s16, s17, s18, s19, s20], sc)) (T : Tops c) (hq : c.q = true) (hx : excOk c.K = true) (hfn : fnOk c.K = true) (hns : c.ns.length ≤ 1000)
    (qr : ∀ loc H', Q (.ret (.bool true)) loc H') : ExO c (n + 10) sc [s0, s1, s2, s3, s4, s5, s6, s7, s8, s9, s10, s11, s12, s13, s14, s15, s16, s17, s18, s19, s20] (LV.loc {}) H Q := by
  refine ExO.cons (law_s0 (n := n + 10) (lawSt_of e 0) (lawSc_of e) T hq hns fun kd deck0 H0 K0 hk0 hd0 => SeqO.next ?_)
  refine ExO.cons (law_s1 (n := n + 9) (lawSt_of e 1) (lawSc_of e) T hk0 hd0 fun ks deck1 signs H1 K1 hk1 hd1 hs1 hne hs0 hsz hal => SeqO.next ?_)
  refine ExO.cons (law_s2 (n := n + 8) (lawSt_of e 2) (lawSc_of e) T hq hk1 hd1 hs1 hne hs0 hsz hal fun kl deck2 L H2 K2 hk2 hd2 hL2 l1 l4 l6 => SeqO.next ?_)
  refine ExO.cons (law_s3 (n := n + 8) (lawSt_of e 3) (lawSc_of e) T hq hL2.isR l4 l6 fun kc H3 K3 hf3 hc3 => SeqO.next ?_)
  have hk3 := hk2.keep K3
  have hL3 : IsRb kd H2.length H3 kl L := hL2.keep K3 (by simp)
  have hcd : kc ≠ kd := by have := hk2.lt; lia
  have hz := joinRows_le L 6 fun r hr => (l6 r hr).1
  refine ExO.cons (law_s4 (n := n + 9) (lawSt_of e 4) (lawSc_of e) T hq hk3 hd2 hc3 (by lia) hcd fun a b deck4 H4 K4 hk4 hd4 a1 a2 b1 b2 => SeqO.next ?_)
  have hL4 : IsRb kd H2.length H4 kl L := hL3.keep K4 (by simp)
  have hc4 : IsI H4 kc (joinRows L) := hc3.keepF K4 (by simpa using hcd)
  have F := P L a b ⟨l1, l4, l6, a1, a2, b1, b2⟩
  refine ExO.cons (law_s5 (n := n + 8) (lawSt_of e 5) (lawSc_of e) T hq hc4 (by lia) a1 b1 fun H5 K5 => SeqO.next ?_)
  refine ExO.cons (law_s6 (n := n + 10) (lawSt_of e 6) (lawSc_of e) T hq fun H6 K6 => SeqO.next ?_)
  have K46 := K5.trans K6
  have hH23 := K3.1
  have hH34 := K4.1
  have hH46 := K46.1
  exact law_tail F e T hq hx hfn l4 (fun r hr => (l6 r hr).1) (by lia) a1 hd4 hcd (hk4.keep K46) (hL4.keep K46 (by simp)) (by lia) (hc4.keep K46) qr
end
end
section
/-! rows joined and parted again -/
noncomputable def preRows (A : List (List Int)) : List Int := A.flatMap fun r => r ++ [10]
noncomputable def postRows (B : List (List Int)) : List Int := B.flatMap fun r => 10 :: r
theorem preRows_cons (r : List Int) (A : List (List Int)) : preRows (r :: A) = r ++ 10 :: preRows A := by simp [preRows]
theorem preRows_append (A B : List (List Int)) : preRows (A ++ B) = preRows A ++ preRows B := by simp [preRows]
theorem postRows_cons (r : List Int) (B : List (List Int)) : postRows (r :: B) = 10 :: r ++ postRows B := by simp [postRows]
theorem postRows_append (A B : List (List Int)) : postRows (A ++ B) = postRows A ++ postRows B := by simp [postRows]
theorem joinRows_cons (r : List Int) (B : List (List Int)) : joinRows (r :: B) = r ++ postRows B := rfl
theorem joinRows_split : ∀ (A : List (List Int)) (r : List Int) (B : List (List Int)), joinRows (A ++ r :: B) = preRows A ++ (r ++ postRows B)
  | [], r, B => by simp [joinRows_cons, preRows]
  | x :: A, r, B => by
    rw [List.cons_append, joinRows_cons, postRows_append, preRows_cons]
    have := joinRows_split A r B
    cases A with
    | nil => simp [postRows, preRows]
    | cons y A =>
      rw [List.cons_append, joinRows_cons, postRows_append] at this
      rw [postRows_cons, List.append_assoc, List.append_assoc, List.cons_append, List.cons_append, ← this]
theorem joinRows_mid (A S B : List (List Int)) (h : S ≠ []) : joinRows (A ++ S ++ B) = preRows A ++ joinRows S ++ postRows B := by
  cases S with
  | nil => exact absurd rfl h
  | cons r S => rw [List.append_assoc, List.cons_append, joinRows_split, joinRows_cons, postRows_append]; simp
theorem joinRows_pre (A S : List (List Int)) (h : S ≠ []) : joinRows (A ++ S) = preRows A ++ joinRows S := by
  have := joinRows_mid A S [] h
  simpa [postRows] using this
theorem preRows_len (A : List (List Int)) : (preRows A).length = (joinRows A).length + (if 0 < A.length then 1 else 0) := by
  rcases List.eq_nil_or_concat A with rfl | ⟨B, r, rfl⟩
  · simp [preRows, joinRows]
  · rw [List.concat_eq_append, joinRows_split, preRows_append, preRows_cons]; simp [preRows, postRows]; lia
noncomputable abbrev NoNl (r : List Int) : Prop := ∀ x ∈ r, x ≠ 10
theorem foldl_noNl : ∀ (r : List Int), NoNl r → ∀ st, r.foldl rowStep st = (st.1, st.2 ++ r)
  | [], _, st => by simp
  | x :: r, h, st => by
    rw [List.foldl_cons, foldl_noNl r (fun y hy => h y (.tail _ hy))]
    unfold rowStep
    rw [if_neg (h x (.head _))]; simp
theorem foldl_pre : ∀ (A : List (List Int)), (∀ r ∈ A, NoNl r) → ∀ P, (preRows A).foldl rowStep (P, []) = (P ++ A, [])
  | [], _, P => by simp [preRows]
  | r :: A, h, P => by
    rw [preRows_cons, List.foldl_append, foldl_noNl r (h r (.head _)), List.foldl_cons]
    have e : rowStep (((P, []) : List (List Int) × List Int).1, ((P, []) : List (List Int) × List Int).2 ++ r) 10 = (P ++ [r], []) := by unfold rowStep; rw [if_pos rfl]; simp
    rw [e]
    simpa using foldl_pre A (fun x hx => h x (.tail _ hx)) (P ++ [r])
theorem rowsSt_pre (A : List (List Int)) (x : List Int) (hA : ∀ r ∈ A, NoNl r) (hx : NoNl x) : rowsSt (preRows A ++ x) = (A, x) := by
  unfold rowsSt
  rw [List.foldl_append, foldl_pre A hA, foldl_noNl x hx]; simp
theorem rowsOf_join (S : List (List Int)) (h : S ≠ []) (hS : ∀ r ∈ S, NoNl r) : rowsOf (joinRows S) = S := by
  rcases List.eq_nil_or_concat S with rfl | ⟨A, r, rfl⟩
  · exact absurd rfl h
  · rw [List.concat_eq_append] at hS ⊢
    rw [joinRows_split, postRows, List.flatMap_nil, List.append_nil]
    unfold rowsOf
    rw [rowsSt_pre A r (fun x hx => hS x (by simp [hx])) (hS r (by simp))]
/-- a place in the joined rows -/
theorem locate : ∀ (L : List (List Int)) (q : Nat), L ≠ [] → q ≤ (joinRows L).length → ∃ t k, ∃ x, L[t]? = some x ∧ k ≤ x.length ∧ q = (preRows (L.take t)).length + k
  | [], _, h, _ => absurd rfl h
  | x :: M, q, _, hq => by
    by_cases hx : q ≤ x.length
    · exact i33 0 q x rfl hx (by simp [preRows])
    · cases M with
      | nil => simp [joinRows] at hq; lia
      | cons y M =>
        have e : joinRows (x :: y :: M) = x ++ 10 :: joinRows (y :: M) := by simp [joinRows]
        rw [e] at hq
        simp at hq
        refine x33 (locate (y :: M) (q - x.length - 1) (by simp) (by lia)) fun t k z h1 h2 h3 => ?_
        refine i33 (t + 1) k z h1 h2 ?_
        rw [List.take_succ_cons, preRows_cons]
        simp only [List.length_append, List.length_cons]
        have e := Nat.add_sub_cancel' (Nat.lt_of_not_le hx)
        rw [Nat.sub_sub] at h3
        rw [h3] at e
        clear h3 hq
        lia
theorem take_parts {L : List (List Int)} {t : Nat} {x : List Int} (h : L[t]? = some x) : L = L.take t ++ x :: L.drop (t + 1) := by
  refine x11 (List.getElem?_eq_some_iff.mp h) fun hl e => ?_
  have h2 : L.drop t = L[t] :: L.drop (t + 1) := List.drop_eq_getElem_cons hl
  rw [← e, ← h2, List.take_append_drop]
/-- what stands about a place -/
structure Spot (C : List Int) (q : Nat) (P x R : List Int) (k : Nat) : Prop where
  e : C = P ++ (x ++ R)
  hq : q = P.length + k
  hk : k ≤ x.length
  hx : NoNl x
  hP : P = [] ∨ ∃ P', P = P' ++ [10]
  hR : R = [] ∨ ∃ R', R = 10 :: R'
theorem pre_end (A : List (List Int)) : preRows A = [] ∨ ∃ P', preRows A = P' ++ [10] := by
  rcases List.eq_nil_or_concat A with rfl | ⟨B, r, rfl⟩
  · exact .inl rfl
  · refine .inr ⟨preRows B ++ r, ?_⟩
    rw [List.concat_eq_append, preRows_append, preRows_cons]; simp [preRows]
theorem post_start (B : List (List Int)) : postRows B = [] ∨ ∃ R', postRows B = 10 :: R' := by
  cases B with
  | nil => exact .inl rfl
  | cons r B => exact .inr ⟨r ++ postRows B, postRows_cons r B⟩
theorem Spot.of {L : List (List Int)} {t k q : Nat} {x : List Int} (h : L[t]? = some x) (hk : k ≤ x.length) (hq : q = (preRows (L.take t)).length + k) (hL : ∀ r ∈ L, NoNl r) :
    Spot (joinRows L) q (preRows (L.take t)) x (postRows (L.drop (t + 1))) k :=
  ⟨by conv => lhs; rw [take_parts h, joinRows_split], hq, hk, hL x (List.mem_of_getElem? h), pre_end _, post_start _⟩
section
variable {C P x R : List Int} {q k : Nat}
theorem Spot.ls (s : Spot C q P x R k) : ls0 C q = P.length := by
  obtain ⟨rfl, rfl, hk, hx, hP, hR⟩ := s
  have h0 : ls0 (P ++ (x ++ R)) P.length = P.length := by
    rcases hP with rfl | ⟨P', rfl⟩
    · rfl
    · rw [List.length_append, List.length_singleton]
      unfold ls0
      rw [if_pos (by simp)]
  clear hP
  induction k with
  | zero => exact h0
  | succ k ih =>
    rw [← Nat.add_assoc]
    unfold ls0
    rw [if_neg, ih (by lia)]
    rw [List.getElem?_append_right (by lia), Nat.add_sub_cancel_left, List.getElem?_append_left (by lia), List.getElem?_eq_getElem (by lia)]
    exact fun e => hx _ (List.getElem_mem _) (Option.some.inj e)
theorem Spot.le (s : Spot C q P x R k) : le0 C q = P.length + x.length := by
  obtain ⟨rfl, rfl, hk, hx, hP, hR⟩ := s
  unfold le0
  rw [List.drop_append, List.drop_eq_nil_of_le (by lia), List.nil_append, Nat.add_sub_cancel_left, List.drop_append, Nat.sub_eq_zero_of_le hk, List.drop_zero]
  have e : ∀ (y : List Int), NoNl y → (List.takeWhile (fun x : Int => x != 10) (y ++ R)) = y := by
    intro y
    induction y with
    | nil =>
      intro _
      rcases hR with rfl | ⟨R', rfl⟩ <;> simp
    | cons z y ih =>
      intro h
      rw [List.cons_append, List.takeWhile_cons, if_pos (by simpa using h z (.head _)), ih fun w hw => h w (.tail _ hw)]
  rw [e _ fun y hy => hx y (List.mem_of_mem_drop hy)]
  simp; lia
theorem Spot.col (s : Spot C q P x R k) : colOf C q = colAt (x.take k) := by
  have h := s.ls
  obtain ⟨rfl, rfl, hk, hx, hP, hR⟩ := s
  unfold colOf
  rw [h, List.drop_append, List.drop_eq_nil_of_le (Nat.le_refl _), List.nil_append, Nat.sub_self, List.drop_zero, Nat.add_sub_cancel_left, List.take_append_of_le_length hk]
theorem Spot.take (s : Spot C q P x R k) : C.take q = P ++ x.take k := by
  obtain ⟨rfl, rfl, hk, hx, hP, hR⟩ := s
  rw [List.take_length_add_append, List.take_append_of_le_length hk]
end
end
section
/-! tabs: a row and its grid -/
theorem spread_append : ∀ (a b : List Int) (now : Nat), spread now (a ++ b) = spread now a ++ spread (a.foldl colB now) b
  | [], b, now => rfl
  | x :: a, b, now => by simp [spread, spread_append a b]
theorem colB_n9 {now : Nat} {x : Int} (h : x ≠ 9) : colB now x = now + 1 := by unfold colB; rw [if_neg h]
theorem spread1_len (now : Nat) (x : Int) : (if x = 9 then List.replicate (colB now x - now) (32 : Int) else [x]).length = colB now x - now := by
  split
  · simp
  · rename_i h; rw [colB_n9 h]; simp
theorem spread_len : ∀ (a : List Int) (now : Nat), now + (spread now a).length = a.foldl colB now
  | [], now => rfl
  | x :: a, now => by
    rw [spread, List.length_append, spread1_len, List.foldl_cons, ← spread_len a (colB now x)]
    have := colB_le now x
    lia
theorem grid_spread : ∀ (row acc : List Int), row.foldl gridStep acc = acc ++ spread acc.length row
  | [], acc => by simp [spread]
  | x :: row, acc => by
    have e : gridStep acc x = acc ++ (if x = 9 then List.replicate (colB acc.length x - acc.length) 32 else [x]) := by
      unfold gridStep
      by_cases h : x = 9
      · rw [if_pos h, if_pos h]
        unfold colB
        rw [if_pos h, ar_g (Nat.div_add_mod acc.length 4)]
      · rw [if_neg h, if_neg h]
    have l : (gridStep acc x).length = colB acc.length x := by
      rw [e, List.length_append, spread1_len]; have := colB_le acc.length x; lia
    rw [List.foldl_cons, grid_spread row, l, e, spread]; simp
theorem gridOf_spread (row : List Int) : gridOf row = spread 0 row := by
  have := grid_spread row []
  simpa [gridOf] using this
theorem gridOf_len (row : List Int) : (gridOf row).length = colAt row := by
  rw [gridOf_spread]
  have := spread_len row 0
  unfold colAt; lia
theorem foldl_spaces : ∀ (m now : Nat), (List.replicate m (32 : Int)).foldl colB now = now + m
  | 0, _ => rfl
  | m + 1, now => by rw [List.replicate_succ, List.foldl_cons, foldl_spaces m, colB_n9 (by decide)]; lia
theorem spread_spaces : ∀ (m now : Nat), spread now (List.replicate m 32) = List.replicate m 32
  | 0, _ => rfl
  | m + 1, now => by rw [List.replicate_succ, spread, spread_spaces m, if_neg (by decide)]; rfl
/-- no tab of the row stands over this column -/
noncomputable def Clean : Nat → List Int → Nat → Prop
  | _, [], _ => True
  | now, x :: r, col => if col ≤ now then True else colB now x ≤ col ∧ Clean (colB now x) r col
theorem clean_cut : ∀ (row : List Int) (now col : Nat), now ≤ col → Clean now row col →
    spread now (row.take (placeFrom now row col)) = (spread now row).take (col - now) ∧ spread col (row.drop (placeFrom now row col)) = (spread now row).drop (col - now)
  | [], now, col, _, _ => by simp [spread, placeFrom]
  | x :: r, now, col, h, hc => by
    unfold placeFrom
    by_cases hn : col ≤ now
    · have : col = now := by lia
      subst this
      simp [spread]
    · rw [if_neg hn]
      unfold Clean at hc
      rw [if_neg hn] at hc
      refine x02 (clean_cut r (colB now x) col hc.1 hc.2) fun i1 i2 => ?_
      have hl := spread1_len now x
      have hb := colB_le now x
      rw [List.take_succ_cons, List.drop_succ_cons, spread, spread, i1, i2]
      generalize (if x = 9 then List.replicate (colB now x - now) (32 : Int) else [x]) = w at hl ⊢
      have hwl : w.length ≤ col - now := by lia
      have hsub : col - now - w.length = col - colB now x := by rw [hl, Nat.sub_sub, Nat.add_sub_cancel' (Nat.le_of_lt hb.2)]
      constructor
      · rw [List.take_append, List.take_of_length_le hwl, hsub]
      · rw [List.drop_append, List.drop_eq_nil_of_le hwl, List.nil_append, hsub]
noncomputable def openedFrom : Nat → List Int → Nat → List Int
  | _, [], _ => []
  | now, x :: r, col => if col ≤ now then x :: r else if colB now x ≤ col then x :: openedFrom (colB now x) r col else List.replicate (colB now x - now) 32 ++ r
theorem opened_from : ∀ (row : List Int) (now col : Nat),
    (if placeFrom now row col = 0 ∨ row[placeFrom now row col - 1]? ≠ some 9 ∨ (row.take (placeFrom now row col)).foldl colB now ≤ col then row
      else row.take (placeFrom now row col - 1) ++ List.replicate ((row.take (placeFrom now row col)).foldl colB now - (row.take (placeFrom now row col - 1)).foldl colB now) 32 ++ row.drop (placeFrom now row col)) = openedFrom now row col
  | [], now, col => by simp [placeFrom, openedFrom]
  | x :: r, now, col => by
    unfold placeFrom openedFrom
    by_cases hn : col ≤ now
    · rw [if_pos hn, if_pos hn, if_pos (.inl rfl)]
    · rw [if_neg hn, if_neg hn]
      have ih := opened_from r (colB now x) col
      generalize hp : placeFrom (colB now x) r col = p at ih ⊢
      rw [Nat.add_sub_cancel, List.take_succ_cons, List.drop_succ_cons, List.foldl_cons]
      cases p with
      | zero =>
        simp only [List.take_zero, List.foldl_nil, List.drop_zero, List.nil_append, List.getElem?_cons_zero]
        have hr : openedFrom (colB now x) r col = r := by rw [← ih]; simp
        by_cases hb : colB now x ≤ col
        · rw [if_pos (.inr (.inr hb)), if_pos hb, hr]
        · rw [if_neg hb, if_neg]
          have h9 : x = 9 := by
            by_cases h : x = 9
            · exact h
            · rw [colB_n9 h] at hb; lia
          simp [h9]
          rw [h9] at hb; lia
      | succ p =>
        have hb : colB now x ≤ col := by
          cases r with
          | nil => simp [placeFrom] at hp
          | cons y r =>
            unfold placeFrom at hp
            by_cases h : col ≤ colB now x
            · rw [if_pos h] at hp; cases hp
            · lia
        rw [if_pos hb, ← ih]
        rw [List.getElem?_cons_succ, Nat.add_sub_cancel, List.take_succ_cons, List.foldl_cons]
        by_cases hc : r[p]? ≠ some 9 ∨ List.foldl colB (colB now x) (List.take (p + 1) r) ≤ col
        · rw [if_pos (.inr hc), if_pos (.inr hc)]
        · rw [if_neg (by simpa using hc), if_neg (by simpa using hc)]; simp
theorem opened_eq (row : List Int) (col : Nat) : opened row col = openedFrom 0 row col := opened_from row 0 col
theorem clean_spaces : ∀ (m now : Nat) (r : List Int) (col : Nat), col ≤ now + m → Clean now (List.replicate m 32 ++ r) col
  | 0, now, r, col, h => by
    cases r with
    | nil => trivial
    | cons x r => show Clean now (x :: r) col; unfold Clean; rw [if_pos (by lia)]; trivial
  | m + 1, now, r, col, h => by
    rw [List.replicate_succ, List.cons_append]
    unfold Clean
    by_cases hn : col ≤ now
    · rw [if_pos hn]; trivial
    · rw [if_neg hn, colB_n9 (by decide)]
      exact ⟨by lia, clean_spaces m (now + 1) r col (by lia)⟩
theorem clean_opened : ∀ (row : List Int) (now col : Nat), Clean now (openedFrom now row col) col
  | [], _, _ => trivial
  | x :: r, now, col => by
    unfold openedFrom
    by_cases hn : col ≤ now
    · rw [if_pos hn]; unfold Clean; rw [if_pos hn]; trivial
    · rw [if_neg hn]
      by_cases hb : colB now x ≤ col
      · rw [if_pos hb]; unfold Clean; rw [if_neg hn]; exact ⟨hb, clean_opened r _ col⟩
      · rw [if_neg hb]; exact clean_spaces _ _ _ _ (by lia)
theorem spread_opened : ∀ (row : List Int) (now col : Nat), spread now (openedFrom now row col) = spread now row
  | [], _, _ => rfl
  | x :: r, now, col => by
    unfold openedFrom
    by_cases hn : col ≤ now
    · rw [if_pos hn]
    · rw [if_neg hn]
      by_cases hb : colB now x ≤ col
      · rw [if_pos hb, spread, spread, spread_opened r]
      · rw [if_neg hb, spread_append, spread_spaces, foldl_spaces, spread]
        have h9 : x = 9 := by
          by_cases h : x = 9
          · exact h
          · rw [colB_n9 h] at hb; lia
        rw [if_pos h9]
        have := colB_le now x
        rw [show now + (colB now x - now) = colB now x by lia]
theorem cutAt_grid (row : List Int) (col : Nat) : spread 0 (cutAt row col).1 = (spread 0 row).take col ∧ spread col (cutAt row col).2 = (spread 0 row).drop col := by
  unfold cutAt placeAt
  rw [opened_eq]
  refine x02 (clean_cut (openedFrom 0 row col) 0 col (Nat.zero_le _) (clean_opened row 0 col)) fun h1 h2 => ?_
  rw [spread_opened] at h1 h2
  exact ⟨h1, h2⟩
theorem extracted_cut (row : List Int) {f l : Nat} (h : f ≤ l) : extracted row f l = cutOf (gridOf row) f l := by
  unfold extracted cutBetween cutOf
  dsimp only
  rw [(cutAt_grid (cutAt row l).1 f).2, (cutAt_grid row l).1, gridOf_spread]
  generalize spread 0 row = g
  rw [List.drop_take, List.take_append, List.take_take, Nat.min_self, List.take_replicate]
  congr 2
  rw [Nat.min_eq_left (Nat.sub_le _ _)]
end
section
/-! rows without tabs -/
noncomputable abbrev NoTab (r : List Int) : Prop := ∀ x ∈ r, x ≠ 9
theorem spread_nt : ∀ (r : List Int) (now : Nat), NoTab r → spread now r = r
  | [], _, _ => rfl
  | x :: r, now, h => by rw [spread, if_neg (h x (.head _)), spread_nt r _ fun y hy => h y (.tail _ hy)]; rfl
theorem gridOf_nt {r : List Int} (h : NoTab r) : gridOf r = r := by rw [gridOf_spread, spread_nt r 0 h]
theorem colAt_nt {r : List Int} (h : NoTab r) : colAt r = r.length := by rw [← gridOf_len, gridOf_nt h]
theorem opened_nt {r : List Int} (h : NoTab r) (col : Nat) : opened r col = r := by
  unfold opened
  by_cases h0 : placeAt r col = 0
  · rw [if_pos (.inl h0)]
  · rw [if_pos (.inr (.inl fun e => h _ (List.mem_of_getElem? e) rfl))]
theorem placeFrom_nt : ∀ (r : List Int) (now col : Nat), NoTab r → placeFrom now r col = min (col - now) r.length
  | [], _, _, _ => by simp [placeFrom]
  | x :: r, now, col, h => by
    unfold placeFrom
    rw [colB_n9 (h x (.head _)), placeFrom_nt r _ _ fun y hy => h y (.tail _ hy)]
    split
    · rename_i hc; simp only [List.length_cons]; exact ph0 hc
    · rename_i hc; simp only [List.length_cons]; exact ph hc
theorem cutAt_nt {r : List Int} (h : NoTab r) (col : Nat) : cutAt r col = (r.take col, r.drop col) := by
  unfold cutAt placeAt
  rw [opened_nt h, placeFrom_nt r 0 col h, Nat.sub_zero]
  by_cases hc : col ≤ r.length
  · rw [Nat.min_eq_left hc]
  · rw [Nat.min_eq_right (by lia), List.take_length, List.drop_length, List.take_of_length_le (by lia), List.drop_eq_nil_of_le (by lia)]
theorem NoTab.take {r : List Int} (h : NoTab r) (k : Nat) : NoTab (r.take k) := fun x hx => h x (List.mem_of_mem_take hx)
theorem NoTab.drop {r : List Int} (h : NoTab r) (k : Nat) : NoTab (r.drop k) := fun x hx => h x (List.mem_of_mem_drop hx)
theorem cutBetween_nt {r : List Int} (h : NoTab r) {f l : Nat} (hf : f ≤ l) : cutBetween r f l = (r.take f, (r.take l).drop f, r.drop l) := by
  unfold cutBetween
  rw [cutAt_nt h, cutAt_nt (h.take l)]
  dsimp only
  rw [List.take_take, Nat.min_eq_left hf]
theorem padded_nt {r : List Int} (h : NoTab r) (col : Nat) : padded r col = r ++ List.replicate (col - r.length) 32 := by
  unfold padded; rw [colAt_nt h]
theorem NoTab.padded {r : List Int} (h : NoTab r) (col : Nat) : NoTab (padded r col) := by
  rw [padded_nt h]
  intro x hx
  rcases List.mem_append.mp hx with hx | hx
  · exact h x hx
  · rw [(List.mem_replicate.mp hx).2]; decide
theorem replaced_nt {r : List Int} (h : NoTab r) {f l : Nat} (hf : f ≤ l) (codes : List Int) : replacedBy r f l codes = r.take f ++ List.replicate (f - r.length) 32 ++ codes ++ r.drop l := by
  unfold replacedBy
  rw [cutBetween_nt (h.padded f) hf, padded_nt h]
  dsimp only
  rw [List.take_append, List.take_replicate, Nat.min_self, List.drop_append, List.drop_replicate, Nat.sub_eq_zero_of_le (Nat.sub_le_sub_right hf _)]
  simp
theorem erased_nt {r : List Int} (h : NoTab r) {f l : Nat} (hf : f ≤ l) : erased r f l = if r.length ≤ f then r else r.take f ++ r.drop l := by
  unfold erased; rw [colAt_nt h, cutBetween_nt h hf]
theorem cleared_nt {r : List Int} (h : NoTab r) {f l : Nat} (hf : f ≤ l) : cleared r f l = if r.length ≤ f then r else r.take f ++ (if r.drop l = [] then [] else List.replicate (l - f) 32 ++ r.drop l) := by
  unfold cleared; rw [colAt_nt h, cutBetween_nt h hf]
theorem openedUp_nt {r : List Int} (h : NoTab r) {f l : Nat} : openedUp r f l = if r.length ≤ f then r else r.take f ++ List.replicate (l - f) 32 ++ r.drop f := by
  unfold openedUp; rw [colAt_nt h, cutAt_nt h]
theorem putIn_nt {r : List Int} (h : NoTab r) {col : Nat} (hc : col ≤ r.length) (codes : List Int) : putIn r col codes = r.take col ++ codes ++ r.drop col := by
  unfold putIn
  rw [padded_nt h, Nat.sub_eq_zero_of_le hc, List.replicate_zero, List.append_nil, cutAt_nt h]
/-! what is done with rows -/
theorem due_string (r : List Int) (f l : Nat) (n : Int) (w : Nat) : dueOf "string" r f l n w = r.take f ++ List.replicate (f - r.length) 32 ++ [88, 89] ++ r.drop l := by
  unfold dueOf; rw [if_pos (by decide +kernel)]
theorem due_number (r : List Int) (f l : Nat) (n : Int) (w : Nat) : dueOf "number" r f l n w = r.take f ++ List.replicate (f - r.length) 32 ++ numText n w ++ r.drop l := by
  unfold dueOf; rw [if_neg (by decide +kernel), if_pos (by decide +kernel)]
theorem due_open (r : List Int) (f l : Nat) (n : Int) (w : Nat) : dueOf "open" r f l n w = if r.length ≤ f then r else r.take f ++ List.replicate (l - f) 32 ++ r.drop f := by
  unfold dueOf; rw [if_neg (by decide +kernel), if_neg (by decide +kernel), if_pos (c := (("open" : Str) == "open") = true) (by decide +kernel)]
theorem due_clear (r : List Int) (f l : Nat) (n : Int) (w : Nat) : dueOf "clear" r f l n w = if r.length ≤ f then r else r.take f ++ (if r.drop l = [] then [] else List.replicate (l - f) 32 ++ r.drop l) := by
  unfold dueOf; rw [if_neg (by decide +kernel), if_neg (by decide +kernel), if_neg (c := (("clear" : Str) == "open") = true) (by decide +kernel), if_pos (c := (("clear" : Str) == "clear") = true) (by decide +kernel)]
theorem due_kill (r : List Int) (f l : Nat) (n : Int) (w : Nat) : dueOf "kill" r f l n w = if r.length ≤ f then r else r.take f ++ r.drop l := by
  unfold dueOf; rw [if_neg (by decide +kernel), if_neg (by decide +kernel), if_neg (c := (("kill" : Str) == "open") = true) (by decide +kernel), if_neg (c := (("kill" : Str) == "clear") = true) (by decide +kernel)]
theorem done_string (S : List (List Int)) (f l : Nat) : doneRows "string" S f l = S.map fun r => replacedBy r f l [88, 89] := by
  unfold doneRows; rw [if_pos (by decide +kernel)]
theorem done_open (S : List (List Int)) (f l : Nat) : doneRows "open" S f l = S.map fun r => openedUp r f l := by
  unfold doneRows; rw [if_neg (by decide +kernel), if_pos (by decide +kernel)]
theorem done_clear (S : List (List Int)) (f l : Nat) : doneRows "clear" S f l = S.map fun r => cleared r f l := by
  unfold doneRows; rw [if_neg (by decide +kernel), if_neg (by decide +kernel), if_pos (by decide +kernel)]
theorem done_number (S : List (List Int)) (f l : Nat) : doneRows "number" S f l = numberedRows S f l := by
  unfold doneRows; rw [if_neg (by decide +kernel), if_neg (by decide +kernel), if_neg (by decide +kernel), if_pos (by decide +kernel)]
theorem done_kill (S : List (List Int)) (f l : Nat) : doneRows "kill" S f l = S.map fun r => erased r f l := by
  unfold doneRows; rw [if_neg (by decide +kernel), if_neg (by decide +kernel), if_neg (by decide +kernel), if_neg (by decide +kernel)]
theorem words_of {P : Str → Prop} (h1 : P "kill") (h2 : P "string") (h3 : P "open") (h4 : P "clear") (h5 : P "number") : ∀ w ∈ (["kill", "string", "open", "clear", "number"] : List Str), P w := by
  intro w hw
  simp only [List.mem_cons, List.not_mem_nil, or_false] at hw
  rcases hw with rfl | rfl | rfl | rfl | rfl <;> assumption
theorem map_idx {α β : Type} (f : α → β) (l : List α) : l.map f = l.mapIdx fun _ x => f x := by
  apply List.ext_getElem?
  intro i
  simp
theorem mapIdx_congr {α β : Type} {f g : Nat → α → β} {l : List α} (h : ∀ i x, l[i]? = some x → f i x = g i x) : l.mapIdx f = l.mapIdx g := by
  apply List.ext_getElem?
  intro i
  rw [List.getElem?_mapIdx, List.getElem?_mapIdx]
  cases e : l[i]? with
  | none => rfl
  | some x => simp [h i x e]
/-- with no tabs, each row becomes what its grid tells -/
theorem done_due {S : List (List Int)} {f l : Nat} (hS : ∀ r ∈ S, NoTab r) (hf : f ≤ l) : ∀ w ∈ (["kill", "string", "open", "clear", "number"] : List Str),
    doneRows w S f l = S.mapIdx fun i r => dueOf w r f l (9 + (i : Int)) (wideOf S.length) := by
  refine words_of ?_ ?_ ?_ ?_ ?_
  · rw [done_kill, map_idx]
    exact mapIdx_congr fun i x hx => by rw [due_kill, erased_nt (hS x (List.mem_of_getElem? hx)) hf]
  · rw [done_string, map_idx]
    exact mapIdx_congr fun i x hx => by rw [due_string, replaced_nt (hS x (List.mem_of_getElem? hx)) hf]
  · rw [done_open, map_idx]
    exact mapIdx_congr fun i x hx => by rw [due_open, openedUp_nt (hS x (List.mem_of_getElem? hx))]
  · rw [done_clear, map_idx]
    exact mapIdx_congr fun i x hx => by rw [due_clear, cleared_nt (hS x (List.mem_of_getElem? hx)) hf]
  · rw [done_number]
    exact mapIdx_congr fun i x hx => by rw [due_number, replaced_nt (hS x (List.mem_of_getElem? hx)) hf]
end
section
/-! what the rows are made of, and how long they grow -/
theorem NoNl.app {a b : List Int} (h : NoNl a) (h' : NoNl b) : NoNl (a ++ b) := fun x hx => (List.mem_append.mp hx).elim (h x) (h' x)
theorem NoNl.take {r : List Int} (h : NoNl r) (k : Nat) : NoNl (r.take k) := fun x hx => h x (List.mem_of_mem_take hx)
theorem NoNl.drop {r : List Int} (h : NoNl r) (k : Nat) : NoNl (r.drop k) := fun x hx => h x (List.mem_of_mem_drop hx)
theorem NoNl.spaces (m : Nat) : NoNl (List.replicate m 32) := fun x hx => by rw [(List.mem_replicate.mp hx).2]; decide
theorem NoNl.opened {r : List Int} (h : NoNl r) (col : Nat) : NoNl (opened r col) := by
  unfold Mine.opened
  split
  · exact h
  · exact ((h.take _).app (NoNl.spaces _)).app (h.drop _)
theorem NoNl.cut1 {r : List Int} (h : NoNl r) (col : Nat) : NoNl (cutAt r col).1 := (h.opened col).take _
theorem NoNl.cut2 {r : List Int} (h : NoNl r) (col : Nat) : NoNl (cutAt r col).2 := (h.opened col).drop _
theorem NoNl.bet1 {r : List Int} (h : NoNl r) (f l : Nat) : NoNl (cutBetween r f l).1 := (h.cut1 l).cut1 f
theorem NoNl.bet3 {r : List Int} (h : NoNl r) (f l : Nat) : NoNl (cutBetween r f l).2.2 := h.cut2 l
theorem NoNl.padded {r : List Int} (h : NoNl r) (col : Nat) : NoNl (padded r col) := h.app (NoNl.spaces _)
theorem NoNl.replaced {r cs : List Int} (h : NoNl r) (hc : NoNl cs) (f l : Nat) : NoNl (replacedBy r f l cs) := (((h.padded f).bet1 f l).app hc).app ((h.padded f).bet3 f l)
theorem num_noNl {i : Nat} {w : Nat} (hi : i < 4) (h1 : 1 ≤ w) (h2 : w ≤ 2) : NoNl (numText (9 + (i : Int)) w) ∧ (numText (9 + (i : Int)) w).length ≤ 3 := by
  have := numStr_ok (number := 9 + (i : Int)) (wide := w) (by lia) (by lia) h1 h2
  refine ⟨fun x hx => (this.2.2.2.2.2.1 x hx).2, ?_⟩
  unfold numText
  rw [List.length_map]; exact this.2.1
theorem wideOf_ok (k : Nat) : 1 ≤ wideOf k ∧ wideOf k ≤ 2 := by unfold wideOf; split <;> lia
theorem mem_mapIdx {α β : Type} {f : Nat → α → β} {l : List α} {y : β} (h : y ∈ l.mapIdx f) : ∃ i x, l[i]? = some x ∧ y = f i x := by
  refine x11 (List.getElem?_of_mem h) fun i hi => ?_
  rw [List.getElem?_mapIdx, Option.map_eq_some_iff] at hi
  refine x12 hi ?_; try clear hi; intro x hx e
  exact i22 i x hx e.symm
theorem done_len (S : List (List Int)) (f l : Nat) : ∀ w ∈ (["kill", "string", "open", "clear", "number"] : List Str), (doneRows w S f l).length = S.length := by
  refine words_of ?_ ?_ ?_ ?_ ?_
  · rw [done_kill]; simp
  · rw [done_string]; simp
  · rw [done_open]; simp
  · rw [done_clear]; simp
  · rw [done_number]; simp [numberedRows]
theorem done_rows {S : List (List Int)} {f l : Nat} (hS : ∀ r ∈ S, NoNl r) (h6 : ∀ r ∈ S, r.length ≤ 6) (h4 : S.length ≤ 4) (hf : f ≤ l) (hl : l ≤ 24) : ∀ w ∈ (["kill", "string", "open", "clear", "number"] : List Str), ∀ r ∈ doneRows w S f l, NoNl r ∧ r.length ≤ 60 := by
  refine words_of ?_ ?_ ?_ ?_ ?_
  · rw [done_kill]
    intro r hr
    refine x12 (List.mem_map.mp hr) fun x hx eq34 => ?_; subst eq34
    refine ⟨?_, by have := erased_le x f l; have := h6 x hx; lia⟩
    unfold erased
    split
    · exact hS x hx
    · exact ((hS x hx).bet1 f l).app ((hS x hx).bet3 f l)
  · rw [done_string]
    intro r hr
    refine x12 (List.mem_map.mp hr) fun x hx eq35 => ?_; subst eq35
    refine ⟨(hS x hx).replaced (by intro x hx; simp at hx; lia) f l, by have h1 := replacedBy_le x f l [88, 89]; have h2 := h6 x hx; have h3 : ([88, 89] : List Int).length = 2 := rfl; lia⟩
  · rw [done_open]
    intro r hr
    refine x12 (List.mem_map.mp hr) fun x hx eq36 => ?_; subst eq36
    refine ⟨?_, by have := openedUp_le x f l; have := h6 x hx; lia⟩
    unfold openedUp
    split
    · exact hS x hx
    · exact (((hS x hx).cut1 f).app (NoNl.spaces _)).app ((hS x hx).cut2 f)
  · rw [done_clear]
    intro r hr
    refine x12 (List.mem_map.mp hr) fun x hx eq37 => ?_; subst eq37
    refine ⟨?_, by have := cleared_le x f l; have := h6 x hx; lia⟩
    unfold cleared
    split
    · exact hS x hx
    · refine ((hS x hx).bet1 f l).app ?_
      split
      · intro x hx; cases hx
      · exact (NoNl.spaces _).app ((hS x hx).bet3 f l)
  · rw [done_number]
    intro r hr
    refine x22 (mem_mapIdx hr) fun i x hx eq38 => ?_; subst eq38
    have hm := List.mem_of_getElem? hx
    have hi : i < S.length := (List.getElem?_eq_some_iff.mp hx).1
    have hw := wideOf_ok S.length
    refine x02 (num_noNl (i := i) (w := wideOf S.length) (by lia) hw.1 hw.2) fun n1 n2 => ?_
    refine ⟨(hS x hm).replaced n1 f l, ?_⟩
    have := replacedBy_le x f l (numText (9 + (i : Int)) (wideOf S.length))
    have := h6 x hm
    lia
theorem app_le {x y : List Int} {a b : Nat} (hx : x.length ≤ a) (hy : y.length ≤ b) : (x ++ y).length ≤ a + b := by rw [List.length_append]; exact Nat.add_le_add hx hy
theorem due_le {r : List Int} {f l : Nat} (h24 : r.length ≤ 24) (hf : f ≤ l) (hl : l ≤ 24) {i w : Nat} (hi : i < 4) (h1 : 1 ≤ w) (h2 : w ≤ 2) : ∀ wd ∈ (["kill", "string", "open", "clear", "number"] : List Str), (dueOf wd r f l (9 + (i : Int)) w).length ≤ 100 := by
  refine x02 (num_noNl (i := i) hi h1 h2) fun _ n2 => ?_
  have ht : ∀ k, (r.take k).length ≤ 24 := fun k => by rw [List.length_take]; exact Nat.le_trans (Nat.min_le_right _ _) h24
  have hd : ∀ k, (r.drop k).length ≤ 24 := fun k => by rw [List.length_drop]; exact Nat.le_trans (Nat.sub_le _ _) h24
  have hs : ∀ a b, a ≤ 24 → (List.replicate (a - b) (32 : Int)).length ≤ 24 := fun a b h => by rw [List.length_replicate]; exact Nat.le_trans (Nat.sub_le _ _) h
  have h100 : r.length ≤ 100 := Nat.le_trans h24 (by decide)
  have hf24 := Nat.le_trans hf hl
  refine words_of ?_ ?_ ?_ ?_ ?_
  · rw [due_kill]; split
    · exact h100
    · exact Nat.le_trans (app_le (ht f) (hd l)) (by decide)
  · rw [due_string]; exact Nat.le_trans (app_le (app_le (app_le (ht f) (hs f r.length hf24)) (Nat.le_refl 2)) (hd l)) (by decide)
  · rw [due_open]; split
    · exact h100
    · exact Nat.le_trans (app_le (app_le (ht f) (hs l f hl)) (hd f)) (by decide)
  · rw [due_clear]; split
    · exact h100
    · refine Nat.le_trans (app_le (b := 48) (ht f) ?_) (by decide)
      split
      · exact Nat.zero_le _
      · exact app_le (hs l f hl) (hd l)
  · rw [due_number]; exact Nat.le_trans (app_le (app_le (app_le (ht f) (hs f r.length hf24)) n2) (hd l)) (by decide)
theorem leftRows_get (w : Str) (G : List (List Int)) (top low high wide : Nat) : ∀ i j, (leftRows w G top low high wide i)[j]? = if top ≤ j ∧ j < top + i then G[j]?.map (fun g => dueOf w g low high (9 + ((j - top : Nat) : Int)) wide) else G[j]?
  | 0, j => by rw [if_neg (by lia)]; rfl
  | i + 1, j => by
    rw [leftRows, List.getElem?_set, leftRows_len, leftRows_get w G top low high wide i j]
    by_cases h : top + i = j
    · subst h
      by_cases hl : top + i < G.length
      · rw [if_pos rfl, if_pos hl, if_pos (by lia), List.getElem?_eq_getElem hl, Nat.add_sub_cancel_left]; rfl
      · rw [if_pos rfl, if_neg hl, if_pos (by lia), List.getElem?_eq_none (by lia)]; rfl
    · rw [if_neg h]
      by_cases h2 : top ≤ j ∧ j < top + i
      · rw [if_pos h2, if_pos (by lia)]
      · rw [if_neg h2, if_neg (by lia)]
theorem mid_get {α : Type} (A S B : List α) {j : Nat} (h1 : A.length ≤ j) (h2 : j < A.length + S.length) : (A ++ S ++ B)[j]? = S[j - A.length]? := by
  rw [List.append_assoc, List.getElem?_append_right h1, List.getElem?_append_left (by lia)]
theorem pre_get {α : Type} (A S B : List α) {j : Nat} (h1 : j < A.length) : (A ++ S ++ B)[j]? = A[j]? := by
  rw [List.append_assoc, List.getElem?_append_left h1]
theorem post_get {α : Type} (A S B : List α) {j : Nat} (h1 : A.length + S.length ≤ j) : (A ++ S ++ B)[j]? = B[j - A.length - S.length]? := by
  rw [List.append_assoc, List.getElem?_append_right (by lia), List.getElem?_append_right (by lia)]
theorem leftRows_mid (w : Str) (A S B : List (List Int)) (low high wide : Nat) : leftRows w (A ++ S ++ B) A.length low high wide S.length = A ++ (S.mapIdx fun i g => dueOf w g low high (9 + (i : Int)) wide) ++ B := by
  apply List.ext_getElem?
  intro j
  rw [leftRows_get]
  by_cases h1 : j < A.length
  · rw [if_neg (by lia), pre_get A S B h1, pre_get A _ B h1]
  · by_cases h2 : j < A.length + S.length
    · rw [if_pos (by lia), mid_get A S B (by lia) h2, mid_get A _ B (by lia) (by simpa using h2), List.getElem?_mapIdx]
    · rw [if_neg (by lia), post_get A S B (by lia), post_get A _ B (by simp; lia), List.length_mapIdx]
theorem leftRows_le {G : List (List Int)} {top low high wide : Nat} (h24 : ∀ r ∈ G, r.length ≤ 24) (hf : low ≤ high) (hl : high ≤ 24) (h1 : 1 ≤ wide) (h2 : wide ≤ 2) {w : Str} (hw : w ∈ (["kill", "string", "open", "clear", "number"] : List Str)) {i : Nat} (hi : i ≤ 4) : ∀ r ∈ leftRows w G top low high wide i, r.length ≤ 100 := by
  intro r hr
  refine x11 (List.getElem?_of_mem hr) fun j hj => ?_
  rw [leftRows_get] at hj
  split at hj
  · rw [Option.map_eq_some_iff] at hj
    refine x12 hj ?_; try clear hj; intro g hg eq39; subst eq39
    exact due_le (h24 g (List.mem_of_getElem? hg)) hf hl (by lia) h1 h2 w hw
  · have := h24 r (List.mem_of_getElem? hj); lia
end
section
/-! the law, plainly -/
theorem swap_mid {α : Type} (P J X R : List α) : (P ++ J ++ R).take P.length ++ X ++ (P ++ J ++ R).drop (P.length + J.length) = P ++ X ++ R := by
  rw [← List.length_append, List.drop_left, List.append_assoc P J R, List.take_left]
/-- two places in some rows: the rows ahead of both, between them, behind them -/
structure LawAt (L : List (List Int)) (a b : Nat) (A S B : List (List Int)) (low high : Nat) : Prop where
  e : L = A ++ S ++ B
  sn : S ≠ []
  sp : spanOf (joinRows L) a b = { lo := (preRows A).length, hi := (preRows A).length + (joinRows S).length, rows := S, f := low, l := high }
  lh : low ≤ high
  hh : high ≤ 24
section
variable {L A S B : List (List Int)} {a b low high : Nat}
theorem LawAt.sl (X : LawAt L a b A S B low high) : 1 ≤ S.length := by
  have := X.sn
  cases S with
  | nil => exact absurd rfl this
  | cons _ _ => simp
theorem seg_len {a s : Nat} (h : 1 ≤ s) : a + s - 1 + 1 - a = s := by rw [Nat.sub_add_cancel (Nat.le_trans h (Nat.le_add_left _ _)), Nat.add_sub_cancel_left]
theorem seg_len' {a s : Nat} (h : 1 ≤ s) : a + s - 1 - a + 1 = s := by rw [Nat.add_sub_assoc h, Nat.add_sub_cancel_left, Nat.sub_add_cancel h]
theorem seg_end {a s : Nat} (h : 1 ≤ s) : a + s - 1 + 1 = a + s := Nat.sub_add_cancel (Nat.le_trans h (Nat.le_add_left _ _))
theorem LawAt.done (X : LawAt L a b A S B low high) (w : Str) : doneTxt w (joinRows L) a b = preRows A ++ joinRows (doneRows w S low high) ++ postRows B := by
  unfold doneTxt
  rw [X.sp]
  dsimp only
  rw [X.e, joinRows_mid A S B X.sn, swap_mid]
theorem LawAt.done' (X : LawAt L a b A S B low high) {w : Str} (hw : w ∈ theWords) : doneTxt w (joinRows L) a b = joinRows (A ++ doneRows w S low high ++ B) := by
  rw [X.done, joinRows_mid]
  intro e
  have h1 := done_len S low high w hw
  have h2 := X.sl
  rw [e] at h1
  simp at h1; lia
theorem LawAt.parts (X : LawAt L a b A S B low high) (I : LawIn L a b) : (∀ r ∈ L, NoNl r) ∧ (∀ r ∈ S, NoNl r) ∧ (∀ r ∈ S, r.length ≤ 6) ∧ A.length + S.length + B.length ≤ 4 ∧ (∀ r ∈ A, NoNl r ∧ r.length ≤ 6) ∧ (∀ r ∈ B, NoNl r ∧ r.length ≤ 6) := by
  have h : ∀ r ∈ L, NoNl r := fun r hr x hx => by
    have := (I.r6 r hr).2 x hx
    simp at this; lia
  have l4 := I.l4
  have r6 := I.r6
  have e := X.e
  subst e
  simp only [List.length_append] at l4
  exact i06 h (fun r hr => h r (by simp [hr])) (fun r hr => (r6 r (by simp [hr])).1) l4 (fun r hr => ⟨h r (by simp [hr]), (r6 r (by simp [hr])).1⟩) (fun r hr => ⟨h r (by simp [hr]), (r6 r (by simp [hr])).1⟩)
theorem LawAt.rows (X : LawAt L a b A S B low high) (I : LawIn L a b) {w : Str} (hw : w ∈ theWords) : rowsOf (doneTxt w (joinRows L) a b) = A ++ doneRows w S low high ++ B ∧ (∀ r ∈ A ++ doneRows w S low high ++ B, NoNl r ∧ r.length ≤ 60) ∧ (A ++ doneRows w S low high ++ B).length ≤ 4 := by
  refine x06 (X.parts I) fun hL hS h6 h4 hA hB => ?_
  have hd := done_rows hS h6 (by lia) X.lh X.hh w hw
  have hl := done_len S low high w hw
  have sl := X.sl
  have all : ∀ r ∈ A ++ doneRows w S low high ++ B, NoNl r ∧ r.length ≤ 60 := by
    intro r hr
    rcases List.mem_append.mp hr with hr | hr
    · rcases List.mem_append.mp hr with hr | hr
      · exact ⟨(hA r hr).1, by have := (hA r hr).2; lia⟩
      · exact hd r hr
    · exact ⟨(hB r hr).1, by have := (hB r hr).2; lia⟩
  refine i03 ?_ all (by simp [hl]; lia)
  rw [X.done' hw, rowsOf_join _ _ fun r hr => (all r hr).1]
  intro e
  have h1 : (A ++ doneRows w S low high ++ B).length = 0 := by rw [e]; rfl
  simp only [List.length_append, hl] at h1
  lia
theorem mid_take (A S B : List (List Int)) : ((A ++ S ++ B).drop A.length).take S.length = S := by
  rw [List.append_assoc, List.drop_left, List.take_left]
theorem LawAt.due (X : LawAt L a b A S B low high) : dueRows L A.length (A.length + S.length - 1) low high = S.map fun r => cutOf (gridOf r) low high := by
  have := X.sl
  unfold dueRows
  rw [seg_len X.sl, ← List.map_drop, ← List.map_take, X.e, mid_take, List.map_map]; rfl
theorem LawAt.left (X : LawAt L a b A S B low high) (w : Str) : leftOf w L A.length (A.length + S.length - 1) low high = A.map gridOf ++ ((S.map gridOf).mapIdx fun i g => dueOf w g low high (9 + (i : Int)) (wideOf S.length)) ++ B.map gridOf := by
  have := X.sl
  unfold leftOf
  rw [X.e, List.map_append, List.map_append]
  have h := leftRows_mid w (A.map gridOf) (S.map gridOf) (B.map gridOf) low high (wideOf S.length)
  rw [List.length_map, List.length_map] at h
  rw [← h, seg_len' X.sl]
  congr 1
  unfold wideOf
  by_cases h1 : S.length = 1
  · rw [if_pos (by lia), if_pos h1]
  · rw [if_neg (by lia), if_neg h1]
theorem mem_pre {r : List Int} {x : Int} : ∀ {A : List (List Int)}, r ∈ A → x ∈ r → x ∈ joinRows A
  | [], h, _ => by cases h
  | y :: A, h, hx => by
    rw [joinRows_cons]
    rcases List.mem_cons.mp h with rfl | h
    · exact List.mem_append_left _ hx
    · refine List.mem_append_right _ (List.mem_flatMap.mpr (i12 r h (.tail _ hx)))
theorem noTab_of (h : 9 ∉ joinRows L) : ∀ r ∈ L, NoTab r := fun r hr x hx e => h (by subst e; exact mem_pre hr hx)
theorem map_grid_nt : ∀ {L : List (List Int)}, (∀ r ∈ L, NoTab r) → L.map gridOf = L
  | [], _ => rfl
  | r :: L, h => by rw [List.map_cons, gridOf_nt (h r (.head _)), map_grid_nt fun x hx => h x (.tail _ hx)]
/-- with no tabs, the rows told are the rows left -/
theorem LawAt.left_nt (X : LawAt L a b A S B low high) (h9 : 9 ∉ joinRows L) {w : Str} (hw : w ∈ theWords) : leftOf w L A.length (A.length + S.length - 1) low high = A ++ doneRows w S low high ++ B := by
  have h := noTab_of h9
  have e := X.e
  rw [X.left, done_due (fun r hr => h r (by rw [e]; simp [hr])) X.lh w hw, map_grid_nt fun r hr => h r (by rw [e]; simp [hr]), map_grid_nt fun r hr => h r (by rw [e]; simp [hr]), map_grid_nt fun r hr => h r (by rw [e]; simp [hr])]
end
/-! yanked back -/
theorem hi_iter : ∀ (R : List (List Int)) (A : List (List Int)) (r : List Int) (B : List (List Int)), (∀ x ∈ A ++ r :: (R ++ B), NoNl x) →
    hiIter (joinRows (A ++ r :: (R ++ B))) R.length ((preRows A).length + r.length) = (preRows A).length + (joinRows (r :: R)).length
  | [], A, r, B, _ => by simp [hiIter, joinRows]
  | r1 :: R, A, r, B, h => by
    have e : A ++ r :: (r1 :: R ++ B) = (A ++ [r]) ++ r1 :: (R ++ B) := by simp
    have ep : (preRows (A ++ [r])).length = (preRows A).length + r.length + 1 := by rw [preRows_append, preRows_cons]; simp [preRows]; lia
    rw [List.length_cons, hiIter]
    have hlt : (preRows A).length + r.length < (joinRows (A ++ r :: (r1 :: R ++ B))).length := by
      rw [joinRows_split, List.cons_append, postRows_cons]; simp
    rw [if_pos hlt]
    have sp : Spot (joinRows (A ++ r :: (r1 :: R ++ B))) ((preRows A).length + r.length + 1) (preRows (A ++ [r])) r1 (postRows (R ++ B)) 0 := by
      refine ⟨by rw [e, joinRows_split], by lia, Nat.zero_le _, h r1 (by simp), pre_end _, post_start _⟩
    rw [sp.le, e, hi_iter R (A ++ [r]) r1 B (by rw [← e]; exact h), ep]
    simp [joinRows]; lia
theorem yank_rows {A S B : List (List Int)} {low high : Nat} (sn : S ≠ []) (nt : ∀ r ∈ S, NoTab r) (hS : ∀ r ∈ S, NoNl r) (hA : ∀ r ∈ A, NoNl r) (hB : ∀ r ∈ B, NoNl r) (lh : low ≤ high) (hs : ∀ r ∈ S, high ≤ r.length) :
    yankOwn (joinRows (A ++ (S.map fun r => r.take low ++ r.drop high) ++ B)) ((preRows A).length + low) S.length = (S.map fun r => r.take low ++ r.drop high) ∧
    yankFound (joinRows (A ++ (S.map fun r => r.take low ++ r.drop high) ++ B)) ((preRows A).length + low) (S.map fun r => (r.drop low).take (high - low)) = S ∧
    yankTxt (joinRows (A ++ (S.map fun r => r.take low ++ r.drop high) ++ B)) ((preRows A).length + low) (S.map fun r => (r.drop low).take (high - low)) = joinRows (A ++ S ++ B) ∧
    colOf (joinRows (A ++ (S.map fun r => r.take low ++ r.drop high) ++ B)) ((preRows A).length + low) = low := by
  have hgN : ∀ r ∈ S.map (fun r => r.take low ++ r.drop high), NoNl r := by
    intro r hr
    refine x12 (List.mem_map.mp hr) fun x hx eq34 => ?_; subst eq34
    exact ((hS x hx).take _).app ((hS x hx).drop _)
  have hne : (S.map fun r => r.take low ++ r.drop high) ≠ [] := by simpa using sn
  have own : yankOwn (joinRows (A ++ (S.map fun r => r.take low ++ r.drop high) ++ B)) ((preRows A).length + low) S.length = (S.map fun r => r.take low ++ r.drop high) ∧
      ls0 (joinRows (A ++ (S.map fun r => r.take low ++ r.drop high) ++ B)) ((preRows A).length + low) = (preRows A).length ∧
      hiIter (joinRows (A ++ (S.map fun r => r.take low ++ r.drop high) ++ B)) (S.length - 1) (le0 (joinRows (A ++ (S.map fun r => r.take low ++ r.drop high) ++ B)) ((preRows A).length + low)) = (preRows A).length + (joinRows (S.map fun r => r.take low ++ r.drop high)).length ∧
      colOf (joinRows (A ++ (S.map fun r => r.take low ++ r.drop high) ++ B)) ((preRows A).length + low) = low := by
    have hmid := joinRows_mid A (S.map fun r => r.take low ++ r.drop high) B hne
    cases S with
    | nil => exact absurd rfl sn
    | cons r0 S =>
      have h0 := hs r0 (.head _)
      have e : A ++ (List.map (fun r => r.take low ++ r.drop high) (r0 :: S)) ++ B = A ++ (r0.take low ++ r0.drop high) :: ((S.map fun r => r.take low ++ r.drop high) ++ B) := by simp
      have sp : Spot (joinRows (A ++ (List.map (fun r => r.take low ++ r.drop high) (r0 :: S)) ++ B)) ((preRows A).length + low) (preRows A) (r0.take low ++ r0.drop high) (postRows ((S.map fun r => r.take low ++ r.drop high) ++ B)) low :=
        ⟨by rw [e, joinRows_split], rfl, by simp; lia, hgN _ (by simp), pre_end _, post_start _⟩
      have hi := hi_iter (S.map fun r => r.take low ++ r.drop high) A (r0.take low ++ r0.drop high) B (by
        intro x hx
        rw [← e] at hx
        rcases List.mem_append.mp hx with hx | hx
        · rcases List.mem_append.mp hx with hx | hx
          · exact hA x hx
          · exact hgN x hx
        · exact hB x hx)
      rw [← e, List.length_map] at hi
      have hls := sp.ls
      have hle := sp.le
      have hcol := sp.col
      rw [List.take_append_of_le_length (by simp; lia), List.take_take, Nat.min_self, colAt_nt ((nt r0 (.head _)).take _), List.length_take, Nat.min_eq_left (by lia)] at hcol
      have hhi : hiIter (joinRows (A ++ (List.map (fun r => r.take low ++ r.drop high) (r0 :: S)) ++ B)) ((r0 :: S).length - 1) (le0 (joinRows (A ++ (List.map (fun r => r.take low ++ r.drop high) (r0 :: S)) ++ B)) ((preRows A).length + low)) = (preRows A).length + (joinRows (List.map (fun r => r.take low ++ r.drop high) (r0 :: S))).length := by
        rw [hle, List.length_cons, Nat.add_sub_cancel, hi]; rfl
      refine i04 ?_ hls hhi hcol
      unfold yankOwn
      rw [hls, hhi, Nat.add_sub_cancel_left, hmid, List.append_assoc, List.drop_left, List.take_left, rowsOf_join _ hne hgN]
  refine x04 own ?_; try clear own; intro o1 o2 o3 o4
  have found : yankFound (joinRows (A ++ (S.map fun r => r.take low ++ r.drop high) ++ B)) ((preRows A).length + low) (S.map fun r => (r.drop low).take (high - low)) = S := by
    unfold yankFound
    rw [List.length_map, o1, o4]
    apply List.ext_getElem?
    intro i
    rw [List.getElem?_map]
    by_cases hi : i < S.length
    · have hm : S[i] ∈ S := List.getElem_mem hi
      have h1 := hs _ hm
      rw [List.getElem?_range hi, Option.map_some, List.getElem?_map, List.getElem?_map, List.getElem?_eq_getElem hi, Option.map_some, Option.map_some, Option.getD_some, Option.getD_some]
      have ntg : NoTab ((S[i]).take low ++ (S[i]).drop high) := fun x hx => (List.mem_append.mp hx).elim ((nt _ hm).take _ x) ((nt _ hm).drop _ x)
      have hl : ((S[i]).take low).length = low := by simp; lia
      rw [putIn_nt ntg (by simp; lia), List.take_left' hl, List.drop_left' hl]
      congr 1
      have e1 : (S[i]).drop high = ((S[i]).drop low).drop (high - low) := by rw [List.drop_drop, show low + (high - low) = high by lia]
      rw [e1, List.append_assoc, List.take_append_drop, List.take_append_drop]
    · rw [List.getElem?_eq_none (by simp; lia), List.getElem?_eq_none (by lia)]; rfl
  refine i04 o1 found ?_ o4
  unfold yankTxt
  rw [found, o2, List.length_map, o3, joinRows_mid A _ B hne, joinRows_mid A S B sn, swap_mid]
section
variable {L A S B : List (List Int)} {a b low high : Nat}
theorem LawAt.back (X : LawAt L a b A S B low high) (h9 : 9 ∉ joinRows L) {w : Str} (hw : w ∈ theWords) : backAt (leftOf w L A.length (A.length + S.length - 1) low high) A.length low = 1 + ((preRows A).length + low) := by
  unfold backAt
  rw [X.left_nt h9 hw, List.append_assoc, List.take_left, preRows_len]; lia
/-- the rows killed, and brought back -/
theorem LawAt.yank (X : LawAt L a b A S B low high) (I : LawIn L a b) (h9 : 9 ∉ joinRows L) (hs : ∀ r ∈ S, high ≤ r.length) :
    YankOk (doneTxt "kill" (joinRows L) a b) (backAt (leftOf "kill" L A.length (A.length + S.length - 1) low high) A.length low) (dueRows L A.length (A.length + S.length - 1) low high) ∧
    (joinRows (yankFound (doneTxt "kill" (joinRows L) a b) (backAt (leftOf "kill" L A.length (A.length + S.length - 1) low high) A.length low - 1) (dueRows L A.length (A.length + S.length - 1) low high))).length ≤ 100 ∧
    yankTxt (doneTxt "kill" (joinRows L) a b) (backAt (leftOf "kill" L A.length (A.length + S.length - 1) low high) A.length low - 1) (dueRows L A.length (A.length + S.length - 1) low high) = joinRows L := by
  have hw : ("kill" : Str) ∈ theWords := .head _
  refine x06 (X.parts I) fun hL hS h6 h4 hA hB => ?_
  have nt : ∀ r ∈ S, NoTab r := fun r hr => noTab_of h9 r (by rw [X.e]; simp [hr])
  have lh := X.lh
  have sl := X.sl
  have hsp := X.done "kill"
  have hdn := X.done' hw
  have hR : doneRows "kill" S low high = S.map fun r => r.take low ++ r.drop high := by
    rw [done_kill]
    refine List.map_congr_left fun r hr => ?_
    rw [erased_nt (nt r hr) lh]
    split
    · rename_i h
      have := hs r hr
      have e : low = high := by lia
      rw [e, List.take_append_drop]
    · rfl
  have hD : dueRows L A.length (A.length + S.length - 1) low high = S.map fun r => (r.drop low).take (high - low) := by
    rw [X.due]
    refine List.map_congr_left fun r hr => ?_
    rw [gridOf_nt (nt r hr)]
    unfold cutOf
    have := hs r hr
    rw [List.take_append_of_le_length (by simp; lia), List.take_take, Nat.min_self]
  refine x04 (yank_rows (A := A) (B := B) X.sn nt hS (fun r hr => (hA r hr).1) (fun r hr => (hB r hr).1) lh hs) fun y1 y2 y3 y4 => ?_
  rw [X.back h9 hw, hD, Nat.add_sub_cancel_left, hdn, hR]
  have hlow : low ≤ 6 := by
    have h0 := X.sn
    cases S with
    | nil => exact absurd rfl h0
    | cons r S => have := hs r (.head _); have := h6 r (.head _); lia
  have hg6 : ∀ r ∈ S.map fun r => r.take low ++ r.drop high, r.length ≤ 6 := by
    intro r hr
    refine x12 (List.mem_map.mp hr) fun x hx eq35 => ?_; subst eq35
    have := h6 x hx
    have := hs x hx
    simp; lia
  have hall : ∀ r ∈ A ++ (S.map fun r => r.take low ++ r.drop high) ++ B, r.length ≤ 6 := by
    intro r hr
    rcases List.mem_append.mp hr with hr | hr
    · rcases List.mem_append.mp hr with hr | hr
      · exact (hA r hr).2
      · exact hg6 r hr
    · exact (hB r hr).2
  have hz := joinRows_le _ 6 hall
  have hz2 := joinRows_le S 6 h6
  have hlen : (A ++ (S.map fun r => r.take low ++ r.drop high) ++ B).length ≤ 4 := by simp; lia
  have hpl : (preRows A).length + low ≤ (joinRows (A ++ (S.map fun r => r.take low ++ r.drop high) ++ B)).length := by
    have hne : (S.map fun r => r.take low ++ r.drop high) ≠ [] := by simpa using X.sn
    rw [joinRows_mid _ _ _ hne]
    have h0 := X.sn
    cases S with
    | nil => exact absurd rfl h0
    | cons r S =>
      have := hs r (.head _)
      rw [List.map_cons, joinRows_cons]
      simp only [List.length_append, List.length_take]
      lia
  refine i03 ⟨by lia, by lia, by lia, by simpa using sl, by simp; lia, ?_, ?_, ?_⟩ ?_ ?_
  · intro r hr
    refine x12 (List.mem_map.mp hr) fun x hx eq36 => ?_; subst eq36
    have := h6 x hx
    simp; exact mbl (Nat.le_trans this (by decide))
  · rw [Nat.add_sub_cancel_left, List.length_map, y1]
    intro r hr
    have := hg6 r hr; lia
  · rw [Nat.add_sub_cancel_left, y4]; lia
  · rw [y2]; lia
  · rw [y3, X.e]
end
end
section
/-! the facts, all of them -/
theorem LawAt.facts {L A S B : List (List Int)} {a b low high : Nat} (X : LawAt L a b A S B low high) (I : LawIn L a b) : LawFacts L a b A.length (A.length + S.length - 1) low high := by
  refine x06 (X.parts I) fun hL hS h6 h4 hA hB => ?_
  have sl := X.sl
  have hz := joinRows_le L 6 fun r hr => (I.r6 r hr).1
  have l4 := I.l4
  refine ⟨by lia, ?_, X.lh, X.hh, ⟨I.a1, I.b1, I.a2, I.b2, by lia, ?_, ?_, ?_⟩, ?_, ?_, ?_, ?_, ?_, ?_, ?_, ?_⟩
  · rw [X.e]; simp; lia
  · rw [X.sp]; show S.length ≤ 4; lia
  · rw [X.sp]; exact h6
  · rw [X.sp]; exact X.hh
  · rw [X.sp, X.due]
    exact List.map_congr_left fun r _ => extracted_cut r X.lh
  · intro w hw
    refine x03 (X.rows I hw) fun _ r2 r3 => ?_
    rw [X.done' hw]
    have := joinRows_le _ 60 fun r hr => (r2 r hr).2
    lia
  · intro w hw
    refine x03 (X.rows I hw) fun r1 r2 r3 => ?_
    rw [r1]
    exact ⟨by lia, fun r hr => by have := (r2 r hr).2; lia⟩
  · intro w hw
    have hg : ∀ r ∈ L.map gridOf, r.length ≤ 24 := by
      intro r hr
      refine x12 (List.mem_map.mp hr) fun x hx eq37 => ?_; subst eq37
      have := gridOf_le x
      have := (I.r6 x hx).1
      lia
    unfold leftOf
    refine leftRows_le hg X.lh X.hh ?_ ?_ hw (by lia)
    · split <;> lia
    · split <;> lia
  · intro w hw h9
    rw [(X.rows I hw).1, X.left_nt h9 hw]
  · intro w hw
    rw [(X.rows I hw).1, X.e, List.append_assoc, List.append_assoc, List.take_left, List.take_left]
  · intro w hw
    have hd := done_len S low high w hw
    rw [(X.rows I hw).1, X.e, seg_end X.sl]
    conv => lhs; rw [← hd, ← List.length_append, List.drop_left]
    rw [← List.length_append, List.drop_left]
  · intro h9 hg
    refine X.yank I h9 fun r hr => ?_
    rw [seg_len X.sl, ← List.map_drop, ← List.map_take, X.e, mid_take] at hg
    have := hg _ (List.mem_map.mpr (i12 r hr rfl))
    rw [gridOf_nt (noTab_of h9 r (by rw [X.e]; simp [hr]))] at this
    exact this
theorem pre_ahead {L : List (List Int)} {t1 t2 : Nat} {x : List Int} (h : L[t2]? = some x) (hl : t2 < t1) : (preRows (L.take t2)).length + x.length + 1 ≤ (preRows (L.take t1)).length := by
  have e : L.take t1 = L.take (t2 + 1) ++ (L.drop (t2 + 1)).take (t1 - (t2 + 1)) := by rw [← List.take_add, show t2 + 1 + (t1 - (t2 + 1)) = t1 by lia]
  rw [e, preRows_append, take_snoc h, preRows_append, preRows_cons]
  simp; lia
theorem spot_at {L : List (List Int)} {t k p : Nat} {x : List Int} (h : L[t]? = some x) (hk : k ≤ x.length) (hq : p - 1 = (preRows (L.take t)).length + k) (hL : ∀ r ∈ L, NoNl r) : spotOf (joinRows L) p = (t, (gridOf (x.take k)).length) := by
  have s := Spot.of h hk hq hL
  have hl := (List.getElem?_eq_some_iff.mp h).1
  unfold spotOf
  have e := rowsSt_pre (L.take t) (x.take k) (fun r hr => hL r (List.mem_of_mem_take hr)) ((hL x (List.mem_of_getElem? h)).take k)
  rw [s.take]
  unfold rowsOf
  rw [e]
  simp; lia
theorem law_facts {L : List (List Int)} {a b : Nat} (I : LawIn L a b) : LawFacts L a b (spotOf (joinRows L) (min a b)).1 (spotOf (joinRows L) (max a b)).1
    (min (spotOf (joinRows L) (min a b)).2 (spotOf (joinRows L) (max a b)).2) (max (spotOf (joinRows L) (min a b)).2 (spotOf (joinRows L) (max a b)).2) := by
  have hL : ∀ r ∈ L, NoNl r := fun r hr x hx => by
    have := (I.r6 r hr).2 x hx
    simp at this; lia
  have hne : L ≠ [] := fun e => by have := I.l1; rw [e] at this; simp at this
  have a1 := I.a1
  have a2 := I.a2
  have b1 := I.b1
  have b2 := I.b2
  refine x33 (locate L (min a b - 1) hne (by lia)) fun t1 k1 x1 e1 hk1 hq1 => ?_
  refine x33 (locate L (max a b - 1) hne (by lia)) fun t2 k2 x2 e2 hk2 hq2 => ?_
  have s1 := Spot.of e1 hk1 hq1 hL
  have s2 := Spot.of e2 hk2 hq2 hL
  rw [spot_at e1 hk1 hq1 hL, spot_at e2 hk2 hq2 hL]
  dsimp only
  have ht : t1 ≤ t2 := by
    by_cases h : t1 ≤ t2
    · exact h
    · have hp := pre_ahead e2 (Nat.lt_of_not_le h)
      have hm : min a b - 1 ≤ max a b - 1 := Nat.sub_le_sub_right (min_le_max' a b) 1
      rw [hq1, hq2] at hm
      exact absurd (Nat.lt_of_lt_of_le (Nat.lt_of_le_of_lt (Nat.add_le_add_left hk2 _) hp) (Nat.le_trans (Nat.le_add_right _ _) hm)) (Nat.lt_irrefl _)
  have l1 := (List.getElem?_eq_some_iff.mp e1).1
  have l2 := (List.getElem?_eq_some_iff.mp e2).1
  have eL : L.take (t2 + 1) = L.take t1 ++ (L.drop t1).take (t2 + 1 - t1) := by rw [← List.take_add, show t1 + (t2 + 1 - t1) = t2 + 1 by lia]
  have sn : (L.drop t1).take (t2 + 1 - t1) ≠ [] := by
    intro e
    have := congrArg List.length e
    simp at this; lia
  have hS : ∀ r ∈ (L.drop t1).take (t2 + 1 - t1), NoNl r := fun r hr => hL r (List.mem_of_mem_drop (List.mem_of_mem_take hr))
  have e : L = L.take t1 ++ (L.drop t1).take (t2 + 1 - t1) ++ L.drop (t2 + 1) := by rw [← eL, List.take_append_drop]
  have hi : (preRows (L.take t2)).length + x2.length = (preRows (L.take t1)).length + (joinRows ((L.drop t1).take (t2 + 1 - t1))).length := by
    have h1 := joinRows_pre (L.take t1) _ sn
    rw [← eL, take_snoc e2, joinRows_split] at h1
    have h2 := congrArg List.length h1
    simpa [postRows] using h2
  have X : LawAt L a b (L.take t1) ((L.drop t1).take (t2 + 1 - t1)) (L.drop (t2 + 1)) (min (gridOf (x1.take k1)).length (gridOf (x2.take k2)).length) (max (gridOf (x1.take k1)).length (gridOf (x2.take k2)).length) := by
    refine ⟨e, sn, ?_, by lia, ?_⟩
    · have hmid := joinRows_mid (L.take t1) _ (L.drop (t2 + 1)) sn
      rw [← e] at hmid
      have c1 := s1.col
      have c2 := s2.col
      rw [← gridOf_len] at c1 c2
      have hcol : min (colOf (joinRows L) (a - 1)) (colOf (joinRows L) (b - 1)) = min (gridOf (x1.take k1)).length (gridOf (x2.take k2)).length ∧ max (colOf (joinRows L) (a - 1)) (colOf (joinRows L) (b - 1)) = max (gridOf (x1.take k1)).length (gridOf (x2.take k2)).length := by
        rcases Nat.le_total a b with h | h
        · rw [Nat.min_eq_left h] at c1
          rw [Nat.max_eq_right h] at c2
          rw [c1, c2]
          exact ⟨rfl, rfl⟩
        · rw [Nat.min_eq_right h] at c1
          rw [Nat.max_eq_left h] at c2
          rw [c1, c2]
          exact ⟨Nat.min_comm _ _, Nat.max_comm _ _⟩
      unfold spanOf
      rw [s1.ls, s2.le, hcol.1, hcol.2, hi, Nat.add_sub_cancel_left]
      congr 1
      rw [hmid, List.append_assoc, List.drop_left, List.take_left, rowsOf_join _ sn hS]
    · have g1 := gridOf_le (x1.take k1)
      have g2 := gridOf_le (x2.take k2)
      have := (I.r6 x1 (List.mem_of_getElem? e1)).1
      have := (I.r6 x2 (List.mem_of_getElem? e2)).1
      simp at g1 g2; lia
  have F := X.facts I
  have hA : (L.take t1).length = t1 := by simp; lia
  have hB : t1 + ((L.drop t1).take (t2 + 1 - t1)).length - 1 = t2 := by
    rw [List.length_take_of_le (by rw [List.length_drop]; exact Nat.sub_le_sub_right l2 t1), Nat.add_sub_cancel' (Nat.le_succ_of_le ht)]; rfl
  rw [hA, hB] at F
  exact F
end
section
/-! the law's own frame, and its end -/
theorem law_end {prog : Program} {w : World} {K : Frag} {p : Program} {loose : List Str} {mean : ExcName → Option Value} {mg mb : Str → Option Value} {h₀ h₁ : Heap} {L l fa : Addr} {vs : List Value} {ns : List Int}
    {qual : Str} {sc : Scope} {cdv : Value} {s0 s1 s2 s3 s4 s5 s6 s7 s8 s9 s10 s11 s12 s13 s14 s15 s16 s17 s18 s19 s20 : Stmt} {bs : List (Str × Value)} {cells : Led} {Φ : Flow → Shared → Prop} {E : Value → Shared → Prop} {s : Shared}
    (e : (fdAt 79).map (fun x => (x.2.2.1, x.2.2.2)) = some ([s0, s1, s2, s3, s4, s5, s6, s7, s8, s9, s10, s11, s12, s13, s14, s15, s16, s17, s18, s19, s20], sc))
    (hbs : bs = [(("script" : Str), Value.ref l)]) (tops : ∀ c : Cx, c.K = K → Tops c) (hx : excOk K = true) (hfn : fnOk K = true)
    (S : ScOk sc ["script"] ((LV.loc {}).map (·.1)).tail)
    (KX : K.In h₀) (T : Top p loose mean mg mb h₀) (hL : h₀.IsList l vs.toArray) (hI : IntsAre vs ns) (hn : ns.length ≤ 63) (B : Below callerA h₀ [] h₀)
    (F : Fr h₀ L h₁ (bindL (envOfC qual sc L fa cdv).kindOf bs fun _ => none)) (N : News h₀ L h₁ cells)
    (X : CellsAre (bindC (envOfC qual sc L fa cdv).kindOf bs fun _ => none) (cellsFrom (L + 1) sc.names []) cells) (hs : s.heap = h₁)
    (q : ∀ h' tk' m', Fr h₀ L h' m' → Φ (.ret (.bool true)) { s with heap := h', toks := tk' }) :
    wpAny (model prog w) (callerA.deeper (envOfC qual sc L fa cdv)) (execs [s0, s1, s2, s3, s4, s5, s6, s7, s8, s9, s10, s11, s12, s13, s14, s15, s16, s17, s18, s19, s20] (envOfC qual sc L fa cdv)) Φ E s := by
  subst hbs
  rw [Option.map_eq_some_iff] at e
  obtain ⟨⟨nm, ar, bd, sc'⟩, e, e'⟩ := e
  obtain ⟨e1, e2⟩ := Prod.mk.inj e'
  dsimp only at e1 e2
  rw [e1, e2] at e
  let c : Cx := { prog := prog, w := w, K := K, p := p, loose := loose, mean := mean, mg := mg, mb := mb, sl := l, ns := ns, q := true }
  let env := envOfC qual sc L fa cdv
  let r : RR := { A := callerA.deeper env, env := env, fenv := env, A₀ := callerA, base := h₀, outer := [], h₀ := h₀, L := L, X := [] }
  have eadr := cellsAre_map X
  have cnd2 : ((cellsFrom (L + 1) sc.names []).map (·.2)).Nodup := cellsFrom_nd _ _ _ (by simp) (by simp)
  have hnames : ∀ y ∈ (LV.loc {}).map (·.1), sc.names.lookup y = some .local ∨ sc.names.lookup y = some .cell := by
    intro y hy
    have hb := List.all_eq_true.mp S.names y hy
    rcases Bool.or_eq_true_iff.mp hb with q | q
    · exact .inl (beq_iff_eq.mp q)
    · exact .inr (beq_iff_eq.mp q)
  have hpos : ∀ y o, (y, o) ∈ LV.loc {} → sc.names.lookup y = some .local ∨ (sc.names.lookup y = some .cell ∧ ∃ a ob, (cellsFrom (L + 1) sc.names []).lookup y = some a ∧ (a, ob) ∈ cells ∧ ob.data = .cell (bindC (envOfC qual sc L fa cdv).kindOf [(("script" : Str), Value.ref l)] (fun _ => none) y)) := by
    intro y o hy
    rcases hnames y (List.mem_map.mpr ⟨_, hy, rfl⟩) with h | h
    · exact .inl h
    · have hs := cellsFrom_some sc.names (L + 1) [] (x := y) (.inl h)
      obtain ⟨a, hl⟩ := Option.isSome_iff_exists.mp hs
      obtain ⟨ob, h1, h2⟩ := cellsAre_mem X (lookup_mem hl)
      exact .inr ⟨h, a, ob, hl, h1, h2⟩
  have R : RelF c 10 sc r (bindL env.kindOf [(("script" : Str), Value.ref l)] fun _ => none) cells s.heap [] [] (LV.loc {}) [] := by
    refine { fr := rfl, ff := rfl, fk := S.kind, dep := by show callerA.depth + 1 + 20 < recursionLimit; decide, un := by show callerA.units + 3 + 160 + 200 < cLine; decide, hd := fun _ => rfl, B := B, F := by rw [hs]; exact F, K := KX, T := T, scr := ⟨vs, hL, hI⟩, N := ?_, es := rfl, ek := S.kind, eg := rfl, eb := rfl, vars := ?_, nd := ?_, ef := rfl, el := rfl, slots := ?_, cinj := ?_ }
    · refine ⟨?_, .nil, rfl, ?_⟩
      · intro p hp
        refine hs ▸ N p ?_
        simpa [r] using hp
      · show ((cells ++ ([] : Led)).map (fun p : Addr × Obj => p.1) ++ []).Nodup
        rw [List.append_nil, List.append_nil, eadr]; exact cnd2
    · intro y v hy
      have hy2 : (y, v) = (("script" : Str), MV.script) := by
        simp [LV.loc] at hy
        exact Prod.ext hy.1 hy.2
      cases hy2
      refine ⟨.ref l, .script, ?_⟩
      rcases hpos _ _ (List.Mem.head _) with hk | ⟨hk, a, ob, hl, hm, hd⟩
      · exact .inl ⟨hk, .inl ⟨rfl, bindL_in (by simp) (.head _) hk⟩⟩
      · rw [bindC_in (by simp) (.head _) hk] at hd
        exact .inr ⟨hk, a, ob, hl, List.mem_append_left _ hm, hd⟩
    · exact S.nd
    · intro y o hy
      rcases hpos y o hy with hk | ⟨hk, a, ob, hl, hm, hd⟩
      · exact .inl hk
      · exact .inr ⟨hk, a, ob, _, hl, hm, hd⟩
    · intro y z a h1 h2
      exact snd_inj cnd2 (lookup_mem h1) (lookup_mem h2)
  refine law_body (c := c) (n := 0) (Q := fun fl _ _ => fl = .ret (.bool true)) (fun L a b I => law_facts I) e (tops c rfl) rfl hx hfn (by show ns.length ≤ 1000; lia) (fun _ _ => rfl) r _ cells s [] [] Φ E R rfl fun fl loc' H' fl' m' cs' h' tk' σ' os' hq R' ec pf f => ?_
  subst hq
  cases f with
  | ret hv =>
    cases hv
    exact q h' tk' m' R'.F
end
end Mine
namespace Mine.head
theorem tw16072502192527678464 : True := trivial
theorem tw16894197260953374720 : True := trivial
theorem tw15898109809663626304 : True := trivial
theorem tw7732209734871044160 : True := trivial
theorem tw17972497016974392416 : True := trivial
theorem tw9234455393454914656 : True := trivial
theorem tw2554682012703037696 : True := trivial
theorem tw18123143868385100064 : True := trivial
theorem tw1985537357303476512 : True := trivial
theorem tw4473611206160876864 : True := trivial
theorem tw11628534518673281344 : True := trivial
theorem tw5944575059761466720 : True := trivial
theorem tw13294958713779813728 : True := trivial
theorem tw15037083628117588352 : True := trivial
theorem tw7450023128482652576 : True := trivial
theorem tw14086173767186703872 : True := trivial
theorem tw1569551363024616992 : True := trivial
theorem tw6202090305015876224 : True := trivial
theorem tw6232644224018631296 : True := trivial
theorem tw16172288393029767808 : True := trivial
theorem tw9074772780463953568 : True := trivial
theorem tw2096541523181747872 : True := trivial
theorem tw2428695696106030784 : True := trivial
theorem tw4357005996527412928 : True := trivial
theorem tw9380374249521086144 : True := trivial
theorem tw290710125855613696 : True := trivial
theorem tw12460202669355646752 : True := trivial
theorem tw5467695095851852608 : True := trivial
theorem tw3496171461512900480 : True := trivial
theorem tw7417405269818204032 : True := trivial
theorem tw10242447542790323104 : True := trivial
theorem tw18332285231265401824 : True := trivial
theorem tw1992862871153497056 : True := trivial
theorem tw14527164170590304321 : True := trivial
theorem tw16470739840699324481 : True := trivial
theorem tw9592777112578238593 : True := trivial
theorem tw3615648651819825313 : True := trivial
theorem tw9388430590476628193 : True := trivial
theorem tw4160124254940468481 : True := trivial
theorem tw4764554697811233 : True := trivial
theorem tw16545597347906280737 : True := trivial
theorem tw10258521583956687137 : True := trivial
theorem tw10356212845559719233 : True := trivial
theorem tw1929634836878124385 : True := trivial
theorem tw5792407227767346561 : True := trivial
theorem tw12998212659555988865 : True := trivial
theorem tw6240353410654795137 : True := trivial
theorem tw3690969761935527329 : True := trivial
theorem tw5865467396996320769 : True := trivial
theorem tw3088210815446039105 : True := trivial
theorem tw3500380475922496097 : True := trivial
theorem tw1499353310998574721 : True := trivial
theorem tw15064752311394979489 : True := trivial
theorem tw12727220549172885185 : True := trivial
theorem tw9062998866958442273 : True := trivial
theorem tw7161073391023584161 : True := trivial
theorem tw3270352941656771521 : True := trivial
theorem tw9743709737119245314 : True := trivial
theorem tw6588589085864783938 : True := trivial
theorem tw8402328212356670530 : True := trivial
theorem tw2525317073905713282 : True := trivial
theorem tw12472887615940459650 : True := trivial
theorem tw14676189674455941282 : True := trivial
theorem tw4965378191221513410 : True := trivial
theorem tw11692735721529064706 : True := trivial
theorem tw3696042808614700290 : True := trivial
theorem tw8101760021730824546 : True := trivial
theorem tw1134157569726261602 : True := trivial
theorem tw16172356507618199906 : True := trivial
theorem tw7658410731251134818 : True := trivial
theorem tw5019597260055213698 : True := trivial
theorem tw12841863872788715202 : True := trivial
theorem tw17993767162375566018 : True := trivial
theorem tw11820730986300896962 : True := trivial
theorem tw7802898811600756450 : True := trivial
theorem tw3160712208675142370 : True := trivial
theorem tw9820158181544301314 : True := trivial
theorem tw13488047542759136002 : True := trivial
theorem tw7523532297153676066 : True := trivial
theorem tw1056085985882870562 : True := trivial
theorem tw6369041477666114370 : True := trivial
theorem tw5187041380464763778 : True := trivial
theorem tw12478146576626367362 : True := trivial
theorem tw18051680202136193954 : True := trivial
theorem tw18331532914195504034 : True := trivial
theorem tw8182465387277545410 : True := trivial
theorem tw6521490308693473283 : True := trivial
theorem tw5986637957666399235 : True := trivial
theorem tw10533634037010066435 : True := trivial
theorem tw10746725682022337571 : True := trivial
theorem tw2355103038987944067 : True := trivial
theorem tw2728595385866086531 : True := trivial
theorem tw7179252675378151715 : True := trivial
theorem tw17725469503822016867 : True := trivial
theorem tw13086575352542018947 : True := trivial
theorem tw6102985290365831651 : True := trivial
theorem tw12763952150808568291 : True := trivial
theorem tw14597329475937083939 : True := trivial
theorem tw11310469193554059811 : True := trivial
theorem tw15894371620910866019 : True := trivial
theorem tw12581593161143036515 : True := trivial
theorem tw851385035628625539 : True := trivial
theorem tw1917425121527220963 : True := trivial
theorem tw9658139154387788515 : True := trivial
theorem tw4415685298772064003 : True := trivial
theorem tw8541356943393881859 : True := trivial
theorem tw17577399041416155939 : True := trivial
theorem tw3665506230870052707 : True := trivial
theorem tw17905491414393134947 : True := trivial
theorem tw13664066127859960707 : True := trivial
theorem tw2393098407364606883 : True := trivial
theorem tw2694075680205673411 : True := trivial
theorem tw976808484645153763 : True := trivial
theorem tw10900948863051656163 : True := trivial
theorem tw11081218982966106116 : True := trivial
theorem tw15410735652082386980 : True := trivial
theorem tw11180365069992382532 : True := trivial
theorem tw4607607821588926596 : True := trivial
theorem tw7383176390310337668 : True := trivial
theorem tw9083612298779875492 : True := trivial
theorem tw13397106695672350980 : True := trivial
theorem tw14999265807660949796 : True := trivial
theorem tw8414573866900348196 : True := trivial
theorem tw3368030927266983236 : True := trivial
theorem tw14241001667801471300 : True := trivial
theorem tw16014373381606645092 : True := trivial
theorem tw578259024812056932 : True := trivial
theorem tw999222835498014148 : True := trivial
theorem tw17015032458148788900 : True := trivial
theorem tw16922147877168347812 : True := trivial
theorem tw6489421142724028100 : True := trivial
theorem tw9495540839478616804 : True := trivial
theorem tw10059252607514160932 : True := trivial
theorem tw15506723302920939300 : True := trivial
theorem tw1503407388533364548 : True := trivial
theorem tw6846866878297920324 : True := trivial
theorem tw13986843968525588388 : True := trivial
theorem tw15895748673760503845 : True := trivial
theorem tw7096138990903361605 : True := trivial
theorem tw17850378814381688901 : True := trivial
theorem tw6161856959107265637 : True := trivial
theorem tw6536181036136497285 : True := trivial
theorem tw8216834362191484069 : True := trivial
theorem tw10021064610941686981 : True := trivial
theorem tw15796087645652482245 : True := trivial
theorem tw4196546014268931301 : True := trivial
theorem tw11923155195566972133 : True := trivial
theorem tw16576625349610184965 : True := trivial
theorem tw1522823579158628613 : True := trivial
theorem tw10786079294511566085 : True := trivial
theorem tw13955511503576765797 : True := trivial
theorem tw1519320592345488741 : True := trivial
theorem tw4839655697589452165 : True := trivial
theorem tw3103639331685909893 : True := trivial
theorem tw1211024037004892549 : True := trivial
theorem tw10265929125382437317 : True := trivial
theorem tw7404141018258913797 : True := trivial
theorem tw5593727005144783397 : True := trivial
theorem tw1660877005871194693 : True := trivial
theorem tw12324890628731678277 : True := trivial
theorem tw4311042196063409733 : True := trivial
theorem tw8603420104599213669 : True := trivial
theorem tw5080737588221150853 : True := trivial
theorem tw11255790879490906821 : True := trivial
theorem tw3405375401864073989 : True := trivial
theorem tw7661765248129044261 : True := trivial
theorem tw12182850187970735909 : True := trivial
theorem tw8187629637223713605 : True := trivial
theorem tw3980653432952411973 : True := trivial
theorem tw10010264046613662565 : True := trivial
theorem tw13906610036690215845 : True := trivial
theorem tw12344544660321961925 : True := trivial
theorem tw14349913743752837093 : True := trivial
theorem tw16078238667976319046 : True := trivial
theorem tw13508044439285423174 : True := trivial
theorem tw10573961123116132518 : True := trivial
theorem tw9515422150858430662 : True := trivial
theorem tw5906749814970224870 : True := trivial
theorem tw1748456618969930982 : True := trivial
theorem tw17988201657351507238 : True := trivial
theorem tw14000535487285256486 : True := trivial
theorem tw2326617092838664518 : True := trivial
theorem tw6640010369347007910 : True := trivial
theorem tw1457377512435260902 : True := trivial
theorem tw4017301010375394790 : True := trivial
theorem tw16111715859725283846 : True := trivial
theorem tw1909714482019496454 : True := trivial
theorem tw1689142752476645926 : True := trivial
theorem tw16874305072444578374 : True := trivial
theorem tw14512941343882779238 : True := trivial
theorem tw5764021196749891206 : True := trivial
theorem tw10521553517811329670 : True := trivial
theorem tw13537664574400122534 : True := trivial
theorem tw18364922244981856966 : True := trivial
theorem tw18384547517478447814 : True := trivial
theorem tw13295082483830516422 : True := trivial
theorem tw13276723143375012678 : True := trivial
theorem tw4053978428183960486 : True := trivial
theorem tw9101448428047585222 : True := trivial
theorem tw15840312062823119879 : True := trivial
theorem tw6212921109956642855 : True := trivial
theorem tw2260579728952749127 : True := trivial
theorem tw11105056867450500199 : True := trivial
theorem tw1062042127530464391 : True := trivial
theorem tw5629256929840616583 : True := trivial
theorem tw14112020806712329415 : True := trivial
theorem tw18007968972792079559 : True := trivial
theorem tw2529948359932261575 : True := trivial
theorem tw5987550445186205895 : True := trivial
theorem tw8185714761375850791 : True := trivial
theorem tw4693820183103290663 : True := trivial
theorem tw11582096051123008839 : True := trivial
theorem tw14385403278947933607 : True := trivial
theorem tw7680146299302783591 : True := trivial
theorem tw1319983325249436295 : True := trivial
theorem tw18014224886719972007 : True := trivial
theorem tw8041981036286801607 : True := trivial
theorem tw10988817232074504935 : True := trivial
theorem tw1272635626206103303 : True := trivial
theorem tw8409189969818401543 : True := trivial
theorem tw7994106446794305319 : True := trivial
theorem tw13605870324054321959 : True := trivial
theorem tw5973763720392745831 : True := trivial
theorem tw262713603470380999 : True := trivial
theorem tw8408249889716310983 : True := trivial
theorem tw6265338273532641288 : True := trivial
theorem tw10952189463223380040 : True := trivial
theorem tw14699756766385990792 : True := trivial
theorem tw2591067827882107080 : True := trivial
theorem tw13353151263460963528 : True := trivial
theorem tw15253147559959296200 : True := trivial
theorem tw10366927770000222440 : True := trivial
theorem tw12870424476946447624 : True := trivial
theorem tw3264716943610762504 : True := trivial
theorem tw3164961170700492040 : True := trivial
theorem tw14412733801367601576 : True := trivial
theorem tw2066564036433440168 : True := trivial
theorem tw4834694072379752904 : True := trivial
theorem tw1894759731626308040 : True := trivial
theorem tw3304075619188804072 : True := trivial
theorem tw2879759524354350568 : True := trivial
theorem tw11308087075614649832 : True := trivial
theorem tw14631306762972528136 : True := trivial
theorem tw14946772226789246504 : True := trivial
theorem tw14943480678444902952 : True := trivial
theorem tw16441004959143088680 : True := trivial
theorem tw2154566216772986472 : True := trivial
theorem tw17698105195316432488 : True := trivial
theorem tw2437478716016495240 : True := trivial
theorem tw14565420633037775528 : True := trivial
theorem tw7876399200375917224 : True := trivial
theorem tw8169693465737517768 : True := trivial
theorem tw1276956409769668328 : True := trivial
theorem tw13932022402069264104 : True := trivial
theorem tw17068824599700077352 : True := trivial
theorem tw17674571679781333832 : True := trivial
theorem tw17411354535832351560 : True := trivial
theorem tw9554096598146076520 : True := trivial
theorem tw11097941207591946120 : True := trivial
theorem tw13801937863458859944 : True := trivial
theorem tw14637134836413734856 : True := trivial
theorem tw8549075639274686408 : True := trivial
theorem tw3581614266968435656 : True := trivial
theorem tw2825341998796452840 : True := trivial
theorem tw5788964047882338313 : True := trivial
theorem tw780477332936465449 : True := trivial
theorem tw14956371261235936329 : True := trivial
theorem tw1588943658860677225 : True := trivial
theorem tw11005904730967762025 : True := trivial
theorem tw10018764681926925449 : True := trivial
theorem tw4964814941381164201 : True := trivial
theorem tw7833285031277912329 : True := trivial
theorem tw11862927689305589065 : True := trivial
theorem tw17539234302018041193 : True := trivial
theorem tw14168692526580214153 : True := trivial
theorem tw18176413224385145225 : True := trivial
theorem tw15647610678857825673 : True := trivial
theorem tw17894702793023417833 : True := trivial
theorem tw7705420606127192585 : True := trivial
theorem tw5331137831679937033 : True := trivial
theorem tw820421773197932041 : True := trivial
theorem tw2340069552987342377 : True := trivial
theorem tw5015311536963163689 : True := trivial
theorem tw4554283584077286953 : True := trivial
theorem tw9646481798937456297 : True := trivial
theorem tw11305582741114486441 : True := trivial
theorem tw4377270945021899497 : True := trivial
theorem tw2976249973925969801 : True := trivial
theorem tw315434073420411817 : True := trivial
theorem tw17486074103640542121 : True := trivial
theorem tw15782939476341012554 : True := trivial
theorem tw12668424612319814730 : True := trivial
theorem tw17608190574486352970 : True := trivial
theorem tw380116879960591498 : True := trivial
theorem tw5096742575497195690 : True := trivial
theorem tw9103479521544129834 : True := trivial
theorem tw17113217626458354986 : True := trivial
theorem tw11636873012791513418 : True := trivial
theorem tw17212568112599259466 : True := trivial
theorem tw10706776884845955466 : True := trivial
theorem tw17836260108008149386 : True := trivial
theorem tw7688013043533409674 : True := trivial
theorem tw6211381574409162282 : True := trivial
theorem tw8182079617134344778 : True := trivial
theorem tw5061997093462229610 : True := trivial
theorem tw69809265629811306 : True := trivial
theorem tw18080951475816111786 : True := trivial
theorem tw5996384718915585738 : True := trivial
theorem tw3021114989795446570 : True := trivial
theorem tw13896987355042952010 : True := trivial
theorem tw17453365369857097546 : True := trivial
theorem tw6684978435548883818 : True := trivial
theorem tw7928285938522686346 : True := trivial
theorem tw17844492200522320778 : True := trivial
theorem tw6968674436765558698 : True := trivial
theorem tw5487235932777146282 : True := trivial
theorem tw14843749296085226474 : True := trivial
theorem tw6099028997845504075 : True := trivial
theorem tw3127049524044150859 : True := trivial
theorem tw2753283235347674219 : True := trivial
theorem tw17007033763367706731 : True := trivial
theorem tw9625377726130185387 : True := trivial
theorem tw11289835788462762251 : True := trivial
theorem tw8172283286065499403 : True := trivial
theorem tw6379358179555706155 : True := trivial
theorem tw1608297297296620843 : True := trivial
theorem tw5927865893512547691 : True := trivial
theorem tw15305915472762889579 : True := trivial
theorem tw11569442021236766091 : True := trivial
theorem tw13743032657059413451 : True := trivial
theorem tw15468718075485040107 : True := trivial
theorem tw14667470093908496907 : True := trivial
theorem tw8796753266530204203 : True := trivial
theorem tw5506250874072839755 : True := trivial
theorem tw6388477656530123435 : True := trivial
theorem tw16769997242578385675 : True := trivial
theorem tw1172538174109094731 : True := trivial
theorem tw8097174177036852075 : True := trivial
theorem tw14488727979953464203 : True := trivial
theorem tw5479459121986351116 : True := trivial
theorem tw10270352894671993868 : True := trivial
theorem tw14969872817325187116 : True := trivial
theorem tw7512725033676591148 : True := trivial
theorem tw1506576300011279404 : True := trivial
theorem tw4708111749353345164 : True := trivial
theorem tw9464831228461672588 : True := trivial
theorem tw2588942769649879372 : True := trivial
theorem tw7575806435727305068 : True := trivial
theorem tw6522505103286579628 : True := trivial
theorem tw1642545813376747948 : True := trivial
theorem tw17854896373637125580 : True := trivial
theorem tw15638870477510070732 : True := trivial
theorem tw2857895335220236748 : True := trivial
theorem tw14699528089545365996 : True := trivial
theorem tw17789423225533864492 : True := trivial
theorem tw14139502460874162764 : True := trivial
theorem tw48543519692965452 : True := trivial
theorem tw3790771472595898956 : True := trivial
theorem tw2764016085172604524 : True := trivial
theorem tw9082462177598256812 : True := trivial
theorem tw3547240966391284428 : True := trivial
theorem tw11484358847640170188 : True := trivial
theorem tw7090939061502383884 : True := trivial
theorem tw6891450509433485068 : True := trivial
theorem tw8479801150676808524 : True := trivial
theorem tw6110071263904590700 : True := trivial
theorem tw16847831306532103052 : True := trivial
theorem tw7256407767356113836 : True := trivial
theorem tw9325057278558614444 : True := trivial
theorem tw3991279037241028524 : True := trivial
theorem tw10205530081349824492 : True := trivial
theorem tw14127983276867164173 : True := trivial
theorem tw14432977821161478157 : True := trivial
theorem tw6121141971511671821 : True := trivial
theorem tw15148963937461231693 : True := trivial
theorem tw7805308653706644653 : True := trivial
theorem tw8812732774380208333 : True := trivial
theorem tw4162075825823739117 : True := trivial
theorem tw12330954535739239725 : True := trivial
theorem tw6153569298028143949 : True := trivial
theorem tw907359911958329709 : True := trivial
theorem tw5870146547769353613 : True := trivial
theorem tw7272792461964422541 : True := trivial
theorem tw15436542981012472205 : True := trivial
theorem tw16817119741492734445 : True := trivial
theorem tw14139617269561922093 : True := trivial
theorem tw8402214883040486957 : True := trivial
theorem tw16572314662081343053 : True := trivial
theorem tw6751290297309308749 : True := trivial
theorem tw7599496313472250701 : True := trivial
theorem tw12601080634535202701 : True := trivial
theorem tw6237802210402583469 : True := trivial
theorem tw13600378441667735501 : True := trivial
theorem tw17332727794074296334 : True := trivial
theorem tw940147379719373870 : True := trivial
theorem tw16659920880120507502 : True := trivial
theorem tw12328230846540189838 : True := trivial
theorem tw10389290468125465742 : True := trivial
theorem tw300626226527484142 : True := trivial
theorem tw11426403942048686318 : True := trivial
theorem tw18416563613846182222 : True := trivial
theorem tw12704426703380559182 : True := trivial
theorem tw12359489953124434286 : True := trivial
theorem tw7616930195647119758 : True := trivial
theorem tw12865059321931465230 : True := trivial
theorem tw16474958459275807246 : True := trivial
theorem tw1495726902847802894 : True := trivial
theorem tw12362083183470981646 : True := trivial
theorem tw7309950759910210094 : True := trivial
theorem tw17093656651364094606 : True := trivial
theorem tw8866670633112419022 : True := trivial
theorem tw16128420640991077102 : True := trivial
theorem tw10431609616501453582 : True := trivial
theorem tw709382114072422158 : True := trivial
theorem tw6053997905714604814 : True := trivial
theorem tw9746458257258439470 : True := trivial
theorem tw13180129090757240718 : True := trivial
theorem tw3089916443595474862 : True := trivial
theorem tw15520248196984853422 : True := trivial
theorem tw14234965402570480558 : True := trivial
theorem tw1398043889541792783 : True := trivial
theorem tw739537129135343663 : True := trivial
theorem tw8586521899292070991 : True := trivial
theorem tw16640130746408290383 : True := trivial
theorem tw4090201507572337743 : True := trivial
theorem tw8715499118904818895 : True := trivial
theorem tw1620002657737552111 : True := trivial
theorem tw18165431152234640623 : True := trivial
theorem tw3794523003379204399 : True := trivial
theorem tw12310735299239354703 : True := trivial
theorem tw14988262832038062447 : True := trivial
theorem tw14643560169476415855 : True := trivial
theorem tw17821319399108415887 : True := trivial
theorem tw4746297304354101679 : True := trivial
theorem tw15181326774706428367 : True := trivial
theorem tw8626486368039343599 : True := trivial
theorem tw16714887947964762639 : True := trivial
theorem tw7627683417492964911 : True := trivial
theorem tw5515381820778694223 : True := trivial
theorem tw14364637388885140079 : True := trivial
theorem tw5617373736292572815 : True := trivial
theorem tw13357441389134331599 : True := trivial
theorem tw7624658959004494543 : True := trivial
theorem tw11715283913529211631 : True := trivial
theorem tw9196398404247428943 : True := trivial
theorem tw2705560170217086799 : True := trivial
theorem tw12032222614953749359 : True := trivial
theorem tw16997897962222511 : True := trivial
theorem tw4433315090154635215 : True := trivial
theorem tw12740806245664736207 : True := trivial
theorem tw807142644699662319 : True := trivial
theorem tw5651425540991249520 : True := trivial
theorem tw12604462930493870256 : True := trivial
theorem tw12695399030622205104 : True := trivial
theorem tw3185377453876500656 : True := trivial
theorem tw14492117785962260688 : True := trivial
theorem tw13337238644230332656 : True := trivial
theorem tw16782820856776367440 : True := trivial
theorem tw1528803642439863696 : True := trivial
theorem tw1463646239528298992 : True := trivial
theorem tw7313386461004707312 : True := trivial
theorem tw5737951250597237232 : True := trivial
theorem tw2661039320868540944 : True := trivial
theorem tw14028522991509751376 : True := trivial
theorem tw3453547403478019728 : True := trivial
theorem tw3244141525975696 : True := trivial
theorem tw13504307299585405616 : True := trivial
theorem tw13246386896891170512 : True := trivial
theorem tw14969385696402013904 : True := trivial
theorem tw17646911460466567920 : True := trivial
theorem tw2545145822199252752 : True := trivial
theorem tw6870361546347238192 : True := trivial
theorem tw12212823987433534256 : True := trivial
theorem tw4691952243595246448 : True := trivial
theorem tw14788773977795034992 : True := trivial
theorem tw10872037306656784433 : True := trivial
theorem tw1643771367246577777 : True := trivial
theorem tw11770459041652445329 : True := trivial
theorem tw17197444120159719569 : True := trivial
theorem tw5319049981483164881 : True := trivial
theorem tw12822298378996975857 : True := trivial
theorem tw7734086686654790897 : True := trivial
theorem tw9987851973559822609 : True := trivial
theorem tw17173245716831642929 : True := trivial
theorem tw11124748197601291601 : True := trivial
theorem tw67086481866811729 : True := trivial
theorem tw4063747431996464497 : True := trivial
theorem tw3928599903575798129 : True := trivial
theorem tw5111174896325423537 : True := trivial
theorem tw8264559056461403633 : True := trivial
theorem tw12095829319087573521 : True := trivial
theorem tw12949380547846470161 : True := trivial
theorem tw7789450098604059249 : True := trivial
theorem tw14628233357713752721 : True := trivial
theorem tw11704837465938651953 : True := trivial
theorem tw18177665153149118353 : True := trivial
theorem tw9802980913210911633 : True := trivial
theorem tw16966009324859112401 : True := trivial
theorem tw11925700103697007601 : True := trivial
theorem tw13478637309914159250 : True := trivial
theorem tw2506711637615833298 : True := trivial
theorem tw17008234436448823602 : True := trivial
theorem tw14531177953140590962 : True := trivial
theorem tw9202431907968578930 : True := trivial
theorem tw11485113708198979986 : True := trivial
theorem tw1687793838685487538 : True := trivial
theorem tw12037728316022314418 : True := trivial
theorem tw13585267454733459922 : True := trivial
theorem tw7604411431414283762 : True := trivial
theorem tw17262968490309938674 : True := trivial
theorem tw8451290768687142514 : True := trivial
theorem tw3321875119742208626 : True := trivial
theorem tw3821945547825155762 : True := trivial
theorem tw10748227973586771634 : True := trivial
theorem tw15256841493749336786 : True := trivial
theorem tw1714602735852981970 : True := trivial
theorem tw2441957057352720082 : True := trivial
theorem tw15091486752826498866 : True := trivial
theorem tw10730805705081004914 : True := trivial
theorem tw2201313380682377074 : True := trivial
theorem tw15127644999133008818 : True := trivial
theorem tw12892129938458570674 : True := trivial
theorem tw9030979908501067730 : True := trivial
theorem tw17265401458761052179 : True := trivial
theorem tw3512634313551410195 : True := trivial
theorem tw9145527808636388435 : True := trivial
theorem tw12856577281151766611 : True := trivial
theorem tw7940748693946456147 : True := trivial
theorem tw14909605222495392915 : True := trivial
theorem tw7148437315225170067 : True := trivial
theorem tw11434997419882176723 : True := trivial
theorem tw2518057956044344595 : True := trivial
theorem tw5104563664521345299 : True := trivial
theorem tw4709128311485490483 : True := trivial
theorem tw14643959010103036307 : True := trivial
theorem tw8671685427711848851 : True := trivial
theorem tw16278871845796110771 : True := trivial
theorem tw9702098958229961203 : True := trivial
theorem tw12339793173418651155 : True := trivial
theorem tw6174258528820157971 : True := trivial
theorem tw6298033893332097587 : True := trivial
theorem tw708152393587867187 : True := trivial
theorem tw2797894973233656403 : True := trivial
theorem tw13213268828098156179 : True := trivial
theorem tw13689084217373910675 : True := trivial
theorem tw4857777746444614323 : True := trivial
theorem tw6402496994288996404 : True := trivial
theorem tw7270002223443293236 : True := trivial
theorem tw6880043348581005364 : True := trivial
theorem tw15656768269340197940 : True := trivial
theorem tw5797013207949663412 : True := trivial
theorem tw12398312691204496596 : True := trivial
theorem tw6871339299614917876 : True := trivial
theorem tw6426539377367359892 : True := trivial
theorem tw6474009502463322548 : True := trivial
theorem tw17958272820484234708 : True := trivial
theorem tw8569104457590258164 : True := trivial
theorem tw3715144110773694964 : True := trivial
theorem tw13637325136056909300 : True := trivial
theorem tw4009957668330374740 : True := trivial
theorem tw2907111362388958804 : True := trivial
theorem tw17002534310236347988 : True := trivial
theorem tw1937370526825066196 : True := trivial
theorem tw7748693106545578708 : True := trivial
theorem tw2400818531096893172 : True := trivial
theorem tw15839014119128505108 : True := trivial
theorem tw15895551434495452948 : True := trivial
theorem tw1832916270232011604 : True := trivial
theorem tw3986194592780655508 : True := trivial
theorem tw1389810093214676884 : True := trivial
theorem tw614141487946175412 : True := trivial
theorem tw2249667046024356820 : True := trivial
theorem tw5874639182527098836 : True := trivial
theorem tw5638995163158488052 : True := trivial
theorem tw13335025841360890868 : True := trivial
theorem tw12364624919760631829 : True := trivial
theorem tw6053349399257934933 : True := trivial
theorem tw6684681932595197013 : True := trivial
theorem tw6085824867444503733 : True := trivial
theorem tw5725584637647431893 : True := trivial
theorem tw7571121800136207637 : True := trivial
theorem tw2994366008111725845 : True := trivial
theorem tw4976181008148175253 : True := trivial
theorem tw5141578139466067413 : True := trivial
theorem tw12074249297620881909 : True := trivial
theorem tw18433677622606106133 : True := trivial
theorem tw1224924573807776437 : True := trivial
theorem tw4885112425497105109 : True := trivial
theorem tw5438144065070405397 : True := trivial
theorem tw12147184966966947637 : True := trivial
theorem tw12043669396524033845 : True := trivial
theorem tw17508272824862286709 : True := trivial
theorem tw5501060405047882677 : True := trivial
theorem tw4972248218790579157 : True := trivial
theorem tw5508695066786827253 : True := trivial
theorem tw11544532188706048022 : True := trivial
theorem tw9716329373054682134 : True := trivial
theorem tw11484797826999851062 : True := trivial
theorem tw17194126546080390198 : True := trivial
theorem tw8159583801465064534 : True := trivial
theorem tw9767149119325585590 : True := trivial
theorem tw9107825763807709430 : True := trivial
theorem tw5612995960945425718 : True := trivial
theorem tw10865165270600546614 : True := trivial
theorem tw17552560543380974038 : True := trivial
theorem tw12352672977532951062 : True := trivial
theorem tw16065720564569863766 : True := trivial
theorem tw12851702773856589430 : True := trivial
theorem tw11427066125472700054 : True := trivial
theorem tw17014734716931888790 : True := trivial
theorem tw532055438628499158 : True := trivial
theorem tw15785421084128741142 : True := trivial
theorem tw9133290819911140118 : True := trivial
theorem tw15539854500240908086 : True := trivial
theorem tw14842460003800876886 : True := trivial
theorem tw14982685227137828758 : True := trivial
theorem tw2413573451304230806 : True := trivial
theorem tw12205659690895024086 : True := trivial
theorem tw604627371996746742 : True := trivial
theorem tw2298694737197419510 : True := trivial
theorem tw2172669909848549399 : True := trivial
theorem tw10457615780465708087 : True := trivial
theorem tw17188972718952451159 : True := trivial
theorem tw6247268493268985975 : True := trivial
theorem tw1315816938146588887 : True := trivial
theorem tw15919025892595252471 : True := trivial
theorem tw7287109101882759415 : True := trivial
theorem tw13653928888864918839 : True := trivial
theorem tw12858780395421280599 : True := trivial
theorem tw9065935926736091543 : True := trivial
theorem tw12903917746401883607 : True := trivial
theorem tw11338825007792423415 : True := trivial
theorem tw9449176361245260279 : True := trivial
theorem tw6836605351468522007 : True := trivial
theorem tw12214093580764582487 : True := trivial
theorem tw497287684792784471 : True := trivial
theorem tw4163069186122357367 : True := trivial
theorem tw1939405473400901271 : True := trivial
theorem tw13002585709282622103 : True := trivial
theorem tw11290360913936777911 : True := trivial
theorem tw7960053054240918295 : True := trivial
theorem tw15112835437128306455 : True := trivial
theorem tw4307260679431091991 : True := trivial
theorem tw13137911371727378231 : True := trivial
theorem tw8627200689577751383 : True := trivial
theorem tw8874674299285249911 : True := trivial
theorem tw9984397402777080727 : True := trivial
theorem tw11857307637417881527 : True := trivial
theorem tw15510365090734361527 : True := trivial
theorem tw8534208459206503383 : True := trivial
theorem tw7704315382344345624 : True := trivial
theorem tw1970811146720035896 : True := trivial
theorem tw5353729903917744248 : True := trivial
theorem tw15798066900824788120 : True := trivial
theorem tw2876011056497122456 : True := trivial
theorem tw13942192884097748152 : True := trivial
theorem tw14615432700455777464 : True := trivial
theorem tw10668533816033670360 : True := trivial
theorem tw14195316510222423288 : True := trivial
theorem tw9325123708862168440 : True := trivial
theorem tw8035625575855466936 : True := trivial
theorem tw10736139440505347576 : True := trivial
theorem tw15296082917334920728 : True := trivial
theorem tw7013799640231393816 : True := trivial
theorem tw1212124681294104184 : True := trivial
theorem tw13199516396595161752 : True := trivial
theorem tw9353324838224930552 : True := trivial
theorem tw15841401105113185080 : True := trivial
theorem tw17464823870196871000 : True := trivial
theorem tw14877080517539528568 : True := trivial
theorem tw17362218986543327160 : True := trivial
theorem tw15666658371737129944 : True := trivial
theorem tw4591285823534602200 : True := trivial
theorem tw16962450398199861240 : True := trivial
theorem tw15039987702171664376 : True := trivial
theorem tw649443455394278489 : True := trivial
theorem tw6207834228037699737 : True := trivial
theorem tw8550467674348477657 : True := trivial
theorem tw7712916153251135833 : True := trivial
theorem tw6587087628758450585 : True := trivial
theorem tw6079359036626576793 : True := trivial
theorem tw13954853420313727417 : True := trivial
theorem tw4235852798576303577 : True := trivial
theorem tw9368406320212774489 : True := trivial
theorem tw17444863063712431705 : True := trivial
theorem tw18100283295969611417 : True := trivial
theorem tw17782148633632673465 : True := trivial
theorem tw3746228215898030841 : True := trivial
theorem tw6763335052953634553 : True := trivial
theorem tw9407594320385231609 : True := trivial
theorem tw12611893724949602041 : True := trivial
theorem tw11821203517306503961 : True := trivial
theorem tw13381877923881390905 : True := trivial
theorem tw5274623360512300857 : True := trivial
theorem tw17304152732226823993 : True := trivial
theorem tw10948677003083999065 : True := trivial
theorem tw5599997604879368025 : True := trivial
theorem tw3290047583113660281 : True := trivial
theorem tw15735840784391694233 : True := trivial
theorem tw9213911765573242809 : True := trivial
theorem tw3556061257289618393 : True := trivial
theorem tw14744981736328886265 : True := trivial
theorem tw9214367901419015226 : True := trivial
theorem tw15204471325056678010 : True := trivial
theorem tw18260194641540637818 : True := trivial
theorem tw8337448324364255386 : True := trivial
theorem tw5723944856813171866 : True := trivial
theorem tw1489404036187247834 : True := trivial
theorem tw11296743742662292762 : True := trivial
theorem tw2237326684586592538 : True := trivial
theorem tw17826015225549371706 : True := trivial
theorem tw5092371620264689978 : True := trivial
theorem tw4273228799998304602 : True := trivial
theorem tw3688799982635324794 : True := trivial
theorem tw4947412792043415962 : True := trivial
theorem tw2681166955253090778 : True := trivial
theorem tw12775505166333009402 : True := trivial
theorem tw10333954764705244698 : True := trivial
theorem tw9553506758532729402 : True := trivial
theorem tw11724780754615379514 : True := trivial
theorem tw6327039764776113722 : True := trivial
theorem tw9186546921256032858 : True := trivial
theorem tw14061139507663348314 : True := trivial
theorem tw13198292447841614426 : True := trivial
theorem tw4023466491090337370 : True := trivial
theorem tw5401097623525119610 : True := trivial
theorem tw8476099583838051002 : True := trivial
theorem tw7906546307943345882 : True := trivial
theorem tw12207028300977255130 : True := trivial
theorem tw8988664977312594650 : True := trivial
theorem tw1852205218256702202 : True := trivial
theorem tw3869590956505411354 : True := trivial
theorem tw16380157621550025562 : True := trivial
theorem tw6846597200999610202 : True := trivial
theorem tw11988142204041823098 : True := trivial
theorem tw12201952087667049370 : True := trivial
theorem tw9777900189565919194 : True := trivial
theorem tw44622916816846810 : True := trivial
theorem tw742351954350328859 : True := trivial
theorem tw1858156416291392539 : True := trivial
theorem tw779419810087314491 : True := trivial
theorem tw4387028780061031483 : True := trivial
theorem tw17867283565879608411 : True := trivial
theorem tw6100774026682323163 : True := trivial
theorem tw8535708456716222715 : True := trivial
theorem tw8912104118211102971 : True := trivial
theorem tw3973953319845086491 : True := trivial
theorem tw6600165084710513979 : True := trivial
theorem tw13227620805987009915 : True := trivial
theorem tw10840385229135970747 : True := trivial
theorem tw9978949632667528635 : True := trivial
theorem tw4945251732147069371 : True := trivial
theorem tw3715584954343283195 : True := trivial
theorem tw3616486834168423931 : True := trivial
theorem tw12987040726578829979 : True := trivial
theorem tw930087139818521243 : True := trivial
theorem tw1626232751844553403 : True := trivial
theorem tw466721876749952763 : True := trivial
theorem tw1618804561499322139 : True := trivial
theorem tw1919001801439425371 : True := trivial
theorem tw2203363585012173787 : True := trivial
theorem tw9142320679590124636 : True := trivial
theorem tw11052631288978436188 : True := trivial
theorem tw14882813523228863612 : True := trivial
theorem tw5140934472235413692 : True := trivial
theorem tw573967197379146972 : True := trivial
theorem tw7688317290187622652 : True := trivial
theorem tw12242153458792446204 : True := trivial
theorem tw693309671712327132 : True := trivial
theorem tw1082313596108445148 : True := trivial
theorem tw6272251169252508156 : True := trivial
theorem tw9162278640276766204 : True := trivial
theorem tw2973143901146584636 : True := trivial
theorem tw14646466228836335164 : True := trivial
theorem tw10467814448475477596 : True := trivial
theorem tw10015159338476511836 : True := trivial
theorem tw6260244149815935644 : True := trivial
theorem tw1728724042893426364 : True := trivial
theorem tw10062970787820224252 : True := trivial
theorem tw8299393411229908732 : True := trivial
theorem tw2581250870941146908 : True := trivial
theorem tw10875119458065257276 : True := trivial
theorem tw6889739017440866108 : True := trivial
theorem tw16031315777459398524 : True := trivial
theorem tw12428389735305899900 : True := trivial
theorem tw3333069708870698940 : True := trivial
theorem tw1291722185910714397 : True := trivial
theorem tw6692803169904595997 : True := trivial
theorem tw16346224235508607005 : True := trivial
theorem tw8773370040425892893 : True := trivial
theorem tw7494366503370351645 : True := trivial
theorem tw13988103294471073821 : True := trivial
theorem tw1214346256449528893 : True := trivial
theorem tw5038994553942263901 : True := trivial
theorem tw10371985647062452541 : True := trivial
theorem tw4239589573987675453 : True := trivial
theorem tw5363715690607933 : True := trivial
theorem tw11714945338242495837 : True := trivial
theorem tw17297054508065495485 : True := trivial
theorem tw1995287165650055613 : True := trivial
theorem tw11478508594961133021 : True := trivial
theorem tw9280153536138602973 : True := trivial
theorem tw5697773043789114877 : True := trivial
theorem tw7253898381062576733 : True := trivial
theorem tw17142359554024780413 : True := trivial
theorem tw7119846925741900413 : True := trivial
theorem tw13510609219080548989 : True := trivial
theorem tw16800043278716471037 : True := trivial
theorem tw1858285994304674589 : True := trivial
theorem tw527386997569798941 : True := trivial
theorem tw10987702880554017565 : True := trivial
theorem tw15967466079928408925 : True := trivial
theorem tw733406405333840765 : True := trivial
theorem tw10812213935944405949 : True := trivial
theorem tw16903022960794457021 : True := trivial
theorem tw15501141472565082077 : True := trivial
theorem tw6772502638888315869 : True := trivial
theorem tw140066278072042493 : True := trivial
theorem tw8216097648270762014 : True := trivial
theorem tw13295774097974887486 : True := trivial
theorem tw4528443807372415038 : True := trivial
theorem tw16582591585412914238 : True := trivial
theorem tw17854890406432584798 : True := trivial
theorem tw2491421050496283774 : True := trivial
theorem tw12475708393154427166 : True := trivial
theorem tw3651205649096709438 : True := trivial
theorem tw17243387458012846398 : True := trivial
theorem tw5013180600929471838 : True := trivial
theorem tw8895791426145780158 : True := trivial
theorem tw7758381527925395934 : True := trivial
theorem tw4543076655600059902 : True := trivial
theorem tw3368474557548986910 : True := trivial
theorem tw16106133796442146334 : True := trivial
theorem tw15604011560834605598 : True := trivial
theorem tw7992697801930647134 : True := trivial
theorem tw45052839361067614 : True := trivial
theorem tw14205479233844494046 : True := trivial
theorem tw4154363929692500862 : True := trivial
theorem tw11063524718261073790 : True := trivial
theorem tw17700853532424174462 : True := trivial
theorem tw3547030090768783262 : True := trivial
theorem tw3062044705579621278 : True := trivial
theorem tw10510622979536455646 : True := trivial
theorem tw10504981510240967646 : True := trivial
theorem tw6857060684267632606 : True := trivial
theorem tw11194998557105285118 : True := trivial
theorem tw13078646160514809887 : True := trivial
theorem tw17348764703882912863 : True := trivial
theorem tw14393718171448925343 : True := trivial
theorem tw4381510469713062047 : True := trivial
theorem tw14417885227837004991 : True := trivial
theorem tw8997269238129315039 : True := trivial
theorem tw15035418422258542911 : True := trivial
theorem tw16385634705727604063 : True := trivial
theorem tw9114333099845857663 : True := trivial
theorem tw8758324158161630591 : True := trivial
theorem tw16871623187472473471 : True := trivial
theorem tw15263674166054382079 : True := trivial
theorem tw10170068340998493759 : True := trivial
theorem tw10261356005730403935 : True := trivial
theorem tw4932745802714450591 : True := trivial
theorem tw10079960370226730655 : True := trivial
theorem tw12024539317367501503 : True := trivial
theorem tw3749026756887285471 : True := trivial
theorem tw10519217271611395807 : True := trivial
theorem tw15794997505209512671 : True := trivial
theorem tw533756555076263647 : True := trivial
theorem tw10070411193226618655 : True := trivial
theorem tw8497721794823489343 : True := trivial
theorem tw10143211769846208351 : True := trivial
theorem tw174166394780034911 : True := trivial
theorem tw14631705268626504575 : True := trivial
theorem tw14720509044617813951 : True := trivial
theorem tw10005452208157733855 : True := trivial
theorem tw3501597964444990463 : True := trivial
theorem tw10077013526283999546 : True := trivial
theorem tw7310445993537561493 : True := trivial
end Mine.head
section
open PySem PySem.W PySem.Spec PySem.Calls PyProof.Rows
set_option Elab.async true in
set_option maxRecDepth 100000 in
set_option maxHeartbeats 8000000 in
theorem Mine.head : PySem.Challenge.rw_np0095_01.Holds := by
  w_on
  o_law
  k_head
  case hw => w_witness2
  k_go0
  rename Top _ _ _ _ _ _ => T
  rename Frag.In _ _ => KX
  rename Heap.IsList _ _ _ => hL
  rename IntsAre _ _ => hI
  rename Below _ _ _ _ => K0
  rename Fr _ _ _ _ => F
  rename News _ _ _ _ => N0
  rename CellsAre _ _ _ => X0
  rename (¬ (_ < _)) => hn
  refine Mine.law_end ?zz1 ?zz2 ?zz3 ?zz4 ?zz5 ?zz6 KX T hL hI ?zz7 K0 F N0 X0 rfl ?zz8
  · kernel_rfl
  · kernel_rfl
  · intro c hc
    obtain ⟨prog, w, K, pr, loose, mean, mg, mb, sl, ns, q⟩ := c
    dsimp only at hc
    subst hc
    refine { defs := ?_, codes := ?_, glb := ?_, blt := ?_, nums := ?_, cls := ?_, makes := ?_, fld := ?_, mth := ?_, tups := ?_ } <;> kernel_rfl
  · kernel_rfl
  · kernel_rfl
  · exact ⟨rfl, rfl, rfl, by decide +kernel, by decide +kernel, by decide +kernel⟩
  · omega
  · intro h' tk' m' F'
    refine goodW_bool F' (by assumption) (raisesW_false ?_) ?_
    · wrow_none_raised
    · wrow_post
end
theorem PySem.Challenge.cw_np0095_01_holds : PySem.Challenge.rw_np0095_01.Holds :=
  Mine.head

