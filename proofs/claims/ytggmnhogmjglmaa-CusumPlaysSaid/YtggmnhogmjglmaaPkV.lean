/-
  PK, part V: what holds between two statements, of things that are not known ahead.
-/
import Derived.Test.YtggmnhogmjglmaaPD
namespace Go.PK
section
variable {P : Program} {Q : Exit → Act → World → Prop} {N : Nat} {E : Env} {w0 : World} {S : List Nat} {I H : List It}
def MidG {γ : Type} (N : Nat) (p : γ → Prop) (E : γ → Env) (w0 : World) (S : List Nat) (I H : γ → List It) : Exit → Act → World → Prop := fun e a w => e = .normal ∧ ∃ g, p g ∧ Ag N a (E g) ∧ Cls w0 S (I g) (H g) w
theorem CW.cutG {γ : Type} {c y : Code} (p : γ → Prop) (E' : γ → Env) (I' H' : γ → List It) (h1 : CW P c (MidG N p E' w0 S I' H') N E w0 S I H) (h2 : ∀ g, p g → CW P y Q N (E' g) w0 S (I' g) (H' g)) : CW P c (Exit.then (fun a w => y.wp P Q a w) Q) N E w0 S I H := fun a w ha hw =>
  wp_mono (h1 a w ha hw) (fun e a' w' ⟨he, g, hp, ha', hw'⟩ => by subst he; exact h2 g hp a' w' ha' hw')
theorem NQ.midG {γ : Type} {p : γ → Prop} {E' : γ → Env} {I' H' : γ → List It} (g : γ) (hp : p g) (s : Sub E (E' g)) (hc : ∀ w, Cls w0 S I H w → Cls w0 S (I' g) (H' g) w) : NQ (MidG N p E' w0 S I' H') N E w0 S I H := fun _ _ ha hw => ⟨rfl, g, hp, ha.sub s, hc _ hw⟩
end
end Go.PK
