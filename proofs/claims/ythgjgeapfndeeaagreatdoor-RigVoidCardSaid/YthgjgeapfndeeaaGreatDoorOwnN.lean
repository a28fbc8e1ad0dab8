import Derived.Test.YthgjgeapfndeeaaGreatDoorBase0
set_option linter.unusedVariables false
set_option linter.unusedSimpArgs false
namespace Go.Proofs.YthgjgeapfndeeaaGreatDoor
open Go.PK
/-- Bytes of one's own, so many. -/
def OwnN (n : Nat) (l : List B8) : Value → List It → List It → Prop := fun v I' H' => ∃ ob cap, v = slO ob n cap ∧ I' = [] ∧ H' = [own ob cap 5 1 n (bytes l)] ∧ (n = 0 ∨ ob.isSome = true)
theorem OwnB.n {P : Program} {f : FuncId} {args : Array Value} {I H : List It} {l : List B8} {n : Nat} (hn : l.length = n) (h : Spc P f args I H (OwnB l)) : Spc P f args I H (OwnN n l) := by subst hn; exact h
end Go.Proofs.YthgjgeapfndeeaaGreatDoor
