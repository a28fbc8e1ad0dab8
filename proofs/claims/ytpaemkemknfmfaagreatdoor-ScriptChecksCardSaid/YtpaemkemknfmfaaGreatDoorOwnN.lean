import Derived.Test.YtpaemkemknfmfaaGreatDoorBase0
set_option linter.unusedVariables false
set_option linter.unusedSimpArgs false
namespace Go.Proofs.YtpaemkemknfmfaaGreatDoor
open Go.PK
/-- Bytes of one's own, so many. -/
def OwnN (n : Nat) (l : List B8) : Value → List It → List It → Prop := fun v I' H' => ∃ ob cap, v = slO ob n cap ∧ I' = [] ∧ H' = [own ob cap 5 1 n (bytes l)] ∧ (n = 0 ∨ ob.isSome = true)
theorem OwnB.n {P : Program} {f : FuncId} {args : Array Value} {I H : List It} {l : List B8} {n : Nat} (hn : l.length = n) (h : Spc P f args I H (OwnB l)) : Spc P f args I H (OwnN n l) := by subst hn; exact h
/-- One's own slice, lent as the same written otherwise. -/
theorem Lend.ownE {I F J : List It} {ob : Option Nat} {cap sz nn n' : Nat} {e : TypeId} {xs xs' : List Value} (hm : own ob cap e sz nn xs ∈ F) (hn : nn = n') (hx : xs = xs') (h : Lend I F J) : Lend I F (sls (ob.map fun b => ⟨b, 0, none⟩) sz n' xs' :: J) := by
  subst hn; subst hx; exact Lend.own hm h
end Go.Proofs.YtpaemkemknfmfaaGreatDoor
