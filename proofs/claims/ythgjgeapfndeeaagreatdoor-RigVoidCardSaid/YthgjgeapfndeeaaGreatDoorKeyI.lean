import Derived.Test.YthgjgeapfndeeaaGreatDoorBase0
import Derived.Test.YthgjgeapfndeeaaGreatDoorPC
set_option linter.unusedVariables false
set_option linter.unusedSimpArgs false
namespace Go.Proofs.YthgjgeapfndeeaaGreatDoor
open Go.PK
/-! ### Integers as keys of a map -/
def goodI (v : Value) : Prop := ∃ n, v = .int .i64 n
theorem setV_absent {k v : Value} : ∀ {c : List (Value × Value)}, lookV k c = none → setV k v c = c ++ [(k, v)]
  | [], _ => rfl
  | (a, u) :: c, h => by
    rw [lookV] at h
    split at h
    · cases h
    · next hn => rw [setV, if_neg hn, setV_absent h]; rfl
end Go.Proofs.YthgjgeapfndeeaaGreatDoor
