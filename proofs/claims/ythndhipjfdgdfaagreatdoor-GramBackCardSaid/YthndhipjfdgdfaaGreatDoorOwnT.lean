import Derived.Test.YthndhipjfdgdfaaGreatDoorWB
set_option linter.unusedVariables false
set_option linter.unusedSimpArgs false
namespace Go.Proofs.YthndhipjfdgdfaaGreatDoor
open Go.PK
/-! ### A slice of one's own, read -/
theorem ownRd {I H : List It} {b cap n j : Nat} {e : TypeId} {L : List Tx} {s : Tx} (hm : own (some b) cap e 1 n (L.map strV) ∈ H) (h : L[j]? = some s) : Rd I H ⟨b, 0 + j * 1, none⟩ (strV s) := by
  have h2 := (Rds.own (I := I) hm).rd (j := j * 1) (v := strV s) (by rw [show j * 1 = j by omega, List.getElem?_map, h]; rfl)
  rwa [add_none] at h2
end Go.Proofs.YthndhipjfdgdfaaGreatDoor
