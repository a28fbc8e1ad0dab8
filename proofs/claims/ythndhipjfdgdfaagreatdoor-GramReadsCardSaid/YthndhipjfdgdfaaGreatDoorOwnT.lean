import Derived.Test.YthndhipjfdgdfaaGreatDoorWB
set_option linter.unusedVariables false
set_option linter.unusedSimpArgs false
namespace Go.Proofs.YthndhipjfdgdfaaGreatDoor
open Go.PK
/-! ### A slice of one's own, read -/
theorem ownRd {I H : List It} {b cap n j : Nat} {e : TypeId} {L : List Tx} {s : Tx} (hm : own (some b) cap e 1 n (L.map strV) ∈ H) (h : L[j]? = some s) : Rd I H ⟨b, 0 + j * 1, none⟩ (strV s) := by
  have h2 := (Rds.own (I := I) hm).rd (j := j * 1) (v := strV s) (by rw [show j * 1 = j by omega, List.getElem?_map, h]; rfl)
  rwa [add_none] at h2
theorem ownRdI {I : List It} {b cap n j : Nat} {e : TypeId} {xs : List Value} {v : Value} (hm : own (some b) cap e 1 n xs ∈ I) (h : xs[j]? = some v) : RdI I ⟨b, 0 + j * 1, none⟩ v := ⟨fun H w hw => by
  have h1 := (own_sls (hw.i _ hm)).2.2 (j * 1) v (by rw [show j * 1 = j by omega]; exact h)
  rwa [add_none] at h1⟩
end Go.Proofs.YthndhipjfdgdfaaGreatDoor
