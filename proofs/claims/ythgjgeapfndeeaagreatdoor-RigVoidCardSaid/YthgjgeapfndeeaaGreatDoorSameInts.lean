import Derived.Test.YthgjgeapfndeeaaGreatDoorBase
import Derived.Test.YthgjgeapfndeeaaGreatDoorBase0
import Derived.Test.YthgjgeapfndeeaaGreatDoorUA
set_option linter.unusedVariables false
set_option linter.unusedSimpArgs false
namespace Go.Proofs.YthgjgeapfndeeaaGreatDoor
open Go.PK

theorem RdI.sls {I : List It} {a : Addr} {n j : Nat} {l : List Int} {x : Int} (hm : sls (some a) 1 n (ints l) ∈ I) (h : l[j]? = some x) : RdI I (a.add (j * 1)) (.int .i64 x) := ⟨fun _ => by
  rw [Nat.mul_one]
  exact Rds.rd (Rds.sls hm) (by rw [List.getElem?_map, h]; rfl)⟩
end Go.Proofs.YthgjgeapfndeeaaGreatDoor
