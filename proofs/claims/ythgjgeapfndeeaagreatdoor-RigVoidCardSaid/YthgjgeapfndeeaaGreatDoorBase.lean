import Derived.Test.YthgjgeapfndeeaaGreatDoorBase0
import Derived.Test.YthgjgeapfndeeaaGreatDoorRef8
set_option linter.unusedVariables false
set_option linter.unusedSimpArgs false
namespace Go.Proofs.YthgjgeapfndeeaaGreatDoor
open Go.PK

theorem sum_after (b : Nat) (p : Option Addr) (cap : Nat) (l : List B8) (hb : l.length ≤ 1000000000) :
    Spc Tryz.prog 208 #[.pointer (some ⟨b, 0, none⟩)] [hcel b (after l).1 p (after l).2.length cap l.length, sls p 1 (after l).2.length (bytes (after l).2)] [] (Is (.agg (bytes (sha l)).toArray)) :=
  sum_any b (after l).1 p cap l.length (after l).2 (after_rest l).1 hb

end Go.Proofs.YthgjgeapfndeeaaGreatDoor
