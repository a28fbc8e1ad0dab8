/- Readers of this law's arguments. -/
import Derived.Test.YthgjgeapfndeeaaGreatDoorPD
import Derived.Test.YthgjgeapfndeeaaGreatDoorProg
import Derived.KernelRfl
set_option linter.unusedVariables false
set_option linter.unusedSimpArgs false
namespace Go.Proofs.YthgjgeapfndeeaaGreatDoor
open Go.PK
noncomputable def rU8 : Rdr Tryz.prog 5 B8 := Rdr.u8 (by kernel_rfl) (by kernel_rfl)
noncomputable def rBytes : Rdr Tryz.prog 22 (Sl B8) := rU8.slice 1 (by kernel_rfl) (by kernel_rfl) (by kernel_rfl) (by decide) (List.map U8) (flat_one U8)
end Go.Proofs.YthgjgeapfndeeaaGreatDoor
