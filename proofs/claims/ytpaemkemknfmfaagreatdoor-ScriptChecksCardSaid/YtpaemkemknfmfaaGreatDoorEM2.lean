/-
  EM, part 2: the script's example, found true by the kernel.
-/
import Derived.Test.YtpaemkemknfmfaaGreatDoorEM1
set_option linter.unusedVariables false
set_option linter.unusedSimpArgs false
namespace Go.Proofs.YtpaemkemknfmfaaGreatDoor
open Go.PK
theorem works34_run : isTrue (gF mchS stE 200 .e .e 0 6 (([] : List Value).map AV.val)) = true := by kernel_rfl
theorem works34 : Spc Tryz.prog 6 #[] [] [] (Is (.bool true)) := spc_true [] works34_run
end Go.Proofs.YtpaemkemknfmfaaGreatDoor
