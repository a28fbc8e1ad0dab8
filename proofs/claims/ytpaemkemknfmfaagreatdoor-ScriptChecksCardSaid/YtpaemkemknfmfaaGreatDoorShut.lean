/- What the rows want of the program alone. -/
import Derived.Test.YtpaemkemknfmfaaGreatDoorRows
import Derived.Test.YtpaemkemknfmfaaGreatDoorPD
import Derived.KernelRfl
set_option linter.unusedVariables false
set_option linter.unusedSimpArgs false
namespace Go.Proofs.YtpaemkemknfmfaaGreatDoor
theorem shOwn : ownKnob Tryz.prog.godebug = none := by kernel_rfl
theorem sh2 : laidOutB Tryz.prog = true := by kernel_rfl
theorem sh3 : mapsRowed Tryz.prog = true := by kernel_rfl
theorem sh7 : (Tryz.prog.stops == []) = true := by kernel_rfl
theorem sh9 : (Tryz.prog.stopKnobs == []) = true := by kernel_rfl
theorem sh25 : Tryz.prog.stopsHeard = true := by kernel_rfl
theorem sh26 : Tryz.prog.mayEnter = true := by kernel_rfl
end Go.Proofs.YtpaemkemknfmfaaGreatDoor
