/- What the rows want of the program alone. -/
import Derived.Test.YtbdnebedmdoehaaRows
import Derived.Test.YtbdnebedmdoehaaPD
import Derived.KernelRfl
namespace Go.Proofs.Ytbdnebedmdoehaa
theorem shOwn : ownKnob Try.prog.godebug = none := by kernel_rfl
theorem sh2 : laidOutB Try.prog = true := by kernel_rfl
theorem sh3 : mapsRowed Try.prog = true := by kernel_rfl
theorem sh7 : (Try.prog.stops == []) = true := by kernel_rfl
theorem sh9 : (Try.prog.stopKnobs == []) = true := by kernel_rfl
theorem sh25 : Try.prog.stopsHeard = true := by kernel_rfl
theorem sh26 : Try.prog.mayEnter = true := by kernel_rfl
end Go.Proofs.Ytbdnebedmdoehaa
