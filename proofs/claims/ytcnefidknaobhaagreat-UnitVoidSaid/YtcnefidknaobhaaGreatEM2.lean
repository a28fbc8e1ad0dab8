/-
  EM, part 2: the law on a unit that no call made, found true by the kernel, whatever its arguments.
-/
import Derived.Test.YtcnefidknaobhaaGreatEM1
set_option linter.unusedVariables false
set_option linter.unusedSimpArgs false
namespace Go.Proofs.YtcnefidknaobhaaGreat
open Go.PK
theorem uvoid_run (q : Option Addr) (n c : Nat) (k : Int) : isTrue (gF mchU stE 200 .e .e 0 3 ([.slice q n c, .int .i64 k].map AV.val)) = true := by kernel_rfl
theorem uvoid (q : Option Addr) (n c : Nat) (k : Int) : Spc Tryz.prog 3 #[.slice q n c, .int .i64 k] [] [] (Is (.bool true)) := spc_true _ (uvoid_run q n c k)
end Go.Proofs.YtcnefidknaobhaaGreat
