/-
  EM, part 3: the law's call.
-/
import Derived.Test.YtcnefidknaobhaaGreatEM2
import Derived.Test.YtcnefidknaobhaaGreatURd
set_option linter.unusedVariables false
set_option linter.unusedSimpArgs false
namespace Go.Proofs.YtcnefidknaobhaaGreat
open Go.PK
theorem unitVoid_call (W : World) (x : Sl B8) (k : Int) (_ : rBytes.ok x) (_ : rInt.ok k) (_ : ∀ y ∈ rBytes.its x, y.A W) (_ : ∀ y ∈ rInt.its k, y.A W) :
    Calls Tryz.prog 3 #[rBytes.val x, rInt.val k] W (fun e w' => e = .returned (.bool true) ∧ RowKit.Below W.heap.size W w') := (uvoid x.p x.l.length x.c k).lawI (by simp)
end Go.Proofs.YtcnefidknaobhaaGreat
