import Derived.Test.YtcnefidknaobhaaGreatHB
import Derived.Test.YtcnefidknaobhaaGreatPC
import Derived.Test.YtcnefidknaobhaaGreatPD
set_option linter.unusedVariables false
set_option linter.unusedSimpArgs false
namespace Go.Proofs.YtcnefidknaobhaaGreat
open Go.PK
theorem dig_eq (l1 l2 : List B8) (h1 : l1.length = 32) (h2 : l2.length = 32) (x y : Operand) (w : World) : (do eqGuard .eql 218 x y (.agg (bytes l1).toArray) (.agg (bytes l2).toArray); binOp .eql 218 (.agg (bytes l1).toArray) (.agg (bytes l2).toArray) : Sem Value).run Tryz.prog w = .ok (.bool (l1 == l2)) w :=
  eql_arr8 (e := 5) (by kernel_rfl) (ii := Tryz.t5) (by kernel_rfl) (by kernel_rfl) Tryz.isAgg5 Tryz.runUnderlying5 (by kernel_rfl) l1 l2 h1 h2 w
theorem dig_ne (l1 l2 : List B8) (h1 : l1.length = 32) (h2 : l2.length = 32) (x y : Operand) (w : World) : (do eqGuard .neq 218 x y (.agg (bytes l1).toArray) (.agg (bytes l2).toArray); binOp .neq 218 (.agg (bytes l1).toArray) (.agg (bytes l2).toArray) : Sem Value).run Tryz.prog w = .ok (.bool (!(l1 == l2))) w :=
  neq_arr8 (e := 5) (by kernel_rfl) (ii := Tryz.t5) (by kernel_rfl) (by kernel_rfl) Tryz.isAgg5 Tryz.runUnderlying5 (by kernel_rfl) l1 l2 h1 h2 w
abbrev zeros : List B8 := List.replicate 32 0#8
end Go.Proofs.YtcnefidknaobhaaGreat
