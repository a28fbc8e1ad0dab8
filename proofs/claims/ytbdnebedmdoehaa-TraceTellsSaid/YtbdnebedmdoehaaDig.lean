import Derived.Test.YtbdnebedmdoehaaHB
import Derived.Test.YtbdnebedmdoehaaPC
import Derived.Test.YtbdnebedmdoehaaPD
namespace Go.Proofs.Ytbdnebedmdoehaa
open Go.PK
theorem dig_eq (l1 l2 : List B8) (h1 : l1.length = 32) (h2 : l2.length = 32) (x y : Operand) (w : World) : (do eqGuard .eql 78 x y (.agg (bytes l1).toArray) (.agg (bytes l2).toArray); binOp .eql 78 (.agg (bytes l1).toArray) (.agg (bytes l2).toArray) : Sem Value).run Try.prog w = .ok (.bool (l1 == l2)) w :=
  eql_arr8 (e := 5) (by kernel_rfl) (ii := Try.t5) (by kernel_rfl) (by kernel_rfl) Try.isAgg5 Try.runUnderlying5 (by kernel_rfl) l1 l2 h1 h2 w
theorem dig_ne (l1 l2 : List B8) (h1 : l1.length = 32) (h2 : l2.length = 32) (x y : Operand) (w : World) : (do eqGuard .neq 78 x y (.agg (bytes l1).toArray) (.agg (bytes l2).toArray); binOp .neq 78 (.agg (bytes l1).toArray) (.agg (bytes l2).toArray) : Sem Value).run Try.prog w = .ok (.bool (!(l1 == l2))) w :=
  neq_arr8 (e := 5) (by kernel_rfl) (ii := Try.t5) (by kernel_rfl) (by kernel_rfl) Try.isAgg5 Try.runUnderlying5 (by kernel_rfl) l1 l2 h1 h2 w
abbrev zeros : List B8 := List.replicate 32 0#8
end Go.Proofs.Ytbdnebedmdoehaa
