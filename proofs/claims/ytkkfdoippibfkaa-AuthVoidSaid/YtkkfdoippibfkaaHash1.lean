import Derived.Test.YtkkfdoippibfkaaFacts
import Derived.Test.YtkkfdoippibfkaaSha
namespace Go.Proofs.Ytkkfdoippibfkaa
open Go.PK

theorem neg31 : ∀ n : Nat, n < 32 → 0 < n → IntKind.u64.wrap (BitVec.ofInt IntKind.u64.bits (IntKind.u64.wrap (IntKind.i64.wrap (0 - (n : Int)))) &&& BitVec.ofInt IntKind.u64.bits 31).toNat = (32 - n : Nat) := by decide
theorem sub32 : ∀ n : Nat, n < 32 → 0 < n → IntKind.u64.wrap (32 - ((32 - n : Nat) : Int)) = (n : Int) := by decide

theorem rot_any (x : B32) (n : Nat) (h0 : 0 < n) (h : n < 32) : Spc Try.prog 244 #[U32 x, .int .i64 (IntKind.i64.wrap (0 - (n : Int)))] [] [] (Is (U32 (rotr x n))) := by
  refine Spc.enter Try.func244 rfl rfl rfl (fun w0 hw0 => ?_)
  refine CW.seq ?_
  refine CW.region (ef := []) (bk := []) ?_
  refine RL.assign rfl rfl rfl rfl ?_
  refine RL.nil ?_
  refine NQ.seq ?_
  refine CW.seq ?_
  refine CW.region (ef := []) (bk := []) ?_
  refine RL.move rfl rfl rfl rfl ?_
  refine RL.conv Try.runUnderlying3 Try.runUnderlying284 rfl rfl rfl rfl ?_
  refine RL.bin rfl rfl rfl rfl rfl rfl ?_
  refine RL.assign rfl rfl rfl rfl ?_
  refine RL.nil ?_
  refine NQ.seq ?_
  refine CW.seq ?_
  refine CW.region (ef := []) (bk := []) ?_
  refine RL.move rfl rfl rfl rfl ?_
  refine RL.move rfl rfl rfl rfl ?_
  -- STOP: op; op 2: d=11 ["binOp", "Go.BinOp.shl", 31, ["t", 9], ["t", 10], 284] guard=None (bits.go:210)
  refine RL.shl32 (32 - n) rfl rfl rfl rfl rfl (neg31 n h h0) (by omega) ?_
  refine RL.move rfl rfl rfl rfl ?_
  refine RL.move rfl rfl rfl rfl ?_
  refine RL.bin rfl rfl rfl rfl rfl rfl ?_
  -- STOP: op; op 6: d=15 ["binOp", "Go.BinOp.shr", 31, ["t", 12], ["t", 14], 284] guard=None (bits.go:210)
  refine RL.shr32 n rfl rfl rfl rfl rfl (by rw [neg31 n h h0]; exact sub32 n h h0) (by omega) ?_
  refine RL.bv32 (a := _) (b := _) or32 rfl rfl rfl rfl rfl ?_
  refine RL.assign rfl rfl rfl rfl ?_
  refine RL.nil ?_
  refine NQ.seq ?_
  refine CW.only (.cons (k := 4) rfl .nil) ?_
  refine CW.ret ?_
  -- STOP: ret; end
  exact RQ.post (res1 rfl rfl) (Split.none _) ⟨rfl, rfl, rfl⟩

theorem hright_any (x : B32) (n : Nat) (h0 : 0 < n) (h : n < 32) : Spc Try.prog 238 #[U32 x, .int .i64 (n : Int)] [] [] (Is (U32 (rotr x n))) := by
  refine Spc.enter Try.func238 rfl rfl rfl (fun w0 hw0 => ?_)
  refine CW.seq ?_
  refine CW.region (ef := []) (bk := []) ?_
  refine RL.assign rfl rfl rfl rfl ?_
  refine RL.nil ?_
  refine NQ.seq ?_
  refine CW.seq ?_
  refine CW.region (ef := []) (bk := []) ?_
  refine RL.move rfl rfl rfl rfl ?_
  refine RL.move rfl rfl rfl rfl ?_
  refine RL.neg rfl rfl rfl rfl ?_
  refine RL.callv (rot_any x n h0 h) Try.call244 rfl rfl rfl rfl (by repeat (first | exact Lend.nil | (refine Lend.inI ?_ ?_; (solve | (repeat (first | exact List.Mem.head _ | apply List.Mem.tail)))) | (refine Lend.inH ?_ ?_; (solve | (repeat (first | exact List.Mem.head _ | apply List.Mem.tail)))))) ?_
  refine RL.assign rfl rfl rfl rfl ?_
  refine RL.nil ?_
  refine NQ.seq ?_
  refine CW.only (.cons (k := 4) rfl .nil) ?_
  refine CW.ret ?_
  -- STOP: ret; end
  exact RQ.post (res1 rfl rfl) (Split.none _) ⟨rfl, rfl, rfl⟩

theorem hfirst_any : Spc Try.prog 212 #[] [] [] (Is (.agg iv.cells.toArray)) := by
  refine Spc.enter Try.func212 rfl rfl rfl (fun w0 hw0 => ?_)
  refine CW.seq ?_
  refine CW.region (ef := [0]) (bk := []) ?_
  refine RL.alloc Try.zeroValue360 rfl rfl rfl rfl rfl ?_
  intro b1
  refine RL.nil ?_
  refine NQ.seq ?_
  refine CW.seq ?_
  refine CW.region (ef := [1]) (bk := [1]) ?_
  refine RL.buildA [_, _, _, _, _, _, _, _] Try.zeroValue360 Try.runUnderlying360 Try.sizeOf31 rfl rfl rfl rfl rfl ?_
  refine RL.store (vs := [_, _, _, _, _, _, _, _]) Try.sizeOf360 rfl rfl rfl rfl rfl rfl rfl rfl rfl (by repeat (first | exact Upd.here | apply Upd.there)) ?_
  refine RL.nil ?_
  refine NQ.seq ?_
  refine CW.ret ?_
  -- STOP: ret; end
  exact RQ.post (resC rfl rfl Try.isAgg360 (vs := [_, _, _, _, _, _, _, _]) Try.sizeOf360 (by first | (apply Rds.cel; (solve | (repeat (first | exact List.Mem.head _ | apply List.Mem.tail))); exact at_spec ⟨rfl, rfl, rfl, rfl, rfl, rfl, rfl, rfl, trivial⟩) | (apply Rds.celI; (solve | (repeat (first | exact List.Mem.head _ | apply List.Mem.tail))); exact at_spec ⟨rfl, rfl, rfl, rfl, rfl, rfl, rfl, rfl, trivial⟩) | assumption | (apply RdsI.rds; assumption))) (Split.none _) ⟨rfl, rfl, rfl⟩

theorem rfirst_any : Spc Try.prog 165 #[] [] [] (Is (.agg iv.cells.toArray)) := by
  refine Spc.enter Try.func165 rfl rfl rfl (fun w0 hw0 => ?_)
  refine CW.seq ?_
  refine CW.region (ef := [0]) (bk := []) ?_
  refine RL.alloc Try.zeroValue298 rfl rfl rfl rfl rfl ?_
  intro b1
  refine RL.nil ?_
  refine NQ.seq ?_
  refine CW.seq ?_
  refine CW.region (ef := [1]) (bk := [1]) ?_
  refine RL.buildA [_, _, _, _, _, _, _, _] Try.zeroValue298 Try.runUnderlying298 Try.sizeOf31 rfl rfl rfl rfl rfl ?_
  refine RL.store (vs := [_, _, _, _, _, _, _, _]) Try.sizeOf298 rfl rfl rfl rfl rfl rfl rfl rfl rfl (by repeat (first | exact Upd.here | apply Upd.there)) ?_
  refine RL.nil ?_
  refine NQ.seq ?_
  refine CW.ret ?_
  -- STOP: ret; end
  exact RQ.post (resC rfl rfl Try.isAgg298 (vs := [_, _, _, _, _, _, _, _]) Try.sizeOf298 (by first | (apply Rds.cel; (solve | (repeat (first | exact List.Mem.head _ | apply List.Mem.tail))); exact at_spec ⟨rfl, rfl, rfl, rfl, rfl, rfl, rfl, rfl, trivial⟩) | (apply Rds.celI; (solve | (repeat (first | exact List.Mem.head _ | apply List.Mem.tail))); exact at_spec ⟨rfl, rfl, rfl, rfl, rfl, rfl, rfl, rfl, trivial⟩) | assumption | (apply RdsI.rds; assumption))) (Split.none _) ⟨rfl, rfl, rfl⟩
end Go.Proofs.Ytkkfdoippibfkaa
