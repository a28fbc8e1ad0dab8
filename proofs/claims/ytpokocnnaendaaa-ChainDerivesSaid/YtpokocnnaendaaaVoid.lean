import Derived.Test.YtpokocnnaendaaaWorks
import Derived.Test.YtpokocnnaendaaaRd
namespace Go.Proofs.Ytpokocnnaendaaa
open Go.PK

theorem write_nil (q : Option Addr) (k c : Nat) : Spc Try.prog 21 #[.pointer none, .slice q k c] [] [] (Is (.int .i64 1)) := by
  refine Spc.enter Try.func21 rfl rfl rfl (fun w0 hw0 => ?_)
  refine CW.seq ?_
  refine CW.region (ef := []) (bk := []) ?_
  refine RL.assign rfl rfl rfl rfl ?_
  refine RL.nil ?_
  refine NQ.seq ?_
  refine CW.seq ?_
  refine CW.block ?_
  refine CW.seq ?_
  refine CW.region (ef := []) (bk := []) ?_
  refine RL.move rfl rfl rfl rfl ?_
  refine RL.callv (is_nil) Try.call52 rfl rfl rfl rfl (by repeat (first | exact Lend.nil | (refine Lend.inI ?_ ?_; (solve | (repeat (first | exact List.Mem.head _ | apply List.Mem.tail)))) | (refine Lend.inH ?_ ?_; (solve | (repeat (first | exact List.Mem.head _ | apply List.Mem.tail)))))) ?_
  refine RL.not rfl rfl rfl rfl ?_
  refine RL.assign rfl rfl rfl rfl ?_
  refine RL.nil ?_
  refine NQ.seq ?_
  -- STOP: if; todo top: ["code", ["cond", ["t", 5], ["seq", ["region", 2, [{"d": 4, "op": ["assign", ["c", ["int", "Go.IntKind.i64", 1]]], "ty": 36, "pos": "hash.go:96", "after": [], "guard": null}], false], ["ret"]], ["seq"
  refine CW.condT rfl (rfl) ?_
  refine CW.seq ?_
  refine CW.region (ef := []) (bk := []) ?_
  refine RL.assign rfl rfl rfl rfl ?_
  refine RL.nil ?_
  refine NQ.seq ?_
  refine CW.ret ?_
  refine RQ.block ?_
  refine RQ.seq ?_
  -- STOP: ret; end
  exact RQ.post (res1 rfl rfl) (Split.none _) ⟨rfl, rfl, rfl⟩
theorem write_zero (b : Nat) (q : Option Addr) (k c : Nat) : Spc Try.prog 21 #[.pointer (some ⟨b, 0, none⟩), .slice q k c] [hzero b] [] (Is (.int .i64 1)) := by
  refine Spc.enter Try.func21 rfl rfl rfl (fun w0 hw0 => ?_)
  refine CW.seq ?_
  refine CW.region (ef := []) (bk := []) ?_
  refine RL.assign rfl rfl rfl rfl ?_
  refine RL.nil ?_
  refine NQ.seq ?_
  refine CW.seq ?_
  refine CW.block ?_
  refine CW.seq ?_
  refine CW.region (ef := []) (bk := []) ?_
  refine RL.move rfl rfl rfl rfl ?_
  refine RL.callv (is_zero b) Try.call52 rfl rfl rfl rfl (by repeat (first | exact Lend.nil | (refine Lend.inI ?_ ?_; (solve | (repeat (first | exact List.Mem.head _ | apply List.Mem.tail)))) | (refine Lend.inH ?_ ?_; (solve | (repeat (first | exact List.Mem.head _ | apply List.Mem.tail)))))) ?_
  refine RL.not rfl rfl rfl rfl ?_
  refine RL.assign rfl rfl rfl rfl ?_
  refine RL.nil ?_
  refine NQ.seq ?_
  -- STOP: if; todo top: ["code", ["cond", ["t", 5], ["seq", ["region", 2, [{"d": 4, "op": ["assign", ["c", ["int", "Go.IntKind.i64", 1]]], "ty": 36, "pos": "hash.go:96", "after": [], "guard": null}], false], ["ret"]], ["seq"
  refine CW.condT rfl (rfl) ?_
  refine CW.seq ?_
  refine CW.region (ef := []) (bk := []) ?_
  refine RL.assign rfl rfl rfl rfl ?_
  refine RL.nil ?_
  refine NQ.seq ?_
  refine CW.ret ?_
  refine RQ.block ?_
  refine RQ.seq ?_
  -- STOP: ret; end
  exact RQ.post (res1 rfl rfl) (Split.none _) ⟨rfl, rfl, rfl⟩

abbrev zeros : List B8 := List.replicate 32 0#8
theorem sum_nil : Spc Try.prog 22 #[.pointer none] [] [] (Is (.agg (bytes zeros).toArray)) := by
  refine Spc.enter Try.func22 rfl rfl rfl (fun w0 hw0 => ?_)
  refine CW.seq ?_
  refine CW.region (ef := [0]) (bk := []) ?_
  refine RL.alloc Try.zeroValue27 rfl rfl rfl rfl rfl ?_
  intro b1
  refine RL.nil ?_
  refine NQ.seq ?_
  refine CW.seq ?_
  refine CW.region (ef := [0]) (bk := []) ?_
  refine RL.alloc Try.zeroValue27 rfl rfl rfl rfl rfl ?_
  intro b2
  refine RL.nil ?_
  refine NQ.seq ?_
  refine CW.seq ?_
  refine CW.seq ?_
  refine CW.region (ef := []) (bk := []) ?_
  refine RL.move rfl rfl rfl rfl ?_
  refine RL.callv (is_nil) Try.call52 rfl rfl rfl rfl (by repeat (first | exact Lend.nil | (refine Lend.inI ?_ ?_; (solve | (repeat (first | exact List.Mem.head _ | apply List.Mem.tail)))) | (refine Lend.inH ?_ ?_; (solve | (repeat (first | exact List.Mem.head _ | apply List.Mem.tail)))))) ?_
  refine RL.not rfl rfl rfl rfl ?_
  refine RL.nil ?_
  refine NQ.seq ?_
  -- STOP: if; todo top: ["code", ["cond", ["t", 14], ["seq", ["region", 3, [{"d": 15, "op": ["load", 27, ["t", 3]], "ty": 27, "pos": "hash.go:113", "after": [], "guard": null}, {"d": null, "op": ["store", 27, ["t", 2], ["t",
  refine CW.condT rfl (rfl) ?_
  refine CW.seq ?_
  refine CW.region (ef := [1]) (bk := [1]) ?_
  -- STOP: op; op 0: d=15 ["load", 27, ["t", 3]] guard=None (hash.go:113)
  refine RL.loadN (vs := bytes zeros) Try.isAgg27 Try.sizeOf27 rfl rfl rfl rfl (Rds.all (by repeat (first | exact List.Mem.head _ | apply List.Mem.tail))) ?_
  -- STOP: op; op 1: d=None ["store", 27, ["t", 2], ["t", 15]] guard=None (hash.go:113)
  refine RL.storeX (cs := bytes zeros) (cs' := bytes zeros) (vs := bytes zeros) (spl_all rfl) Try.sizeOf27 rfl rfl rfl rfl rfl rfl rfl (ones_map one8 _) (by repeat (first | exact Upd.here | apply Upd.there)) (by decide) ?_
  refine RL.nil ?_
  refine NQ.seq ?_
  refine CW.ret ?_
  refine RQ.seq ?_
  -- STOP: ret; end
  exact RQ.post (resC rfl rfl Try.isAgg27 (vs := bytes zeros) Try.sizeOf27 (Rds.all (by repeat (first | exact List.Mem.head _ | apply List.Mem.tail)))) (Split.none _) ⟨rfl, rfl, rfl⟩
theorem sum_zero (b : Nat) : Spc Try.prog 22 #[.pointer (some ⟨b, 0, none⟩)] [hzero b] [] (Is (.agg (bytes zeros).toArray)) := by
  refine Spc.enter Try.func22 rfl rfl rfl (fun w0 hw0 => ?_)
  refine CW.seq ?_
  refine CW.region (ef := [0]) (bk := []) ?_
  refine RL.alloc Try.zeroValue27 rfl rfl rfl rfl rfl ?_
  intro b1
  refine RL.nil ?_
  refine NQ.seq ?_
  refine CW.seq ?_
  refine CW.region (ef := [0]) (bk := []) ?_
  refine RL.alloc Try.zeroValue27 rfl rfl rfl rfl rfl ?_
  intro b2
  refine RL.nil ?_
  refine NQ.seq ?_
  refine CW.seq ?_
  refine CW.seq ?_
  refine CW.region (ef := []) (bk := []) ?_
  refine RL.move rfl rfl rfl rfl ?_
  refine RL.callv (is_zero b) Try.call52 rfl rfl rfl rfl (by repeat (first | exact Lend.nil | (refine Lend.inI ?_ ?_; (solve | (repeat (first | exact List.Mem.head _ | apply List.Mem.tail)))) | (refine Lend.inH ?_ ?_; (solve | (repeat (first | exact List.Mem.head _ | apply List.Mem.tail)))))) ?_
  refine RL.not rfl rfl rfl rfl ?_
  refine RL.nil ?_
  refine NQ.seq ?_
  -- STOP: if; todo top: ["code", ["cond", ["t", 14], ["seq", ["region", 3, [{"d": 15, "op": ["load", 27, ["t", 3]], "ty": 27, "pos": "hash.go:113", "after": [], "guard": null}, {"d": null, "op": ["store", 27, ["t", 2], ["t",
  refine CW.condT rfl (rfl) ?_
  refine CW.seq ?_
  refine CW.region (ef := [1]) (bk := [1]) ?_
  -- STOP: op; op 0: d=15 ["load", 27, ["t", 3]] guard=None (hash.go:113)
  refine RL.loadN (vs := bytes zeros) Try.isAgg27 Try.sizeOf27 rfl rfl rfl rfl (Rds.all (by repeat (first | exact List.Mem.head _ | apply List.Mem.tail))) ?_
  -- STOP: op; op 1: d=None ["store", 27, ["t", 2], ["t", 15]] guard=None (hash.go:113)
  refine RL.storeX (cs := bytes zeros) (cs' := bytes zeros) (vs := bytes zeros) (spl_all rfl) Try.sizeOf27 rfl rfl rfl rfl rfl rfl rfl (ones_map one8 _) (by repeat (first | exact Upd.here | apply Upd.there)) (by decide) ?_
  refine RL.nil ?_
  refine NQ.seq ?_
  refine CW.ret ?_
  refine RQ.seq ?_
  -- STOP: ret; end
  exact RQ.post (resC rfl rfl Try.isAgg27 (vs := bytes zeros) Try.sizeOf27 (Rds.all (by repeat (first | exact List.Mem.head _ | apply List.Mem.tail)))) (Split.none _) ⟨rfl, rfl, rfl⟩

theorem len_nil : Spc Try.prog 23 #[.pointer none] [] [] (Is (.int .i64 0)) := by
  refine Spc.enter Try.func23 rfl rfl rfl (fun w0 hw0 => ?_)
  refine CW.seq ?_
  refine CW.region (ef := []) (bk := []) ?_
  refine RL.assign rfl rfl rfl rfl ?_
  refine RL.nil ?_
  refine NQ.seq ?_
  refine CW.seq ?_
  refine CW.seq ?_
  refine CW.region (ef := []) (bk := []) ?_
  refine RL.move rfl rfl rfl rfl ?_
  refine RL.callv (is_nil) Try.call52 rfl rfl rfl rfl (by repeat (first | exact Lend.nil | (refine Lend.inI ?_ ?_; (solve | (repeat (first | exact List.Mem.head _ | apply List.Mem.tail)))) | (refine Lend.inH ?_ ?_; (solve | (repeat (first | exact List.Mem.head _ | apply List.Mem.tail)))))) ?_
  refine RL.not rfl rfl rfl rfl ?_
  refine RL.nil ?_
  refine NQ.seq ?_
  -- STOP: if; todo top: ["code", ["cond", ["t", 5], ["seq", ["region", 2, [{"d": 2, "op": ["assign", ["c", ["int", "Go.IntKind.i64", 0]]], "ty": 3, "pos": "hash.go:139", "after": [], "guard": null}], false], ["ret"]], ["skip
  refine CW.condT rfl (rfl) ?_
  refine CW.seq ?_
  refine CW.region (ef := []) (bk := []) ?_
  refine RL.assign rfl rfl rfl rfl ?_
  refine RL.nil ?_
  refine NQ.seq ?_
  refine CW.ret ?_
  refine RQ.seq ?_
  -- STOP: ret; end
  exact RQ.post (res1 rfl rfl) (Split.none _) ⟨rfl, rfl, rfl⟩
theorem len_zero (b : Nat) : Spc Try.prog 23 #[.pointer (some ⟨b, 0, none⟩)] [hzero b] [] (Is (.int .i64 0)) := by
  refine Spc.enter Try.func23 rfl rfl rfl (fun w0 hw0 => ?_)
  refine CW.seq ?_
  refine CW.region (ef := []) (bk := []) ?_
  refine RL.assign rfl rfl rfl rfl ?_
  refine RL.nil ?_
  refine NQ.seq ?_
  refine CW.seq ?_
  refine CW.seq ?_
  refine CW.region (ef := []) (bk := []) ?_
  refine RL.move rfl rfl rfl rfl ?_
  refine RL.callv (is_zero b) Try.call52 rfl rfl rfl rfl (by repeat (first | exact Lend.nil | (refine Lend.inI ?_ ?_; (solve | (repeat (first | exact List.Mem.head _ | apply List.Mem.tail)))) | (refine Lend.inH ?_ ?_; (solve | (repeat (first | exact List.Mem.head _ | apply List.Mem.tail)))))) ?_
  refine RL.not rfl rfl rfl rfl ?_
  refine RL.nil ?_
  refine NQ.seq ?_
  -- STOP: if; todo top: ["code", ["cond", ["t", 5], ["seq", ["region", 2, [{"d": 2, "op": ["assign", ["c", ["int", "Go.IntKind.i64", 0]]], "ty": 3, "pos": "hash.go:139", "after": [], "guard": null}], false], ["ret"]], ["skip
  refine CW.condT rfl (rfl) ?_
  refine CW.seq ?_
  refine CW.region (ef := []) (bk := []) ?_
  refine RL.assign rfl rfl rfl rfl ?_
  refine RL.nil ?_
  refine NQ.seq ?_
  refine CW.ret ?_
  refine RQ.seq ?_
  -- STOP: ret; end
  exact RQ.post (res1 rfl rfl) (Split.none _) ⟨rfl, rfl, rfl⟩

theorem fork_nil : Spc Try.prog 25 #[.pointer none] [] [] (Is (.pointer none)) := by
  refine Spc.enter Try.func25 rfl rfl rfl (fun w0 hw0 => ?_)
  refine CW.seq ?_
  refine CW.region (ef := []) (bk := []) ?_
  refine RL.assign rfl rfl rfl rfl ?_
  refine RL.nil ?_
  refine NQ.seq ?_
  refine CW.seq ?_
  refine CW.seq ?_
  refine CW.region (ef := []) (bk := []) ?_
  refine RL.move rfl rfl rfl rfl ?_
  refine RL.callv (is_nil) Try.call52 rfl rfl rfl rfl (by repeat (first | exact Lend.nil | (refine Lend.inI ?_ ?_; (solve | (repeat (first | exact List.Mem.head _ | apply List.Mem.tail)))) | (refine Lend.inH ?_ ?_; (solve | (repeat (first | exact List.Mem.head _ | apply List.Mem.tail)))))) ?_
  refine RL.not rfl rfl rfl rfl ?_
  refine RL.nil ?_
  refine NQ.seq ?_
  -- STOP: if; todo top: ["code", ["cond", ["t", 6], ["seq", ["region", 2, [{"d": 2, "op": ["assign", ["c", ["nilptr"]]], "ty": 33, "pos": "hash.go:147", "after": [], "guard": null}], false], ["ret"]], ["skip"]]]
  refine CW.condT rfl (rfl) ?_
  refine CW.seq ?_
  refine CW.region (ef := []) (bk := []) ?_
  refine RL.assign rfl rfl rfl rfl ?_
  refine RL.nil ?_
  refine NQ.seq ?_
  refine CW.ret ?_
  refine RQ.seq ?_
  -- STOP: ret; end
  exact RQ.post (res1 rfl rfl) (Split.none _) ⟨rfl, rfl, rfl⟩
theorem fork_zero (b : Nat) : Spc Try.prog 25 #[.pointer (some ⟨b, 0, none⟩)] [hzero b] [] (Is (.pointer none)) := by
  refine Spc.enter Try.func25 rfl rfl rfl (fun w0 hw0 => ?_)
  refine CW.seq ?_
  refine CW.region (ef := []) (bk := []) ?_
  refine RL.assign rfl rfl rfl rfl ?_
  refine RL.nil ?_
  refine NQ.seq ?_
  refine CW.seq ?_
  refine CW.seq ?_
  refine CW.region (ef := []) (bk := []) ?_
  refine RL.move rfl rfl rfl rfl ?_
  refine RL.callv (is_zero b) Try.call52 rfl rfl rfl rfl (by repeat (first | exact Lend.nil | (refine Lend.inI ?_ ?_; (solve | (repeat (first | exact List.Mem.head _ | apply List.Mem.tail)))) | (refine Lend.inH ?_ ?_; (solve | (repeat (first | exact List.Mem.head _ | apply List.Mem.tail)))))) ?_
  refine RL.not rfl rfl rfl rfl ?_
  refine RL.nil ?_
  refine NQ.seq ?_
  -- STOP: if; todo top: ["code", ["cond", ["t", 6], ["seq", ["region", 2, [{"d": 2, "op": ["assign", ["c", ["nilptr"]]], "ty": 33, "pos": "hash.go:147", "after": [], "guard": null}], false], ["ret"]], ["skip"]]]
  refine CW.condT rfl (rfl) ?_
  refine CW.seq ?_
  refine CW.region (ef := []) (bk := []) ?_
  refine RL.assign rfl rfl rfl rfl ?_
  refine RL.nil ?_
  refine NQ.seq ?_
  refine CW.ret ?_
  refine RQ.seq ?_
  -- STOP: ret; end
  exact RQ.post (res1 rfl rfl) (Split.none _) ⟨rfl, rfl, rfl⟩

theorem void_walk (q : Option Addr) (len cap : Nat) : Spc Try.prog 6 #[.slice q len cap] [] [] (Is (.bool true)) := by
  refine Spc.enter Try.func6 rfl rfl rfl (fun w0 hw0 => ?_)
  refine CW.seq ?_
  refine CW.region (ef := []) (bk := []) ?_
  refine RL.assign rfl rfl rfl rfl ?_
  refine RL.nil ?_
  refine NQ.seq ?_
  refine CW.seq ?_
  refine CW.seq ?_
  refine CW.region (ef := []) (bk := []) ?_
  refine RL.callv (works_yes) Try.call18 rfl rfl rfl rfl (by repeat (first | exact Lend.nil | (refine Lend.inI ?_ ?_; (solve | (repeat (first | exact List.Mem.head _ | apply List.Mem.tail)))) | (refine Lend.inH ?_ ?_; (solve | (repeat (first | exact List.Mem.head _ | apply List.Mem.tail)))))) ?_
  refine RL.not rfl rfl rfl rfl ?_
  refine RL.nil ?_
  refine NQ.seq ?_
  -- STOP: if; todo top: ["code", ["cond", ["t", 6], ["seq", ["region", 2, [{"d": 2, "op": ["assign", ["c", ["bool", false]]], "ty": 4, "pos": "law.go:77", "after": [], "guard": null}], false], ["ret"]], ["skip"]]]
  refine CW.condF rfl (rfl) ?_
  refine CW.skip ?_
  refine NQ.seq ?_
  refine CW.seq ?_
  refine CW.region (ef := []) (bk := []) ?_
  refine RL.assign rfl rfl rfl rfl ?_
  refine RL.nil ?_
  refine NQ.seq ?_
  refine CW.seq ?_
  refine CW.region (ef := [0]) (bk := []) ?_
  refine RL.alloc Try.zeroValue48 rfl rfl rfl rfl rfl ?_
  intro b1
  refine RL.nil ?_
  refine NQ.seq ?_
  refine CW.seq ?_
  refine CW.region (ef := [2, 6, 11, 16, 22, 23, 29, 33]) (bk := []) ?_
  refine RL.move rfl rfl rfl rfl ?_
  refine RL.move rfl rfl rfl rfl ?_
  -- STOP: op; op 2: d=9 ["call", ["f", 21], [["t", 7], ["t", 8]], [33, 23]] guard=None (law.go:81)
  -- STOP: op; op 2: d=9 ["call", ["f", 21], [["t", 7], ["t", 8]], [33, 23]] guard=None (law.go:81)
  refine RL.callv (write_nil q len cap) Try.call21 rfl rfl rfl rfl (by repeat (first | exact Lend.nil | (refine Lend.inI ?_ ?_; (solve | (repeat (first | exact List.Mem.head _ | apply List.Mem.tail)))) | (refine Lend.inH ?_ ?_; (solve | (repeat (first | exact List.Mem.head _ | apply List.Mem.tail)))))) ?_
  refine RL.bin rfl rfl rfl rfl rfl rfl ?_
  refine RL.move rfl rfl rfl rfl ?_
  -- STOP: part 11; op 5: d=12 ["move", ["t", 0]] guard=[4, True] (law.go:81)
  refine RL.cast (d := 11) (v' := .bool true) rfl (rfl) ?_
  refine RL.move rfl rfl rfl rfl ?_
  refine RL.callv (write_zero b1 q len cap) Try.call21 rfl rfl rfl rfl (by repeat (first | exact Lend.nil | (refine Lend.inI ?_ ?_; (solve | (repeat (first | exact List.Mem.head _ | apply List.Mem.tail)))) | (refine Lend.inH ?_ ?_; (solve | (repeat (first | exact List.Mem.head _ | apply List.Mem.tail)))))) ?_
  refine RL.bin rfl rfl rfl rfl rfl rfl ?_
  refine RL.pickT rfl rfl rfl rfl rfl ?_
  refine RL.move rfl rfl rfl rfl ?_
  -- STOP: part 16; op 10: d=17 ["move", ["t", 3]] guard=[9, True] (law.go:81)
  refine RL.cast (d := 16) (v' := .bool true) rfl (rfl) ?_
  refine RL.move rfl rfl rfl rfl ?_
  refine RL.callv (sum_nil) Try.call22 rfl rfl rfl rfl (by repeat (first | exact Lend.nil | (refine Lend.inI ?_ ?_; (solve | (repeat (first | exact List.Mem.head _ | apply List.Mem.tail)))) | (refine Lend.inH ?_ ?_; (solve | (repeat (first | exact List.Mem.head _ | apply List.Mem.tail)))))) ?_
  refine RL.buildA _ Try.zeroValue27 Try.runUnderlying27 Try.sizeOf5 rfl rfl rfl rfl rfl ?_
  -- STOP: op; op 13: d=20 ["binOp", "Go.BinOp.eql", 27, ["t", 18], ["t", 19], 27] guard=[9, True] (law.go:81)
  refine RL.cmp rfl rfl rfl rfl rfl (dig_eq zeros zeros rfl rfl _ _) ?_
  refine RL.pickT rfl rfl rfl rfl rfl ?_
  refine RL.move rfl rfl rfl rfl ?_
  -- STOP: part 22; op 16: d=23 ["call", ["f", 22], [["t", 4]], [48]] guard=[15, True] (law.go:81)
  refine RL.cast (d := 22) (v' := .bool true) rfl (rfl) ?_
  refine RL.callv (sum_zero b1) Try.call22 rfl rfl rfl rfl (by repeat (first | exact Lend.nil | (refine Lend.inI ?_ ?_; (solve | (repeat (first | exact List.Mem.head _ | apply List.Mem.tail)))) | (refine Lend.inH ?_ ?_; (solve | (repeat (first | exact List.Mem.head _ | apply List.Mem.tail)))))) ?_
  refine RL.buildA _ Try.zeroValue27 Try.runUnderlying27 Try.sizeOf5 rfl rfl rfl rfl rfl ?_
  -- STOP: op; op 18: d=25 ["binOp", "Go.BinOp.eql", 27, ["t", 23], ["t", 24], 27] guard=[15, True] (law.go:81)
  refine RL.cmp rfl rfl rfl rfl rfl (dig_eq zeros zeros rfl rfl _ _) ?_
  refine RL.pickT rfl rfl rfl rfl rfl ?_
  refine RL.move rfl rfl rfl rfl ?_
  -- STOP: part 27; op 21: d=28 ["move", ["t", 3]] guard=[20, True] (law.go:81)
  refine RL.cast (d := 27) (v' := .bool true) rfl (rfl) ?_
  refine RL.move rfl rfl rfl rfl ?_
  refine RL.callv (len_nil) Try.call23 rfl rfl rfl rfl (by repeat (first | exact Lend.nil | (refine Lend.inI ?_ ?_; (solve | (repeat (first | exact List.Mem.head _ | apply List.Mem.tail)))) | (refine Lend.inH ?_ ?_; (solve | (repeat (first | exact List.Mem.head _ | apply List.Mem.tail)))))) ?_
  refine RL.callv (len_zero b1) Try.call23 rfl rfl rfl rfl (by repeat (first | exact Lend.nil | (refine Lend.inI ?_ ?_; (solve | (repeat (first | exact List.Mem.head _ | apply List.Mem.tail)))) | (refine Lend.inH ?_ ?_; (solve | (repeat (first | exact List.Mem.head _ | apply List.Mem.tail)))))) ?_
  refine RL.binX rfl rfl rfl rfl rfl rfl (wrapV_i64 (by omega) (by omega)) ?_
  refine RL.bin rfl rfl rfl rfl rfl rfl ?_
  refine RL.pickT rfl rfl rfl rfl rfl ?_
  refine RL.move rfl rfl rfl rfl ?_
  -- STOP: part 34; op 28: d=35 ["move", ["t", 3]] guard=[27, True] (law.go:81)
  refine RL.cast (d := 34) (v' := .bool true) rfl (rfl) ?_
  refine RL.move rfl rfl rfl rfl ?_
  refine RL.callv (fork_nil) Try.call25 rfl rfl rfl rfl (by repeat (first | exact Lend.nil | (refine Lend.inI ?_ ?_; (solve | (repeat (first | exact List.Mem.head _ | apply List.Mem.tail)))) | (refine Lend.inH ?_ ?_; (solve | (repeat (first | exact List.Mem.head _ | apply List.Mem.tail)))))) ?_
  refine RL.cmp rfl rfl rfl rfl rfl (eql_ptr Try.runUnderlying33 _) ?_
  refine RL.pickT rfl rfl rfl rfl rfl ?_
  refine RL.move rfl rfl rfl rfl ?_
  -- STOP: part 39; op 33: d=40 ["call", ["f", 25], [["t", 4]], [48]] guard=[32, True] (law.go:81)
  refine RL.cast (d := 39) (v' := .bool true) rfl (rfl) ?_
  refine RL.callv (fork_zero b1) Try.call25 rfl rfl rfl rfl (by repeat (first | exact Lend.nil | (refine Lend.inI ?_ ?_; (solve | (repeat (first | exact List.Mem.head _ | apply List.Mem.tail)))) | (refine Lend.inH ?_ ?_; (solve | (repeat (first | exact List.Mem.head _ | apply List.Mem.tail)))))) ?_
  refine RL.cmp rfl rfl rfl rfl rfl (eql_ptr Try.runUnderlying33 _) ?_
  refine RL.pickT rfl rfl rfl rfl rfl ?_
  refine RL.assign rfl rfl rfl rfl ?_
  refine RL.nil ?_
  refine NQ.seq ?_
  refine CW.only (.cons (k := 2) rfl .nil) ?_
  refine CW.ret ?_
  -- STOP: ret; end
  exact RQ.post (res1 rfl rfl) (Split.none _) ⟨rfl, rfl, rfl⟩

theorem hashVoid_call (W : World) (x : Sl B8) (_ : rBytes.ok x) (_ : ∀ y ∈ rBytes.its x, y.A W) : Calls Try.prog 6 #[rBytes.val x] W (fun e w' => e = .returned (.bool true) ∧ RowKit.Below W.heap.size W w') :=
  (void_walk x.p x.l.length x.c).lawI (by simp)
end Go.Proofs.Ytpokocnnaendaaa
