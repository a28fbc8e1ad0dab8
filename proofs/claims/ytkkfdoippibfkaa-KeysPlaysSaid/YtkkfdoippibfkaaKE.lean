import Derived.Test.YtkkfdoippibfkaaK22
import Derived.Test.YtkkfdoippibfkaaPkR
import Derived.Test.YtkkfdoippibfkaaPkS
import Derived.Shelf.SortM.Plain
import Derived.Shelf.SortM.SortNone
import Derived.Ground.SlgmProg
import Derived.Test.YtkkfdoippibfkaaBase
namespace Go.Proofs.Ytkkfdoippibfkaa
open Go.PK

/-! ### A ring that no call made -/
abbrev zRing (b : Nat) : It := cel b [.map none, .map none] 109
theorem find_nil (s : Int) (right : Bool) : Spc Try.prog 72 #[.pointer none, .int .i64 s, .bool right] [] [] (Is (.tuple #[.pointer none, .int .i64 1])) := by
  refine Spc.enter Try.func72 rfl rfl rfl (fun w0 hw0 => ?_)
  refine CW.seq ?_
  refine CW.region (ef := []) (bk := []) ?_
  refine RL.assign rfl rfl rfl rfl ?_
  refine RL.assign rfl rfl rfl rfl ?_
  refine RL.nil ?_
  refine NQ.seq ?_
  refine CW.seq ?_
  refine CW.block ?_
  refine CW.seq ?_
  refine CW.region (ef := []) (bk := []) ?_
  refine RL.move rfl rfl rfl rfl ?_
  refine RL.cmp rfl rfl rfl rfl rfl (eql_ptr Try.runUnderlying24 _) ?_
  refine RL.move rfl rfl rfl rfl ?_
  -- STOP: part 12; op 3: d=13 ["move", ["t", 0]] guard=[2, False] (keys.go:50)
  refine RL.skip rfl rfl rfl rfl ?_
  refine RL.skip rfl rfl rfl rfl ?_
  refine RL.skip rfl rfl rfl rfl ?_
  refine RL.skip rfl rfl rfl rfl ?_
  refine RL.skip rfl rfl rfl rfl ?_
  refine RL.pickT rfl rfl rfl rfl rfl ?_
  refine RL.assign rfl rfl rfl rfl ?_
  refine RL.nil ?_
  refine NQ.seq ?_
  refine CW.only (.cons (k := 0) rfl (.cons (k := 1) rfl (.cons (k := 2) rfl (.cons (k := 6) rfl (.cons (k := 7) rfl (.cons (k := 9) rfl .nil)))))) ?_
  refine CW.condT rfl rfl ?_
  refine CW.seq ?_
  refine CW.region (ef := []) (bk := []) ?_
  refine RL.assign rfl rfl rfl rfl ?_
  refine RL.assign rfl rfl rfl rfl ?_
  refine RL.nil ?_
  refine NQ.seq ?_
  refine CW.ret ?_
  refine RQ.block ?_
  refine RQ.seq ?_
  -- STOP: ret; end
  exact RQ.post (res2 rfl rfl rfl) (Split.none _) ⟨rfl, rfl, rfl⟩
theorem key_nil (s e t : Int) : Spc Try.prog 18 #[.pointer none, .int .i64 s, .int .u32 e, .int .i64 t] [] [] (Is (.tuple #[.agg (bytes zeros).toArray, .int .i64 1])) := by
  refine Spc.enter Try.func18 rfl rfl rfl (fun w0 hw0 => ?_)
  refine CW.seq ?_
  refine CW.region (ef := [0]) (bk := []) ?_
  refine RL.alloc (cs := List.replicate 32 (U8 0#8)) Try.zeroValue35 rfl rfl rfl rfl rfl ?_
  intro b1
  refine RL.assign rfl rfl rfl rfl ?_
  refine RL.nil ?_
  refine NQ.seq ?_
  refine CW.seq ?_
  refine CW.region (ef := []) (bk := []) ?_
  refine RL.move rfl rfl rfl rfl ?_
  refine RL.move rfl rfl rfl rfl ?_
  refine RL.move rfl rfl rfl rfl ?_
  refine RL.callv (ktick_any t) Try.call78 rfl rfl rfl rfl (by repeat (first | exact Lend.nil | (refine Lend.inI ?_ ?_; (solve | (repeat (first | exact List.Mem.head _ | apply List.Mem.tail)))) | (refine Lend.inH ?_ ?_; (solve | (repeat (first | exact List.Mem.head _ | apply List.Mem.tail)))))) ?_
  refine RL.callv (find_nil  s (tickB t)) Try.call72 rfl rfl rfl rfl (by repeat (first | exact Lend.nil | (refine Lend.inI ?_ ?_; (solve | (repeat (first | exact List.Mem.head _ | apply List.Mem.tail)))) | (refine Lend.inH ?_ ?_; (solve | (repeat (first | exact List.Mem.head _ | apply List.Mem.tail)))))) ?_
  refine RL.move rfl rfl rfl rfl ?_
  refine RL.extract rfl rfl rfl rfl rfl ?_
  refine RL.extract rfl rfl rfl rfl rfl ?_
  refine RL.assign rfl rfl rfl rfl ?_
  refine RL.assign rfl rfl rfl rfl ?_
  refine RL.nil ?_
  refine NQ.seq ?_
  refine CW.only (.cons (k := 0) rfl (.cons (k := 1) rfl (.cons (k := 2) rfl (.cons (k := 3) rfl (.cons (k := 8) rfl (.cons (k := 10) rfl (.cons (k := 11) rfl .nil))))))) ?_
  refine CW.seq ?_
  refine CW.seq ?_
  refine CW.region (ef := []) (bk := []) ?_
  refine RL.move rfl rfl rfl rfl ?_
  refine RL.bin rfl rfl rfl rfl rfl rfl ?_
  refine RL.nil ?_
  refine NQ.seq ?_
  -- STOP: if; todo top: ["code", ["cond", ["t", 23], ["seq", ["region", 3, [{"d": 24, "op": ["build", 35, []], "ty": 35, "pos": "keys.go:104", "after": [], "guard": null}, {"d": 25, "op": ["move", ["t", 11]], "ty": 32, "pos"
  refine CW.condT rfl ((by simp)) ?_
  refine CW.seq ?_
  refine CW.region (ef := [2]) (bk := [2]) ?_
  refine RL.buildA (List.replicate 32 (U8 0#8)) Try.zeroValue35 Try.runUnderlying35 Try.sizeOf5 rfl rfl rfl rfl rfl ?_
  refine RL.move rfl rfl rfl rfl ?_
  refine RL.storeW Try.sizeOf35 rfl rfl rfl rfl rfl rfl rfl (by first | rfl | exact ones_map one8 _ | exact ones_map (fun _ => rfl) _) (by repeat (first | exact Upd.here | apply Upd.there)) (by first | rfl | assumption | (simp only [List.length_map]; assumption) | (simp only [List.length_map, List.length_replicate]; done) | (simp; done)) (by first | rfl | assumption | (simp only [List.length_map]; assumption) | (simp only [List.length_map, List.length_replicate]; done) | (simp; done)) ?_
  refine RL.assign rfl rfl rfl rfl ?_
  refine RL.nil ?_
  refine NQ.seq ?_
  refine CW.ret ?_
  refine RQ.seq ?_
  -- STOP: ret; end
  exact RQ.post (resWT rfl rfl rfl Try.isAgg35 Try.sizeOf35 (by repeat (first | exact List.Mem.head _ | apply List.Mem.tail)) rfl) (Split.none _) ⟨rfl, rfl, rfl⟩
theorem put_nil (s : Int) (k : List B8) (hk : k.length = 32) : Spc Try.prog 14 #[.pointer none, .int .i64 s, .agg (bytes k).toArray] [] [] (Is (.int .i64 1)) := by
  refine Spc.enter Try.func14 rfl rfl rfl (fun w0 hw0 => ?_)
  refine CW.seq ?_
  refine CW.region (ef := [0]) (bk := []) ?_
  refine RL.box rfl rfl rfl rfl rfl rfl ?_
  intro b1
  refine RL.assign rfl rfl rfl rfl ?_
  refine RL.nil ?_
  refine NQ.seq ?_
  refine CW.seq ?_
  refine CW.region (ef := []) (bk := []) ?_
  refine RL.move rfl rfl rfl rfl ?_
  refine RL.move rfl rfl rfl rfl ?_
  refine RL.callv (find_nil  s true) Try.call72 rfl rfl rfl rfl (by repeat (first | exact Lend.nil | (refine Lend.inI ?_ ?_; (solve | (repeat (first | exact List.Mem.head _ | apply List.Mem.tail)))) | (refine Lend.inH ?_ ?_; (solve | (repeat (first | exact List.Mem.head _ | apply List.Mem.tail)))))) ?_
  refine RL.move rfl rfl rfl rfl ?_
  refine RL.extract rfl rfl rfl rfl rfl ?_
  refine RL.extract rfl rfl rfl rfl rfl ?_
  refine RL.assign rfl rfl rfl rfl ?_
  refine RL.assign rfl rfl rfl rfl ?_
  refine RL.nil ?_
  refine NQ.seq ?_
  refine CW.only (.cons (k := 0) rfl (.cons (k := 1) rfl (.cons (k := 5) rfl (.cons (k := 8) rfl .nil)))) ?_
  refine CW.seq ?_
  refine CW.region (ef := []) (bk := []) ?_
  refine RL.move rfl rfl rfl rfl ?_
  refine RL.nil ?_
  refine NQ.seq ?_
  refine CW.block ?_
  refine CW.seq ?_
  refine CW.region (ef := []) (bk := []) ?_
  refine RL.bin rfl rfl rfl rfl rfl rfl ?_
  refine RL.assign rfl rfl rfl rfl ?_
  refine RL.nil ?_
  refine NQ.seq ?_
  -- STOP: if; todo top: ["code", ["cond", ["t", 17], ["seq", ["region", 5, [{"d": 6, "op": ["assign", ["c", ["int", "Go.IntKind.i64", 6]]], "ty": 32, "pos": "keys.go:77", "after": [], "guard": null}], false], ["ret"]], ["seq
  refine CW.condF rfl ((by simp)) ?_
  refine CW.seq ?_
  refine CW.region (ef := []) (bk := []) ?_
  refine RL.bin rfl rfl rfl rfl rfl rfl ?_
  refine RL.assign rfl rfl rfl rfl ?_
  refine RL.nil ?_
  refine NQ.seq ?_
  -- STOP: if; todo top: ["code", ["cond", ["t", 19], ["seq", ["region", 7, [{"d": 21, "op": ["move", ["t", 0]], "ty": 24, "pos": "keys.go:79", "after": [], "guard": null}, {"d": 22, "op": ["nilCheck", ["t", 21]], "ty": 0, "p
  refine CW.condF rfl ((by simp)) ?_
  refine CW.seq ?_
  refine CW.region (ef := []) (bk := []) ?_
  refine RL.move rfl rfl rfl rfl ?_
  refine RL.assign rfl rfl rfl rfl ?_
  refine RL.nil ?_
  refine NQ.seq ?_
  refine CW.only (.cons (k := 6) rfl .nil) ?_
  refine CW.ret ?_
  refine RQ.block ?_
  -- STOP: ret; end
  exact RQ.post (res1 rfl rfl) (Split.none _) ⟨rfl, rfl, rfl⟩
theorem roll_nil (s e t g : Int) : Spc Try.prog 49 #[.pointer none, .int .i64 s, .int .u32 e, .int .i64 t, .int .i64 g] [] [] (Is (.int .i64 1)) := by
  refine Spc.enter Try.func49 rfl rfl rfl (fun w0 hw0 => ?_)
  refine CW.seq ?_
  refine CW.region (ef := []) (bk := []) ?_
  refine RL.assign rfl rfl rfl rfl ?_
  refine RL.nil ?_
  refine NQ.seq ?_
  refine CW.seq ?_
  refine CW.region (ef := []) (bk := []) ?_
  refine RL.move rfl rfl rfl rfl ?_
  refine RL.move rfl rfl rfl rfl ?_
  refine RL.move rfl rfl rfl rfl ?_
  refine RL.callv (ktick_any t) Try.call78 rfl rfl rfl rfl (by repeat (first | exact Lend.nil | (refine Lend.inI ?_ ?_; (solve | (repeat (first | exact List.Mem.head _ | apply List.Mem.tail)))) | (refine Lend.inH ?_ ?_; (solve | (repeat (first | exact List.Mem.head _ | apply List.Mem.tail)))))) ?_
  refine RL.move rfl rfl rfl rfl ?_
  apply RL.andB (d := 18) (dp := 21) (l' := (Sq.of [8, 9, 10, 11, 12, 13, 14, 15, 16, 17])) rfl (.cons (k := 0) rfl (.cons (k := 1) rfl (.cons (k := 2) rfl (.cons (k := 3) rfl (.cons (k := 4) rfl (.cons (k := 14) rfl (.cons (k := 15) rfl .nil)))))))
  ·
    intro hb5 K5
    refine RL.move rfl rfl rfl rfl ?_
    refine RL.bin rfl rfl rfl rfl rfl rfl ?_
    refine RL.pickT rfl rfl rfl rfl rfl ?_
    exact K5 _ (.cons rfl (.cons (k := 0) rfl (.cons (k := 1) rfl (.cons (k := 2) rfl (.cons (k := 3) rfl (.cons (k := 4) rfl (.cons (k := 14) rfl (.cons (k := 15) rfl .nil))))))))
  ·
    intro hb5 K5
    refine RL.skip rfl rfl rfl rfl ?_
    refine RL.skip rfl rfl rfl rfl ?_
    refine RL.pickF rfl rfl rfl rfl rfl ?_
    exact K5 _ (.cons rfl (.cons (k := 0) rfl (.cons (k := 1) rfl (.cons (k := 2) rfl (.cons (k := 3) rfl (.cons (k := 4) rfl (.cons (k := 14) rfl (.cons (k := 15) rfl .nil))))))))
  refine RL.move rfl rfl rfl rfl ?_
  apply RL.andB (d := 22) (dp := 25) (l' := (Sq.of [12, 13, 14, 15, 16, 17])) rfl (.cons (k := 0) rfl (.cons (k := 1) rfl (.cons (k := 2) rfl (.cons (k := 3) rfl (.cons (k := 4) rfl (.cons (k := 14) rfl (.cons (k := 15) rfl .nil)))))))
  ·
    intro hb9 K9
    refine RL.move rfl rfl rfl rfl ?_
    refine RL.bin rfl rfl rfl rfl rfl rfl ?_
    refine RL.pickT rfl rfl rfl rfl rfl ?_
    exact K9 _ (.cons rfl (.cons (k := 0) rfl (.cons (k := 1) rfl (.cons (k := 2) rfl (.cons (k := 3) rfl (.cons (k := 4) rfl (.cons (k := 14) rfl (.cons (k := 15) rfl .nil))))))))
  ·
    intro hb9 K9
    refine RL.skip rfl rfl rfl rfl ?_
    refine RL.skip rfl rfl rfl rfl ?_
    refine RL.pickF rfl rfl rfl rfl rfl ?_
    exact K9 _ (.cons rfl (.cons (k := 0) rfl (.cons (k := 1) rfl (.cons (k := 2) rfl (.cons (k := 3) rfl (.cons (k := 4) rfl (.cons (k := 14) rfl (.cons (k := 15) rfl .nil))))))))
  refine RL.callv (find_nil  s (rightR t g)) Try.call72 rfl rfl rfl rfl (by repeat (first | exact Lend.nil | (refine Lend.inI ?_ ?_; (solve | (repeat (first | exact List.Mem.head _ | apply List.Mem.tail)))) | (refine Lend.inH ?_ ?_; (solve | (repeat (first | exact List.Mem.head _ | apply List.Mem.tail)))))) ?_
  refine RL.move rfl rfl rfl rfl ?_
  refine RL.extract rfl rfl rfl rfl rfl ?_
  refine RL.extract rfl rfl rfl rfl rfl ?_
  refine RL.assign rfl rfl rfl rfl ?_
  refine RL.assign rfl rfl rfl rfl ?_
  refine RL.nil ?_
  refine NQ.seq ?_
  refine CW.only (.cons (k := 0) rfl (.cons (k := 1) rfl (.cons (k := 2) rfl (.cons (k := 3) rfl (.cons (k := 4) rfl (.cons (k := 11) rfl (.cons (k := 12) rfl .nil))))))) ?_
  refine CW.seq ?_
  refine CW.block ?_
  refine CW.seq ?_
  refine CW.region (ef := []) (bk := []) ?_
  refine RL.move rfl rfl rfl rfl ?_
  refine RL.bin rfl rfl rfl rfl rfl rfl ?_
  refine RL.assign rfl rfl rfl rfl ?_
  refine RL.nil ?_
  refine NQ.seq ?_
  -- STOP: if; todo top: ["code", ["cond", ["t", 29], ["seq", ["region", 3, [{"d": 32, "op": ["move", ["t", 12]], "ty": 32, "pos": "keys.go:92", "after": [], "guard": null}, {"d": 10, "op": ["assign", ["t", 32]], "ty": 32, "p
  refine CW.condT rfl ((by simp)) ?_
  refine CW.seq ?_
  refine CW.region (ef := []) (bk := []) ?_
  refine RL.move rfl rfl rfl rfl ?_
  refine RL.assign rfl rfl rfl rfl ?_
  refine RL.nil ?_
  refine NQ.seq ?_
  refine CW.ret ?_
  refine RQ.block ?_
  refine RQ.seq ?_
  -- STOP: ret; end
  exact RQ.post (res1 rfl rfl) (Split.none _) ⟨rfl, rfl, rfl⟩
theorem raise_nil (s e : Int) : Spc Try.prog 50 #[.pointer none, .int .i64 s, .int .u32 e] [] [] (Is (.int .i64 1)) := by
  refine Spc.enter Try.func50 rfl rfl rfl (fun w0 hw0 => ?_)
  refine CW.seq ?_
  refine CW.region (ef := []) (bk := []) ?_
  refine RL.assign rfl rfl rfl rfl ?_
  refine RL.nil ?_
  refine NQ.seq ?_
  refine CW.seq ?_
  refine CW.region (ef := []) (bk := []) ?_
  refine RL.move rfl rfl rfl rfl ?_
  refine RL.move rfl rfl rfl rfl ?_
  refine RL.callv (find_nil  s true) Try.call72 rfl rfl rfl rfl (by repeat (first | exact Lend.nil | (refine Lend.inI ?_ ?_; (solve | (repeat (first | exact List.Mem.head _ | apply List.Mem.tail)))) | (refine Lend.inH ?_ ?_; (solve | (repeat (first | exact List.Mem.head _ | apply List.Mem.tail)))))) ?_
  refine RL.move rfl rfl rfl rfl ?_
  refine RL.extract rfl rfl rfl rfl rfl ?_
  refine RL.extract rfl rfl rfl rfl rfl ?_
  refine RL.assign rfl rfl rfl rfl ?_
  refine RL.assign rfl rfl rfl rfl ?_
  refine RL.nil ?_
  refine NQ.seq ?_
  refine CW.only (.cons (k := 0) rfl (.cons (k := 1) rfl (.cons (k := 2) rfl (.cons (k := 7) rfl (.cons (k := 8) rfl .nil))))) ?_
  refine CW.seq ?_
  refine CW.block ?_
  refine CW.seq ?_
  refine CW.region (ef := []) (bk := []) ?_
  refine RL.move rfl rfl rfl rfl ?_
  refine RL.bin rfl rfl rfl rfl rfl rfl ?_
  refine RL.assign rfl rfl rfl rfl ?_
  refine RL.nil ?_
  refine NQ.seq ?_
  -- STOP: if; todo top: ["code", ["cond", ["t", 15], ["seq", ["region", 3, [{"d": 18, "op": ["move", ["t", 8]], "ty": 32, "pos": "keys.go:127", "after": [], "guard": null}, {"d": 6, "op": ["assign", ["t", 18]], "ty": 32, "po
  refine CW.condT rfl ((by simp)) ?_
  refine CW.seq ?_
  refine CW.region (ef := []) (bk := []) ?_
  refine RL.move rfl rfl rfl rfl ?_
  refine RL.assign rfl rfl rfl rfl ?_
  refine RL.nil ?_
  refine NQ.seq ?_
  refine CW.only (.cons (k := 6) rfl (.cons (k := 8) rfl .nil)) ?_
  refine CW.ret ?_
  refine RQ.block ?_
  refine RQ.seq ?_
  -- STOP: ret; end
  exact RQ.post (res1 rfl rfl) (Split.none _) ⟨rfl, rfl, rfl⟩
theorem epoch_nil (s : Int) : Spc Try.prog 17 #[.pointer none, .int .i64 s] [] [] (Is (.int .u32 0)) := by
  refine Spc.enter Try.func17 rfl rfl rfl (fun w0 hw0 => ?_)
  refine CW.seq ?_
  refine CW.region (ef := []) (bk := []) ?_
  refine RL.assign rfl rfl rfl rfl ?_
  refine RL.nil ?_
  refine NQ.seq ?_
  refine CW.seq ?_
  refine CW.region (ef := []) (bk := []) ?_
  refine RL.move rfl rfl rfl rfl ?_
  refine RL.move rfl rfl rfl rfl ?_
  refine RL.callv (find_nil  s true) Try.call72 rfl rfl rfl rfl (by repeat (first | exact Lend.nil | (refine Lend.inI ?_ ?_; (solve | (repeat (first | exact List.Mem.head _ | apply List.Mem.tail)))) | (refine Lend.inH ?_ ?_; (solve | (repeat (first | exact List.Mem.head _ | apply List.Mem.tail)))))) ?_
  refine RL.move rfl rfl rfl rfl ?_
  refine RL.extract rfl rfl rfl rfl rfl ?_
  refine RL.extract rfl rfl rfl rfl rfl ?_
  refine RL.assign rfl rfl rfl rfl ?_
  refine RL.assign rfl rfl rfl rfl ?_
  refine RL.nil ?_
  refine NQ.seq ?_
  refine CW.only (.cons (k := 5) rfl (.cons (k := 6) rfl .nil)) ?_
  refine CW.seq ?_
  refine CW.seq ?_
  refine CW.region (ef := []) (bk := []) ?_
  refine RL.move rfl rfl rfl rfl ?_
  refine RL.bin rfl rfl rfl rfl rfl rfl ?_
  refine RL.nil ?_
  refine NQ.seq ?_
  -- STOP: if; todo top: ["code", ["cond", ["t", 14], ["seq", ["region", 3, [{"d": 4, "op": ["assign", ["c", ["int", "Go.IntKind.u32", 0]]], "ty": 31, "pos": "keys.go:117", "after": [], "guard": null}], false], ["ret"]], ["sk
  refine CW.condT rfl ((by simp)) ?_
  refine CW.seq ?_
  refine CW.region (ef := []) (bk := []) ?_
  refine RL.assign rfl rfl rfl rfl ?_
  refine RL.nil ?_
  refine NQ.seq ?_
  refine CW.ret ?_
  refine RQ.seq ?_
  -- STOP: ret; end
  exact RQ.post (res1 rfl rfl) (Split.none _) ⟨rfl, rfl, rfl⟩
theorem find_zero (b : Nat)(s : Int) (right : Bool) : Spc Try.prog 72 #[.pointer (some ⟨b, 0, none⟩), .int .i64 s, .bool right] [zRing b] [] (Is (.tuple #[.pointer none, .int .i64 1])) := by
  refine Spc.enter Try.func72 rfl rfl rfl (fun w0 hw0 => ?_)
  refine CW.seq ?_
  refine CW.region (ef := []) (bk := []) ?_
  refine RL.assign rfl rfl rfl rfl ?_
  refine RL.assign rfl rfl rfl rfl ?_
  refine RL.nil ?_
  refine NQ.seq ?_
  refine CW.seq ?_
  refine CW.block ?_
  refine CW.seq ?_
  refine CW.region (ef := []) (bk := []) ?_
  refine RL.move rfl rfl rfl rfl ?_
  refine RL.cmp rfl rfl rfl rfl rfl (eql_ptr Try.runUnderlying24 _) ?_
  refine RL.move rfl rfl rfl rfl ?_
  apply RL.orB (d := 12) (dp := 18) (l' := (Sq.of [9])) rfl (.cons (k := 0) rfl (.cons (k := 1) rfl (.cons (k := 2) rfl (.cons (k := 6) rfl (.cons (k := 7) rfl .nil)))))
  ·
    intro hb3 K3
    refine RL.move rfl rfl rfl rfl ?_
    refine RL.nilCheck rfl rfl rfl rfl ?_
    refine RL.fieldAddr fa_109_0 rfl rfl rfl rfl ?_
    refine RL.load Try.isAgg106 rfl rfl rfl rfl (by first | assumption | (apply RdI.rd; assumption) | (apply Rd.get; (solve | (repeat (first | exact List.Mem.head _ | apply List.Mem.tail))); assumption) | (apply Rd.getS; (solve | (repeat (first | exact List.Mem.head _ | apply List.Mem.tail))); assumption) | (apply Rd.getO; (solve | (repeat (first | exact List.Mem.head _ | apply List.Mem.tail))); assumption) | (apply Rd.getI; (solve | (repeat (first | exact List.Mem.head _ | apply List.Mem.tail))); assumption) | (apply Rd.cel; (solve | (repeat (first | exact List.Mem.head _ | apply List.Mem.tail))); exact rfl) | (apply Rd.celI; (solve | (repeat (first | exact List.Mem.head _ | apply List.Mem.tail))); exact rfl)) ?_
    refine RL.cmp rfl rfl rfl rfl rfl (eql_map Try.runUnderlying106 _) ?_
    refine RL.pickF rfl rfl rfl rfl rfl ?_
    exact K3 _ (.cons rfl (.cons (k := 0) rfl (.cons (k := 1) rfl (.cons (k := 2) rfl (.cons (k := 6) rfl (.cons (k := 7) rfl .nil))))))
  ·
    intro hb3 K3
    refine RL.skip rfl rfl rfl rfl ?_
    refine RL.skip rfl rfl rfl rfl ?_
    refine RL.skip rfl rfl rfl rfl ?_
    refine RL.skip rfl rfl rfl rfl ?_
    refine RL.skip rfl rfl rfl rfl ?_
    refine RL.pickT rfl rfl rfl rfl rfl ?_
    exact K3 _ (.cons rfl (.cons (k := 0) rfl (.cons (k := 1) rfl (.cons (k := 2) rfl (.cons (k := 6) rfl (.cons (k := 7) rfl .nil))))))
  refine RL.assign rfl rfl rfl rfl ?_
  refine RL.nil ?_
  refine NQ.seq ?_
  -- STOP: if; todo top: ["code", ["cond", ["t", 9], ["seq", ["region", 2, [{"d": 6, "op": ["assign", ["c", ["nilptr"]]], "ty": 163, "pos": "keys.go:51", "after": [], "guard": null}, {"d": 7, "op": ["assign", ["c", ["int", "G
  refine CW.condT rfl ((by simp)) ?_
  refine CW.seq ?_
  refine CW.region (ef := []) (bk := []) ?_
  refine RL.assign rfl rfl rfl rfl ?_
  refine RL.assign rfl rfl rfl rfl ?_
  refine RL.nil ?_
  refine NQ.seq ?_
  refine CW.ret ?_
  refine RQ.block ?_
  refine RQ.seq ?_
  -- STOP: ret; end
  exact RQ.post (res2 rfl rfl rfl) (Split.none _) ⟨rfl, rfl, rfl⟩
theorem key_zero (b : Nat)(s e t : Int) : Spc Try.prog 18 #[.pointer (some ⟨b, 0, none⟩), .int .i64 s, .int .u32 e, .int .i64 t] [zRing b] [] (Is (.tuple #[.agg (bytes zeros).toArray, .int .i64 1])) := by
  refine Spc.enter Try.func18 rfl rfl rfl (fun w0 hw0 => ?_)
  refine CW.seq ?_
  refine CW.region (ef := [0]) (bk := []) ?_
  refine RL.alloc (cs := List.replicate 32 (U8 0#8)) Try.zeroValue35 rfl rfl rfl rfl rfl ?_
  intro b1
  refine RL.assign rfl rfl rfl rfl ?_
  refine RL.nil ?_
  refine NQ.seq ?_
  refine CW.seq ?_
  refine CW.region (ef := []) (bk := []) ?_
  refine RL.move rfl rfl rfl rfl ?_
  refine RL.move rfl rfl rfl rfl ?_
  refine RL.move rfl rfl rfl rfl ?_
  refine RL.callv (ktick_any t) Try.call78 rfl rfl rfl rfl (by repeat (first | exact Lend.nil | (refine Lend.inI ?_ ?_; (solve | (repeat (first | exact List.Mem.head _ | apply List.Mem.tail)))) | (refine Lend.inH ?_ ?_; (solve | (repeat (first | exact List.Mem.head _ | apply List.Mem.tail)))))) ?_
  refine RL.callv (find_zero b s (tickB t)) Try.call72 rfl rfl rfl rfl (by repeat (first | exact Lend.nil | (refine Lend.inI ?_ ?_; (solve | (repeat (first | exact List.Mem.head _ | apply List.Mem.tail)))) | (refine Lend.inH ?_ ?_; (solve | (repeat (first | exact List.Mem.head _ | apply List.Mem.tail)))))) ?_
  refine RL.move rfl rfl rfl rfl ?_
  refine RL.extract rfl rfl rfl rfl rfl ?_
  refine RL.extract rfl rfl rfl rfl rfl ?_
  refine RL.assign rfl rfl rfl rfl ?_
  refine RL.assign rfl rfl rfl rfl ?_
  refine RL.nil ?_
  refine NQ.seq ?_
  refine CW.only (.cons (k := 0) rfl (.cons (k := 1) rfl (.cons (k := 2) rfl (.cons (k := 3) rfl (.cons (k := 8) rfl (.cons (k := 10) rfl (.cons (k := 11) rfl .nil))))))) ?_
  refine CW.seq ?_
  refine CW.seq ?_
  refine CW.region (ef := []) (bk := []) ?_
  refine RL.move rfl rfl rfl rfl ?_
  refine RL.bin rfl rfl rfl rfl rfl rfl ?_
  refine RL.nil ?_
  refine NQ.seq ?_
  -- STOP: if; todo top: ["code", ["cond", ["t", 23], ["seq", ["region", 3, [{"d": 24, "op": ["build", 35, []], "ty": 35, "pos": "keys.go:104", "after": [], "guard": null}, {"d": 25, "op": ["move", ["t", 11]], "ty": 32, "pos"
  refine CW.condT rfl ((by simp)) ?_
  refine CW.seq ?_
  refine CW.region (ef := [2]) (bk := [2]) ?_
  refine RL.buildA (List.replicate 32 (U8 0#8)) Try.zeroValue35 Try.runUnderlying35 Try.sizeOf5 rfl rfl rfl rfl rfl ?_
  refine RL.move rfl rfl rfl rfl ?_
  refine RL.storeW Try.sizeOf35 rfl rfl rfl rfl rfl rfl rfl (by first | rfl | exact ones_map one8 _ | exact ones_map (fun _ => rfl) _) (by repeat (first | exact Upd.here | apply Upd.there)) (by first | rfl | assumption | (simp only [List.length_map]; assumption) | (simp only [List.length_map, List.length_replicate, hk]; done) | (simp; done)) (by first | rfl | assumption | (simp only [List.length_map]; assumption) | (simp only [List.length_map, List.length_replicate, hk]; done) | (simp; done)) ?_
  refine RL.assign rfl rfl rfl rfl ?_
  refine RL.nil ?_
  refine NQ.seq ?_
  refine CW.ret ?_
  refine RQ.seq ?_
  -- STOP: ret; end
  exact RQ.post (resWT rfl rfl rfl Try.isAgg35 Try.sizeOf35 (by repeat (first | exact List.Mem.head _ | apply List.Mem.tail)) rfl) (Split.none _) ⟨rfl, rfl, rfl⟩
theorem put_zero (b : Nat)(s : Int) (k : List B8) (hk : k.length = 32) : Spc Try.prog 14 #[.pointer (some ⟨b, 0, none⟩), .int .i64 s, .agg (bytes k).toArray] [zRing b] [] (Is (.int .i64 1)) := by
  refine Spc.enter Try.func14 rfl rfl rfl (fun w0 hw0 => ?_)
  refine CW.seq ?_
  refine CW.region (ef := [0]) (bk := []) ?_
  refine RL.box rfl rfl rfl rfl rfl rfl ?_
  intro b1
  refine RL.assign rfl rfl rfl rfl ?_
  refine RL.nil ?_
  refine NQ.seq ?_
  refine CW.seq ?_
  refine CW.region (ef := []) (bk := []) ?_
  refine RL.move rfl rfl rfl rfl ?_
  refine RL.move rfl rfl rfl rfl ?_
  refine RL.callv (find_zero b s true) Try.call72 rfl rfl rfl rfl (by repeat (first | exact Lend.nil | (refine Lend.inI ?_ ?_; (solve | (repeat (first | exact List.Mem.head _ | apply List.Mem.tail)))) | (refine Lend.inH ?_ ?_; (solve | (repeat (first | exact List.Mem.head _ | apply List.Mem.tail)))))) ?_
  refine RL.move rfl rfl rfl rfl ?_
  refine RL.extract rfl rfl rfl rfl rfl ?_
  refine RL.extract rfl rfl rfl rfl rfl ?_
  refine RL.assign rfl rfl rfl rfl ?_
  refine RL.assign rfl rfl rfl rfl ?_
  refine RL.nil ?_
  refine NQ.seq ?_
  refine CW.only (.cons (k := 0) rfl (.cons (k := 1) rfl (.cons (k := 5) rfl (.cons (k := 8) rfl .nil)))) ?_
  refine CW.seq ?_
  refine CW.region (ef := []) (bk := []) ?_
  refine RL.move rfl rfl rfl rfl ?_
  refine RL.nil ?_
  refine NQ.seq ?_
  refine CW.block ?_
  refine CW.seq ?_
  refine CW.region (ef := []) (bk := []) ?_
  refine RL.bin rfl rfl rfl rfl rfl rfl ?_
  refine RL.assign rfl rfl rfl rfl ?_
  refine RL.nil ?_
  refine NQ.seq ?_
  -- STOP: if; todo top: ["code", ["cond", ["t", 17], ["seq", ["region", 5, [{"d": 6, "op": ["assign", ["c", ["int", "Go.IntKind.i64", 6]]], "ty": 32, "pos": "keys.go:77", "after": [], "guard": null}], false], ["ret"]], ["seq
  refine CW.condF rfl ((by simp)) ?_
  refine CW.seq ?_
  refine CW.region (ef := []) (bk := []) ?_
  refine RL.bin rfl rfl rfl rfl rfl rfl ?_
  refine RL.assign rfl rfl rfl rfl ?_
  refine RL.nil ?_
  refine NQ.seq ?_
  -- STOP: if; todo top: ["code", ["cond", ["t", 19], ["seq", ["region", 7, [{"d": 21, "op": ["move", ["t", 0]], "ty": 24, "pos": "keys.go:79", "after": [], "guard": null}, {"d": 22, "op": ["nilCheck", ["t", 21]], "ty": 0, "p
  refine CW.condF rfl ((by simp)) ?_
  refine CW.seq ?_
  refine CW.region (ef := []) (bk := []) ?_
  refine RL.move rfl rfl rfl rfl ?_
  refine RL.assign rfl rfl rfl rfl ?_
  refine RL.nil ?_
  refine NQ.seq ?_
  refine CW.only (.cons (k := 6) rfl .nil) ?_
  refine CW.ret ?_
  refine RQ.block ?_
  -- STOP: ret; end
  exact RQ.post (res1 rfl rfl) (Split.none _) ⟨rfl, rfl, rfl⟩
theorem roll_zero (b : Nat)(s e t g : Int) : Spc Try.prog 49 #[.pointer (some ⟨b, 0, none⟩), .int .i64 s, .int .u32 e, .int .i64 t, .int .i64 g] [zRing b] [] (Is (.int .i64 1)) := by
  refine Spc.enter Try.func49 rfl rfl rfl (fun w0 hw0 => ?_)
  refine CW.seq ?_
  refine CW.region (ef := []) (bk := []) ?_
  refine RL.assign rfl rfl rfl rfl ?_
  refine RL.nil ?_
  refine NQ.seq ?_
  refine CW.seq ?_
  refine CW.region (ef := []) (bk := []) ?_
  refine RL.move rfl rfl rfl rfl ?_
  refine RL.move rfl rfl rfl rfl ?_
  refine RL.move rfl rfl rfl rfl ?_
  refine RL.callv (ktick_any t) Try.call78 rfl rfl rfl rfl (by repeat (first | exact Lend.nil | (refine Lend.inI ?_ ?_; (solve | (repeat (first | exact List.Mem.head _ | apply List.Mem.tail)))) | (refine Lend.inH ?_ ?_; (solve | (repeat (first | exact List.Mem.head _ | apply List.Mem.tail)))))) ?_
  refine RL.move rfl rfl rfl rfl ?_
  apply RL.andB (d := 18) (dp := 21) (l' := (Sq.of [8, 9, 10, 11, 12, 13, 14, 15, 16, 17])) rfl (.cons (k := 0) rfl (.cons (k := 1) rfl (.cons (k := 2) rfl (.cons (k := 3) rfl (.cons (k := 4) rfl (.cons (k := 14) rfl (.cons (k := 15) rfl .nil)))))))
  ·
    intro hb5 K5
    refine RL.move rfl rfl rfl rfl ?_
    refine RL.bin rfl rfl rfl rfl rfl rfl ?_
    refine RL.pickT rfl rfl rfl rfl rfl ?_
    exact K5 _ (.cons rfl (.cons (k := 0) rfl (.cons (k := 1) rfl (.cons (k := 2) rfl (.cons (k := 3) rfl (.cons (k := 4) rfl (.cons (k := 14) rfl (.cons (k := 15) rfl .nil))))))))
  ·
    intro hb5 K5
    refine RL.skip rfl rfl rfl rfl ?_
    refine RL.skip rfl rfl rfl rfl ?_
    refine RL.pickF rfl rfl rfl rfl rfl ?_
    exact K5 _ (.cons rfl (.cons (k := 0) rfl (.cons (k := 1) rfl (.cons (k := 2) rfl (.cons (k := 3) rfl (.cons (k := 4) rfl (.cons (k := 14) rfl (.cons (k := 15) rfl .nil))))))))
  refine RL.move rfl rfl rfl rfl ?_
  apply RL.andB (d := 22) (dp := 25) (l' := (Sq.of [12, 13, 14, 15, 16, 17])) rfl (.cons (k := 0) rfl (.cons (k := 1) rfl (.cons (k := 2) rfl (.cons (k := 3) rfl (.cons (k := 4) rfl (.cons (k := 14) rfl (.cons (k := 15) rfl .nil)))))))
  ·
    intro hb9 K9
    refine RL.move rfl rfl rfl rfl ?_
    refine RL.bin rfl rfl rfl rfl rfl rfl ?_
    refine RL.pickT rfl rfl rfl rfl rfl ?_
    exact K9 _ (.cons rfl (.cons (k := 0) rfl (.cons (k := 1) rfl (.cons (k := 2) rfl (.cons (k := 3) rfl (.cons (k := 4) rfl (.cons (k := 14) rfl (.cons (k := 15) rfl .nil))))))))
  ·
    intro hb9 K9
    refine RL.skip rfl rfl rfl rfl ?_
    refine RL.skip rfl rfl rfl rfl ?_
    refine RL.pickF rfl rfl rfl rfl rfl ?_
    exact K9 _ (.cons rfl (.cons (k := 0) rfl (.cons (k := 1) rfl (.cons (k := 2) rfl (.cons (k := 3) rfl (.cons (k := 4) rfl (.cons (k := 14) rfl (.cons (k := 15) rfl .nil))))))))
  refine RL.callv (find_zero b s (rightR t g)) Try.call72 rfl rfl rfl rfl (by repeat (first | exact Lend.nil | (refine Lend.inI ?_ ?_; (solve | (repeat (first | exact List.Mem.head _ | apply List.Mem.tail)))) | (refine Lend.inH ?_ ?_; (solve | (repeat (first | exact List.Mem.head _ | apply List.Mem.tail)))))) ?_
  refine RL.move rfl rfl rfl rfl ?_
  refine RL.extract rfl rfl rfl rfl rfl ?_
  refine RL.extract rfl rfl rfl rfl rfl ?_
  refine RL.assign rfl rfl rfl rfl ?_
  refine RL.assign rfl rfl rfl rfl ?_
  refine RL.nil ?_
  refine NQ.seq ?_
  refine CW.only (.cons (k := 0) rfl (.cons (k := 1) rfl (.cons (k := 2) rfl (.cons (k := 3) rfl (.cons (k := 4) rfl (.cons (k := 11) rfl (.cons (k := 12) rfl .nil))))))) ?_
  refine CW.seq ?_
  refine CW.block ?_
  refine CW.seq ?_
  refine CW.region (ef := []) (bk := []) ?_
  refine RL.move rfl rfl rfl rfl ?_
  refine RL.bin rfl rfl rfl rfl rfl rfl ?_
  refine RL.assign rfl rfl rfl rfl ?_
  refine RL.nil ?_
  refine NQ.seq ?_
  -- STOP: if; todo top: ["code", ["cond", ["t", 29], ["seq", ["region", 3, [{"d": 32, "op": ["move", ["t", 12]], "ty": 32, "pos": "keys.go:92", "after": [], "guard": null}, {"d": 10, "op": ["assign", ["t", 32]], "ty": 32, "p
  refine CW.condT rfl ((by simp)) ?_
  refine CW.seq ?_
  refine CW.region (ef := []) (bk := []) ?_
  refine RL.move rfl rfl rfl rfl ?_
  refine RL.assign rfl rfl rfl rfl ?_
  refine RL.nil ?_
  refine NQ.seq ?_
  refine CW.ret ?_
  refine RQ.block ?_
  refine RQ.seq ?_
  -- STOP: ret; end
  exact RQ.post (res1 rfl rfl) (Split.none _) ⟨rfl, rfl, rfl⟩
theorem raise_zero (b : Nat)(s e : Int) : Spc Try.prog 50 #[.pointer (some ⟨b, 0, none⟩), .int .i64 s, .int .u32 e] [zRing b] [] (Is (.int .i64 1)) := by
  refine Spc.enter Try.func50 rfl rfl rfl (fun w0 hw0 => ?_)
  refine CW.seq ?_
  refine CW.region (ef := []) (bk := []) ?_
  refine RL.assign rfl rfl rfl rfl ?_
  refine RL.nil ?_
  refine NQ.seq ?_
  refine CW.seq ?_
  refine CW.region (ef := []) (bk := []) ?_
  refine RL.move rfl rfl rfl rfl ?_
  refine RL.move rfl rfl rfl rfl ?_
  refine RL.callv (find_zero b s true) Try.call72 rfl rfl rfl rfl (by repeat (first | exact Lend.nil | (refine Lend.inI ?_ ?_; (solve | (repeat (first | exact List.Mem.head _ | apply List.Mem.tail)))) | (refine Lend.inH ?_ ?_; (solve | (repeat (first | exact List.Mem.head _ | apply List.Mem.tail)))))) ?_
  refine RL.move rfl rfl rfl rfl ?_
  refine RL.extract rfl rfl rfl rfl rfl ?_
  refine RL.extract rfl rfl rfl rfl rfl ?_
  refine RL.assign rfl rfl rfl rfl ?_
  refine RL.assign rfl rfl rfl rfl ?_
  refine RL.nil ?_
  refine NQ.seq ?_
  refine CW.only (.cons (k := 0) rfl (.cons (k := 1) rfl (.cons (k := 2) rfl (.cons (k := 7) rfl (.cons (k := 8) rfl .nil))))) ?_
  refine CW.seq ?_
  refine CW.block ?_
  refine CW.seq ?_
  refine CW.region (ef := []) (bk := []) ?_
  refine RL.move rfl rfl rfl rfl ?_
  refine RL.bin rfl rfl rfl rfl rfl rfl ?_
  refine RL.assign rfl rfl rfl rfl ?_
  refine RL.nil ?_
  refine NQ.seq ?_
  -- STOP: if; todo top: ["code", ["cond", ["t", 15], ["seq", ["region", 3, [{"d": 18, "op": ["move", ["t", 8]], "ty": 32, "pos": "keys.go:127", "after": [], "guard": null}, {"d": 6, "op": ["assign", ["t", 18]], "ty": 32, "po
  refine CW.condT rfl ((by simp)) ?_
  refine CW.seq ?_
  refine CW.region (ef := []) (bk := []) ?_
  refine RL.move rfl rfl rfl rfl ?_
  refine RL.assign rfl rfl rfl rfl ?_
  refine RL.nil ?_
  refine NQ.seq ?_
  refine CW.only (.cons (k := 6) rfl (.cons (k := 8) rfl .nil)) ?_
  refine CW.ret ?_
  refine RQ.block ?_
  refine RQ.seq ?_
  -- STOP: ret; end
  exact RQ.post (res1 rfl rfl) (Split.none _) ⟨rfl, rfl, rfl⟩
theorem epoch_zero (b : Nat)(s : Int) : Spc Try.prog 17 #[.pointer (some ⟨b, 0, none⟩), .int .i64 s] [zRing b] [] (Is (.int .u32 0)) := by
  refine Spc.enter Try.func17 rfl rfl rfl (fun w0 hw0 => ?_)
  refine CW.seq ?_
  refine CW.region (ef := []) (bk := []) ?_
  refine RL.assign rfl rfl rfl rfl ?_
  refine RL.nil ?_
  refine NQ.seq ?_
  refine CW.seq ?_
  refine CW.region (ef := []) (bk := []) ?_
  refine RL.move rfl rfl rfl rfl ?_
  refine RL.move rfl rfl rfl rfl ?_
  refine RL.callv (find_zero b s true) Try.call72 rfl rfl rfl rfl (by repeat (first | exact Lend.nil | (refine Lend.inI ?_ ?_; (solve | (repeat (first | exact List.Mem.head _ | apply List.Mem.tail)))) | (refine Lend.inH ?_ ?_; (solve | (repeat (first | exact List.Mem.head _ | apply List.Mem.tail)))))) ?_
  refine RL.move rfl rfl rfl rfl ?_
  refine RL.extract rfl rfl rfl rfl rfl ?_
  refine RL.extract rfl rfl rfl rfl rfl ?_
  refine RL.assign rfl rfl rfl rfl ?_
  refine RL.assign rfl rfl rfl rfl ?_
  refine RL.nil ?_
  refine NQ.seq ?_
  refine CW.only (.cons (k := 5) rfl (.cons (k := 6) rfl .nil)) ?_
  refine CW.seq ?_
  refine CW.seq ?_
  refine CW.region (ef := []) (bk := []) ?_
  refine RL.move rfl rfl rfl rfl ?_
  refine RL.bin rfl rfl rfl rfl rfl rfl ?_
  refine RL.nil ?_
  refine NQ.seq ?_
  -- STOP: if; todo top: ["code", ["cond", ["t", 14], ["seq", ["region", 3, [{"d": 4, "op": ["assign", ["c", ["int", "Go.IntKind.u32", 0]]], "ty": 31, "pos": "keys.go:117", "after": [], "guard": null}], false], ["ret"]], ["sk
  refine CW.condT rfl ((by simp)) ?_
  refine CW.seq ?_
  refine CW.region (ef := []) (bk := []) ?_
  refine RL.assign rfl rfl rfl rfl ?_
  refine RL.nil ?_
  refine NQ.seq ?_
  refine CW.ret ?_
  refine RQ.seq ?_
  -- STOP: ret; end
  exact RQ.post (res1 rfl rfl) (Split.none _) ⟨rfl, rfl, rfl⟩
theorem sources_nil : Spc Try.prog 47 #[.pointer none] [] [] (Is (.slice none 0 0)) := by
  refine Spc.enter Try.func47 rfl rfl rfl (fun w0 hw0 => ?_)
  refine CW.seq ?_
  refine CW.region (ef := []) (bk := []) ?_
  refine RL.assign rfl rfl rfl rfl ?_
  refine RL.nil ?_
  refine NQ.seq ?_
  refine CW.seq ?_
  refine CW.region (ef := []) (bk := []) ?_
  refine RL.assign rfl rfl rfl rfl ?_
  refine RL.nil ?_
  refine NQ.seq ?_
  refine CW.seq ?_
  refine CW.seq ?_
  refine CW.region (ef := []) (bk := []) ?_
  refine RL.move rfl rfl rfl rfl ?_
  refine RL.cmp rfl rfl rfl rfl rfl (eql_ptr Try.runUnderlying24 _) ?_
  refine RL.nil ?_
  refine NQ.seq ?_
  -- STOP: if; todo top: ["code", ["cond", ["t", 6], ["seq", ["region", 3, [{"d": 7, "op": ["move", ["t", 3]], "ty": 43, "pos": "keys.go:140", "after": [], "guard": null}, {"d": 2, "op": ["assign", ["t", 7]], "ty": 43, "pos":
  refine CW.condT rfl (rfl) ?_
  refine CW.seq ?_
  refine CW.region (ef := []) (bk := []) ?_
  refine RL.move rfl rfl rfl rfl ?_
  refine RL.assign rfl rfl rfl rfl ?_
  refine RL.nil ?_
  refine NQ.seq ?_
  refine CW.ret ?_
  refine RQ.seq ?_
  -- STOP: ret; end
  exact RQ.post (res1 rfl rfl) (Split.none _) ⟨rfl, rfl, rfl⟩
end Go.Proofs.Ytkkfdoippibfkaa

namespace Go.Proofs.Ytkkfdoippibfkaa
open Go.PK
open Go.Shelf

def Try.sortI_ren : Go.Shelf.Ren := ⟨fun | 5 => 105 | 8 => 154 | 7 => 153 | 19 => 202 | 20 => 203 | 10 => 193 | 11 => 194 | 12 => 195 | 13 => 196 | 14 => 197 | 15 => 198 | 16 => 199 | 17 => 200 | 18 => 201 | 30 => 230 | 31 => 231 | 32 => 232 | 33 => 233 | 34 => 234 | 35 => 173 | 40 => 243 | n => n, fun | 23 => 43 | 25 => 3 | 3 => 3 | 32 => 284 | 22 => 43 | 0 => 0 | 44 => 31 | 46 => 50 | 4 => 4 | 36 => 343 | 35 => 342 | 41 => 348 | 5 => 5 | 9 => 9 | 53 => 385 | 57 => 389 | 63 => 408 | 64 => 409 | n => n, fun | n => n⟩
theorem Try.sortI : Go.Proofs.SlLaysM.n5 Try.prog Try.sortI_ren := {
  mixed := by kernel_rfl
  f5 := ⟨Try.f105.name, by decide, Try.func105.trans (congrArg some (by kernel_rfl))⟩
  f7 := ⟨Try.f153.name, by decide, Try.func153.trans (congrArg some (by kernel_rfl))⟩
  f8 := Try.func154.trans (congrArg some (by kernel_rfl))
  f10 := ⟨Try.f193.name, by decide, Try.func193.trans (congrArg some (by kernel_rfl))⟩
  f11 := ⟨Try.f194.name, by decide, Try.func194.trans (congrArg some (by kernel_rfl))⟩
  f12 := ⟨Try.f195.name, by decide, Try.func195.trans (congrArg some (by kernel_rfl))⟩
  f13 := ⟨Try.f196.name, by decide, Try.func196.trans (congrArg some (by kernel_rfl))⟩
  f14 := ⟨Try.f197.name, by decide, Try.func197.trans (congrArg some (by kernel_rfl))⟩
  f15 := ⟨Try.f198.name, by decide, Try.func198.trans (congrArg some (by kernel_rfl))⟩
  f16 := ⟨Try.f199.name, by decide, Try.func199.trans (congrArg some (by kernel_rfl))⟩
  f17 := ⟨Try.f200.name, by decide, Try.func200.trans (congrArg some (by kernel_rfl))⟩
  f18 := ⟨Try.f201.name, by decide, Try.func201.trans (congrArg some (by kernel_rfl))⟩
  f19 := Try.func202.trans (congrArg some (by kernel_rfl))
  f20 := Try.func203.trans (congrArg some (by kernel_rfl))
  f30 := ⟨Try.f230.name, by decide, Try.func230.trans (congrArg some (by kernel_rfl))⟩
  f31 := Try.func231.trans (congrArg some (by kernel_rfl))
  f32 := Try.func232.trans (congrArg some (by kernel_rfl))
  f33 := ⟨Try.f233.name, by decide, Try.func233.trans (congrArg some (by kernel_rfl))⟩
  f34 := ⟨Try.f234.name, by decide, Try.func234.trans (congrArg some (by kernel_rfl))⟩
  f35 := ⟨Try.f173.name, by decide, Try.func173.trans (congrArg some (by kernel_rfl))⟩
  f40 := ⟨Try.f243.name, by decide, Try.func243.trans (congrArg some (by kernel_rfl))⟩
  t0 := Try.underlying0
  a0 := Try.isAgg0
  z0 := Try.sizeOf0
  v0 := Try.zeroValue0
  t3 := Try.underlying3
  a3 := Try.isAgg3
  z3 := Try.sizeOf3
  v3 := Try.zeroValue3
  t4 := Try.underlying4
  a4 := Try.isAgg4
  z4 := Try.sizeOf4
  v4 := Try.zeroValue4
  t5 := Try.underlying5
  a5 := Try.isAgg5
  z5 := Try.sizeOf5
  v5 := Try.zeroValue5
  t9 := Try.underlying9
  a9 := Try.isAgg9
  z9 := Try.sizeOf9
  v9 := Try.zeroValue9
  t22 := Try.underlying43
  a22 := Try.isAgg43
  z22 := Try.sizeOf43
  v22 := Try.zeroValue43
  t23 := Try.underlying43
  a23 := Try.isAgg43
  z23 := Try.sizeOf43
  v23 := Try.zeroValue43
  t25 := Try.underlying3
  a25 := Try.isAgg3
  z25 := Try.sizeOf3
  v25 := Try.zeroValue3
  t32 := Try.underlying284
  a32 := Try.isAgg284
  z32 := Try.sizeOf284
  v32 := Try.zeroValue284
  t35 := Try.underlying342
  a35 := Try.isAgg342
  z35 := Try.sizeOf342
  v35 := Try.zeroValue342
  t36 := Try.underlying343
  a36 := Try.isAgg343
  z36 := Try.sizeOf343
  v36 := Try.zeroValue343
  t41 := Try.underlying348
  a41 := Try.isAgg348
  z41 := Try.sizeOf348
  v41 := Try.zeroValue348
  t44 := Try.underlying31
  a44 := Try.isAgg31
  z44 := Try.sizeOf31
  v44 := Try.zeroValue31
  t46 := Try.underlying50
  a46 := Try.isAgg50
  z46 := Try.sizeOf50
  v46 := Try.zeroValue50
  t53 := Try.underlying385
  a53 := Try.isAgg385
  z53 := Try.sizeOf385
  v53 := Try.zeroValue385
  t57 := Try.underlying389
  a57 := Try.isAgg389
  z57 := Try.sizeOf389
  v57 := Try.zeroValue389
  t63 := Try.underlying408
  a63 := Try.isAgg408
  z63 := Try.sizeOf408
  v63 := Try.zeroValue408
  t64 := Try.underlying409
  a64 := Try.isAgg409
  z64 := Try.sizeOf409
  v64 := Try.zeroValue409 }
theorem sortI_any (b cap n : Nat) (zs : List Int) (hn : zs.length = n) (hb : n < 4611686018427387904) : Spc Try.prog 105 #[slO (some b) n cap] [] [own (some b) cap 3 1 n (zs.map (Value.int .i64))] (fun v I' H' => v = .tuple #[] ∧ I' = [] ∧ H' = [own (some b) cap 3 1 n ((zs.mergeSort fun x y => decide (x ≤ y)).map (Value.int .i64))]) :=
  sort_ints (fun blk off cap zs w h1 h2 h3 => AnyM.slices_Sort_int Try.sortI blk off cap zs w h1 h2 h3) b cap n 3 zs hn hb
theorem sortI_o (ob : Option Nat) (cap n : Nat) (zs : List Int) (hn : zs.length = n) (hb : n < 4611686018427387904) : Spc Try.prog 105 #[slO ob n cap] [] [own ob cap 3 1 n (zs.map (Value.int .i64))] (fun v I' H' => v = .tuple #[] ∧ I' = [] ∧ H' = [own ob cap 3 1 n ((zs.mergeSort fun x y => decide (x ≤ y)).map (Value.int .i64))]) := by
  cases ob with
  | some b => exact sortI_any b cap n zs hn hb
  | none =>
    intro w hw
    have hA := hw.h _ (List.Mem.head _)
    have h0 : n = 0 := hA.2.1
    subst h0
    obtain rfl : zs = [] := List.length_eq_zero_iff.1 hn
    refine (AnyM.slices_Sort_int_none Try.sortI none cap w).mono ?_
    rintro e' w' ⟨rfl, rfl⟩
    exact ⟨_, [], _, rfl, ⟨rfl, rfl, rfl⟩, Keeps.refl _ _, ⟨by simp, fun x hx => by rw [List.mem_singleton.1 hx]; simpa using hA, by simp [own], by simp⟩, fun c hc => .inl hc, by simp⟩
def unint : Value → Int
  | .int _ n => n
  | _ => 0
theorem ints_back (l : List Int) : (ints l).map unint = l := by simp [ints, Function.comp_def, unint]
theorem ints_perm {a b : List Int} (h : (ints a).Perm (ints b)) : a.Perm b := by
  have := h.map unint
  rwa [ints_back, ints_back] at this
abbrev sortL (l : List Int) : List Int := l.mergeSort fun x y => decide (x ≤ y)
theorem sortL_perm {a b : List Int} (h : a.Perm b) : sortL a = sortL b := by
  have h1 : (sortL a).Perm (sortL b) := (List.mergeSort_perm a _).trans (h.trans (List.mergeSort_perm b _).symm)
  have p : ∀ l : List Int, (sortL l).Pairwise (fun x y => x ≤ y) := fun l => by
    have := List.pairwise_mergeSort (le := fun x y : Int => decide (x ≤ y)) (fun a b c h1 h2 => by simp at *; omega) (fun a b => by simp; omega) l
    exact this.imp (fun h => by simpa using h)
  exact h1.eq_of_pairwise (fun x y _ _ h1 h2 => Int.le_antisymm h1 h2) (p a) (p b)
def srcs (T : List One) : List Int := T.map fun o => (o.s : Int)
theorem c1_keys (T : List One) : (c1 T).map (·.1) = ints (srcs T) := by simp [c1, ints, srcs, Function.comp_def]
def SrcR (r m1 m2 : Nat) (T : List One) (c : List (Value × Value)) : Value → List It → List It → Prop := fun v I' H' => ∃ ob cp, v = slO ob T.length cp ∧ I' = [] ∧ H' = [allI (RingL r m1 m2 T c), own ob cp 3 1 T.length (ints (sortL (srcs T)))]
theorem perm_erase {α : Type} : ∀ {l : List α} {q : Nat} {p : α}, l[q]? = some p → l.Perm (p :: l.eraseIdx q)
  | a :: l, 0, p, h => by
    obtain rfl : a = p := by simpa using h
    simp
  | a :: l, q + 1, p, h => by
    have := perm_erase (l := l) (q := q) (p := p) (by simpa using h)
    rw [List.eraseIdx_cons_succ]
    exact (this.cons a).trans (List.Perm.swap _ _ _)
theorem RQ.ringCloseB {Q : Exit → Act → World → Prop} {N : Nat} {E : Env} {w0 : World} {S : List Nat} {I H B : List It} {r m1 m2 : Nat} {T : List One} {c : List (Value × Value)}
    (hr : Rea H (allI (T.map oneI) :: ringI r m1 m2 :: mapI m2 goodP c :: mapI m1 goodI (c1 T) :: B)) (h : RQ Q N E w0 S I (allI (RingL r m1 m2 T c) :: B)) : RQ Q N E w0 S I H := fun a w ha hw => by
  have h1 := (hw.rea (fun _ h => h) hr).unpack
  have hp : (T.map oneI ++ (ringI r m1 m2 :: mapI m2 goodP c :: mapI m1 goodI (c1 T) :: B)).Perm (RingL r m1 m2 T c ++ B) := by
    show (T.map oneI ++ ([ringI r m1 m2, mapI m2 goodP c, mapI m1 goodI (c1 T)] ++ B)).Perm _
    rw [← List.append_assoc]
    refine List.Perm.append_right B ?_
    refine List.perm_append_comm.trans ?_
    exact (List.Perm.swap _ _ _).cons _
  exact RQ.pack h a w ha (h1.perm hp)
theorem sources_any (r m1 m2 : Nat) (T : List One) (c : List (Value × Value)) (hl : T.length ≤ 1000) : Spc Try.prog 47 #[.pointer (some ⟨r, 0, none⟩)] [] [allI (RingL r m1 m2 T c)] (SrcR r m1 m2 T c) := by
  refine Spc.enter Try.func47 rfl rfl rfl (fun w0 hw0 => ?_)
  refine CW.seq ?_
  refine CW.region (ef := []) (bk := []) ?_
  refine RL.assign rfl rfl rfl rfl ?_
  refine RL.nil ?_
  refine NQ.seq ?_
  refine CW.seq ?_
  -- STOP: region; todo top: ["code", ["region", 1, [{"d": 3, "op": ["assign", ["c", ["nilslice"]]], "ty": 43, "pos": "keys.go:138", "after": [], "guard": null}], false]]
  refine CW.ringOpen0 ?_
  refine CW.ownNone (e := 3) 1 ?_
  refine CW.region (ef := []) (bk := []) ?_
  refine RL.assign rfl rfl rfl rfl ?_
  refine RL.nil ?_
  refine NQ.seq ?_
  refine CW.seq ?_
  refine CW.seq ?_
  refine CW.region (ef := []) (bk := []) ?_
  refine RL.move rfl rfl rfl rfl ?_
  refine RL.cmp rfl rfl rfl rfl rfl (eql_ptr Try.runUnderlying24 _) ?_
  refine RL.nil ?_
  refine NQ.seq ?_
  -- STOP: if; todo top: ["code", ["cond", ["t", 6], ["seq", ["region", 3, [{"d": 7, "op": ["move", ["t", 3]], "ty": 43, "pos": "keys.go:140", "after": [], "guard": null}, {"d": 2, "op": ["assign", ["t", 7]], "ty": 43, "pos":
  refine CW.condF rfl (rfl) ?_
  refine CW.skip ?_
  refine NQ.seq ?_
  refine CW.seq ?_
  refine CW.seq ?_
  refine CW.region (ef := [4]) (bk := [4]) ?_
  refine RL.move rfl rfl rfl rfl ?_
  refine RL.nilCheck rfl rfl rfl rfl ?_
  refine RL.fieldAddr fa_109_0 rfl rfl rfl rfl ?_
  refine RL.load Try.isAgg106 rfl rfl rfl rfl (by first | assumption | (apply RdI.rd; assumption) | (apply Rd.get; (solve | (repeat (first | exact List.Mem.head _ | apply List.Mem.tail))); assumption) | (apply Rd.getS; (solve | (repeat (first | exact List.Mem.head _ | apply List.Mem.tail))); assumption) | (apply Rd.getO; (solve | (repeat (first | exact List.Mem.head _ | apply List.Mem.tail))); assumption) | (apply Rd.getI; (solve | (repeat (first | exact List.Mem.head _ | apply List.Mem.tail))); assumption) | (apply Rd.cel; (solve | (repeat (first | exact List.Mem.head _ | apply List.Mem.tail))); exact rfl) | (apply Rd.celI; (solve | (repeat (first | exact List.Mem.head _ | apply List.Mem.tail))); exact rfl)) ?_
  -- STOP: op; op 4: d=12 ["range", 106, ["t", 11]] guard=None (keys.go:142)
  refine RL.range Try.runUnderlying106 rfl rfl rfl rfl rfl rfl (by repeat (first | exact Pick.nil | apply Pick.take | apply Pick.leave)) (fun it => ?_)
  refine RL.nil ?_
  refine NQ.seq ?_
  refine CW.only (.cons (k := 2) rfl (.cons (k := 3) rfl (.cons (k := 12) rfl .nil))) ?_
  refine CW.block ?_
  -- STOP: loop; todo top: ["code", ["loop", ["seq", ["region", 5, [{"d": 13, "op": ["next", ["t", 12], false], "ty": 0, "pos": "keys.go:142", "after": [], "guard": null}, {"d": 14, "op": ["extract", ["t", 13], 0], "ty": 4, "po
  refine CW.loop (γ := List (Value × Value) × List Int × Option Nat × Nat × Nat) (fun g => (ints g.2.1 ++ g.1.map (·.1)).Perm (ints (srcs T)) ∧ g.2.1.length = g.2.2.2.2) (fun g => [(3, slO g.2.2.1 g.2.2.2.2 g.2.2.2.1), (12, .pointer (some ⟨it, 0, none⟩))]) (fun _ => [])
    (fun g => [mapIt m1 it goodI (c1 T) g.1, own g.2.2.1 g.2.2.2.1 3 1 g.2.2.2.2 (ints g.2.1), allI (T.map oneI), ringI r m1 m2, mapI m2 goodP c]) (fun g => g.1.length) (c1 T, [], none, 0, 0) ⟨by rw [c1_keys]; exact List.Perm.refl _, rfl⟩ (.cons rfl (.cons rfl .nil)) (fun w h => h.rea (fun _ h => h) (by repeat (first | exact Rea.nil | (apply Rea.cons; (solve | (repeat (first | exact Del.here | apply Del.there))))))) ?_
  rintro ⟨left, acc, ob, cp, n⟩ ⟨hp, hn⟩
  dsimp only at hp hn ⊢
  have hlen : n + left.length = T.length := by
    have := hp.length_eq
    simp [srcs, hn] at this; exact this
  refine CW.fact (p := ∀ p ∈ left, goodI p.1) (fun w hC => fun p hp => ((mapIt_facts (hC.s.h _ (List.Mem.head _))).2.2 p hp).2) (fun hgd => ?_)
  refine CW.seq ?_
  refine CW.region (ef := [0]) (bk := [0]) ?_
  -- STOP: op; op 0: d=13 ["next", ["t", 12], false] guard=None (keys.go:142)
  refine RL.nextC rfl rfl rfl rfl rfl rfl (.take (Pick.none _)) (fun hl => ?_) (fun q p hq => ?_)
  · subst hl
    have hn2 : n = T.length := by simpa using hlen
    subst hn2
    refine RL.extract rfl rfl rfl rfl rfl ?_
    refine RL.nil ?_
    refine NQ.seq ?_
    refine CW.seq ?_
    -- STOP: if; todo top: ["code", ["cond", ["t", 14], ["skip"], ["exit", 0]]]
    refine CW.condF rfl ((by simp)) ?_
    refine CW.exit ?_
    refine XQ.seq ?_
    refine XQ.seq ?_
    refine XQ.hit ?_
    refine NQ.seq ?_
    refine CW.seq ?_
    -- STOP: region; todo top: ["code", ["region", 8, [{"d": 21, "op": ["move", ["t", 3]], "ty": 43, "pos": "keys.go:145", "after": [], "guard": null}, {"d": 22, "op": ["call", ["f", 105], [["t", 21]], [43]], "ty": 0, "pos": "keys.
    refine CW.unrange ?_
    refine CW.region (ef := [1]) (bk := [1]) ?_
    refine RL.move rfl rfl rfl rfl ?_
    refine RL.call (sortI_o ob cp T.length acc hn (by omega)) Try.call105 rfl rfl rfl rfl rfl (by repeat (first | exact Pick.nil | apply Pick.take | apply Pick.leave)) (by repeat (first | exact Lend.nil | (refine Lend.inI ?_ ?_; (solve | (repeat (first | exact List.Mem.head _ | apply List.Mem.tail)))) | (refine Lend.inH ?_ ?_; (solve | (repeat (first | exact List.Mem.head _ | apply List.Mem.tail)))))) (.inr rfl) ?_
    -- STOP: called; todo top: ["code", ["region", 8, [{"d": 21, "op": ["move", ["t", 3]], "ty": 43, "pos": "keys.go:145", "after": [], "guard": null}, {"d": 22, "op": ["call", ["f", 105], [["t", 21]], [43]], "ty": 0, "pos": "keys.
    rintro _ _ _ ⟨rfl, rfl, rfl⟩
    refine RL.nil ?_
    refine NQ.seq ?_
    refine CW.seq ?_
    refine CW.region (ef := []) (bk := []) ?_
    refine RL.move rfl rfl rfl rfl ?_
    refine RL.assign rfl rfl rfl rfl ?_
    refine RL.nil ?_
    refine NQ.seq ?_
    refine CW.only (.cons (k := 2) rfl .nil) ?_
    refine CW.ret ?_
    -- STOP: ret; end
    have hs : sortL acc = sortL (srcs T) := sortL_perm (ints_perm (by simpa using hp))
    rw [show (acc.mergeSort fun x y => decide (x ≤ y)) = sortL (srcs T) from hs]
    refine RQ.ringCloseB (T := T) (B := [own ob cp 3 1 T.length (ints (sortL (srcs T)))]) (by repeat (first | exact Rea.nil | (apply Rea.cons; (solve | (repeat (first | exact Del.here | apply Del.there)))))) ?_
    exact RQ.post (res1 rfl rfl) (.keep (.keep .nil)) ⟨ob, cp, rfl, rfl, rfl⟩
  ·
    obtain ⟨s, hs⟩ := hgd p (List.mem_of_getElem? hq)
    obtain ⟨pk, pv⟩ := p
    dsimp only at hs
    subst hs
    refine RL.extract rfl rfl rfl rfl rfl ?_
    refine RL.nil ?_
    refine NQ.seq ?_
    refine CW.seq ?_
    -- STOP: if; todo top: ["code", ["cond", ["t", 14], ["skip"], ["exit", 0]]]
    refine CW.condT rfl ((by simp)) ?_
    refine CW.skip ?_
    refine NQ.seq ?_
    refine CW.block ?_
    refine CW.seq ?_
    refine CW.region (ef := []) (bk := []) ?_
    -- STOP: op; op 0: d=15 ["entry", ["t", 12]] guard=None (keys.go:142)
    refine RL.entry rfl rfl rfl rfl (List.Mem.head _) ?_
    refine RL.extract rfl rfl rfl rfl rfl ?_
    refine RL.assign rfl rfl rfl rfl ?_
    refine RL.nil ?_
    refine NQ.seq ?_
    refine CW.region (ef := [2, 3]) (bk := [3]) ?_
    refine RL.move rfl rfl rfl rfl ?_
    refine RL.move rfl rfl rfl rfl ?_
    refine RL.buildSlice [_] Try.runUnderlying43 Try.sizeOf3 Try.zeroValue3 rfl rfl (by decide) (by decide) rfl rfl rfl rfl rfl rfl ?_
    intro b1
    refine RL.appendA el_43 rfl rfl rfl rfl rfl rfl rfl (by first | exact ⟨(.take (Pick.none _)), rfl⟩ | exact ⟨(.leave (.take (Pick.none _))), rfl⟩ | exact ⟨(.leave (.leave (.take (Pick.none _)))), rfl⟩ | exact ⟨(.leave (.leave (.leave (.take (Pick.none _))))), rfl⟩ | exact ⟨(.leave (.leave (.leave (.leave (.take (Pick.none _)))))), rfl⟩ | exact ⟨(.leave (.leave (.leave (.leave (.leave (.take (Pick.none _))))))), rfl⟩ | exact ⟨(.leave (.leave (.leave (.leave (.leave (.leave (.take (Pick.none _)))))))), rfl⟩ | exact ⟨(.leave (.leave (.leave (.leave (.leave (.leave (.leave (.take (Pick.none _))))))))), rfl⟩ | exact ⟨(.leave (.leave (.leave (.leave (.leave (.leave (.leave (.leave (.take (Pick.none _)))))))))), rfl⟩ | exact ⟨(.leave (.leave (.leave (.leave (.leave (.leave (.leave (.leave (.leave (.take (Pick.none _))))))))))), rfl⟩) (by first | (exact Src.cel (by (solve | (repeat (first | exact List.Mem.head _ | apply List.Mem.tail)))) (by first | rfl | assumption | (simp only [List.length_map]; assumption) | (simp only [List.length_map, List.length_replicate]; done) | (simp; done))) | (exact Src.ownS (by (solve | (repeat (first | exact List.Mem.head _ | apply List.Mem.tail))))) | (exact Src.own (by (solve | (repeat (first | exact List.Mem.head _ | apply List.Mem.tail))))) | (exact Src.sls (by (solve | (repeat (first | exact List.Mem.head _ | apply List.Mem.tail))))) | (exact Src.celI (by (solve | (repeat (first | exact List.Mem.head _ | apply List.Mem.tail)))) (by first | rfl | assumption | (simp only [List.length_map]; assumption) | (simp only [List.length_map, List.length_replicate]; done) | (simp; done)))) (by first | exact one_map one8 _ | exact ones_spec rfl | exact one_map (fun _ => rfl) _ | (intro u hu; simp at hu; simp [hu, Value.oneCell'])) (by first | omega | (simp only [maxLen]; omega)) (by first | omega | (simp only [maxLen]; omega)) ?_
    intro ob1 cap1 ho1
    refine RL.assign rfl rfl rfl rfl ?_
    refine RL.nil ?_
    refine NQ.block ?_
    -- STOP: round; todo top: ["N"]
    refine NQ.round (g := (left, acc, ob, cp, n)) (left.eraseIdx q, acc ++ [s], ob1, cap1, n + 1) ⟨?_, by simp [hn]⟩ (by show (left.eraseIdx q).length < left.length; rw [List.length_eraseIdx_of_lt (List.getElem?_eq_some_iff.1 hq).1]; have := (List.getElem?_eq_some_iff.1 hq).1; omega) (.cons rfl (.cons rfl .nil)) (fun w h => (h.rea (H' := [mapCt m1 it goodI (c1 T) (left.eraseIdx q) (.int .i64 s, pv), own ob1 cap1 3 1 (n + 1) (ints (acc ++ [s])), allI (T.map oneI), ringI r m1 m2, mapI m2 goodP c]) (fun _ h => h) (by rw [show ints (acc ++ [s]) = ints acc ++ [.int .i64 s] by simp [ints]]; exact (by repeat (first | exact Rea.nil | (apply Rea.cons; (solve | (repeat (first | exact Del.here | apply Del.there)))))))).uncur)
    refine List.Perm.trans ?_ hp
    have h1 : ((left.map (·.1))).Perm (Value.int .i64 s :: (left.eraseIdx q).map (·.1)) := by
      have := perm_erase hq
      exact (this.map (·.1))
    show (ints (acc ++ [s]) ++ (left.eraseIdx q).map (·.1)).Perm (ints acc ++ left.map (·.1))
    rw [show ints (acc ++ [s]) = ints acc ++ [.int .i64 s] by simp [ints], List.append_assoc]
    exact List.Perm.append_left _ h1.symm
end Go.Proofs.Ytkkfdoippibfkaa

namespace Go.Proofs.Ytkkfdoippibfkaa
open Go.PK

theorem sources_zero (b : Nat) : Spc Try.prog 47 #[.pointer (some ⟨b, 0, none⟩)] [zRing b] [] (Is (.slice none 0 0)) := by
  refine Spc.enter Try.func47 rfl rfl rfl (fun w0 hw0 => ?_)
  refine CW.seq ?_
  refine CW.region (ef := []) (bk := []) ?_
  refine RL.assign rfl rfl rfl rfl ?_
  refine RL.nil ?_
  refine NQ.seq ?_
  refine CW.seq ?_
  refine CW.region (ef := []) (bk := []) ?_
  refine RL.assign rfl rfl rfl rfl ?_
  refine RL.nil ?_
  refine NQ.seq ?_
  refine CW.seq ?_
  refine CW.seq ?_
  refine CW.region (ef := []) (bk := []) ?_
  refine RL.move rfl rfl rfl rfl ?_
  refine RL.cmp rfl rfl rfl rfl rfl (eql_ptr Try.runUnderlying24 _) ?_
  refine RL.nil ?_
  refine NQ.seq ?_
  -- STOP: if; todo top: ["code", ["cond", ["t", 6], ["seq", ["region", 3, [{"d": 7, "op": ["move", ["t", 3]], "ty": 43, "pos": "keys.go:140", "after": [], "guard": null}, {"d": 2, "op": ["assign", ["t", 7]], "ty": 43, "pos":
  refine CW.condF rfl (rfl) ?_
  refine CW.skip ?_
  refine NQ.seq ?_
  refine CW.seq ?_
  refine CW.seq ?_
  refine CW.region (ef := [4]) (bk := [4]) ?_
  refine RL.move rfl rfl rfl rfl ?_
  refine RL.nilCheck rfl rfl rfl rfl ?_
  refine RL.fieldAddr fa_109_0 rfl rfl rfl rfl ?_
  refine RL.load Try.isAgg106 rfl rfl rfl rfl (by first | assumption | (apply RdI.rd; assumption) | (apply Rd.get; (solve | (repeat (first | exact List.Mem.head _ | apply List.Mem.tail))); assumption) | (apply Rd.getS; (solve | (repeat (first | exact List.Mem.head _ | apply List.Mem.tail))); assumption) | (apply Rd.getO; (solve | (repeat (first | exact List.Mem.head _ | apply List.Mem.tail))); assumption) | (apply Rd.getI; (solve | (repeat (first | exact List.Mem.head _ | apply List.Mem.tail))); assumption) | (apply Rd.cel; (solve | (repeat (first | exact List.Mem.head _ | apply List.Mem.tail))); exact rfl) | (apply Rd.celI; (solve | (repeat (first | exact List.Mem.head _ | apply List.Mem.tail))); exact rfl)) ?_
  -- STOP: op; op 4: d=12 ["range", 106, ["t", 11]] guard=None (keys.go:142)
  refine RL.rangeNil Try.runUnderlying106 rfl rfl rfl rfl rfl (fun it => ?_)
  refine RL.nil ?_
  refine NQ.seq ?_
  refine CW.only (.cons (k := 2) rfl (.cons (k := 3) rfl (.cons (k := 12) rfl .nil))) ?_
  refine CW.block ?_
  -- STOP: loop; todo top: ["code", ["loop", ["seq", ["region", 5, [{"d": 13, "op": ["next", ["t", 12], false], "ty": 0, "pos": "keys.go:142", "after": [], "guard": null}, {"d": 14, "op": ["extract", ["t", 13], 0], "ty": 4, "po
  refine CW.loop (γ := Unit) (fun _ => True) (fun _ => [(3, .slice none 0 0), (12, .pointer (some ⟨it, 0, none⟩))]) (fun _ => [zRing b]) (fun _ => [blk it (.mapIter none 0 #[] 0)]) (fun _ => 0) () trivial (.cons rfl (.cons rfl .nil)) (fun w h => h) ?_
  rintro ⟨⟩ -
  refine CW.seq ?_
  refine CW.region (ef := [0]) (bk := [0]) ?_
  -- STOP: op; op 0: d=13 ["next", ["t", 12], false] guard=None (keys.go:142)
  refine RL.nextNil rfl rfl rfl rfl (by repeat (first | exact List.Mem.head _ | apply List.Mem.tail)) ?_
  refine RL.extract rfl rfl rfl rfl rfl ?_
  refine RL.nil ?_
  refine NQ.seq ?_
  refine CW.seq ?_
  -- STOP: if; todo top: ["code", ["cond", ["t", 14], ["skip"], ["exit", 0]]]
  refine CW.condF rfl (rfl) ?_
  refine CW.exit ?_
  refine XQ.seq ?_
  refine XQ.seq ?_
  refine XQ.hit ?_
  refine NQ.seq ?_
  refine CW.seq ?_
  -- STOP: region; todo top: ["code", ["region", 8, [{"d": 21, "op": ["move", ["t", 3]], "ty": 43, "pos": "keys.go:145", "after": [], "guard": null}, {"d": 22, "op": ["call", ["f", 105], [["t", 21]], [43]], "ty": 0, "pos": "keys.
  refine CW.ownNone (e := 3) 1 ?_
  refine CW.region (ef := [1]) (bk := [1]) ?_
  refine RL.move rfl rfl rfl rfl ?_
  refine RL.call (sortI_o none 0 0 [] rfl (by decide)) Try.call105 rfl rfl rfl rfl rfl (by repeat (first | exact Pick.nil | apply Pick.take | apply Pick.leave)) (by repeat (first | exact Lend.nil | (refine Lend.inI ?_ ?_; (solve | (repeat (first | exact List.Mem.head _ | apply List.Mem.tail)))) | (refine Lend.inH ?_ ?_; (solve | (repeat (first | exact List.Mem.head _ | apply List.Mem.tail)))))) (.inr rfl) ?_
  -- STOP: called; todo top: ["code", ["region", 8, [{"d": 21, "op": ["move", ["t", 3]], "ty": 43, "pos": "keys.go:145", "after": [], "guard": null}, {"d": 22, "op": ["call", ["f", 105], [["t", 21]], [43]], "ty": 0, "pos": "keys.
  rintro _ _ _ ⟨rfl, rfl, rfl⟩
  refine RL.nil ?_
  refine NQ.seq ?_
  refine CW.seq ?_
  refine CW.region (ef := []) (bk := []) ?_
  refine RL.move rfl rfl rfl rfl ?_
  refine RL.assign rfl rfl rfl rfl ?_
  refine RL.nil ?_
  refine NQ.seq ?_
  refine CW.only (.cons (k := 2) rfl .nil) ?_
  refine CW.ret ?_
  -- STOP: ret; end
  exact RQ.post (res1 rfl rfl) (Split.none _) ⟨rfl, rfl, rfl⟩
theorem kvoid (a : Act16) (ha : a.Ok) : Spc Try.prog 8 #[.agg a.cells.toArray] [] [] (Is (.bool true)) := by
  have hk := ha.k
  refine Spc.enter Try.func8 rfl rfl rfl (fun w0 hw0 => ?_)
  refine CW.seq ?_
  refine CW.region (ef := [0]) (bk := []) ?_
  refine RL.box rfl rfl rfl rfl rfl rfl ?_
  intro b1
  refine RL.assign rfl rfl rfl rfl ?_
  refine RL.nil ?_
  refine NQ.seq ?_
  refine CW.seq ?_
  refine CW.seq ?_
  -- STOP: region; todo top: ["code", ["region", 1, [{"d": 9, "op": ["call", ["f", 11], [], []], "ty": 4, "pos": "law.go:105", "after": [], "guard": null}, {"d": 10, "op": ["unOp", "Go.UnOp.not", 4, ["t", 9]], "ty": 4, "pos": "la
  refine CW.freezeP (A := [_]) (B := []) (.take .nil) rfl ?_
  have f1 : RdI [cel b1 a.cells 38] ⟨b1, 0 + 1, none⟩ (.int .i64 a.s) := ⟨fun _ => Rd.celI (List.Mem.head _) rfl⟩
  have f2 : RdsN [cel b1 a.cells 38] ⟨b1, 0 + 2, none⟩ 32 (bytes a.k) := RdsN.told (List.Mem.head _) (act_k a) (by rw [List.length_map, hk])
  have f3 : RdI [cel b1 a.cells 38] ⟨b1, 0 + 34, none⟩ (.int .u32 (a.e : Int)) := ⟨fun _ => Rd.getI (List.Mem.head _) (act_e ha)⟩
  have f5 : RdI [cel b1 a.cells 38] ⟨b1, 0 + 36, none⟩ (.int .i64 a.t) := ⟨fun _ => Rd.getI (List.Mem.head _) (act_t ha)⟩
  have f6 : RdI [cel b1 a.cells 38] ⟨b1, 0 + 37, none⟩ (.int .i64 a.g) := ⟨fun _ => Rd.getI (List.Mem.head _) (act_g ha)⟩
  refine CW.region (ef := []) (bk := []) ?_
  refine RL.callv (works16) Try.call11 rfl rfl rfl rfl (by repeat (first | exact Lend.nil | (refine Lend.inI ?_ ?_; (solve | (repeat (first | exact List.Mem.head _ | apply List.Mem.tail)))) | (refine Lend.inH ?_ ?_; (solve | (repeat (first | exact List.Mem.head _ | apply List.Mem.tail)))))) ?_
  refine RL.not rfl rfl rfl rfl ?_
  refine RL.nil ?_
  refine NQ.seq ?_
  -- STOP: if; todo top: ["code", ["cond", ["t", 10], ["seq", ["region", 2, [{"d": 2, "op": ["assign", ["c", ["bool", false]]], "ty": 4, "pos": "law.go:106", "after": [], "guard": null}], false], ["ret"]], ["skip"]]]
  refine CW.condF rfl (rfl) ?_
  refine CW.skip ?_
  refine NQ.seq ?_
  refine CW.seq ?_
  refine CW.region (ef := []) (bk := []) ?_
  refine RL.assign rfl rfl rfl rfl ?_
  refine RL.nil ?_
  refine NQ.seq ?_
  refine CW.seq ?_
  refine CW.region (ef := [0]) (bk := []) ?_
  refine RL.alloc Try.zeroValue109 rfl rfl rfl rfl rfl ?_
  intro b2
  refine RL.nil ?_
  refine NQ.seq ?_
  refine CW.seq ?_
  refine CW.region (ef := [11, 12]) (bk := [12]) ?_
  refine RL.move rfl rfl rfl rfl ?_
  refine RL.fieldAddr fa_38_1 rfl rfl rfl rfl ?_
  refine RL.load Try.isAgg3 rfl rfl rfl rfl (by first | assumption | (apply RdI.rd; assumption) | (apply Rd.get; (solve | (repeat (first | exact List.Mem.head _ | apply List.Mem.tail))); assumption) | (apply Rd.getS; (solve | (repeat (first | exact List.Mem.head _ | apply List.Mem.tail))); assumption) | (apply Rd.getO; (solve | (repeat (first | exact List.Mem.head _ | apply List.Mem.tail))); assumption) | (apply Rd.getI; (solve | (repeat (first | exact List.Mem.head _ | apply List.Mem.tail))); assumption) | (apply Rd.cel; (solve | (repeat (first | exact List.Mem.head _ | apply List.Mem.tail))); exact rfl) | (apply Rd.celI; (solve | (repeat (first | exact List.Mem.head _ | apply List.Mem.tail))); exact rfl)) ?_
  refine RL.fieldAddr fa_38_3 rfl rfl rfl rfl ?_
  refine RL.load Try.isAgg31 rfl rfl rfl rfl (by first | assumption | (apply RdI.rd; assumption) | (apply Rd.get; (solve | (repeat (first | exact List.Mem.head _ | apply List.Mem.tail))); assumption) | (apply Rd.getS; (solve | (repeat (first | exact List.Mem.head _ | apply List.Mem.tail))); assumption) | (apply Rd.getO; (solve | (repeat (first | exact List.Mem.head _ | apply List.Mem.tail))); assumption) | (apply Rd.getI; (solve | (repeat (first | exact List.Mem.head _ | apply List.Mem.tail))); assumption) | (apply Rd.cel; (solve | (repeat (first | exact List.Mem.head _ | apply List.Mem.tail))); exact rfl) | (apply Rd.celI; (solve | (repeat (first | exact List.Mem.head _ | apply List.Mem.tail))); exact rfl)) ?_
  refine RL.fieldAddr fa_38_5 rfl rfl rfl rfl ?_
  refine RL.load Try.isAgg3 rfl rfl rfl rfl (by first | assumption | (apply RdI.rd; assumption) | (apply Rd.get; (solve | (repeat (first | exact List.Mem.head _ | apply List.Mem.tail))); assumption) | (apply Rd.getS; (solve | (repeat (first | exact List.Mem.head _ | apply List.Mem.tail))); assumption) | (apply Rd.getO; (solve | (repeat (first | exact List.Mem.head _ | apply List.Mem.tail))); assumption) | (apply Rd.getI; (solve | (repeat (first | exact List.Mem.head _ | apply List.Mem.tail))); assumption) | (apply Rd.cel; (solve | (repeat (first | exact List.Mem.head _ | apply List.Mem.tail))); exact rfl) | (apply Rd.celI; (solve | (repeat (first | exact List.Mem.head _ | apply List.Mem.tail))); exact rfl)) ?_
  refine RL.callv (key_nil a.s (a.e : Int) a.t) Try.call18 rfl rfl rfl rfl (by repeat (first | exact Lend.nil | (refine Lend.inI ?_ ?_; (solve | (repeat (first | exact List.Mem.head _ | apply List.Mem.tail)))) | (refine Lend.inH ?_ ?_; (solve | (repeat (first | exact List.Mem.head _ | apply List.Mem.tail)))))) ?_
  refine RL.move rfl rfl rfl rfl ?_
  refine RL.extract rfl rfl rfl rfl rfl ?_
  refine RL.extract rfl rfl rfl rfl rfl ?_
  refine RL.alloc (cs := List.replicate 32 (U8 0#8)) Try.zeroValue35 rfl rfl rfl rfl rfl ?_
  intro b3
  refine RL.storeW Try.sizeOf35 rfl rfl rfl rfl rfl rfl rfl (by first | rfl | exact ones_map one8 _ | exact ones_map (fun _ => rfl) _) (by repeat (first | exact Upd.here | apply Upd.there)) (by first | rfl | assumption | (simp only [List.length_map]; assumption) | (simp only [List.length_map, List.length_replicate, hk]; done) | (simp; done)) (by first | rfl | assumption | (simp only [List.length_map]; assumption) | (simp only [List.length_map, List.length_replicate, hk]; done) | (simp; done)) ?_
  refine RL.assign rfl rfl rfl rfl ?_
  refine RL.nil ?_
  refine NQ.seq ?_
  refine CW.only (.cons (k := 1) rfl (.cons (k := 3) rfl (.cons (k := 4) rfl (.cons (k := 6) rfl .nil)))) ?_
  refine CW.seq ?_
  refine CW.region (ef := [10, 11]) (bk := [11]) ?_
  refine RL.fieldAddr fa_38_1 rfl rfl rfl rfl ?_
  refine RL.load Try.isAgg3 rfl rfl rfl rfl (by first | assumption | (apply RdI.rd; assumption) | (apply Rd.get; (solve | (repeat (first | exact List.Mem.head _ | apply List.Mem.tail))); assumption) | (apply Rd.getS; (solve | (repeat (first | exact List.Mem.head _ | apply List.Mem.tail))); assumption) | (apply Rd.getO; (solve | (repeat (first | exact List.Mem.head _ | apply List.Mem.tail))); assumption) | (apply Rd.getI; (solve | (repeat (first | exact List.Mem.head _ | apply List.Mem.tail))); assumption) | (apply Rd.cel; (solve | (repeat (first | exact List.Mem.head _ | apply List.Mem.tail))); exact rfl) | (apply Rd.celI; (solve | (repeat (first | exact List.Mem.head _ | apply List.Mem.tail))); exact rfl)) ?_
  refine RL.fieldAddr fa_38_3 rfl rfl rfl rfl ?_
  refine RL.load Try.isAgg31 rfl rfl rfl rfl (by first | assumption | (apply RdI.rd; assumption) | (apply Rd.get; (solve | (repeat (first | exact List.Mem.head _ | apply List.Mem.tail))); assumption) | (apply Rd.getS; (solve | (repeat (first | exact List.Mem.head _ | apply List.Mem.tail))); assumption) | (apply Rd.getO; (solve | (repeat (first | exact List.Mem.head _ | apply List.Mem.tail))); assumption) | (apply Rd.getI; (solve | (repeat (first | exact List.Mem.head _ | apply List.Mem.tail))); assumption) | (apply Rd.cel; (solve | (repeat (first | exact List.Mem.head _ | apply List.Mem.tail))); exact rfl) | (apply Rd.celI; (solve | (repeat (first | exact List.Mem.head _ | apply List.Mem.tail))); exact rfl)) ?_
  refine RL.fieldAddr fa_38_5 rfl rfl rfl rfl ?_
  refine RL.load Try.isAgg3 rfl rfl rfl rfl (by first | assumption | (apply RdI.rd; assumption) | (apply Rd.get; (solve | (repeat (first | exact List.Mem.head _ | apply List.Mem.tail))); assumption) | (apply Rd.getS; (solve | (repeat (first | exact List.Mem.head _ | apply List.Mem.tail))); assumption) | (apply Rd.getO; (solve | (repeat (first | exact List.Mem.head _ | apply List.Mem.tail))); assumption) | (apply Rd.getI; (solve | (repeat (first | exact List.Mem.head _ | apply List.Mem.tail))); assumption) | (apply Rd.cel; (solve | (repeat (first | exact List.Mem.head _ | apply List.Mem.tail))); exact rfl) | (apply Rd.celI; (solve | (repeat (first | exact List.Mem.head _ | apply List.Mem.tail))); exact rfl)) ?_
  refine RL.callv (key_zero b2 a.s (a.e : Int) a.t) Try.call18 rfl rfl rfl rfl (by repeat (first | exact Lend.nil | (refine Lend.inI ?_ ?_; (solve | (repeat (first | exact List.Mem.head _ | apply List.Mem.tail)))) | (refine Lend.inH ?_ ?_; (solve | (repeat (first | exact List.Mem.head _ | apply List.Mem.tail)))))) ?_
  refine RL.move rfl rfl rfl rfl ?_
  refine RL.extract rfl rfl rfl rfl rfl ?_
  refine RL.extract rfl rfl rfl rfl rfl ?_
  refine RL.alloc (cs := List.replicate 32 (U8 0#8)) Try.zeroValue35 rfl rfl rfl rfl rfl ?_
  intro b4
  refine RL.storeW Try.sizeOf35 rfl rfl rfl rfl rfl rfl rfl (by first | rfl | exact ones_map one8 _ | exact ones_map (fun _ => rfl) _) (by repeat (first | exact Upd.here | apply Upd.there)) (by first | rfl | assumption | (simp only [List.length_map]; assumption) | (simp only [List.length_map, List.length_replicate, hk]; done) | (simp; done)) (by first | rfl | assumption | (simp only [List.length_map]; assumption) | (simp only [List.length_map, List.length_replicate, hk]; done) | (simp; done)) ?_
  refine RL.assign rfl rfl rfl rfl ?_
  refine RL.nil ?_
  refine NQ.seq ?_
  refine CW.only (.cons (k := 1) rfl (.cons (k := 3) rfl (.cons (k := 4) rfl (.cons (k := 6) rfl (.cons (k := 8) rfl .nil))))) ?_
  refine CW.seq ?_
  refine CW.regionD (Sq.of [0, 1, 2, 3, 4, 5, 6, 7, 8, 9, 10, 11, 12, 13, 14, 15, 16, 17, 18, 19, 20, 21, 22, 23, 24, 25, 26, 27, 28, 29, 30, 31, 32, 33, 34, 35, 36, 37, 38, 39, 40, 41, 42, 43, 44, 45, 46, 47, 48, 49, 50, 51, 52, 53, 54, 55, 56, 57, 58, 59, 60, 61, 62, 63, 64, 65, 66, 67, 68, 69]) [] [] [0, 1, 2, 3, 4, 5, 6, 7, 8, 9, 11, 14, 15, 16, 17, 18, 20, 23, 24, 25, 26, 27, 28, 30, 32, 34, 37, 38, 39, 40, 41, 43, 46, 47, 48, 49, 50, 51, 54, 57, 58, 59, 60, 61, 63, 65, 66, 67, 68, 69] mixed (by kernel_rfl) ?_
  refine RL.move rfl rfl rfl rfl ?_
  refine RL.bin rfl rfl rfl rfl rfl rfl ?_
  refine RL.move rfl rfl rfl rfl ?_
  -- STOP: part 34; op 3: d=35 ["move", ["t", 8]] guard=[2, True] (law.go:112)
  refine RL.cast (d := 34) (v' := .bool true) rfl (rfl) ?_
  refine RL.move rfl rfl rfl rfl ?_
  refine RL.move rfl rfl rfl rfl ?_
  refine RL.bin rfl rfl rfl rfl rfl rfl ?_
  refine RL.pickT rfl rfl rfl rfl rfl ?_
  refine RL.move rfl rfl rfl rfl ?_
  -- STOP: part 39; op 8: d=40 ["move", ["t", 3]] guard=[7, True] (law.go:112)
  refine RL.cast (d := 39) (v' := .bool true) rfl (rfl) ?_
  refine RL.move rfl rfl rfl rfl ?_
  refine RL.fieldAddr fa_38_1 rfl rfl rfl rfl ?_
  refine RL.load Try.isAgg3 rfl rfl rfl rfl (by first | assumption | (apply RdI.rd; assumption) | (apply Rd.get; (solve | (repeat (first | exact List.Mem.head _ | apply List.Mem.tail))); assumption) | (apply Rd.getS; (solve | (repeat (first | exact List.Mem.head _ | apply List.Mem.tail))); assumption) | (apply Rd.getO; (solve | (repeat (first | exact List.Mem.head _ | apply List.Mem.tail))); assumption) | (apply Rd.getI; (solve | (repeat (first | exact List.Mem.head _ | apply List.Mem.tail))); assumption) | (apply Rd.cel; (solve | (repeat (first | exact List.Mem.head _ | apply List.Mem.tail))); exact rfl) | (apply Rd.celI; (solve | (repeat (first | exact List.Mem.head _ | apply List.Mem.tail))); exact rfl)) ?_
  refine RL.fieldAddr fa_38_2 rfl rfl rfl rfl ?_
  first | refine RL.loadM Try.isAgg35 Try.sizeOf35 rfl rfl rfl rfl (by assumption) ?_ | refine RL.loadA Try.isAgg35 Try.sizeOf35 rfl rfl rfl rfl (by first | assumption | (apply RdsI.rds; assumption)) (by first | rfl | assumption | (simp only [List.length_map]; assumption) | (simp only [List.length_map, List.length_replicate, hk]; done) | (simp; done)) ?_ | refine RL.loadW Try.isAgg35 Try.sizeOf35 rfl rfl rfl rfl (by (solve | (repeat (first | exact List.Mem.head _ | apply List.Mem.tail)))) (by first | rfl | assumption | (simp only [List.length_map]; assumption) | (simp only [List.length_map, List.length_replicate, hk]; done) | (simp; done)) ?_
  refine RL.callv (put_nil a.s a.k hk) Try.call14 rfl rfl rfl rfl (by repeat (first | exact Lend.nil | (refine Lend.inI ?_ ?_; (solve | (repeat (first | exact List.Mem.head _ | apply List.Mem.tail)))) | (refine Lend.inH ?_ ?_; (solve | (repeat (first | exact List.Mem.head _ | apply List.Mem.tail)))))) ?_
  refine RL.move rfl rfl rfl rfl ?_
  refine RL.bin rfl rfl rfl rfl rfl rfl ?_
  refine RL.pickT rfl rfl rfl rfl rfl ?_
  refine RL.move rfl rfl rfl rfl ?_
  -- STOP: part 49; op 18: d=50 ["fieldAddr", 38, ["t", 1], 1] guard=[17, True] (law.go:112)
  refine RL.cast (d := 49) (v' := .bool true) rfl (rfl) ?_
  refine RL.fieldAddr fa_38_1 rfl rfl rfl rfl ?_
  refine RL.load Try.isAgg3 rfl rfl rfl rfl (by first | assumption | (apply RdI.rd; assumption) | (apply Rd.get; (solve | (repeat (first | exact List.Mem.head _ | apply List.Mem.tail))); assumption) | (apply Rd.getS; (solve | (repeat (first | exact List.Mem.head _ | apply List.Mem.tail))); assumption) | (apply Rd.getO; (solve | (repeat (first | exact List.Mem.head _ | apply List.Mem.tail))); assumption) | (apply Rd.getI; (solve | (repeat (first | exact List.Mem.head _ | apply List.Mem.tail))); assumption) | (apply Rd.cel; (solve | (repeat (first | exact List.Mem.head _ | apply List.Mem.tail))); exact rfl) | (apply Rd.celI; (solve | (repeat (first | exact List.Mem.head _ | apply List.Mem.tail))); exact rfl)) ?_
  refine RL.fieldAddr fa_38_2 rfl rfl rfl rfl ?_
  first | refine RL.loadM Try.isAgg35 Try.sizeOf35 rfl rfl rfl rfl (by assumption) ?_ | refine RL.loadA Try.isAgg35 Try.sizeOf35 rfl rfl rfl rfl (by first | assumption | (apply RdsI.rds; assumption)) (by first | rfl | assumption | (simp only [List.length_map]; assumption) | (simp only [List.length_map, List.length_replicate, hk]; done) | (simp; done)) ?_ | refine RL.loadW Try.isAgg35 Try.sizeOf35 rfl rfl rfl rfl (by (solve | (repeat (first | exact List.Mem.head _ | apply List.Mem.tail)))) (by first | rfl | assumption | (simp only [List.length_map]; assumption) | (simp only [List.length_map, List.length_replicate, hk]; done) | (simp; done)) ?_
  refine RL.callv (put_zero b2 a.s a.k hk) Try.call14 rfl rfl rfl rfl (by repeat (first | exact Lend.nil | (refine Lend.inI ?_ ?_; (solve | (repeat (first | exact List.Mem.head _ | apply List.Mem.tail)))) | (refine Lend.inH ?_ ?_; (solve | (repeat (first | exact List.Mem.head _ | apply List.Mem.tail)))))) ?_
  refine RL.move rfl rfl rfl rfl ?_
  refine RL.bin rfl rfl rfl rfl rfl rfl ?_
  refine RL.pickT rfl rfl rfl rfl rfl ?_
  refine RL.move rfl rfl rfl rfl ?_
  -- STOP: part 58; op 27: d=59 ["move", ["t", 3]] guard=[26, True] (law.go:112)
  refine RL.cast (d := 58) (v' := .bool true) rfl (rfl) ?_
  refine RL.move rfl rfl rfl rfl ?_
  refine RL.fieldAddr fa_38_1 rfl rfl rfl rfl ?_
  refine RL.load Try.isAgg3 rfl rfl rfl rfl (by first | assumption | (apply RdI.rd; assumption) | (apply Rd.get; (solve | (repeat (first | exact List.Mem.head _ | apply List.Mem.tail))); assumption) | (apply Rd.getS; (solve | (repeat (first | exact List.Mem.head _ | apply List.Mem.tail))); assumption) | (apply Rd.getO; (solve | (repeat (first | exact List.Mem.head _ | apply List.Mem.tail))); assumption) | (apply Rd.getI; (solve | (repeat (first | exact List.Mem.head _ | apply List.Mem.tail))); assumption) | (apply Rd.cel; (solve | (repeat (first | exact List.Mem.head _ | apply List.Mem.tail))); exact rfl) | (apply Rd.celI; (solve | (repeat (first | exact List.Mem.head _ | apply List.Mem.tail))); exact rfl)) ?_
  refine RL.fieldAddr fa_38_3 rfl rfl rfl rfl ?_
  refine RL.load Try.isAgg31 rfl rfl rfl rfl (by first | assumption | (apply RdI.rd; assumption) | (apply Rd.get; (solve | (repeat (first | exact List.Mem.head _ | apply List.Mem.tail))); assumption) | (apply Rd.getS; (solve | (repeat (first | exact List.Mem.head _ | apply List.Mem.tail))); assumption) | (apply Rd.getO; (solve | (repeat (first | exact List.Mem.head _ | apply List.Mem.tail))); assumption) | (apply Rd.getI; (solve | (repeat (first | exact List.Mem.head _ | apply List.Mem.tail))); assumption) | (apply Rd.cel; (solve | (repeat (first | exact List.Mem.head _ | apply List.Mem.tail))); exact rfl) | (apply Rd.celI; (solve | (repeat (first | exact List.Mem.head _ | apply List.Mem.tail))); exact rfl)) ?_
  refine RL.fieldAddr fa_38_5 rfl rfl rfl rfl ?_
  refine RL.load Try.isAgg3 rfl rfl rfl rfl (by first | assumption | (apply RdI.rd; assumption) | (apply Rd.get; (solve | (repeat (first | exact List.Mem.head _ | apply List.Mem.tail))); assumption) | (apply Rd.getS; (solve | (repeat (first | exact List.Mem.head _ | apply List.Mem.tail))); assumption) | (apply Rd.getO; (solve | (repeat (first | exact List.Mem.head _ | apply List.Mem.tail))); assumption) | (apply Rd.getI; (solve | (repeat (first | exact List.Mem.head _ | apply List.Mem.tail))); assumption) | (apply Rd.cel; (solve | (repeat (first | exact List.Mem.head _ | apply List.Mem.tail))); exact rfl) | (apply Rd.celI; (solve | (repeat (first | exact List.Mem.head _ | apply List.Mem.tail))); exact rfl)) ?_
  refine RL.fieldAddr fa_38_6 rfl rfl rfl rfl ?_
  refine RL.load Try.isAgg3 rfl rfl rfl rfl (by first | assumption | (apply RdI.rd; assumption) | (apply Rd.get; (solve | (repeat (first | exact List.Mem.head _ | apply List.Mem.tail))); assumption) | (apply Rd.getS; (solve | (repeat (first | exact List.Mem.head _ | apply List.Mem.tail))); assumption) | (apply Rd.getO; (solve | (repeat (first | exact List.Mem.head _ | apply List.Mem.tail))); assumption) | (apply Rd.getI; (solve | (repeat (first | exact List.Mem.head _ | apply List.Mem.tail))); assumption) | (apply Rd.cel; (solve | (repeat (first | exact List.Mem.head _ | apply List.Mem.tail))); exact rfl) | (apply Rd.celI; (solve | (repeat (first | exact List.Mem.head _ | apply List.Mem.tail))); exact rfl)) ?_
  refine RL.callv (roll_nil a.s (a.e : Int) a.t a.g) Try.call49 rfl rfl rfl rfl (by repeat (first | exact Lend.nil | (refine Lend.inI ?_ ?_; (solve | (repeat (first | exact List.Mem.head _ | apply List.Mem.tail)))) | (refine Lend.inH ?_ ?_; (solve | (repeat (first | exact List.Mem.head _ | apply List.Mem.tail)))))) ?_
  refine RL.move rfl rfl rfl rfl ?_
  refine RL.bin rfl rfl rfl rfl rfl rfl ?_
  refine RL.pickT rfl rfl rfl rfl rfl ?_
  refine RL.move rfl rfl rfl rfl ?_
  -- STOP: part 72; op 41: d=73 ["fieldAddr", 38, ["t", 1], 1] guard=[40, True] (law.go:112)
  refine RL.cast (d := 72) (v' := .bool true) rfl (rfl) ?_
  refine RL.fieldAddr fa_38_1 rfl rfl rfl rfl ?_
  refine RL.load Try.isAgg3 rfl rfl rfl rfl (by first | assumption | (apply RdI.rd; assumption) | (apply Rd.get; (solve | (repeat (first | exact List.Mem.head _ | apply List.Mem.tail))); assumption) | (apply Rd.getS; (solve | (repeat (first | exact List.Mem.head _ | apply List.Mem.tail))); assumption) | (apply Rd.getO; (solve | (repeat (first | exact List.Mem.head _ | apply List.Mem.tail))); assumption) | (apply Rd.getI; (solve | (repeat (first | exact List.Mem.head _ | apply List.Mem.tail))); assumption) | (apply Rd.cel; (solve | (repeat (first | exact List.Mem.head _ | apply List.Mem.tail))); exact rfl) | (apply Rd.celI; (solve | (repeat (first | exact List.Mem.head _ | apply List.Mem.tail))); exact rfl)) ?_
  refine RL.fieldAddr fa_38_3 rfl rfl rfl rfl ?_
  refine RL.load Try.isAgg31 rfl rfl rfl rfl (by first | assumption | (apply RdI.rd; assumption) | (apply Rd.get; (solve | (repeat (first | exact List.Mem.head _ | apply List.Mem.tail))); assumption) | (apply Rd.getS; (solve | (repeat (first | exact List.Mem.head _ | apply List.Mem.tail))); assumption) | (apply Rd.getO; (solve | (repeat (first | exact List.Mem.head _ | apply List.Mem.tail))); assumption) | (apply Rd.getI; (solve | (repeat (first | exact List.Mem.head _ | apply List.Mem.tail))); assumption) | (apply Rd.cel; (solve | (repeat (first | exact List.Mem.head _ | apply List.Mem.tail))); exact rfl) | (apply Rd.celI; (solve | (repeat (first | exact List.Mem.head _ | apply List.Mem.tail))); exact rfl)) ?_
  refine RL.callv (raise_zero b2 a.s (a.e : Int)) Try.call50 rfl rfl rfl rfl (by repeat (first | exact Lend.nil | (refine Lend.inI ?_ ?_; (solve | (repeat (first | exact List.Mem.head _ | apply List.Mem.tail)))) | (refine Lend.inH ?_ ?_; (solve | (repeat (first | exact List.Mem.head _ | apply List.Mem.tail)))))) ?_
  refine RL.move rfl rfl rfl rfl ?_
  refine RL.bin rfl rfl rfl rfl rfl rfl ?_
  refine RL.pickT rfl rfl rfl rfl rfl ?_
  refine RL.move rfl rfl rfl rfl ?_
  -- STOP: part 81; op 50: d=82 ["move", ["t", 3]] guard=[49, True] (law.go:112)
  refine RL.cast (d := 81) (v' := .bool true) rfl (rfl) ?_
  refine RL.move rfl rfl rfl rfl ?_
  refine RL.fieldAddr fa_38_1 rfl rfl rfl rfl ?_
  refine RL.load Try.isAgg3 rfl rfl rfl rfl (by first | assumption | (apply RdI.rd; assumption) | (apply Rd.get; (solve | (repeat (first | exact List.Mem.head _ | apply List.Mem.tail))); assumption) | (apply Rd.getS; (solve | (repeat (first | exact List.Mem.head _ | apply List.Mem.tail))); assumption) | (apply Rd.getO; (solve | (repeat (first | exact List.Mem.head _ | apply List.Mem.tail))); assumption) | (apply Rd.getI; (solve | (repeat (first | exact List.Mem.head _ | apply List.Mem.tail))); assumption) | (apply Rd.cel; (solve | (repeat (first | exact List.Mem.head _ | apply List.Mem.tail))); exact rfl) | (apply Rd.celI; (solve | (repeat (first | exact List.Mem.head _ | apply List.Mem.tail))); exact rfl)) ?_
  refine RL.callv (epoch_nil a.s) Try.call17 rfl rfl rfl rfl (by repeat (first | exact Lend.nil | (refine Lend.inI ?_ ?_; (solve | (repeat (first | exact List.Mem.head _ | apply List.Mem.tail)))) | (refine Lend.inH ?_ ?_; (solve | (repeat (first | exact List.Mem.head _ | apply List.Mem.tail)))))) ?_
  refine RL.fieldAddr fa_38_1 rfl rfl rfl rfl ?_
  refine RL.load Try.isAgg3 rfl rfl rfl rfl (by first | assumption | (apply RdI.rd; assumption) | (apply Rd.get; (solve | (repeat (first | exact List.Mem.head _ | apply List.Mem.tail))); assumption) | (apply Rd.getS; (solve | (repeat (first | exact List.Mem.head _ | apply List.Mem.tail))); assumption) | (apply Rd.getO; (solve | (repeat (first | exact List.Mem.head _ | apply List.Mem.tail))); assumption) | (apply Rd.getI; (solve | (repeat (first | exact List.Mem.head _ | apply List.Mem.tail))); assumption) | (apply Rd.cel; (solve | (repeat (first | exact List.Mem.head _ | apply List.Mem.tail))); exact rfl) | (apply Rd.celI; (solve | (repeat (first | exact List.Mem.head _ | apply List.Mem.tail))); exact rfl)) ?_
  refine RL.callv (epoch_zero b2 a.s) Try.call17 rfl rfl rfl rfl (by repeat (first | exact Lend.nil | (refine Lend.inI ?_ ?_; (solve | (repeat (first | exact List.Mem.head _ | apply List.Mem.tail)))) | (refine Lend.inH ?_ ?_; (solve | (repeat (first | exact List.Mem.head _ | apply List.Mem.tail)))))) ?_
  refine RL.bin rfl rfl rfl rfl rfl rfl ?_
  refine RL.bin rfl rfl rfl rfl rfl rfl ?_
  refine RL.pickT rfl rfl rfl rfl rfl ?_
  refine RL.move rfl rfl rfl rfl ?_
  -- STOP: part 92; op 61: d=93 ["move", ["t", 3]] guard=[60, True] (law.go:112)
  refine RL.cast (d := 92) (v' := .bool true) rfl (rfl) ?_
  refine RL.move rfl rfl rfl rfl ?_
  refine RL.callv (sources_nil) Try.call47 rfl rfl rfl rfl (by repeat (first | exact Lend.nil | (refine Lend.inI ?_ ?_; (solve | (repeat (first | exact List.Mem.head _ | apply List.Mem.tail)))) | (refine Lend.inH ?_ ?_; (solve | (repeat (first | exact List.Mem.head _ | apply List.Mem.tail)))))) ?_
  refine RL.lenS Try.runUnderlying43 rfl rfl rfl rfl ?_
  refine RL.callv (sources_zero b2) Try.call47 rfl rfl rfl rfl (by repeat (first | exact Lend.nil | (refine Lend.inI ?_ ?_; (solve | (repeat (first | exact List.Mem.head _ | apply List.Mem.tail)))) | (refine Lend.inH ?_ ?_; (solve | (repeat (first | exact List.Mem.head _ | apply List.Mem.tail)))))) ?_
  refine RL.lenS Try.runUnderlying43 rfl rfl rfl rfl ?_
  refine RL.bin rfl rfl rfl rfl rfl rfl ?_
  refine RL.bin rfl rfl rfl rfl rfl rfl ?_
  refine RL.pickT rfl rfl rfl rfl rfl ?_
  refine RL.assign rfl rfl rfl rfl ?_
  refine RL.nil ?_
  refine NQ.seq ?_
  refine CW.only (.cons (k := 2) rfl .nil) ?_
  refine CW.ret ?_
  -- STOP: ret; end
  exact RQ.post (res1 rfl rfl) (Split.none _) ⟨rfl, rfl, rfl⟩
theorem keysVoid_call (W : World) (a : Act16) (ha : rAct16.ok a) (_ : ∀ y ∈ rAct16.its a, y.A W) :
    Calls Try.prog 8 #[rAct16.val a] W (fun e w' => e = .returned (.bool true) ∧ RowKit.Below W.heap.size W w') := (kvoid a ha).lawI (by simp)
end Go.Proofs.Ytkkfdoippibfkaa

namespace Go.Proofs.Ytkkfdoippibfkaa
open Go.PK

theorem RdI.sls {I : List It} {a : Addr} {n j : Nat} {l : List Int} {x : Int} (hm : sls (some a) 1 n (ints l) ∈ I) (h : l[j]? = some x) : RdI I (a.add (j * 1)) (.int .i64 x) := ⟨fun _ => by
  rw [Nat.mul_one]
  exact Rds.rd (Rds.sls hm) (by rw [List.getElem?_map, h]; rfl)⟩
theorem sameInts_any (p q : Option Addr) (c1 c2 : Nat) (a b : List Int) (ha : a.length ≤ maxLen) : Spc Try.prog 37 #[.slice p a.length c1, .slice q b.length c2] [sls p 1 a.length (ints a), sls q 1 b.length (ints b)] [] (Is (.bool (a == b))) := by
  have ha : a.length ≤ 9223372036854775807 := ha
  refine Spc.enter Try.func37 rfl rfl rfl (fun w0 hw0 => ?_)
  refine CW.seq ?_
  refine CW.region (ef := []) (bk := []) ?_
  refine RL.assign rfl rfl rfl rfl ?_
  refine RL.nil ?_
  refine NQ.seq ?_
  refine CW.seq ?_
  refine CW.seq ?_
  refine CW.region (ef := []) (bk := []) ?_
  refine RL.move rfl rfl rfl rfl ?_
  refine RL.lenS Try.runUnderlying43 rfl rfl rfl rfl ?_
  refine RL.move rfl rfl rfl rfl ?_
  refine RL.lenS Try.runUnderlying43 rfl rfl rfl rfl ?_
  refine RL.bin rfl rfl rfl rfl rfl rfl ?_
  refine RL.nil ?_
  refine NQ.seq ?_
  -- STOP: if; todo top: ["code", ["cond", ["t", 10], ["seq", ["region", 2, [{"d": 4, "op": ["assign", ["c", ["bool", false]]], "ty": 4, "pos": "base.go:20", "after": [], "guard": null}], false], ["ret"]], ["skip"]]]
  refine CW.cond rfl (fun hl => ?_) (fun hl => ?_)
  ·
    refine CW.seq ?_
    refine CW.region (ef := []) (bk := []) ?_
    refine RL.assign rfl rfl rfl rfl ?_
    refine RL.nil ?_
    refine NQ.seq ?_
    refine CW.ret ?_
    refine RQ.seq ?_
    -- STOP: ret; end
    have hl : a.length ≠ b.length := by simp at hl; omega
    have hne : (a == b) = false := by simp; intro h; exact hl (by rw [h])
    exact RQ.post (res1 rfl rfl) (Split.none _) ⟨by rw [hne], rfl, rfl⟩
  ·
    refine CW.skip ?_
    refine NQ.seq ?_
    refine CW.only (.cons (k := 0) rfl (.cons (k := 1) rfl .nil)) ?_
    refine CW.seq ?_
    refine CW.seq ?_
    refine CW.region (ef := []) (bk := []) ?_
    refine RL.assign rfl rfl rfl rfl ?_
    refine RL.nil ?_
    refine NQ.seq ?_
    refine CW.block ?_
    -- STOP: loop; todo top: ["code", ["loop", ["seq", ["seq", ["region", 4, [{"d": 11, "op": ["move", ["t", 5]], "ty": 3, "pos": "base.go:22", "after": [], "guard": null}, {"d": 12, "op": ["move", ["t", 0]], "ty": 43, "pos": "ba
    have hl : a.length = b.length := by simp at hl; omega
    refine CW.loop (γ := Nat) (fun i => i ≤ a.length ∧ a.take i = b.take i) (fun i => [(0, .slice p a.length c1), (1, .slice q b.length c2), (5, .int .i64 (i : Int))]) (fun _ => [sls p 1 a.length (ints a), sls q 1 b.length (ints b)]) (fun _ => []) (fun i => a.length - i) 0 ⟨by omega, by simp⟩ (.cons rfl (.cons rfl (.cons rfl .nil))) (fun w h => h) ?_
    rintro i ⟨hi, ht⟩
    refine CW.fact (p := (p = none → a.length = 0) ∧ (q = none → b.length = 0)) (fun w hC => ⟨fun e => sls_nil (hC.s.i (sls p 1 a.length (ints a)) (by repeat (first | exact List.Mem.head _ | apply List.Mem.tail))) e, fun e => sls_nil (hC.s.i (sls q 1 b.length (ints b)) (by repeat (first | exact List.Mem.head _ | apply List.Mem.tail))) e⟩) (fun ⟨hp, hq⟩ => ?_)
    refine CW.seq ?_
    refine CW.seq ?_
    refine CW.region (ef := []) (bk := []) ?_
    refine RL.move rfl rfl rfl rfl ?_
    refine RL.move rfl rfl rfl rfl ?_
    refine RL.lenS Try.runUnderlying43 rfl rfl rfl rfl ?_
    refine RL.bin rfl rfl rfl rfl rfl rfl ?_
    refine RL.nil ?_
    refine NQ.seq ?_
    -- STOP: if; todo top: ["code", ["cond", ["t", 14], ["skip"], ["exit", 0]]]
    refine CW.cond rfl (fun hlt => ?_) (fun hlt => ?_)
    ·
      have hlt : i < a.length := by simp at hlt; omega
      have hlb : i < b.length := by omega
      cases p with
      | none => exact absurd (hp rfl) (by omega)
      | some a' =>
      cases q with
      | none => exact absurd (hq rfl) (by omega)
      | some b' =>
      have f1 := RdI.sls (I := [sls (some a') 1 a.length (ints a), sls (some b') 1 b.length (ints b)]) (List.Mem.head _) (List.getElem?_eq_getElem hlt)
      have f2 := RdI.sls (I := [sls (some a') 1 a.length (ints a), sls (some b') 1 b.length (ints b)]) (List.Mem.tail _ (List.Mem.head _)) (List.getElem?_eq_getElem hlb)
      refine CW.skip ?_
      refine NQ.seq ?_
      refine CW.seq ?_
      refine CW.block ?_
      refine CW.seq ?_
      refine CW.regionD (Sq.of [0, 1, 2, 3, 4, 5, 6, 7, 8]) [] [] [0, 1, 2, 3, 4, 5, 6, 7, 8] mixed (by kernel_rfl) ?_
      refine RL.move rfl rfl rfl rfl ?_
      refine RL.move rfl rfl rfl rfl ?_
      first | refine RL.idxAt (j := i) Try.runUnderlying43 Try.sizeOf3 rfl rfl rfl rfl rfl rfl (by omega) ?_ | refine RL.idx (j := i) Try.runUnderlying43 Try.sizeOf3 rfl rfl rfl rfl rfl rfl (by omega) ?_
      refine RL.loadT Try.isAgg3 rfl rfl rfl rfl (by first | assumption | (apply RdI.rd; assumption) | (apply Rd.get; (solve | (repeat (first | exact List.Mem.head _ | apply List.Mem.tail))); assumption) | (apply Rd.getS; (solve | (repeat (first | exact List.Mem.head _ | apply List.Mem.tail))); assumption) | (apply Rd.getO; (solve | (repeat (first | exact List.Mem.head _ | apply List.Mem.tail))); assumption) | (apply Rd.getI; (solve | (repeat (first | exact List.Mem.head _ | apply List.Mem.tail))); assumption) | (apply Rd.cel; (solve | (repeat (first | exact List.Mem.head _ | apply List.Mem.tail))); exact rfl) | (apply Rd.celI; (solve | (repeat (first | exact List.Mem.head _ | apply List.Mem.tail))); exact rfl)) ?_
      refine RL.move rfl rfl rfl rfl ?_
      refine RL.move rfl rfl rfl rfl ?_
      first | refine RL.idxAt (j := i) Try.runUnderlying43 Try.sizeOf3 rfl rfl rfl rfl rfl rfl (by omega) ?_ | refine RL.idx (j := i) Try.runUnderlying43 Try.sizeOf3 rfl rfl rfl rfl rfl rfl (by omega) ?_
      refine RL.loadT Try.isAgg3 rfl rfl rfl rfl (by first | assumption | (apply RdI.rd; assumption) | (apply Rd.get; (solve | (repeat (first | exact List.Mem.head _ | apply List.Mem.tail))); assumption) | (apply Rd.getS; (solve | (repeat (first | exact List.Mem.head _ | apply List.Mem.tail))); assumption) | (apply Rd.getO; (solve | (repeat (first | exact List.Mem.head _ | apply List.Mem.tail))); assumption) | (apply Rd.getI; (solve | (repeat (first | exact List.Mem.head _ | apply List.Mem.tail))); assumption) | (apply Rd.cel; (solve | (repeat (first | exact List.Mem.head _ | apply List.Mem.tail))); exact rfl) | (apply Rd.celI; (solve | (repeat (first | exact List.Mem.head _ | apply List.Mem.tail))); exact rfl)) ?_
      refine RL.bin rfl rfl rfl rfl rfl rfl ?_
      refine RL.nil ?_
      refine NQ.seq ?_
      refine CW.only (.cons (k := 0) rfl (.cons (k := 1) rfl (.cons (k := 5) rfl (.cons (k := 25) rfl .nil)))) ?_
      -- STOP: if; todo top: ["code", ["cond", ["t", 25], ["seq", ["region", 7, [{"d": 4, "op": ["assign", ["c", ["bool", false]]], "ty": 4, "pos": "base.go:24", "after": [], "guard": null}], false], ["ret"]], ["skip"]]]
      refine CW.cond rfl (fun hx => ?_) (fun hx => ?_)
      ·
        refine CW.seq ?_
        refine CW.region (ef := []) (bk := []) ?_
        refine RL.assign rfl rfl rfl rfl ?_
        refine RL.nil ?_
        refine NQ.seq ?_
        refine CW.ret ?_
        refine RQ.block ?_
        refine RQ.seq ?_
        refine RQ.seq ?_
        refine RQ.block ?_
        refine RQ.seq ?_
        -- STOP: ret; end
        have hx : a[i] ≠ b[i] := by simpa using hx
        have hne : (a == b) = false := by
          simp only [beq_eq_false_iff_ne]; intro h; subst h; exact hx rfl
        exact RQ.post (res1 rfl rfl) (Split.none _) ⟨by rw [hne], rfl, rfl⟩
      ·
        refine CW.skip ?_
        refine NQ.block ?_
        refine NQ.seq ?_
        refine CW.region (ef := []) (bk := []) ?_
        refine RL.move rfl rfl rfl rfl ?_
        refine RL.binX rfl rfl rfl rfl rfl rfl (wrapV_i64 (by omega) (by omega)) ?_
        refine RL.assign rfl rfl rfl rfl ?_
        refine RL.nil ?_
        -- STOP: round; todo top: ["N"]
        have hx : a[i] = b[i] := by simpa using hx
        refine NQ.round (g := i) (i + 1) ⟨hlt, ?_⟩ (by omega) (.cons rfl (.cons rfl (.cons rfl .nil))) (fun w h => h)
        rw [List.take_succ_eq_append_getElem hlt, List.take_succ_eq_append_getElem hlb, ht, hx]
    ·
      refine CW.exit ?_
      refine XQ.seq ?_
      refine XQ.seq ?_
      refine XQ.hit ?_
      refine NQ.seq ?_
      refine CW.only .nil ?_
      refine CW.seq ?_
      refine CW.region (ef := []) (bk := []) ?_
      refine RL.assign rfl rfl rfl rfl ?_
      refine RL.nil ?_
      refine NQ.seq ?_
      refine CW.ret ?_
      -- STOP: ret; end
      have hin : i = a.length := by simp at hlt; omega
      have he : a = b := by
        rw [hin, List.take_length] at ht
        rw [ht, List.take_of_length_le (by omega)]
      exact RQ.post (res1 rfl rfl) (Split.none _) ⟨by rw [he]; simp, rfl, rfl⟩
end Go.Proofs.Ytkkfdoippibfkaa

namespace Go.Proofs.Ytkkfdoippibfkaa
open Go.PK

def rgoesB (o : One) (e : Nat) (t : Int) : Bool := e == o.e || (e + 1 == o.e && decide (0 < e) && decide (t ≤ o.g))
def rkeyM (R : List One) (s : Int) (e : Nat) (t : Int) : List B8 × Int := if tickB t = true ∧ mayB s = true then match atO R s with
  | none => (zeros, 5)
  | some o => if rgoesB o e t = true then (deriveK o.k epochL e, 0) else (zeros, 160) else (zeros, 2)
theorem Alike.key {T R : List One} (h : Alike T R) (s : Int) (e : Nat) (t : Int) : keyM T s e t = rkeyM R s e t := by
  rw [keyM, rkeyM]
  by_cases hm : tickB t = true ∧ mayB s = true
  · rw [if_pos hm, if_pos hm]
    cases ho : atO T s with
    | none => rw [h.non.2 ho]
    | some o =>
      obtain ⟨p, hp, hk, he, hg⟩ := h.som ho
      rw [hp]
      dsimp only
      have h1 := h.t.e1 o (atO_mem ho).1
      have h2 := h.g1 o (atO_mem ho).1
      have h3 := h.t.g o (atO_mem ho).1
      have ht : 0 ≤ t := by have := hm.1; simp [tickB] at this; omega
      have hb : goesB o e t = rgoesB p e t := by
        rw [Bool.eq_iff_iff]
        simp only [goesB, rgoesB, hasE, he, hg, Bool.and_eq_true, Bool.or_eq_true, Bool.not_eq_true', beq_iff_eq, decide_eq_true_eq, beq_eq_false_iff_ne]
        omega
      rw [hb, hk]
  · rw [if_neg hm, if_neg hm]
theorem rkeyM_len (R : List One) (s : Int) (e : Nat) (t : Int) : (rkeyM R s e t).1.length = 32 := by
  unfold rkeyM
  split
  · split
    · rfl
    · split
      · exact derive_len _ _ _
      · rfl
  · rfl
theorem rderive_w (k : List B8) (hk : k.length = 32) (lb : List B8) (hlb : lb.length ≤ 10000000) (n : Nat) (hn : n < 4294967296) :
    Spc Try.prog 101 #[.agg (bytes k).toArray, .string (txt lb), .int .u64 (IntKind.u64.wrap (n : Int))] [] [] (Is (.agg (bytes (deriveK k lb n)).toArray)) := by
  rw [show IntKind.u64.wrap (n : Int) = (n : Int) by simp [IntKind.wrap, IntKind.bits, IntKind.signed]; omega]
  exact rderive_any k hk lb hlb n (by omega)
theorem ones_of : ∀ {l : List Value}, (∀ u ∈ l, u.oneCell' = true) → ones l = true
  | [], _ => rfl
  | a :: l, h => by
    have h1 := h a (by simp)
    have h2 := ones_of (l := l) (fun u hu => h u (by simp [hu]))
    simp [ones, h1, h2]
theorem rc_k (o : One) : ∀ (j : Nat) (u : Value), (bytes o.k)[j]? = some u → o.rc[0 + 1 + j]? = some u := fun j u hj => by
  have hlt := (List.getElem?_eq_some_iff.1 hj).1
  rw [show 0 + 1 + j = j + 1 by omega, One.rc, List.getElem?_cons_succ, List.getElem?_append_left hlt]; exact hj
theorem rc_rdsN {I : List It} {R : List One} {ba cp i : Nat} {o : One} {e : TypeId} (h : ROk R) (hm : own (some ba) cp e 35 R.length (rcs R) ∈ I) (hi : R[i]? = some o) : RdsN I ⟨ba, 0 + i * 35, none⟩ 35 o.rc :=
  ⟨fun _ w hw j u hj => by
    have hlt : j < 35 := by have := (List.getElem?_eq_some_iff.1 hj).1; rwa [rc_len (h o (List.mem_of_getElem? hi))] at this
    have this : w.cell? ((⟨ba, 0, none⟩ : Addr).add (i * 35 + j)) = some u := (own_sls (hw.i _ hm)).2.2 (i * 35 + j) u (by have := rc_at h hi j u hj; rwa [Nat.zero_add] at this)
    rw [add_none] at this ⊢
    rw [Nat.add_assoc]; exact this, rc_len (h o (List.mem_of_getElem? hi))⟩
theorem rkey_any (y : Nat) (R : List One) (ob : Option Nat) (cp : Nat) (s : Int) (e : Nat) (t : Int) (hR : ROk R) (he1 : ∀ o ∈ R, 1 ≤ o.e) (he2 : ∀ o ∈ R, o.e < 4294967296) (he : e < 4294967296) (hl : R.length ≤ 1000000) :
    Spc Try.prog 46 #[.pointer (some ⟨y, 0, none⟩), .int .i64 s, .int .u32 (e : Int), .int .i64 t] (RefK y R ob cp) [] (Is (.tuple #[.agg (bytes (rkeyM R s e t).1).toArray, .int .i64 (rkeyM R s e t).2])) := by
  refine Spc.enter Try.func46 rfl rfl rfl (fun w0 hw0 => ?_)
  refine CW.seq ?_
  refine CW.region (ef := [0]) (bk := []) ?_
  refine RL.alloc (cs := List.replicate 32 (U8 0#8)) Try.zeroValue35 rfl rfl rfl rfl rfl ?_
  intro b1
  refine RL.assign rfl rfl rfl rfl ?_
  refine RL.nil ?_
  refine NQ.seq ?_
  refine CW.seq ?_
  refine CW.seq ?_
  refine CW.region (ef := []) (bk := []) ?_
  refine RL.move rfl rfl rfl rfl ?_
  refine RL.callv (rmay_any s) Try.call74 rfl rfl rfl rfl (by repeat (first | exact Lend.nil | (refine Lend.inI ?_ ?_; (solve | (repeat (first | exact List.Mem.head _ | apply List.Mem.tail)))) | (refine Lend.inH ?_ ?_; (solve | (repeat (first | exact List.Mem.head _ | apply List.Mem.tail)))))) ?_
  refine RL.not rfl rfl rfl rfl ?_
  refine RL.move rfl rfl rfl rfl ?_
  apply RL.orB (d := 15) (dp := 19) (l' := (Sq.of [])) rfl (.cons (k := 0) rfl (.cons (k := 1) rfl (.cons (k := 2) rfl (.cons (k := 3) rfl (.cons (k := 8) rfl (.cons (k := 9) rfl .nil))))))
  ·
    intro hb4 K4
    refine RL.move rfl rfl rfl rfl ?_
    refine RL.callv (rktick_any t) Try.call104 rfl rfl rfl rfl (by repeat (first | exact Lend.nil | (refine Lend.inI ?_ ?_; (solve | (repeat (first | exact List.Mem.head _ | apply List.Mem.tail)))) | (refine Lend.inH ?_ ?_; (solve | (repeat (first | exact List.Mem.head _ | apply List.Mem.tail)))))) ?_
    refine RL.not rfl rfl rfl rfl ?_
    refine RL.pickF rfl rfl rfl rfl rfl ?_
    exact K4 _ (.cons rfl (.cons (k := 0) rfl (.cons (k := 1) rfl (.cons (k := 2) rfl (.cons (k := 3) rfl (.cons (k := 8) rfl (.cons (k := 9) rfl .nil)))))))
  ·
    intro hb4 K4
    refine RL.skip rfl rfl rfl rfl ?_
    refine RL.skip rfl rfl rfl rfl ?_
    refine RL.skip rfl rfl rfl rfl ?_
    refine RL.pickT rfl rfl rfl rfl rfl ?_
    exact K4 _ (.cons rfl (.cons (k := 0) rfl (.cons (k := 1) rfl (.cons (k := 2) rfl (.cons (k := 3) rfl (.cons (k := 8) rfl (.cons (k := 9) rfl .nil)))))))
  refine RL.nil ?_
  refine NQ.seq ?_
  -- STOP: if; todo top: ["code", ["cond", ["t", 19], ["seq", ["region", 2, [{"d": 20, "op": ["build", 35, []], "ty": 35, "pos": "ref.go:69", "after": [], "guard": null}, {"d": null, "op": ["store", 35, ["t", 8], ["t", 20]], 
  refine CW.cond rfl (fun hm => ?_) (fun hm => ?_)
  ·
    refine CW.seq ?_
    refine CW.region (ef := [1]) (bk := [1]) ?_
    refine RL.buildA (List.replicate 32 (U8 0#8)) Try.zeroValue35 Try.runUnderlying35 Try.sizeOf5 rfl rfl rfl rfl rfl ?_
    refine RL.storeW Try.sizeOf35 rfl rfl rfl rfl rfl rfl rfl (by first | rfl | exact ones_map one8 _ | exact ones_map (fun _ => rfl) _) (by repeat (first | exact Upd.here | apply Upd.there)) (by first | rfl | assumption | (simp only [List.length_map]; assumption) | (simp only [List.length_map, List.length_replicate]; done) | (simp; done)) (by first | rfl | assumption | (simp only [List.length_map]; assumption) | (simp only [List.length_map, List.length_replicate]; done) | (simp; done)) ?_
    refine RL.assign rfl rfl rfl rfl ?_
    refine RL.nil ?_
    refine NQ.seq ?_
    refine CW.ret ?_
    refine RQ.seq ?_
    -- STOP: ret; end
    have hm : ¬ (tickB t = true ∧ mayB s = true) := by
      rintro ⟨e1, e2⟩; simp [e1, e2] at hm
    exact RQ.post (resWT rfl rfl rfl Try.isAgg35 Try.sizeOf35 (by repeat (first | exact List.Mem.head _ | apply List.Mem.tail)) rfl) (Split.none _) ⟨by rw [rkeyM, if_neg hm]; rfl, rfl, rfl⟩
  ·
    have hm : tickB t = true ∧ mayB s = true := by simp at hm; simp [hm]
    rcases atN_spec R s with ⟨h1, h2⟩ | ⟨i, o, h1, h2, h3⟩
    · have hat : atI R s = -1 := by rw [atI, h1]
      refine CW.skip ?_
      refine NQ.seq ?_
      refine CW.seq ?_
      refine CW.region (ef := []) (bk := []) ?_
      refine RL.move rfl rfl rfl rfl ?_
      refine RL.move rfl rfl rfl rfl ?_
      refine RL.callv (rat_any y R ob cp s hR hl) Try.call75 rfl rfl rfl rfl (by repeat (first | exact Lend.nil | (refine Lend.inI ?_ ?_; (solve | (repeat (first | exact List.Mem.head _ | apply List.Mem.tail)))) | (refine Lend.inH ?_ ?_; (solve | (repeat (first | exact List.Mem.head _ | apply List.Mem.tail)))))) ?_
      refine RL.assign rfl rfl rfl rfl ?_
      refine RL.nil ?_
      refine NQ.seq ?_
      refine CW.only (.cons (k := 0) rfl (.cons (k := 2) rfl (.cons (k := 3) rfl (.cons (k := 8) rfl (.cons (k := 10) rfl .nil))))) ?_
      refine CW.seq ?_
      refine CW.seq ?_
      -- STOP: region; todo top: ["code", ["region", 4, [{"d": 24, "op": ["move", ["t", 10]], "ty": 3, "pos": "ref.go:72", "after": [], "guard": null}, {"d": 25, "op": ["binOp", "Go.BinOp.lss", 3, ["t", 24], ["c", ["int", "Go.IntKind
      rw [hat]
      refine CW.region (ef := []) (bk := []) ?_
      refine RL.move rfl rfl rfl rfl ?_
      refine RL.bin rfl rfl rfl rfl rfl rfl ?_
      refine RL.nil ?_
      refine NQ.seq ?_
      -- STOP: if; todo top: ["code", ["cond", ["t", 25], ["seq", ["region", 5, [{"d": 26, "op": ["build", 35, []], "ty": 35, "pos": "ref.go:73", "after": [], "guard": null}, {"d": null, "op": ["store", 35, ["t", 8], ["t", 26]], 
      refine CW.condT rfl ((by simp)) ?_
      refine CW.seq ?_
      refine CW.region (ef := [1]) (bk := [1]) ?_
      refine RL.buildA (List.replicate 32 (U8 0#8)) Try.zeroValue35 Try.runUnderlying35 Try.sizeOf5 rfl rfl rfl rfl rfl ?_
      refine RL.storeW Try.sizeOf35 rfl rfl rfl rfl rfl rfl rfl (by first | rfl | exact ones_map one8 _ | exact ones_map (fun _ => rfl) _) (by repeat (first | exact Upd.here | apply Upd.there)) (by first | rfl | assumption | (simp only [List.length_map]; assumption) | (simp only [List.length_map, List.length_replicate]; done) | (simp; done)) (by first | rfl | assumption | (simp only [List.length_map]; assumption) | (simp only [List.length_map, List.length_replicate]; done) | (simp; done)) ?_
      refine RL.assign rfl rfl rfl rfl ?_
      refine RL.nil ?_
      refine NQ.seq ?_
      refine CW.ret ?_
      refine RQ.seq ?_
      -- STOP: ret; end
      exact RQ.post (resWT rfl rfl rfl Try.isAgg35 Try.sizeOf35 (by repeat (first | exact List.Mem.head _ | apply List.Mem.tail)) rfl) (Split.none _) ⟨by rw [rkeyM, if_pos hm, h2]; rfl, rfl, rfl⟩
    ·
      have hat : atI R s = (i : Int) := by rw [atI, h1]
      have hlt : i < R.length := (List.getElem?_eq_some_iff.1 h2).1
      have hmo := List.mem_of_getElem? h2
      have hk := hR o hmo
      have hrl := rc_len hk
      have hdl := derive_len o.k epochL e
      refine CW.fact (p := ob = none → R.length = 0) (fun w hC e => by
        have := own_sls (hC.s.i (own ob cp 172 35 R.length (rcs R)) (by repeat (first | exact List.Mem.head _ | apply List.Mem.tail)))
        exact sls_nil this (by rw [e]; rfl)) (fun hpa => ?_)
      refine CW.skip ?_
      refine NQ.seq ?_
      refine CW.seq ?_
      refine CW.region (ef := []) (bk := []) ?_
      refine RL.move rfl rfl rfl rfl ?_
      refine RL.move rfl rfl rfl rfl ?_
      refine RL.callv (rat_any y R ob cp s hR hl) Try.call75 rfl rfl rfl rfl (by repeat (first | exact Lend.nil | (refine Lend.inI ?_ ?_; (solve | (repeat (first | exact List.Mem.head _ | apply List.Mem.tail)))) | (refine Lend.inH ?_ ?_; (solve | (repeat (first | exact List.Mem.head _ | apply List.Mem.tail)))))) ?_
      refine RL.assign rfl rfl rfl rfl ?_
      refine RL.nil ?_
      refine NQ.seq ?_
      refine CW.only (.cons (k := 0) rfl (.cons (k := 2) rfl (.cons (k := 3) rfl (.cons (k := 8) rfl (.cons (k := 10) rfl .nil))))) ?_
      refine CW.seq ?_
      refine CW.seq ?_
      -- STOP: region; todo top: ["code", ["region", 4, [{"d": 24, "op": ["move", ["t", 10]], "ty": 3, "pos": "ref.go:72", "after": [], "guard": null}, {"d": 25, "op": ["binOp", "Go.BinOp.lss", 3, ["t", 24], ["c", ["int", "Go.IntKind
      rw [hat]
      cases ob with
      | none => exact absurd (hpa rfl) (by omega)
      | some ba =>
      have q : RdsN (RefK y R (some ba) cp) ⟨ba, 0 + i * 35, none⟩ 35 o.rc := rc_rdsN hR (show own (some ba) cp 172 35 R.length (rcs R) ∈ RefK y R (some ba) cp from (by repeat (first | exact List.Mem.head _ | apply List.Mem.tail))) h2
      have hw : IntKind.u32.wrap ((o.e : Int) - 1) = ((o.e - 1 : Nat) : Int) := u32_back (k := 1) (he2 o hmo) (he1 o hmo)
      have h1e := he1 o hmo
      have g1 : o.rc[0 + 33]? = some (.int .u32 (o.e : Int)) := rc_e hk
      have g2 : o.rc[0 + 34]? = some (.int .i64 o.g) := rc_g hk
      refine CW.region (ef := []) (bk := []) ?_
      refine RL.move rfl rfl rfl rfl ?_
      refine RL.bin rfl rfl rfl rfl rfl rfl ?_
      refine RL.nil ?_
      refine NQ.seq ?_
      -- STOP: if; todo top: ["code", ["cond", ["t", 25], ["seq", ["region", 5, [{"d": 26, "op": ["build", 35, []], "ty": 35, "pos": "ref.go:73", "after": [], "guard": null}, {"d": null, "op": ["store", 35, ["t", 8], ["t", 26]], 
      refine CW.condF rfl ((by simp)) ?_
      refine CW.skip ?_
      refine NQ.seq ?_
      refine CW.seq ?_
      refine CW.region (ef := [7, 8]) (bk := [8]) ?_
      refine RL.move rfl rfl rfl rfl ?_
      refine RL.nilCheck rfl rfl rfl rfl ?_
      refine RL.fieldAddr fa_29_0 rfl rfl rfl rfl ?_
      refine RL.load Try.isAgg27 rfl rfl rfl rfl (by first | assumption | (apply RdI.rd; assumption) | (apply Rd.get; (solve | (repeat (first | exact List.Mem.head _ | apply List.Mem.tail))); assumption) | (apply Rd.getS; (solve | (repeat (first | exact List.Mem.head _ | apply List.Mem.tail))); assumption) | (apply Rd.getO; (solve | (repeat (first | exact List.Mem.head _ | apply List.Mem.tail))); assumption) | (apply Rd.getI; (solve | (repeat (first | exact List.Mem.head _ | apply List.Mem.tail))); assumption) | (apply Rd.cel; (solve | (repeat (first | exact List.Mem.head _ | apply List.Mem.tail))); exact rfl) | (apply Rd.celI; (solve | (repeat (first | exact List.Mem.head _ | apply List.Mem.tail))); exact rfl)) ?_
      refine RL.move rfl rfl rfl rfl ?_
      refine RL.idxAt (j := i) Try.runUnderlying27 Try.sizeOf172 rfl rfl rfl rfl rfl rfl (hlt) ?_
      first | refine RL.loadM Try.isAgg172 Try.sizeOf172 rfl rfl rfl rfl (by assumption) ?_ | refine RL.loadA Try.isAgg172 Try.sizeOf172 rfl rfl rfl rfl (by first | assumption | (apply RdsI.rds; assumption)) (by first | rfl | assumption | (simp only [List.length_map]; assumption) | (simp only [List.length_map, List.length_replicate, hrl, hdl]; done) | (simp; done)) ?_ | refine RL.loadW Try.isAgg172 Try.sizeOf172 rfl rfl rfl rfl (by (solve | (repeat (first | exact List.Mem.head _ | apply List.Mem.tail)))) (by first | rfl | assumption | (simp only [List.length_map]; assumption) | (simp only [List.length_map, List.length_replicate, hrl, hdl]; done) | (simp; done)) ?_
      refine RL.alloc Try.zeroValue172 rfl rfl rfl rfl rfl ?_
      intro b2
      -- STOP: op; op 8: d=None ["store", 172, ["t", 11], ["t", 33]] guard=None (ref.go:75)
      refine RL.storeW Try.sizeOf172 rfl rfl rfl rfl rfl rfl rfl (ones_of (ones_rc o)) (by repeat (first | exact Upd.here | apply Upd.there)) hrl rfl ?_
      refine RL.nil ?_
      refine NQ.seq ?_
      refine CW.only (.cons (k := 2) rfl (.cons (k := 3) rfl (.cons (k := 8) rfl (.cons (k := 11) rfl .nil)))) ?_
      refine CW.seq ?_
      refine CW.seq ?_
      refine CW.region (ef := []) (bk := []) ?_
      refine RL.move rfl rfl rfl rfl ?_
      refine RL.fieldAddr fa_172_2 rfl rfl rfl rfl ?_
      refine RL.load Try.isAgg31 rfl rfl rfl rfl (by first | assumption | (apply RdI.rd; assumption) | (apply Rd.get; (solve | (repeat (first | exact List.Mem.head _ | apply List.Mem.tail))); assumption) | (apply Rd.getS; (solve | (repeat (first | exact List.Mem.head _ | apply List.Mem.tail))); assumption) | (apply Rd.getO; (solve | (repeat (first | exact List.Mem.head _ | apply List.Mem.tail))); assumption) | (apply Rd.getI; (solve | (repeat (first | exact List.Mem.head _ | apply List.Mem.tail))); assumption) | (apply Rd.cel; (solve | (repeat (first | exact List.Mem.head _ | apply List.Mem.tail))); exact rfl) | (apply Rd.celI; (solve | (repeat (first | exact List.Mem.head _ | apply List.Mem.tail))); exact rfl)) ?_
      refine RL.bin rfl rfl rfl rfl rfl rfl ?_
      refine RL.move rfl rfl rfl rfl ?_
      apply RL.orB (d := 38) (dp := 54) (l' := (Sq.of [])) rfl (.cons (k := 2) rfl (.cons (k := 8) rfl (.cons (k := 11) rfl .nil)))
      ·
        intro hb5 K5
        refine RL.move rfl rfl rfl rfl ?_
        refine RL.fieldAddr fa_172_2 rfl rfl rfl rfl ?_
        refine RL.load Try.isAgg31 rfl rfl rfl rfl (by first | assumption | (apply RdI.rd; assumption) | (apply Rd.get; (solve | (repeat (first | exact List.Mem.head _ | apply List.Mem.tail))); assumption) | (apply Rd.getS; (solve | (repeat (first | exact List.Mem.head _ | apply List.Mem.tail))); assumption) | (apply Rd.getO; (solve | (repeat (first | exact List.Mem.head _ | apply List.Mem.tail))); assumption) | (apply Rd.getI; (solve | (repeat (first | exact List.Mem.head _ | apply List.Mem.tail))); assumption) | (apply Rd.cel; (solve | (repeat (first | exact List.Mem.head _ | apply List.Mem.tail))); exact rfl) | (apply Rd.celI; (solve | (repeat (first | exact List.Mem.head _ | apply List.Mem.tail))); exact rfl)) ?_
        refine RL.bin rfl rfl rfl rfl rfl rfl ?_
        refine RL.bin rfl rfl rfl rfl rfl rfl ?_
        refine RL.move rfl rfl rfl rfl ?_
        apply RL.andB (d := 44) (dp := 47) (l' := (Sq.of [14, 15, 16, 17, 18, 19, 20])) rfl (.cons (k := 2) rfl (.cons (k := 3) rfl (.cons (k := 8) rfl (.cons (k := 11) rfl (.cons (k := 38) rfl .nil)))))
        ·
          intro hb11 K11
          refine RL.move rfl rfl rfl rfl ?_
          refine RL.bin rfl rfl rfl rfl rfl rfl ?_
          refine RL.pickT rfl rfl rfl rfl rfl ?_
          exact K11 _ (.cons rfl (.cons (k := 2) rfl (.cons (k := 3) rfl (.cons (k := 8) rfl (.cons (k := 11) rfl (.cons (k := 38) rfl .nil))))))
        ·
          intro hb11 K11
          refine RL.skip rfl rfl rfl rfl ?_
          refine RL.skip rfl rfl rfl rfl ?_
          refine RL.pickF rfl rfl rfl rfl rfl ?_
          exact K11 _ (.cons rfl (.cons (k := 2) rfl (.cons (k := 3) rfl (.cons (k := 8) rfl (.cons (k := 11) rfl (.cons (k := 38) rfl .nil))))))
        refine RL.move rfl rfl rfl rfl ?_
        apply RL.andB (d := 48) (dp := 53) (l' := (Sq.of [20])) rfl (.cons (k := 2) rfl (.cons (k := 8) rfl (.cons (k := 11) rfl (.cons (k := 38) rfl .nil))))
        ·
          intro hb15 K15
          refine RL.move rfl rfl rfl rfl ?_
          refine RL.fieldAddr fa_172_3 rfl rfl rfl rfl ?_
          refine RL.load Try.isAgg3 rfl rfl rfl rfl (by first | assumption | (apply RdI.rd; assumption) | (apply Rd.get; (solve | (repeat (first | exact List.Mem.head _ | apply List.Mem.tail))); assumption) | (apply Rd.getS; (solve | (repeat (first | exact List.Mem.head _ | apply List.Mem.tail))); assumption) | (apply Rd.getO; (solve | (repeat (first | exact List.Mem.head _ | apply List.Mem.tail))); assumption) | (apply Rd.getI; (solve | (repeat (first | exact List.Mem.head _ | apply List.Mem.tail))); assumption) | (apply Rd.cel; (solve | (repeat (first | exact List.Mem.head _ | apply List.Mem.tail))); exact rfl) | (apply Rd.celI; (solve | (repeat (first | exact List.Mem.head _ | apply List.Mem.tail))); exact rfl)) ?_
          refine RL.bin rfl rfl rfl rfl rfl rfl ?_
          refine RL.pickT rfl rfl rfl rfl rfl ?_
          exact K15 _ (.cons rfl (.cons (k := 2) rfl (.cons (k := 8) rfl (.cons (k := 11) rfl (.cons (k := 38) rfl .nil)))))
        ·
          intro hb15 K15
          refine RL.skip rfl rfl rfl rfl ?_
          refine RL.skip rfl rfl rfl rfl ?_
          refine RL.skip rfl rfl rfl rfl ?_
          refine RL.skip rfl rfl rfl rfl ?_
          refine RL.pickF rfl rfl rfl rfl rfl ?_
          exact K15 _ (.cons rfl (.cons (k := 2) rfl (.cons (k := 8) rfl (.cons (k := 11) rfl (.cons (k := 38) rfl .nil)))))
        refine RL.pickF rfl rfl rfl rfl rfl ?_
        exact K5 _ (.cons rfl (.cons (k := 2) rfl (.cons (k := 8) rfl (.cons (k := 11) rfl .nil))))
      ·
        intro hb5 K5
        refine RL.skip rfl rfl rfl rfl ?_
        refine RL.skip rfl rfl rfl rfl ?_
        refine RL.skip rfl rfl rfl rfl ?_
        refine RL.skip rfl rfl rfl rfl ?_
        refine RL.skip rfl rfl rfl rfl ?_
        refine RL.skip rfl rfl rfl rfl ?_
        refine RL.skip rfl rfl rfl rfl ?_
        refine RL.skip rfl rfl rfl rfl ?_
        refine RL.skip rfl rfl rfl rfl ?_
        refine RL.skip rfl rfl rfl rfl ?_
        refine RL.skip rfl rfl rfl rfl ?_
        refine RL.skip rfl rfl rfl rfl ?_
        refine RL.skip rfl rfl rfl rfl ?_
        refine RL.skip rfl rfl rfl rfl ?_
        refine RL.skip rfl rfl rfl rfl ?_
        refine RL.pickT rfl rfl rfl rfl rfl ?_
        exact K5 _ (.cons rfl (.cons (k := 2) rfl (.cons (k := 8) rfl (.cons (k := 11) rfl .nil))))
      refine RL.nil ?_
      refine NQ.seq ?_
      -- STOP: if; todo top: ["code", ["cond", ["t", 54], ["seq", ["region", 8, [{"d": 55, "op": ["fieldAddr", 172, ["t", 11], 1], "ty": 0, "pos": "ref.go:77", "after": [], "guard": null}, {"d": 56, "op": ["load", 35, ["t", 55]],
      rw [hw]
      refine CW.cond rfl (fun hg => ?_) (fun hg => ?_)
      ·
        refine CW.seq ?_
        refine CW.region (ef := [5]) (bk := [5]) ?_
        refine RL.fieldAddr fa_172_1 rfl rfl rfl rfl ?_
        -- STOP: op; op 1: d=56 ["load", 35, ["t", 55]] guard=None (ref.go:77)
        have hg : rgoesB o e t = true := by simp [rgoesB] at hg ⊢; omega
        refine RL.loadA Try.isAgg35 Try.sizeOf35 rfl rfl rfl rfl (vs := bytes o.k) (Rds.cel (by repeat (first | exact List.Mem.head _ | apply List.Mem.tail)) (rc_k o)) (by rw [List.length_map, hk]) ?_
        refine RL.move rfl rfl rfl rfl ?_
        refine RL.conv Try.runUnderlying31 Try.runUnderlying50 rfl rfl rfl rfl ?_
        refine RL.callv (rderive_w o.k hk epochL (by decide) e he) Try.call101 rfl rfl rfl rfl (by repeat (first | exact Lend.nil | (refine Lend.inI ?_ ?_; (solve | (repeat (first | exact List.Mem.head _ | apply List.Mem.tail)))) | (refine Lend.inH ?_ ?_; (solve | (repeat (first | exact List.Mem.head _ | apply List.Mem.tail)))))) ?_
        refine RL.storeW Try.sizeOf35 rfl rfl rfl rfl rfl rfl rfl (by first | rfl | exact ones_map one8 _ | exact ones_map (fun _ => rfl) _) (by repeat (first | exact Upd.here | apply Upd.there)) (by first | rfl | assumption | (simp only [List.length_map]; assumption) | (simp only [List.length_map, List.length_replicate, hrl, hdl]; done) | (simp; done)) (by first | rfl | assumption | (simp only [List.length_map]; assumption) | (simp only [List.length_map, List.length_replicate, hrl, hdl]; done) | (simp; done)) ?_
        refine RL.assign rfl rfl rfl rfl ?_
        refine RL.nil ?_
        refine NQ.seq ?_
        refine CW.only (.cons (k := 8) rfl (.cons (k := 9) rfl .nil)) ?_
        refine CW.ret ?_
        refine RQ.seq ?_
        -- STOP: ret; end
        exact RQ.post (resWT rfl rfl rfl Try.isAgg35 Try.sizeOf35 (by repeat (first | exact List.Mem.head _ | apply List.Mem.tail)) (by first | rfl | assumption | (simp only [List.length_map]; assumption) | (simp only [List.length_map, List.length_replicate, hrl, hdl]; done) | (simp; done))) (Split.none _) ⟨by rw [rkeyM, if_pos hm, h3]; dsimp only; rw [if_pos hg], rfl, rfl⟩
      ·
        refine CW.skip ?_
        refine NQ.seq ?_
        refine CW.seq ?_
        refine CW.region (ef := [1]) (bk := [1]) ?_
        refine RL.buildA (List.replicate 32 (U8 0#8)) Try.zeroValue35 Try.runUnderlying35 Try.sizeOf5 rfl rfl rfl rfl rfl ?_
        refine RL.storeW Try.sizeOf35 rfl rfl rfl rfl rfl rfl rfl (by first | rfl | exact ones_map one8 _ | exact ones_map (fun _ => rfl) _) (by repeat (first | exact Upd.here | apply Upd.there)) (by first | rfl | assumption | (simp only [List.length_map]; assumption) | (simp only [List.length_map, List.length_replicate, hrl, hdl]; done) | (simp; done)) (by first | rfl | assumption | (simp only [List.length_map]; assumption) | (simp only [List.length_map, List.length_replicate, hrl, hdl]; done) | (simp; done)) ?_
        refine RL.assign rfl rfl rfl rfl ?_
        refine RL.nil ?_
        refine NQ.seq ?_
        refine CW.ret ?_
        -- STOP: ret; end
        have hg : ¬ rgoesB o e t = true := by simp [rgoesB] at hg ⊢; omega
        exact RQ.post (resWT rfl rfl rfl Try.isAgg35 Try.sizeOf35 (by repeat (first | exact List.Mem.head _ | apply List.Mem.tail)) rfl) (Split.none _) ⟨by rw [rkeyM, if_pos hm, h3]; dsimp only; rw [if_neg hg]; rfl, rfl, rfl⟩
def srcR (R : List One) : List Int := R.map fun o => (o.s : Int)
def RSrcR (y : Nat) (R : List One) : Value → List It → List It → Prop := fun v I' H' => ∃ ob cp, v = slO ob R.length cp ∧ I' = [] ∧ H' = [own ob cp 3 1 R.length (ints (srcR R))]
theorem rsources_any (y : Nat) (R : List One) (ob : Option Nat) (cp : Nat) (hR : ROk R) (hl : R.length ≤ 1000000) :
    Spc Try.prog 48 #[.pointer (some ⟨y, 0, none⟩)] (RefK y R ob cp) [] (RSrcR y R) := by
  refine Spc.enter Try.func48 rfl rfl rfl (fun w0 hw0 => ?_)
  refine CW.seq ?_
  refine CW.region (ef := []) (bk := []) ?_
  refine RL.assign rfl rfl rfl rfl ?_
  refine RL.nil ?_
  refine NQ.seq ?_
  refine CW.seq ?_
  refine CW.region (ef := [0]) (bk := []) ?_
  refine RL.buildOwn [] Try.runUnderlying43 Try.sizeOf3 Try.zeroValue3 rfl rfl (by decide) (by decide) rfl (by decide) rfl rfl rfl rfl rfl rfl ?_
  intro b1
  refine RL.assign rfl rfl rfl rfl ?_
  refine RL.nil ?_
  refine NQ.seq ?_
  refine CW.seq ?_
  refine CW.seq ?_
  refine CW.region (ef := []) (bk := []) ?_
  refine RL.assign rfl rfl rfl rfl ?_
  refine RL.nil ?_
  refine NQ.seq ?_
  refine CW.block ?_
  -- STOP: loop; todo top: ["code", ["loop", ["seq", ["seq", ["region", 3, [{"d": 6, "op": ["move", ["t", 4]], "ty": 3, "pos": "ref.go:112", "after": [], "guard": null}, {"d": 7, "op": ["move", ["t", 0]], "ty": 26, "pos": "ref.
  refine CW.loop (γ := Nat × Option Nat × Nat) (fun g => g.1 ≤ R.length) (fun g => [(0, .pointer (some ⟨y, 0, none⟩)), (3, slO g.2.1 g.1 g.2.2), (4, .int .i64 (g.1 : Int))]) (fun _ => RefK y R ob cp) (fun g => [own g.2.1 g.2.2 3 1 g.1 (ints (srcR (R.take g.1)))]) (fun g => R.length - g.1) (0, some b1, 0) (by simp) (.cons rfl (.cons rfl (.cons rfl .nil))) (fun _ h => h) ?_
  rintro ⟨i, o2, c2⟩ hi
  dsimp only at hi ⊢
  refine CW.fact (p := ob = none → R.length = 0) (fun w hC e => by
    have := own_sls (hC.s.i (own ob cp 172 35 R.length (rcs R)) (by repeat (first | exact List.Mem.head _ | apply List.Mem.tail)))
    exact sls_nil this (by rw [e]; rfl)) (fun hpa => ?_)
  refine CW.seq ?_
  refine CW.seq ?_
  refine CW.region (ef := []) (bk := []) ?_
  refine RL.move rfl rfl rfl rfl ?_
  refine RL.move rfl rfl rfl rfl ?_
  refine RL.nilCheck rfl rfl rfl rfl ?_
  refine RL.fieldAddr fa_29_0 rfl rfl rfl rfl ?_
  refine RL.load Try.isAgg27 rfl rfl rfl rfl (by first | assumption | (apply RdI.rd; assumption) | (apply Rd.get; (solve | (repeat (first | exact List.Mem.head _ | apply List.Mem.tail))); assumption) | (apply Rd.getS; (solve | (repeat (first | exact List.Mem.head _ | apply List.Mem.tail))); assumption) | (apply Rd.getO; (solve | (repeat (first | exact List.Mem.head _ | apply List.Mem.tail))); assumption) | (apply Rd.getI; (solve | (repeat (first | exact List.Mem.head _ | apply List.Mem.tail))); assumption) | (apply Rd.cel; (solve | (repeat (first | exact List.Mem.head _ | apply List.Mem.tail))); exact rfl) | (apply Rd.celI; (solve | (repeat (first | exact List.Mem.head _ | apply List.Mem.tail))); exact rfl)) ?_
  refine RL.lenS Try.runUnderlying27 rfl rfl rfl rfl ?_
  refine RL.bin rfl rfl rfl rfl rfl rfl ?_
  refine RL.nil ?_
  refine NQ.seq ?_
  refine CW.only (.cons (k := 0) rfl (.cons (k := 3) rfl (.cons (k := 4) rfl (.cons (k := 12) rfl .nil)))) ?_
  -- STOP: if; todo top: ["code", ["cond", ["t", 12], ["skip"], ["exit", 0]]]
  refine CW.cond rfl (fun hlt => ?_) (fun hlt => ?_)
  ·
    have hlt : i < R.length := by simp at hlt; omega
    cases ob with
    | none => exact absurd (hpa rfl) (by omega)
    | some ba =>
    have hx := List.getElem?_eq_getElem hlt
    have htk := List.take_succ_eq_append_getElem hlt
    generalize R[i] = o at hx htk
    have q : RdI (RefK y R (some ba) cp) ⟨ba, 0 + i * 35 + 0, none⟩ (.int .i64 (o.s : Int)) := rc_rd hR (show own (some ba) cp 172 35 R.length (rcs R) ∈ RefK y R (some ba) cp from (by repeat (first | exact List.Mem.head _ | apply List.Mem.tail))) hx (rc_s o)
    refine CW.skip ?_
    refine NQ.seq ?_
    refine CW.seq ?_
    refine CW.block ?_
    refine CW.region (ef := [9, 10]) (bk := [10]) ?_
    refine RL.move rfl rfl rfl rfl ?_
    refine RL.move rfl rfl rfl rfl ?_
    refine RL.nilCheck rfl rfl rfl rfl ?_
    refine RL.fieldAddr fa_29_0 rfl rfl rfl rfl ?_
    refine RL.load Try.isAgg27 rfl rfl rfl rfl (by first | assumption | (apply RdI.rd; assumption) | (apply Rd.get; (solve | (repeat (first | exact List.Mem.head _ | apply List.Mem.tail))); assumption) | (apply Rd.getS; (solve | (repeat (first | exact List.Mem.head _ | apply List.Mem.tail))); assumption) | (apply Rd.getO; (solve | (repeat (first | exact List.Mem.head _ | apply List.Mem.tail))); assumption) | (apply Rd.getI; (solve | (repeat (first | exact List.Mem.head _ | apply List.Mem.tail))); assumption) | (apply Rd.cel; (solve | (repeat (first | exact List.Mem.head _ | apply List.Mem.tail))); exact rfl) | (apply Rd.celI; (solve | (repeat (first | exact List.Mem.head _ | apply List.Mem.tail))); exact rfl)) ?_
    refine RL.move rfl rfl rfl rfl ?_
    refine RL.idxAt (j := i) Try.runUnderlying27 Try.sizeOf172 rfl rfl rfl rfl rfl rfl (hlt) ?_
    refine RL.fieldAddr fa_172_0 rfl rfl rfl rfl ?_
    refine RL.load Try.isAgg3 rfl rfl rfl rfl (by first | assumption | (apply RdI.rd; assumption) | (apply Rd.get; (solve | (repeat (first | exact List.Mem.head _ | apply List.Mem.tail))); assumption) | (apply Rd.getS; (solve | (repeat (first | exact List.Mem.head _ | apply List.Mem.tail))); assumption) | (apply Rd.getO; (solve | (repeat (first | exact List.Mem.head _ | apply List.Mem.tail))); assumption) | (apply Rd.getI; (solve | (repeat (first | exact List.Mem.head _ | apply List.Mem.tail))); assumption) | (apply Rd.cel; (solve | (repeat (first | exact List.Mem.head _ | apply List.Mem.tail))); exact rfl) | (apply Rd.celI; (solve | (repeat (first | exact List.Mem.head _ | apply List.Mem.tail))); exact rfl)) ?_
    refine RL.buildSlice [_] Try.runUnderlying43 Try.sizeOf3 Try.zeroValue3 rfl rfl (by decide) (by decide) rfl rfl rfl rfl rfl rfl ?_
    intro b2
    refine RL.appendA el_43 rfl rfl rfl rfl rfl rfl rfl (by first | exact ⟨(.take (Pick.none _)), rfl⟩ | exact ⟨(.leave (.take (Pick.none _))), rfl⟩ | exact ⟨(.leave (.leave (.take (Pick.none _)))), rfl⟩ | exact ⟨(.leave (.leave (.leave (.take (Pick.none _))))), rfl⟩ | exact ⟨(.leave (.leave (.leave (.leave (.take (Pick.none _)))))), rfl⟩ | exact ⟨(.leave (.leave (.leave (.leave (.leave (.take (Pick.none _))))))), rfl⟩ | exact ⟨(.leave (.leave (.leave (.leave (.leave (.leave (.take (Pick.none _)))))))), rfl⟩ | exact ⟨(.leave (.leave (.leave (.leave (.leave (.leave (.leave (.take (Pick.none _))))))))), rfl⟩ | exact ⟨(.leave (.leave (.leave (.leave (.leave (.leave (.leave (.leave (.take (Pick.none _)))))))))), rfl⟩ | exact ⟨(.leave (.leave (.leave (.leave (.leave (.leave (.leave (.leave (.leave (.take (Pick.none _))))))))))), rfl⟩) (by first | (exact Src.cel (by (solve | (repeat (first | exact List.Mem.head _ | apply List.Mem.tail)))) (by first | rfl | assumption | (simp only [List.length_map]; assumption) | (simp only [List.length_map, List.length_replicate, hrl, hdl]; done) | (simp; done))) | (exact Src.ownS (by (solve | (repeat (first | exact List.Mem.head _ | apply List.Mem.tail))))) | (exact Src.own (by (solve | (repeat (first | exact List.Mem.head _ | apply List.Mem.tail))))) | (exact Src.sls (by (solve | (repeat (first | exact List.Mem.head _ | apply List.Mem.tail))))) | (exact Src.celI (by (solve | (repeat (first | exact List.Mem.head _ | apply List.Mem.tail)))) (by first | rfl | assumption | (simp only [List.length_map]; assumption) | (simp only [List.length_map, List.length_replicate, hrl, hdl]; done) | (simp; done)))) (by first | exact one_map one8 _ | exact ones_spec rfl | exact one_map (fun _ => rfl) _ | (intro u hu; simp at hu; simp [hu, Value.oneCell'])) (by first | omega | (simp only [maxLen]; omega)) (by first | omega | (simp only [maxLen]; omega)) ?_
    intro ob1 cap1 ho1
    refine RL.assign rfl rfl rfl rfl ?_
    refine RL.nil ?_
    refine NQ.block ?_
    refine NQ.seq ?_
    refine CW.only (.cons (k := 0) rfl (.cons (k := 3) rfl (.cons (k := 4) rfl .nil))) ?_
    refine CW.region (ef := []) (bk := []) ?_
    refine RL.move rfl rfl rfl rfl ?_
    refine RL.binX rfl rfl rfl rfl rfl rfl (wrapV_i64 (by omega) (by omega)) ?_
    refine RL.assign rfl rfl rfl rfl ?_
    refine RL.nil ?_
    -- STOP: round; todo top: ["N"]
    refine NQ.round (g := (i, o2, c2)) (i + 1, ob1, cap1) (by show i + 1 ≤ R.length; omega) (by show R.length - (i + 1) < R.length - i; omega) (.cons rfl (.cons rfl (.cons rfl .nil))) (fun w h => h.rea (H' := [own ob1 cap1 3 1 (i + 1) (ints (srcR (R.take (i + 1))))]) (fun _ h => h) (by rw [htk, show ints (srcR (R.take i ++ [o])) = ints (srcR (R.take i)) ++ [.int .i64 (o.s : Int)] by simp [ints, srcR]]; exact (by repeat (first | exact Rea.nil | (apply Rea.cons; (solve | (repeat (first | exact Del.here | apply Del.there))))))))
  ·
    refine CW.exit ?_
    refine XQ.seq ?_
    refine XQ.seq ?_
    refine XQ.hit ?_
    refine NQ.seq ?_
    refine CW.seq ?_
    refine CW.region (ef := []) (bk := []) ?_
    refine RL.move rfl rfl rfl rfl ?_
    refine RL.assign rfl rfl rfl rfl ?_
    refine RL.nil ?_
    refine NQ.seq ?_
    refine CW.ret ?_
    -- STOP: ret; end
    have hin : i = R.length := by simp at hlt; omega
    subst hin
    rw [List.take_length]
    exact RQ.post (res1 rfl rfl) (.keep .nil) ⟨o2, c2, rfl, rfl, rfl⟩
theorem mem_srcs {T : List One} {s : Int} : s ∈ srcs T ↔ atO T s ≠ none := by
  rw [srcs, List.mem_map, atO, ne_eq, List.find?_eq_none]
  constructor
  · rintro ⟨o, ho, rfl⟩ h
    exact h o ho (by simp)
  · intro h
    simp only [Classical.not_forall] at h
    obtain ⟨o, ho, h⟩ := h
    exact ⟨o, ho, by simpa using h⟩
theorem Alike.srcs {T R : List One} (h : Alike T R) : sortL (Go.Proofs.Ytkkfdoippibfkaa.srcs T) = srcR R := by
  have n1 : (Go.Proofs.Ytkkfdoippibfkaa.srcs T).Nodup := List.pairwise_map.2 ((List.pairwise_map.1 h.t.nd).imp (fun h e => h (by omega)))
  have n2 : (srcR R).Nodup := List.pairwise_map.2 (h.up.imp (fun h e => by omega))
  have hp : (Go.Proofs.Ytkkfdoippibfkaa.srcs T).Perm (srcR R) := (List.perm_ext_iff_of_nodup n1 n2).2 (fun s => by
    rw [mem_srcs, show s ∈ srcR R ↔ s ∈ Go.Proofs.Ytkkfdoippibfkaa.srcs R from Iff.rfl, mem_srcs, ne_eq, ne_eq, h.non])
  have h1 : (sortL (Go.Proofs.Ytkkfdoippibfkaa.srcs T)).Perm (srcR R) := (List.mergeSort_perm _ _).trans hp
  have p1 : (sortL (Go.Proofs.Ytkkfdoippibfkaa.srcs T)).Pairwise (fun x y => x ≤ y) := by
    have := List.pairwise_mergeSort (le := fun x y : Int => decide (x ≤ y)) (fun a b c h1 h2 => by simp at *; omega) (fun a b => by simp; omega) (Go.Proofs.Ytkkfdoippibfkaa.srcs T)
    exact this.imp (fun h => by simpa using h)
  have p2 : (srcR R).Pairwise (fun x y => x ≤ y) := List.pairwise_map.2 (h.up.imp (fun h => by omega))
  exact h1.eq_of_pairwise (fun x y _ _ h1 h2 => Int.le_antisymm h1 h2) p1 p2
theorem Alike.lenT {T R : List One} (h : Alike T R) : T.length = R.length := by
  have := congrArg List.length h.srcs
  rw [List.length_mergeSort] at this
  simpa [Go.Proofs.Ytkkfdoippibfkaa.srcs, srcR] using this
theorem Alike.e1R {T R : List One} (h : Alike T R) : ∀ o ∈ R, 1 ≤ o.e := fun o ho => by
  have hne : atO R (o.s : Int) ≠ none := by
    have := mem_srcs (T := R) (s := (o.s : Int))
    exact this.1 (List.mem_map.2 ⟨o, ho, rfl⟩)
  cases hT : atO T (o.s : Int) with
  | none => exact absurd (h.non.2 hT) hne
  | some q =>
    obtain ⟨p, hp, -, he, -⟩ := h.som hT
    have h1 := h.t.e1 q (atO_mem hT).1
    have hpo : p = o := by
      obtain ⟨hm, hs⟩ := atO_mem hp
      have hs : p.s = o.s := by omega
      obtain ⟨A, B, hAB⟩ := List.append_of_mem ho
      have := up_apart h.up hAB p
      rw [hAB] at hm
      rcases List.mem_append.1 hm with hm | hm
      · exact absurd hs (this (by simp [hm]))
      · rcases List.mem_cons.1 hm with rfl | hm
        · rfl
        · exact absurd hs (this (by simp [hm]))
    rw [← hpo, he]; exact h1
end Go.Proofs.Ytkkfdoippibfkaa

namespace Go.Proofs.Ytkkfdoippibfkaa
open Go.PK

theorem sameInts_n (p q : Option Addr) (c1 c2 n m : Nat) (a b : List Int) (hn : a.length = n) (hm : b.length = m) (hb : n ≤ maxLen) : Spc Try.prog 37 #[.slice p n c1, .slice q m c2] [sls p 1 n (ints a), sls q 1 m (ints b)] [] (Is (.bool (a == b))) := by
  subst hn; subst hm; exact sameInts_any p q c1 c2 a b hb
theorem u32_any (x : Int) : ∃ e : Nat, IntKind.u32.wrap x = (e : Int) ∧ e < 4294967296 := by
  have h : 0 ≤ IntKind.u32.wrap x ∧ IntKind.u32.wrap x < 4294967296 := by simp [IntKind.wrap, IntKind.bits, IntKind.signed]; omega
  exact ⟨_, (Int.toNat_of_nonneg h.1).symm, by omega⟩
structure PG where
  i : Nat
  T : List One
  c : List (Value × Value)
  R : List One
  ob : Option Nat
  cp : Nat
def PG.ok (g : PG) : Prop := Alike g.T g.R ∧ KOk g.T g.c
theorem kplays (p : Option Addr) (n : Nat) (L : List Act16) (source : Int) (epoch : Nat) (tick : Int) (hL : ∀ x ∈ L, x.Ok) (hc : L.length ≤ n) (hep : epoch < 4294967296) : Spc Try.prog 7 #[.slice p L.length n, .int .i64 source, .int .u32 (epoch : Int), .int .i64 tick] [sls p 38 L.length (L.flatMap Act16.cells)] [] (Is (.bool true)) := by
  refine Spc.enter Try.func7 rfl rfl rfl (fun w0 hw0 => ?_)
  refine CW.seq ?_
  refine CW.region (ef := []) (bk := []) ?_
  refine RL.assign rfl rfl rfl rfl ?_
  refine RL.nil ?_
  refine NQ.seq ?_
  refine CW.seq ?_
  refine CW.region (ef := [0, 2]) (bk := []) ?_
  refine RL.call (new_keys) Try.call12 rfl rfl rfl rfl rfl (by repeat (first | exact Pick.nil | apply Pick.take | apply Pick.leave)) (by repeat (first | exact Lend.nil | (refine Lend.inI ?_ ?_; (solve | (repeat (first | exact List.Mem.head _ | apply List.Mem.tail)))) | (refine Lend.inH ?_ ?_; (solve | (repeat (first | exact List.Mem.head _ | apply List.Mem.tail)))))) (.inl rfl) ?_
  -- STOP: called; op 1: d=23 ["build", 29, []] guard=None (law.go:48)
  rintro _ _ _ ⟨r, m1, m2, rfl, rfl, rfl⟩
  refine RL.buildS _ Try.zeroValue29 pl_29 rfl rfl rfl rfl rfl ?_
  refine RL.box rfl rfl rfl rfl rfl rfl ?_
  intro b1
  refine RL.assign rfl rfl rfl rfl ?_
  refine RL.assign rfl rfl rfl rfl ?_
  refine RL.nil ?_
  refine NQ.seq ?_
  refine CW.seq ?_
  refine CW.seq ?_
  refine CW.region (ef := []) (bk := []) ?_
  refine RL.assign rfl rfl rfl rfl ?_
  refine RL.nil ?_
  refine NQ.seq ?_
  refine CW.block ?_
  -- STOP: loop; todo top: ["code", ["loop", ["seq", ["seq", ["region", 3, [{"d": 25, "op": ["move", ["t", 11]], "ty": 3, "pos": "law.go:49", "after": [], "guard": null}, {"d": 26, "op": ["move", ["t", 0]], "ty": 22, "pos": "la
  refine CW.ownNone (e := 172) 35 ?_
  refine CW.loop (γ := PG) PG.ok (fun g => [(0, .slice p L.length n), (1, .int .i64 source), (2, .int .u32 (epoch : Int)), (3, .int .i64 tick), (9, .pointer (some ⟨r, 0, none⟩)), (10, .pointer (some ⟨b1, 0, none⟩)), (11, .int .i64 (g.i : Int))])
    (fun _ => [sls p 38 L.length (L.flatMap Act16.cells)]) (fun g => Rings r m1 m2 b1 g.T g.c g.R g.ob g.cp) (fun g => L.length - g.i) ⟨0, [], [], [], none, 0⟩ ⟨alike_nil, kok_nil⟩
    (.cons rfl (.cons rfl (.cons rfl (.cons rfl (.cons rfl (.cons rfl (.cons rfl .nil))))))) (fun w h => h.rea (fun _ h => by simpa using h) (by repeat (first | exact Rea.nil | (apply Rea.cons; (solve | (repeat (first | exact Del.here | apply Del.there))))))) ?_
  rintro ⟨i, T, c, R, ob, cp⟩ ⟨hA, hK⟩
  dsimp only at hA hK ⊢
  refine CW.fact (p := p = none → L.length = 0) (fun w hC e => sls_nil (hC.s.i (sls p 38 L.length (L.flatMap Act16.cells)) (List.Mem.head _)) e) (fun hpa => ?_)
  refine CW.seq ?_
  refine CW.seq ?_
  refine CW.region (ef := []) (bk := []) ?_
  refine RL.move rfl rfl rfl rfl ?_
  refine RL.move rfl rfl rfl rfl ?_
  refine RL.lenS Try.runUnderlying22 rfl rfl rfl rfl ?_
  refine RL.bin rfl rfl rfl rfl rfl rfl ?_
  refine RL.move rfl rfl rfl rfl ?_
  apply RL.andB (d := 29) (dp := 32) (l' := (Sq.of [])) rfl (.cons (k := 0) rfl (.cons (k := 1) rfl (.cons (k := 2) rfl (.cons (k := 3) rfl (.cons (k := 9) rfl (.cons (k := 10) rfl (.cons (k := 11) rfl .nil)))))))
  ·
    intro hb5 K5
    refine RL.move rfl rfl rfl rfl ?_
    refine RL.bin rfl rfl rfl rfl rfl rfl ?_
    refine RL.pickT rfl rfl rfl rfl rfl ?_
    exact K5 _ (.cons rfl (.cons (k := 0) rfl (.cons (k := 1) rfl (.cons (k := 2) rfl (.cons (k := 3) rfl (.cons (k := 9) rfl (.cons (k := 10) rfl (.cons (k := 11) rfl .nil))))))))
  ·
    intro hb5 K5
    refine RL.skip rfl rfl rfl rfl ?_
    refine RL.skip rfl rfl rfl rfl ?_
    refine RL.pickF rfl rfl rfl rfl rfl ?_
    exact K5 _ (.cons rfl (.cons (k := 0) rfl (.cons (k := 1) rfl (.cons (k := 2) rfl (.cons (k := 3) rfl (.cons (k := 9) rfl (.cons (k := 10) rfl (.cons (k := 11) rfl .nil))))))))
  refine RL.nil ?_
  refine NQ.seq ?_
  -- STOP: if; todo top: ["code", ["cond", ["t", 32], ["skip"], ["exit", 0]]]
  refine CW.cond rfl (fun hlt => ?_) (fun hlt => ?_)
  ·
    obtain ⟨hlt, hlt40⟩ : i < L.length ∧ i < 40 := by simp at hlt; omega
    cases p with
    | none => exact absurd (hpa rfl) (by omega)
    | some a =>
    have hx := List.getElem?_eq_getElem hlt
    generalize L[i] = x at hx
    have w9 : RdsN [sls (some a) 38 L.length (L.flatMap Act16.cells)] (a.add (i * 38)) 38 x.cells := act16_rdsN hL (List.Mem.head _) hx
    refine CW.skip ?_
    refine NQ.seq ?_
    refine CW.seq ?_
    refine CW.block ?_
    refine CW.seq ?_
    refine CW.seq ?_
    refine CW.region (ef := [6]) (bk := [6]) ?_
    refine RL.move rfl rfl rfl rfl ?_
    refine RL.move rfl rfl rfl rfl ?_
    refine RL.move rfl rfl rfl rfl ?_
    refine RL.move rfl rfl rfl rfl ?_
    first | refine RL.idxAt (j := i) Try.runUnderlying22 Try.sizeOf38 rfl rfl rfl rfl rfl rfl (hlt) ?_ | refine RL.idx (j := i) Try.runUnderlying22 Try.sizeOf38 rfl rfl rfl rfl rfl rfl (hlt) ?_
    first | refine RL.loadM Try.isAgg38 Try.sizeOf38 rfl rfl rfl rfl (by assumption) ?_ | refine RL.loadA Try.isAgg38 Try.sizeOf38 rfl rfl rfl rfl (by first | assumption | (apply RdsI.rds; assumption)) (by first | rfl | assumption | (simp only [List.length_map]; assumption) | (simp only [List.length_map, List.length_replicate]; done) | (simp; done)) ?_ | refine RL.loadW Try.isAgg38 Try.sizeOf38 rfl rfl rfl rfl (by (solve | (repeat (first | exact List.Mem.head _ | apply List.Mem.tail)))) (by first | rfl | assumption | (simp only [List.length_map]; assumption) | (simp only [List.length_map, List.length_replicate]; done) | (simp; done)) ?_
    refine RL.call (do16_any r m1 m2 b1 T c R ob cp x (hL x (List.mem_of_getElem? hx)) hA hK) Try.call16 rfl rfl rfl rfl rfl (by repeat (first | exact Pick.nil | apply Pick.take | apply Pick.leave)) (by repeat (first | exact Lend.nil | (refine Lend.inI ?_ ?_; (solve | (repeat (first | exact List.Mem.head _ | apply List.Mem.tail)))) | (refine Lend.inH ?_ ?_; (solve | (repeat (first | exact List.Mem.head _ | apply List.Mem.tail)))))) (.inr rfl) ?_
    -- STOP: called; op 7: d=42 ["unOp", "Go.UnOp.not", 4, ["t", 41]] guard=None (law.go:50)
    rintro _ _ _ ⟨rfl, rfl, T', c', R', ob', cp', hA', hK', hr', rfl⟩
    have hlR := hA'.len
    have hlT := hA'.lenT
    have hrk : ∀ e : Nat, e < 4294967296 → Spc Try.prog 46 #[.pointer (some ⟨b1, 0, none⟩), .int .i64 source, .int .u32 (e : Int), .int .i64 tick] (RefK b1 R' ob' cp') [] (Is (.tuple #[.agg (bytes (keyM T' source e tick).1).toArray, .int .i64 (keyM T' source e tick).2])) := fun e he => by
      rw [hA'.key]; exact rkey_any b1 R' ob' cp' source e tick hA'.r hA'.e1R hA'.e he (by omega)
    refine RL.not rfl rfl rfl rfl ?_
    refine RL.nil ?_
    refine NQ.seq ?_
    refine CW.only (.cons (k := 0) rfl (.cons (k := 1) rfl (.cons (k := 2) rfl (.cons (k := 3) rfl (.cons (k := 9) rfl (.cons (k := 10) rfl (.cons (k := 11) rfl (.cons (k := 42) rfl .nil)))))))) ?_
    -- STOP: if; todo top: ["code", ["cond", ["t", 42], ["seq", ["region", 6, [{"d": 8, "op": ["assign", ["c", ["bool", false]]], "ty": 4, "pos": "law.go:51", "after": [], "guard": null}], false], ["ret"]], ["skip"]]]
    refine CW.condF rfl ((by simp)) ?_
    refine CW.skip ?_
    refine NQ.seq ?_
    refine CW.seq ?_
    refine CW.seq ?_
    refine CW.region (ef := []) (bk := []) ?_
    refine RL.assign rfl rfl rfl rfl ?_
    refine RL.nil ?_
    refine NQ.seq ?_
    refine CW.block ?_
    -- STOP: loop; todo top: ["code", ["loop", ["seq", ["seq", ["region", 8, [{"d": 43, "op": ["move", ["t", 12]], "ty": 31, "pos": "law.go:53", "after": [], "guard": null}, {"d": 44, "op": ["binOp", "Go.BinOp.lss", 31, ["t", 43]
    refine CW.loop (γ := Nat) (fun b => b ≤ 3) (fun b => [(0, .slice (some a) L.length n), (1, .int .i64 source), (2, .int .u32 (epoch : Int)), (3, .int .i64 tick), (9, .pointer (some ⟨r, 0, none⟩)), (10, .pointer (some ⟨b1, 0, none⟩)), (11, .int .i64 (i : Int)), (12, .int .u32 (b : Int))])
      (fun _ => [sls (some a) 38 L.length (L.flatMap Act16.cells)]) (fun _ => Rings r m1 m2 b1 T' c' R' ob' cp') (fun b => 3 - b) 0 (by omega) (.cons rfl (.cons rfl (.cons rfl (.cons rfl (.cons rfl (.cons rfl (.cons rfl (.cons rfl .nil)))))))) (fun w h => h.rea (fun _ h => by simpa using h) (by repeat (first | exact Rea.nil | (apply Rea.cons; (solve | (repeat (first | exact Del.here | apply Del.there))))))) ?_
    intro b hb
    refine CW.seq ?_
    refine CW.seq ?_
    refine CW.region (ef := []) (bk := []) ?_
    refine RL.move rfl rfl rfl rfl ?_
    refine RL.bin rfl rfl rfl rfl rfl rfl ?_
    refine RL.nil ?_
    refine NQ.seq ?_
    -- STOP: if; todo top: ["code", ["cond", ["t", 44], ["skip"], ["exit", 2]]]
    refine CW.cond rfl (fun hb3 => ?_) (fun hb3 => ?_)
    ·
      have hb3 : b < 3 := by simp at hb3; omega
      obtain ⟨e, he, hle⟩ := u32_any ((epochR R' source : Int) - (b : Int))
      refine CW.skip ?_
      refine NQ.seq ?_
      refine CW.seq ?_
      refine CW.block ?_
      refine CW.seq ?_
      refine CW.region (ef := []) (bk := []) ?_
      refine RL.move rfl rfl rfl rfl ?_
      refine RL.move rfl rfl rfl rfl ?_
      refine RL.callv (repoch_any b1 R' ob' cp' source hA'.r (by omega)) Try.call45 rfl rfl rfl rfl (by repeat (first | exact Lend.nil | (refine Lend.inI ?_ ?_; (solve | (repeat (first | exact List.Mem.head _ | apply List.Mem.tail)))) | (refine Lend.inH ?_ ?_; (solve | (repeat (first | exact List.Mem.head _ | apply List.Mem.tail)))))) ?_
      refine RL.move rfl rfl rfl rfl ?_
      refine RL.bin rfl rfl rfl rfl rfl rfl ?_
      refine RL.assign rfl rfl rfl rfl ?_
      refine RL.nil ?_
      refine NQ.seq ?_
      refine CW.only (.cons (k := 0) rfl (.cons (k := 1) rfl (.cons (k := 2) rfl (.cons (k := 3) rfl (.cons (k := 9) rfl (.cons (k := 10) rfl (.cons (k := 11) rfl (.cons (k := 12) rfl (.cons (k := 13) rfl .nil))))))))) ?_
      refine CW.seq ?_
      -- STOP: region; todo top: ["code", ["region", 11, [{"d": 53, "op": ["move", ["t", 9]], "ty": 24, "pos": "law.go:55", "after": [], "guard": null}, {"d": 54, "op": ["move", ["t", 1]], "ty": 3, "pos": "law.go:55", "after": [], "g
      rw [he]
      refine CW.region (ef := [8, 9]) (bk := [9]) ?_
      refine RL.move rfl rfl rfl rfl ?_
      refine RL.move rfl rfl rfl rfl ?_
      refine RL.move rfl rfl rfl rfl ?_
      refine RL.move rfl rfl rfl rfl ?_
      refine RL.callv (key_any r m1 m2 T' c' source e tick hA'.t hK' hle) Try.call18 rfl rfl rfl rfl (by repeat (first | exact Lend.nil | (refine Lend.inI ?_ ?_; (solve | (repeat (first | exact List.Mem.head _ | apply List.Mem.tail)))) | (refine Lend.inH ?_ ?_; (solve | (repeat (first | exact List.Mem.head _ | apply List.Mem.tail)))))) ?_
      refine RL.move rfl rfl rfl rfl ?_
      refine RL.extract rfl rfl rfl rfl rfl ?_
      refine RL.extract rfl rfl rfl rfl rfl ?_
      refine RL.alloc (cs := List.replicate 32 (U8 0#8)) Try.zeroValue35 rfl rfl rfl rfl rfl ?_
      intro b2
      refine RL.storeW Try.sizeOf35 rfl rfl rfl rfl rfl rfl rfl (by first | rfl | exact ones_map one8 _ | exact ones_map (fun _ => rfl) _) (by repeat (first | exact Upd.here | apply Upd.there)) (by first | rfl | assumption | (simp only [List.length_map]; assumption) | (simp only [List.length_map, List.length_replicate, keyM_len]; done) | (simp; done)) (by first | rfl | assumption | (simp only [List.length_map]; assumption) | (simp only [List.length_map, List.length_replicate, keyM_len]; done) | (simp; done)) ?_
      refine RL.assign rfl rfl rfl rfl ?_
      refine RL.nil ?_
      refine NQ.seq ?_
      refine CW.only (.cons (k := 0) rfl (.cons (k := 1) rfl (.cons (k := 2) rfl (.cons (k := 3) rfl (.cons (k := 9) rfl (.cons (k := 10) rfl (.cons (k := 11) rfl (.cons (k := 12) rfl (.cons (k := 13) rfl (.cons (k := 14) rfl (.cons (k := 15) rfl .nil))))))))))) ?_
      refine CW.seq ?_
      refine CW.region (ef := [8, 9]) (bk := [9]) ?_
      refine RL.move rfl rfl rfl rfl ?_
      refine RL.move rfl rfl rfl rfl ?_
      refine RL.move rfl rfl rfl rfl ?_
      refine RL.move rfl rfl rfl rfl ?_
      refine RL.callv (hrk e hle) Try.call46 rfl rfl rfl rfl (by repeat (first | exact Lend.nil | (refine Lend.inI ?_ ?_; (solve | (repeat (first | exact List.Mem.head _ | apply List.Mem.tail)))) | (refine Lend.inH ?_ ?_; (solve | (repeat (first | exact List.Mem.head _ | apply List.Mem.tail)))))) ?_
      refine RL.move rfl rfl rfl rfl ?_
      refine RL.extract rfl rfl rfl rfl rfl ?_
      refine RL.extract rfl rfl rfl rfl rfl ?_
      refine RL.alloc (cs := List.replicate 32 (U8 0#8)) Try.zeroValue35 rfl rfl rfl rfl rfl ?_
      intro b3
      refine RL.storeW Try.sizeOf35 rfl rfl rfl rfl rfl rfl rfl (by first | rfl | exact ones_map one8 _ | exact ones_map (fun _ => rfl) _) (by repeat (first | exact Upd.here | apply Upd.there)) (by first | rfl | assumption | (simp only [List.length_map]; assumption) | (simp only [List.length_map, List.length_replicate, keyM_len]; done) | (simp; done)) (by first | rfl | assumption | (simp only [List.length_map]; assumption) | (simp only [List.length_map, List.length_replicate, keyM_len]; done) | (simp; done)) ?_
      refine RL.assign rfl rfl rfl rfl ?_
      refine RL.nil ?_
      refine NQ.seq ?_
      refine CW.only (.cons (k := 0) rfl (.cons (k := 1) rfl (.cons (k := 2) rfl (.cons (k := 3) rfl (.cons (k := 9) rfl (.cons (k := 10) rfl (.cons (k := 11) rfl (.cons (k := 12) rfl (.cons (k := 14) rfl (.cons (k := 15) rfl (.cons (k := 16) rfl (.cons (k := 17) rfl .nil)))))))))))) ?_
      refine CW.seq ?_
      refine CW.region (ef := []) (bk := []) ?_
      first | refine RL.loadM Try.isAgg35 Try.sizeOf35 rfl rfl rfl rfl (by assumption) ?_ | refine RL.loadA Try.isAgg35 Try.sizeOf35 rfl rfl rfl rfl (by first | assumption | (apply RdsI.rds; assumption)) (by first | rfl | assumption | (simp only [List.length_map]; assumption) | (simp only [List.length_map, List.length_replicate, keyM_len]; done) | (simp; done)) ?_ | refine RL.loadW Try.isAgg35 Try.sizeOf35 rfl rfl rfl rfl (by (solve | (repeat (first | exact List.Mem.head _ | apply List.Mem.tail)))) (by first | rfl | assumption | (simp only [List.length_map]; assumption) | (simp only [List.length_map, List.length_replicate, keyM_len]; done) | (simp; done)) ?_
      first | refine RL.loadM Try.isAgg35 Try.sizeOf35 rfl rfl rfl rfl (by assumption) ?_ | refine RL.loadA Try.isAgg35 Try.sizeOf35 rfl rfl rfl rfl (by first | assumption | (apply RdsI.rds; assumption)) (by first | rfl | assumption | (simp only [List.length_map]; assumption) | (simp only [List.length_map, List.length_replicate, keyM_len]; done) | (simp; done)) ?_ | refine RL.loadW Try.isAgg35 Try.sizeOf35 rfl rfl rfl rfl (by (solve | (repeat (first | exact List.Mem.head _ | apply List.Mem.tail)))) (by first | rfl | assumption | (simp only [List.length_map]; assumption) | (simp only [List.length_map, List.length_replicate, keyM_len]; done) | (simp; done)) ?_
      refine RL.cmp rfl rfl rfl rfl rfl (key_ne _ _ (by first | rfl | assumption | (simp only [List.length_map]; assumption) | (simp only [List.length_map, List.length_replicate, keyM_len]; done) | (simp; done)) (by first | rfl | assumption | (simp only [List.length_map]; assumption) | (simp only [List.length_map, List.length_replicate, keyM_len]; done) | (simp; done)) _ _) ?_
      refine RL.move rfl rfl rfl rfl ?_
      apply RL.orB (d := 71) (dp := 75) (l' := (Sq.of [])) rfl (.cons (k := 0) rfl (.cons (k := 1) rfl (.cons (k := 2) rfl (.cons (k := 3) rfl (.cons (k := 9) rfl (.cons (k := 10) rfl (.cons (k := 11) rfl (.cons (k := 12) rfl .nil))))))))
      ·
        intro hb4 K4
        refine RL.move rfl rfl rfl rfl ?_
        refine RL.move rfl rfl rfl rfl ?_
        refine RL.bin rfl rfl rfl rfl rfl rfl ?_
        refine RL.pickF rfl rfl rfl rfl rfl ?_
        exact K4 _ (.cons rfl (.cons (k := 0) rfl (.cons (k := 1) rfl (.cons (k := 2) rfl (.cons (k := 3) rfl (.cons (k := 9) rfl (.cons (k := 10) rfl (.cons (k := 11) rfl (.cons (k := 12) rfl .nil)))))))))
      ·
        intro hb4 K4
        refine RL.skip rfl rfl rfl rfl ?_
        refine RL.skip rfl rfl rfl rfl ?_
        refine RL.skip rfl rfl rfl rfl ?_
        refine RL.pickT rfl rfl rfl rfl rfl ?_
        exact K4 _ (.cons rfl (.cons (k := 0) rfl (.cons (k := 1) rfl (.cons (k := 2) rfl (.cons (k := 3) rfl (.cons (k := 9) rfl (.cons (k := 10) rfl (.cons (k := 11) rfl (.cons (k := 12) rfl .nil)))))))))
      refine RL.nil ?_
      refine NQ.seq ?_
      -- STOP: if; todo top: ["code", ["cond", ["t", 75], ["seq", ["region", 14, [{"d": 8, "op": ["assign", ["c", ["bool", false]]], "ty": 4, "pos": "law.go:58", "after": [], "guard": null}], false], ["ret"]], ["skip"]]]
      refine CW.condF rfl ((by simp)) ?_
      refine CW.skip ?_
      refine NQ.block ?_
      refine NQ.seq ?_
      refine CW.region (ef := []) (bk := []) ?_
      refine RL.move rfl rfl rfl rfl ?_
      -- STOP: op; op 1: d=46 ["binOp", "Go.BinOp.add", 31, ["t", 45], ["c", ["int", "Go.IntKind.u32", 1]], 31] guard=None (law.go:53)
      have hadd : IntKind.u32.wrap ((b : Int) + 1) = ((b + 1 : Nat) : Int) := by simp [IntKind.wrap, IntKind.bits, IntKind.signed]; omega
      refine RL.bin rfl rfl rfl rfl rfl rfl ?_
      refine RL.assign rfl rfl rfl rfl ?_
      refine RL.nil ?_
      -- STOP: round; todo top: ["N"]
      rw [hadd]
      refine NQ.round (g := b) (b + 1) (by omega) (by omega) (.cons rfl (.cons rfl (.cons rfl (.cons rfl (.cons rfl (.cons rfl (.cons rfl (.cons rfl .nil)))))))) (fun w h => h.rea (fun _ h => h) (by repeat (first | exact Rea.nil | (apply Rea.cons; (solve | (repeat (first | exact Del.here | apply Del.there)))))))
    ·
      refine CW.exit ?_
      refine XQ.seq ?_
      refine XQ.seq ?_
      refine XQ.hit ?_
      refine NQ.seq ?_
      refine CW.seq ?_
      refine CW.region (ef := [8, 9]) (bk := [9]) ?_
      refine RL.move rfl rfl rfl rfl ?_
      refine RL.move rfl rfl rfl rfl ?_
      refine RL.move rfl rfl rfl rfl ?_
      refine RL.move rfl rfl rfl rfl ?_
      refine RL.callv (key_any r m1 m2 T' c' source epoch tick hA'.t hK' hep) Try.call18 rfl rfl rfl rfl (by repeat (first | exact Lend.nil | (refine Lend.inI ?_ ?_; (solve | (repeat (first | exact List.Mem.head _ | apply List.Mem.tail)))) | (refine Lend.inH ?_ ?_; (solve | (repeat (first | exact List.Mem.head _ | apply List.Mem.tail)))))) ?_
      refine RL.move rfl rfl rfl rfl ?_
      refine RL.extract rfl rfl rfl rfl rfl ?_
      refine RL.extract rfl rfl rfl rfl rfl ?_
      refine RL.alloc (cs := List.replicate 32 (U8 0#8)) Try.zeroValue35 rfl rfl rfl rfl rfl ?_
      intro b2
      refine RL.storeW Try.sizeOf35 rfl rfl rfl rfl rfl rfl rfl (by first | rfl | exact ones_map one8 _ | exact ones_map (fun _ => rfl) _) (by repeat (first | exact Upd.here | apply Upd.there)) (by first | rfl | assumption | (simp only [List.length_map]; assumption) | (simp only [List.length_map, List.length_replicate, keyM_len]; done) | (simp; done)) (by first | rfl | assumption | (simp only [List.length_map]; assumption) | (simp only [List.length_map, List.length_replicate, keyM_len]; done) | (simp; done)) ?_
      refine RL.assign rfl rfl rfl rfl ?_
      refine RL.nil ?_
      refine NQ.seq ?_
      refine CW.only (.cons (k := 0) rfl (.cons (k := 1) rfl (.cons (k := 2) rfl (.cons (k := 3) rfl (.cons (k := 9) rfl (.cons (k := 10) rfl (.cons (k := 11) rfl (.cons (k := 18) rfl (.cons (k := 19) rfl .nil))))))))) ?_
      refine CW.seq ?_
      refine CW.region (ef := [8, 9]) (bk := [9]) ?_
      refine RL.move rfl rfl rfl rfl ?_
      refine RL.move rfl rfl rfl rfl ?_
      refine RL.move rfl rfl rfl rfl ?_
      refine RL.move rfl rfl rfl rfl ?_
      refine RL.callv (hrk epoch hep) Try.call46 rfl rfl rfl rfl (by repeat (first | exact Lend.nil | (refine Lend.inI ?_ ?_; (solve | (repeat (first | exact List.Mem.head _ | apply List.Mem.tail)))) | (refine Lend.inH ?_ ?_; (solve | (repeat (first | exact List.Mem.head _ | apply List.Mem.tail)))))) ?_
      refine RL.move rfl rfl rfl rfl ?_
      refine RL.extract rfl rfl rfl rfl rfl ?_
      refine RL.extract rfl rfl rfl rfl rfl ?_
      refine RL.alloc (cs := List.replicate 32 (U8 0#8)) Try.zeroValue35 rfl rfl rfl rfl rfl ?_
      intro b3
      refine RL.storeW Try.sizeOf35 rfl rfl rfl rfl rfl rfl rfl (by first | rfl | exact ones_map one8 _ | exact ones_map (fun _ => rfl) _) (by repeat (first | exact Upd.here | apply Upd.there)) (by first | rfl | assumption | (simp only [List.length_map]; assumption) | (simp only [List.length_map, List.length_replicate, keyM_len]; done) | (simp; done)) (by first | rfl | assumption | (simp only [List.length_map]; assumption) | (simp only [List.length_map, List.length_replicate, keyM_len]; done) | (simp; done)) ?_
      refine RL.assign rfl rfl rfl rfl ?_
      refine RL.nil ?_
      refine NQ.seq ?_
      refine CW.only (.cons (k := 0) rfl (.cons (k := 1) rfl (.cons (k := 2) rfl (.cons (k := 3) rfl (.cons (k := 9) rfl (.cons (k := 10) rfl (.cons (k := 11) rfl (.cons (k := 18) rfl (.cons (k := 19) rfl (.cons (k := 20) rfl (.cons (k := 21) rfl .nil))))))))))) ?_
      refine CW.seq ?_
      refine CW.region (ef := [19, 21, 22]) (bk := [19]) ?_
      first | refine RL.loadM Try.isAgg35 Try.sizeOf35 rfl rfl rfl rfl (by assumption) ?_ | refine RL.loadA Try.isAgg35 Try.sizeOf35 rfl rfl rfl rfl (by first | assumption | (apply RdsI.rds; assumption)) (by first | rfl | assumption | (simp only [List.length_map]; assumption) | (simp only [List.length_map, List.length_replicate, keyM_len]; done) | (simp; done)) ?_ | refine RL.loadW Try.isAgg35 Try.sizeOf35 rfl rfl rfl rfl (by (solve | (repeat (first | exact List.Mem.head _ | apply List.Mem.tail)))) (by first | rfl | assumption | (simp only [List.length_map]; assumption) | (simp only [List.length_map, List.length_replicate, keyM_len]; done) | (simp; done)) ?_
      first | refine RL.loadM Try.isAgg35 Try.sizeOf35 rfl rfl rfl rfl (by assumption) ?_ | refine RL.loadA Try.isAgg35 Try.sizeOf35 rfl rfl rfl rfl (by first | assumption | (apply RdsI.rds; assumption)) (by first | rfl | assumption | (simp only [List.length_map]; assumption) | (simp only [List.length_map, List.length_replicate, keyM_len]; done) | (simp; done)) ?_ | refine RL.loadW Try.isAgg35 Try.sizeOf35 rfl rfl rfl rfl (by (solve | (repeat (first | exact List.Mem.head _ | apply List.Mem.tail)))) (by first | rfl | assumption | (simp only [List.length_map]; assumption) | (simp only [List.length_map, List.length_replicate, keyM_len]; done) | (simp; done)) ?_
      refine RL.cmp rfl rfl rfl rfl rfl (key_ne _ _ (by first | rfl | assumption | (simp only [List.length_map]; assumption) | (simp only [List.length_map, List.length_replicate, keyM_len]; done) | (simp; done)) (by first | rfl | assumption | (simp only [List.length_map]; assumption) | (simp only [List.length_map, List.length_replicate, keyM_len]; done) | (simp; done)) _ _) ?_
      refine RL.move rfl rfl rfl rfl ?_
      apply RL.orB (d := 95) (dp := 99) (l' := (Sq.of [8, 9, 10, 11, 12, 13, 14, 15, 16, 17, 18, 19, 20, 21, 22, 23, 24])) rfl (.cons (k := 0) rfl (.cons (k := 1) rfl (.cons (k := 2) rfl (.cons (k := 3) rfl (.cons (k := 9) rfl (.cons (k := 10) rfl (.cons (k := 11) rfl .nil)))))))
      ·
        intro hb4 K4
        refine RL.move rfl rfl rfl rfl ?_
        refine RL.move rfl rfl rfl rfl ?_
        refine RL.bin rfl rfl rfl rfl rfl rfl ?_
        refine RL.pickF rfl rfl rfl rfl rfl ?_
        exact K4 _ (.cons rfl (.cons (k := 0) rfl (.cons (k := 1) rfl (.cons (k := 2) rfl (.cons (k := 3) rfl (.cons (k := 9) rfl (.cons (k := 10) rfl (.cons (k := 11) rfl .nil))))))))
      ·
        intro hb4 K4
        refine RL.skip rfl rfl rfl rfl ?_
        refine RL.skip rfl rfl rfl rfl ?_
        refine RL.skip rfl rfl rfl rfl ?_
        refine RL.pickT rfl rfl rfl rfl rfl ?_
        exact K4 _ (.cons rfl (.cons (k := 0) rfl (.cons (k := 1) rfl (.cons (k := 2) rfl (.cons (k := 3) rfl (.cons (k := 9) rfl (.cons (k := 10) rfl (.cons (k := 11) rfl .nil))))))))
      refine RL.move rfl rfl rfl rfl ?_
      apply RL.orB (d := 100) (dp := 108) (l' := (Sq.of [17, 18, 19, 20, 21, 22, 23, 24])) rfl (.cons (k := 0) rfl (.cons (k := 1) rfl (.cons (k := 2) rfl (.cons (k := 3) rfl (.cons (k := 9) rfl (.cons (k := 10) rfl (.cons (k := 11) rfl .nil)))))))
      ·
        intro hb9 K9
        refine RL.move rfl rfl rfl rfl ?_
        refine RL.move rfl rfl rfl rfl ?_
        refine RL.callv (epoch_any r m1 m2 T' c' source hA'.t) Try.call17 rfl rfl rfl rfl (by repeat (first | exact Lend.nil | (refine Lend.inI ?_ ?_; (solve | (repeat (first | exact List.Mem.head _ | apply List.Mem.tail)))) | (refine Lend.inH ?_ ?_; (solve | (repeat (first | exact List.Mem.head _ | apply List.Mem.tail)))))) ?_
        refine RL.move rfl rfl rfl rfl ?_
        refine RL.move rfl rfl rfl rfl ?_
        refine RL.callv (repoch_any b1 R' ob' cp' source hA'.r (by omega)) Try.call45 rfl rfl rfl rfl (by repeat (first | exact Lend.nil | (refine Lend.inI ?_ ?_; (solve | (repeat (first | exact List.Mem.head _ | apply List.Mem.tail)))) | (refine Lend.inH ?_ ?_; (solve | (repeat (first | exact List.Mem.head _ | apply List.Mem.tail)))))) ?_
        refine RL.bin rfl rfl rfl rfl rfl rfl ?_
        refine RL.pickF rfl rfl rfl rfl rfl ?_
        exact K9 _ (.cons rfl (.cons (k := 0) rfl (.cons (k := 1) rfl (.cons (k := 2) rfl (.cons (k := 3) rfl (.cons (k := 9) rfl (.cons (k := 10) rfl (.cons (k := 11) rfl .nil))))))))
      ·
        intro hb9 K9
        refine RL.skip rfl rfl rfl rfl ?_
        refine RL.skip rfl rfl rfl rfl ?_
        refine RL.skip rfl rfl rfl rfl ?_
        refine RL.skip rfl rfl rfl rfl ?_
        refine RL.skip rfl rfl rfl rfl ?_
        refine RL.skip rfl rfl rfl rfl ?_
        refine RL.skip rfl rfl rfl rfl ?_
        refine RL.pickT rfl rfl rfl rfl rfl ?_
        exact K9 _ (.cons rfl (.cons (k := 0) rfl (.cons (k := 1) rfl (.cons (k := 2) rfl (.cons (k := 3) rfl (.cons (k := 9) rfl (.cons (k := 10) rfl (.cons (k := 11) rfl .nil))))))))
      refine RL.move rfl rfl rfl rfl ?_
      -- STOP: part 109; op 18: d=110 ["move", ["t", 9]] guard=[17, False] (law.go:63)
      refine RL.cast (d := 109) (v' := .bool false) rfl ((by simp [hA'.epoch])) ?_
      refine RL.move rfl rfl rfl rfl ?_
      refine RL.call (sources_any r m1 m2 T' c' (by omega)) Try.call47 rfl rfl rfl rfl rfl (by repeat (first | exact Pick.nil | apply Pick.take | apply Pick.leave)) (by repeat (first | exact Lend.nil | (refine Lend.inI ?_ ?_; (solve | (repeat (first | exact List.Mem.head _ | apply List.Mem.tail)))) | (refine Lend.inH ?_ ?_; (solve | (repeat (first | exact List.Mem.head _ | apply List.Mem.tail)))))) (.inr rfl) ?_
      -- STOP: called; op 20: d=112 ["move", ["t", 10]] guard=[17, False] (law.go:63)
      rintro _ _ _ ⟨o3, c3, rfl, rfl, rfl⟩
      refine RL.move rfl rfl rfl rfl ?_
      refine RL.call (rsources_any b1 R' ob' cp' hA'.r (by omega)) Try.call48 rfl rfl rfl rfl rfl (by repeat (first | exact Pick.nil | apply Pick.take | apply Pick.leave)) (by repeat (first | exact Lend.nil | (refine Lend.inI ?_ ?_; (solve | (repeat (first | exact List.Mem.head _ | apply List.Mem.tail)))) | (refine Lend.inH ?_ ?_; (solve | (repeat (first | exact List.Mem.head _ | apply List.Mem.tail)))))) (.inl rfl) ?_
      -- STOP: called; op 22: d=114 ["call", ["f", 37], [["t", 111], ["t", 113]], [43, 43]] guard=[17, False] (law.go:63)
      rintro _ _ _ ⟨o4, c4, rfl, rfl, rfl⟩
      refine RL.callv (sameInts_n _ _ c3 c4 T'.length R'.length (sortL (srcs T')) (srcR R') (by rw [List.length_mergeSort, srcs, List.length_map]) (by rw [srcR, List.length_map]) (by unfold maxLen; omega)) Try.call37 rfl rfl rfl rfl (Lend.own (by repeat (first | exact List.Mem.head _ | apply List.Mem.tail)) (Lend.own (by repeat (first | exact List.Mem.head _ | apply List.Mem.tail)) .nil)) ?_
      refine RL.not rfl rfl rfl rfl ?_
      refine RL.pickF rfl rfl rfl rfl rfl ?_
      refine RL.nil ?_
      refine NQ.seq ?_
      refine CW.only (.cons (k := 0) rfl (.cons (k := 1) rfl (.cons (k := 2) rfl (.cons (k := 3) rfl (.cons (k := 9) rfl (.cons (k := 10) rfl (.cons (k := 11) rfl (.cons (k := 116) rfl .nil)))))))) ?_
      -- STOP: if; todo top: ["code", ["cond", ["t", 116], ["seq", ["region", 18, [{"d": 8, "op": ["assign", ["c", ["bool", false]]], "ty": 4, "pos": "law.go:64", "after": [], "guard": null}], false], ["ret"]], ["skip"]]]
      refine CW.condF rfl ((by simp [hA'.srcs])) ?_
      refine CW.skip ?_
      refine NQ.block ?_
      refine NQ.seq ?_
      refine CW.region (ef := []) (bk := []) ?_
      refine RL.move rfl rfl rfl rfl ?_
      refine RL.binX rfl rfl rfl rfl rfl rfl (wrapV_i64 (by omega) (by omega)) ?_
      refine RL.assign rfl rfl rfl rfl ?_
      refine RL.nil ?_
      -- STOP: round; todo top: ["N"]
      refine NQ.round (γ := PG) (g := (⟨i, T, c, R, ob, cp⟩ : PG)) (⟨i + 1, T', c', R', ob', cp'⟩ : PG) ⟨hA', hK'⟩ (by show L.length - (i + 1) < L.length - i; omega) (.cons rfl (.cons rfl (.cons rfl (.cons rfl (.cons rfl (.cons rfl (.cons rfl .nil))))))) (fun w h => h.rea (fun _ h => by simpa using h) (by repeat (first | exact Rea.nil | (apply Rea.cons; (solve | (repeat (first | exact Del.here | apply Del.there)))))))
  ·
    refine CW.exit ?_
    refine XQ.seq ?_
    refine XQ.seq ?_
    refine XQ.hit ?_
    refine NQ.seq ?_
    refine CW.only .nil ?_
    refine CW.seq ?_
    refine CW.region (ef := []) (bk := []) ?_
    refine RL.callv (works16) Try.call11 rfl rfl rfl rfl (by repeat (first | exact Lend.nil | (refine Lend.inI ?_ ?_; (solve | (repeat (first | exact List.Mem.head _ | apply List.Mem.tail)))) | (refine Lend.inH ?_ ?_; (solve | (repeat (first | exact List.Mem.head _ | apply List.Mem.tail)))))) ?_
    refine RL.assign rfl rfl rfl rfl ?_
    refine RL.nil ?_
    refine NQ.seq ?_
    refine CW.ret ?_
    -- STOP: ret; end
    exact RQ.post (res1 rfl rfl) (Split.none _) ⟨rfl, rfl, rfl⟩
theorem keysPlays_call (W : World) (x : Sl Act16) (source epoch tick : Int) (hx : rActs16.ok x) (_ : rInt.ok source) (he : rU32.ok epoch) (_ : rInt.ok tick) (tx : ∀ y ∈ rActs16.its x, y.A W) (_ : ∀ y ∈ rInt.its source, y.A W) (_ : ∀ y ∈ rU32.its epoch, y.A W) (_ : ∀ y ∈ rInt.its tick, y.A W) :
    Calls Try.prog 7 #[rActs16.val x, rInt.val source, rU32.val epoch, rInt.val tick] W (fun e w' => e = .returned (.bool true) ∧ RowKit.Below W.heap.size W w') := by
  have ht : ∀ y ∈ [sls x.p 38 x.l.length (x.l.flatMap Act16.cells)], y.A W := fun y hy => by rw [List.mem_singleton.1 hy]; exact tx _ (List.Mem.head _)
  have hb := wfk_bounds (show wfk .u32 epoch from he)
  have hb : 0 ≤ epoch ∧ epoch ≤ 4294967295 := hb
  obtain ⟨e, rfl⟩ : ∃ e : Nat, epoch = (e : Int) := ⟨epoch.toNat, by omega⟩
  exact (kplays x.p x.c x.l source e tick hx.2.2.2 hx.1 (by omega)).lawI ht
end Go.Proofs.Ytkkfdoippibfkaa
