import Derived.Test.YtkkfdoippibfkaaHash2
namespace Go.Proofs.Ytkkfdoippibfkaa
open Go.PK

theorem K_get {n : Nat} (h : n < 64) : (words K)[0 + n * 1]? = some (U32 (K.getD n 0)) := by
  have : n < K.length := h
  rw [Nat.zero_add, Nat.mul_one]; simp [this]
theorem W_get (m : List B8) {n : Nat} (h : n < 64) : (words (ws m 64))[0 + n * 1]? = some (U32 ((ws m 64).getD n 0)) := by
  have : n < (ws m 64).length := by rw [ws_length]; exact h
  rw [Nat.zero_add, Nat.mul_one]; simp [this]

set_option maxHeartbeats 4000000 in
theorem turned_any (s : S8) (m : List B8) (p : Addr) (cap : Nat) (hm : m.length = 64) (hc : 64 ≤ cap) : Spc Try.prog 214 #[.agg s.cells.toArray, .slice (some p) 64 cap] [sls (some p) 1 64 (bytes m)] [] (Is (.agg (comp s m).cells.toArray)) := by
  refine Spc.enter Try.func214 rfl rfl rfl (fun w0 hw0 => ?_)
  refine CW.seq ?_
  refine CW.region (ef := [0, 1]) (bk := []) ?_
  refine RL.box rfl rfl rfl rfl rfl rfl ?_
  intro b1
  refine RL.alloc Try.zeroValue360 rfl rfl rfl rfl rfl ?_
  intro b2
  refine RL.nil ?_
  refine NQ.seq ?_
  refine CW.seq ?_
  refine CW.region (ef := [3, 4, 5, 6]) (bk := [5, 6]) ?_
  refine RL.move rfl rfl rfl rfl ?_
  refine RL.callv (spread_any m p cap hm hc) Try.call236 rfl rfl rfl rfl (by repeat (first | exact Lend.nil | (refine Lend.inI ?_ ?_; (solve | (repeat (first | exact List.Mem.head _ | apply List.Mem.tail)))) | (refine Lend.inH ?_ ?_; (solve | (repeat (first | exact List.Mem.head _ | apply List.Mem.tail)))))) ?_
  refine RL.callv (htable_any) Try.call237 rfl rfl rfl rfl (by repeat (first | exact Lend.nil | (refine Lend.inI ?_ ?_; (solve | (repeat (first | exact List.Mem.head _ | apply List.Mem.tail)))) | (refine Lend.inH ?_ ?_; (solve | (repeat (first | exact List.Mem.head _ | apply List.Mem.tail)))))) ?_
  refine RL.alloc Try.zeroValue392 rfl rfl rfl rfl rfl ?_
  intro b3
  refine RL.alloc Try.zeroValue392 rfl rfl rfl rfl rfl ?_
  intro b4
  -- STOP: op; op 5: d=None ["store", 392, ["t", 5], ["t", 15]] guard=None (hash.go:63)
  refine RL.storeX (cs := List.replicate 64 (U32 0#32)) (cs' := words (ws m 64)) (vs := words (ws m 64)) (spl_all (by simp [ws_length])) (by rw [List.length_map, ws_length]; exact Try.sizeOf392) rfl rfl rfl rfl rfl rfl rfl (ones_map one32 _) (by repeat (first | exact Upd.here | apply Upd.there)) (by simp [ws_length]) ?_
  -- STOP: op; op 6: d=None ["store", 392, ["t", 6], ["t", 16]] guard=None (hash.go:63)
  refine RL.storeX (cs := List.replicate 64 (U32 0#32)) (cs' := words K) (vs := words K) (spl_all rfl) Try.sizeOf392 rfl rfl rfl rfl rfl rfl rfl (ones_map one32 _) (by repeat (first | exact Upd.here | apply Upd.there)) (by decide) ?_
  refine RL.nil ?_
  refine NQ.seq ?_
  refine CW.seq ?_
  refine CW.region (ef := [1, 2]) (bk := [2]) ?_
  refine RL.loadN (vs := [_, _, _, _, _, _, _, _]) Try.isAgg360 Try.sizeOf360 rfl rfl rfl rfl (by first | (apply Rds.cel; (solve | (repeat (first | exact List.Mem.head _ | apply List.Mem.tail))); exact at_spec ⟨rfl, rfl, rfl, rfl, rfl, rfl, rfl, rfl, trivial⟩) | (apply Rds.celI; (solve | (repeat (first | exact List.Mem.head _ | apply List.Mem.tail))); exact at_spec ⟨rfl, rfl, rfl, rfl, rfl, rfl, rfl, rfl, trivial⟩) | assumption | (apply RdsI.rds; assumption)) ?_
  refine RL.alloc Try.zeroValue360 rfl rfl rfl rfl rfl ?_
  intro b5
  refine RL.store (vs := [_, _, _, _, _, _, _, _]) Try.sizeOf360 rfl rfl rfl rfl rfl rfl rfl rfl rfl (by repeat (first | exact Upd.here | apply Upd.there)) ?_
  refine RL.nil ?_
  refine NQ.seq ?_
  refine CW.only (.cons (k := 2) rfl (.cons (k := 4) rfl (.cons (k := 5) rfl (.cons (k := 6) rfl (.cons (k := 7) rfl .nil))))) ?_
  refine CW.seq ?_
  refine CW.seq ?_
  refine CW.region (ef := []) (bk := []) ?_
  refine RL.move rfl rfl rfl rfl ?_
  refine RL.nil ?_
  refine NQ.seq ?_
  refine CW.block ?_
  -- STOP: loop; todo top: ["code", ["loop", ["seq", ["region", 4, [{"d": 19, "op": ["binOp", "Go.BinOp.lss", 3, ["t", 18], ["c", ["int", "Go.IntKind.i64", 64]], 3], "ty": 0, "pos": "hash.go:65", "after": [], "guard": null}], f
  refine CW.loop (γ := Nat) (fun n => n ≤ 64) (fun n => [(2, .pointer (some ⟨b1, 0, none⟩)), (4, .pointer (some ⟨b2, 0, none⟩)), (5, .pointer (some ⟨b3, 0, none⟩)), (6, .pointer (some ⟨b4, 0, none⟩)), (7, .pointer (some ⟨b5, 0, none⟩)), (18, .int .i64 n)])
    (fun _ => [sls (some p) 1 64 (bytes m)]) (fun n => [cel b5 (rounds s (ws m 64) n).cells 360, cel b4 (words K) 392, cel b3 (words (ws m 64)) 392, cel b2 (List.replicate 8 (U32 0#32)) 360, cel b1 s.cells 360])
    (fun n => 64 - n) 0 (by omega) (.cons rfl (.cons rfl (.cons rfl (.cons rfl (.cons rfl (.cons rfl .nil)))))) (fun _ h => h) ?_
  intro n hn
  generalize hX : rounds s (ws m 64) n = X
  refine CW.seq ?_
  refine CW.region (ef := []) (bk := []) ?_
  refine RL.bin rfl rfl rfl rfl rfl rfl ?_
  refine RL.nil ?_
  refine NQ.seq ?_
  refine CW.seq ?_
  -- STOP: if; todo top: ["code", ["cond", ["t", 19], ["skip"], ["exit", 0]]]
  refine CW.cond rfl (fun hlt => ?_) (fun hlt => ?_)
  ·
    refine CW.skip ?_
    refine NQ.seq ?_
    refine CW.seq ?_
    refine CW.block ?_
    refine CW.seq ?_
    refine CW.region (ef := []) (bk := []) ?_
    refine RL.move rfl rfl rfl rfl ?_
    refine RL.assign rfl rfl rfl rfl ?_
    refine RL.nil ?_
    refine NQ.seq ?_
    refine CW.seq ?_
    refine CW.regionD (Sq.of [0, 1, 2, 3, 4, 5]) [] [] [0, 2, 4, 5] mixed (by kernel_rfl) ?_
    refine RL.idxAAt (j := 4) Try.runUnderlying360 Try.sizeOf31 rfl rfl rfl rfl rfl rfl (by decide) ?_
    refine RL.load Try.isAgg31 rfl rfl rfl rfl (by first | assumption | (apply RdI.rd; assumption) | (apply Rd.get; (solve | (repeat (first | exact List.Mem.head _ | apply List.Mem.tail))); assumption) | (apply Rd.getS; (solve | (repeat (first | exact List.Mem.head _ | apply List.Mem.tail))); assumption) | (apply Rd.getO; (solve | (repeat (first | exact List.Mem.head _ | apply List.Mem.tail))); assumption) | (apply Rd.getI; (solve | (repeat (first | exact List.Mem.head _ | apply List.Mem.tail))); assumption) | (apply Rd.cel; (solve | (repeat (first | exact List.Mem.head _ | apply List.Mem.tail))); exact rfl) | (apply Rd.celI; (solve | (repeat (first | exact List.Mem.head _ | apply List.Mem.tail))); exact rfl)) ?_
    refine RL.idxAAt (j := 0) Try.runUnderlying360 Try.sizeOf31 rfl rfl rfl rfl rfl rfl (by decide) ?_
    refine RL.load Try.isAgg31 rfl rfl rfl rfl (by first | assumption | (apply RdI.rd; assumption) | (apply Rd.get; (solve | (repeat (first | exact List.Mem.head _ | apply List.Mem.tail))); assumption) | (apply Rd.getS; (solve | (repeat (first | exact List.Mem.head _ | apply List.Mem.tail))); assumption) | (apply Rd.getO; (solve | (repeat (first | exact List.Mem.head _ | apply List.Mem.tail))); assumption) | (apply Rd.getI; (solve | (repeat (first | exact List.Mem.head _ | apply List.Mem.tail))); assumption) | (apply Rd.cel; (solve | (repeat (first | exact List.Mem.head _ | apply List.Mem.tail))); exact rfl) | (apply Rd.celI; (solve | (repeat (first | exact List.Mem.head _ | apply List.Mem.tail))); exact rfl)) ?_
    refine RL.assign rfl rfl rfl rfl ?_
    refine RL.assign rfl rfl rfl rfl ?_
    refine RL.nil ?_
    refine NQ.seq ?_
    refine CW.only (.cons (k := 2) rfl (.cons (k := 4) rfl (.cons (k := 5) rfl (.cons (k := 6) rfl (.cons (k := 7) rfl (.cons (k := 8) rfl (.cons (k := 9) rfl (.cons (k := 10) rfl (.cons (k := 18) rfl .nil))))))))) ?_
    refine CW.seq ?_
    refine CW.regionD (Sq.of [0, 1, 2, 3, 4, 5, 6, 7, 8, 9, 10, 11, 12, 13, 14, 15, 16, 17, 18, 19, 20, 21, 22, 23, 24, 25, 26, 27, 28, 29, 30]) [] [] [0, 2, 4, 6, 7, 9, 10, 11, 12, 14, 15, 16, 17, 19, 20, 21, 22, 23, 25, 26, 27, 29, 30] mixed (by kernel_rfl) ?_
    refine RL.idxAAt (j := 7) Try.runUnderlying360 Try.sizeOf31 rfl rfl rfl rfl rfl rfl (by decide) ?_
    refine RL.load Try.isAgg31 rfl rfl rfl rfl (by first | assumption | (apply RdI.rd; assumption) | (apply Rd.get; (solve | (repeat (first | exact List.Mem.head _ | apply List.Mem.tail))); assumption) | (apply Rd.getS; (solve | (repeat (first | exact List.Mem.head _ | apply List.Mem.tail))); assumption) | (apply Rd.getO; (solve | (repeat (first | exact List.Mem.head _ | apply List.Mem.tail))); assumption) | (apply Rd.getI; (solve | (repeat (first | exact List.Mem.head _ | apply List.Mem.tail))); assumption) | (apply Rd.cel; (solve | (repeat (first | exact List.Mem.head _ | apply List.Mem.tail))); exact rfl) | (apply Rd.celI; (solve | (repeat (first | exact List.Mem.head _ | apply List.Mem.tail))); exact rfl)) ?_
    refine RL.move rfl rfl rfl rfl ?_
    refine RL.callv (hright_any _ _ (by decide) (by decide)) Try.call238 rfl rfl rfl rfl (by repeat (first | exact Lend.nil | (refine Lend.inI ?_ ?_; (solve | (repeat (first | exact List.Mem.head _ | apply List.Mem.tail)))) | (refine Lend.inH ?_ ?_; (solve | (repeat (first | exact List.Mem.head _ | apply List.Mem.tail)))))) ?_
    refine RL.move rfl rfl rfl rfl ?_
    refine RL.callv (hright_any _ _ (by decide) (by decide)) Try.call238 rfl rfl rfl rfl (by repeat (first | exact Lend.nil | (refine Lend.inI ?_ ?_; (solve | (repeat (first | exact List.Mem.head _ | apply List.Mem.tail)))) | (refine Lend.inH ?_ ?_; (solve | (repeat (first | exact List.Mem.head _ | apply List.Mem.tail)))))) ?_
    refine RL.bv32 (a := _) (b := _) xor32 rfl rfl rfl rfl rfl ?_
    refine RL.move rfl rfl rfl rfl ?_
    refine RL.callv (hright_any _ _ (by decide) (by decide)) Try.call238 rfl rfl rfl rfl (by repeat (first | exact Lend.nil | (refine Lend.inI ?_ ?_; (solve | (repeat (first | exact List.Mem.head _ | apply List.Mem.tail)))) | (refine Lend.inH ?_ ?_; (solve | (repeat (first | exact List.Mem.head _ | apply List.Mem.tail)))))) ?_
    refine RL.bv32 (a := _) (b := _) xor32 rfl rfl rfl rfl rfl ?_
    refine RL.bv32 (a := _) (b := _) add32 rfl rfl rfl rfl rfl ?_
    refine RL.move rfl rfl rfl rfl ?_
    refine RL.idxAAt (j := 5) Try.runUnderlying360 Try.sizeOf31 rfl rfl rfl rfl rfl rfl (by decide) ?_
    refine RL.load Try.isAgg31 rfl rfl rfl rfl (by first | assumption | (apply RdI.rd; assumption) | (apply Rd.get; (solve | (repeat (first | exact List.Mem.head _ | apply List.Mem.tail))); assumption) | (apply Rd.getS; (solve | (repeat (first | exact List.Mem.head _ | apply List.Mem.tail))); assumption) | (apply Rd.getO; (solve | (repeat (first | exact List.Mem.head _ | apply List.Mem.tail))); assumption) | (apply Rd.getI; (solve | (repeat (first | exact List.Mem.head _ | apply List.Mem.tail))); assumption) | (apply Rd.cel; (solve | (repeat (first | exact List.Mem.head _ | apply List.Mem.tail))); exact rfl) | (apply Rd.celI; (solve | (repeat (first | exact List.Mem.head _ | apply List.Mem.tail))); exact rfl)) ?_
    refine RL.bv32 (a := _) (b := _) and32 rfl rfl rfl rfl rfl ?_
    refine RL.move rfl rfl rfl rfl ?_
    refine RL.inv32 rfl rfl rfl rfl ?_
    refine RL.idxAAt (j := 6) Try.runUnderlying360 Try.sizeOf31 rfl rfl rfl rfl rfl rfl (by decide) ?_
    refine RL.load Try.isAgg31 rfl rfl rfl rfl (by first | assumption | (apply RdI.rd; assumption) | (apply Rd.get; (solve | (repeat (first | exact List.Mem.head _ | apply List.Mem.tail))); assumption) | (apply Rd.getS; (solve | (repeat (first | exact List.Mem.head _ | apply List.Mem.tail))); assumption) | (apply Rd.getO; (solve | (repeat (first | exact List.Mem.head _ | apply List.Mem.tail))); assumption) | (apply Rd.getI; (solve | (repeat (first | exact List.Mem.head _ | apply List.Mem.tail))); assumption) | (apply Rd.cel; (solve | (repeat (first | exact List.Mem.head _ | apply List.Mem.tail))); exact rfl) | (apply Rd.celI; (solve | (repeat (first | exact List.Mem.head _ | apply List.Mem.tail))); exact rfl)) ?_
    refine RL.bv32 (a := _) (b := _) and32 rfl rfl rfl rfl rfl ?_
    refine RL.bv32 (a := _) (b := _) xor32 rfl rfl rfl rfl rfl ?_
    refine RL.bv32 (a := _) (b := _) add32 rfl rfl rfl rfl rfl ?_
    refine RL.move rfl rfl rfl rfl ?_
    -- STOP: op; op 23: d=48 ["indexAddr", 392, ["t", 6], ["t", 47]] guard=None (hash.go:67)
    have hlt : n < 64 := by simp at hlt; omega
    have gk := K_get hlt
    refine RL.idxAAt (j := n) Try.runUnderlying392 Try.sizeOf31 rfl rfl rfl rfl rfl rfl (by omega) ?_
    refine RL.load Try.isAgg31 rfl rfl rfl rfl (by first | assumption | (apply RdI.rd; assumption) | (apply Rd.get; (solve | (repeat (first | exact List.Mem.head _ | apply List.Mem.tail))); assumption) | (apply Rd.getS; (solve | (repeat (first | exact List.Mem.head _ | apply List.Mem.tail))); assumption) | (apply Rd.getO; (solve | (repeat (first | exact List.Mem.head _ | apply List.Mem.tail))); assumption) | (apply Rd.getI; (solve | (repeat (first | exact List.Mem.head _ | apply List.Mem.tail))); assumption) | (apply Rd.cel; (solve | (repeat (first | exact List.Mem.head _ | apply List.Mem.tail))); exact rfl) | (apply Rd.celI; (solve | (repeat (first | exact List.Mem.head _ | apply List.Mem.tail))); exact rfl)) ?_
    refine RL.bv32 (a := _) (b := _) add32 rfl rfl rfl rfl rfl ?_
    refine RL.move rfl rfl rfl rfl ?_
    -- STOP: op; op 27: d=52 ["indexAddr", 392, ["t", 5], ["t", 51]] guard=None (hash.go:67)
    clear gk
    have gw := W_get m hlt
    refine RL.idxAAt (j := n) Try.runUnderlying392 Try.sizeOf31 rfl rfl rfl rfl rfl rfl (by omega) ?_
    refine RL.load Try.isAgg31 rfl rfl rfl rfl (Rd.get (by repeat (first | exact List.Mem.head _ | apply List.Mem.tail)) gw) ?_
    clear gw
    refine RL.bv32 (a := _) (b := _) add32 rfl rfl rfl rfl rfl ?_
    refine RL.assign rfl rfl rfl rfl ?_
    refine RL.nil ?_
    refine NQ.seq ?_
    refine CW.only (.cons (k := 2) rfl (.cons (k := 4) rfl (.cons (k := 5) rfl (.cons (k := 6) rfl (.cons (k := 7) rfl (.cons (k := 10) rfl (.cons (k := 11) rfl (.cons (k := 18) rfl .nil)))))))) ?_
    refine CW.seq ?_
    refine CW.regionD (Sq.of [0, 1, 2, 3, 4, 5, 6, 7, 8, 9, 10, 11, 12, 13, 14, 15, 16, 17, 18, 19, 20, 21, 22, 23, 24]) [] [] [0, 2, 4, 5, 7, 8, 9, 11, 12, 13, 15, 16, 17, 19, 21, 22, 23, 24] mixed (by kernel_rfl) ?_
    refine RL.move rfl rfl rfl rfl ?_
    refine RL.callv (hright_any _ _ (by decide) (by decide)) Try.call238 rfl rfl rfl rfl (by repeat (first | exact Lend.nil | (refine Lend.inI ?_ ?_; (solve | (repeat (first | exact List.Mem.head _ | apply List.Mem.tail)))) | (refine Lend.inH ?_ ?_; (solve | (repeat (first | exact List.Mem.head _ | apply List.Mem.tail)))))) ?_
    refine RL.move rfl rfl rfl rfl ?_
    refine RL.callv (hright_any _ _ (by decide) (by decide)) Try.call238 rfl rfl rfl rfl (by repeat (first | exact Lend.nil | (refine Lend.inI ?_ ?_; (solve | (repeat (first | exact List.Mem.head _ | apply List.Mem.tail)))) | (refine Lend.inH ?_ ?_; (solve | (repeat (first | exact List.Mem.head _ | apply List.Mem.tail)))))) ?_
    refine RL.bv32 (a := _) (b := _) xor32 rfl rfl rfl rfl rfl ?_
    refine RL.move rfl rfl rfl rfl ?_
    refine RL.callv (hright_any _ _ (by decide) (by decide)) Try.call238 rfl rfl rfl rfl (by repeat (first | exact Lend.nil | (refine Lend.inI ?_ ?_; (solve | (repeat (first | exact List.Mem.head _ | apply List.Mem.tail)))) | (refine Lend.inH ?_ ?_; (solve | (repeat (first | exact List.Mem.head _ | apply List.Mem.tail)))))) ?_
    refine RL.bv32 (a := _) (b := _) xor32 rfl rfl rfl rfl rfl ?_
    refine RL.move rfl rfl rfl rfl ?_
    refine RL.idxAAt (j := 1) Try.runUnderlying360 Try.sizeOf31 rfl rfl rfl rfl rfl rfl (by decide) ?_
    refine RL.load Try.isAgg31 rfl rfl rfl rfl (by first | assumption | (apply RdI.rd; assumption) | (apply Rd.get; (solve | (repeat (first | exact List.Mem.head _ | apply List.Mem.tail))); assumption) | (apply Rd.getS; (solve | (repeat (first | exact List.Mem.head _ | apply List.Mem.tail))); assumption) | (apply Rd.getO; (solve | (repeat (first | exact List.Mem.head _ | apply List.Mem.tail))); assumption) | (apply Rd.getI; (solve | (repeat (first | exact List.Mem.head _ | apply List.Mem.tail))); assumption) | (apply Rd.cel; (solve | (repeat (first | exact List.Mem.head _ | apply List.Mem.tail))); exact rfl) | (apply Rd.celI; (solve | (repeat (first | exact List.Mem.head _ | apply List.Mem.tail))); exact rfl)) ?_
    refine RL.bv32 (a := _) (b := _) and32 rfl rfl rfl rfl rfl ?_
    refine RL.move rfl rfl rfl rfl ?_
    refine RL.idxAAt (j := 2) Try.runUnderlying360 Try.sizeOf31 rfl rfl rfl rfl rfl rfl (by decide) ?_
    refine RL.load Try.isAgg31 rfl rfl rfl rfl (by first | assumption | (apply RdI.rd; assumption) | (apply Rd.get; (solve | (repeat (first | exact List.Mem.head _ | apply List.Mem.tail))); assumption) | (apply Rd.getS; (solve | (repeat (first | exact List.Mem.head _ | apply List.Mem.tail))); assumption) | (apply Rd.getO; (solve | (repeat (first | exact List.Mem.head _ | apply List.Mem.tail))); assumption) | (apply Rd.getI; (solve | (repeat (first | exact List.Mem.head _ | apply List.Mem.tail))); assumption) | (apply Rd.cel; (solve | (repeat (first | exact List.Mem.head _ | apply List.Mem.tail))); exact rfl) | (apply Rd.celI; (solve | (repeat (first | exact List.Mem.head _ | apply List.Mem.tail))); exact rfl)) ?_
    refine RL.bv32 (a := _) (b := _) and32 rfl rfl rfl rfl rfl ?_
    refine RL.bv32 (a := _) (b := _) xor32 rfl rfl rfl rfl rfl ?_
    refine RL.idxAAt (j := 1) Try.runUnderlying360 Try.sizeOf31 rfl rfl rfl rfl rfl rfl (by decide) ?_
    refine RL.load Try.isAgg31 rfl rfl rfl rfl (by first | assumption | (apply RdI.rd; assumption) | (apply Rd.get; (solve | (repeat (first | exact List.Mem.head _ | apply List.Mem.tail))); assumption) | (apply Rd.getS; (solve | (repeat (first | exact List.Mem.head _ | apply List.Mem.tail))); assumption) | (apply Rd.getO; (solve | (repeat (first | exact List.Mem.head _ | apply List.Mem.tail))); assumption) | (apply Rd.getI; (solve | (repeat (first | exact List.Mem.head _ | apply List.Mem.tail))); assumption) | (apply Rd.cel; (solve | (repeat (first | exact List.Mem.head _ | apply List.Mem.tail))); exact rfl) | (apply Rd.celI; (solve | (repeat (first | exact List.Mem.head _ | apply List.Mem.tail))); exact rfl)) ?_
    refine RL.idxAAt (j := 2) Try.runUnderlying360 Try.sizeOf31 rfl rfl rfl rfl rfl rfl (by decide) ?_
    refine RL.load Try.isAgg31 rfl rfl rfl rfl (by first | assumption | (apply RdI.rd; assumption) | (apply Rd.get; (solve | (repeat (first | exact List.Mem.head _ | apply List.Mem.tail))); assumption) | (apply Rd.getS; (solve | (repeat (first | exact List.Mem.head _ | apply List.Mem.tail))); assumption) | (apply Rd.getO; (solve | (repeat (first | exact List.Mem.head _ | apply List.Mem.tail))); assumption) | (apply Rd.getI; (solve | (repeat (first | exact List.Mem.head _ | apply List.Mem.tail))); assumption) | (apply Rd.cel; (solve | (repeat (first | exact List.Mem.head _ | apply List.Mem.tail))); exact rfl) | (apply Rd.celI; (solve | (repeat (first | exact List.Mem.head _ | apply List.Mem.tail))); exact rfl)) ?_
    refine RL.bv32 (a := _) (b := _) and32 rfl rfl rfl rfl rfl ?_
    refine RL.bv32 (a := _) (b := _) xor32 rfl rfl rfl rfl rfl ?_
    refine RL.bv32 (a := _) (b := _) add32 rfl rfl rfl rfl rfl ?_
    refine RL.assign rfl rfl rfl rfl ?_
    refine RL.nil ?_
    refine NQ.seq ?_
    refine CW.only (.cons (k := 2) rfl (.cons (k := 4) rfl (.cons (k := 5) rfl (.cons (k := 6) rfl (.cons (k := 7) rfl (.cons (k := 11) rfl (.cons (k := 12) rfl (.cons (k := 18) rfl .nil)))))))) ?_
    refine CW.seq ?_
    refine CW.regionD (Sq.of [0, 1, 2]) [2] [2] [0, 1] mixed (by kernel_rfl) ?_
    -- STOP: op; op 0: d=79 ["slice", 360, ["t", 7], ["c", ["int", "Go.IntKind.i64", 1]], null, null] guard=None (hash.go:69)
    refine RL.sliceA (lo := 1) (hi := 8) Try.runUnderlying360 Try.sizeOf31 rfl rfl rfl rfl rfl rfl (by decide) (by decide) (by decide) ?_
    -- STOP: op; op 1: d=80 ["slice", 360, ["t", 7], null, ["c", ["int", "Go.IntKind.i64", 7]], null] guard=None (hash.go:69)
    refine RL.sliceA (lo := 0) (hi := 7) Try.runUnderlying360 Try.sizeOf31 rfl rfl rfl rfl rfl rfl (by decide) (by decide) (by decide) ?_
    -- STOP: op; op 2: d=81 ["builtin", "Go.Builtin.copy", [["t", 79], ["t", 80]], [357, 357]] guard=None (hash.go:69)
    refine RL.copy Try.runUnderlying357 Try.sizeOf31 rfl rfl rfl rfl rfl rfl rfl (Src.celAt (cs := X.cells) (by repeat (first | exact List.Mem.head _ | apply List.Mem.tail)) (by show 7 ≤ 8; decide)) (by intro u hu; simp [S8.cells] at hu; rcases hu with rfl | rfl | rfl | rfl | rfl | rfl | rfl <;> rfl) (by repeat (first | exact Upd.here | apply Upd.there)) (by show 8 ≤ 8; decide) ?_
    refine RL.nil ?_
    refine NQ.seq ?_
    refine CW.seq ?_
    refine CW.region (ef := [5]) (bk := [5]) ?_
    refine RL.idxAAt (j := 4) Try.runUnderlying360 Try.sizeOf31 rfl rfl rfl rfl rfl rfl (by decide) ?_
    refine RL.load Try.isAgg31 rfl rfl rfl rfl (by first | assumption | (apply RdI.rd; assumption) | (apply Rd.get; (solve | (repeat (first | exact List.Mem.head _ | apply List.Mem.tail))); assumption) | (apply Rd.getS; (solve | (repeat (first | exact List.Mem.head _ | apply List.Mem.tail))); assumption) | (apply Rd.getO; (solve | (repeat (first | exact List.Mem.head _ | apply List.Mem.tail))); assumption) | (apply Rd.getI; (solve | (repeat (first | exact List.Mem.head _ | apply List.Mem.tail))); assumption) | (apply Rd.cel; (solve | (repeat (first | exact List.Mem.head _ | apply List.Mem.tail))); exact rfl) | (apply Rd.celI; (solve | (repeat (first | exact List.Mem.head _ | apply List.Mem.tail))); exact rfl)) ?_
    refine RL.move rfl rfl rfl rfl ?_
    refine RL.bv32 (a := _) (b := _) add32 rfl rfl rfl rfl rfl ?_
    refine RL.idxAAt (j := 4) Try.runUnderlying360 Try.sizeOf31 rfl rfl rfl rfl rfl rfl (by decide) ?_
    refine RL.store (vs := [_]) Try.sizeOf31 rfl rfl rfl rfl rfl rfl rfl rfl rfl (by repeat (first | exact Upd.here | apply Upd.there)) ?_
    refine RL.nil ?_
    refine NQ.seq ?_
    refine CW.only (.cons (k := 2) rfl (.cons (k := 4) rfl (.cons (k := 5) rfl (.cons (k := 6) rfl (.cons (k := 7) rfl (.cons (k := 11) rfl (.cons (k := 12) rfl (.cons (k := 18) rfl .nil)))))))) ?_
    refine CW.region (ef := [4]) (bk := [4]) ?_
    refine RL.move rfl rfl rfl rfl ?_
    refine RL.move rfl rfl rfl rfl ?_
    refine RL.bv32 (a := _) (b := _) add32 rfl rfl rfl rfl rfl ?_
    refine RL.idxAAt (j := 0) Try.runUnderlying360 Try.sizeOf31 rfl rfl rfl rfl rfl rfl (by decide) ?_
    refine RL.store (vs := [_]) Try.sizeOf31 rfl rfl rfl rfl rfl rfl rfl rfl rfl (by repeat (first | exact Upd.here | apply Upd.there)) ?_
    refine RL.nil ?_
    refine NQ.block ?_
    refine NQ.seq ?_
    refine CW.only (.cons (k := 2) rfl (.cons (k := 4) rfl (.cons (k := 5) rfl (.cons (k := 6) rfl (.cons (k := 7) rfl (.cons (k := 18) rfl .nil)))))) ?_
    refine CW.region (ef := []) (bk := []) ?_
    refine RL.binX rfl rfl rfl rfl rfl rfl (wrapV_i64 (by omega) (by omega)) ?_
    refine RL.move rfl rfl rfl rfl ?_
    refine RL.nil ?_
    -- STOP: round; todo top: ["N"]
    refine NQ.round (g := n) (n + 1) (by omega) (by omega) (.cons rfl (.cons rfl (.cons rfl (.cons rfl (.cons rfl (.cons rfl .nil)))))) (fun _ h => ?_)
    have hR : rounds s (ws m 64) (n + 1) = rnd X (K.getD n 0) ((ws m 64).getD n 0) := by rw [rounds, hX]
    rw [hR]
    exact h
  ·
    refine CW.exit ?_
    refine XQ.seq ?_
    refine XQ.seq ?_
    refine XQ.hit ?_
    refine NQ.seq ?_
    refine CW.seq ?_
    refine CW.seq ?_
    refine CW.region (ef := []) (bk := []) ?_
    refine RL.move rfl rfl rfl rfl ?_
    refine RL.nil ?_
    refine NQ.seq ?_
    refine CW.block ?_
    -- STOP: loop; todo top: ["code", ["loop", ["seq", ["region", 14, [{"d": 93, "op": ["binOp", "Go.BinOp.lss", 3, ["t", 92], ["c", ["int", "Go.IntKind.i64", 8]], 3], "ty": 0, "pos": "hash.go:73", "after": [], "guard": null}], f
    have hn64 : n = 64 := by simp at hlt; omega
    subst hn64
    refine CW.loop (γ := Nat) (fun n => n ≤ 8) (fun n => [(2, .pointer (some ⟨b1, 0, none⟩)), (4, .pointer (some ⟨b2, 0, none⟩)), (7, .pointer (some ⟨b5, 0, none⟩)), (92, .int .i64 n)])
      (fun _ => [sls (some p) 1 64 (bytes m)]) (fun n => [cel b5 X.cells 360, cel b2 (List.replicate 8 (U32 0#32)) 360, cel b1 ((addS s X).cells.take n ++ s.cells.drop n) 360])
      (fun n => 8 - n) 0 (by omega) (.cons rfl (.cons rfl (.cons rfl (.cons rfl .nil)))) (fun _ h => h.rea (fun _ h => h) (by repeat (first | exact Rea.nil | (apply Rea.cons; (solve | (repeat (first | exact Del.here | apply Del.there))))))) ?_
    intro n hn
    refine CW.seq ?_
    refine CW.region (ef := []) (bk := []) ?_
    refine RL.bin rfl rfl rfl rfl rfl rfl ?_
    refine RL.nil ?_
    refine NQ.seq ?_
    refine CW.seq ?_
    -- STOP: if; todo top: ["code", ["cond", ["t", 93], ["skip"], ["exit", 2]]]
    refine CW.cond rfl (fun hlt => ?_) (fun hlt => ?_)
    ·
      refine CW.skip ?_
      refine NQ.seq ?_
      refine CW.seq ?_
      refine CW.block ?_
      refine CW.seq ?_
      refine CW.region (ef := []) (bk := []) ?_
      refine RL.move rfl rfl rfl rfl ?_
      refine RL.assign rfl rfl rfl rfl ?_
      refine RL.nil ?_
      refine NQ.seq ?_
      refine CW.regionD (Sq.of [0, 1, 2, 3, 4, 5, 6, 7, 8]) [8] [8] [0, 1, 3, 4, 6, 7] mixed (by kernel_rfl) ?_
      refine RL.move rfl rfl rfl rfl ?_
      -- STOP: op; op 1: d=96 ["indexAddr", 360, ["t", 2], ["t", 95]] guard=None (hash.go:74)
      have hlt : n < 8 := by simp at hlt; omega
      have h1 : ((addS s X).cells.take n ++ s.cells.drop n)[0 + n * 1]? = some (U32 (sget s n)) := by rw [get_mix hlt, sget_cells s n hlt]
      refine RL.idxAAt (j := n) Try.runUnderlying360 Try.sizeOf31 rfl rfl rfl rfl rfl rfl (by omega) ?_
      refine RL.load Try.isAgg31 rfl rfl rfl rfl (by first | assumption | (apply RdI.rd; assumption) | (apply Rd.get; (solve | (repeat (first | exact List.Mem.head _ | apply List.Mem.tail))); assumption) | (apply Rd.getS; (solve | (repeat (first | exact List.Mem.head _ | apply List.Mem.tail))); assumption) | (apply Rd.getO; (solve | (repeat (first | exact List.Mem.head _ | apply List.Mem.tail))); assumption) | (apply Rd.getI; (solve | (repeat (first | exact List.Mem.head _ | apply List.Mem.tail))); assumption) | (apply Rd.cel; (solve | (repeat (first | exact List.Mem.head _ | apply List.Mem.tail))); exact rfl) | (apply Rd.celI; (solve | (repeat (first | exact List.Mem.head _ | apply List.Mem.tail))); exact rfl)) ?_
      refine RL.move rfl rfl rfl rfl ?_
      -- STOP: op; op 4: d=99 ["indexAddr", 360, ["t", 7], ["t", 98]] guard=None (hash.go:74)
      have h2 : X.cells[0 + n * 1]? = some (U32 (sget X n)) := by rw [Nat.zero_add, Nat.mul_one, sget_cells X n hlt]
      clear h1
      refine RL.idxAAt (j := n) Try.runUnderlying360 Try.sizeOf31 rfl rfl rfl rfl rfl rfl (by omega) ?_
      refine RL.load Try.isAgg31 rfl rfl rfl rfl (by first | assumption | (apply RdI.rd; assumption) | (apply Rd.get; (solve | (repeat (first | exact List.Mem.head _ | apply List.Mem.tail))); assumption) | (apply Rd.getS; (solve | (repeat (first | exact List.Mem.head _ | apply List.Mem.tail))); assumption) | (apply Rd.getO; (solve | (repeat (first | exact List.Mem.head _ | apply List.Mem.tail))); assumption) | (apply Rd.getI; (solve | (repeat (first | exact List.Mem.head _ | apply List.Mem.tail))); assumption) | (apply Rd.cel; (solve | (repeat (first | exact List.Mem.head _ | apply List.Mem.tail))); exact rfl) | (apply Rd.celI; (solve | (repeat (first | exact List.Mem.head _ | apply List.Mem.tail))); exact rfl)) ?_
      refine RL.bv32 (a := _) (b := _) add32 rfl rfl rfl rfl rfl ?_
      -- STOP: op; op 7: d=102 ["indexAddr", 360, ["t", 2], ["t", 95]] guard=None (hash.go:74)
      clear h2
      refine RL.idxAAt (j := n) Try.runUnderlying360 Try.sizeOf31 rfl rfl rfl rfl rfl rfl (by omega) ?_
      -- STOP: op; op 8: d=None ["store", 31, ["t", 102], ["t", 101]] guard=None (hash.go:74)
      refine RL.storeX (cs' := (addS s X).cells.take (n + 1) ++ s.cells.drop (n + 1)) (vs := [_]) (spl_mix (l1 := s.cells) (l2 := (addS s X).cells) rfl (by rw [sget_cells _ n hlt, sget_add s X n hlt])) Try.sizeOf31 rfl rfl rfl rfl rfl rfl rfl rfl (by repeat (first | exact Upd.here | apply Upd.there)) (by simp; omega) ?_
      refine RL.nil ?_
      refine NQ.block ?_
      refine NQ.seq ?_
      refine CW.only (.cons (k := 2) rfl (.cons (k := 4) rfl (.cons (k := 7) rfl (.cons (k := 92) rfl .nil)))) ?_
      refine CW.region (ef := []) (bk := []) ?_
      refine RL.binX rfl rfl rfl rfl rfl rfl (wrapV_i64 (by omega) (by omega)) ?_
      refine RL.move rfl rfl rfl rfl ?_
      refine RL.nil ?_
      -- STOP: round; todo top: ["N"]
      exact NQ.round (g := n) (n + 1) (by omega) (by omega) (.cons rfl (.cons rfl (.cons rfl (.cons rfl .nil)))) (fun _ h => h)
    ·
      have hn8 : n = 8 := by simp at hlt; omega
      subst hn8
      refine CW.exit ?_
      refine XQ.seq ?_
      refine XQ.seq ?_
      refine XQ.hit ?_
      refine NQ.seq ?_
      refine CW.seq ?_
      refine CW.region (ef := [1]) (bk := [1]) ?_
      refine RL.loadN (vs := [_, _, _, _, _, _, _, _]) Try.isAgg360 Try.sizeOf360 rfl rfl rfl rfl (by first | (apply Rds.cel; (solve | (repeat (first | exact List.Mem.head _ | apply List.Mem.tail))); exact at_spec ⟨rfl, rfl, rfl, rfl, rfl, rfl, rfl, rfl, trivial⟩) | (apply Rds.celI; (solve | (repeat (first | exact List.Mem.head _ | apply List.Mem.tail))); exact at_spec ⟨rfl, rfl, rfl, rfl, rfl, rfl, rfl, rfl, trivial⟩) | assumption | (apply RdsI.rds; assumption)) ?_
      refine RL.store (vs := [_, _, _, _, _, _, _, _]) Try.sizeOf360 rfl rfl rfl rfl rfl rfl rfl rfl rfl (by repeat (first | exact Upd.here | apply Upd.there)) ?_
      refine RL.nil ?_
      refine NQ.seq ?_
      refine CW.ret ?_
      -- STOP: ret; end
      exact RQ.post (resC rfl rfl Try.isAgg360 (vs := [_, _, _, _, _, _, _, _]) Try.sizeOf360 (by first | (apply Rds.cel; (solve | (repeat (first | exact List.Mem.head _ | apply List.Mem.tail))); exact at_spec ⟨rfl, rfl, rfl, rfl, rfl, rfl, rfl, rfl, trivial⟩) | (apply Rds.celI; (solve | (repeat (first | exact List.Mem.head _ | apply List.Mem.tail))); exact at_spec ⟨rfl, rfl, rfl, rfl, rfl, rfl, rfl, rfl, trivial⟩) | assumption | (apply RdsI.rds; assumption))) (Split.none _) ⟨by rw [comp, hX], rfl, rfl⟩
end Go.Proofs.Ytkkfdoippibfkaa
