import Derived.Test.YtkkfdoippibfkaaHash4
namespace Go.Proofs.Ytkkfdoippibfkaa
open Go.PK

theorem ws_get (m : List B8) {n j : Nat} (h : j < n) : (words (ws m n))[j * 1]? = some (U32 ((ws m n).getD j 0)) := by
  have : j < (ws m n).length := by rw [ws_length]; exact h
  rw [Nat.mul_one]; simp [this]
theorem ws_more (m : List B8) (n : Nat) {x : B32} (h : word m (ws m n) n = x) : words (ws m n) ++ [U32 x] = words (ws m (n + 1)) := by
  rw [ws, h]; simp

set_option maxHeartbeats 4000000 in
theorem block_any (s : S8) (m : List B8) (p : Addr) (cap : Nat) (hm : m.length = 64) : Spc Try.prog 166 #[.agg s.cells.toArray, .slice (some p) 64 cap] [sls (some p) 1 64 (bytes m)] [] (Is (.agg (comp s m).cells.toArray)) := by
  refine Spc.enter Try.func166 rfl rfl rfl (fun w0 hw0 => ?_)
  refine CW.seq ?_
  refine CW.region (ef := [0, 1]) (bk := []) ?_
  refine RL.box rfl rfl rfl rfl rfl rfl ?_
  intro b1
  refine RL.alloc Try.zeroValue298 rfl rfl rfl rfl rfl ?_
  intro b2
  refine RL.nil ?_
  refine NQ.seq ?_
  refine CW.seq ?_
  refine CW.region (ef := [0]) (bk := []) ?_
  refine RL.buildSlice [] Try.runUnderlying357 Try.sizeOf31 Try.zeroValue31 rfl rfl (by decide) (by decide) rfl rfl rfl rfl rfl rfl ?_
  intro b3
  refine RL.assign rfl rfl rfl rfl ?_
  refine RL.nil ?_
  refine NQ.seq ?_
  refine CW.seq ?_
  refine CW.seq ?_
  refine CW.region (ef := []) (bk := []) ?_
  refine RL.assign rfl rfl rfl rfl ?_
  refine RL.nil ?_
  refine NQ.seq ?_
  refine CW.block ?_
  -- STOP: loop; todo top: ["code", ["loop", ["seq", ["seq", ["region", 3, [{"d": 25, "op": ["move", ["t", 6]], "ty": 3, "pos": "ref.go:58", "after": [], "guard": null}, {"d": 26, "op": ["binOp", "Go.BinOp.lss", 3, ["t", 25], [
  refine CW.loop (γ := Nat × Nat × Nat) (fun g => g.1 ≤ 16) (fun g => [(1, .slice (some p) 64 cap), (2, .pointer (some ⟨b1, 0, none⟩)), (4, .pointer (some ⟨b2, 0, none⟩)), (5, slO (some g.2.1) g.1 g.2.2), (6, .int .i64 (g.1 : Int))])
    (fun _ => [sls (some p) 1 64 (bytes m)]) (fun g => [own (some g.2.1) g.2.2 31 1 g.1 (words (ws m g.1)), cel b2 (List.replicate 8 (U32 0#32)) 298, cel b1 s.cells 298]) (fun g => 16 - g.1) (0, b3, 0) (by simp) (.cons rfl (.cons rfl (.cons rfl (.cons rfl (.cons rfl .nil)))))
    (fun _ h => h.conv .here rfl (fun hA => own_of_cel hA (Nat.le_refl 0) (Nat.zero_le _) rfl)) ?_
  rintro ⟨n, b, c⟩ hn
  dsimp only at hn ⊢
  refine CW.seq ?_
  refine CW.seq ?_
  refine CW.region (ef := []) (bk := []) ?_
  refine RL.move rfl rfl rfl rfl ?_
  refine RL.bin rfl rfl rfl rfl rfl rfl ?_
  refine RL.nil ?_
  refine NQ.seq ?_
  -- STOP: if; todo top: ["code", ["cond", ["t", 26], ["skip"], ["exit", 0]]]
  refine CW.cond rfl (fun hlt => ?_) (fun hlt => ?_)
  ·
    refine CW.skip ?_
    refine NQ.seq ?_
    refine CW.seq ?_
    refine CW.block ?_
    refine CW.regionD (Sq.of [0, 1, 2, 3, 4, 5, 6, 7, 8, 9, 10, 11, 12, 13, 14, 15, 16, 17, 18, 19, 20, 21, 22, 23, 24, 25, 26, 27, 28, 29, 30, 31, 32, 33, 34, 35, 36]) [34, 35] [35] [0, 1, 2, 3, 4, 6, 7, 8, 9, 10, 11, 12, 14, 15, 16, 17, 18, 19, 20, 21, 23, 24, 25, 26, 27, 28, 29, 30, 32, 33, 36] mixed (by kernel_rfl) ?_
    refine RL.move rfl rfl rfl rfl ?_
    refine RL.move rfl rfl rfl rfl ?_
    refine RL.move rfl rfl rfl rfl ?_
    refine RL.binX rfl rfl rfl rfl rfl rfl (wrapV_i64 (by omega) (by omega)) ?_
    -- STOP: op; op 4: d=33 ["indexAddr", 95, ["t", 30], ["t", 32]] guard=None (ref.go:59)
    have hlt : n < 16 := by simp at hlt; omega
    have g0 := bytes_get (m := m) (j := (4 * n) * 1) (by omega)
    have g1 := bytes_get (m := m) (j := (4 * n + 1) * 1) (by omega)
    have g2 := bytes_get (m := m) (j := (4 * n + 2) * 1) (by omega)
    have g3 := bytes_get (m := m) (j := (4 * n + 3) * 1) (by omega)
    refine RL.idx (j := 4 * n) Try.runUnderlying95 Try.sizeOf5 rfl rfl rfl rfl rfl (by omega) (by omega) ?_
    refine RL.load Try.isAgg5 rfl rfl rfl rfl (by first | assumption | (apply RdI.rd; assumption) | (apply Rd.get; (solve | (repeat (first | exact List.Mem.head _ | apply List.Mem.tail))); assumption) | (apply Rd.getS; (solve | (repeat (first | exact List.Mem.head _ | apply List.Mem.tail))); assumption) | (apply Rd.getO; (solve | (repeat (first | exact List.Mem.head _ | apply List.Mem.tail))); assumption) | (apply Rd.getI; (solve | (repeat (first | exact List.Mem.head _ | apply List.Mem.tail))); assumption) | (apply Rd.cel; (solve | (repeat (first | exact List.Mem.head _ | apply List.Mem.tail))); exact rfl) | (apply Rd.celI; (solve | (repeat (first | exact List.Mem.head _ | apply List.Mem.tail))); exact rfl)) ?_
    refine RL.widen Try.runUnderlying5 Try.runUnderlying31 rfl rfl rfl rfl ?_
    refine RL.bv32 (a := 16777216#32) (b := _) mul32 rfl rfl rfl rfl rfl ?_
    refine RL.move rfl rfl rfl rfl ?_
    refine RL.move rfl rfl rfl rfl ?_
    refine RL.binX rfl rfl rfl rfl rfl rfl (wrapV_i64 (by omega) (by omega)) ?_
    refine RL.binX rfl rfl rfl rfl rfl rfl (wrapV_i64 (by omega) (by omega)) ?_
    -- STOP: op; op 12: d=41 ["indexAddr", 95, ["t", 37], ["t", 40]] guard=None (ref.go:59)
    refine RL.idx (j := 4 * n + 1) Try.runUnderlying95 Try.sizeOf5 rfl rfl rfl rfl rfl (by omega) (by omega) ?_
    refine RL.load Try.isAgg5 rfl rfl rfl rfl (by first | assumption | (apply RdI.rd; assumption) | (apply Rd.get; (solve | (repeat (first | exact List.Mem.head _ | apply List.Mem.tail))); assumption) | (apply Rd.getS; (solve | (repeat (first | exact List.Mem.head _ | apply List.Mem.tail))); assumption) | (apply Rd.getO; (solve | (repeat (first | exact List.Mem.head _ | apply List.Mem.tail))); assumption) | (apply Rd.getI; (solve | (repeat (first | exact List.Mem.head _ | apply List.Mem.tail))); assumption) | (apply Rd.cel; (solve | (repeat (first | exact List.Mem.head _ | apply List.Mem.tail))); exact rfl) | (apply Rd.celI; (solve | (repeat (first | exact List.Mem.head _ | apply List.Mem.tail))); exact rfl)) ?_
    refine RL.widen Try.runUnderlying5 Try.runUnderlying31 rfl rfl rfl rfl ?_
    refine RL.bv32 (a := 65536#32) (b := _) mul32 rfl rfl rfl rfl rfl ?_
    refine RL.bv32 (a := _) (b := _) add32 rfl rfl rfl rfl rfl ?_
    refine RL.move rfl rfl rfl rfl ?_
    refine RL.move rfl rfl rfl rfl ?_
    refine RL.binX rfl rfl rfl rfl rfl rfl (wrapV_i64 (by omega) (by omega)) ?_
    refine RL.binX rfl rfl rfl rfl rfl rfl (wrapV_i64 (by omega) (by omega)) ?_
    -- STOP: op; op 21: d=50 ["indexAddr", 95, ["t", 46], ["t", 49]] guard=None (ref.go:59)
    refine RL.idx (j := 4 * n + 2) Try.runUnderlying95 Try.sizeOf5 rfl rfl rfl rfl rfl (by omega) (by omega) ?_
    refine RL.load Try.isAgg5 rfl rfl rfl rfl (by first | assumption | (apply RdI.rd; assumption) | (apply Rd.get; (solve | (repeat (first | exact List.Mem.head _ | apply List.Mem.tail))); assumption) | (apply Rd.getS; (solve | (repeat (first | exact List.Mem.head _ | apply List.Mem.tail))); assumption) | (apply Rd.getO; (solve | (repeat (first | exact List.Mem.head _ | apply List.Mem.tail))); assumption) | (apply Rd.getI; (solve | (repeat (first | exact List.Mem.head _ | apply List.Mem.tail))); assumption) | (apply Rd.cel; (solve | (repeat (first | exact List.Mem.head _ | apply List.Mem.tail))); exact rfl) | (apply Rd.celI; (solve | (repeat (first | exact List.Mem.head _ | apply List.Mem.tail))); exact rfl)) ?_
    refine RL.widen Try.runUnderlying5 Try.runUnderlying31 rfl rfl rfl rfl ?_
    refine RL.bv32 (a := 256#32) (b := _) mul32 rfl rfl rfl rfl rfl ?_
    refine RL.bv32 (a := _) (b := _) add32 rfl rfl rfl rfl rfl ?_
    refine RL.move rfl rfl rfl rfl ?_
    refine RL.move rfl rfl rfl rfl ?_
    refine RL.binX rfl rfl rfl rfl rfl rfl (wrapV_i64 (by omega) (by omega)) ?_
    refine RL.binX rfl rfl rfl rfl rfl rfl (wrapV_i64 (by omega) (by omega)) ?_
    -- STOP: op; op 30: d=59 ["indexAddr", 95, ["t", 55], ["t", 58]] guard=None (ref.go:59)
    refine RL.idx (j := 4 * n + 3) Try.runUnderlying95 Try.sizeOf5 rfl rfl rfl rfl rfl (by omega) (by omega) ?_
    refine RL.load Try.isAgg5 rfl rfl rfl rfl (by first | assumption | (apply RdI.rd; assumption) | (apply Rd.get; (solve | (repeat (first | exact List.Mem.head _ | apply List.Mem.tail))); assumption) | (apply Rd.getS; (solve | (repeat (first | exact List.Mem.head _ | apply List.Mem.tail))); assumption) | (apply Rd.getO; (solve | (repeat (first | exact List.Mem.head _ | apply List.Mem.tail))); assumption) | (apply Rd.getI; (solve | (repeat (first | exact List.Mem.head _ | apply List.Mem.tail))); assumption) | (apply Rd.cel; (solve | (repeat (first | exact List.Mem.head _ | apply List.Mem.tail))); exact rfl) | (apply Rd.celI; (solve | (repeat (first | exact List.Mem.head _ | apply List.Mem.tail))); exact rfl)) ?_
    refine RL.widen Try.runUnderlying5 Try.runUnderlying31 rfl rfl rfl rfl ?_
    refine RL.bv32 (a := _) (b := _) add32 rfl rfl rfl rfl rfl ?_
    refine RL.buildSlice [_] Try.runUnderlying357 Try.sizeOf31 Try.zeroValue31 rfl rfl (by decide) (by decide) rfl rfl rfl rfl rfl rfl ?_
    intro b4
    -- STOP: op; op 35: d=64 ["builtin", "Go.Builtin.append", [["t", 29], ["t", 63]], [357, 357]] guard=None (ref.go:59)
    refine RL.append el_357 rfl rfl rfl rfl rfl rfl rfl (Src.cel (mm := 1) (by repeat (first | exact List.Mem.head _ | apply List.Mem.tail)) rfl) (by simp [U32, Value.oneCell']) (by simp [maxLen]; omega) (by omega) (by repeat (first | exact Pick.nil | apply Pick.take | apply Pick.leave)) ?_
    rintro ob' c' hs
    obtain ⟨b', rfl⟩ : ∃ b', ob' = some b' := by
      cases ob' with
      | none => simp at hs
      | some b' => exact ⟨b', rfl⟩
    refine RL.assign rfl rfl rfl rfl ?_
    refine RL.nil ?_
    refine NQ.block ?_
    refine NQ.seq ?_
    refine CW.only (.cons (k := 1) rfl (.cons (k := 2) rfl (.cons (k := 4) rfl (.cons (k := 5) rfl (.cons (k := 6) rfl .nil))))) ?_
    refine CW.region (ef := []) (bk := []) ?_
    refine RL.move rfl rfl rfl rfl ?_
    refine RL.binX rfl rfl rfl rfl rfl rfl (wrapV_i64 (by omega) (by omega)) ?_
    refine RL.assign rfl rfl rfl rfl ?_
    refine RL.nil ?_
    -- STOP: round; todo top: ["N"]
    have hwd : word m (ws m n) n = 16777216#32 * (m.getD ((4 * n) * 1) 0).setWidth 32 + 65536#32 * (m.getD ((4 * n + 1) * 1) 0).setWidth 32 + 256#32 * (m.getD ((4 * n + 2) * 1) 0).setWidth 32 + (m.getD ((4 * n + 3) * 1) 0).setWidth 32 := by
      rw [word, if_pos hlt, be_eq]; simp
    refine NQ.round (g := (n, b, c)) (n + 1, b', c') (by simp; omega) (by simp; omega) (.cons rfl (.cons rfl (.cons rfl (.cons rfl (.cons rfl .nil))))) (fun _ h => ?_)
    dsimp only
    rw [← ws_more m n hwd]
    exact h.rea (fun _ h => h) (by repeat (first | exact Rea.nil | (apply Rea.cons; (solve | (repeat (first | exact Del.here | apply Del.there))))))
  ·
    refine CW.exit ?_
    refine XQ.seq ?_
    refine XQ.seq ?_
    refine XQ.hit ?_
    refine NQ.seq ?_
    refine CW.seq ?_
    refine CW.seq ?_
    refine CW.region (ef := []) (bk := []) ?_
    refine RL.assign rfl rfl rfl rfl ?_
    refine RL.nil ?_
    refine NQ.seq ?_
    refine CW.block ?_
    -- STOP: loop; todo top: ["code", ["loop", ["seq", ["seq", ["region", 7, [{"d": 65, "op": ["move", ["t", 7]], "ty": 3, "pos": "ref.go:61", "after": [], "guard": null}, {"d": 66, "op": ["binOp", "Go.BinOp.lss", 3, ["t", 65], [
    have hn16 : n = 16 := by simp at hlt; omega
    subst hn16
    refine CW.loop (γ := Nat × Nat × Nat) (fun g => 16 ≤ g.1 ∧ g.1 ≤ 64) (fun g => [(2, .pointer (some ⟨b1, 0, none⟩)), (4, .pointer (some ⟨b2, 0, none⟩)), (5, slO (some g.2.1) g.1 g.2.2), (7, .int .i64 (g.1 : Int))])
      (fun _ => [sls (some p) 1 64 (bytes m)]) (fun g => [own (some g.2.1) g.2.2 31 1 g.1 (words (ws m g.1)), cel b2 (List.replicate 8 (U32 0#32)) 298, cel b1 s.cells 298]) (fun g => 64 - g.1) (16, b, c) (by simp) (.cons rfl (.cons rfl (.cons rfl (.cons rfl .nil))))
      (fun _ h => h) ?_
    clear hlt hn b c
    rintro ⟨n, b, c⟩ hn
    dsimp only at hn ⊢
    refine CW.seq ?_
    refine CW.seq ?_
    refine CW.region (ef := []) (bk := []) ?_
    refine RL.move rfl rfl rfl rfl ?_
    refine RL.bin rfl rfl rfl rfl rfl rfl ?_
    refine RL.nil ?_
    refine NQ.seq ?_
    -- STOP: if; todo top: ["code", ["cond", ["t", 66], ["skip"], ["exit", 2]]]
    refine CW.cond rfl (fun hlt => ?_) (fun hlt => ?_)
    ·
      refine CW.skip ?_
      refine NQ.seq ?_
      refine CW.seq ?_
      refine CW.block ?_
      refine CW.seq ?_
      refine CW.regionD (Sq.of [0, 1, 2, 3, 4, 5, 6, 7, 8, 9, 10, 11]) [] [] [0, 1, 2, 3, 5, 6, 7, 8, 10, 11] mixed (by kernel_rfl) ?_
      refine RL.move rfl rfl rfl rfl ?_
      refine RL.move rfl rfl rfl rfl ?_
      refine RL.binX rfl rfl rfl rfl rfl rfl (wrapV_i64 (by omega) (by omega)) ?_
      -- STOP: op; op 3: d=72 ["indexAddr", 357, ["t", 69], ["t", 71]] guard=None (ref.go:62)
      have hlt : n < 64 := by simp at hlt; omega
      have g2 := ws_get m (n := n) (j := n - 2) (by omega)
      have g7 := ws_get m (n := n) (j := n - 7) (by omega)
      have g15 := ws_get m (n := n) (j := n - 15) (by omega)
      have g16 := ws_get m (n := n) (j := n - 16) (by omega)
      refine RL.idx (j := n - 15) Try.runUnderlying357 Try.sizeOf31 rfl rfl rfl rfl rfl (by omega) (by omega) ?_
      refine RL.load Try.isAgg31 rfl rfl rfl rfl (by first | assumption | (apply RdI.rd; assumption) | (apply Rd.get; (solve | (repeat (first | exact List.Mem.head _ | apply List.Mem.tail))); assumption) | (apply Rd.getS; (solve | (repeat (first | exact List.Mem.head _ | apply List.Mem.tail))); assumption) | (apply Rd.getO; (solve | (repeat (first | exact List.Mem.head _ | apply List.Mem.tail))); assumption) | (apply Rd.getI; (solve | (repeat (first | exact List.Mem.head _ | apply List.Mem.tail))); assumption) | (apply Rd.cel; (solve | (repeat (first | exact List.Mem.head _ | apply List.Mem.tail))); exact rfl) | (apply Rd.celI; (solve | (repeat (first | exact List.Mem.head _ | apply List.Mem.tail))); exact rfl)) ?_
      refine RL.move rfl rfl rfl rfl ?_
      refine RL.move rfl rfl rfl rfl ?_
      refine RL.binX rfl rfl rfl rfl rfl rfl (wrapV_i64 (by omega) (by omega)) ?_
      -- STOP: op; op 8: d=77 ["indexAddr", 357, ["t", 74], ["t", 76]] guard=None (ref.go:62)
      refine RL.idx (j := n - 2) Try.runUnderlying357 Try.sizeOf31 rfl rfl rfl rfl rfl (by omega) (by omega) ?_
      refine RL.load Try.isAgg31 rfl rfl rfl rfl (by first | assumption | (apply RdI.rd; assumption) | (apply Rd.get; (solve | (repeat (first | exact List.Mem.head _ | apply List.Mem.tail))); assumption) | (apply Rd.getS; (solve | (repeat (first | exact List.Mem.head _ | apply List.Mem.tail))); assumption) | (apply Rd.getO; (solve | (repeat (first | exact List.Mem.head _ | apply List.Mem.tail))); assumption) | (apply Rd.getI; (solve | (repeat (first | exact List.Mem.head _ | apply List.Mem.tail))); assumption) | (apply Rd.cel; (solve | (repeat (first | exact List.Mem.head _ | apply List.Mem.tail))); exact rfl) | (apply Rd.celI; (solve | (repeat (first | exact List.Mem.head _ | apply List.Mem.tail))); exact rfl)) ?_
      refine RL.assign rfl rfl rfl rfl ?_
      refine RL.assign rfl rfl rfl rfl ?_
      refine RL.nil ?_
      refine NQ.seq ?_
      refine CW.only (.cons (k := 2) rfl (.cons (k := 4) rfl (.cons (k := 5) rfl (.cons (k := 7) rfl (.cons (k := 8) rfl (.cons (k := 9) rfl .nil)))))) ?_
      refine CW.seq ?_
      refine CW.region (ef := []) (bk := []) ?_
      refine RL.move rfl rfl rfl rfl ?_
      refine RL.callv (rright_any _ _ (by decide)) Try.call209 rfl rfl rfl rfl (by repeat (first | exact Lend.nil | (refine Lend.inI ?_ ?_; (solve | (repeat (first | exact List.Mem.head _ | apply List.Mem.tail)))) | (refine Lend.inH ?_ ?_; (solve | (repeat (first | exact List.Mem.head _ | apply List.Mem.tail)))))) ?_
      refine RL.move rfl rfl rfl rfl ?_
      refine RL.callv (rright_any _ _ (by decide)) Try.call209 rfl rfl rfl rfl (by repeat (first | exact Lend.nil | (refine Lend.inI ?_ ?_; (solve | (repeat (first | exact List.Mem.head _ | apply List.Mem.tail)))) | (refine Lend.inH ?_ ?_; (solve | (repeat (first | exact List.Mem.head _ | apply List.Mem.tail)))))) ?_
      refine RL.bv32 (a := _) (b := _) xor32 rfl rfl rfl rfl rfl ?_
      refine RL.move rfl rfl rfl rfl ?_
      refine RL.callv (rdown_any _ _ (by decide)) Try.call210 rfl rfl rfl rfl (by repeat (first | exact Lend.nil | (refine Lend.inI ?_ ?_; (solve | (repeat (first | exact List.Mem.head _ | apply List.Mem.tail)))) | (refine Lend.inH ?_ ?_; (solve | (repeat (first | exact List.Mem.head _ | apply List.Mem.tail)))))) ?_
      refine RL.bv32 (a := _) (b := _) xor32 rfl rfl rfl rfl rfl ?_
      refine RL.assign rfl rfl rfl rfl ?_
      refine RL.nil ?_
      refine NQ.seq ?_
      refine CW.only (.cons (k := 2) rfl (.cons (k := 4) rfl (.cons (k := 5) rfl (.cons (k := 7) rfl (.cons (k := 9) rfl (.cons (k := 10) rfl .nil)))))) ?_
      refine CW.seq ?_
      refine CW.region (ef := []) (bk := []) ?_
      refine RL.move rfl rfl rfl rfl ?_
      refine RL.callv (rright_any _ _ (by decide)) Try.call209 rfl rfl rfl rfl (by repeat (first | exact Lend.nil | (refine Lend.inI ?_ ?_; (solve | (repeat (first | exact List.Mem.head _ | apply List.Mem.tail)))) | (refine Lend.inH ?_ ?_; (solve | (repeat (first | exact List.Mem.head _ | apply List.Mem.tail)))))) ?_
      refine RL.move rfl rfl rfl rfl ?_
      refine RL.callv (rright_any _ _ (by decide)) Try.call209 rfl rfl rfl rfl (by repeat (first | exact Lend.nil | (refine Lend.inI ?_ ?_; (solve | (repeat (first | exact List.Mem.head _ | apply List.Mem.tail)))) | (refine Lend.inH ?_ ?_; (solve | (repeat (first | exact List.Mem.head _ | apply List.Mem.tail)))))) ?_
      refine RL.bv32 (a := _) (b := _) xor32 rfl rfl rfl rfl rfl ?_
      refine RL.move rfl rfl rfl rfl ?_
      refine RL.callv (rdown_any _ _ (by decide)) Try.call210 rfl rfl rfl rfl (by repeat (first | exact Lend.nil | (refine Lend.inI ?_ ?_; (solve | (repeat (first | exact List.Mem.head _ | apply List.Mem.tail)))) | (refine Lend.inH ?_ ?_; (solve | (repeat (first | exact List.Mem.head _ | apply List.Mem.tail)))))) ?_
      refine RL.bv32 (a := _) (b := _) xor32 rfl rfl rfl rfl rfl ?_
      refine RL.assign rfl rfl rfl rfl ?_
      refine RL.nil ?_
      refine NQ.seq ?_
      refine CW.only (.cons (k := 2) rfl (.cons (k := 4) rfl (.cons (k := 5) rfl (.cons (k := 7) rfl (.cons (k := 10) rfl (.cons (k := 11) rfl .nil)))))) ?_
      refine CW.regionD (Sq.of [0, 1, 2, 3, 4, 5, 6, 7, 8, 9, 10, 11, 12, 13, 14, 15, 16, 17, 18]) [16, 17] [17] [0, 1, 2, 3, 4, 5, 7, 8, 9, 10, 11, 12, 13, 15, 18] mixed (by kernel_rfl) ?_
      refine RL.move rfl rfl rfl rfl ?_
      refine RL.move rfl rfl rfl rfl ?_
      refine RL.move rfl rfl rfl rfl ?_
      refine RL.move rfl rfl rfl rfl ?_
      refine RL.binX rfl rfl rfl rfl rfl rfl (wrapV_i64 (by omega) (by omega)) ?_
      -- STOP: op; op 5: d=100 ["indexAddr", 357, ["t", 97], ["t", 99]] guard=None (ref.go:65)
      refine RL.idx (j := n - 7) Try.runUnderlying357 Try.sizeOf31 rfl rfl rfl rfl rfl (by omega) (by omega) ?_
      refine RL.load Try.isAgg31 rfl rfl rfl rfl (by first | assumption | (apply RdI.rd; assumption) | (apply Rd.get; (solve | (repeat (first | exact List.Mem.head _ | apply List.Mem.tail))); assumption) | (apply Rd.getS; (solve | (repeat (first | exact List.Mem.head _ | apply List.Mem.tail))); assumption) | (apply Rd.getO; (solve | (repeat (first | exact List.Mem.head _ | apply List.Mem.tail))); assumption) | (apply Rd.getI; (solve | (repeat (first | exact List.Mem.head _ | apply List.Mem.tail))); assumption) | (apply Rd.cel; (solve | (repeat (first | exact List.Mem.head _ | apply List.Mem.tail))); exact rfl) | (apply Rd.celI; (solve | (repeat (first | exact List.Mem.head _ | apply List.Mem.tail))); exact rfl)) ?_
      refine RL.bv32 (a := _) (b := _) add32 rfl rfl rfl rfl rfl ?_
      refine RL.move rfl rfl rfl rfl ?_
      refine RL.bv32 (a := _) (b := _) add32 rfl rfl rfl rfl rfl ?_
      refine RL.move rfl rfl rfl rfl ?_
      refine RL.move rfl rfl rfl rfl ?_
      refine RL.binX rfl rfl rfl rfl rfl rfl (wrapV_i64 (by omega) (by omega)) ?_
      -- STOP: op; op 13: d=108 ["indexAddr", 357, ["t", 105], ["t", 107]] guard=None (ref.go:65)
      refine RL.idx (j := n - 16) Try.runUnderlying357 Try.sizeOf31 rfl rfl rfl rfl rfl (by omega) (by omega) ?_
      refine RL.load Try.isAgg31 rfl rfl rfl rfl (by first | assumption | (apply RdI.rd; assumption) | (apply Rd.get; (solve | (repeat (first | exact List.Mem.head _ | apply List.Mem.tail))); assumption) | (apply Rd.getS; (solve | (repeat (first | exact List.Mem.head _ | apply List.Mem.tail))); assumption) | (apply Rd.getO; (solve | (repeat (first | exact List.Mem.head _ | apply List.Mem.tail))); assumption) | (apply Rd.getI; (solve | (repeat (first | exact List.Mem.head _ | apply List.Mem.tail))); assumption) | (apply Rd.cel; (solve | (repeat (first | exact List.Mem.head _ | apply List.Mem.tail))); exact rfl) | (apply Rd.celI; (solve | (repeat (first | exact List.Mem.head _ | apply List.Mem.tail))); exact rfl)) ?_
      refine RL.bv32 (a := _) (b := _) add32 rfl rfl rfl rfl rfl ?_
      refine RL.buildSlice [_] Try.runUnderlying357 Try.sizeOf31 Try.zeroValue31 rfl rfl (by decide) (by decide) rfl rfl rfl rfl rfl rfl ?_
      intro b4
      -- STOP: op; op 17: d=112 ["builtin", "Go.Builtin.append", [["t", 95], ["t", 111]], [357, 357]] guard=None (ref.go:65)
      refine RL.append el_357 rfl rfl rfl rfl rfl rfl rfl (Src.cel (mm := 1) (by repeat (first | exact List.Mem.head _ | apply List.Mem.tail)) rfl) (by simp [U32, Value.oneCell']) (by simp [maxLen]; omega) (by omega) (by repeat (first | exact Pick.nil | apply Pick.take | apply Pick.leave)) ?_
      rintro ob' c' hs
      obtain ⟨b', rfl⟩ : ∃ b', ob' = some b' := by
        cases ob' with
        | none => simp at hs
        | some b' => exact ⟨b', rfl⟩
      refine RL.assign rfl rfl rfl rfl ?_
      refine RL.nil ?_
      refine NQ.block ?_
      refine NQ.seq ?_
      refine CW.only (.cons (k := 2) rfl (.cons (k := 4) rfl (.cons (k := 5) rfl (.cons (k := 7) rfl .nil)))) ?_
      refine CW.region (ef := []) (bk := []) ?_
      refine RL.move rfl rfl rfl rfl ?_
      refine RL.binX rfl rfl rfl rfl rfl rfl (wrapV_i64 (by omega) (by omega)) ?_
      refine RL.assign rfl rfl rfl rfl ?_
      refine RL.nil ?_
      -- STOP: round; todo top: ["N"]
      refine NQ.round (g := (n, b, c)) (n + 1, b', c') (by simp; omega) (by simp; omega) (.cons rfl (.cons rfl (.cons rfl (.cons rfl .nil)))) (fun _ h => ?_)
      dsimp only
      rw [← ws_more m n (by rw [word, if_neg (by omega)])]
      exact h.rea (fun _ h => h) (by repeat (first | exact Rea.nil | (apply Rea.cons; (solve | (repeat (first | exact Del.here | apply Del.there))))))
    ·
      have hn64 : n = 64 := by simp at hlt; omega
      subst hn64
      refine CW.exit ?_
      refine XQ.seq ?_
      refine XQ.seq ?_
      refine XQ.hit ?_
      refine NQ.seq ?_
      refine CW.seq ?_
      refine CW.region (ef := [0]) (bk := []) ?_
      refine RL.call (rtable_any) Try.call211 rfl rfl rfl rfl rfl (by repeat (first | exact Pick.nil | apply Pick.take | apply Pick.leave)) (by repeat (first | exact Lend.nil | (refine Lend.inI ?_ ?_; (solve | (repeat (first | exact List.Mem.head _ | apply List.Mem.tail)))) | (refine Lend.inH ?_ ?_; (solve | (repeat (first | exact List.Mem.head _ | apply List.Mem.tail)))))) (.inl rfl) ?_
      -- STOP: called; op 1: d=12 ["assign", ["t", 113]] guard=None (ref.go:67)
      rintro _ _ _ ⟨bk, rfl, rfl, rfl⟩
      refine RL.assign rfl rfl rfl rfl ?_
      refine RL.nil ?_
      refine NQ.seq ?_
      refine CW.seq ?_
      refine CW.regionD (Sq.of [0, 1, 2, 3, 4, 5, 6, 7, 8, 9, 10, 11, 12, 13, 14, 15, 16, 17, 18, 19, 20, 21, 22, 23]) [] [] [0, 2, 4, 6, 8, 10, 12, 14, 16, 17, 18, 19, 20, 21, 22, 23] mixed (by kernel_rfl) ?_
      refine RL.idxAAt (j := 0) Try.runUnderlying298 Try.sizeOf31 rfl rfl rfl rfl rfl rfl (by decide) ?_
      refine RL.load Try.isAgg31 rfl rfl rfl rfl (by first | assumption | (apply RdI.rd; assumption) | (apply Rd.get; (solve | (repeat (first | exact List.Mem.head _ | apply List.Mem.tail))); assumption) | (apply Rd.getS; (solve | (repeat (first | exact List.Mem.head _ | apply List.Mem.tail))); assumption) | (apply Rd.getO; (solve | (repeat (first | exact List.Mem.head _ | apply List.Mem.tail))); assumption) | (apply Rd.getI; (solve | (repeat (first | exact List.Mem.head _ | apply List.Mem.tail))); assumption) | (apply Rd.cel; (solve | (repeat (first | exact List.Mem.head _ | apply List.Mem.tail))); exact rfl) | (apply Rd.celI; (solve | (repeat (first | exact List.Mem.head _ | apply List.Mem.tail))); exact rfl)) ?_
      refine RL.idxAAt (j := 1) Try.runUnderlying298 Try.sizeOf31 rfl rfl rfl rfl rfl rfl (by decide) ?_
      refine RL.load Try.isAgg31 rfl rfl rfl rfl (by first | assumption | (apply RdI.rd; assumption) | (apply Rd.get; (solve | (repeat (first | exact List.Mem.head _ | apply List.Mem.tail))); assumption) | (apply Rd.getS; (solve | (repeat (first | exact List.Mem.head _ | apply List.Mem.tail))); assumption) | (apply Rd.getO; (solve | (repeat (first | exact List.Mem.head _ | apply List.Mem.tail))); assumption) | (apply Rd.getI; (solve | (repeat (first | exact List.Mem.head _ | apply List.Mem.tail))); assumption) | (apply Rd.cel; (solve | (repeat (first | exact List.Mem.head _ | apply List.Mem.tail))); exact rfl) | (apply Rd.celI; (solve | (repeat (first | exact List.Mem.head _ | apply List.Mem.tail))); exact rfl)) ?_
      refine RL.idxAAt (j := 2) Try.runUnderlying298 Try.sizeOf31 rfl rfl rfl rfl rfl rfl (by decide) ?_
      refine RL.load Try.isAgg31 rfl rfl rfl rfl (by first | assumption | (apply RdI.rd; assumption) | (apply Rd.get; (solve | (repeat (first | exact List.Mem.head _ | apply List.Mem.tail))); assumption) | (apply Rd.getS; (solve | (repeat (first | exact List.Mem.head _ | apply List.Mem.tail))); assumption) | (apply Rd.getO; (solve | (repeat (first | exact List.Mem.head _ | apply List.Mem.tail))); assumption) | (apply Rd.getI; (solve | (repeat (first | exact List.Mem.head _ | apply List.Mem.tail))); assumption) | (apply Rd.cel; (solve | (repeat (first | exact List.Mem.head _ | apply List.Mem.tail))); exact rfl) | (apply Rd.celI; (solve | (repeat (first | exact List.Mem.head _ | apply List.Mem.tail))); exact rfl)) ?_
      refine RL.idxAAt (j := 3) Try.runUnderlying298 Try.sizeOf31 rfl rfl rfl rfl rfl rfl (by decide) ?_
      refine RL.load Try.isAgg31 rfl rfl rfl rfl (by first | assumption | (apply RdI.rd; assumption) | (apply Rd.get; (solve | (repeat (first | exact List.Mem.head _ | apply List.Mem.tail))); assumption) | (apply Rd.getS; (solve | (repeat (first | exact List.Mem.head _ | apply List.Mem.tail))); assumption) | (apply Rd.getO; (solve | (repeat (first | exact List.Mem.head _ | apply List.Mem.tail))); assumption) | (apply Rd.getI; (solve | (repeat (first | exact List.Mem.head _ | apply List.Mem.tail))); assumption) | (apply Rd.cel; (solve | (repeat (first | exact List.Mem.head _ | apply List.Mem.tail))); exact rfl) | (apply Rd.celI; (solve | (repeat (first | exact List.Mem.head _ | apply List.Mem.tail))); exact rfl)) ?_
      refine RL.idxAAt (j := 4) Try.runUnderlying298 Try.sizeOf31 rfl rfl rfl rfl rfl rfl (by decide) ?_
      refine RL.load Try.isAgg31 rfl rfl rfl rfl (by first | assumption | (apply RdI.rd; assumption) | (apply Rd.get; (solve | (repeat (first | exact List.Mem.head _ | apply List.Mem.tail))); assumption) | (apply Rd.getS; (solve | (repeat (first | exact List.Mem.head _ | apply List.Mem.tail))); assumption) | (apply Rd.getO; (solve | (repeat (first | exact List.Mem.head _ | apply List.Mem.tail))); assumption) | (apply Rd.getI; (solve | (repeat (first | exact List.Mem.head _ | apply List.Mem.tail))); assumption) | (apply Rd.cel; (solve | (repeat (first | exact List.Mem.head _ | apply List.Mem.tail))); exact rfl) | (apply Rd.celI; (solve | (repeat (first | exact List.Mem.head _ | apply List.Mem.tail))); exact rfl)) ?_
      refine RL.idxAAt (j := 5) Try.runUnderlying298 Try.sizeOf31 rfl rfl rfl rfl rfl rfl (by decide) ?_
      refine RL.load Try.isAgg31 rfl rfl rfl rfl (by first | assumption | (apply RdI.rd; assumption) | (apply Rd.get; (solve | (repeat (first | exact List.Mem.head _ | apply List.Mem.tail))); assumption) | (apply Rd.getS; (solve | (repeat (first | exact List.Mem.head _ | apply List.Mem.tail))); assumption) | (apply Rd.getO; (solve | (repeat (first | exact List.Mem.head _ | apply List.Mem.tail))); assumption) | (apply Rd.getI; (solve | (repeat (first | exact List.Mem.head _ | apply List.Mem.tail))); assumption) | (apply Rd.cel; (solve | (repeat (first | exact List.Mem.head _ | apply List.Mem.tail))); exact rfl) | (apply Rd.celI; (solve | (repeat (first | exact List.Mem.head _ | apply List.Mem.tail))); exact rfl)) ?_
      refine RL.idxAAt (j := 6) Try.runUnderlying298 Try.sizeOf31 rfl rfl rfl rfl rfl rfl (by decide) ?_
      refine RL.load Try.isAgg31 rfl rfl rfl rfl (by first | assumption | (apply RdI.rd; assumption) | (apply Rd.get; (solve | (repeat (first | exact List.Mem.head _ | apply List.Mem.tail))); assumption) | (apply Rd.getS; (solve | (repeat (first | exact List.Mem.head _ | apply List.Mem.tail))); assumption) | (apply Rd.getO; (solve | (repeat (first | exact List.Mem.head _ | apply List.Mem.tail))); assumption) | (apply Rd.getI; (solve | (repeat (first | exact List.Mem.head _ | apply List.Mem.tail))); assumption) | (apply Rd.cel; (solve | (repeat (first | exact List.Mem.head _ | apply List.Mem.tail))); exact rfl) | (apply Rd.celI; (solve | (repeat (first | exact List.Mem.head _ | apply List.Mem.tail))); exact rfl)) ?_
      refine RL.idxAAt (j := 7) Try.runUnderlying298 Try.sizeOf31 rfl rfl rfl rfl rfl rfl (by decide) ?_
      refine RL.load Try.isAgg31 rfl rfl rfl rfl (by first | assumption | (apply RdI.rd; assumption) | (apply Rd.get; (solve | (repeat (first | exact List.Mem.head _ | apply List.Mem.tail))); assumption) | (apply Rd.getS; (solve | (repeat (first | exact List.Mem.head _ | apply List.Mem.tail))); assumption) | (apply Rd.getO; (solve | (repeat (first | exact List.Mem.head _ | apply List.Mem.tail))); assumption) | (apply Rd.getI; (solve | (repeat (first | exact List.Mem.head _ | apply List.Mem.tail))); assumption) | (apply Rd.cel; (solve | (repeat (first | exact List.Mem.head _ | apply List.Mem.tail))); exact rfl) | (apply Rd.celI; (solve | (repeat (first | exact List.Mem.head _ | apply List.Mem.tail))); exact rfl)) ?_
      refine RL.assign rfl rfl rfl rfl ?_
      refine RL.assign rfl rfl rfl rfl ?_
      refine RL.assign rfl rfl rfl rfl ?_
      refine RL.assign rfl rfl rfl rfl ?_
      refine RL.assign rfl rfl rfl rfl ?_
      refine RL.assign rfl rfl rfl rfl ?_
      refine RL.assign rfl rfl rfl rfl ?_
      refine RL.assign rfl rfl rfl rfl ?_
      refine RL.nil ?_
      refine NQ.seq ?_
      refine CW.only (.cons (k := 2) rfl (.cons (k := 4) rfl (.cons (k := 5) rfl (.cons (k := 12) rfl (.cons (k := 13) rfl (.cons (k := 14) rfl (.cons (k := 15) rfl (.cons (k := 16) rfl (.cons (k := 17) rfl (.cons (k := 18) rfl (.cons (k := 19) rfl (.cons (k := 20) rfl .nil)))))))))))) ?_
      refine CW.seq ?_
      refine CW.seq ?_
      refine CW.region (ef := []) (bk := []) ?_
      refine RL.assign rfl rfl rfl rfl ?_
      refine RL.nil ?_
      refine NQ.seq ?_
      refine CW.block ?_
      -- STOP: loop; todo top: ["code", ["loop", ["seq", ["seq", ["region", 16, [{"d": 130, "op": ["move", ["t", 21]], "ty": 3, "pos": "ref.go:69", "after": [], "guard": null}, {"d": 131, "op": ["binOp", "Go.BinOp.lss", 3, ["t", 13
      refine CW.loop (γ := Nat) (fun n => n ≤ 64) (fun n => [(2, .pointer (some ⟨b1, 0, none⟩)), (4, .pointer (some ⟨b2, 0, none⟩)), (5, slO (some b) 64 c), (12, .slice (some ⟨bk, 0, none⟩) 64 64), (13, U32 (rounds s (ws m 64) n).a), (14, U32 (rounds s (ws m 64) n).b), (15, U32 (rounds s (ws m 64) n).c), (16, U32 (rounds s (ws m 64) n).d), (17, U32 (rounds s (ws m 64) n).e), (18, U32 (rounds s (ws m 64) n).f), (19, U32 (rounds s (ws m 64) n).g), (20, U32 (rounds s (ws m 64) n).h), (21, .int .i64 (n : Int))])
        (fun _ => [sls (some p) 1 64 (bytes m)]) (fun _ => [cel bk (words K) 31, own (some b) c 31 1 64 (words (ws m 64)), cel b2 (List.replicate 8 (U32 0#32)) 298, cel b1 s.cells 298]) (fun n => 64 - n) 0 (by simp)
        (.cons rfl (.cons rfl (.cons rfl (.cons rfl (.cons rfl (.cons rfl (.cons rfl (.cons rfl (.cons rfl (.cons rfl (.cons rfl (.cons rfl (.cons rfl .nil))))))))))))) (fun _ h => h) ?_
      clear hlt hn
      intro n hn
      generalize hX : rounds s (ws m 64) n = X
      refine CW.seq ?_
      refine CW.seq ?_
      refine CW.region (ef := []) (bk := []) ?_
      refine RL.move rfl rfl rfl rfl ?_
      refine RL.bin rfl rfl rfl rfl rfl rfl ?_
      refine RL.nil ?_
      refine NQ.seq ?_
      -- STOP: if; todo top: ["code", ["cond", ["t", 131], ["skip"], ["exit", 4]]]
      refine CW.cond rfl (fun hlt => ?_) (fun hlt => ?_)
      ·
        refine CW.skip ?_
        refine NQ.seq ?_
        refine CW.seq ?_
        refine CW.block ?_
        refine CW.seq ?_
        refine CW.regionD (Sq.of [0, 1, 2, 3, 4, 5, 6, 7, 8, 9, 10, 11, 12, 13, 14, 15, 16, 17, 18, 19, 20, 21, 22, 23, 24, 25, 26, 27, 28, 29]) [] [] [0, 1, 3, 5, 6, 8, 9, 10, 11, 12, 13, 14, 15, 16, 17, 18, 19, 20, 21, 23, 24, 25, 26, 28, 29] mixed (by kernel_rfl) ?_
        refine RL.move rfl rfl rfl rfl ?_
        refine RL.move rfl rfl rfl rfl ?_
        refine RL.callv (rright_any _ _ (by decide)) Try.call209 rfl rfl rfl rfl (by repeat (first | exact Lend.nil | (refine Lend.inI ?_ ?_; (solve | (repeat (first | exact List.Mem.head _ | apply List.Mem.tail)))) | (refine Lend.inH ?_ ?_; (solve | (repeat (first | exact List.Mem.head _ | apply List.Mem.tail)))))) ?_
        refine RL.move rfl rfl rfl rfl ?_
        refine RL.callv (rright_any _ _ (by decide)) Try.call209 rfl rfl rfl rfl (by repeat (first | exact Lend.nil | (refine Lend.inI ?_ ?_; (solve | (repeat (first | exact List.Mem.head _ | apply List.Mem.tail)))) | (refine Lend.inH ?_ ?_; (solve | (repeat (first | exact List.Mem.head _ | apply List.Mem.tail)))))) ?_
        refine RL.bv32 (a := _) (b := _) xor32 rfl rfl rfl rfl rfl ?_
        refine RL.move rfl rfl rfl rfl ?_
        refine RL.callv (rright_any _ _ (by decide)) Try.call209 rfl rfl rfl rfl (by repeat (first | exact Lend.nil | (refine Lend.inI ?_ ?_; (solve | (repeat (first | exact List.Mem.head _ | apply List.Mem.tail)))) | (refine Lend.inH ?_ ?_; (solve | (repeat (first | exact List.Mem.head _ | apply List.Mem.tail)))))) ?_
        refine RL.bv32 (a := _) (b := _) xor32 rfl rfl rfl rfl rfl ?_
        refine RL.bv32 (a := _) (b := _) add32 rfl rfl rfl rfl rfl ?_
        refine RL.move rfl rfl rfl rfl ?_
        refine RL.move rfl rfl rfl rfl ?_
        refine RL.bv32 (a := _) (b := _) and32 rfl rfl rfl rfl rfl ?_
        refine RL.move rfl rfl rfl rfl ?_
        refine RL.inv32 rfl rfl rfl rfl ?_
        refine RL.move rfl rfl rfl rfl ?_
        refine RL.bv32 (a := _) (b := _) and32 rfl rfl rfl rfl rfl ?_
        refine RL.bv32 (a := _) (b := _) xor32 rfl rfl rfl rfl rfl ?_
        refine RL.bv32 (a := _) (b := _) add32 rfl rfl rfl rfl rfl ?_
        refine RL.move rfl rfl rfl rfl ?_
        refine RL.move rfl rfl rfl rfl ?_
        -- STOP: op; op 21: d=155 ["indexAddr", 357, ["t", 153], ["t", 154]] guard=None (ref.go:70)
        have hlt : n < 64 := by simp at hlt; omega
        have gk := K_get hlt
        refine RL.idxAt (j := n) Try.runUnderlying357 Try.sizeOf31 rfl rfl rfl rfl rfl rfl (by omega) ?_
        refine RL.load Try.isAgg31 rfl rfl rfl rfl (by first | assumption | (apply RdI.rd; assumption) | (apply Rd.get; (solve | (repeat (first | exact List.Mem.head _ | apply List.Mem.tail))); assumption) | (apply Rd.getS; (solve | (repeat (first | exact List.Mem.head _ | apply List.Mem.tail))); assumption) | (apply Rd.getO; (solve | (repeat (first | exact List.Mem.head _ | apply List.Mem.tail))); assumption) | (apply Rd.getI; (solve | (repeat (first | exact List.Mem.head _ | apply List.Mem.tail))); assumption) | (apply Rd.cel; (solve | (repeat (first | exact List.Mem.head _ | apply List.Mem.tail))); exact rfl) | (apply Rd.celI; (solve | (repeat (first | exact List.Mem.head _ | apply List.Mem.tail))); exact rfl)) ?_
        refine RL.bv32 (a := _) (b := _) add32 rfl rfl rfl rfl rfl ?_
        refine RL.move rfl rfl rfl rfl ?_
        refine RL.move rfl rfl rfl rfl ?_
        -- STOP: op; op 26: d=160 ["indexAddr", 357, ["t", 158], ["t", 159]] guard=None (ref.go:70)
        clear gk
        have gw := ws_get m hlt
        refine RL.idx (j := n) Try.runUnderlying357 Try.sizeOf31 rfl rfl rfl rfl rfl rfl (by omega) ?_
        refine RL.load Try.isAgg31 rfl rfl rfl rfl (Rd.getO (by repeat (first | exact List.Mem.head _ | apply List.Mem.tail)) gw) ?_
        clear gw
        refine RL.bv32 (a := _) (b := _) add32 rfl rfl rfl rfl rfl ?_
        refine RL.assign rfl rfl rfl rfl ?_
        refine RL.nil ?_
        refine NQ.seq ?_
        refine CW.only (.cons (k := 2) rfl (.cons (k := 4) rfl (.cons (k := 5) rfl (.cons (k := 12) rfl (.cons (k := 13) rfl (.cons (k := 14) rfl (.cons (k := 15) rfl (.cons (k := 16) rfl (.cons (k := 17) rfl (.cons (k := 18) rfl (.cons (k := 19) rfl (.cons (k := 21) rfl (.cons (k := 22) rfl .nil))))))))))))) ?_
        refine CW.seq ?_
        refine CW.region (ef := []) (bk := []) ?_
        refine RL.move rfl rfl rfl rfl ?_
        refine RL.callv (rright_any _ _ (by decide)) Try.call209 rfl rfl rfl rfl (by repeat (first | exact Lend.nil | (refine Lend.inI ?_ ?_; (solve | (repeat (first | exact List.Mem.head _ | apply List.Mem.tail)))) | (refine Lend.inH ?_ ?_; (solve | (repeat (first | exact List.Mem.head _ | apply List.Mem.tail)))))) ?_
        refine RL.move rfl rfl rfl rfl ?_
        refine RL.callv (rright_any _ _ (by decide)) Try.call209 rfl rfl rfl rfl (by repeat (first | exact Lend.nil | (refine Lend.inI ?_ ?_; (solve | (repeat (first | exact List.Mem.head _ | apply List.Mem.tail)))) | (refine Lend.inH ?_ ?_; (solve | (repeat (first | exact List.Mem.head _ | apply List.Mem.tail)))))) ?_
        refine RL.bv32 (a := _) (b := _) xor32 rfl rfl rfl rfl rfl ?_
        refine RL.move rfl rfl rfl rfl ?_
        refine RL.callv (rright_any _ _ (by decide)) Try.call209 rfl rfl rfl rfl (by repeat (first | exact Lend.nil | (refine Lend.inI ?_ ?_; (solve | (repeat (first | exact List.Mem.head _ | apply List.Mem.tail)))) | (refine Lend.inH ?_ ?_; (solve | (repeat (first | exact List.Mem.head _ | apply List.Mem.tail)))))) ?_
        refine RL.bv32 (a := _) (b := _) xor32 rfl rfl rfl rfl rfl ?_
        refine RL.move rfl rfl rfl rfl ?_
        refine RL.move rfl rfl rfl rfl ?_
        refine RL.bv32 (a := _) (b := _) and32 rfl rfl rfl rfl rfl ?_
        refine RL.move rfl rfl rfl rfl ?_
        refine RL.move rfl rfl rfl rfl ?_
        refine RL.bv32 (a := _) (b := _) and32 rfl rfl rfl rfl rfl ?_
        refine RL.bv32 (a := _) (b := _) xor32 rfl rfl rfl rfl rfl ?_
        refine RL.move rfl rfl rfl rfl ?_
        refine RL.move rfl rfl rfl rfl ?_
        refine RL.bv32 (a := _) (b := _) and32 rfl rfl rfl rfl rfl ?_
        refine RL.bv32 (a := _) (b := _) xor32 rfl rfl rfl rfl rfl ?_
        refine RL.bv32 (a := _) (b := _) add32 rfl rfl rfl rfl rfl ?_
        refine RL.assign rfl rfl rfl rfl ?_
        refine RL.nil ?_
        refine NQ.seq ?_
        refine CW.only (.cons (k := 2) rfl (.cons (k := 4) rfl (.cons (k := 5) rfl (.cons (k := 12) rfl (.cons (k := 13) rfl (.cons (k := 14) rfl (.cons (k := 15) rfl (.cons (k := 16) rfl (.cons (k := 17) rfl (.cons (k := 18) rfl (.cons (k := 19) rfl (.cons (k := 21) rfl (.cons (k := 22) rfl (.cons (k := 23) rfl .nil)))))))))))))) ?_
        refine CW.region (ef := []) (bk := []) ?_
        refine RL.move rfl rfl rfl rfl ?_
        refine RL.move rfl rfl rfl rfl ?_
        refine RL.move rfl rfl rfl rfl ?_
        refine RL.move rfl rfl rfl rfl ?_
        refine RL.move rfl rfl rfl rfl ?_
        refine RL.bv32 (a := _) (b := _) add32 rfl rfl rfl rfl rfl ?_
        refine RL.move rfl rfl rfl rfl ?_
        refine RL.move rfl rfl rfl rfl ?_
        refine RL.move rfl rfl rfl rfl ?_
        refine RL.move rfl rfl rfl rfl ?_
        refine RL.move rfl rfl rfl rfl ?_
        refine RL.bv32 (a := _) (b := _) add32 rfl rfl rfl rfl rfl ?_
        refine RL.assign rfl rfl rfl rfl ?_
        refine RL.assign rfl rfl rfl rfl ?_
        refine RL.assign rfl rfl rfl rfl ?_
        refine RL.assign rfl rfl rfl rfl ?_
        refine RL.assign rfl rfl rfl rfl ?_
        refine RL.assign rfl rfl rfl rfl ?_
        refine RL.assign rfl rfl rfl rfl ?_
        refine RL.assign rfl rfl rfl rfl ?_
        refine RL.nil ?_
        refine NQ.block ?_
        refine NQ.seq ?_
        refine CW.only (.cons (k := 2) rfl (.cons (k := 4) rfl (.cons (k := 5) rfl (.cons (k := 12) rfl (.cons (k := 13) rfl (.cons (k := 14) rfl (.cons (k := 15) rfl (.cons (k := 16) rfl (.cons (k := 17) rfl (.cons (k := 18) rfl (.cons (k := 19) rfl (.cons (k := 20) rfl (.cons (k := 21) rfl .nil))))))))))))) ?_
        refine CW.region (ef := []) (bk := []) ?_
        refine RL.move rfl rfl rfl rfl ?_
        refine RL.binX rfl rfl rfl rfl rfl rfl (wrapV_i64 (by omega) (by omega)) ?_
        refine RL.assign rfl rfl rfl rfl ?_
        refine RL.nil ?_
        -- STOP: round; todo top: ["N"]
        have hR : rounds s (ws m 64) (n + 1) = rnd X (K.getD n 0) ((ws m 64).getD n 0) := by rw [rounds, hX]
        refine NQ.round (g := n) (n + 1) (by omega) (by omega) ?_ (fun _ h => h)
        rw [hR]
        exact (.cons rfl (.cons rfl (.cons rfl (.cons rfl (.cons rfl (.cons rfl (.cons rfl (.cons rfl (.cons rfl (.cons rfl (.cons rfl (.cons rfl (.cons rfl .nil)))))))))))))
      ·
        have hn64 : n = 64 := by simp at hlt; omega
        subst hn64
        refine CW.exit ?_
        refine XQ.seq ?_
        refine XQ.seq ?_
        refine XQ.hit ?_
        refine NQ.seq ?_
        refine CW.seq ?_
        refine CW.region (ef := [33]) (bk := [33]) ?_
        refine RL.idxAAt (j := 0) Try.runUnderlying298 Try.sizeOf31 rfl rfl rfl rfl rfl rfl (by decide) ?_
        refine RL.load Try.isAgg31 rfl rfl rfl rfl (by first | assumption | (apply RdI.rd; assumption) | (apply Rd.get; (solve | (repeat (first | exact List.Mem.head _ | apply List.Mem.tail))); assumption) | (apply Rd.getS; (solve | (repeat (first | exact List.Mem.head _ | apply List.Mem.tail))); assumption) | (apply Rd.getO; (solve | (repeat (first | exact List.Mem.head _ | apply List.Mem.tail))); assumption) | (apply Rd.getI; (solve | (repeat (first | exact List.Mem.head _ | apply List.Mem.tail))); assumption) | (apply Rd.cel; (solve | (repeat (first | exact List.Mem.head _ | apply List.Mem.tail))); exact rfl) | (apply Rd.celI; (solve | (repeat (first | exact List.Mem.head _ | apply List.Mem.tail))); exact rfl)) ?_
        refine RL.move rfl rfl rfl rfl ?_
        refine RL.bv32 (a := _) (b := _) add32 rfl rfl rfl rfl rfl ?_
        refine RL.idxAAt (j := 1) Try.runUnderlying298 Try.sizeOf31 rfl rfl rfl rfl rfl rfl (by decide) ?_
        refine RL.load Try.isAgg31 rfl rfl rfl rfl (by first | assumption | (apply RdI.rd; assumption) | (apply Rd.get; (solve | (repeat (first | exact List.Mem.head _ | apply List.Mem.tail))); assumption) | (apply Rd.getS; (solve | (repeat (first | exact List.Mem.head _ | apply List.Mem.tail))); assumption) | (apply Rd.getO; (solve | (repeat (first | exact List.Mem.head _ | apply List.Mem.tail))); assumption) | (apply Rd.getI; (solve | (repeat (first | exact List.Mem.head _ | apply List.Mem.tail))); assumption) | (apply Rd.cel; (solve | (repeat (first | exact List.Mem.head _ | apply List.Mem.tail))); exact rfl) | (apply Rd.celI; (solve | (repeat (first | exact List.Mem.head _ | apply List.Mem.tail))); exact rfl)) ?_
        refine RL.move rfl rfl rfl rfl ?_
        refine RL.bv32 (a := _) (b := _) add32 rfl rfl rfl rfl rfl ?_
        refine RL.idxAAt (j := 2) Try.runUnderlying298 Try.sizeOf31 rfl rfl rfl rfl rfl rfl (by decide) ?_
        refine RL.load Try.isAgg31 rfl rfl rfl rfl (by first | assumption | (apply RdI.rd; assumption) | (apply Rd.get; (solve | (repeat (first | exact List.Mem.head _ | apply List.Mem.tail))); assumption) | (apply Rd.getS; (solve | (repeat (first | exact List.Mem.head _ | apply List.Mem.tail))); assumption) | (apply Rd.getO; (solve | (repeat (first | exact List.Mem.head _ | apply List.Mem.tail))); assumption) | (apply Rd.getI; (solve | (repeat (first | exact List.Mem.head _ | apply List.Mem.tail))); assumption) | (apply Rd.cel; (solve | (repeat (first | exact List.Mem.head _ | apply List.Mem.tail))); exact rfl) | (apply Rd.celI; (solve | (repeat (first | exact List.Mem.head _ | apply List.Mem.tail))); exact rfl)) ?_
        refine RL.move rfl rfl rfl rfl ?_
        refine RL.bv32 (a := _) (b := _) add32 rfl rfl rfl rfl rfl ?_
        refine RL.idxAAt (j := 3) Try.runUnderlying298 Try.sizeOf31 rfl rfl rfl rfl rfl rfl (by decide) ?_
        refine RL.load Try.isAgg31 rfl rfl rfl rfl (by first | assumption | (apply RdI.rd; assumption) | (apply Rd.get; (solve | (repeat (first | exact List.Mem.head _ | apply List.Mem.tail))); assumption) | (apply Rd.getS; (solve | (repeat (first | exact List.Mem.head _ | apply List.Mem.tail))); assumption) | (apply Rd.getO; (solve | (repeat (first | exact List.Mem.head _ | apply List.Mem.tail))); assumption) | (apply Rd.getI; (solve | (repeat (first | exact List.Mem.head _ | apply List.Mem.tail))); assumption) | (apply Rd.cel; (solve | (repeat (first | exact List.Mem.head _ | apply List.Mem.tail))); exact rfl) | (apply Rd.celI; (solve | (repeat (first | exact List.Mem.head _ | apply List.Mem.tail))); exact rfl)) ?_
        refine RL.move rfl rfl rfl rfl ?_
        refine RL.bv32 (a := _) (b := _) add32 rfl rfl rfl rfl rfl ?_
        refine RL.idxAAt (j := 4) Try.runUnderlying298 Try.sizeOf31 rfl rfl rfl rfl rfl rfl (by decide) ?_
        refine RL.load Try.isAgg31 rfl rfl rfl rfl (by first | assumption | (apply RdI.rd; assumption) | (apply Rd.get; (solve | (repeat (first | exact List.Mem.head _ | apply List.Mem.tail))); assumption) | (apply Rd.getS; (solve | (repeat (first | exact List.Mem.head _ | apply List.Mem.tail))); assumption) | (apply Rd.getO; (solve | (repeat (first | exact List.Mem.head _ | apply List.Mem.tail))); assumption) | (apply Rd.getI; (solve | (repeat (first | exact List.Mem.head _ | apply List.Mem.tail))); assumption) | (apply Rd.cel; (solve | (repeat (first | exact List.Mem.head _ | apply List.Mem.tail))); exact rfl) | (apply Rd.celI; (solve | (repeat (first | exact List.Mem.head _ | apply List.Mem.tail))); exact rfl)) ?_
        refine RL.move rfl rfl rfl rfl ?_
        refine RL.bv32 (a := _) (b := _) add32 rfl rfl rfl rfl rfl ?_
        refine RL.idxAAt (j := 5) Try.runUnderlying298 Try.sizeOf31 rfl rfl rfl rfl rfl rfl (by decide) ?_
        refine RL.load Try.isAgg31 rfl rfl rfl rfl (by first | assumption | (apply RdI.rd; assumption) | (apply Rd.get; (solve | (repeat (first | exact List.Mem.head _ | apply List.Mem.tail))); assumption) | (apply Rd.getS; (solve | (repeat (first | exact List.Mem.head _ | apply List.Mem.tail))); assumption) | (apply Rd.getO; (solve | (repeat (first | exact List.Mem.head _ | apply List.Mem.tail))); assumption) | (apply Rd.getI; (solve | (repeat (first | exact List.Mem.head _ | apply List.Mem.tail))); assumption) | (apply Rd.cel; (solve | (repeat (first | exact List.Mem.head _ | apply List.Mem.tail))); exact rfl) | (apply Rd.celI; (solve | (repeat (first | exact List.Mem.head _ | apply List.Mem.tail))); exact rfl)) ?_
        refine RL.move rfl rfl rfl rfl ?_
        refine RL.bv32 (a := _) (b := _) add32 rfl rfl rfl rfl rfl ?_
        refine RL.idxAAt (j := 6) Try.runUnderlying298 Try.sizeOf31 rfl rfl rfl rfl rfl rfl (by decide) ?_
        refine RL.load Try.isAgg31 rfl rfl rfl rfl (by first | assumption | (apply RdI.rd; assumption) | (apply Rd.get; (solve | (repeat (first | exact List.Mem.head _ | apply List.Mem.tail))); assumption) | (apply Rd.getS; (solve | (repeat (first | exact List.Mem.head _ | apply List.Mem.tail))); assumption) | (apply Rd.getO; (solve | (repeat (first | exact List.Mem.head _ | apply List.Mem.tail))); assumption) | (apply Rd.getI; (solve | (repeat (first | exact List.Mem.head _ | apply List.Mem.tail))); assumption) | (apply Rd.cel; (solve | (repeat (first | exact List.Mem.head _ | apply List.Mem.tail))); exact rfl) | (apply Rd.celI; (solve | (repeat (first | exact List.Mem.head _ | apply List.Mem.tail))); exact rfl)) ?_
        refine RL.move rfl rfl rfl rfl ?_
        refine RL.bv32 (a := _) (b := _) add32 rfl rfl rfl rfl rfl ?_
        refine RL.idxAAt (j := 7) Try.runUnderlying298 Try.sizeOf31 rfl rfl rfl rfl rfl rfl (by decide) ?_
        refine RL.load Try.isAgg31 rfl rfl rfl rfl (by first | assumption | (apply RdI.rd; assumption) | (apply Rd.get; (solve | (repeat (first | exact List.Mem.head _ | apply List.Mem.tail))); assumption) | (apply Rd.getS; (solve | (repeat (first | exact List.Mem.head _ | apply List.Mem.tail))); assumption) | (apply Rd.getO; (solve | (repeat (first | exact List.Mem.head _ | apply List.Mem.tail))); assumption) | (apply Rd.getI; (solve | (repeat (first | exact List.Mem.head _ | apply List.Mem.tail))); assumption) | (apply Rd.cel; (solve | (repeat (first | exact List.Mem.head _ | apply List.Mem.tail))); exact rfl) | (apply Rd.celI; (solve | (repeat (first | exact List.Mem.head _ | apply List.Mem.tail))); exact rfl)) ?_
        refine RL.move rfl rfl rfl rfl ?_
        refine RL.bv32 (a := _) (b := _) add32 rfl rfl rfl rfl rfl ?_
        refine RL.buildA [_, _, _, _, _, _, _, _] Try.zeroValue298 Try.runUnderlying298 Try.sizeOf31 rfl rfl rfl rfl rfl ?_
        refine RL.store (vs := [_, _, _, _, _, _, _, _]) Try.sizeOf298 rfl rfl rfl rfl rfl rfl rfl rfl rfl (by repeat (first | exact Upd.here | apply Upd.there)) ?_
        refine RL.nil ?_
        refine NQ.seq ?_
        refine CW.only (.cons (k := 4) rfl .nil) ?_
        refine CW.ret ?_
        -- STOP: ret; end
        exact RQ.post (resC rfl rfl Try.isAgg298 (vs := [_, _, _, _, _, _, _, _]) Try.sizeOf298 (by first | (apply Rds.cel; (solve | (repeat (first | exact List.Mem.head _ | apply List.Mem.tail))); exact at_spec ⟨rfl, rfl, rfl, rfl, rfl, rfl, rfl, rfl, trivial⟩) | (apply Rds.celI; (solve | (repeat (first | exact List.Mem.head _ | apply List.Mem.tail))); exact at_spec ⟨rfl, rfl, rfl, rfl, rfl, rfl, rfl, rfl, trivial⟩) | assumption | (apply RdsI.rds; assumption))) (Split.none _) ⟨by rw [comp, hX]; rfl, rfl, rfl⟩
end Go.Proofs.Ytkkfdoippibfkaa
