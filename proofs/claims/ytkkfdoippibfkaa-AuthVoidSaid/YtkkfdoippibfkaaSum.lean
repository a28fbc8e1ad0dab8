import Derived.Test.YtkkfdoippibfkaaSumMath
namespace Go.Proofs.Ytkkfdoippibfkaa
open Go.PK

set_option maxHeartbeats 4000000 in
theorem sum_any (b : Nat) (s : S8) (p : Option Addr) (cap n : Nat) (rest : List B8) (h64 : rest.length < 64) (hb : n ≤ 1000000000) :
    Spc Try.prog 170 #[.pointer (some ⟨b, 0, none⟩)] [hcel b s p rest.length cap n, sls p 1 rest.length (bytes rest)] [] (Is (.agg (bytes (dig (fin s rest n))).toArray)) := by
  refine Spc.enter Try.func170 rfl rfl rfl (fun w0 hw0 => ?_)
  refine CW.seq ?_
  refine CW.region (ef := [0]) (bk := []) ?_
  refine RL.alloc Try.zeroValue133 rfl rfl rfl rfl rfl ?_
  intro b1
  refine RL.nil ?_
  refine NQ.seq ?_
  refine CW.seq ?_
  refine CW.region (ef := [0]) (bk := []) ?_
  refine RL.alloc Try.zeroValue133 rfl rfl rfl rfl rfl ?_
  intro b2
  refine RL.nil ?_
  refine NQ.seq ?_
  refine CW.seq ?_
  refine CW.seq ?_
  refine CW.region (ef := []) (bk := []) ?_
  refine RL.move rfl rfl rfl rfl ?_
  refine RL.callv (is_yes b s p rest.length cap n) Try.call213 rfl rfl rfl rfl (by repeat (first | exact Lend.nil | (refine Lend.inI ?_ ?_; (solve | (repeat (first | exact List.Mem.head _ | apply List.Mem.tail)))) | (refine Lend.inH ?_ ?_; (solve | (repeat (first | exact List.Mem.head _ | apply List.Mem.tail)))))) ?_
  refine RL.not rfl rfl rfl rfl ?_
  refine RL.nil ?_
  refine NQ.seq ?_
  -- STOP: if; todo top: ["code", ["cond", ["t", 14], ["seq", ["region", 3, [{"d": 15, "op": ["load", 133, ["t", 3]], "ty": 133, "pos": "hash.go:113", "after": [], "guard": null}, {"d": null, "op": ["store", 133, ["t", 2], ["
  refine CW.condF rfl (rfl) ?_
  refine CW.skip ?_
  refine NQ.seq ?_
  refine CW.seq ?_
  refine CW.region (ef := [0]) (bk := []) ?_
  -- STOP: op; op 0: d=16 ["makeSlice", 95, ["c", ["int", "Go.IntKind.i64", 128]], ["c", ["int", "Go.IntKind.i64", 128]]] guard=None (hash.go:115)
  generalize hRR : rest ++ padding rest.length n = R
  have hR : R.length = padEnd rest.length := by rw [← hRR]; exact pad_length h64
  refine RL.makeSlice (len := 128) (zs := [U8 0#8]) Try.runUnderlying95 Try.sizeOf5 (ii := Try.t5) (by kernel_rfl) Try.zeroValue5 rfl rfl (by decide) (by decide) (by decide) (by decide) rfl rfl rfl rfl rfl rfl rfl rfl ?_
  intro bl
  rw [reps_one]
  refine RL.assign rfl rfl rfl rfl ?_
  refine RL.nil ?_
  refine NQ.seq ?_
  refine CW.seq ?_
  refine CW.region (ef := [5]) (bk := [5]) ?_
  refine RL.move rfl rfl rfl rfl ?_
  refine RL.move rfl rfl rfl rfl ?_
  refine RL.nilCheck rfl rfl rfl rfl ?_
  refine RL.fieldAddr fa_363_1 rfl rfl rfl rfl ?_
  refine RL.load Try.isAgg95 rfl rfl rfl rfl (by first | assumption | (apply RdI.rd; assumption) | (apply Rd.get; (solve | (repeat (first | exact List.Mem.head _ | apply List.Mem.tail))); assumption) | (apply Rd.getS; (solve | (repeat (first | exact List.Mem.head _ | apply List.Mem.tail))); assumption) | (apply Rd.getO; (solve | (repeat (first | exact List.Mem.head _ | apply List.Mem.tail))); assumption) | (apply Rd.getI; (solve | (repeat (first | exact List.Mem.head _ | apply List.Mem.tail))); assumption) | (apply Rd.cel; (solve | (repeat (first | exact List.Mem.head _ | apply List.Mem.tail))); exact rfl) | (apply Rd.celI; (solve | (repeat (first | exact List.Mem.head _ | apply List.Mem.tail))); exact rfl)) ?_
  -- STOP: op; op 5: d=22 ["builtin", "Go.Builtin.copy", [["t", 17], ["t", 21]], [95, 95]] guard=None (hash.go:116)
  refine RL.copy (news := bytes rest) Try.runUnderlying95 Try.sizeOf5 rfl rfl rfl rfl rfl rfl rfl (Src.sls (by repeat (first | exact List.Mem.head _ | apply List.Mem.tail))) (one_map one8 rest) (by repeat (first | exact Upd.here | apply Upd.there)) (by simp) ?_
  have hmin : Nat.min rest.length 128 = rest.length := Nat.min_eq_left (by omega)
  have hcp : spl (List.replicate 128 (U8 0#8)) 0 (List.take (Nat.min rest.length 128 * 1) (bytes rest)) = bytes rest ++ List.replicate (127 - rest.length + 1) (U8 0#8) := by
    rw [hmin, Nat.mul_one, List.take_of_length_le (by simp), spl_eq _ _ _ (by simp; omega)]
    simp only [List.take_zero, List.nil_append, Nat.zero_add, List.length_map, List.drop_replicate]
    rw [show 128 - rest.length = 127 - rest.length + 1 by omega]
  rw [hcp, hmin]
  clear hcp hmin
  refine RL.assign rfl rfl rfl rfl ?_
  refine RL.nil ?_
  refine NQ.seq ?_
  refine CW.only (.cons (k := 0) rfl (.cons (k := 2) rfl (.cons (k := 3) rfl (.cons (k := 4) rfl (.cons (k := 5) rfl .nil))))) ?_
  refine CW.seq ?_
  refine CW.region (ef := [3]) (bk := [3]) ?_
  refine RL.move rfl rfl rfl rfl ?_
  refine RL.move rfl rfl rfl rfl ?_
  -- STOP: op; op 2: d=25 ["indexAddr", 95, ["t", 23], ["t", 24]] guard=None (hash.go:117)
  have hst : spl (bytes rest ++ List.replicate (127 - rest.length + 1) (U8 0#8)) (0 + rest.length * 1) [.int .u8 128] = pre rest := by
    have := spl_snoc (z := U8 0#8) (v := U8 128#8) (k := 127 - rest.length) (bytes rest)
    rw [List.length_map] at this
    rw [Nat.zero_add, Nat.mul_one]; exact this
  refine RL.idxAt (j := rest.length) Try.runUnderlying95 Try.sizeOf5 rfl rfl rfl rfl rfl rfl (by omega) ?_
  -- STOP: op; op 3: d=None ["store", 5, ["t", 25], ["c", ["int", "Go.IntKind.u8", 128]]] guard=None (hash.go:117)
  refine RL.storeX (cs' := pre rest) (vs := [_]) hst Try.sizeOf5 rfl rfl rfl rfl rfl rfl rfl rfl (by repeat (first | exact Upd.here | apply Upd.there)) (by simp) ?_
  refine RL.nil ?_
  refine NQ.seq ?_
  refine CW.seq ?_
  refine CW.region (ef := []) (bk := []) ?_
  refine RL.assign rfl rfl rfl rfl ?_
  refine RL.nil ?_
  refine NQ.seq ?_
  refine CW.seq ?_
  refine CW.seq ?_
  refine CW.region (ef := []) (bk := []) ?_
  refine RL.move rfl rfl rfl rfl ?_
  refine RL.binX rfl rfl rfl rfl rfl rfl (wrapV_i64 (by omega) (by omega)) ?_
  refine RL.binX rfl rfl rfl rfl rfl rfl (wrapV_i64 (by omega) (by omega)) ?_
  refine RL.bin rfl rfl rfl rfl rfl rfl ?_
  refine RL.nil ?_
  refine NQ.seq ?_
  refine CW.only (.cons (k := 0) rfl (.cons (k := 2) rfl (.cons (k := 3) rfl (.cons (k := 4) rfl (.cons (k := 6) rfl (.cons (k := 29) rfl .nil)))))) ?_
  -- STOP: if; todo top: ["code", ["cond", ["t", 29], ["region", 9, [{"d": 6, "op": ["assign", ["c", ["int", "Go.IntKind.i64", 128]]], "ty": 3, "pos": "hash.go:120", "after": [], "guard": null}], false], ["skip"]]]
  clear hst
  refine CW.cut [(0, .pointer (some ⟨b, 0, none⟩)), (2, .pointer (some ⟨b1, 0, none⟩)), (3, .pointer (some ⟨b2, 0, none⟩)), (4, .slice (some ⟨bl, 0, none⟩) 128 128), (6, .int .i64 (padEnd rest.length : Int))]
    [hcel b s p rest.length cap n, sls p 1 rest.length (bytes rest)] [cel bl (pre rest) 5, cel b2 (List.replicate 32 (U8 0#8)) 133, cel b1 (List.replicate 32 (U8 0#8)) 133] ?_ ?_
  ·
    refine CW.cond rfl (fun hc => ?_) (fun hc => ?_)
    ·
      refine CW.region (ef := []) (bk := []) ?_
      refine RL.assign rfl rfl rfl rfl ?_
      refine RL.nil ?_
      -- STOP: end; todo top: ["N"]
      have hp : (padEnd rest.length : Int) = 128 := by simp at hc; unfold padEnd; rw [if_pos (by omega)]; rfl
      rw [hp]
      exact NQ.mid (.cons rfl (.cons rfl (.cons rfl (.cons rfl (.cons rfl .nil))))) (fun _ h => h)
    ·
      refine CW.skip ?_
      -- STOP: end; todo top: ["N"]
      have hp : (padEnd rest.length : Int) = 64 := by simp at hc; unfold padEnd; rw [if_neg (by omega)]; rfl
      rw [hp]
      exact NQ.mid (.cons rfl (.cons rfl (.cons rfl (.cons rfl (.cons rfl .nil))))) (fun _ h => h)
  have hen : padEnd rest.length ≤ 128 ∧ 64 ≤ padEnd rest.length := by rcases padEnd_le (k := rest.length) with h | h <;> omega
  refine CW.seq ?_
  refine CW.seq ?_
  refine CW.regionD (Sq.of [0, 1, 2, 3, 4, 5, 6, 7]) [] [] [0, 1, 2, 4, 5, 6, 7] mixed (by kernel_rfl) ?_
  refine RL.move rfl rfl rfl rfl ?_
  refine RL.nilCheck rfl rfl rfl rfl ?_
  refine RL.fieldAddr fa_363_2 rfl rfl rfl rfl ?_
  refine RL.load Try.isAgg3 rfl rfl rfl rfl (by first | assumption | (apply RdI.rd; assumption) | (apply Rd.get; (solve | (repeat (first | exact List.Mem.head _ | apply List.Mem.tail))); assumption) | (apply Rd.getS; (solve | (repeat (first | exact List.Mem.head _ | apply List.Mem.tail))); assumption) | (apply Rd.getO; (solve | (repeat (first | exact List.Mem.head _ | apply List.Mem.tail))); assumption) | (apply Rd.getI; (solve | (repeat (first | exact List.Mem.head _ | apply List.Mem.tail))); assumption) | (apply Rd.cel; (solve | (repeat (first | exact List.Mem.head _ | apply List.Mem.tail))); exact rfl) | (apply Rd.celI; (solve | (repeat (first | exact List.Mem.head _ | apply List.Mem.tail))); exact rfl)) ?_
  refine RL.conv Try.runUnderlying3 Try.runUnderlying50 rfl rfl rfl rfl ?_
  -- STOP: op; op 5: d=35 ["binOp", "Go.BinOp.mul", 50, ["t", 34], ["c", ["int", "Go.IntKind.u64", 8]], 50] guard=None (hash.go:122)
  refine RL.binX (v' := .int .u64 ((n * 8 / 256 ^ 0 : Nat) : Int)) rfl rfl rfl rfl rfl rfl (u64_size n hb) ?_
  refine RL.assign rfl rfl rfl rfl ?_
  refine RL.assign rfl rfl rfl rfl ?_
  refine RL.nil ?_
  refine NQ.seq ?_
  refine CW.only (.cons (k := 0) rfl (.cons (k := 2) rfl (.cons (k := 3) rfl (.cons (k := 4) rfl (.cons (k := 6) rfl (.cons (k := 7) rfl (.cons (k := 8) rfl .nil))))))) ?_
  refine CW.block ?_
  -- STOP: loop; todo top: ["code", ["loop", ["seq", ["seq", ["region", 11, [{"d": 36, "op": ["move", ["t", 7]], "ty": 3, "pos": "hash.go:122", "after": [], "guard": null}, {"d": 37, "op": ["binOp", "Go.BinOp.leq", 3, ["t", 36]
  refine CW.loop (γ := Nat) (fun j => j ≤ 8) (fun j => [(0, .pointer (some ⟨b, 0, none⟩)), (2, .pointer (some ⟨b1, 0, none⟩)), (3, .pointer (some ⟨b2, 0, none⟩)), (4, .slice (some ⟨bl, 0, none⟩) 128 128), (6, .int .i64 (padEnd rest.length : Int)), (7, .int .i64 ((j : Int) + 1)), (8, .int .u64 ((n * 8 / 256 ^ j : Nat) : Int))])
    (fun _ => [hcel b s p rest.length cap n, sls p 1 rest.length (bytes rest)]) (fun j => [cel bl (lay rest n (padEnd rest.length) j) 5, cel b2 (List.replicate 32 (U8 0#8)) 133, cel b1 (List.replicate 32 (U8 0#8)) 133])
    (fun j => 9 - j) 0 (by omega) (.cons rfl (.cons rfl (.cons rfl (.cons rfl (.cons rfl (.cons rfl (.cons rfl .nil))))))) (fun _ h => by rw [lay_zero]; exact h) ?_
  intro j hj
  refine CW.seq ?_
  refine CW.seq ?_
  refine CW.region (ef := []) (bk := []) ?_
  refine RL.move rfl rfl rfl rfl ?_
  refine RL.bin rfl rfl rfl rfl rfl rfl ?_
  refine RL.nil ?_
  refine NQ.seq ?_
  -- STOP: if; todo top: ["code", ["cond", ["t", 37], ["skip"], ["exit", 0]]]
  refine CW.cond rfl (fun hlt => ?_) (fun hlt => ?_)
  ·
    refine CW.skip ?_
    refine NQ.seq ?_
    refine CW.seq ?_
    refine CW.block ?_
    refine CW.seq ?_
    refine CW.region (ef := [7]) (bk := [7]) ?_
    refine RL.move rfl rfl rfl rfl ?_
    refine RL.move rfl rfl rfl rfl ?_
    refine RL.move rfl rfl rfl rfl ?_
    refine RL.binX rfl rfl rfl rfl rfl rfl (wrapV_i64 (by omega) (by omega)) ?_
    refine RL.move rfl rfl rfl rfl ?_
    refine RL.lowest Try.runUnderlying50 Try.runUnderlying5 rfl rfl rfl rfl ?_
    -- STOP: op; op 6: d=46 ["indexAddr", 95, ["t", 40], ["t", 43]] guard=None (hash.go:123)
    have hlt : j < 8 := by simp at hlt; omega
    refine RL.idxAt (j := padEnd rest.length - (j + 1)) Try.runUnderlying95 Try.sizeOf5 rfl rfl rfl rfl rfl (by omega) (by omega) ?_
    -- STOP: op; op 7: d=None ["store", 5, ["t", 46], ["t", 45]] guard=None (hash.go:123)
    refine RL.storeX (cs' := lay rest n (padEnd rest.length) (j + 1)) (vs := [_]) (lay_step h64 hlt (by omega) hen.1) Try.sizeOf5 rfl rfl rfl rfl rfl rfl rfl rfl (by repeat (first | exact Upd.here | apply Upd.there)) (by rw [lay_length h64 hj (by omega) hen.1]; show _ ≤ 128; simp; omega) ?_
    refine RL.nil ?_
    refine NQ.seq ?_
    refine CW.only (.cons (k := 0) rfl (.cons (k := 2) rfl (.cons (k := 3) rfl (.cons (k := 4) rfl (.cons (k := 6) rfl (.cons (k := 7) rfl (.cons (k := 8) rfl .nil))))))) ?_
    refine CW.region (ef := []) (bk := []) ?_
    refine RL.move rfl rfl rfl rfl ?_
    -- STOP: op; op 1: d=48 ["binOp", "Go.BinOp.shr", 50, ["t", 47], ["c", ["int", "Go.IntKind.u64", 8]], 284] guard=None (hash.go:124)
    refine RL.shr 8 rfl rfl rfl rfl rfl rfl (by decide) ?_
    refine RL.assign rfl rfl rfl rfl ?_
    refine RL.nil ?_
    refine NQ.block ?_
    refine NQ.seq ?_
    refine CW.region (ef := []) (bk := []) ?_
    refine RL.move rfl rfl rfl rfl ?_
    refine RL.binX rfl rfl rfl rfl rfl rfl (wrapV_i64 (by omega) (by omega)) ?_
    refine RL.assign rfl rfl rfl rfl ?_
    refine RL.nil ?_
    -- STOP: round; todo top: ["N"]
    refine NQ.round (g := j) (j + 1) (by omega) (by omega) (.cons rfl (.cons rfl (.cons rfl (.cons rfl (.cons rfl (.cons rfl ?_)))))) (fun _ h => h)
    have e : (((n * 8 / 256 ^ j : Nat) : Int).fdiv (2 ^ 8)) = ((n * 8 / 256 ^ (j + 1) : Nat) : Int) := by
      rw [Int.fdiv_eq_ediv_of_nonneg _ (by decide), Nat.pow_succ, ← Nat.div_div_eq_div_mul]; simp
    rw [e]
    exact .cons rfl .nil
  ·
    have hj8 : j = 8 := by simp at hlt; omega
    subst hj8
    refine CW.exit ?_
    refine XQ.seq ?_
    refine XQ.seq ?_
    refine XQ.hit ?_
    refine NQ.seq ?_
    refine CW.seq ?_
    refine CW.region (ef := [4, 5]) (bk := [5]) ?_
    refine RL.move rfl rfl rfl rfl ?_
    refine RL.nilCheck rfl rfl rfl rfl ?_
    refine RL.fieldAddr fa_363_0 rfl rfl rfl rfl ?_
    refine RL.loadN (vs := [_, _, _, _, _, _, _, _]) Try.isAgg360 Try.sizeOf360 rfl rfl rfl rfl (by first | (apply Rds.cel; (solve | (repeat (first | exact List.Mem.head _ | apply List.Mem.tail))); exact at_spec ⟨rfl, rfl, rfl, rfl, rfl, rfl, rfl, rfl, trivial⟩) | (apply Rds.celI; (solve | (repeat (first | exact List.Mem.head _ | apply List.Mem.tail))); exact at_spec ⟨rfl, rfl, rfl, rfl, rfl, rfl, rfl, rfl, trivial⟩) | assumption | (apply RdsI.rds; assumption)) ?_
    refine RL.alloc Try.zeroValue360 rfl rfl rfl rfl rfl ?_
    intro b3
    refine RL.store (vs := [_, _, _, _, _, _, _, _]) Try.sizeOf360 rfl rfl rfl rfl rfl rfl rfl rfl rfl (by repeat (first | exact Upd.here | apply Upd.there)) ?_
    refine RL.nil ?_
    refine NQ.seq ?_
    refine CW.only (.cons (k := 2) rfl (.cons (k := 3) rfl (.cons (k := 4) rfl (.cons (k := 6) rfl (.cons (k := 9) rfl .nil))))) ?_
    refine CW.seq ?_
    refine CW.seq ?_
    refine CW.region (ef := []) (bk := []) ?_
    refine RL.assign rfl rfl rfl rfl ?_
    refine RL.nil ?_
    refine NQ.seq ?_
    refine CW.block ?_
    -- STOP: loop; todo top: ["code", ["loop", ["seq", ["seq", ["region", 17, [{"d": 53, "op": ["move", ["t", 10]], "ty": 3, "pos": "hash.go:127", "after": [], "guard": null}, {"d": 54, "op": ["move", ["t", 6]], "ty": 3, "pos": "
    refine CW.loop (γ := S8 × Nat) (fun g => absorb g.1 (R.drop g.2) = absorb s R ∧ g.2 % 64 = 0 ∧ g.2 ≤ padEnd rest.length) (fun g => [(2, .pointer (some ⟨b1, 0, none⟩)), (3, .pointer (some ⟨b2, 0, none⟩)), (4, .slice (some ⟨bl, 0, none⟩) 128 128), (6, .int .i64 (padEnd rest.length : Int)), (9, .pointer (some ⟨b3, 0, none⟩)), (10, .int .i64 (g.2 : Int))])
      (fun _ => []) (fun g => [cel b3 g.1.cells 360, cel bl (lay rest n (padEnd rest.length) 8) 5, cel b2 (List.replicate 32 (U8 0#8)) 133, cel b1 (List.replicate 32 (U8 0#8)) 133])
      (fun g => padEnd rest.length - g.2) (s, 0) ⟨rfl, rfl, by omega⟩ (.cons rfl (.cons rfl (.cons rfl (.cons rfl (.cons rfl (.cons rfl .nil)))))) (fun _ h => h.les (fun x hx => by cases hx) (Les.refl _)) ?_
    rintro ⟨st, a⟩ ⟨h1, h2, h3⟩
    dsimp only at h1 h2 h3 ⊢
    have h64or := padEnd_le (k := rest.length)
    clear hlt hj
    refine CW.seq ?_
    refine CW.seq ?_
    refine CW.region (ef := []) (bk := []) ?_
    refine RL.move rfl rfl rfl rfl ?_
    refine RL.move rfl rfl rfl rfl ?_
    refine RL.bin rfl rfl rfl rfl rfl rfl ?_
    refine RL.nil ?_
    refine NQ.seq ?_
    -- STOP: if; todo top: ["code", ["cond", ["t", 55], ["skip"], ["exit", 2]]]
    refine CW.cond rfl (fun hlt => ?_) (fun hlt => ?_)
    ·
      have hlt : a < padEnd rest.length := by simp at hlt; omega
      have hle : a + 64 ≤ padEnd rest.length := by omega
      refine CW.skip ?_
      refine NQ.seq ?_
      refine CW.seq ?_
      refine CW.block ?_
      refine CW.regionD (Sq.of [0, 1, 2, 3, 4, 5, 6, 7]) [7] [7] [1, 2, 3, 4, 5] mixed (by kernel_rfl) ?_
      refine RL.loadN (vs := [_, _, _, _, _, _, _, _]) Try.isAgg360 Try.sizeOf360 rfl rfl rfl rfl (by first | (apply Rds.cel; (solve | (repeat (first | exact List.Mem.head _ | apply List.Mem.tail))); exact at_spec ⟨rfl, rfl, rfl, rfl, rfl, rfl, rfl, rfl, trivial⟩) | (apply Rds.celI; (solve | (repeat (first | exact List.Mem.head _ | apply List.Mem.tail))); exact at_spec ⟨rfl, rfl, rfl, rfl, rfl, rfl, rfl, rfl, trivial⟩) | assumption | (apply RdsI.rds; assumption)) ?_
      refine RL.move rfl rfl rfl rfl ?_
      refine RL.move rfl rfl rfl rfl ?_
      refine RL.move rfl rfl rfl rfl ?_
      refine RL.binX rfl rfl rfl rfl rfl rfl (wrapV_i64 (by omega) (by omega)) ?_
      -- STOP: op; op 5: d=63 ["slice", 95, ["t", 59], ["t", 60], ["t", 62], null] guard=None (hash.go:128)
      refine RL.sliceP (lo := a) (hi := a + 64) Try.runUnderlying95 Try.sizeOf5 rfl rfl rfl rfl rfl rfl (by omega) (by omega) (by omega) ?_
      rw [add_none, Nat.add_sub_cancel_left]
      refine RL.callv (turned_any st ((R.drop a).take 64) ⟨bl, 0 + a * 1, none⟩ (128 - a) (by rw [List.length_take, List.length_drop]; omega) (by omega)) Try.call214 rfl rfl rfl rfl (Lend.cel (off := 0 + a * 1) (by repeat (first | exact List.Mem.head _ | apply List.Mem.tail)) (by rw [List.length_map, List.length_take, List.length_drop]; omega) (fun j u hu => by rw [Nat.zero_add, Nat.mul_one]; subst hRR; exact Lpart h64 hle j u hu) .nil) ?_
      refine RL.store (vs := [_, _, _, _, _, _, _, _]) Try.sizeOf360 rfl rfl rfl rfl rfl rfl rfl rfl rfl (by repeat (first | exact Upd.here | apply Upd.there)) ?_
      refine RL.nil ?_
      refine NQ.block ?_
      refine NQ.seq ?_
      refine CW.only (.cons (k := 2) rfl (.cons (k := 3) rfl (.cons (k := 4) rfl (.cons (k := 6) rfl (.cons (k := 9) rfl (.cons (k := 10) rfl .nil)))))) ?_
      refine CW.region (ef := []) (bk := []) ?_
      refine RL.move rfl rfl rfl rfl ?_
      refine RL.binX rfl rfl rfl rfl rfl rfl (wrapV_i64 (by omega) (by omega)) ?_
      refine RL.assign rfl rfl rfl rfl ?_
      refine RL.nil ?_
      -- STOP: round; todo top: ["N"]
      have hge : 64 ≤ (R.drop a).length := by rw [List.length_drop]; omega
      exact NQ.round (g := (st, a)) (comp st ((R.drop a).take 64), a + 64) ⟨by rw [← h1, absorb_ge hge, List.drop_drop], by show (a + 64) % 64 = 0; omega, hle⟩ (by show padEnd rest.length - (a + 64) < padEnd rest.length - a; omega) (.cons rfl (.cons rfl (.cons rfl (.cons rfl (.cons rfl (.cons rfl .nil)))))) (fun _ h => h)
    ·
      have hae : a = padEnd rest.length := by simp at hlt; omega
      have hS : st = fin s rest n := by
        rw [fin, hRR, ← h1, hae, ← hR, List.drop_length, absorb_lt (by simp)]
      subst hS
      generalize fin s rest n = X
      refine CW.exit ?_
      refine XQ.seq ?_
      refine XQ.seq ?_
      refine XQ.hit ?_
      refine NQ.seq ?_
      refine CW.only (.cons (k := 2) rfl (.cons (k := 3) rfl (.cons (k := 9) rfl .nil))) ?_
      refine CW.seq ?_
      refine CW.seq ?_
      refine CW.region (ef := []) (bk := []) ?_
      refine RL.move rfl rfl rfl rfl ?_
      refine RL.nil ?_
      refine NQ.seq ?_
      refine CW.block ?_
      -- STOP: loop; todo top: ["code", ["loop", ["seq", ["region", 21, [{"d": 66, "op": ["binOp", "Go.BinOp.lss", 3, ["t", 65], ["c", ["int", "Go.IntKind.i64", 32]], 3], "ty": 0, "pos": "hash.go:130", "after": [], "guard": null}],
      refine CW.loop (γ := Nat) (fun j => j ≤ 32) (fun j => [(2, .pointer (some ⟨b1, 0, none⟩)), (3, .pointer (some ⟨b2, 0, none⟩)), (9, .pointer (some ⟨b3, 0, none⟩)), (65, .int .i64 (j : Int))])
        (fun _ => []) (fun j => [cel b3 X.cells 360, cel b2 ((bytes (dig X)).take j ++ (List.replicate 32 (U8 0#8)).drop j) 133, cel b1 (List.replicate 32 (U8 0#8)) 133])
        (fun j => 32 - j) 0 (by omega) (.cons rfl (.cons rfl (.cons rfl (.cons rfl .nil)))) (fun _ h => h.rea (fun _ h => h) (by repeat (first | exact Rea.nil | (apply Rea.cons; (solve | (repeat (first | exact Del.here | apply Del.there))))))) ?_
      clear hlt
      intro j hj
      refine CW.seq ?_
      refine CW.region (ef := []) (bk := []) ?_
      refine RL.bin rfl rfl rfl rfl rfl rfl ?_
      refine RL.nil ?_
      refine NQ.seq ?_
      refine CW.seq ?_
      -- STOP: if; todo top: ["code", ["cond", ["t", 66], ["skip"], ["exit", 4]]]
      refine CW.cond rfl (fun hlt => ?_) (fun hlt => ?_)
      ·
        refine CW.skip ?_
        refine NQ.seq ?_
        refine CW.seq ?_
        refine CW.block ?_
        refine CW.seq ?_
        refine CW.region (ef := []) (bk := []) ?_
        refine RL.move rfl rfl rfl rfl ?_
        refine RL.assign rfl rfl rfl rfl ?_
        refine RL.nil ?_
        refine NQ.seq ?_
        refine CW.region (ef := [12]) (bk := [12]) ?_
        refine RL.move rfl rfl rfl rfl ?_
        refine RL.move rfl rfl rfl rfl ?_
        refine RL.quo rfl rfl rfl rfl rfl (by decide) ?_
        -- STOP: op; op 3: d=71 ["indexAddr", 360, ["t", 9], ["t", 70]] guard=None (hash.go:131)
        have hlt : j < 32 := by simp at hlt; omega
        have g1 : X.cells[0 + j / 4 * 1]? = some (U32 (sget X (j / 4))) := by rw [Nat.zero_add, Nat.mul_one, sget_cells X _ (by omega)]
        refine RL.idxAAt (j := j / 4) Try.runUnderlying360 Try.sizeOf31 rfl rfl rfl rfl rfl (div4 j hlt) (by omega) ?_
        refine RL.load Try.isAgg31 rfl rfl rfl rfl (by first | assumption | (apply RdI.rd; assumption) | (apply Rd.get; (solve | (repeat (first | exact List.Mem.head _ | apply List.Mem.tail))); assumption) | (apply Rd.getS; (solve | (repeat (first | exact List.Mem.head _ | apply List.Mem.tail))); assumption) | (apply Rd.getO; (solve | (repeat (first | exact List.Mem.head _ | apply List.Mem.tail))); assumption) | (apply Rd.getI; (solve | (repeat (first | exact List.Mem.head _ | apply List.Mem.tail))); assumption) | (apply Rd.cel; (solve | (repeat (first | exact List.Mem.head _ | apply List.Mem.tail))); exact rfl) | (apply Rd.celI; (solve | (repeat (first | exact List.Mem.head _ | apply List.Mem.tail))); exact rfl)) ?_
        refine RL.move rfl rfl rfl rfl ?_
        refine RL.rem rfl rfl rfl rfl rfl (by decide) ?_
        -- STOP: op; op 7: d=75 ["binOp", "Go.BinOp.sub", 3, ["c", ["int", "Go.IntKind.i64", 3]], ["t", 74], 3] guard=None (hash.go:131)
        refine RL.bin rfl rfl rfl rfl rfl rfl ?_
        -- STOP: op; op 8: d=76 ["binOp", "Go.BinOp.mul", 3, ["c", ["int", "Go.IntKind.i64", 8]], ["t", 75], 3] guard=None (hash.go:131)
        refine RL.bin rfl rfl rfl rfl rfl rfl ?_
        -- STOP: op; op 9: d=77 ["binOp", "Go.BinOp.shr", 31, ["t", 72], ["t", 76], 3] guard=None (hash.go:131)
        refine RL.shr32 (8 * (3 - j % 4)) rfl rfl rfl rfl rfl (mod4 j hlt) (by omega) ?_
        refine RL.narrow Try.runUnderlying31 Try.runUnderlying5 rfl rfl rfl rfl ?_
        -- STOP: op; op 11: d=79 ["indexAddr", 133, ["t", 3], ["t", 68]] guard=None (hash.go:131)
        refine RL.idxAAt (j := j) Try.runUnderlying133 Try.sizeOf5 rfl rfl rfl rfl rfl rfl (by omega) ?_
        -- STOP: op; op 12: d=None ["store", 5, ["t", 79], ["t", 78]] guard=None (hash.go:131)
        refine RL.storeX (cs' := (bytes (dig X)).take (j + 1) ++ (List.replicate 32 (U8 0#8)).drop (j + 1)) (vs := [_]) (spl_mix (by simp [dig_length]) (dig_get X hlt)) Try.sizeOf5 rfl rfl rfl rfl rfl rfl rfl rfl (by repeat (first | exact Upd.here | apply Upd.there)) (by simp [dig_length]; omega) ?_
        refine RL.nil ?_
        refine NQ.block ?_
        refine NQ.seq ?_
        refine CW.only (.cons (k := 2) rfl (.cons (k := 3) rfl (.cons (k := 9) rfl (.cons (k := 65) rfl .nil)))) ?_
        refine CW.region (ef := []) (bk := []) ?_
        refine RL.binX rfl rfl rfl rfl rfl rfl (wrapV_i64 (by omega) (by omega)) ?_
        refine RL.move rfl rfl rfl rfl ?_
        refine RL.nil ?_
        -- STOP: round; todo top: ["N"]
        exact NQ.round (g := j) (j + 1) (by omega) (by omega) (.cons rfl (.cons rfl (.cons rfl (.cons rfl .nil)))) (fun _ h => h)
      ·
        have hj32 : j = 32 := by simp at hlt; omega
        subst hj32
        have hfull : (bytes (dig X)).take 32 ++ (List.replicate 32 (U8 0#8)).drop 32 = bytes (dig X) := by
          rw [List.take_of_length_le (by simp [dig_length])]; simp
        rw [hfull]
        refine CW.exit ?_
        refine XQ.seq ?_
        refine XQ.seq ?_
        refine XQ.hit ?_
        refine NQ.seq ?_
        refine CW.seq ?_
        refine CW.region (ef := [1]) (bk := [1]) ?_
        -- STOP: op; op 0: d=81 ["load", 133, ["t", 3]] guard=None (hash.go:133)
        refine RL.loadN (vs := bytes (dig X)) Try.isAgg133 (by rw [List.length_map, dig_length]; exact Try.sizeOf133) rfl rfl rfl rfl (Rds.all (by repeat (first | exact List.Mem.head _ | apply List.Mem.tail))) ?_
        -- STOP: op; op 1: d=None ["store", 133, ["t", 2], ["t", 81]] guard=None (hash.go:133)
        refine RL.storeX (cs := List.replicate 32 (U8 0#8)) (cs' := bytes (dig X)) (vs := bytes (dig X)) (spl_all (by simp [dig_length])) (by rw [List.length_map, dig_length]; exact Try.sizeOf133) rfl rfl rfl rfl rfl rfl rfl (ones_map one8 _) (by repeat (first | exact Upd.here | apply Upd.there)) (by simp [dig_length]) ?_
        refine RL.nil ?_
        refine NQ.seq ?_
        refine CW.ret ?_
        -- STOP: ret; end
        exact RQ.post (resC rfl rfl Try.isAgg133 (vs := bytes (dig X)) (by rw [List.length_map, dig_length]; exact Try.sizeOf133) (Rds.all (by repeat (first | exact List.Mem.head _ | apply List.Mem.tail)))) (Split.none _) ⟨rfl, rfl, rfl⟩
end Go.Proofs.Ytkkfdoippibfkaa
