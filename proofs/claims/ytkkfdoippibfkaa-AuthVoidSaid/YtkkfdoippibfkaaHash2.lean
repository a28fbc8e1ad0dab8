import Derived.Test.YtkkfdoippibfkaaBase0
import Derived.Test.YtkkfdoippibfkaaHash1
namespace Go.Proofs.Ytkkfdoippibfkaa
open Go.PK


theorem htable_any : Spc Try.prog 237 #[] [] [] (Is (.agg (words K).toArray)) := by
  refine Spc.enter Try.func237 rfl rfl rfl (fun w0 hw0 => ?_)
  refine CW.seq ?_
  refine CW.region (ef := [0]) (bk := []) ?_
  refine RL.alloc Try.zeroValue392 rfl rfl rfl rfl rfl ?_
  intro b1
  refine RL.nil ?_
  refine NQ.seq ?_
  refine CW.seq ?_
  refine CW.region (ef := [1]) (bk := [1]) ?_
  -- STOP: op; op 0: d=1 ["build", 392, [[0, ["c", ["int", "Go.IntKind.u32", 1116352408]]], [1, ["c", ["int", "Go.IntKind.u32", 1899447441]]], [2, ["c", ["int", "Go.IntKind.u32", 3049323471]]], [3, ["c", ["int", "Go.IntKind.u32", 3921009573]]], [4, ["c", ["int", "Go.IntKind.u32", 961987163]]], [5, ["c", ["int", "Go.IntKind.u32", 1508970993]]], [6, ["c", ["int", "Go.IntKind.u32", 2453635748]]], [7, ["c", ["int", "Go.IntKind.u32", 2870763221]]], [8, ["c", ["int", "Go.IntKind.u32", 3624381080]]], [9, ["c", ["int", "Go.IntKind.u32", 310598401]]], [10, ["c", ["int", "Go.IntKind.u32", 607225278]]], [11, ["c", ["int", "Go.IntKind.u32", 1426881987]]], [12, ["c", ["int", "Go.IntKind.u32", 1925078388]]], [13, ["c", ["int", "Go.IntKind.u32", 2162078206]]], [14, ["c", ["int", "Go.IntKind.u32", 2614888103]]], [15, ["c", ["int", "Go.IntKind.u32", 3248222580]]], [16, ["c", ["int", "Go.IntKind.u32", 3835390401]]], [17, ["c", ["int", "Go.IntKind.u32", 4022224774]]], [18, ["c", ["int", "Go.IntKind.u32", 264347078]]], [19, ["c", ["int", "Go.IntKind.u32", 604807628]]], [20, ["c", ["int", "Go.IntKind.u32", 770255983]]], [21, ["c", ["int", "Go.IntKind.u32", 1249150122]]], [22, ["c", ["int", "Go.IntKind.u32", 1555081692]]], [23, ["c", ["int", "Go.IntKind.u32", 1996064986]]], [24, ["c", ["int", "Go.IntKind.u32", 2554220882]]], [25, ["c", ["int", "Go.IntKind.u32", 2821834349]]], [26, ["c", ["int", "Go.IntKind.u32", 2952996808]]], [27, ["c", ["int", "Go.IntKind.u32", 3210313671]]], [28, ["c", ["int", "Go.IntKind.u32", 3336571891]]], [29, ["c", ["int", "Go.IntKind.u32", 3584528711]]], [30, ["c", ["int", "Go.IntKind.u32", 113926993]]], [31, ["c", ["int", "Go.IntKind.u32", 338241895]]], [32, ["c", ["int", "Go.IntKind.u32", 666307205]]], [33, ["c", ["int", "Go.IntKind.u32", 773529912]]], [34, ["c", ["int", "Go.IntKind.u32", 1294757372]]], [35, ["c", ["int", "Go.IntKind.u32", 1396182291]]], [36, ["c", ["int", "Go.IntKind.u32", 1695183700]]], [37, ["c", ["int", "Go.IntKind.u32", 1986661051]]], [38, ["c", ["int", "Go.IntKind.u32", 2177026350]]], [39, ["c", ["int", "Go.IntKind.u32", 2456956037]]], [40, ["c", ["int", "Go.IntKind.u32", 2730485921]]], [41, ["c", ["int", "Go.IntKind.u32", 2820302411]]], [42, ["c", ["int", "Go.IntKind.u32", 3259730800]]], [43, ["c", ["int", "Go.IntKind.u32", 3345764771]]], [44, ["c", ["int", "Go.IntKind.u32", 3516065817]]], [45, ["c", ["int", "Go.IntKind.u32", 3600352804]]], [46, ["c", ["int", "Go.IntKind.u32", 4094571909]]], [47, ["c", ["int", "Go.IntKind.u32", 275423344]]], [48, ["c", ["int", "Go.IntKind.u32", 430227734]]], [49, ["c", ["int", "Go.IntKind.u32", 506948616]]], [50, ["c", ["int", "Go.IntKind.u32", 659060556]]], [51, ["c", ["int", "Go.IntKind.u32", 883997877]]], [52, ["c", ["int", "Go.IntKind.u32", 958139571]]], [53, ["c", ["int", "Go.IntKind.u32", 1322822218]]], [54, ["c", ["int", "Go.IntKind.u32", 1537002063]]], [55, ["c", ["int", "Go.IntKind.u32", 1747873779]]], [56, ["c", ["int", "Go.IntKind.u32", 1955562222]]], [57, ["c", ["int", "Go.IntKind.u32", 2024104815]]], [58, ["c", ["int", "Go.IntKind.u32", 2227730452]]], [59, ["c", ["int", "Go.IntKind.u32", 2361852424]]], [60, ["c", ["int", "Go.IntKind.u32", 2428436474]]], [61, ["c", ["int", "Go.IntKind.u32", 2756734187]]], [62, ["c", ["int", "Go.IntKind.u32", 3204031479]]], [63, ["c", ["int", "Go.IntKind.u32", 3329325298]]]]] guard=None (hash.go:30)
  refine RL.buildA (words K) Try.zeroValue392 Try.runUnderlying392 Try.sizeOf31 rfl rfl rfl rfl (by kernel_rfl) ?_
  -- STOP: op; op 1: d=None ["store", 392, ["t", 0], ["t", 1]] guard=None (hash.go:30)
  refine RL.storeX (cs' := words K) (vs := words K) (by kernel_rfl) Try.sizeOf392 rfl rfl rfl rfl rfl rfl rfl (ones_map one32 K) (by repeat (first | exact Upd.here | apply Upd.there)) (by decide) ?_
  refine RL.nil ?_
  refine NQ.seq ?_
  refine CW.ret ?_
  -- STOP: ret; end
  exact RQ.post (resC rfl rfl Try.isAgg392 (vs := words K) Try.sizeOf392 (Rds.all (by repeat (first | exact List.Mem.head _ | apply List.Mem.tail)))) (Split.none _) ⟨rfl, rfl, rfl⟩

def wcells (m : List B8) (n : Nat) : List Value := words (ws m n) ++ List.replicate (64 - n) (U32 0#32)
theorem wcells_length (m : List B8) {n : Nat} (h : n ≤ 64) : (wcells m n).length = 64 := by simp [wcells, ws_length]; omega
theorem wcells_store (m : List B8) {n : Nat} (h : n < 64) : spl (wcells m n) (0 + n * 1) [U32 (word m (ws m n) n)] = wcells m (n + 1) := by
  have e : 64 - n = (64 - (n + 1)) + 1 := by omega
  have h2 := spl_snoc (z := U32 0#32) (v := U32 (word m (ws m n) n)) (k := 64 - (n + 1)) (words (ws m n))
  rw [List.length_map, ws_length] at h2
  rw [wcells, e, Nat.zero_add, Nat.mul_one, h2, wcells, ws, words, words, List.map_append]
  rfl
theorem wcells_get (m : List B8) {n j : Nat} (h : j < n) : (wcells m n)[0 + j * 1]? = some (U32 ((ws m n).getD j 0)) := by
  have : j < (ws m n).length := by rw [ws_length]; exact h
  rw [Nat.zero_add, Nat.mul_one, wcells, List.getElem?_append_left (by simpa using this)]
  simp [this]
theorem wcells_all (m : List B8) : wcells m 64 = words (ws m 64) := by simp [wcells]
theorem bytes_get {m : List B8} {j : Nat} (h : j < m.length) : (bytes m)[j]? = some (U8 (m.getD j 0)) := by simp [h]

theorem spread_any (m : List B8) (p : Addr) (cap : Nat) (hm : m.length = 64) (hc : 64 ≤ cap) : Spc Try.prog 236 #[.slice (some p) 64 cap] [sls (some p) 1 64 (bytes m)] [] (Is (.agg (words (ws m 64)).toArray)) := by
  refine Spc.enter Try.func236 rfl rfl rfl (fun w0 hw0 => ?_)
  refine CW.seq ?_
  refine CW.region (ef := [0]) (bk := []) ?_
  refine RL.alloc Try.zeroValue392 rfl rfl rfl rfl rfl ?_
  intro b1
  refine RL.nil ?_
  refine NQ.seq ?_
  refine CW.seq ?_
  refine CW.region (ef := [0]) (bk := []) ?_
  refine RL.alloc Try.zeroValue392 rfl rfl rfl rfl rfl ?_
  intro b2
  refine RL.nil ?_
  refine NQ.seq ?_
  refine CW.seq ?_
  refine CW.seq ?_
  refine CW.region (ef := []) (bk := []) ?_
  refine RL.move rfl rfl rfl rfl ?_
  refine RL.nil ?_
  refine NQ.seq ?_
  refine CW.block ?_
  -- STOP: loop; todo top: ["code", ["loop", ["seq", ["region", 3, [{"d": 12, "op": ["binOp", "Go.BinOp.lss", 3, ["t", 11], ["c", ["int", "Go.IntKind.i64", 16]], 3], "ty": 4, "pos": "hash.go:48", "after": [], "guard": null}], f
  refine CW.loop (γ := Nat) (fun n => n ≤ 16) (fun n => [(0, .slice (some p) 64 cap), (2, .pointer (some ⟨b1, 0, none⟩)), (3, .pointer (some ⟨b2, 0, none⟩)), (11, .int .i64 n)])
    (fun _ => [sls (some p) 1 64 (bytes m)]) (fun n => [cel b2 (wcells m n) 392, cel b1 (List.replicate 64 (U32 0#32)) 392]) (fun n => 16 - n) 0 (by omega) (.cons rfl (.cons rfl (.cons rfl (.cons rfl .nil)))) (fun _ h => h) ?_
  intro n hn
  refine CW.seq ?_
  refine CW.region (ef := []) (bk := []) ?_
  refine RL.bin rfl rfl rfl rfl rfl rfl ?_
  refine RL.nil ?_
  refine NQ.seq ?_
  refine CW.seq ?_
  -- STOP: if; todo top: ["code", ["cond", ["t", 12], ["skip"], ["exit", 0]]]
  refine CW.cond rfl (fun hlt => ?_) (fun hlt => ?_)
  ·
    refine CW.skip ?_
    refine NQ.seq ?_
    refine CW.seq ?_
    refine CW.block ?_
    refine CW.seq ?_
    refine CW.region (ef := []) (bk := []) ?_
    refine RL.move rfl rfl rfl rfl ?_
    refine RL.assign rfl rfl rfl rfl ?_
    refine RL.nil ?_
    refine NQ.seq ?_
    refine CW.seq ?_
    refine CW.region (ef := []) (bk := []) ?_
    refine RL.move rfl rfl rfl rfl ?_
    refine RL.move rfl rfl rfl rfl ?_
    refine RL.binX rfl rfl rfl rfl rfl rfl (wrapV_i64 (by omega) (by omega)) ?_
    -- STOP: op; op 3: d=17 ["slice", 95, ["t", 14], ["t", 16], null, null] guard=None (hash.go:49)
    have hlt : n < 16 := by simp at hlt; omega
    refine RL.sliceP (lo := 4 * n) (hi := 64) Try.runUnderlying95 Try.sizeOf5 rfl rfl rfl rfl (congrArg some (by omega)) rfl (by omega) hc (by omega) ?_
    refine RL.assign rfl rfl rfl rfl ?_
    refine RL.nil ?_
    refine NQ.seq ?_
    refine CW.only (.cons (k := 0) rfl (.cons (k := 2) rfl (.cons (k := 3) rfl (.cons (k := 4) rfl (.cons (k := 5) rfl (.cons (k := 11) rfl .nil)))))) ?_
    refine CW.regionD (Sq.of [0, 1, 2, 3, 4, 5, 6, 7, 8, 9, 10, 11, 12, 13, 14, 15, 16, 17, 18, 19, 20, 21, 22, 23, 24]) [24] [24] [0, 1, 2, 4, 5, 6, 7, 9, 10, 11, 12, 13, 15, 16, 17, 18, 19, 21, 22, 23] mixed (by kernel_rfl) ?_
    refine RL.move rfl rfl rfl rfl ?_
    refine RL.move rfl rfl rfl rfl ?_
    -- STOP: op; op 2: d=20 ["indexAddr", 95, ["t", 19], ["c", ["int", "Go.IntKind.i64", 0]]] guard=None (hash.go:50)
    have g0 := bytes_get (m := m) (j := 4 * n * 1 + 0 * 1) (by omega)
    have g1 := bytes_get (m := m) (j := 4 * n * 1 + 1 * 1) (by omega)
    have g2 := bytes_get (m := m) (j := 4 * n * 1 + 2 * 1) (by omega)
    have g3 := bytes_get (m := m) (j := 4 * n * 1 + 3 * 1) (by omega)
    refine RL.idxS (j := 0) Try.runUnderlying95 Try.sizeOf5 rfl rfl rfl rfl rfl rfl (by omega) ?_
    refine RL.load Try.isAgg5 rfl rfl rfl rfl (by first | assumption | (apply RdI.rd; assumption) | (apply Rd.get; (solve | (repeat (first | exact List.Mem.head _ | apply List.Mem.tail))); assumption) | (apply Rd.getS; (solve | (repeat (first | exact List.Mem.head _ | apply List.Mem.tail))); assumption) | (apply Rd.getO; (solve | (repeat (first | exact List.Mem.head _ | apply List.Mem.tail))); assumption) | (apply Rd.getI; (solve | (repeat (first | exact List.Mem.head _ | apply List.Mem.tail))); assumption) | (apply Rd.cel; (solve | (repeat (first | exact List.Mem.head _ | apply List.Mem.tail))); exact rfl) | (apply Rd.celI; (solve | (repeat (first | exact List.Mem.head _ | apply List.Mem.tail))); exact rfl)) ?_
    refine RL.widen Try.runUnderlying5 Try.runUnderlying31 rfl rfl rfl rfl ?_
    refine RL.shl32 24 rfl rfl rfl rfl rfl rfl (by decide) ?_
    refine RL.move rfl rfl rfl rfl ?_
    -- STOP: op; op 7: d=25 ["indexAddr", 95, ["t", 24], ["c", ["int", "Go.IntKind.i64", 1]]] guard=None (hash.go:50)
    refine RL.idxS (j := 1) Try.runUnderlying95 Try.sizeOf5 rfl rfl rfl rfl rfl rfl (by omega) ?_
    refine RL.load Try.isAgg5 rfl rfl rfl rfl (by first | assumption | (apply RdI.rd; assumption) | (apply Rd.get; (solve | (repeat (first | exact List.Mem.head _ | apply List.Mem.tail))); assumption) | (apply Rd.getS; (solve | (repeat (first | exact List.Mem.head _ | apply List.Mem.tail))); assumption) | (apply Rd.getO; (solve | (repeat (first | exact List.Mem.head _ | apply List.Mem.tail))); assumption) | (apply Rd.getI; (solve | (repeat (first | exact List.Mem.head _ | apply List.Mem.tail))); assumption) | (apply Rd.cel; (solve | (repeat (first | exact List.Mem.head _ | apply List.Mem.tail))); exact rfl) | (apply Rd.celI; (solve | (repeat (first | exact List.Mem.head _ | apply List.Mem.tail))); exact rfl)) ?_
    refine RL.widen Try.runUnderlying5 Try.runUnderlying31 rfl rfl rfl rfl ?_
    refine RL.shl32 16 rfl rfl rfl rfl rfl rfl (by decide) ?_
    refine RL.bv32 (a := _) (b := _) or32 rfl rfl rfl rfl rfl ?_
    refine RL.move rfl rfl rfl rfl ?_
    -- STOP: op; op 13: d=31 ["indexAddr", 95, ["t", 30], ["c", ["int", "Go.IntKind.i64", 2]]] guard=None (hash.go:50)
    refine RL.idxS (j := 2) Try.runUnderlying95 Try.sizeOf5 rfl rfl rfl rfl rfl rfl (by omega) ?_
    refine RL.load Try.isAgg5 rfl rfl rfl rfl (by first | assumption | (apply RdI.rd; assumption) | (apply Rd.get; (solve | (repeat (first | exact List.Mem.head _ | apply List.Mem.tail))); assumption) | (apply Rd.getS; (solve | (repeat (first | exact List.Mem.head _ | apply List.Mem.tail))); assumption) | (apply Rd.getO; (solve | (repeat (first | exact List.Mem.head _ | apply List.Mem.tail))); assumption) | (apply Rd.getI; (solve | (repeat (first | exact List.Mem.head _ | apply List.Mem.tail))); assumption) | (apply Rd.cel; (solve | (repeat (first | exact List.Mem.head _ | apply List.Mem.tail))); exact rfl) | (apply Rd.celI; (solve | (repeat (first | exact List.Mem.head _ | apply List.Mem.tail))); exact rfl)) ?_
    refine RL.widen Try.runUnderlying5 Try.runUnderlying31 rfl rfl rfl rfl ?_
    refine RL.shl32 8 rfl rfl rfl rfl rfl rfl (by decide) ?_
    refine RL.bv32 (a := _) (b := _) or32 rfl rfl rfl rfl rfl ?_
    refine RL.move rfl rfl rfl rfl ?_
    -- STOP: op; op 19: d=37 ["indexAddr", 95, ["t", 36], ["c", ["int", "Go.IntKind.i64", 3]]] guard=None (hash.go:50)
    refine RL.idxS (j := 3) Try.runUnderlying95 Try.sizeOf5 rfl rfl rfl rfl rfl rfl (by omega) ?_
    refine RL.load Try.isAgg5 rfl rfl rfl rfl (by first | assumption | (apply RdI.rd; assumption) | (apply Rd.get; (solve | (repeat (first | exact List.Mem.head _ | apply List.Mem.tail))); assumption) | (apply Rd.getS; (solve | (repeat (first | exact List.Mem.head _ | apply List.Mem.tail))); assumption) | (apply Rd.getO; (solve | (repeat (first | exact List.Mem.head _ | apply List.Mem.tail))); assumption) | (apply Rd.getI; (solve | (repeat (first | exact List.Mem.head _ | apply List.Mem.tail))); assumption) | (apply Rd.cel; (solve | (repeat (first | exact List.Mem.head _ | apply List.Mem.tail))); exact rfl) | (apply Rd.celI; (solve | (repeat (first | exact List.Mem.head _ | apply List.Mem.tail))); exact rfl)) ?_
    refine RL.widen Try.runUnderlying5 Try.runUnderlying31 rfl rfl rfl rfl ?_
    refine RL.bv32 (a := _) (b := _) or32 rfl rfl rfl rfl rfl ?_
    -- STOP: op; op 23: d=41 ["indexAddr", 392, ["t", 3], ["t", 18]] guard=None (hash.go:50)
    refine RL.idxAAt (j := n) Try.runUnderlying392 Try.sizeOf31 rfl rfl rfl rfl rfl rfl (by omega) ?_
    -- STOP: op; op 24: d=None ["store", 31, ["t", 41], ["t", 40]] guard=None (hash.go:50)
    have hwd : word m (ws m n) n = be (m.getD (4 * n * 1 + 0 * 1) 0) (m.getD (4 * n * 1 + 1 * 1) 0) (m.getD (4 * n * 1 + 2 * 1) 0) (m.getD (4 * n * 1 + 3 * 1) 0) := by
      rw [word, if_pos hlt]; simp
    refine RL.storeX (cs' := wcells m (n + 1)) (vs := [_]) (by rw [← wcells_store m (by omega), hwd]; rfl) Try.sizeOf31 rfl rfl rfl rfl rfl rfl rfl rfl (by repeat (first | exact Upd.here | apply Upd.there)) (by rw [wcells_length m (by omega)]; show _ ≤ 64; simp; omega) ?_
    refine RL.nil ?_
    refine NQ.block ?_
    refine NQ.seq ?_
    refine CW.only (.cons (k := 0) rfl (.cons (k := 2) rfl (.cons (k := 3) rfl (.cons (k := 11) rfl .nil)))) ?_
    refine CW.region (ef := []) (bk := []) ?_
    refine RL.binX rfl rfl rfl rfl rfl rfl (wrapV_i64 (by omega) (by omega)) ?_
    refine RL.move rfl rfl rfl rfl ?_
    refine RL.nil ?_
    -- STOP: round; todo top: ["N"]
    exact NQ.round (g := n) (n + 1) (by omega) (by omega) (.cons rfl (.cons rfl (.cons rfl (.cons rfl .nil)))) (fun _ h => h)
  ·
    refine CW.exit ?_
    refine XQ.seq ?_
    refine XQ.seq ?_
    refine XQ.hit ?_
    refine NQ.seq ?_
    refine CW.seq ?_
    refine CW.seq ?_
    refine CW.region (ef := []) (bk := []) ?_
    refine RL.assign rfl rfl rfl rfl ?_
    refine RL.nil ?_
    refine NQ.seq ?_
    refine CW.block ?_
    -- STOP: loop; todo top: ["code", ["loop", ["seq", ["seq", ["region", 9, [{"d": 43, "op": ["move", ["t", 6]], "ty": 3, "pos": "hash.go:52", "after": [], "guard": null}, {"d": 44, "op": ["binOp", "Go.BinOp.lss", 3, ["t", 43], 
    have hn16 : n = 16 := by simp at hlt; omega
    subst hn16
    refine CW.loop (γ := Nat) (fun n => 16 ≤ n ∧ n ≤ 64) (fun n => [(2, .pointer (some ⟨b1, 0, none⟩)), (3, .pointer (some ⟨b2, 0, none⟩)), (6, .int .i64 n)])
      (fun _ => [sls (some p) 1 64 (bytes m)]) (fun n => [cel b2 (wcells m n) 392, cel b1 (List.replicate 64 (U32 0#32)) 392]) (fun n => 64 - n) 16 (by omega) (.cons rfl (.cons rfl (.cons rfl .nil))) (fun _ h => h) ?_
    intro n hn
    refine CW.seq ?_
    refine CW.seq ?_
    refine CW.region (ef := []) (bk := []) ?_
    refine RL.move rfl rfl rfl rfl ?_
    refine RL.bin rfl rfl rfl rfl rfl rfl ?_
    refine RL.nil ?_
    refine NQ.seq ?_
    -- STOP: if; todo top: ["code", ["cond", ["t", 44], ["skip"], ["exit", 2]]]
    refine CW.cond rfl (fun hlt => ?_) (fun hlt => ?_)
    ·
      refine CW.skip ?_
      refine NQ.seq ?_
      refine CW.seq ?_
      refine CW.block ?_
      refine CW.seq ?_
      refine CW.regionD (Sq.of [0, 1, 2, 3, 4, 5, 6, 7, 8, 9]) [] [] [0, 1, 2, 4, 5, 6, 8, 9] mixed (by kernel_rfl) ?_
      refine RL.move rfl rfl rfl rfl ?_
      refine RL.binX rfl rfl rfl rfl rfl rfl (wrapV_i64 (by omega) (by omega)) ?_
      -- STOP: op; op 2: d=49 ["indexAddr", 392, ["t", 3], ["t", 48]] guard=None (hash.go:53)
      have hlt : n < 64 := by simp at hlt; omega
      have g2 := wcells_get m (n := n) (j := n - 2) (by omega)
      have g7 := wcells_get m (n := n) (j := n - 7) (by omega)
      have g15 := wcells_get m (n := n) (j := n - 15) (by omega)
      have g16 := wcells_get m (n := n) (j := n - 16) (by omega)
      refine RL.idxAAt (j := n - 15) Try.runUnderlying392 Try.sizeOf31 rfl rfl rfl rfl rfl (by omega) (by omega) ?_
      refine RL.load Try.isAgg31 rfl rfl rfl rfl (by first | assumption | (apply RdI.rd; assumption) | (apply Rd.get; (solve | (repeat (first | exact List.Mem.head _ | apply List.Mem.tail))); assumption) | (apply Rd.getS; (solve | (repeat (first | exact List.Mem.head _ | apply List.Mem.tail))); assumption) | (apply Rd.getO; (solve | (repeat (first | exact List.Mem.head _ | apply List.Mem.tail))); assumption) | (apply Rd.getI; (solve | (repeat (first | exact List.Mem.head _ | apply List.Mem.tail))); assumption) | (apply Rd.cel; (solve | (repeat (first | exact List.Mem.head _ | apply List.Mem.tail))); exact rfl) | (apply Rd.celI; (solve | (repeat (first | exact List.Mem.head _ | apply List.Mem.tail))); exact rfl)) ?_
      refine RL.move rfl rfl rfl rfl ?_
      refine RL.binX rfl rfl rfl rfl rfl rfl (wrapV_i64 (by omega) (by omega)) ?_
      -- STOP: op; op 6: d=53 ["indexAddr", 392, ["t", 3], ["t", 52]] guard=None (hash.go:53)
      refine RL.idxAAt (j := n - 2) Try.runUnderlying392 Try.sizeOf31 rfl rfl rfl rfl rfl (by omega) (by omega) ?_
      refine RL.load Try.isAgg31 rfl rfl rfl rfl (by first | assumption | (apply RdI.rd; assumption) | (apply Rd.get; (solve | (repeat (first | exact List.Mem.head _ | apply List.Mem.tail))); assumption) | (apply Rd.getS; (solve | (repeat (first | exact List.Mem.head _ | apply List.Mem.tail))); assumption) | (apply Rd.getO; (solve | (repeat (first | exact List.Mem.head _ | apply List.Mem.tail))); assumption) | (apply Rd.getI; (solve | (repeat (first | exact List.Mem.head _ | apply List.Mem.tail))); assumption) | (apply Rd.cel; (solve | (repeat (first | exact List.Mem.head _ | apply List.Mem.tail))); exact rfl) | (apply Rd.celI; (solve | (repeat (first | exact List.Mem.head _ | apply List.Mem.tail))); exact rfl)) ?_
      refine RL.assign rfl rfl rfl rfl ?_
      refine RL.assign rfl rfl rfl rfl ?_
      refine RL.nil ?_
      refine NQ.seq ?_
      refine CW.only (.cons (k := 2) rfl (.cons (k := 3) rfl (.cons (k := 6) rfl (.cons (k := 7) rfl (.cons (k := 8) rfl .nil))))) ?_
      refine CW.seq ?_
      refine CW.region (ef := []) (bk := []) ?_
      refine RL.move rfl rfl rfl rfl ?_
      refine RL.callv (hright_any _ _ (by decide) (by decide)) Try.call238 rfl rfl rfl rfl (by repeat (first | exact Lend.nil | (refine Lend.inI ?_ ?_; (solve | (repeat (first | exact List.Mem.head _ | apply List.Mem.tail)))) | (refine Lend.inH ?_ ?_; (solve | (repeat (first | exact List.Mem.head _ | apply List.Mem.tail)))))) ?_
      refine RL.move rfl rfl rfl rfl ?_
      refine RL.callv (hright_any _ _ (by decide) (by decide)) Try.call238 rfl rfl rfl rfl (by repeat (first | exact Lend.nil | (refine Lend.inI ?_ ?_; (solve | (repeat (first | exact List.Mem.head _ | apply List.Mem.tail)))) | (refine Lend.inH ?_ ?_; (solve | (repeat (first | exact List.Mem.head _ | apply List.Mem.tail)))))) ?_
      refine RL.bv32 (a := _) (b := _) xor32 rfl rfl rfl rfl rfl ?_
      refine RL.move rfl rfl rfl rfl ?_
      refine RL.shr32 3 rfl rfl rfl rfl rfl rfl (by decide) ?_
      refine RL.bv32 (a := _) (b := _) xor32 rfl rfl rfl rfl rfl ?_
      refine RL.assign rfl rfl rfl rfl ?_
      refine RL.nil ?_
      refine NQ.seq ?_
      refine CW.only (.cons (k := 2) rfl (.cons (k := 3) rfl (.cons (k := 6) rfl (.cons (k := 8) rfl (.cons (k := 9) rfl .nil))))) ?_
      refine CW.seq ?_
      refine CW.region (ef := []) (bk := []) ?_
      refine RL.move rfl rfl rfl rfl ?_
      refine RL.callv (hright_any _ _ (by decide) (by decide)) Try.call238 rfl rfl rfl rfl (by repeat (first | exact Lend.nil | (refine Lend.inI ?_ ?_; (solve | (repeat (first | exact List.Mem.head _ | apply List.Mem.tail)))) | (refine Lend.inH ?_ ?_; (solve | (repeat (first | exact List.Mem.head _ | apply List.Mem.tail)))))) ?_
      refine RL.move rfl rfl rfl rfl ?_
      refine RL.callv (hright_any _ _ (by decide) (by decide)) Try.call238 rfl rfl rfl rfl (by repeat (first | exact Lend.nil | (refine Lend.inI ?_ ?_; (solve | (repeat (first | exact List.Mem.head _ | apply List.Mem.tail)))) | (refine Lend.inH ?_ ?_; (solve | (repeat (first | exact List.Mem.head _ | apply List.Mem.tail)))))) ?_
      refine RL.bv32 (a := _) (b := _) xor32 rfl rfl rfl rfl rfl ?_
      refine RL.move rfl rfl rfl rfl ?_
      refine RL.shr32 10 rfl rfl rfl rfl rfl rfl (by decide) ?_
      refine RL.bv32 (a := _) (b := _) xor32 rfl rfl rfl rfl rfl ?_
      refine RL.assign rfl rfl rfl rfl ?_
      refine RL.nil ?_
      refine NQ.seq ?_
      refine CW.only (.cons (k := 2) rfl (.cons (k := 3) rfl (.cons (k := 6) rfl (.cons (k := 9) rfl (.cons (k := 10) rfl .nil))))) ?_
      refine CW.regionD (Sq.of [0, 1, 2, 3, 4, 5, 6, 7, 8, 9, 10, 11, 12, 13, 14, 15]) [15] [15] [0, 1, 2, 3, 4, 6, 7, 8, 9, 10, 11, 13, 14] mixed (by kernel_rfl) ?_
      refine RL.move rfl rfl rfl rfl ?_
      refine RL.move rfl rfl rfl rfl ?_
      refine RL.move rfl rfl rfl rfl ?_
      refine RL.binX rfl rfl rfl rfl rfl rfl (wrapV_i64 (by omega) (by omega)) ?_
      -- STOP: op; op 4: d=75 ["indexAddr", 392, ["t", 3], ["t", 74]] guard=None (hash.go:56)
      refine RL.idxAAt (j := n - 7) Try.runUnderlying392 Try.sizeOf31 rfl rfl rfl rfl rfl (by omega) (by omega) ?_
      refine RL.load Try.isAgg31 rfl rfl rfl rfl (by first | assumption | (apply RdI.rd; assumption) | (apply Rd.get; (solve | (repeat (first | exact List.Mem.head _ | apply List.Mem.tail))); assumption) | (apply Rd.getS; (solve | (repeat (first | exact List.Mem.head _ | apply List.Mem.tail))); assumption) | (apply Rd.getO; (solve | (repeat (first | exact List.Mem.head _ | apply List.Mem.tail))); assumption) | (apply Rd.getI; (solve | (repeat (first | exact List.Mem.head _ | apply List.Mem.tail))); assumption) | (apply Rd.cel; (solve | (repeat (first | exact List.Mem.head _ | apply List.Mem.tail))); exact rfl) | (apply Rd.celI; (solve | (repeat (first | exact List.Mem.head _ | apply List.Mem.tail))); exact rfl)) ?_
      refine RL.bv32 (a := _) (b := _) add32 rfl rfl rfl rfl rfl ?_
      refine RL.move rfl rfl rfl rfl ?_
      refine RL.bv32 (a := _) (b := _) add32 rfl rfl rfl rfl rfl ?_
      refine RL.move rfl rfl rfl rfl ?_
      refine RL.binX rfl rfl rfl rfl rfl rfl (wrapV_i64 (by omega) (by omega)) ?_
      -- STOP: op; op 11: d=82 ["indexAddr", 392, ["t", 3], ["t", 81]] guard=None (hash.go:56)
      refine RL.idxAAt (j := n - 16) Try.runUnderlying392 Try.sizeOf31 rfl rfl rfl rfl rfl (by omega) (by omega) ?_
      refine RL.load Try.isAgg31 rfl rfl rfl rfl (by first | assumption | (apply RdI.rd; assumption) | (apply Rd.get; (solve | (repeat (first | exact List.Mem.head _ | apply List.Mem.tail))); assumption) | (apply Rd.getS; (solve | (repeat (first | exact List.Mem.head _ | apply List.Mem.tail))); assumption) | (apply Rd.getO; (solve | (repeat (first | exact List.Mem.head _ | apply List.Mem.tail))); assumption) | (apply Rd.getI; (solve | (repeat (first | exact List.Mem.head _ | apply List.Mem.tail))); assumption) | (apply Rd.cel; (solve | (repeat (first | exact List.Mem.head _ | apply List.Mem.tail))); exact rfl) | (apply Rd.celI; (solve | (repeat (first | exact List.Mem.head _ | apply List.Mem.tail))); exact rfl)) ?_
      refine RL.bv32 (a := _) (b := _) add32 rfl rfl rfl rfl rfl ?_
      -- STOP: op; op 14: d=85 ["indexAddr", 392, ["t", 3], ["t", 71]] guard=None (hash.go:56)
      refine RL.idxAAt (j := n) Try.runUnderlying392 Try.sizeOf31 rfl rfl rfl rfl rfl (by omega) (by omega) ?_
      -- STOP: op; op 15: d=None ["store", 31, ["t", 85], ["t", 84]] guard=None (hash.go:56)
      refine RL.storeX (cs' := wcells m (n + 1)) (vs := [_]) (by rw [← wcells_store m (by omega), word, if_neg (by omega)]; rfl) Try.sizeOf31 rfl rfl rfl rfl rfl rfl rfl rfl (by repeat (first | exact Upd.here | apply Upd.there)) (by rw [wcells_length m hn.2]; show _ ≤ 64; simp; omega) ?_
      refine RL.nil ?_
      refine NQ.block ?_
      refine NQ.seq ?_
      refine CW.only (.cons (k := 2) rfl (.cons (k := 3) rfl (.cons (k := 6) rfl .nil))) ?_
      refine CW.region (ef := []) (bk := []) ?_
      refine RL.move rfl rfl rfl rfl ?_
      refine RL.binX rfl rfl rfl rfl rfl rfl (wrapV_i64 (by omega) (by omega)) ?_
      refine RL.assign rfl rfl rfl rfl ?_
      refine RL.nil ?_
      -- STOP: round; todo top: ["N"]
      exact NQ.round (g := n) (n + 1) (by omega) (by omega) (.cons rfl (.cons rfl (.cons rfl .nil))) (fun _ h => h)
    ·
      refine CW.exit ?_
      refine XQ.seq ?_
      refine XQ.seq ?_
      refine XQ.hit ?_
      refine NQ.seq ?_
      refine CW.seq ?_
      refine CW.region (ef := [1]) (bk := [1]) ?_
      -- STOP: op; op 0: d=86 ["load", 392, ["t", 3]] guard=None (hash.go:58)
      have hn64 : n = 64 := by simp at hlt; omega
      subst hn64
      refine RL.loadN (vs := words (ws m 64)) Try.isAgg392 (by rw [List.length_map, ws_length]; exact Try.sizeOf392) rfl rfl rfl rfl (Rds.all (by rw [← wcells_all]; exact List.Mem.head _)) ?_
      -- STOP: op; op 1: d=None ["store", 392, ["t", 2], ["t", 86]] guard=None (hash.go:58)
      refine RL.storeX (cs := List.replicate 64 (U32 0#32)) (cs' := words (ws m 64)) (vs := words (ws m 64)) (spl_all (by simp [ws_length])) (by rw [List.length_map, ws_length]; exact Try.sizeOf392) rfl rfl rfl rfl rfl rfl rfl (ones_map one32 _) (by repeat (first | exact Upd.here | apply Upd.there)) (by simp [ws_length]) ?_
      refine RL.nil ?_
      refine NQ.seq ?_
      refine CW.ret ?_
      -- STOP: ret; end
      exact RQ.post (resC rfl rfl Try.isAgg392 (vs := words (ws m 64)) (by rw [List.length_map, ws_length]; exact Try.sizeOf392) (Rds.all (by repeat (first | exact List.Mem.head _ | apply List.Mem.tail)))) (Split.none _) ⟨rfl, rfl, rfl⟩
end Go.Proofs.Ytkkfdoippibfkaa
