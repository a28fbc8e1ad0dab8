import Derived.Test.YtkkfdoippibfkaaBase
import Derived.Test.YtkkfdoippibfkaaPkN
namespace Go.Proofs.Ytkkfdoippibfkaa
open Go.PK

def kk (key : List B8) : List B8 := if 64 < key.length then sha key else key
theorem kk_len (key : List B8) : (kk key).length ≤ 64 := by unfold kk; split; · rw [sha_length]; omega
                                                            · omega
/-- A key's 64 bytes. -/
def padK (key : List B8) : List B8 := kk key ++ List.replicate (64 - (kk key).length) 0#8
theorem padK_len (key : List B8) : (padK key).length = 64 := by have := kk_len key; simp [padK]; omega
def padB (key : List B8) (by_ : B8) : List B8 := (padK key).map (· ^^^ by_)
theorem padB_len (key : List B8) (b : B8) : (padB key b).length = 64 := by simp [padB, padK_len]
theorem padB_get (key : List B8) (b : B8) {j : Nat} (h : j < 64) : (bytes (padB key b))[j]? = some (U8 ((padK key).getD j 0 ^^^ b)) ∧ (bytes (padK key))[j]? = some (U8 ((padK key).getD j 0)) := by
  have hl : j < (padK key).length := by rw [padK_len]; exact h
  constructor
  · simp [padB, hl]
  · simp [hl]

theorem pad_copy {key k : List B8} (hk : kk key = k) (hl : k.length ≤ 64) (n : Nat) (hn : n = k.length) (x : B8) : spl (List.replicate 64 (U8 0#8)) 0 (List.take (Nat.min n 64 * 1) (bytes k)) = (bytes (padB key x)).take 0 ++ (bytes (padK key)).drop 0 := by
  subst hn
  rw [show Nat.min k.length 64 = k.length from Nat.min_eq_left hl, Nat.mul_one, List.take_of_length_le (by simp), spl_eq _ _ _ (by simp; exact hl)]
  simp only [List.take_zero, List.nil_append, Nat.zero_add, List.length_map, List.drop_replicate, List.drop_zero]
  rw [padK, hk]; simp

theorem pad_any (p : Option Addr) (cap : Nat) (key : List B8) (hb : key.length ≤ 1000000000) (x : B8) : Spc Try.prog 190 #[.slice p key.length cap, U8 x] [sls p 1 key.length (bytes key)] []
    (fun v I' H' => ∃ b, v = .slice (some ⟨b, 0, none⟩) 64 64 ∧ I' = [] ∧ H' = [cel b (bytes (padB key x)) 384]) := by
  refine Spc.enter Try.func190 rfl rfl rfl (fun w0 hw0 => ?_)
  refine CW.seq ?_
  refine CW.region (ef := []) (bk := []) ?_
  refine RL.assign rfl rfl rfl rfl ?_
  refine RL.nil ?_
  refine NQ.seq ?_
  refine CW.seq ?_
  refine CW.seq ?_
  refine CW.region (ef := []) (bk := []) ?_
  refine RL.move rfl rfl rfl rfl ?_
  refine RL.lenS Try.runUnderlying95 rfl rfl rfl rfl ?_
  refine RL.bin rfl rfl rfl rfl rfl rfl ?_
  refine RL.nil ?_
  refine NQ.seq ?_
  -- STOP: if; todo top: ["code", ["cond", ["t", 10], ["seq", ["region", 2, [{"d": 11, "op": ["move", ["t", 0]], "ty": 95, "pos": "mac.go:19", "after": [], "guard": null}, {"d": 12, "op": ["buildSlice", 281, 1, [[0, ["t", 11]
  refine CW.cond rfl (fun hl => ?_) (fun hl => ?_)
  ·
    have hl : 64 < key.length := by simp at hl; omega
    have hk : kk key = sha key := by rw [kk, if_pos hl]
    have hkl : (sha key).length ≤ 64 := by rw [sha_length]; omega
    refine CW.seq ?_
    refine CW.region (ef := [1, 3, 4]) (bk := [4]) ?_
    refine RL.move rfl rfl rfl rfl ?_
    refine RL.buildSlice [_] Try.runUnderlying281 Try.sizeOf95 Try.zeroValue95 rfl rfl (by decide) (by decide) rfl rfl rfl rfl rfl rfl ?_
    intro b1
    refine RL.callv (of_any (some ⟨b1, 0, none⟩) 1 [⟨p, cap, key⟩] (by simp) (by simp [joined]; omega)) Try.call119 rfl rfl rfl rfl (Lend.all (by repeat (first | exact List.Mem.head _ | apply List.Mem.tail)) rfl (.inI (by repeat (first | exact List.Mem.head _ | apply List.Mem.tail)) .nil)) ?_
    refine RL.alloc (cs := List.replicate 32 (U8 0#8)) Try.zeroValue133 rfl rfl rfl rfl rfl ?_
    intro b2
    refine RL.storeW Try.sizeOf133 rfl rfl rfl rfl rfl rfl rfl (by first | rfl | exact ones_map one8 _ | exact ones_map (fun _ => rfl) _) (by repeat (first | exact Upd.here | apply Upd.there)) (by first | rfl | assumption | (simp only [List.length_map]; assumption) | (simp only [List.length_map, List.length_replicate, padK_len, padB_len, sha_length, dig_length]; done) | (simp; done)) (by first | rfl | assumption | (simp only [List.length_map]; assumption) | (simp only [List.length_map, List.length_replicate, padK_len, padB_len, sha_length, dig_length]; done) | (simp; done)) ?_
    refine RL.nil ?_
    refine NQ.seq ?_
    refine CW.only (.cons (k := 1) rfl (.cons (k := 4) rfl (.cons (k := 5) rfl .nil))) ?_
    refine CW.region (ef := []) (bk := []) ?_
    refine RL.sliceAll Try.runUnderlying133 Try.sizeOf5 (by decide) rfl rfl rfl rfl ?_
    refine RL.assign rfl rfl rfl rfl ?_
    refine RL.nil ?_
    refine NQ.seq ?_
    refine CW.seq ?_
    refine CW.region (ef := [0]) (bk := []) ?_
    refine RL.alloc (cs := List.replicate 64 (U8 0#8)) Try.zeroValue384 rfl rfl rfl rfl rfl ?_
    intro b3
    refine RL.nil ?_
    refine NQ.seq ?_
    refine CW.seq ?_
    refine CW.region (ef := [2]) (bk := [2]) ?_
    refine RL.sliceAll Try.runUnderlying384 Try.sizeOf5 (by decide) rfl rfl rfl rfl ?_
    refine RL.move rfl rfl rfl rfl ?_
    -- STOP: op; op 2: d=17 ["builtin", "Go.Builtin.copy", [["t", 15], ["t", 16]], [95, 95]] guard=None (mac.go:23)
    rw [show joined [⟨p, cap, key⟩] = key by simp [joined]]
    refine RL.copy (news := bytes (sha key)) Try.runUnderlying95 Try.sizeOf5 rfl rfl rfl rfl rfl rfl rfl (Src.cel (by repeat (first | exact List.Mem.head _ | apply List.Mem.tail)) (by simp [sha_length])) (one_map one8 _) (by repeat (first | exact Upd.here | apply Upd.there)) (by simp) ?_
    rw [pad_copy hk hkl 32 (sha_length _).symm x]
    refine RL.nil ?_
    refine NQ.seq ?_
    refine CW.only (.cons (k := 1) rfl (.cons (k := 6) rfl .nil)) ?_
    refine CW.seq ?_
    refine CW.seq ?_
    refine CW.region (ef := []) (bk := []) ?_
    refine RL.move rfl rfl rfl rfl ?_
    refine RL.nil ?_
    refine NQ.seq ?_
    refine CW.block ?_
    -- STOP: loop; todo top: ["code", ["loop", ["seq", ["region", 7, [{"d": 19, "op": ["binOp", "Go.BinOp.lss", 3, ["t", 18], ["c", ["int", "Go.IntKind.i64", 64]], 3], "ty": 0, "pos": "mac.go:24", "after": [], "guard": null}], fa
    refine CW.loop (γ := Nat) (fun j => j ≤ 64) (fun j => [(1, U8 x), (6, .pointer (some ⟨b3, 0, none⟩)), (18, .int .i64 (j : Int))])
      (fun _ => []) (fun j => [cel b3 ((bytes (padB key x)).take j ++ (bytes (padK key)).drop j) 384]) (fun j => 64 - j) 0 (by omega) (.cons rfl (.cons rfl (.cons rfl .nil))) (fun _ h => h.rea (fun x hx => by cases hx) (by repeat (first | exact Rea.nil | (apply Rea.cons; (solve | (repeat (first | exact Del.here | apply Del.there))))))) ?_
    intro j hj
    refine CW.seq ?_
    refine CW.region (ef := []) (bk := []) ?_
    refine RL.bin rfl rfl rfl rfl rfl rfl ?_
    refine RL.nil ?_
    refine NQ.seq ?_
    refine CW.seq ?_
    -- STOP: if; todo top: ["code", ["cond", ["t", 19], ["skip"], ["exit", 0]]]
    refine CW.cond rfl (fun hlt => ?_) (fun hlt => ?_)
    ·
      refine CW.skip ?_
      refine NQ.seq ?_
      refine CW.seq ?_
      refine CW.block ?_
      refine CW.seq ?_
      refine CW.region (ef := []) (bk := []) ?_
      refine RL.move rfl rfl rfl rfl ?_
      refine RL.assign rfl rfl rfl rfl ?_
      refine RL.nil ?_
      refine NQ.seq ?_
      refine CW.region (ef := [6]) (bk := [6]) ?_
      refine RL.move rfl rfl rfl rfl ?_
      -- STOP: op; op 1: d=22 ["indexAddr", 384, ["t", 6], ["t", 21]] guard=None (mac.go:25)
      have hlt : j < 64 := by simp at hlt; omega
      obtain ⟨g1, g2⟩ := padB_get key x hlt
      have hmx : ((bytes (padB key x)).take j ++ (bytes (padK key)).drop j)[0 + j * 1]? = some (U8 ((padK key).getD j 0)) := by rw [get_mix (by simp [padB_len]; omega)]; exact g2
      refine RL.idxAAt (j := j) Try.runUnderlying384 Try.sizeOf5 rfl rfl rfl rfl rfl rfl hlt ?_
      refine RL.load Try.isAgg5 rfl rfl rfl rfl (by first | assumption | (apply RdI.rd; assumption) | (apply Rd.get; (solve | (repeat (first | exact List.Mem.head _ | apply List.Mem.tail))); assumption) | (apply Rd.getS; (solve | (repeat (first | exact List.Mem.head _ | apply List.Mem.tail))); assumption) | (apply Rd.getO; (solve | (repeat (first | exact List.Mem.head _ | apply List.Mem.tail))); assumption) | (apply Rd.getI; (solve | (repeat (first | exact List.Mem.head _ | apply List.Mem.tail))); assumption) | (apply Rd.cel; (solve | (repeat (first | exact List.Mem.head _ | apply List.Mem.tail))); exact rfl) | (apply Rd.celI; (solve | (repeat (first | exact List.Mem.head _ | apply List.Mem.tail))); exact rfl)) ?_
      refine RL.move rfl rfl rfl rfl ?_
      refine RL.bv8 (a := _) (b := _) xor8 rfl rfl rfl rfl rfl ?_
      -- STOP: op; op 5: d=26 ["indexAddr", 384, ["t", 6], ["t", 21]] guard=None (mac.go:25)
      refine RL.idxAAt (j := j) Try.runUnderlying384 Try.sizeOf5 rfl rfl rfl rfl rfl rfl hlt ?_
      -- STOP: op; op 6: d=None ["store", 5, ["t", 26], ["t", 25]] guard=None (mac.go:25)
      refine RL.storeX (cs' := (bytes (padB key x)).take (j + 1) ++ (bytes (padK key)).drop (j + 1)) (vs := [_]) (spl_mix (by simp [padB_len, padK_len]) g1) Try.sizeOf5 rfl rfl rfl rfl rfl rfl rfl rfl (by repeat (first | exact Upd.here | apply Upd.there)) (by simp [padB_len, padK_len]; omega) ?_
      refine RL.nil ?_
      refine NQ.block ?_
      refine NQ.seq ?_
      refine CW.only (.cons (k := 1) rfl (.cons (k := 6) rfl (.cons (k := 18) rfl .nil))) ?_
      refine CW.region (ef := []) (bk := []) ?_
      refine RL.binX rfl rfl rfl rfl rfl rfl (wrapV_i64 (by omega) (by omega)) ?_
      refine RL.move rfl rfl rfl rfl ?_
      refine RL.nil ?_
      -- STOP: round; todo top: ["N"]
      exact NQ.round (g := j) (j + 1) hlt (by omega) (.cons rfl (.cons rfl (.cons rfl .nil))) (fun _ h => h)
    ·
      refine CW.exit ?_
      refine XQ.seq ?_
      refine XQ.seq ?_
      refine XQ.hit ?_
      refine NQ.seq ?_
      refine CW.seq ?_
      refine CW.region (ef := []) (bk := []) ?_
      refine RL.sliceAll Try.runUnderlying384 Try.sizeOf5 (by decide) rfl rfl rfl rfl ?_
      refine RL.assign rfl rfl rfl rfl ?_
      refine RL.nil ?_
      refine NQ.seq ?_
      refine CW.ret ?_
      -- STOP: ret; end
      have hj64 : j = 64 := by simp at hlt; omega
      subst hj64
      rw [List.take_of_length_le (by simp [padB_len]), List.drop_of_length_le (by simp [padK_len]), List.append_nil]
      exact RQ.post (res1 rfl rfl) (.keep .nil) ⟨_, rfl, rfl, rfl⟩
  ·
    have hl : ¬ 64 < key.length := by simp at hl; omega
    have hk : kk key = key := by rw [kk, if_neg hl]
    have hkl : key.length ≤ 64 := by omega
    refine CW.skip ?_
    refine NQ.seq ?_
    refine CW.seq ?_
    refine CW.region (ef := [0]) (bk := []) ?_
    refine RL.alloc (cs := List.replicate 64 (U8 0#8)) Try.zeroValue384 rfl rfl rfl rfl rfl ?_
    intro b1
    refine RL.nil ?_
    refine NQ.seq ?_
    refine CW.seq ?_
    refine CW.region (ef := [2]) (bk := [2]) ?_
    refine RL.sliceAll Try.runUnderlying384 Try.sizeOf5 (by decide) rfl rfl rfl rfl ?_
    refine RL.move rfl rfl rfl rfl ?_
    -- STOP: op; op 2: d=17 ["builtin", "Go.Builtin.copy", [["t", 15], ["t", 16]], [95, 95]] guard=None (mac.go:23)
    refine RL.copy (news := bytes key) Try.runUnderlying95 Try.sizeOf5 rfl rfl rfl rfl rfl rfl rfl (Src.sls (by repeat (first | exact List.Mem.head _ | apply List.Mem.tail))) (one_map one8 _) (by repeat (first | exact Upd.here | apply Upd.there)) (by simp) ?_
    rw [pad_copy hk hkl key.length rfl x]
    refine RL.nil ?_
    refine NQ.seq ?_
    refine CW.only (.cons (k := 1) rfl (.cons (k := 6) rfl .nil)) ?_
    refine CW.seq ?_
    refine CW.seq ?_
    refine CW.region (ef := []) (bk := []) ?_
    refine RL.move rfl rfl rfl rfl ?_
    refine RL.nil ?_
    refine NQ.seq ?_
    refine CW.block ?_
    -- STOP: loop; todo top: ["code", ["loop", ["seq", ["region", 7, [{"d": 19, "op": ["binOp", "Go.BinOp.lss", 3, ["t", 18], ["c", ["int", "Go.IntKind.i64", 64]], 3], "ty": 0, "pos": "mac.go:24", "after": [], "guard": null}], fa
    refine CW.loop (γ := Nat) (fun j => j ≤ 64) (fun j => [(1, U8 x), (6, .pointer (some ⟨b1, 0, none⟩)), (18, .int .i64 (j : Int))])
      (fun _ => []) (fun j => [cel b1 ((bytes (padB key x)).take j ++ (bytes (padK key)).drop j) 384]) (fun j => 64 - j) 0 (by omega) (.cons rfl (.cons rfl (.cons rfl .nil))) (fun _ h => h.rea (fun x hx => by cases hx) (by repeat (first | exact Rea.nil | (apply Rea.cons; (solve | (repeat (first | exact Del.here | apply Del.there))))))) ?_
    intro j hj
    refine CW.seq ?_
    refine CW.region (ef := []) (bk := []) ?_
    refine RL.bin rfl rfl rfl rfl rfl rfl ?_
    refine RL.nil ?_
    refine NQ.seq ?_
    refine CW.seq ?_
    -- STOP: if; todo top: ["code", ["cond", ["t", 19], ["skip"], ["exit", 0]]]
    refine CW.cond rfl (fun hlt => ?_) (fun hlt => ?_)
    ·
      refine CW.skip ?_
      refine NQ.seq ?_
      refine CW.seq ?_
      refine CW.block ?_
      refine CW.seq ?_
      refine CW.region (ef := []) (bk := []) ?_
      refine RL.move rfl rfl rfl rfl ?_
      refine RL.assign rfl rfl rfl rfl ?_
      refine RL.nil ?_
      refine NQ.seq ?_
      refine CW.region (ef := [6]) (bk := [6]) ?_
      refine RL.move rfl rfl rfl rfl ?_
      -- STOP: op; op 1: d=22 ["indexAddr", 384, ["t", 6], ["t", 21]] guard=None (mac.go:25)
      have hlt : j < 64 := by simp at hlt; omega
      obtain ⟨g1, g2⟩ := padB_get key x hlt
      have hmx : ((bytes (padB key x)).take j ++ (bytes (padK key)).drop j)[0 + j * 1]? = some (U8 ((padK key).getD j 0)) := by rw [get_mix (by simp [padB_len]; omega)]; exact g2
      refine RL.idxAAt (j := j) Try.runUnderlying384 Try.sizeOf5 rfl rfl rfl rfl rfl rfl hlt ?_
      refine RL.load Try.isAgg5 rfl rfl rfl rfl (by first | assumption | (apply RdI.rd; assumption) | (apply Rd.get; (solve | (repeat (first | exact List.Mem.head _ | apply List.Mem.tail))); assumption) | (apply Rd.getS; (solve | (repeat (first | exact List.Mem.head _ | apply List.Mem.tail))); assumption) | (apply Rd.getO; (solve | (repeat (first | exact List.Mem.head _ | apply List.Mem.tail))); assumption) | (apply Rd.getI; (solve | (repeat (first | exact List.Mem.head _ | apply List.Mem.tail))); assumption) | (apply Rd.cel; (solve | (repeat (first | exact List.Mem.head _ | apply List.Mem.tail))); exact rfl) | (apply Rd.celI; (solve | (repeat (first | exact List.Mem.head _ | apply List.Mem.tail))); exact rfl)) ?_
      refine RL.move rfl rfl rfl rfl ?_
      refine RL.bv8 (a := _) (b := _) xor8 rfl rfl rfl rfl rfl ?_
      -- STOP: op; op 5: d=26 ["indexAddr", 384, ["t", 6], ["t", 21]] guard=None (mac.go:25)
      refine RL.idxAAt (j := j) Try.runUnderlying384 Try.sizeOf5 rfl rfl rfl rfl rfl rfl hlt ?_
      -- STOP: op; op 6: d=None ["store", 5, ["t", 26], ["t", 25]] guard=None (mac.go:25)
      refine RL.storeX (cs' := (bytes (padB key x)).take (j + 1) ++ (bytes (padK key)).drop (j + 1)) (vs := [_]) (spl_mix (by simp [padB_len, padK_len]) g1) Try.sizeOf5 rfl rfl rfl rfl rfl rfl rfl rfl (by repeat (first | exact Upd.here | apply Upd.there)) (by simp [padB_len, padK_len]; omega) ?_
      refine RL.nil ?_
      refine NQ.block ?_
      refine NQ.seq ?_
      refine CW.only (.cons (k := 1) rfl (.cons (k := 6) rfl (.cons (k := 18) rfl .nil))) ?_
      refine CW.region (ef := []) (bk := []) ?_
      refine RL.binX rfl rfl rfl rfl rfl rfl (wrapV_i64 (by omega) (by omega)) ?_
      refine RL.move rfl rfl rfl rfl ?_
      refine RL.nil ?_
      -- STOP: round; todo top: ["N"]
      exact NQ.round (g := j) (j + 1) hlt (by omega) (.cons rfl (.cons rfl (.cons rfl .nil))) (fun _ h => h)
    ·
      refine CW.exit ?_
      refine XQ.seq ?_
      refine XQ.seq ?_
      refine XQ.hit ?_
      refine NQ.seq ?_
      refine CW.seq ?_
      refine CW.region (ef := []) (bk := []) ?_
      refine RL.sliceAll Try.runUnderlying384 Try.sizeOf5 (by decide) rfl rfl rfl rfl ?_
      refine RL.assign rfl rfl rfl rfl ?_
      refine RL.nil ?_
      refine NQ.seq ?_
      refine CW.ret ?_
      -- STOP: ret; end
      have hj64 : j = 64 := by simp at hlt; omega
      subst hj64
      rw [List.take_of_length_le (by simp [padB_len]), List.drop_of_length_le (by simp [padK_len]), List.append_nil]
      exact RQ.post (res1 rfl rfl) (.keep .nil) ⟨_, rfl, rfl, rfl⟩
end Go.Proofs.Ytkkfdoippibfkaa
