import Derived.Test.YtflpiaeffnoepaaRead
namespace Go.Proofs.Ytflpiaeffnoepaa
open Go.PK

/-- Three cells, so many of them filled. -/
def c3 (f : Nat → Value) (z : Value) (k : Nat) : List Value := [if 0 < k then f 0 else z, if 1 < k then f 1 else z, if 2 < k then f 2 else z]
theorem c3_step {f : Nat → Value} {z : Value} : ∀ {k : Nat}, k < 3 → spl (c3 f z k) (0 + k * 1) [f k] = c3 f z (k + 1)
  | 0, _ => rfl
  | 1, _ => rfl
  | 2, _ => rfl
def f32 (l : List B8) (k : Nat) : Value := .int .i32 (IntKind.i32.wrap (numB ((l.drop (4 * k)).take 4)))
def f64 (l : List B8) (k : Nat) : Value := .int .i64 (IntKind.i64.wrap (numB ((l.drop (8 * k)).take 8)))

theorem rthree_any (d : Nat) (p : Option Addr) (c : Nat) (l : List B8) (h4 : 4 * 3 ≤ l.length) (hc : l.length ≤ c) : Spc Try.prog 136 #[.pointer (some ⟨d, 0, none⟩)] [sls p 1 l.length (bytes l)] [rdr d p l.length c]
    (RdR d p l (4 * 3) (.agg (c3 (f32 l) (.int .i32 0) 3).toArray)) := by
  refine Spc.enter Try.func136 rfl rfl rfl (fun w0 hw0 => ?_)
  refine CW.seq ?_
  refine CW.region (ef := [0]) (bk := []) ?_
  refine RL.alloc Try.zeroValue23 rfl rfl rfl rfl rfl ?_
  intro b1
  refine RL.nil ?_
  refine NQ.seq ?_
  refine CW.seq ?_
  refine CW.region (ef := [0]) (bk := []) ?_
  refine RL.alloc Try.zeroValue23 rfl rfl rfl rfl rfl ?_
  intro b2
  refine RL.nil ?_
  refine NQ.seq ?_
  refine CW.seq ?_
  refine CW.seq ?_
  refine CW.region (ef := []) (bk := []) ?_
  refine RL.move rfl rfl rfl rfl ?_
  refine RL.nil ?_
  refine NQ.seq ?_
  refine CW.block ?_
  -- STOP: loop; todo top: ["code", ["loop", ["seq", ["region", 3, [{"d": 6, "op": ["binOp", "Go.BinOp.lss", 3, ["t", 5], ["c", ["int", "Go.IntKind.i64", 3]], 3], "ty": 0, "pos": "kind.go:178", "after": [], "guard": null}], fal
  refine CW.loop (γ := Nat × Option Addr × Nat) (fun g => g.1 ≤ 3 ∧ (l.drop (4 * g.1)).length ≤ g.2.2 ∧ Lies (sls p 1 l.length (bytes l)) (sls g.2.1 1 (l.drop (4 * g.1)).length (bytes (l.drop (4 * g.1)))))
    (fun g => [(0, .pointer (some ⟨d, 0, none⟩)), (2, .pointer (some ⟨b1, 0, none⟩)), (3, .pointer (some ⟨b2, 0, none⟩)), (5, .int .i64 (g.1 : Int))]) (fun _ => [sls p 1 l.length (bytes l)])
    (fun g => [rdr d g.2.1 (l.drop (4 * g.1)).length g.2.2, cel b2 (c3 (f32 l) (.int .i32 0) g.1) 23, cel b1 (c3 (f32 l) (.int .i32 0) 0) 23]) (fun g => 3 - g.1) (0, p, c) ⟨by omega, hc, Lies.refl _⟩
    (.cons rfl (.cons rfl (.cons rfl (.cons rfl .nil)))) (fun w h => h.rea (fun _ h => h) (by repeat (first | exact Rea.nil | (apply Rea.cons; (solve | (repeat (first | exact Del.here | apply Del.there))))))) ?_
  rintro ⟨k, p', c'⟩ ⟨hk, hc', hl⟩
  dsimp only at hk hc' hl ⊢
  refine CW.seq ?_
  refine CW.region (ef := []) (bk := []) ?_
  refine RL.bin rfl rfl rfl rfl rfl rfl ?_
  refine RL.nil ?_
  refine NQ.seq ?_
  refine CW.seq ?_
  -- STOP: if; todo top: ["code", ["cond", ["t", 6], ["skip"], ["exit", 0]]]
  refine CW.cond rfl (fun hlt => ?_) (fun hlt => ?_)
  ·
    have hlt : k < 3 := by simp at hlt; omega
    have hlen : 4 ≤ (l.drop (4 * k)).length := by rw [List.length_drop]; omega
    have hdr : (l.drop (4 * k)).drop 4 = l.drop (4 * (k + 1)) := by rw [List.drop_drop, Nat.mul_add, Nat.mul_one]
    refine CW.sub hl (by repeat (first | exact List.Mem.head _ | apply List.Mem.tail)) ?_
    refine CW.skip ?_
    refine NQ.seq ?_
    refine CW.seq ?_
    refine CW.block ?_
    refine CW.seq ?_
    refine CW.region (ef := []) (bk := []) ?_
    refine RL.move rfl rfl rfl rfl ?_
    refine RL.assign rfl rfl rfl rfl ?_
    refine RL.nil ?_
    refine NQ.seq ?_
    refine CW.region (ef := [2, 4]) (bk := [2, 4]) ?_
    refine RL.move rfl rfl rfl rfl ?_
    refine RL.move rfl rfl rfl rfl ?_
    refine RL.call (rshort_any d p' c' (l.drop (4 * k)) hlen hc') Try.call139 rfl rfl rfl rfl rfl (by repeat (first | exact Pick.nil | apply Pick.take | apply Pick.leave)) (.inI (List.Mem.head _) .nil) (.inr rfl) ?_
    -- STOP: called; op 3: d=11 ["indexAddr", 23, ["t", 3], ["t", 8]] guard=None (kind.go:179)
    rintro _ _ _ ⟨rfl, rfl, p2, c2, rfl, hc2, hl2⟩
    rw [hdr] at hc2 hl2 ⊢
    -- STOP: op; op 3: d=11 ["indexAddr", 23, ["t", 3], ["t", 8]] guard=None (kind.go:179)
    refine RL.idxAAt (j := k) Try.runUnderlying23 Try.sizeOf22 rfl rfl rfl rfl rfl rfl hlt ?_
    -- STOP: op; op 4: d=None ["store", 22, ["t", 11], ["t", 10]] guard=None (kind.go:179)
    refine RL.storeX (cs' := c3 (f32 l) (.int .i32 0) (k + 1)) (vs := [_]) (c3_step hlt) Try.sizeOf22 rfl rfl rfl rfl rfl rfl rfl rfl (by repeat (first | exact Upd.here | apply Upd.there)) (by simp [c3]; omega) ?_
    refine RL.nil ?_
    refine NQ.block ?_
    refine NQ.seq ?_
    refine CW.only (.cons (k := 0) rfl (.cons (k := 2) rfl (.cons (k := 3) rfl (.cons (k := 5) rfl .nil)))) ?_
    refine CW.region (ef := []) (bk := []) ?_
    refine RL.binX rfl rfl rfl rfl rfl rfl (wrapV_i64 (by omega) (by omega)) ?_
    refine RL.move rfl rfl rfl rfl ?_
    refine RL.nil ?_
    -- STOP: round; todo top: ["N"]
    exact NQ.round (g := (k, p', c')) (k + 1, p2, c2) ⟨hlt, hc2, hl.trans hl2⟩ (by show 3 - (k + 1) < 3 - k; omega) (.cons rfl (.cons rfl (.cons rfl (.cons rfl .nil)))) (fun w h => h.les (fun x hx => by simp at hx; simp [hx]) (Les.refl _))
  ·
    have hk3 : k = 3 := by simp at hlt; omega
    subst hk3
    have e3 : c3 (f32 l) (.int .i32 0) 3 = [f32 l 0, f32 l 1, f32 l 2] := rfl
    have e0 : c3 (f32 l) (.int .i32 0) 0 = [.int .i32 0, .int .i32 0, .int .i32 0] := rfl
    rw [e3, e0]
    unfold f32
    refine CW.exit ?_
    refine XQ.seq ?_
    refine XQ.seq ?_
    refine XQ.hit ?_
    refine NQ.seq ?_
    refine CW.seq ?_
    refine CW.region (ef := [1]) (bk := [1]) ?_
    refine RL.loadW Try.isAgg23 Try.sizeOf23 rfl rfl rfl rfl (by repeat (first | exact List.Mem.head _ | apply List.Mem.tail)) (by first | rfl | assumption | (simp only [List.length_map]; assumption) | (simp only [List.length_map, List.length_replicate]; done) | (simp; done)) ?_
    refine RL.storeW Try.sizeOf23 rfl rfl rfl rfl rfl rfl rfl (by first | rfl | exact ones_map one8 _ | exact ones_map (fun _ => rfl) _) (by repeat (first | exact Upd.here | apply Upd.there)) (by first | rfl | assumption | (simp only [List.length_map]; assumption) | (simp only [List.length_map, List.length_replicate]; done) | (simp; done)) (by first | rfl | assumption | (simp only [List.length_map]; assumption) | (simp only [List.length_map, List.length_replicate]; done) | (simp; done)) ?_
    refine RL.nil ?_
    refine NQ.seq ?_
    refine CW.ret ?_
    -- STOP: ret; end
    exact RQ.post (resW rfl rfl Try.isAgg23 Try.sizeOf23 (by repeat (first | exact List.Mem.head _ | apply List.Mem.tail)) rfl) (.keep (Split.none _)) ⟨rfl, rfl, p', c', rfl, hc', hl⟩
theorem rvec_any (d : Nat) (p : Option Addr) (c : Nat) (l : List B8) (h4 : 8 * 3 ≤ l.length) (hc : l.length ≤ c) : Spc Try.prog 140 #[.pointer (some ⟨d, 0, none⟩)] [sls p 1 l.length (bytes l)] [rdr d p l.length c]
    (RdR d p l (8 * 3) (.agg (c3 (f64 l) (.int .i64 0) 3).toArray)) := by
  refine Spc.enter Try.func140 rfl rfl rfl (fun w0 hw0 => ?_)
  refine CW.seq ?_
  refine CW.region (ef := [0]) (bk := []) ?_
  refine RL.alloc Try.zeroValue27 rfl rfl rfl rfl rfl ?_
  intro b1
  refine RL.nil ?_
  refine NQ.seq ?_
  refine CW.seq ?_
  refine CW.region (ef := [0]) (bk := []) ?_
  refine RL.alloc Try.zeroValue27 rfl rfl rfl rfl rfl ?_
  intro b2
  refine RL.nil ?_
  refine NQ.seq ?_
  refine CW.seq ?_
  refine CW.seq ?_
  refine CW.region (ef := []) (bk := []) ?_
  refine RL.move rfl rfl rfl rfl ?_
  refine RL.nil ?_
  refine NQ.seq ?_
  refine CW.block ?_
  -- STOP: loop; todo top: ["code", ["loop", ["seq", ["region", 3, [{"d": 6, "op": ["binOp", "Go.BinOp.lss", 3, ["t", 5], ["c", ["int", "Go.IntKind.i64", 3]], 3], "ty": 0, "pos": "kind.go:169", "after": [], "guard": null}], fal
  refine CW.loop (γ := Nat × Option Addr × Nat) (fun g => g.1 ≤ 3 ∧ (l.drop (8 * g.1)).length ≤ g.2.2 ∧ Lies (sls p 1 l.length (bytes l)) (sls g.2.1 1 (l.drop (8 * g.1)).length (bytes (l.drop (8 * g.1)))))
    (fun g => [(0, .pointer (some ⟨d, 0, none⟩)), (2, .pointer (some ⟨b1, 0, none⟩)), (3, .pointer (some ⟨b2, 0, none⟩)), (5, .int .i64 (g.1 : Int))]) (fun _ => [sls p 1 l.length (bytes l)])
    (fun g => [rdr d g.2.1 (l.drop (8 * g.1)).length g.2.2, cel b2 (c3 (f64 l) (.int .i64 0) g.1) 27, cel b1 (c3 (f64 l) (.int .i64 0) 0) 27]) (fun g => 3 - g.1) (0, p, c) ⟨by omega, hc, Lies.refl _⟩
    (.cons rfl (.cons rfl (.cons rfl (.cons rfl .nil)))) (fun w h => h.rea (fun _ h => h) (by repeat (first | exact Rea.nil | (apply Rea.cons; (solve | (repeat (first | exact Del.here | apply Del.there))))))) ?_
  rintro ⟨k, p', c'⟩ ⟨hk, hc', hl⟩
  dsimp only at hk hc' hl ⊢
  refine CW.seq ?_
  refine CW.region (ef := []) (bk := []) ?_
  refine RL.bin rfl rfl rfl rfl rfl rfl ?_
  refine RL.nil ?_
  refine NQ.seq ?_
  refine CW.seq ?_
  -- STOP: if; todo top: ["code", ["cond", ["t", 6], ["skip"], ["exit", 0]]]
  refine CW.cond rfl (fun hlt => ?_) (fun hlt => ?_)
  ·
    have hlt : k < 3 := by simp at hlt; omega
    have hlen : 8 ≤ (l.drop (8 * k)).length := by rw [List.length_drop]; omega
    have hdr : (l.drop (8 * k)).drop 8 = l.drop (8 * (k + 1)) := by rw [List.drop_drop, Nat.mul_add, Nat.mul_one]
    refine CW.sub hl (by repeat (first | exact List.Mem.head _ | apply List.Mem.tail)) ?_
    refine CW.skip ?_
    refine NQ.seq ?_
    refine CW.seq ?_
    refine CW.block ?_
    refine CW.seq ?_
    refine CW.region (ef := []) (bk := []) ?_
    refine RL.move rfl rfl rfl rfl ?_
    refine RL.assign rfl rfl rfl rfl ?_
    refine RL.nil ?_
    refine NQ.seq ?_
    refine CW.region (ef := [2, 4]) (bk := [2, 4]) ?_
    refine RL.move rfl rfl rfl rfl ?_
    refine RL.move rfl rfl rfl rfl ?_
    refine RL.call (rfix_any d p' c' (l.drop (8 * k)) hlen hc') Try.call137 rfl rfl rfl rfl rfl (by repeat (first | exact Pick.nil | apply Pick.take | apply Pick.leave)) (.inI (List.Mem.head _) .nil) (.inr rfl) ?_
    -- STOP: called; op 3: d=11 ["indexAddr", 27, ["t", 3], ["t", 8]] guard=None (kind.go:170)
    rintro _ _ _ ⟨rfl, rfl, p2, c2, rfl, hc2, hl2⟩
    rw [hdr] at hc2 hl2 ⊢
    -- STOP: op; op 3: d=11 ["indexAddr", 27, ["t", 3], ["t", 8]] guard=None (kind.go:170)
    refine RL.idxAAt (j := k) Try.runUnderlying27 Try.sizeOf24 rfl rfl rfl rfl rfl rfl hlt ?_
    -- STOP: op; op 4: d=None ["store", 24, ["t", 11], ["t", 10]] guard=None (kind.go:170)
    refine RL.storeX (cs' := c3 (f64 l) (.int .i64 0) (k + 1)) (vs := [_]) (c3_step hlt) Try.sizeOf24 rfl rfl rfl rfl rfl rfl rfl rfl (by repeat (first | exact Upd.here | apply Upd.there)) (by simp [c3]; omega) ?_
    refine RL.nil ?_
    refine NQ.block ?_
    refine NQ.seq ?_
    refine CW.only (.cons (k := 0) rfl (.cons (k := 2) rfl (.cons (k := 3) rfl (.cons (k := 5) rfl .nil)))) ?_
    refine CW.region (ef := []) (bk := []) ?_
    refine RL.binX rfl rfl rfl rfl rfl rfl (wrapV_i64 (by omega) (by omega)) ?_
    refine RL.move rfl rfl rfl rfl ?_
    refine RL.nil ?_
    -- STOP: round; todo top: ["N"]
    exact NQ.round (g := (k, p', c')) (k + 1, p2, c2) ⟨hlt, hc2, hl.trans hl2⟩ (by show 3 - (k + 1) < 3 - k; omega) (.cons rfl (.cons rfl (.cons rfl (.cons rfl .nil)))) (fun w h => h.les (fun x hx => by simp at hx; simp [hx]) (Les.refl _))
  ·
    have hk3 : k = 3 := by simp at hlt; omega
    subst hk3
    have e3 : c3 (f64 l) (.int .i64 0) 3 = [f64 l 0, f64 l 1, f64 l 2] := rfl
    have e0 : c3 (f64 l) (.int .i64 0) 0 = [.int .i64 0, .int .i64 0, .int .i64 0] := rfl
    rw [e3, e0]
    unfold f64
    refine CW.exit ?_
    refine XQ.seq ?_
    refine XQ.seq ?_
    refine XQ.hit ?_
    refine NQ.seq ?_
    refine CW.seq ?_
    refine CW.region (ef := [1]) (bk := [1]) ?_
    refine RL.loadW Try.isAgg27 Try.sizeOf27 rfl rfl rfl rfl (by repeat (first | exact List.Mem.head _ | apply List.Mem.tail)) (by first | rfl | assumption | (simp only [List.length_map]; assumption) | (simp only [List.length_map, List.length_replicate]; done) | (simp; done)) ?_
    refine RL.storeW Try.sizeOf27 rfl rfl rfl rfl rfl rfl rfl (by first | rfl | exact ones_map one8 _ | exact ones_map (fun _ => rfl) _) (by repeat (first | exact Upd.here | apply Upd.there)) (by first | rfl | assumption | (simp only [List.length_map]; assumption) | (simp only [List.length_map, List.length_replicate]; done) | (simp; done)) (by first | rfl | assumption | (simp only [List.length_map]; assumption) | (simp only [List.length_map, List.length_replicate]; done) | (simp; done)) ?_
    refine RL.nil ?_
    refine NQ.seq ?_
    refine CW.ret ?_
    -- STOP: ret; end
    exact RQ.post (resW rfl rfl Try.isAgg27 Try.sizeOf27 (by repeat (first | exact List.Mem.head _ | apply List.Mem.tail)) rfl) (.keep (Split.none _)) ⟨rfl, rfl, p', c', rfl, hc', hl⟩
end Go.Proofs.Ytflpiaeffnoepaa
