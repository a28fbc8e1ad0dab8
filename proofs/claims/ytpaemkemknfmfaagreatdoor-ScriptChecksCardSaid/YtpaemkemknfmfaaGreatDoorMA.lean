import Derived.Test.YtpaemkemknfmfaaGreatDoorBase
import Derived.Test.YtpaemkemknfmfaaGreatDoorPD
set_option linter.unusedVariables false
set_option linter.unusedSimpArgs false
namespace Go.Proofs.YtpaemkemknfmfaaGreatDoor
open Go.PK

def kk (key : List B8) : List B8 := if 64 < key.length then sha key else key
theorem kk_len (key : List B8) : (kk key).length ≤ 64 := by unfold kk; split; · rw [sha_length]; omega
                                                            · omega
def padK (key : List B8) : List B8 := kk key ++ List.replicate (64 - (kk key).length) 0#8
theorem padK_len (key : List B8) : (padK key).length = 64 := by have := kk_len key; simp [padK]; omega
def padB (key : List B8) (by_ : B8) : List B8 := (padK key).map (· ^^^ by_)
theorem padB_len (key : List B8) (b : B8) : (padB key b).length = 64 := by simp [padB, padK_len]
theorem padB_get (key : List B8) (b : B8) {j : Nat} (h : j < 64) : (bytes (padB key b))[j]? = some (U8 ((padK key).getD j 0 ^^^ b)) ∧ (bytes (padK key))[j]? = some (U8 ((padK key).getD j 0)) := by
  have hl : j < (padK key).length := by rw [padK_len]; exact h
  constructor
  · simp [padB, hl]
  · simp [hl]

theorem pad_copy {key k : List B8} (hk : kk key = k) (hl : k.length ≤ 64) (n : Nat) (hn : n = k.length) (x : B8) : spl (List.replicate 64 (U8 0#8)) 0 (List.take (Nat.min n 64 * 1) (bytes k)) = (bytes (padB key x)).take 0 ++ (bytes (padK key)).drop 0 := by
  subst hn
  rw [show Nat.min k.length 64 = k.length from Nat.min_eq_left hl, Nat.mul_one, List.take_of_length_le (by simp), spl_eq _ _ _ (by simp; exact hl)]
  simp only [List.take_zero, List.nil_append, Nat.zero_add, List.length_map, List.drop_replicate, List.drop_zero]
  rw [padK, hk]; simp

theorem pad_any (p : Option Addr) (cap : Nat) (key : List B8) (hb : key.length ≤ 1000000000) (x : B8) : Spc Tryz.prog 354 #[.slice p key.length cap, U8 x] [sls p 1 key.length (bytes key)] []
    (fun v I' H' => ∃ b, v = .slice (some ⟨b, 0, none⟩) 64 64 ∧ I' = [] ∧ H' = [cel b (bytes (padB key x)) 514]) := by
  refine Spc.enter Tryz.func354 rfl rfl rfl (fun w0 hw0 => ?_)
  refine CW.seq (CW.rg (RL.p rfl (RL.nil (NQ.seq (CW.seq (CW.seq (CW.rg (RL.p rfl (RL.lenS Tryz.runUnderlying43 rfl rfl rfl rfl (RL.p rfl (RL.nil (NQ.seq ?_))))))))))))
  refine CW.cond rfl (fun hl => ?_) (fun hl => ?_)
  ·
    have hl : 64 < key.length := by simp at hl; omega
    have hk : kk key = sha key := by rw [kk, if_pos hl]
    have hkl : (sha key).length ≤ 64 := by rw [sha_length]; omega
    refine CW.seq (CW.region (ef := [1, 3, 4]) (bk := [4]) (RL.p rfl (RL.buildSlice [_] Tryz.runUnderlying367 Tryz.sizeOf43 Tryz.zeroValue43 rfl rfl (by decide) (by decide) rfl rfl rfl rfl rfl rfl ?_)))
    intro b1
    refine RL.callv (of_any (some ⟨b1, 0, none⟩) 1 [⟨p, cap, key⟩] (by simp) (by simp [joined]; omega)) Tryz.call250 rfl rfl rfl rfl (Lend.all (by repeat (first | exact List.Mem.head _ | apply List.Mem.tail)) rfl (.inI (by repeat (first | exact List.Mem.head _ | apply List.Mem.tail)) .nil)) ?_
    refine RL.alloc (cs := List.replicate 32 (U8 0#8)) Tryz.zeroValue388 rfl rfl rfl rfl rfl ?_
    intro b2
    refine RL.storeWq Tryz.sizeOf388 rfl rfl rfl rfl rfl rfl rfl ?_
    refine RL.nil (NQ.seq (CW.ok [1, 4, 5] rfl (CW.rg (RL.sliceAll Tryz.runUnderlying388 Tryz.sizeOf5 (by decide) rfl rfl rfl rfl ?_))))
    refine RL.p rfl (RL.nil (NQ.seq (CW.seq (CW.region (ef := [0]) (bk := []) (RL.alloc (cs := List.replicate 64 (U8 0#8)) Tryz.zeroValue514 rfl rfl rfl rfl rfl ?_)))))
    intro b3
    refine RL.nil (NQ.seq (CW.seq (CW.region (ef := [2]) (bk := [2]) (RL.sliceAll Tryz.runUnderlying514 Tryz.sizeOf5 (by decide) rfl rfl rfl rfl ?_))))
    refine RL.p rfl ?_
    rw [show joined [⟨p, cap, key⟩] = key by simp [joined]]
    refine RL.copy (news := bytes (sha key)) Tryz.runUnderlying43 Tryz.sizeOf5 rfl rfl rfl rfl rfl rfl rfl (Src.cel (by repeat (first | exact List.Mem.head _ | apply List.Mem.tail)) (by simp [sha_length])) (one_map one8 _) (by repeat (first | exact Upd.here | apply Upd.there)) (by simp) ?_
    rw [pad_copy hk hkl 32 (sha_length _).symm x]
    refine RL.nil (NQ.seq (CW.ok [1, 6] rfl (CW.seq (CW.seq (CW.rg (RL.p rfl (RL.nil (NQ.seq (CW.block ?_)))))))))
    refine CW.loop (γ := Nat) (fun j => j ≤ 64) (fun j => [(1, U8 x), (6, .pointer (some ⟨b3, 0, none⟩)), (18, .int .i64 (j : Int))])
      (fun _ => []) (fun j => [cel b3 ((bytes (padB key x)).take j ++ (bytes (padK key)).drop j) 514]) (fun j => 64 - j) 0 (by omega) (.cons rfl (.cons rfl (.cons rfl .nil))) (fun _ h => h.rea (fun x hx => by cases hx) (by repeat (first | exact Rea.nil | (apply Rea.cons; (solve | (repeat (first | exact Del.here | apply Del.there))))))) ?_
    intro j hj
    refine CW.seq (CW.rg (RL.p rfl (RL.nil (NQ.seq (CW.seq ?_)))))
    refine CW.cond rfl (fun hlt => ?_) (fun hlt => ?_)
    ·
      refine CW.skip (NQ.seq (CW.seq (CW.block (CW.seq (CW.rg (RL.p rfl (RL.p rfl (RL.nil (NQ.seq (CW.region (ef := [6]) (bk := [6]) (RL.p rfl ?_)))))))))))
      have hlt : j < 64 := by simp at hlt; omega
      obtain ⟨g1, g2⟩ := padB_get key x hlt
      have hmx : ((bytes (padB key x)).take j ++ (bytes (padK key)).drop j)[0 + j * 1]? = some (U8 ((padK key).getD j 0)) := by rw [get_mix (by simp [padB_len]; omega)]; exact g2
      refine RL.idxAAt (j := j) Tryz.runUnderlying514 Tryz.sizeOf5 rfl rfl rfl rfl rfl rfl hlt (RL.loadq Tryz.isAgg5 rfl rfl rfl rfl ?_)
      refine RL.p rfl (RL.bv8 (a := _) (b := _) xor8 rfl rfl rfl rfl rfl (RL.idxAAt (j := j) Tryz.runUnderlying514 Tryz.sizeOf5 rfl rfl rfl rfl rfl rfl hlt (RL.storeX (cs' := (bytes (padB key x)).take (j + 1) ++ (bytes (padK key)).drop (j + 1)) (vs := [_]) (spl_mix (by simp [padB_len, padK_len]) g1) Tryz.sizeOf5 rfl rfl rfl rfl rfl rfl rfl rfl (by repeat (first | exact Upd.here | apply Upd.there)) (by simp [padB_len, padK_len]; omega) ?_)))
      refine RL.nil (NQ.block (NQ.seq (CW.ok [1, 6, 18] rfl (CW.rg (RL.bx rfl (wrapV_i64 (by omega) (by omega)) ?_)))))
      refine RL.p rfl (RL.nil ?_)
      exact NQ.round (g := j) (j + 1) hlt (by omega) (.cons rfl (.cons rfl (.cons rfl .nil))) (fun _ h => h)
    ·
      refine CW.exit (XQ.seq (XQ.seq (XQ.hit (NQ.seq (CW.seq (CW.rg (RL.sliceAll Tryz.runUnderlying514 Tryz.sizeOf5 (by decide) rfl rfl rfl rfl ?_)))))))
      refine RL.p rfl (RL.nil (NQ.seq (CW.ret ?_)))
      have hj64 : j = 64 := by simp at hlt; omega
      subst hj64
      rw [List.take_of_length_le (by simp [padB_len]), List.drop_of_length_le (by simp [padK_len]), List.append_nil]
      exact RQ.post (res1 rfl rfl) (.keep .nil) ⟨_, rfl, rfl, rfl⟩
  ·
    have hl : ¬ 64 < key.length := by simp at hl; omega
    have hk : kk key = key := by rw [kk, if_neg hl]
    have hkl : key.length ≤ 64 := by omega
    refine CW.skip (NQ.seq (CW.seq (CW.region (ef := [0]) (bk := []) (RL.alloc (cs := List.replicate 64 (U8 0#8)) Tryz.zeroValue514 rfl rfl rfl rfl rfl ?_))))
    intro b1
    refine RL.nil (NQ.seq (CW.seq (CW.region (ef := [2]) (bk := [2]) (RL.sliceAll Tryz.runUnderlying514 Tryz.sizeOf5 (by decide) rfl rfl rfl rfl ?_))))
    refine RL.p rfl (RL.copy (news := bytes key) Tryz.runUnderlying43 Tryz.sizeOf5 rfl rfl rfl rfl rfl rfl rfl (Src.sls (by repeat (first | exact List.Mem.head _ | apply List.Mem.tail))) (one_map one8 _) (by repeat (first | exact Upd.here | apply Upd.there)) (by simp) ?_)
    rw [pad_copy hk hkl key.length rfl x]
    refine RL.nil (NQ.seq (CW.ok [1, 6] rfl (CW.seq (CW.seq (CW.rg (RL.p rfl (RL.nil (NQ.seq (CW.block ?_)))))))))
    refine CW.loop (γ := Nat) (fun j => j ≤ 64) (fun j => [(1, U8 x), (6, .pointer (some ⟨b1, 0, none⟩)), (18, .int .i64 (j : Int))])
      (fun _ => []) (fun j => [cel b1 ((bytes (padB key x)).take j ++ (bytes (padK key)).drop j) 514]) (fun j => 64 - j) 0 (by omega) (.cons rfl (.cons rfl (.cons rfl .nil))) (fun _ h => h.rea (fun x hx => by cases hx) (by repeat (first | exact Rea.nil | (apply Rea.cons; (solve | (repeat (first | exact Del.here | apply Del.there))))))) ?_
    intro j hj
    refine CW.seq (CW.rg (RL.p rfl (RL.nil (NQ.seq (CW.seq ?_)))))
    refine CW.cond rfl (fun hlt => ?_) (fun hlt => ?_)
    ·
      refine CW.skip (NQ.seq (CW.seq (CW.block (CW.seq (CW.rg (RL.p rfl (RL.p rfl (RL.nil (NQ.seq (CW.region (ef := [6]) (bk := [6]) (RL.p rfl ?_)))))))))))
      have hlt : j < 64 := by simp at hlt; omega
      obtain ⟨g1, g2⟩ := padB_get key x hlt
      have hmx : ((bytes (padB key x)).take j ++ (bytes (padK key)).drop j)[0 + j * 1]? = some (U8 ((padK key).getD j 0)) := by rw [get_mix (by simp [padB_len]; omega)]; exact g2
      refine RL.idxAAt (j := j) Tryz.runUnderlying514 Tryz.sizeOf5 rfl rfl rfl rfl rfl rfl hlt (RL.loadq Tryz.isAgg5 rfl rfl rfl rfl ?_)
      refine RL.p rfl (RL.bv8 (a := _) (b := _) xor8 rfl rfl rfl rfl rfl (RL.idxAAt (j := j) Tryz.runUnderlying514 Tryz.sizeOf5 rfl rfl rfl rfl rfl rfl hlt (RL.storeX (cs' := (bytes (padB key x)).take (j + 1) ++ (bytes (padK key)).drop (j + 1)) (vs := [_]) (spl_mix (by simp [padB_len, padK_len]) g1) Tryz.sizeOf5 rfl rfl rfl rfl rfl rfl rfl rfl (by repeat (first | exact Upd.here | apply Upd.there)) (by simp [padB_len, padK_len]; omega) ?_)))
      refine RL.nil (NQ.block (NQ.seq (CW.ok [1, 6, 18] rfl (CW.rg (RL.bx rfl (wrapV_i64 (by omega) (by omega)) ?_)))))
      refine RL.p rfl (RL.nil ?_)
      exact NQ.round (g := j) (j + 1) hlt (by omega) (.cons rfl (.cons rfl (.cons rfl .nil))) (fun _ h => h)
    ·
      refine CW.exit (XQ.seq (XQ.seq (XQ.hit (NQ.seq (CW.seq (CW.rg (RL.sliceAll Tryz.runUnderlying514 Tryz.sizeOf5 (by decide) rfl rfl rfl rfl ?_)))))))
      refine RL.p rfl (RL.nil (NQ.seq (CW.ret ?_)))
      have hj64 : j = 64 := by simp at hlt; omega
      subst hj64
      rw [List.take_of_length_le (by simp [padB_len]), List.drop_of_length_le (by simp [padK_len]), List.append_nil]
      exact RQ.post (res1 rfl rfl) (.keep .nil) ⟨_, rfl, rfl, rfl⟩
end Go.Proofs.YtpaemkemknfmfaaGreatDoor

namespace Go.Proofs.YtpaemkemknfmfaaGreatDoor
open Go.PK

def macCode (key b : List B8) : List B8 := sha (padB key 92#8 ++ sha (padB key 54#8 ++ b))
theorem macCode_len (key b : List B8) : (macCode key b).length = 32 := sha_length _
theorem Lend.allX {I F J : List It} {b sz nn : Nat} {cs xs : List Value} {T : TypeId} (hm : PK.cel b cs T ∈ F) (hl : xs.length = nn * sz) (he : cs = xs) (h : Lend I F J) : Lend I F (PK.sls (some ⟨b, 0, none⟩) sz nn xs :: J) := by
  subst he; exact Lend.all hm hl h
theorem joined_two (a b : Part) : joined [a, b] = a.m ++ b.m := by simp [joined]

theorem code_any (p : Option Addr) (kcap : Nat) (key : List B8) (hkb : key.length ≤ 1000000000) (pp : Option Addr) (cap : Nat) (qs : List Part) (hn : qs.length ≤ 1000000) (hb : (joined qs).length ≤ 100000000) :
    Spc Tryz.prog 302 #[.slice p key.length kcap, .slice pp qs.length cap] (sls p 1 key.length (bytes key) :: sls pp 1 qs.length (qs.map Part.v) :: qs.map Part.i) [] (Is (.agg (bytes (macCode key (joined qs))).toArray)) := by
  generalize hBase : sls p 1 key.length (bytes key) :: sls pp 1 qs.length (qs.map Part.v) :: qs.map Part.i = Base
  have hmk : sls p 1 key.length (bytes key) ∈ Base := by rw [← hBase]; exact List.Mem.head _
  have hmp : sls pp 1 qs.length (qs.map Part.v) ∈ Base := by rw [← hBase]; exact List.mem_cons_of_mem _ (List.Mem.head _)
  have hmi : ∀ q ∈ qs, q.i ∈ Base := fun q hq => by rw [← hBase]; exact List.mem_cons_of_mem _ (List.mem_cons_of_mem _ (List.mem_map_of_mem hq))
  refine Spc.enter Tryz.func302 rfl rfl rfl (fun w0 hw0 => ?_)
  refine CW.seq (CW.region (ef := [0]) (bk := []) (RL.alloc (cs := List.replicate 32 (U8 0#8)) Tryz.zeroValue388 rfl rfl rfl rfl rfl ?_))
  intro b1
  refine RL.nil (NQ.seq (CW.seq (CW.region (ef := [0]) (bk := []) (RL.callq (new_any) Tryz.call308 rfl rfl rfl rfl rfl (.inl rfl) ?_))))
  rintro _ _ _ ⟨hh, rfl, rfl, rfl⟩
  refine RL.p rfl (RL.nil (NQ.seq (CW.seq (CW.also (sls none 1 0 []) (fun _ _ => ⟨rfl, rfl⟩) (fun c hc => by simp [sls] at hc) ?_))))
  refine CW.region (ef := [2, 3]) (bk := [3]) (RL.p rfl (RL.p rfl (RL.call (pad_any p kcap key hkb 54#8) Tryz.call354 rfl rfl rfl rfl rfl (by repeat (first | exact Pick.nil | apply Pick.take | apply Pick.leave)) (.inI (by simp [hmk]) .nil) (.inl rfl) ?_)))
  rintro _ _ _ ⟨bp, rfl, rfl, rfl⟩
  have hl1 := padB_len key 54#8
  refine RL.write (n := 0) (rest := []) (m := padB key 54#8) (by simp) (by simp) (by simp) (by omega) rfl rfl rfl rfl rfl (by rw [padB_len]; rfl) (by repeat (first | exact List.Mem.head _ | apply List.Mem.tail)) (by repeat (first | exact Pick.nil | apply Pick.take | apply Pick.leave)) (Lend.all (by repeat (first | exact List.Mem.head _ | apply List.Mem.tail)) (by simp) .nil) ?_
  intro p1 c1 hc1
  rw [show absorb iv ([] ++ padB key 54#8) = after (padB key 54#8) from rfl, Nat.zero_add] at *
  refine RL.nil (NQ.seq (CW.seq (CW.seq (CW.rg (RL.p rfl (RL.lenS Tryz.runUnderlying367 rfl rfl rfl rfl (RL.p rfl (RL.nil (NQ.seq (CW.ok [0, 4, 5, 14, 15, 16] rfl (CW.block ?_)))))))))))
  refine CW.loop (γ := Nat × Option Addr × Nat) (fun g => g.1 ≤ qs.length ∧ (after (padB key 54#8 ++ joined (qs.take g.1))).2.length ≤ g.2.2)
    (fun g => [(0, .slice p key.length kcap), (4, .pointer (some ⟨b1, 0, none⟩)), (5, .pointer (some ⟨hh, 0, none⟩)), (14, .slice pp qs.length cap), (15, .int .i64 (qs.length : Int)), (16, .int .i64 (g.1 : Int))])
    (fun g => sls g.2.1 1 (after (padB key 54#8 ++ joined (qs.take g.1))).2.length (bytes (after (padB key 54#8 ++ joined (qs.take g.1))).2) :: Base)
    (fun g => [hcel hh (after (padB key 54#8 ++ joined (qs.take g.1))).1 g.2.1 (after (padB key 54#8 ++ joined (qs.take g.1))).2.length g.2.2 (padB key 54#8 ++ joined (qs.take g.1)).length, cel b1 (List.replicate 32 (U8 0#8)) 388])
    (fun g => qs.length - g.1) (0, p1, c1) ⟨by omega, by simpa [joined] using hc1⟩ (.cons rfl (.cons rfl (.cons rfl (.cons rfl (.cons rfl (.cons rfl .nil))))))
    (fun w h => by
      have e : padB key 54#8 ++ joined (qs.take 0) = padB key 54#8 := by simp [joined]
      dsimp only
      rw [e]
      exact h.rea (fun x hx => by
        rcases List.mem_cons.1 hx with rfl | hx
        · exact List.Mem.head _
        · exact List.mem_cons_of_mem _ (List.mem_cons_of_mem _ (by simpa using hx))) (by repeat (first | exact Rea.nil | (apply Rea.cons; (solve | (repeat (first | exact Del.here | apply Del.there))))))) ?_
  rintro ⟨i, p', c'⟩ ⟨hi, hc⟩
  dsimp only at hi hc ⊢
  have hr := after_rest (padB key 54#8 ++ joined (qs.take i))
  have hle0 := joined_le qs i
  refine CW.seq (CW.rg (RL.p rfl (RL.nil (NQ.seq (CW.seq ?_)))))
  refine CW.cond rfl (fun hlt => ?_) (fun hlt => ?_)
  ·
    have hlt : i < qs.length := by simp at hlt; omega
    refine CW.fact (p := pp ≠ none) (fun w hC e => by
      have := sls_nil (hC.s.i _ (List.mem_cons_of_mem _ hmp)) e
      omega) (fun hpp => ?_)
    obtain ⟨a, rfl⟩ : ∃ a, pp = some a := by
      cases pp with
      | none => exact absurd rfl hpp
      | some a => exact ⟨a, rfl⟩
    have hv : (qs.map Part.v)[i * 1]? = some (qs[i]).v := by simp [hlt]
    have hmi' := hmi (qs[i]) (List.getElem_mem _)
    refine CW.skip (NQ.seq (CW.seq (CW.block (CW.seq (CW.rg (RL.idx (j := i) Tryz.runUnderlying367 Tryz.sizeOf43 rfl rfl rfl rfl rfl rfl hlt (RL.load Tryz.isAgg43 rfl rfl rfl rfl (Rd.getS (List.mem_cons_of_mem _ hmp) hv) (RL.p rfl (RL.nil (NQ.seq (CW.region (ef := [2]) (bk := [2]) (RL.p rfl (RL.p rfl ?_)))))))))))))
    have hj := joined_succ hlt
    have hle := joined_le qs (i + 1)
    rw [hj, List.length_append] at hle
    refine RL.write (n := (padB key 54#8 ++ joined (qs.take i)).length) (p := p') (q := qs[i].p) (c2 := qs[i].c) (m := qs[i].m) hr.1 hc hr.2.1 (by rw [List.length_append, padB_len]; omega) rfl rfl rfl rfl rfl rfl (List.Mem.head _) (by repeat (first | exact Pick.nil | apply Pick.take | apply Pick.leave)) (.inI (List.mem_cons_of_mem _ hmi') .nil) ?_
    intro p2 c2 hc2
    rw [after_append, List.append_assoc, ← hj] at hc2 ⊢
    refine RL.nil (NQ.block (NQ.seq (CW.ok [0, 4, 5, 14, 15, 16] rfl (CW.rg (RL.bx rfl (wrapV_i64 (by omega) (by omega)) ?_)))))
    refine RL.p rfl (RL.nil ?_)
    refine NQ.round (g := (i, p', c')) (i + 1, p2, c2) ⟨hlt, hc2⟩ (by show qs.length - (i + 1) < qs.length - i; omega) (.cons rfl (.cons rfl (.cons rfl (.cons rfl (.cons rfl (.cons rfl .nil)))))) (fun w h => ?_)
    dsimp only
    rw [show (padB key 54#8 ++ joined (qs.take (i + 1))).length = (padB key 54#8 ++ joined (qs.take i)).length + qs[i].m.length by rw [hj]; simp [Nat.add_assoc]]
    exact h.les (fun x hx => by
      rcases List.mem_cons.1 hx with rfl | hx
      · exact List.Mem.head _
      · exact List.mem_cons_of_mem _ (List.mem_cons_of_mem _ hx)) (Les.refl _)
  ·
    have hil : i = qs.length := by simp at hlt; omega
    subst hil
    rw [List.take_length] at hr hc hle0 ⊢
    generalize hX : padB key 54#8 ++ joined qs = X at hr hc ⊢
    have hXl : X.length ≤ 200000000 := by rw [← hX, List.length_append, padB_len]; omega
    refine CW.exit (XQ.seq (XQ.seq (XQ.hit (NQ.seq (CW.seq (CW.region (ef := [2, 3]) (bk := [3]) (RL.p rfl (RL.callvq (sum_after hh p' c' X (by omega)) Tryz.call310 rfl rfl rfl rfl ?_))))))))
    refine RL.alloc (cs := List.replicate 32 (U8 0#8)) Tryz.zeroValue388 rfl rfl rfl rfl rfl ?_
    intro b2
    refine RL.storeWq Tryz.sizeOf388 rfl rfl rfl rfl rfl rfl rfl ?_
    refine RL.nil (NQ.seq (CW.ok [0, 4, 8] rfl (CW.seq (CW.regionD (Sq.of [0, 2, 1, 3, 4, 5]) [1, 3, 4, 5] [5] [0, 2] mixed (by kernel_rfl) ?_))))
    refine RL.p rfl (RL.sliceAll Tryz.runUnderlying388 Tryz.sizeOf5 (by decide) rfl rfl rfl rfl ?_)
    refine RL.call (pad_any p kcap key hkb 92#8) Tryz.call354 rfl rfl rfl rfl rfl (by repeat (first | exact Pick.nil | apply Pick.take | apply Pick.leave)) (.inI (by simp [hmk]) .nil) (.inl rfl) ?_
    rintro _ _ _ ⟨bq, rfl, rfl, rfl⟩
    refine RL.buildSlice [_, _] Tryz.runUnderlying367 Tryz.sizeOf43 Tryz.zeroValue43 rfl rfl (by decide) (by decide) rfl rfl rfl rfl rfl rfl ?_
    intro b3
    refine RL.callv (of_any (some ⟨b3, 0, none⟩) 2 [⟨some ⟨bq, 0, none⟩, 64, padB key 92#8⟩, ⟨some ⟨b2, 0, none⟩, 32, sha X⟩] (by simp) (by rw [joined_two]; simp [padB_len, sha_length])) Tryz.call250 rfl rfl rfl rfl (Lend.allX (by repeat (first | exact List.Mem.head _ | apply List.Mem.tail)) rfl (by simp [padB_len, sha_length]) (Lend.all (by repeat (first | exact List.Mem.head _ | apply List.Mem.tail)) (by simp) (Lend.all (by repeat (first | exact List.Mem.head _ | apply List.Mem.tail)) (by simp) .nil))) ?_
    refine RL.storeWq Tryz.sizeOf388 rfl rfl rfl rfl rfl rfl rfl ?_
    refine RL.nil (NQ.seq (CW.ok [4] rfl (CW.ret ?_)))
    exact RQ.post (resW rfl rfl Tryz.isAgg388 Tryz.sizeOf388 (by repeat (first | exact List.Mem.head _ | apply List.Mem.tail)) (by simp [sha_length])) (Split.none _) ⟨by rw [joined_two, ← hX]; rfl, rfl, rfl⟩
theorem code_n (p : Option Addr) (n kcap : Nat) (key : List B8) (hk : key.length = n) (hkb : n ≤ 1000000000) (pp : Option Addr) (qn cap : Nat) (qs : List Part) (hq : qs.length = qn) (hn : qn ≤ 1000000) (hb : (joined qs).length ≤ 100000000) :
    Spc Tryz.prog 302 #[.slice p n kcap, .slice pp qn cap] (sls p 1 n (bytes key) :: sls pp 1 qn (qs.map Part.v) :: qs.map Part.i) [] (Is (.agg (bytes (macCode key (joined qs))).toArray)) := by
  subst hk; subst hq; exact code_any p kcap key hkb pp cap qs hn hb
end Go.Proofs.YtpaemkemknfmfaaGreatDoor

namespace Go.Proofs.YtpaemkemknfmfaaGreatDoor
open Go.PK

end Go.Proofs.YtpaemkemknfmfaaGreatDoor

namespace Go.Proofs.YtpaemkemknfmfaaGreatDoor
open Go.PK

def macTag (key b : List B8) : List B8 := (macCode key b).take 16
theorem macTag_len (key b : List B8) : (macTag key b).length = 16 := by simp [macTag, macCode_len]

theorem bytes_take (l : List B8) (n : Nat) : (bytes l).take n = bytes (l.take n) := (List.map_take (f := U8)).symm

theorem tag_any (k : List B8) (hk : k.length = 32) (pp : Option Addr) (qn cap : Nat) (qs : List Part) (hq : qs.length = qn) (hn : qn ≤ 1000000) (hb : (joined qs).length ≤ 100000000) :
    Spc Tryz.prog 236 #[.agg (bytes k).toArray, .slice pp qn cap] (sls pp 1 qn (qs.map Part.v) :: qs.map Part.i) [] (Is (.agg (bytes (macTag k (joined qs))).toArray)) := by
  refine Spc.enter Tryz.func236 rfl rfl rfl (fun w0 hw0 => ?_)
  refine CW.seq (CW.region (ef := [0, 1]) (bk := []) (RL.box rfl rfl rfl rfl rfl rfl ?_))
  intro b1
  refine RL.alloc Tryz.zeroValue225 rfl rfl rfl rfl rfl ?_
  intro b2
  refine RL.nil (NQ.seq (CW.seq (CW.region (ef := [3, 4]) (bk := [4]) (RL.sliceAll Tryz.runUnderlying38 Tryz.sizeOf5 (by decide) rfl rfl rfl rfl ?_))))
  refine RL.p rfl (RL.callv (code_n (some ⟨b1, 0, none⟩) 32 32 k hk (by decide) pp qn cap qs hq hn hb) Tryz.call302 rfl rfl rfl rfl (Lend.all (by repeat (first | exact List.Mem.head _ | apply List.Mem.tail)) (by simp [hk]) (Lend.many (fun _ h => h))) ?_)
  refine RL.alloc (cs := List.replicate 32 (U8 0#8)) Tryz.zeroValue388 rfl rfl rfl rfl rfl ?_
  intro b3
  refine RL.storeWq Tryz.sizeOf388 rfl rfl rfl rfl rfl rfl rfl ?_
  refine RL.nil (NQ.seq (CW.ok [4, 5] rfl (CW.seq (CW.region (ef := [3]) (bk := [3]) (RL.sliceA (lo := 0) (hi := 16) Tryz.runUnderlying388 Tryz.sizeOf5 rfl rfl rfl rfl rfl rfl (by decide) (by decide) (by decide) ?_)))))
  refine RL.toArr Tryz.runUnderlying225 rfl rfl rfl rfl (by first | decide | omega) ?_
  refine RL.loadP (off := 0) Tryz.isAgg225 Tryz.sizeOf225 rfl rfl rfl rfl (cs := bytes (macCode k (joined qs))) (by repeat (first | exact List.Mem.head _ | apply List.Mem.tail)) (by simp [macCode_len]) ?_
  refine RL.storeWq Tryz.sizeOf225 rfl rfl rfl rfl rfl rfl rfl ?_
  refine RL.nil (NQ.seq (CW.ret ?_))
  rw [show ((bytes (macCode k (joined qs))).drop 0).take 16 = bytes (macTag k (joined qs)) by rw [List.drop_zero, macTag, bytes_take]]
  exact RQ.post (resW rfl rfl Tryz.isAgg225 Tryz.sizeOf225 (by repeat (first | exact List.Mem.head _ | apply List.Mem.tail)) (by first | rfl | assumption | (simp only [List.length_map]; assumption) | (simp only [List.length_map, List.length_replicate, padK_len, padB_len, sha_length, dig_length, macCode_len, macTag_len]; done) | (simp; done))) (Split.none _) ⟨rfl, rfl, rfl⟩

end Go.Proofs.YtpaemkemknfmfaaGreatDoor
