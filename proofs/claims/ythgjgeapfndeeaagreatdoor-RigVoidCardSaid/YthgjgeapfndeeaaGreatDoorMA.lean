import Derived.Test.YthgjgeapfndeeaaGreatDoorBase
import Derived.Test.YthgjgeapfndeeaaGreatDoorPD
set_option linter.unusedVariables false
set_option linter.unusedSimpArgs false
namespace Go.Proofs.YthgjgeapfndeeaaGreatDoor
open Go.PK

def kk (key : List B8) : List B8 := if 64 < key.length then sha key else key
theorem kk_len (key : List B8) : (kk key).length ≤ 64 := by unfold kk; split; · rw [sha_length]; omega
                                                            · omega
def padK (key : List B8) : List B8 := kk key ++ List.replicate (64 - (kk key).length) 0#8
theorem padK_len (key : List B8) : (padK key).length = 64 := by have := kk_len key; simp [padK]; omega
def padB (key : List B8) (by_ : B8) : List B8 := (padK key).map (· ^^^ by_)
theorem padB_len (key : List B8) (b : B8) : (padB key b).length = 64 := by simp [padB, padK_len]
theorem padB_get (key : List B8) (b : B8) {j : Nat} (h : j < 64) : (bytes (padB key b))[j]? = some (U8 ((padK key).getD j 0 ^^^ b)) ∧ (bytes (padK key))[j]? = some (U8 ((padK key).getD j 0)) := by
  have hl : j < (padK key).length := by rw [padK_len]; exact h
  constructor
  · simp [padB, hl]
  · simp [hl]

theorem pad_copy {key k : List B8} (hk : kk key = k) (hl : k.length ≤ 64) (n : Nat) (hn : n = k.length) (x : B8) : spl (List.replicate 64 (U8 0#8)) 0 (List.take (Nat.min n 64 * 1) (bytes k)) = (bytes (padB key x)).take 0 ++ (bytes (padK key)).drop 0 := by
  subst hn
  rw [show Nat.min k.length 64 = k.length from Nat.min_eq_left hl, Nat.mul_one, List.take_of_length_le (by simp), spl_eq _ _ _ (by simp; exact hl)]
  simp only [List.take_zero, List.nil_append, Nat.zero_add, List.length_map, List.drop_replicate, List.drop_zero]
  rw [padK, hk]; simp

theorem pad_any (p : Option Addr) (cap : Nat) (key : List B8) (hb : key.length ≤ 1000000000) (x : B8) : Spc Tryz.prog 513 #[.slice p key.length cap, U8 x] [sls p 1 key.length (bytes key)] []
    (fun v I' H' => ∃ b, v = .slice (some ⟨b, 0, none⟩) 64 64 ∧ I' = [] ∧ H' = [cel b (bytes (padB key x)) 764]) := by
  refine Spc.enter Tryz.func513 rfl rfl rfl (fun w0 hw0 => ?_)
  refine CW.seq (CW.rg (RL.p rfl (RL.nil (NQ.seq (CW.seq (CW.seq (CW.rg (RL.p rfl (RL.lenS Tryz.runUnderlying22 rfl rfl rfl rfl (RL.p rfl (RL.nil (NQ.seq ?_))))))))))))
  refine CW.cond rfl (fun hl => ?_) (fun hl => ?_)
  ·
    have hl : 64 < key.length := by simp at hl; omega
    have hk : kk key = sha key := by rw [kk, if_pos hl]
    have hkl : (sha key).length ≤ 64 := by rw [sha_length]; omega
    refine CW.seq (CW.region (ef := [1, 3, 4]) (bk := [4]) (RL.p rfl (RL.buildSlice [_] Tryz.runUnderlying397 Tryz.sizeOf22 Tryz.zeroValue22 rfl rfl (by decide) (by decide) rfl rfl rfl rfl rfl rfl ?_)))
    intro b1
    refine RL.callv (of_any (some ⟨b1, 0, none⟩) 1 [⟨p, cap, key⟩] (by simp) (by simp [joined]; omega)) Tryz.call114 rfl rfl rfl rfl (Lend.all (by repeat (first | exact List.Mem.head _ | apply List.Mem.tail)) rfl (.inI (by repeat (first | exact List.Mem.head _ | apply List.Mem.tail)) .nil)) ?_
    refine RL.alloc (cs := List.replicate 32 (U8 0#8)) Tryz.zeroValue50 rfl rfl rfl rfl rfl ?_
    intro b2
    refine RL.storeWq Tryz.sizeOf50 rfl rfl rfl rfl rfl rfl rfl ?_
    refine RL.nil (NQ.seq (CW.ok [1, 4, 5] rfl (CW.rg (RL.sliceAll Tryz.runUnderlying50 Tryz.sizeOf5 (by decide) rfl rfl rfl rfl ?_))))
    refine RL.p rfl (RL.nil (NQ.seq (CW.seq (CW.region (ef := [0]) (bk := []) (RL.alloc (cs := List.replicate 64 (U8 0#8)) Tryz.zeroValue764 rfl rfl rfl rfl rfl ?_)))))
    intro b3
    refine RL.nil (NQ.seq (CW.seq (CW.region (ef := [2]) (bk := [2]) (RL.sliceAll Tryz.runUnderlying764 Tryz.sizeOf5 (by decide) rfl rfl rfl rfl ?_))))
    refine RL.p rfl ?_
    rw [show joined [⟨p, cap, key⟩] = key by simp [joined]]
    refine RL.copy (news := bytes (sha key)) Tryz.runUnderlying22 Tryz.sizeOf5 rfl rfl rfl rfl rfl rfl rfl (Src.cel (by repeat (first | exact List.Mem.head _ | apply List.Mem.tail)) (by simp [sha_length])) (one_map one8 _) (by repeat (first | exact Upd.here | apply Upd.there)) (by simp) ?_
    rw [pad_copy hk hkl 32 (sha_length _).symm x]
    refine RL.nil (NQ.seq (CW.ok [1, 6] rfl (CW.seq (CW.seq (CW.rg (RL.p rfl (RL.nil (NQ.seq (CW.block ?_)))))))))
    refine CW.loop (γ := Nat) (fun j => j ≤ 64) (fun j => [(1, U8 x), (6, .pointer (some ⟨b3, 0, none⟩)), (18, .int .i64 (j : Int))])
      (fun _ => []) (fun j => [cel b3 ((bytes (padB key x)).take j ++ (bytes (padK key)).drop j) 764]) (fun j => 64 - j) 0 (by omega) (.cons rfl (.cons rfl (.cons rfl .nil))) (fun _ h => h.rea (fun x hx => by cases hx) (by repeat (first | exact Rea.nil | (apply Rea.cons; (solve | (repeat (first | exact Del.here | apply Del.there))))))) ?_
    intro j hj
    refine CW.seq (CW.rg (RL.p rfl (RL.nil (NQ.seq (CW.seq ?_)))))
    refine CW.cond rfl (fun hlt => ?_) (fun hlt => ?_)
    ·
      refine CW.skip (NQ.seq (CW.seq (CW.block (CW.seq (CW.rg (RL.p rfl (RL.p rfl (RL.nil (NQ.seq (CW.region (ef := [6]) (bk := [6]) (RL.p rfl ?_)))))))))))
      have hlt : j < 64 := by simp at hlt; omega
      obtain ⟨g1, g2⟩ := padB_get key x hlt
      have hmx : ((bytes (padB key x)).take j ++ (bytes (padK key)).drop j)[0 + j * 1]? = some (U8 ((padK key).getD j 0)) := by rw [get_mix (by simp [padB_len]; omega)]; exact g2
      refine RL.idxAAt (j := j) Tryz.runUnderlying764 Tryz.sizeOf5 rfl rfl rfl rfl rfl rfl hlt (RL.loadq Tryz.isAgg5 rfl rfl rfl rfl ?_)
      refine RL.p rfl (RL.bv8 (a := _) (b := _) xor8 rfl rfl rfl rfl rfl (RL.idxAAt (j := j) Tryz.runUnderlying764 Tryz.sizeOf5 rfl rfl rfl rfl rfl rfl hlt (RL.storeX (cs' := (bytes (padB key x)).take (j + 1) ++ (bytes (padK key)).drop (j + 1)) (vs := [_]) (spl_mix (by simp [padB_len, padK_len]) g1) Tryz.sizeOf5 rfl rfl rfl rfl rfl rfl rfl rfl (by repeat (first | exact Upd.here | apply Upd.there)) (by simp [padB_len, padK_len]; omega) ?_)))
      refine RL.nil (NQ.block (NQ.seq (CW.ok [1, 6, 18] rfl (CW.rg (RL.bx rfl (wrapV_i64 (by omega) (by omega)) ?_)))))
      refine RL.p rfl (RL.nil ?_)
      exact NQ.round (g := j) (j + 1) hlt (by omega) (.cons rfl (.cons rfl (.cons rfl .nil))) (fun _ h => h)
    ·
      refine CW.exit (XQ.seq (XQ.seq (XQ.hit (NQ.seq (CW.seq (CW.rg (RL.sliceAll Tryz.runUnderlying764 Tryz.sizeOf5 (by decide) rfl rfl rfl rfl ?_)))))))
      refine RL.p rfl (RL.nil (NQ.seq (CW.ret ?_)))
      have hj64 : j = 64 := by simp at hlt; omega
      subst hj64
      rw [List.take_of_length_le (by simp [padB_len]), List.drop_of_length_le (by simp [padK_len]), List.append_nil]
      exact RQ.post (res1 rfl rfl) (.keep .nil) ⟨_, rfl, rfl, rfl⟩
  ·
    have hl : ¬ 64 < key.length := by simp at hl; omega
    have hk : kk key = key := by rw [kk, if_neg hl]
    have hkl : key.length ≤ 64 := by omega
    refine CW.skip (NQ.seq (CW.seq (CW.region (ef := [0]) (bk := []) (RL.alloc (cs := List.replicate 64 (U8 0#8)) Tryz.zeroValue764 rfl rfl rfl rfl rfl ?_))))
    intro b1
    refine RL.nil (NQ.seq (CW.seq (CW.region (ef := [2]) (bk := [2]) (RL.sliceAll Tryz.runUnderlying764 Tryz.sizeOf5 (by decide) rfl rfl rfl rfl ?_))))
    refine RL.p rfl (RL.copy (news := bytes key) Tryz.runUnderlying22 Tryz.sizeOf5 rfl rfl rfl rfl rfl rfl rfl (Src.sls (by repeat (first | exact List.Mem.head _ | apply List.Mem.tail))) (one_map one8 _) (by repeat (first | exact Upd.here | apply Upd.there)) (by simp) ?_)
    rw [pad_copy hk hkl key.length rfl x]
    refine RL.nil (NQ.seq (CW.ok [1, 6] rfl (CW.seq (CW.seq (CW.rg (RL.p rfl (RL.nil (NQ.seq (CW.block ?_)))))))))
    refine CW.loop (γ := Nat) (fun j => j ≤ 64) (fun j => [(1, U8 x), (6, .pointer (some ⟨b1, 0, none⟩)), (18, .int .i64 (j : Int))])
      (fun _ => []) (fun j => [cel b1 ((bytes (padB key x)).take j ++ (bytes (padK key)).drop j) 764]) (fun j => 64 - j) 0 (by omega) (.cons rfl (.cons rfl (.cons rfl .nil))) (fun _ h => h.rea (fun x hx => by cases hx) (by repeat (first | exact Rea.nil | (apply Rea.cons; (solve | (repeat (first | exact Del.here | apply Del.there))))))) ?_
    intro j hj
    refine CW.seq (CW.rg (RL.p rfl (RL.nil (NQ.seq (CW.seq ?_)))))
    refine CW.cond rfl (fun hlt => ?_) (fun hlt => ?_)
    ·
      refine CW.skip (NQ.seq (CW.seq (CW.block (CW.seq (CW.rg (RL.p rfl (RL.p rfl (RL.nil (NQ.seq (CW.region (ef := [6]) (bk := [6]) (RL.p rfl ?_)))))))))))
      have hlt : j < 64 := by simp at hlt; omega
      obtain ⟨g1, g2⟩ := padB_get key x hlt
      have hmx : ((bytes (padB key x)).take j ++ (bytes (padK key)).drop j)[0 + j * 1]? = some (U8 ((padK key).getD j 0)) := by rw [get_mix (by simp [padB_len]; omega)]; exact g2
      refine RL.idxAAt (j := j) Tryz.runUnderlying764 Tryz.sizeOf5 rfl rfl rfl rfl rfl rfl hlt (RL.loadq Tryz.isAgg5 rfl rfl rfl rfl ?_)
      refine RL.p rfl (RL.bv8 (a := _) (b := _) xor8 rfl rfl rfl rfl rfl (RL.idxAAt (j := j) Tryz.runUnderlying764 Tryz.sizeOf5 rfl rfl rfl rfl rfl rfl hlt (RL.storeX (cs' := (bytes (padB key x)).take (j + 1) ++ (bytes (padK key)).drop (j + 1)) (vs := [_]) (spl_mix (by simp [padB_len, padK_len]) g1) Tryz.sizeOf5 rfl rfl rfl rfl rfl rfl rfl rfl (by repeat (first | exact Upd.here | apply Upd.there)) (by simp [padB_len, padK_len]; omega) ?_)))
      refine RL.nil (NQ.block (NQ.seq (CW.ok [1, 6, 18] rfl (CW.rg (RL.bx rfl (wrapV_i64 (by omega) (by omega)) ?_)))))
      refine RL.p rfl (RL.nil ?_)
      exact NQ.round (g := j) (j + 1) hlt (by omega) (.cons rfl (.cons rfl (.cons rfl .nil))) (fun _ h => h)
    ·
      refine CW.exit (XQ.seq (XQ.seq (XQ.hit (NQ.seq (CW.seq (CW.rg (RL.sliceAll Tryz.runUnderlying764 Tryz.sizeOf5 (by decide) rfl rfl rfl rfl ?_)))))))
      refine RL.p rfl (RL.nil (NQ.seq (CW.ret ?_)))
      have hj64 : j = 64 := by simp at hlt; omega
      subst hj64
      rw [List.take_of_length_le (by simp [padB_len]), List.drop_of_length_le (by simp [padK_len]), List.append_nil]
      exact RQ.post (res1 rfl rfl) (.keep .nil) ⟨_, rfl, rfl, rfl⟩
end Go.Proofs.YthgjgeapfndeeaaGreatDoor

namespace Go.Proofs.YthgjgeapfndeeaaGreatDoor
open Go.PK

def macCode (key b : List B8) : List B8 := sha (padB key 92#8 ++ sha (padB key 54#8 ++ b))
theorem macCode_len (key b : List B8) : (macCode key b).length = 32 := sha_length _
theorem Lend.allX {I F J : List It} {b sz nn : Nat} {cs xs : List Value} {T : TypeId} (hm : PK.cel b cs T ∈ F) (hl : xs.length = nn * sz) (he : cs = xs) (h : Lend I F J) : Lend I F (PK.sls (some ⟨b, 0, none⟩) sz nn xs :: J) := by
  subst he; exact Lend.all hm hl h
theorem joined_two (a b : Part) : joined [a, b] = a.m ++ b.m := by simp [joined]

theorem code_any (p : Option Addr) (kcap : Nat) (key : List B8) (hkb : key.length ≤ 1000000000) (pp : Option Addr) (cap : Nat) (qs : List Part) (hn : qs.length ≤ 1000000) (hb : (joined qs).length ≤ 100000000) :
    Spc Tryz.prog 483 #[.slice p key.length kcap, .slice pp qs.length cap] (sls p 1 key.length (bytes key) :: sls pp 1 qs.length (qs.map Part.v) :: qs.map Part.i) [] (Is (.agg (bytes (macCode key (joined qs))).toArray)) := by
  generalize hBase : sls p 1 key.length (bytes key) :: sls pp 1 qs.length (qs.map Part.v) :: qs.map Part.i = Base
  have hmk : sls p 1 key.length (bytes key) ∈ Base := by rw [← hBase]; exact List.Mem.head _
  have hmp : sls pp 1 qs.length (qs.map Part.v) ∈ Base := by rw [← hBase]; exact List.mem_cons_of_mem _ (List.Mem.head _)
  have hmi : ∀ q ∈ qs, q.i ∈ Base := fun q hq => by rw [← hBase]; exact List.mem_cons_of_mem _ (List.mem_cons_of_mem _ (List.mem_map_of_mem hq))
  refine Spc.enter Tryz.func483 rfl rfl rfl (fun w0 hw0 => ?_)
  refine CW.seq (CW.region (ef := [0]) (bk := []) (RL.alloc (cs := List.replicate 32 (U8 0#8)) Tryz.zeroValue50 rfl rfl rfl rfl rfl ?_))
  intro b1
  refine RL.nil (NQ.seq (CW.seq (CW.region (ef := [0]) (bk := []) (RL.callq (new_any) Tryz.call206 rfl rfl rfl rfl rfl (.inl rfl) ?_))))
  rintro _ _ _ ⟨hh, rfl, rfl, rfl⟩
  refine RL.p rfl (RL.nil (NQ.seq (CW.seq (CW.also (sls none 1 0 []) (fun _ _ => ⟨rfl, rfl⟩) (fun c hc => by simp [sls] at hc) ?_))))
  refine CW.region (ef := [2, 3]) (bk := [3]) (RL.p rfl (RL.p rfl (RL.call (pad_any p kcap key hkb 54#8) Tryz.call513 rfl rfl rfl rfl rfl (by repeat (first | exact Pick.nil | apply Pick.take | apply Pick.leave)) (.inI (by simp [hmk]) .nil) (.inl rfl) ?_)))
  rintro _ _ _ ⟨bp, rfl, rfl, rfl⟩
  have hl1 := padB_len key 54#8
  refine RL.write (n := 0) (rest := []) (m := padB key 54#8) (by simp) (by simp) (by simp) (by omega) rfl rfl rfl rfl rfl (by rw [padB_len]; rfl) (by repeat (first | exact List.Mem.head _ | apply List.Mem.tail)) (by repeat (first | exact Pick.nil | apply Pick.take | apply Pick.leave)) (Lend.all (by repeat (first | exact List.Mem.head _ | apply List.Mem.tail)) (by simp) .nil) ?_
  intro p1 c1 hc1
  rw [show absorb iv ([] ++ padB key 54#8) = after (padB key 54#8) from rfl, Nat.zero_add] at *
  refine RL.nil (NQ.seq (CW.seq (CW.seq (CW.rg (RL.p rfl (RL.lenS Tryz.runUnderlying397 rfl rfl rfl rfl (RL.p rfl (RL.nil (NQ.seq (CW.ok [0, 4, 5, 14, 15, 16] rfl (CW.block ?_)))))))))))
  refine CW.loop (γ := Nat × Option Addr × Nat) (fun g => g.1 ≤ qs.length ∧ (after (padB key 54#8 ++ joined (qs.take g.1))).2.length ≤ g.2.2)
    (fun g => [(0, .slice p key.length kcap), (4, .pointer (some ⟨b1, 0, none⟩)), (5, .pointer (some ⟨hh, 0, none⟩)), (14, .slice pp qs.length cap), (15, .int .i64 (qs.length : Int)), (16, .int .i64 (g.1 : Int))])
    (fun g => sls g.2.1 1 (after (padB key 54#8 ++ joined (qs.take g.1))).2.length (bytes (after (padB key 54#8 ++ joined (qs.take g.1))).2) :: Base)
    (fun g => [hcel hh (after (padB key 54#8 ++ joined (qs.take g.1))).1 g.2.1 (after (padB key 54#8 ++ joined (qs.take g.1))).2.length g.2.2 (padB key 54#8 ++ joined (qs.take g.1)).length, cel b1 (List.replicate 32 (U8 0#8)) 50])
    (fun g => qs.length - g.1) (0, p1, c1) ⟨by omega, by simpa [joined] using hc1⟩ (.cons rfl (.cons rfl (.cons rfl (.cons rfl (.cons rfl (.cons rfl .nil))))))
    (fun w h => by
      have e : padB key 54#8 ++ joined (qs.take 0) = padB key 54#8 := by simp [joined]
      dsimp only
      rw [e]
      exact h.rea (fun x hx => by
        rcases List.mem_cons.1 hx with rfl | hx
        · exact List.Mem.head _
        · exact List.mem_cons_of_mem _ (List.mem_cons_of_mem _ (by simpa using hx))) (by repeat (first | exact Rea.nil | (apply Rea.cons; (solve | (repeat (first | exact Del.here | apply Del.there))))))) ?_
  rintro ⟨i, p', c'⟩ ⟨hi, hc⟩
  dsimp only at hi hc ⊢
  have hr := after_rest (padB key 54#8 ++ joined (qs.take i))
  have hle0 := joined_le qs i
  refine CW.seq (CW.rg (RL.p rfl (RL.nil (NQ.seq (CW.seq ?_)))))
  refine CW.cond rfl (fun hlt => ?_) (fun hlt => ?_)
  ·
    have hlt : i < qs.length := by simp at hlt; omega
    refine CW.fact (p := pp ≠ none) (fun w hC e => by
      have := sls_nil (hC.s.i _ (List.mem_cons_of_mem _ hmp)) e
      omega) (fun hpp => ?_)
    obtain ⟨a, rfl⟩ : ∃ a, pp = some a := by
      cases pp with
      | none => exact absurd rfl hpp
      | some a => exact ⟨a, rfl⟩
    have hv : (qs.map Part.v)[i * 1]? = some (qs[i]).v := by simp [hlt]
    have hmi' := hmi (qs[i]) (List.getElem_mem _)
    refine CW.skip (NQ.seq (CW.seq (CW.block (CW.seq (CW.rg (RL.idx (j := i) Tryz.runUnderlying397 Tryz.sizeOf22 rfl rfl rfl rfl rfl rfl hlt (RL.load Tryz.isAgg22 rfl rfl rfl rfl (Rd.getS (List.mem_cons_of_mem _ hmp) hv) (RL.p rfl (RL.nil (NQ.seq (CW.region (ef := [2]) (bk := [2]) (RL.p rfl (RL.p rfl ?_)))))))))))))
    have hj := joined_succ hlt
    have hle := joined_le qs (i + 1)
    rw [hj, List.length_append] at hle
    refine RL.write (n := (padB key 54#8 ++ joined (qs.take i)).length) (p := p') (q := qs[i].p) (c2 := qs[i].c) (m := qs[i].m) hr.1 hc hr.2.1 (by rw [List.length_append, padB_len]; omega) rfl rfl rfl rfl rfl rfl (List.Mem.head _) (by repeat (first | exact Pick.nil | apply Pick.take | apply Pick.leave)) (.inI (List.mem_cons_of_mem _ hmi') .nil) ?_
    intro p2 c2 hc2
    rw [after_append, List.append_assoc, ← hj] at hc2 ⊢
    refine RL.nil (NQ.block (NQ.seq (CW.ok [0, 4, 5, 14, 15, 16] rfl (CW.rg (RL.bx rfl (wrapV_i64 (by omega) (by omega)) ?_)))))
    refine RL.p rfl (RL.nil ?_)
    refine NQ.round (g := (i, p', c')) (i + 1, p2, c2) ⟨hlt, hc2⟩ (by show qs.length - (i + 1) < qs.length - i; omega) (.cons rfl (.cons rfl (.cons rfl (.cons rfl (.cons rfl (.cons rfl .nil)))))) (fun w h => ?_)
    dsimp only
    rw [show (padB key 54#8 ++ joined (qs.take (i + 1))).length = (padB key 54#8 ++ joined (qs.take i)).length + qs[i].m.length by rw [hj]; simp [Nat.add_assoc]]
    exact h.les (fun x hx => by
      rcases List.mem_cons.1 hx with rfl | hx
      · exact List.Mem.head _
      · exact List.mem_cons_of_mem _ (List.mem_cons_of_mem _ hx)) (Les.refl _)
  ·
    have hil : i = qs.length := by simp at hlt; omega
    subst hil
    rw [List.take_length] at hr hc hle0 ⊢
    generalize hX : padB key 54#8 ++ joined qs = X at hr hc ⊢
    have hXl : X.length ≤ 200000000 := by rw [← hX, List.length_append, padB_len]; omega
    refine CW.exit (XQ.seq (XQ.seq (XQ.hit (NQ.seq (CW.seq (CW.region (ef := [2, 3]) (bk := [3]) (RL.p rfl (RL.callvq (sum_after hh p' c' X (by omega)) Tryz.call208 rfl rfl rfl rfl ?_))))))))
    refine RL.alloc (cs := List.replicate 32 (U8 0#8)) Tryz.zeroValue50 rfl rfl rfl rfl rfl ?_
    intro b2
    refine RL.storeWq Tryz.sizeOf50 rfl rfl rfl rfl rfl rfl rfl ?_
    refine RL.nil (NQ.seq (CW.ok [0, 4, 8] rfl (CW.seq (CW.regionD (Sq.of [0, 2, 1, 3, 4, 5]) [1, 3, 4, 5] [5] [0, 2] mixed (by kernel_rfl) ?_))))
    refine RL.p rfl (RL.sliceAll Tryz.runUnderlying50 Tryz.sizeOf5 (by decide) rfl rfl rfl rfl ?_)
    refine RL.call (pad_any p kcap key hkb 92#8) Tryz.call513 rfl rfl rfl rfl rfl (by repeat (first | exact Pick.nil | apply Pick.take | apply Pick.leave)) (.inI (by simp [hmk]) .nil) (.inl rfl) ?_
    rintro _ _ _ ⟨bq, rfl, rfl, rfl⟩
    refine RL.buildSlice [_, _] Tryz.runUnderlying397 Tryz.sizeOf22 Tryz.zeroValue22 rfl rfl (by decide) (by decide) rfl rfl rfl rfl rfl rfl ?_
    intro b3
    refine RL.callv (of_any (some ⟨b3, 0, none⟩) 2 [⟨some ⟨bq, 0, none⟩, 64, padB key 92#8⟩, ⟨some ⟨b2, 0, none⟩, 32, sha X⟩] (by simp) (by rw [joined_two]; simp [padB_len, sha_length])) Tryz.call114 rfl rfl rfl rfl (Lend.allX (by repeat (first | exact List.Mem.head _ | apply List.Mem.tail)) rfl (by simp [padB_len, sha_length]) (Lend.all (by repeat (first | exact List.Mem.head _ | apply List.Mem.tail)) (by simp) (Lend.all (by repeat (first | exact List.Mem.head _ | apply List.Mem.tail)) (by simp) .nil))) ?_
    refine RL.storeWq Tryz.sizeOf50 rfl rfl rfl rfl rfl rfl rfl ?_
    refine RL.nil (NQ.seq (CW.ok [4] rfl (CW.ret ?_)))
    exact RQ.post (resW rfl rfl Tryz.isAgg50 Tryz.sizeOf50 (by repeat (first | exact List.Mem.head _ | apply List.Mem.tail)) (by simp [sha_length])) (Split.none _) ⟨by rw [joined_two, ← hX]; rfl, rfl, rfl⟩
theorem code_n (p : Option Addr) (n kcap : Nat) (key : List B8) (hk : key.length = n) (hkb : n ≤ 1000000000) (pp : Option Addr) (qn cap : Nat) (qs : List Part) (hq : qs.length = qn) (hn : qn ≤ 1000000) (hb : (joined qs).length ≤ 100000000) :
    Spc Tryz.prog 483 #[.slice p n kcap, .slice pp qn cap] (sls p 1 n (bytes key) :: sls pp 1 qn (qs.map Part.v) :: qs.map Part.i) [] (Is (.agg (bytes (macCode key (joined qs))).toArray)) := by
  subst hk; subst hq; exact code_any p kcap key hkb pp cap qs hn hb
end Go.Proofs.YthgjgeapfndeeaaGreatDoor

namespace Go.Proofs.YthgjgeapfndeeaaGreatDoor
open Go.PK

theorem tellN {ob : Option Nat} {cap sz n : Nat} {e : TypeId} {xs : List Value} {w : World} (h : (own ob cap e sz n xs).A w) (hn : n ≠ 0) : ob.isSome = true := by
  cases ob with
  | none => exact absurd h.2.1 hn
  | some b => rfl

theorem rpad_any (p : Option Addr) (cap : Nat) (key : List B8) (hb : key.length ≤ 1000000000) (x : B8) : Spc Tryz.prog 272 #[.slice p key.length cap, U8 x] [sls p 1 key.length (bytes key)] [] (OwnB (padB key x)) := by
  refine Spc.enter Tryz.func272 rfl rfl rfl (fun w0 hw0 => ?_)
  refine CW.seq (CW.rg (RL.p rfl (RL.nil (NQ.seq (CW.seq (CW.region (ef := [0, 2]) (bk := [2]) (RL.buildOwn [] Tryz.runUnderlying22 Tryz.sizeOf5 Tryz.zeroValue5 rfl rfl (by decide) (by decide) rfl (by decide) rfl rfl rfl rfl rfl rfl ?_)))))))
  intro b1
  refine RL.p rfl (RL.appendq el_22 rfl rfl rfl rfl rfl rfl rfl ?_)
  intro ob1 cap1 ho1
  refine RL.p rfl (RL.nil (NQ.seq (CW.seq (CW.seq (CW.rg (RL.p rfl (RL.lenS Tryz.runUnderlying22 rfl rfl rfl rfl (RL.p rfl (RL.nil (NQ.seq ?_))))))))))
  refine CW.cond rfl (fun hl => ?_) (fun hl => ?_)
  ·
    have hl : 64 < key.length := by simp at hl; omega
    have hk : kk key = sha key := by rw [kk, if_pos hl]
    have hkl : (sha key).length ≤ 64 := by rw [sha_length]; omega
    refine CW.seq (CW.region (ef := [2, 3]) (bk := [3]) (RL.p rfl (RL.callvq (rof_any p cap key hb) Tryz.call271 rfl rfl rfl rfl ?_)))
    refine RL.alloc (cs := List.replicate 32 (U8 0#8)) Tryz.zeroValue50 rfl rfl rfl rfl rfl ?_
    intro b2
    refine RL.storeWq Tryz.sizeOf50 rfl rfl rfl rfl rfl rfl rfl ?_
    refine RL.nil (NQ.seq (CW.ok [1, 4, 6] rfl (CW.region (ef := [0, 2]) (bk := [2]) (RL.buildOwn [] Tryz.runUnderlying22 Tryz.sizeOf5 Tryz.zeroValue5 rfl rfl (by decide) (by decide) rfl (by decide) rfl rfl rfl rfl rfl rfl ?_))))
    intro b3
    refine RL.sliceAll Tryz.runUnderlying50 Tryz.sizeOf5 (by decide) rfl rfl rfl rfl ?_
    refine RL.appendq el_22 rfl rfl rfl rfl rfl rfl rfl ?_
    intro ob2 cap2 ho2
    refine RL.p rfl (RL.nil (NQ.seq (CW.seq (CW.block ?_))))
    refine CW.loop (γ := Nat × Option Nat × Nat) (fun g => (sha key).length + g.1 ≤ 64) (fun g => [(1, U8 x), (5, slO g.2.1 ((sha key).length + g.1) g.2.2)]) (fun _ => [])
      (fun g => [own g.2.1 g.2.2 5 1 ((sha key).length + g.1) (bytes ((sha key) ++ List.replicate g.1 0#8))]) (fun g => 64 - g.1) (0, ob2, cap2) (by simpa using hkl) (.cons rfl (.cons ((by rw [sha_length]; rfl)) .nil))
      (fun w h => by
        rw [own_is (ob := ob2) (n' := (sha key).length + 0) (xs' := bytes ((sha key) ++ List.replicate 0 0#8)) (by rw [sha_length]) (by simp)] at h
        exact h.rea (fun _ h => by cases h) (by repeat (first | exact Rea.nil | (apply Rea.cons; (solve | (repeat (first | exact Del.here | apply Del.there))))))) ?_
    rintro ⟨j, ob, c⟩ hj
    dsimp only at hj ⊢
    refine CW.seq (CW.seq (CW.rg (RL.p rfl (RL.lenS Tryz.runUnderlying22 rfl rfl rfl rfl (RL.p rfl (RL.nil (NQ.seq ?_)))))))
    refine CW.cond rfl (fun ht => ?_) (fun ht => ?_)
    ·
      refine CW.skip (NQ.seq (CW.block (CW.region (ef := [1, 2]) (bk := [2]) (RL.p rfl (RL.buildOwn [_] Tryz.runUnderlying22 Tryz.sizeOf5 Tryz.zeroValue5 rfl rfl (by decide) (by decide) rfl (by decide) rfl rfl rfl rfl rfl rfl ?_)))))
      intro b4
      refine RL.appendq el_22 rfl rfl rfl rfl rfl rfl rfl ?_
      intro ob3 cap3 ho3
      refine RL.p rfl (RL.nil (NQ.block ?_))
      have hlt : (sha key).length + j < 64 := by simp at ht; omega
      refine NQ.round (g := (j, ob, c)) (j + 1, ob3, cap3) (by show (sha key).length + (j + 1) ≤ 64; omega) (by show 64 - (j + 1) < 64 - j; omega) (.cons rfl (.cons rfl .nil)) (fun w h => ?_)
      rw [own_is (ob := ob3) (n' := (sha key).length + (j + 1)) (xs' := bytes ((sha key) ++ List.replicate (j + 1) 0#8)) (by omega) (by simp [List.replicate_succ']; rfl)] at h
      exact h.rea (fun _ h => h) (by repeat (first | exact Rea.nil | (apply Rea.cons; (solve | (repeat (first | exact Del.here | apply Del.there))))))
    ·
      have hj64 : (sha key).length + j = 64 := by simp at ht; omega
      have hpk : (sha key) ++ List.replicate j 0#8 = padK key := by rw [padK, hk, show 64 - (sha key).length = j by omega]
      rw [hpk, hj64]
      refine CW.fact (p := ob.isSome = true) (fun w hC => tellN (hC.s.h (own ob c 5 1 64 (bytes (padK key))) (by repeat (first | exact List.Mem.head _ | apply List.Mem.tail))) (by decide)) (fun hob => ?_)
      obtain ⟨b, rfl⟩ : ∃ b, ob = some b := by
        cases ob with
        | none => cases hob
        | some b => exact ⟨b, rfl⟩
      refine CW.exit (XQ.seq (XQ.seq (XQ.hit (NQ.seq (CW.seq (CW.seq (CW.rg (RL.p rfl (RL.nil (NQ.seq (CW.block ?_)))))))))))
      refine CW.loop (γ := Nat) (fun j => j ≤ 64) (fun j => [(1, U8 x), (5, slO (some b) 64 c), (7, .int .i64 (j : Int))]) (fun _ => [])
        (fun j => [own (some b) c 5 1 64 ((bytes (padB key x)).take j ++ (bytes (padK key)).drop j)]) (fun j => 64 - j) 0 (by omega) (.cons rfl (.cons rfl (.cons rfl .nil))) (fun _ h => h) ?_
      clear ht hpk hj hj64
      intro j hj
      refine CW.seq (CW.seq (CW.rg (RL.p rfl (RL.p rfl (RL.nil (NQ.seq ?_))))))
      refine CW.cond rfl (fun hlt => ?_) (fun hlt => ?_)
      ·
        refine CW.skip (NQ.seq (CW.seq (CW.block (CW.region (ef := [9]) (bk := [9]) (RL.p rfl (RL.p rfl (RL.p rfl (RL.p rfl ?_))))))))
        have hlt : j < 64 := by simp at hlt; omega
        obtain ⟨g1, g2⟩ := padB_get key x hlt
        have hmx : ((bytes (padB key x)).take j ++ (bytes (padK key)).drop j)[j * 1]? = some (U8 ((padK key).getD j 0)) := by
          have := get_mix (l1 := bytes (padK key)) (l2 := bytes (padB key x)) (n := j) (by simp [padB_len]; omega)
          rw [Nat.zero_add] at this
          rw [this]; exact g2
        refine RL.idx (j := j) (p := ⟨b, 0, none⟩) Tryz.runUnderlying22 Tryz.sizeOf5 rfl rfl rfl rfl rfl rfl hlt (RL.loadq Tryz.isAgg5 rfl rfl rfl rfl ?_)
        refine RL.p rfl (RL.bv8 (a := _) (b := _) xor8 rfl rfl rfl rfl rfl (RL.idx (j := j) (p := ⟨b, 0, none⟩) Tryz.runUnderlying22 Tryz.sizeOf5 rfl rfl rfl rfl rfl rfl hlt ?_))
        have hst : spl ((bytes (padB key x)).take j ++ (bytes (padK key)).drop j) (j * 1) [U8 ((padK key).getD j 0 ^^^ x)] = (bytes (padB key x)).take (j + 1) ++ (bytes (padK key)).drop (j + 1) := by
          have := spl_mix (l1 := bytes (padK key)) (l2 := bytes (padB key x)) (n := j) (by simp [padB_len, padK_len]) g1
          rwa [Nat.zero_add] at this
        refine RL.storeO (off := j * 1) (vs := [_]) hst Tryz.sizeOf5 rfl rfl rfl rfl rfl rfl rfl rfl rfl (by simp [padB_len, padK_len]; omega) (by repeat (first | exact Upd.here | apply Upd.there)) ?_
        refine RL.nil (NQ.block (NQ.seq (CW.ok [1, 5, 7] rfl (CW.rg (RL.p rfl (RL.bx rfl (wrapV_i64 (by omega) (by omega)) ?_))))))
        refine RL.p rfl (RL.nil ?_)
        exact NQ.round (g := j) (j + 1) hlt (by omega) (.cons rfl (.cons rfl (.cons rfl .nil))) (fun _ h => h)
      ·
        refine CW.exit (XQ.seq (XQ.seq (XQ.hit (NQ.seq (CW.seq (CW.rg (RL.p rfl (RL.p rfl (RL.nil (NQ.seq (CW.ok [4] rfl (CW.ret ?_))))))))))))
        have hj64 : j = 64 := by simp at hlt; omega
        subst hj64
        rw [List.take_of_length_le (by simp [padB_len]), List.drop_of_length_le (by simp [padK_len]), List.append_nil]
        exact RQ.post (res1 rfl rfl) (.keep .nil) ⟨_, _, by rw [padB_len], rfl, by rw [padB_len], .inr rfl⟩
  ·
    have hl : ¬ 64 < key.length := by simp at hl; omega
    have hk : kk key = key := by rw [kk, if_neg hl]
    have hkl : key.length ≤ 64 := by omega
    rw [Nat.zero_add]
    refine CW.skip (NQ.seq (CW.ok [1, 5] rfl (CW.seq (CW.block ?_))))
    refine CW.loop (γ := Nat × Option Nat × Nat) (fun g => key.length + g.1 ≤ 64) (fun g => [(1, U8 x), (5, slO g.2.1 (key.length + g.1) g.2.2)]) (fun _ => [])
      (fun g => [own g.2.1 g.2.2 5 1 (key.length + g.1) (bytes (key ++ List.replicate g.1 0#8))]) (fun g => 64 - g.1) (0, ob1, cap1) (by simpa using hkl) (.cons rfl (.cons (rfl) .nil))
      (fun w h => by
        rw [own_is (ob := ob1) (n' := key.length + 0) (xs' := bytes (key ++ List.replicate 0 0#8)) (by omega) (by simp)] at h
        exact h.rea (fun _ h => by cases h) (by repeat (first | exact Rea.nil | (apply Rea.cons; (solve | (repeat (first | exact Del.here | apply Del.there))))))) ?_
    rintro ⟨j, ob, c⟩ hj
    dsimp only at hj ⊢
    refine CW.seq (CW.seq (CW.rg (RL.p rfl (RL.lenS Tryz.runUnderlying22 rfl rfl rfl rfl (RL.p rfl (RL.nil (NQ.seq ?_)))))))
    refine CW.cond rfl (fun ht => ?_) (fun ht => ?_)
    ·
      refine CW.skip (NQ.seq (CW.block (CW.region (ef := [1, 2]) (bk := [2]) (RL.p rfl (RL.buildOwn [_] Tryz.runUnderlying22 Tryz.sizeOf5 Tryz.zeroValue5 rfl rfl (by decide) (by decide) rfl (by decide) rfl rfl rfl rfl rfl rfl ?_)))))
      intro b2
      refine RL.appendq el_22 rfl rfl rfl rfl rfl rfl rfl ?_
      intro ob2 cap2 ho2
      refine RL.p rfl (RL.nil (NQ.block ?_))
      have hlt : key.length + j < 64 := by simp at ht; omega
      refine NQ.round (g := (j, ob, c)) (j + 1, ob2, cap2) (by show key.length + (j + 1) ≤ 64; omega) (by show 64 - (j + 1) < 64 - j; omega) (.cons rfl (.cons rfl .nil)) (fun w h => ?_)
      rw [own_is (ob := ob2) (n' := key.length + (j + 1)) (xs' := bytes (key ++ List.replicate (j + 1) 0#8)) (by omega) (by simp [List.replicate_succ']; rfl)] at h
      exact h.rea (fun _ h => h) (by repeat (first | exact Rea.nil | (apply Rea.cons; (solve | (repeat (first | exact Del.here | apply Del.there))))))
    ·
      have hj64 : key.length + j = 64 := by simp at ht; omega
      have hpk : key ++ List.replicate j 0#8 = padK key := by rw [padK, hk, show 64 - key.length = j by omega]
      rw [hpk, hj64]
      refine CW.fact (p := ob.isSome = true) (fun w hC => tellN (hC.s.h (own ob c 5 1 64 (bytes (padK key))) (by repeat (first | exact List.Mem.head _ | apply List.Mem.tail))) (by decide)) (fun hob => ?_)
      obtain ⟨b, rfl⟩ : ∃ b, ob = some b := by
        cases ob with
        | none => cases hob
        | some b => exact ⟨b, rfl⟩
      refine CW.exit (XQ.seq (XQ.seq (XQ.hit (NQ.seq (CW.seq (CW.seq (CW.rg (RL.p rfl (RL.nil (NQ.seq (CW.block ?_)))))))))))
      refine CW.loop (γ := Nat) (fun j => j ≤ 64) (fun j => [(1, U8 x), (5, slO (some b) 64 c), (7, .int .i64 (j : Int))]) (fun _ => [])
        (fun j => [own (some b) c 5 1 64 ((bytes (padB key x)).take j ++ (bytes (padK key)).drop j)]) (fun j => 64 - j) 0 (by omega) (.cons rfl (.cons rfl (.cons rfl .nil))) (fun _ h => h) ?_
      clear ht hpk hj hj64
      intro j hj
      refine CW.seq (CW.seq (CW.rg (RL.p rfl (RL.p rfl (RL.nil (NQ.seq ?_))))))
      refine CW.cond rfl (fun hlt => ?_) (fun hlt => ?_)
      ·
        refine CW.skip (NQ.seq (CW.seq (CW.block (CW.region (ef := [9]) (bk := [9]) (RL.p rfl (RL.p rfl (RL.p rfl (RL.p rfl ?_))))))))
        have hlt : j < 64 := by simp at hlt; omega
        obtain ⟨g1, g2⟩ := padB_get key x hlt
        have hmx : ((bytes (padB key x)).take j ++ (bytes (padK key)).drop j)[j * 1]? = some (U8 ((padK key).getD j 0)) := by
          have := get_mix (l1 := bytes (padK key)) (l2 := bytes (padB key x)) (n := j) (by simp [padB_len]; omega)
          rw [Nat.zero_add] at this
          rw [this]; exact g2
        refine RL.idx (j := j) (p := ⟨b, 0, none⟩) Tryz.runUnderlying22 Tryz.sizeOf5 rfl rfl rfl rfl rfl rfl hlt (RL.loadq Tryz.isAgg5 rfl rfl rfl rfl ?_)
        refine RL.p rfl (RL.bv8 (a := _) (b := _) xor8 rfl rfl rfl rfl rfl (RL.idx (j := j) (p := ⟨b, 0, none⟩) Tryz.runUnderlying22 Tryz.sizeOf5 rfl rfl rfl rfl rfl rfl hlt ?_))
        have hst : spl ((bytes (padB key x)).take j ++ (bytes (padK key)).drop j) (j * 1) [U8 ((padK key).getD j 0 ^^^ x)] = (bytes (padB key x)).take (j + 1) ++ (bytes (padK key)).drop (j + 1) := by
          have := spl_mix (l1 := bytes (padK key)) (l2 := bytes (padB key x)) (n := j) (by simp [padB_len, padK_len]) g1
          rwa [Nat.zero_add] at this
        refine RL.storeO (off := j * 1) (vs := [_]) hst Tryz.sizeOf5 rfl rfl rfl rfl rfl rfl rfl rfl rfl (by simp [padB_len, padK_len]; omega) (by repeat (first | exact Upd.here | apply Upd.there)) ?_
        refine RL.nil (NQ.block (NQ.seq (CW.ok [1, 5, 7] rfl (CW.rg (RL.p rfl (RL.bx rfl (wrapV_i64 (by omega) (by omega)) ?_))))))
        refine RL.p rfl (RL.nil ?_)
        exact NQ.round (g := j) (j + 1) hlt (by omega) (.cons rfl (.cons rfl (.cons rfl .nil))) (fun _ h => h)
      ·
        refine CW.exit (XQ.seq (XQ.seq (XQ.hit (NQ.seq (CW.seq (CW.rg (RL.p rfl (RL.p rfl (RL.nil (NQ.seq (CW.ok [4] rfl (CW.ret ?_))))))))))))
        have hj64 : j = 64 := by simp at hlt; omega
        subst hj64
        rw [List.take_of_length_le (by simp [padB_len]), List.drop_of_length_le (by simp [padK_len]), List.append_nil]
        exact RQ.post (res1 rfl rfl) (.keep .nil) ⟨_, _, by rw [padB_len], rfl, by rw [padB_len], .inr rfl⟩
end Go.Proofs.YthgjgeapfndeeaaGreatDoor

namespace Go.Proofs.YthgjgeapfndeeaaGreatDoor
open Go.PK

def macTag (key b : List B8) : List B8 := (macCode key b).take 16
theorem macTag_len (key b : List B8) : (macTag key b).length = 16 := by simp [macTag, macCode_len]

theorem bytes_take (l : List B8) (n : Nat) : (bytes l).take n = bytes (l.take n) := (List.map_take (f := U8)).symm

theorem rcode_any (p : Option Addr) (kcap : Nat) (key : List B8) (hkb : key.length ≤ 1000000000) (q : Option Addr) (cap : Nat) (b : List B8) (hb : b.length ≤ 100000000) :
    Spc Tryz.prog 185 #[.slice p key.length kcap, .slice q b.length cap] [sls p 1 key.length (bytes key), sls q 1 b.length (bytes b)] [] (Is (.agg (bytes (macCode key b)).toArray)) := by
  have l54 := padB_len key 54#8
  have l92 := padB_len key 92#8
  refine Spc.enter Tryz.func185 rfl rfl rfl (fun w0 hw0 => ?_)
  refine CW.seq (CW.region (ef := [0]) (bk := []) (RL.alloc (cs := List.replicate 32 (U8 0#8)) Tryz.zeroValue50 rfl rfl rfl rfl rfl ?_))
  intro b1
  refine RL.nil (NQ.seq (CW.seq (CW.region (ef := [1, 3, 4, 5, 6]) (bk := [3, 6]) (RL.p rfl (RL.call (rpad_any p kcap key hkb 54#8) Tryz.call272 rfl rfl rfl rfl rfl (by repeat (first | exact Pick.nil | apply Pick.take | apply Pick.leave)) (.inI (by repeat (first | exact List.Mem.head _ | apply List.Mem.tail)) .nil) (.inl rfl) ?_)))))
  rintro _ _ _ ⟨obA, cA, rfl, rfl, rfl, hoA⟩
  refine RL.p rfl (RL.appendq el_22 rfl rfl rfl rfl rfl rfl rfl ?_)
  intro ob1 cap1 ho1
  rw [own_is (ob := ob1) (n' := (padB key 54#8 ++ b).length) (xs' := bytes (padB key 54#8 ++ b)) (List.length_append).symm (List.map_append (f := U8)).symm, ← List.length_append]
  refine RL.callv (rof_any (ob1.map fun b => ⟨b, 0, none⟩) cap1 (padB key 54#8 ++ b) (by rw [List.length_append]; omega)) Tryz.call271 rfl rfl rfl rfl (Lend.own (by repeat (first | exact List.Mem.head _ | apply List.Mem.tail)) .nil) ?_
  refine RL.alloc (cs := List.replicate 32 (U8 0#8)) Tryz.zeroValue50 rfl rfl rfl rfl rfl ?_
  intro b2
  refine RL.storeWq Tryz.sizeOf50 rfl rfl rfl rfl rfl rfl rfl ?_
  refine RL.nil (NQ.seq (CW.ok [0, 4, 5] rfl (CW.seq (CW.regionD (Sq.of [0, 2, 1, 3, 4, 5]) [1, 3, 5] [3, 5] [0, 2] mixed (by kernel_rfl) ?_))))
  refine RL.p rfl (RL.sliceAll Tryz.runUnderlying50 Tryz.sizeOf5 (by decide) rfl rfl rfl rfl ?_)
  refine RL.call (rpad_any p kcap key hkb 92#8) Tryz.call272 rfl rfl rfl rfl rfl (by repeat (first | exact Pick.nil | apply Pick.take | apply Pick.leave)) (.inI (by repeat (first | exact List.Mem.head _ | apply List.Mem.tail)) .nil) (.inl rfl) ?_
  rintro _ _ _ ⟨obB, cB, rfl, rfl, rfl, hoB⟩
  refine RL.appendq el_22 rfl rfl rfl rfl rfl rfl rfl ?_
  intro ob2 cap2 ho2
  rw [own_is (ob := ob2) (n' := (padB key 92#8 ++ sha (padB key 54#8 ++ b)).length) (xs' := bytes (padB key 92#8 ++ sha (padB key 54#8 ++ b))) (by rw [List.length_append, sha_length]) (List.map_append (f := U8)).symm,
    show (padB key 92#8).length + 32 = (padB key 92#8 ++ sha (padB key 54#8 ++ b)).length by rw [List.length_append, sha_length]]
  refine RL.callv (rof_any (ob2.map fun b => ⟨b, 0, none⟩) cap2 (padB key 92#8 ++ sha (padB key 54#8 ++ b)) (by rw [List.length_append, sha_length]; omega)) Tryz.call271 rfl rfl rfl rfl (Lend.own (by repeat (first | exact List.Mem.head _ | apply List.Mem.tail)) .nil) ?_
  refine RL.storeWq Tryz.sizeOf50 rfl rfl rfl rfl rfl rfl rfl ?_
  refine RL.nil (NQ.seq (CW.ok [4] rfl (CW.ret ?_)))
  exact RQ.post (resW rfl rfl Tryz.isAgg50 Tryz.sizeOf50 (by repeat (first | exact List.Mem.head _ | apply List.Mem.tail)) (by first | rfl | assumption | (simp only [List.length_map]; assumption) | (simp only [List.length_map, List.length_replicate, padK_len, padB_len, sha_length, dig_length, macCode_len, macTag_len]; done) | (simp; done))) (Split.none _) ⟨rfl, rfl, rfl⟩
theorem rcode_n (p : Option Addr) (n kcap : Nat) (key : List B8) (hk : key.length = n) (hkb : n ≤ 1000000000) (q : Option Addr) (m cap : Nat) (b : List B8) (hm : b.length = m) (hb : m ≤ 100000000) :
    Spc Tryz.prog 185 #[.slice p n kcap, .slice q m cap] [sls p 1 n (bytes key), sls q 1 m (bytes b)] [] (Is (.agg (bytes (macCode key b)).toArray)) := by
  subst hk; subst hm; exact rcode_any p kcap key hkb q cap b hb

theorem tag_any (k : List B8) (hk : k.length = 32) (pp : Option Addr) (qn cap : Nat) (qs : List Part) (hq : qs.length = qn) (hn : qn ≤ 1000000) (hb : (joined qs).length ≤ 100000000) :
    Spc Tryz.prog 428 #[.agg (bytes k).toArray, .slice pp qn cap] (sls pp 1 qn (qs.map Part.v) :: qs.map Part.i) [] (Is (.agg (bytes (macTag k (joined qs))).toArray)) := by
  refine Spc.enter Tryz.func428 rfl rfl rfl (fun w0 hw0 => ?_)
  refine CW.seq (CW.region (ef := [0, 1]) (bk := []) (RL.box rfl rfl rfl rfl rfl rfl ?_))
  intro b1
  refine RL.alloc Tryz.zeroValue145 rfl rfl rfl rfl rfl ?_
  intro b2
  refine RL.nil (NQ.seq (CW.seq (CW.region (ef := [3, 4]) (bk := [4]) (RL.sliceAll Tryz.runUnderlying32 Tryz.sizeOf5 (by decide) rfl rfl rfl rfl ?_))))
  refine RL.p rfl (RL.callv (code_n (some ⟨b1, 0, none⟩) 32 32 k hk (by decide) pp qn cap qs hq hn hb) Tryz.call483 rfl rfl rfl rfl (Lend.all (by repeat (first | exact List.Mem.head _ | apply List.Mem.tail)) (by simp [hk]) (Lend.many (fun _ h => h))) ?_)
  refine RL.alloc (cs := List.replicate 32 (U8 0#8)) Tryz.zeroValue50 rfl rfl rfl rfl rfl ?_
  intro b3
  refine RL.storeWq Tryz.sizeOf50 rfl rfl rfl rfl rfl rfl rfl ?_
  refine RL.nil (NQ.seq (CW.ok [4, 5] rfl (CW.seq (CW.region (ef := [3]) (bk := [3]) (RL.sliceA (lo := 0) (hi := 16) Tryz.runUnderlying50 Tryz.sizeOf5 rfl rfl rfl rfl rfl rfl (by decide) (by decide) (by decide) ?_)))))
  refine RL.toArr Tryz.runUnderlying145 rfl rfl rfl rfl (by first | decide | omega) ?_
  refine RL.loadP (off := 0) Tryz.isAgg145 Tryz.sizeOf145 rfl rfl rfl rfl (cs := bytes (macCode k (joined qs))) (by repeat (first | exact List.Mem.head _ | apply List.Mem.tail)) (by simp [macCode_len]) ?_
  refine RL.storeWq Tryz.sizeOf145 rfl rfl rfl rfl rfl rfl rfl ?_
  refine RL.nil (NQ.seq (CW.ret ?_))
  rw [show ((bytes (macCode k (joined qs))).drop 0).take 16 = bytes (macTag k (joined qs)) by rw [List.drop_zero, macTag, bytes_take]]
  exact RQ.post (resW rfl rfl Tryz.isAgg145 Tryz.sizeOf145 (by repeat (first | exact List.Mem.head _ | apply List.Mem.tail)) (by first | rfl | assumption | (simp only [List.length_map]; assumption) | (simp only [List.length_map, List.length_replicate, padK_len, padB_len, sha_length, dig_length, macCode_len, macTag_len]; done) | (simp; done))) (Split.none _) ⟨rfl, rfl, rfl⟩

theorem rtag_any (k : List B8) (hk : k.length = 32) (q : Option Addr) (m cap : Nat) (b : List B8) (hm : b.length = m) (hb : m ≤ 100000000) :
    Spc Tryz.prog 97 #[.agg (bytes k).toArray, .slice q m cap] [sls q 1 m (bytes b)] [] (Is (.agg (bytes (macTag k b)).toArray)) := by
  refine Spc.enter Tryz.func97 rfl rfl rfl (fun w0 hw0 => ?_)
  refine CW.seq (CW.region (ef := [0, 1]) (bk := []) (RL.box rfl rfl rfl rfl rfl rfl ?_))
  intro b1
  refine RL.alloc Tryz.zeroValue145 rfl rfl rfl rfl rfl ?_
  intro b2
  refine RL.nil (NQ.seq (CW.seq (CW.region (ef := [3, 4]) (bk := [4]) (RL.sliceAll Tryz.runUnderlying32 Tryz.sizeOf5 (by decide) rfl rfl rfl rfl ?_))))
  refine RL.p rfl (RL.callv (rcode_n (some ⟨b1, 0, none⟩) 32 32 k hk (by decide) q m cap b hm hb) Tryz.call185 rfl rfl rfl rfl (Lend.all (by repeat (first | exact List.Mem.head _ | apply List.Mem.tail)) (by simp [hk]) (Lend.many (fun _ h => h))) ?_)
  refine RL.alloc (cs := List.replicate 32 (U8 0#8)) Tryz.zeroValue50 rfl rfl rfl rfl rfl ?_
  intro b3
  refine RL.storeWq Tryz.sizeOf50 rfl rfl rfl rfl rfl rfl rfl ?_
  refine RL.nil (NQ.seq (CW.ok [4, 5] rfl (CW.seq (CW.region (ef := [1, 2]) (bk := [2]) (RL.buildA _ Tryz.zeroValue145 Tryz.runUnderlying145 Tryz.sizeOf5 rfl rfl rfl rfl rfl (RL.alloc Tryz.zeroValue145 rfl rfl rfl rfl rfl ?_))))))
  intro b4
  refine RL.storeWq Tryz.sizeOf145 rfl rfl rfl rfl rfl rfl rfl ?_
  refine RL.nil (NQ.seq (CW.seq (CW.seq (CW.rg (RL.p rfl (RL.nil (NQ.seq (CW.block ?_))))))))
  refine CW.loop (γ := Nat) (fun i => i ≤ 16) (fun i => [(4, .pointer (some ⟨b2, 0, none⟩)), (5, .pointer (some ⟨b3, 0, none⟩)), (6, .pointer (some ⟨b4, 0, none⟩)), (7, .int .i64 (i : Int))]) (fun _ => [])
    (fun i => [cel b4 ((bytes (macTag k b)).take i ++ (List.replicate 16 (U8 0#8)).drop i) 145, cel b3 (bytes (macCode k b)) 50, cel b2 (List.replicate 16 (U8 0#8)) 145]) (fun i => 16 - i) 0 (by omega)
    (.cons rfl (.cons rfl (.cons rfl (.cons rfl .nil)))) (fun _ h => h.rea (fun _ h => by cases h) (by repeat (first | exact Rea.nil | (apply Rea.cons; (solve | (repeat (first | exact Del.here | apply Del.there))))))) ?_
  intro i hi
  have l1 := macTag_len k b
  have l2 := macCode_len k b
  refine CW.seq (CW.seq (CW.rg (RL.p rfl (RL.p rfl (RL.nil (NQ.seq ?_))))))
  refine CW.cond rfl (fun hlt => ?_) (fun hlt => ?_)
  ·
    refine CW.skip (NQ.seq (CW.seq (CW.block (CW.region (ef := [5]) (bk := [5]) (RL.p rfl (RL.p rfl ?_))))))
    have hlt : i < 16 := by simp at hlt; omega
    have g1 : (bytes (macCode k b))[0 + i * 1]? = some (U8 ((macCode k b).getD i 0)) := by rw [Nat.zero_add, Nat.mul_one]; exact bytes_get (by omega)
    have g2 : (bytes (macTag k b))[i]? = some (U8 ((macCode k b).getD i 0)) := by
      rw [macTag, ← bytes_take, List.getElem?_take, if_pos hlt]; exact bytes_get (by omega)
    refine RL.idxAAt (j := i) Tryz.runUnderlying50 Tryz.sizeOf5 rfl rfl rfl rfl rfl rfl (by omega) ?_
    refine RL.loadq Tryz.isAgg5 rfl rfl rfl rfl ?_
    refine RL.idxAAt (j := i) Tryz.runUnderlying145 Tryz.sizeOf5 rfl rfl rfl rfl rfl rfl hlt (RL.storeX (cs' := (bytes (macTag k b)).take (i + 1) ++ (List.replicate 16 (U8 0#8)).drop (i + 1)) (vs := [_]) (spl_mix (by simp [macTag_len]) g2) Tryz.sizeOf5 rfl rfl rfl rfl rfl rfl rfl rfl (by repeat (first | exact Upd.here | apply Upd.there)) (by simp [macTag_len]; omega) ?_)
    refine RL.nil (NQ.block (NQ.seq (CW.ok [4, 5, 6, 7] rfl (CW.rg (RL.p rfl (RL.bx rfl (wrapV_i64 (by omega) (by omega)) ?_))))))
    refine RL.p rfl (RL.nil ?_)
    exact NQ.round (g := i) (i + 1) hlt (by omega) (.cons rfl (.cons rfl (.cons rfl (.cons rfl .nil)))) (fun _ h => h)
  ·
    have hi16 : i = 16 := by simp at hlt; omega
    subst hi16
    rw [List.take_of_length_le (by simp [macTag_len]), List.drop_of_length_le (by simp), List.append_nil]
    refine CW.exit (XQ.seq (XQ.seq (XQ.hit (NQ.seq (CW.seq (CW.region (ef := [1]) (bk := [1]) (RL.loadW Tryz.isAgg145 Tryz.sizeOf145 rfl rfl rfl rfl (by repeat (first | exact List.Mem.head _ | apply List.Mem.tail)) (by first | rfl | assumption | (simp only [List.length_map]; assumption) | (simp only [List.length_map, List.length_replicate, padK_len, padB_len, sha_length, dig_length, macCode_len, macTag_len]; done) | (simp; done)) ?_)))))))
    refine RL.storeWq Tryz.sizeOf145 rfl rfl rfl rfl rfl rfl rfl ?_
    refine RL.nil (NQ.seq (CW.ok [4] rfl (CW.ret ?_)))
    exact RQ.post (resW rfl rfl Tryz.isAgg145 Tryz.sizeOf145 (by repeat (first | exact List.Mem.head _ | apply List.Mem.tail)) (by first | rfl | assumption | (simp only [List.length_map]; assumption) | (simp only [List.length_map, List.length_replicate, padK_len, padB_len, sha_length, dig_length, macCode_len, macTag_len]; done) | (simp; done))) (Split.none _) ⟨rfl, rfl, rfl⟩

def oddN (a b : List B8) : Nat → B8
  | 0 => 0#8
  | j + 1 => oddN a b j ||| (a.getD j 0 ^^^ b.getD j 0)
theorem odd_zero (a b : List B8) : ∀ j, oddN a b j = 0#8 ↔ ∀ i, i < j → a.getD i 0 = b.getD i 0
  | 0 => by simp [oddN]
  | j + 1 => by
    rw [oddN, BitVec.or_eq_zero_iff, odd_zero a b j, BitVec.xor_eq_zero_iff]
    constructor
    · rintro ⟨h1, h2⟩ i hi
      by_cases he : i = j
      · subst he; exact h2
      · exact h1 i (by omega)
    · intro h
      exact ⟨fun i hi => h i (by omega), h j (by omega)⟩
theorem odd_same (a b : List B8) (hl : a.length = b.length) : (((oddN a b a.length).toNat : Int) == 0) = (a == b) := by
  have h1 : (((oddN a b a.length).toNat : Int) == 0) = true ↔ oddN a b a.length = 0#8 := by
    rw [beq_iff_eq]
    constructor
    · intro h; apply BitVec.eq_of_toNat_eq; simp at h ⊢; omega
    · intro h; rw [h]; rfl
  rw [Bool.eq_iff_iff, h1, odd_zero, beq_iff_eq]
  constructor
  · intro h
    apply List.ext_getElem hl
    intro i h1 h2
    have := h i h1
    rw [List.getD_eq_getElem?_getD, List.getD_eq_getElem?_getD] at this
    simpa [h1, h2] using this
  · rintro rfl i _; rfl
theorem sls_some {p : Option Addr} {n : Nat} (h : p = none → n = 0) (hn : n ≠ 0) : ∃ a, p = some a := by
  cases p with
  | none => exact absurd (h rfl) hn
  | some a => exact ⟨a, rfl⟩

theorem equal_any (p q : Option Addr) (n m c1 c2 : Nat) (a b : List B8) (hn : a.length = n) (hm : b.length = m) (hb : n ≤ 1000000000) :
    Spc Tryz.prog 281 #[.slice p n c1, .slice q m c2] [sls p 1 n (bytes a), sls q 1 m (bytes b)] [] (Is (.bool (a == b))) := by
  subst hn; subst hm
  refine Spc.enter Tryz.func281 rfl rfl rfl (fun w0 hw0 => ?_)
  refine CW.seq (CW.rg (RL.p rfl (RL.nil (NQ.seq (CW.seq (CW.seq (CW.rg (RL.p rfl (RL.lenS Tryz.runUnderlying22 rfl rfl rfl rfl (RL.p rfl (RL.lenS Tryz.runUnderlying22 rfl rfl rfl rfl (RL.p rfl (RL.nil ?_)))))))))))))
  refine NQ.seq ?_
  refine CW.cond rfl (fun hne => ?_) (fun hne => ?_)
  ·
    refine CW.seq (CW.rg (RL.p rfl (RL.nil (NQ.seq (CW.ret (RQ.seq ?_))))))
    have hne : a ≠ b := fun h => by subst h; simp at hne
    exact RQ.post (res1 rfl rfl) (Split.none _) ⟨by simp [hne], rfl, rfl⟩
  ·
    have hl : a.length = b.length := by simp at hne; omega
    refine CW.fact (p := (p = none → a.length = 0) ∧ (q = none → b.length = 0)) (fun w hC => ⟨fun e => sls_nil (hC.s.i (sls p 1 a.length (bytes a)) (by repeat (first | exact List.Mem.head _ | apply List.Mem.tail))) e, fun e => sls_nil (hC.s.i (sls q 1 b.length (bytes b)) (by repeat (first | exact List.Mem.head _ | apply List.Mem.tail))) e⟩) (fun hpq => ?_)
    refine CW.skip (NQ.seq (CW.ok [0, 1] rfl (CW.seq (CW.rg (RL.p rfl (RL.nil (NQ.seq (CW.seq (CW.seq (CW.rg (RL.p rfl (RL.lenS Tryz.runUnderlying22 rfl rfl rfl rfl (RL.p rfl ?_)))))))))))))
    refine RL.nil (NQ.seq (CW.block ?_))
    refine CW.loop (γ := Nat) (fun i => i ≤ a.length) (fun i => [(1, .slice q b.length c2), (5, U8 (oddN a b i)), (13, .slice p a.length c1), (14, .int .i64 (a.length : Int)), (15, .int .i64 (i : Int))])
      (fun _ => [sls p 1 a.length (bytes a), sls q 1 b.length (bytes b)]) (fun _ => []) (fun i => a.length - i) 0 (by omega) (.cons rfl (.cons rfl (.cons rfl (.cons rfl (.cons rfl .nil))))) (fun _ h => h) ?_
    intro i hi
    refine CW.seq (CW.rg (RL.p rfl (RL.nil (NQ.seq (CW.seq ?_)))))
    refine CW.cond rfl (fun hlt => ?_) (fun hlt => ?_)
    ·
      refine CW.skip (NQ.seq (CW.seq (CW.block (CW.seq (CW.rg (RL.p rfl ?_))))))
      have hlt : i < a.length := by simp at hlt; omega
      obtain ⟨pa, rfl⟩ := sls_some hpq.1 (by omega)
      obtain ⟨qa, rfl⟩ := sls_some hpq.2 (by omega)
      have g1 : (bytes a)[i * 1]? = some (U8 (a.getD i 0)) := by rw [Nat.mul_one]; exact bytes_get hlt
      have g2 : (bytes b)[i * 1]? = some (U8 (b.getD i 0)) := by rw [Nat.mul_one]; exact bytes_get (by omega)
      refine RL.idx (j := i) Tryz.runUnderlying22 Tryz.sizeOf5 rfl rfl rfl rfl rfl rfl hlt (RL.load Tryz.isAgg5 rfl rfl rfl rfl (Rd.getS (List.Mem.head _) g1) (RL.p rfl (RL.p rfl (RL.nil (NQ.seq (CW.rg (RL.p rfl (RL.p rfl (RL.p rfl (RL.p rfl (RL.idx (j := i) Tryz.runUnderlying22 Tryz.sizeOf5 rfl rfl rfl rfl rfl rfl (by omega) ?_)))))))))))
      refine RL.load Tryz.isAgg5 rfl rfl rfl rfl (Rd.getS (List.Mem.tail _ (List.Mem.head _)) g2) (RL.bv8 (a := _) (b := _) xor8 rfl rfl rfl rfl rfl (RL.bv8 (a := _) (b := _) or8 rfl rfl rfl rfl rfl (RL.p rfl (RL.nil (NQ.block (NQ.seq (CW.ok [1, 5, 13, 14, 15] rfl (CW.rg (RL.bx rfl (wrapV_i64 (by omega) (by omega)) ?_)))))))))
      refine RL.p rfl (RL.nil ?_)
      exact NQ.round (g := i) (i + 1) hlt (by omega) (.cons rfl (.cons rfl (.cons rfl (.cons rfl (.cons rfl .nil))))) (fun _ h => h)
    ·
      refine CW.exit (XQ.seq (XQ.seq (XQ.hit (NQ.seq (CW.seq (CW.rg (RL.p rfl (RL.p rfl (RL.p rfl (RL.nil (NQ.seq (CW.ok [4] rfl (CW.ret ?_)))))))))))))
      have hil : i = a.length := by simp at hlt; omega
      subst hil
      exact RQ.post (res1 rfl rfl) (Split.none _) ⟨by rw [← odd_same a b hl], rfl, rfl⟩

theorem right_any (k : List B8) (hk : k.length = 32) (tg : List B8) (ht : tg.length = 16) (pp : Option Addr) (qn cap : Nat) (qs : List Part) (hq : qs.length = qn) (hn : qn ≤ 1000000) (hb : (joined qs).length ≤ 100000000) :
    Spc Tryz.prog 362 #[.agg (bytes k).toArray, .agg (bytes tg).toArray, .slice pp qn cap] (sls pp 1 qn (qs.map Part.v) :: qs.map Part.i) [] (Is (.bool (tg == macTag k (joined qs)))) := by
  refine Spc.enter Tryz.func362 rfl rfl rfl (fun w0 hw0 => ?_)
  refine CW.seq (CW.region (ef := [0, 1]) (bk := []) (RL.box rfl rfl rfl rfl rfl rfl ?_))
  intro b1
  refine RL.box rfl rfl rfl rfl rfl rfl ?_
  intro b2
  refine RL.p rfl (RL.nil (NQ.seq (CW.seq (CW.region (ef := [3, 4]) (bk := [4]) (RL.loadW Tryz.isAgg32 Tryz.sizeOf32 rfl rfl rfl rfl (by repeat (first | exact List.Mem.head _ | apply List.Mem.tail)) (by first | rfl | assumption | (simp only [List.length_map]; assumption) | (simp only [List.length_map, List.length_replicate, padK_len, padB_len, sha_length, dig_length, macCode_len, macTag_len]; done) | (simp; done)) ?_)))))
  refine RL.p rfl (RL.callv (tag_any k hk pp qn cap qs hq hn hb) Tryz.call428 rfl rfl rfl rfl (Lend.many (fun _ h => h)) ?_)
  refine RL.alloc Tryz.zeroValue145 rfl rfl rfl rfl rfl ?_
  intro b3
  refine RL.storeWq Tryz.sizeOf145 rfl rfl rfl rfl rfl rfl rfl ?_
  refine RL.nil (NQ.seq (CW.ok [4, 7] rfl (CW.seq (CW.regionD (Sq.of [0, 1, 2, 3]) [] [] [0, 1, 3] mixed (by kernel_rfl) ?_))))
  refine RL.sliceAll Tryz.runUnderlying145 Tryz.sizeOf5 (by decide) rfl rfl rfl rfl ?_
  refine RL.sliceAll Tryz.runUnderlying145 Tryz.sizeOf5 (by decide) rfl rfl rfl rfl ?_
  refine RL.callv (equal_any (some ⟨b2, 0, none⟩) (some ⟨b3, 0, none⟩) 16 16 16 16 tg (macTag k (joined qs)) ht (macTag_len _ _) (by decide)) Tryz.call281 rfl rfl rfl rfl (Lend.all (by repeat (first | exact List.Mem.head _ | apply List.Mem.tail)) (by simp [ht]) (Lend.all (by repeat (first | exact List.Mem.head _ | apply List.Mem.tail)) (by simp [macTag_len]) .nil)) ?_
  refine RL.p rfl (RL.nil (NQ.seq (CW.ret ?_)))
  exact RQ.post (res1 rfl rfl) (Split.none _) ⟨rfl, rfl, rfl⟩
end Go.Proofs.YthgjgeapfndeeaaGreatDoor
