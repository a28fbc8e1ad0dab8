import Derived.Test.YthndhipjfdgdfaaGreatDoorWB
import Derived.Test.YthndhipjfdgdfaaGreatDoorRA
import Derived.Test.YthndhipjfdgdfaaGreatDoorOwnT
set_option linter.unusedVariables false
set_option linter.unusedSimpArgs false
namespace Go.Proofs.YthndhipjfdgdfaaGreatDoor
open Go.PK
/-! ### The reference cuts a text -/
theorem spl_stay {c x : B8} (cur r : Tx) (h : x ≠ c) : preL cur (splL c (x :: r)) = preL (cur ++ [x]) (splL c r) := by
  rw [splL, if_neg h]
  have hne := splL_ne (c := c) r
  revert hne
  cases splL c r with
  | nil => intro h; exact absurd rfl h
  | cons a t => intro _; simp [preL]
theorem spl_cut {c : B8} (cur r : Tx) : preL cur (splL c (c :: r)) = cur :: splL c r := by rw [splL, if_pos rfl]; simp [preL]
theorem preL_nil {L : List Tx} (h : L ≠ []) : preL [] L = L := by
  cases L with
  | nil => exact absurd rfl h
  | cons a t => rfl
def SpO (L : List Tx) : Value → List It → List It → Prop := fun v I' H' => ∃ ob cap, v = slO ob L.length cap ∧ I' = [] ∧ H' = [own ob cap 9 1 L.length (L.map strV)]
theorem rspl_any (c : B8) (s : Tx) (hs : s.length < 4294967281) : Spc Tryz.prog 49 #[strV s, U8 c] [] [] (SpO (splL c s)) := by
  refine Spc.enter Tryz.func49 rfl rfl rfl (fun w0 hw0 => ?_)
  refine CW.seq (CW.rg (RL.p rfl (RL.nil (NQ.seq (CW.seq (CW.region (ef := [0]) (bk := []) (RL.buildOwn [] Tryz.runUnderlying62 Tryz.sizeOf9 Tryz.zeroValue9 rfl rfl (by decide) (by decide) rfl (by decide) rfl rfl rfl rfl rfl rfl ?_)))))))
  intro b1
  refine RL.p rfl (RL.nil (NQ.seq (CW.seq (CW.rg (RL.p rfl (RL.nil (NQ.seq (CW.seq (CW.seq (CW.rg (RL.p rfl (RL.nil (NQ.seq ?_)))))))))))))
  refine CW.block (CW.loop (γ := Nat × Nat × List Tx × Option Nat × Nat) (fun g => (g.1 ≤ s.length ∧ g.2.1 ≤ g.1 ∧ g.2.2.1.length ≤ g.2.1) ∧ g.2.2.1 ++ preL ((s.drop g.2.1).take (g.1 - g.2.1)) (splL c (s.drop g.1)) = splL c s) (fun g => [(0, strV s), (1, U8 c), (5, slO g.2.2.2.1 g.2.2.1.length g.2.2.2.2), (6, .int .i64 (g.2.1 : Int)), (7, .int .i64 (g.1 : Int))]) (fun _ => []) (fun g => [own g.2.2.2.1 g.2.2.2.2 9 1 g.2.2.1.length (g.2.2.1.map strV)]) (fun g => s.length - g.1) (0, 0, [], some b1, 0) ⟨⟨Nat.zero_le _, Nat.le_refl _, Nat.le_refl _⟩, by simp [preL_nil (splL_ne s)]⟩ (.cons rfl (.cons rfl (.cons rfl (.cons rfl (.cons rfl .nil))))) (fun w h => h) ?_)
  rintro ⟨i, fr, out, ob, cp⟩ ⟨⟨hi, hf, hol⟩, hinv⟩
  dsimp only at hi hf hol hinv ⊢
  refine CW.seq (CW.seq (CW.rg (RL.p rfl (RL.p rfl (RL.lenTxt Tryz.runUnderlying9 rfl rfl rfl rfl (RL.p rfl (RL.nil (NQ.seq ?_))))))))
  refine CW.cond rfl (fun hlt => ?_) (fun hlt => ?_)
  ·
    have hlt : i < s.length := by simp at hlt; omega
    have hx := List.getElem?_eq_getElem hlt
    have hdr : s.drop i = s[i] :: s.drop (i + 1) := List.drop_eq_getElem_cons hlt
    generalize s[i] = x at hx hdr
    rw [hdr] at hinv
    refine CW.skip (NQ.seq (CW.seq (CW.block (CW.seq (CW.rg (RL.p rfl (RL.p rfl (RL.idxTxt (j := i) Tryz.runUnderlying9 rfl rfl rfl rfl rfl rfl hx (RL.p rfl (RL.p rfl (RL.nil (NQ.seq (CW.ok [0, 1, 5, 6, 7, 19] rfl ?_)))))))))))))
    refine CW.cond rfl (fun hc => ?_) (fun hc => ?_)
    · have hxc : x = c := BitVec.eq_of_toNat_eq (by simp [U8] at hc; omega)
      subst hxc
      rw [spl_cut] at hinv
      refine CW.seq (CW.region (ef := [5, 6]) (bk := [6]) (RL.p rfl (RL.p rfl (RL.p rfl (RL.p rfl (RL.sliceTxt (s := s) (lo := fr) (hi := i) Tryz.runUnderlying9 rfl rfl rfl rfl rfl rfl hf hi (RL.buildSlice [_] Tryz.runUnderlying62 Tryz.sizeOf9 Tryz.zeroValue9 rfl rfl (by decide) (by decide) rfl rfl rfl rfl rfl rfl ?_)))))))
      intro b2
      refine RL.appendq el_62 rfl rfl rfl rfl rfl rfl rfl ?_
      intro ob1 cap1 ho1
      refine RL.p rfl (RL.nil (NQ.seq (CW.ok [0, 1, 5, 7] rfl (CW.rg (RL.p rfl (RL.bx rfl (wrapV_i64 (by omega) (by omega)) ?_))))))
      refine RL.p rfl (RL.nil (NQ.block (NQ.seq (CW.rg (RL.p rfl (RL.bx rfl (wrapV_i64 (by omega) (by omega)) ?_))))))
      refine RL.p rfl (RL.nil ?_)
      refine NQ.round (g := (i, fr, out, ob, cp)) (i + 1, i + 1, out ++ [(s.drop fr).take (i - fr)], ob1, cap1) ⟨⟨hlt, Nat.le_refl _, by rw [List.length_append]; show out.length + 1 ≤ i + 1; omega⟩, by rw [Nat.sub_self, List.take_zero, preL_nil (splL_ne _), ← hinv]; simp⟩ (by show s.length - (i + 1) < s.length - i; omega) (.cons rfl (.cons rfl (.cons (k := 5) (by rw [List.length_append]; rfl) (.cons rfl (.cons rfl .nil))))) (fun w h => by
        dsimp only
        rw [List.length_append, List.map_append]
        exact h.rea (fun _ h => h) (by repeat (first | exact Rea.nil | (apply Rea.cons; (solve | (repeat (first | exact Del.here | apply Del.there)))))))
    · have hxc : x ≠ c := fun h => by subst h; simp at hc
      rw [spl_stay _ _ hxc] at hinv
      refine CW.skip (NQ.block (NQ.seq (CW.rg (RL.p rfl (RL.bx rfl (wrapV_i64 (by omega) (by omega)) ?_)))))
      refine RL.p rfl (RL.nil ?_)
      refine NQ.round (g := (i, fr, out, ob, cp)) (i + 1, fr, out, ob, cp) ⟨⟨hlt, by show fr ≤ i + 1; omega, hol⟩, by
        rw [← hinv]
        show out ++ preL ((s.drop fr).take (i + 1 - fr)) _ = _
        rw [show i + 1 - fr = (i - fr) + 1 by omega, List.take_add_one, List.getElem?_drop, show fr + (i - fr) = i by omega, hx]; rfl⟩ (by show s.length - (i + 1) < s.length - i; omega) (.cons rfl (.cons rfl (.cons rfl (.cons rfl (.cons rfl .nil))))) (fun w h => h)
  · have hin : i = s.length := by simp at hlt; omega
    subst hin
    rw [List.drop_length] at hinv
    have hfin : splL c s = out ++ [(s.drop fr).take (s.length - fr)] := by rw [← hinv]; simp [splL, preL]
    refine CW.exit (XQ.seq (XQ.seq (XQ.hit (NQ.seq (CW.ok [0, 5, 6] rfl (CW.seq (CW.region (ef := [4, 5]) (bk := [5]) (RL.p rfl (RL.p rfl (RL.p rfl (RL.sliceTxt (s := s) (lo := fr) (hi := s.length) Tryz.runUnderlying9 rfl rfl rfl rfl rfl rfl hf (Nat.le_refl _) (RL.buildSlice [_] Tryz.runUnderlying62 Tryz.sizeOf9 Tryz.zeroValue9 rfl rfl (by decide) (by decide) rfl rfl rfl rfl rfl rfl ?_))))))))))))
    intro b2
    refine RL.appendq el_62 rfl rfl rfl rfl rfl rfl rfl ?_
    intro ob1 cap1 ho1
    refine RL.p rfl (RL.nil (NQ.seq (CW.ok [4] rfl (CW.ret ?_))))
    rw [hfin]
    refine RQ.rea (fun _ h => h) (H' := [own ob1 cap1 9 1 (out.length + 1) (out.map strV ++ [strV ((s.drop fr).take (s.length - fr))])]) (by repeat (first | exact Rea.nil | (apply Rea.cons; (solve | (repeat (first | exact Del.here | apply Del.there)))))) ?_
    exact RQ.post (res1 rfl rfl) (.keep (Split.none _)) ⟨ob1, cap1, by rw [List.length_append]; rfl, rfl, by rw [List.length_append, List.map_append]; rfl⟩
end Go.Proofs.YthndhipjfdgdfaaGreatDoor

namespace Go.Proofs.YthndhipjfdgdfaaGreatDoor
open Go.PK
/-! ### The reference reads a number -/
theorem wrapV_u8 {n : Int} (h1 : 0 ≤ n) (h2 : n ≤ 255) : Value.int .u8 (IntKind.u8.wrap n) = .int .u8 n := by
  congr 1; simp [IntKind.wrap, IntKind.bits, IntKind.signed]; omega
abbrev bareP (r : Option Nat) : Value := .tuple #[.int .u64 ((r.getD 0 : Nat) : Int), .bool r.isSome]
theorem rdN_cons (c : B8) (r : Tx) (n : Nat) : rdN (c :: r) n = if c.toNat < 48 ∨ 57 < c.toNat then none else if (18446744073709551615 - (c.toNat - 48)) / 10 < n then none else rdN r (10 * n + (c.toNat - 48)) := rfl
theorem rbare_any (s : Tx) : Spc Tryz.prog 85 #[strV s] [] [] (Is (bareP (bareT s))) := by
  refine Spc.enter Tryz.func85 rfl rfl rfl (fun w0 hw0 => ?_)
  refine CW.seq (CW.rg (RL.p rfl (RL.p rfl (RL.nil (NQ.seq (CW.seq (CW.seq (CW.rg (RL.p rfl (RL.cmp rfl rfl rfl rfl rfl (fun w => eql_txt s [] w) ?_))))))))))
  refine RL.p rfl ?_
  refine RL.part (d := 9) rfl (fun h0 => ?_) (fun h0 => ?_)
  · have h0' : s = [] := by simpa using h0
    refine RL.p rfl (RL.p rfl (RL.p rfl (RL.p rfl (RL.p rfl (RL.p rfl (RL.p rfl (RL.p rfl (RL.p rfl (RL.p rfl (RL.p rfl (RL.p rfl (RL.p rfl (RL.p rfl ?_)))))))))))))
    refine RL.nil (NQ.seq (CW.ok [0, 2, 3, 23] rfl (CW.condT rfl rfl (CW.seq (CW.rg (RL.p rfl (RL.p rfl (RL.nil (NQ.seq (CW.ret (RQ.seq ?_)))))))))))
    exact RQ.post (res2 rfl rfl rfl) (Split.none _) ⟨by rw [bareT, if_pos (.inl h0')]; rfl, rfl, rfl⟩
  · have h0' : s ≠ [] := by simpa using h0
    refine RL.p rfl (RL.lenTxt Tryz.runUnderlying9 rfl rfl rfl rfl (RL.p rfl (RL.p rfl (RL.p rfl ?_))))
    refine RL.part (d := 14) rfl (fun h1 => ?_) (fun h1 => ?_)
    · have h1' : 20 < s.length := by simp at h1; omega
      refine RL.p rfl (RL.p rfl (RL.p rfl (RL.p rfl (RL.p rfl (RL.p rfl (RL.p rfl (RL.p rfl (RL.p rfl (RL.nil (NQ.seq (CW.ok [0, 2, 3, 23] rfl (CW.condT rfl rfl (CW.seq ?_)))))))))))))
      refine CW.rg (RL.p rfl (RL.p rfl (RL.nil (NQ.seq (CW.ret (RQ.seq ?_))))))
      exact RQ.post (res2 rfl rfl rfl) (Split.none _) ⟨by rw [bareT, if_pos (.inr (.inl h1'))]; rfl, rfl, rfl⟩
    · have h1' : s.length ≤ 20 := by simp at h1; omega
      obtain ⟨c0, hc0⟩ : ∃ c, s[0]? = some c := ⟨_, List.getElem?_eq_getElem (List.length_pos_iff.2 h0')⟩
      have hhd : s.head? = some c0 := by rw [← hc0]; cases s <;> rfl
      refine RL.p rfl (RL.lenTxt Tryz.runUnderlying9 rfl rfl rfl rfl (RL.p rfl (RL.p rfl ?_)))
      apply RL.andB (d := 18) (dp := 22) (l' := (Sq.of [16])) rfl (sK [0, 2, 3, 14] rfl)
      ·
        intro hb12 K12
        refine RL.p rfl (RL.idxTxt (j := 0) Tryz.runUnderlying9 rfl rfl rfl rfl rfl rfl hc0 (RL.p rfl (RL.p rfl ?_)))
        exact K12 _ (.cons rfl (sK [0, 2, 3, 14] rfl))
      ·
        intro hb12 K12
        refine RL.p rfl (RL.p rfl (RL.p rfl (RL.p rfl ?_)))
        exact K12 _ (.cons rfl (sK [0, 2, 3, 14] rfl))
      refine RL.p rfl (RL.nil (NQ.seq ?_))
      refine CW.cond rfl (fun h3 => ?_) (fun h3 => ?_)
      · have h3' : 1 < s.length ∧ s.head? = some 48#8 := by
          rw [hhd]
          simp [U8] at h3
          exact ⟨by omega, by congr 1; exact BitVec.eq_of_toNat_eq (by show c0.toNat = 48; omega)⟩
        refine CW.seq (CW.rg (RL.p rfl (RL.p rfl (RL.nil (NQ.seq (CW.ret (RQ.seq ?_)))))))
        exact RQ.post (res2 rfl rfl rfl) (Split.none _) ⟨by rw [bareT, if_pos (.inr (.inr h3'))]; rfl, rfl, rfl⟩
      · have h3' : ¬ (1 < s.length ∧ s.head? = some 48#8) := by
          rintro ⟨q1, q2⟩
          rw [hhd] at q2
          have q2 := Option.some.inj q2
          subst q2
          simp at h3
          omega
        have hb : bareT s = rdN s 0 := by
          rw [bareT, if_neg]
          rintro (q | q | q)
          · exact h0' q
          · omega
          · exact h3' q
        rw [hb]
        generalize hR : rdN s 0 = R
        clear hb h3 h3' h0 h1 hhd hc0
        refine CW.skip (NQ.seq (CW.seq (CW.rg (RL.p rfl (RL.nil (NQ.seq (CW.seq (CW.seq (CW.rg (RL.p rfl (RL.nil (NQ.seq (CW.block ?_)))))))))))))
        refine CW.loop (γ := Nat × Nat) (fun g => (g.1 ≤ s.length ∧ g.2 < 18446744073709551616) ∧ rdN (s.drop g.1) g.2 = R) (fun g => [(0, strV s), (4, .int .u64 (g.2 : Int)), (5, .int .i64 (g.1 : Int))]) (fun _ => []) (fun _ => []) (fun g => s.length - g.1) (0, 0) ⟨⟨Nat.zero_le _, by decide⟩, hR⟩ (.cons rfl (.cons rfl (.cons rfl .nil))) (fun w h => h) ?_
        rintro ⟨i, n⟩ ⟨⟨hi, hn⟩, hr⟩
        dsimp only at hi hn hr ⊢
        refine CW.seq (CW.seq (CW.rg (RL.p rfl (RL.p rfl (RL.lenTxt Tryz.runUnderlying9 rfl rfl rfl rfl (RL.p rfl (RL.nil (NQ.seq ?_))))))))
        refine CW.cond rfl (fun hlt => ?_) (fun hlt => ?_)
        · have hlt : i < s.length := by simp at hlt; omega
          have hx := List.getElem?_eq_getElem hlt
          have hdr : s.drop i = s[i] :: s.drop (i + 1) := List.drop_eq_getElem_cons hlt
          generalize s[i] = c at hx hdr
          rw [hdr, rdN_cons] at hr
          refine CW.skip (NQ.seq (CW.seq (CW.block (CW.seq (CW.seq (CW.rg (RL.p rfl (RL.p rfl (RL.idxTxt (j := i) Tryz.runUnderlying9 rfl rfl rfl rfl rfl rfl hx (RL.p rfl (RL.p rfl ?_)))))))))))
          apply RL.orB (d := 34) (dp := 39) (l' := (Sq.of [])) rfl (sK [0, 4, 5] rfl)
          ·
            intro hb5 K5
            refine RL.p rfl (RL.p rfl (RL.idxTxt (j := i) Tryz.runUnderlying9 rfl rfl rfl rfl rfl rfl hx (RL.p rfl (RL.p rfl ?_))))
            exact K5 _ (.cons rfl (sK [0, 4, 5] rfl))
          ·
            intro hb5 K5
            refine RL.p rfl (RL.p rfl (RL.p rfl (RL.p rfl (RL.p rfl ?_))))
            exact K5 _ (.cons rfl (sK [0, 4, 5] rfl))
          refine RL.nil (NQ.seq ?_)
          refine CW.cond rfl (fun hd => ?_) (fun hd => ?_)
          · have hd' : c.toNat < 48 ∨ 57 < c.toNat := by simp at hd; omega
            rw [if_pos hd'] at hr
            refine CW.seq (CW.rg (RL.p rfl (RL.p rfl (RL.nil (NQ.seq (CW.ret (RQ.seq (RQ.block (RQ.seq (RQ.seq (RQ.block (RQ.seq ?_))))))))))))
            exact RQ.post (res2 rfl rfl rfl) (Split.none _) ⟨by rw [← hr]; rfl, rfl, rfl⟩
          · have hd' : ¬ (c.toNat < 48 ∨ 57 < c.toNat) := by simp at hd; omega
            rw [if_neg hd'] at hr
            have hd1 : 48 ≤ c.toNat := by omega
            have hd2 : c.toNat ≤ 57 := by omega
            have hsub : (c.toNat : Int) - 48 = ((c.toNat - 48 : Nat) : Int) := by omega
            generalize hdd : c.toNat - 48 = d at hr hsub
            have hd9 : d ≤ 9 := by omega
            refine CW.skip (NQ.seq (CW.seq (CW.rg (RL.p rfl (RL.p rfl (RL.idxTxt (j := i) Tryz.runUnderlying9 rfl rfl rfl rfl rfl rfl hx (RL.bx rfl (wrapV_u8 (by omega) (by omega)) ?_)))))))
            refine RL.conv Tryz.runUnderlying5 Tryz.runUnderlying30 rfl rfl rfl rfl (RL.cast (d := 44) (v' := .int .u64 (d : Int)) rfl (by rw [hsub, wrapU (by omega) (by omega)]) ?_)
            refine RL.p rfl (RL.nil (NQ.seq (CW.ok [0, 4, 5, 6] rfl (CW.seq (CW.seq (CW.rg (RL.p rfl (RL.p rfl (RL.bx rfl (wrapV_u64 (by omega) (by omega)) ?_)))))))))
            refine RL.quo rfl rfl rfl rfl rfl (by decide) ?_
            refine RL.cast (d := 48) (v' := .int .u64 (((18446744073709551615 - d) / 10 : Nat) : Int)) rfl (by rw [show (18446744073709551615 : Int) - (d : Int) = ((18446744073709551615 - d : Nat) : Int) by omega, tdivN, wrapU (by omega) (by omega)]) ?_
            refine RL.p rfl (RL.nil (NQ.seq ?_))
            refine CW.cond rfl (fun hq => ?_) (fun hq => ?_)
            · have hq' : (18446744073709551615 - d) / 10 < n := by simp at hq; omega
              rw [if_pos hq'] at hr
              refine CW.seq (CW.rg (RL.p rfl (RL.p rfl (RL.nil (NQ.seq (CW.ret (RQ.seq (RQ.block (RQ.seq (RQ.seq (RQ.block (RQ.seq ?_))))))))))))
              exact RQ.post (res2 rfl rfl rfl) (Split.none _) ⟨by rw [← hr]; rfl, rfl, rfl⟩
            · have hq' : ¬ (18446744073709551615 - d) / 10 < n := by simp at hq; omega
              rw [if_neg hq'] at hr
              refine CW.skip (NQ.seq (CW.rg (RL.p rfl (RL.bx rfl (wrapV_u64 (by omega) (by omega)) ?_))))
              refine RL.p rfl (RL.bx rfl (wrapV_u64 (by omega) (by omega)) ?_)
              refine RL.p rfl (RL.nil (NQ.block (NQ.seq (CW.ok [0, 4, 5] rfl (CW.rg (RL.p rfl (RL.bx rfl (wrapV_i64 (by omega) (by omega)) ?_)))))))
              refine RL.p rfl (RL.nil ?_)
              refine NQ.round (g := (i, n)) (i + 1, 10 * n + d) ⟨⟨hlt, by show 10 * n + d < 18446744073709551616; omega⟩, hr⟩ (by show s.length - (i + 1) < s.length - i; omega) (.cons rfl (.cons (k := 4) (by show some (Value.int .u64 (10 * (n : Int) + (d : Int))) = some (Value.int .u64 ((10 * n + d : Nat) : Int)); congr 2) (.cons rfl .nil))) (fun w h => h)
        · have hin : i = s.length := by simp at hlt; omega
          subst hin
          rw [List.drop_length] at hr
          have hr : R = some n := hr.symm
          subst hr
          refine CW.exit (XQ.seq (XQ.seq (XQ.hit (NQ.seq (CW.ok [4] rfl (CW.seq (CW.rg (RL.p rfl (RL.p rfl (RL.p rfl (RL.nil (NQ.seq (CW.ret ?_)))))))))))))
          exact RQ.post (res2 rfl rfl rfl) (Split.none _) ⟨rfl, rfl, rfl⟩
end Go.Proofs.YthndhipjfdgdfaaGreatDoor

namespace Go.Proofs.YthndhipjfdgdfaaGreatDoor
open Go.PK
/-! ### Numbers with a sign -/
def numX (s : Tx) : Int := match numT s with
  | some v => v
  | none => if 1 < s.length ∧ s.head? = some 45#8 then 0 else IntKind.wrap .i64 (((bareT s).getD 0 : Nat) : Int)
abbrev numP (s : Tx) : Value := .tuple #[.int .i64 (numX s), .bool (numT s).isSome]
theorem numX_of {s : Tx} {v : Int} (h : numT s = some v) : numX s = v := by rw [numX, h]
theorem wrapN {n : Nat} (h : n ≤ 9223372036854775807) : IntKind.wrap .i64 (n : Int) = (n : Int) := by
  have h := wrapV_i64 (n := (n : Int)) (by omega) (by omega)
  injection h
theorem numT_neg {r : Tx} (h : r ≠ []) : numT (45#8 :: r) = match bareT r with
    | some n => if n = 0 ∨ 9223372036854775808 < n then none else some (-(n : Int))
    | none => none := by rw [numT, if_pos ⟨rfl, h⟩]; rfl
theorem numT_pos {c : B8} {r : Tx} (h : ¬ (c = 45#8 ∧ r ≠ [])) : numT (c :: r) = match bareT (c :: r) with
    | some n => if 9223372036854775807 < n then none else some (n : Int)
    | none => none := by rw [numT, if_neg h]; rfl
theorem rnum_any (s : Tx) : Spc Tryz.prog 119 #[strV s] [] [] (Is (numP s)) := by
  cases s with
  | nil =>
    have hb : bareT [] = none := rfl
    have hc0 : ([] : Tx)[0]? = some 0#8 ∨ True := .inr trivial
    refine Spc.enter Tryz.func119 rfl rfl rfl (fun w0 hw0 => ?_)
    refine CW.seq (CW.rg (RL.p rfl (RL.p rfl (RL.nil (NQ.seq (CW.seq (CW.seq (CW.rg (RL.p rfl (RL.lenTxt Tryz.runUnderlying9 rfl rfl rfl rfl (RL.p rfl (RL.p rfl (RL.cast (d := 11) (v' := .bool false) rfl (rfl) ?_)))))))))))))
    refine RL.p rfl (RL.p rfl (RL.p rfl (RL.p rfl (RL.nil (NQ.seq (CW.ok [0, 2, 3, 15] rfl (CW.condF rfl rfl (CW.skip (NQ.seq (CW.seq (CW.rg (RL.p rfl (RL.callvq (rbare_any []) Tryz.call85 rfl rfl rfl rfl ?_)))))))))))))
    refine RL.p rfl (RL.p rfl (RL.p rfl (RL.p rfl (RL.p rfl (RL.nil (NQ.seq (CW.ok [6, 7] rfl (CW.seq (CW.rg (RL.p rfl (RL.conv Tryz.runUnderlying30 Tryz.runUnderlying2 rfl rfl rfl rfl (RL.p rfl (RL.p rfl ?_)))))))))))))
    apply RL.andB (d := 45) (dp := 48) (l' := (Sq.of [7, 8])) rfl (sK [43] rfl)
    ·
      intro hb4 K4
      refine RL.p rfl (RL.p rfl (RL.p rfl ?_))
      exact K4 _ (.cons rfl (sK [43] rfl))
    ·
      intro hb4 K4
      refine RL.p rfl (RL.p rfl (RL.p rfl ?_))
      exact K4 _ (.cons rfl (sK [43] rfl))
    refine RL.p rfl (RL.p rfl (RL.nil (NQ.seq (CW.ret ?_))))
    exact RQ.post (res2 rfl rfl rfl) (Split.none _) ⟨rfl, rfl, rfl⟩
  | cons c r =>
    have hc0 : (c :: r)[0]? = some c := rfl
    refine Spc.enter Tryz.func119 rfl rfl rfl (fun w0 hw0 => ?_)
    refine CW.seq (CW.rg (RL.p rfl (RL.p rfl (RL.nil (NQ.seq (CW.seq (CW.seq (CW.rg (RL.p rfl (RL.lenTxt Tryz.runUnderlying9 rfl rfl rfl rfl (RL.p rfl (RL.p rfl ?_))))))))))))
    apply RL.andB (d := 11) (dp := 15) (l' := (Sq.of [])) rfl (sK [0, 2, 3] rfl)
    ·
      intro hb4 K4
      refine RL.p rfl (RL.idxTxt (j := 0) Tryz.runUnderlying9 rfl rfl rfl rfl rfl rfl hc0 (RL.p rfl (RL.p rfl ?_)))
      exact K4 _ (.cons rfl (sK [0, 2, 3] rfl))
    ·
      intro hb4 K4
      refine RL.p rfl (RL.p rfl (RL.p rfl (RL.p rfl ?_)))
      exact K4 _ (.cons rfl (sK [0, 2, 3] rfl))
    refine RL.nil (NQ.seq ?_)
    refine CW.cond rfl (fun h0 => ?_) (fun h0 => ?_)
    · have h0' : c = 45#8 ∧ r ≠ [] := by
        simp [U8] at h0
        refine ⟨BitVec.eq_of_toNat_eq (by show c.toNat = 45; omega), fun e => ?_⟩
        subst e
        simp at h0
      obtain ⟨rfl, hr⟩ := h0'
      have hlen : 1 < (45#8 :: r).length ∧ (45#8 :: r).head? = some 45#8 := ⟨by have := List.length_pos_iff.2 hr; rw [List.length_cons]; omega, rfl⟩
      have hn := numT_neg hr
      have hx : numX (45#8 :: r) = (match numT (45#8 :: r) with | some v => v | none => 0) := by
        rw [numX]
        cases numT (45#8 :: r) with
        | some v => rfl
        | none => exact if_pos hlen
      have hdr : ((45#8 :: r).drop 1).take ((45#8 :: r).length - 1) = r := by rw [List.drop_one, List.tail_cons, List.length_cons, Nat.add_sub_cancel, List.take_length]
      cases hb : bareT r with
      | none =>
        have hn : numT (45#8 :: r) = none := by rw [hn, hb]
        have hx : numX (45#8 :: r) = 0 := by rw [hx, hn]
        have hg := rbare_any r
        rw [hb] at hg
        refine CW.seq (CW.rg (RL.p rfl (RL.sliceTxt (s := 45#8 :: r) (lo := 1) (hi := (45#8 :: r).length) Tryz.runUnderlying9 rfl rfl rfl rfl rfl rfl (by omega) (Nat.le_refl _) ?_)))
        rw [hdr]
        refine RL.callvq (hg) Tryz.call85 rfl rfl rfl rfl ?_
        refine RL.p rfl (RL.p rfl (RL.p rfl (RL.p rfl (RL.p rfl (RL.nil (NQ.seq (CW.ok [0, 4, 5] rfl (CW.seq (CW.seq (CW.rg (RL.p rfl (RL.p rfl (RL.p rfl ?_)))))))))))))
        apply RL.orB (d := 24) (dp := 27) (l' := (Sq.of [6, 7, 8, 9])) rfl (sK [0, 4] rfl)
        ·
          intro hb3 K3
          refine RL.p rfl (RL.p rfl (RL.p rfl ?_))
          exact K3 _ (.cons rfl (sK [0, 4] rfl))
        ·
          intro hb3 K3
          refine RL.p rfl (RL.p rfl (RL.p rfl ?_))
          exact K3 _ (.cons rfl (sK [0, 4] rfl))
        refine RL.p rfl ?_
        apply RL.orB (d := 28) (dp := 31) (l' := (Sq.of [])) rfl (sK [0, 4] rfl)
        ·
          intro hb7 K7
          refine RL.p rfl (RL.p rfl (RL.p rfl ?_))
          exact K7 _ (.cons rfl (sK [0, 4] rfl))
        ·
          intro hb7 K7
          refine RL.p rfl (RL.p rfl (RL.p rfl ?_))
          exact K7 _ (.cons rfl (sK [0, 4] rfl))
        refine RL.nil (NQ.seq (CW.condT rfl ((by rfl)) ?_))
        refine CW.seq (CW.rg (RL.p rfl (RL.p rfl (RL.nil (NQ.seq (CW.ret (RQ.seq (RQ.seq ?_))))))))
        exact RQ.post (res2 rfl rfl rfl) (Split.none _) ⟨by rw [numP, hn, hx]; rfl, rfl, rfl⟩
      | some n =>
        have hg : Spc Tryz.prog 85 #[strV r] [] [] (Is (.tuple #[.int .u64 (n : Int), .bool true])) := by
          have h := rbare_any r
          rw [hb] at h
          exact h
        have hn64 : n < 18446744073709551616 := (decT_bareT hb).2
        refine CW.seq (CW.rg (RL.p rfl (RL.sliceTxt (s := 45#8 :: r) (lo := 1) (hi := (45#8 :: r).length) Tryz.runUnderlying9 rfl rfl rfl rfl rfl rfl (by omega) (Nat.le_refl _) ?_)))
        rw [hdr]
        refine RL.callvq (hg) Tryz.call85 rfl rfl rfl rfl ?_
        refine RL.p rfl (RL.p rfl (RL.p rfl (RL.p rfl (RL.p rfl (RL.nil (NQ.seq (CW.ok [0, 4, 5] rfl (CW.seq (CW.seq (CW.rg (RL.p rfl (RL.p rfl (RL.p rfl ?_)))))))))))))
        apply RL.orB (d := 24) (dp := 27) (l' := (Sq.of [6, 7, 8, 9])) rfl (sK [0, 4] rfl)
        ·
          intro hb3 K3
          refine RL.p rfl (RL.p rfl (RL.p rfl ?_))
          exact K3 _ (.cons rfl (sK [0, 4] rfl))
        ·
          intro hb3 K3
          refine RL.p rfl (RL.p rfl (RL.p rfl ?_))
          exact K3 _ (.cons rfl (sK [0, 4] rfl))
        refine RL.p rfl ?_
        apply RL.orB (d := 28) (dp := 31) (l' := (Sq.of [])) rfl (sK [0, 4] rfl)
        ·
          intro hb7 K7
          refine RL.p rfl (RL.p rfl (RL.p rfl ?_))
          exact K7 _ (.cons rfl (sK [0, 4] rfl))
        ·
          intro hb7 K7
          refine RL.p rfl (RL.p rfl (RL.p rfl ?_))
          exact K7 _ (.cons rfl (sK [0, 4] rfl))
        refine RL.nil (NQ.seq ?_)
        refine CW.cond rfl (fun hq => ?_) (fun hq => ?_)
        · have hq' : n = 0 ∨ 9223372036854775808 < n := by simp at hq; omega
          have hn : numT (45#8 :: r) = none := by rw [hn, hb]; exact if_pos hq'
          have hx : numX (45#8 :: r) = 0 := by rw [hx, hn]
          refine CW.seq (CW.rg (RL.p rfl (RL.p rfl (RL.nil (NQ.seq (CW.ret (RQ.seq (RQ.seq ?_))))))))
          exact RQ.post (res2 rfl rfl rfl) (Split.none _) ⟨by rw [numP, hn, hx]; rfl, rfl, rfl⟩
        · have hq' : ¬ (n = 0 ∨ 9223372036854775808 < n) := by simp at hq; omega
          have hn : numT (45#8 :: r) = some (-(n : Int)) := by rw [hn, hb]; exact if_neg hq'
          have hx : numX (45#8 :: r) = -(n : Int) := by rw [hx, hn]
          have e1 : 1 - (n : Int) - 1 = -(n : Int) := by omega
          refine CW.skip (NQ.seq (CW.seq (CW.rg (RL.p rfl (RL.bx rfl (wrapV_u64 (by omega) (by omega)) ?_)))))
          refine RL.conv Tryz.runUnderlying30 Tryz.runUnderlying2 rfl rfl rfl rfl (RL.cast (d := 34) (v' := .int .i64 ((n : Int) - 1)) rfl (by rw [wrapV_i64 (by omega) (by omega)]) ?_)
          refine RL.neg rfl rfl rfl rfl (RL.cast (d := 35) (v' := .int .i64 (1 - (n : Int))) rfl (by rw [show (0 : Int) - ((n : Int) - 1) = 1 - (n : Int) by omega, wrapV_i64 (by omega) (by omega)]) ?_)
          refine RL.bx rfl (wrapV_i64 (by omega) (by omega)) ?_
          refine RL.p rfl (RL.p rfl (RL.nil (NQ.seq (CW.ok [0, 2, 3] rfl (CW.ret (RQ.seq ?_))))))
          exact RQ.post (res2 rfl rfl rfl) (Split.none _) ⟨by rw [numP, hn, hx, ← e1]; rfl, rfl, rfl⟩
    · have h0' : ¬ (c = 45#8 ∧ r ≠ []) := by
        rintro ⟨rfl, q⟩
        have := List.length_pos_iff.2 q
        simp at h0
        omega
      have hlen : ¬ (1 < (c :: r).length ∧ (c :: r).head? = some 45#8) := by
        rintro ⟨q1, q2⟩
        refine h0' ⟨Option.some.inj q2, fun e => ?_⟩
        subst e
        simp at q1
      have hn := numT_pos h0'
      have hx : numX (c :: r) = (match numT (c :: r) with | some v => v | none => IntKind.wrap .i64 (((bareT (c :: r)).getD 0 : Nat) : Int)) := by
        rw [numX]
        cases numT (c :: r) with
        | some v => rfl
        | none => exact if_neg hlen
      cases hb : bareT (c :: r) with
      | none =>
        have hn : numT (c :: r) = none := by rw [hn, hb]
        have hx : numX (c :: r) = IntKind.wrap .i64 0 := by rw [hx, hn, hb]; rfl
        have hg := rbare_any (c :: r)
        rw [hb] at hg
        refine CW.skip (NQ.seq (CW.seq (CW.rg (RL.p rfl (RL.callvq (hg) Tryz.call85 rfl rfl rfl rfl ?_)))))
        refine RL.p rfl (RL.p rfl (RL.p rfl (RL.p rfl (RL.p rfl (RL.nil (NQ.seq (CW.ok [6, 7] rfl (CW.seq (CW.rg (RL.p rfl (RL.conv Tryz.runUnderlying30 Tryz.runUnderlying2 rfl rfl rfl rfl (RL.p rfl (RL.p rfl ?_)))))))))))))
        apply RL.andB (d := 45) (dp := 48) (l' := (Sq.of [7, 8])) rfl (sK [43] rfl)
        ·
          intro hb4 K4
          refine RL.p rfl (RL.p rfl (RL.p rfl ?_))
          exact K4 _ (.cons rfl (sK [43] rfl))
        ·
          intro hb4 K4
          refine RL.p rfl (RL.p rfl (RL.p rfl ?_))
          exact K4 _ (.cons rfl (sK [43] rfl))
        refine RL.p rfl (RL.p rfl (RL.nil (NQ.seq (CW.ret ?_))))
        exact RQ.post (res2 rfl rfl rfl) (Split.none _) ⟨by rw [numP, hn, hx]; rfl, rfl, rfl⟩
      | some n =>
        have hg : Spc Tryz.prog 85 #[strV (c :: r)] [] [] (Is (.tuple #[.int .u64 (n : Int), .bool true])) := by
          have h := rbare_any (c :: r)
          rw [hb] at h
          exact h
        have hn64 : n < 18446744073709551616 := (decT_bareT hb).2
        refine CW.skip (NQ.seq (CW.seq (CW.rg (RL.p rfl (RL.callvq (hg) Tryz.call85 rfl rfl rfl rfl ?_)))))
        refine RL.p rfl (RL.p rfl (RL.p rfl (RL.p rfl (RL.p rfl (RL.nil (NQ.seq (CW.ok [6, 7] rfl (CW.seq (CW.rg (RL.p rfl (RL.conv Tryz.runUnderlying30 Tryz.runUnderlying2 rfl rfl rfl rfl (RL.p rfl (RL.p rfl ?_)))))))))))))
        apply RL.andB (d := 45) (dp := 48) (l' := (Sq.of [7, 8])) rfl (sK [43] rfl)
        ·
          intro hb4 K4
          refine RL.p rfl (RL.p rfl (RL.p rfl ?_))
          exact K4 _ (.cons rfl (sK [43] rfl))
        ·
          intro hb4 K4
          refine RL.p rfl (RL.p rfl (RL.p rfl ?_))
          exact K4 _ (.cons rfl (sK [43] rfl))
        refine RL.p rfl (RL.p rfl (RL.nil (NQ.seq (CW.ret ?_))))
        by_cases hq : 9223372036854775807 < n
        · have hn : numT (c :: r) = none := by rw [hn, hb]; exact if_pos hq
          have hx : numX (c :: r) = IntKind.wrap .i64 (n : Int) := by rw [hx, hn, hb]; rfl
          exact RQ.post (res2 rfl rfl rfl) (Split.none _) ⟨by rw [numP, hn, hx]; simp; omega, rfl, rfl⟩
        · have hn : numT (c :: r) = some (n : Int) := by rw [hn, hb]; exact if_neg hq
          have hx : numX (c :: r) = (n : Int) := by rw [hx, hn]
          exact RQ.post (res2 rfl rfl rfl) (Split.none _) ⟨by rw [numP, hn, hx]; simp [wrapN (n := n) (by omega)]; omega, rfl, rfl⟩
end Go.Proofs.YthndhipjfdgdfaaGreatDoor

namespace Go.Proofs.YthndhipjfdgdfaaGreatDoor
open Go.PK
/-! ### The reference reads numbers -/
theorem nuNone {s : Tx} {r : List Tx} (h : numT s = none) : numsL (s :: r) = none := by rw [numsL, h]
theorem nuSome {s : Tx} {r : List Tx} {v : Int} (h : numT s = some v) : numsL (s :: r) = (numsL r).map (v :: ·) := by
  rw [numsL, h]; cases numsL r <;> rfl
abbrev i64s (l : List Int) : List Value := l.map fun v => .int .i64 v
def NmsR (ws : List Tx) (n : Nat) : Value → List It → List It → Prop := fun v I' H' => ∃ ob cap, v = .tuple #[slO ob ((numsL ws).getD []).length cap, .bool ((numsL ws).isSome && decide (ws.length = n))] ∧ I' = [] ∧ H' = [own ob cap 2 1 ((numsL ws).getD []).length (i64s ((numsL ws).getD []))]
theorem rnums_any (ws : List Tx) (p : Option Addr) (c m n : Nat) (hm : ws.length = m) (hb : m ≤ 1000000) : Spc Tryz.prog 86 #[.slice p m c, .int .i64 (n : Int)] [sls p 1 m (ws.map strV)] [] (NmsR ws n) := by
  subst hm
  refine Spc.enter Tryz.func86 rfl rfl rfl (fun w0 hw0 => ?_)
  refine CW.seq (CW.rg (RL.p rfl (RL.p rfl (RL.nil (NQ.seq (CW.seq (CW.region (ef := [0]) (bk := []) (RL.buildOwn [] Tryz.runUnderlying189 Tryz.sizeOf2 Tryz.zeroValue2 rfl rfl (by decide) (by decide) rfl (by decide) rfl rfl rfl rfl rfl rfl ?_))))))))
  intro b1
  refine RL.p rfl (RL.nil (NQ.seq (CW.seq (CW.seq (CW.rg (RL.p rfl (RL.nil (NQ.seq (CW.block ?_)))))))))
  refine CW.genI (fun J hJ => ?_)
  have m2 : sls p 1 ws.length (ws.map strV) ∈ J := hJ _ (by simp)
  clear hJ
  refine CW.loop (γ := Nat × List Int × Option Nat × Nat) (fun g => (g.1 ≤ ws.length ∧ g.2.1.length = g.1) ∧ numsL ws = (numsL (ws.drop g.1)).map (g.2.1 ++ ·)) (fun g => [(0, .slice p ws.length c), (1, .int .i64 (n : Int)), (6, slO g.2.2.1 g.1 g.2.2.2), (7, .int .i64 (g.1 : Int))]) (fun _ => J) (fun g => [own g.2.2.1 g.2.2.2 2 1 g.1 (i64s g.2.1)]) (fun g => ws.length - g.1) (0, [], some b1, 0) ⟨⟨Nat.zero_le _, rfl⟩, by show numsL ws = (numsL ws).map ([] ++ ·); cases numsL ws <;> rfl⟩ (.cons rfl (.cons rfl (.cons rfl (.cons rfl .nil)))) (fun w h => h.rea (fun _ h => h) (by repeat (first | exact Rea.nil | (apply Rea.cons; (solve | (repeat (first | exact Del.here | apply Del.there))))))) ?_
  rintro ⟨i, out, ob, cp⟩ ⟨⟨hi, hol⟩, hinv⟩
  dsimp only at hi hol hinv ⊢
  refine CW.fact (p := p = none → ws.length = 0) (fun w hC e => sls_nil (hC.s.i _ m2) e) (fun hpa => ?_)
  refine CW.seq (CW.seq (CW.rg (RL.p rfl (RL.p rfl (RL.lenS Tryz.runUnderlying62 rfl rfl rfl rfl (RL.p rfl (RL.nil (NQ.seq ?_))))))))
  refine CW.cond rfl (fun hlt => ?_) (fun hlt => ?_)
  ·
    have hlt : i < ws.length := by simp at hlt; omega
    cases p with
    | none => exact absurd (hpa rfl) (by omega)
    | some a =>
    have hx := List.getElem?_eq_getElem hlt
    have hdr : ws.drop i = ws[i] :: ws.drop (i + 1) := List.drop_eq_getElem_cons hlt
    generalize ws[i] = s at hx hdr
    rw [hdr] at hinv
    have f1 : RdI J (a.add (i * 1)) (strV s) := ⟨fun H => Rd.getS (H := H) (v := strV s) (j := i * 1) m2 (by rw [show i * 1 = i by omega, List.getElem?_map, hx]; rfl)⟩
    cases hv : numT s with
    | none =>
      have hL : numsL ws = none := by rw [hinv, nuNone hv]; rfl
      have hg : Spc Tryz.prog 119 #[strV s] [] [] (Is (.tuple #[.int .i64 (numX s), .bool false])) := by
        have h := rnum_any s
        rw [numP, hv] at h
        exact h
      refine CW.skip (NQ.seq (CW.seq (CW.block (CW.seq (CW.rg (RL.p rfl (RL.p rfl ?_)))))))
      first | refine RL.idxAt (j := i) Tryz.runUnderlying62 Tryz.sizeOf9 rfl rfl rfl rfl rfl rfl (hlt) ?_ | refine RL.idx (j := i) Tryz.runUnderlying62 Tryz.sizeOf9 rfl rfl rfl rfl rfl rfl (hlt) ?_
      refine RL.loadq Tryz.isAgg9 rfl rfl rfl rfl ?_
      refine RL.callvq (hg) Tryz.call119 rfl rfl rfl rfl ?_
      refine RL.p rfl (RL.p rfl (RL.p rfl (RL.p rfl (RL.p rfl (RL.nil (NQ.seq (CW.ok [0, 1, 6, 7, 8, 9] rfl (CW.seq (CW.seq (CW.rg (RL.p rfl (RL.p rfl (RL.nil ?_)))))))))))))
      refine NQ.seq (CW.condT rfl ((by rfl)) ?_)
      refine CW.seq (CW.rg (RL.p rfl (RL.p rfl (RL.nil (NQ.seq (CW.ret (RQ.seq (RQ.block (RQ.seq (RQ.seq (RQ.block (RQ.seq (RQ.ownNone (e := 2) 1 ?_)))))))))))))
      exact RQ.post (res2 rfl rfl rfl) (.keep (Split.none _)) ⟨none, 0, by rw [hL]; rfl, rfl, by rw [hL]; rfl⟩
    | some v =>
      have hg : Spc Tryz.prog 119 #[strV s] [] [] (Is (.tuple #[.int .i64 v, .bool true])) := by
        have h := rnum_any s
        rw [numP, numX_of hv, hv] at h
        exact h
      rw [nuSome hv] at hinv
      refine CW.skip (NQ.seq (CW.seq (CW.block (CW.seq (CW.rg (RL.p rfl (RL.p rfl ?_)))))))
      first | refine RL.idxAt (j := i) Tryz.runUnderlying62 Tryz.sizeOf9 rfl rfl rfl rfl rfl rfl (hlt) ?_ | refine RL.idx (j := i) Tryz.runUnderlying62 Tryz.sizeOf9 rfl rfl rfl rfl rfl rfl (hlt) ?_
      refine RL.loadq Tryz.isAgg9 rfl rfl rfl rfl ?_
      refine RL.callvq (hg) Tryz.call119 rfl rfl rfl rfl ?_
      refine RL.p rfl (RL.p rfl (RL.p rfl (RL.p rfl (RL.p rfl (RL.nil (NQ.seq (CW.ok [0, 1, 6, 7, 8, 9] rfl (CW.seq (CW.seq (CW.rg (RL.p rfl (RL.p rfl (RL.nil ?_)))))))))))))
      refine NQ.seq (CW.condF rfl ((by rfl)) ?_)
      refine CW.skip (NQ.seq (CW.region (ef := [2, 3]) (bk := [3]) (RL.p rfl (RL.p rfl (RL.buildSlice [_] Tryz.runUnderlying189 Tryz.sizeOf2 Tryz.zeroValue2 rfl rfl (by decide) (by decide) rfl rfl rfl rfl rfl rfl ?_)))))
      intro b2
      refine RL.appendq el_189 rfl rfl rfl rfl rfl rfl rfl ?_
      intro ob1 cap1 ho1
      refine RL.p rfl (RL.nil (NQ.block (NQ.seq (CW.ok [0, 1, 6, 7] rfl (CW.rg (RL.p rfl (RL.bx rfl (wrapV_i64 (by omega) (by omega)) ?_)))))))
      refine RL.p rfl (RL.nil ?_)
      refine NQ.round (g := (i, out, ob, cp)) (i + 1, out ++ [v], ob1, cap1) ⟨⟨hlt, by rw [List.length_append, hol]; rfl⟩, by rw [hinv]; cases numsL (ws.drop (i + 1)) <;> simp⟩ (by show ws.length - (i + 1) < ws.length - i; omega) (.cons rfl (.cons rfl (.cons rfl (.cons rfl .nil)))) (fun w h => by
        dsimp only
        rw [show i64s (out ++ [v]) = i64s out ++ [.int .i64 v] from List.map_append]
        exact h.rea (fun _ h => h) (by repeat (first | exact Rea.nil | (apply Rea.cons; (solve | (repeat (first | exact Del.here | apply Del.there)))))))
  · have hin : i = ws.length := by simp at hlt; omega
    subst hin
    rw [List.drop_length] at hinv
    have hL : numsL ws = some out := by rw [hinv]; simp [numsL]
    refine CW.exit (XQ.seq (XQ.seq (XQ.hit (NQ.seq (CW.seq (CW.rg (RL.p rfl (RL.p rfl (RL.lenS Tryz.runUnderlying62 rfl rfl rfl rfl (RL.p rfl (RL.p rfl (RL.p rfl (RL.p rfl ?_)))))))))))))
    refine RL.nil (NQ.seq (CW.ok [4, 5] rfl (CW.ret ?_)))
    refine RQ.post (res2 rfl rfl rfl) (.keep (Split.none _)) ⟨ob, cp, ?_, rfl, ?_⟩
    · rw [hL]
      show Value.tuple #[slO ob ws.length cp, .bool ((ws.length : Int) == (n : Int))] = .tuple #[slO ob out.length cp, .bool (true && decide (ws.length = n))]
      have e : ((ws.length : Int) == (n : Int)) = decide (ws.length = n) := by rw [Bool.eq_iff_iff]; simp <;> omega
      rw [hol, e, Bool.true_and]
    · rw [hL]
      show _ = [own ob cp 2 1 out.length (i64s out)]
      rw [hol]
theorem rsays_any (s : Tx) : Spc Tryz.prog 48 #[strV s] [] [] (Is (.bool (saysT s))) := by
  refine Spc.enter Tryz.func48 rfl rfl rfl (fun w0 hw0 => ?_)
  refine CW.seq (CW.rg (RL.p rfl (RL.nil (NQ.seq (CW.seq (CW.rg (RL.p rfl (RL.cmp rfl rfl rfl rfl rfl (fun w => neq_txt s [] w) ?_))))))))
  refine RL.p rfl ?_
  refine RL.part (d := 5) rfl (fun h => ?_) (fun h => ?_)
  · have hs : s ≠ [] := by simpa using h
    cases s with
    | nil => exact absurd rfl hs
    | cons c r =>
    refine RL.p rfl (RL.idxTxt (j := 0) Tryz.runUnderlying9 rfl rfl rfl rfl rfl rfl rfl (RL.p rfl (RL.p rfl (RL.p rfl (RL.nil (NQ.seq (CW.ok [2] rfl (CW.ret ?_))))))))
    refine RQ.post (res1 rfl rfl) (Split.none _) ⟨?_, rfl, rfl⟩
    congr 1
    rw [saysT, Bool.eq_iff_iff]
    have e : ((c.toNat : Int) = 35) ↔ c = 35#8 := ⟨fun h => BitVec.eq_of_toNat_eq (by show c.toNat = 35; omega), fun h => by rw [h]; rfl⟩
    simp [e]
  · have hs : s = [] := by simpa using h
    subst hs
    refine RL.p rfl (RL.p rfl (RL.p rfl (RL.p rfl (RL.p rfl (RL.nil (NQ.seq (CW.ok [2] rfl (CW.ret ?_))))))))
    exact RQ.post (res1 rfl rfl) (Split.none _) ⟨rfl, rfl, rfl⟩
end Go.Proofs.YthndhipjfdgdfaaGreatDoor

namespace Go.Proofs.YthndhipjfdgdfaaGreatDoor
open Go.PK
/-! ### The reference reads a key -/
noncomputable abbrev keyP (s : Tx) : Value := .tuple #[.agg (bytes ((keyT s).getD (List.replicate 32 0#8))).toArray, .bool (keyT s).isSome]
theorem kyN_num {s : Tx} {i : Nat} {c : B8} (hc : s[i]? = some c) {a : B8} (ha : (if i % 2 = 1 then BitVec.ofNat 8 (hexv (s.getD (i - 1) 0#8)) else 0#8) = a) : Value.int .u8 (IntKind.u8.wrap (16 * (a.toNat : Int) + (hexv c : Int))) = U8 (kyN s i) := by
  have e : s.getD i 0#8 = c := by rw [List.getD_eq_getElem?_getD, hc]; rfl
  have h1 := hexv_lt c
  have hk : (kyN s i).toNat = 16 * a.toNat + hexv c := by
    rw [kyN, e, ← ha]
    by_cases h : i % 2 = 1
    · rw [if_pos h, if_pos h]
      have h2 := hexv_lt (s.getD (i - 1) 0#8)
      simp only [BitVec.toNat_ofNat]
      omega
    · rw [if_neg h, if_neg h]
      simp only [BitVec.toNat_ofNat]
      omega
  have ha2 : 16 * a.toNat + hexv c < 256 := by rw [← hk]; exact (kyN s i).isLt
  rw [wrapV_u8 (by omega) (by omega)]
  show Value.int .u8 _ = Value.int .u8 ((kyN s i).toNat : Int)
  rw [hk]
  congr 1
theorem hexv_dig {c : B8} (h : 48 ≤ c.toNat ∧ c.toNat ≤ 57) : hexd c = some (c.toNat - 48) := by rw [hexd, if_pos h]
theorem hexv_let {c : B8} (h0 : ¬ (48 ≤ c.toNat ∧ c.toNat ≤ 57)) (h : 97 ≤ c.toNat ∧ c.toNat ≤ 102) : hexd c = some (c.toNat - 87) := by rw [hexd, if_neg h0, if_pos h]
theorem hexd_no {c : B8} (h0 : ¬ (48 ≤ c.toNat ∧ c.toNat ≤ 57)) (h : ¬ (97 ≤ c.toNat ∧ c.toNat ≤ 102)) : hexd c = none := by rw [hexd, if_neg h0, if_neg h]
theorem hexOk_bad {s : Tx} {i : Nat} {c : B8} (hc : s[i]? = some c) (h : hexd c = none) : hexOk s = false := by
  rw [Bool.eq_false_iff]
  intro hk
  have := List.all_eq_true.1 hk c (List.mem_of_getElem? hc)
  rw [h] at this
  cases this
theorem rkey_any (s : Tx) : Spc Tryz.prog 84 #[strV s] [] [] (Is (keyP s)) := by
  refine Spc.enter Tryz.func84 rfl rfl rfl (fun w0 hw0 => ?_)
  refine CW.seq (CW.region (ef := [0]) (bk := []) (RL.alloc (cs := List.replicate 32 (U8 0#8)) Tryz.zeroValue29 rfl rfl rfl rfl rfl ?_))
  intro b1
  refine RL.p rfl (RL.nil (NQ.seq (CW.seq (CW.region (ef := [1, 2]) (bk := [2]) (RL.buildA (List.replicate 32 (U8 0#8)) Tryz.zeroValue29 Tryz.runUnderlying29 Tryz.sizeOf5 rfl rfl rfl rfl rfl (RL.alloc (cs := List.replicate 32 (U8 0#8)) Tryz.zeroValue29 rfl rfl rfl rfl rfl ?_))))))
  intro b2
  refine RL.storeWq Tryz.sizeOf29 rfl rfl rfl rfl rfl rfl rfl ?_
  refine RL.nil (NQ.seq (CW.seq (CW.seq (CW.rg (RL.p rfl (RL.lenTxt Tryz.runUnderlying9 rfl rfl rfl rfl (RL.p rfl (RL.nil (NQ.seq ?_)))))))))
  refine CW.cond rfl (fun h64 => ?_) (fun h64 => ?_)
  · have h64' : ¬ s.length = 64 := by simp at h64; omega
    have hk : keyT s = none := by rw [keyT, if_neg (fun h => h64' h.1)]
    refine CW.seq (CW.region (ef := [1]) (bk := [1]) (RL.loadW Tryz.isAgg29 Tryz.sizeOf29 rfl rfl rfl rfl (by repeat (first | exact List.Mem.head _ | apply List.Mem.tail)) (by first | rfl | assumption | (simp only [List.length_map]; assumption) | (simp only [List.length_map, List.length_replicate]; done) | (simp; done)) ?_))
    refine RL.storeWq Tryz.sizeOf29 rfl rfl rfl rfl rfl rfl rfl ?_
    refine RL.p rfl (RL.nil (NQ.seq (CW.ret (RQ.seq ?_))))
    exact RQ.post (resWT rfl rfl rfl Tryz.isAgg29 Tryz.sizeOf29 (by repeat (first | exact List.Mem.head _ | apply List.Mem.tail)) rfl) (Split.none _) ⟨by rw [keyP, hk]; rfl, rfl, rfl⟩
  ·
    have h64' : s.length = 64 := by simp at h64; omega
    refine CW.skip (NQ.seq (CW.seq (CW.seq (CW.rg (RL.p rfl (RL.nil (NQ.seq (CW.block ?_))))))))
    refine CW.loop (γ := Nat) (fun i => i ≤ 64 ∧ hexOk (s.take i) = true) (fun i => [(0, strV s), (2, .pointer (some ⟨b1, 0, none⟩)), (3, .bool false), (4, .pointer (some ⟨b2, 0, none⟩)), (5, .int .i64 (i : Int))]) (fun _ => [])
      (fun i => [cel b2 (bytes (kyS s i)) 29, cel b1 (List.replicate 32 (U8 0#8)) 29]) (fun i => 64 - i) 0 ⟨by omega, rfl⟩
      (.cons rfl (.cons rfl (.cons rfl (.cons rfl (.cons rfl .nil))))) (fun w h => by
        rw [kyS_0]
        exact h.rea (fun _ h => h) (by repeat (first | exact Rea.nil | (apply Rea.cons; (solve | (repeat (first | exact Del.here | apply Del.there))))))) ?_
    rintro i ⟨hi, hok⟩
    have hlk := kyS_len s i
    refine CW.seq (CW.seq (CW.rg (RL.p rfl (RL.p rfl (RL.nil (NQ.seq ?_))))))
    refine CW.cond rfl (fun hlt => ?_) (fun hlt => ?_)
    · have hlt' : i < 64 := by simp at hlt; omega
      have hc : s[i]? = some (s[i]'(by omega)) := List.getElem?_eq_getElem (by omega)
      generalize s[i]'(by omega) = c at hc
      have hky : (bytes (kyS s i))[0 + i / 2 * 1]? = some (U8 (if i % 2 = 1 then BitVec.ofNat 8 (hexv (s.getD (i - 1) 0#8)) else 0#8)) := by
        show (List.map U8 (kyS s i))[_]? = _
        rw [show 0 + i / 2 * 1 = i / 2 by omega, List.getElem?_map, kyS_at hlt']; rfl
      have hdv : IntKind.i64.wrap ((i : Int).tdiv 2) = ((i / 2 : Nat) : Int) := by
        rw [Int.tdiv_eq_ediv_of_nonneg (by omega)]
        simp [IntKind.wrap, IntKind.bits, IntKind.signed]; omega
      generalize ha : (if i % 2 = 1 then BitVec.ofNat 8 (hexv (s.getD (i - 1) 0#8)) else 0#8) = a at hky
      have hal := a.isLt
      have hhl := hexv_lt c
      refine CW.skip (NQ.seq (CW.seq (CW.block (CW.seq (CW.rg (RL.p rfl (RL.nil (NQ.seq (CW.seq (CW.seq (CW.rg (RL.p rfl (RL.p rfl ?_)))))))))))))
      refine RL.idxTxt (j := i) Tryz.runUnderlying9 rfl rfl rfl rfl rfl rfl hc (RL.p rfl (RL.p rfl ?_))
      apply RL.andB (d := 20) (dp := 25) (l' := (Sq.of [])) rfl (sK [0, 2, 3, 4, 5, 6] rfl)
      ·
        intro hb5 K5
        refine RL.p rfl (RL.p rfl (RL.idxTxt (j := i) Tryz.runUnderlying9 rfl rfl rfl rfl rfl rfl hc (RL.p rfl (RL.p rfl ?_))))
        exact K5 _ (.cons rfl (sK [0, 2, 3, 4, 5, 6] rfl))
      ·
        intro hb5 K5
        refine RL.p rfl (RL.p rfl (RL.p rfl (RL.p rfl (RL.p rfl ?_))))
        exact K5 _ (.cons rfl (sK [0, 2, 3, 4, 5, 6] rfl))
      refine RL.nil (NQ.seq ?_)
      refine CW.cond rfl (fun hd1 => ?_) (fun hd1 => ?_)
      ·
        have hd1' : 48 ≤ c.toNat ∧ c.toNat ≤ 57 := by simp at hd1; omega
        have hx := hexv_dig hd1'
        have hd : (hexd c).isSome = true := by rw [hx]; rfl
        have hv : (c.toNat : Int) - 48 = (hexv c : Int) := by rw [hexv, hx]; show _ = ((c.toNat - 48 : Nat) : Int); omega
        refine CW.rg (RL.p rfl (RL.p rfl (RL.idxTxt (j := i) Tryz.runUnderlying9 rfl rfl rfl rfl rfl rfl hc (RL.bx rfl (wrapV_u8 (by omega) (by omega)) ?_))))
        refine RL.conv Tryz.runUnderlying5 Tryz.runUnderlying3 rfl rfl rfl rfl (RL.cast (d := 30) (v' := .int .i64 (hexv c : Int)) rfl (by rw [hv, wrapV_i64 (by omega) (by omega)]) ?_)
        refine RL.p rfl (RL.nil (NQ.seq (CW.ok [0, 2, 3, 4, 5, 6] rfl (CW.region (ef := [12]) (bk := [12]) (RL.p rfl (RL.quo rfl rfl rfl rfl rfl (by decide) ?_))))))
        refine RL.p rfl (RL.quo rfl rfl rfl rfl rfl (by decide) ?_)
        refine RL.idxAAt (j := i / 2) Tryz.runUnderlying29 Tryz.sizeOf5 rfl rfl rfl rfl rfl hdv (by omega) ?_
        refine RL.load Tryz.isAgg5 rfl rfl rfl rfl (Rd.get (by repeat (first | exact List.Mem.head _ | apply List.Mem.tail)) hky) ?_
        refine RL.conv Tryz.runUnderlying5 Tryz.runUnderlying3 rfl rfl rfl rfl (RL.cast (d := 54) (v' := .int .i64 (a.toNat : Int)) rfl (by rw [wrapV_i64 (by omega) (by omega)]) ?_)
        refine RL.bx rfl (wrapV_i64 (by omega) (by omega)) ?_
        refine RL.p rfl (RL.bx rfl (wrapV_i64 (by omega) (by omega)) ?_)
        refine RL.conv Tryz.runUnderlying3 Tryz.runUnderlying5 rfl rfl rfl rfl (RL.cast (d := 58) (v' := U8 (kyN s i)) rfl (kyN_num hc ha) ?_)
        refine RL.idxAAt (j := i / 2) Tryz.runUnderlying29 Tryz.sizeOf5 rfl rfl rfl rfl rfl hdv (by omega) ?_
        refine RL.storeX (vs := [_]) (kyS_step hlt') Tryz.sizeOf5 rfl rfl rfl rfl rfl rfl rfl rfl (by repeat (first | exact Upd.here | apply Upd.there)) (by rw [List.length_map, hlk]; show 0 + i / 2 * 1 + 1 ≤ 32; omega) ?_
        refine RL.nil (NQ.block (NQ.seq (CW.ok [0, 2, 3, 4, 5] rfl (CW.rg (RL.p rfl (RL.bx rfl (wrapV_i64 (by omega) (by omega)) ?_))))))
        refine RL.p rfl (RL.nil ?_)
        refine NQ.round (g := i) (i + 1) ⟨hlt', by rw [hexOk_step hc, hok, hd]; rfl⟩ (by show 64 - (i + 1) < 64 - i; omega) (.cons rfl (.cons rfl (.cons rfl (.cons rfl (.cons rfl .nil))))) (fun w h => h.rea (fun _ h => h) (by repeat (first | exact Rea.nil | (apply Rea.cons; (solve | (repeat (first | exact Del.here | apply Del.there)))))))
      ·
        have hd1' : ¬ (48 ≤ c.toNat ∧ c.toNat ≤ 57) := by simp at hd1; omega
        refine CW.seq (CW.rg (RL.p rfl (RL.p rfl (RL.idxTxt (j := i) Tryz.runUnderlying9 rfl rfl rfl rfl rfl rfl hc (RL.p rfl (RL.p rfl ?_))))))
        apply RL.andB (d := 35) (dp := 40) (l' := (Sq.of [])) rfl (sK [0, 2, 3, 4, 5, 6] rfl)
        ·
          intro hb5 K5
          refine RL.p rfl (RL.p rfl (RL.idxTxt (j := i) Tryz.runUnderlying9 rfl rfl rfl rfl rfl rfl hc (RL.p rfl (RL.p rfl ?_))))
          exact K5 _ (.cons rfl (sK [0, 2, 3, 4, 5, 6] rfl))
        ·
          intro hb5 K5
          refine RL.p rfl (RL.p rfl (RL.p rfl (RL.p rfl (RL.p rfl ?_))))
          exact K5 _ (.cons rfl (sK [0, 2, 3, 4, 5, 6] rfl))
        refine RL.nil (NQ.seq ?_)
        refine CW.cond rfl (fun hd2 => ?_) (fun hd2 => ?_)
        ·
          have hd2' : 97 ≤ c.toNat ∧ c.toNat ≤ 102 := by simp at hd2; omega
          have hx := hexv_let hd1' hd2'
          have hd : (hexd c).isSome = true := by rw [hx]; rfl
          have hv : (c.toNat : Int) - 97 + 10 = (hexv c : Int) := by rw [hexv, hx]; show _ = ((c.toNat - 87 : Nat) : Int); omega
          refine CW.rg (RL.p rfl (RL.p rfl (RL.idxTxt (j := i) Tryz.runUnderlying9 rfl rfl rfl rfl rfl rfl hc (RL.bx rfl (wrapV_u8 (by omega) (by omega)) ?_))))
          refine RL.conv Tryz.runUnderlying5 Tryz.runUnderlying3 rfl rfl rfl rfl (RL.cast (d := 45) (v' := .int .i64 ((c.toNat : Int) - 97)) rfl (by rw [wrapV_i64 (by omega) (by omega)]) ?_)
          refine RL.bx rfl (wrapV_i64 (by omega) (by omega)) ?_
          rw [hv]
          refine RL.p rfl (RL.nil (NQ.seq (CW.ok [0, 2, 3, 4, 5, 6] rfl (CW.region (ef := [12]) (bk := [12]) (RL.p rfl (RL.quo rfl rfl rfl rfl rfl (by decide) ?_))))))
          refine RL.p rfl (RL.quo rfl rfl rfl rfl rfl (by decide) ?_)
          refine RL.idxAAt (j := i / 2) Tryz.runUnderlying29 Tryz.sizeOf5 rfl rfl rfl rfl rfl hdv (by omega) ?_
          refine RL.load Tryz.isAgg5 rfl rfl rfl rfl (Rd.get (by repeat (first | exact List.Mem.head _ | apply List.Mem.tail)) hky) ?_
          refine RL.conv Tryz.runUnderlying5 Tryz.runUnderlying3 rfl rfl rfl rfl (RL.cast (d := 54) (v' := .int .i64 (a.toNat : Int)) rfl (by rw [wrapV_i64 (by omega) (by omega)]) ?_)
          refine RL.bx rfl (wrapV_i64 (by omega) (by omega)) ?_
          refine RL.p rfl (RL.bx rfl (wrapV_i64 (by omega) (by omega)) ?_)
          refine RL.conv Tryz.runUnderlying3 Tryz.runUnderlying5 rfl rfl rfl rfl (RL.cast (d := 58) (v' := U8 (kyN s i)) rfl (kyN_num hc ha) ?_)
          refine RL.idxAAt (j := i / 2) Tryz.runUnderlying29 Tryz.sizeOf5 rfl rfl rfl rfl rfl hdv (by omega) ?_
          refine RL.storeX (vs := [_]) (kyS_step hlt') Tryz.sizeOf5 rfl rfl rfl rfl rfl rfl rfl rfl (by repeat (first | exact Upd.here | apply Upd.there)) (by rw [List.length_map, hlk]; show 0 + i / 2 * 1 + 1 ≤ 32; omega) ?_
          refine RL.nil (NQ.block (NQ.seq (CW.ok [0, 2, 3, 4, 5] rfl (CW.rg (RL.p rfl (RL.bx rfl (wrapV_i64 (by omega) (by omega)) ?_))))))
          refine RL.p rfl (RL.nil ?_)
          refine NQ.round (g := i) (i + 1) ⟨hlt', by rw [hexOk_step hc, hok, hd]; rfl⟩ (by show 64 - (i + 1) < 64 - i; omega) (.cons rfl (.cons rfl (.cons rfl (.cons rfl (.cons rfl .nil))))) (fun w h => h.rea (fun _ h => h) (by repeat (first | exact Rea.nil | (apply Rea.cons; (solve | (repeat (first | exact Del.here | apply Del.there)))))))
        · have hd2' : ¬ (97 ≤ c.toNat ∧ c.toNat ≤ 102) := by simp at hd2; omega
          have hk : keyT s = none := by rw [keyT, if_neg]; rintro ⟨-, h⟩; rw [hexOk_bad hc (hexd_no hd1' hd2')] at h; cases h
          refine CW.seq (CW.region (ef := [1]) (bk := [1]) (RL.buildA (List.replicate 32 (U8 0#8)) Tryz.zeroValue29 Tryz.runUnderlying29 Tryz.sizeOf5 rfl rfl rfl rfl rfl (RL.storeWq Tryz.sizeOf29 rfl rfl rfl rfl rfl rfl rfl ?_)))
          refine RL.p rfl (RL.nil (NQ.seq (CW.ret (RQ.seq (RQ.block (RQ.seq (RQ.seq (RQ.block (RQ.seq ?_)))))))))
          exact RQ.post (resWT rfl rfl rfl Tryz.isAgg29 Tryz.sizeOf29 (by repeat (first | exact List.Mem.head _ | apply List.Mem.tail)) rfl) (Split.none _) ⟨by rw [keyP, hk]; rfl, rfl, rfl⟩
    · have hi' : i = 64 := by simp at hlt; omega
      subst hi'
      have hk : keyT s = some (keyB s) := by rw [keyT, if_pos ⟨h64', by rw [← hok, List.take_of_length_le (by omega)]⟩]
      have hbl : (bytes (kyS s 64)).length = 32 := by rw [List.length_map, hlk]
      refine CW.exit (XQ.seq (XQ.seq (XQ.hit (NQ.seq (CW.seq (CW.region (ef := [1]) (bk := [1]) (RL.loadW Tryz.isAgg29 Tryz.sizeOf29 rfl rfl rfl rfl (by repeat (first | exact List.Mem.head _ | apply List.Mem.tail)) (by first | rfl | assumption | (simp only [List.length_map]; assumption) | (simp only [List.length_map, List.length_replicate, hbl]; done) | (simp; done)) ?_)))))))
      refine RL.storeWq Tryz.sizeOf29 rfl rfl rfl rfl rfl rfl rfl ?_
      refine RL.p rfl (RL.nil (NQ.seq (CW.ok [2, 3] rfl (CW.ret ?_))))
      exact RQ.post (resWT rfl rfl rfl Tryz.isAgg29 Tryz.sizeOf29 (by repeat (first | exact List.Mem.head _ | apply List.Mem.tail)) hbl) (Split.none _) ⟨by rw [keyP, hk, kyS_64]; rfl, rfl, rfl⟩
end Go.Proofs.YthndhipjfdgdfaaGreatDoor

namespace Go.Proofs.YthndhipjfdgdfaaGreatDoor
open Go.PK
/-! ### The reference's lines, its names -/
/-- Lines: an empty one behind the last end of a line is none. -/
def linT (L : List Tx) : List Tx := if L.getLast? = some [] then L.dropLast else L
theorem linT_get {L : List Tx} {i : Nat} (h : i < (linT L).length) : (linT L)[i]? = L[i]? := by
  unfold linT at h ⊢
  split
  · next hl =>
    rw [if_pos hl] at h
    rw [List.length_dropLast] at h
    rw [List.dropLast_eq_take, List.getElem?_take, if_pos h]
  · rfl
def LnsR (L : List Tx) : Value → List It → List It → Prop := fun v I' H' => ∃ b cap c, v = .slice (some ⟨b, 0, none⟩) (linT L).length c ∧ I' = [] ∧ H' = [own (some b) cap 9 1 L.length (L.map strV)]
theorem rlines_any (t : Tx) (ht : t.length < 4294967281) : Spc Tryz.prog 47 #[strV t] [] [] (LnsR (splL 10#8 t)) := by
  have hne := splL_ne (c := 10#8) t
  have hlen := splL_len (c := 10#8) t
  have hct : t.count 10#8 ≤ t.length := List.count_le_length
  refine Spc.enter Tryz.func47 rfl rfl rfl (fun w0 hw0 => ?_)
  refine CW.seq (CW.rg (RL.p rfl (RL.nil (NQ.seq (CW.seq (CW.region (ef := [1]) (bk := [1]) (RL.p rfl (RL.callq (rspl_any 10#8 t ht) Tryz.call49 rfl rfl rfl rfl rfl (.inr rfl) ?_))))))))
  rintro _ _ _ ⟨ob, cap, rfl, rfl, rfl⟩
  generalize splL 10#8 t = L at hne hlen ⊢
  have hpos := List.length_pos_iff.2 hne
  refine RL.p rfl (RL.nil (NQ.seq (CW.seq (CW.seq ?_))))
  refine CW.fact (p := ob.isSome = true ∧ L.length ≤ cap) (fun w hC => ?_) (fun ⟨hob, hcap⟩ => ?_)
  · have h := hC.s.h _ (List.Mem.head _)
    refine ⟨?_, own_cap h⟩
    cases ob with
    | none => have := own_none h; omega
    | some b => rfl
  obtain ⟨b, rfl⟩ := Option.isSome_iff_exists.1 hob
  obtain ⟨s, hs⟩ : ∃ s, L[L.length - 1]? = some s := ⟨_, List.getElem?_eq_getElem (by omega)⟩
  have hlast : L.getLast? = some s := by rw [List.getLast?_eq_getElem?, hs]
  refine CW.rg (RL.p rfl (RL.p rfl (RL.lenS Tryz.runUnderlying62 rfl rfl rfl rfl (RL.bx rfl (wrapV_i64 (by omega) (by omega)) ?_))))
  refine RL.idxAt (j := L.length - 1) Tryz.runUnderlying62 Tryz.sizeOf9 rfl rfl rfl rfl rfl (by omega) (by omega) ?_
  refine RL.load Tryz.isAgg9 rfl rfl rfl rfl (ownRd (by repeat (first | exact List.Mem.head _ | apply List.Mem.tail)) hs) ?_
  refine RL.cmp rfl rfl rfl rfl rfl (fun w => eql_txt s [] w) ?_
  refine RL.nil (NQ.seq (CW.ok [2, 3, 12] rfl ?_))
  refine CW.cond rfl (fun he => ?_) (fun he => ?_)
  · have he' : s = [] := by simpa using he
    subst he'
    have hl : linT L = L.dropLast := by rw [linT, if_pos hlast]
    have hll : (linT L).length = L.length - 1 := by rw [hl, List.length_dropLast]
    have hz : (if cap = 0 then some (⟨b, 0, none⟩ : Addr) else (some (⟨b, 0, none⟩ : Addr)).map (·.add (0 * 1))) = some ⟨b, 0, none⟩ := by split <;> rfl
    refine CW.rg (RL.p rfl (RL.p rfl (RL.lenS Tryz.runUnderlying62 rfl rfl rfl rfl (RL.bx rfl (wrapV_i64 (by omega) (by omega)) ?_))))
    refine RL.slice (lo := 0) (hi := L.length - 1) Tryz.runUnderlying62 Tryz.sizeOf9 rfl rfl rfl rfl rfl (by show some _ = some _; congr 1; omega) (by omega) (by omega) ?_
    refine RL.p rfl (RL.nil (NQ.seq (CW.ok [3] rfl (CW.seq (CW.rg (RL.p rfl (RL.p rfl (RL.nil (NQ.seq (CW.ret ?_))))))))))
    refine RQ.post (res1 rfl rfl) (.keep (Split.none _)) ⟨b, cap, cap, ?_, rfl, rfl⟩
    show Value.slice (if cap = 0 then some (⟨b, 0, none⟩ : Addr) else (some (⟨b, 0, none⟩ : Addr)).map (·.add (0 * 1))) (L.length - 1 - 0) (cap - 0) = _
    rw [hz, hll, Nat.sub_zero, Nat.sub_zero]
  · have he' : ¬ s = [] := by simpa using he
    have hl : linT L = L := by rw [linT, if_neg (by rw [hlast]; exact fun h => he' (Option.some.inj h))]
    refine CW.skip (NQ.seq (CW.seq (CW.rg (RL.p rfl (RL.p rfl (RL.nil (NQ.seq (CW.ret ?_))))))))
    exact RQ.post (res1 rfl rfl) (.keep (Split.none _)) ⟨b, cap, cap, by rw [hl]; rfl, rfl, rfl⟩
theorem rnames_any : Spc Tryz.prog 51 #[] [] [] (fun v I' H' => ∃ b, v = .slice (some ⟨b, 0, none⟩) 9 9 ∧ I' = [] ∧ H' = [own (some b) 9 9 1 9 (nmL.map strV)]) := by
  refine Spc.enter Tryz.func51 rfl rfl rfl (fun w0 hw0 => ?_)
  refine CW.seq (CW.rg (RL.p rfl (RL.nil (NQ.seq (CW.seq (CW.region (ef := [0]) (bk := []) (RL.buildOwn (nmL.map strV) Tryz.runUnderlying62 Tryz.sizeOf9 Tryz.zeroValue9 rfl rfl (by decide) (by decide) rfl (by decide) rfl rfl rfl rfl rfl (by kernel_rfl) ?_)))))))
  intro b1
  refine RL.p rfl (RL.nil (NQ.seq (CW.ret ?_)))
  exact RQ.post (res1 rfl rfl) (.keep (Split.none _)) ⟨b1, rfl, rfl, rfl⟩
end Go.Proofs.YthndhipjfdgdfaaGreatDoor
