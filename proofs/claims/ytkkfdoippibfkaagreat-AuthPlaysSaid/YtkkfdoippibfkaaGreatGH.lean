import Derived.Test.YtkkfdoippibfkaaGreatG12
namespace Go.Proofs.YtkkfdoippibfkaaGreat
open Go.PK

/-! ### Both guards alike -/
def cntD (D : List (Int × Int)) (e : Int) : Int := ((D.find? fun q => q.1 == e).map (·.2)).getD 0
theorem cnt_bump (e e' : Int) : ∀ D : List (Int × Int), cntD (bump e D) e' = if e' = e then IntKind.i64.wrap (cntD D e + 1) else cntD D e'
  | [] => by
    by_cases h : e' = e
    · subst h; simp [bump, cntD]; rfl
    · have h' : ¬ e = e' := fun x => h x.symm
      simp [bump, cntD, h, h']
  | q :: r => by
    have ih := cnt_bump e e' r
    by_cases hq : q.1 = e
    · rw [bump, if_pos hq]
      by_cases h : e' = e
      · subst h; simp [cntD, hq]
      · have h' : ¬ q.1 = e' := fun x => h (by rw [← x, hq])
        simp [cntD, h, h']
    · rw [bump, if_neg hq]
      by_cases h1 : q.1 = e'
      · have h : ¬ e' = e := fun x => hq (by rw [h1, x])
        simp [cntD, h1, h]
      · have e1 : ∀ l, cntD (q :: l) e' = cntD l e' := fun l => by simp [cntD, h1]
        have e2 : cntD (q :: r) e = cntD r e := by simp [cntD, hq]
        rw [e1, ih, e2, e1]
theorem bump_nd (e : Int) : ∀ {D : List (Int × Int)}, (D.map (·.1)).Nodup → ((bump e D).map (·.1)).Nodup
  | [], _ => by simp [bump]
  | q :: r, h => by
    rw [List.map_cons, List.nodup_cons] at h
    by_cases hq : q.1 = e
    · rw [bump, if_pos hq, List.map_cons, List.nodup_cons]; exact h
    · rw [bump, if_neg hq, List.map_cons, List.nodup_cons]
      refine ⟨fun hm => ?_, bump_nd e h.2⟩
      obtain ⟨p, hp, hp1⟩ := List.mem_map.1 hm
      rcases bump_mem hp with h2 | h2
      · exact h.1 (by rw [← hp1]; exact h2)
      · exact hq (by rw [← hp1]; exact h2)
where bump_mem {e : Int} : ∀ {D : List (Int × Int)} {p : Int × Int}, p ∈ bump e D → p.1 ∈ D.map (·.1) ∨ p.1 = e
  | [], p, h => by
    simp [bump] at h; exact .inr (by rw [h])
  | q :: r, p, h => by
    by_cases hq : q.1 = e
    · rw [bump, if_pos hq] at h
      rcases List.mem_cons.1 h with h | h
      · exact .inl (by rw [h]; simp)
      · exact .inl (by simp; exact .inr ⟨_, h⟩)
    · rw [bump, if_neg hq] at h
      rcases List.mem_cons.1 h with h | h
      · exact .inl (by rw [h]; simp)
      · rcases bump_mem h with h | h
        · exact .inl (by rw [List.map_cons]; exact List.mem_cons_of_mem _ h)
        · exact .inr h
theorem cnt_at {D : List (Int × Int)} (h : (D.map (·.1)).Nodup) {i : Nat} {q : Int × Int} (hq : D[i]? = some q) : cntD D q.1 = q.2 := by
  induction D generalizing i with
  | nil => simp at hq
  | cons p r ih =>
    rw [List.map_cons, List.nodup_cons] at h
    cases i with
    | zero => simp at hq; subst hq; simp [cntD]
    | succ i =>
      have hq : r[i]? = some q := by simpa using hq
      have hm : q.1 ∈ r.map (·.1) := List.mem_map.2 ⟨q, List.mem_of_getElem? hq, rfl⟩
      have hne : ¬ p.1 = q.1 := fun e => h.1 (by rw [e]; exact hm)
      have := ih h.2 hq
      rw [← this]; simp [cntD, hne]
structure GAl (B : GB) (Br : RB) (g : GSt) (r : RS) : Prop where
  a : Alike g.T r.R
  l : r.l = g.l
  m : r.M = g.M
  y : ∀ a b, hasW r.W a b = g.Y a b
  d : ∀ e, cntD r.D e = g.D e
  nd : (r.D.map (·.1)).Nodup
theorem hasW_app (W : List (Int × Int)) (s : Int) (ks : List Int) (a b : Int) : hasW (W ++ rts s ks) a b = ((a == s && ks.contains b) || hasW W a b) := by
  rw [hasW, List.any_append, Bool.or_comm]
  congr 1
  rw [Bool.eq_iff_iff]
  simp [rts]
  exact ⟨fun h => ⟨h.2.symm, h.1⟩, fun h => ⟨h.2, h.1.symm⟩⟩
theorem DoS.same {B : GB} {Br : RB} {g g' : GSt} {r r' : RS} {a : Act19} {e k : Nat} {x x' : Int} (hmo : Br.mo = B.mo) (hti : Br.ti = B.ti) (ha : a.Ok) (he : e < 4294967296) (hA' : Alike g'.T r'.R) (h : DoS B Br g r a e g' r' k x x') (hg : GAl B Br g r) : x = x' ∧ GAl B Br g' r' := by
  obtain ⟨hA, hl, hm, hy, hd, hn⟩ := hg
  cases h with
  | roll hT h1 h2 h3 h4 hR h5 h6 h7 h8 =>
    refine ⟨(hA.roll a.s he a.t a.g).2.2, hA', by rw [h5, h1, hl], by rw [h6, h2, hm], fun c d => by rw [h7, h3]; exact hy c d, fun c => by rw [h8, h4]; exact hd c, by rw [h8]; exact hn⟩
  | raise hT h1 h2 h3 h4 hR h5 h6 h7 h8 =>
    have hE := (hA.raise a.s ha.m1).2.2
    have hM : rraM r a.s a.m = graM g a.s a.m := by rw [rraM, graM, hm, hE]
    refine ⟨by rw [graE, rraE, hE], hA', by rw [h5, h1, hl], by rw [h6, h2, hM], fun c d => by rw [h7, h3]; exact hy c d, fun c => by rw [h8, h4]; exact hd c, by rw [h8]; exact hn⟩
  | src b hT h1 h2 h3 h4 hR h5 h6 h7 h8 =>
    have hE := (hA.src a.s (rootK_len a.s) (k6 a) 0).2
    refine ⟨hE, hA', by rw [h5, h1, hl], by rw [h6, h2, hm], fun c d => ?_, fun c => by rw [h8, h4]; exact hd c, by rw [h8]; exact hn⟩
    rw [h7, h3, rsrcW, srcY, ← hE]
    split
    · rw [hasW_app, addY, hy]
    · exact hy c d
  | chk k hk hT h1 h2 h3 h4 hR h5 h6 h7 h8 =>
    have hK : rK r (shF a) a.t = keyM g.T (shF a).sr (shF a).ep a.t := (hA.key _ _ _).symm
    have hY : rY r (shF a) = g.Y (shF a).sr (shF a).kd := hy _ _
    have hX : lkE (rK r (shF a) a.t) (rY r (shF a)) r.l r.M (shF a) a.t = lookE g (shF a) a.t := by rw [hK, hY, hl, hm, lookE_lk]
    refine ⟨hX.symm, hA', ?_, ?_, fun c d => by rw [h7, h3]; exact hy c d, fun c => ?_, by rw [h8]; exact bump_nd _ hn⟩
    · rw [h5, h1, hK, hY, hl, hm, hmo, hti, lookL_lk]
    · rw [h6, h2, hK, hY, hl, hm, lookM_lk]
    · rw [h8, h4, hX, cnt_bump, chkD]
      split
      · rw [hd]
      · exact hd c
end Go.Proofs.YtkkfdoippibfkaaGreat

namespace Go.Proofs.YtkkfdoippibfkaaGreat
open Go.PK

def SrcG (B : GB) (g : GSt) : Value → List It → List It → Prop := fun v I' H' => ∃ ob cp, v = slO ob g.T.length cp ∧ I' = [] ∧ H' = own ob cp 3 1 g.T.length (ints (sortL (srcs g.T))) :: GI B g
theorem gsources_any (B : GB) (g : GSt) (hl : g.T.length ≤ 1000) : Spc Tryz.prog 51 #[.pointer (some ⟨B.gb, 0, none⟩)] [] (GI B g) (SrcG B g) := by
  refine Spc.enter Tryz.func51 rfl rfl rfl (fun w0 hw0 => ?_)
  refine CW.seq ?_
  refine CW.region (ef := []) (bk := []) ?_
  refine RL.assign rfl rfl rfl rfl ?_
  refine RL.nil ?_
  refine NQ.seq ?_
  refine CW.seq ?_
  refine CW.seq ?_
  refine CW.region (ef := []) (bk := []) ?_
  refine RL.move rfl rfl rfl rfl ?_
  refine RL.callvq (gis_any B) Tryz.call34 rfl rfl rfl rfl ?_
  refine RL.not rfl rfl rfl rfl ?_
  refine RL.nil ?_
  refine NQ.seq ?_
  refine CW.condF rfl (rfl) ?_
  refine CW.skip ?_
  refine NQ.seq ?_
  refine CW.seq ?_
  refine CW.region (ef := [4]) (bk := [4]) ?_
  refine RL.move rfl rfl rfl rfl ?_
  refine RL.nilCheck rfl rfl rfl rfl ?_
  refine RL.fieldAddr fa_76_0 rfl rfl rfl rfl ?_
  refine RL.loadq Tryz.isAgg69 rfl rfl rfl rfl ?_
  refine RL.callq (sources_any B.r B.m1 B.m2 g.T g.c hl) Tryz.call77 rfl rfl rfl rfl rfl (.inr rfl) ?_
  rintro _ _ _ ⟨ob, cp, rfl, rfl, rfl⟩
  refine RL.assign rfl rfl rfl rfl ?_
  refine RL.nil ?_
  refine NQ.seq ?_
  refine CW.only (.cons (k := 2) rfl .nil) ?_
  refine CW.ret ?_
  refine RQ.rea (fun _ h => h) (H' := own ob cp 3 1 g.T.length (ints (sortL (srcs g.T))) :: GI B g) (by repeat (first | exact Rea.nil | (apply Rea.cons; (solve | (repeat (first | exact Del.here | apply Del.there)))))) ?_
  exact RQ.post (res1 rfl rfl) (.keep (.keep (.keep (.keep (.keep (.keep (.keep (.keep .nil)))))))) ⟨ob, cp, rfl, rfl, rfl⟩
theorem sameInts_n (p q : Option Addr) (c1 c2 n m : Nat) (a b : List Int) (hn : a.length = n) (hm : b.length = m) (hb : n ≤ maxLen) : Spc Tryz.prog 50 #[.slice p n c1, .slice q m c2] [sls p 1 n (ints a), sls q 1 m (ints b)] [] (Is (.bool (a == b))) := by
  subst hn; subst hm; exact sameInts_any p q c1 c2 a b hb
theorem lk_at8 {l : List Lk} {j : Nat} {x : Lk} (h : j < 8) (hx : l[j]? = some x) : lkAt l (j : Int) = x := by
  rw [lkAt, if_pos (by simp [mayB]; omega), Int.toNat_natCast, hx]; rfl
theorem alike_any (B : GB) (Br : RB) (g : GSt) (r : RS) (hmo : B.mo ≠ 0) (hg : GOk g) (hA : GAl B Br g r) (hd : r.D.length ≤ 50000) : Spc Tryz.prog 22 #[.pointer (some ⟨B.gb, 0, none⟩), .pointer (some ⟨Br.yb, 0, none⟩)] [] (GRI B g Br r) (fun v I' H' => v = .bool true ∧ I' = [] ∧ H' = GRI B g Br r) := by
  have hlR := hA.a.len
  have hlT := hA.a.lenT
  obtain ⟨R, ob, cp, l, M, W, ow, cw, D, od, cd⟩ := r
  have hl : l = g.l := hA.l
  have hM : M = g.M := hA.m
  have hy := hA.y
  have hD := hA.d
  have hn := hA.nd
  have ha := hA.a
  dsimp only at hy hD hn ha hlR hlT hd ⊢
  clear hA
  subst hl hM
  have hl8 := hg.l
  refine Spc.enter Tryz.func22 rfl rfl rfl (fun w0 hw0 => ?_)
  refine CW.seq ?_
  refine CW.region (ef := []) (bk := []) ?_
  refine RL.assign rfl rfl rfl rfl ?_
  refine RL.nil ?_
  refine NQ.seq ?_
  refine CW.seq ?_
  refine CW.seq ?_
  refine CW.region (ef := []) (bk := []) ?_
  refine RL.assign rfl rfl rfl rfl ?_
  refine RL.nil ?_
  refine NQ.seq ?_
  refine CW.block ?_
  refine CW.loop (γ := Nat) (fun j => j ≤ 8) (fun j => [(0, .pointer (some ⟨B.gb, 0, none⟩)), (1, .pointer (some ⟨Br.yb, 0, none⟩)), (5, .int .i64 (j : Int))]) (fun _ => []) (fun _ => GRI B g Br ⟨R, ob, cp, g.l, g.M, W, ow, cw, D, od, cd⟩) (fun j => 8 - j) 0 (by omega) (.cons rfl (.cons rfl (.cons rfl .nil))) (fun w h => h) ?_
  intro j hj
  refine CW.seq ?_
  refine CW.seq ?_
  refine CW.region (ef := []) (bk := []) ?_
  refine RL.move rfl rfl rfl rfl ?_
  refine RL.bin rfl rfl rfl rfl rfl rfl ?_
  refine RL.nil ?_
  refine NQ.seq ?_
  refine CW.cond rfl (fun h8 => ?_) (fun h8 => ?_)
  ·
    have hj8 : j < 8 := by simp at h8; omega
    have hx := List.getElem?_eq_getElem (show j < g.l.length by omega)
    generalize g.l[j] = x at hx
    have hk := lk_at8 hj8 hx
    have g7 := tC_has (msOf_len g.M) (hsOf_get (M := g.M) hj8)
    have g8 : (tC (msOf g.M) (hsOf g.M))[0 + 0 + j * 2 + 0]? = some (.int .u32 ((lastV g.M (j : Int)).1 : Int)) := by
      rw [show 0 + 0 + j * 2 + 0 = j * 2 + 0 by omega, tC, List.getElem?_append_left (by rw [mc_len, msOf_len]; omega), get_flat (f := mc) (n := 2) (fun _ _ => rfl) (msOf_get hj8) (by omega)]; rfl
    have g9 : (tC (msOf g.M) (hsOf g.M))[0 + 0 + j * 2 + 1]? = some (.int .u64 ((lastV g.M (j : Int)).2 : Int)) := by
      rw [show 0 + 0 + j * 2 + 1 = j * 2 + 1 by omega, tC, List.getElem?_append_left (by rw [mc_len, msOf_len]; omega), get_flat (f := mc) (n := 2) (fun _ _ => rfl) (msOf_get hj8) (by omega)]; rfl
    refine CW.skip ?_
    refine NQ.seq ?_
    refine CW.seq ?_
    refine CW.block ?_
    refine CW.seq ?_
    refine CW.region (ef := [6, 7]) (bk := [7]) ?_
    refine RL.move rfl rfl rfl rfl ?_
    refine RL.move rfl rfl rfl rfl ?_
    refine RL.callvq (gmark_any B g (j : Int) hg) Tryz.call11 rfl rfl rfl rfl ?_
    refine RL.move rfl rfl rfl rfl ?_
    refine RL.extract rfl rfl rfl rfl rfl ?_
    refine RL.extract rfl rfl rfl rfl rfl ?_
    refine RL.alloc Tryz.zeroValue40 rfl rfl rfl rfl rfl ?_
    intro b1
    refine RL.store (vs := [_, _]) Tryz.sizeOf40 rfl rfl rfl rfl rfl rfl rfl rfl rfl (by repeat (first | exact Upd.here | apply Upd.there)) ?_
    refine RL.assign rfl rfl rfl rfl ?_
    refine RL.nil ?_
    refine NQ.seq ?_
    refine CW.only (.cons (k := 0) rfl (.cons (k := 1) rfl (.cons (k := 5) rfl (.cons (k := 6) rfl (.cons (k := 7) rfl .nil))))) ?_
    refine CW.seq ?_
    refine CW.region (ef := []) (bk := []) ?_
    refine RL.move rfl rfl rfl rfl ?_
    refine RL.move rfl rfl rfl rfl ?_
    refine RL.callvq (gfails_any B g (j : Int) hmo hg) Tryz.call21 rfl rfl rfl rfl ?_
    refine RL.move rfl rfl rfl rfl ?_
    refine RL.extract rfl rfl rfl rfl rfl ?_
    refine RL.extract rfl rfl rfl rfl rfl ?_
    refine RL.extract rfl rfl rfl rfl rfl ?_
    refine RL.assign rfl rfl rfl rfl ?_
    refine RL.assign rfl rfl rfl rfl ?_
    refine RL.assign rfl rfl rfl rfl ?_
    refine RL.nil ?_
    refine NQ.seq ?_
    refine CW.only (.cons (k := 0) rfl (.cons (k := 1) rfl (.cons (k := 5) rfl (.cons (k := 6) rfl (.cons (k := 7) rfl (.cons (k := 8) rfl (.cons (k := 9) rfl (.cons (k := 10) rfl .nil)))))))) ?_
    refine CW.seq ?_
    refine CW.region (ef := [9, 10]) (bk := [10]) ?_
    refine RL.move rfl rfl rfl rfl ?_
    refine RL.nilCheck rfl rfl rfl rfl ?_
    refine RL.fieldAddr fa_93_2 rfl rfl rfl rfl ?_
    refine RL.loadq Tryz.isAgg77 rfl rfl rfl rfl ?_
    refine RL.move rfl rfl rfl rfl ?_
    refine RL.nilCheck rfl rfl rfl rfl ?_
    refine RL.fieldAddr fa_113_2 rfl rfl rfl rfl ?_
    refine RL.idxAAt (j := j) Tryz.runUnderlying111 Tryz.sizeOf110 rfl rfl rfl rfl rfl rfl hj8 ?_
    refine RL.loadN (vs := [_, _, _]) Tryz.isAgg110 Tryz.sizeOf110 rfl rfl rfl rfl (lk_rds hx (by repeat (first | exact List.Mem.head _ | apply List.Mem.tail))) ?_
    refine RL.alloc Tryz.zeroValue110 rfl rfl rfl rfl rfl ?_
    intro b2
    refine RL.store (vs := [_, _, _]) Tryz.sizeOf110 rfl rfl rfl rfl rfl rfl rfl rfl rfl (by repeat (first | exact Upd.here | apply Upd.there)) ?_
    refine RL.nil ?_
    refine NQ.seq ?_
    refine CW.only (.cons (k := 0) rfl (.cons (k := 1) rfl (.cons (k := 5) rfl (.cons (k := 6) rfl (.cons (k := 7) rfl (.cons (k := 8) rfl (.cons (k := 9) rfl (.cons (k := 10) rfl (.cons (k := 11) rfl .nil))))))))) ?_
    refine CW.seq ?_
    refine CW.regionD (Sq.of [0, 1, 2, 3, 4, 5, 6, 7, 8, 9, 10, 11, 12, 13, 14, 15, 16, 17, 18, 19, 20, 21, 22, 23, 24, 25, 26, 27, 28, 29, 30, 31, 32, 33, 34, 35, 36, 37, 38, 39, 40, 41, 42, 43, 44, 45, 46, 47, 48, 49, 50, 51, 52, 53, 54, 55, 56, 57, 58, 59, 60, 61, 62, 63, 64, 65, 66, 67, 68, 69, 70]) [] [] [0, 1, 2, 3, 5, 6, 7, 8, 10, 11, 12, 14, 15, 16, 18, 19, 20, 21, 22, 24, 25, 26, 27, 29, 30, 31, 33, 34, 35, 36, 37, 39, 40, 41, 42, 43, 45, 46, 47, 48, 49, 51, 52, 53, 54, 55, 57, 58, 59, 60, 61, 63, 64, 65, 67, 69, 70] mixed (by kernel_rfl) ?_
    refine RL.move rfl rfl rfl rfl ?_
    refine RL.move rfl rfl rfl rfl ?_
    refine RL.nilCheck rfl rfl rfl rfl ?_
    refine RL.fieldAddr fa_93_1 rfl rfl rfl rfl ?_
    refine RL.loadq Tryz.isAgg84 rfl rfl rfl rfl ?_
    refine RL.move rfl rfl rfl rfl ?_
    refine RL.nilCheck rfl rfl rfl rfl ?_
    refine RL.fieldAddr fa_89_1 rfl rfl rfl rfl ?_
    refine RL.idxAAt (j := j) Tryz.runUnderlying87 Tryz.sizeOf4 rfl rfl rfl rfl rfl rfl hj8 ?_
    refine RL.loadq Tryz.isAgg4 rfl rfl rfl rfl ?_
    refine RL.cmp rfl rfl rfl rfl rfl (neq_bool Tryz.runUnderlying4 _ _) ?_
    refine RL.move rfl rfl rfl rfl ?_
    apply RL.orB (d := 50) (dp := 64) (l' := (Sq.of [26, 27, 28, 29, 30, 31, 32, 33, 34, 35, 36, 37, 38, 39, 40, 41, 42, 43, 44, 45, 46, 47, 48, 49, 50, 51, 52, 53, 54, 55, 56, 57, 58, 59, 60, 61, 62, 63, 64, 65, 66, 67, 68, 69, 70])) rfl (.cons (k := 0) rfl (.cons (k := 1) rfl (.cons (k := 5) rfl (.cons (k := 6) rfl (.cons (k := 8) rfl (.cons (k := 9) rfl (.cons (k := 10) rfl (.cons (k := 11) rfl .nil))))))))
    ·
      intro hb12 K12
      refine RL.fieldAddr fa_40_0 rfl rfl rfl rfl ?_
      refine RL.loadq Tryz.isAgg32 rfl rfl rfl rfl ?_
      refine RL.move rfl rfl rfl rfl ?_
      refine RL.nilCheck rfl rfl rfl rfl ?_
      refine RL.fieldAddr fa_93_1 rfl rfl rfl rfl ?_
      refine RL.loadq Tryz.isAgg84 rfl rfl rfl rfl ?_
      refine RL.move rfl rfl rfl rfl ?_
      refine RL.nilCheck rfl rfl rfl rfl ?_
      refine RL.fieldAddr fa_89_0 rfl rfl rfl rfl ?_
      refine RL.idxAAt (j := j) Tryz.runUnderlying86 Tryz.sizeOf85 rfl rfl rfl rfl rfl rfl hj8 ?_
      refine RL.fieldAddr fa_85_0 rfl rfl rfl rfl ?_
      refine RL.loadq Tryz.isAgg32 rfl rfl rfl rfl ?_
      refine RL.bin rfl rfl rfl rfl rfl rfl ?_
      refine RL.pickF rfl rfl rfl rfl rfl ?_
      exact K12 _ (.cons rfl (.cons (k := 0) rfl (.cons (k := 1) rfl (.cons (k := 5) rfl (.cons (k := 6) rfl (.cons (k := 8) rfl (.cons (k := 9) rfl (.cons (k := 10) rfl (.cons (k := 11) rfl .nil)))))))))
    ·
      intro hb12 K12
      refine RL.skip rfl rfl rfl rfl ?_
      refine RL.skip rfl rfl rfl rfl ?_
      refine RL.skip rfl rfl rfl rfl ?_
      refine RL.skip rfl rfl rfl rfl ?_
      refine RL.skip rfl rfl rfl rfl ?_
      refine RL.skip rfl rfl rfl rfl ?_
      refine RL.skip rfl rfl rfl rfl ?_
      refine RL.skip rfl rfl rfl rfl ?_
      refine RL.skip rfl rfl rfl rfl ?_
      refine RL.skip rfl rfl rfl rfl ?_
      refine RL.skip rfl rfl rfl rfl ?_
      refine RL.skip rfl rfl rfl rfl ?_
      refine RL.skip rfl rfl rfl rfl ?_
      refine RL.pickT rfl rfl rfl rfl rfl ?_
      exact K12 _ (.cons rfl (.cons (k := 0) rfl (.cons (k := 1) rfl (.cons (k := 5) rfl (.cons (k := 6) rfl (.cons (k := 8) rfl (.cons (k := 9) rfl (.cons (k := 10) rfl (.cons (k := 11) rfl .nil)))))))))
    refine RL.move rfl rfl rfl rfl ?_
    apply RL.orB (d := 65) (dp := 79) (l' := (Sq.of [41, 42, 43, 44, 45, 46, 47, 48, 49, 50, 51, 52, 53, 54, 55, 56, 57, 58, 59, 60, 61, 62, 63, 64, 65, 66, 67, 68, 69, 70])) rfl (.cons (k := 0) rfl (.cons (k := 1) rfl (.cons (k := 5) rfl (.cons (k := 8) rfl (.cons (k := 9) rfl (.cons (k := 10) rfl (.cons (k := 11) rfl .nil)))))))
    ·
      intro hb27 K27
      refine RL.fieldAddr fa_40_1 rfl rfl rfl rfl ?_
      refine RL.loadq Tryz.isAgg33 rfl rfl rfl rfl ?_
      refine RL.move rfl rfl rfl rfl ?_
      refine RL.nilCheck rfl rfl rfl rfl ?_
      refine RL.fieldAddr fa_93_1 rfl rfl rfl rfl ?_
      refine RL.loadq Tryz.isAgg84 rfl rfl rfl rfl ?_
      refine RL.move rfl rfl rfl rfl ?_
      refine RL.nilCheck rfl rfl rfl rfl ?_
      refine RL.fieldAddr fa_89_0 rfl rfl rfl rfl ?_
      refine RL.idxAAt (j := j) Tryz.runUnderlying86 Tryz.sizeOf85 rfl rfl rfl rfl rfl rfl hj8 ?_
      refine RL.fieldAddr fa_85_1 rfl rfl rfl rfl ?_
      refine RL.loadq Tryz.isAgg33 rfl rfl rfl rfl ?_
      refine RL.bin rfl rfl rfl rfl rfl rfl ?_
      refine RL.pickF rfl rfl rfl rfl rfl ?_
      exact K27 _ (.cons rfl (.cons (k := 0) rfl (.cons (k := 1) rfl (.cons (k := 5) rfl (.cons (k := 8) rfl (.cons (k := 9) rfl (.cons (k := 10) rfl (.cons (k := 11) rfl .nil))))))))
    ·
      intro hb27 K27
      refine RL.skip rfl rfl rfl rfl ?_
      refine RL.skip rfl rfl rfl rfl ?_
      refine RL.skip rfl rfl rfl rfl ?_
      refine RL.skip rfl rfl rfl rfl ?_
      refine RL.skip rfl rfl rfl rfl ?_
      refine RL.skip rfl rfl rfl rfl ?_
      refine RL.skip rfl rfl rfl rfl ?_
      refine RL.skip rfl rfl rfl rfl ?_
      refine RL.skip rfl rfl rfl rfl ?_
      refine RL.skip rfl rfl rfl rfl ?_
      refine RL.skip rfl rfl rfl rfl ?_
      refine RL.skip rfl rfl rfl rfl ?_
      refine RL.skip rfl rfl rfl rfl ?_
      refine RL.pickT rfl rfl rfl rfl rfl ?_
      exact K27 _ (.cons rfl (.cons (k := 0) rfl (.cons (k := 1) rfl (.cons (k := 5) rfl (.cons (k := 8) rfl (.cons (k := 9) rfl (.cons (k := 10) rfl (.cons (k := 11) rfl .nil))))))))
    refine RL.move rfl rfl rfl rfl ?_
    apply RL.orB (d := 80) (dp := 85) (l' := (Sq.of [47, 48, 49, 50, 51, 52, 53, 54, 55, 56, 57, 58, 59, 60, 61, 62, 63, 64, 65, 66, 67, 68, 69, 70])) rfl (.cons (k := 0) rfl (.cons (k := 1) rfl (.cons (k := 5) rfl (.cons (k := 9) rfl (.cons (k := 10) rfl (.cons (k := 11) rfl .nil))))))
    ·
      intro hb42 K42
      refine RL.move rfl rfl rfl rfl ?_
      refine RL.fieldAddr fa_110_0 rfl rfl rfl rfl ?_
      refine RL.loadq Tryz.isAgg3 rfl rfl rfl rfl ?_
      refine RL.bin rfl rfl rfl rfl rfl rfl ?_
      refine RL.pickF rfl rfl rfl rfl rfl ?_
      exact K42 _ (.cons rfl (.cons (k := 0) rfl (.cons (k := 1) rfl (.cons (k := 5) rfl (.cons (k := 9) rfl (.cons (k := 10) rfl (.cons (k := 11) rfl .nil)))))))
    ·
      intro hb42 K42
      refine RL.skip rfl rfl rfl rfl ?_
      refine RL.skip rfl rfl rfl rfl ?_
      refine RL.skip rfl rfl rfl rfl ?_
      refine RL.skip rfl rfl rfl rfl ?_
      refine RL.pickT rfl rfl rfl rfl rfl ?_
      exact K42 _ (.cons rfl (.cons (k := 0) rfl (.cons (k := 1) rfl (.cons (k := 5) rfl (.cons (k := 9) rfl (.cons (k := 10) rfl (.cons (k := 11) rfl .nil)))))))
    refine RL.move rfl rfl rfl rfl ?_
    apply RL.orB (d := 86) (dp := 91) (l' := (Sq.of [53, 54, 55, 56, 57, 58, 59, 60, 61, 62, 63, 64, 65, 66, 67, 68, 69, 70])) rfl (.cons (k := 0) rfl (.cons (k := 1) rfl (.cons (k := 5) rfl (.cons (k := 10) rfl (.cons (k := 11) rfl .nil)))))
    ·
      intro hb48 K48
      refine RL.move rfl rfl rfl rfl ?_
      refine RL.fieldAddr fa_110_2 rfl rfl rfl rfl ?_
      refine RL.loadq Tryz.isAgg3 rfl rfl rfl rfl ?_
      refine RL.bin rfl rfl rfl rfl rfl rfl ?_
      refine RL.pickF rfl rfl rfl rfl rfl ?_
      exact K48 _ (.cons rfl (.cons (k := 0) rfl (.cons (k := 1) rfl (.cons (k := 5) rfl (.cons (k := 10) rfl (.cons (k := 11) rfl .nil))))))
    ·
      intro hb48 K48
      refine RL.skip rfl rfl rfl rfl ?_
      refine RL.skip rfl rfl rfl rfl ?_
      refine RL.skip rfl rfl rfl rfl ?_
      refine RL.skip rfl rfl rfl rfl ?_
      refine RL.pickT rfl rfl rfl rfl rfl ?_
      exact K48 _ (.cons rfl (.cons (k := 0) rfl (.cons (k := 1) rfl (.cons (k := 5) rfl (.cons (k := 10) rfl (.cons (k := 11) rfl .nil))))))
    refine RL.move rfl rfl rfl rfl ?_
    apply RL.orB (d := 92) (dp := 97) (l' := (Sq.of [59, 60, 61, 62, 63, 64, 65, 66, 67, 68, 69, 70])) rfl (.cons (k := 0) rfl (.cons (k := 1) rfl (.cons (k := 5) rfl .nil)))
    ·
      intro hb54 K54
      refine RL.move rfl rfl rfl rfl ?_
      refine RL.fieldAddr fa_110_1 rfl rfl rfl rfl ?_
      refine RL.loadq Tryz.isAgg3 rfl rfl rfl rfl ?_
      refine RL.bin rfl rfl rfl rfl rfl rfl ?_
      refine RL.pickF rfl rfl rfl rfl rfl ?_
      exact K54 _ (.cons rfl (.cons (k := 0) rfl (.cons (k := 1) rfl (.cons (k := 5) rfl .nil))))
    ·
      intro hb54 K54
      refine RL.skip rfl rfl rfl rfl ?_
      refine RL.skip rfl rfl rfl rfl ?_
      refine RL.skip rfl rfl rfl rfl ?_
      refine RL.skip rfl rfl rfl rfl ?_
      refine RL.pickT rfl rfl rfl rfl rfl ?_
      exact K54 _ (.cons rfl (.cons (k := 0) rfl (.cons (k := 1) rfl (.cons (k := 5) rfl .nil))))
    refine RL.move rfl rfl rfl rfl ?_
    apply RL.orB (d := 98) (dp := 109) (l' := (Sq.of [])) rfl (.cons (k := 0) rfl (.cons (k := 1) rfl (.cons (k := 5) rfl .nil)))
    ·
      intro hb60 K60
      refine RL.move rfl rfl rfl rfl ?_
      refine RL.move rfl rfl rfl rfl ?_
      refine RL.callvq (gepoch_any B g (j : Int) hg) Tryz.call12 rfl rfl rfl rfl ?_
      refine RL.move rfl rfl rfl rfl ?_
      refine RL.nilCheck rfl rfl rfl rfl ?_
      refine RL.fieldAddr fa_93_0 rfl rfl rfl rfl ?_
      refine RL.loadq Tryz.isAgg80 rfl rfl rfl rfl ?_
      refine RL.move rfl rfl rfl rfl ?_
      refine RL.callvq (repoch_any Br.y R ob cp (j : Int) ha.r (by omega)) Tryz.call28 rfl rfl rfl rfl ?_
      refine RL.bin rfl rfl rfl rfl rfl rfl ?_
      refine RL.pickF rfl rfl rfl rfl rfl ?_
      exact K60 _ (.cons rfl (.cons (k := 0) rfl (.cons (k := 1) rfl (.cons (k := 5) rfl .nil))))
    ·
      intro hb60 K60
      refine RL.skip rfl rfl rfl rfl ?_
      refine RL.skip rfl rfl rfl rfl ?_
      refine RL.skip rfl rfl rfl rfl ?_
      refine RL.skip rfl rfl rfl rfl ?_
      refine RL.skip rfl rfl rfl rfl ?_
      refine RL.skip rfl rfl rfl rfl ?_
      refine RL.skip rfl rfl rfl rfl ?_
      refine RL.skip rfl rfl rfl rfl ?_
      refine RL.skip rfl rfl rfl rfl ?_
      refine RL.skip rfl rfl rfl rfl ?_
      refine RL.pickT rfl rfl rfl rfl rfl ?_
      exact K60 _ (.cons rfl (.cons (k := 0) rfl (.cons (k := 1) rfl (.cons (k := 5) rfl .nil))))
    refine RL.nil ?_
    refine NQ.seq ?_
    refine CW.condF rfl ((by rw [hk, ha.epoch]; simp)) ?_
    refine CW.skip ?_
    refine NQ.block ?_
    refine NQ.seq ?_
    refine CW.region (ef := []) (bk := []) ?_
    refine RL.move rfl rfl rfl rfl ?_
    refine RL.binX rfl rfl rfl rfl rfl rfl (wrapV_i64 (by omega) (by omega)) ?_
    refine RL.assign rfl rfl rfl rfl ?_
    refine RL.nil ?_
    refine NQ.round (g := j) (j + 1) hj8 (by show 8 - (j + 1) < 8 - j; omega) (.cons rfl (.cons rfl (.cons rfl .nil))) (fun w h => h.rea (fun _ h => h) (by repeat (first | exact Rea.nil | (apply Rea.cons; (solve | (repeat (first | exact Del.here | apply Del.there)))))))
  ·
    refine CW.exit ?_
    refine XQ.seq ?_
    refine XQ.seq ?_
    refine XQ.hit ?_
    refine NQ.seq ?_
    refine CW.seq ?_
    refine CW.seq ?_
    refine CW.region (ef := []) (bk := []) ?_
    refine RL.assign rfl rfl rfl rfl ?_
    refine RL.nil ?_
    refine NQ.seq ?_
    refine CW.block ?_
    have hj8 : j = 8 := by simp at h8; omega
    subst hj8
    refine CW.fact (p := od = none → D.length = 0) (fun w hC e => by
      have := own_sls (hC.s.h (own od cd 115 2 D.length (wcs D)) (by repeat (first | exact List.Mem.head _ | apply List.Mem.tail)))
      exact sls_nil this (by rw [e]; rfl)) (fun hpa => ?_)
    refine CW.loop (γ := Nat) (fun i => i ≤ D.length) (fun i => [(0, .pointer (some ⟨B.gb, 0, none⟩)), (1, .pointer (some ⟨Br.yb, 0, none⟩)), (12, .int .i64 (i : Int))]) (fun _ => []) (fun _ => GRI B g Br ⟨R, ob, cp, g.l, g.M, W, ow, cw, D, od, cd⟩) (fun i => D.length - i) 0 (by omega) (.cons rfl (.cons rfl (.cons rfl .nil))) (fun w h => h) ?_
    intro i hi
    refine CW.seq ?_
    refine CW.seq ?_
    refine CW.region (ef := []) (bk := []) ?_
    refine RL.move rfl rfl rfl rfl ?_
    refine RL.move rfl rfl rfl rfl ?_
    refine RL.nilCheck rfl rfl rfl rfl ?_
    refine RL.fieldAddr fa_93_4 rfl rfl rfl rfl ?_
    refine RL.loadq Tryz.isAgg91 rfl rfl rfl rfl ?_
    refine RL.lenS Tryz.runUnderlying91 rfl rfl rfl rfl ?_
    refine RL.bin rfl rfl rfl rfl rfl rfl ?_
    refine RL.nil ?_
    refine NQ.seq ?_
    refine CW.only (.cons (k := 0) rfl (.cons (k := 1) rfl (.cons (k := 12) rfl (.cons (k := 116) rfl .nil)))) ?_
    refine CW.cond rfl (fun hlt => ?_) (fun hlt => ?_)
    ·
      have hi2 : i < D.length := by simp at hlt; omega
      clear hlt
      cases od with
      | none => exact absurd (hpa rfl) (by omega)
      | some ba =>
      have hx := List.getElem?_eq_getElem hi2
      generalize D[i] = q at hx
      have hc : g.D q.1 = q.2 := by rw [← hD]; exact cnt_at hn hx
      have q0 : Rd [] (GRI B g Br ⟨R, ob, cp, g.l, g.M, W, ow, cw, D, some ba, cd⟩) ⟨ba, 0 + i * 2 + 0, none⟩ (.int .i64 q.1) := wc_rdH (show own (some ba) cd 115 2 D.length (wcs D) ∈ GRI B g Br ⟨R, ob, cp, g.l, g.M, W, ow, cw, D, some ba, cd⟩ from (by repeat (first | exact List.Mem.head _ | apply List.Mem.tail))) hx rfl
      have q1 : Rd [] (GRI B g Br ⟨R, ob, cp, g.l, g.M, W, ow, cw, D, some ba, cd⟩) ⟨ba, 0 + i * 2 + 1, none⟩ (.int .i64 q.2) := wc_rdH (show own (some ba) cd 115 2 D.length (wcs D) ∈ GRI B g Br ⟨R, ob, cp, g.l, g.M, W, ow, cw, D, some ba, cd⟩ from (by repeat (first | exact List.Mem.head _ | apply List.Mem.tail))) hx rfl
      refine CW.skip ?_
      refine NQ.seq ?_
      refine CW.seq ?_
      refine CW.block ?_
      refine CW.seq ?_
      refine CW.regionD (Sq.of [0, 1, 2, 3, 4, 5, 6, 7, 8, 9, 10, 11, 12, 13, 14, 15, 16, 17, 18]) [] [] [0, 1, 2, 3, 5, 6, 7, 10, 11, 12, 14, 15, 16, 18] mixed (by kernel_rfl) ?_
      refine RL.move rfl rfl rfl rfl ?_
      refine RL.move rfl rfl rfl rfl ?_
      refine RL.nilCheck rfl rfl rfl rfl ?_
      refine RL.fieldAddr fa_93_4 rfl rfl rfl rfl ?_
      refine RL.loadq Tryz.isAgg91 rfl rfl rfl rfl ?_
      refine RL.move rfl rfl rfl rfl ?_
      refine RL.idxAt (j := i) Tryz.runUnderlying91 Tryz.sizeOf115 rfl rfl rfl rfl rfl rfl (hi2) ?_
      refine RL.fieldAddr fa_115_0 rfl rfl rfl rfl ?_
      refine RL.loadq Tryz.isAgg25 rfl rfl rfl rfl ?_
      refine RL.callvq (gcount_any B g.ct g.D q.1 hg.d) Tryz.call23 rfl rfl rfl rfl ?_
      refine RL.move rfl rfl rfl rfl ?_
      refine RL.nilCheck rfl rfl rfl rfl ?_
      refine RL.fieldAddr fa_93_4 rfl rfl rfl rfl ?_
      refine RL.loadq Tryz.isAgg91 rfl rfl rfl rfl ?_
      refine RL.move rfl rfl rfl rfl ?_
      refine RL.idxAt (j := i) Tryz.runUnderlying91 Tryz.sizeOf115 rfl rfl rfl rfl rfl rfl (hi2) ?_
      refine RL.fieldAddr fa_115_1 rfl rfl rfl rfl ?_
      refine RL.loadq Tryz.isAgg3 rfl rfl rfl rfl ?_
      refine RL.bin rfl rfl rfl rfl rfl rfl ?_
      refine RL.nil ?_
      refine NQ.seq ?_
      refine CW.only (.cons (k := 0) rfl (.cons (k := 1) rfl (.cons (k := 12) rfl (.cons (k := 137) rfl .nil)))) ?_
      refine CW.condF rfl ((by rw [hc]; simp)) ?_
      refine CW.skip ?_
      refine NQ.block ?_
      refine NQ.seq ?_
      refine CW.region (ef := []) (bk := []) ?_
      refine RL.move rfl rfl rfl rfl ?_
      refine RL.binX rfl rfl rfl rfl rfl rfl (wrapV_i64 (by omega) (by omega)) ?_
      refine RL.assign rfl rfl rfl rfl ?_
      refine RL.nil ?_
      refine NQ.round (g := i) (i + 1) hi2 (by show D.length - (i + 1) < D.length - i; omega) (.cons rfl (.cons rfl (.cons rfl .nil))) (fun w h => h.rea (fun _ h => h) (by repeat (first | exact Rea.nil | (apply Rea.cons; (solve | (repeat (first | exact Del.here | apply Del.there)))))))
    · have hl1000 : g.T.length ≤ 1000 := by omega
      refine CW.exit ?_
      refine XQ.seq ?_
      refine XQ.seq ?_
      refine XQ.hit ?_
      refine NQ.seq ?_
      refine CW.seq ?_
      refine CW.regionD (.cons 0 (.cons 2 (.cons 3 (.cons 4 (.fork [1, 5] (fun k => (bif Nat.beq k 1 then (Sq.of [5, 6, 7, 8]) else (Sq.of [1, 6, 7, 8])))))))) [1, 6] [1] [0, 2, 3, 4, 8] mixed (by kernel_rfl) ?_
      refine RL.move rfl rfl rfl rfl ?_
      refine RL.move rfl rfl rfl rfl ?_
      refine RL.nilCheck rfl rfl rfl rfl ?_
      refine RL.fieldAddr fa_93_0 rfl rfl rfl rfl ?_
      refine RL.fork ⟨?_, ?_, trivial⟩
      ·
        refine RL.callq (gsources_any B g hl1000) Tryz.call51 rfl rfl rfl rfl rfl (.inr rfl) ?_
        rintro _ _ _ ⟨o3, c3, rfl, rfl, rfl⟩
        refine RL.loadq Tryz.isAgg80 rfl rfl rfl rfl ?_
        refine RL.callq (rsources_any Br.y R ob cp ha.r (by omega)) Tryz.call52 rfl rfl rfl rfl rfl (.inl rfl) ?_
        rintro _ _ _ ⟨o4, c4, rfl, rfl, rfl⟩
        refine RL.callv (sameInts_n _ _ c3 c4 g.T.length R.length (sortL (srcs g.T)) (srcR R) (by rw [List.length_mergeSort, srcs, List.length_map]) (by rw [srcR, List.length_map]) (by unfold maxLen; omega)) Tryz.call50 rfl rfl rfl rfl (Lend.own (by repeat (first | exact List.Mem.head _ | apply List.Mem.tail)) (Lend.own (by repeat (first | exact List.Mem.head _ | apply List.Mem.tail)) .nil)) ?_
        refine RL.assign rfl rfl rfl rfl ?_
        refine RL.nil ?_
        refine NQ.seq ?_
        refine CW.only (.cons (k := 4) rfl .nil) ?_
        refine CW.ret ?_
        exact RQ.rea (fun _ h => h) (H' := GRI B g Br ⟨R, ob, cp, g.l, g.M, W, ow, cw, D, od, cd⟩) (by repeat (first | exact Rea.nil | (apply Rea.cons; (solve | (repeat (first | exact Del.here | apply Del.there)))))) (RQ.post (res1 rfl rfl) (.keep (.keep (.keep (.keep (.keep (.keep (.keep (.keep (.keep (.keep (.keep (.keep (.keep (.keep .nil)))))))))))))) ⟨by simp [ha.srcs], rfl, rfl⟩)
      ·
        refine RL.loadq Tryz.isAgg80 rfl rfl rfl rfl ?_
        refine RL.callq (gsources_any B g hl1000) Tryz.call51 rfl rfl rfl rfl rfl (.inr rfl) ?_
        rintro _ _ _ ⟨o3, c3, rfl, rfl, rfl⟩
        refine RL.callq (rsources_any Br.y R ob cp ha.r (by omega)) Tryz.call52 rfl rfl rfl rfl rfl (.inl rfl) ?_
        rintro _ _ _ ⟨o4, c4, rfl, rfl, rfl⟩
        refine RL.callv (sameInts_n _ _ c3 c4 g.T.length R.length (sortL (srcs g.T)) (srcR R) (by rw [List.length_mergeSort, srcs, List.length_map]) (by rw [srcR, List.length_map]) (by unfold maxLen; omega)) Tryz.call50 rfl rfl rfl rfl (Lend.own (by repeat (first | exact List.Mem.head _ | apply List.Mem.tail)) (Lend.own (by repeat (first | exact List.Mem.head _ | apply List.Mem.tail)) .nil)) ?_
        refine RL.assign rfl rfl rfl rfl ?_
        refine RL.nil ?_
        refine NQ.seq ?_
        refine CW.only (.cons (k := 4) rfl .nil) ?_
        refine CW.ret ?_
        exact RQ.rea (fun _ h => h) (H' := GRI B g Br ⟨R, ob, cp, g.l, g.M, W, ow, cw, D, od, cd⟩) (by repeat (first | exact Rea.nil | (apply Rea.cons; (solve | (repeat (first | exact Del.here | apply Del.there)))))) (RQ.post (res1 rfl rfl) (.keep (.keep (.keep (.keep (.keep (.keep (.keep (.keep (.keep (.keep (.keep (.keep (.keep (.keep .nil)))))))))))))) ⟨by simp [ha.srcs], rfl, rfl⟩)
end Go.Proofs.YtkkfdoippibfkaaGreat

namespace Go.Proofs.YtkkfdoippibfkaaGreat
open Go.PK

/-! ### AuthPlays -/
structure PL.ok (B : GB) (Br : RB) (n : Nat) (z : TG) : Prop where
  i : z.i ≤ n
  g : GOk z.g
  a : GAl B Br z.g z.r
  l : z.r.l.length = 8
  w : z.r.W.length ≤ 6 * z.i
  d : z.r.D.length ≤ z.i
theorem gal0 (B : GB) (Br : RB) : GAl B Br g0 rs0 := ⟨alike_nil, rfl, rfl, fun _ _ => rfl, fun _ => rfl, .nil⟩
theorem aplays (p : Option Addr) (n : Nat) (L : List Act19) (most time : Int) (hL : ∀ x ∈ L, x.Ok) (hc : L.length ≤ n) :
    Spc Tryz.prog 5 #[.int .i64 most, .int .i64 time, .slice p L.length n] (sls p 32 L.length (L.flatMap Act19.cells) :: L.flatMap Act19.its) [] (Is (.bool true)) := by
  generalize hJ : (sls p 32 L.length (L.flatMap Act19.cells) :: L.flatMap Act19.its) = J
  have m1 : sls p 32 L.length (L.flatMap Act19.cells) ∈ J := by rw [← hJ]; exact List.Mem.head _
  have m3 : ∀ y ∈ L.flatMap Act19.its, y ∈ J := fun y hy => by rw [← hJ]; exact List.Mem.tail _ hy
  clear hJ
  by_cases hok : 1 ≤ most ∧ most ≤ 1000 ∧ 1 ≤ time ∧ time ≤ 65535
  · obtain ⟨h1, h2, h3, h4⟩ := hok
    refine Spc.enter Tryz.func5 rfl rfl rfl (fun w0 hw0 => ?_)
    refine CW.seq ?_
    refine CW.region (ef := []) (bk := []) ?_
    refine RL.assign rfl rfl rfl rfl ?_
    refine RL.nil ?_
    refine NQ.seq ?_
    refine CW.seq ?_
    refine CW.region (ef := [2]) (bk := [2]) ?_
    refine RL.move rfl rfl rfl rfl ?_
    refine RL.move rfl rfl rfl rfl ?_
    refine RL.callq (gnew_yes most time h1 h2 h3 h4) Tryz.call7 rfl rfl rfl rfl rfl (.inr rfl) ?_
    rintro _ _ _ ⟨B, hmo', hti', rfl, rfl, rfl⟩
    have hmo : B.mo ≠ 0 := by rw [hmo']; omega
    refine RL.move rfl rfl rfl rfl ?_
    refine RL.extract rfl rfl rfl rfl rfl ?_
    refine RL.extract rfl rfl rfl rfl rfl ?_
    refine RL.assign rfl rfl rfl rfl ?_
    refine RL.assign rfl rfl rfl rfl ?_
    refine RL.nil ?_
    refine NQ.seq ?_
    refine CW.only (.cons (k := 0) rfl (.cons (k := 1) rfl (.cons (k := 2) rfl (.cons (k := 7) rfl (.cons (k := 8) rfl .nil))))) ?_
    refine CW.seq ?_
    refine CW.region (ef := [2]) (bk := [2]) ?_
    refine RL.move rfl rfl rfl rfl ?_
    refine RL.move rfl rfl rfl rfl ?_
    refine RL.callq (rgnew_yes most time h1 h2 h3 h4) Tryz.call9 rfl rfl rfl rfl rfl (.inr rfl) ?_
    rintro _ _ _ ⟨Br, hrm, hrt, rfl, rfl, rfl⟩
    have hmm : Br.mo = B.mo := by rw [hrm, hmo']
    have htt : Br.ti = B.ti := by rw [hrt, hti']
    refine RL.move rfl rfl rfl rfl ?_
    refine RL.extract rfl rfl rfl rfl rfl ?_
    refine RL.extract rfl rfl rfl rfl rfl ?_
    refine RL.assign rfl rfl rfl rfl ?_
    refine RL.assign rfl rfl rfl rfl ?_
    refine RL.nil ?_
    refine NQ.seq ?_
    refine CW.only (.cons (k := 2) rfl (.cons (k := 7) rfl (.cons (k := 8) rfl (.cons (k := 9) rfl (.cons (k := 10) rfl .nil))))) ?_
    refine CW.seq ?_
    refine CW.seq ?_
    refine CW.region (ef := []) (bk := []) ?_
    refine RL.move rfl rfl rfl rfl ?_
    refine RL.move rfl rfl rfl rfl ?_
    refine RL.bin rfl rfl rfl rfl rfl rfl ?_
    refine RL.move rfl rfl rfl rfl ?_
    apply RL.orB (d := 27) (dp := 33) (l' := (Sq.of [])) rfl (.cons (k := 2) rfl (.cons (k := 7) rfl (.cons (k := 9) rfl .nil)))
    ·
      intro hb4 K4
      refine RL.move rfl rfl rfl rfl ?_
      refine RL.cmp rfl rfl rfl rfl rfl (eql_ptr Tryz.runUnderlying24 _) ?_
      refine RL.move rfl rfl rfl rfl ?_
      refine RL.cmp rfl rfl rfl rfl rfl (eql_ptr Tryz.runUnderlying29 _) ?_
      refine RL.cmp rfl rfl rfl rfl rfl (neq_bool Tryz.runUnderlying4 _ _) ?_
      refine RL.pickF rfl rfl rfl rfl rfl ?_
      exact K4 _ (.cons rfl (.cons (k := 2) rfl (.cons (k := 7) rfl (.cons (k := 9) rfl .nil))))
    ·
      intro hb4 K4
      refine RL.skip rfl rfl rfl rfl ?_
      refine RL.skip rfl rfl rfl rfl ?_
      refine RL.skip rfl rfl rfl rfl ?_
      refine RL.skip rfl rfl rfl rfl ?_
      refine RL.skip rfl rfl rfl rfl ?_
      refine RL.pickT rfl rfl rfl rfl rfl ?_
      exact K4 _ (.cons rfl (.cons (k := 2) rfl (.cons (k := 7) rfl (.cons (k := 9) rfl .nil))))
    refine RL.nil ?_
    refine NQ.seq ?_
    refine CW.condF rfl ((by simp)) ?_
    refine CW.skip ?_
    refine NQ.seq ?_
    refine CW.seq ?_
    refine CW.seq ?_
    refine CW.region (ef := []) (bk := []) ?_
    refine RL.assign rfl rfl rfl rfl ?_
    refine RL.nil ?_
    refine NQ.seq ?_
    refine CW.block ?_
    refine CW.loop (γ := TG) (PL.ok B Br L.length) (fun z => [(2, .slice p L.length n), (7, .pointer (some ⟨B.gb, 0, none⟩)), (9, .pointer (some ⟨Br.yb, 0, none⟩)), (11, .int .i64 (z.i : Int))])
      (fun _ => J) (fun z => GRI B z.g Br z.r) (fun z => L.length - z.i) ⟨0, g0, rs0⟩
      ⟨Nat.zero_le _, g0_ok, gal0 B Br, rfl, Nat.le_refl _, Nat.le_refl _⟩
      (.cons rfl (.cons rfl (.cons rfl (.cons rfl .nil)))) (fun w h => h.rea (fun _ h => h) (by repeat (first | exact Rea.nil | (apply Rea.cons; (solve | (repeat (first | exact Del.here | apply Del.there))))))) ?_
    rintro ⟨i, g, r⟩ hz
    obtain ⟨hi, hg, hA, hl, hw, hd⟩ := hz
    dsimp only at hi hg hA hl hw hd ⊢
    refine CW.fact (p := p = none → L.length = 0) (fun w hC e => sls_nil (hC.s.i _ m1) e) (fun hpa => ?_)
    refine CW.seq ?_
    refine CW.seq ?_
    refine CW.region (ef := []) (bk := []) ?_
    refine RL.move rfl rfl rfl rfl ?_
    refine RL.move rfl rfl rfl rfl ?_
    refine RL.lenS Tryz.runUnderlying22 rfl rfl rfl rfl ?_
    refine RL.bin rfl rfl rfl rfl rfl rfl ?_
    refine RL.move rfl rfl rfl rfl ?_
    apply RL.andB (d := 38) (dp := 41) (l' := (Sq.of [8, 9, 10, 11])) rfl (.cons (k := 2) rfl (.cons (k := 7) rfl (.cons (k := 9) rfl (.cons (k := 11) rfl .nil))))
    ·
      intro hb5 K5
      refine RL.move rfl rfl rfl rfl ?_
      refine RL.bin rfl rfl rfl rfl rfl rfl ?_
      refine RL.pickT rfl rfl rfl rfl rfl ?_
      exact K5 _ (.cons rfl (.cons (k := 2) rfl (.cons (k := 7) rfl (.cons (k := 9) rfl (.cons (k := 11) rfl .nil)))))
    ·
      intro hb5 K5
      refine RL.skip rfl rfl rfl rfl ?_
      refine RL.skip rfl rfl rfl rfl ?_
      refine RL.pickF rfl rfl rfl rfl rfl ?_
      exact K5 _ (.cons rfl (.cons (k := 2) rfl (.cons (k := 7) rfl (.cons (k := 9) rfl (.cons (k := 11) rfl .nil)))))
    refine RL.move rfl rfl rfl rfl ?_
    apply RL.andB (d := 42) (dp := 45) (l' := (Sq.of [])) rfl (.cons (k := 2) rfl (.cons (k := 7) rfl (.cons (k := 9) rfl (.cons (k := 11) rfl .nil))))
    ·
      intro hb9 K9
      refine RL.move rfl rfl rfl rfl ?_
      refine RL.cmp rfl rfl rfl rfl rfl (neq_ptr Tryz.runUnderlying29 _) ?_
      refine RL.pickT rfl rfl rfl rfl rfl ?_
      exact K9 _ (.cons rfl (.cons (k := 2) rfl (.cons (k := 7) rfl (.cons (k := 9) rfl (.cons (k := 11) rfl .nil)))))
    ·
      intro hb9 K9
      refine RL.skip rfl rfl rfl rfl ?_
      refine RL.skip rfl rfl rfl rfl ?_
      refine RL.pickF rfl rfl rfl rfl rfl ?_
      exact K9 _ (.cons rfl (.cons (k := 2) rfl (.cons (k := 7) rfl (.cons (k := 9) rfl (.cons (k := 11) rfl .nil)))))
    refine RL.nil ?_
    refine NQ.seq ?_
    refine CW.cond rfl (fun hlt => ?_) (fun hlt => ?_)
    ·
      obtain ⟨hlt, hlt40⟩ : i < L.length ∧ i < 40 := by simp at hlt; omega
      cases p with
      | none => exact absurd (hpa rfl) (by omega)
      | some ad =>
      have hxa := List.getElem?_eq_getElem hlt
      generalize L[i] = a at hxa
      have hma := List.mem_of_getElem? hxa
      have hal := act19_len (hL a hma)
      have w9 : RdsN J (ad.add (i * 32)) 32 a.cells := act19_rdsN hL m1 hxa
      refine CW.skip ?_
      refine NQ.seq ?_
      refine CW.seq ?_
      refine CW.block ?_
      refine CW.seq ?_
      refine CW.region (ef := [6, 11]) (bk := [6, 11]) ?_
      refine RL.move rfl rfl rfl rfl ?_
      refine RL.move rfl rfl rfl rfl ?_
      refine RL.move rfl rfl rfl rfl ?_
      refine RL.move rfl rfl rfl rfl ?_
      first | refine RL.idxAt (j := i) Tryz.runUnderlying22 Tryz.sizeOf43 rfl rfl rfl rfl rfl rfl (hlt) ?_ | refine RL.idx (j := i) Tryz.runUnderlying22 Tryz.sizeOf43 rfl rfl rfl rfl rfl rfl (hlt) ?_
      first | refine RL.loadM Tryz.isAgg43 Tryz.sizeOf43 rfl rfl rfl rfl (by assumption) ?_ | refine RL.loadA Tryz.isAgg43 Tryz.sizeOf43 rfl rfl rfl rfl (by first | assumption | (apply RdsI.rds; assumption)) (by first | rfl | assumption | (simp only [List.length_map]; assumption) | (simp only [List.length_map, List.length_replicate, hal]; done) | (simp; done)) ?_ | refine RL.loadW Tryz.isAgg43 Tryz.sizeOf43 rfl rfl rfl rfl (by (solve | (repeat (first | exact List.Mem.head _ | apply List.Mem.tail)))) (by first | rfl | assumption | (simp only [List.length_map]; assumption) | (simp only [List.length_map, List.length_replicate, hal]; done) | (simp; done)) ?_
      refine RL.call (do19_any B Br g r a (hL a hma) hmo hg hA.a hl (by omega) (by omega)) Tryz.call10 rfl rfl rfl rfl rfl (by repeat (first | exact Pick.nil | apply Pick.take | apply Pick.leave)) (Lend.many (its19 m3 hma)) (.inr rfl) ?_
      rintro _ _ _ ⟨e, g', r', x1, x2, he, rfl, rfl, rfl, hg', hA', hD⟩
      obtain ⟨hxx, hA2⟩ := hD.same hmm htt (hL a hma) he hA' hA
      have hln := hD.lens
      refine RL.not rfl rfl rfl rfl ?_
      refine RL.move rfl rfl rfl rfl ?_
      refine RL.cast (d := 56) (v' := .bool false) rfl ((by simp [hxx])) ?_
      refine RL.move rfl rfl rfl rfl ?_
      refine RL.move rfl rfl rfl rfl ?_
      refine RL.callq (alike_any B Br g' r' hmo hg' hA2 (by omega)) Tryz.call22 rfl rfl rfl rfl rfl (.inr rfl) ?_
      rintro _ _ _ ⟨rfl, rfl, rfl⟩
      refine RL.not rfl rfl rfl rfl ?_
      refine RL.pickF rfl rfl rfl rfl rfl ?_
      refine RL.nil ?_
      refine NQ.seq ?_
      refine CW.only (.cons (k := 2) rfl (.cons (k := 7) rfl (.cons (k := 9) rfl (.cons (k := 11) rfl (.cons (k := 61) rfl .nil))))) ?_
      refine CW.condF rfl (rfl) ?_
      refine CW.skip ?_
      refine NQ.block ?_
      refine NQ.seq ?_
      refine CW.region (ef := []) (bk := []) ?_
      refine RL.move rfl rfl rfl rfl ?_
      refine RL.binX rfl rfl rfl rfl rfl rfl (wrapV_i64 (by omega) (by omega)) ?_
      refine RL.assign rfl rfl rfl rfl ?_
      refine RL.nil ?_
      refine NQ.round (γ := TG) (g := (⟨i, g, r⟩ : TG)) (⟨i + 1, g', r'⟩ : TG) ⟨hlt, hg', hA2, by show r'.l.length = 8; omega, by show r'.W.length ≤ 6 * (i + 1); omega, by show r'.D.length ≤ i + 1; omega⟩ (by show L.length - (i + 1) < L.length - i; omega) (.cons rfl (.cons rfl (.cons rfl (.cons rfl .nil)))) (fun w h => h.rea (fun _ h => h) (by repeat (first | exact Rea.nil | (apply Rea.cons; (solve | (repeat (first | exact Del.here | apply Del.there)))))))
    ·
      refine CW.exit ?_
      refine XQ.seq ?_
      refine XQ.seq ?_
      refine XQ.hit ?_
      refine NQ.seq ?_
      refine CW.seq ?_
      refine CW.region (ef := []) (bk := []) ?_
      refine RL.callvq (works19) Tryz.call6 rfl rfl rfl rfl ?_
      refine RL.assign rfl rfl rfl rfl ?_
      refine RL.nil ?_
      refine NQ.seq ?_
      refine CW.only (.cons (k := 6) rfl .nil) ?_
      refine CW.ret ?_
      exact RQ.post (res1 rfl rfl) (Split.none _) ⟨rfl, rfl, rfl⟩
  · have hok' := hok
    refine Spc.enter Tryz.func5 rfl rfl rfl (fun w0 hw0 => ?_)
    refine CW.seq ?_
    refine CW.region (ef := []) (bk := []) ?_
    refine RL.assign rfl rfl rfl rfl ?_
    refine RL.nil ?_
    refine NQ.seq ?_
    refine CW.seq ?_
    refine CW.region (ef := []) (bk := []) ?_
    refine RL.move rfl rfl rfl rfl ?_
    refine RL.move rfl rfl rfl rfl ?_
    refine RL.callvq (gnew_no most time hok) Tryz.call7 rfl rfl rfl rfl ?_
    refine RL.move rfl rfl rfl rfl ?_
    refine RL.extract rfl rfl rfl rfl rfl ?_
    refine RL.extract rfl rfl rfl rfl rfl ?_
    refine RL.assign rfl rfl rfl rfl ?_
    refine RL.assign rfl rfl rfl rfl ?_
    refine RL.nil ?_
    refine NQ.seq ?_
    refine CW.only (.cons (k := 0) rfl (.cons (k := 1) rfl (.cons (k := 2) rfl (.cons (k := 7) rfl (.cons (k := 8) rfl .nil))))) ?_
    refine CW.seq ?_
    refine CW.region (ef := []) (bk := []) ?_
    refine RL.move rfl rfl rfl rfl ?_
    refine RL.move rfl rfl rfl rfl ?_
    refine RL.callvq (rgnew_no most time hok) Tryz.call9 rfl rfl rfl rfl ?_
    refine RL.move rfl rfl rfl rfl ?_
    refine RL.extract rfl rfl rfl rfl rfl ?_
    refine RL.extract rfl rfl rfl rfl rfl ?_
    refine RL.assign rfl rfl rfl rfl ?_
    refine RL.assign rfl rfl rfl rfl ?_
    refine RL.nil ?_
    refine NQ.seq ?_
    refine CW.only (.cons (k := 2) rfl (.cons (k := 7) rfl (.cons (k := 8) rfl (.cons (k := 9) rfl (.cons (k := 10) rfl .nil))))) ?_
    refine CW.seq ?_
    refine CW.seq ?_
    refine CW.region (ef := []) (bk := []) ?_
    refine RL.move rfl rfl rfl rfl ?_
    refine RL.move rfl rfl rfl rfl ?_
    refine RL.bin rfl rfl rfl rfl rfl rfl ?_
    refine RL.move rfl rfl rfl rfl ?_
    apply RL.orB (d := 27) (dp := 33) (l' := (Sq.of [])) rfl (.cons (k := 2) rfl (.cons (k := 7) rfl (.cons (k := 9) rfl .nil)))
    ·
      intro hb4 K4
      refine RL.move rfl rfl rfl rfl ?_
      refine RL.cmp rfl rfl rfl rfl rfl (eql_ptr Tryz.runUnderlying24 _) ?_
      refine RL.move rfl rfl rfl rfl ?_
      refine RL.cmp rfl rfl rfl rfl rfl (eql_ptr Tryz.runUnderlying29 _) ?_
      refine RL.cmp rfl rfl rfl rfl rfl (neq_bool Tryz.runUnderlying4 _ _) ?_
      refine RL.pickF rfl rfl rfl rfl rfl ?_
      exact K4 _ (.cons rfl (.cons (k := 2) rfl (.cons (k := 7) rfl (.cons (k := 9) rfl .nil))))
    ·
      intro hb4 K4
      refine RL.skip rfl rfl rfl rfl ?_
      refine RL.skip rfl rfl rfl rfl ?_
      refine RL.skip rfl rfl rfl rfl ?_
      refine RL.skip rfl rfl rfl rfl ?_
      refine RL.skip rfl rfl rfl rfl ?_
      refine RL.pickT rfl rfl rfl rfl rfl ?_
      exact K4 _ (.cons rfl (.cons (k := 2) rfl (.cons (k := 7) rfl (.cons (k := 9) rfl .nil))))
    refine RL.nil ?_
    refine NQ.seq ?_
    refine CW.condF rfl ((by simp)) ?_
    refine CW.skip ?_
    refine NQ.seq ?_
    refine CW.seq ?_
    refine CW.seq ?_
    refine CW.region (ef := []) (bk := []) ?_
    refine RL.assign rfl rfl rfl rfl ?_
    refine RL.nil ?_
    refine NQ.seq ?_
    refine CW.block ?_
    refine CW.loop (γ := Nat) (fun i => i = 0) (fun i => [(2, .slice p L.length n), (7, .pointer none), (9, .pointer none), (11, .int .i64 (i : Int))]) (fun _ => J) (fun _ => []) (fun i => L.length - i) 0 rfl (.cons rfl (.cons rfl (.cons rfl (.cons rfl .nil)))) (fun w h => h) ?_
    intro i hi
    refine CW.seq ?_
    refine CW.seq ?_
    refine CW.region (ef := []) (bk := []) ?_
    refine RL.move rfl rfl rfl rfl ?_
    refine RL.move rfl rfl rfl rfl ?_
    refine RL.lenS Tryz.runUnderlying22 rfl rfl rfl rfl ?_
    refine RL.bin rfl rfl rfl rfl rfl rfl ?_
    refine RL.move rfl rfl rfl rfl ?_
    apply RL.andB (d := 38) (dp := 41) (l' := (Sq.of [8, 9, 10, 11])) rfl (.cons (k := 2) rfl (.cons (k := 7) rfl (.cons (k := 9) rfl (.cons (k := 11) rfl .nil))))
    ·
      intro hb5 K5
      refine RL.move rfl rfl rfl rfl ?_
      refine RL.bin rfl rfl rfl rfl rfl rfl ?_
      refine RL.pickT rfl rfl rfl rfl rfl ?_
      exact K5 _ (.cons rfl (.cons (k := 2) rfl (.cons (k := 7) rfl (.cons (k := 9) rfl (.cons (k := 11) rfl .nil)))))
    ·
      intro hb5 K5
      refine RL.skip rfl rfl rfl rfl ?_
      refine RL.skip rfl rfl rfl rfl ?_
      refine RL.pickF rfl rfl rfl rfl rfl ?_
      exact K5 _ (.cons rfl (.cons (k := 2) rfl (.cons (k := 7) rfl (.cons (k := 9) rfl (.cons (k := 11) rfl .nil)))))
    refine RL.move rfl rfl rfl rfl ?_
    apply RL.andB (d := 42) (dp := 45) (l' := (Sq.of [])) rfl (.cons (k := 2) rfl (.cons (k := 7) rfl (.cons (k := 9) rfl (.cons (k := 11) rfl .nil))))
    ·
      intro hb9 K9
      refine RL.move rfl rfl rfl rfl ?_
      refine RL.cmp rfl rfl rfl rfl rfl (neq_ptr Tryz.runUnderlying29 _) ?_
      refine RL.pickT rfl rfl rfl rfl rfl ?_
      exact K9 _ (.cons rfl (.cons (k := 2) rfl (.cons (k := 7) rfl (.cons (k := 9) rfl (.cons (k := 11) rfl .nil)))))
    ·
      intro hb9 K9
      refine RL.skip rfl rfl rfl rfl ?_
      refine RL.skip rfl rfl rfl rfl ?_
      refine RL.pickF rfl rfl rfl rfl rfl ?_
      exact K9 _ (.cons rfl (.cons (k := 2) rfl (.cons (k := 7) rfl (.cons (k := 9) rfl (.cons (k := 11) rfl .nil)))))
    refine RL.nil ?_
    refine NQ.seq ?_
    refine CW.condF rfl ((by simp)) ?_
    refine CW.exit ?_
    refine XQ.seq ?_
    refine XQ.seq ?_
    refine XQ.hit ?_
    refine NQ.seq ?_
    refine CW.seq ?_
    refine CW.region (ef := []) (bk := []) ?_
    refine RL.callvq (works19) Tryz.call6 rfl rfl rfl rfl ?_
    refine RL.assign rfl rfl rfl rfl ?_
    refine RL.nil ?_
    refine NQ.seq ?_
    refine CW.only (.cons (k := 6) rfl .nil) ?_
    refine CW.ret ?_
    exact RQ.post (res1 rfl rfl) (Split.none _) ⟨rfl, rfl, rfl⟩
theorem authPlays_call (W : World) (most time : Int) (x : Sl Act19) (_ : rInt.ok most) (_ : rInt.ok time) (hx : rActs19.ok x) (_ : ∀ y ∈ rInt.its most, y.A W) (_ : ∀ y ∈ rInt.its time, y.A W) (tx : ∀ y ∈ rActs19.its x, y.A W) :
    Calls Tryz.prog 5 #[rInt.val most, rInt.val time, rActs19.val x] W (fun e w' => e = .returned (.bool true) ∧ RowKit.Below W.heap.size W w') := by
  have ht : ∀ y ∈ (sls x.p 32 x.l.length (x.l.flatMap Act19.cells) :: x.l.flatMap Act19.its), y.A W := tx
  exact (aplays x.p x.c x.l most time hx.2.2.2 hx.1).lawI ht
end Go.Proofs.YtkkfdoippibfkaaGreat
