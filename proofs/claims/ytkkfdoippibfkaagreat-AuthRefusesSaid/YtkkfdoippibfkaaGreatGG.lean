import Derived.Test.YtkkfdoippibfkaaGreatG12
namespace Go.Proofs.YtkkfdoippibfkaaGreat
open Go.PK

/-! ### AuthRefuses -/
theorem look_marks (g : GSt) (f : Fr) (t : Int) : (lookE g f t = 0 → lookM g f t = updM g.M f.sr (fmark f) ∧ ((g.M f.sr).isSome = true → gtB (fmark f) (lastV g.M f.sr) = true)) ∧ (lookE g f t ≠ 0 → lookM g f t = g.M) := by
  by_cases ht : tickB t = true
  · by_cases hY : g.Y f.sr f.kd = true
    · by_cases hk : kmay g.l f.sr t = 0
      · have hB : lookB g f t = true := by simp [lookB, ht, hY, hk]
        by_cases hT : tagE g f t = 0
        · rw [lookE, if_pos ht, if_pos hY, if_pos hk, if_pos hT, lookM, if_pos hB, if_pos hT]
          refine ⟨fun h => ⟨by rw [takeM, if_pos h], fun hs => ?_⟩, fun h => by rw [takeM, if_neg h]⟩
          have := (take_gt (mmay_may h)).1 h
          rw [hs] at this; simpa using this
        · rw [lookE, if_pos ht, if_pos hY, if_pos hk, if_neg hT, lookM, if_pos hB, if_neg hT]
          exact ⟨fun h => absurd h hT, fun _ => rfl⟩
      · have hB : ¬ lookB g f t = true := by simp [lookB, hk]
        rw [lookE, if_pos ht, if_pos hY, if_neg hk, lookM, if_neg hB]
        exact ⟨fun h => absurd h hk, fun _ => rfl⟩
    · have hB : ¬ lookB g f t = true := by simp [lookB, hY]
      rw [lookE, if_pos ht, if_neg hY, lookM, if_neg hB]
      exact ⟨fun h => (by cases h), fun _ => rfl⟩
  · have hB : ¬ lookB g f t = true := by simp [lookB, ht]
    rw [lookE, if_neg ht, lookM, if_neg hB]
    exact ⟨fun h => (by cases h), fun _ => rfl⟩
theorem mark_ne (p q : Nat × Nat) (x y : Operand) (w : World) : (do eqGuard .neq 40 x y (mkV p) (mkV q); binOp .neq 40 (mkV p) (mkV q) : Sem Value).run Tryz.prog w = .ok (.bool (!(p == q))) w := by
  obtain ⟨a, b⟩ := p
  obtain ⟨c, d⟩ := q
  simp [mkV, run_eqGuard_agg, run_neq_struct, run_equalIn_struct, Program.fieldsOf, Op.eqFields, Go.part, go_sem]
  by_cases h1 : a = c <;> by_cases h2 : b = d <;> simp [h1, h2, Int.ofNat_inj]
def mk8 (M : Marks) (i : Nat) : List (Nat × Nat) := (List.range 8).map fun j : Nat => if j < i then lastV M (j : Int) else (0, 0)
def ep8 (T : List One) (i : Nat) : List Value := (List.range 8).map fun j : Nat => Value.int .u32 (((if j < i then epochM T (j : Int) else 0 : Nat) : Nat) : Int)
theorem mk8_len (M : Marks) (i : Nat) : (mk8 M i).length = 8 := by simp [mk8]
theorem ep8_len (T : List One) (i : Nat) : (ep8 T i).length = 8 := by simp [ep8]
theorem mk8_set (M : Marks) (i : Nat) : (mk8 M i).set i (lastV M (i : Int)) = mk8 M (i + 1) := set_range (fun q hq => by
  by_cases h : q < i
  · rw [if_pos (by omega), if_pos h]
  · rw [if_neg (by omega), if_neg h]) (by rw [if_pos (by omega)])
theorem ep8_set (T : List One) (i : Nat) : (ep8 T i).set i (.int .u32 (epochM T (i : Int) : Int)) = ep8 T (i + 1) := set_range (fun q hq => by
  by_cases h : q < i
  · rw [if_pos (by omega), if_pos h]
  · rw [if_neg (by omega), if_neg h]) (by rw [if_pos (by omega)])
theorem mk8_get (M : Marks) {i : Nat} (h : i < 8) : (mk8 M 8)[i]? = some (lastV M (i : Int)) := by simp [mk8, h]
theorem ep8_get (T : List One) {i : Nat} (h : i < 8) : (ep8 T 8)[i]? = some (.int .u32 (epochM T (i : Int) : Int)) := by simp [ep8, h]
theorem ones_tail (r : List Value) (hr : ones r = true) : ∀ l : List B8, ones (bytes l ++ r) = true
  | [] => hr
  | b :: l => by
    have h := ones_tail r hr l
    show (true && ones (bytes l ++ r)) = true
    rw [h]; rfl
theorem ones_act (a : Act19) : ones a.cells = true := by
  have h := ones_tail [.bool a.sg, .bool a.nr, U8 a.tu, .int .u32 (a.e : Int), .int .u32 (a.m.1 : Int), .int .u64 (a.m.2 : Int), .slice a.ks.p a.ks.l.length a.ks.c] rfl a.x.f.tag
  exact h
theorem CW.genI {P : Program} {Q : Exit → Act → World → Prop} {N : Nat} {E : Env} {w0 : World} {S : List Nat} {I H : List It} {cc : Code} (h : ∀ J, (∀ x ∈ I, x ∈ J) → CW P cc Q N E w0 S J H) : CW P cc Q N E w0 S I H := h I (fun _ h => h)
theorem mk8_st (M : Marks) {j : Nat} (h : j < 8) : spl (tC (mk8 M j) []) (0 + j * 2) [.int .u32 ((lastV M (j : Int)).1 : Int), .int .u64 ((lastV M (j : Int)).2 : Int)] = tC (mk8 M (j + 1)) [] := by
  have := tC_setM (ms := mk8 M j) (hs := []) (n := j) (by rw [mk8_len]; exact h) (lastV M (j : Int)).1 (lastV M (j : Int)).2
  rw [show ((lastV M (j : Int)).1, (lastV M (j : Int)).2) = lastV M (j : Int) from rfl, mk8_set] at this
  rw [← this, Nat.zero_add]
theorem ep8_st (T : List One) {j : Nat} (h : j < 8) : spl (ep8 T j) (0 + j * 1) [.int .u32 (epochM T (j : Int) : Int)] = ep8 T (j + 1) := by
  rw [show 0 + j * 1 = j by omega, spl_set (by rw [ep8_len]; exact h), ep8_set]
theorem mk8_rd {I : List It} {b : Nat} {M : Marks} {T : TypeId} {j : Nat} (hm : cel b (tC (mk8 M 8) []) T ∈ I) (h : j < 8) : RdsN I ⟨b, 0 + j * 2, none⟩ 2 [.int .u32 ((lastV M (j : Int)).1 : Int), .int .u64 ((lastV M (j : Int)).2 : Int)] :=
  ⟨fun H => by
    exact tC_mkI (H := H) (hs := []) (mk8_get M h) hm, rfl⟩
theorem ep8_rd {I : List It} {b : Nat} {X : List One} {T : TypeId} {j : Nat} (hm : cel b (ep8 X 8) T ∈ I) (h : j < 8) : RdI I ⟨b, 0 + j * 1, none⟩ (.int .u32 (epochM X (j : Int) : Int)) := ⟨fun _ => Rd.getI hm (by rw [show 0 + j * 1 = j by omega]; exact ep8_get X h)⟩
theorem refuse_ok (g : GSt) (f : Fr) (t j : Int) : ((!(lookE g f t == 0 && j == f.sr) && !(lastV (lookM g f t) j == lastV g.M j)) || ((lookE g f t == 0 && j == f.sr) && (!(lastV (lookM g f t) j == (f.ep, f.ct)) || ((g.M f.sr).isSome && !gtB (lastV (lookM g f t) j) (lastV g.M j))))) = false := by
  obtain ⟨h1, h2⟩ := look_marks g f t
  by_cases he : lookE g f t = 0
  · obtain ⟨hM, hG⟩ := h1 he
    by_cases hj : j = f.sr
    · subst hj
      have hl : lastV (lookM g f t) f.sr = (f.ep, f.ct) := by rw [hM, lastV, updM, if_pos rfl]; rfl
      rw [hl, he]
      cases hs : (g.M f.sr).isSome with
      | false => simp
      | true =>
        have := hG hs
        rw [show fmark f = (f.ep, f.ct) from rfl] at this
        rw [this]; simp
    · have hl : lastV (lookM g f t) j = lastV g.M j := by rw [hM, lastV, updM, if_neg hj]; rfl
      rw [hl]; simp [hj]
  · rw [h2 he]; simp [he]
structure RG.ok (n : Nat) (z : TG) : Prop where
  i : z.i ≤ n
  g : GOk z.g
  a : Alike z.g.T z.r.R
  l : z.r.l.length = 8
  w : z.r.W.length ≤ 6 * z.i
  d : z.r.D.length ≤ z.i
theorem arefuses (p : Option Addr) (n : Nat) (L : List Act19) (most time : Int) (hL : ∀ x ∈ L, x.Ok) (hc : L.length ≤ n) :
    Spc Tryz.prog 3 #[.int .i64 most, .int .i64 time, .slice p L.length n] (sls p 32 L.length (L.flatMap Act19.cells) :: L.flatMap Act19.its) [] (Is (.bool true)) := by
  have hm0 := amongN_lt (x := most) (n := 9) (by decide)
  have ht0 := amongN_lt (x := time) (n := 50) (by decide)
  generalize hJ : (sls p 32 L.length (L.flatMap Act19.cells) :: L.flatMap Act19.its) = J
  have m1 : sls p 32 L.length (L.flatMap Act19.cells) ∈ J := by rw [← hJ]; exact List.Mem.head _
  have m3 : ∀ y ∈ L.flatMap Act19.its, y ∈ J := fun y hy => by rw [← hJ]; exact List.Mem.tail _ hy
  clear hJ
  refine Spc.enter Tryz.func3 rfl rfl rfl (fun w0 hw0 => ?_)
  refine CW.seq ?_
  refine CW.region (ef := []) (bk := []) ?_
  refine RL.assign rfl rfl rfl rfl ?_
  refine RL.nil ?_
  refine NQ.seq ?_
  refine CW.seq ?_
  refine CW.seq ?_
  refine CW.region (ef := []) (bk := []) ?_
  refine RL.callvq (works19) Tryz.call6 rfl rfl rfl rfl ?_
  refine RL.not rfl rfl rfl rfl ?_
  refine RL.nil ?_
  refine NQ.seq ?_
  refine CW.condF rfl ((by simp)) ?_
  refine CW.skip ?_
  refine NQ.seq ?_
  refine CW.seq ?_
  refine CW.region (ef := [6]) (bk := [6]) ?_
  refine RL.move rfl rfl rfl rfl ?_
  refine RL.callvq (among_any most 9 (by omega) (by omega)) Tryz.call8 rfl rfl rfl rfl ?_
  refine RL.binX rfl rfl rfl rfl rfl rfl (wrapV_i64 (by omega) (by omega)) ?_
  refine RL.move rfl rfl rfl rfl ?_
  refine RL.callvq (among_any time 50 (by omega) (by omega)) Tryz.call8 rfl rfl rfl rfl ?_
  refine RL.binX rfl rfl rfl rfl rfl rfl (wrapV_i64 (by omega) (by omega)) ?_
  refine RL.callq (gnew_yes (1 + (amongN most 9 : Int)) (1 + (amongN time 50 : Int)) (by omega) (by omega) (by omega) (by omega)) Tryz.call7 rfl rfl rfl rfl rfl (.inr rfl) ?_
  rintro _ _ _ ⟨B, hmo', hti', rfl, rfl, rfl⟩
  have hmo : B.mo ≠ 0 := by rw [hmo']; omega
  refine RL.move rfl rfl rfl rfl ?_
  refine RL.extract rfl rfl rfl rfl rfl ?_
  refine RL.extract rfl rfl rfl rfl rfl ?_
  refine RL.assign rfl rfl rfl rfl ?_
  refine RL.assign rfl rfl rfl rfl ?_
  refine RL.nil ?_
  refine NQ.seq ?_
  refine CW.only (.cons (k := 0) rfl (.cons (k := 1) rfl (.cons (k := 2) rfl (.cons (k := 7) rfl .nil)))) ?_
  refine CW.seq ?_
  refine CW.region (ef := [6]) (bk := [6]) ?_
  refine RL.move rfl rfl rfl rfl ?_
  refine RL.callvq (among_any most 9 (by omega) (by omega)) Tryz.call8 rfl rfl rfl rfl ?_
  refine RL.binX rfl rfl rfl rfl rfl rfl (wrapV_i64 (by omega) (by omega)) ?_
  refine RL.move rfl rfl rfl rfl ?_
  refine RL.callvq (among_any time 50 (by omega) (by omega)) Tryz.call8 rfl rfl rfl rfl ?_
  refine RL.binX rfl rfl rfl rfl rfl rfl (wrapV_i64 (by omega) (by omega)) ?_
  refine RL.callq (rgnew_yes (1 + (amongN most 9 : Int)) (1 + (amongN time 50 : Int)) (by omega) (by omega) (by omega) (by omega)) Tryz.call9 rfl rfl rfl rfl rfl (.inr rfl) ?_
  rintro _ _ _ ⟨Br, hrm, hrt, rfl, rfl, rfl⟩
  refine RL.move rfl rfl rfl rfl ?_
  refine RL.extract rfl rfl rfl rfl rfl ?_
  refine RL.extract rfl rfl rfl rfl rfl ?_
  refine RL.assign rfl rfl rfl rfl ?_
  refine RL.assign rfl rfl rfl rfl ?_
  refine RL.nil ?_
  refine NQ.seq ?_
  refine CW.only (.cons (k := 2) rfl (.cons (k := 7) rfl (.cons (k := 9) rfl .nil))) ?_
  refine CW.seq ?_
  refine CW.seq ?_
  refine CW.region (ef := []) (bk := []) ?_
  refine RL.assign rfl rfl rfl rfl ?_
  refine RL.nil ?_
  refine NQ.seq ?_
  refine CW.block ?_
  refine CW.loop (γ := TG) (RG.ok L.length) (fun z => [(2, .slice p L.length n), (7, .pointer (some ⟨B.gb, 0, none⟩)), (9, .pointer (some ⟨Br.yb, 0, none⟩)), (11, .int .i64 (z.i : Int))])
    (fun _ => J) (fun z => GRI B z.g Br z.r) (fun z => L.length - z.i) ⟨0, g0, rs0⟩
    ⟨Nat.zero_le _, g0_ok, alike_nil, rfl, Nat.le_refl _, Nat.le_refl _⟩
    (.cons rfl (.cons rfl (.cons rfl (.cons rfl .nil)))) (fun w h => h.rea (fun _ h => h) (by repeat (first | exact Rea.nil | (apply Rea.cons; (solve | (repeat (first | exact Del.here | apply Del.there))))))) ?_
  rintro ⟨i, g, r⟩ hz
  obtain ⟨hi, hg, hA, hl, hw, hd⟩ := hz
  dsimp only at hi hg hA hl hw hd ⊢
  refine CW.fact (p := p = none → L.length = 0) (fun w hC e => sls_nil (hC.s.i _ m1) e) (fun hpa => ?_)
  refine CW.seq ?_
  refine CW.seq ?_
  refine CW.region (ef := []) (bk := []) ?_
  refine RL.move rfl rfl rfl rfl ?_
  refine RL.move rfl rfl rfl rfl ?_
  refine RL.lenS Tryz.runUnderlying22 rfl rfl rfl rfl ?_
  refine RL.bin rfl rfl rfl rfl rfl rfl ?_
  refine RL.move rfl rfl rfl rfl ?_
  apply RL.andB (d := 50) (dp := 53) (l' := (Sq.of [])) rfl (.cons (k := 2) rfl (.cons (k := 7) rfl (.cons (k := 9) rfl (.cons (k := 11) rfl .nil))))
  ·
    intro hb5 K5
    refine RL.move rfl rfl rfl rfl ?_
    refine RL.bin rfl rfl rfl rfl rfl rfl ?_
    refine RL.pickT rfl rfl rfl rfl rfl ?_
    exact K5 _ (.cons rfl (.cons (k := 2) rfl (.cons (k := 7) rfl (.cons (k := 9) rfl (.cons (k := 11) rfl .nil)))))
  ·
    intro hb5 K5
    refine RL.skip rfl rfl rfl rfl ?_
    refine RL.skip rfl rfl rfl rfl ?_
    refine RL.pickF rfl rfl rfl rfl rfl ?_
    exact K5 _ (.cons rfl (.cons (k := 2) rfl (.cons (k := 7) rfl (.cons (k := 9) rfl (.cons (k := 11) rfl .nil)))))
  refine RL.nil ?_
  refine NQ.seq ?_
  refine CW.cond rfl (fun hlt => ?_) (fun hlt => ?_)
  ·
    obtain ⟨hlt, hlt40⟩ : i < L.length ∧ i < 40 := by simp at hlt; omega
    cases p with
    | none => exact absurd (hpa rfl) (by omega)
    | some ad =>
    have hxa := List.getElem?_eq_getElem hlt
    generalize L[i] = a at hxa
    have hma := List.mem_of_getElem? hxa
    have hal := act19_len (hL a hma)
    have w9 : RdsN J (ad.add (i * 32)) 32 a.cells := act19_rdsN hL m1 hxa
    refine CW.skip ?_
    refine NQ.seq ?_
    refine CW.seq ?_
    refine CW.block ?_
    refine CW.seq ?_
    refine CW.region (ef := [4, 5]) (bk := [5]) ?_
    refine RL.move rfl rfl rfl rfl ?_
    refine RL.move rfl rfl rfl rfl ?_
    first | refine RL.idxAt (j := i) Tryz.runUnderlying22 Tryz.sizeOf43 rfl rfl rfl rfl rfl rfl (hlt) ?_ | refine RL.idx (j := i) Tryz.runUnderlying22 Tryz.sizeOf43 rfl rfl rfl rfl rfl rfl (hlt) ?_
    first | refine RL.loadM Tryz.isAgg43 Tryz.sizeOf43 rfl rfl rfl rfl (by assumption) ?_ | refine RL.loadA Tryz.isAgg43 Tryz.sizeOf43 rfl rfl rfl rfl (by first | assumption | (apply RdsI.rds; assumption)) (by first | rfl | assumption | (simp only [List.length_map]; assumption) | (simp only [List.length_map, List.length_replicate, hal]; done) | (simp; done)) ?_ | refine RL.loadW Tryz.isAgg43 Tryz.sizeOf43 rfl rfl rfl rfl (by (solve | (repeat (first | exact List.Mem.head _ | apply List.Mem.tail)))) (by first | rfl | assumption | (simp only [List.length_map]; assumption) | (simp only [List.length_map, List.length_replicate, hal]; done) | (simp; done)) ?_
    refine RL.alloc Tryz.zeroValue43 rfl rfl rfl rfl rfl ?_
    intro b1
    refine RL.storeW (vs := a.cells) Tryz.sizeOf43 rfl rfl rfl rfl rfl rfl rfl (ones_act a) (by repeat (first | exact Upd.here | apply Upd.there)) hal rfl ?_
    refine RL.nil ?_
    refine NQ.seq ?_
    refine CW.seq ?_
    refine CW.seq ?_
    refine CW.freezeP (A := [_]) (B := [_, _, _, _, _, _, _, _, _, _, _, _, _, _]) (.take (.leave (.leave (.leave (.leave (.leave (.leave (.leave (.leave (.leave (.leave (.leave (.leave (.leave (.leave .nil))))))))))))))) rfl ?_
    generalize hK : ([cel b1 a.cells 43] ++ J : List It) = K
    have k1 : cel b1 a.cells 43 ∈ K := by rw [← hK]; exact (by repeat (first | exact List.Mem.head _ | apply List.Mem.tail))
    have kJ : ∀ y ∈ J, y ∈ K := fun y hy => by rw [← hK]; exact List.Mem.tail _ hy
    clear hK
    have f0 : RdI K ⟨b1, 0 + 0, none⟩ (.int .i64 a.d) := ⟨fun _ => Rd.getI k1 rfl⟩
    have f2 : RdI K ⟨b1, 0 + 2, none⟩ (.int .i64 a.t) := ⟨fun _ => Rd.getI k1 rfl⟩
    have f10 : RdsN K ⟨b1, 0, none⟩ 32 a.cells := RdsN.told k1 (fun j u h => by rw [Nat.zero_add]; exact h) hal
    have mx : sls a.x.p 1 a.x.f.b.length (bytes a.x.f.b) ∈ K := kJ _ (its19 m3 hma _ (by unfold Act19.its; exact List.Mem.head _))
    have hA5 := (hL a hma)
    refine CW.region (ef := []) (bk := []) ?_
    first | refine RL.fieldAddr fa_43_0 rfl rfl rfl rfl ?_ | refine RL.fieldAddrG fa_43_0 rfl rfl rfl rfl ?_
    refine RL.loadq Tryz.isAgg3 rfl rfl rfl rfl ?_
    refine RL.callvq (among_any a.d 9 (by omega) (by omega)) Tryz.call8 rfl rfl rfl rfl ?_
    refine RL.bin rfl rfl rfl rfl rfl rfl ?_
    refine RL.nil ?_
    refine NQ.seq ?_
    refine CW.only (.cons (k := 2) rfl (.cons (k := 7) rfl (.cons (k := 9) rfl (.cons (k := 11) rfl (.cons (k := 12) rfl (.cons (k := 63) rfl .nil)))))) ?_
    refine CW.cond rfl (fun h5 => ?_) (fun h5 => ?_)
    ·
      refine CW.seq ?_
      refine CW.region (ef := [3]) (bk := [3]) ?_
      refine RL.move rfl rfl rfl rfl ?_
      refine RL.move rfl rfl rfl rfl ?_
      first | refine RL.loadM Tryz.isAgg43 Tryz.sizeOf43 rfl rfl rfl rfl (by assumption) ?_ | refine RL.loadA Tryz.isAgg43 Tryz.sizeOf43 rfl rfl rfl rfl (by first | assumption | (apply RdsI.rds; assumption)) (by first | rfl | assumption | (simp only [List.length_map]; assumption) | (simp only [List.length_map, List.length_replicate, hal]; done) | (simp; done)) ?_ | refine RL.loadW Tryz.isAgg43 Tryz.sizeOf43 rfl rfl rfl rfl (by (solve | (repeat (first | exact List.Mem.head _ | apply List.Mem.tail)))) (by first | rfl | assumption | (simp only [List.length_map]; assumption) | (simp only [List.length_map, List.length_replicate, hal]; done) | (simp; done)) ?_
      refine RL.call (do19_any B Br g r a (hL a hma) hmo hg hA hl (by omega) (by omega)) Tryz.call10 rfl rfl rfl rfl rfl (by repeat (first | exact Pick.nil | apply Pick.take | apply Pick.leave)) (Lend.many (fun y hy => kJ y (its19 m3 hma y hy))) (.inr rfl) ?_
      rintro _ _ _ ⟨e, g', r', x1, x2, he, rfl, rfl, rfl, hg', hA', hD⟩
      refine RL.nil ?_
      refine NQ.seq ?_
      refine CW.exit ?_
      refine XQ.seq ?_
      refine XQ.hit ?_
      refine NQ.seq ?_
      refine CW.only (.cons (k := 2) rfl (.cons (k := 7) rfl (.cons (k := 9) rfl (.cons (k := 11) rfl .nil)))) ?_
      refine CW.region (ef := []) (bk := []) ?_
      refine RL.move rfl rfl rfl rfl ?_
      refine RL.binX rfl rfl rfl rfl rfl rfl (wrapV_i64 (by omega) (by omega)) ?_
      refine RL.assign rfl rfl rfl rfl ?_
      refine RL.nil ?_
      have hln := hD.lens
      refine NQ.round (γ := TG) (g := (⟨i, g, r⟩ : TG)) (⟨i + 1, g', r'⟩ : TG) ⟨hlt, hg', hA', by show r'.l.length = 8; omega, by show r'.W.length ≤ 6 * (i + 1); omega, by show r'.D.length ≤ i + 1; omega⟩ (by show L.length - (i + 1) < L.length - i; omega) (.cons rfl (.cons rfl (.cons rfl (.cons rfl .nil)))) (fun w h => h.rea kJ (by repeat (first | exact Rea.nil | (apply Rea.cons; (solve | (repeat (first | exact Del.here | apply Del.there)))))))
    ·
      refine CW.skip ?_
      refine NQ.seq ?_
      refine CW.seq ?_
      refine CW.region (ef := [2, 3, 4, 5]) (bk := [4, 5]) ?_
      refine RL.buildA _ Tryz.zeroValue45 Tryz.runUnderlying45 Tryz.sizeOf40 rfl rfl rfl rfl rfl ?_
      refine RL.buildA _ Tryz.zeroValue46 Tryz.runUnderlying46 Tryz.sizeOf32 rfl rfl rfl rfl rfl ?_
      refine RL.alloc Tryz.zeroValue45 rfl rfl rfl rfl rfl ?_
      intro b2
      refine RL.alloc Tryz.zeroValue46 rfl rfl rfl rfl rfl ?_
      intro b3
      refine RL.store (vs := [_, _, _, _, _, _, _, _, _, _, _, _, _, _, _, _]) Tryz.sizeOf45 rfl rfl rfl rfl rfl rfl rfl rfl rfl (by repeat (first | exact Upd.here | apply Upd.there)) ?_
      refine RL.store (vs := [_, _, _, _, _, _, _, _]) Tryz.sizeOf46 rfl rfl rfl rfl rfl rfl rfl rfl rfl (by repeat (first | exact Upd.here | apply Upd.there)) ?_
      refine RL.nil ?_
      refine NQ.seq ?_
      refine CW.seq ?_
      refine CW.seq ?_
      refine CW.region (ef := []) (bk := []) ?_
      refine RL.assign rfl rfl rfl rfl ?_
      refine RL.nil ?_
      refine NQ.seq ?_
      refine CW.block ?_
      refine CW.loop (γ := Nat) (fun j => j ≤ 8) (fun j => [(2, .slice (some ad) L.length n), (7, .pointer (some ⟨B.gb, 0, none⟩)), (9, .pointer (some ⟨Br.yb, 0, none⟩)), (11, .int .i64 (i : Int)), (12, .pointer (some ⟨b1, 0, none⟩)), (13, .pointer (some ⟨b2, 0, none⟩)), (14, .pointer (some ⟨b3, 0, none⟩)), (15, .int .i64 (j : Int))])
        (fun _ => K) (fun j => cel b2 (tC (mk8 g.M j) []) 45 :: cel b3 (ep8 g.T j) 46 :: GRI B g Br r) (fun j => 8 - j) 0 (by omega)
        (.cons rfl (.cons rfl (.cons rfl (.cons rfl (.cons rfl (.cons rfl (.cons rfl (.cons rfl .nil)))))))) (fun w h => h.rea (fun _ h => h) (by repeat (first | exact Rea.nil | (apply Rea.cons; (solve | (repeat (first | exact Del.here | apply Del.there))))))) ?_
      intro j hj
      refine CW.seq ?_
      refine CW.seq ?_
      refine CW.region (ef := []) (bk := []) ?_
      refine RL.move rfl rfl rfl rfl ?_
      refine RL.bin rfl rfl rfl rfl rfl rfl ?_
      refine RL.nil ?_
      refine NQ.seq ?_
      refine CW.cond rfl (fun hjl => ?_) (fun hjl => ?_)
      ·
        have hj8 : j < 8 := by simp at hjl; omega
        refine CW.skip ?_
        refine NQ.seq ?_
        refine CW.seq ?_
        refine CW.block ?_
        refine CW.seq ?_
        refine CW.region (ef := [8]) (bk := [8]) ?_
        refine RL.move rfl rfl rfl rfl ?_
        refine RL.move rfl rfl rfl rfl ?_
        refine RL.move rfl rfl rfl rfl ?_
        refine RL.callvq (gmark_any B g (j : Int) hg) Tryz.call11 rfl rfl rfl rfl ?_
        refine RL.move rfl rfl rfl rfl ?_
        refine RL.extract rfl rfl rfl rfl rfl ?_
        refine RL.extract rfl rfl rfl rfl rfl ?_
        refine RL.idxAAt (j := j) Tryz.runUnderlying45 Tryz.sizeOf40 rfl rfl rfl rfl rfl rfl hj8 ?_
        refine RL.storeX (vs := [_, _]) (mk8_st g.M hj8) Tryz.sizeOf40 rfl rfl rfl rfl rfl rfl rfl rfl (by repeat (first | exact Upd.here | apply Upd.there)) (by rw [tC_len, mk8_len]; simp; omega) ?_
        refine RL.nil ?_
        refine NQ.seq ?_
        refine CW.only (.cons (k := 2) rfl (.cons (k := 7) rfl (.cons (k := 9) rfl (.cons (k := 11) rfl (.cons (k := 12) rfl (.cons (k := 13) rfl (.cons (k := 14) rfl (.cons (k := 15) rfl .nil)))))))) ?_
        refine CW.region (ef := [5]) (bk := [5]) ?_
        refine RL.move rfl rfl rfl rfl ?_
        refine RL.move rfl rfl rfl rfl ?_
        refine RL.move rfl rfl rfl rfl ?_
        refine RL.callvq (gepoch_any B g (j : Int) hg) Tryz.call12 rfl rfl rfl rfl ?_
        refine RL.idxAAt (j := j) Tryz.runUnderlying46 Tryz.sizeOf32 rfl rfl rfl rfl rfl rfl hj8 ?_
        refine RL.storeX (vs := [_]) (ep8_st g.T hj8) Tryz.sizeOf32 rfl rfl rfl rfl rfl rfl rfl rfl (by repeat (first | exact Upd.here | apply Upd.there)) (by rw [ep8_len]; simp; omega) ?_
        refine RL.nil ?_
        refine NQ.block ?_
        refine NQ.seq ?_
        refine CW.region (ef := []) (bk := []) ?_
        refine RL.move rfl rfl rfl rfl ?_
        refine RL.binX rfl rfl rfl rfl rfl rfl (wrapV_i64 (by omega) (by omega)) ?_
        refine RL.assign rfl rfl rfl rfl ?_
        refine RL.nil ?_
        refine NQ.round (g := j) (j + 1) hj8 (by show 8 - (j + 1) < 8 - j; omega) (.cons rfl (.cons rfl (.cons rfl (.cons rfl (.cons rfl (.cons rfl (.cons rfl (.cons rfl .nil)))))))) (fun w h => h.rea (fun _ h => h) (by repeat (first | exact Rea.nil | (apply Rea.cons; (solve | (repeat (first | exact Del.here | apply Del.there)))))))
      · have hj8 : j = 8 := by simp at hjl; omega
        subst hj8
        have hsf := shF_ok hA5
        have hsb : (shF a).b.length = min a.x.f.b.length 60 := by rw [shF_b, List.length_take]; omega
        have hlf : ∀ sl, ((shF a).cells sl).length = 21 := fun sl => fr_len hsf.tag sl
        refine CW.exit ?_
        refine XQ.seq ?_
        refine XQ.seq ?_
        refine XQ.hit ?_
        refine NQ.seq ?_
        refine CW.seq ?_
        refine CW.region (ef := [1, 2, 3]) (bk := [3]) ?_
        first | refine RL.loadM Tryz.isAgg43 Tryz.sizeOf43 rfl rfl rfl rfl (by assumption) ?_ | refine RL.loadA Tryz.isAgg43 Tryz.sizeOf43 rfl rfl rfl rfl (by first | assumption | (apply RdsI.rds; assumption)) (by first | rfl | assumption | (simp only [List.length_map]; assumption) | (simp only [List.length_map, List.length_replicate, hal, hlf]; done) | (simp; done)) ?_ | refine RL.loadW Tryz.isAgg43 Tryz.sizeOf43 rfl rfl rfl rfl (by (solve | (repeat (first | exact List.Mem.head _ | apply List.Mem.tail)))) (by first | rfl | assumption | (simp only [List.length_map]; assumption) | (simp only [List.length_map, List.length_replicate, hal, hlf]; done) | (simp; done)) ?_
        refine RL.call (shown_any a hA5) Tryz.call13 rfl rfl rfl rfl rfl (by repeat (first | exact Pick.nil | apply Pick.take | apply Pick.leave)) (.inI mx .nil) (.inl rfl) ?_
        rintro _ _ _ ⟨ob1, cap1, rfl, rfl, rfl, ho1⟩
        refine RL.alloc Tryz.zeroValue38 rfl rfl rfl rfl rfl ?_
        intro b4
        refine RL.storeW (vs := (shF a).cells (slO ob1 (min a.x.f.b.length 60) cap1)) Tryz.sizeOf38 rfl rfl rfl rfl rfl rfl rfl (ones_fr _ rfl) (by repeat (first | exact Upd.here | apply Upd.there)) (hlf _) rfl ?_
        refine RL.nil ?_
        refine NQ.seq ?_
        refine CW.seq ?_
        refine CW.region (ef := [7, 8]) (bk := [8]) ?_
        refine RL.move rfl rfl rfl rfl ?_
        first | refine RL.fieldAddr fa_38_1 rfl rfl rfl rfl ?_ | refine RL.fieldAddrG fa_38_1 rfl rfl rfl rfl ?_
        refine RL.loadq Tryz.isAgg3 rfl rfl rfl rfl ?_
        refine RL.callvq (gmark_any B g (shF a).sr hg) Tryz.call11 rfl rfl rfl rfl ?_
        refine RL.move rfl rfl rfl rfl ?_
        refine RL.extract rfl rfl rfl rfl rfl ?_
        refine RL.extract rfl rfl rfl rfl rfl ?_
        refine RL.alloc Tryz.zeroValue40 rfl rfl rfl rfl rfl ?_
        intro b5
        refine RL.store (vs := [_, _]) Tryz.sizeOf40 rfl rfl rfl rfl rfl rfl rfl rfl rfl (by repeat (first | exact Upd.here | apply Upd.there)) ?_
        refine RL.assign rfl rfl rfl rfl ?_
        refine RL.nil ?_
        refine NQ.seq ?_
        refine CW.only (.cons (k := 2) rfl (.cons (k := 7) rfl (.cons (k := 9) rfl (.cons (k := 11) rfl (.cons (k := 12) rfl (.cons (k := 13) rfl (.cons (k := 14) rfl (.cons (k := 16) rfl (.cons (k := 18) rfl .nil))))))))) ?_
        refine CW.seq ?_
        refine CW.region (ef := [4]) (bk := [4]) ?_
        refine RL.move rfl rfl rfl rfl ?_
        first | refine RL.fieldAddr fa_43_2 rfl rfl rfl rfl ?_ | refine RL.fieldAddrG fa_43_2 rfl rfl rfl rfl ?_
        refine RL.loadq Tryz.isAgg3 rfl rfl rfl rfl ?_
        first | refine RL.loadM Tryz.isAgg38 Tryz.sizeOf38 rfl rfl rfl rfl (by assumption) ?_ | refine RL.loadA Tryz.isAgg38 Tryz.sizeOf38 rfl rfl rfl rfl (by first | assumption | (apply RdsI.rds; assumption)) (by first | rfl | assumption | (simp only [List.length_map]; assumption) | (simp only [List.length_map, List.length_replicate, hal, hlf]; done) | (simp; done)) ?_ | refine RL.loadW Tryz.isAgg38 Tryz.sizeOf38 rfl rfl rfl rfl (by (solve | (repeat (first | exact List.Mem.head _ | apply List.Mem.tail)))) (by first | rfl | assumption | (simp only [List.length_map]; assumption) | (simp only [List.length_map, List.length_replicate, hal, hlf]; done) | (simp; done)) ?_
        refine RL.call (gcheck_any B g (shF a) (ob1.map fun b => ⟨b, 0, none⟩) cap1 (min a.x.f.b.length 60) a.t hmo hg hsf hsb (by omega)) Tryz.call14 rfl rfl rfl rfl rfl (by repeat (first | exact Pick.nil | apply Pick.take | apply Pick.leave)) (Lend.own (by repeat (first | exact List.Mem.head _ | apply List.Mem.tail)) .nil) (.inr rfl) ?_
        rintro _ _ _ ⟨rfl, rfl, cm', ct', hcm', hct', rfl⟩
        refine RL.assign rfl rfl rfl rfl ?_
        refine RL.nil ?_
        refine NQ.seq ?_
        refine CW.only (.cons (k := 2) rfl (.cons (k := 7) rfl (.cons (k := 9) rfl (.cons (k := 11) rfl (.cons (k := 13) rfl (.cons (k := 14) rfl (.cons (k := 16) rfl (.cons (k := 18) rfl (.cons (k := 19) rfl .nil))))))))) ?_
        refine CW.seq ?_
        refine CW.region (ef := []) (bk := []) ?_
        refine RL.assign rfl rfl rfl rfl ?_
        refine RL.nil ?_
        refine NQ.seq ?_
        refine CW.block ?_
        have hg' : GOk ({ g with l := lookL B g (shF a) a.t, M := lookM g (shF a) a.t, cm := cm', D := chkD g.D (lookE g (shF a) a.t), ct := ct' } : GSt) := ⟨hg.t, hg.k, by show (lookL B g (shF a) a.t).length = 8; rw [lookL_len]; exact hg.l, hcm', hg.y, hct'⟩
        have hT' : ({ g with l := lookL B g (shF a) a.t, M := lookM g (shF a) a.t, cm := cm', D := chkD g.D (lookE g (shF a) a.t), ct := ct' } : GSt).T = g.T := rfl
        have hM' : ({ g with l := lookL B g (shF a) a.t, M := lookM g (shF a) a.t, cm := cm', D := chkD g.D (lookE g (shF a) a.t), ct := ct' } : GSt).M = lookM g (shF a) a.t := rfl
        refine CW.rea (fun _ h => h) (H' := cel b4 ((shF a).cells (slO ob1 (min a.x.f.b.length 60) cap1)) 38 :: cel b2 (tC (mk8 g.M 8) []) 45 :: cel b3 (ep8 g.T 8) 46 :: GRI B { g with l := lookL B g (shF a) a.t, M := lookM g (shF a) a.t, cm := cm', D := chkD g.D (lookE g (shF a) a.t), ct := ct' } Br r) (by repeat (first | exact Rea.nil | (apply Rea.cons; (solve | (repeat (first | exact Del.here | apply Del.there)))))) ?_
        generalize ({ g with l := lookL B g (shF a) a.t, M := lookM g (shF a) a.t, cm := cm', D := chkD g.D (lookE g (shF a) a.t), ct := ct' } : GSt) = g' at *
        refine CW.freezeP (A := [_, _, _]) (B := [_, _, _, _, _, _, _, _, _, _, _, _, _, _]) (.take (.take (.take (.leave (.leave (.leave (.leave (.leave (.leave (.leave (.leave (.leave (.leave (.leave (.leave (.leave (.leave .nil))))))))))))))))) rfl ?_
        generalize hQ : ([cel b4 ((shF a).cells (slO ob1 (min a.x.f.b.length 60) cap1)) 38, cel b2 (tC (mk8 g.M 8) []) 45, cel b3 (ep8 g.T 8) 46] ++ K : List It) = Q
        have q1 : cel b4 ((shF a).cells (slO ob1 (min a.x.f.b.length 60) cap1)) 38 ∈ Q := by rw [← hQ]; exact (by repeat (first | exact List.Mem.head _ | apply List.Mem.tail))
        have q2 : cel b2 (tC (mk8 g.M 8) []) 45 ∈ Q := by rw [← hQ]; exact (by repeat (first | exact List.Mem.head _ | apply List.Mem.tail))
        have q3 : cel b3 (ep8 g.T 8) 46 ∈ Q := by rw [← hQ]; exact (by repeat (first | exact List.Mem.head _ | apply List.Mem.tail))
        have kQ : ∀ y ∈ K, y ∈ Q := fun y hy => by rw [← hQ]; exact List.Mem.tail _ (List.Mem.tail _ (List.Mem.tail _ hy))
        refine CW.loop (γ := Nat) (fun j => j ≤ 8) (fun j => [(2, .slice (some ad) L.length n), (7, .pointer (some ⟨B.gb, 0, none⟩)), (9, .pointer (some ⟨Br.yb, 0, none⟩)), (11, .int .i64 (i : Int)), (13, .pointer (some ⟨b2, 0, none⟩)), (14, .pointer (some ⟨b3, 0, none⟩)), (16, .pointer (some ⟨b4, 0, none⟩)), (18, .bool (g.M (shF a).sr).isSome), (19, .int .i64 (lookE g (shF a) a.t)), (20, .int .i64 (j : Int))])
          (fun _ => Q) (fun _ => GRI B g' Br r) (fun j => 8 - j) 0 (by omega)
          (.cons rfl (.cons rfl (.cons rfl (.cons rfl (.cons rfl (.cons rfl (.cons rfl (.cons rfl (.cons rfl (.cons rfl .nil)))))))))) (fun w h => by rw [← hQ]; exact h) ?_
        clear hQ
        intro j hj
        refine CW.seq ?_
        refine CW.seq ?_
        refine CW.region (ef := []) (bk := []) ?_
        refine RL.move rfl rfl rfl rfl ?_
        refine RL.bin rfl rfl rfl rfl rfl rfl ?_
        refine RL.nil ?_
        refine NQ.seq ?_
        refine CW.cond rfl (fun hjm => ?_) (fun hjm => ?_)
        ·
          have hj8 : j < 8 := by simp at hjm; omega
          have f11 : RdI Q ⟨b4, 0 + 1, none⟩ (.int .i64 (shF a).sr) := ⟨fun _ => Rd.getI q1 rfl⟩
          refine CW.skip ?_
          refine NQ.seq ?_
          refine CW.seq ?_
          refine CW.block ?_
          refine CW.seq ?_
          refine CW.region (ef := [6, 7]) (bk := [7]) ?_
          refine RL.move rfl rfl rfl rfl ?_
          refine RL.move rfl rfl rfl rfl ?_
          refine RL.callvq (gmark_any B g' (j : Int) hg') Tryz.call11 rfl rfl rfl rfl ?_
          refine RL.move rfl rfl rfl rfl ?_
          refine RL.extract rfl rfl rfl rfl rfl ?_
          refine RL.extract rfl rfl rfl rfl rfl ?_
          refine RL.alloc Tryz.zeroValue40 rfl rfl rfl rfl rfl ?_
          intro b6
          refine RL.store (vs := [_, _]) Tryz.sizeOf40 rfl rfl rfl rfl rfl rfl rfl rfl rfl (by repeat (first | exact Upd.here | apply Upd.there)) ?_
          refine RL.assign rfl rfl rfl rfl ?_
          refine RL.nil ?_
          refine NQ.seq ?_
          refine CW.only (.cons (k := 2) rfl (.cons (k := 7) rfl (.cons (k := 9) rfl (.cons (k := 11) rfl (.cons (k := 13) rfl (.cons (k := 14) rfl (.cons (k := 16) rfl (.cons (k := 18) rfl (.cons (k := 19) rfl (.cons (k := 20) rfl (.cons (k := 21) rfl .nil))))))))))) ?_
          refine CW.seq ?_
          refine CW.region (ef := []) (bk := []) ?_
          refine RL.move rfl rfl rfl rfl ?_
          refine RL.bin rfl rfl rfl rfl rfl rfl ?_
          refine RL.move rfl rfl rfl rfl ?_
          apply RL.andB (d := 113) (dp := 118) (l' := (Sq.of [8])) rfl (.cons (k := 2) rfl (.cons (k := 7) rfl (.cons (k := 9) rfl (.cons (k := 11) rfl (.cons (k := 13) rfl (.cons (k := 14) rfl (.cons (k := 16) rfl (.cons (k := 18) rfl (.cons (k := 19) rfl (.cons (k := 20) rfl (.cons (k := 21) rfl .nil)))))))))))
          ·
            intro hb3 K3
            refine RL.move rfl rfl rfl rfl ?_
            first | refine RL.fieldAddr fa_38_1 rfl rfl rfl rfl ?_ | refine RL.fieldAddrG fa_38_1 rfl rfl rfl rfl ?_
            refine RL.loadq Tryz.isAgg3 rfl rfl rfl rfl ?_
            refine RL.bin rfl rfl rfl rfl rfl rfl ?_
            refine RL.pickT rfl rfl rfl rfl rfl ?_
            exact K3 _ (.cons rfl (.cons (k := 2) rfl (.cons (k := 7) rfl (.cons (k := 9) rfl (.cons (k := 11) rfl (.cons (k := 13) rfl (.cons (k := 14) rfl (.cons (k := 16) rfl (.cons (k := 18) rfl (.cons (k := 19) rfl (.cons (k := 20) rfl (.cons (k := 21) rfl .nil))))))))))))
          ·
            intro hb3 K3
            refine RL.skip rfl rfl rfl rfl ?_
            refine RL.skip rfl rfl rfl rfl ?_
            refine RL.skip rfl rfl rfl rfl ?_
            refine RL.skip rfl rfl rfl rfl ?_
            refine RL.pickF rfl rfl rfl rfl rfl ?_
            exact K3 _ (.cons rfl (.cons (k := 2) rfl (.cons (k := 7) rfl (.cons (k := 9) rfl (.cons (k := 11) rfl (.cons (k := 13) rfl (.cons (k := 14) rfl (.cons (k := 16) rfl (.cons (k := 18) rfl (.cons (k := 19) rfl (.cons (k := 20) rfl (.cons (k := 21) rfl .nil))))))))))))
          refine RL.assign rfl rfl rfl rfl ?_
          refine RL.nil ?_
          refine NQ.seq ?_
          refine CW.seq ?_
          refine CW.freezeP (A := [_]) (B := [_, _, _, _, _, _, _, _, _, _, _, _, _, _]) (.take (.leave (.leave (.leave (.leave (.leave (.leave (.leave (.leave (.leave (.leave (.leave (.leave (.leave (.leave .nil))))))))))))))) rfl ?_
          refine CW.genI (fun V hV => ?_)
          have v1 : cel b6 [.int .u32 ((lastV g'.M (j : Int)).1 : Int), .int .u64 ((lastV g'.M (j : Int)).2 : Int)] 40 ∈ V := hV _ (List.Mem.head _)
          have kV : ∀ y ∈ Q, y ∈ V := fun y hy => hV _ (List.Mem.tail _ hy)
          clear hV
          have f12 : RdsN V ⟨b6, 0, none⟩ 2 [.int .u32 ((lastV g'.M (j : Int)).1 : Int), .int .u64 ((lastV g'.M (j : Int)).2 : Int)] := RdsN.told v1 (fun j u h => by rw [Nat.zero_add]; exact h) rfl
          have f13 := mk8_rd (kV _ q2) hj8
          have f14 := ep8_rd (kV _ q3) hj8
          have f15 : RdI V ⟨b4, 0 + 2, none⟩ (.int .u32 ((shF a).ep : Int)) := ⟨fun _ => Rd.getI (kV _ q1) rfl⟩
          have f16 : RdI V ⟨b4, 0 + 3, none⟩ (.int .u64 ((shF a).ct : Int)) := ⟨fun _ => Rd.getI (kV _ q1) rfl⟩
          refine CW.regionD (Sq.of [0, 1, 2, 3, 4, 5, 6, 7, 8, 9, 10, 11, 12, 13, 14, 15, 16, 17, 18, 19, 20, 21, 22, 23, 24, 25, 26, 27, 28, 29, 30, 31, 32, 33, 34, 35, 36, 37, 38, 39, 40]) [] [] [0, 1, 3, 4, 5, 6, 7, 8, 9, 10, 11, 12, 13, 14, 15, 16, 17, 18, 19, 20, 21, 22, 23, 24, 25, 26, 27, 28, 29, 30, 31, 32, 33, 34, 35, 36, 37, 38, 39, 40] mixed (by kernel_rfl) ?_
          refine RL.move rfl rfl rfl rfl ?_
          refine RL.move rfl rfl rfl rfl ?_
          refine RL.callvq (gepoch_any B g' (j : Int) hg') Tryz.call12 rfl rfl rfl rfl ?_
          refine RL.move rfl rfl rfl rfl ?_
          refine RL.idxAAt (j := j) Tryz.runUnderlying46 Tryz.sizeOf32 rfl rfl rfl rfl rfl rfl hj8 ?_
          refine RL.loadTq Tryz.isAgg32 rfl rfl rfl rfl ?_
          refine RL.bin rfl rfl rfl rfl rfl rfl ?_
          refine RL.move rfl rfl rfl rfl ?_
          apply RL.orB (d := 126) (dp := 136) (l' := (Sq.of [18, 19, 20, 21, 22, 23, 24, 25, 26, 27, 28, 29, 30, 31, 32, 33, 34, 35, 36, 37, 38, 39, 40])) rfl (.cons (k := 2) rfl (.cons (k := 7) rfl (.cons (k := 9) rfl (.cons (k := 11) rfl (.cons (k := 13) rfl (.cons (k := 14) rfl (.cons (k := 16) rfl (.cons (k := 18) rfl (.cons (k := 19) rfl (.cons (k := 20) rfl (.cons (k := 21) rfl (.cons (k := 23) rfl .nil))))))))))))
          ·
            intro hb8 K8
            refine RL.move rfl rfl rfl rfl ?_
            refine RL.not rfl rfl rfl rfl ?_
            refine RL.move rfl rfl rfl rfl ?_
            apply RL.andB (d := 129) (dp := 135) (l' := (Sq.of [17, 18, 19, 20, 21, 22, 23, 24, 25, 26, 27, 28, 29, 30, 31, 32, 33, 34, 35, 36, 37, 38, 39, 40])) rfl (.cons (k := 2) rfl (.cons (k := 7) rfl (.cons (k := 9) rfl (.cons (k := 11) rfl (.cons (k := 13) rfl (.cons (k := 14) rfl (.cons (k := 16) rfl (.cons (k := 18) rfl (.cons (k := 19) rfl (.cons (k := 20) rfl (.cons (k := 21) rfl (.cons (k := 23) rfl (.cons (k := 126) rfl .nil)))))))))))))
            ·
              intro hb11 K11
              first | refine RL.loadMT Tryz.isAgg40 Tryz.sizeOf40 rfl rfl rfl rfl (by assumption) ?_ | refine RL.loadAT Tryz.isAgg40 Tryz.sizeOf40 rfl rfl rfl rfl (by first | assumption | (apply RdsI.rds; assumption)) (by first | rfl | assumption | (simp only [List.length_map]; assumption) | (simp only [List.length_map, List.length_replicate, hal, hlf]; done) | (simp; done)) ?_
              refine RL.move rfl rfl rfl rfl ?_
              refine RL.idxAAt (j := j) Tryz.runUnderlying45 Tryz.sizeOf40 rfl rfl rfl rfl rfl rfl hj8 ?_
              first | refine RL.loadMT Tryz.isAgg40 Tryz.sizeOf40 rfl rfl rfl rfl (by assumption) ?_ | refine RL.loadAT Tryz.isAgg40 Tryz.sizeOf40 rfl rfl rfl rfl (by first | assumption | (apply RdsI.rds; assumption)) (by first | rfl | assumption | (simp only [List.length_map]; assumption) | (simp only [List.length_map, List.length_replicate, hal, hlf]; done) | (simp; done)) ?_
              refine RL.cmp rfl rfl rfl rfl rfl (mark_ne (lastV g'.M (j : Int)) (lastV g.M (j : Int)) _ _) ?_
              refine RL.pickT rfl rfl rfl rfl rfl ?_
              exact K11 _ (.cons rfl (.cons (k := 2) rfl (.cons (k := 7) rfl (.cons (k := 9) rfl (.cons (k := 11) rfl (.cons (k := 13) rfl (.cons (k := 14) rfl (.cons (k := 16) rfl (.cons (k := 18) rfl (.cons (k := 19) rfl (.cons (k := 20) rfl (.cons (k := 21) rfl (.cons (k := 23) rfl (.cons (k := 126) rfl .nil))))))))))))))
            ·
              intro hb11 K11
              refine RL.skip rfl rfl rfl rfl ?_
              refine RL.skip rfl rfl rfl rfl ?_
              refine RL.skip rfl rfl rfl rfl ?_
              refine RL.skip rfl rfl rfl rfl ?_
              refine RL.skip rfl rfl rfl rfl ?_
              refine RL.pickF rfl rfl rfl rfl rfl ?_
              exact K11 _ (.cons rfl (.cons (k := 2) rfl (.cons (k := 7) rfl (.cons (k := 9) rfl (.cons (k := 11) rfl (.cons (k := 13) rfl (.cons (k := 14) rfl (.cons (k := 16) rfl (.cons (k := 18) rfl (.cons (k := 19) rfl (.cons (k := 20) rfl (.cons (k := 21) rfl (.cons (k := 23) rfl (.cons (k := 126) rfl .nil))))))))))))))
            refine RL.pickF rfl rfl rfl rfl rfl ?_
            exact K8 _ (.cons rfl (.cons (k := 2) rfl (.cons (k := 7) rfl (.cons (k := 9) rfl (.cons (k := 11) rfl (.cons (k := 13) rfl (.cons (k := 14) rfl (.cons (k := 16) rfl (.cons (k := 18) rfl (.cons (k := 19) rfl (.cons (k := 20) rfl (.cons (k := 21) rfl (.cons (k := 23) rfl .nil)))))))))))))
          ·
            intro hb8 K8
            refine RL.skip rfl rfl rfl rfl ?_
            refine RL.skip rfl rfl rfl rfl ?_
            refine RL.skip rfl rfl rfl rfl ?_
            refine RL.skip rfl rfl rfl rfl ?_
            refine RL.skip rfl rfl rfl rfl ?_
            refine RL.skip rfl rfl rfl rfl ?_
            refine RL.skip rfl rfl rfl rfl ?_
            refine RL.skip rfl rfl rfl rfl ?_
            refine RL.skip rfl rfl rfl rfl ?_
            refine RL.pickT rfl rfl rfl rfl rfl ?_
            exact K8 _ (.cons rfl (.cons (k := 2) rfl (.cons (k := 7) rfl (.cons (k := 9) rfl (.cons (k := 11) rfl (.cons (k := 13) rfl (.cons (k := 14) rfl (.cons (k := 16) rfl (.cons (k := 18) rfl (.cons (k := 19) rfl (.cons (k := 20) rfl (.cons (k := 21) rfl (.cons (k := 23) rfl .nil)))))))))))))
          refine RL.move rfl rfl rfl rfl ?_
          apply RL.orB (d := 137) (dp := 159) (l' := (Sq.of [])) rfl (.cons (k := 2) rfl (.cons (k := 7) rfl (.cons (k := 9) rfl (.cons (k := 11) rfl (.cons (k := 13) rfl (.cons (k := 14) rfl (.cons (k := 16) rfl (.cons (k := 18) rfl (.cons (k := 19) rfl (.cons (k := 20) rfl .nil))))))))))
          ·
            intro hb19 K19
            refine RL.move rfl rfl rfl rfl ?_
            refine RL.move rfl rfl rfl rfl ?_
            apply RL.andB (d := 139) (dp := 158) (l' := (Sq.of [40])) rfl (.cons (k := 2) rfl (.cons (k := 7) rfl (.cons (k := 9) rfl (.cons (k := 11) rfl (.cons (k := 13) rfl (.cons (k := 14) rfl (.cons (k := 16) rfl (.cons (k := 18) rfl (.cons (k := 19) rfl (.cons (k := 20) rfl (.cons (k := 137) rfl .nil)))))))))))
            ·
              intro hb21 K21
              first | refine RL.loadMT Tryz.isAgg40 Tryz.sizeOf40 rfl rfl rfl rfl (by assumption) ?_ | refine RL.loadAT Tryz.isAgg40 Tryz.sizeOf40 rfl rfl rfl rfl (by first | assumption | (apply RdsI.rds; assumption)) (by first | rfl | assumption | (simp only [List.length_map]; assumption) | (simp only [List.length_map, List.length_replicate, hal, hlf]; done) | (simp; done)) ?_
              first | refine RL.fieldAddr fa_38_2 rfl rfl rfl rfl ?_ | refine RL.fieldAddrG fa_38_2 rfl rfl rfl rfl ?_
              refine RL.loadTq Tryz.isAgg32 rfl rfl rfl rfl ?_
              first | refine RL.fieldAddr fa_38_3 rfl rfl rfl rfl ?_ | refine RL.fieldAddrG fa_38_3 rfl rfl rfl rfl ?_
              refine RL.loadTq Tryz.isAgg33 rfl rfl rfl rfl ?_
              refine RL.buildS [_, _] Tryz.zeroValue40 pl_40 rfl rfl rfl rfl rfl ?_
              refine RL.cmp rfl rfl rfl rfl rfl (mark_ne (lastV g'.M (j : Int)) ((shF a).ep, (shF a).ct) _ _) ?_
              refine RL.move rfl rfl rfl rfl ?_
              apply RL.orB (d := 147) (dp := 157) (l' := (Sq.of [39, 40])) rfl (.cons (k := 2) rfl (.cons (k := 7) rfl (.cons (k := 9) rfl (.cons (k := 11) rfl (.cons (k := 13) rfl (.cons (k := 14) rfl (.cons (k := 16) rfl (.cons (k := 18) rfl (.cons (k := 19) rfl (.cons (k := 20) rfl (.cons (k := 137) rfl (.cons (k := 139) rfl .nil))))))))))))
              ·
                intro hb29 K29
                refine RL.move rfl rfl rfl rfl ?_
                refine RL.move rfl rfl rfl rfl ?_
                apply RL.andB (d := 149) (dp := 156) (l' := (Sq.of [38, 39, 40])) rfl (.cons (k := 2) rfl (.cons (k := 7) rfl (.cons (k := 9) rfl (.cons (k := 11) rfl (.cons (k := 13) rfl (.cons (k := 14) rfl (.cons (k := 16) rfl (.cons (k := 18) rfl (.cons (k := 19) rfl (.cons (k := 20) rfl (.cons (k := 137) rfl (.cons (k := 139) rfl (.cons (k := 147) rfl .nil)))))))))))))
                ·
                  intro hb31 K31
                  first | refine RL.loadMT Tryz.isAgg40 Tryz.sizeOf40 rfl rfl rfl rfl (by assumption) ?_ | refine RL.loadAT Tryz.isAgg40 Tryz.sizeOf40 rfl rfl rfl rfl (by first | assumption | (apply RdsI.rds; assumption)) (by first | rfl | assumption | (simp only [List.length_map]; assumption) | (simp only [List.length_map, List.length_replicate, hal, hlf]; done) | (simp; done)) ?_
                  refine RL.move rfl rfl rfl rfl ?_
                  refine RL.idxAAt (j := j) Tryz.runUnderlying45 Tryz.sizeOf40 rfl rfl rfl rfl rfl rfl hj8 ?_
                  first | refine RL.loadMT Tryz.isAgg40 Tryz.sizeOf40 rfl rfl rfl rfl (by assumption) ?_ | refine RL.loadAT Tryz.isAgg40 Tryz.sizeOf40 rfl rfl rfl rfl (by first | assumption | (apply RdsI.rds; assumption)) (by first | rfl | assumption | (simp only [List.length_map]; assumption) | (simp only [List.length_map, List.length_replicate, hal, hlf]; done) | (simp; done)) ?_
                  refine RL.callTq (greater_any (lastV g'.M (j : Int)) (lastV g.M (j : Int))) Tryz.call15 rfl rfl rfl rfl ?_
                  refine RL.not rfl rfl rfl rfl ?_
                  refine RL.pickT rfl rfl rfl rfl rfl ?_
                  exact K31 _ (.cons rfl (.cons (k := 2) rfl (.cons (k := 7) rfl (.cons (k := 9) rfl (.cons (k := 11) rfl (.cons (k := 13) rfl (.cons (k := 14) rfl (.cons (k := 16) rfl (.cons (k := 18) rfl (.cons (k := 19) rfl (.cons (k := 20) rfl (.cons (k := 137) rfl (.cons (k := 139) rfl (.cons (k := 147) rfl .nil))))))))))))))
                ·
                  intro hb31 K31
                  refine RL.skip rfl rfl rfl rfl ?_
                  refine RL.skip rfl rfl rfl rfl ?_
                  refine RL.skip rfl rfl rfl rfl ?_
                  refine RL.skip rfl rfl rfl rfl ?_
                  refine RL.skip rfl rfl rfl rfl ?_
                  refine RL.skip rfl rfl rfl rfl ?_
                  refine RL.pickF rfl rfl rfl rfl rfl ?_
                  exact K31 _ (.cons rfl (.cons (k := 2) rfl (.cons (k := 7) rfl (.cons (k := 9) rfl (.cons (k := 11) rfl (.cons (k := 13) rfl (.cons (k := 14) rfl (.cons (k := 16) rfl (.cons (k := 18) rfl (.cons (k := 19) rfl (.cons (k := 20) rfl (.cons (k := 137) rfl (.cons (k := 139) rfl (.cons (k := 147) rfl .nil))))))))))))))
                refine RL.pickF rfl rfl rfl rfl rfl ?_
                exact K29 _ (.cons rfl (.cons (k := 2) rfl (.cons (k := 7) rfl (.cons (k := 9) rfl (.cons (k := 11) rfl (.cons (k := 13) rfl (.cons (k := 14) rfl (.cons (k := 16) rfl (.cons (k := 18) rfl (.cons (k := 19) rfl (.cons (k := 20) rfl (.cons (k := 137) rfl (.cons (k := 139) rfl .nil)))))))))))))
              ·
                intro hb29 K29
                refine RL.skip rfl rfl rfl rfl ?_
                refine RL.skip rfl rfl rfl rfl ?_
                refine RL.skip rfl rfl rfl rfl ?_
                refine RL.skip rfl rfl rfl rfl ?_
                refine RL.skip rfl rfl rfl rfl ?_
                refine RL.skip rfl rfl rfl rfl ?_
                refine RL.skip rfl rfl rfl rfl ?_
                refine RL.skip rfl rfl rfl rfl ?_
                refine RL.skip rfl rfl rfl rfl ?_
                refine RL.pickT rfl rfl rfl rfl rfl ?_
                exact K29 _ (.cons rfl (.cons (k := 2) rfl (.cons (k := 7) rfl (.cons (k := 9) rfl (.cons (k := 11) rfl (.cons (k := 13) rfl (.cons (k := 14) rfl (.cons (k := 16) rfl (.cons (k := 18) rfl (.cons (k := 19) rfl (.cons (k := 20) rfl (.cons (k := 137) rfl (.cons (k := 139) rfl .nil)))))))))))))
              refine RL.pickT rfl rfl rfl rfl rfl ?_
              exact K21 _ (.cons rfl (.cons (k := 2) rfl (.cons (k := 7) rfl (.cons (k := 9) rfl (.cons (k := 11) rfl (.cons (k := 13) rfl (.cons (k := 14) rfl (.cons (k := 16) rfl (.cons (k := 18) rfl (.cons (k := 19) rfl (.cons (k := 20) rfl (.cons (k := 137) rfl .nil))))))))))))
            ·
              intro hb21 K21
              refine RL.skip rfl rfl rfl rfl ?_
              refine RL.skip rfl rfl rfl rfl ?_
              refine RL.skip rfl rfl rfl rfl ?_
              refine RL.skip rfl rfl rfl rfl ?_
              refine RL.skip rfl rfl rfl rfl ?_
              refine RL.skip rfl rfl rfl rfl ?_
              refine RL.skip rfl rfl rfl rfl ?_
              refine RL.skip rfl rfl rfl rfl ?_
              refine RL.skip rfl rfl rfl rfl ?_
              refine RL.skip rfl rfl rfl rfl ?_
              refine RL.skip rfl rfl rfl rfl ?_
              refine RL.skip rfl rfl rfl rfl ?_
              refine RL.skip rfl rfl rfl rfl ?_
              refine RL.skip rfl rfl rfl rfl ?_
              refine RL.skip rfl rfl rfl rfl ?_
              refine RL.skip rfl rfl rfl rfl ?_
              refine RL.skip rfl rfl rfl rfl ?_
              refine RL.skip rfl rfl rfl rfl ?_
              refine RL.pickF rfl rfl rfl rfl rfl ?_
              exact K21 _ (.cons rfl (.cons (k := 2) rfl (.cons (k := 7) rfl (.cons (k := 9) rfl (.cons (k := 11) rfl (.cons (k := 13) rfl (.cons (k := 14) rfl (.cons (k := 16) rfl (.cons (k := 18) rfl (.cons (k := 19) rfl (.cons (k := 20) rfl (.cons (k := 137) rfl .nil))))))))))))
            refine RL.pickF rfl rfl rfl rfl rfl ?_
            exact K19 _ (.cons rfl (.cons (k := 2) rfl (.cons (k := 7) rfl (.cons (k := 9) rfl (.cons (k := 11) rfl (.cons (k := 13) rfl (.cons (k := 14) rfl (.cons (k := 16) rfl (.cons (k := 18) rfl (.cons (k := 19) rfl (.cons (k := 20) rfl .nil)))))))))))
          ·
            intro hb19 K19
            refine RL.skip rfl rfl rfl rfl ?_
            refine RL.skip rfl rfl rfl rfl ?_
            refine RL.skip rfl rfl rfl rfl ?_
            refine RL.skip rfl rfl rfl rfl ?_
            refine RL.skip rfl rfl rfl rfl ?_
            refine RL.skip rfl rfl rfl rfl ?_
            refine RL.skip rfl rfl rfl rfl ?_
            refine RL.skip rfl rfl rfl rfl ?_
            refine RL.skip rfl rfl rfl rfl ?_
            refine RL.skip rfl rfl rfl rfl ?_
            refine RL.skip rfl rfl rfl rfl ?_
            refine RL.skip rfl rfl rfl rfl ?_
            refine RL.skip rfl rfl rfl rfl ?_
            refine RL.skip rfl rfl rfl rfl ?_
            refine RL.skip rfl rfl rfl rfl ?_
            refine RL.skip rfl rfl rfl rfl ?_
            refine RL.skip rfl rfl rfl rfl ?_
            refine RL.skip rfl rfl rfl rfl ?_
            refine RL.skip rfl rfl rfl rfl ?_
            refine RL.skip rfl rfl rfl rfl ?_
            refine RL.skip rfl rfl rfl rfl ?_
            refine RL.pickT rfl rfl rfl rfl rfl ?_
            exact K19 _ (.cons rfl (.cons (k := 2) rfl (.cons (k := 7) rfl (.cons (k := 9) rfl (.cons (k := 11) rfl (.cons (k := 13) rfl (.cons (k := 14) rfl (.cons (k := 16) rfl (.cons (k := 18) rfl (.cons (k := 19) rfl (.cons (k := 20) rfl .nil)))))))))))
          refine RL.nil ?_
          refine NQ.seq ?_
          refine CW.condF rfl ((by have := refuse_ok g (shF a) a.t (j : Int); rw [hT', hM']; simp only [bne_self_eq_false, Bool.false_or]; exact this)) ?_
          refine CW.skip ?_
          refine NQ.block ?_
          refine NQ.seq ?_
          refine CW.region (ef := []) (bk := []) ?_
          refine RL.move rfl rfl rfl rfl ?_
          refine RL.binX rfl rfl rfl rfl rfl rfl (wrapV_i64 (by omega) (by omega)) ?_
          refine RL.assign rfl rfl rfl rfl ?_
          refine RL.nil ?_
          refine NQ.round (g := j) (j + 1) hj8 (by show 8 - (j + 1) < 8 - j; omega) (.cons rfl (.cons rfl (.cons rfl (.cons rfl (.cons rfl (.cons rfl (.cons rfl (.cons rfl (.cons rfl (.cons rfl .nil)))))))))) (fun w h => h.rea kV (by repeat (first | exact Rea.nil | (apply Rea.cons; (solve | (repeat (first | exact Del.here | apply Del.there)))))))
        ·
          refine CW.exit ?_
          refine XQ.seq ?_
          refine XQ.seq ?_
          refine XQ.hit ?_
          refine NQ.block ?_
          refine NQ.seq ?_
          refine CW.only (.cons (k := 2) rfl (.cons (k := 7) rfl (.cons (k := 9) rfl (.cons (k := 11) rfl .nil)))) ?_
          refine CW.region (ef := []) (bk := []) ?_
          refine RL.move rfl rfl rfl rfl ?_
          refine RL.binX rfl rfl rfl rfl rfl rfl (wrapV_i64 (by omega) (by omega)) ?_
          refine RL.assign rfl rfl rfl rfl ?_
          refine RL.nil ?_
          have hj8 : j = 8 := by simp at hjm; omega
          refine NQ.round (γ := TG) (g := (⟨i, g, r⟩ : TG)) (⟨i + 1, g', r⟩ : TG) ⟨hlt, hg', by show Alike g'.T r.R; rw [hT']; exact hA, hl, by show r.W.length ≤ 6 * (i + 1); omega, by show r.D.length ≤ i + 1; omega⟩ (by show L.length - (i + 1) < L.length - i; omega) (.cons rfl (.cons rfl (.cons rfl (.cons rfl .nil)))) (fun w h => h.rea (fun y hy => kQ y (kJ y hy)) (by repeat (first | exact Rea.nil | (apply Rea.cons; (solve | (repeat (first | exact Del.here | apply Del.there)))))))
  ·
    refine CW.exit ?_
    refine XQ.seq ?_
    refine XQ.seq ?_
    refine XQ.hit ?_
    refine NQ.seq ?_
    refine CW.seq ?_
    refine CW.region (ef := []) (bk := []) ?_
    refine RL.assign rfl rfl rfl rfl ?_
    refine RL.nil ?_
    refine NQ.seq ?_
    refine CW.ret ?_
    exact RQ.post (res1 rfl rfl) (Split.none _) ⟨rfl, rfl, rfl⟩
end Go.Proofs.YtkkfdoippibfkaaGreat

namespace Go.Proofs.YtkkfdoippibfkaaGreat
open Go.PK
theorem authRefuses_call (W : World) (most time : Int) (x : Sl Act19) (_ : rInt.ok most) (_ : rInt.ok time) (hx : rActs19.ok x) (_ : ∀ y ∈ rInt.its most, y.A W) (_ : ∀ y ∈ rInt.its time, y.A W) (tx : ∀ y ∈ rActs19.its x, y.A W) :
    Calls Tryz.prog 3 #[rInt.val most, rInt.val time, rActs19.val x] W (fun e w' => e = .returned (.bool true) ∧ RowKit.Below W.heap.size W w') := by
  have ht : ∀ y ∈ (sls x.p 32 x.l.length (x.l.flatMap Act19.cells) :: x.l.flatMap Act19.its), y.A W := tx
  exact (arefuses x.p x.c x.l most time hx.2.2.2 hx.1).lawI ht
end Go.Proofs.YtkkfdoippibfkaaGreat
