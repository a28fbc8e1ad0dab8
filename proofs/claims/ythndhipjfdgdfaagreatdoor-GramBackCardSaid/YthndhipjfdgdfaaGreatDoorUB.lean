import Derived.Test.YthndhipjfdgdfaaGreatDoorUA
set_option linter.unusedVariables false
set_option linter.unusedSimpArgs false
namespace Go.Proofs.YthndhipjfdgdfaaGreatDoor
open Go.PK
/-! ### The reference's check of aids; a navigator's setup -/
theorem wasA_prev {L : List Ad} {i : Nat} {q : Ad} (h : L[i - 1]? = some q) (hi : 0 < i) : wasA L i = q.src := by
  obtain ⟨j, rfl⟩ : ∃ j, i = j + 1 := ⟨i - 1, by omega⟩
  exact wasA_at h
theorem rnav_any (g0 g1 g2 dr : Int) (oa : Option Nat) (ca n : Nat) (L : List Ad) (hn : L.length = n) (hl : n ≤ 1000000) :
    Spc Tryz.prog 61 #[.agg #[.int .i64 g0, .int .i64 g1, .int .i64 g2, .int .i64 dr, slO oa n ca]] [sls (oa.map fun b => ⟨b, 0, none⟩) 7 n (L.flatMap Ad.cells)] [] (Is (.int .i64 (errI (0 ≤ dr ∧ L.length ≤ 8 ∧ adsB L = true)))) := by
  subst hn
  refine Spc.enter Tryz.func61 rfl rfl rfl (fun w0 hw0 => ?_)
  refine CW.seq (CW.region (ef := [0]) (bk := []) (RL.box rfl rfl rfl rfl rfl rfl ?_))
  intro b1
  refine RL.p rfl (RL.nil (NQ.seq (CW.seq (CW.seq (CW.freezeAll rfl ?_)))))
  simp only [List.cons_append, List.nil_append]
  generalize hJ : ([cel b1 [.int .i64 g0, .int .i64 g1, .int .i64 g2, .int .i64 dr, slO oa L.length ca] 149, sls (oa.map fun b => ⟨b, 0, none⟩) 7 L.length (L.flatMap Ad.cells)] : List It) = J
  have m1 : cel b1 [.int .i64 g0, .int .i64 g1, .int .i64 g2, .int .i64 dr, slO oa L.length ca] 149 ∈ J := by rw [← hJ]; exact (by repeat (first | exact List.Mem.head _ | apply List.Mem.tail))
  have m2 : sls (oa.map fun b => ⟨b, 0, none⟩) 7 L.length (L.flatMap Ad.cells) ∈ J := by rw [← hJ]; exact (by repeat (first | exact List.Mem.head _ | apply List.Mem.tail))
  clear hJ
  have fG : RdsN J ⟨b1, 0 + 0, none⟩ 3 [.int .i64 g0, .int .i64 g1, .int .i64 g2] := RdsN.told m1 (fun j u hj => by
    match j, hj with
    | 0, hj => exact hj
    | 1, hj => exact hj
    | 2, hj => exact hj
    | j + 3, hj => simp at hj) rfl
  have fD : RdI J ⟨b1, 0 + 3, none⟩ (.int .i64 dr) := ⟨fun _ => Rd.celI m1 rfl⟩
  have fS : RdI J ⟨b1, 0 + 4, none⟩ (slO oa L.length ca) := ⟨fun _ => Rd.celI m1 rfl⟩
  refine CW.rg (RL.fieldAddr fa_149_1 rfl rfl rfl rfl (RL.loadq Tryz.isAgg23 rfl rfl rfl rfl ?_))
  refine RL.p rfl (RL.p rfl ?_)
  apply RL.orB (d := 8) (dp := 13) (l' := (Sq.of [])) rfl (sK [1, 2] rfl)
  ·
    intro hb4 K4
    refine RL.fieldAddr fa_149_2 rfl rfl rfl rfl (RL.loadq Tryz.isAgg147 rfl rfl rfl rfl ?_)
    refine RL.lenS Tryz.runUnderlying147 rfl rfl rfl rfl (RL.p rfl (RL.p rfl ?_))
    exact K4 _ (.cons rfl (sK [1, 2] rfl))
  ·
    intro hb4 K4
    refine RL.p rfl (RL.p rfl (RL.p rfl (RL.p rfl (RL.p rfl ?_))))
    exact K4 _ (.cons rfl (sK [1, 2] rfl))
  refine RL.nil (NQ.seq ?_)
  refine CW.cond rfl (fun h1 => ?_) (fun h1 => ?_)
  ·
    refine CW.seq (CW.rg (RL.p rfl (RL.nil (NQ.seq (CW.ret (RQ.seq ?_))))))
    exact RQ.post (res1 rfl rfl) (Split.none _) ⟨by rw [errI_no (by simp at h1; omega)], rfl, rfl⟩
  ·
    refine CW.skip (NQ.seq (CW.seq (CW.seq (CW.rg (RL.p rfl (RL.nil (NQ.seq (CW.block ?_))))))))
    have h1 : 0 ≤ dr ∧ L.length ≤ 8 := by simp at h1; omega
    refine CW.loop (γ := Nat) (fun i => i ≤ L.length ∧ (∀ j < i, stepA L j = true)) (fun i => [(1, .pointer (some ⟨b1, 0, none⟩)), (3, .int .i64 (i : Int))]) (fun _ => J) (fun _ => []) (fun i => L.length - i) 0 ⟨Nat.zero_le _, fun j h => by omega⟩ (.cons rfl (.cons rfl .nil)) (fun w h => h.rea (fun _ h => h) (by repeat (first | exact Rea.nil | (apply Rea.cons; (solve | (repeat (first | exact Del.here | apply Del.there))))))) ?_
    rintro i ⟨hi, hok⟩
    refine CW.fact (p := oa = none → L.length = 0) (fun w hC e => sls_nil (hC.s.i _ m2) (by rw [e]; rfl)) (fun hpa => ?_)
    refine CW.seq (CW.seq (CW.rg (RL.p rfl (RL.fieldAddr fa_149_2 rfl rfl rfl rfl (RL.loadq Tryz.isAgg147 rfl rfl rfl rfl ?_)))))
    refine RL.lenS Tryz.runUnderlying147 rfl rfl rfl rfl (RL.p rfl (RL.nil (NQ.seq ?_)))
    refine CW.cond rfl (fun hlt => ?_) (fun hlt => ?_)
    ·
      have hlt : i < L.length := by simp at hlt; omega
      cases oa with
      | none => exact absurd (hpa rfl) (by omega)
      | some ba =>
      have hx := List.getElem?_eq_getElem hlt
      generalize L[i] = a at hx
      have hlp : i - 1 < L.length := by omega
      have hp := List.getElem?_eq_getElem hlp
      generalize L[i - 1] = q at hp
      have fA : RdsN J ⟨ba, 0 + i * 7, none⟩ 7 [.int .i64 a.src, .int .i64 a.kd, .int .i64 a.w, .int .i64 a.g, .int .i64 a.st, .int .i64 a.lm, .int .i64 a.hz] := flat_rdsN (f := Ad.cells) m2 hx (fun _ _ => rfl)
      have fP : RdI J ⟨ba, 0 + (i - 1) * 7 + 0, none⟩ (.int .i64 q.src) := flat_rdI (f := Ad.cells) m2 hp (fun _ _ => rfl) rfl
      refine CW.skip (NQ.seq (CW.seq (CW.block (CW.seq (CW.region (ef := [5, 6]) (bk := [6]) (RL.fieldAddr fa_149_2 rfl rfl rfl rfl (RL.loadq Tryz.isAgg147 rfl rfl rfl rfl ?_)))))))
      refine RL.p rfl (RL.idxAt (j := i) Tryz.runUnderlying147 Tryz.sizeOf217 rfl rfl rfl rfl rfl rfl (hlt) (RL.loadSq Tryz.isAgg217 Tryz.sizeOf217 rfl rfl rfl rfl ?_))
      refine RL.alloc Tryz.zeroValue217 rfl rfl rfl rfl rfl ?_
      intro b2
      refine RL.store (vs := [_, _, _, _, _, _, _]) Tryz.sizeOf217 rfl rfl rfl rfl rfl rfl rfl rfl rfl (by repeat (first | exact Upd.here | apply Upd.there)) ?_
      refine RL.nil (NQ.seq (CW.ok [1, 3, 4] rfl (CW.seq (CW.freezeP (A := [_]) (B := []) (.take .nil) rfl ?_))))
      refine CW.genI (fun J2 hJ => ?_)
      have hJ2 : ∀ x ∈ J, x ∈ J2 := fun x hx => hJ x (by simp [hx])
      have m3 := hJ2 _ m2
      have mA : cel b2 a.cells 217 ∈ J2 := hJ _ (List.Mem.head _)
      have fS2 : RdI J2 ⟨b1, 0 + 4, none⟩ (slO (some ba) L.length ca) := ⟨fun _ => Rd.celI (hJ2 _ m1) rfl⟩
      have fP2 : RdI J2 ⟨ba, 0 + (i - 1) * 7 + 0, none⟩ (.int .i64 q.src) := flat_rdI (f := Ad.cells) m3 hp (fun _ _ => rfl) rfl
      have f0 : RdI J2 ⟨b2, 0 + 0, none⟩ (.int .i64 a.src) := ⟨fun _ => Rd.celI mA rfl⟩
      have f1 : RdI J2 ⟨b2, 0 + 1, none⟩ (.int .i64 a.kd) := ⟨fun _ => Rd.celI mA rfl⟩
      have f2 : RdI J2 ⟨b2, 0 + 2, none⟩ (.int .i64 a.w) := ⟨fun _ => Rd.celI mA rfl⟩
      have f3 : RdsN J2 ⟨b2, 0 + 3, none⟩ 4 [.int .i64 a.g, .int .i64 a.st, .int .i64 a.lm, .int .i64 a.hz] := RdsN.told mA (fun j u hj => by
        match j, hj with
        | 0, hj => exact hj
        | 1, hj => exact hj
        | 2, hj => exact hj
        | 3, hj => exact hj
        | j + 4, hj => simp at hj) rfl
      clear fA fP fS hJ
      refine CW.regionD (Sq.of [0, 1, 2, 3, 4, 5, 6, 7, 8, 9, 10, 11, 12, 13, 14, 15, 16, 17, 18, 19, 20, 21, 22, 23, 24, 25, 26, 27, 28, 29, 30, 31, 32, 33, 34, 35, 36, 37, 38, 39, 40, 41, 42, 43, 44, 45, 46, 47, 48, 49]) [] [] [0, 1, 2, 3, 4, 5, 6, 7, 8, 9, 10, 11, 12, 13, 14, 15, 16, 17, 18, 19, 20, 21, 22, 23, 24, 25, 26, 27, 28, 29, 30, 31, 32, 33, 34, 35, 36, 37, 38, 39, 40, 41, 42, 43, 44, 45, 46, 47, 48, 49] mixed (by kernel_rfl) ?_
      refine RL.fieldAddr fa_217_0 rfl rfl rfl rfl (RL.loadTq Tryz.isAgg3 rfl rfl rfl rfl ?_)
      refine RL.p rfl (RL.p rfl ?_)
      apply RL.orB (d := 29) (dp := 33) (l' := (Sq.of [8, 9, 10, 11, 12, 13, 14, 15, 16, 17, 18, 19, 20, 21, 22, 23, 24, 25, 26, 27, 28, 29, 30, 31, 32, 33, 34, 35, 36, 37, 38, 39, 40, 41, 42, 43, 44, 45, 46, 47, 48, 49])) rfl (sK [1, 3, 4] rfl)
      ·
        intro hb4 K4
        refine RL.fieldAddr fa_217_0 rfl rfl rfl rfl (RL.loadTq Tryz.isAgg3 rfl rfl rfl rfl ?_)
        refine RL.p rfl (RL.p rfl ?_)
        exact K4 _ (.cons rfl (sK [1, 3, 4] rfl))
      ·
        intro hb4 K4
        refine RL.p rfl (RL.p rfl (RL.p rfl (RL.p rfl ?_)))
        exact K4 _ (.cons rfl (sK [1, 3, 4] rfl))
      refine RL.p rfl ?_
      apply RL.orB (d := 34) (dp := 49) (l' := (Sq.of [24, 25, 26, 27, 28, 29, 30, 31, 32, 33, 34, 35, 36, 37, 38, 39, 40, 41, 42, 43, 44, 45, 46, 47, 48, 49])) rfl (sK [1, 3, 4] rfl)
      ·
        intro hb9 K9
        refine RL.p rfl (RL.p rfl (RL.p rfl ?_))
        apply RL.andB (d := 37) (dp := 48) (l' := (Sq.of [23, 24, 25, 26, 27, 28, 29, 30, 31, 32, 33, 34, 35, 36, 37, 38, 39, 40, 41, 42, 43, 44, 45, 46, 47, 48, 49])) rfl (sK [1, 3, 4, 34] rfl)
        ·
          intro hb12 K12
          refine RL.fieldAddr fa_217_0 rfl rfl rfl rfl (RL.loadTq Tryz.isAgg3 rfl rfl rfl rfl ?_)
          refine RL.fieldAddr fa_149_2 rfl rfl rfl rfl (RL.loadTq Tryz.isAgg147 rfl rfl rfl rfl ?_)
          refine RL.p rfl (RL.bx rfl (wrapV_i64 (by omega) (by omega)) ?_)
          refine RL.cast (d := 43) (v' := .int .i64 ((i - 1 : Nat) : Int)) rfl (by have h0 := of_decide_eq_true ‹decide ((i : Int) > 0) = true›; congr 1; omega) ?_
          refine RL.idxAt (j := i - 1) Tryz.runUnderlying147 Tryz.sizeOf217 rfl rfl rfl rfl rfl rfl hlp (RL.fieldAddr fa_217_0 rfl rfl rfl rfl (RL.loadTq Tryz.isAgg3 rfl rfl rfl rfl ?_))
          refine RL.p rfl (RL.p rfl ?_)
          exact K12 _ (.cons rfl (sK [1, 3, 4, 34] rfl))
        ·
          intro hb12 K12
          refine RL.p rfl (RL.p rfl (RL.p rfl (RL.p rfl (RL.p rfl (RL.p rfl (RL.p rfl (RL.p rfl (RL.p rfl (RL.p rfl (RL.p rfl ?_))))))))))
          exact K12 _ (.cons rfl (sK [1, 3, 4, 34] rfl))
        refine RL.p rfl ?_
        exact K9 _ (.cons rfl (sK [1, 3, 4] rfl))
      ·
        intro hb9 K9
        refine RL.p rfl (RL.p rfl (RL.p rfl (RL.p rfl (RL.p rfl (RL.p rfl (RL.p rfl (RL.p rfl (RL.p rfl (RL.p rfl (RL.p rfl (RL.p rfl (RL.p rfl (RL.p rfl ?_)))))))))))))
        refine RL.p rfl ?_
        exact K9 _ (.cons rfl (sK [1, 3, 4] rfl))
      refine RL.p rfl ?_
      apply RL.orB (d := 50) (dp := 54) (l' := (Sq.of [29, 30, 31, 32, 33, 34, 35, 36, 37, 38, 39, 40, 41, 42, 43, 44, 45, 46, 47, 48, 49])) rfl (sK [1, 3, 4] rfl)
      ·
        intro hb25 K25
        refine RL.fieldAddr fa_217_1 rfl rfl rfl rfl (RL.loadTq Tryz.isAgg3 rfl rfl rfl rfl ?_)
        refine RL.p rfl (RL.p rfl ?_)
        exact K25 _ (.cons rfl (sK [1, 3, 4] rfl))
      ·
        intro hb25 K25
        refine RL.p rfl (RL.p rfl (RL.p rfl (RL.p rfl ?_)))
        exact K25 _ (.cons rfl (sK [1, 3, 4] rfl))
      refine RL.p rfl ?_
      apply RL.orB (d := 55) (dp := 59) (l' := (Sq.of [34, 35, 36, 37, 38, 39, 40, 41, 42, 43, 44, 45, 46, 47, 48, 49])) rfl (sK [1, 3, 4] rfl)
      ·
        intro hb30 K30
        refine RL.fieldAddr fa_217_1 rfl rfl rfl rfl (RL.loadTq Tryz.isAgg3 rfl rfl rfl rfl ?_)
        refine RL.p rfl (RL.p rfl ?_)
        exact K30 _ (.cons rfl (sK [1, 3, 4] rfl))
      ·
        intro hb30 K30
        refine RL.p rfl (RL.p rfl (RL.p rfl (RL.p rfl ?_)))
        exact K30 _ (.cons rfl (sK [1, 3, 4] rfl))
      refine RL.p rfl ?_
      apply RL.orB (d := 60) (dp := 64) (l' := (Sq.of [39, 40, 41, 42, 43, 44, 45, 46, 47, 48, 49])) rfl (sK [1, 3, 4] rfl)
      ·
        intro hb35 K35
        refine RL.fieldAddr fa_217_2 rfl rfl rfl rfl (RL.loadTq Tryz.isAgg3 rfl rfl rfl rfl ?_)
        refine RL.p rfl (RL.p rfl ?_)
        exact K35 _ (.cons rfl (sK [1, 3, 4] rfl))
      ·
        intro hb35 K35
        refine RL.p rfl (RL.p rfl (RL.p rfl (RL.p rfl ?_)))
        exact K35 _ (.cons rfl (sK [1, 3, 4] rfl))
      refine RL.p rfl ?_
      apply RL.orB (d := 65) (dp := 69) (l' := (Sq.of [44, 45, 46, 47, 48, 49])) rfl (sK [1, 3, 4] rfl)
      ·
        intro hb40 K40
        refine RL.fieldAddr fa_217_2 rfl rfl rfl rfl (RL.loadTq Tryz.isAgg3 rfl rfl rfl rfl ?_)
        refine RL.p rfl (RL.p rfl ?_)
        exact K40 _ (.cons rfl (sK [1, 3, 4] rfl))
      ·
        intro hb40 K40
        refine RL.p rfl (RL.p rfl (RL.p rfl (RL.p rfl ?_)))
        exact K40 _ (.cons rfl (sK [1, 3, 4] rfl))
      refine RL.p rfl ?_
      apply RL.orB (d := 70) (dp := 75) (l' := (Sq.of [])) rfl (sK [1, 3] rfl)
      ·
        intro hb45 K45
        refine RL.fieldAddr fa_217_3 rfl rfl rfl rfl (RL.loadSTq Tryz.isAgg215 Tryz.sizeOf215 rfl rfl rfl rfl ?_)
        refine RL.callTq (rrule_any a.g a.st a.lm a.hz) Tryz.call98 rfl rfl rfl rfl ?_
        refine RL.p rfl (RL.p rfl ?_)
        exact K45 _ (.cons rfl (sK [1, 3] rfl))
      ·
        intro hb45 K45
        refine RL.p rfl (RL.p rfl (RL.p rfl (RL.p rfl (RL.p rfl ?_))))
        exact K45 _ (.cons rfl (sK [1, 3] rfl))
      refine RL.nil (NQ.seq ?_)
      refine CW.cond rfl (fun h2 => ?_) (fun h2 => ?_)
      ·
        refine CW.seq (CW.rg (RL.p rfl (RL.nil (NQ.seq (CW.ret (RQ.block (RQ.seq (RQ.seq (RQ.block (RQ.seq ?_))))))))))
        have hno : ¬ (0 ≤ dr ∧ L.length ≤ 8 ∧ adsB L = true) := by
          rintro ⟨-, -, h3⟩
          have h4 := adsB_iff.1 h3 i
          rw [stepA_at hx] at h4
          simp [Ad.ok] at h4
          simp only [Bool.or_eq_true, Bool.and_eq_true, decide_eq_true_eq, bne_iff_ne, ne_eq, errI_0] at h2
          by_cases hi0 : 0 < i
          · rw [wasA_prev hp hi0] at h4; omega
          · omega
        exact RQ.post (res1 rfl rfl) (Split.none _) ⟨by rw [errI_no hno], rfl, rfl⟩
      ·
        have hs : stepA L i = true := by
          rw [stepA_at hx]
          simp only [Bool.or_eq_false_iff, Bool.and_eq_false_iff, decide_eq_false_iff_not, bne_eq_false_iff_eq, errI_0] at h2
          simp [Ad.ok]
          refine ⟨by omega, ?_⟩
          by_cases hi0 : 0 < i
          · rw [wasA_prev hp hi0]; omega
          · obtain rfl : i = 0 := by omega
            rw [wasA]; omega
        refine CW.skip (NQ.block (NQ.seq (CW.rg (RL.p rfl (RL.bx rfl (wrapV_i64 (by omega) (by omega)) ?_)))))
        refine RL.p rfl (RL.nil ?_)
        refine NQ.round (g := i) (i + 1) ⟨hlt, fun j hj => ?_⟩ (by show L.length - (i + 1) < L.length - i; omega) (.cons rfl (.cons rfl .nil)) (fun w h => h.rea hJ2 (by repeat (first | exact Rea.nil | (apply Rea.cons; (solve | (repeat (first | exact Del.here | apply Del.there)))))))
        rcases Nat.lt_succ_iff_lt_or_eq.1 hj with hj | rfl
        · exact hok j hj
        · exact hs
    ·
      have hin : i = L.length := by simp at hlt; omega
      refine CW.exit (XQ.seq (XQ.seq (XQ.hit (NQ.seq (CW.ok [] rfl (CW.seq (CW.rg (RL.p rfl (RL.nil (NQ.seq (CW.ret ?_)))))))))))
      have hyes : 0 ≤ dr ∧ L.length ≤ 8 ∧ adsB L = true := by
        refine ⟨h1.1, h1.2, adsB_iff.2 fun j => ?_⟩
        by_cases hj : j < L.length
        · exact hok j (by omega)
        · rw [stepA, List.getElem?_eq_none (by omega)]
      exact RQ.post (res1 rfl rfl) (Split.none _) ⟨by rw [errI_yes hyes], rfl, rfl⟩
end Go.Proofs.YthndhipjfdgdfaaGreatDoor

namespace Go.Proofs.YthndhipjfdgdfaaGreatDoor
open Go.PK
/-! ### A navigator's setup -/
def adOf (s : Sr) : Ad := ⟨s.id, s.kd, s.w, s.g, s.st, limS s, s.hz⟩
def adsOf (L : List Sr) : List Ad := (L.filter fun s => aidB s.kd).map adOf
theorem adsOf_yes {L : List Sr} {i : Nat} {s : Sr} (h : L[i]? = some s) (hs : aidB s.kd = true) : adsOf (L.take (i + 1)) = adsOf (L.take i) ++ [adOf s] := by
  rw [adsOf, adsOf, List.take_add_one, h]
  simp [hs]
theorem adsOf_no {L : List Sr} {i : Nat} {s : Sr} (h : L[i]? = some s) (hs : aidB s.kd = false) : adsOf (L.take (i + 1)) = adsOf (L.take i) := by
  rw [adsOf, adsOf, List.take_add_one, h]
  simp [hs]
theorem adsOf_len (L : List Sr) : (adsOf L).length ≤ L.length := by
  rw [adsOf, List.length_map]; exact List.length_filter_le _ _
structure Cf where
  g0 : Int
  g1 : Int
  g2 : Int
  dr : Int
  sc : Sch
  cm : List B8
  mo : Int
  ti : Int
  gr : Int
  sd : Int
  L : List Sr
def Cf.tl (c : Cf) : List Value := [.int .i64 c.mo, .int .i64 c.ti, .int .i64 c.gr, .int .u64 c.sd]
def Cf.cells (c : Cf) (sl : Value) : List Value := sl :: .int .i64 c.g0 :: .int .i64 c.g1 :: .int .i64 c.g2 :: .int .i64 c.dr :: .int .i64 c.sc.st :: .int .i64 c.sc.ln :: .int .i64 c.sc.lg :: .int .i64 c.sc.of :: (bytes c.cm ++ c.tl)
theorem cf_len {c : Cf} (h : c.cm.length = 32) (sl : Value) : (c.cells sl).length = 45 := by simp [Cf.cells, Cf.tl, h]
theorem cf_t {c : Cf} (h : c.cm.length = 32) (sl : Value) (j : Nat) : (c.cells sl)[0 + 41 + j]? = c.tl[j]? := by
  rw [Cf.cells, show 0 + 41 + j = (32 + j) + 1 + 1 + 1 + 1 + 1 + 1 + 1 + 1 + 1 by omega]
  simp only [List.getElem?_cons_succ]
  rw [List.getElem?_append_right (by simp [h]), List.length_map, h, Nat.add_sub_cancel_left]
/-- A setup, its aids its own. -/
def NavR (U : TypeId) (c : Cf) : Value → List It → List It → Prop := fun v I' H' => ∃ ob cap, v = .agg #[.int .i64 c.g0, .int .i64 c.g1, .int .i64 c.g2, .int .i64 c.dr, slO ob (adsOf c.L).length cap] ∧ I' = [] ∧ H' = [own ob cap U 7 (adsOf c.L).length ((adsOf c.L).flatMap Ad.cells)]
theorem adf_snoc (l : List Ad) (a : Ad) : (l ++ [a]).flatMap Ad.cells = l.flatMap Ad.cells ++ [.int .i64 a.src, .int .i64 a.kd, .int .i64 a.w, .int .i64 a.g, .int .i64 a.st, .int .i64 a.lm, .int .i64 a.hz] := by simp [Ad.cells]
theorem ones_app : ∀ {l m : List Value}, ones l = true → ones m = true → ones (l ++ m) = true
  | [], _, _, h => h
  | u :: l, m, h, h2 => by
    simp only [ones, Bool.and_eq_true, List.cons_append] at h ⊢
    exact ⟨h.1, ones_app h.2 h2⟩
theorem sr_ones (s : Sr) : ones s.cells = true := by
  have h : ones (bytes s.rt ++ s.tl) = true := ones_app (ones_map one8 _) rfl
  exact h
theorem snav_any (c : Cf) (oa : Option Nat) (ca n : Nat) (hn : c.L.length = n) (hc : c.cm.length = 32) (hL : ∀ s ∈ c.L, s.Fit) (hl : n ≤ 1000000) :
    Spc Tryz.prog 109 #[.agg (c.cells (slO oa n ca)).toArray] [sls (oa.map fun b => ⟨b, 0, none⟩) 48 n (c.L.flatMap Sr.cells)] [] (NavR 297 c) := by
  subst hn
  have hLl : ∀ s ∈ c.L, s.cells.length = 48 := fun s hs => sr_len (hL s hs).rt
  refine Spc.enter Tryz.func109 rfl rfl rfl (fun w0 hw0 => ?_)
  refine CW.seq (CW.region (ef := [0, 1]) (bk := []) (RL.box rfl rfl rfl rfl rfl rfl ?_))
  intro b1
  refine RL.alloc Tryz.zeroValue235 rfl rfl rfl rfl rfl ?_
  intro b2
  refine RL.nil (NQ.seq (CW.seq (CW.freezeP (A := [cel b1 (c.cells (slO oa c.L.length ca)) 32]) (B := [cel b2 [.int .i64 0, .int .i64 0, .int .i64 0, .int .i64 0, .slice none 0 0] 235]) (by repeat (first | exact Pick.nil | apply Pick.take | apply Pick.leave)) rfl ?_)))
  simp only [List.cons_append, List.nil_append]
  generalize hJ : ([cel b1 (c.cells (slO oa c.L.length ca)) 32, sls (oa.map fun b => ⟨b, 0, none⟩) 48 c.L.length (c.L.flatMap Sr.cells)] : List It) = J
  have m1 : cel b1 (c.cells (slO oa c.L.length ca)) 32 ∈ J := by rw [← hJ]; exact (by repeat (first | exact List.Mem.head _ | apply List.Mem.tail))
  have m2 : sls (oa.map fun b => ⟨b, 0, none⟩) 48 c.L.length (c.L.flatMap Sr.cells) ∈ J := by rw [← hJ]; exact (by repeat (first | exact List.Mem.head _ | apply List.Mem.tail))
  clear hJ
  have fS : RdI J ⟨b1, 0 + 0, none⟩ (slO oa c.L.length ca) := ⟨fun _ => Rd.celI m1 rfl⟩
  have fG : RdsN J ⟨b1, 0 + 1, none⟩ 3 [.int .i64 c.g0, .int .i64 c.g1, .int .i64 c.g2] := RdsN.told m1 (fun j u hj => by
    match j, hj with
    | 0, hj => exact hj
    | 1, hj => exact hj
    | 2, hj => exact hj
    | j + 3, hj => simp at hj) rfl
  have fD : RdI J ⟨b1, 0 + 4, none⟩ (.int .i64 c.dr) := ⟨fun _ => Rd.celI m1 rfl⟩
  refine CW.region (ef := [5, 6]) (bk := [6]) (RL.fieldAddr fa_32_1 rfl rfl rfl rfl (RL.loadSq Tryz.isAgg25 Tryz.sizeOf25 rfl rfl rfl rfl ?_))
  refine RL.fieldAddr fa_32_2 rfl rfl rfl rfl (RL.loadq Tryz.isAgg23 rfl rfl rfl rfl ?_)
  refine RL.buildS [_, _, _, _, _] Tryz.zeroValue235 pl_235 rfl rfl rfl rfl rfl (RL.alloc Tryz.zeroValue235 rfl rfl rfl rfl rfl ?_)
  intro b3
  refine RL.store (vs := [_, _, _, _, _]) Tryz.sizeOf235 rfl rfl rfl rfl rfl rfl rfl rfl rfl (by repeat (first | exact Upd.here | apply Upd.there)) ?_
  refine RL.nil (NQ.seq (CW.ok [1, 2, 3] rfl (CW.seq (CW.seq (CW.rg (RL.fieldAddr fa_32_0 rfl rfl rfl rfl (RL.loadq Tryz.isAgg22 rfl rfl rfl rfl ?_)))))))
  refine RL.lenS Tryz.runUnderlying22 rfl rfl rfl rfl (RL.p rfl (RL.nil (NQ.seq (CW.block (CW.ownNone (e := 297) 7 ?_)))))
  refine CW.loop (γ := Nat × List Ad × Option Nat × Nat × Nat) (fun g => g.1 ≤ c.L.length ∧ g.2.1 = adsOf (c.L.take g.1) ∧ g.2.2.2.2 = g.2.1.length) (fun g => [(2, .pointer (some ⟨b2, 0, none⟩)), (3, .pointer (some ⟨b3, 0, none⟩)), (13, slO oa c.L.length ca), (14, .int .i64 (c.L.length : Int)), (15, .int .i64 (g.1 : Int))]) (fun _ => J)
    (fun g => [cel b2 [.int .i64 0, .int .i64 0, .int .i64 0, .int .i64 0, .slice none 0 0] 235, cel b3 [.int .i64 c.g0, .int .i64 c.g1, .int .i64 c.g2, .int .i64 c.dr, slO g.2.2.1 g.2.2.2.2 g.2.2.2.1] 235, own g.2.2.1 g.2.2.2.1 297 7 g.2.2.2.2 (g.2.1.flatMap Ad.cells)]) (fun g => c.L.length - g.1) (0, [], none, 0, 0) ⟨Nat.zero_le _, rfl, rfl⟩ (.cons rfl (.cons rfl (.cons rfl (.cons rfl (.cons rfl .nil))))) (fun w h => h.rea (fun _ h => h) (by repeat (first | exact Rea.nil | (apply Rea.cons; (solve | (repeat (first | exact Del.here | apply Del.there))))))) ?_
  rintro ⟨i, acc, ob, cp, m⟩ ⟨hi, hac, hm⟩
  dsimp only at hi hac hm ⊢
  refine CW.fact (p := oa = none → c.L.length = 0) (fun w hC e => sls_nil (hC.s.i _ m2) (by rw [e]; rfl)) (fun hpa => ?_)
  have hmb : m ≤ 1000000 := by
    rw [hm, hac]; exact Nat.le_trans (adsOf_len _) (by rw [List.length_take]; omega)
  refine CW.seq (CW.rg (RL.p rfl (RL.nil (NQ.seq (CW.seq ?_)))))
  refine CW.cond rfl (fun hlt => ?_) (fun hlt => ?_)
  ·
    have hlt : i < c.L.length := by simp at hlt; omega
    cases oa with
    | none => exact absurd (hpa rfl) (by omega)
    | some ba =>
    have hx := List.getElem?_eq_getElem hlt
    generalize c.L[i] = s at hx
    have hs := hL s (List.mem_of_getElem? hx)
    have hsl := hLl s (List.mem_of_getElem? hx)
    have fA : RdsN J ⟨ba, 0 + i * 48, none⟩ 48 s.cells := flat_rdsN (f := Sr.cells) m2 hx hLl
    refine CW.skip (NQ.seq (CW.seq (CW.block (CW.seq (CW.region (ef := [2, 3]) (bk := [3]) (RL.idxAt (j := i) Tryz.runUnderlying22 Tryz.sizeOf98 rfl rfl rfl rfl rfl rfl (hlt) (RL.loadSq Tryz.isAgg98 Tryz.sizeOf98 rfl rfl rfl rfl ?_)))))))
    refine RL.alloc Tryz.zeroValue98 rfl rfl rfl rfl rfl ?_
    intro b4
    refine RL.storeW Tryz.sizeOf98 rfl rfl rfl rfl rfl rfl rfl (sr_ones s) (by repeat (first | exact Upd.here | apply Upd.there)) hsl rfl ?_
    refine RL.nil (NQ.seq (CW.seq (CW.freezeP (A := [cel b4 s.cells 98]) (B := _) (by repeat (first | exact Pick.nil | apply Pick.take | apply Pick.leave)) rfl ?_)))
    refine CW.genI (fun J2 hJ => ?_)
    have hJ2 : ∀ x ∈ J, x ∈ J2 := fun x hx => hJ x (by simp [hx])
    have mA : cel b4 s.cells 98 ∈ J2 := hJ _ (List.Mem.head _)
    clear hJ
    have s0 : RdI J2 ⟨b4, 0 + 0, none⟩ (.int .i64 s.id) := ⟨fun _ => Rd.celI mA rfl⟩
    have s1 : RdI J2 ⟨b4, 0 + 1, none⟩ (.int .i64 s.kd) := ⟨fun _ => Rd.celI mA rfl⟩
    have s3 : RdI J2 ⟨b4, 0 + 34, none⟩ (.int .i64 s.w) := ⟨fun _ => Rd.getI mA (sr_t hs.rt 0)⟩
    have s4 : RdI J2 ⟨b4, 0 + 35, none⟩ (.int .i64 s.g) := ⟨fun _ => Rd.getI mA (sr_t hs.rt 1)⟩
    have s5 : RdI J2 ⟨b4, 0 + 36, none⟩ (.int .i64 s.st) := ⟨fun _ => Rd.getI mA (sr_t hs.rt 2)⟩
    have s6 : RdI J2 ⟨b4, 0 + 37, none⟩ (.int .i64 s.hz) := ⟨fun _ => Rd.getI mA (sr_t hs.rt 3)⟩
    have sA : RdsN J2 ⟨b4, 0, none⟩ 48 s.cells := ⟨fun _ => Rds.allI mA, hsl⟩
    refine CW.rg (RL.loadSq Tryz.isAgg98 Tryz.sizeOf98 rfl rfl rfl rfl ?_)
    refine RL.callvq (aid_any s) Tryz.call113 rfl rfl rfl rfl ?_
    refine RL.nil (NQ.seq ?_)
    refine CW.cond rfl (fun hk => ?_) (fun hk => ?_)
    ·
      refine CW.seq (CW.regionD (Sq.of [0, 1, 2, 3, 4, 5, 6, 7, 8, 9, 10]) [9, 10] [10] [0, 1, 2, 3, 4, 5, 6, 7, 8] mixed (by kernel_rfl) ?_)
      refine RL.fieldAddr fa_98_4 rfl rfl rfl rfl (RL.loadTq Tryz.isAgg3 rfl rfl rfl rfl ?_)
      refine RL.fieldAddr fa_98_5 rfl rfl rfl rfl (RL.loadTq Tryz.isAgg23 rfl rfl rfl rfl ?_)
      refine RL.loadSTq Tryz.isAgg98 Tryz.sizeOf98 rfl rfl rfl rfl ?_
      refine RL.callTq (limit_any s hs) Tryz.call136 rfl rfl rfl rfl ?_
      refine RL.fieldAddr fa_98_6 rfl rfl rfl rfl (RL.loadTq Tryz.isAgg3 rfl rfl rfl rfl ?_)
      refine RL.buildS [_, _, _, _] Tryz.zeroValue295 pl_295 rfl rfl rfl rfl rfl (RL.alloc Tryz.zeroValue295 rfl rfl rfl rfl rfl ?_)
      intro b5
      refine RL.store (vs := [_, _, _, _]) Tryz.sizeOf295 rfl rfl rfl rfl rfl rfl rfl rfl rfl (by repeat (first | exact Upd.here | apply Upd.there)) ?_
      refine RL.nil (NQ.seq (CW.ok [2, 3, 5, 6, 13, 14, 15] rfl (CW.region (ef := [10, 11, 13]) (bk := [11, 13]) (RL.fieldAddr fa_235_2 rfl rfl rfl rfl (RL.loadq Tryz.isAgg233 rfl rfl rfl rfl ?_)))))
      refine RL.fieldAddr fa_98_0 rfl rfl rfl rfl (RL.loadq Tryz.isAgg3 rfl rfl rfl rfl ?_)
      refine RL.fieldAddr fa_98_1 rfl rfl rfl rfl (RL.loadq Tryz.isAgg3 rfl rfl rfl rfl ?_)
      refine RL.fieldAddr fa_98_3 rfl rfl rfl rfl (RL.loadq Tryz.isAgg3 rfl rfl rfl rfl ?_)
      refine RL.loadSq Tryz.isAgg295 Tryz.sizeOf295 rfl rfl rfl rfl ?_
      refine RL.buildS [_, _, _, _, _, _, _] Tryz.zeroValue297 pl_297 rfl rfl rfl rfl rfl (RL.buildSlice [_, _, _, _, _, _, _] Tryz.runUnderlying233 Tryz.sizeOf297 Tryz.zeroValue297 rfl rfl (by decide) (by decide) rfl rfl rfl rfl rfl rfl ?_)
      intro b6
      refine RL.appendq el_233 rfl rfl rfl rfl rfl rfl rfl ?_
      intro ob1 cap1 ho1
      refine RL.fieldAddr fa_235_2 rfl rfl rfl rfl (RL.store (vs := [_]) Tryz.sizeOf233 rfl rfl rfl rfl rfl rfl rfl rfl rfl (by repeat (first | exact Upd.here | apply Upd.there)) ?_)
      refine RL.nil (NQ.block (NQ.seq (CW.ok [2, 3, 13, 14, 15] rfl (CW.rg (RL.bx rfl (wrapV_i64 (by omega) (by omega)) ?_)))))
      refine RL.p rfl (RL.nil ?_)
      refine NQ.round (g := (i, acc, ob, cp, m)) (i + 1, acc ++ [adOf s], ob1, cap1, m + 1) ⟨hlt, by rw [hac]; exact (adsOf_yes hx (by simpa using hk)).symm, by simp [hm]⟩ (by show c.L.length - (i + 1) < c.L.length - i; omega) (.cons rfl (.cons rfl (.cons rfl (.cons rfl (.cons rfl .nil))))) (fun w h => ?_)
      refine h.rea (H' := [cel b2 [.int .i64 0, .int .i64 0, .int .i64 0, .int .i64 0, .slice none 0 0] 235, cel b3 [.int .i64 c.g0, .int .i64 c.g1, .int .i64 c.g2, .int .i64 c.dr, slO ob1 (m + 1) cap1] 235, own ob1 cap1 297 7 (m + 1) ((acc ++ [adOf s]).flatMap Ad.cells)]) hJ2 ?_
      rw [adf_snoc]
      exact (by repeat (first | exact Rea.nil | (apply Rea.cons; (solve | (repeat (first | exact Del.here | apply Del.there))))))
    ·
      refine CW.skip (NQ.block (NQ.seq (CW.ok [2, 3, 13, 14, 15] rfl (CW.rg (RL.bx rfl (wrapV_i64 (by omega) (by omega)) ?_)))))
      refine RL.p rfl (RL.nil ?_)
      refine NQ.round (g := (i, acc, ob, cp, m)) (i + 1, acc, ob, cp, m) ⟨hlt, by rw [hac]; exact (adsOf_no hx (by simpa using hk)).symm, hm⟩ (by show c.L.length - (i + 1) < c.L.length - i; omega) (.cons rfl (.cons rfl (.cons rfl (.cons rfl (.cons rfl .nil))))) (fun w h => h.rea hJ2 (by repeat (first | exact Rea.nil | (apply Rea.cons; (solve | (repeat (first | exact Del.here | apply Del.there)))))))
  ·
    have hin : i = c.L.length := by simp at hlt; omega
    subst hin
    rw [List.take_length] at hac
    subst hac
    refine CW.exit (XQ.seq (XQ.seq (XQ.hit (NQ.seq (CW.seq (CW.region (ef := [1]) (bk := [1]) (RL.loadSq Tryz.isAgg235 Tryz.sizeOf235 rfl rfl rfl rfl ?_)))))))
    refine RL.store (vs := [_, _, _, _, _]) Tryz.sizeOf235 rfl rfl rfl rfl rfl rfl rfl rfl rfl (by repeat (first | exact Upd.here | apply Upd.there)) ?_
    refine RL.nil (NQ.seq (CW.ok [2] rfl (CW.ret ?_)))
    subst hm
    refine RQ.rea (fun _ h => h) (H' := [cel b2 [.int .i64 c.g0, .int .i64 c.g1, .int .i64 c.g2, .int .i64 c.dr, slO ob (adsOf c.L).length cp] 235, own ob cp 297 7 (adsOf c.L).length ((adsOf c.L).flatMap Ad.cells)]) (by repeat (first | exact Rea.nil | (apply Rea.cons; (solve | (repeat (first | exact Del.here | apply Del.there)))))) ?_
    exact RQ.post (resW rfl rfl Tryz.isAgg235 Tryz.sizeOf235 (by repeat (first | exact List.Mem.head _ | apply List.Mem.tail)) rfl) (.drop (.keep .nil)) ⟨ob, cp, rfl, rfl, rfl⟩
theorem rsnav_any (c : Cf) (oa : Option Nat) (ca n : Nat) (hn : c.L.length = n) (hc : c.cm.length = 32) (hL : ∀ s ∈ c.L, s.Fit) (hl : n ≤ 1000000) :
    Spc Tryz.prog 62 #[.agg (c.cells (slO oa n ca)).toArray] [sls (oa.map fun b => ⟨b, 0, none⟩) 48 n (c.L.flatMap Sr.cells)] [] (NavR 217 c) := by
  subst hn
  have hLl : ∀ s ∈ c.L, s.cells.length = 48 := fun s hs => sr_len (hL s hs).rt
  refine Spc.enter Tryz.func62 rfl rfl rfl (fun w0 hw0 => ?_)
  refine CW.seq (CW.region (ef := [0, 1]) (bk := []) (RL.box rfl rfl rfl rfl rfl rfl ?_))
  intro b1
  refine RL.alloc Tryz.zeroValue149 rfl rfl rfl rfl rfl ?_
  intro b2
  refine RL.nil (NQ.seq (CW.seq (CW.freezeP (A := [cel b1 (c.cells (slO oa c.L.length ca)) 40]) (B := [cel b2 [.int .i64 0, .int .i64 0, .int .i64 0, .int .i64 0, .slice none 0 0] 149]) (by repeat (first | exact Pick.nil | apply Pick.take | apply Pick.leave)) rfl ?_)))
  simp only [List.cons_append, List.nil_append]
  generalize hJ : ([cel b1 (c.cells (slO oa c.L.length ca)) 40, sls (oa.map fun b => ⟨b, 0, none⟩) 48 c.L.length (c.L.flatMap Sr.cells)] : List It) = J
  have m1 : cel b1 (c.cells (slO oa c.L.length ca)) 40 ∈ J := by rw [← hJ]; exact (by repeat (first | exact List.Mem.head _ | apply List.Mem.tail))
  have m2 : sls (oa.map fun b => ⟨b, 0, none⟩) 48 c.L.length (c.L.flatMap Sr.cells) ∈ J := by rw [← hJ]; exact (by repeat (first | exact List.Mem.head _ | apply List.Mem.tail))
  clear hJ
  have fS : RdI J ⟨b1, 0 + 0, none⟩ (slO oa c.L.length ca) := ⟨fun _ => Rd.celI m1 rfl⟩
  have fG : RdsN J ⟨b1, 0 + 1, none⟩ 3 [.int .i64 c.g0, .int .i64 c.g1, .int .i64 c.g2] := RdsN.told m1 (fun j u hj => by
    match j, hj with
    | 0, hj => exact hj
    | 1, hj => exact hj
    | 2, hj => exact hj
    | j + 3, hj => simp at hj) rfl
  have fD : RdI J ⟨b1, 0 + 4, none⟩ (.int .i64 c.dr) := ⟨fun _ => Rd.celI m1 rfl⟩
  refine CW.region (ef := [5, 6]) (bk := [6]) (RL.fieldAddr fa_40_1 rfl rfl rfl rfl (RL.loadSq Tryz.isAgg25 Tryz.sizeOf25 rfl rfl rfl rfl ?_))
  refine RL.fieldAddr fa_40_2 rfl rfl rfl rfl (RL.loadq Tryz.isAgg23 rfl rfl rfl rfl ?_)
  refine RL.buildS [_, _, _, _, _] Tryz.zeroValue149 pl_149 rfl rfl rfl rfl rfl (RL.alloc Tryz.zeroValue149 rfl rfl rfl rfl rfl ?_)
  intro b3
  refine RL.store (vs := [_, _, _, _, _]) Tryz.sizeOf149 rfl rfl rfl rfl rfl rfl rfl rfl rfl (by repeat (first | exact Upd.here | apply Upd.there)) ?_
  refine RL.nil (NQ.seq (CW.ok [1, 2, 3] rfl (CW.seq (CW.seq (CW.rg (RL.p rfl (RL.nil (NQ.seq (CW.block (CW.ownNone (e := 217) 7 ?_))))))))))
  refine CW.loop (γ := Nat × List Ad × Option Nat × Nat × Nat) (fun g => g.1 ≤ c.L.length ∧ g.2.1 = adsOf (c.L.take g.1) ∧ g.2.2.2.2 = g.2.1.length) (fun g => [(2, .pointer (some ⟨b2, 0, none⟩)), (3, .pointer (some ⟨b3, 0, none⟩)), (1, .pointer (some ⟨b1, 0, none⟩)), (4, .int .i64 (g.1 : Int))]) (fun _ => J)
    (fun g => [cel b2 [.int .i64 0, .int .i64 0, .int .i64 0, .int .i64 0, .slice none 0 0] 149, cel b3 [.int .i64 c.g0, .int .i64 c.g1, .int .i64 c.g2, .int .i64 c.dr, slO g.2.2.1 g.2.2.2.2 g.2.2.2.1] 149, own g.2.2.1 g.2.2.2.1 217 7 g.2.2.2.2 (g.2.1.flatMap Ad.cells)]) (fun g => c.L.length - g.1) (0, [], none, 0, 0) ⟨Nat.zero_le _, rfl, rfl⟩ (.cons rfl (.cons rfl (.cons rfl (.cons rfl .nil)))) (fun w h => h.rea (fun _ h => h) (by repeat (first | exact Rea.nil | (apply Rea.cons; (solve | (repeat (first | exact Del.here | apply Del.there))))))) ?_
  rintro ⟨i, acc, ob, cp, m⟩ ⟨hi, hac, hm⟩
  dsimp only at hi hac hm ⊢
  refine CW.fact (p := oa = none → c.L.length = 0) (fun w hC e => sls_nil (hC.s.i _ m2) (by rw [e]; rfl)) (fun hpa => ?_)
  have hmb : m ≤ 1000000 := by
    rw [hm, hac]; exact Nat.le_trans (adsOf_len _) (by rw [List.length_take]; omega)
  refine CW.seq (CW.seq (CW.rg (RL.p rfl (RL.fieldAddr fa_40_0 rfl rfl rfl rfl (RL.loadq Tryz.isAgg37 rfl rfl rfl rfl ?_)))))
  refine RL.lenS Tryz.runUnderlying37 rfl rfl rfl rfl (RL.p rfl (RL.nil (NQ.seq ?_)))
  refine CW.cond rfl (fun hlt => ?_) (fun hlt => ?_)
  ·
    have hlt : i < c.L.length := by simp at hlt; omega
    cases oa with
    | none => exact absurd (hpa rfl) (by omega)
    | some ba =>
    have hx := List.getElem?_eq_getElem hlt
    generalize c.L[i] = s at hx
    have hs := hL s (List.mem_of_getElem? hx)
    have hsl := hLl s (List.mem_of_getElem? hx)
    have fA : RdsN J ⟨ba, 0 + i * 48, none⟩ 48 s.cells := flat_rdsN (f := Sr.cells) m2 hx hLl
    refine CW.skip (NQ.seq (CW.seq (CW.block (CW.seq (CW.region (ef := [5, 6]) (bk := [6]) (RL.fieldAddr fa_40_0 rfl rfl rfl rfl (RL.loadq Tryz.isAgg37 rfl rfl rfl rfl ?_)))))))
    refine RL.p rfl (RL.idxAt (j := i) Tryz.runUnderlying37 Tryz.sizeOf108 rfl rfl rfl rfl rfl rfl (hlt) (RL.loadSq Tryz.isAgg108 Tryz.sizeOf108 rfl rfl rfl rfl ?_))
    refine RL.alloc Tryz.zeroValue108 rfl rfl rfl rfl rfl ?_
    intro b4
    refine RL.storeW Tryz.sizeOf108 rfl rfl rfl rfl rfl rfl rfl (sr_ones s) (by repeat (first | exact Upd.here | apply Upd.there)) hsl rfl ?_
    refine RL.nil (NQ.seq (CW.ok [1, 2, 3, 4, 5] rfl (CW.seq (CW.freezeP (A := [cel b4 s.cells 108]) (B := _) (by repeat (first | exact Pick.nil | apply Pick.take | apply Pick.leave)) rfl ?_))))
    refine CW.genI (fun J2 hJ => ?_)
    have hJ2 : ∀ x ∈ J, x ∈ J2 := fun x hx => hJ x (by simp [hx])
    have mA : cel b4 s.cells 108 ∈ J2 := hJ _ (List.Mem.head _)
    clear hJ
    have s0 : RdI J2 ⟨b4, 0 + 0, none⟩ (.int .i64 s.id) := ⟨fun _ => Rd.celI mA rfl⟩
    have s1 : RdI J2 ⟨b4, 0 + 1, none⟩ (.int .i64 s.kd) := ⟨fun _ => Rd.celI mA rfl⟩
    have s3 : RdI J2 ⟨b4, 0 + 34, none⟩ (.int .i64 s.w) := ⟨fun _ => Rd.getI mA (sr_t hs.rt 0)⟩
    have s4 : RdI J2 ⟨b4, 0 + 35, none⟩ (.int .i64 s.g) := ⟨fun _ => Rd.getI mA (sr_t hs.rt 1)⟩
    have s5 : RdI J2 ⟨b4, 0 + 36, none⟩ (.int .i64 s.st) := ⟨fun _ => Rd.getI mA (sr_t hs.rt 2)⟩
    have s6 : RdI J2 ⟨b4, 0 + 37, none⟩ (.int .i64 s.hz) := ⟨fun _ => Rd.getI mA (sr_t hs.rt 3)⟩
    have sA : RdsN J2 ⟨b4, 0, none⟩ 48 s.cells := ⟨fun _ => Rds.allI mA, hsl⟩
    refine CW.rg (RL.fieldAddr fa_108_1 rfl rfl rfl rfl (RL.loadq Tryz.isAgg3 rfl rfl rfl rfl ?_))
    refine RL.callvq (raid_any s.kd) Tryz.call60 rfl rfl rfl rfl ?_
    refine RL.nil (NQ.seq ?_)
    refine CW.cond rfl (fun hk => ?_) (fun hk => ?_)
    ·
      refine CW.regionD (Sq.of [0, 1, 2, 3, 4, 5, 6, 7, 8, 9, 10, 11, 12, 13, 14, 15, 16, 17, 18, 19, 20, 21]) [18, 19, 21] [19, 21] [0, 2, 3, 4, 5, 6, 7, 8, 9, 10, 11, 12, 13, 14, 15, 16, 17, 20] mixed (by kernel_rfl) ?_
      refine RL.fieldAddr fa_149_2 rfl rfl rfl rfl (RL.loadq Tryz.isAgg147 rfl rfl rfl rfl ?_)
      refine RL.fieldAddr fa_108_0 rfl rfl rfl rfl (RL.loadTq Tryz.isAgg3 rfl rfl rfl rfl ?_)
      refine RL.fieldAddr fa_108_1 rfl rfl rfl rfl (RL.loadTq Tryz.isAgg3 rfl rfl rfl rfl ?_)
      refine RL.fieldAddr fa_108_3 rfl rfl rfl rfl (RL.loadTq Tryz.isAgg3 rfl rfl rfl rfl ?_)
      refine RL.fieldAddr fa_108_4 rfl rfl rfl rfl (RL.loadTq Tryz.isAgg3 rfl rfl rfl rfl ?_)
      refine RL.fieldAddr fa_108_5 rfl rfl rfl rfl (RL.loadTq Tryz.isAgg23 rfl rfl rfl rfl ?_)
      refine RL.loadSTq Tryz.isAgg108 Tryz.sizeOf108 rfl rfl rfl rfl ?_
      refine RL.callTq (rlimit_any s hs) Tryz.call99 rfl rfl rfl rfl ?_
      refine RL.fieldAddr fa_108_6 rfl rfl rfl rfl (RL.loadTq Tryz.isAgg3 rfl rfl rfl rfl ?_)
      refine RL.buildS [_, _, _, _] Tryz.zeroValue215 pl_215 rfl rfl rfl rfl rfl (RL.buildS [_, _, _, _, _, _, _] Tryz.zeroValue217 pl_217 rfl rfl rfl rfl rfl (RL.buildSlice [_, _, _, _, _, _, _] Tryz.runUnderlying147 Tryz.sizeOf217 Tryz.zeroValue217 rfl rfl (by decide) (by decide) rfl rfl rfl rfl rfl rfl ?_))
      intro b5
      refine RL.appendq el_147 rfl rfl rfl rfl rfl rfl rfl ?_
      intro ob1 cap1 ho1
      refine RL.fieldAddr fa_149_2 rfl rfl rfl rfl (RL.store (vs := [_]) Tryz.sizeOf147 rfl rfl rfl rfl rfl rfl rfl rfl rfl (by repeat (first | exact Upd.here | apply Upd.there)) ?_)
      refine RL.nil (NQ.block (NQ.seq (CW.ok [1, 2, 3, 4] rfl (CW.rg (RL.p rfl (RL.bx rfl (wrapV_i64 (by omega) (by omega)) ?_))))))
      refine RL.p rfl (RL.nil ?_)
      refine NQ.round (g := (i, acc, ob, cp, m)) (i + 1, acc ++ [adOf s], ob1, cap1, m + 1) ⟨hlt, by rw [hac]; exact (adsOf_yes hx (by simpa using hk)).symm, by simp [hm]⟩ (by show c.L.length - (i + 1) < c.L.length - i; omega) (.cons rfl (.cons rfl (.cons rfl (.cons rfl .nil)))) (fun w h => ?_)
      refine h.rea (H' := [cel b2 [.int .i64 0, .int .i64 0, .int .i64 0, .int .i64 0, .slice none 0 0] 149, cel b3 [.int .i64 c.g0, .int .i64 c.g1, .int .i64 c.g2, .int .i64 c.dr, slO ob1 (m + 1) cap1] 149, own ob1 cap1 217 7 (m + 1) ((acc ++ [adOf s]).flatMap Ad.cells)]) hJ2 ?_
      rw [adf_snoc]
      exact (by repeat (first | exact Rea.nil | (apply Rea.cons; (solve | (repeat (first | exact Del.here | apply Del.there))))))
    ·
      refine CW.skip (NQ.block (NQ.seq (CW.rg (RL.p rfl (RL.bx rfl (wrapV_i64 (by omega) (by omega)) ?_)))))
      refine RL.p rfl (RL.nil ?_)
      refine NQ.round (g := (i, acc, ob, cp, m)) (i + 1, acc, ob, cp, m) ⟨hlt, by rw [hac]; exact (adsOf_no hx (by simpa using hk)).symm, hm⟩ (by show c.L.length - (i + 1) < c.L.length - i; omega) (.cons rfl (.cons rfl (.cons rfl (.cons rfl .nil)))) (fun w h => h.rea hJ2 (by repeat (first | exact Rea.nil | (apply Rea.cons; (solve | (repeat (first | exact Del.here | apply Del.there)))))))
  ·
    have hin : i = c.L.length := by simp at hlt; omega
    subst hin
    rw [List.take_length] at hac
    subst hac
    refine CW.exit (XQ.seq (XQ.seq (XQ.hit (NQ.seq (CW.ok [2, 3] rfl (CW.seq (CW.region (ef := [1]) (bk := [1]) (RL.loadSq Tryz.isAgg149 Tryz.sizeOf149 rfl rfl rfl rfl ?_))))))))
    refine RL.store (vs := [_, _, _, _, _]) Tryz.sizeOf149 rfl rfl rfl rfl rfl rfl rfl rfl rfl (by repeat (first | exact Upd.here | apply Upd.there)) ?_
    refine RL.nil (NQ.seq (CW.ret ?_))
    subst hm
    refine RQ.rea (fun _ h => h) (H' := [cel b2 [.int .i64 c.g0, .int .i64 c.g1, .int .i64 c.g2, .int .i64 c.dr, slO ob (adsOf c.L).length cp] 149, own ob cp 217 7 (adsOf c.L).length ((adsOf c.L).flatMap Ad.cells)]) (by repeat (first | exact Rea.nil | (apply Rea.cons; (solve | (repeat (first | exact Del.here | apply Del.there)))))) ?_
    exact RQ.post (resW rfl rfl Tryz.isAgg149 Tryz.sizeOf149 (by repeat (first | exact List.Mem.head _ | apply List.Mem.tail)) rfl) (.drop (.keep .nil)) ⟨ob, cp, rfl, rfl, rfl⟩
end Go.Proofs.YthndhipjfdgdfaaGreatDoor

namespace Go.Proofs.YthndhipjfdgdfaaGreatDoor
open Go.PK
/-! ### Sources, together -/
def cnt (k : Int) (L : List Sr) : Int := ((L.countP fun s => s.kd == k : Nat) : Int)
theorem cnt_snoc {L : List Sr} {i : Nat} {s : Sr} (h : L[i]? = some s) (k : Int) : cnt k (L.take (i + 1)) = cnt k (L.take i) + if s.kd = k then 1 else 0 := by
  rw [cnt, cnt, List.take_add_one, h, List.countP_append]
  by_cases hk : s.kd = k <;> simp [hk]
theorem cnt_bd (k : Int) (L : List Sr) : 0 ≤ cnt k L ∧ cnt k L ≤ L.length := by
  have := List.countP_le_length (p := fun s : Sr => s.kd == k) (l := L)
  unfold cnt; omega
def MpOk (c : List (Value × Value)) (L : List Sr) : Prop := ∀ k : Int, (lookV (.int .i64 k) c).getD (.int .i64 0) = .int .i64 (cnt k L)
theorem MpOk.nil (L : List Sr) : MpOk [] (L.take 0) := fun k => by simp [lookV, cnt]
theorem MpOk.snoc {c : List (Value × Value)} {L : List Sr} {i : Nat} {s : Sr} (h : MpOk c (L.take i)) (hx : L[i]? = some s) : MpOk (setV (.int .i64 s.kd) (.int .i64 (cnt s.kd (L.take i) + 1)) c) (L.take (i + 1)) := fun k => by
  rw [look_set, cnt_snoc hx]
  by_cases hk : s.kd = k
  · subst hk; simp
  · rw [if_neg (by simpa using fun e => hk e.symm), if_neg hk, Int.add_zero]; exact h k
def wasS (L : List Sr) : Nat → Int
  | 0 => -1
  | i + 1 => match L[i]? with
    | some s => s.id
    | none => 0
def stepS (L : List Sr) (j : Nat) : Bool := match L[j]? with
  | some s => s.ok && decide (wasS L j < s.id)
  | none => true
def srsB (L : List Sr) : Bool := (List.range L.length).all (stepS L)
theorem srsB_iff {L : List Sr} : srsB L = true ↔ ∀ j, stepS L j = true := by
  rw [srsB, List.all_eq_true]
  constructor
  · intro h j
    by_cases hj : j < L.length
    · exact h j (List.mem_range.2 hj)
    · rw [stepS, List.getElem?_eq_none (by omega)]
  · exact fun h j _ => h j
theorem srsB_of {L : List Sr} (h : ∀ j < L.length, stepS L j = true) : srsB L = true := srsB_iff.2 fun j => by
  by_cases hj : j < L.length
  · exact h j hj
  · rw [stepS, List.getElem?_eq_none (by omega)]
theorem stepS_at {L : List Sr} {j : Nat} {s : Sr} (h : L[j]? = some s) : stepS L j = (s.ok && decide (wasS L j < s.id)) := by rw [stepS, h]
theorem wasS_prev {L : List Sr} {i : Nat} {q : Sr} (h : L[i - 1]? = some q) (hi : 0 < i) : wasS L i = q.id := by
  obtain ⟨j, rfl⟩ : ∃ j, i = j + 1 := ⟨i - 1, by omega⟩
  rw [wasS, show L[j]? = some q from h]
theorem sok_id {s : Sr} (h : s.ok = true) : 0 ≤ s.id ∧ s.id ≤ 7 := by
  simp [Sr.ok] at h; exact h.1
def manyB (L : List Sr) : Bool := decide (cnt 1 L = 1 ∧ cnt 5 L ≤ 1 ∧ cnt 8 L ≤ 1)
def srcB (L : List Sr) : Bool := srsB L && decide (L.length ≤ 8) && manyB L
theorem srcs_any (oa : Option Nat) (ca n : Nat) (L : List Sr) (hn : L.length = n) (hL : ∀ s ∈ L, s.Fit) (hl : n ≤ 1000000) :
    Spc Tryz.prog 107 #[slO oa n ca] [sls (oa.map fun b => ⟨b, 0, none⟩) 48 n (L.flatMap Sr.cells)] [] (Is (.bool (srcB L))) := by
  subst hn
  have hLl : ∀ s ∈ L, s.cells.length = 48 := fun s hs => sr_len (hL s hs).rt
  refine Spc.enter Tryz.func107 rfl rfl rfl (fun w0 hw0 => ?_)
  refine CW.seq (CW.rg (RL.p rfl (RL.nil (NQ.seq (CW.seq (CW.region (ef := [0]) (bk := []) ?_))))))
  refine RL.makeMap (good := goodI) rfl rfl rfl rfl (fun mp => ?_)
  refine RL.p rfl (RL.nil (NQ.seq (CW.seq (CW.seq (CW.rg (RL.p rfl (RL.lenS Tryz.runUnderlying22 rfl rfl rfl rfl (RL.p rfl (RL.nil (NQ.seq (CW.block ?_)))))))))))
  refine CW.genI (fun J hJ => ?_)
  have m2 : sls (oa.map fun b => ⟨b, 0, none⟩) 48 L.length (L.flatMap Sr.cells) ∈ J := hJ _ (by simp)
  clear hJ
  refine CW.loop (γ := Nat × List (Value × Value)) (fun g => g.1 ≤ L.length ∧ (∀ j < g.1, stepS L j = true) ∧ MpOk g.2 (L.take g.1)) (fun g => [(0, slO oa L.length ca), (3, .map (some mp)), (7, slO oa L.length ca), (8, .int .i64 (L.length : Int)), (9, .int .i64 (g.1 : Int))]) (fun _ => J) (fun g => [mapI mp goodI g.2]) (fun g => L.length - g.1) (0, []) ⟨Nat.zero_le _, fun j h => by omega, MpOk.nil L⟩ (.cons rfl (.cons rfl (.cons rfl (.cons rfl (.cons rfl .nil))))) (fun w h => h.rea (fun _ h => h) (by repeat (first | exact Rea.nil | (apply Rea.cons; (solve | (repeat (first | exact Del.here | apply Del.there))))))) ?_
  rintro ⟨i, c⟩ ⟨hi, hok, hmp⟩
  dsimp only at hi hok hmp ⊢
  refine CW.fact (p := oa = none → L.length = 0) (fun w hC e => sls_nil (hC.s.i _ m2) (by rw [e]; rfl)) (fun hpa => ?_)
  refine CW.seq (CW.rg (RL.p rfl (RL.nil (NQ.seq (CW.seq ?_)))))
  refine CW.cond rfl (fun hlt => ?_) (fun hlt => ?_)
  ·
    have hlt : i < L.length := by simp at hlt; omega
    cases oa with
    | none => exact absurd (hpa rfl) (by omega)
    | some ba =>
    have hx := List.getElem?_eq_getElem hlt
    generalize L[i] = s at hx
    have hs := hL s (List.mem_of_getElem? hx)
    have hsl := hLl s (List.mem_of_getElem? hx)
    have hlp : i - 1 < L.length := by omega
    have hp := List.getElem?_eq_getElem hlp
    generalize L[i - 1] = q at hp
    have fA : RdsN J ⟨ba, 0 + i * 48, none⟩ 48 s.cells := flat_rdsN (f := Sr.cells) m2 hx hLl
    have hcb := cnt_bd s.kd (L.take i)
    rw [List.length_take] at hcb
    refine CW.skip (NQ.seq (CW.seq (CW.block (CW.seq (CW.region (ef := [3, 5]) (bk := [5]) (RL.p rfl (RL.idxAt (j := i) Tryz.runUnderlying22 Tryz.sizeOf98 rfl rfl rfl rfl rfl rfl (hlt) (RL.loadSq Tryz.isAgg98 Tryz.sizeOf98 rfl rfl rfl rfl ?_))))))))
    refine RL.alloc Tryz.zeroValue98 rfl rfl rfl rfl rfl ?_
    intro b1
    refine RL.p rfl (RL.storeW Tryz.sizeOf98 rfl rfl rfl rfl rfl rfl rfl (sr_ones s) (by repeat (first | exact Upd.here | apply Upd.there)) hsl rfl ?_)
    refine RL.nil (NQ.seq (CW.seq (CW.seq (CW.freezeP (A := [cel b1 s.cells 98]) (B := [mapI mp goodI c]) (by repeat (first | exact Pick.nil | apply Pick.take | apply Pick.leave)) rfl ?_))))
    refine CW.genI (fun J2 hJ => ?_)
    have hJ2 : ∀ x ∈ J, x ∈ J2 := fun x hx => hJ x (by simp [hx])
    have mA : cel b1 s.cells 98 ∈ J2 := hJ _ (List.Mem.head _)
    have s0 : RdI J2 ⟨b1, 0 + 0, none⟩ (.int .i64 s.id) := ⟨fun _ => Rd.celI mA rfl⟩
    have s1 : RdI J2 ⟨b1, 0 + 1, none⟩ (.int .i64 s.kd) := ⟨fun _ => Rd.celI mA rfl⟩
    have sA : RdsN J2 ⟨b1, 0, none⟩ 48 s.cells := ⟨fun _ => Rds.allI mA, hsl⟩
    have fP : RdI J2 ⟨ba, 0 + (i - 1) * 48 + 0, none⟩ (.int .i64 q.id) := flat_rdI (f := Sr.cells) (hJ2 _ m2) hp hLl rfl
    clear fA hJ
    refine CW.regionD (Sq.of [0, 1, 2, 3, 4, 5, 6, 7, 8, 9, 10, 11, 12, 13, 14, 15, 16, 17]) [] [] [0, 1, 2, 3, 4, 5, 6, 7, 8, 9, 10, 11, 12, 13, 14, 15, 16, 17] mixed (by kernel_rfl) ?_
    refine RL.loadSTq Tryz.isAgg98 Tryz.sizeOf98 rfl rfl rfl rfl ?_
    refine RL.callTq (right_any s hs) Tryz.call133 rfl rfl rfl rfl ?_
    refine RL.p rfl (RL.p rfl ?_)
    apply RL.orB (d := 17) (dp := 31) (l' := (Sq.of [])) rfl (sK [0, 3, 5, 7, 8, 9] rfl)
    ·
      intro hb4 K4
      refine RL.p rfl (RL.p rfl (RL.p rfl ?_))
      apply RL.andB (d := 20) (dp := 30) (l' := (Sq.of [17])) rfl (sK [0, 3, 5, 7, 8, 9, 17] rfl)
      ·
        intro hb7 K7
        refine RL.fieldAddr fa_98_0 rfl rfl rfl rfl (RL.loadTq Tryz.isAgg3 rfl rfl rfl rfl ?_)
        refine RL.p rfl (RL.p rfl (RL.bx rfl (wrapV_i64 (by omega) (by omega)) ?_))
        refine RL.cast (d := 25) (v' := .int .i64 ((i - 1 : Nat) : Int)) rfl (by have h0 := of_decide_eq_true ‹decide ((i : Int) > 0) = true›; congr 1; omega) ?_
        refine RL.idxAt (j := i - 1) Tryz.runUnderlying22 Tryz.sizeOf98 rfl rfl rfl rfl rfl rfl hlp (RL.fieldAddr fa_98_0 rfl rfl rfl rfl (RL.loadTq Tryz.isAgg3 rfl rfl rfl rfl ?_))
        refine RL.p rfl (RL.p rfl ?_)
        exact K7 _ (.cons rfl (sK [0, 3, 5, 7, 8, 9, 17] rfl))
      ·
        intro hb7 K7
        refine RL.p rfl (RL.p rfl (RL.p rfl (RL.p rfl (RL.p rfl (RL.p rfl (RL.p rfl (RL.p rfl (RL.p rfl (RL.p rfl ?_)))))))))
        exact K7 _ (.cons rfl (sK [0, 3, 5, 7, 8, 9, 17] rfl))
      refine RL.p rfl ?_
      exact K4 _ (.cons rfl (sK [0, 3, 5, 7, 8, 9] rfl))
    ·
      intro hb4 K4
      refine RL.p rfl (RL.p rfl (RL.p rfl (RL.p rfl (RL.p rfl (RL.p rfl (RL.p rfl (RL.p rfl (RL.p rfl (RL.p rfl (RL.p rfl (RL.p rfl (RL.p rfl (RL.p rfl ?_)))))))))))))
      exact K4 _ (.cons rfl (sK [0, 3, 5, 7, 8, 9] rfl))
    refine RL.nil (NQ.seq ?_)
    refine CW.cond rfl (fun h2 => ?_) (fun h2 => ?_)
    ·
      refine CW.seq (CW.rg (RL.p rfl (RL.nil (NQ.seq (CW.ret (RQ.seq (RQ.block (RQ.seq (RQ.seq (RQ.block (RQ.seq ?_)))))))))))
      have hno : srcB L = false := by
        rw [Bool.eq_false_iff]
        intro h3
        simp only [srcB, Bool.and_eq_true] at h3
        have h4 := srsB_iff.1 h3.1.1 i
        rw [stepS_at hx] at h4
        simp at h4 h2
        rcases h2 with h2 | h2
        · rw [h4.1] at h2; cases h2
        · by_cases hi0 : 0 < i
          · rw [wasS_prev hp hi0] at h4; omega
          · omega
      exact RQ.post (res1 rfl rfl) (Split.none _) ⟨by rw [hno], rfl, rfl⟩
    ·
      have hst : stepS L i = true := by
        rw [stepS_at hx]
        simp at h2
        simp [h2]
        have := sok_id h2.1
        by_cases hi0 : 0 < i
        · rw [wasS_prev hp hi0]; omega
        · obtain rfl : i = 0 := by omega
          rw [wasS]; omega
      have hlk := hmp s.kd
      refine CW.skip (NQ.seq (CW.region (ef := [5]) (bk := [5]) (RL.p rfl (RL.fieldAddr fa_98_1 rfl rfl rfl rfl (RL.loadq Tryz.isAgg3 rfl rfl rfl rfl ?_)))))
      refine RL.lookup (key := .int .i64 s.kd) keyI Tryz.runUnderlying286 Tryz.zeroValue3 rfl rfl rfl rfl rfl ⟨s.kd, rfl⟩ (MapAt.own (by repeat (first | exact List.Mem.head _ | apply List.Mem.tail))) ?_
      refine RL.cast (d := 35) rfl hlk ?_
      refine RL.bx rfl (wrapV_i64 (by omega) (by omega)) ?_
      refine RL.mapUpdate keyI Tryz.runUnderlying286 rfl rfl rfl rfl rfl rfl rfl ⟨s.kd, rfl⟩ (by repeat (first | exact Upd.here | apply Upd.there)) ?_
      refine RL.nil (NQ.block (NQ.seq (CW.ok [0, 3, 7, 8, 9] rfl (CW.rg (RL.bx rfl (wrapV_i64 (by omega) (by omega)) ?_)))))
      refine RL.p rfl (RL.nil ?_)
      refine NQ.round (g := (i, c)) (i + 1, _) ⟨hlt, fun j hj => ?_, hmp.snoc hx⟩ (by show L.length - (i + 1) < L.length - i; omega) (.cons rfl (.cons rfl (.cons rfl (.cons rfl (.cons rfl .nil))))) (fun w h => h.rea hJ2 (by repeat (first | exact Rea.nil | (apply Rea.cons; (solve | (repeat (first | exact Del.here | apply Del.there)))))))
      rcases Nat.lt_succ_iff_lt_or_eq.1 hj with hj | rfl
      · exact hok j hj
      · exact hst
  ·
    have hin : i = L.length := by simp at hlt; omega
    subst hin
    rw [List.take_length] at hmp
    have h1 := hmp 1
    have h5 := hmp 5
    have h8 := hmp 8
    refine CW.exit (XQ.seq (XQ.seq (XQ.hit (NQ.seq (CW.seq (CW.rg (RL.p rfl (RL.lenS Tryz.runUnderlying22 rfl rfl rfl rfl (RL.p rfl (RL.p rfl ?_))))))))))
    apply RL.andB (d := 41) (dp := 45) (l' := (Sq.of [8, 9, 10, 11, 12, 13, 14, 15, 16, 17, 18])) rfl (sK [3] rfl)
    ·
      intro hb4 K4
      refine RL.p rfl (RL.lookup (key := .int .i64 1) keyI Tryz.runUnderlying286 Tryz.zeroValue3 rfl rfl rfl rfl rfl ⟨1, rfl⟩ (MapAt.own (by repeat (first | exact List.Mem.head _ | apply List.Mem.tail))) ?_)
      refine RL.cast (d := 43) rfl h1 ?_
      refine RL.p rfl (RL.p rfl ?_)
      exact K4 _ (.cons rfl (sK [3] rfl))
    ·
      intro hb4 K4
      refine RL.p rfl (RL.p rfl (RL.p rfl (RL.p rfl ?_)))
      exact K4 _ (.cons rfl (sK [3] rfl))
    refine RL.p rfl ?_
    apply RL.andB (d := 46) (dp := 50) (l' := (Sq.of [13, 14, 15, 16, 17, 18])) rfl (sK [3] rfl)
    ·
      intro hb9 K9
      refine RL.p rfl (RL.lookup (key := .int .i64 5) keyI Tryz.runUnderlying286 Tryz.zeroValue3 rfl rfl rfl rfl rfl ⟨5, rfl⟩ (MapAt.own (by repeat (first | exact List.Mem.head _ | apply List.Mem.tail))) ?_)
      refine RL.cast (d := 48) rfl h5 ?_
      refine RL.p rfl (RL.p rfl ?_)
      exact K9 _ (.cons rfl (sK [3] rfl))
    ·
      intro hb9 K9
      refine RL.p rfl (RL.p rfl (RL.p rfl (RL.p rfl ?_)))
      exact K9 _ (.cons rfl (sK [3] rfl))
    refine RL.p rfl ?_
    apply RL.andB (d := 51) (dp := 55) (l' := (Sq.of [18])) rfl .nil
    ·
      intro hb14 K14
      refine RL.p rfl (RL.lookup (key := .int .i64 8) keyI Tryz.runUnderlying286 Tryz.zeroValue3 rfl rfl rfl rfl rfl ⟨8, rfl⟩ (MapAt.own (by repeat (first | exact List.Mem.head _ | apply List.Mem.tail))) ?_)
      refine RL.cast (d := 53) rfl h8 ?_
      refine RL.p rfl (RL.p rfl ?_)
      exact K14 _ (.cons rfl .nil)
    ·
      intro hb14 K14
      refine RL.p rfl (RL.p rfl (RL.p rfl (RL.p rfl ?_)))
      exact K14 _ (.cons rfl .nil)
    refine RL.p rfl (RL.nil (NQ.seq (CW.ret ?_)))
    refine RQ.post (res1 rfl rfl) (Split.none _) ⟨?_, rfl, rfl⟩
    congr 1
    rw [srcB, srsB_of hok, manyB, Bool.eq_iff_iff]
    simp
    omega
end Go.Proofs.YthndhipjfdgdfaaGreatDoor

namespace Go.Proofs.YthndhipjfdgdfaaGreatDoor
open Go.PK
/-! ### Checks of a configuration -/
def Cf.ok (c : Cf) : Bool := decide (1 ≤ c.mo ∧ c.mo ≤ 1000 ∧ 1 ≤ c.ti ∧ c.ti ≤ 65535) && decide (0 ≤ c.gr ∧ c.gr ≤ 65535) && decide (c.sd ≠ 0) && decide (c.sc.Ok) && srcB c.L && decide (0 ≤ c.dr ∧ (adsOf c.L).length ≤ 8 ∧ adsB (adsOf c.L) = true)
def Cf.err (c : Cf) : Int := if c.ok = true then 0 else 310
structure Cf.Fit (c : Cf) : Prop where
  cm : c.cm.length = 32
  L : ∀ s ∈ c.L, s.Fit
theorem sche_0 {s : Sch} : s.e = 0 ↔ s.Ok := by unfold Sch.e; split <;> simp_all
theorem ccheck_any (c : Cf) (oa : Option Nat) (ca n : Nat) (hn : c.L.length = n) (hc : c.Fit) (hl : n ≤ 1000000) :
    Spc Tryz.prog 69 #[.agg (c.cells (slO oa n ca)).toArray] [sls (oa.map fun b => ⟨b, 0, none⟩) 48 n (c.L.flatMap Sr.cells)] [] (Is (.int .i64 c.err)) := by
  subst hn
  have hal := adsOf_len c.L
  refine Spc.enter Tryz.func69 rfl rfl rfl (fun w0 hw0 => ?_)
  refine CW.seq (CW.region (ef := [0]) (bk := []) (RL.box rfl rfl rfl rfl rfl rfl ?_))
  intro b1
  refine RL.p rfl (RL.nil (NQ.seq (CW.seq (CW.freezeP (A := [cel b1 (c.cells (slO oa c.L.length ca)) 32]) (B := []) (by repeat (first | exact Pick.nil | apply Pick.take | apply Pick.leave)) rfl ?_))))
  simp only [List.cons_append, List.nil_append]
  generalize hJ : ([cel b1 (c.cells (slO oa c.L.length ca)) 32, sls (oa.map fun b => ⟨b, 0, none⟩) 48 c.L.length (c.L.flatMap Sr.cells)] : List It) = J
  have m1 : cel b1 (c.cells (slO oa c.L.length ca)) 32 ∈ J := by rw [← hJ]; exact (by repeat (first | exact List.Mem.head _ | apply List.Mem.tail))
  have m2 : sls (oa.map fun b => ⟨b, 0, none⟩) 48 c.L.length (c.L.flatMap Sr.cells) ∈ J := by rw [← hJ]; exact (by repeat (first | exact List.Mem.head _ | apply List.Mem.tail))
  clear hJ
  have fS : RdI J ⟨b1, 0 + 0, none⟩ (slO oa c.L.length ca) := ⟨fun _ => Rd.celI m1 rfl⟩
  have fG : RdsN J ⟨b1, 0 + 1, none⟩ 3 [.int .i64 c.g0, .int .i64 c.g1, .int .i64 c.g2] := RdsN.told m1 (fun j u hj => by
    match j, hj with
    | 0, hj => exact hj
    | 1, hj => exact hj
    | 2, hj => exact hj
    | j + 3, hj => simp at hj) rfl
  have fD : RdI J ⟨b1, 0 + 4, none⟩ (.int .i64 c.dr) := ⟨fun _ => Rd.celI m1 rfl⟩
  have fA : RdsN J ⟨b1, 0, none⟩ 45 (c.cells (slO oa c.L.length ca)) := ⟨fun _ => Rds.allI m1, cf_len hc.cm _⟩
  have fC : RdsN J ⟨b1, 0 + 5, none⟩ 4 [.int .i64 c.sc.st, .int .i64 c.sc.ln, .int .i64 c.sc.lg, .int .i64 c.sc.of] := RdsN.told m1 (fun j u hj => by
    match j, hj with
    | 0, hj => exact hj
    | 1, hj => exact hj
    | 2, hj => exact hj
    | 3, hj => exact hj
    | j + 4, hj => simp at hj) rfl
  have f1 : RdI J ⟨b1, 0 + 41, none⟩ (.int .i64 c.mo) := ⟨fun _ => Rd.getI m1 (cf_t hc.cm _ 0)⟩
  have f2 : RdI J ⟨b1, 0 + 42, none⟩ (.int .i64 c.ti) := ⟨fun _ => Rd.getI m1 (cf_t hc.cm _ 1)⟩
  have f3 : RdI J ⟨b1, 0 + 43, none⟩ (.int .i64 c.gr) := ⟨fun _ => Rd.getI m1 (cf_t hc.cm _ 2)⟩
  have f4 : RdI J ⟨b1, 0 + 44, none⟩ (.int .u64 c.sd) := ⟨fun _ => Rd.getI m1 (cf_t hc.cm _ 3)⟩
  refine CW.region (ef := [4]) (bk := []) (RL.fieldAddr fa_32_5 rfl rfl rfl rfl (RL.loadq Tryz.isAgg3 rfl rfl rfl rfl ?_))
  refine RL.fieldAddr fa_32_6 rfl rfl rfl rfl (RL.loadq Tryz.isAgg3 rfl rfl rfl rfl ?_)
  refine RL.call (lock_any c.mo c.ti) Tryz.call105 rfl rfl rfl rfl rfl (by repeat (first | exact Pick.nil | apply Pick.take | apply Pick.leave)) .nil (.inl rfl) ?_
  rintro _ _ _ ⟨p1, rfl, rfl, rfl⟩
  refine RL.p rfl (RL.p rfl (RL.p rfl (RL.p rfl (RL.p rfl (RL.nil (NQ.seq (CW.ok [1, 4] rfl (CW.seq (CW.seq (CW.rg (RL.p rfl (RL.p rfl (RL.p rfl ?_)))))))))))))
  apply RL.orB (d := 17) (dp := 21) (l' := (Sq.of [7, 8, 9, 10, 11, 12, 13, 14, 15, 16, 17, 18, 19, 20, 21, 22, 23, 24, 25, 26, 27, 28])) rfl (sK [1] rfl)
  ·
    intro hb3 K3
    refine RL.fieldAddr fa_32_7 rfl rfl rfl rfl (RL.loadq Tryz.isAgg3 rfl rfl rfl rfl ?_)
    refine RL.p rfl (RL.p rfl ?_)
    exact K3 _ (.cons rfl (sK [1] rfl))
  ·
    intro hb3 K3
    refine RL.p rfl (RL.p rfl (RL.p rfl (RL.p rfl ?_)))
    exact K3 _ (.cons rfl (sK [1] rfl))
  refine RL.p rfl ?_
  apply RL.orB (d := 22) (dp := 26) (l' := (Sq.of [12, 13, 14, 15, 16, 17, 18, 19, 20, 21, 22, 23, 24, 25, 26, 27, 28])) rfl (sK [1] rfl)
  ·
    intro hb8 K8
    refine RL.fieldAddr fa_32_7 rfl rfl rfl rfl (RL.loadq Tryz.isAgg3 rfl rfl rfl rfl ?_)
    refine RL.p rfl (RL.p rfl ?_)
    exact K8 _ (.cons rfl (sK [1] rfl))
  ·
    intro hb8 K8
    refine RL.p rfl (RL.p rfl (RL.p rfl (RL.p rfl ?_)))
    exact K8 _ (.cons rfl (sK [1] rfl))
  refine RL.p rfl ?_
  apply RL.orB (d := 27) (dp := 31) (l' := (Sq.of [17, 18, 19, 20, 21, 22, 23, 24, 25, 26, 27, 28])) rfl (sK [1] rfl)
  ·
    intro hb13 K13
    refine RL.fieldAddr fa_32_8 rfl rfl rfl rfl (RL.loadq Tryz.isAgg30 rfl rfl rfl rfl ?_)
    refine RL.p rfl (RL.p rfl ?_)
    exact K13 _ (.cons rfl (sK [1] rfl))
  ·
    intro hb13 K13
    refine RL.p rfl (RL.p rfl (RL.p rfl (RL.p rfl ?_)))
    exact K13 _ (.cons rfl (sK [1] rfl))
  refine RL.p rfl ?_
  apply RL.orB (d := 32) (dp := 37) (l' := (Sq.of [23, 24, 25, 26, 27, 28])) rfl (sK [1] rfl)
  ·
    intro hb18 K18
    refine RL.fieldAddr fa_32_3 rfl rfl rfl rfl (RL.loadSq Tryz.isAgg27 Tryz.sizeOf27 rfl rfl rfl rfl ?_)
    refine RL.callvq (scheck c.sc) Tryz.call106 rfl rfl rfl rfl ?_
    refine RL.p rfl (RL.p rfl ?_)
    exact K18 _ (.cons rfl (sK [1] rfl))
  ·
    intro hb18 K18
    refine RL.p rfl (RL.p rfl (RL.p rfl (RL.p rfl (RL.p rfl ?_))))
    exact K18 _ (.cons rfl (sK [1] rfl))
  refine RL.p rfl ?_
  apply RL.orB (d := 38) (dp := 43) (l' := (Sq.of [])) rfl (sK [1] rfl)
  ·
    intro hb24 K24
    refine RL.fieldAddr fa_32_0 rfl rfl rfl rfl (RL.loadq Tryz.isAgg22 rfl rfl rfl rfl ?_)
    refine RL.callv (srcs_any oa ca _ c.L rfl hc.L hl) Tryz.call107 rfl rfl rfl rfl (.inI m2 .nil) (RL.p rfl (RL.p rfl ?_))
    exact K24 _ (.cons rfl (sK [1] rfl))
  ·
    intro hb24 K24
    refine RL.p rfl (RL.p rfl (RL.p rfl (RL.p rfl (RL.p rfl ?_))))
    exact K24 _ (.cons rfl (sK [1] rfl))
  refine RL.nil (NQ.seq ?_)
  refine CW.cond rfl (fun h1 => ?_) (fun h1 => ?_)
  ·
    refine CW.seq (CW.rg (RL.p rfl (RL.nil (NQ.seq (CW.ret (RQ.seq ?_))))))
    have hno : c.ok = false := by
      simp only [Bool.or_eq_true, decide_eq_true_eq, bne_iff_ne, ne_eq, errI_0, sche_0, Bool.not_eq_true'] at h1
      rw [Bool.eq_false_iff]
      intro h
      simp only [Cf.ok, Bool.and_eq_true, decide_eq_true_eq] at h
      obtain ⟨⟨⟨⟨⟨a1, a2⟩, a3⟩, a4⟩, a5⟩, a6⟩ := h
      rcases h1 with ((((h1 | h1) | h1) | h1) | h1) | h1
      · exact h1 a1
      · omega
      · omega
      · simp at h1; exact a3 h1
      · exact h1 a4
      · rw [a5] at h1; cases h1
    exact RQ.post (res1 rfl rfl) (Split.none _) ⟨by rw [Cf.err, hno]; rfl, rfl, rfl⟩
  ·
    have h1' : (1 ≤ c.mo ∧ c.mo ≤ 1000 ∧ 1 ≤ c.ti ∧ c.ti ≤ 65535) ∧ (0 ≤ c.gr ∧ c.gr ≤ 65535) ∧ c.sd ≠ 0 ∧ c.sc.Ok ∧ srcB c.L = true := by
      simp only [Bool.or_eq_false_iff, decide_eq_false_iff_not, bne_eq_false_iff_eq, errI_0, sche_0, Bool.not_eq_false', beq_eq_false_iff_ne] at h1
      obtain ⟨⟨⟨⟨⟨a1, a2⟩, a3⟩, a4⟩, a5⟩, a6⟩ := h1
      exact ⟨a1, by omega, a4, a5, a6⟩
    have hok : c.ok = decide (0 ≤ c.dr ∧ (adsOf c.L).length ≤ 8 ∧ adsB (adsOf c.L) = true) := by
      simp [Cf.ok, h1']
    refine CW.skip (NQ.seq (CW.seq (CW.seq (CW.region (ef := [1, 2]) (bk := []) (RL.loadSq Tryz.isAgg32 Tryz.sizeOf32 rfl rfl rfl rfl ?_)))))
    refine RL.call (snav_any c oa ca _ rfl hc.cm hc.L hl) Tryz.call109 rfl rfl rfl rfl rfl (by repeat (first | exact Pick.nil | apply Pick.take | apply Pick.leave)) (.inI (by simpa using m2) .nil) (.inl rfl) ?_
    rintro _ _ _ ⟨oN, cN, rfl, rfl, rfl⟩
    refine RL.call (nav_any c.g0 c.g1 c.g2 c.dr oN cN _ (adsOf c.L) rfl (by omega)) Tryz.call108 rfl rfl rfl rfl rfl (by repeat (first | exact Pick.nil | apply Pick.take | apply Pick.leave)) (.own (by repeat (first | exact List.Mem.head _ | apply List.Mem.tail)) .nil) (.inl rfl) ?_
    rintro _ _ _ ⟨p2, rfl, rfl, rfl⟩
    refine RL.p rfl (RL.p rfl (RL.p rfl (RL.p rfl (RL.p rfl (RL.nil (NQ.seq (CW.ok [6] rfl (CW.seq (CW.rg (RL.p rfl (RL.p rfl (RL.nil (NQ.seq ?_)))))))))))))
    refine CW.cond rfl (fun h2 => ?_) (fun h2 => ?_)
    ·
      refine CW.seq (CW.rg (RL.p rfl (RL.nil (NQ.seq (CW.ret (RQ.seq ?_))))))
      have hno : c.ok = false := by
        rw [hok, decide_eq_false_iff_not]
        intro e
        rw [errI_yes e] at h2; cases h2
      exact RQ.post (res1 rfl rfl) (Split.none _) ⟨by rw [Cf.err, hno]; rfl, rfl, rfl⟩
    ·
      refine CW.skip (NQ.seq (CW.seq (CW.rg (RL.p rfl (RL.nil (NQ.seq (CW.ret ?_)))))))
      have hyes : c.ok = true := by
        rw [hok, decide_eq_true_eq]
        exact errI_0.1 (by simpa using h2)
      exact RQ.post (res1 rfl rfl) (Split.none _) ⟨by rw [Cf.err, hyes]; rfl, rfl, rfl⟩
def manyC (L : List Sr) : List Value := (List.range 9).map fun k : Nat => .int .i64 (cnt (k : Int) L)
theorem manyC_0 (L : List Sr) : manyC (L.take 0) = [.int .i64 0, .int .i64 0, .int .i64 0, .int .i64 0, .int .i64 0, .int .i64 0, .int .i64 0, .int .i64 0, .int .i64 0] := by simp [manyC, cnt, List.range_succ]
theorem manyC_at {L : List Sr} {k : Nat} (h : k < 9) : (manyC L)[k]? = some (.int .i64 (cnt (k : Int) L)) := by simp [manyC, h]
theorem manyC_snoc {L : List Sr} {i : Nat} {s : Sr} {k : Nat} (hx : L[i]? = some s) (hk : s.kd = (k : Int)) (h9 : k < 9) : spl (manyC (L.take i)) (0 + k * 1) [.int .i64 (cnt (k : Int) (L.take i) + 1)] = manyC (L.take (i + 1)) := by
  have e : ∀ j : Int, cnt j (L.take (i + 1)) = cnt j (L.take i) + if (k : Int) = j then 1 else 0 := fun j => by rw [cnt_snoc hx, hk]
  match k, h9, e with
  | 0, _, e => simp [manyC, List.range_succ, spl, e]
  | 1, _, e => simp [manyC, List.range_succ, spl, e]
  | 2, _, e => simp [manyC, List.range_succ, spl, e]
  | 3, _, e => simp [manyC, List.range_succ, spl, e]
  | 4, _, e => simp [manyC, List.range_succ, spl, e]
  | 5, _, e => simp [manyC, List.range_succ, spl, e]
  | 6, _, e => simp [manyC, List.range_succ, spl, e]
  | 7, _, e => simp [manyC, List.range_succ, spl, e]
  | 8, _, e => simp [manyC, List.range_succ, spl, e]
theorem rcheck_any (c : Cf) (oa : Option Nat) (ca n : Nat) (hn : c.L.length = n) (hc : c.Fit) (hl : n ≤ 1000000) :
    Spc Tryz.prog 23 #[.agg (c.cells (slO oa n ca)).toArray] [sls (oa.map fun b => ⟨b, 0, none⟩) 48 n (c.L.flatMap Sr.cells)] [] (Is (.int .i64 c.err)) := by
  subst hn
  have hal := adsOf_len c.L
  have hLl : ∀ s ∈ c.L, s.cells.length = 48 := fun s hs => sr_len (hc.L s hs).rt
  refine Spc.enter Tryz.func23 rfl rfl rfl (fun w0 hw0 => ?_)
  refine CW.seq (CW.region (ef := [0]) (bk := []) (RL.box rfl rfl rfl rfl rfl rfl ?_))
  intro b1
  refine RL.p rfl (RL.nil (NQ.seq (CW.seq (CW.seq (CW.freezeP (A := [cel b1 (c.cells (slO oa c.L.length ca)) 40]) (B := []) (by repeat (first | exact Pick.nil | apply Pick.take | apply Pick.leave)) rfl ?_)))))
  simp only [List.cons_append, List.nil_append]
  generalize hJ : ([cel b1 (c.cells (slO oa c.L.length ca)) 40, sls (oa.map fun b => ⟨b, 0, none⟩) 48 c.L.length (c.L.flatMap Sr.cells)] : List It) = J
  have m1 : cel b1 (c.cells (slO oa c.L.length ca)) 40 ∈ J := by rw [← hJ]; exact (by repeat (first | exact List.Mem.head _ | apply List.Mem.tail))
  have m2 : sls (oa.map fun b => ⟨b, 0, none⟩) 48 c.L.length (c.L.flatMap Sr.cells) ∈ J := by rw [← hJ]; exact (by repeat (first | exact List.Mem.head _ | apply List.Mem.tail))
  clear hJ
  have fS : RdI J ⟨b1, 0 + 0, none⟩ (slO oa c.L.length ca) := ⟨fun _ => Rd.celI m1 rfl⟩
  have fG : RdsN J ⟨b1, 0 + 1, none⟩ 3 [.int .i64 c.g0, .int .i64 c.g1, .int .i64 c.g2] := RdsN.told m1 (fun j u hj => by
    match j, hj with
    | 0, hj => exact hj
    | 1, hj => exact hj
    | 2, hj => exact hj
    | j + 3, hj => simp at hj) rfl
  have fD : RdI J ⟨b1, 0 + 4, none⟩ (.int .i64 c.dr) := ⟨fun _ => Rd.celI m1 rfl⟩
  have fA : RdsN J ⟨b1, 0, none⟩ 45 (c.cells (slO oa c.L.length ca)) := ⟨fun _ => Rds.allI m1, cf_len hc.cm _⟩
  have fC : RdsN J ⟨b1, 0 + 5, none⟩ 4 [.int .i64 c.sc.st, .int .i64 c.sc.ln, .int .i64 c.sc.lg, .int .i64 c.sc.of] := RdsN.told m1 (fun j u hj => by
    match j, hj with
    | 0, hj => exact hj
    | 1, hj => exact hj
    | 2, hj => exact hj
    | 3, hj => exact hj
    | j + 4, hj => simp at hj) rfl
  have f1 : RdI J ⟨b1, 0 + 41, none⟩ (.int .i64 c.mo) := ⟨fun _ => Rd.getI m1 (cf_t hc.cm _ 0)⟩
  have f2 : RdI J ⟨b1, 0 + 42, none⟩ (.int .i64 c.ti) := ⟨fun _ => Rd.getI m1 (cf_t hc.cm _ 1)⟩
  have f3 : RdI J ⟨b1, 0 + 43, none⟩ (.int .i64 c.gr) := ⟨fun _ => Rd.getI m1 (cf_t hc.cm _ 2)⟩
  have f4 : RdI J ⟨b1, 0 + 44, none⟩ (.int .u64 c.sd) := ⟨fun _ => Rd.getI m1 (cf_t hc.cm _ 3)⟩
  refine CW.rg (RL.fieldAddr fa_40_0 rfl rfl rfl rfl (RL.loadq Tryz.isAgg37 rfl rfl rfl rfl ?_))
  refine RL.lenS Tryz.runUnderlying37 rfl rfl rfl rfl (RL.p rfl (RL.p rfl ?_))
  apply RL.orB (d := 14) (dp := 18) (l' := (Sq.of [9, 10, 11, 12, 13, 14, 15, 16, 17, 18, 19, 20, 21, 22, 23, 24])) rfl (sK [1, 2] rfl)
  ·
    intro hb5 K5
    refine RL.fieldAddr fa_40_7 rfl rfl rfl rfl (RL.loadq Tryz.isAgg3 rfl rfl rfl rfl ?_)
    refine RL.p rfl (RL.p rfl ?_)
    exact K5 _ (.cons rfl (sK [1, 2] rfl))
  ·
    intro hb5 K5
    refine RL.p rfl (RL.p rfl (RL.p rfl (RL.p rfl ?_)))
    exact K5 _ (.cons rfl (sK [1, 2] rfl))
  refine RL.p rfl ?_
  apply RL.orB (d := 19) (dp := 23) (l' := (Sq.of [14, 15, 16, 17, 18, 19, 20, 21, 22, 23, 24])) rfl (sK [1, 2] rfl)
  ·
    intro hb10 K10
    refine RL.fieldAddr fa_40_7 rfl rfl rfl rfl (RL.loadq Tryz.isAgg3 rfl rfl rfl rfl ?_)
    refine RL.p rfl (RL.p rfl ?_)
    exact K10 _ (.cons rfl (sK [1, 2] rfl))
  ·
    intro hb10 K10
    refine RL.p rfl (RL.p rfl (RL.p rfl (RL.p rfl ?_)))
    exact K10 _ (.cons rfl (sK [1, 2] rfl))
  refine RL.p rfl ?_
  apply RL.orB (d := 24) (dp := 28) (l' := (Sq.of [19, 20, 21, 22, 23, 24])) rfl (sK [1, 2] rfl)
  ·
    intro hb15 K15
    refine RL.fieldAddr fa_40_8 rfl rfl rfl rfl (RL.loadq Tryz.isAgg30 rfl rfl rfl rfl ?_)
    refine RL.p rfl (RL.p rfl ?_)
    exact K15 _ (.cons rfl (sK [1, 2] rfl))
  ·
    intro hb15 K15
    refine RL.p rfl (RL.p rfl (RL.p rfl (RL.p rfl ?_)))
    exact K15 _ (.cons rfl (sK [1, 2] rfl))
  refine RL.p rfl ?_
  apply RL.orB (d := 29) (dp := 34) (l' := (Sq.of [])) rfl (sK [1, 2] rfl)
  ·
    intro hb20 K20
    refine RL.fieldAddr fa_40_3 rfl rfl rfl rfl (RL.loadSq Tryz.isAgg38 Tryz.sizeOf38 rfl rfl rfl rfl ?_)
    refine RL.callvq (rscheck c.sc) Tryz.call57 rfl rfl rfl rfl ?_
    refine RL.p rfl (RL.p rfl ?_)
    exact K20 _ (.cons rfl (sK [1, 2] rfl))
  ·
    intro hb20 K20
    refine RL.p rfl (RL.p rfl (RL.p rfl (RL.p rfl (RL.p rfl ?_))))
    exact K20 _ (.cons rfl (sK [1, 2] rfl))
  refine RL.nil (NQ.seq ?_)
  refine CW.cond rfl (fun h1 => ?_) (fun h1 => ?_)
  ·
    refine CW.seq (CW.rg (RL.p rfl (RL.nil (NQ.seq (CW.ret (RQ.seq ?_))))))
    have hno : c.ok = false := by
      simp only [Bool.or_eq_true, decide_eq_true_eq, bne_iff_ne, ne_eq, sche_0] at h1
      rw [Bool.eq_false_iff]
      intro h
      simp only [Cf.ok, srcB, Bool.and_eq_true, decide_eq_true_eq] at h
      obtain ⟨⟨⟨⟨⟨a1, a2⟩, a3⟩, a4⟩, a5⟩, a6⟩ := h
      rcases h1 with (((h1 | h1) | h1) | h1) | h1
      · omega
      · omega
      · omega
      · simp at h1; exact a3 h1
      · exact h1 a4
    exact RQ.post (res1 rfl rfl) (Split.none _) ⟨by rw [Cf.err, hno]; rfl, rfl, rfl⟩
  ·
    refine CW.skip (NQ.seq (CW.seq (CW.seq (CW.region (ef := [4]) (bk := []) (RL.fieldAddr fa_40_5 rfl rfl rfl rfl (RL.loadq Tryz.isAgg3 rfl rfl rfl rfl ?_))))))
    refine RL.fieldAddr fa_40_6 rfl rfl rfl rfl (RL.loadq Tryz.isAgg3 rfl rfl rfl rfl ?_)
    refine RL.call (rlock_any c.mo c.ti) Tryz.call58 rfl rfl rfl rfl rfl (by repeat (first | exact Pick.nil | apply Pick.take | apply Pick.leave)) .nil (.inl rfl) ?_
    have h1' : c.L.length ≤ 8 ∧ (0 ≤ c.gr ∧ c.gr ≤ 65535) ∧ c.sd ≠ 0 ∧ c.sc.Ok := by
      simp only [Bool.or_eq_false_iff, decide_eq_false_iff_not, bne_eq_false_iff_eq, sche_0, beq_eq_false_iff_ne] at h1
      obtain ⟨⟨⟨⟨a1, a2⟩, a3⟩, a4⟩, a5⟩ := h1
      exact ⟨by omega, by omega, a4, a5⟩
    rintro _ _ _ ⟨p1, rfl, rfl, rfl⟩
    refine RL.p rfl (RL.p rfl (RL.p rfl (RL.p rfl (RL.p rfl (RL.nil (NQ.seq (CW.ok [1, 2, 4] rfl (CW.seq (CW.rg (RL.p rfl (RL.p rfl (RL.nil (NQ.seq ?_)))))))))))))
    refine CW.cond rfl (fun h2 => ?_) (fun h2 => ?_)
    ·
      refine CW.seq (CW.rg (RL.p rfl (RL.nil (NQ.seq (CW.ret (RQ.seq ?_))))))
      have hno : c.ok = false := by
        rw [Bool.eq_false_iff]
        intro h
        simp only [Cf.ok, srcB, Bool.and_eq_true, decide_eq_true_eq] at h
        obtain ⟨⟨⟨⟨⟨a1, a2⟩, a3⟩, a4⟩, a5⟩, a6⟩ := h
        rw [errI_yes a1] at h2; cases h2
      exact RQ.post (res1 rfl rfl) (Split.none _) ⟨by rw [Cf.err, hno]; rfl, rfl, rfl⟩
    ·
      refine CW.skip (NQ.seq (CW.seq (CW.region (ef := [1, 2]) (bk := [2]) (RL.buildA _ Tryz.zeroValue141 Tryz.runUnderlying141 Tryz.sizeOf3 rfl rfl rfl rfl rfl (RL.alloc Tryz.zeroValue141 rfl rfl rfl rfl rfl ?_)))))
      intro b2
      refine RL.store (vs := [_, _, _, _, _, _, _, _, _]) Tryz.sizeOf141 rfl rfl rfl rfl rfl rfl rfl rfl rfl (by repeat (first | exact Upd.here | apply Upd.there)) ?_
      refine RL.nil (NQ.seq (CW.seq (CW.seq (CW.rg (RL.p rfl (RL.nil (NQ.seq (CW.block ?_))))))))
      have h2' := errI_0.1 (by simpa using h2)
      refine CW.loop (γ := Nat) (fun i => i ≤ c.L.length ∧ (∀ j < i, stepS c.L j = true)) (fun i => [(1, .pointer (some ⟨b1, 0, none⟩)), (5, .pointer (some ⟨b2, 0, none⟩)), (6, .int .i64 (i : Int))]) (fun _ => J) (fun i => [cel b2 (manyC (c.L.take i)) 141]) (fun i => c.L.length - i) 0 ⟨Nat.zero_le _, fun j h => by omega⟩ (.cons rfl (.cons rfl (.cons rfl .nil))) (fun w h => by rw [manyC_0]; exact h.rea (fun _ h => by simpa using h) (by repeat (first | exact Rea.nil | (apply Rea.cons; (solve | (repeat (first | exact Del.here | apply Del.there))))))) ?_
      rintro i ⟨hi, hok⟩
      refine CW.fact (p := oa = none → c.L.length = 0) (fun w hC e => sls_nil (hC.s.i _ m2) (by rw [e]; rfl)) (fun hpa => ?_)
      refine CW.seq (CW.seq (CW.rg (RL.p rfl (RL.fieldAddr fa_40_0 rfl rfl rfl rfl (RL.loadq Tryz.isAgg37 rfl rfl rfl rfl ?_)))))
      refine RL.lenS Tryz.runUnderlying37 rfl rfl rfl rfl (RL.p rfl (RL.nil (NQ.seq ?_)))
      refine CW.cond rfl (fun hlt => ?_) (fun hlt => ?_)
      ·
        have hlt : i < c.L.length := by simp at hlt; omega
        cases oa with
        | none => exact absurd (hpa rfl) (by omega)
        | some ba =>
        have hx := List.getElem?_eq_getElem hlt
        generalize c.L[i] = s at hx
        have hs := hc.L s (List.mem_of_getElem? hx)
        have hsl := hLl s (List.mem_of_getElem? hx)
        have hlp : i - 1 < c.L.length := by omega
        have hp := List.getElem?_eq_getElem hlp
        generalize c.L[i - 1] = q at hp
        have fE : RdsN J ⟨ba, 0 + i * 48, none⟩ 48 s.cells := flat_rdsN (f := Sr.cells) m2 hx hLl
        refine CW.skip (NQ.seq (CW.seq (CW.block (CW.seq (CW.region (ef := [5, 6]) (bk := [6]) (RL.fieldAddr fa_40_0 rfl rfl rfl rfl (RL.loadq Tryz.isAgg37 rfl rfl rfl rfl ?_)))))))
        refine RL.p rfl (RL.idxAt (j := i) Tryz.runUnderlying37 Tryz.sizeOf108 rfl rfl rfl rfl rfl rfl (hlt) (RL.loadSq Tryz.isAgg108 Tryz.sizeOf108 rfl rfl rfl rfl ?_))
        refine RL.alloc Tryz.zeroValue108 rfl rfl rfl rfl rfl ?_
        intro b3
        refine RL.storeW Tryz.sizeOf108 rfl rfl rfl rfl rfl rfl rfl (sr_ones s) (by repeat (first | exact Upd.here | apply Upd.there)) hsl rfl ?_
        refine RL.nil (NQ.seq (CW.ok [1, 5, 6, 7] rfl (CW.seq (CW.seq (CW.freezeP (A := [cel b3 s.cells 108]) (B := [cel b2 (manyC (c.L.take i)) 141]) (by repeat (first | exact Pick.nil | apply Pick.take | apply Pick.leave)) rfl ?_)))))
        refine CW.genI (fun J2 hJ => ?_)
        have hJ2 : ∀ x ∈ J, x ∈ J2 := fun x hx => hJ x (by simp [hx])
        have mA : cel b3 s.cells 108 ∈ J2 := hJ _ (List.Mem.head _)
        have s0 : RdI J2 ⟨b3, 0 + 0, none⟩ (.int .i64 s.id) := ⟨fun _ => Rd.celI mA rfl⟩
        have s1 : RdI J2 ⟨b3, 0 + 1, none⟩ (.int .i64 s.kd) := ⟨fun _ => Rd.celI mA rfl⟩
        have sW : RdsN J2 ⟨b3, 0 + 38, none⟩ 10 s.wt.cells := RdsN.told mA (fun j u hj => by rw [sr_w hs.rt]; exact hj) rfl
        have fP : RdI J2 ⟨ba, 0 + (i - 1) * 48 + 0, none⟩ (.int .i64 q.id) := flat_rdI (f := Sr.cells) (hJ2 _ m2) hp hLl rfl
        have fS2 : RdI J2 ⟨b1, 0 + 0, none⟩ (slO (some ba) c.L.length ca) := ⟨fun _ => Rd.celI (hJ2 _ m1) rfl⟩
        clear fE hJ fS fG fD fA fC f1 f2 f3 f4
        refine CW.regionD (Sq.of [0, 1, 2, 3, 4, 5, 6, 7, 8, 9, 10, 11, 12, 13, 14, 15, 16, 17, 18, 19, 20, 21, 22, 23, 24, 25, 26, 27, 28, 29, 30, 31, 32, 33, 34, 35, 36, 37, 38, 39, 40, 41, 42, 43]) [] [] [0, 1, 2, 3, 4, 5, 6, 7, 8, 9, 10, 11, 12, 13, 14, 15, 16, 17, 18, 19, 20, 21, 22, 23, 24, 25, 26, 27, 28, 29, 30, 31, 32, 33, 34, 35, 36, 37, 38, 39, 40, 41, 42, 43] mixed (by kernel_rfl) ?_
        refine RL.fieldAddr fa_108_0 rfl rfl rfl rfl (RL.loadTq Tryz.isAgg3 rfl rfl rfl rfl ?_)
        refine RL.p rfl (RL.p rfl ?_)
        apply RL.orB (d := 61) (dp := 65) (l' := (Sq.of [8, 9, 10, 11, 12, 13, 14, 15, 16, 17, 18, 19, 20, 21, 22, 23, 24, 25, 26, 27, 28, 29, 30, 31, 32, 33, 34, 35, 36, 37, 38, 39, 40, 41, 42, 43])) rfl (sK [1, 5, 6, 7] rfl)
        ·
          intro hb4 K4
          refine RL.fieldAddr fa_108_0 rfl rfl rfl rfl (RL.loadTq Tryz.isAgg3 rfl rfl rfl rfl ?_)
          refine RL.p rfl (RL.p rfl ?_)
          exact K4 _ (.cons rfl (sK [1, 5, 6, 7] rfl))
        ·
          intro hb4 K4
          refine RL.p rfl (RL.p rfl (RL.p rfl (RL.p rfl ?_)))
          exact K4 _ (.cons rfl (sK [1, 5, 6, 7] rfl))
        refine RL.p rfl ?_
        apply RL.orB (d := 66) (dp := 81) (l' := (Sq.of [24, 25, 26, 27, 28, 29, 30, 31, 32, 33, 34, 35, 36, 37, 38, 39, 40, 41, 42, 43])) rfl (sK [1, 5, 6, 7] rfl)
        ·
          intro hb9 K9
          refine RL.p rfl (RL.p rfl (RL.p rfl ?_))
          apply RL.andB (d := 69) (dp := 80) (l' := (Sq.of [23, 24, 25, 26, 27, 28, 29, 30, 31, 32, 33, 34, 35, 36, 37, 38, 39, 40, 41, 42, 43])) rfl (sK [1, 5, 6, 7, 66] rfl)
          ·
            intro hb12 K12
            refine RL.fieldAddr fa_108_0 rfl rfl rfl rfl (RL.loadTq Tryz.isAgg3 rfl rfl rfl rfl ?_)
            refine RL.fieldAddr fa_40_0 rfl rfl rfl rfl (RL.loadTq Tryz.isAgg37 rfl rfl rfl rfl ?_)
            refine RL.p rfl (RL.bx rfl (wrapV_i64 (by omega) (by omega)) ?_)
            refine RL.cast (d := 75) (v' := .int .i64 ((i - 1 : Nat) : Int)) rfl (by have h0 := of_decide_eq_true ‹decide ((i : Int) > 0) = true›; congr 1; omega) ?_
            refine RL.idxAt (j := i - 1) Tryz.runUnderlying37 Tryz.sizeOf108 rfl rfl rfl rfl rfl rfl hlp (RL.fieldAddr fa_108_0 rfl rfl rfl rfl (RL.loadTq Tryz.isAgg3 rfl rfl rfl rfl ?_))
            refine RL.p rfl (RL.p rfl ?_)
            exact K12 _ (.cons rfl (sK [1, 5, 6, 7, 66] rfl))
          ·
            intro hb12 K12
            refine RL.p rfl (RL.p rfl (RL.p rfl (RL.p rfl (RL.p rfl (RL.p rfl (RL.p rfl (RL.p rfl (RL.p rfl (RL.p rfl (RL.p rfl ?_))))))))))
            exact K12 _ (.cons rfl (sK [1, 5, 6, 7, 66] rfl))
          refine RL.p rfl ?_
          exact K9 _ (.cons rfl (sK [1, 5, 6, 7] rfl))
        ·
          intro hb9 K9
          refine RL.p rfl (RL.p rfl (RL.p rfl (RL.p rfl (RL.p rfl (RL.p rfl (RL.p rfl (RL.p rfl (RL.p rfl (RL.p rfl (RL.p rfl (RL.p rfl (RL.p rfl (RL.p rfl ?_)))))))))))))
          refine RL.p rfl ?_
          exact K9 _ (.cons rfl (sK [1, 5, 6, 7] rfl))
        refine RL.p rfl ?_
        apply RL.orB (d := 82) (dp := 86) (l' := (Sq.of [29, 30, 31, 32, 33, 34, 35, 36, 37, 38, 39, 40, 41, 42, 43])) rfl (sK [1, 5, 6, 7] rfl)
        ·
          intro hb25 K25
          refine RL.fieldAddr fa_108_1 rfl rfl rfl rfl (RL.loadTq Tryz.isAgg3 rfl rfl rfl rfl ?_)
          refine RL.p rfl (RL.p rfl ?_)
          exact K25 _ (.cons rfl (sK [1, 5, 6, 7] rfl))
        ·
          intro hb25 K25
          refine RL.p rfl (RL.p rfl (RL.p rfl (RL.p rfl ?_)))
          exact K25 _ (.cons rfl (sK [1, 5, 6, 7] rfl))
        refine RL.p rfl ?_
        apply RL.orB (d := 87) (dp := 91) (l' := (Sq.of [34, 35, 36, 37, 38, 39, 40, 41, 42, 43])) rfl (sK [1, 5, 6, 7] rfl)
        ·
          intro hb30 K30
          refine RL.fieldAddr fa_108_1 rfl rfl rfl rfl (RL.loadTq Tryz.isAgg3 rfl rfl rfl rfl ?_)
          refine RL.p rfl (RL.p rfl ?_)
          exact K30 _ (.cons rfl (sK [1, 5, 6, 7] rfl))
        ·
          intro hb30 K30
          refine RL.p rfl (RL.p rfl (RL.p rfl (RL.p rfl ?_)))
          exact K30 _ (.cons rfl (sK [1, 5, 6, 7] rfl))
        refine RL.p rfl ?_
        apply RL.orB (d := 92) (dp := 96) (l' := (Sq.of [39, 40, 41, 42, 43])) rfl (sK [1, 5, 6, 7] rfl)
        ·
          intro hb35 K35
          refine RL.fieldAddr fa_108_1 rfl rfl rfl rfl (RL.loadTq Tryz.isAgg3 rfl rfl rfl rfl ?_)
          refine RL.p rfl (RL.p rfl ?_)
          exact K35 _ (.cons rfl (sK [1, 5, 6, 7] rfl))
        ·
          intro hb35 K35
          refine RL.p rfl (RL.p rfl (RL.p rfl (RL.p rfl ?_)))
          exact K35 _ (.cons rfl (sK [1, 5, 6, 7] rfl))
        refine RL.p rfl ?_
        apply RL.orB (d := 97) (dp := 101) (l' := (Sq.of [])) rfl (sK [1, 5, 6, 7] rfl)
        ·
          intro hb40 K40
          refine RL.fieldAddr fa_108_1 rfl rfl rfl rfl (RL.loadTq Tryz.isAgg3 rfl rfl rfl rfl ?_)
          refine RL.p rfl (RL.p rfl ?_)
          exact K40 _ (.cons rfl (sK [1, 5, 6, 7] rfl))
        ·
          intro hb40 K40
          refine RL.p rfl (RL.p rfl (RL.p rfl (RL.p rfl ?_)))
          exact K40 _ (.cons rfl (sK [1, 5, 6, 7] rfl))
        refine RL.nil (NQ.seq ?_)
        refine CW.cond rfl (fun h3 => ?_) (fun h3 => ?_)
        ·
          refine CW.seq (CW.rg (RL.p rfl (RL.nil (NQ.seq (CW.ret (RQ.seq (RQ.block (RQ.seq (RQ.seq (RQ.block (RQ.seq ?_)))))))))))
          have hno : c.ok = false := by
            rw [Bool.eq_false_iff]
            intro h
            simp only [Cf.ok, srcB, Bool.and_eq_true, decide_eq_true_eq] at h
            have h4 := srsB_iff.1 h.1.2.1.1 i
            rw [stepS_at hx] at h4
            simp [Sr.ok] at h4
            simp only [Bool.or_eq_true, Bool.and_eq_true, decide_eq_true_eq, beq_iff_eq] at h3
            have h5 : 1 ≤ s.kd ∧ s.kd ≤ 8 ∧ s.kd ≠ 6 ∧ s.kd ≠ 7 := by
              have := h4.1.2
              split at this <;> omega
            by_cases hi0 : 0 < i
            · rw [wasS_prev hp hi0] at h4; omega
            · omega
          exact RQ.post (res1 rfl rfl) (Split.none _) ⟨by rw [Cf.err, hno]; rfl, rfl, rfl⟩
        ·
          have h3' : (0 ≤ s.id ∧ s.id ≤ 7) ∧ wasS c.L i < s.id ∧ 1 ≤ s.kd ∧ s.kd ≤ 8 ∧ s.kd ≠ 6 ∧ s.kd ≠ 7 := by
            simp only [Bool.or_eq_false_iff, Bool.and_eq_false_iff, decide_eq_false_iff_not, beq_eq_false_iff_ne] at h3
            by_cases hi0 : 0 < i
            · rw [wasS_prev hp hi0]; omega
            · obtain rfl : i = 0 := by omega
              rw [wasS]; omega
          obtain ⟨k, hk, hk9⟩ : ∃ k : Nat, s.kd = (k : Int) ∧ k < 9 := ⟨s.kd.toNat, by omega, by omega⟩
          have s1k : RdI J2 ⟨b3, 0 + 1, none⟩ (.int .i64 (k : Int)) := by rw [← hk]; exact s1
          clear s1
          have hcb := cnt_bd (k : Int) (c.L.take i)
          rw [List.length_take] at hcb
          have hsn := manyC_snoc hx hk hk9
          have hfit : (0 + k * 1 + [Value.int .i64 (cnt (k : Int) (c.L.take i) + 1)].length).ble (manyC (c.L.take i)).length = true := by
            rw [Nat.ble_eq]; show 0 + k * 1 + 1 ≤ 9; omega
          refine CW.skip (NQ.seq (CW.seq (CW.region (ef := [6]) (bk := [6]) (RL.fieldAddr fa_108_1 rfl rfl rfl rfl (RL.loadq Tryz.isAgg3 rfl rfl rfl rfl ?_)))))
          refine RL.idxAAt (j := k) Tryz.runUnderlying141 Tryz.sizeOf3 rfl rfl rfl rfl rfl rfl hk9 (RL.load Tryz.isAgg3 rfl rfl rfl rfl (Rd.get (by repeat (first | exact List.Mem.head _ | apply List.Mem.tail)) (by rw [show 0 + k * 1 = k by omega]; exact manyC_at hk9)) ?_)
          refine RL.bx rfl (wrapV_i64 (by omega) (by omega)) ?_
          refine RL.idxAAt (j := k) Tryz.runUnderlying141 Tryz.sizeOf3 rfl rfl rfl rfl rfl rfl hk9 (RL.store Tryz.sizeOf3 rfl rfl rfl rfl rfl rfl rfl rfl hfit (by repeat (first | exact Upd.here | apply Upd.there)) ?_)
          refine RL.nil (NQ.seq (CW.ok [1, 5, 6, 7] rfl (CW.seq (CW.region (ef := [2]) (bk := []) (RL.fieldAddr fa_108_7 rfl rfl rfl rfl (RL.loadSq Tryz.isAgg106 Tryz.sizeOf106 rfl rfl rfl rfl ?_))))))
          refine RL.call (rwatch_any s.wt) Tryz.call59 rfl rfl rfl rfl rfl (by repeat (first | exact Pick.nil | apply Pick.take | apply Pick.leave)) .nil (.inl rfl) ?_
          rintro _ _ _ ⟨pw, rfl, rfl, rfl⟩
          refine RL.p rfl (RL.p rfl (RL.p rfl (RL.p rfl (RL.p rfl (RL.nil (NQ.seq (CW.ok [1, 5, 6, 7, 9] rfl (CW.seq (CW.rg (RL.fieldAddr fa_108_1 rfl rfl rfl rfl (RL.loadq Tryz.isAgg3 rfl rfl rfl rfl ?_)))))))))))
          refine RL.callvq (raid_any (k : Int)) Tryz.call60 rfl rfl rfl rfl ?_
          refine RL.p rfl ?_
          apply RL.andB (d := 117) (dp := 120) (l' := (Sq.of [])) rfl (sK [1, 5, 6] rfl)
          ·
            intro hb4 K4
            refine RL.p rfl (RL.p rfl (RL.p rfl ?_))
            exact K4 _ (.cons rfl (sK [1, 5, 6] rfl))
          ·
            intro hb4 K4
            refine RL.p rfl (RL.p rfl (RL.p rfl ?_))
            exact K4 _ (.cons rfl (sK [1, 5, 6] rfl))
          refine RL.nil (NQ.seq ?_)
          refine CW.cond rfl (fun h4 => ?_) (fun h4 => ?_)
          ·
            refine CW.seq (CW.rg (RL.p rfl (RL.nil (NQ.seq (CW.ret (RQ.block (RQ.seq (RQ.seq (RQ.block (RQ.seq ?_))))))))))
            have hno : c.ok = false := by
              rw [Bool.eq_false_iff]
              intro h
              simp only [Cf.ok, srcB, Bool.and_eq_true, decide_eq_true_eq] at h
              have h5 := srsB_iff.1 h.1.2.1.1 i
              rw [stepS_at hx] at h5
              simp [Sr.ok] at h5
              simp only [aidB, Bool.and_eq_true, decide_eq_true_eq, bne_iff_ne, ne_eq, errI_0] at h4
              rw [← hk] at h4
              rw [if_pos h4.1] at h5
              exact h4.2 h5.1.2
            exact RQ.post (res1 rfl rfl) (Split.none _) ⟨by rw [Cf.err, hno]; rfl, rfl, rfl⟩
          ·
            have hst : stepS c.L i = true := by
              rw [stepS_at hx]
              simp [Sr.ok]
              simp only [aidB, Bool.and_eq_false_iff, decide_eq_false_iff_not, bne_eq_false_iff_eq, errI_0] at h4
              rw [← hk] at h4
              refine ⟨⟨h3'.1, ?_⟩, h3'.2.1⟩
              by_cases h6 : 2 ≤ s.kd ∧ s.kd ≤ 5
              · rw [if_pos h6]; exact h4.resolve_left (fun h => h h6)
              · rw [if_neg h6]; omega
            refine CW.skip (NQ.block (NQ.seq (CW.rg (RL.p rfl (RL.bx rfl (wrapV_i64 (by omega) (by omega)) ?_)))))
            refine RL.p rfl (RL.nil ?_)
            refine NQ.round (g := i) (i + 1) ⟨hlt, fun j hj => ?_⟩ (by show c.L.length - (i + 1) < c.L.length - i; omega) (.cons rfl (.cons rfl (.cons rfl .nil))) (fun w h => by rw [← hsn]; exact h.rea (fun _ h => by simpa using hJ2 _ h) (by repeat (first | exact Rea.nil | (apply Rea.cons; (solve | (repeat (first | exact Del.here | apply Del.there)))))))
            rcases Nat.lt_succ_iff_lt_or_eq.1 hj with hj | rfl
            · exact hok j hj
            · exact hst
      ·
        have hin : i = c.L.length := by simp at hlt; omega
        subst hin
        rw [List.take_length]
        refine CW.exit (XQ.seq (XQ.seq (XQ.hit (NQ.seq (CW.ok [1, 5] rfl (CW.seq (CW.seq (CW.region (ef := [15, 16]) (bk := []) (RL.idxAAt (j := 1) Tryz.runUnderlying141 Tryz.sizeOf3 rfl rfl rfl rfl rfl rfl (by decide) ?_)))))))))
        refine RL.load Tryz.isAgg3 rfl rfl rfl rfl (Rd.get (by repeat (first | exact List.Mem.head _ | apply List.Mem.tail)) (manyC_at (k := 1) (by decide))) ?_
        refine RL.p rfl (RL.p rfl ?_)
        apply RL.orB (d := 124) (dp := 128) (l' := (Sq.of [8, 9, 10, 11, 12, 13, 14, 15, 16, 17, 18])) rfl (sK [1, 5] rfl)
        ·
          intro hb4 K4
          refine RL.idxAAt (j := 5) Tryz.runUnderlying141 Tryz.sizeOf3 rfl rfl rfl rfl rfl rfl (by decide) ?_
          refine RL.load Tryz.isAgg3 rfl rfl rfl rfl (Rd.get (by repeat (first | exact List.Mem.head _ | apply List.Mem.tail)) (manyC_at (k := 5) (by decide))) ?_
          refine RL.p rfl (RL.p rfl ?_)
          exact K4 _ (.cons rfl (sK [1, 5] rfl))
        ·
          intro hb4 K4
          refine RL.p rfl (RL.p rfl (RL.p rfl (RL.p rfl ?_)))
          exact K4 _ (.cons rfl (sK [1, 5] rfl))
        refine RL.p rfl ?_
        apply RL.orB (d := 129) (dp := 133) (l' := (Sq.of [13, 14, 15, 16, 17, 18])) rfl (sK [1] rfl)
        ·
          intro hb9 K9
          refine RL.idxAAt (j := 8) Tryz.runUnderlying141 Tryz.sizeOf3 rfl rfl rfl rfl rfl rfl (by decide) ?_
          refine RL.load Tryz.isAgg3 rfl rfl rfl rfl (Rd.get (by repeat (first | exact List.Mem.head _ | apply List.Mem.tail)) (manyC_at (k := 8) (by decide))) ?_
          refine RL.p rfl (RL.p rfl ?_)
          exact K9 _ (.cons rfl (sK [1] rfl))
        ·
          intro hb9 K9
          refine RL.p rfl (RL.p rfl (RL.p rfl (RL.p rfl ?_)))
          exact K9 _ (.cons rfl (sK [1] rfl))
        refine RL.p rfl ?_
        refine RL.part (d := 134) rfl (fun h3 => ?_) (fun h3 => ?_)
        ·
          refine RL.p rfl (RL.p rfl (RL.p rfl (RL.p rfl (RL.p rfl (RL.nil (NQ.seq (CW.ok [139] rfl (CW.condT rfl rfl (CW.seq (CW.rg (RL.p rfl (RL.nil (NQ.seq ?_)))))))))))))
          refine CW.ret (RQ.seq ?_)
          have hno : c.ok = false := by
            rw [Bool.eq_false_iff]
            intro h
            simp only [Cf.ok, srcB, manyB, Bool.and_eq_true, decide_eq_true_eq] at h
            simp at h3
            omega
          exact RQ.post (res1 rfl rfl) (Split.none _) ⟨by rw [Cf.err, hno]; rfl, rfl, rfl⟩
        ·
          refine RL.loadSq Tryz.isAgg40 Tryz.sizeOf40 rfl rfl rfl rfl ?_
          refine RL.call (rsnav_any c oa ca _ rfl hc.cm hc.L hl) Tryz.call62 rfl rfl rfl rfl rfl (by repeat (first | exact Pick.nil | apply Pick.take | apply Pick.leave)) (.inI m2 .nil) (.inl rfl) ?_
          have h3' : manyB c.L = true := by
            simp at h3
            simp [manyB]
            omega
          have hok' : c.ok = decide (0 ≤ c.dr ∧ (adsOf c.L).length ≤ 8 ∧ adsB (adsOf c.L) = true) := by
            simp [Cf.ok, srcB, h1', h2', h3', srsB_of hok]
          rintro _ _ _ ⟨oN, cN, rfl, rfl, rfl⟩
          refine RL.call (rnav_any c.g0 c.g1 c.g2 c.dr oN cN _ (adsOf c.L) rfl (by omega)) Tryz.call61 rfl rfl rfl rfl rfl (by repeat (first | exact Pick.nil | apply Pick.take | apply Pick.leave)) (.own (by repeat (first | exact List.Mem.head _ | apply List.Mem.tail)) .nil) (.inl rfl) ?_
          rintro _ _ _ ⟨rfl, rfl, rfl⟩
          refine RL.p rfl (RL.p rfl (RL.nil (NQ.seq (CW.ok [139] rfl ?_))))
          refine CW.cond rfl (fun h4 => ?_) (fun h4 => ?_)
          ·
            refine CW.seq (CW.rg (RL.p rfl (RL.nil (NQ.seq (CW.ret (RQ.seq ?_))))))
            have hno : c.ok = false := by
              rw [hok', decide_eq_false_iff_not]
              intro e
              rw [errI_yes e] at h4; cases h4
            exact RQ.post (res1 rfl rfl) (Split.none _) ⟨by rw [Cf.err, hno]; rfl, rfl, rfl⟩
          ·
            refine CW.skip (NQ.seq (CW.seq (CW.rg (RL.p rfl (RL.nil (NQ.seq (CW.ret ?_)))))))
            have hyes : c.ok = true := by
              rw [hok', decide_eq_true_eq]
              exact errI_0.1 (by simpa using h4)
            exact RQ.post (res1 rfl rfl) (Split.none _) ⟨by rw [Cf.err, hyes]; rfl, rfl, rfl⟩
end Go.Proofs.YthndhipjfdgdfaaGreatDoor
