import Derived.Test.YtbdnebedmdoehaaU4
namespace Go.Proofs.Ytbdnebedmdoehaa
open Go.PK
/-! ### The reference's check of aids; a navigator's setup -/
theorem wasA_prev {L : List Ad} {i : Nat} {q : Ad} (h : L[i - 1]? = some q) (hi : 0 < i) : wasA L i = q.src := by
  obtain ⟨j, rfl⟩ : ∃ j, i = j + 1 := ⟨i - 1, by omega⟩
  exact wasA_at h
theorem rnav_any (g0 g1 g2 dr : Int) (oa : Option Nat) (ca n : Nat) (L : List Ad) (hn : L.length = n) (hl : n ≤ 1000000) :
    Spc Try.prog 52 #[.agg #[.int .i64 g0, .int .i64 g1, .int .i64 g2, .int .i64 dr, slO oa n ca]] [sls (oa.map fun b => ⟨b, 0, none⟩) 7 n (L.flatMap Ad.cells)] [] (Is (.int .i64 (errI (0 ≤ dr ∧ L.length ≤ 8 ∧ adsB L = true)))) := by
  subst hn
  refine Spc.enter Try.func52 rfl rfl rfl (fun w0 hw0 => ?_)
  refine CW.seq (CW.region (ef := [0]) (bk := []) (RL.box rfl rfl rfl rfl rfl rfl ?_))
  intro b1
  refine RL.p rfl (RL.nil (NQ.seq (CW.seq (CW.seq (CW.freezeAll rfl ?_)))))
  simp only [List.cons_append, List.nil_append]
  generalize hJ : ([cel b1 [.int .i64 g0, .int .i64 g1, .int .i64 g2, .int .i64 dr, slO oa L.length ca] 70, sls (oa.map fun b => ⟨b, 0, none⟩) 7 L.length (L.flatMap Ad.cells)] : List It) = J
  have m1 : cel b1 [.int .i64 g0, .int .i64 g1, .int .i64 g2, .int .i64 dr, slO oa L.length ca] 70 ∈ J := by rw [← hJ]; exact (by repeat (first | exact List.Mem.head _ | apply List.Mem.tail))
  have m2 : sls (oa.map fun b => ⟨b, 0, none⟩) 7 L.length (L.flatMap Ad.cells) ∈ J := by rw [← hJ]; exact (by repeat (first | exact List.Mem.head _ | apply List.Mem.tail))
  clear hJ
  have fG : RdsN J ⟨b1, 0 + 0, none⟩ 3 [.int .i64 g0, .int .i64 g1, .int .i64 g2] := RdsN.told m1 (fun j u hj => by
    match j, hj with
    | 0, hj => exact hj
    | 1, hj => exact hj
    | 2, hj => exact hj
    | j + 3, hj => simp at hj) rfl
  have fD : RdI J ⟨b1, 0 + 3, none⟩ (.int .i64 dr) := ⟨fun _ => Rd.celI m1 rfl⟩
  have fS : RdI J ⟨b1, 0 + 4, none⟩ (slO oa L.length ca) := ⟨fun _ => Rd.celI m1 rfl⟩
  refine CW.rg (RL.fieldAddr fa_70_1 rfl rfl rfl rfl (RL.loadq Try.isAgg24 rfl rfl rfl rfl ?_))
  refine RL.p rfl (RL.p rfl ?_)
  apply RL.orB (d := 8) (dp := 13) (l' := (Sq.of [])) rfl (sK [1, 2] rfl)
  ·
    intro hb4 K4
    refine RL.fieldAddr fa_70_2 rfl rfl rfl rfl (RL.loadq Try.isAgg68 rfl rfl rfl rfl ?_)
    refine RL.lenS Try.runUnderlying68 rfl rfl rfl rfl (RL.p rfl (RL.p rfl ?_))
    exact K4 _ (.cons rfl (sK [1, 2] rfl))
  ·
    intro hb4 K4
    refine RL.p rfl (RL.p rfl (RL.p rfl (RL.p rfl (RL.p rfl ?_))))
    exact K4 _ (.cons rfl (sK [1, 2] rfl))
  refine RL.nil (NQ.seq ?_)
  refine CW.cond rfl (fun h1 => ?_) (fun h1 => ?_)
  ·
    refine CW.seq (CW.rg (RL.p rfl (RL.nil (NQ.seq (CW.ret (RQ.seq ?_))))))
    exact RQ.post (res1 rfl rfl) (Split.none _) ⟨by rw [errI_no (by simp at h1; omega)], rfl, rfl⟩
  ·
    refine CW.skip (NQ.seq (CW.seq (CW.seq (CW.rg (RL.p rfl (RL.nil (NQ.seq (CW.block ?_))))))))
    have h1 : 0 ≤ dr ∧ L.length ≤ 8 := by simp at h1; omega
    refine CW.loop (γ := Nat) (fun i => i ≤ L.length ∧ (∀ j < i, stepA L j = true)) (fun i => [(1, .pointer (some ⟨b1, 0, none⟩)), (3, .int .i64 (i : Int))]) (fun _ => J) (fun _ => []) (fun i => L.length - i) 0 ⟨Nat.zero_le _, fun j h => by omega⟩ (.cons rfl (.cons rfl .nil)) (fun w h => h.rea (fun _ h => h) (by repeat (first | exact Rea.nil | (apply Rea.cons; (solve | (repeat (first | exact Del.here | apply Del.there))))))) ?_
    rintro i ⟨hi, hok⟩
    refine CW.fact (p := oa = none → L.length = 0) (fun w hC e => sls_nil (hC.s.i _ m2) (by rw [e]; rfl)) (fun hpa => ?_)
    refine CW.seq (CW.seq (CW.rg (RL.p rfl (RL.fieldAddr fa_70_2 rfl rfl rfl rfl (RL.loadq Try.isAgg68 rfl rfl rfl rfl ?_)))))
    refine RL.lenS Try.runUnderlying68 rfl rfl rfl rfl (RL.p rfl (RL.nil (NQ.seq ?_)))
    refine CW.cond rfl (fun hlt => ?_) (fun hlt => ?_)
    ·
      have hlt : i < L.length := by simp at hlt; omega
      cases oa with
      | none => exact absurd (hpa rfl) (by omega)
      | some ba =>
      have hx := List.getElem?_eq_getElem hlt
      generalize L[i] = a at hx
      have hlp : i - 1 < L.length := by omega
      have hp := List.getElem?_eq_getElem hlp
      generalize L[i - 1] = q at hp
      have fA : RdsN J ⟨ba, 0 + i * 7, none⟩ 7 [.int .i64 a.src, .int .i64 a.kd, .int .i64 a.w, .int .i64 a.g, .int .i64 a.st, .int .i64 a.lm, .int .i64 a.hz] := flat_rdsN (f := Ad.cells) m2 hx (fun _ _ => rfl)
      have fP : RdI J ⟨ba, 0 + (i - 1) * 7 + 0, none⟩ (.int .i64 q.src) := flat_rdI (f := Ad.cells) m2 hp (fun _ _ => rfl) rfl
      refine CW.skip (NQ.seq (CW.seq (CW.block (CW.seq (CW.region (ef := [5, 6]) (bk := [6]) (RL.fieldAddr fa_70_2 rfl rfl rfl rfl (RL.loadq Try.isAgg68 rfl rfl rfl rfl ?_)))))))
      refine RL.p rfl (RL.idxAt (j := i) Try.runUnderlying68 Try.sizeOf135 rfl rfl rfl rfl rfl rfl (hlt) (RL.loadSq Try.isAgg135 Try.sizeOf135 rfl rfl rfl rfl ?_))
      refine RL.alloc Try.zeroValue135 rfl rfl rfl rfl rfl ?_
      intro b2
      refine RL.store (vs := [_, _, _, _, _, _, _]) Try.sizeOf135 rfl rfl rfl rfl rfl rfl rfl rfl rfl (by repeat (first | exact Upd.here | apply Upd.there)) ?_
      refine RL.nil (NQ.seq (CW.ok [1, 3, 4] rfl (CW.seq (CW.freezeP (A := [_]) (B := []) (.take .nil) rfl ?_))))
      refine CW.genI (fun J2 hJ => ?_)
      have hJ2 : ∀ x ∈ J, x ∈ J2 := fun x hx => hJ x (by simp [hx])
      have m3 := hJ2 _ m2
      have mA : cel b2 a.cells 135 ∈ J2 := hJ _ (List.Mem.head _)
      have fS2 : RdI J2 ⟨b1, 0 + 4, none⟩ (slO (some ba) L.length ca) := ⟨fun _ => Rd.celI (hJ2 _ m1) rfl⟩
      have fP2 : RdI J2 ⟨ba, 0 + (i - 1) * 7 + 0, none⟩ (.int .i64 q.src) := flat_rdI (f := Ad.cells) m3 hp (fun _ _ => rfl) rfl
      have f0 : RdI J2 ⟨b2, 0 + 0, none⟩ (.int .i64 a.src) := ⟨fun _ => Rd.celI mA rfl⟩
      have f1 : RdI J2 ⟨b2, 0 + 1, none⟩ (.int .i64 a.kd) := ⟨fun _ => Rd.celI mA rfl⟩
      have f2 : RdI J2 ⟨b2, 0 + 2, none⟩ (.int .i64 a.w) := ⟨fun _ => Rd.celI mA rfl⟩
      have f3 : RdsN J2 ⟨b2, 0 + 3, none⟩ 4 [.int .i64 a.g, .int .i64 a.st, .int .i64 a.lm, .int .i64 a.hz] := RdsN.told mA (fun j u hj => by
        match j, hj with
        | 0, hj => exact hj
        | 1, hj => exact hj
        | 2, hj => exact hj
        | 3, hj => exact hj
        | j + 4, hj => simp at hj) rfl
      clear fA fP fS hJ
      refine CW.regionD (Sq.of [0, 1, 2, 3, 4, 5, 6, 7, 8, 9, 10, 11, 12, 13, 14, 15, 16, 17, 18, 19, 20, 21, 22, 23, 24, 25, 26, 27, 28, 29, 30, 31, 32, 33, 34, 35, 36, 37, 38, 39, 40, 41, 42, 43, 44, 45, 46, 47, 48, 49]) [] [] [0, 1, 2, 3, 4, 5, 6, 7, 8, 9, 10, 11, 12, 13, 14, 15, 16, 17, 18, 19, 20, 21, 22, 23, 24, 25, 26, 27, 28, 29, 30, 31, 32, 33, 34, 35, 36, 37, 38, 39, 40, 41, 42, 43, 44, 45, 46, 47, 48, 49] mixed (by kernel_rfl) ?_
      refine RL.fieldAddr fa_135_0 rfl rfl rfl rfl (RL.loadTq Try.isAgg3 rfl rfl rfl rfl ?_)
      refine RL.p rfl (RL.p rfl ?_)
      apply RL.orB (d := 29) (dp := 33) (l' := (Sq.of [8, 9, 10, 11, 12, 13, 14, 15, 16, 17, 18, 19, 20, 21, 22, 23, 24, 25, 26, 27, 28, 29, 30, 31, 32, 33, 34, 35, 36, 37, 38, 39, 40, 41, 42, 43, 44, 45, 46, 47, 48, 49])) rfl (sK [1, 3, 4] rfl)
      ·
        intro hb4 K4
        refine RL.fieldAddr fa_135_0 rfl rfl rfl rfl (RL.loadTq Try.isAgg3 rfl rfl rfl rfl ?_)
        refine RL.p rfl (RL.p rfl ?_)
        exact K4 _ (.cons rfl (sK [1, 3, 4] rfl))
      ·
        intro hb4 K4
        refine RL.p rfl (RL.p rfl (RL.p rfl (RL.p rfl ?_)))
        exact K4 _ (.cons rfl (sK [1, 3, 4] rfl))
      refine RL.p rfl ?_
      apply RL.orB (d := 34) (dp := 49) (l' := (Sq.of [24, 25, 26, 27, 28, 29, 30, 31, 32, 33, 34, 35, 36, 37, 38, 39, 40, 41, 42, 43, 44, 45, 46, 47, 48, 49])) rfl (sK [1, 3, 4] rfl)
      ·
        intro hb9 K9
        refine RL.p rfl (RL.p rfl (RL.p rfl ?_))
        apply RL.andB (d := 37) (dp := 48) (l' := (Sq.of [23, 24, 25, 26, 27, 28, 29, 30, 31, 32, 33, 34, 35, 36, 37, 38, 39, 40, 41, 42, 43, 44, 45, 46, 47, 48, 49])) rfl (sK [1, 3, 4, 34] rfl)
        ·
          intro hb12 K12
          refine RL.fieldAddr fa_135_0 rfl rfl rfl rfl (RL.loadTq Try.isAgg3 rfl rfl rfl rfl ?_)
          refine RL.fieldAddr fa_70_2 rfl rfl rfl rfl (RL.loadTq Try.isAgg68 rfl rfl rfl rfl ?_)
          refine RL.p rfl (RL.bx rfl (wrapV_i64 (by omega) (by omega)) ?_)
          refine RL.cast (d := 43) (v' := .int .i64 ((i - 1 : Nat) : Int)) rfl (by have h0 := of_decide_eq_true ‹decide ((i : Int) > 0) = true›; congr 1; omega) ?_
          refine RL.idxAt (j := i - 1) Try.runUnderlying68 Try.sizeOf135 rfl rfl rfl rfl rfl rfl hlp (RL.fieldAddr fa_135_0 rfl rfl rfl rfl (RL.loadTq Try.isAgg3 rfl rfl rfl rfl ?_))
          refine RL.p rfl (RL.p rfl ?_)
          exact K12 _ (.cons rfl (sK [1, 3, 4, 34] rfl))
        ·
          intro hb12 K12
          refine RL.p rfl (RL.p rfl (RL.p rfl (RL.p rfl (RL.p rfl (RL.p rfl (RL.p rfl (RL.p rfl (RL.p rfl (RL.p rfl (RL.p rfl ?_))))))))))
          exact K12 _ (.cons rfl (sK [1, 3, 4, 34] rfl))
        refine RL.p rfl ?_
        exact K9 _ (.cons rfl (sK [1, 3, 4] rfl))
      ·
        intro hb9 K9
        refine RL.p rfl (RL.p rfl (RL.p rfl (RL.p rfl (RL.p rfl (RL.p rfl (RL.p rfl (RL.p rfl (RL.p rfl (RL.p rfl (RL.p rfl (RL.p rfl (RL.p rfl (RL.p rfl ?_)))))))))))))
        refine RL.p rfl ?_
        exact K9 _ (.cons rfl (sK [1, 3, 4] rfl))
      refine RL.p rfl ?_
      apply RL.orB (d := 50) (dp := 54) (l' := (Sq.of [29, 30, 31, 32, 33, 34, 35, 36, 37, 38, 39, 40, 41, 42, 43, 44, 45, 46, 47, 48, 49])) rfl (sK [1, 3, 4] rfl)
      ·
        intro hb25 K25
        refine RL.fieldAddr fa_135_1 rfl rfl rfl rfl (RL.loadTq Try.isAgg3 rfl rfl rfl rfl ?_)
        refine RL.p rfl (RL.p rfl ?_)
        exact K25 _ (.cons rfl (sK [1, 3, 4] rfl))
      ·
        intro hb25 K25
        refine RL.p rfl (RL.p rfl (RL.p rfl (RL.p rfl ?_)))
        exact K25 _ (.cons rfl (sK [1, 3, 4] rfl))
      refine RL.p rfl ?_
      apply RL.orB (d := 55) (dp := 59) (l' := (Sq.of [34, 35, 36, 37, 38, 39, 40, 41, 42, 43, 44, 45, 46, 47, 48, 49])) rfl (sK [1, 3, 4] rfl)
      ·
        intro hb30 K30
        refine RL.fieldAddr fa_135_1 rfl rfl rfl rfl (RL.loadTq Try.isAgg3 rfl rfl rfl rfl ?_)
        refine RL.p rfl (RL.p rfl ?_)
        exact K30 _ (.cons rfl (sK [1, 3, 4] rfl))
      ·
        intro hb30 K30
        refine RL.p rfl (RL.p rfl (RL.p rfl (RL.p rfl ?_)))
        exact K30 _ (.cons rfl (sK [1, 3, 4] rfl))
      refine RL.p rfl ?_
      apply RL.orB (d := 60) (dp := 64) (l' := (Sq.of [39, 40, 41, 42, 43, 44, 45, 46, 47, 48, 49])) rfl (sK [1, 3, 4] rfl)
      ·
        intro hb35 K35
        refine RL.fieldAddr fa_135_2 rfl rfl rfl rfl (RL.loadTq Try.isAgg3 rfl rfl rfl rfl ?_)
        refine RL.p rfl (RL.p rfl ?_)
        exact K35 _ (.cons rfl (sK [1, 3, 4] rfl))
      ·
        intro hb35 K35
        refine RL.p rfl (RL.p rfl (RL.p rfl (RL.p rfl ?_)))
        exact K35 _ (.cons rfl (sK [1, 3, 4] rfl))
      refine RL.p rfl ?_
      apply RL.orB (d := 65) (dp := 69) (l' := (Sq.of [44, 45, 46, 47, 48, 49])) rfl (sK [1, 3, 4] rfl)
      ·
        intro hb40 K40
        refine RL.fieldAddr fa_135_2 rfl rfl rfl rfl (RL.loadTq Try.isAgg3 rfl rfl rfl rfl ?_)
        refine RL.p rfl (RL.p rfl ?_)
        exact K40 _ (.cons rfl (sK [1, 3, 4] rfl))
      ·
        intro hb40 K40
        refine RL.p rfl (RL.p rfl (RL.p rfl (RL.p rfl ?_)))
        exact K40 _ (.cons rfl (sK [1, 3, 4] rfl))
      refine RL.p rfl ?_
      apply RL.orB (d := 70) (dp := 75) (l' := (Sq.of [])) rfl (sK [1, 3] rfl)
      ·
        intro hb45 K45
        refine RL.fieldAddr fa_135_3 rfl rfl rfl rfl (RL.loadSTq Try.isAgg133 Try.sizeOf133 rfl rfl rfl rfl ?_)
        refine RL.callTq (rrule_any a.g a.st a.lm a.hz) Try.call82 rfl rfl rfl rfl ?_
        refine RL.p rfl (RL.p rfl ?_)
        exact K45 _ (.cons rfl (sK [1, 3] rfl))
      ·
        intro hb45 K45
        refine RL.p rfl (RL.p rfl (RL.p rfl (RL.p rfl (RL.p rfl ?_))))
        exact K45 _ (.cons rfl (sK [1, 3] rfl))
      refine RL.nil (NQ.seq ?_)
      refine CW.cond rfl (fun h2 => ?_) (fun h2 => ?_)
      ·
        refine CW.seq (CW.rg (RL.p rfl (RL.nil (NQ.seq (CW.ret (RQ.block (RQ.seq (RQ.seq (RQ.block (RQ.seq ?_))))))))))
        have hno : ¬ (0 ≤ dr ∧ L.length ≤ 8 ∧ adsB L = true) := by
          rintro ⟨-, -, h3⟩
          have h4 := adsB_iff.1 h3 i
          rw [stepA_at hx] at h4
          simp [Ad.ok] at h4
          simp only [Bool.or_eq_true, Bool.and_eq_true, decide_eq_true_eq, bne_iff_ne, ne_eq, errI_0] at h2
          by_cases hi0 : 0 < i
          · rw [wasA_prev hp hi0] at h4; omega
          · omega
        exact RQ.post (res1 rfl rfl) (Split.none _) ⟨by rw [errI_no hno], rfl, rfl⟩
      ·
        have hs : stepA L i = true := by
          rw [stepA_at hx]
          simp only [Bool.or_eq_false_iff, Bool.and_eq_false_iff, decide_eq_false_iff_not, bne_eq_false_iff_eq, errI_0] at h2
          simp [Ad.ok]
          refine ⟨by omega, ?_⟩
          by_cases hi0 : 0 < i
          · rw [wasA_prev hp hi0]; omega
          · obtain rfl : i = 0 := by omega
            rw [wasA]; omega
        refine CW.skip (NQ.block (NQ.seq (CW.rg (RL.p rfl (RL.bx rfl (wrapV_i64 (by omega) (by omega)) ?_)))))
        refine RL.p rfl (RL.nil ?_)
        refine NQ.round (g := i) (i + 1) ⟨hlt, fun j hj => ?_⟩ (by show L.length - (i + 1) < L.length - i; omega) (.cons rfl (.cons rfl .nil)) (fun w h => h.rea hJ2 (by repeat (first | exact Rea.nil | (apply Rea.cons; (solve | (repeat (first | exact Del.here | apply Del.there)))))))
        rcases Nat.lt_succ_iff_lt_or_eq.1 hj with hj | rfl
        · exact hok j hj
        · exact hs
    ·
      have hin : i = L.length := by simp at hlt; omega
      refine CW.exit (XQ.seq (XQ.seq (XQ.hit (NQ.seq (CW.ok [] rfl (CW.seq (CW.rg (RL.p rfl (RL.nil (NQ.seq (CW.ret ?_)))))))))))
      have hyes : 0 ≤ dr ∧ L.length ≤ 8 ∧ adsB L = true := by
        refine ⟨h1.1, h1.2, adsB_iff.2 fun j => ?_⟩
        by_cases hj : j < L.length
        · exact hok j (by omega)
        · rw [stepA, List.getElem?_eq_none (by omega)]
      exact RQ.post (res1 rfl rfl) (Split.none _) ⟨by rw [errI_yes hyes], rfl, rfl⟩
end Go.Proofs.Ytbdnebedmdoehaa
