import Derived.Test.YtbdnebedmdoehaaU7
namespace Go.Proofs.Ytbdnebedmdoehaa
open Go.PK
/-! ### Checks of a configuration -/
def Cf.ok (c : Cf) : Bool := decide (1 ≤ c.mo ∧ c.mo ≤ 1000 ∧ 1 ≤ c.ti ∧ c.ti ≤ 65535) && decide (0 ≤ c.gr ∧ c.gr ≤ 65535) && decide (c.sd ≠ 0) && decide (c.sc.Ok) && srcB c.L && decide (0 ≤ c.dr ∧ (adsOf c.L).length ≤ 8 ∧ adsB (adsOf c.L) = true)
def Cf.err (c : Cf) : Int := if c.ok = true then 0 else 310
structure Cf.Fit (c : Cf) : Prop where
  cm : c.cm.length = 32
  L : ∀ s ∈ c.L, s.Fit
theorem sche_0 {s : Sch} : s.e = 0 ↔ s.Ok := by unfold Sch.e; split <;> simp_all
theorem ccheck_any (c : Cf) (oa : Option Nat) (ca n : Nat) (hn : c.L.length = n) (hc : c.Fit) (hl : n ≤ 1000000) :
    Spc Try.prog 9 #[.agg (c.cells (slO oa n ca)).toArray] [sls (oa.map fun b => ⟨b, 0, none⟩) 48 n (c.L.flatMap Sr.cells)] [] (Is (.int .i64 c.err)) := by
  subst hn
  have hal := adsOf_len c.L
  refine Spc.enter Try.func9 rfl rfl rfl (fun w0 hw0 => ?_)
  refine CW.seq (CW.region (ef := [0]) (bk := []) (RL.box rfl rfl rfl rfl rfl rfl ?_))
  intro b1
  refine RL.p rfl (RL.nil (NQ.seq (CW.seq (CW.freezeP (A := [cel b1 (c.cells (slO oa c.L.length ca)) 33]) (B := []) (by repeat (first | exact Pick.nil | apply Pick.take | apply Pick.leave)) rfl ?_))))
  simp only [List.cons_append, List.nil_append]
  generalize hJ : ([cel b1 (c.cells (slO oa c.L.length ca)) 33, sls (oa.map fun b => ⟨b, 0, none⟩) 48 c.L.length (c.L.flatMap Sr.cells)] : List It) = J
  have m1 : cel b1 (c.cells (slO oa c.L.length ca)) 33 ∈ J := by rw [← hJ]; exact (by repeat (first | exact List.Mem.head _ | apply List.Mem.tail))
  have m2 : sls (oa.map fun b => ⟨b, 0, none⟩) 48 c.L.length (c.L.flatMap Sr.cells) ∈ J := by rw [← hJ]; exact (by repeat (first | exact List.Mem.head _ | apply List.Mem.tail))
  clear hJ
  have fS : RdI J ⟨b1, 0 + 0, none⟩ (slO oa c.L.length ca) := ⟨fun _ => Rd.celI m1 rfl⟩
  have fG : RdsN J ⟨b1, 0 + 1, none⟩ 3 [.int .i64 c.g0, .int .i64 c.g1, .int .i64 c.g2] := RdsN.told m1 (fun j u hj => by
    match j, hj with
    | 0, hj => exact hj
    | 1, hj => exact hj
    | 2, hj => exact hj
    | j + 3, hj => simp at hj) rfl
  have fD : RdI J ⟨b1, 0 + 4, none⟩ (.int .i64 c.dr) := ⟨fun _ => Rd.celI m1 rfl⟩
  have fA : RdsN J ⟨b1, 0, none⟩ 45 (c.cells (slO oa c.L.length ca)) := ⟨fun _ => Rds.allI m1, cf_len hc.cm _⟩
  have fC : RdsN J ⟨b1, 0 + 5, none⟩ 4 [.int .i64 c.sc.st, .int .i64 c.sc.ln, .int .i64 c.sc.lg, .int .i64 c.sc.of] := RdsN.told m1 (fun j u hj => by
    match j, hj with
    | 0, hj => exact hj
    | 1, hj => exact hj
    | 2, hj => exact hj
    | 3, hj => exact hj
    | j + 4, hj => simp at hj) rfl
  have f1 : RdI J ⟨b1, 0 + 41, none⟩ (.int .i64 c.mo) := ⟨fun _ => Rd.getI m1 (cf_t hc.cm _ 0)⟩
  have f2 : RdI J ⟨b1, 0 + 42, none⟩ (.int .i64 c.ti) := ⟨fun _ => Rd.getI m1 (cf_t hc.cm _ 1)⟩
  have f3 : RdI J ⟨b1, 0 + 43, none⟩ (.int .i64 c.gr) := ⟨fun _ => Rd.getI m1 (cf_t hc.cm _ 2)⟩
  have f4 : RdI J ⟨b1, 0 + 44, none⟩ (.int .u64 c.sd) := ⟨fun _ => Rd.getI m1 (cf_t hc.cm _ 3)⟩
  refine CW.region (ef := [4]) (bk := []) (RL.fieldAddr fa_33_5 rfl rfl rfl rfl (RL.loadq Try.isAgg3 rfl rfl rfl rfl ?_))
  refine RL.fieldAddr fa_33_6 rfl rfl rfl rfl (RL.loadq Try.isAgg3 rfl rfl rfl rfl ?_)
  refine RL.call (lock_any c.mo c.ti) Try.call42 rfl rfl rfl rfl rfl (by repeat (first | exact Pick.nil | apply Pick.take | apply Pick.leave)) .nil (.inl rfl) ?_
  rintro _ _ _ ⟨p1, rfl, rfl, rfl⟩
  refine RL.p rfl (RL.p rfl (RL.p rfl (RL.p rfl (RL.p rfl (RL.nil (NQ.seq (CW.ok [1, 4] rfl (CW.seq (CW.seq (CW.rg (RL.p rfl (RL.p rfl (RL.p rfl ?_)))))))))))))
  apply RL.orB (d := 17) (dp := 21) (l' := (Sq.of [7, 8, 9, 10, 11, 12, 13, 14, 15, 16, 17, 18, 19, 20, 21, 22, 23, 24, 25, 26, 27, 28])) rfl (sK [1] rfl)
  ·
    intro hb3 K3
    refine RL.fieldAddr fa_33_7 rfl rfl rfl rfl (RL.loadq Try.isAgg3 rfl rfl rfl rfl ?_)
    refine RL.p rfl (RL.p rfl ?_)
    exact K3 _ (.cons rfl (sK [1] rfl))
  ·
    intro hb3 K3
    refine RL.p rfl (RL.p rfl (RL.p rfl (RL.p rfl ?_)))
    exact K3 _ (.cons rfl (sK [1] rfl))
  refine RL.p rfl ?_
  apply RL.orB (d := 22) (dp := 26) (l' := (Sq.of [12, 13, 14, 15, 16, 17, 18, 19, 20, 21, 22, 23, 24, 25, 26, 27, 28])) rfl (sK [1] rfl)
  ·
    intro hb8 K8
    refine RL.fieldAddr fa_33_7 rfl rfl rfl rfl (RL.loadq Try.isAgg3 rfl rfl rfl rfl ?_)
    refine RL.p rfl (RL.p rfl ?_)
    exact K8 _ (.cons rfl (sK [1] rfl))
  ·
    intro hb8 K8
    refine RL.p rfl (RL.p rfl (RL.p rfl (RL.p rfl ?_)))
    exact K8 _ (.cons rfl (sK [1] rfl))
  refine RL.p rfl ?_
  apply RL.orB (d := 27) (dp := 31) (l' := (Sq.of [17, 18, 19, 20, 21, 22, 23, 24, 25, 26, 27, 28])) rfl (sK [1] rfl)
  ·
    intro hb13 K13
    refine RL.fieldAddr fa_33_8 rfl rfl rfl rfl (RL.loadq Try.isAgg31 rfl rfl rfl rfl ?_)
    refine RL.p rfl (RL.p rfl ?_)
    exact K13 _ (.cons rfl (sK [1] rfl))
  ·
    intro hb13 K13
    refine RL.p rfl (RL.p rfl (RL.p rfl (RL.p rfl ?_)))
    exact K13 _ (.cons rfl (sK [1] rfl))
  refine RL.p rfl ?_
  apply RL.orB (d := 32) (dp := 37) (l' := (Sq.of [23, 24, 25, 26, 27, 28])) rfl (sK [1] rfl)
  ·
    intro hb18 K18
    refine RL.fieldAddr fa_33_3 rfl rfl rfl rfl (RL.loadSq Try.isAgg28 Try.sizeOf28 rfl rfl rfl rfl ?_)
    refine RL.callvq (scheck c.sc) Try.call43 rfl rfl rfl rfl ?_
    refine RL.p rfl (RL.p rfl ?_)
    exact K18 _ (.cons rfl (sK [1] rfl))
  ·
    intro hb18 K18
    refine RL.p rfl (RL.p rfl (RL.p rfl (RL.p rfl (RL.p rfl ?_))))
    exact K18 _ (.cons rfl (sK [1] rfl))
  refine RL.p rfl ?_
  apply RL.orB (d := 38) (dp := 43) (l' := (Sq.of [])) rfl (sK [1] rfl)
  ·
    intro hb24 K24
    refine RL.fieldAddr fa_33_0 rfl rfl rfl rfl (RL.loadq Try.isAgg23 rfl rfl rfl rfl ?_)
    refine RL.callv (srcs_any oa ca _ c.L rfl hc.L hl) Try.call44 rfl rfl rfl rfl (.inI m2 .nil) (RL.p rfl (RL.p rfl ?_))
    exact K24 _ (.cons rfl (sK [1] rfl))
  ·
    intro hb24 K24
    refine RL.p rfl (RL.p rfl (RL.p rfl (RL.p rfl (RL.p rfl ?_))))
    exact K24 _ (.cons rfl (sK [1] rfl))
  refine RL.nil (NQ.seq ?_)
  refine CW.cond rfl (fun h1 => ?_) (fun h1 => ?_)
  ·
    refine CW.seq (CW.rg (RL.p rfl (RL.nil (NQ.seq (CW.ret (RQ.seq ?_))))))
    have hno : c.ok = false := by
      simp only [Bool.or_eq_true, decide_eq_true_eq, bne_iff_ne, ne_eq, errI_0, sche_0, Bool.not_eq_true'] at h1
      rw [Bool.eq_false_iff]
      intro h
      simp only [Cf.ok, Bool.and_eq_true, decide_eq_true_eq] at h
      obtain ⟨⟨⟨⟨⟨a1, a2⟩, a3⟩, a4⟩, a5⟩, a6⟩ := h
      rcases h1 with ((((h1 | h1) | h1) | h1) | h1) | h1
      · exact h1 a1
      · omega
      · omega
      · simp at h1; exact a3 h1
      · exact h1 a4
      · rw [a5] at h1; cases h1
    exact RQ.post (res1 rfl rfl) (Split.none _) ⟨by rw [Cf.err, hno]; rfl, rfl, rfl⟩
  ·
    have h1' : (1 ≤ c.mo ∧ c.mo ≤ 1000 ∧ 1 ≤ c.ti ∧ c.ti ≤ 65535) ∧ (0 ≤ c.gr ∧ c.gr ≤ 65535) ∧ c.sd ≠ 0 ∧ c.sc.Ok ∧ srcB c.L = true := by
      simp only [Bool.or_eq_false_iff, decide_eq_false_iff_not, bne_eq_false_iff_eq, errI_0, sche_0, Bool.not_eq_false', beq_eq_false_iff_ne] at h1
      obtain ⟨⟨⟨⟨⟨a1, a2⟩, a3⟩, a4⟩, a5⟩, a6⟩ := h1
      exact ⟨a1, by omega, a4, a5, a6⟩
    have hok : c.ok = decide (0 ≤ c.dr ∧ (adsOf c.L).length ≤ 8 ∧ adsB (adsOf c.L) = true) := by
      simp [Cf.ok, h1']
    refine CW.skip (NQ.seq (CW.seq (CW.seq (CW.region (ef := [1, 2]) (bk := []) (RL.loadSq Try.isAgg33 Try.sizeOf33 rfl rfl rfl rfl ?_)))))
    refine RL.call (snav_any c oa ca _ rfl hc.cm hc.L hl) Try.call19 rfl rfl rfl rfl rfl (by repeat (first | exact Pick.nil | apply Pick.take | apply Pick.leave)) (.inI (by simpa using m2) .nil) (.inl rfl) ?_
    rintro _ _ _ ⟨oN, cN, rfl, rfl, rfl⟩
    refine RL.call (nav_any c.g0 c.g1 c.g2 c.dr oN cN _ (adsOf c.L) rfl (by omega)) Try.call45 rfl rfl rfl rfl rfl (by repeat (first | exact Pick.nil | apply Pick.take | apply Pick.leave)) (.own (by repeat (first | exact List.Mem.head _ | apply List.Mem.tail)) .nil) (.inl rfl) ?_
    rintro _ _ _ ⟨p2, rfl, rfl, rfl⟩
    refine RL.p rfl (RL.p rfl (RL.p rfl (RL.p rfl (RL.p rfl (RL.nil (NQ.seq (CW.ok [6] rfl (CW.seq (CW.rg (RL.p rfl (RL.p rfl (RL.nil (NQ.seq ?_)))))))))))))
    refine CW.cond rfl (fun h2 => ?_) (fun h2 => ?_)
    ·
      refine CW.seq (CW.rg (RL.p rfl (RL.nil (NQ.seq (CW.ret (RQ.seq ?_))))))
      have hno : c.ok = false := by
        rw [hok, decide_eq_false_iff_not]
        intro e
        rw [errI_yes e] at h2; cases h2
      exact RQ.post (res1 rfl rfl) (Split.none _) ⟨by rw [Cf.err, hno]; rfl, rfl, rfl⟩
    ·
      refine CW.skip (NQ.seq (CW.seq (CW.rg (RL.p rfl (RL.nil (NQ.seq (CW.ret ?_)))))))
      have hyes : c.ok = true := by
        rw [hok, decide_eq_true_eq]
        exact errI_0.1 (by simpa using h2)
      exact RQ.post (res1 rfl rfl) (Split.none _) ⟨by rw [Cf.err, hyes]; rfl, rfl, rfl⟩
def manyC (L : List Sr) : List Value := (List.range 9).map fun k : Nat => .int .i64 (cnt (k : Int) L)
theorem manyC_0 (L : List Sr) : manyC (L.take 0) = [.int .i64 0, .int .i64 0, .int .i64 0, .int .i64 0, .int .i64 0, .int .i64 0, .int .i64 0, .int .i64 0, .int .i64 0] := by simp [manyC, cnt, List.range_succ]
theorem manyC_at {L : List Sr} {k : Nat} (h : k < 9) : (manyC L)[k]? = some (.int .i64 (cnt (k : Int) L)) := by simp [manyC, h]
theorem manyC_snoc {L : List Sr} {i : Nat} {s : Sr} {k : Nat} (hx : L[i]? = some s) (hk : s.kd = (k : Int)) (h9 : k < 9) : spl (manyC (L.take i)) (0 + k * 1) [.int .i64 (cnt (k : Int) (L.take i) + 1)] = manyC (L.take (i + 1)) := by
  have e : ∀ j : Int, cnt j (L.take (i + 1)) = cnt j (L.take i) + if (k : Int) = j then 1 else 0 := fun j => by rw [cnt_snoc hx, hk]
  match k, h9, e with
  | 0, _, e => simp [manyC, List.range_succ, spl, e]
  | 1, _, e => simp [manyC, List.range_succ, spl, e]
  | 2, _, e => simp [manyC, List.range_succ, spl, e]
  | 3, _, e => simp [manyC, List.range_succ, spl, e]
  | 4, _, e => simp [manyC, List.range_succ, spl, e]
  | 5, _, e => simp [manyC, List.range_succ, spl, e]
  | 6, _, e => simp [manyC, List.range_succ, spl, e]
  | 7, _, e => simp [manyC, List.range_succ, spl, e]
  | 8, _, e => simp [manyC, List.range_succ, spl, e]
theorem rcheck_any (c : Cf) (oa : Option Nat) (ca n : Nat) (hn : c.L.length = n) (hc : c.Fit) (hl : n ≤ 1000000) :
    Spc Try.prog 17 #[.agg (c.cells (slO oa n ca)).toArray] [sls (oa.map fun b => ⟨b, 0, none⟩) 48 n (c.L.flatMap Sr.cells)] [] (Is (.int .i64 c.err)) := by
  subst hn
  have hal := adsOf_len c.L
  have hLl : ∀ s ∈ c.L, s.cells.length = 48 := fun s hs => sr_len (hc.L s hs).rt
  refine Spc.enter Try.func17 rfl rfl rfl (fun w0 hw0 => ?_)
  refine CW.seq (CW.region (ef := [0]) (bk := []) (RL.box rfl rfl rfl rfl rfl rfl ?_))
  intro b1
  refine RL.p rfl (RL.nil (NQ.seq (CW.seq (CW.seq (CW.freezeP (A := [cel b1 (c.cells (slO oa c.L.length ca)) 38]) (B := []) (by repeat (first | exact Pick.nil | apply Pick.take | apply Pick.leave)) rfl ?_)))))
  simp only [List.cons_append, List.nil_append]
  generalize hJ : ([cel b1 (c.cells (slO oa c.L.length ca)) 38, sls (oa.map fun b => ⟨b, 0, none⟩) 48 c.L.length (c.L.flatMap Sr.cells)] : List It) = J
  have m1 : cel b1 (c.cells (slO oa c.L.length ca)) 38 ∈ J := by rw [← hJ]; exact (by repeat (first | exact List.Mem.head _ | apply List.Mem.tail))
  have m2 : sls (oa.map fun b => ⟨b, 0, none⟩) 48 c.L.length (c.L.flatMap Sr.cells) ∈ J := by rw [← hJ]; exact (by repeat (first | exact List.Mem.head _ | apply List.Mem.tail))
  clear hJ
  have fS : RdI J ⟨b1, 0 + 0, none⟩ (slO oa c.L.length ca) := ⟨fun _ => Rd.celI m1 rfl⟩
  have fG : RdsN J ⟨b1, 0 + 1, none⟩ 3 [.int .i64 c.g0, .int .i64 c.g1, .int .i64 c.g2] := RdsN.told m1 (fun j u hj => by
    match j, hj with
    | 0, hj => exact hj
    | 1, hj => exact hj
    | 2, hj => exact hj
    | j + 3, hj => simp at hj) rfl
  have fD : RdI J ⟨b1, 0 + 4, none⟩ (.int .i64 c.dr) := ⟨fun _ => Rd.celI m1 rfl⟩
  have fA : RdsN J ⟨b1, 0, none⟩ 45 (c.cells (slO oa c.L.length ca)) := ⟨fun _ => Rds.allI m1, cf_len hc.cm _⟩
  have fC : RdsN J ⟨b1, 0 + 5, none⟩ 4 [.int .i64 c.sc.st, .int .i64 c.sc.ln, .int .i64 c.sc.lg, .int .i64 c.sc.of] := RdsN.told m1 (fun j u hj => by
    match j, hj with
    | 0, hj => exact hj
    | 1, hj => exact hj
    | 2, hj => exact hj
    | 3, hj => exact hj
    | j + 4, hj => simp at hj) rfl
  have f1 : RdI J ⟨b1, 0 + 41, none⟩ (.int .i64 c.mo) := ⟨fun _ => Rd.getI m1 (cf_t hc.cm _ 0)⟩
  have f2 : RdI J ⟨b1, 0 + 42, none⟩ (.int .i64 c.ti) := ⟨fun _ => Rd.getI m1 (cf_t hc.cm _ 1)⟩
  have f3 : RdI J ⟨b1, 0 + 43, none⟩ (.int .i64 c.gr) := ⟨fun _ => Rd.getI m1 (cf_t hc.cm _ 2)⟩
  have f4 : RdI J ⟨b1, 0 + 44, none⟩ (.int .u64 c.sd) := ⟨fun _ => Rd.getI m1 (cf_t hc.cm _ 3)⟩
  refine CW.rg (RL.fieldAddr fa_38_0 rfl rfl rfl rfl (RL.loadq Try.isAgg35 rfl rfl rfl rfl ?_))
  refine RL.lenS Try.runUnderlying35 rfl rfl rfl rfl (RL.p rfl (RL.p rfl ?_))
  apply RL.orB (d := 14) (dp := 18) (l' := (Sq.of [9, 10, 11, 12, 13, 14, 15, 16, 17, 18, 19, 20, 21, 22, 23, 24])) rfl (sK [1, 2] rfl)
  ·
    intro hb5 K5
    refine RL.fieldAddr fa_38_7 rfl rfl rfl rfl (RL.loadq Try.isAgg3 rfl rfl rfl rfl ?_)
    refine RL.p rfl (RL.p rfl ?_)
    exact K5 _ (.cons rfl (sK [1, 2] rfl))
  ·
    intro hb5 K5
    refine RL.p rfl (RL.p rfl (RL.p rfl (RL.p rfl ?_)))
    exact K5 _ (.cons rfl (sK [1, 2] rfl))
  refine RL.p rfl ?_
  apply RL.orB (d := 19) (dp := 23) (l' := (Sq.of [14, 15, 16, 17, 18, 19, 20, 21, 22, 23, 24])) rfl (sK [1, 2] rfl)
  ·
    intro hb10 K10
    refine RL.fieldAddr fa_38_7 rfl rfl rfl rfl (RL.loadq Try.isAgg3 rfl rfl rfl rfl ?_)
    refine RL.p rfl (RL.p rfl ?_)
    exact K10 _ (.cons rfl (sK [1, 2] rfl))
  ·
    intro hb10 K10
    refine RL.p rfl (RL.p rfl (RL.p rfl (RL.p rfl ?_)))
    exact K10 _ (.cons rfl (sK [1, 2] rfl))
  refine RL.p rfl ?_
  apply RL.orB (d := 24) (dp := 28) (l' := (Sq.of [19, 20, 21, 22, 23, 24])) rfl (sK [1, 2] rfl)
  ·
    intro hb15 K15
    refine RL.fieldAddr fa_38_8 rfl rfl rfl rfl (RL.loadq Try.isAgg31 rfl rfl rfl rfl ?_)
    refine RL.p rfl (RL.p rfl ?_)
    exact K15 _ (.cons rfl (sK [1, 2] rfl))
  ·
    intro hb15 K15
    refine RL.p rfl (RL.p rfl (RL.p rfl (RL.p rfl ?_)))
    exact K15 _ (.cons rfl (sK [1, 2] rfl))
  refine RL.p rfl ?_
  apply RL.orB (d := 29) (dp := 34) (l' := (Sq.of [])) rfl (sK [1, 2] rfl)
  ·
    intro hb20 K20
    refine RL.fieldAddr fa_38_3 rfl rfl rfl rfl (RL.loadSq Try.isAgg36 Try.sizeOf36 rfl rfl rfl rfl ?_)
    refine RL.callvq (rscheck c.sc) Try.call49 rfl rfl rfl rfl ?_
    refine RL.p rfl (RL.p rfl ?_)
    exact K20 _ (.cons rfl (sK [1, 2] rfl))
  ·
    intro hb20 K20
    refine RL.p rfl (RL.p rfl (RL.p rfl (RL.p rfl (RL.p rfl ?_))))
    exact K20 _ (.cons rfl (sK [1, 2] rfl))
  refine RL.nil (NQ.seq ?_)
  refine CW.cond rfl (fun h1 => ?_) (fun h1 => ?_)
  ·
    refine CW.seq (CW.rg (RL.p rfl (RL.nil (NQ.seq (CW.ret (RQ.seq ?_))))))
    have hno : c.ok = false := by
      simp only [Bool.or_eq_true, decide_eq_true_eq, bne_iff_ne, ne_eq, sche_0] at h1
      rw [Bool.eq_false_iff]
      intro h
      simp only [Cf.ok, srcB, Bool.and_eq_true, decide_eq_true_eq] at h
      obtain ⟨⟨⟨⟨⟨a1, a2⟩, a3⟩, a4⟩, a5⟩, a6⟩ := h
      rcases h1 with (((h1 | h1) | h1) | h1) | h1
      · omega
      · omega
      · omega
      · simp at h1; exact a3 h1
      · exact h1 a4
    exact RQ.post (res1 rfl rfl) (Split.none _) ⟨by rw [Cf.err, hno]; rfl, rfl, rfl⟩
  ·
    refine CW.skip (NQ.seq (CW.seq (CW.seq (CW.region (ef := [4]) (bk := []) (RL.fieldAddr fa_38_5 rfl rfl rfl rfl (RL.loadq Try.isAgg3 rfl rfl rfl rfl ?_))))))
    refine RL.fieldAddr fa_38_6 rfl rfl rfl rfl (RL.loadq Try.isAgg3 rfl rfl rfl rfl ?_)
    refine RL.call (rlock_any c.mo c.ti) Try.call50 rfl rfl rfl rfl rfl (by repeat (first | exact Pick.nil | apply Pick.take | apply Pick.leave)) .nil (.inl rfl) ?_
    have h1' : c.L.length ≤ 8 ∧ (0 ≤ c.gr ∧ c.gr ≤ 65535) ∧ c.sd ≠ 0 ∧ c.sc.Ok := by
      simp only [Bool.or_eq_false_iff, decide_eq_false_iff_not, bne_eq_false_iff_eq, sche_0, beq_eq_false_iff_ne] at h1
      obtain ⟨⟨⟨⟨a1, a2⟩, a3⟩, a4⟩, a5⟩ := h1
      exact ⟨by omega, by omega, a4, a5⟩
    rintro _ _ _ ⟨p1, rfl, rfl, rfl⟩
    refine RL.p rfl (RL.p rfl (RL.p rfl (RL.p rfl (RL.p rfl (RL.nil (NQ.seq (CW.ok [1, 2, 4] rfl (CW.seq (CW.rg (RL.p rfl (RL.p rfl (RL.nil (NQ.seq ?_)))))))))))))
    refine CW.cond rfl (fun h2 => ?_) (fun h2 => ?_)
    ·
      refine CW.seq (CW.rg (RL.p rfl (RL.nil (NQ.seq (CW.ret (RQ.seq ?_))))))
      have hno : c.ok = false := by
        rw [Bool.eq_false_iff]
        intro h
        simp only [Cf.ok, srcB, Bool.and_eq_true, decide_eq_true_eq] at h
        obtain ⟨⟨⟨⟨⟨a1, a2⟩, a3⟩, a4⟩, a5⟩, a6⟩ := h
        rw [errI_yes a1] at h2; cases h2
      exact RQ.post (res1 rfl rfl) (Split.none _) ⟨by rw [Cf.err, hno]; rfl, rfl, rfl⟩
    ·
      refine CW.skip (NQ.seq (CW.seq (CW.region (ef := [1, 2]) (bk := [2]) (RL.buildA _ Try.zeroValue124 Try.runUnderlying124 Try.sizeOf3 rfl rfl rfl rfl rfl (RL.alloc Try.zeroValue124 rfl rfl rfl rfl rfl ?_)))))
      intro b2
      refine RL.store (vs := [_, _, _, _, _, _, _, _, _]) Try.sizeOf124 rfl rfl rfl rfl rfl rfl rfl rfl rfl (by repeat (first | exact Upd.here | apply Upd.there)) ?_
      refine RL.nil (NQ.seq (CW.seq (CW.seq (CW.rg (RL.p rfl (RL.nil (NQ.seq (CW.block ?_))))))))
      have h2' := errI_0.1 (by simpa using h2)
      refine CW.loop (γ := Nat) (fun i => i ≤ c.L.length ∧ (∀ j < i, stepS c.L j = true)) (fun i => [(1, .pointer (some ⟨b1, 0, none⟩)), (5, .pointer (some ⟨b2, 0, none⟩)), (6, .int .i64 (i : Int))]) (fun _ => J) (fun i => [cel b2 (manyC (c.L.take i)) 124]) (fun i => c.L.length - i) 0 ⟨Nat.zero_le _, fun j h => by omega⟩ (.cons rfl (.cons rfl (.cons rfl .nil))) (fun w h => by rw [manyC_0]; exact h.rea (fun _ h => by simpa using h) (by repeat (first | exact Rea.nil | (apply Rea.cons; (solve | (repeat (first | exact Del.here | apply Del.there))))))) ?_
      rintro i ⟨hi, hok⟩
      refine CW.fact (p := oa = none → c.L.length = 0) (fun w hC e => sls_nil (hC.s.i _ m2) (by rw [e]; rfl)) (fun hpa => ?_)
      refine CW.seq (CW.seq (CW.rg (RL.p rfl (RL.fieldAddr fa_38_0 rfl rfl rfl rfl (RL.loadq Try.isAgg35 rfl rfl rfl rfl ?_)))))
      refine RL.lenS Try.runUnderlying35 rfl rfl rfl rfl (RL.p rfl (RL.nil (NQ.seq ?_)))
      refine CW.cond rfl (fun hlt => ?_) (fun hlt => ?_)
      ·
        have hlt : i < c.L.length := by simp at hlt; omega
        cases oa with
        | none => exact absurd (hpa rfl) (by omega)
        | some ba =>
        have hx := List.getElem?_eq_getElem hlt
        generalize c.L[i] = s at hx
        have hs := hc.L s (List.mem_of_getElem? hx)
        have hsl := hLl s (List.mem_of_getElem? hx)
        have hlp : i - 1 < c.L.length := by omega
        have hp := List.getElem?_eq_getElem hlp
        generalize c.L[i - 1] = q at hp
        have fE : RdsN J ⟨ba, 0 + i * 48, none⟩ 48 s.cells := flat_rdsN (f := Sr.cells) m2 hx hLl
        refine CW.skip (NQ.seq (CW.seq (CW.block (CW.seq (CW.region (ef := [5, 6]) (bk := [6]) (RL.fieldAddr fa_38_0 rfl rfl rfl rfl (RL.loadq Try.isAgg35 rfl rfl rfl rfl ?_)))))))
        refine RL.p rfl (RL.idxAt (j := i) Try.runUnderlying35 Try.sizeOf46 rfl rfl rfl rfl rfl rfl (hlt) (RL.loadSq Try.isAgg46 Try.sizeOf46 rfl rfl rfl rfl ?_))
        refine RL.alloc Try.zeroValue46 rfl rfl rfl rfl rfl ?_
        intro b3
        refine RL.storeW Try.sizeOf46 rfl rfl rfl rfl rfl rfl rfl (sr_ones s) (by repeat (first | exact Upd.here | apply Upd.there)) hsl rfl ?_
        refine RL.nil (NQ.seq (CW.ok [1, 5, 6, 7] rfl (CW.seq (CW.seq (CW.freezeP (A := [cel b3 s.cells 46]) (B := [cel b2 (manyC (c.L.take i)) 124]) (by repeat (first | exact Pick.nil | apply Pick.take | apply Pick.leave)) rfl ?_)))))
        refine CW.genI (fun J2 hJ => ?_)
        have hJ2 : ∀ x ∈ J, x ∈ J2 := fun x hx => hJ x (by simp [hx])
        have mA : cel b3 s.cells 46 ∈ J2 := hJ _ (List.Mem.head _)
        have s0 : RdI J2 ⟨b3, 0 + 0, none⟩ (.int .i64 s.id) := ⟨fun _ => Rd.celI mA rfl⟩
        have s1 : RdI J2 ⟨b3, 0 + 1, none⟩ (.int .i64 s.kd) := ⟨fun _ => Rd.celI mA rfl⟩
        have sW : RdsN J2 ⟨b3, 0 + 38, none⟩ 10 s.wt.cells := RdsN.told mA (fun j u hj => by rw [sr_w hs.rt]; exact hj) rfl
        have fP : RdI J2 ⟨ba, 0 + (i - 1) * 48 + 0, none⟩ (.int .i64 q.id) := flat_rdI (f := Sr.cells) (hJ2 _ m2) hp hLl rfl
        have fS2 : RdI J2 ⟨b1, 0 + 0, none⟩ (slO (some ba) c.L.length ca) := ⟨fun _ => Rd.celI (hJ2 _ m1) rfl⟩
        clear fE hJ fS fG fD fA fC f1 f2 f3 f4
        refine CW.regionD (Sq.of [0, 1, 2, 3, 4, 5, 6, 7, 8, 9, 10, 11, 12, 13, 14, 15, 16, 17, 18, 19, 20, 21, 22, 23, 24, 25, 26, 27, 28, 29, 30, 31, 32, 33, 34, 35, 36, 37, 38, 39, 40, 41, 42, 43]) [] [] [0, 1, 2, 3, 4, 5, 6, 7, 8, 9, 10, 11, 12, 13, 14, 15, 16, 17, 18, 19, 20, 21, 22, 23, 24, 25, 26, 27, 28, 29, 30, 31, 32, 33, 34, 35, 36, 37, 38, 39, 40, 41, 42, 43] mixed (by kernel_rfl) ?_
        refine RL.fieldAddr fa_46_0 rfl rfl rfl rfl (RL.loadTq Try.isAgg3 rfl rfl rfl rfl ?_)
        refine RL.p rfl (RL.p rfl ?_)
        apply RL.orB (d := 61) (dp := 65) (l' := (Sq.of [8, 9, 10, 11, 12, 13, 14, 15, 16, 17, 18, 19, 20, 21, 22, 23, 24, 25, 26, 27, 28, 29, 30, 31, 32, 33, 34, 35, 36, 37, 38, 39, 40, 41, 42, 43])) rfl (sK [1, 5, 6, 7] rfl)
        ·
          intro hb4 K4
          refine RL.fieldAddr fa_46_0 rfl rfl rfl rfl (RL.loadTq Try.isAgg3 rfl rfl rfl rfl ?_)
          refine RL.p rfl (RL.p rfl ?_)
          exact K4 _ (.cons rfl (sK [1, 5, 6, 7] rfl))
        ·
          intro hb4 K4
          refine RL.p rfl (RL.p rfl (RL.p rfl (RL.p rfl ?_)))
          exact K4 _ (.cons rfl (sK [1, 5, 6, 7] rfl))
        refine RL.p rfl ?_
        apply RL.orB (d := 66) (dp := 81) (l' := (Sq.of [24, 25, 26, 27, 28, 29, 30, 31, 32, 33, 34, 35, 36, 37, 38, 39, 40, 41, 42, 43])) rfl (sK [1, 5, 6, 7] rfl)
        ·
          intro hb9 K9
          refine RL.p rfl (RL.p rfl (RL.p rfl ?_))
          apply RL.andB (d := 69) (dp := 80) (l' := (Sq.of [23, 24, 25, 26, 27, 28, 29, 30, 31, 32, 33, 34, 35, 36, 37, 38, 39, 40, 41, 42, 43])) rfl (sK [1, 5, 6, 7, 66] rfl)
          ·
            intro hb12 K12
            refine RL.fieldAddr fa_46_0 rfl rfl rfl rfl (RL.loadTq Try.isAgg3 rfl rfl rfl rfl ?_)
            refine RL.fieldAddr fa_38_0 rfl rfl rfl rfl (RL.loadTq Try.isAgg35 rfl rfl rfl rfl ?_)
            refine RL.p rfl (RL.bx rfl (wrapV_i64 (by omega) (by omega)) ?_)
            refine RL.cast (d := 75) (v' := .int .i64 ((i - 1 : Nat) : Int)) rfl (by have h0 := of_decide_eq_true ‹decide ((i : Int) > 0) = true›; congr 1; omega) ?_
            refine RL.idxAt (j := i - 1) Try.runUnderlying35 Try.sizeOf46 rfl rfl rfl rfl rfl rfl hlp (RL.fieldAddr fa_46_0 rfl rfl rfl rfl (RL.loadTq Try.isAgg3 rfl rfl rfl rfl ?_))
            refine RL.p rfl (RL.p rfl ?_)
            exact K12 _ (.cons rfl (sK [1, 5, 6, 7, 66] rfl))
          ·
            intro hb12 K12
            refine RL.p rfl (RL.p rfl (RL.p rfl (RL.p rfl (RL.p rfl (RL.p rfl (RL.p rfl (RL.p rfl (RL.p rfl (RL.p rfl (RL.p rfl ?_))))))))))
            exact K12 _ (.cons rfl (sK [1, 5, 6, 7, 66] rfl))
          refine RL.p rfl ?_
          exact K9 _ (.cons rfl (sK [1, 5, 6, 7] rfl))
        ·
          intro hb9 K9
          refine RL.p rfl (RL.p rfl (RL.p rfl (RL.p rfl (RL.p rfl (RL.p rfl (RL.p rfl (RL.p rfl (RL.p rfl (RL.p rfl (RL.p rfl (RL.p rfl (RL.p rfl (RL.p rfl ?_)))))))))))))
          refine RL.p rfl ?_
          exact K9 _ (.cons rfl (sK [1, 5, 6, 7] rfl))
        refine RL.p rfl ?_
        apply RL.orB (d := 82) (dp := 86) (l' := (Sq.of [29, 30, 31, 32, 33, 34, 35, 36, 37, 38, 39, 40, 41, 42, 43])) rfl (sK [1, 5, 6, 7] rfl)
        ·
          intro hb25 K25
          refine RL.fieldAddr fa_46_1 rfl rfl rfl rfl (RL.loadTq Try.isAgg3 rfl rfl rfl rfl ?_)
          refine RL.p rfl (RL.p rfl ?_)
          exact K25 _ (.cons rfl (sK [1, 5, 6, 7] rfl))
        ·
          intro hb25 K25
          refine RL.p rfl (RL.p rfl (RL.p rfl (RL.p rfl ?_)))
          exact K25 _ (.cons rfl (sK [1, 5, 6, 7] rfl))
        refine RL.p rfl ?_
        apply RL.orB (d := 87) (dp := 91) (l' := (Sq.of [34, 35, 36, 37, 38, 39, 40, 41, 42, 43])) rfl (sK [1, 5, 6, 7] rfl)
        ·
          intro hb30 K30
          refine RL.fieldAddr fa_46_1 rfl rfl rfl rfl (RL.loadTq Try.isAgg3 rfl rfl rfl rfl ?_)
          refine RL.p rfl (RL.p rfl ?_)
          exact K30 _ (.cons rfl (sK [1, 5, 6, 7] rfl))
        ·
          intro hb30 K30
          refine RL.p rfl (RL.p rfl (RL.p rfl (RL.p rfl ?_)))
          exact K30 _ (.cons rfl (sK [1, 5, 6, 7] rfl))
        refine RL.p rfl ?_
        apply RL.orB (d := 92) (dp := 96) (l' := (Sq.of [39, 40, 41, 42, 43])) rfl (sK [1, 5, 6, 7] rfl)
        ·
          intro hb35 K35
          refine RL.fieldAddr fa_46_1 rfl rfl rfl rfl (RL.loadTq Try.isAgg3 rfl rfl rfl rfl ?_)
          refine RL.p rfl (RL.p rfl ?_)
          exact K35 _ (.cons rfl (sK [1, 5, 6, 7] rfl))
        ·
          intro hb35 K35
          refine RL.p rfl (RL.p rfl (RL.p rfl (RL.p rfl ?_)))
          exact K35 _ (.cons rfl (sK [1, 5, 6, 7] rfl))
        refine RL.p rfl ?_
        apply RL.orB (d := 97) (dp := 101) (l' := (Sq.of [])) rfl (sK [1, 5, 6, 7] rfl)
        ·
          intro hb40 K40
          refine RL.fieldAddr fa_46_1 rfl rfl rfl rfl (RL.loadTq Try.isAgg3 rfl rfl rfl rfl ?_)
          refine RL.p rfl (RL.p rfl ?_)
          exact K40 _ (.cons rfl (sK [1, 5, 6, 7] rfl))
        ·
          intro hb40 K40
          refine RL.p rfl (RL.p rfl (RL.p rfl (RL.p rfl ?_)))
          exact K40 _ (.cons rfl (sK [1, 5, 6, 7] rfl))
        refine RL.nil (NQ.seq ?_)
        refine CW.cond rfl (fun h3 => ?_) (fun h3 => ?_)
        ·
          refine CW.seq (CW.rg (RL.p rfl (RL.nil (NQ.seq (CW.ret (RQ.seq (RQ.block (RQ.seq (RQ.seq (RQ.block (RQ.seq ?_)))))))))))
          have hno : c.ok = false := by
            rw [Bool.eq_false_iff]
            intro h
            simp only [Cf.ok, srcB, Bool.and_eq_true, decide_eq_true_eq] at h
            have h4 := srsB_iff.1 h.1.2.1.1 i
            rw [stepS_at hx] at h4
            simp [Sr.ok] at h4
            simp only [Bool.or_eq_true, Bool.and_eq_true, decide_eq_true_eq, beq_iff_eq] at h3
            have h5 : 1 ≤ s.kd ∧ s.kd ≤ 8 ∧ s.kd ≠ 6 ∧ s.kd ≠ 7 := by
              have := h4.1.2
              split at this <;> omega
            by_cases hi0 : 0 < i
            · rw [wasS_prev hp hi0] at h4; omega
            · omega
          exact RQ.post (res1 rfl rfl) (Split.none _) ⟨by rw [Cf.err, hno]; rfl, rfl, rfl⟩
        ·
          have h3' : (0 ≤ s.id ∧ s.id ≤ 7) ∧ wasS c.L i < s.id ∧ 1 ≤ s.kd ∧ s.kd ≤ 8 ∧ s.kd ≠ 6 ∧ s.kd ≠ 7 := by
            simp only [Bool.or_eq_false_iff, Bool.and_eq_false_iff, decide_eq_false_iff_not, beq_eq_false_iff_ne] at h3
            by_cases hi0 : 0 < i
            · rw [wasS_prev hp hi0]; omega
            · obtain rfl : i = 0 := by omega
              rw [wasS]; omega
          obtain ⟨k, hk, hk9⟩ : ∃ k : Nat, s.kd = (k : Int) ∧ k < 9 := ⟨s.kd.toNat, by omega, by omega⟩
          have s1k : RdI J2 ⟨b3, 0 + 1, none⟩ (.int .i64 (k : Int)) := by rw [← hk]; exact s1
          clear s1
          have hcb := cnt_bd (k : Int) (c.L.take i)
          rw [List.length_take] at hcb
          have hsn := manyC_snoc hx hk hk9
          have hfit : (0 + k * 1 + [Value.int .i64 (cnt (k : Int) (c.L.take i) + 1)].length).ble (manyC (c.L.take i)).length = true := by
            rw [Nat.ble_eq]; show 0 + k * 1 + 1 ≤ 9; omega
          refine CW.skip (NQ.seq (CW.seq (CW.region (ef := [6]) (bk := [6]) (RL.fieldAddr fa_46_1 rfl rfl rfl rfl (RL.loadq Try.isAgg3 rfl rfl rfl rfl ?_)))))
          refine RL.idxAAt (j := k) Try.runUnderlying124 Try.sizeOf3 rfl rfl rfl rfl rfl rfl hk9 (RL.load Try.isAgg3 rfl rfl rfl rfl (Rd.get (by repeat (first | exact List.Mem.head _ | apply List.Mem.tail)) (by rw [show 0 + k * 1 = k by omega]; exact manyC_at hk9)) ?_)
          refine RL.bx rfl (wrapV_i64 (by omega) (by omega)) ?_
          refine RL.idxAAt (j := k) Try.runUnderlying124 Try.sizeOf3 rfl rfl rfl rfl rfl rfl hk9 (RL.store Try.sizeOf3 rfl rfl rfl rfl rfl rfl rfl rfl hfit (by repeat (first | exact Upd.here | apply Upd.there)) ?_)
          refine RL.nil (NQ.seq (CW.ok [1, 5, 6, 7] rfl (CW.seq (CW.region (ef := [2]) (bk := []) (RL.fieldAddr fa_46_7 rfl rfl rfl rfl (RL.loadSq Try.isAgg44 Try.sizeOf44 rfl rfl rfl rfl ?_))))))
          refine RL.call (rwatch_any s.wt) Try.call51 rfl rfl rfl rfl rfl (by repeat (first | exact Pick.nil | apply Pick.take | apply Pick.leave)) .nil (.inl rfl) ?_
          rintro _ _ _ ⟨pw, rfl, rfl, rfl⟩
          refine RL.p rfl (RL.p rfl (RL.p rfl (RL.p rfl (RL.p rfl (RL.nil (NQ.seq (CW.ok [1, 5, 6, 7, 9] rfl (CW.seq (CW.rg (RL.fieldAddr fa_46_1 rfl rfl rfl rfl (RL.loadq Try.isAgg3 rfl rfl rfl rfl ?_)))))))))))
          refine RL.callvq (raid_any (k : Int)) Try.call41 rfl rfl rfl rfl ?_
          refine RL.p rfl ?_
          apply RL.andB (d := 117) (dp := 120) (l' := (Sq.of [])) rfl (sK [1, 5, 6] rfl)
          ·
            intro hb4 K4
            refine RL.p rfl (RL.p rfl (RL.p rfl ?_))
            exact K4 _ (.cons rfl (sK [1, 5, 6] rfl))
          ·
            intro hb4 K4
            refine RL.p rfl (RL.p rfl (RL.p rfl ?_))
            exact K4 _ (.cons rfl (sK [1, 5, 6] rfl))
          refine RL.nil (NQ.seq ?_)
          refine CW.cond rfl (fun h4 => ?_) (fun h4 => ?_)
          ·
            refine CW.seq (CW.rg (RL.p rfl (RL.nil (NQ.seq (CW.ret (RQ.block (RQ.seq (RQ.seq (RQ.block (RQ.seq ?_))))))))))
            have hno : c.ok = false := by
              rw [Bool.eq_false_iff]
              intro h
              simp only [Cf.ok, srcB, Bool.and_eq_true, decide_eq_true_eq] at h
              have h5 := srsB_iff.1 h.1.2.1.1 i
              rw [stepS_at hx] at h5
              simp [Sr.ok] at h5
              simp only [aidB, Bool.and_eq_true, decide_eq_true_eq, bne_iff_ne, ne_eq, errI_0] at h4
              rw [← hk] at h4
              rw [if_pos h4.1] at h5
              exact h4.2 h5.1.2
            exact RQ.post (res1 rfl rfl) (Split.none _) ⟨by rw [Cf.err, hno]; rfl, rfl, rfl⟩
          ·
            have hst : stepS c.L i = true := by
              rw [stepS_at hx]
              simp [Sr.ok]
              simp only [aidB, Bool.and_eq_false_iff, decide_eq_false_iff_not, bne_eq_false_iff_eq, errI_0] at h4
              rw [← hk] at h4
              refine ⟨⟨h3'.1, ?_⟩, h3'.2.1⟩
              by_cases h6 : 2 ≤ s.kd ∧ s.kd ≤ 5
              · rw [if_pos h6]; exact h4.resolve_left (fun h => h h6)
              · rw [if_neg h6]; omega
            refine CW.skip (NQ.block (NQ.seq (CW.rg (RL.p rfl (RL.bx rfl (wrapV_i64 (by omega) (by omega)) ?_)))))
            refine RL.p rfl (RL.nil ?_)
            refine NQ.round (g := i) (i + 1) ⟨hlt, fun j hj => ?_⟩ (by show c.L.length - (i + 1) < c.L.length - i; omega) (.cons rfl (.cons rfl (.cons rfl .nil))) (fun w h => by rw [← hsn]; exact h.rea (fun _ h => by simpa using hJ2 _ h) (by repeat (first | exact Rea.nil | (apply Rea.cons; (solve | (repeat (first | exact Del.here | apply Del.there)))))))
            rcases Nat.lt_succ_iff_lt_or_eq.1 hj with hj | rfl
            · exact hok j hj
            · exact hst
      ·
        have hin : i = c.L.length := by simp at hlt; omega
        subst hin
        rw [List.take_length]
        refine CW.exit (XQ.seq (XQ.seq (XQ.hit (NQ.seq (CW.ok [1, 5] rfl (CW.seq (CW.seq (CW.region (ef := [15, 16]) (bk := []) (RL.idxAAt (j := 1) Try.runUnderlying124 Try.sizeOf3 rfl rfl rfl rfl rfl rfl (by decide) ?_)))))))))
        refine RL.load Try.isAgg3 rfl rfl rfl rfl (Rd.get (by repeat (first | exact List.Mem.head _ | apply List.Mem.tail)) (manyC_at (k := 1) (by decide))) ?_
        refine RL.p rfl (RL.p rfl ?_)
        apply RL.orB (d := 124) (dp := 128) (l' := (Sq.of [8, 9, 10, 11, 12, 13, 14, 15, 16, 17, 18])) rfl (sK [1, 5] rfl)
        ·
          intro hb4 K4
          refine RL.idxAAt (j := 5) Try.runUnderlying124 Try.sizeOf3 rfl rfl rfl rfl rfl rfl (by decide) ?_
          refine RL.load Try.isAgg3 rfl rfl rfl rfl (Rd.get (by repeat (first | exact List.Mem.head _ | apply List.Mem.tail)) (manyC_at (k := 5) (by decide))) ?_
          refine RL.p rfl (RL.p rfl ?_)
          exact K4 _ (.cons rfl (sK [1, 5] rfl))
        ·
          intro hb4 K4
          refine RL.p rfl (RL.p rfl (RL.p rfl (RL.p rfl ?_)))
          exact K4 _ (.cons rfl (sK [1, 5] rfl))
        refine RL.p rfl ?_
        apply RL.orB (d := 129) (dp := 133) (l' := (Sq.of [13, 14, 15, 16, 17, 18])) rfl (sK [1] rfl)
        ·
          intro hb9 K9
          refine RL.idxAAt (j := 8) Try.runUnderlying124 Try.sizeOf3 rfl rfl rfl rfl rfl rfl (by decide) ?_
          refine RL.load Try.isAgg3 rfl rfl rfl rfl (Rd.get (by repeat (first | exact List.Mem.head _ | apply List.Mem.tail)) (manyC_at (k := 8) (by decide))) ?_
          refine RL.p rfl (RL.p rfl ?_)
          exact K9 _ (.cons rfl (sK [1] rfl))
        ·
          intro hb9 K9
          refine RL.p rfl (RL.p rfl (RL.p rfl (RL.p rfl ?_)))
          exact K9 _ (.cons rfl (sK [1] rfl))
        refine RL.p rfl ?_
        refine RL.part (d := 134) rfl (fun h3 => ?_) (fun h3 => ?_)
        ·
          refine RL.p rfl (RL.p rfl (RL.p rfl (RL.p rfl (RL.p rfl (RL.nil (NQ.seq (CW.ok [139] rfl (CW.condT rfl rfl (CW.seq (CW.rg (RL.p rfl (RL.nil (NQ.seq ?_)))))))))))))
          refine CW.ret (RQ.seq ?_)
          have hno : c.ok = false := by
            rw [Bool.eq_false_iff]
            intro h
            simp only [Cf.ok, srcB, manyB, Bool.and_eq_true, decide_eq_true_eq] at h
            simp at h3
            omega
          exact RQ.post (res1 rfl rfl) (Split.none _) ⟨by rw [Cf.err, hno]; rfl, rfl, rfl⟩
        ·
          refine RL.loadSq Try.isAgg38 Try.sizeOf38 rfl rfl rfl rfl ?_
          refine RL.call (rsnav_any c oa ca _ rfl hc.cm hc.L hl) Try.call20 rfl rfl rfl rfl rfl (by repeat (first | exact Pick.nil | apply Pick.take | apply Pick.leave)) (.inI m2 .nil) (.inl rfl) ?_
          have h3' : manyB c.L = true := by
            simp at h3
            simp [manyB]
            omega
          have hok' : c.ok = decide (0 ≤ c.dr ∧ (adsOf c.L).length ≤ 8 ∧ adsB (adsOf c.L) = true) := by
            simp [Cf.ok, srcB, h1', h2', h3', srsB_of hok]
          rintro _ _ _ ⟨oN, cN, rfl, rfl, rfl⟩
          refine RL.call (rnav_any c.g0 c.g1 c.g2 c.dr oN cN _ (adsOf c.L) rfl (by omega)) Try.call52 rfl rfl rfl rfl rfl (by repeat (first | exact Pick.nil | apply Pick.take | apply Pick.leave)) (.own (by repeat (first | exact List.Mem.head _ | apply List.Mem.tail)) .nil) (.inl rfl) ?_
          rintro _ _ _ ⟨rfl, rfl, rfl⟩
          refine RL.p rfl (RL.p rfl (RL.nil (NQ.seq (CW.ok [139] rfl ?_))))
          refine CW.cond rfl (fun h4 => ?_) (fun h4 => ?_)
          ·
            refine CW.seq (CW.rg (RL.p rfl (RL.nil (NQ.seq (CW.ret (RQ.seq ?_))))))
            have hno : c.ok = false := by
              rw [hok', decide_eq_false_iff_not]
              intro e
              rw [errI_yes e] at h4; cases h4
            exact RQ.post (res1 rfl rfl) (Split.none _) ⟨by rw [Cf.err, hno]; rfl, rfl, rfl⟩
          ·
            refine CW.skip (NQ.seq (CW.seq (CW.rg (RL.p rfl (RL.nil (NQ.seq (CW.ret ?_)))))))
            have hyes : c.ok = true := by
              rw [hok', decide_eq_true_eq]
              exact errI_0.1 (by simpa using h4)
            exact RQ.post (res1 rfl rfl) (Split.none _) ⟨by rw [Cf.err, hyes]; rfl, rfl, rfl⟩
end Go.Proofs.Ytbdnebedmdoehaa
