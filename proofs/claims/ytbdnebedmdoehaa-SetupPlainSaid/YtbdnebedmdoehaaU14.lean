import Derived.Test.YtbdnebedmdoehaaU13
import Derived.Test.YtbdnebedmdoehaaSameInts
namespace Go.Proofs.Ytbdnebedmdoehaa
open Go.PK
/-! ### same, Kinds -/
theorem eq_vec (d : Nat) (a b c : Int) (w : World) : (Op.equalIn (d + 2) 26 (.agg #[.int .i64 a, .int .i64 b, .int .i64 c]) (.agg #[.int .i64 a, .int .i64 b, .int .i64 c])).run Try.prog w = .ok true w := by
  obtain ⟨ii, hi⟩ : ∃ ii, Try.prog.info? 24 = some ii := by
    cases hx : Try.prog.info? 24 with
    | some ii => exact ⟨ii, rfl⟩
    | none => exact absurd (congrArg Option.isSome hx) (by rw [show (Try.prog.info? 24).isSome = true from by kernel_rfl]; decide)
  rw [run_equalIn_array (P := Try.prog) w (d + 1) (n := 3) (e := 24) _ _ (by kernel_rfl) hi, show Try.prog.cellsOf 24 = 1 from by kernel_rfl]
  have p : ∀ (j : Nat) (n : Int), ([Value.int .i64 a, .int .i64 b, .int .i64 c] : List Value)[j]? = some (.int .i64 n) → (Go.part 24 #[.int .i64 a, .int .i64 b, .int .i64 c] j).run Try.prog w = .ok (.int .i64 n) w := fun j n h => part_s (cs := [Value.int .i64 a, .int .i64 b, .int .i64 c]) Try.isAgg24 h w
  have e := fun n => eq_i64 (P := Try.prog) Try.runUnderlying24 d n w
  simp [Op.eqItems, List.range_succ, p 0 a rfl, p 1 b rfl, p 2 c rfl, e]
theorem neqs_vec (a b c : Int) (x y : Operand) (w : World) : (do eqGuard .neq 26 x y (.agg #[.int .i64 a, .int .i64 b, .int .i64 c]) (.agg #[.int .i64 a, .int .i64 b, .int .i64 c]); binOp .neq 26 (.agg #[.int .i64 a, .int .i64 b, .int .i64 c]) (.agg #[.int .i64 a, .int .i64 b, .int .i64 c]) : Sem Value).run Try.prog w = .ok (.bool false) w := by
  simp [run_eqGuard_agg, run_neq_struct, eq_vec 9998 a b c w]
def kindsL (n : Int) : List Int := if 1 ≤ n ∧ n ≤ 4 then [n, 10] else if n = 8 then [7, 8, 9, 10, 11, 12] else []
def KnR (n : Int) : Value → List It → List It → Prop := fun v I' H' => ∃ ob cap, v = slO ob (kindsL n).length cap ∧ I' = [] ∧ H' = [own ob cap 3 1 (kindsL n).length (ints (kindsL n))]
theorem kinds_a {n : Int} (h : 1 ≤ n ∧ n ≤ 4) : kindsL n = [n, 10] := by rw [kindsL, if_pos h]
theorem kinds_8 : kindsL 8 = [7, 8, 9, 10, 11, 12] := rfl
theorem kinds_no {n : Int} (h : ¬ (1 ≤ n ∧ n ≤ 4)) (h8 : n ≠ 8) : kindsL n = [] := by rw [kindsL, if_neg h, if_neg h8]
theorem kinds_any (n : Int) : Spc Try.prog 25 #[.int .i64 n] [] [] (KnR n) := by
  refine Spc.enter Try.func25 rfl rfl rfl (fun w0 hw0 => ?_)
  refine CW.seq (CW.rg (RL.p rfl (RL.nil (NQ.seq (CW.seq (CW.seq (CW.rg (RL.p rfl (RL.nil (NQ.seq (CW.block (CW.seq (CW.seq ?_)))))))))))))
  refine CW.rg (RL.p rfl (RL.p rfl (RL.nil (NQ.seq ?_))))
  refine CW.cutG (γ := Unit) (fun _ => True) (fun _ => [(0, .int .i64 n), (3, .int .i64 n), (4, .bool (decide (1 ≤ n ∧ n ≤ 4)))]) (fun _ => []) (fun _ => []) ?_ ?_
  ·
    refine CW.cond rfl (fun h1 => ?_) (fun h1 => ?_)
    ·
      refine CW.skip ?_
      exact NQ.midG () trivial (.cons rfl (.cons rfl (.cons ((congrArg (fun b => some (Value.bool b)) h1).trans (by rw [decide_eq_true (by simp at h1; omega)])) .nil))) (fun w h => h)
    ·
      refine CW.seq (CW.rg (RL.p rfl (RL.p rfl (RL.nil (NQ.seq ?_)))))
      refine CW.cond rfl (fun h2 => ?_) (fun h2 => ?_)
      ·
        refine CW.skip ?_
        exact NQ.midG () trivial (.cons rfl (.cons rfl (.cons ((congrArg (fun b => some (Value.bool b)) h2).trans (by rw [decide_eq_true (by simp at h2; omega)])) .nil))) (fun w h => h)
      ·
        refine CW.seq (CW.rg (RL.p rfl (RL.p rfl (RL.nil (NQ.seq ?_)))))
        refine CW.cond rfl (fun h3 => ?_) (fun h3 => ?_)
        ·
          refine CW.skip ?_
          exact NQ.midG () trivial (.cons rfl (.cons rfl (.cons ((congrArg (fun b => some (Value.bool b)) h3).trans (by rw [decide_eq_true (by simp at h3; omega)])) .nil))) (fun w h => h)
        ·
          refine CW.rg (RL.p rfl (RL.p rfl (RL.nil ?_)))
          refine NQ.midG () trivial (.cons rfl (.cons rfl (.cons (congrArg (fun b => some (Value.bool b)) ?_) .nil))) (fun w h => h)
          rw [Bool.eq_iff_iff]
          simp at h1 h2 h3 ⊢
          omega
  rintro ⟨⟩ -
  refine CW.cond rfl (fun h => ?_) (fun h => ?_)
  ·
    refine CW.seq (CW.region (ef := [1]) (bk := []) (RL.p rfl (RL.buildOwn [.int .i64 n, .int .i64 10] Try.runUnderlying22 Try.sizeOf3 Try.zeroValue3 rfl rfl (by decide) (by decide) rfl (by decide) rfl rfl rfl rfl rfl rfl ?_)))
    intro bq
    refine RL.p rfl (RL.nil (NQ.seq (CW.ret (RQ.block (RQ.seq ?_)))))
    have h : 1 ≤ n ∧ n ≤ 4 := by simpa using h
    refine RQ.post (res1 rfl rfl) (.keep (Split.none _)) ?_
    exact ⟨some bq, 2, by rw [kinds_a h]; rfl, rfl, by rw [kinds_a h]; rfl⟩
  ·
    refine CW.seq (CW.rg (RL.p rfl (RL.p rfl (RL.nil (NQ.seq ?_)))))
    have h : ¬ (1 ≤ n ∧ n ≤ 4) := by simpa using h
    refine CW.cond rfl (fun h8 => ?_) (fun h8 => ?_)
    ·
      refine CW.seq (CW.region (ef := [0]) (bk := []) (RL.buildOwn [.int .i64 7, .int .i64 8, .int .i64 9, .int .i64 10, .int .i64 11, .int .i64 12] Try.runUnderlying22 Try.sizeOf3 Try.zeroValue3 rfl rfl (by decide) (by decide) rfl (by decide) rfl rfl rfl rfl rfl rfl ?_))
      intro bq
      refine RL.p rfl (RL.nil (NQ.seq (CW.ok [2] rfl (CW.ret (RQ.block (RQ.seq ?_))))))
      have h8 : n = 8 := by simpa using h8
      subst h8
      exact RQ.post (res1 rfl rfl) (.keep (Split.none _)) ⟨some bq, 6, rfl, rfl, rfl⟩
    ·
      refine CW.skip (NQ.block (NQ.seq (CW.seq (CW.rg (RL.p rfl (RL.nil (NQ.seq (CW.ret ?_))))))))
      have h8 : n ≠ 8 := by simpa using h8
      refine RQ.ownNone (e := 3) 1 ?_
      exact RQ.post (res1 rfl rfl) (.keep (Split.none _)) ⟨none, 0, by rw [kinds_no h h8]; rfl, rfl, by rw [kinds_no h h8]; rfl⟩
theorem rkinds_any (n : Int) : Spc Try.prog 26 #[.int .i64 n] [] [] (KnR n) := by
  refine Spc.enter Try.func26 rfl rfl rfl (fun w0 hw0 => ?_)
  refine CW.seq (CW.rg (RL.p rfl (RL.nil (NQ.seq (CW.seq (CW.rg (RL.p rfl (RL.nil (NQ.seq (CW.block (CW.seq (CW.seq (CW.rg ?_)))))))))))))
  refine RL.p rfl (RL.p rfl (RL.nil (NQ.seq ?_)))
  refine CW.cutG (γ := Unit) (fun _ => True) (fun _ => [(0, .int .i64 n), (3, .int .i64 n), (4, .bool (decide (1 ≤ n ∧ n ≤ 4)))]) (fun _ => []) (fun _ => []) ?_ ?_
  ·
    refine CW.cond rfl (fun h1 => ?_) (fun h1 => ?_)
    ·
      refine CW.skip ?_
      exact NQ.midG () trivial (.cons rfl (.cons rfl (.cons ((congrArg (fun b => some (Value.bool b)) h1).trans (by rw [decide_eq_true (by simp at h1; omega)])) .nil))) (fun w h => h)
    ·
      refine CW.seq (CW.rg (RL.p rfl (RL.p rfl (RL.nil (NQ.seq ?_)))))
      refine CW.cond rfl (fun h2 => ?_) (fun h2 => ?_)
      ·
        refine CW.skip ?_
        exact NQ.midG () trivial (.cons rfl (.cons rfl (.cons ((congrArg (fun b => some (Value.bool b)) h2).trans (by rw [decide_eq_true (by simp at h2; omega)])) .nil))) (fun w h => h)
      ·
        refine CW.seq (CW.rg (RL.p rfl (RL.p rfl (RL.nil (NQ.seq ?_)))))
        refine CW.cond rfl (fun h3 => ?_) (fun h3 => ?_)
        ·
          refine CW.skip ?_
          exact NQ.midG () trivial (.cons rfl (.cons rfl (.cons ((congrArg (fun b => some (Value.bool b)) h3).trans (by rw [decide_eq_true (by simp at h3; omega)])) .nil))) (fun w h => h)
        ·
          refine CW.rg (RL.p rfl (RL.p rfl (RL.nil ?_)))
          refine NQ.midG () trivial (.cons rfl (.cons rfl (.cons (congrArg (fun b => some (Value.bool b)) ?_) .nil))) (fun w h => h)
          rw [Bool.eq_iff_iff]
          simp at h1 h2 h3 ⊢
          omega
  rintro ⟨⟩ -
  refine CW.cond rfl (fun h => ?_) (fun h => ?_)
  ·
    refine CW.seq (CW.region (ef := [1]) (bk := []) (RL.p rfl (RL.buildOwn [.int .i64 n, .int .i64 10] Try.runUnderlying22 Try.sizeOf3 Try.zeroValue3 rfl rfl (by decide) (by decide) rfl (by decide) rfl rfl rfl rfl rfl rfl ?_)))
    intro bq
    refine RL.p rfl (RL.nil (NQ.seq (CW.ret (RQ.block ?_))))
    have h : 1 ≤ n ∧ n ≤ 4 := by simpa using h
    refine RQ.post (res1 rfl rfl) (.keep (Split.none _)) ?_
    exact ⟨some bq, 2, by rw [kinds_a h]; rfl, rfl, by rw [kinds_a h]; rfl⟩
  ·
    refine CW.seq (CW.rg (RL.p rfl (RL.p rfl (RL.nil (NQ.seq ?_)))))
    have h : ¬ (1 ≤ n ∧ n ≤ 4) := by simpa using h
    refine CW.cond rfl (fun h8 => ?_) (fun h8 => ?_)
    ·
      refine CW.seq (CW.region (ef := [0]) (bk := []) (RL.buildOwn [.int .i64 7, .int .i64 8, .int .i64 9, .int .i64 10, .int .i64 11, .int .i64 12] Try.runUnderlying22 Try.sizeOf3 Try.zeroValue3 rfl rfl (by decide) (by decide) rfl (by decide) rfl rfl rfl rfl rfl rfl ?_))
      intro bq
      refine RL.p rfl (RL.nil (NQ.seq (CW.ok [2] rfl (CW.ret (RQ.block ?_)))))
      have h8 : n = 8 := by simpa using h8
      subst h8
      exact RQ.post (res1 rfl rfl) (.keep (Split.none _)) ⟨some bq, 6, rfl, rfl, rfl⟩
    ·
      refine CW.seq (CW.rg (RL.p rfl (RL.nil (NQ.seq (CW.ret (RQ.block ?_))))))
      have h8 : n ≠ 8 := by simpa using h8
      refine RQ.ownNone (e := 3) 1 ?_
      exact RQ.post (res1 rfl rfl) (.keep (Split.none _)) ⟨none, 0, by rw [kinds_no h h8]; rfl, rfl, by rw [kinds_no h h8]; rfl⟩
theorem lsame_any (g0 g1 g2 dr : Int) (oa ob : Option Nat) (ca cb n : Nat) (L : List Ad) (hn : L.length = n) (hl : n ≤ 1000000) :
    Spc Try.prog 18 #[.agg #[.int .i64 g0, .int .i64 g1, .int .i64 g2, .int .i64 dr, slO oa n ca], .agg #[.int .i64 g0, .int .i64 g1, .int .i64 g2, .int .i64 dr, slO ob n cb]]
      [sls (oa.map fun b => ⟨b, 0, none⟩) 7 n (L.flatMap Ad.cells), sls (ob.map fun b => ⟨b, 0, none⟩) 7 n (L.flatMap Ad.cells)] [] (Is (.bool true)) := by
  subst hn
  refine Spc.enter Try.func18 rfl rfl rfl (fun w0 hw0 => ?_)
  refine CW.seq (CW.region (ef := [0, 1]) (bk := []) (RL.box rfl rfl rfl rfl rfl rfl ?_))
  intro b1
  refine RL.box rfl rfl rfl rfl rfl rfl ?_
  intro b2
  refine RL.p rfl (RL.nil (NQ.seq (CW.seq (CW.seq (CW.freezeAll rfl ?_)))))
  refine CW.genI (fun J hJ => ?_)
  have m1 : cel b1 [.int .i64 g0, .int .i64 g1, .int .i64 g2, .int .i64 dr, slO oa L.length ca] 66 ∈ J := hJ _ (by repeat (first | exact List.Mem.head _ | apply List.Mem.tail))
  have m2 : cel b2 [.int .i64 g0, .int .i64 g1, .int .i64 g2, .int .i64 dr, slO ob L.length cb] 70 ∈ J := hJ _ (by repeat (first | exact List.Mem.head _ | apply List.Mem.tail))
  have m3 : sls (oa.map fun b => ⟨b, 0, none⟩) 7 L.length (L.flatMap Ad.cells) ∈ J := hJ _ (by repeat (first | exact List.Mem.head _ | apply List.Mem.tail))
  have m4 : sls (ob.map fun b => ⟨b, 0, none⟩) 7 L.length (L.flatMap Ad.cells) ∈ J := hJ _ (by repeat (first | exact List.Mem.head _ | apply List.Mem.tail))
  clear hJ
  have fG : RdsN J ⟨b1, 0 + 0, none⟩ 3 [.int .i64 g0, .int .i64 g1, .int .i64 g2] := RdsN.told m1 (fun j u hj => by
    match j, hj with
    | 0, hj => exact hj
    | 1, hj => exact hj
    | 2, hj => exact hj
    | j + 3, hj => simp at hj) rfl
  have fH : RdsN J ⟨b2, 0 + 0, none⟩ 3 [.int .i64 g0, .int .i64 g1, .int .i64 g2] := RdsN.told m2 (fun j u hj => by
    match j, hj with
    | 0, hj => exact hj
    | 1, hj => exact hj
    | 2, hj => exact hj
    | j + 3, hj => simp at hj) rfl
  have f3 : RdI J ⟨b1, 0 + 3, none⟩ (.int .i64 dr) := ⟨fun _ => Rd.celI m1 rfl⟩
  have f4 : RdI J ⟨b1, 0 + 4, none⟩ (slO oa L.length ca) := ⟨fun _ => Rd.celI m1 rfl⟩
  have g3 : RdI J ⟨b2, 0 + 3, none⟩ (.int .i64 dr) := ⟨fun _ => Rd.celI m2 rfl⟩
  have g4 : RdI J ⟨b2, 0 + 4, none⟩ (slO ob L.length cb) := ⟨fun _ => Rd.celI m2 rfl⟩
  refine CW.rg (RL.fieldAddr fa_66_0 rfl rfl rfl rfl (RL.loadSq Try.isAgg26 Try.sizeOf26 rfl rfl rfl rfl ?_))
  refine RL.fieldAddr fa_70_0 rfl rfl rfl rfl (RL.loadSq Try.isAgg26 Try.sizeOf26 rfl rfl rfl rfl ?_)
  refine RL.cmp rfl rfl rfl rfl rfl (neqs_vec _ _ _ _ _) (RL.p rfl ?_)
  apply RL.orB (d := 13) (dp := 19) (l' := (Sq.of [12, 13, 14, 15, 16, 17, 18, 19, 20])) rfl (sK [2, 3, 4] rfl)
  ·
    intro hb6 K6
    refine RL.fieldAddr fa_66_1 rfl rfl rfl rfl (RL.loadq Try.isAgg24 rfl rfl rfl rfl ?_)
    refine RL.fieldAddr fa_70_1 rfl rfl rfl rfl (RL.loadq Try.isAgg24 rfl rfl rfl rfl ?_)
    refine RL.p rfl (RL.p rfl ?_)
    exact K6 _ (.cons rfl (sK [2, 3, 4] rfl))
  ·
    intro hb6 K6
    refine RL.p rfl (RL.p rfl (RL.p rfl (RL.p rfl (RL.p rfl (RL.p rfl ?_)))))
    exact K6 _ (.cons rfl (sK [2, 3, 4] rfl))
  refine RL.p rfl ?_
  apply RL.orB (d := 20) (dp := 28) (l' := (Sq.of [])) rfl (sK [2, 3, 4] rfl)
  ·
    intro hb13 K13
    refine RL.fieldAddr fa_66_2 rfl rfl rfl rfl (RL.loadq Try.isAgg64 rfl rfl rfl rfl ?_)
    refine RL.lenS Try.runUnderlying64 rfl rfl rfl rfl (RL.fieldAddr fa_70_2 rfl rfl rfl rfl (RL.loadq Try.isAgg68 rfl rfl rfl rfl ?_))
    refine RL.lenS Try.runUnderlying68 rfl rfl rfl rfl (RL.p rfl (RL.p rfl ?_))
    exact K13 _ (.cons rfl (sK [2, 3, 4] rfl))
  ·
    intro hb13 K13
    refine RL.p rfl (RL.p rfl (RL.p rfl (RL.p rfl (RL.p rfl (RL.p rfl (RL.p rfl (RL.p rfl ?_)))))))
    exact K13 _ (.cons rfl (sK [2, 3, 4] rfl))
  refine RL.nil (NQ.seq (CW.condF rfl ((by simp)) ?_))
  refine CW.skip (NQ.seq (CW.seq (CW.seq (CW.rg (RL.p rfl (RL.nil (NQ.seq (CW.block (CW.loop (γ := Nat) (fun i => i ≤ L.length) (fun i => [(2, .pointer (some ⟨b1, 0, none⟩)), (3, .pointer (some ⟨b2, 0, none⟩)), (5, .int .i64 (i : Int))]) (fun _ => J) (fun _ => []) (fun i => L.length - i) 0 (Nat.zero_le _) (.cons rfl (.cons rfl (.cons rfl .nil))) (fun w h => h.rea (fun _ h => h) (by repeat (first | exact Rea.nil | (apply Rea.cons; (solve | (repeat (first | exact Del.here | apply Del.there))))))) ?_)))))))))
  intro i hi
  refine CW.fact (p := (oa = none → L.length = 0) ∧ (ob = none → L.length = 0)) (fun w hC => ⟨fun e => sls_nil (hC.s.i _ m3) (by rw [e]; rfl), fun e => sls_nil (hC.s.i _ m4) (by rw [e]; rfl)⟩) (fun ⟨hpa, hpb⟩ => ?_)
  refine CW.seq (CW.seq (CW.rg (RL.p rfl (RL.fieldAddr fa_66_2 rfl rfl rfl rfl (RL.loadq Try.isAgg64 rfl rfl rfl rfl ?_)))))
  refine RL.lenS Try.runUnderlying64 rfl rfl rfl rfl (RL.p rfl (RL.nil (NQ.seq ?_)))
  refine CW.cond rfl (fun hlt => ?_) (fun hlt => ?_)
  ·
    have hlt : i < L.length := by simp at hlt; omega
    cases oa with
    | none => exact absurd (hpa rfl) (by omega)
    | some ba =>
    cases ob with
    | none => exact absurd (hpb rfl) (by omega)
    | some bb =>
    have hx := List.getElem?_eq_getElem hlt
    generalize L[i] = a at hx
    have fA : RdsN J ⟨ba, 0 + i * 7, none⟩ 7 [.int .i64 a.src, .int .i64 a.kd, .int .i64 a.w, .int .i64 a.g, .int .i64 a.st, .int .i64 a.lm, .int .i64 a.hz] := flat_rdsN (f := Ad.cells) m3 hx (fun _ _ => rfl)
    have fB : RdsN J ⟨bb, 0 + i * 7, none⟩ 7 [.int .i64 a.src, .int .i64 a.kd, .int .i64 a.w, .int .i64 a.g, .int .i64 a.st, .int .i64 a.lm, .int .i64 a.hz] := flat_rdsN (f := Ad.cells) m4 hx (fun _ _ => rfl)
    refine CW.skip (NQ.seq (CW.seq (CW.block (CW.seq ?_))))
    refine CW.cutG (γ := Nat × Nat) (fun _ => True) (fun g => [(2, .pointer (some ⟨b1, 0, none⟩)), (3, .pointer (some ⟨b2, 0, none⟩)), (5, .int .i64 (i : Int)), (6, .pointer (some ⟨g.1, 0, none⟩)), (7, .pointer (some ⟨g.2, 0, none⟩))]) (fun _ => J) (fun g => [cel g.1 a.cells 132, cel g.2 a.cells 135]) ?_ ?_
    ·
      refine CW.regionD (.cons 0 (.cons 1 (.cons 2 (.cons 3 (.cons 4 (.cons 5 (.cons 6 (.cons 7 (.cons 8 (.cons 9 (.fork [10, 11] (fun k => (bif Nat.beq k 10 then (Sq.of [11, 12, 13]) else (Sq.of [10, 12, 13])))))))))))))) [10, 11, 12, 13] [12, 13] [0, 1, 2, 3, 4, 5, 6, 7, 8, 9] mixed (by kernel_rfl) ?_
      refine RL.fieldAddr fa_66_2 rfl rfl rfl rfl (RL.loadTq Try.isAgg64 rfl rfl rfl rfl ?_)
      refine RL.p rfl (RL.idxAt (j := i) Try.runUnderlying64 Try.sizeOf132 rfl rfl rfl rfl rfl rfl (hlt) (RL.loadSTq Try.isAgg132 Try.sizeOf132 rfl rfl rfl rfl ?_))
      refine RL.fieldAddr fa_70_2 rfl rfl rfl rfl (RL.loadTq Try.isAgg68 rfl rfl rfl rfl ?_)
      refine RL.p rfl (RL.idxAt (j := i) Try.runUnderlying68 Try.sizeOf135 rfl rfl rfl rfl rfl rfl (hlt) (RL.loadSTq Try.isAgg135 Try.sizeOf135 rfl rfl rfl rfl ?_))
      refine RL.fork ⟨?_, ?_, trivial⟩
      ·
        refine RL.alloc Try.zeroValue132 rfl rfl rfl rfl rfl ?_
        intro b3
        refine RL.alloc Try.zeroValue135 rfl rfl rfl rfl rfl ?_
        intro b4
        refine RL.store (vs := [_, _, _, _, _, _, _]) Try.sizeOf132 rfl rfl rfl rfl rfl rfl rfl rfl rfl (by repeat (first | exact Upd.here | apply Upd.there)) ?_
        refine RL.store (vs := [_, _, _, _, _, _, _]) Try.sizeOf135 rfl rfl rfl rfl rfl rfl rfl rfl rfl (by repeat (first | exact Upd.here | apply Upd.there)) ?_
        refine RL.nil ?_
        exact NQ.midG (b3, b4) trivial (.cons rfl (.cons rfl (.cons rfl (.cons rfl (.cons rfl .nil))))) (fun w h => h.rea (fun _ h => h) (by repeat (first | exact Rea.nil | (apply Rea.cons; (solve | (repeat (first | exact Del.here | apply Del.there)))))))
      ·
        refine RL.alloc Try.zeroValue135 rfl rfl rfl rfl rfl ?_
        intro b4
        refine RL.alloc Try.zeroValue132 rfl rfl rfl rfl rfl ?_
        intro b3
        refine RL.store (vs := [_, _, _, _, _, _, _]) Try.sizeOf132 rfl rfl rfl rfl rfl rfl rfl rfl rfl (by repeat (first | exact Upd.here | apply Upd.there)) ?_
        refine RL.store (vs := [_, _, _, _, _, _, _]) Try.sizeOf135 rfl rfl rfl rfl rfl rfl rfl rfl rfl (by repeat (first | exact Upd.here | apply Upd.there)) ?_
        refine RL.nil ?_
        exact NQ.midG (b3, b4) trivial (.cons rfl (.cons rfl (.cons rfl (.cons rfl (.cons rfl .nil))))) (fun w h => h.rea (fun _ h => h) (by repeat (first | exact Rea.nil | (apply Rea.cons; (solve | (repeat (first | exact Del.here | apply Del.there)))))))
    rintro ⟨x, y⟩ -
    dsimp only
    refine CW.freezeP (A := [cel x a.cells 132, cel y a.cells 135]) (B := []) (by repeat (first | exact Pick.nil | apply Pick.take | apply Pick.leave)) rfl ?_
    refine CW.genI (fun J2 hJ => ?_)
    have hJ2 : ∀ z ∈ J, z ∈ J2 := fun z hz => hJ z (by simp [hz])
    have mX : cel x a.cells 132 ∈ J2 := hJ _ (List.Mem.head _)
    have mY : cel y a.cells 135 ∈ J2 := hJ _ (List.Mem.tail _ (List.Mem.head _))
    clear hJ fA fB fG fH f3 f4 g3 g4
    have x0 : RdI J2 ⟨x, 0 + 0, none⟩ (.int .i64 a.src) := ⟨fun _ => Rd.celI mX rfl⟩
    have x1 : RdI J2 ⟨x, 0 + 1, none⟩ (.int .i64 a.kd) := ⟨fun _ => Rd.celI mX rfl⟩
    have x2 : RdI J2 ⟨x, 0 + 2, none⟩ (.int .i64 a.w) := ⟨fun _ => Rd.celI mX rfl⟩
    have x3 : RdI J2 ⟨x, 0 + 3 + 0, none⟩ (.int .i64 a.g) := ⟨fun _ => Rd.celI mX rfl⟩
    have x4 : RdI J2 ⟨x, 0 + 3 + 1, none⟩ (.int .i64 a.st) := ⟨fun _ => Rd.celI mX rfl⟩
    have x5 : RdI J2 ⟨x, 0 + 3 + 2, none⟩ (.int .i64 a.lm) := ⟨fun _ => Rd.celI mX rfl⟩
    have x6 : RdI J2 ⟨x, 0 + 3 + 3, none⟩ (.int .i64 a.hz) := ⟨fun _ => Rd.celI mX rfl⟩
    have y0 : RdI J2 ⟨y, 0 + 0, none⟩ (.int .i64 a.src) := ⟨fun _ => Rd.celI mY rfl⟩
    have y1 : RdI J2 ⟨y, 0 + 1, none⟩ (.int .i64 a.kd) := ⟨fun _ => Rd.celI mY rfl⟩
    have y2 : RdI J2 ⟨y, 0 + 2, none⟩ (.int .i64 a.w) := ⟨fun _ => Rd.celI mY rfl⟩
    have y3 : RdI J2 ⟨y, 0 + 3 + 0, none⟩ (.int .i64 a.g) := ⟨fun _ => Rd.celI mY rfl⟩
    have y4 : RdI J2 ⟨y, 0 + 3 + 1, none⟩ (.int .i64 a.st) := ⟨fun _ => Rd.celI mY rfl⟩
    have y5 : RdI J2 ⟨y, 0 + 3 + 2, none⟩ (.int .i64 a.lm) := ⟨fun _ => Rd.celI mY rfl⟩
    have y6 : RdI J2 ⟨y, 0 + 3 + 3, none⟩ (.int .i64 a.hz) := ⟨fun _ => Rd.celI mY rfl⟩
    refine CW.seq (CW.rg (RL.fieldAddr fa_132_0 rfl rfl rfl rfl (RL.loadq Try.isAgg3 rfl rfl rfl rfl ?_)))
    refine RL.fieldAddr fa_135_0 rfl rfl rfl rfl (RL.loadq Try.isAgg3 rfl rfl rfl rfl ?_)
    refine RL.p rfl (RL.p rfl ?_)
    apply RL.orB (d := 51) (dp := 57) (l' := (Sq.of [12, 13, 14, 15, 16, 17, 18, 19, 20, 21, 22, 23, 24, 25, 26, 27, 28, 29, 30, 31, 32, 33, 34, 35, 36, 37, 38, 39, 40, 41, 42, 43, 44, 45, 46, 47, 48, 49, 50, 51, 52, 53, 54])) rfl (sK [2, 3, 5, 6, 7] rfl)
    ·
      intro hb6 K6
      refine RL.fieldAddr fa_132_1 rfl rfl rfl rfl (RL.loadq Try.isAgg3 rfl rfl rfl rfl ?_)
      refine RL.fieldAddr fa_135_1 rfl rfl rfl rfl (RL.loadq Try.isAgg3 rfl rfl rfl rfl ?_)
      refine RL.p rfl (RL.p rfl ?_)
      exact K6 _ (.cons rfl (sK [2, 3, 5, 6, 7] rfl))
    ·
      intro hb6 K6
      refine RL.p rfl (RL.p rfl (RL.p rfl (RL.p rfl (RL.p rfl (RL.p rfl ?_)))))
      exact K6 _ (.cons rfl (sK [2, 3, 5, 6, 7] rfl))
    refine RL.p rfl ?_
    apply RL.orB (d := 58) (dp := 64) (l' := (Sq.of [19, 20, 21, 22, 23, 24, 25, 26, 27, 28, 29, 30, 31, 32, 33, 34, 35, 36, 37, 38, 39, 40, 41, 42, 43, 44, 45, 46, 47, 48, 49, 50, 51, 52, 53, 54])) rfl (sK [2, 3, 5, 6, 7] rfl)
    ·
      intro hb13 K13
      refine RL.fieldAddr fa_132_2 rfl rfl rfl rfl (RL.loadq Try.isAgg3 rfl rfl rfl rfl ?_)
      refine RL.fieldAddr fa_135_2 rfl rfl rfl rfl (RL.loadq Try.isAgg3 rfl rfl rfl rfl ?_)
      refine RL.p rfl (RL.p rfl ?_)
      exact K13 _ (.cons rfl (sK [2, 3, 5, 6, 7] rfl))
    ·
      intro hb13 K13
      refine RL.p rfl (RL.p rfl (RL.p rfl (RL.p rfl (RL.p rfl (RL.p rfl ?_)))))
      exact K13 _ (.cons rfl (sK [2, 3, 5, 6, 7] rfl))
    refine RL.p rfl ?_
    apply RL.orB (d := 65) (dp := 73) (l' := (Sq.of [28, 29, 30, 31, 32, 33, 34, 35, 36, 37, 38, 39, 40, 41, 42, 43, 44, 45, 46, 47, 48, 49, 50, 51, 52, 53, 54])) rfl (sK [2, 3, 5, 6, 7] rfl)
    ·
      intro hb20 K20
      refine RL.fieldAddr fa_132_3 rfl rfl rfl rfl (RL.fieldAddr fa_130_0 rfl rfl rfl rfl (RL.loadq Try.isAgg3 rfl rfl rfl rfl ?_))
      refine RL.fieldAddr fa_135_3 rfl rfl rfl rfl (RL.fieldAddr fa_133_0 rfl rfl rfl rfl (RL.loadq Try.isAgg3 rfl rfl rfl rfl ?_))
      refine RL.p rfl (RL.p rfl ?_)
      exact K20 _ (.cons rfl (sK [2, 3, 5, 6, 7] rfl))
    ·
      intro hb20 K20
      refine RL.p rfl (RL.p rfl (RL.p rfl (RL.p rfl (RL.p rfl (RL.p rfl (RL.p rfl (RL.p rfl ?_)))))))
      exact K20 _ (.cons rfl (sK [2, 3, 5, 6, 7] rfl))
    refine RL.p rfl ?_
    apply RL.orB (d := 74) (dp := 82) (l' := (Sq.of [37, 38, 39, 40, 41, 42, 43, 44, 45, 46, 47, 48, 49, 50, 51, 52, 53, 54])) rfl (sK [2, 3, 5, 6, 7] rfl)
    ·
      intro hb29 K29
      refine RL.fieldAddr fa_132_3 rfl rfl rfl rfl (RL.fieldAddr fa_130_1 rfl rfl rfl rfl (RL.loadq Try.isAgg24 rfl rfl rfl rfl ?_))
      refine RL.fieldAddr fa_135_3 rfl rfl rfl rfl (RL.fieldAddr fa_133_1 rfl rfl rfl rfl (RL.loadq Try.isAgg24 rfl rfl rfl rfl ?_))
      refine RL.p rfl (RL.p rfl ?_)
      exact K29 _ (.cons rfl (sK [2, 3, 5, 6, 7] rfl))
    ·
      intro hb29 K29
      refine RL.p rfl (RL.p rfl (RL.p rfl (RL.p rfl (RL.p rfl (RL.p rfl (RL.p rfl (RL.p rfl ?_)))))))
      exact K29 _ (.cons rfl (sK [2, 3, 5, 6, 7] rfl))
    refine RL.p rfl ?_
    apply RL.orB (d := 83) (dp := 91) (l' := (Sq.of [46, 47, 48, 49, 50, 51, 52, 53, 54])) rfl (sK [2, 3, 5, 6, 7] rfl)
    ·
      intro hb38 K38
      refine RL.fieldAddr fa_132_3 rfl rfl rfl rfl (RL.fieldAddr fa_130_2 rfl rfl rfl rfl (RL.loadq Try.isAgg24 rfl rfl rfl rfl ?_))
      refine RL.fieldAddr fa_135_3 rfl rfl rfl rfl (RL.fieldAddr fa_133_2 rfl rfl rfl rfl (RL.loadq Try.isAgg24 rfl rfl rfl rfl ?_))
      refine RL.p rfl (RL.p rfl ?_)
      exact K38 _ (.cons rfl (sK [2, 3, 5, 6, 7] rfl))
    ·
      intro hb38 K38
      refine RL.p rfl (RL.p rfl (RL.p rfl (RL.p rfl (RL.p rfl (RL.p rfl (RL.p rfl (RL.p rfl ?_)))))))
      exact K38 _ (.cons rfl (sK [2, 3, 5, 6, 7] rfl))
    refine RL.p rfl ?_
    apply RL.orB (d := 92) (dp := 100) (l' := (Sq.of [])) rfl (sK [2, 3, 5] rfl)
    ·
      intro hb47 K47
      refine RL.fieldAddr fa_132_3 rfl rfl rfl rfl (RL.fieldAddr fa_130_3 rfl rfl rfl rfl (RL.loadq Try.isAgg3 rfl rfl rfl rfl ?_))
      refine RL.fieldAddr fa_135_3 rfl rfl rfl rfl (RL.fieldAddr fa_133_3 rfl rfl rfl rfl (RL.loadq Try.isAgg3 rfl rfl rfl rfl ?_))
      refine RL.p rfl (RL.p rfl ?_)
      exact K47 _ (.cons rfl (sK [2, 3, 5] rfl))
    ·
      intro hb47 K47
      refine RL.p rfl (RL.p rfl (RL.p rfl (RL.p rfl (RL.p rfl (RL.p rfl (RL.p rfl (RL.p rfl ?_)))))))
      exact K47 _ (.cons rfl (sK [2, 3, 5] rfl))
    refine RL.nil (NQ.seq (CW.condF rfl ((by simp)) ?_))
    refine CW.skip (NQ.block (NQ.seq (CW.rg (RL.p rfl (RL.bx rfl (wrapV_i64 (by omega) (by omega)) ?_)))))
    refine RL.p rfl (RL.nil ?_)
    refine NQ.round (g := i) (i + 1) hlt (by show L.length - (i + 1) < L.length - i; omega) (.cons rfl (.cons rfl (.cons rfl .nil))) (fun w h => h.rea hJ2 (by repeat (first | exact Rea.nil | (apply Rea.cons; (solve | (repeat (first | exact Del.here | apply Del.there)))))))
  ·
    refine CW.exit (XQ.seq (XQ.seq (XQ.hit (NQ.seq (CW.ok [] rfl (CW.seq (CW.rg (RL.p rfl (RL.nil (NQ.seq (CW.ret ?_)))))))))))
    exact RQ.post (res1 rfl rfl) (Split.none _) ⟨rfl, rfl, rfl⟩
end Go.Proofs.Ytbdnebedmdoehaa
