import Derived.Test.YthndhipjfdgdfaaGreatDoorGA
import Derived.Test.YthndhipjfdgdfaaGreatDoorUA
import Derived.Test.YthndhipjfdgdfaaGreatDoorUC
import Derived.Test.YthndhipjfdgdfaaGreatDoorPkRf
import Derived.Test.YthndhipjfdgdfaaGreatDoorUB
set_option linter.unusedVariables false
set_option linter.unusedSimpArgs false
namespace Go.Proofs.YthndhipjfdgdfaaGreatDoor
open Go.PK
/-! ### Keepers and recorders that are made, or not -/
theorem syn_any (a b c : Int) : Spc Tryz.prog 70 #[.int .i64 a, .int .i64 b, .int .i64 c] [] [] (ErP (errI (0 ≤ a ∧ a ≤ 65535 ∧ 0 ≤ b ∧ b ≤ 1048576 ∧ 1 ≤ c ∧ c ≤ 100))) := by
  refine Spc.enter Tryz.func70 rfl rfl rfl (fun w0 hw0 => ?_)
  refine CW.seq (CW.rg (RL.p rfl (RL.p rfl (RL.nil (NQ.seq (CW.seq (CW.seq (CW.rg (RL.p rfl (RL.p rfl (RL.p rfl ?_)))))))))))
  apply RL.orB (d := 10) (dp := 13) (l' := (Sq.of [6, 7, 8, 9, 10, 11, 12, 13, 14, 15, 16, 17, 18, 19, 20, 21])) rfl (sK [0, 1, 2, 6, 7] rfl)
  ·
    intro hb3 K3
    refine RL.p rfl (RL.p rfl (RL.p rfl ?_))
    exact K3 _ (.cons rfl (sK [0, 1, 2, 6, 7] rfl))
  ·
    intro hb3 K3
    refine RL.p rfl (RL.p rfl (RL.p rfl ?_))
    exact K3 _ (.cons rfl (sK [0, 1, 2, 6, 7] rfl))
  refine RL.p rfl ?_
  apply RL.orB (d := 14) (dp := 17) (l' := (Sq.of [10, 11, 12, 13, 14, 15, 16, 17, 18, 19, 20, 21])) rfl (sK [0, 1, 2, 6, 7] rfl)
  ·
    intro hb7 K7
    refine RL.p rfl (RL.p rfl (RL.p rfl ?_))
    exact K7 _ (.cons rfl (sK [0, 1, 2, 6, 7] rfl))
  ·
    intro hb7 K7
    refine RL.p rfl (RL.p rfl (RL.p rfl ?_))
    exact K7 _ (.cons rfl (sK [0, 1, 2, 6, 7] rfl))
  refine RL.p rfl ?_
  apply RL.orB (d := 18) (dp := 21) (l' := (Sq.of [14, 15, 16, 17, 18, 19, 20, 21])) rfl (sK [0, 1, 2, 6, 7] rfl)
  ·
    intro hb11 K11
    refine RL.p rfl (RL.p rfl (RL.p rfl ?_))
    exact K11 _ (.cons rfl (sK [0, 1, 2, 6, 7] rfl))
  ·
    intro hb11 K11
    refine RL.p rfl (RL.p rfl (RL.p rfl ?_))
    exact K11 _ (.cons rfl (sK [0, 1, 2, 6, 7] rfl))
  refine RL.p rfl ?_
  apply RL.orB (d := 22) (dp := 25) (l' := (Sq.of [18, 19, 20, 21])) rfl (sK [0, 1, 2, 6, 7] rfl)
  ·
    intro hb15 K15
    refine RL.p rfl (RL.p rfl (RL.p rfl ?_))
    exact K15 _ (.cons rfl (sK [0, 1, 2, 6, 7] rfl))
  ·
    intro hb15 K15
    refine RL.p rfl (RL.p rfl (RL.p rfl ?_))
    exact K15 _ (.cons rfl (sK [0, 1, 2, 6, 7] rfl))
  refine RL.p rfl ?_
  apply RL.orB (d := 26) (dp := 29) (l' := (Sq.of [])) rfl (sK [0, 1, 2, 6, 7] rfl)
  ·
    intro hb19 K19
    refine RL.p rfl (RL.p rfl (RL.p rfl ?_))
    exact K19 _ (.cons rfl (sK [0, 1, 2, 6, 7] rfl))
  ·
    intro hb19 K19
    refine RL.p rfl (RL.p rfl (RL.p rfl ?_))
    exact K19 _ (.cons rfl (sK [0, 1, 2, 6, 7] rfl))
  refine RL.nil (NQ.seq ?_)
  refine CW.cond rfl (fun h => ?_) (fun h => ?_)
  ·
    refine CW.seq (CW.rg (RL.p rfl (RL.p rfl (RL.nil (NQ.seq (CW.ret (RQ.seq ?_)))))))
    exact RQ.post (res2 rfl rfl rfl) (Split.none _) ⟨_, by rw [errI_no (by simp at h; omega)], rfl, rfl⟩
  ·
    refine CW.skip (NQ.seq (CW.seq (CW.region (ef := [4]) (bk := []) (RL.p rfl (RL.p rfl (RL.p rfl (RL.buildS _ Tryz.zeroValue240 pl_240 rfl rfl rfl rfl rfl (RL.box rfl rfl rfl rfl rfl rfl ?_))))))))
    intro b1
    refine RL.p rfl (RL.p rfl (RL.nil (NQ.seq (CW.ok [6, 7] rfl (CW.ret ?_)))))
    exact RQ.post (res2 rfl rfl rfl) (Split.none _) ⟨_, by rw [errI_yes (by simp at h; omega)], rfl, rfl⟩
theorem tra_any (a : Int) : Spc Tryz.prog 71 #[.int .i64 a] [] [] (ErP (errI (1 ≤ a ∧ a ≤ 4096))) := by
  refine Spc.enter Tryz.func71 rfl rfl rfl (fun w0 hw0 => ?_)
  refine CW.seq (CW.rg (RL.p rfl (RL.p rfl (RL.nil (NQ.seq (CW.seq (CW.seq (CW.rg (RL.p rfl (RL.p rfl (RL.p rfl ?_)))))))))))
  apply RL.orB (d := 6) (dp := 9) (l' := (Sq.of [])) rfl (sK [0, 2, 3] rfl)
  ·
    intro hb3 K3
    refine RL.p rfl (RL.p rfl (RL.p rfl ?_))
    exact K3 _ (.cons rfl (sK [0, 2, 3] rfl))
  ·
    intro hb3 K3
    refine RL.p rfl (RL.p rfl (RL.p rfl ?_))
    exact K3 _ (.cons rfl (sK [0, 2, 3] rfl))
  refine RL.nil (NQ.seq ?_)
  refine CW.cond rfl (fun h => ?_) (fun h => ?_)
  ·
    refine CW.seq (CW.rg (RL.p rfl (RL.p rfl (RL.nil (NQ.seq (CW.ret (RQ.seq ?_)))))))
    exact RQ.post (res2 rfl rfl rfl) (Split.none _) ⟨_, by rw [errI_no (by simp at h; omega)], rfl, rfl⟩
  ·
    obtain ⟨m, rfl⟩ : ∃ m : Nat, a = (m : Int) := ⟨a.toNat, by simp at h; omega⟩
    have h' : 1 ≤ m ∧ m ≤ 4096 := by simp at h; omega
    refine CW.skip (NQ.seq (CW.seq (CW.region (ef := [1, 4]) (bk := []) (RL.p rfl (RL.makeSlice (len := m) (zs := [.int .i64 0, .int .i64 0, .int .i64 0, .int .i64 0]) Tryz.runUnderlying241 Tryz.sizeOf402 (ii := Tryz.t402) (by kernel_rfl) Tryz.zeroValue402 rfl rfl (by decide) (by omega) (by show m * 32 ≤ 1000000; omega) (by omega) rfl rfl rfl rfl rfl rfl rfl rfl ?_)))))
    intro lb
    refine RL.buildS [_, _, _] Tryz.zeroValue243 pl_243 rfl rfl rfl rfl rfl (RL.buildS _ Tryz.zeroValue245 pl_245 rfl rfl rfl rfl rfl (RL.box rfl rfl rfl rfl rfl rfl ?_))
    intro b1
    refine RL.p rfl (RL.p rfl (RL.nil (NQ.seq (CW.ok [2, 3] rfl (CW.ret ?_)))))
    exact RQ.post (res2 rfl rfl rfl) (Split.none _) ⟨_, by rw [errI_yes (by omega)], rfl, rfl⟩
/-! ### Points -/
theorem fright_any (p : Pt) : Spc Tryz.prog 111 #[.agg #[.int .i64 p.1, .int .i64 p.2]] [] [] (Is (.bool (ptB p))) := by
  refine Spc.enter Tryz.func111 rfl rfl rfl (fun w0 hw0 => ?_)
  refine CW.seq (CW.region (ef := [0]) (bk := []) (RL.box rfl rfl rfl rfl rfl rfl ?_))
  intro b1
  refine RL.p rfl (RL.nil (NQ.seq (CW.seq (CW.seq (CW.rg (RL.loadN (vs := [_, _]) Tryz.isAgg80 Tryz.sizeOf80 rfl rfl rfl rfl (by first | (apply Rds.cel; (solve | (repeat (first | exact List.Mem.head _ | apply List.Mem.tail))); exact at_spec ⟨rfl, rfl, trivial⟩) | (apply Rds.celI; (solve | (repeat (first | exact List.Mem.head _ | apply List.Mem.tail))); exact at_spec ⟨rfl, rfl, trivial⟩) | assumption | (apply RdsI.rds; assumption)) ?_))))))
  refine RL.p rfl (RL.nil (NQ.seq (CW.block (CW.loop (γ := Nat) (fun g => g ≤ 2 ∧ (1 ≤ g → -2305843009213693952 ≤ p.1 ∧ p.1 ≤ 2305843009213693952) ∧ (2 ≤ g → -2305843009213693952 ≤ p.2 ∧ p.2 ≤ 2305843009213693952)) (fun g => [(5, .agg #[.int .i64 p.1, .int .i64 p.2]), (6, .int .i64 (g : Int))]) (fun _ => []) (fun _ => []) (fun g => 2 - g) 0 ⟨by omega, by omega, by omega⟩ (.cons rfl (.cons rfl .nil)) (fun w h => h.rea (fun _ h => h) .nil) ?_))))
  rintro g ⟨hg, h1, h2⟩
  have hv : ∀ x : Int, (if g = 0 then p.1 else p.2) = x → g < 2 → (#[Value.int .i64 p.1, .int .i64 p.2])[g * 1]? = some (.int .i64 x) := by
    rintro _ rfl hlt
    have : g = 0 ∨ g = 1 := by omega
    rcases this with rfl | rfl <;> rfl
  refine CW.seq (CW.rg (RL.p rfl (RL.nil (NQ.seq (CW.seq ?_)))))
  refine CW.cond rfl (fun hlt => ?_) (fun hlt => ?_)
  · have hlt' : g < 2 := by simp at hlt; omega
    refine CW.skip (NQ.seq (CW.seq (CW.block (CW.seq (CW.rg (RL.index (j := g) Tryz.runUnderlying80 Tryz.sizeOf23 Tryz.isAgg23 rfl rfl rfl rfl rfl rfl hlt' (hv _ rfl hlt') (RL.p rfl (RL.nil (NQ.seq (CW.seq (CW.rg (RL.p rfl (RL.p rfl ?_)))))))))))))
    refine RL.p rfl ?_
    apply RL.orB (d := 11) (dp := 14) (l' := (Sq.of [])) rfl (sK [5, 6] rfl)
    ·
      intro hb3 K3
      refine RL.p rfl (RL.p rfl (RL.p rfl ?_))
      exact K3 _ (.cons rfl (sK [5, 6] rfl))
    ·
      intro hb3 K3
      refine RL.p rfl (RL.p rfl (RL.p rfl ?_))
      exact K3 _ (.cons rfl (sK [5, 6] rfl))
    refine RL.nil (NQ.seq ?_)
    refine CW.cond rfl (fun hb => ?_) (fun hb => ?_)
    ·
      refine CW.seq (CW.rg (RL.p rfl (RL.nil (NQ.seq (CW.ret (RQ.block (RQ.seq (RQ.seq (RQ.block (RQ.seq ?_))))))))))
      refine RQ.post (res1 rfl rfl) (Split.none _) ⟨?_, rfl, rfl⟩
      congr 1
      symm
      rw [ptB, decide_eq_false_iff_not]
      rintro ⟨⟨a1, a2⟩, b1, b2⟩
      have : g = 0 ∨ g = 1 := by omega
      rcases this with rfl | rfl <;> simp at hb <;> omega
    ·
      refine CW.skip (NQ.block (NQ.seq (CW.rg (RL.bx rfl (wrapV_i64 (by omega) (by omega)) ?_))))
      refine RL.p rfl (RL.nil ?_)
      refine NQ.round (g := g) (g + 1) ⟨by omega, fun _ => ?_, fun _ => ?_⟩ (by omega) (.cons rfl (.cons rfl .nil)) (fun w h => h.rea (fun _ h => h) .nil)
      · rcases Nat.eq_zero_or_pos g with rfl | h0
        · simp at hb; omega
        · exact h1 h0
      · have : g = 1 := by omega
        subst this
        simp at hb; omega
  ·
    refine CW.exit (XQ.seq (XQ.seq (XQ.hit (NQ.seq (CW.seq (CW.rg (RL.p rfl (RL.nil (NQ.seq (CW.ret ?_))))))))))
    have hg2 : g = 2 := by simp at hlt; omega
    subst hg2
    refine RQ.post (res1 rfl rfl) (Split.none _) ⟨?_, rfl, rfl⟩
    rw [ptB, decide_eq_true ⟨h1 (by omega), h2 (by omega)⟩]
end Go.Proofs.YthndhipjfdgdfaaGreatDoor

namespace Go.Proofs.YthndhipjfdgdfaaGreatDoor
open Go.PK
/-! ### Points and sources compared -/
theorem eqF2 {P : Program} {d : Nat} {xs ys : Array Value} {f : Field} {fs : List Field} {a b : Value} {r1 r2 : Bool} {w : World} (hn : f.name ≠ "_") (h1 : (Go.part f.type xs f.offset).run P w = .ok a w) (h2 : (Go.part f.type ys f.offset).run P w = .ok b w) (h3 : (Op.equalIn d f.type a b).run P w = .ok r1 w) (ih : (Op.eqFields d xs ys fs).run P w = .ok r2 w) : (Op.eqFields d xs ys (f :: fs)).run P w = .ok (r1 && r2) w := by
  cases r1
  · simp [Op.eqFields, hn, h1, h2, h3]
  · simp [Op.eqFields, hn, h1, h2, h3, ih]
theorem eq2_i64 {P : Program} {t : TypeId} (hu : ∀ w, (underlying t).run P w = .ok (.int .i64) w) (d : Nat) (m n : Int) (w : World) : (Op.equalIn (d + 1) t (.int .i64 m) (.int .i64 n)).run P w = .ok (m == n) w := by
  rw [Op.equalIn.eq_2]
  simp [hu]
theorem eq2_items {P : Program} {e : TypeId} (hag : ∀ w, (isAgg e).run P w = .ok false w) (hu : ∀ w, (underlying e).run P w = .ok (.int .i64) w) (dd : Nat) (a b c d : Int) (w : World) :
    (Op.eqItems (dd + 1) e 1 #[.int .i64 a, .int .i64 b] #[.int .i64 c, .int .i64 d] (List.range 2)).run P w = .ok (decide ((a, b) = (c, d))) w := by
  have p : ∀ (x y : Int), (Go.part e #[Value.int .i64 x, .int .i64 y] (0 * 1)).run P w = .ok (.int .i64 x) w := fun x y => part_s (cs := [Value.int .i64 x, .int .i64 y]) (off := 0 * 1) hag rfl w
  have q : ∀ (x y : Int), (Go.part e #[Value.int .i64 x, .int .i64 y] (1 * 1)).run P w = .ok (.int .i64 y) w := fun x y => part_s (cs := [Value.int .i64 x, .int .i64 y]) (off := 1 * 1) hag rfl w
  rw [show List.range 2 = [0, 1] from rfl]
  have q' : ∀ (x y : Int), (Go.part e #[Value.int .i64 x, .int .i64 y] 1).run P w = .ok (.int .i64 y) w := q
  simp only [Op.eqItems, Sem.run_bind, p, q, eq2_i64 hu, Result.andThen_ok]
  by_cases h1 : a = c <;> by_cases h2 : b = d <;> simp [h1, h2, q', eq2_i64 hu]
theorem eql_pt {t e : TypeId} {ii : TypeInfo} (hu : Tryz.prog.underlying t = some (.array 2 e)) (hi : Tryz.prog.info? e = some ii) (hc : Tryz.prog.cellsOf e = 1) (hag : ∀ w, (isAgg e).run Tryz.prog w = .ok false w) (hue : ∀ w, (underlying e).run Tryz.prog w = .ok (.int .i64) w) (hm : Tryz.prog.eqGuardType Tryz.prog.depth t = false)
    (p q : Pt) (x y : Operand) (w : World) : (do eqGuard .eql t x y (.agg p.cells.toArray) (.agg q.cells.toArray); binOp .eql t (.agg p.cells.toArray) (.agg q.cells.toArray) : Sem Value).run Tryz.prog w = .ok (.bool (decide (p = q))) w := by
  have h : (Op.equal t (.agg p.cells.toArray) (.agg q.cells.toArray)).run Tryz.prog w = .ok (decide (p = q)) w := by
    unfold Op.equal
    rw [show Op.maxDepth = 9999 + 1 from rfl, run_equalIn_array (P := Tryz.prog) w 9999 _ _ hu hi, hc, show 9999 = 9998 + 1 from rfl]
    exact eq2_items hag hue 9998 p.1 p.2 q.1 q.2 w
  simp [eqGuard, binOp, hm, h]
theorem neq_pt {t e : TypeId} {ii : TypeInfo} (hu : Tryz.prog.underlying t = some (.array 2 e)) (hi : Tryz.prog.info? e = some ii) (hc : Tryz.prog.cellsOf e = 1) (hag : ∀ w, (isAgg e).run Tryz.prog w = .ok false w) (hue : ∀ w, (underlying e).run Tryz.prog w = .ok (.int .i64) w) (hm : Tryz.prog.eqGuardType Tryz.prog.depth t = false)
    (p q : Pt) (x y : Operand) (w : World) : (do eqGuard .neq t x y (.agg p.cells.toArray) (.agg q.cells.toArray); binOp .neq t (.agg p.cells.toArray) (.agg q.cells.toArray) : Sem Value).run Tryz.prog w = .ok (.bool (!decide (p = q))) w := by
  have h : (Op.equal t (.agg p.cells.toArray) (.agg q.cells.toArray)).run Tryz.prog w = .ok (decide (p = q)) w := by
    unfold Op.equal
    rw [show Op.maxDepth = 9999 + 1 from rfl, run_equalIn_array (P := Tryz.prog) w 9999 _ _ hu hi, hc, show 9999 = 9998 + 1 from rfl]
    exact eq2_items hag hue 9998 p.1 p.2 q.1 q.2 w
  simp [eqGuard, binOp, hm, h]
theorem eq2_key (d : Nat) (l m : List B8) (h : l.length = 32) (h' : m.length = 32) (w : World) : (Op.equalIn (d + 2) 29 (.agg (bytes l).toArray) (.agg (bytes m).toArray)).run Tryz.prog w = .ok (l == m) w := by
  obtain ⟨ii, hi⟩ : ∃ ii, Tryz.prog.info? 5 = some ii := by
    cases hx : Tryz.prog.info? 5 with
    | some ii => exact ⟨ii, rfl⟩
    | none => exact absurd (congrArg Option.isSome hx) (by rw [show (Tryz.prog.info? 5).isSome = true from by kernel_rfl]; decide)
  rw [run_equalIn_array (P := Tryz.prog) w (d + 1) (n := 32) (e := 5) _ _ (by kernel_rfl) hi, show Tryz.prog.cellsOf 5 = 1 from by kernel_rfl]
  have h8 := run_eqItems8 (P := Tryz.prog) (e := 5) Tryz.isAgg5 Tryz.runUnderlying5 d l m (List.range 32) w (fun i hi => by simp at hi; omega)
  have ha : ((List.range 32).all fun i => l[i]? == m[i]?) = (l == m) := by
    rw [Bool.eq_iff_iff]
    simp only [List.all_eq_true, List.mem_range, beq_iff_eq]
    constructor
    · intro h2
      apply List.ext_getElem?
      intro i
      by_cases hi : i < 32
      · exact h2 i hi
      · rw [List.getElem?_eq_none (by omega), List.getElem?_eq_none (by omega)]
    · rintro rfl i _; rfl
  rw [ha] at h8
  exact h8
def gatB (x y : Wt) : Bool := (x.go == y.go) && ((x.gg == y.gg) && ((x.gm == y.gm) && true))
def watB (x y : Wt) : Bool := gatB x y && ((x.sl == y.sl) && ((x.mo == y.mo) && ((x.sa == y.sa) && ((x.ra == y.ra) && ((x.ba == y.ba) && ((x.ho == y.ho) && ((x.pr == y.pr) && true)))))))
def srcB2 (s r : Sr) : Bool := (s.id == r.id) && ((s.kd == r.kd) && ((s.rt == r.rt) && ((s.w == r.w) && ((s.g == r.g) && ((s.st == r.st) && ((s.hz == r.hz) && (watB s.wt r.wt && true)))))))
theorem qp_gate (d : Nat) (x y : Wt) (w : World) : (Op.equalIn (d + 2) 94 (.agg [Value.int .i64 x.go, .int .i64 x.gg, .int .i64 x.gm].toArray) (.agg [Value.int .i64 y.go, .int .i64 y.gg, .int .i64 y.gm].toArray)).run Tryz.prog w = .ok (gatB x y) w := by
  rw [run_equalIn_struct (P := Tryz.prog) w (d + 1) 94 _ _ (by kernel_rfl) (by kernel_rfl)]
  simp only [Program.fieldsOf, Tryz.underlying94]
  refine eqF2 (by decide) (part_s Tryz.isAgg23 rfl w) (part_s Tryz.isAgg23 rfl w) (eq2_i64 Tryz.runUnderlying23 d _ _ w) ?_
  refine eqF2 (by decide) (part_s Tryz.isAgg23 rfl w) (part_s Tryz.isAgg23 rfl w) (eq2_i64 Tryz.runUnderlying23 d _ _ w) ?_
  refine eqF2 (by decide) (part_s Tryz.isAgg23 rfl w) (part_s Tryz.isAgg23 rfl w) (eq2_i64 Tryz.runUnderlying23 d _ _ w) ?_
  rfl
theorem qp_watch (d : Nat) (x y : Wt) (w : World) : (Op.equalIn (d + 3) 96 (.agg x.cells.toArray) (.agg y.cells.toArray)).run Tryz.prog w = .ok (watB x y) w := by
  rw [run_equalIn_struct (P := Tryz.prog) w (d + 2) 96 _ _ (by kernel_rfl) (by kernel_rfl)]
  simp only [Program.fieldsOf, Tryz.underlying96]
  refine eqF2 (by decide) (part_a Tryz.isAgg94 Tryz.sizeOf94 rfl w) (part_a Tryz.isAgg94 Tryz.sizeOf94 rfl w) (qp_gate d x y w) ?_
  refine eqF2 (by decide) (part_s Tryz.isAgg23 rfl w) (part_s Tryz.isAgg23 rfl w) (eq2_i64 Tryz.runUnderlying23 (d + 1) _ _ w) ?_
  refine eqF2 (by decide) (part_s Tryz.isAgg23 rfl w) (part_s Tryz.isAgg23 rfl w) (eq2_i64 Tryz.runUnderlying23 (d + 1) _ _ w) ?_
  refine eqF2 (by decide) (part_s Tryz.isAgg3 rfl w) (part_s Tryz.isAgg3 rfl w) (eq2_i64 Tryz.runUnderlying3 (d + 1) _ _ w) ?_
  refine eqF2 (by decide) (part_s Tryz.isAgg23 rfl w) (part_s Tryz.isAgg23 rfl w) (eq2_i64 Tryz.runUnderlying23 (d + 1) _ _ w) ?_
  refine eqF2 (by decide) (part_s Tryz.isAgg3 rfl w) (part_s Tryz.isAgg3 rfl w) (eq2_i64 Tryz.runUnderlying3 (d + 1) _ _ w) ?_
  refine eqF2 (by decide) (part_s Tryz.isAgg3 rfl w) (part_s Tryz.isAgg3 rfl w) (eq2_i64 Tryz.runUnderlying3 (d + 1) _ _ w) ?_
  refine eqF2 (by decide) (part_s Tryz.isAgg3 rfl w) (part_s Tryz.isAgg3 rfl w) (eq2_i64 Tryz.runUnderlying3 (d + 1) _ _ w) ?_
  rfl
theorem qp_src (d : Nat) (s r : Sr) (h : s.rt.length = 32) (h' : r.rt.length = 32) (w : World) : (Op.equalIn (d + 4) 98 (.agg s.cells.toArray) (.agg r.cells.toArray)).run Tryz.prog w = .ok (srcB2 s r) w := by
  rw [run_equalIn_struct (P := Tryz.prog) w (d + 3) 98 _ _ (by kernel_rfl) (by kernel_rfl)]
  simp only [Program.fieldsOf, Tryz.underlying98]
  have ht : ∀ j, s.cells[34 + j]? = s.tl[j]? := fun j => by have := sr_t h j; rwa [show 0 + 34 + j = 34 + j by omega] at this
  have hr : ∀ j, r.cells[34 + j]? = r.tl[j]? := fun j => by have := sr_t h' j; rwa [show 0 + 34 + j = 34 + j by omega] at this
  refine eqF2 (by decide) (part_s Tryz.isAgg3 rfl w) (part_s Tryz.isAgg3 rfl w) (eq2_i64 Tryz.runUnderlying3 (d + 2) _ _ w) ?_
  refine eqF2 (by decide) (part_s Tryz.isAgg3 rfl w) (part_s Tryz.isAgg3 rfl w) (eq2_i64 Tryz.runUnderlying3 (d + 2) _ _ w) ?_
  refine eqF2 (by decide) (part_a Tryz.isAgg29 Tryz.sizeOf29 (sr_key h) w) (part_a Tryz.isAgg29 Tryz.sizeOf29 (sr_key h') w) (eq2_key (d + 1) _ _ h h' w) ?_
  refine eqF2 (by decide) (part_s Tryz.isAgg3 (ht 0) w) (part_s Tryz.isAgg3 (hr 0) w) (eq2_i64 Tryz.runUnderlying3 (d + 2) _ _ w) ?_
  refine eqF2 (by decide) (part_s Tryz.isAgg3 (ht 1) w) (part_s Tryz.isAgg3 (hr 1) w) (eq2_i64 Tryz.runUnderlying3 (d + 2) _ _ w) ?_
  refine eqF2 (by decide) (part_s Tryz.isAgg23 (ht 2) w) (part_s Tryz.isAgg23 (hr 2) w) (eq2_i64 Tryz.runUnderlying23 (d + 2) _ _ w) ?_
  refine eqF2 (by decide) (part_s Tryz.isAgg3 (ht 3) w) (part_s Tryz.isAgg3 (hr 3) w) (eq2_i64 Tryz.runUnderlying3 (d + 2) _ _ w) ?_
  refine eqF2 (by decide) (part_a Tryz.isAgg96 Tryz.sizeOf96 (sr_watch h) w) (part_a Tryz.isAgg96 Tryz.sizeOf96 (sr_watch h') w) (qp_watch d _ _ w) ?_
  rfl
theorem eql_qpsrc (s r : Sr) (h : s.rt.length = 32) (h' : r.rt.length = 32) (x y : Operand) (w : World) : (do eqGuard .eql 98 x y (.agg s.cells.toArray) (.agg r.cells.toArray); binOp .eql 98 (.agg s.cells.toArray) (.agg r.cells.toArray) : Sem Value).run Tryz.prog w = .ok (.bool (srcB2 s r)) w := by
  simp [run_eqGuard_agg, run_eql_struct, qp_src 9996 s r h h' w]
abbrev zW : Wt := ⟨0, 0, 0, 0, 0, 0, 0, 0, 0, 0⟩
theorem srcB2_zero (s : Sr) : srcB2 s ⟨s.id, s.kd, s.rt, 0, 0, 0, 0, zW⟩ = s.zero := by
  rw [Bool.eq_iff_iff]
  simp [srcB2, watB, gatB, Sr.zero]
  intros
  simp only [and_assoc]
/-! ### A source that is bare -/
theorem gaid_any' (s : Sr) : Spc Tryz.prog 67 #[.agg s.cells.toArray] [] [] (Is (.bool (aidB s.kd))) := by
  refine Spc.enter Tryz.func67 rfl rfl rfl (fun w0 hw0 => ?_)
  refine CW.seq (CW.region (ef := [0]) (bk := []) (RL.box rfl rfl rfl rfl rfl rfl ?_))
  intro b1
  refine RL.p rfl (RL.nil (NQ.seq (CW.seq (CW.rg (RL.fieldAddr fa_98_1 rfl rfl rfl rfl (RL.loadq Tryz.isAgg3 rfl rfl rfl rfl ?_))))))
  refine RL.p rfl (RL.p rfl ?_)
  apply RL.andB (d := 6) (dp := 10) (l' := (Sq.of [8])) rfl (sK [2] rfl)
  ·
    intro hb4 K4
    refine RL.fieldAddr fa_98_1 rfl rfl rfl rfl (RL.loadq Tryz.isAgg3 rfl rfl rfl rfl ?_)
    refine RL.p rfl (RL.p rfl ?_)
    exact K4 _ (.cons rfl (sK [2] rfl))
  ·
    intro hb4 K4
    refine RL.p rfl (RL.p rfl (RL.p rfl (RL.p rfl ?_)))
    exact K4 _ (.cons rfl (sK [2] rfl))
  refine RL.p rfl (RL.nil (NQ.seq (CW.ret ?_)))
  exact RQ.post (res1 rfl rfl) (Split.none _) ⟨by congr 1; rw [Bool.eq_iff_iff]; simp [aidB], rfl, rfl⟩
theorem fill_bare {a b : Int} {rt : List B8} (h : rt.length = 32) {places : Array (Nat × Nat)} (hp : places = #[(0, 1), (1, 1), (2, 32), (34, 1), (35, 1), (36, 1), (37, 1), (38, 10)]) :
    fillL (places[·]?) zeroS.cells [(0, .int .i64 a), (1, .int .i64 b), (2, .agg (bytes rt).toArray)] = some (Sr.cells ⟨a, b, rt, 0, 0, 0, 0, zW⟩) := by
  subst hp
  have hb : (bytes rt).length = 32 := by rw [List.length_map, h]
  refine fill_seg (vs := [.int .i64 a]) [] [zI] ([zI] ++ (ZK ++ zeroS.tl)) rfl rfl rfl rfl rfl rfl ?_
  refine fill_seg (vs := [.int .i64 b]) [.int .i64 a] [zI] (ZK ++ zeroS.tl) rfl rfl rfl rfl rfl rfl ?_
  refine fill_seg [.int .i64 a, .int .i64 b] ZK zeroS.tl rfl (agg_cells _) rfl rfl rfl hb ?_
  rfl
theorem sr_rt {s : Sr} (h : s.rt.length = 32) (j : Nat) (u : Value) (hu : (bytes s.rt)[j]? = some u) : s.cells[0 + 2 + j]? = some u := by
  have hj : j < (bytes s.rt).length := (List.getElem?_eq_some_iff.1 hu).1
  rw [show 0 + 2 + j = j + 1 + 1 by omega]
  show (bytes s.rt ++ s.tl)[j]? = some u
  rw [List.getElem?_append_left hj]; exact hu
theorem gbare_any (s : Sr) (h : s.rt.length = 32) : Spc Tryz.prog 38 #[.agg s.cells.toArray] [] [] (Is (.bool s.bare)) := by
  have hsl := sr_len h
  have hrl : (bytes s.rt).length = 32 := by rw [List.length_map, h]
  refine Spc.enter Tryz.func38 rfl rfl rfl (fun w0 hw0 => ?_)
  refine CW.seq (CW.region (ef := [0]) (bk := []) (RL.box rfl rfl rfl rfl rfl rfl ?_))
  intro b1
  refine RL.p rfl (RL.nil (NQ.seq (CW.seq (CW.freezeAll rfl ?_))))
  refine CW.genI (fun J hJ => ?_)
  have m1 : cel b1 s.cells 98 ∈ J := hJ _ (List.Mem.head _)
  clear hJ
  have f0 : RdI J ⟨b1, 0 + 0, none⟩ (.int .i64 s.id) := ⟨fun _ => Rd.celI m1 rfl⟩
  have f1 : RdI J ⟨b1, 0 + 1, none⟩ (.int .i64 s.kd) := ⟨fun _ => Rd.celI m1 rfl⟩
  have f2 : RdsN J ⟨b1, 0 + 2, none⟩ 32 (bytes s.rt) := RdsN.told m1 (sr_rt h) hrl
  have fA : RdsN J ⟨b1, 0, none⟩ 48 s.cells := RdsN.told m1 (fun j u hu => by rw [Nat.zero_add]; exact hu) hsl
  refine CW.rg (RL.loadSq Tryz.isAgg98 Tryz.sizeOf98 rfl rfl rfl rfl ?_)
  refine RL.callvq (gaid_any' s) Tryz.call67 rfl rfl rfl rfl ?_
  refine RL.p rfl ?_
  apply RL.orB (d := 5) (dp := 15) (l' := (Sq.of [13])) rfl (sK [2] rfl)
  ·
    intro hb3 K3
    refine RL.loadSq Tryz.isAgg98 Tryz.sizeOf98 rfl rfl rfl rfl ?_
    refine RL.fieldAddr fa_98_0 rfl rfl rfl rfl (RL.loadq Tryz.isAgg3 rfl rfl rfl rfl ?_)
    refine RL.fieldAddr fa_98_1 rfl rfl rfl rfl (RL.loadq Tryz.isAgg3 rfl rfl rfl rfl ?_)
    refine RL.fieldAddr fa_98_2 rfl rfl rfl rfl (RL.loadSq Tryz.isAgg29 Tryz.sizeOf29 rfl rfl rfl rfl ?_)
    refine RL.buildS (Sr.cells ⟨s.id, s.kd, s.rt, 0, 0, 0, 0, zW⟩) Tryz.zeroValue98 pl_98 rfl rfl rfl rfl (fill_bare h rfl) (RL.cmp rfl rfl rfl rfl rfl (fun w => eql_qpsrc s ⟨s.id, s.kd, s.rt, 0, 0, 0, 0, zW⟩ h h _ _ w) ?_)
    refine RL.p rfl ?_
    exact K3 _ (.cons rfl (sK [2] rfl))
  ·
    intro hb3 K3
    refine RL.p rfl (RL.p rfl (RL.p rfl (RL.p rfl (RL.p rfl (RL.p rfl (RL.p rfl (RL.p rfl (RL.p rfl (RL.p rfl ?_)))))))))
    exact K3 _ (.cons rfl (sK [2] rfl))
  refine RL.p rfl (RL.nil (NQ.seq (CW.ret ?_)))
  exact RQ.post (res1 rfl rfl) (Split.none _) ⟨by rw [srcB2_zero]; rfl, rfl, rfl⟩
end Go.Proofs.YthndhipjfdgdfaaGreatDoor

namespace Go.Proofs.YthndhipjfdgdfaaGreatDoor
open Go.PK
/-! ### A zone's edges; whether a zone may be -/
def edL (L : List Pt) : List (List Value) := (List.range L.length).map fun k => [.agg (L.getD k (0, 0)).cells.toArray, .agg (L.getD ((k + 1) % L.length) (0, 0)).cells.toArray]
theorem edL_at {L : List Pt} {k : Nat} {a : List Value} (h : (edL L)[k]? = some a) : k < L.length ∧ a = [.agg (L.getD k (0, 0)).cells.toArray, .agg (L.getD ((k + 1) % L.length) (0, 0)).cells.toArray] := by
  have hk : k < L.length := by
    have := (List.getElem?_eq_some_iff.1 h).1
    simpa [edL] using this
  refine ⟨hk, ?_⟩
  rw [edL, List.getElem?_map, List.getElem?_range hk] at h
  exact (Option.some.inj h).symm
theorem ptD {L : List Pt} {k : Nat} (hk : k < L.length) : L[k]? = some (L.getD k (0, 0)) := by rw [List.getD_eq_getElem?_getD, List.getElem?_eq_getElem hk]; rfl
theorem edgB_D {L : List Pt} {k : Nat} (hk : k < L.length) : edgB L k = (ptB (L.getD k (0, 0)) && !(decide (L.getD k (0, 0) = L.getD ((k + 1) % L.length) (0, 0)))) := by
  rw [edgB, ptD hk, ptD (Nat.mod_lt _ (by omega))]
theorem Split.front : ∀ A B : List It, Split (A ++ B) A []
  | [], B => Split.none B
  | _ :: A, B => .keep (Split.front A B)
theorem Les.nil' : ∀ B : List It, Les B []
  | [] => .nil
  | _ :: B => .drop (Les.nil' B)
theorem Les.front : ∀ A B : List It, Les (A ++ B) A
  | [], B => Les.nil' B
  | _ :: A, B => .keep (Les.front A B)
theorem Split.keeps : ∀ H : List It, Split H H []
  | [] => .nil
  | _ :: H => .keep (Split.keeps H)
theorem edges_it (z : Zn) (ob : Option Nat) (cap n : Nat) (hn : z.L.length = n) (hl : n ≤ 1000000) :
    Iter Tryz.prog 110 [.agg (znC z.keep (slO ob n cap) z.fl z.rf).toArray] [] [sls (ob.map fun b => ⟨b, 0, none⟩) 2 n (z.L.flatMap Pt.cells)] (edL z.L) := by
  subst hn
  intro l X Z p hY
  show Spc _ _ #[.agg (znC z.keep (slO ob z.L.length cap) z.fl z.rf).toArray, .func (.yield l) #[] #[]] _ _ _
  have hLl : ∀ q ∈ z.L, (Pt.cells q).length = 2 := fun _ _ => rfl
  have hel : (edL z.L).length = z.L.length := by simp [edL]
  refine Spc.enter Tryz.func110 rfl rfl rfl (fun w0 hw0 => ?_)
  refine CW.seq (CW.region (ef := [0]) (bk := []) (RL.box rfl rfl rfl rfl rfl rfl ?_))
  intro b1
  refine RL.nil (NQ.seq (CW.seq (CW.freezeP (A := [cel b1 (znC z.keep (slO ob z.L.length cap) z.fl z.rf) 73]) (B := X 0) (.take (Pick.none _)) rfl ?_)))
  refine CW.genI (fun J hJ => ?_)
  have m1 : cel b1 (znC z.keep (slO ob z.L.length cap) z.fl z.rf) 73 ∈ J := hJ _ (by simp)
  have m2 : sls (ob.map fun b => ⟨b, 0, none⟩) 2 z.L.length (z.L.flatMap Pt.cells) ∈ J := hJ _ (by simp)
  clear hJ
  have fS : RdI J ⟨b1, 0 + 1, none⟩ (slO ob z.L.length cap) := ⟨fun _ => Rd.celI m1 rfl⟩
  refine CW.rg (RL.fieldAddr fa_73_1 rfl rfl rfl rfl (RL.loadq Tryz.isAgg71 rfl rfl rfl rfl ?_))
  refine RL.lenS Tryz.runUnderlying71 rfl rfl rfl rfl (RL.p rfl (RL.nil (NQ.seq (CW.block (CW.loop (γ := Nat) (fun i => i ≤ z.L.length ∧ ∀ k, k < i → p k = true) (fun i => [(1, .func (.yield l) #[] #[]), (2, .pointer (some ⟨b1, 0, none⟩)), (7, slO ob z.L.length cap), (8, .int .i64 (z.L.length : Int)), (9, .int .i64 (i : Int))]) (fun _ => J) (fun i => X i) (fun i => z.L.length - i) 0 ⟨Nat.zero_le _, by omega⟩ (.cons rfl (.cons rfl (.cons rfl (.cons rfl (.cons rfl .nil))))) (fun w h => h) ?_)))))
  rintro i ⟨hi, hp⟩
  refine CW.fact (p := ob = none → z.L.length = 0) (fun w hC e => sls_nil (hC.s.i _ m2) (by rw [e]; rfl)) (fun hpa => ?_)
  refine CW.seq (CW.rg (RL.p rfl (RL.nil (NQ.seq (CW.seq ?_)))))
  refine CW.cond rfl (fun hlt => ?_) (fun hlt => ?_)
  ·
    have hlt' : i < z.L.length := by simp at hlt; omega
    cases ob with
    | none => exact absurd (hpa rfl) (by omega)
    | some bo =>
    have hm' : (i + 1) % z.L.length < z.L.length := Nat.mod_lt _ (by omega)
    have fA : RdsN J ⟨bo, 0 + i * 2, none⟩ 2 (Pt.cells (z.L.getD i (0, 0))) := flat_rdsN (f := Pt.cells) m2 (ptD hlt') hLl
    have fB : RdsN J ⟨bo, 0 + (i + 1) % z.L.length * 2, none⟩ 2 (Pt.cells (z.L.getD ((i + 1) % z.L.length) (0, 0))) := flat_rdsN (f := Pt.cells) m2 (ptD hm') hLl
    have hy := hY i _ (show (edL z.L)[i]? = some [.agg (z.L.getD i (0, 0)).cells.toArray, .agg (z.L.getD ((i + 1) % z.L.length) (0, 0)).cells.toArray] by rw [edL, List.getElem?_map, List.getElem?_range hlt']; rfl)
    refine CW.skip (NQ.seq (CW.seq (CW.block (CW.seq (CW.region (ef := [3, 5]) (bk := [5]) (RL.p rfl (RL.idxAt (j := i) Tryz.runUnderlying71 Tryz.sizeOf80 rfl rfl rfl rfl rfl rfl (hlt') (RL.loadSq Tryz.isAgg80 Tryz.sizeOf80 rfl rfl rfl rfl ?_))))))))
    refine RL.alloc Tryz.zeroValue80 rfl rfl rfl rfl rfl ?_
    intro b2
    refine RL.p rfl (RL.store (vs := [_, _]) Tryz.sizeOf80 rfl rfl rfl rfl rfl rfl rfl rfl rfl (by repeat (first | exact Upd.here | apply Upd.there)) ?_)
    refine RL.nil (NQ.seq (CW.seq (CW.regionD (Sq.of [0, 1, 2, 3, 4, 5, 6, 7, 8, 9, 10, 11, 12, 13]) [12] [12] [0, 2, 3, 4, 5, 6, 7, 8, 9, 10, 11, 13] mixed (by kernel_rfl) ?_)))
    refine RL.p rfl (RL.loadW Tryz.isAgg80 Tryz.sizeOf80 rfl rfl rfl rfl (by repeat (first | exact List.Mem.head _ | apply List.Mem.tail)) rfl ?_)
    refine RL.fieldAddr fa_73_1 rfl rfl rfl rfl (RL.loadTq Tryz.isAgg71 rfl rfl rfl rfl ?_)
    refine RL.p rfl (RL.bx rfl (wrapV_i64 (by omega) (by omega)) ?_)
    refine RL.fieldAddr fa_73_1 rfl rfl rfl rfl (RL.loadTq Tryz.isAgg71 rfl rfl rfl rfl ?_)
    refine RL.lenS Tryz.runUnderlying71 rfl rfl rfl rfl (RL.remX (v' := .int .i64 (((i + 1) % z.L.length : Nat) : Int)) rfl rfl rfl rfl rfl (by omega) (by rw [show ((i : Int) + 1).tmod (z.L.length : Int) = (((i + 1) % z.L.length : Nat) : Int) from rfl]) ?_)
    refine RL.idxAt (j := (i + 1) % z.L.length) Tryz.runUnderlying71 Tryz.sizeOf80 rfl rfl rfl rfl rfl rfl hm' (RL.loadSTq Tryz.isAgg80 Tryz.sizeOf80 rfl rfl rfl rfl ?_)
    refine RL.callY hy rfl rfl rfl rfl rfl rfl rfl (.leave (Pick.all _)) ?_
    rintro _ _ ⟨rfl, rfl⟩
    refine RL.p rfl (RL.nil (NQ.seq (CW.ok [1, 2, 7, 8, 9, 27] rfl ?_)))
    refine CW.cond rfl (fun hq => ?_) (fun hq => ?_)
    · have hpf : p i = false := by simpa using hq
      refine CW.ret (RQ.block (RQ.seq (RQ.seq (RQ.block ?_))))
      rw [if_neg (by rw [hpf]; decide)]
      exact RQ.post (res0 rfl) (Split.front _ _) ⟨rfl, rfl, .inr ⟨i, by rw [hel]; exact hlt', hpf, rfl⟩⟩
    · have hpt : p i = true := by simpa using hq
      refine CW.skip (NQ.block (NQ.seq (CW.rg (RL.bx rfl (wrapV_i64 (by omega) (by omega)) ?_))))
      refine RL.p rfl (RL.nil ?_)
      rw [if_pos hpt]
      exact NQ.round (g := i) (i + 1) ⟨hlt', fun k hk => by rcases Nat.lt_succ_iff_lt_or_eq.1 hk with h | rfl; exact hp k h; exact hpt⟩ (by omega) (.cons rfl (.cons rfl (.cons rfl (.cons rfl (.cons rfl .nil))))) (fun w h => h.les (fun _ h => h) (Les.front _ _))
  ·
    refine CW.exit (XQ.seq (XQ.seq (XQ.hit ?_)))
    have hin : i = z.L.length := by simp at hlt; omega
    subst hin
    exact NQ.post (res0 rfl) (Split.keeps _) ⟨rfl, rfl, .inl ⟨by rw [hel], fun k hk => hp k (by rwa [hel] at hk)⟩⟩
end Go.Proofs.YthndhipjfdgdfaaGreatDoor

namespace Go.Proofs.YthndhipjfdgdfaaGreatDoor
open Go.PK
/-! ### Whether a zone may be -/
theorem zn_yes {z : Zn} (h : 3 ≤ z.L.length ∧ z.L.length ≤ 16 ∧ z.fl ≤ z.rf) (hk : ∀ k, k < z.L.length → edgB z.L k = true) : z.err = 0 := by
  rw [Zn.err, Zn.ok, decide_eq_true h, Bool.true_and, if_pos]
  simpa using hk
theorem zn_no {z : Zn} {k : Nat} (hk : k < z.L.length) (h : edgB z.L k = false) : z.err = 2 := by
  rw [Zn.err, if_neg]
  rw [Zn.ok, Bool.and_eq_true, not_and]
  intro _ h2
  have := List.all_eq_true.1 h2 k (by simpa using hk)
  rw [h] at this; cases this
theorem zn_no' {z : Zn} (h : ¬ (3 ≤ z.L.length ∧ z.L.length ≤ 16 ∧ z.fl ≤ z.rf)) : z.err = 2 := by
  rw [Zn.err, if_neg]
  rw [Zn.ok, decide_eq_false h]; simp
theorem fcheck_any (z : Zn) (ob : Option Nat) (cap n : Nat) (hn : z.L.length = n) (hl : n ≤ 1000000) :
    Spc Tryz.prog 72 #[.agg (znC z.keep (slO ob n cap) z.fl z.rf).toArray] [sls (ob.map fun b => ⟨b, 0, none⟩) 2 n (z.L.flatMap Pt.cells)] [] (Is (.int .i64 z.err)) := by
  have hit := edges_it z ob cap n hn hl
  subst hn
  refine Spc.enter Tryz.func72 rfl rfl rfl (fun w0 hw0 => ?_)
  refine CW.seq (CW.region (ef := [0, 1]) (bk := []) (RL.box rfl rfl rfl rfl rfl rfl ?_))
  intro b1
  refine RL.alloc Tryz.zeroValue45 rfl rfl rfl rfl rfl ?_
  intro b2
  refine RL.nil (NQ.seq (CW.seq (CW.seq (CW.rg (RL.fieldAddr fa_73_1 rfl rfl rfl rfl (RL.loadq Tryz.isAgg71 rfl rfl rfl rfl ?_))))))
  refine RL.lenS Tryz.runUnderlying71 rfl rfl rfl rfl (RL.p rfl (RL.p rfl ?_))
  apply RL.orB (d := 9) (dp := 14) (l' := (Sq.of [10, 11, 12, 13, 14, 15, 16])) rfl (sK [1, 2] rfl)
  ·
    intro hb5 K5
    refine RL.fieldAddr fa_73_1 rfl rfl rfl rfl (RL.loadq Tryz.isAgg71 rfl rfl rfl rfl ?_)
    refine RL.lenS Tryz.runUnderlying71 rfl rfl rfl rfl (RL.p rfl (RL.p rfl ?_))
    exact K5 _ (.cons rfl (sK [1, 2] rfl))
  ·
    intro hb5 K5
    refine RL.p rfl (RL.p rfl (RL.p rfl (RL.p rfl (RL.p rfl ?_))))
    exact K5 _ (.cons rfl (sK [1, 2] rfl))
  refine RL.p rfl ?_
  apply RL.orB (d := 15) (dp := 21) (l' := (Sq.of [])) rfl (sK [1, 2] rfl)
  ·
    intro hb11 K11
    refine RL.fieldAddr fa_73_3 rfl rfl rfl rfl (RL.loadq Tryz.isAgg23 rfl rfl rfl rfl ?_)
    refine RL.fieldAddr fa_73_2 rfl rfl rfl rfl (RL.loadq Tryz.isAgg23 rfl rfl rfl rfl ?_)
    refine RL.p rfl (RL.p rfl ?_)
    exact K11 _ (.cons rfl (sK [1, 2] rfl))
  ·
    intro hb11 K11
    refine RL.p rfl (RL.p rfl (RL.p rfl (RL.p rfl (RL.p rfl (RL.p rfl ?_)))))
    exact K11 _ (.cons rfl (sK [1, 2] rfl))
  refine RL.nil (NQ.seq ?_)
  refine CW.cond rfl (fun h1 => ?_) (fun h1 => ?_)
  ·
    refine CW.seq (CW.region (ef := [0]) (bk := [0]) (RL.store (vs := [_]) Tryz.sizeOf45 rfl rfl rfl rfl rfl rfl rfl rfl rfl (by repeat (first | exact Upd.here | apply Upd.there)) ?_))
    refine RL.nil (NQ.seq (CW.ret (RQ.seq ?_)))
    exact RQ.post (resV rfl rfl Tryz.isAgg45 (by repeat (first | exact List.Mem.head _ | apply List.Mem.tail))) (Split.none _) ⟨by rw [zn_no' (by simp at h1; omega)], rfl, rfl⟩
  ·
    refine CW.skip (NQ.seq (CW.seq (CW.seq (CW.rg (RL.loadSq Tryz.isAgg73 Tryz.sizeOf73 rfl rfl rfl rfl ?_)))))
    refine RL.makeFunc rfl rfl rfl rfl rfl (RL.nil (NQ.seq (CW.block ?_)))
    have h1' : 3 ≤ z.L.length ∧ z.L.length ≤ 16 ∧ z.fl ≤ z.rf := by simp at h1; omega
    refine CW.rangeFunc (X := fun _ => [cel b2 [.int .i64 0] 45]) (Z := fun _ => [cel b2 [.int .i64 2] 45]) (p := edgB z.L) hit rfl Tryz.call110 (fun a ha => ?_) (by decide) (by repeat (first | exact Pick.nil | apply Pick.take | apply Pick.leave)) (by repeat (first | exact Lend.nil | (refine Lend.inI ?_ ?_; (solve | (repeat (first | exact List.Mem.head _ | apply List.Mem.tail)))) | (refine Lend.inH ?_ ?_; (solve | (repeat (first | exact List.Mem.head _ | apply List.Mem.tail)))))) (fun l r k a w1 ha => ?_) (fun hall D => ?_) (fun k hk1 hk2 D => ?_)
    · simp only [edL, List.mem_map] at ha
      obtain ⟨_, -, rfl⟩ := ha
      rfl
    · obtain ⟨hk, rfl⟩ := edL_at ha
      rw [edgB_D hk]
      generalize z.L.getD k (0, 0) = pa
      generalize z.L.getD ((k + 1) % z.L.length) (0, 0) = pb
      refine CW.seq (CW.region (ef := [0, 1]) (bk := [1]) (RL.alloc Tryz.zeroValue80 rfl rfl rfl rfl rfl ?_))
      intro b3
      refine RL.store (vs := [_, _]) Tryz.sizeOf80 rfl rfl rfl rfl rfl rfl rfl rfl rfl (by repeat (first | exact Upd.here | apply Upd.there)) ?_
      refine RL.nil (NQ.seq (CW.region (ef := [0, 1]) (bk := [1]) (RL.alloc Tryz.zeroValue80 rfl rfl rfl rfl rfl ?_)))
      intro b4
      refine RL.store (vs := [_, _]) Tryz.sizeOf80 rfl rfl rfl rfl rfl rfl rfl rfl rfl (by repeat (first | exact Upd.here | apply Upd.there)) ?_
      refine RL.nil (NQ.rdBegin ?_)
      refine CW.block (CW.seq (CW.rg (RL.loadSq Tryz.isAgg80 Tryz.sizeOf80 rfl rfl rfl rfl ?_)))
      refine RL.callvq (fright_any pa) Tryz.call111 rfl rfl rfl rfl ?_
      refine RL.p rfl (RL.p rfl ?_)
      apply RL.orB (d := 29) (dp := 33) (l' := (Sq.of [])) rfl (sK [2, 24, 25] rfl)
      ·
        intro hb4 K4
        refine RL.loadSq Tryz.isAgg80 Tryz.sizeOf80 rfl rfl rfl rfl ?_
        refine RL.loadSq Tryz.isAgg80 Tryz.sizeOf80 rfl rfl rfl rfl ?_
        refine RL.cmp rfl rfl rfl rfl rfl (fun w => eql_pt (by kernel_rfl) (ii := Tryz.t23) (by kernel_rfl) (by kernel_rfl) Tryz.isAgg23 Tryz.runUnderlying23 (by kernel_rfl) pa pb _ _ w) ?_
        refine RL.p rfl ?_
        exact K4 _ (.cons rfl (sK [2, 24, 25] rfl))
      ·
        intro hb4 K4
        refine RL.p rfl (RL.p rfl (RL.p rfl (RL.p rfl ?_)))
        exact K4 _ (.cons rfl (sK [2, 24, 25] rfl))
      refine RL.nil (NQ.seq ?_)
      refine CW.cond rfl (fun hq => ?_) (fun hq => ?_)
      · have hp : (ptB pa && !decide (pa = pb)) = false := by revert hq; cases ptB pa <;> cases decide (pa = pb) <;> simp
        rw [hp]
        refine CW.seq (CW.region (ef := [0]) (bk := [0]) (RL.store (vs := [_]) Tryz.sizeOf45 rfl rfl rfl rfl rfl rfl rfl rfl rfl (by repeat (first | exact Upd.here | apply Upd.there)) ?_))
        refine RL.nil (NQ.seq (CW.ret (RQ.block ?_)))
        exact RQ.rdRet (by repeat (first | exact Rea.nil | (apply Rea.cons; (solve | (repeat (first | exact Del.here | apply Del.there)))))) ⟨rfl, rfl⟩
      · have hp : (ptB pa && !decide (pa = pb)) = true := by revert hq; cases ptB pa <;> cases decide (pa = pb) <;> simp
        rw [hp]
        refine CW.skip (NQ.block ?_)
        exact NQ.rdEnd (by repeat (first | exact Rea.nil | (apply Rea.cons; (solve | (repeat (first | exact Del.here | apply Del.there)))))) ⟨rfl, rfl⟩
    ·
      refine NQ.block (NQ.seq (CW.seq (CW.region (ef := [0]) (bk := [0]) (RL.store (vs := [_]) Tryz.sizeOf45 rfl rfl rfl rfl rfl rfl rfl rfl rfl (by repeat (first | exact Upd.here | apply Upd.there)) ?_))))
      refine RL.nil (NQ.seq (CW.ret (RQ.marks ?_)))
      exact RQ.post (resV rfl rfl Tryz.isAgg45 (by repeat (first | exact List.Mem.head _ | apply List.Mem.tail))) (Split.none _) ⟨by rw [zn_yes h1' (fun k hk => hall k (by rw [edL]; simpa using hk))], rfl, rfl⟩
    ·
      refine RQ.block (RQ.seq (RQ.marks ?_))
      exact RQ.post (resV rfl rfl Tryz.isAgg45 (by repeat (first | exact List.Mem.head _ | apply List.Mem.tail))) (Split.none _) ⟨by rw [zn_no (by simpa [edL] using hk1) hk2], rfl, rfl⟩
end Go.Proofs.YthndhipjfdgdfaaGreatDoor

namespace Go.Proofs.YthndhipjfdgdfaaGreatDoor
open Go.PK
/-! ### The reference: whether a zone may be -/
end Go.Proofs.YthndhipjfdgdfaaGreatDoor

namespace Go.Proofs.YthndhipjfdgdfaaGreatDoor
open Go.PK
/-! ### A plan's parts -/
def prE (P : Pl) : List Int := P.cf.err :: errI (0 ≤ P.de ∧ P.de ≤ 65535 ∧ 0 ≤ P.ra ∧ P.ra ≤ 1048576 ∧ 1 ≤ P.mo ∧ P.mo ≤ 100) :: errI (1 ≤ P.sz ∧ P.sz ≤ 4096) :: P.zs.map Zn.err
def prL (P : Pl) : List (List Value) := (prE P).map fun e => [.int .i64 e]
theorem prL_len (P : Pl) : (prL P).length = 3 + P.zs.length := by simp [prL, prE]; omega
theorem prL_z {P : Pl} {ZL : List ZO} (hz : ZL.map (·.1) = P.zs) {i : Nat} {z : ZO} (h : ZL[i]? = some z) : (prL P)[3 + i]? = some [.int .i64 z.1.err] := by
  rw [prL, prE, ← hz, List.getElem?_map, show 3 + i = i + 1 + 1 + 1 by omega]
  simp [h]
theorem pl_cf {P : Pl} (h : P.cf.cm.length = 32) (sl zl : Value) (j : Nat) (u : Value) (hu : (P.cf.cells sl)[j]? = some u) : (plC P sl zl)[0 + 0 + j]? = some u := by
  rw [show 0 + 0 + j = j by omega, plC, List.getElem?_append_left (by rw [cf_len h]; have := (List.getElem?_eq_some_iff.1 hu).1; rwa [cf_len h] at this)]; exact hu
theorem pl_tl {P : Pl} (h : P.cf.cm.length = 32) (sl zl : Value) (j : Nat) : (plC P sl zl)[0 + (45 + j)]? = [zl, .int .i64 P.de, .int .i64 P.ra, .int .i64 P.mo, .int .i64 P.sz][j]? := by
  rw [plC, List.getElem?_append_right (by rw [cf_len h]; omega), cf_len h, show 0 + (45 + j) - 45 = j by omega]
theorem pl_len {P : Pl} (h : P.cf.cm.length = 32) (sl zl : Value) : (plC P sl zl).length = 50 := by rw [plC, List.length_append, cf_len h]; rfl
/-- The plan's things, told. -/
abbrev plI (P : Pl) (oa oz : Option Nat) (ZL : List ZO) : List It := sls (oa.map fun b => ⟨b, 0, none⟩) 48 P.cf.L.length (P.cf.L.flatMap Sr.cells) :: sls (oz.map fun b => ⟨b, 0, none⟩) 4 P.zs.length (ZL.flatMap znO) :: ZL.map znS
structure Pl.Fit (P : Pl) (ZL : List ZO) : Prop where
  cf : P.cf.Fit
  zl : ZL.map (·.1) = P.zs
  nl : P.cf.L.length ≤ 1000000
  nz : P.zs.length ≤ 1000000
  np : ∀ z ∈ ZL, z.1.L.length ≤ 1000000
theorem znO_len (z : ZO) : (znO z).length = 4 := rfl
theorem Pl.Fit.len {P : Pl} {ZL : List ZO} (h : P.Fit ZL) : ZL.length = P.zs.length := by rw [← h.zl, List.length_map]
theorem parts_it (P : Pl) (oa oz : Option Nat) (ca cz : Nat) (ZL : List ZO) (hP : P.Fit ZL) :
    Iter Tryz.prog 37 [.agg (plC P (slO oa P.cf.L.length ca) (slO oz P.zs.length cz)).toArray] [] (plI P oa oz ZL) (prL P) := by
  intro l X Z p hY
  show Spc _ _ #[.agg (plC P (slO oa P.cf.L.length ca) (slO oz P.zs.length cz)).toArray, .func (.yield l) #[] #[]] _ _ _
  have hel := prL_len P
  have hnz := hP.nz
  have hnl := hP.nl
  refine Spc.enter Tryz.func37 rfl rfl rfl (fun w0 hw0 => ?_)
  refine CW.seq (CW.region (ef := [0]) (bk := []) (RL.box rfl rfl rfl rfl rfl rfl ?_))
  intro b1
  refine RL.nil (NQ.seq (CW.seq (CW.seq (CW.freezeP (A := [cel b1 (plC P (slO oa P.cf.L.length ca) (slO oz P.zs.length cz)) 35]) (B := X 0) (.take (Pick.none _)) rfl ?_))))
  refine CW.genI (fun J hJ => ?_)
  have m1 : cel b1 (plC P (slO oa P.cf.L.length ca) (slO oz P.zs.length cz)) 35 ∈ J := hJ _ (by simp)
  have m2 : sls (oa.map fun b => ⟨b, 0, none⟩) 48 P.cf.L.length (P.cf.L.flatMap Sr.cells) ∈ J := hJ _ (by simp)
  have m3 : sls (oz.map fun b => ⟨b, 0, none⟩) 4 P.zs.length (ZL.flatMap znO) ∈ J := hJ _ (by simp)
  have m4 : ∀ z ∈ ZL, znS z ∈ J := fun z hz => hJ _ (by repeat (first | exact List.mem_map_of_mem hz | apply List.mem_cons_of_mem))
  clear hJ
  have fC : RdsN J ⟨b1, 0 + 0, none⟩ 45 (P.cf.cells (slO oa P.cf.L.length ca)) := RdsN.told m1 (pl_cf hP.cf.cm _ _) (cf_len hP.cf.cm _)
  have fS : RdI J ⟨b1, 0 + 0 + 0, none⟩ (slO oa P.cf.L.length ca) := ⟨fun _ => Rd.celI m1 rfl⟩
  have fZ : RdI J ⟨b1, 0 + 45, none⟩ (slO oz P.zs.length cz) := ⟨fun _ => Rd.getI m1 (pl_tl hP.cf.cm _ _ 0)⟩
  have f6 : RdI J ⟨b1, 0 + 46, none⟩ (.int .i64 P.de) := ⟨fun _ => Rd.getI m1 (pl_tl hP.cf.cm _ _ 1)⟩
  have f7 : RdI J ⟨b1, 0 + 47, none⟩ (.int .i64 P.ra) := ⟨fun _ => Rd.getI m1 (pl_tl hP.cf.cm _ _ 2)⟩
  have f8 : RdI J ⟨b1, 0 + 48, none⟩ (.int .i64 P.mo) := ⟨fun _ => Rd.getI m1 (pl_tl hP.cf.cm _ _ 3)⟩
  have f9 : RdI J ⟨b1, 0 + 49, none⟩ (.int .i64 P.sz) := ⟨fun _ => Rd.getI m1 (pl_tl hP.cf.cm _ _ 4)⟩
  refine CW.region (ef := [4]) (bk := [4]) (RL.p rfl (RL.fieldAddr fa_35_0 rfl rfl rfl rfl (RL.loadSq Tryz.isAgg32 Tryz.sizeOf32 rfl rfl rfl rfl ?_)))
  refine RL.callv (ccheck_any P.cf oa ca _ rfl hP.cf hP.nl) Tryz.call69 rfl rfl rfl rfl (.inI m2 .nil) (RL.callY (hY 0 _ rfl) rfl rfl rfl rfl rfl rfl rfl (Pick.all _) ?_)
  rintro _ _ ⟨rfl, rfl⟩
  rw [List.append_nil]
  refine RL.p rfl (RL.nil (NQ.seq (CW.ok [1, 2, 15] rfl ?_)))
  refine CW.cond rfl (fun h0 => ?_) (fun h0 => ?_)
  · have hpf : p 0 = false := by simpa using h0
    refine CW.ret (RQ.seq ?_)
    rw [if_neg (by rw [hpf]; decide)]
    exact RQ.post (res0 rfl) (Split.keeps _) ⟨rfl, rfl, .inr ⟨0, by omega, hpf, rfl⟩⟩
  · have hp0 : p 0 = true := by simpa using h0
    rw [if_pos hp0]
    refine CW.skip (NQ.seq (CW.seq (CW.region (ef := [6]) (bk := []) (RL.fieldAddr fa_35_2 rfl rfl rfl rfl (RL.loadq Tryz.isAgg3 rfl rfl rfl rfl ?_)))))
    refine RL.fieldAddr fa_35_3 rfl rfl rfl rfl (RL.loadq Tryz.isAgg3 rfl rfl rfl rfl ?_)
    refine RL.fieldAddr fa_35_4 rfl rfl rfl rfl (RL.loadq Tryz.isAgg3 rfl rfl rfl rfl ?_)
    refine RL.call (syn_any P.de P.ra P.mo) Tryz.call70 rfl rfl rfl rfl rfl (Pick.none _) .nil (.inl rfl) ?_
    rintro _ _ _ ⟨p1, rfl, rfl, rfl⟩
    rw [List.nil_append, List.nil_append]
    refine RL.p rfl (RL.p rfl (RL.p rfl (RL.p rfl (RL.p rfl (RL.nil (NQ.seq (CW.ok [1, 2, 5] rfl (CW.seq (CW.region (ef := [2]) (bk := []) (RL.fieldAddr fa_35_5 rfl rfl rfl rfl (RL.loadq Tryz.isAgg3 rfl rfl rfl rfl ?_)))))))))))
    refine RL.call (tra_any P.sz) Tryz.call71 rfl rfl rfl rfl rfl (Pick.none _) .nil (.inl rfl) ?_
    rintro _ _ _ ⟨p2, rfl, rfl, rfl⟩
    rw [List.nil_append, List.nil_append]
    refine RL.p rfl (RL.p rfl (RL.p rfl (RL.p rfl (RL.p rfl (RL.nil (NQ.seq (CW.ok [1, 2, 5, 7] rfl (CW.seq (CW.seq (CW.region (ef := [2, 7]) (bk := [2, 7]) (RL.p rfl (RL.p rfl (RL.callY (hY 1 _ rfl) rfl rfl rfl rfl rfl rfl rfl (Pick.all _) ?_)))))))))))))
    rintro _ _ ⟨rfl, rfl⟩
    rw [List.append_nil]
    refine RL.p rfl (RL.p rfl ?_)
    refine RL.part (d := 36) rfl (fun h1 => ?_) (fun h1 => ?_)
    ·
      refine RL.p rfl (RL.p rfl (RL.p rfl (RL.p rfl (RL.p rfl (RL.nil (NQ.seq (CW.ok [1, 2, 41] rfl (CW.condT rfl rfl (CW.ret (RQ.seq ?_))))))))))
      have hpf : p 1 = false := by simpa using h1
      rw [if_neg (by rw [hpf]; decide)]
      exact RQ.post (res0 rfl) (Split.keeps _) ⟨rfl, rfl, .inr ⟨1, by omega, hpf, rfl⟩⟩
    · have hp1 : p 1 = true := by simpa using h1
      rw [if_pos hp1]
      refine RL.p rfl (RL.p rfl (RL.callY (hY 2 _ rfl) rfl rfl rfl rfl rfl rfl rfl (Pick.all _) ?_))
      rintro _ _ ⟨rfl, rfl⟩
      rw [List.append_nil]
      refine RL.p rfl (RL.p rfl (RL.nil (NQ.seq (CW.ok [1, 2, 41] rfl ?_))))
      refine CW.cond rfl (fun h2 => ?_) (fun h2 => ?_)
      · have hpf : p 2 = false := by simpa using h2
        refine CW.ret (RQ.seq ?_)
        rw [if_neg (by rw [hpf]; decide)]
        exact RQ.post (res0 rfl) (Split.keeps _) ⟨rfl, rfl, .inr ⟨2, by omega, hpf, rfl⟩⟩
      · have hp2 : p 2 = true := by simpa using h2
        rw [if_pos hp2]
        refine CW.skip (NQ.seq (CW.seq (CW.rg (RL.fieldAddr fa_35_1 rfl rfl rfl rfl (RL.loadq Tryz.isAgg33 rfl rfl rfl rfl ?_)))))
        refine RL.lenS Tryz.runUnderlying33 rfl rfl rfl rfl (RL.p rfl (RL.nil (NQ.seq (CW.block ?_))))
        refine CW.loop (γ := Nat) (fun i => i ≤ P.zs.length ∧ ∀ k, k < 3 + i → p k = true) (fun i => [(1, .func (.yield l) #[] #[]), (43, slO oz P.zs.length cz), (44, .int .i64 (P.zs.length : Int)), (45, .int .i64 (i : Int))]) (fun _ => J) (fun i => X (3 + i)) (fun i => P.zs.length - i) 0 ⟨Nat.zero_le _, fun k hk => by
          have : k = 0 ∨ k = 1 ∨ k = 2 := by omega
          rcases this with rfl | rfl | rfl
          · exact hp0
          · exact hp1
          · exact hp2⟩ (.cons rfl (.cons rfl (.cons rfl (.cons rfl .nil)))) (fun w h => h) ?_
        rintro i ⟨hi, hp⟩
        refine CW.fact (p := oz = none → P.zs.length = 0) (fun w hC e => sls_nil (hC.s.i _ m3) (by rw [e]; rfl)) (fun hpa => ?_)
        refine CW.seq (CW.rg (RL.p rfl (RL.nil (NQ.seq (CW.seq ?_)))))
        refine CW.cond rfl (fun hlt => ?_) (fun hlt => ?_)
        ·
          have hlt' : i < P.zs.length := by simp at hlt; omega
          cases oz with
          | none => exact absurd (hpa rfl) (by omega)
          | some bz =>
          have hzl := hP.len
          obtain ⟨z, hz⟩ : ∃ z, ZL[i]? = some z := ⟨_, List.getElem?_eq_getElem (by omega)⟩
          have hzm := List.mem_of_getElem? hz
          have fA : RdsN J ⟨bz, 0 + i * 4, none⟩ 4 (znO z) := flat_rdsN (f := znO) m3 hz (fun z _ => znO_len z)
          have hy := hY (3 + i) _ (prL_z hP.zl hz)
          refine CW.skip (NQ.seq (CW.seq (CW.block (CW.seq (CW.region (ef := [2, 3]) (bk := [3]) (RL.idxAt (j := i) Tryz.runUnderlying33 Tryz.sizeOf73 rfl rfl rfl rfl rfl rfl (hlt') (RL.loadSq Tryz.isAgg73 Tryz.sizeOf73 rfl rfl rfl rfl ?_)))))))
          refine RL.alloc Tryz.zeroValue73 rfl rfl rfl rfl rfl ?_
          intro b2
          refine RL.store (vs := [_, _, _, _]) Tryz.sizeOf73 rfl rfl rfl rfl rfl rfl rfl rfl rfl (by repeat (first | exact Upd.here | apply Upd.there)) ?_
          refine RL.nil (NQ.seq (CW.seq (CW.region (ef := [3]) (bk := [3]) (RL.p rfl (RL.loadW Tryz.isAgg73 Tryz.sizeOf73 rfl rfl rfl rfl (by repeat (first | exact List.Mem.head _ | apply List.Mem.tail)) rfl ?_)))))
          refine RL.callv (fcheck_any z.1 z.2.1 z.2.2 _ rfl (hP.np z hzm)) Tryz.call72 rfl rfl rfl rfl (.inI (m4 z hzm) .nil) (RL.callY hy rfl rfl rfl rfl rfl rfl rfl (.leave (Pick.all _)) ?_)
          rintro _ _ ⟨rfl, rfl⟩
          refine RL.p rfl (RL.nil (NQ.seq (CW.ok [1, 43, 44, 45, 53] rfl ?_)))
          refine CW.cond rfl (fun hq => ?_) (fun hq => ?_)
          · have hpf : p (3 + i) = false := by simpa using hq
            refine CW.ret (RQ.block (RQ.seq (RQ.seq (RQ.block ?_))))
            rw [if_neg (by rw [hpf]; decide)]
            exact RQ.post (res0 rfl) (Split.front _ _) ⟨rfl, rfl, .inr ⟨3 + i, by omega, hpf, rfl⟩⟩
          · have hpt : p (3 + i) = true := by simpa using hq
            refine CW.skip (NQ.block (NQ.seq (CW.rg (RL.bx rfl (wrapV_i64 (by omega) (by omega)) ?_))))
            refine RL.p rfl (RL.nil ?_)
            rw [if_pos hpt]
            exact NQ.round (g := i) (i + 1) ⟨hlt', fun k hk => by rcases Nat.lt_succ_iff_lt_or_eq.1 (show k < (3 + i) + 1 by omega) with h | rfl; exact hp k h; exact hpt⟩ (by omega) (.cons rfl (.cons rfl (.cons rfl (.cons rfl .nil)))) (fun w h => h.les (fun _ h => h) (Les.front _ _))
        ·
          refine CW.exit (XQ.seq (XQ.seq (XQ.hit ?_)))
          have hin : i = P.zs.length := by simp at hlt; omega
          subst hin
          exact NQ.post (res0 rfl) (Split.keeps _) ⟨rfl, rfl, .inl ⟨by rw [hel], fun k hk => hp k (by omega)⟩⟩
end Go.Proofs.YthndhipjfdgdfaaGreatDoor

namespace Go.Proofs.YthndhipjfdgdfaaGreatDoor
open Go.PK
/-! ### Whether a plan may be -/
theorem pl_yes {P : Pl} (h8 : P.zs.length ≤ 8) (hp : ∀ e ∈ prE P, e = 0) (hb : P.cf.L.all Sr.bare = true) : P.err = 0 := by
  rw [Pl.err, if_pos]
  have h0 := hp _ (List.Mem.head _)
  have h1 := hp _ (List.Mem.tail _ (List.Mem.head _))
  have h2 := hp _ (List.Mem.tail _ (List.Mem.tail _ (List.Mem.head _)))
  have hz : ∀ z ∈ P.zs, z.err = 0 := fun z hz => hp _ (List.Mem.tail _ (List.Mem.tail _ (List.Mem.tail _ (List.mem_map_of_mem hz))))
  rw [errI_0] at h1 h2
  have hc : P.cf.ok = true := by
    cases h : P.cf.ok with
    | true => rfl
    | false => rw [Cf.err, h] at h0; simp at h0
  rw [Pl.ok, hc, synB, traB, decide_eq_true h1, decide_eq_true h2, decide_eq_true h8, hb]
  simp only [Bool.true_and, Bool.and_true, List.all_eq_true]
  intro z hzm
  have := hz z hzm
  rw [Zn.err] at this
  cases h : z.ok with
  | true => rfl
  | false => rw [h] at this; simp at this
theorem pl_no8 {P : Pl} (h : ¬ P.zs.length ≤ 8) : P.err = 310 := by
  rw [Pl.err, if_neg]
  rw [Pl.ok, decide_eq_false h]; simp
theorem pl_noE {P : Pl} {e : Int} (hm : e ∈ prE P) (h : e ≠ 0) : P.err = 310 := by
  rw [Pl.err, if_neg]
  intro hok
  simp only [Pl.ok, Bool.and_eq_true, List.all_eq_true, decide_eq_true_eq] at hok
  obtain ⟨⟨⟨a1, a2⟩, a3⟩, ⟨a4, a5⟩, a6⟩ := hok
  rw [prE] at hm
  rcases List.mem_cons.1 hm with rfl | hm
  · exact h (by rw [Cf.err, if_pos a1])
  · rcases List.mem_cons.1 hm with rfl | hm
    · exact h (errI_yes (of_decide_eq_true a2))
    · rcases List.mem_cons.1 hm with rfl | hm
      · exact h (errI_yes (of_decide_eq_true a3))
      · obtain ⟨z, hz, rfl⟩ := List.mem_map.1 hm
        exact h (by rw [Zn.err, if_pos (a5 z hz)])
theorem pl_noB {P : Pl} {s : Sr} (hs : s ∈ P.cf.L) (h : s.bare = false) : P.err = 310 := by
  rw [Pl.err, if_neg]
  intro hok
  simp only [Pl.ok, Bool.and_eq_true, List.all_eq_true] at hok
  have := hok.2.2 s hs
  rw [h] at this; cases this
theorem prL_at {P : Pl} {k : Nat} {a : List Value} (h : (prL P)[k]? = some a) : ∃ e, (prE P)[k]? = some e ∧ a = [.int .i64 e] := by
  rw [prL, List.getElem?_map] at h
  cases hk : (prE P)[k]? with
  | none => rw [hk] at h; cases h
  | some e => rw [hk] at h; exact ⟨e, rfl, (Option.some.inj h).symm⟩
def prB (P : Pl) (k : Nat) : Bool := (prE P)[k]?.getD 0 == 0
theorem gcheck_any (P : Pl) (oa oz : Option Nat) (ca cz : Nat) (ZL : List ZO) (hP : P.Fit ZL) :
    Spc Tryz.prog 10 #[.agg (plC P (slO oa P.cf.L.length ca) (slO oz P.zs.length cz)).toArray] (plI P oa oz ZL) [] (Is (.int .i64 P.err)) := by
  have hit := parts_it P oa oz ca cz ZL hP
  have hnz := hP.nz
  have hnl := hP.nl
  have hpl := pl_len hP.cf.cm (slO oa P.cf.L.length ca) (slO oz P.zs.length cz)
  have hLl : ∀ s ∈ P.cf.L, s.cells.length = 48 := fun s hs => sr_len (hP.cf.L s hs).rt
  refine Spc.enter Tryz.func10 rfl rfl rfl (fun w0 hw0 => ?_)
  refine CW.seq (CW.region (ef := [0, 1]) (bk := []) (RL.box rfl rfl rfl rfl rfl rfl ?_))
  intro b1
  refine RL.alloc Tryz.zeroValue45 rfl rfl rfl rfl rfl ?_
  intro b2
  refine RL.nil (NQ.seq (CW.seq (CW.seq (CW.freezeP (A := [cel b1 (plC P (slO oa P.cf.L.length ca) (slO oz P.zs.length cz)) 35]) (B := [cel b2 [.int .i64 0] 45]) (by repeat (first | exact Pick.nil | apply Pick.take | apply Pick.leave)) rfl ?_))))
  refine CW.genI (fun J hJ => ?_)
  have hplI : ∀ x ∈ plI P oa oz ZL, x ∈ J := fun x hx => hJ x (List.Mem.tail _ hx)
  have m1 : cel b1 (plC P (slO oa P.cf.L.length ca) (slO oz P.zs.length cz)) 35 ∈ J := hJ _ (by simp)
  have m2 : sls (oa.map fun b => ⟨b, 0, none⟩) 48 P.cf.L.length (P.cf.L.flatMap Sr.cells) ∈ J := hJ _ (by simp)
  have m3 : sls (oz.map fun b => ⟨b, 0, none⟩) 4 P.zs.length (ZL.flatMap znO) ∈ J := hJ _ (by simp)
  have m4 : ∀ z ∈ ZL, znS z ∈ J := fun z hz => hJ _ (by repeat (first | exact List.mem_map_of_mem hz | apply List.mem_cons_of_mem))
  clear hJ
  have fC : RdsN J ⟨b1, 0 + 0, none⟩ 45 (P.cf.cells (slO oa P.cf.L.length ca)) := RdsN.told m1 (pl_cf hP.cf.cm _ _) (cf_len hP.cf.cm _)
  have fS : RdI J ⟨b1, 0 + 0 + 0, none⟩ (slO oa P.cf.L.length ca) := ⟨fun _ => Rd.celI m1 rfl⟩
  have fZ : RdI J ⟨b1, 0 + 45, none⟩ (slO oz P.zs.length cz) := ⟨fun _ => Rd.getI m1 (pl_tl hP.cf.cm _ _ 0)⟩
  have f6 : RdI J ⟨b1, 0 + 46, none⟩ (.int .i64 P.de) := ⟨fun _ => Rd.getI m1 (pl_tl hP.cf.cm _ _ 1)⟩
  have f7 : RdI J ⟨b1, 0 + 47, none⟩ (.int .i64 P.ra) := ⟨fun _ => Rd.getI m1 (pl_tl hP.cf.cm _ _ 2)⟩
  have f8 : RdI J ⟨b1, 0 + 48, none⟩ (.int .i64 P.mo) := ⟨fun _ => Rd.getI m1 (pl_tl hP.cf.cm _ _ 3)⟩
  have f9 : RdI J ⟨b1, 0 + 49, none⟩ (.int .i64 P.sz) := ⟨fun _ => Rd.getI m1 (pl_tl hP.cf.cm _ _ 4)⟩
  have fA : RdsN J ⟨b1, 0, none⟩ 50 (plC P (slO oa P.cf.L.length ca) (slO oz P.zs.length cz)) := RdsN.told m1 (fun j u hu => by rw [Nat.zero_add]; exact hu) hpl
  refine CW.rg (RL.fieldAddr fa_35_1 rfl rfl rfl rfl (RL.loadq Tryz.isAgg33 rfl rfl rfl rfl ?_))
  refine RL.lenS Tryz.runUnderlying33 rfl rfl rfl rfl (RL.p rfl (RL.nil (NQ.seq ?_)))
  refine CW.cond rfl (fun h8 => ?_) (fun h8 => ?_)
  ·
    refine CW.seq (CW.region (ef := [0]) (bk := [0]) (RL.store (vs := [_]) Tryz.sizeOf45 rfl rfl rfl rfl rfl rfl rfl rfl rfl (by repeat (first | exact Upd.here | apply Upd.there)) ?_))
    refine RL.nil (NQ.seq (CW.ret (RQ.seq ?_)))
    exact RQ.post (resV rfl rfl Tryz.isAgg45 (by repeat (first | exact List.Mem.head _ | apply List.Mem.tail))) (Split.none _) ⟨by rw [pl_no8 (by simp at h8; omega)], rfl, rfl⟩
  · have h8' : P.zs.length ≤ 8 := by simp at h8; omega
    refine CW.skip (NQ.seq (CW.seq (CW.seq (CW.rg (RL.loadSq Tryz.isAgg35 Tryz.sizeOf35 rfl rfl rfl rfl ?_)))))
    refine RL.makeFunc rfl rfl rfl rfl rfl (RL.nil (NQ.seq (CW.ok [1, 2, 11] rfl (CW.block ?_))))
    refine CW.rangeFunc (X := fun _ => [cel b2 [.int .i64 0] 45]) (Z := fun _ => [cel b2 [.int .i64 310] 45]) (p := prB P) hit rfl Tryz.call37 (fun a ha => ?_) (by decide) (by repeat (first | exact Pick.nil | apply Pick.take | apply Pick.leave)) (Lend.many hplI) (fun l r k a w1 ha => ?_) (fun hall D => ?_) (fun k hk1 hk2 D => ?_)
    · simp only [prL, List.mem_map] at ha
      obtain ⟨_, -, rfl⟩ := ha
      rfl
    · obtain ⟨e, hk, rfl⟩ := prL_at ha
      have hpb : prB P k = (e == 0) := by rw [prB, hk]; rfl
      rw [hpb]
      refine CW.rg (RL.p rfl (RL.nil (NQ.rdBegin ?_)))
      refine CW.block (CW.seq (CW.rg (RL.p rfl (RL.p rfl (RL.nil (NQ.seq ?_))))))
      refine CW.cond rfl (fun hq => ?_) (fun hq => ?_)
      · have hp : (e == 0) = false := by revert hq; simp
        rw [hp]
        refine CW.seq (CW.region (ef := [0]) (bk := [0]) (RL.store (vs := [_]) Tryz.sizeOf45 rfl rfl rfl rfl rfl rfl rfl rfl rfl (by repeat (first | exact Upd.here | apply Upd.there)) ?_))
        refine RL.nil (NQ.seq (CW.ret (RQ.block ?_)))
        exact RQ.rdRet (by repeat (first | exact Rea.nil | (apply Rea.cons; (solve | (repeat (first | exact Del.here | apply Del.there)))))) ⟨rfl, rfl⟩
      · have hp : (e == 0) = true := by revert hq; simp
        rw [hp]
        refine CW.skip (NQ.block ?_)
        exact NQ.rdEnd (by repeat (first | exact Rea.nil | (apply Rea.cons; (solve | (repeat (first | exact Del.here | apply Del.there)))))) ⟨rfl, rfl⟩
    · have hE : ∀ e ∈ prE P, e = 0 := fun e he => by
        obtain ⟨k, hk, rfl⟩ := List.mem_iff_getElem.1 he
        have := hall k (by rw [prL, List.length_map]; exact hk)
        rw [prB, List.getElem?_eq_getElem hk] at this
        simpa using this
      refine NQ.block (NQ.seq (CW.seq (CW.seq (CW.rg (RL.fieldAddr fa_35_0 rfl rfl rfl rfl (RL.fieldAddr fa_32_0 rfl rfl rfl rfl (RL.loadq Tryz.isAgg22 rfl rfl rfl rfl ?_)))))))
      refine RL.lenS Tryz.runUnderlying22 rfl rfl rfl rfl (RL.p rfl (RL.nil (NQ.seq (CW.block (CW.loop (γ := Nat) (fun i => i ≤ P.cf.L.length ∧ ∀ k, k < i → ∀ s, P.cf.L[k]? = some s → s.bare = true) (fun i => [(2, .pointer (some ⟨b2, 0, none⟩)), (17, slO oa P.cf.L.length ca), (18, .int .i64 (P.cf.L.length : Int)), (19, .int .i64 (i : Int))]) (fun _ => J) (fun _ => [blk D (.deferred (some [])), cel b2 [.int .i64 0] 45]) (fun i => P.cf.L.length - i) 0 ⟨Nat.zero_le _, by omega⟩ (.cons rfl (.cons rfl (.cons rfl (.cons rfl .nil)))) (fun w h => h.rea (fun _ h => h) (by repeat (first | exact Rea.nil | (apply Rea.cons; (solve | (repeat (first | exact Del.here | apply Del.there))))))) ?_)))))
      rintro i ⟨hi, hp⟩
      refine CW.fact (p := oa = none → P.cf.L.length = 0) (fun w hC e => sls_nil (hC.s.i _ m2) (by rw [e]; rfl)) (fun hpa => ?_)
      refine CW.seq (CW.rg (RL.p rfl (RL.nil (NQ.seq (CW.seq ?_)))))
      refine CW.cond rfl (fun hlt => ?_) (fun hlt => ?_)
      ·
        have hlt' : i < P.cf.L.length := by simp at hlt; omega
        cases oa with
        | none => exact absurd (hpa rfl) (by omega)
        | some ba =>
        have hx := List.getElem?_eq_getElem hlt'
        generalize P.cf.L[i] = s at hx
        have hsm := List.mem_of_getElem? hx
        have hs := (hP.cf.L s hsm).rt
        have hsl := hLl s hsm
        have fB : RdsN J ⟨ba, 0 + i * 48, none⟩ 48 s.cells := flat_rdsN (f := Sr.cells) m2 hx hLl
        refine CW.skip (NQ.seq (CW.seq (CW.block (CW.seq (CW.region (ef := [2, 3]) (bk := [3]) (RL.idxAt (j := i) Tryz.runUnderlying22 Tryz.sizeOf98 rfl rfl rfl rfl rfl rfl (hlt') (RL.loadSq Tryz.isAgg98 Tryz.sizeOf98 rfl rfl rfl rfl ?_)))))))
        refine RL.alloc Tryz.zeroValue98 rfl rfl rfl rfl rfl ?_
        intro b3
        refine RL.storeW Tryz.sizeOf98 rfl rfl rfl rfl rfl rfl rfl (sr_ones s) (by repeat (first | exact Upd.here | apply Upd.there)) hsl rfl ?_
        refine RL.nil (NQ.seq (CW.seq (CW.rg (RL.loadW Tryz.isAgg98 Tryz.sizeOf98 rfl rfl rfl rfl (by repeat (first | exact List.Mem.head _ | apply List.Mem.tail)) hsl ?_))))
        refine RL.callvq (gbare_any s hs) Tryz.call38 rfl rfl rfl rfl ?_
        refine RL.p rfl (RL.nil (NQ.seq (CW.ok [2, 17, 18, 19, 25] rfl ?_)))
        refine CW.cond rfl (fun hq => ?_) (fun hq => ?_)
        · have hb : s.bare = false := by simpa using hq
          refine CW.seq (CW.region (ef := [0]) (bk := [0]) (RL.store (vs := [_]) Tryz.sizeOf45 rfl rfl rfl rfl rfl rfl rfl rfl rfl (by repeat (first | exact Upd.here | apply Upd.there)) ?_))
          refine RL.nil (NQ.seq (CW.ret (RQ.block (RQ.seq (RQ.seq (RQ.block (RQ.seq (RQ.marks ?_))))))))
          exact RQ.post (resV rfl rfl Tryz.isAgg45 (by repeat (first | exact List.Mem.head _ | apply List.Mem.tail))) (Split.none _) ⟨by rw [pl_noB hsm hb], rfl, rfl⟩
        · have hb : s.bare = true := by simpa using hq
          refine CW.skip (NQ.block (NQ.seq (CW.rg (RL.bx rfl (wrapV_i64 (by omega) (by omega)) ?_))))
          refine RL.p rfl (RL.nil ?_)
          refine NQ.round (g := i) (i + 1) ⟨hlt', fun k hk s' hs' => ?_⟩ (by omega) (.cons rfl (.cons rfl (.cons rfl (.cons rfl .nil)))) (fun w h => h.rea (fun _ h => h) (by repeat (first | exact Rea.nil | (apply Rea.cons; (solve | (repeat (first | exact Del.here | apply Del.there)))))))
          rcases Nat.lt_succ_iff_lt_or_eq.1 hk with h | rfl
          · exact hp k h s' hs'
          · rw [hx] at hs'; rw [← Option.some.inj hs']; exact hb
      ·
        refine CW.exit (XQ.seq (XQ.seq (XQ.hit (NQ.seq (CW.seq (CW.region (ef := [0]) (bk := [0]) (RL.store (vs := [_]) Tryz.sizeOf45 rfl rfl rfl rfl rfl rfl rfl rfl rfl (by repeat (first | exact Upd.here | apply Upd.there)) ?_)))))))
        refine RL.nil (NQ.seq (CW.ret ?_))
        have hin : i = P.cf.L.length := by simp at hlt; omega
        subst hin
        refine RQ.marks ?_
        refine RQ.post (resV rfl rfl Tryz.isAgg45 (by repeat (first | exact List.Mem.head _ | apply List.Mem.tail))) (Split.none _) ⟨?_, rfl, rfl⟩
        rw [pl_yes h8' hE (List.all_eq_true.2 fun s hs => by
          obtain ⟨k, hk, rfl⟩ := List.mem_iff_getElem.1 hs
          exact hp k hk _ (List.getElem?_eq_getElem hk))]
    · have hk : k < (prE P).length := by simpa [prL] using hk1
      refine RQ.block (RQ.seq ?_)
      have hne : (prE P)[k] ≠ 0 := by
        rw [prB, List.getElem?_eq_getElem hk] at hk2
        simpa using hk2
      refine RQ.marks ?_
      exact RQ.post (resV rfl rfl Tryz.isAgg45 (by repeat (first | exact List.Mem.head _ | apply List.Mem.tail))) (Split.none _) ⟨by rw [pl_noE (List.getElem_mem hk) hne], rfl, rfl⟩
end Go.Proofs.YthndhipjfdgdfaaGreatDoor

namespace Go.Proofs.YthndhipjfdgdfaaGreatDoor
open Go.PK
/-! ### The reference: whether a plan may be -/
end Go.Proofs.YthndhipjfdgdfaaGreatDoor
