import Derived.Test.YtbdnebedmdoehaaU1
namespace Go.Proofs.Ytbdnebedmdoehaa
open Go.PK
/-! ### Checks of parts -/
def errI (p : Prop) [Decidable p] : Int := if p then 0 else 2
theorem errI_yes {p : Prop} [Decidable p] (h : p) : errI p = 0 := if_pos h
theorem errI_no {p : Prop} [Decidable p] (h : ¬ p) : errI p = 2 := if_neg h
theorem errI_0 {p : Prop} [Decidable p] : errI p = 0 ↔ p := by unfold errI; split <;> simp_all
/-- Something is made, or not; and an error. -/
def ErP (e : Int) : Value → List It → List It → Prop := fun v I' H' => ∃ p, v = .tuple #[.pointer p, .int .i64 e] ∧ I' = [] ∧ H' = []
theorem gate_any (a b c : Int) : Spc Try.prog 132 #[.agg #[.int .i64 a, .int .i64 b, .int .i64 c]] [] [] (Is (.int .i64 (errI (0 ≤ a ∧ 0 ≤ b ∧ a ≤ c)))) := by
  refine Spc.enter Try.func132 rfl rfl rfl (fun w0 hw0 => ?_)
  refine CW.seq (CW.region (ef := [0]) (bk := []) (RL.box rfl rfl rfl rfl rfl rfl ?_))
  intro b1
  refine RL.p rfl (RL.nil (NQ.seq (CW.seq (CW.seq (CW.rg (RL.fieldAddr fa_53_0 rfl rfl rfl rfl (RL.loadq Try.isAgg24 rfl rfl rfl rfl ?_)))))))
  refine RL.p rfl (RL.p rfl ?_)
  apply RL.orB (d := 6) (dp := 10) (l' := (Sq.of [8, 9, 10, 11, 12, 13, 14])) rfl (sK [1, 2] rfl)
  ·
    intro hb4 K4
    refine RL.fieldAddr fa_53_1 rfl rfl rfl rfl (RL.loadq Try.isAgg24 rfl rfl rfl rfl ?_)
    refine RL.p rfl (RL.p rfl ?_)
    exact K4 _ (.cons rfl (sK [1, 2] rfl))
  ·
    intro hb4 K4
    refine RL.p rfl (RL.p rfl (RL.p rfl (RL.p rfl ?_)))
    exact K4 _ (.cons rfl (sK [1, 2] rfl))
  refine RL.p rfl ?_
  apply RL.orB (d := 11) (dp := 17) (l' := (Sq.of [])) rfl (sK [2] rfl)
  ·
    intro hb9 K9
    refine RL.fieldAddr fa_53_2 rfl rfl rfl rfl (RL.loadq Try.isAgg24 rfl rfl rfl rfl ?_)
    refine RL.fieldAddr fa_53_0 rfl rfl rfl rfl (RL.loadq Try.isAgg24 rfl rfl rfl rfl ?_)
    refine RL.p rfl (RL.p rfl ?_)
    exact K9 _ (.cons rfl (sK [2] rfl))
  ·
    intro hb9 K9
    refine RL.p rfl (RL.p rfl (RL.p rfl (RL.p rfl (RL.p rfl (RL.p rfl ?_)))))
    exact K9 _ (.cons rfl (sK [2] rfl))
  refine RL.nil (NQ.seq ?_)
  refine CW.cond rfl (fun h => ?_) (fun h => ?_)
  ·
    refine CW.seq (CW.rg (RL.p rfl (RL.nil (NQ.seq (CW.ret (RQ.seq ?_))))))
    exact RQ.post (res1 rfl rfl) (Split.none _) ⟨by rw [errI_no (by simp at h; omega)], rfl, rfl⟩
  ·
    refine CW.skip (NQ.seq (CW.seq (CW.rg (RL.p rfl (RL.nil (NQ.seq (CW.ret ?_)))))))
    exact RQ.post (res1 rfl rfl) (Split.none _) ⟨by rw [errI_yes (by simp at h; omega)], rfl, rfl⟩
theorem rgate_any (a b c : Int) : Spc Try.prog 81 #[.agg #[.int .i64 a, .int .i64 b, .int .i64 c]] [] [] (Is (.int .i64 (errI (0 ≤ a ∧ 0 ≤ b ∧ a ≤ c)))) := by
  refine Spc.enter Try.func81 rfl rfl rfl (fun w0 hw0 => ?_)
  refine CW.seq (CW.region (ef := [0]) (bk := []) (RL.box rfl rfl rfl rfl rfl rfl ?_))
  intro b1
  refine RL.p rfl (RL.nil (NQ.seq (CW.seq (CW.seq (CW.rg (RL.fieldAddr fa_42_0 rfl rfl rfl rfl (RL.loadq Try.isAgg24 rfl rfl rfl rfl ?_)))))))
  refine RL.p rfl (RL.p rfl ?_)
  apply RL.orB (d := 6) (dp := 10) (l' := (Sq.of [8, 9, 10, 11, 12, 13, 14])) rfl (sK [1, 2] rfl)
  ·
    intro hb4 K4
    refine RL.fieldAddr fa_42_1 rfl rfl rfl rfl (RL.loadq Try.isAgg24 rfl rfl rfl rfl ?_)
    refine RL.p rfl (RL.p rfl ?_)
    exact K4 _ (.cons rfl (sK [1, 2] rfl))
  ·
    intro hb4 K4
    refine RL.p rfl (RL.p rfl (RL.p rfl (RL.p rfl ?_)))
    exact K4 _ (.cons rfl (sK [1, 2] rfl))
  refine RL.p rfl ?_
  apply RL.orB (d := 11) (dp := 17) (l' := (Sq.of [])) rfl (sK [2] rfl)
  ·
    intro hb9 K9
    refine RL.fieldAddr fa_42_2 rfl rfl rfl rfl (RL.loadq Try.isAgg24 rfl rfl rfl rfl ?_)
    refine RL.fieldAddr fa_42_0 rfl rfl rfl rfl (RL.loadq Try.isAgg24 rfl rfl rfl rfl ?_)
    refine RL.p rfl (RL.p rfl ?_)
    exact K9 _ (.cons rfl (sK [2] rfl))
  ·
    intro hb9 K9
    refine RL.p rfl (RL.p rfl (RL.p rfl (RL.p rfl (RL.p rfl (RL.p rfl ?_)))))
    exact K9 _ (.cons rfl (sK [2] rfl))
  refine RL.nil (NQ.seq ?_)
  refine CW.cond rfl (fun h => ?_) (fun h => ?_)
  ·
    refine CW.seq (CW.rg (RL.p rfl (RL.nil (NQ.seq (CW.ret (RQ.seq ?_))))))
    exact RQ.post (res1 rfl rfl) (Split.none _) ⟨by rw [errI_no (by simp at h; omega)], rfl, rfl⟩
  ·
    refine CW.skip (NQ.seq (CW.seq (CW.rg (RL.p rfl (RL.nil (NQ.seq (CW.ret ?_)))))))
    exact RQ.post (res1 rfl rfl) (Split.none _) ⟨by rw [errI_yes (by simp at h; omega)], rfl, rfl⟩
theorem rule_any (a b c d : Int) : Spc Try.prog 105 #[.agg #[.int .i64 a, .int .i64 b, .int .i64 c, .int .i64 d]] [] [] (Is (.int .i64 (errI (0 ≤ a ∧ a ≤ 16 ∧ 0 ≤ b ∧ 0 ≤ c ∧ 1 ≤ d ∧ d ≤ 65535)))) := by
  refine Spc.enter Try.func105 rfl rfl rfl (fun w0 hw0 => ?_)
  refine CW.seq (CW.region (ef := [0]) (bk := []) (RL.box rfl rfl rfl rfl rfl rfl ?_))
  intro b1
  refine RL.p rfl (RL.nil (NQ.seq (CW.seq (CW.seq (CW.rg (RL.fieldAddr fa_130_0 rfl rfl rfl rfl (RL.loadq Try.isAgg3 rfl rfl rfl rfl ?_)))))))
  refine RL.p rfl (RL.p rfl ?_)
  apply RL.orB (d := 6) (dp := 10) (l' := (Sq.of [8, 9, 10, 11, 12, 13, 14, 15, 16, 17, 18, 19, 20, 21, 22, 23, 24, 25, 26, 27])) rfl (sK [1, 2] rfl)
  ·
    intro hb4 K4
    refine RL.fieldAddr fa_130_0 rfl rfl rfl rfl (RL.loadq Try.isAgg3 rfl rfl rfl rfl ?_)
    refine RL.p rfl (RL.p rfl ?_)
    exact K4 _ (.cons rfl (sK [1, 2] rfl))
  ·
    intro hb4 K4
    refine RL.p rfl (RL.p rfl (RL.p rfl (RL.p rfl ?_)))
    exact K4 _ (.cons rfl (sK [1, 2] rfl))
  refine RL.p rfl ?_
  apply RL.orB (d := 11) (dp := 15) (l' := (Sq.of [13, 14, 15, 16, 17, 18, 19, 20, 21, 22, 23, 24, 25, 26, 27])) rfl (sK [1, 2] rfl)
  ·
    intro hb9 K9
    refine RL.fieldAddr fa_130_1 rfl rfl rfl rfl (RL.loadq Try.isAgg24 rfl rfl rfl rfl ?_)
    refine RL.p rfl (RL.p rfl ?_)
    exact K9 _ (.cons rfl (sK [1, 2] rfl))
  ·
    intro hb9 K9
    refine RL.p rfl (RL.p rfl (RL.p rfl (RL.p rfl ?_)))
    exact K9 _ (.cons rfl (sK [1, 2] rfl))
  refine RL.p rfl ?_
  apply RL.orB (d := 16) (dp := 20) (l' := (Sq.of [18, 19, 20, 21, 22, 23, 24, 25, 26, 27])) rfl (sK [1, 2] rfl)
  ·
    intro hb14 K14
    refine RL.fieldAddr fa_130_2 rfl rfl rfl rfl (RL.loadq Try.isAgg24 rfl rfl rfl rfl ?_)
    refine RL.p rfl (RL.p rfl ?_)
    exact K14 _ (.cons rfl (sK [1, 2] rfl))
  ·
    intro hb14 K14
    refine RL.p rfl (RL.p rfl (RL.p rfl (RL.p rfl ?_)))
    exact K14 _ (.cons rfl (sK [1, 2] rfl))
  refine RL.p rfl ?_
  apply RL.orB (d := 21) (dp := 25) (l' := (Sq.of [23, 24, 25, 26, 27])) rfl (sK [1, 2] rfl)
  ·
    intro hb19 K19
    refine RL.fieldAddr fa_130_3 rfl rfl rfl rfl (RL.loadq Try.isAgg3 rfl rfl rfl rfl ?_)
    refine RL.p rfl (RL.p rfl ?_)
    exact K19 _ (.cons rfl (sK [1, 2] rfl))
  ·
    intro hb19 K19
    refine RL.p rfl (RL.p rfl (RL.p rfl (RL.p rfl ?_)))
    exact K19 _ (.cons rfl (sK [1, 2] rfl))
  refine RL.p rfl ?_
  apply RL.orB (d := 26) (dp := 30) (l' := (Sq.of [])) rfl (sK [2] rfl)
  ·
    intro hb24 K24
    refine RL.fieldAddr fa_130_3 rfl rfl rfl rfl (RL.loadq Try.isAgg3 rfl rfl rfl rfl ?_)
    refine RL.p rfl (RL.p rfl ?_)
    exact K24 _ (.cons rfl (sK [2] rfl))
  ·
    intro hb24 K24
    refine RL.p rfl (RL.p rfl (RL.p rfl (RL.p rfl ?_)))
    exact K24 _ (.cons rfl (sK [2] rfl))
  refine RL.nil (NQ.seq ?_)
  refine CW.cond rfl (fun h => ?_) (fun h => ?_)
  ·
    refine CW.seq (CW.rg (RL.p rfl (RL.nil (NQ.seq (CW.ret (RQ.seq ?_))))))
    exact RQ.post (res1 rfl rfl) (Split.none _) ⟨by rw [errI_no (by simp at h; omega)], rfl, rfl⟩
  ·
    refine CW.skip (NQ.seq (CW.seq (CW.rg (RL.p rfl (RL.nil (NQ.seq (CW.ret ?_)))))))
    exact RQ.post (res1 rfl rfl) (Split.none _) ⟨by rw [errI_yes (by simp at h; omega)], rfl, rfl⟩
theorem rrule_any (a b c d : Int) : Spc Try.prog 82 #[.agg #[.int .i64 a, .int .i64 b, .int .i64 c, .int .i64 d]] [] [] (Is (.int .i64 (errI (0 ≤ a ∧ a ≤ 16 ∧ 0 ≤ b ∧ 0 ≤ c ∧ 1 ≤ d ∧ d ≤ 65535)))) := by
  refine Spc.enter Try.func82 rfl rfl rfl (fun w0 hw0 => ?_)
  refine CW.seq (CW.region (ef := [0]) (bk := []) (RL.box rfl rfl rfl rfl rfl rfl ?_))
  intro b1
  refine RL.p rfl (RL.nil (NQ.seq (CW.seq (CW.seq (CW.rg (RL.fieldAddr fa_133_0 rfl rfl rfl rfl (RL.loadq Try.isAgg3 rfl rfl rfl rfl ?_)))))))
  refine RL.p rfl (RL.p rfl ?_)
  apply RL.orB (d := 6) (dp := 10) (l' := (Sq.of [8, 9, 10, 11, 12, 13, 14, 15, 16, 17, 18, 19, 20, 21, 22, 23, 24, 25, 26, 27])) rfl (sK [1, 2] rfl)
  ·
    intro hb4 K4
    refine RL.fieldAddr fa_133_0 rfl rfl rfl rfl (RL.loadq Try.isAgg3 rfl rfl rfl rfl ?_)
    refine RL.p rfl (RL.p rfl ?_)
    exact K4 _ (.cons rfl (sK [1, 2] rfl))
  ·
    intro hb4 K4
    refine RL.p rfl (RL.p rfl (RL.p rfl (RL.p rfl ?_)))
    exact K4 _ (.cons rfl (sK [1, 2] rfl))
  refine RL.p rfl ?_
  apply RL.orB (d := 11) (dp := 15) (l' := (Sq.of [13, 14, 15, 16, 17, 18, 19, 20, 21, 22, 23, 24, 25, 26, 27])) rfl (sK [1, 2] rfl)
  ·
    intro hb9 K9
    refine RL.fieldAddr fa_133_1 rfl rfl rfl rfl (RL.loadq Try.isAgg24 rfl rfl rfl rfl ?_)
    refine RL.p rfl (RL.p rfl ?_)
    exact K9 _ (.cons rfl (sK [1, 2] rfl))
  ·
    intro hb9 K9
    refine RL.p rfl (RL.p rfl (RL.p rfl (RL.p rfl ?_)))
    exact K9 _ (.cons rfl (sK [1, 2] rfl))
  refine RL.p rfl ?_
  apply RL.orB (d := 16) (dp := 20) (l' := (Sq.of [18, 19, 20, 21, 22, 23, 24, 25, 26, 27])) rfl (sK [1, 2] rfl)
  ·
    intro hb14 K14
    refine RL.fieldAddr fa_133_2 rfl rfl rfl rfl (RL.loadq Try.isAgg24 rfl rfl rfl rfl ?_)
    refine RL.p rfl (RL.p rfl ?_)
    exact K14 _ (.cons rfl (sK [1, 2] rfl))
  ·
    intro hb14 K14
    refine RL.p rfl (RL.p rfl (RL.p rfl (RL.p rfl ?_)))
    exact K14 _ (.cons rfl (sK [1, 2] rfl))
  refine RL.p rfl ?_
  apply RL.orB (d := 21) (dp := 25) (l' := (Sq.of [23, 24, 25, 26, 27])) rfl (sK [1, 2] rfl)
  ·
    intro hb19 K19
    refine RL.fieldAddr fa_133_3 rfl rfl rfl rfl (RL.loadq Try.isAgg3 rfl rfl rfl rfl ?_)
    refine RL.p rfl (RL.p rfl ?_)
    exact K19 _ (.cons rfl (sK [1, 2] rfl))
  ·
    intro hb19 K19
    refine RL.p rfl (RL.p rfl (RL.p rfl (RL.p rfl ?_)))
    exact K19 _ (.cons rfl (sK [1, 2] rfl))
  refine RL.p rfl ?_
  apply RL.orB (d := 26) (dp := 30) (l' := (Sq.of [])) rfl (sK [2] rfl)
  ·
    intro hb24 K24
    refine RL.fieldAddr fa_133_3 rfl rfl rfl rfl (RL.loadq Try.isAgg3 rfl rfl rfl rfl ?_)
    refine RL.p rfl (RL.p rfl ?_)
    exact K24 _ (.cons rfl (sK [2] rfl))
  ·
    intro hb24 K24
    refine RL.p rfl (RL.p rfl (RL.p rfl (RL.p rfl ?_)))
    exact K24 _ (.cons rfl (sK [2] rfl))
  refine RL.nil (NQ.seq ?_)
  refine CW.cond rfl (fun h => ?_) (fun h => ?_)
  ·
    refine CW.seq (CW.rg (RL.p rfl (RL.nil (NQ.seq (CW.ret (RQ.seq ?_))))))
    exact RQ.post (res1 rfl rfl) (Split.none _) ⟨by rw [errI_no (by simp at h; omega)], rfl, rfl⟩
  ·
    refine CW.skip (NQ.seq (CW.seq (CW.rg (RL.p rfl (RL.nil (NQ.seq (CW.ret ?_)))))))
    exact RQ.post (res1 rfl rfl) (Split.none _) ⟨by rw [errI_yes (by simp at h; omega)], rfl, rfl⟩
theorem rcus_any (a b : Int) : Spc Try.prog 78 #[.int .i64 a, .int .i64 b] [] [] (ErP (errI (0 ≤ a ∧ 1 ≤ b))) := by
  refine Spc.enter Try.func78 rfl rfl rfl (fun w0 hw0 => ?_)
  refine CW.seq (CW.rg (RL.p rfl (RL.p rfl (RL.nil (NQ.seq (CW.seq (CW.seq (CW.rg (RL.p rfl (RL.p rfl (RL.p rfl ?_)))))))))))
  apply RL.orB (d := 8) (dp := 11) (l' := (Sq.of [])) rfl (sK [0, 1, 4, 5] rfl)
  ·
    intro hb3 K3
    refine RL.p rfl (RL.p rfl (RL.p rfl ?_))
    exact K3 _ (.cons rfl (sK [0, 1, 4, 5] rfl))
  ·
    intro hb3 K3
    refine RL.p rfl (RL.p rfl (RL.p rfl ?_))
    exact K3 _ (.cons rfl (sK [0, 1, 4, 5] rfl))
  refine RL.nil (NQ.seq ?_)
  refine CW.cond rfl (fun h => ?_) (fun h => ?_)
  ·
    refine CW.seq (CW.rg (RL.p rfl (RL.p rfl (RL.nil (NQ.seq (CW.ret (RQ.seq ?_)))))))
    exact RQ.post (res2 rfl rfl rfl) (Split.none _) ⟨_, by rw [errI_no (by simp at h; omega)], rfl, rfl⟩
  ·
    refine CW.skip (NQ.seq (CW.seq (CW.region (ef := [3]) (bk := []) (RL.p rfl (RL.p rfl (RL.buildS _ Try.zeroValue235 pl_235 rfl rfl rfl rfl rfl (RL.box rfl rfl rfl rfl rfl rfl ?_)))))))
    intro b1
    refine RL.p rfl (RL.p rfl (RL.nil (NQ.seq (CW.ok [4, 5] rfl (CW.ret ?_)))))
    exact RQ.post (res2 rfl rfl rfl) (Split.none _) ⟨_, by rw [errI_yes (by simp at h; omega)], rfl, rfl⟩
theorem rstk_any (a b : Int) : Spc Try.prog 79 #[.int .i64 a, .int .i64 b] [] [] (ErP (errI (1 ≤ a ∧ a ≤ 1000 ∧ 0 ≤ b))) := by
  refine Spc.enter Try.func79 rfl rfl rfl (fun w0 hw0 => ?_)
  refine CW.seq (CW.rg (RL.p rfl (RL.p rfl (RL.nil (NQ.seq (CW.seq (CW.seq (CW.rg (RL.p rfl (RL.p rfl (RL.p rfl ?_)))))))))))
  apply RL.orB (d := 8) (dp := 11) (l' := (Sq.of [6, 7, 8, 9])) rfl (sK [0, 1, 4, 5] rfl)
  ·
    intro hb3 K3
    refine RL.p rfl (RL.p rfl (RL.p rfl ?_))
    exact K3 _ (.cons rfl (sK [0, 1, 4, 5] rfl))
  ·
    intro hb3 K3
    refine RL.p rfl (RL.p rfl (RL.p rfl ?_))
    exact K3 _ (.cons rfl (sK [0, 1, 4, 5] rfl))
  refine RL.p rfl ?_
  apply RL.orB (d := 12) (dp := 15) (l' := (Sq.of [])) rfl (sK [0, 1, 4, 5] rfl)
  ·
    intro hb7 K7
    refine RL.p rfl (RL.p rfl (RL.p rfl ?_))
    exact K7 _ (.cons rfl (sK [0, 1, 4, 5] rfl))
  ·
    intro hb7 K7
    refine RL.p rfl (RL.p rfl (RL.p rfl ?_))
    exact K7 _ (.cons rfl (sK [0, 1, 4, 5] rfl))
  refine RL.nil (NQ.seq ?_)
  refine CW.cond rfl (fun h => ?_) (fun h => ?_)
  ·
    refine CW.seq (CW.rg (RL.p rfl (RL.p rfl (RL.nil (NQ.seq (CW.ret (RQ.seq ?_)))))))
    exact RQ.post (res2 rfl rfl rfl) (Split.none _) ⟨_, by rw [errI_no (by simp at h; omega)], rfl, rfl⟩
  ·
    refine CW.skip (NQ.seq (CW.seq (CW.region (ef := [3]) (bk := []) (RL.p rfl (RL.p rfl (RL.buildS _ Try.zeroValue240 pl_240 rfl rfl rfl rfl rfl (RL.box rfl rfl rfl rfl rfl rfl ?_)))))))
    intro b1
    refine RL.p rfl (RL.p rfl (RL.nil (NQ.seq (CW.ok [4, 5] rfl (CW.ret ?_)))))
    exact RQ.post (res2 rfl rfl rfl) (Split.none _) ⟨_, by rw [errI_yes (by simp at h; omega)], rfl, rfl⟩
theorem rqua_any (a b c : Int) : Spc Try.prog 80 #[.int .i64 a, .int .i64 b, .int .i64 c] [] [] (ErP (errI (1 ≤ a ∧ a ≤ 100 ∧ 1 ≤ b ∧ b ≤ 65535 ∧ 1 ≤ c ∧ c ≤ 100))) := by
  refine Spc.enter Try.func80 rfl rfl rfl (fun w0 hw0 => ?_)
  refine CW.seq (CW.rg (RL.p rfl (RL.p rfl (RL.nil (NQ.seq (CW.seq (CW.seq (CW.rg (RL.p rfl (RL.p rfl (RL.p rfl ?_)))))))))))
  apply RL.orB (d := 10) (dp := 13) (l' := (Sq.of [6, 7, 8, 9, 10, 11, 12, 13, 14, 15, 16, 17, 18, 19, 20, 21])) rfl (sK [0, 1, 2, 6, 7] rfl)
  ·
    intro hb3 K3
    refine RL.p rfl (RL.p rfl (RL.p rfl ?_))
    exact K3 _ (.cons rfl (sK [0, 1, 2, 6, 7] rfl))
  ·
    intro hb3 K3
    refine RL.p rfl (RL.p rfl (RL.p rfl ?_))
    exact K3 _ (.cons rfl (sK [0, 1, 2, 6, 7] rfl))
  refine RL.p rfl ?_
  apply RL.orB (d := 14) (dp := 17) (l' := (Sq.of [10, 11, 12, 13, 14, 15, 16, 17, 18, 19, 20, 21])) rfl (sK [0, 1, 2, 6, 7] rfl)
  ·
    intro hb7 K7
    refine RL.p rfl (RL.p rfl (RL.p rfl ?_))
    exact K7 _ (.cons rfl (sK [0, 1, 2, 6, 7] rfl))
  ·
    intro hb7 K7
    refine RL.p rfl (RL.p rfl (RL.p rfl ?_))
    exact K7 _ (.cons rfl (sK [0, 1, 2, 6, 7] rfl))
  refine RL.p rfl ?_
  apply RL.orB (d := 18) (dp := 21) (l' := (Sq.of [14, 15, 16, 17, 18, 19, 20, 21])) rfl (sK [0, 1, 2, 6, 7] rfl)
  ·
    intro hb11 K11
    refine RL.p rfl (RL.p rfl (RL.p rfl ?_))
    exact K11 _ (.cons rfl (sK [0, 1, 2, 6, 7] rfl))
  ·
    intro hb11 K11
    refine RL.p rfl (RL.p rfl (RL.p rfl ?_))
    exact K11 _ (.cons rfl (sK [0, 1, 2, 6, 7] rfl))
  refine RL.p rfl ?_
  apply RL.orB (d := 22) (dp := 25) (l' := (Sq.of [18, 19, 20, 21])) rfl (sK [0, 1, 2, 6, 7] rfl)
  ·
    intro hb15 K15
    refine RL.p rfl (RL.p rfl (RL.p rfl ?_))
    exact K15 _ (.cons rfl (sK [0, 1, 2, 6, 7] rfl))
  ·
    intro hb15 K15
    refine RL.p rfl (RL.p rfl (RL.p rfl ?_))
    exact K15 _ (.cons rfl (sK [0, 1, 2, 6, 7] rfl))
  refine RL.p rfl ?_
  apply RL.orB (d := 26) (dp := 29) (l' := (Sq.of [])) rfl (sK [0, 1, 2, 6, 7] rfl)
  ·
    intro hb19 K19
    refine RL.p rfl (RL.p rfl (RL.p rfl ?_))
    exact K19 _ (.cons rfl (sK [0, 1, 2, 6, 7] rfl))
  ·
    intro hb19 K19
    refine RL.p rfl (RL.p rfl (RL.p rfl ?_))
    exact K19 _ (.cons rfl (sK [0, 1, 2, 6, 7] rfl))
  refine RL.nil (NQ.seq ?_)
  refine CW.cond rfl (fun h => ?_) (fun h => ?_)
  ·
    refine CW.seq (CW.rg (RL.p rfl (RL.p rfl (RL.nil (NQ.seq (CW.ret (RQ.seq ?_)))))))
    exact RQ.post (res2 rfl rfl rfl) (Split.none _) ⟨_, by rw [errI_no (by simp at h; omega)], rfl, rfl⟩
  ·
    refine CW.skip (NQ.seq (CW.seq (CW.region (ef := [4]) (bk := []) (RL.p rfl (RL.p rfl (RL.p rfl (RL.buildS _ Try.zeroValue245 pl_245 rfl rfl rfl rfl rfl (RL.box rfl rfl rfl rfl rfl rfl ?_))))))))
    intro b1
    refine RL.p rfl (RL.p rfl (RL.nil (NQ.seq (CW.ok [6, 7] rfl (CW.ret ?_)))))
    exact RQ.post (res2 rfl rfl rfl) (Split.none _) ⟨_, by rw [errI_yes (by simp at h; omega)], rfl, rfl⟩
theorem lock_any (a b : Int) : Spc Try.prog 42 #[.int .i64 a, .int .i64 b] [] [] (ErP (errI (1 ≤ a ∧ a ≤ 1000 ∧ 1 ≤ b ∧ b ≤ 65535))) := by
  refine Spc.enter Try.func42 rfl rfl rfl (fun w0 hw0 => ?_)
  refine CW.seq (CW.rg (RL.p rfl (RL.p rfl (RL.nil (NQ.seq (CW.seq (CW.seq (CW.rg (RL.p rfl (RL.p rfl (RL.p rfl ?_)))))))))))
  apply RL.orB (d := 8) (dp := 11) (l' := (Sq.of [6, 7, 8, 9, 10, 11, 12, 13])) rfl (sK [0, 1, 4, 5] rfl)
  ·
    intro hb3 K3
    refine RL.p rfl (RL.p rfl (RL.p rfl ?_))
    exact K3 _ (.cons rfl (sK [0, 1, 4, 5] rfl))
  ·
    intro hb3 K3
    refine RL.p rfl (RL.p rfl (RL.p rfl ?_))
    exact K3 _ (.cons rfl (sK [0, 1, 4, 5] rfl))
  refine RL.p rfl ?_
  apply RL.orB (d := 12) (dp := 15) (l' := (Sq.of [10, 11, 12, 13])) rfl (sK [0, 1, 4, 5] rfl)
  ·
    intro hb7 K7
    refine RL.p rfl (RL.p rfl (RL.p rfl ?_))
    exact K7 _ (.cons rfl (sK [0, 1, 4, 5] rfl))
  ·
    intro hb7 K7
    refine RL.p rfl (RL.p rfl (RL.p rfl ?_))
    exact K7 _ (.cons rfl (sK [0, 1, 4, 5] rfl))
  refine RL.p rfl ?_
  apply RL.orB (d := 16) (dp := 19) (l' := (Sq.of [])) rfl (sK [0, 1, 4, 5] rfl)
  ·
    intro hb11 K11
    refine RL.p rfl (RL.p rfl (RL.p rfl ?_))
    exact K11 _ (.cons rfl (sK [0, 1, 4, 5] rfl))
  ·
    intro hb11 K11
    refine RL.p rfl (RL.p rfl (RL.p rfl ?_))
    exact K11 _ (.cons rfl (sK [0, 1, 4, 5] rfl))
  refine RL.nil (NQ.seq ?_)
  refine CW.cond rfl (fun h => ?_) (fun h => ?_)
  ·
    refine CW.seq (CW.rg (RL.p rfl (RL.p rfl (RL.nil (NQ.seq (CW.ret (RQ.seq ?_)))))))
    exact RQ.post (res2 rfl rfl rfl) (Split.none _) ⟨_, by rw [errI_no (by simp at h; omega)], rfl, rfl⟩
  ·
    refine CW.skip (NQ.seq (CW.seq (CW.region (ef := [3]) (bk := []) (RL.p rfl (RL.p rfl (RL.buildS _ Try.zeroValue162 pl_162 rfl rfl rfl rfl rfl (RL.box rfl rfl rfl rfl rfl rfl ?_)))))))
    intro b1
    refine RL.p rfl (RL.p rfl (RL.nil (NQ.seq (CW.ok [4, 5] rfl (CW.ret ?_)))))
    exact RQ.post (res2 rfl rfl rfl) (Split.none _) ⟨_, by rw [errI_yes (by simp at h; omega)], rfl, rfl⟩
theorem rlock_any (a b : Int) : Spc Try.prog 50 #[.int .i64 a, .int .i64 b] [] [] (ErP (errI (1 ≤ a ∧ a ≤ 1000 ∧ 1 ≤ b ∧ b ≤ 65535))) := by
  refine Spc.enter Try.func50 rfl rfl rfl (fun w0 hw0 => ?_)
  refine CW.seq (CW.rg (RL.p rfl (RL.p rfl (RL.nil (NQ.seq (CW.seq (CW.seq (CW.rg (RL.p rfl (RL.p rfl (RL.p rfl ?_)))))))))))
  apply RL.orB (d := 8) (dp := 11) (l' := (Sq.of [6, 7, 8, 9, 10, 11, 12, 13])) rfl (sK [0, 1, 4, 5] rfl)
  ·
    intro hb3 K3
    refine RL.p rfl (RL.p rfl (RL.p rfl ?_))
    exact K3 _ (.cons rfl (sK [0, 1, 4, 5] rfl))
  ·
    intro hb3 K3
    refine RL.p rfl (RL.p rfl (RL.p rfl ?_))
    exact K3 _ (.cons rfl (sK [0, 1, 4, 5] rfl))
  refine RL.p rfl ?_
  apply RL.orB (d := 12) (dp := 15) (l' := (Sq.of [10, 11, 12, 13])) rfl (sK [0, 1, 4, 5] rfl)
  ·
    intro hb7 K7
    refine RL.p rfl (RL.p rfl (RL.p rfl ?_))
    exact K7 _ (.cons rfl (sK [0, 1, 4, 5] rfl))
  ·
    intro hb7 K7
    refine RL.p rfl (RL.p rfl (RL.p rfl ?_))
    exact K7 _ (.cons rfl (sK [0, 1, 4, 5] rfl))
  refine RL.p rfl ?_
  apply RL.orB (d := 16) (dp := 19) (l' := (Sq.of [])) rfl (sK [0, 1, 4, 5] rfl)
  ·
    intro hb11 K11
    refine RL.p rfl (RL.p rfl (RL.p rfl ?_))
    exact K11 _ (.cons rfl (sK [0, 1, 4, 5] rfl))
  ·
    intro hb11 K11
    refine RL.p rfl (RL.p rfl (RL.p rfl ?_))
    exact K11 _ (.cons rfl (sK [0, 1, 4, 5] rfl))
  refine RL.nil (NQ.seq ?_)
  refine CW.cond rfl (fun h => ?_) (fun h => ?_)
  ·
    refine CW.seq (CW.rg (RL.p rfl (RL.p rfl (RL.nil (NQ.seq (CW.ret (RQ.seq ?_)))))))
    exact RQ.post (res2 rfl rfl rfl) (Split.none _) ⟨_, by rw [errI_no (by simp at h; omega)], rfl, rfl⟩
  ·
    refine CW.skip (NQ.seq (CW.seq (CW.region (ef := [3]) (bk := []) (RL.p rfl (RL.p rfl (RL.buildS _ Try.zeroValue182 pl_182 rfl rfl rfl rfl rfl (RL.box rfl rfl rfl rfl rfl rfl ?_)))))))
    intro b1
    refine RL.p rfl (RL.p rfl (RL.nil (NQ.seq (CW.ok [4, 5] rfl (CW.ret ?_)))))
    exact RQ.post (res2 rfl rfl rfl) (Split.none _) ⟨_, by rw [errI_yes (by simp at h; omega)], rfl, rfl⟩
theorem cus_any (a b : Int) : Spc Try.prog 133 #[.int .i64 a, .int .i64 b] [] [] (ErP (errI (0 ≤ a ∧ 1 ≤ b))) := by
  refine Spc.enter Try.func133 rfl rfl rfl (fun w0 hw0 => ?_)
  refine CW.seq (CW.rg (RL.p rfl (RL.p rfl (RL.nil (NQ.seq (CW.seq (CW.seq (CW.rg (RL.p rfl (RL.p rfl (RL.p rfl ?_)))))))))))
  apply RL.orB (d := 8) (dp := 11) (l' := (Sq.of [])) rfl (sK [0, 1, 4, 5] rfl)
  ·
    intro hb3 K3
    refine RL.p rfl (RL.p rfl (RL.p rfl ?_))
    exact K3 _ (.cons rfl (sK [0, 1, 4, 5] rfl))
  ·
    intro hb3 K3
    refine RL.p rfl (RL.p rfl (RL.p rfl ?_))
    exact K3 _ (.cons rfl (sK [0, 1, 4, 5] rfl))
  refine RL.nil (NQ.seq ?_)
  refine CW.cond rfl (fun h => ?_) (fun h => ?_)
  ·
    refine CW.seq (CW.rg (RL.p rfl (RL.p rfl (RL.nil (NQ.seq (CW.ret (RQ.seq ?_)))))))
    exact RQ.post (res2 rfl rfl rfl) (Split.none _) ⟨_, by rw [errI_no (by simp at h; omega)], rfl, rfl⟩
  ·
    refine CW.skip (NQ.seq (CW.seq (CW.region (ef := [2, 4]) (bk := []) (RL.p rfl (RL.p rfl ?_)))))
    refine RL.makeMap (good := fun _ => True) rfl rfl rfl rfl (fun mp => ?_)
    refine RL.buildS [_, _, _] Try.zeroValue298 pl_298 rfl rfl rfl rfl rfl (RL.box rfl rfl rfl rfl rfl rfl ?_)
    intro b1
    refine RL.p rfl (RL.p rfl (RL.nil (NQ.seq (CW.ok [4, 5] rfl (CW.ret ?_)))))
    exact RQ.post (res2 rfl rfl rfl) (Split.none _) ⟨_, by rw [errI_yes (by simp at h; omega)], rfl, rfl⟩
theorem stk_any (a b : Int) : Spc Try.prog 134 #[.int .i64 a, .int .i64 b] [] [] (ErP (errI (1 ≤ a ∧ a ≤ 1000 ∧ 0 ≤ b))) := by
  refine Spc.enter Try.func134 rfl rfl rfl (fun w0 hw0 => ?_)
  refine CW.seq (CW.rg (RL.p rfl (RL.p rfl (RL.nil (NQ.seq (CW.seq (CW.seq (CW.rg (RL.p rfl (RL.p rfl (RL.p rfl ?_)))))))))))
  apply RL.orB (d := 8) (dp := 11) (l' := (Sq.of [6, 7, 8, 9])) rfl (sK [0, 1, 4, 5] rfl)
  ·
    intro hb3 K3
    refine RL.p rfl (RL.p rfl (RL.p rfl ?_))
    exact K3 _ (.cons rfl (sK [0, 1, 4, 5] rfl))
  ·
    intro hb3 K3
    refine RL.p rfl (RL.p rfl (RL.p rfl ?_))
    exact K3 _ (.cons rfl (sK [0, 1, 4, 5] rfl))
  refine RL.p rfl ?_
  apply RL.orB (d := 12) (dp := 15) (l' := (Sq.of [])) rfl (sK [0, 1, 4, 5] rfl)
  ·
    intro hb7 K7
    refine RL.p rfl (RL.p rfl (RL.p rfl ?_))
    exact K7 _ (.cons rfl (sK [0, 1, 4, 5] rfl))
  ·
    intro hb7 K7
    refine RL.p rfl (RL.p rfl (RL.p rfl ?_))
    exact K7 _ (.cons rfl (sK [0, 1, 4, 5] rfl))
  refine RL.nil (NQ.seq ?_)
  refine CW.cond rfl (fun h => ?_) (fun h => ?_)
  ·
    refine CW.seq (CW.rg (RL.p rfl (RL.p rfl (RL.nil (NQ.seq (CW.ret (RQ.seq ?_)))))))
    exact RQ.post (res2 rfl rfl rfl) (Split.none _) ⟨_, by rw [errI_no (by simp at h; omega)], rfl, rfl⟩
  ·
    refine CW.skip (NQ.seq (CW.seq (CW.region (ef := [2, 4]) (bk := []) (RL.p rfl (RL.p rfl ?_)))))
    refine RL.makeMap (good := fun _ => True) rfl rfl rfl rfl (fun mp => ?_)
    refine RL.buildS [_, _, _] Try.zeroValue301 pl_301 rfl rfl rfl rfl rfl (RL.box rfl rfl rfl rfl rfl rfl ?_)
    intro b1
    refine RL.p rfl (RL.p rfl (RL.nil (NQ.seq (CW.ok [4, 5] rfl (CW.ret ?_)))))
    exact RQ.post (res2 rfl rfl rfl) (Split.none _) ⟨_, by rw [errI_yes (by simp at h; omega)], rfl, rfl⟩
theorem row_any (n : Int) : Spc Try.prog 147 #[.int .i64 n] [] [] (Is (.bool (decide (1 ≤ n ∧ n ≤ 100)))) := by
  refine Spc.enter Try.func147 rfl rfl rfl (fun w0 hw0 => ?_)
  refine CW.seq (CW.rg (RL.p rfl (RL.nil (NQ.seq (CW.seq (CW.rg (RL.p rfl (RL.p rfl (RL.p rfl ?_)))))))))
  apply RL.andB (d := 5) (dp := 8) (l' := (Sq.of [6])) rfl (sK [2] rfl)
  ·
    intro hb3 K3
    refine RL.p rfl (RL.p rfl (RL.p rfl ?_))
    exact K3 _ (.cons rfl (sK [2] rfl))
  ·
    intro hb3 K3
    refine RL.p rfl (RL.p rfl (RL.p rfl ?_))
    exact K3 _ (.cons rfl (sK [2] rfl))
  refine RL.p rfl (RL.nil (NQ.seq (CW.ret ?_)))
  exact RQ.post (res1 rfl rfl) (Split.none _) ⟨by congr 1; rw [Bool.eq_iff_iff]; simp, rfl, rfl⟩
theorem qua_any (a b c : Int) : Spc Try.prog 135 #[.int .i64 a, .int .i64 b, .int .i64 c] [] [] (ErP (errI (1 ≤ a ∧ a ≤ 100 ∧ 1 ≤ b ∧ b ≤ 65535 ∧ 1 ≤ c ∧ c ≤ 100))) := by
  refine Spc.enter Try.func135 rfl rfl rfl (fun w0 hw0 => ?_)
  refine CW.seq (CW.rg (RL.p rfl (RL.p rfl (RL.nil (NQ.seq (CW.seq (CW.seq (CW.rg (RL.p rfl (RL.callvq (row_any a) Try.call147 rfl rfl rfl rfl ?_))))))))))
  refine RL.p rfl (RL.p rfl ?_)
  apply RL.orB (d := 11) (dp := 15) (l' := (Sq.of [8, 9, 10, 11, 12, 13, 14, 15])) rfl (sK [0, 1, 2, 6, 7] rfl)
  ·
    intro hb4 K4
    refine RL.p rfl (RL.callvq (row_any c) Try.call147 rfl rfl rfl rfl ?_)
    refine RL.p rfl (RL.p rfl ?_)
    exact K4 _ (.cons rfl (sK [0, 1, 2, 6, 7] rfl))
  ·
    intro hb4 K4
    refine RL.p rfl (RL.p rfl (RL.p rfl (RL.p rfl ?_)))
    exact K4 _ (.cons rfl (sK [0, 1, 2, 6, 7] rfl))
  refine RL.p rfl ?_
  apply RL.orB (d := 16) (dp := 19) (l' := (Sq.of [12, 13, 14, 15])) rfl (sK [0, 1, 2, 6, 7] rfl)
  ·
    intro hb9 K9
    refine RL.p rfl (RL.p rfl (RL.p rfl ?_))
    exact K9 _ (.cons rfl (sK [0, 1, 2, 6, 7] rfl))
  ·
    intro hb9 K9
    refine RL.p rfl (RL.p rfl (RL.p rfl ?_))
    exact K9 _ (.cons rfl (sK [0, 1, 2, 6, 7] rfl))
  refine RL.p rfl ?_
  apply RL.orB (d := 20) (dp := 23) (l' := (Sq.of [])) rfl (sK [0, 1, 2, 6, 7] rfl)
  ·
    intro hb13 K13
    refine RL.p rfl (RL.p rfl (RL.p rfl ?_))
    exact K13 _ (.cons rfl (sK [0, 1, 2, 6, 7] rfl))
  ·
    intro hb13 K13
    refine RL.p rfl (RL.p rfl (RL.p rfl ?_))
    exact K13 _ (.cons rfl (sK [0, 1, 2, 6, 7] rfl))
  refine RL.nil (NQ.seq ?_)
  refine CW.cond rfl (fun h => ?_) (fun h => ?_)
  ·
    refine CW.seq (CW.rg (RL.p rfl (RL.p rfl (RL.nil (NQ.seq (CW.ret (RQ.seq ?_)))))))
    exact RQ.post (res2 rfl rfl rfl) (Split.none _) ⟨_, by rw [errI_no (by simp at h; omega)], rfl, rfl⟩
  ·
    refine CW.skip (NQ.seq (CW.seq (CW.region (ef := [4]) (bk := []) (RL.p rfl (RL.p rfl (RL.p rfl (RL.buildS _ Try.zeroValue306 pl_306 rfl rfl rfl rfl rfl (RL.box rfl rfl rfl rfl rfl rfl ?_))))))))
    intro b1
    refine RL.p rfl (RL.p rfl (RL.nil (NQ.seq (CW.ok [6, 7] rfl (CW.ret ?_)))))
    exact RQ.post (res2 rfl rfl rfl) (Split.none _) ⟨_, by rw [errI_yes (by simp at h; omega)], rfl, rfl⟩
end Go.Proofs.Ytbdnebedmdoehaa
