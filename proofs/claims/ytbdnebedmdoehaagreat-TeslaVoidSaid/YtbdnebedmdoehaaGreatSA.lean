import Derived.Test.YtbdnebedmdoehaaGreatQA
import Derived.Test.YtbdnebedmdoehaaGreatCB
import Derived.Test.YtbdnebedmdoehaaGreatCA
import Derived.Test.YtbdnebedmdoehaaGreatKB
import Derived.Test.YtbdnebedmdoehaaGreatKC
import Derived.Test.YtbdnebedmdoehaaGreatKD
import Derived.Test.YtbdnebedmdoehaaGreatFA
import Derived.Test.YtbdnebedmdoehaaGreatPE
namespace Go.Proofs.YtbdnebedmdoehaaGreat
open Go.PK
/-! ### Schedules -/
structure Sch where
  st : Int
  ln : Int
  lg : Int
  of : Int
def Sch.cells (s : Sch) : List Value := [.int .i64 s.st, .int .i64 s.ln, .int .i64 s.lg, .int .i64 s.of]
def Sch.Ok (s : Sch) : Prop := 0 ≤ s.st ∧ s.st ≤ 1099511627776 ∧ 1 ≤ s.ln ∧ s.ln ≤ 65535 ∧ 1 ≤ s.lg ∧ s.lg ≤ 16 ∧ 0 ≤ s.of ∧ s.of ≤ 65535
instance (s : Sch) : Decidable s.Ok := inferInstanceAs (Decidable (_ ∧ _))
def Sch.e (s : Sch) : Int := if s.Ok then 0 else 2
def tickB (t : Int) : Bool := decide (0 ≤ t ∧ t ≤ 1099511627776)
/-- Is a message safe? -/
def Sch.safe (s : Sch) (t : Int) (i : Nat) : Bool := decide (s.st + ((i : Int) - 1) * s.ln - t > s.of - s.lg * s.ln)
def Sch.safeV (s : Sch) (t : Int) (i : Nat) : Value := if s.Ok ∧ i ≠ 0 ∧ tickB t = true then .tuple #[.bool (s.safe t i), .int .i64 0] else .tuple #[.bool false, .int .i64 2]
theorem eqs_sch (a b c d e f g h : Int) (x y : Operand) (w : World) : (do eqGuard .eql 37 x y (.agg #[.int .i64 a, .int .i64 b, .int .i64 c, .int .i64 d]) (.agg #[.int .i64 e, .int .i64 f, .int .i64 g, .int .i64 h]); binOp .eql 37 (.agg #[.int .i64 a, .int .i64 b, .int .i64 c, .int .i64 d]) (.agg #[.int .i64 e, .int .i64 f, .int .i64 g, .int .i64 h]) : Sem Value).run Tryz.prog w = .ok (.bool (a == e && b == f && c == g && d == h)) w := by
  simp [run_eqGuard_agg, run_eql_struct, run_equalIn_struct, Program.fieldsOf, Op.eqFields, Go.part, go_sem]
  by_cases h1 : a = e <;> by_cases h2 : b = f <;> by_cases h3 : c = g <;> by_cases h4 : d = h <;> simp [h1, h2, h3, h4]
theorem stick (t : Int) : Spc Tryz.prog 67 #[.int .i64 t] [] [] (Is (.bool (tickB t))) := by
  refine Spc.enter Tryz.func67 rfl rfl rfl (fun w0 hw0 => ?_)
  refine CW.seq ?_
  refine CW.region (ef := []) (bk := []) ?_
  refine RL.assign rfl rfl rfl rfl ?_
  refine RL.nil ?_
  refine NQ.seq ?_
  refine CW.seq ?_
  refine CW.region (ef := []) (bk := []) ?_
  refine RL.move rfl rfl rfl rfl ?_
  refine RL.bin rfl rfl rfl rfl rfl rfl ?_
  refine RL.move rfl rfl rfl rfl ?_
  apply RL.andB (d := 5) (dp := 8) (l' := (Sq.of [6])) rfl (.cons (k := 2) rfl .nil)
  ·
    intro hb3 K3
    refine RL.move rfl rfl rfl rfl ?_
    refine RL.bin rfl rfl rfl rfl rfl rfl ?_
    refine RL.pickT rfl rfl rfl rfl rfl ?_
    exact K3 _ (.cons rfl (.cons (k := 2) rfl .nil))
  ·
    intro hb3 K3
    refine RL.skip rfl rfl rfl rfl ?_
    refine RL.skip rfl rfl rfl rfl ?_
    refine RL.pickF rfl rfl rfl rfl rfl ?_
    exact K3 _ (.cons rfl (.cons (k := 2) rfl .nil))
  refine RL.assign rfl rfl rfl rfl ?_
  refine RL.nil ?_
  refine NQ.seq ?_
  refine CW.ret ?_
  refine RQ.post (res1 rfl rfl) (Split.none _) ⟨?_, rfl, rfl⟩
  congr 1
  rw [Bool.eq_iff_iff]; simp [tickB]
theorem scheck (s : Sch) : Spc Tryz.prog 40 #[.agg #[.int .i64 s.st, .int .i64 s.ln, .int .i64 s.lg, .int .i64 s.of]] [] [] (Is (.int .i64 s.e)) := by
  refine Spc.enter Tryz.func40 rfl rfl rfl (fun w0 hw0 => ?_)
  refine CW.seq ?_
  refine CW.region (ef := [0]) (bk := []) ?_
  refine RL.box rfl rfl rfl rfl rfl rfl ?_
  intro b1
  refine RL.assign rfl rfl rfl rfl ?_
  refine RL.nil ?_
  refine NQ.seq ?_
  refine CW.seq ?_
  refine CW.block ?_
  refine CW.seq ?_
  refine CW.region (ef := []) (bk := []) ?_
  refine RL.loadN (vs := [_, _, _, _]) Tryz.isAgg37 Tryz.sizeOf37 rfl rfl rfl rfl (by first | (apply Rds.cel; (solve | (repeat (first | exact List.Mem.head _ | apply List.Mem.tail))); exact at_spec ⟨rfl, rfl, rfl, rfl, trivial⟩) | (apply Rds.celI; (solve | (repeat (first | exact List.Mem.head _ | apply List.Mem.tail))); exact at_spec ⟨rfl, rfl, rfl, rfl, trivial⟩) | assumption | (apply RdsI.rds; assumption)) ?_
  refine RL.buildS _ Tryz.zeroValue37 pl_37 rfl rfl rfl rfl rfl ?_
  refine RL.cmp rfl rfl rfl rfl rfl (eqs_sch _ _ _ _ _ _ _ _ _ _) ?_
  refine RL.assign rfl rfl rfl rfl ?_
  refine RL.nil ?_
  refine NQ.seq ?_
  refine CW.cond rfl (fun h1 => ?_) (fun h1 => ?_)
  ·
    refine CW.seq ?_
    refine CW.region (ef := []) (bk := []) ?_
    refine RL.assign rfl rfl rfl rfl ?_
    refine RL.nil ?_
    refine NQ.seq ?_
    refine CW.only (.cons (k := 2) rfl .nil) ?_
    refine CW.ret ?_
    refine RQ.block ?_
    refine RQ.seq ?_
    refine RQ.post (res1 rfl rfl) (Split.none _) ⟨?_, rfl, rfl⟩
    have : ¬ s.Ok := by simp at h1; unfold Sch.Ok; omega
    rw [Sch.e, if_neg this]
  ·
    refine CW.seq ?_
    refine CW.region (ef := []) (bk := []) ?_
    refine RL.fieldAddr fa_37_0 rfl rfl rfl rfl ?_
    refine RL.loadq Tryz.isAgg3 rfl rfl rfl rfl ?_
    refine RL.callvq (stick s.st) Tryz.call67 rfl rfl rfl rfl ?_
    refine RL.not rfl rfl rfl rfl ?_
    refine RL.move rfl rfl rfl rfl ?_
    apply RL.orB (d := 12) (dp := 16) (l' := (Sq.of [9, 10, 11, 12, 13, 14])) rfl (.cons (k := 1) rfl (.cons (k := 2) rfl .nil))
    ·
      intro hb5 K5
      refine RL.fieldAddr fa_37_1 rfl rfl rfl rfl ?_
      refine RL.loadq Tryz.isAgg3 rfl rfl rfl rfl ?_
      refine RL.bin rfl rfl rfl rfl rfl rfl ?_
      refine RL.pickF rfl rfl rfl rfl rfl ?_
      exact K5 _ (.cons rfl (.cons (k := 1) rfl (.cons (k := 2) rfl .nil)))
    ·
      intro hb5 K5
      refine RL.skip rfl rfl rfl rfl ?_
      refine RL.skip rfl rfl rfl rfl ?_
      refine RL.skip rfl rfl rfl rfl ?_
      refine RL.pickT rfl rfl rfl rfl rfl ?_
      exact K5 _ (.cons rfl (.cons (k := 1) rfl (.cons (k := 2) rfl .nil)))
    refine RL.move rfl rfl rfl rfl ?_
    apply RL.orB (d := 17) (dp := 21) (l' := (Sq.of [14])) rfl (.cons (k := 1) rfl (.cons (k := 2) rfl .nil))
    ·
      intro hb10 K10
      refine RL.fieldAddr fa_37_1 rfl rfl rfl rfl ?_
      refine RL.loadq Tryz.isAgg3 rfl rfl rfl rfl ?_
      refine RL.bin rfl rfl rfl rfl rfl rfl ?_
      refine RL.pickF rfl rfl rfl rfl rfl ?_
      exact K10 _ (.cons rfl (.cons (k := 1) rfl (.cons (k := 2) rfl .nil)))
    ·
      intro hb10 K10
      refine RL.skip rfl rfl rfl rfl ?_
      refine RL.skip rfl rfl rfl rfl ?_
      refine RL.skip rfl rfl rfl rfl ?_
      refine RL.pickT rfl rfl rfl rfl rfl ?_
      exact K10 _ (.cons rfl (.cons (k := 1) rfl (.cons (k := 2) rfl .nil)))
    refine RL.assign rfl rfl rfl rfl ?_
    refine RL.nil ?_
    refine NQ.seq ?_
    refine CW.cond rfl (fun h2 => ?_) (fun h2 => ?_)
    ·
      refine CW.seq ?_
      refine CW.region (ef := []) (bk := []) ?_
      refine RL.assign rfl rfl rfl rfl ?_
      refine RL.nil ?_
      refine NQ.seq ?_
      refine CW.ret ?_
      refine RQ.block ?_
      refine RQ.seq ?_
      refine RQ.post (res1 rfl rfl) (Split.none _) ⟨?_, rfl, rfl⟩
      have : ¬ s.Ok := by simp [tickB] at h2; unfold Sch.Ok; omega
      rw [Sch.e, if_neg this]
    ·
      refine CW.seq ?_
      refine CW.region (ef := []) (bk := []) ?_
      refine RL.fieldAddr fa_37_2 rfl rfl rfl rfl ?_
      refine RL.loadq Tryz.isAgg3 rfl rfl rfl rfl ?_
      refine RL.bin rfl rfl rfl rfl rfl rfl ?_
      refine RL.move rfl rfl rfl rfl ?_
      apply RL.orB (d := 26) (dp := 30) (l' := (Sq.of [8, 9, 10, 11, 12, 13, 14, 15, 16, 17, 18])) rfl (.cons (k := 1) rfl (.cons (k := 2) rfl .nil))
      ·
        intro hb4 K4
        refine RL.fieldAddr fa_37_2 rfl rfl rfl rfl ?_
        refine RL.loadq Tryz.isAgg3 rfl rfl rfl rfl ?_
        refine RL.bin rfl rfl rfl rfl rfl rfl ?_
        refine RL.pickF rfl rfl rfl rfl rfl ?_
        exact K4 _ (.cons rfl (.cons (k := 1) rfl (.cons (k := 2) rfl .nil)))
      ·
        intro hb4 K4
        refine RL.skip rfl rfl rfl rfl ?_
        refine RL.skip rfl rfl rfl rfl ?_
        refine RL.skip rfl rfl rfl rfl ?_
        refine RL.pickT rfl rfl rfl rfl rfl ?_
        exact K4 _ (.cons rfl (.cons (k := 1) rfl (.cons (k := 2) rfl .nil)))
      refine RL.move rfl rfl rfl rfl ?_
      apply RL.orB (d := 31) (dp := 35) (l' := (Sq.of [13, 14, 15, 16, 17, 18])) rfl (.cons (k := 1) rfl (.cons (k := 2) rfl .nil))
      ·
        intro hb9 K9
        refine RL.fieldAddr fa_37_3 rfl rfl rfl rfl ?_
        refine RL.loadq Tryz.isAgg3 rfl rfl rfl rfl ?_
        refine RL.bin rfl rfl rfl rfl rfl rfl ?_
        refine RL.pickF rfl rfl rfl rfl rfl ?_
        exact K9 _ (.cons rfl (.cons (k := 1) rfl (.cons (k := 2) rfl .nil)))
      ·
        intro hb9 K9
        refine RL.skip rfl rfl rfl rfl ?_
        refine RL.skip rfl rfl rfl rfl ?_
        refine RL.skip rfl rfl rfl rfl ?_
        refine RL.pickT rfl rfl rfl rfl rfl ?_
        exact K9 _ (.cons rfl (.cons (k := 1) rfl (.cons (k := 2) rfl .nil)))
      refine RL.move rfl rfl rfl rfl ?_
      apply RL.orB (d := 36) (dp := 40) (l' := (Sq.of [18])) rfl (.cons (k := 2) rfl .nil)
      ·
        intro hb14 K14
        refine RL.fieldAddr fa_37_3 rfl rfl rfl rfl ?_
        refine RL.loadq Tryz.isAgg3 rfl rfl rfl rfl ?_
        refine RL.bin rfl rfl rfl rfl rfl rfl ?_
        refine RL.pickF rfl rfl rfl rfl rfl ?_
        exact K14 _ (.cons rfl (.cons (k := 2) rfl .nil))
      ·
        intro hb14 K14
        refine RL.skip rfl rfl rfl rfl ?_
        refine RL.skip rfl rfl rfl rfl ?_
        refine RL.skip rfl rfl rfl rfl ?_
        refine RL.pickT rfl rfl rfl rfl rfl ?_
        exact K14 _ (.cons rfl (.cons (k := 2) rfl .nil))
      refine RL.assign rfl rfl rfl rfl ?_
      refine RL.nil ?_
      refine NQ.seq ?_
      refine CW.cond rfl (fun h3 => ?_) (fun h3 => ?_)
      ·
        refine CW.seq ?_
        refine CW.region (ef := []) (bk := []) ?_
        refine RL.assign rfl rfl rfl rfl ?_
        refine RL.nil ?_
        refine NQ.seq ?_
        refine CW.ret ?_
        refine RQ.block ?_
        refine RQ.seq ?_
        refine RQ.post (res1 rfl rfl) (Split.none _) ⟨?_, rfl, rfl⟩
        have : ¬ s.Ok := by simp at h3; unfold Sch.Ok; omega
        rw [Sch.e, if_neg this]
      ·
        refine CW.skip ?_
        refine NQ.block ?_
        refine NQ.seq ?_
        refine CW.seq ?_
        refine CW.region (ef := []) (bk := []) ?_
        refine RL.assign rfl rfl rfl rfl ?_
        refine RL.nil ?_
        refine NQ.seq ?_
        refine CW.ret ?_
        refine RQ.post (res1 rfl rfl) (Split.none _) ⟨?_, rfl, rfl⟩
        have : s.Ok := by simp [tickB] at h2 h3; unfold Sch.Ok; omega
        rw [Sch.e, if_pos this]
def Sch.begV (s : Sch) (i : Nat) : Value := if s.Ok ∧ i ≠ 0 then .tuple #[.int .i64 (s.st + ((i : Int) - 1) * s.ln), .int .i64 0] else .tuple #[.int .i64 0, .int .i64 2]
theorem mul_bd {a b m n : Int} (h1 : 0 ≤ a ∧ a ≤ m) (h2 : 0 ≤ b ∧ b ≤ n) : 0 ≤ a * b ∧ a * b ≤ m * n := ⟨Int.mul_nonneg h1.1 h2.1, Int.mul_le_mul h1.2 h2.2 h2.1 (Int.le_trans h1.1 h1.2)⟩
theorem sbegin (s : Sch) (i : Nat) (hi : i < 4294967296) : Spc Tryz.prog 91 #[.agg #[.int .i64 s.st, .int .i64 s.ln, .int .i64 s.lg, .int .i64 s.of], .int .u32 (i : Int)] [] [] (Is (s.begV i)) := by
  by_cases hok : s.Ok ∧ i ≠ 0
  · have ho := hok.1
    have he : s.e = 0 := if_pos hok.1
    unfold Sch.Ok at ho
    have hm := mul_bd (a := (i : Int) - 1) (b := s.ln) (m := 4294967296) (n := 65535) (by omega) (by omega)
    have hc : Value.int .u32 (IntKind.u32.wrap ((i : Int) - 1)) = .int .u32 ((i : Int) - 1) := by
      simp [IntKind.wrap, IntKind.bits, IntKind.signed]; omega
    have hw : Value.int .i64 (IntKind.i64.wrap ((i : Int) - 1)) = .int .i64 ((i : Int) - 1) := wrapV_i64 (by omega) (by omega)
    have hw2 : Value.int .i64 (IntKind.i64.wrap (i : Int)) = .int .i64 (i : Int) := wrapV_i64 (by omega) (by omega)
    refine Spc.enter Tryz.func91 rfl rfl rfl (fun w0 hw0 => ?_)
    refine CW.seq ?_
    refine CW.region (ef := [0]) (bk := []) ?_
    refine RL.box rfl rfl rfl rfl rfl rfl ?_
    intro b1
    refine RL.assign rfl rfl rfl rfl ?_
    refine RL.assign rfl rfl rfl rfl ?_
    refine RL.nil ?_
    refine NQ.seq ?_
    refine CW.seq ?_
    refine CW.seq ?_
    refine CW.region (ef := []) (bk := []) ?_
    refine RL.loadN (vs := [_, _, _, _]) Tryz.isAgg37 Tryz.sizeOf37 rfl rfl rfl rfl (by first | (apply Rds.cel; (solve | (repeat (first | exact List.Mem.head _ | apply List.Mem.tail))); exact at_spec ⟨rfl, rfl, rfl, rfl, trivial⟩) | (apply Rds.celI; (solve | (repeat (first | exact List.Mem.head _ | apply List.Mem.tail))); exact at_spec ⟨rfl, rfl, rfl, rfl, trivial⟩) | assumption | (apply RdsI.rds; assumption)) ?_
    refine RL.callvq (scheck s) Tryz.call40 rfl rfl rfl rfl ?_
    refine RL.bin rfl rfl rfl rfl rfl rfl ?_
    refine RL.move rfl rfl rfl rfl ?_
    apply RL.orB (d := 9) (dp := 12) (l' := (Sq.of [])) rfl (.cons (k := 1) rfl (.cons (k := 2) rfl (.cons (k := 4) rfl (.cons (k := 5) rfl .nil))))
    ·
      intro hb4 K4
      refine RL.move rfl rfl rfl rfl ?_
      refine RL.bin rfl rfl rfl rfl rfl rfl ?_
      refine RL.pickF rfl rfl rfl rfl rfl ?_
      exact K4 _ (.cons rfl (.cons (k := 1) rfl (.cons (k := 2) rfl (.cons (k := 4) rfl (.cons (k := 5) rfl .nil)))))
    ·
      intro hb4 K4
      refine RL.skip rfl rfl rfl rfl ?_
      refine RL.skip rfl rfl rfl rfl ?_
      refine RL.pickT rfl rfl rfl rfl rfl ?_
      exact K4 _ (.cons rfl (.cons (k := 1) rfl (.cons (k := 2) rfl (.cons (k := 4) rfl (.cons (k := 5) rfl .nil)))))
    refine RL.nil ?_
    refine NQ.seq ?_
    refine CW.condF rfl (by rw [he]; simp [hok.2]) ?_
    refine CW.skip ?_
    refine NQ.seq ?_
    refine CW.seq ?_
    refine CW.region (ef := []) (bk := []) ?_
    refine RL.fieldAddr fa_37_0 rfl rfl rfl rfl ?_
    refine RL.loadq Tryz.isAgg3 rfl rfl rfl rfl ?_
    refine RL.move rfl rfl rfl rfl ?_
    refine RL.bin rfl rfl rfl rfl rfl rfl ?_
    refine RL.cast (d := 16) rfl hc ?_
    refine RL.conv Tryz.runUnderlying24 Tryz.runUnderlying3 rfl rfl rfl rfl ?_
    refine RL.cast (d := 17) rfl hw ?_
    refine RL.fieldAddr fa_37_1 rfl rfl rfl rfl ?_
    refine RL.loadq Tryz.isAgg3 rfl rfl rfl rfl ?_
    refine RL.binX rfl rfl rfl rfl rfl rfl (wrapV_i64 (by omega) (by omega)) ?_
    refine RL.binX rfl rfl rfl rfl rfl rfl (wrapV_i64 (by omega) (by omega)) ?_
    refine RL.assign rfl rfl rfl rfl ?_
    refine RL.assign rfl rfl rfl rfl ?_
    refine RL.nil ?_
    refine NQ.seq ?_
    refine CW.only (.cons (k := 4) rfl (.cons (k := 5) rfl .nil)) ?_
    refine CW.ret ?_
    rw [Sch.begV, if_pos hok]
    exact RQ.post (res2 rfl rfl rfl) (Split.none _) ⟨rfl, rfl, rfl⟩
  · have hor : s.e = 2 ∨ i = 0 := by
      by_cases h : s.Ok
      · right; exact Classical.not_not.1 (fun e => hok ⟨h, e⟩)
      · left; exact if_neg h
    rw [Sch.begV, if_neg hok]
    refine Spc.enter Tryz.func91 rfl rfl rfl (fun w0 hw0 => ?_)
    refine CW.seq ?_
    refine CW.region (ef := [0]) (bk := []) ?_
    refine RL.box rfl rfl rfl rfl rfl rfl ?_
    intro b1
    refine RL.assign rfl rfl rfl rfl ?_
    refine RL.assign rfl rfl rfl rfl ?_
    refine RL.nil ?_
    refine NQ.seq ?_
    refine CW.seq ?_
    refine CW.seq ?_
    refine CW.region (ef := []) (bk := []) ?_
    refine RL.loadN (vs := [_, _, _, _]) Tryz.isAgg37 Tryz.sizeOf37 rfl rfl rfl rfl (by first | (apply Rds.cel; (solve | (repeat (first | exact List.Mem.head _ | apply List.Mem.tail))); exact at_spec ⟨rfl, rfl, rfl, rfl, trivial⟩) | (apply Rds.celI; (solve | (repeat (first | exact List.Mem.head _ | apply List.Mem.tail))); exact at_spec ⟨rfl, rfl, rfl, rfl, trivial⟩) | assumption | (apply RdsI.rds; assumption)) ?_
    refine RL.callvq (scheck s) Tryz.call40 rfl rfl rfl rfl ?_
    refine RL.bin rfl rfl rfl rfl rfl rfl ?_
    refine RL.move rfl rfl rfl rfl ?_
    apply RL.orB (d := 9) (dp := 12) (l' := (Sq.of [])) rfl (.cons (k := 1) rfl (.cons (k := 2) rfl (.cons (k := 4) rfl (.cons (k := 5) rfl .nil))))
    ·
      intro hb4 K4
      refine RL.move rfl rfl rfl rfl ?_
      refine RL.bin rfl rfl rfl rfl rfl rfl ?_
      refine RL.pickF rfl rfl rfl rfl rfl ?_
      exact K4 _ (.cons rfl (.cons (k := 1) rfl (.cons (k := 2) rfl (.cons (k := 4) rfl (.cons (k := 5) rfl .nil)))))
    ·
      intro hb4 K4
      refine RL.skip rfl rfl rfl rfl ?_
      refine RL.skip rfl rfl rfl rfl ?_
      refine RL.pickT rfl rfl rfl rfl rfl ?_
      exact K4 _ (.cons rfl (.cons (k := 1) rfl (.cons (k := 2) rfl (.cons (k := 4) rfl (.cons (k := 5) rfl .nil)))))
    refine RL.nil ?_
    refine NQ.seq ?_
    refine CW.condT rfl (by rcases hor with h | h <;> simp [h]) ?_
    refine CW.seq ?_
    refine CW.region (ef := []) (bk := []) ?_
    refine RL.assign rfl rfl rfl rfl ?_
    refine RL.assign rfl rfl rfl rfl ?_
    refine RL.nil ?_
    refine NQ.seq ?_
    refine CW.ret ?_
    refine RQ.seq ?_
    exact RQ.post (res2 rfl rfl rfl) (Split.none _) ⟨rfl, rfl, rfl⟩
theorem beg_ok {s : Sch} {i : Nat} (h : s.Ok ∧ i ≠ 0) : s.begV i = .tuple #[.int .i64 (s.st + ((i : Int) - 1) * s.ln), .int .i64 0] := if_pos h
theorem beg_no {s : Sch} {i : Nat} (h : ¬ (s.Ok ∧ i ≠ 0)) : s.begV i = .tuple #[.int .i64 0, .int .i64 2] := if_neg h
theorem ssafe (s : Sch) (t : Int) (i : Nat) (hi : i < 4294967296) : Spc Tryz.prog 69 #[.agg #[.int .i64 s.st, .int .i64 s.ln, .int .i64 s.lg, .int .i64 s.of], .int .i64 t, .int .u32 (i : Int)] [] [] (Is (s.safeV t i)) := by
  by_cases hok : s.Ok ∧ i ≠ 0
  · have ho := hok.1
    unfold Sch.Ok at ho
    have hm := mul_bd (a := (i : Int) - 1) (b := s.ln) (m := 4294967296) (n := 65535) (by omega) (by omega)
    have hm2 := mul_bd (a := s.lg) (b := s.ln) (m := 16) (n := 65535) (by omega) (by omega)
    have hbg := sbegin s i hi
    rw [beg_ok hok] at hbg
    refine Spc.enter Tryz.func69 rfl rfl rfl (fun w0 hw0 => ?_)
    refine CW.seq ?_
    refine CW.region (ef := [0]) (bk := []) ?_
    refine RL.box rfl rfl rfl rfl rfl rfl ?_
    intro b1
    refine RL.assign rfl rfl rfl rfl ?_
    refine RL.assign rfl rfl rfl rfl ?_
    refine RL.nil ?_
    refine NQ.seq ?_
    refine CW.seq ?_
    refine CW.region (ef := []) (bk := []) ?_
    refine RL.loadN (vs := [_, _, _, _]) Tryz.isAgg37 Tryz.sizeOf37 rfl rfl rfl rfl (by first | (apply Rds.cel; (solve | (repeat (first | exact List.Mem.head _ | apply List.Mem.tail))); exact at_spec ⟨rfl, rfl, rfl, rfl, trivial⟩) | (apply Rds.celI; (solve | (repeat (first | exact List.Mem.head _ | apply List.Mem.tail))); exact at_spec ⟨rfl, rfl, rfl, rfl, trivial⟩) | assumption | (apply RdsI.rds; assumption)) ?_
    refine RL.move rfl rfl rfl rfl ?_
    refine RL.callvq (hbg) Tryz.call91 rfl rfl rfl rfl ?_
    refine RL.move rfl rfl rfl rfl ?_
    refine RL.extract rfl rfl rfl rfl rfl ?_
    refine RL.extract rfl rfl rfl rfl rfl ?_
    refine RL.assign rfl rfl rfl rfl ?_
    refine RL.assign rfl rfl rfl rfl ?_
    refine RL.nil ?_
    refine NQ.seq ?_
    refine CW.only (.cons (k := 1) rfl (.cons (k := 3) rfl (.cons (k := 8) rfl (.cons (k := 9) rfl .nil)))) ?_
    refine CW.seq ?_
    refine CW.seq ?_
    refine CW.region (ef := []) (bk := []) ?_
    refine RL.move rfl rfl rfl rfl ?_
    refine RL.bin rfl rfl rfl rfl rfl rfl ?_
    refine RL.move rfl rfl rfl rfl ?_
    refine RL.cast (d := 18) (v' := .bool false) rfl (rfl) ?_
    refine RL.move rfl rfl rfl rfl ?_
    refine RL.callvq (stick t) Tryz.call67 rfl rfl rfl rfl ?_
    refine RL.not rfl rfl rfl rfl ?_
    refine RL.pickF rfl rfl rfl rfl rfl ?_
    refine RL.nil ?_
    refine NQ.seq ?_
    refine CW.only (.cons (k := 1) rfl (.cons (k := 3) rfl (.cons (k := 8) rfl (.cons (k := 22) rfl .nil)))) ?_
    by_cases ht : tickB t = true
    · have ht' : 0 ≤ t ∧ t ≤ 1099511627776 := by simpa [tickB] using ht
      refine CW.condF rfl (by simp [ht]) ?_
      refine CW.skip ?_
      refine NQ.seq ?_
      refine CW.seq ?_
      refine CW.region (ef := []) (bk := []) ?_
      refine RL.move rfl rfl rfl rfl ?_
      refine RL.move rfl rfl rfl rfl ?_
      refine RL.binX rfl rfl rfl rfl rfl rfl (wrapV_i64 (by omega) (by omega)) ?_
      refine RL.fieldAddr fa_37_3 rfl rfl rfl rfl ?_
      refine RL.loadq Tryz.isAgg3 rfl rfl rfl rfl ?_
      refine RL.fieldAddr fa_37_2 rfl rfl rfl rfl ?_
      refine RL.loadq Tryz.isAgg3 rfl rfl rfl rfl ?_
      refine RL.fieldAddr fa_37_1 rfl rfl rfl rfl ?_
      refine RL.loadq Tryz.isAgg3 rfl rfl rfl rfl ?_
      refine RL.binX rfl rfl rfl rfl rfl rfl (wrapV_i64 (by omega) (by omega)) ?_
      refine RL.binX rfl rfl rfl rfl rfl rfl (wrapV_i64 (by omega) (by omega)) ?_
      refine RL.bin rfl rfl rfl rfl rfl rfl ?_
      refine RL.assign rfl rfl rfl rfl ?_
      refine RL.assign rfl rfl rfl rfl ?_
      refine RL.nil ?_
      refine NQ.seq ?_
      refine CW.only (.cons (k := 6) rfl (.cons (k := 7) rfl .nil)) ?_
      refine CW.ret ?_
      rw [Sch.safeV, if_pos ⟨hok.1, hok.2, ht⟩]
      refine RQ.post (res2 rfl rfl rfl) (Split.none _) ⟨?_, rfl, rfl⟩
      rfl
    ·
      rw [Sch.safeV, if_neg (fun h => ht h.2.2)]
      refine CW.condT rfl (by simp [ht]) ?_
      refine CW.seq ?_
      refine CW.region (ef := []) (bk := []) ?_
      refine RL.assign rfl rfl rfl rfl ?_
      refine RL.assign rfl rfl rfl rfl ?_
      refine RL.nil ?_
      refine NQ.seq ?_
      refine CW.ret ?_
      refine RQ.seq ?_
      exact RQ.post (res2 rfl rfl rfl) (Split.none _) ⟨rfl, rfl, rfl⟩
  · rw [Sch.safeV, if_neg (fun h => hok ⟨h.1, h.2.1⟩)]
    have hbg := sbegin s i hi
    rw [beg_no hok] at hbg
    refine Spc.enter Tryz.func69 rfl rfl rfl (fun w0 hw0 => ?_)
    refine CW.seq ?_
    refine CW.region (ef := [0]) (bk := []) ?_
    refine RL.box rfl rfl rfl rfl rfl rfl ?_
    intro b1
    refine RL.assign rfl rfl rfl rfl ?_
    refine RL.assign rfl rfl rfl rfl ?_
    refine RL.nil ?_
    refine NQ.seq ?_
    refine CW.seq ?_
    refine CW.region (ef := []) (bk := []) ?_
    refine RL.loadN (vs := [_, _, _, _]) Tryz.isAgg37 Tryz.sizeOf37 rfl rfl rfl rfl (by first | (apply Rds.cel; (solve | (repeat (first | exact List.Mem.head _ | apply List.Mem.tail))); exact at_spec ⟨rfl, rfl, rfl, rfl, trivial⟩) | (apply Rds.celI; (solve | (repeat (first | exact List.Mem.head _ | apply List.Mem.tail))); exact at_spec ⟨rfl, rfl, rfl, rfl, trivial⟩) | assumption | (apply RdsI.rds; assumption)) ?_
    refine RL.move rfl rfl rfl rfl ?_
    refine RL.callvq (hbg) Tryz.call91 rfl rfl rfl rfl ?_
    refine RL.move rfl rfl rfl rfl ?_
    refine RL.extract rfl rfl rfl rfl rfl ?_
    refine RL.extract rfl rfl rfl rfl rfl ?_
    refine RL.assign rfl rfl rfl rfl ?_
    refine RL.assign rfl rfl rfl rfl ?_
    refine RL.nil ?_
    refine NQ.seq ?_
    refine CW.only (.cons (k := 1) rfl (.cons (k := 3) rfl (.cons (k := 8) rfl (.cons (k := 9) rfl .nil)))) ?_
    refine CW.seq ?_
    refine CW.seq ?_
    refine CW.region (ef := []) (bk := []) ?_
    refine RL.move rfl rfl rfl rfl ?_
    refine RL.bin rfl rfl rfl rfl rfl rfl ?_
    refine RL.move rfl rfl rfl rfl ?_
    refine RL.cast (d := 18) (v' := .bool true) rfl (rfl) ?_
    refine RL.skip rfl rfl rfl rfl ?_
    refine RL.skip rfl rfl rfl rfl ?_
    refine RL.skip rfl rfl rfl rfl ?_
    refine RL.pickT rfl rfl rfl rfl rfl ?_
    refine RL.nil ?_
    refine NQ.seq ?_
    refine CW.only (.cons (k := 1) rfl (.cons (k := 3) rfl (.cons (k := 8) rfl (.cons (k := 22) rfl .nil)))) ?_
    refine CW.condT rfl rfl ?_
    refine CW.seq ?_
    refine CW.region (ef := []) (bk := []) ?_
    refine RL.assign rfl rfl rfl rfl ?_
    refine RL.assign rfl rfl rfl rfl ?_
    refine RL.nil ?_
    refine NQ.seq ?_
    refine CW.ret ?_
    refine RQ.seq ?_
    exact RQ.post (res2 rfl rfl rfl) (Split.none _) ⟨rfl, rfl, rfl⟩
end Go.Proofs.YtbdnebedmdoehaaGreat

namespace Go.Proofs.YtbdnebedmdoehaaGreat
open Go.PK
/-! ### Errors told, counted -/
def goodE (v : Value) : Prop := ∃ n : Int, v = .int .i64 n
theorem keyEr : KeyT Tryz.prog 42 goodE where
  desc := ⟨_, Tryz.runUnderlying42, fun a b ha hb => by
    obtain ⟨m, rfl⟩ := ha; obtain ⟨n, rfl⟩ := hb
    by_cases h : m = n <;> simp [Instr.sameNow, same, h]⟩
  eq := by
    rintro _ _ ⟨a, rfl⟩ ⟨c, rfl⟩ w
    by_cases h : a = c <;> simp [Op.equal, Op.maxDepth, same, h, Go.part, go_sem]
  chk := by
    rintro _ ⟨a, rfl⟩ e w
    have : ∀ n, (Instr.checkKey e (n + 2) 42 (.int .i64 a)).run Tryz.prog w = .ok () w := by
      intro n
      simp [Instr.checkKey, Go.part, go_sem]
    exact this 9998
  bits := by
    rintro _ ⟨a, rfl⟩
    simp [Instr.sameBits]
abbrev Tm := List (Int × Int)
def encT (m : Tm) : List (Value × Value) := m.map fun x => (.int .i64 x.1, .int .i64 x.2)
def cnt (e : Int) : Tm → Int
  | [] => 0
  | (a, n) :: r => if e = a then n else cnt e r
def putN (e v : Int) : Tm → Tm
  | [] => [(e, v)]
  | (a, n) :: r => if e = a then (e, v) :: r else (a, n) :: putN e v r
def bump (e : Int) (m : Tm) : Tm := putN e (cnt e m + 1) m
theorem cnt_enc (e : Int) : ∀ m : Tm, (lookV (.int .i64 e) (encT m)).getD (.int .i64 0) = .int .i64 (cnt e m)
  | [] => rfl
  | (a, n) :: r => by
    have ih := cnt_enc e r
    simp only [encT] at ih
    by_cases h : e = a
    · subst h; simp [encT, lookV, cnt]
    · simp [encT, lookV, cnt, h, ih]
theorem put_enc (e v : Int) : ∀ m : Tm, setV (.int .i64 e) (.int .i64 v) (encT m) = encT (putN e v m)
  | [] => rfl
  | (a, n) :: r => by
    have ih := put_enc e v r
    simp only [encT] at ih
    by_cases h : e = a
    · subst h; simp [encT, setV, putN]
    · simp [encT, setV, putN, h, ih]
def TmB (m : Tm) (n : Int) : Prop := ∀ x ∈ m, 0 ≤ x.2 ∧ x.2 ≤ n
theorem cnt_bd {e n : Int} (hn : 0 ≤ n) : ∀ {m : Tm}, TmB m n → 0 ≤ cnt e m ∧ cnt e m ≤ n
  | [], _ => by simp [cnt]; omega
  | (a, k) :: r, h => by
    rw [cnt]; split
    · exact h (a, k) (by simp)
    · exact cnt_bd hn (fun x hx => h x (by simp [hx]))
/-! ### A receiver -/
structure RBk where
  b : Nat
  q : Nat
  r : Nat
  mt : Nat
  s : Sch
structure RSt where
  iv : Nat
  k : List B8
  bad : Nat
  rel : Nat
  c : Bq
  m : Tm
def rcC (B : RBk) (z : RSt) : List Value := .int .i64 B.s.st :: .int .i64 B.s.ln :: .int .i64 B.s.lg :: .int .i64 B.s.of :: .int .u32 (z.iv : Int) :: (bytes z.k ++ [.pointer (some ⟨B.q, 0, none⟩), .int .i64 (z.bad : Int), .int .i64 (z.rel : Int), .map (some B.mt)])
abbrev recI (B : RBk) (z : RSt) : It := cel B.b (rcC B z) 81
abbrev tmI (B : RBk) (z : RSt) : It := mapI B.mt goodE (encT z.m)
abbrev RTI (B : RBk) (z : RSt) : List It := [recI B z, tmI B z, bufI B.q B.r, mapQ B.r z.c]
structure RSt.Ok (z : RSt) : Prop where
  iv : z.iv < 4294967296
  k : z.k.length = 32
  bad : z.bad ≤ 1000000
  rel : z.rel ≤ 1000000
  c : ∀ x ∈ z.c, x.2.Ok
  l : z.c.length ≤ 16
  m : TmB z.m 1000000
theorem rc_len (B : RBk) {z : RSt} (h : z.k.length = 32) : (rcC B z).length = 41 := by simp [rcC, h]
theorem rc_iv (B : RBk) (z : RSt) : (rcC B z)[0 + 4]? = some (.int .u32 (z.iv : Int)) := rfl
theorem rc_tail (B : RBk) {z : RSt} (h : z.k.length = 32) (j : Nat) : (rcC B z)[0 + 37 + j]? = ([.pointer (some ⟨B.q, 0, none⟩), .int .i64 (z.bad : Int), .int .i64 (z.rel : Int), .map (some B.mt)] : List Value)[j]? := by
  rw [rcC, show 0 + 37 + j = (32 + j) + 1 + 1 + 1 + 1 + 1 by omega]
  simp only [List.getElem?_cons_succ]
  rw [List.getElem?_append_right (by simp [h]), List.length_map, h, Nat.add_sub_cancel_left]
theorem rc_q (B : RBk) {z : RSt} (h : z.k.length = 32) : (rcC B z)[0 + 37]? = some (.pointer (some ⟨B.q, 0, none⟩)) := rc_tail B h 0
theorem rc_bad (B : RBk) {z : RSt} (h : z.k.length = 32) : (rcC B z)[0 + 38]? = some (.int .i64 (z.bad : Int)) := rc_tail B h 1
theorem rc_rel (B : RBk) {z : RSt} (h : z.k.length = 32) : (rcC B z)[0 + 39]? = some (.int .i64 (z.rel : Int)) := rc_tail B h 2
theorem rc_mt (B : RBk) {z : RSt} (h : z.k.length = 32) : (rcC B z)[0 + 40]? = some (.map (some B.mt)) := rc_tail B h 3
theorem rc_k (B : RBk) (z : RSt) : ∀ (j : Nat) (u : Value), (bytes z.k)[j]? = some u → (rcC B z)[0 + 5 + j]? = some u := fun j u hj => by
  rw [rcC, show 0 + 5 + j = j + 1 + 1 + 1 + 1 + 1 by omega]
  simp only [List.getElem?_cons_succ]
  rw [List.getElem?_append_left (List.getElem?_eq_some_iff.1 hj).1]; exact hj
theorem set_iv (B : RBk) (z : RSt) (n : Nat) : spl (rcC B z) (0 + 4) [.int .u32 (n : Int)] = rcC B { z with iv := n } := by
  show spl _ 4 _ = _
  simp only [rcC, spl]
  cases hk : (bytes z.k ++ [Value.pointer (some ⟨B.q, 0, none⟩), .int .i64 (z.bad : Int), .int .i64 (z.rel : Int), .map (some B.mt)]) with
  | nil => simp [spl]
  | cons a l => simp [spl]
theorem set_bad (B : RBk) {z : RSt} (h : z.k.length = 32) (n : Nat) : spl (rcC B z) (0 + 38) [.int .i64 (n : Int)] = rcC B { z with bad := n } := by
  have h' : (bytes z.k).length = 32 := by rw [List.length_map, h]
  have e : ∀ n : Nat, rcC B { z with bad := n } = ([.int .i64 B.s.st, .int .i64 B.s.ln, .int .i64 B.s.lg, .int .i64 B.s.of, .int .u32 (z.iv : Int)] ++ bytes z.k ++ [.pointer (some ⟨B.q, 0, none⟩)]) ++ ([.int .i64 (n : Int)] ++ [.int .i64 (z.rel : Int), .map (some B.mt)]) := fun n => by simp [rcC]
  rw [show rcC B z = rcC B { z with bad := z.bad } from rfl, e, e]; exact seg_spl (by simp [h']) (by simp)
theorem set_rel (B : RBk) {z : RSt} (h : z.k.length = 32) (n : Nat) : spl (rcC B z) (0 + 39) [.int .i64 (n : Int)] = rcC B { z with rel := n } := by
  have h' : (bytes z.k).length = 32 := by rw [List.length_map, h]
  have e : ∀ n : Nat, rcC B { z with rel := n } = ([.int .i64 B.s.st, .int .i64 B.s.ln, .int .i64 B.s.lg, .int .i64 B.s.of, .int .u32 (z.iv : Int)] ++ bytes z.k ++ [.pointer (some ⟨B.q, 0, none⟩), .int .i64 (z.bad : Int)]) ++ ([.int .i64 (n : Int)] ++ [.map (some B.mt)]) := fun n => by simp [rcC]
  rw [show rcC B z = rcC B { z with rel := z.rel } from rfl, e, e]; exact seg_spl (by simp [h']) (by simp)
theorem tis_yes (B : RBk) (z : RSt) (hk : z.k.length = 32) : Spc Tryz.prog 42 #[.pointer (some ⟨B.b, 0, none⟩)] [recI B z] [] (Is (.bool true)) := by
  refine Spc.enter Tryz.func42 rfl rfl rfl (fun w0 hw0 => ?_)
  refine CW.seq ?_
  refine CW.region (ef := []) (bk := []) ?_
  refine RL.assign rfl rfl rfl rfl ?_
  refine RL.nil ?_
  refine NQ.seq ?_
  refine CW.seq ?_
  refine CW.region (ef := []) (bk := []) ?_
  refine RL.move rfl rfl rfl rfl ?_
  refine RL.cmp rfl rfl rfl rfl rfl (neq_ptr Tryz.runUnderlying41 _) ?_
  refine RL.move rfl rfl rfl rfl ?_
  refine RL.move rfl rfl rfl rfl ?_
  refine RL.nilCheck rfl rfl rfl rfl ?_
  refine RL.fieldAddr fa_81_3 rfl rfl rfl rfl ?_
  refine RL.load Tryz.isAgg78 rfl rfl rfl rfl (Rd.getI (by repeat (first | exact List.Mem.head _ | apply List.Mem.tail)) (rc_q B hk)) ?_
  refine RL.cmp rfl rfl rfl rfl rfl (neq_ptr Tryz.runUnderlying78 _) ?_
  refine RL.pickT rfl rfl rfl rfl rfl ?_
  refine RL.assign rfl rfl rfl rfl ?_
  refine RL.nil ?_
  refine NQ.seq ?_
  refine CW.only (.cons (k := 2) rfl .nil) ?_
  refine CW.ret ?_
  exact RQ.post (res1 rfl rfl) (Split.none _) ⟨rfl, rfl, rfl⟩
theorem tell_any (B : RBk) (z : RSt) (hk : z.k.length = 32) (hm : TmB z.m 1000000) (e : Int) : Spc Tryz.prog 43 #[.pointer (some ⟨B.b, 0, none⟩), .int .i64 e] [recI B z] [tmI B z] (fun v I' H' => v = .int .i64 e ∧ I' = [] ∧ H' = [tmI B { z with m := bump e z.m }]) := by
  have hn := cnt_bd (e := e) (by decide) hm
  refine Spc.enter Tryz.func43 rfl rfl rfl (fun w0 hw0 => ?_)
  refine CW.seq ?_
  refine CW.region (ef := []) (bk := []) ?_
  refine RL.assign rfl rfl rfl rfl ?_
  refine RL.nil ?_
  refine NQ.seq ?_
  refine CW.seq ?_
  refine CW.region (ef := [7]) (bk := [7]) ?_
  refine RL.move rfl rfl rfl rfl ?_
  refine RL.nilCheck rfl rfl rfl rfl ?_
  refine RL.fieldAddr fa_81_6 rfl rfl rfl rfl ?_
  refine RL.load Tryz.isAgg79 rfl rfl rfl rfl (Rd.getI (by repeat (first | exact List.Mem.head _ | apply List.Mem.tail)) (rc_mt B hk)) ?_
  refine RL.move rfl rfl rfl rfl ?_
  refine RL.lookup keyEr Tryz.runUnderlying79 Tryz.zeroValue3 rfl rfl rfl rfl rfl ⟨e, rfl⟩ (MapAt.own (List.Mem.head _)) ?_
  refine RL.cast (d := 10) rfl (cnt_enc e z.m) ?_
  refine RL.binX rfl rfl rfl rfl rfl rfl (wrapV_i64 (by omega) (by omega)) ?_
  refine RL.mapUpdate keyEr Tryz.runUnderlying79 rfl rfl rfl rfl rfl rfl rfl ⟨e, rfl⟩ (by repeat (first | exact Upd.here | apply Upd.there)) ?_
  refine RL.nil ?_
  refine NQ.seq ?_
  refine CW.only (.cons (k := 1) rfl .nil) ?_
  refine CW.seq ?_
  refine CW.region (ef := []) (bk := []) ?_
  refine RL.move rfl rfl rfl rfl ?_
  refine RL.assign rfl rfl rfl rfl ?_
  refine RL.nil ?_
  refine NQ.seq ?_
  refine CW.ret ?_
  rw [put_enc]
  exact RQ.post (res1 rfl rfl) (.keep .nil) ⟨rfl, rfl, rfl⟩
end Go.Proofs.YtbdnebedmdoehaaGreat

namespace Go.Proofs.YtbdnebedmdoehaaGreat
open Go.PK
/-! ### Messages -/
def mIv (f : Fr) : Nat := nat f.b 0 4
def mSq (f : Fr) : B8 := bat f.b 4
def safeB (s : Sch) (t : Int) (i : Nat) : Bool := if s.Ok ∧ i ≠ 0 ∧ tickB t = true then s.safe t i else false
def msgE (s : Sch) (iv : Nat) (t : Int) (f : Fr) : Int := if f.b.length ≠ 29 ∨ f.kd ≠ 5 ∨ mIv f = 0 then 120 else if mIv f ≤ iv ∨ safeB s t (mIv f) = false then 210 else 0
def mP (f : Fr) : Pq := ((mIv f : Int), ((mSq f).toNat : Int))
inductive MsgO (s : Sch) (iv : Nat) (t : Int) (c : Bq) (f : Fr) : Int → Bq → List It → Prop
  | no {e : Int} (h : msgE s iv t f = e) (h0 : e ≠ 0) : MsgO s iv t c f e c []
  | put {e : Int} {c' : Bq} {I' : List It} (h : msgE s iv t f = 0) (hp : PutO c (mP f) f e c' I') : MsgO s iv t c f e c' I'
theorem mIv_lt (f : Fr) : mIv f < 4294967296 := nat_lt f.b 0 4
theorem gotR5 (l : List B8) : gotR 5 l = if l.length = 29 then some (getR 5 l) else none := by
  rw [gotR]
  have h1 : (getR 5 l).mode = 0#8 := rfl
  by_cases h : l.length = 29
  · rw [if_pos h, if_pos ⟨by decide, by decide, by rw [h]; rfl, by rw [h1]; decide, by simp⟩]
  · rw [if_neg h, if_neg (fun e => h (by have := e.2.2.1; rw [this]; rfl))]
theorem safe_v (s : Sch) (t : Int) (i : Nat) : s.safeV t i = .tuple #[.bool (safeB s t i), .int .i64 (if s.Ok ∧ i ≠ 0 ∧ tickB t = true then 0 else 2)] := by
  unfold Sch.safeV safeB
  split <;> rfl
theorem msgE_kd {s : Sch} {iv : Nat} {t : Int} {f : Fr} (h : f.b.length ≠ 29 ∨ f.kd ≠ 5 ∨ mIv f = 0) : msgE s iv t f = 120 := if_pos h
theorem msgE_lt {s : Sch} {iv : Nat} {t : Int} {f : Fr} (h : ¬ (f.b.length ≠ 29 ∨ f.kd ≠ 5 ∨ mIv f = 0)) (h2 : mIv f ≤ iv ∨ safeB s t (mIv f) = false) : msgE s iv t f = 210 := by rw [msgE, if_neg h, if_pos h2]
theorem msgE_ok {s : Sch} {iv : Nat} {t : Int} {f : Fr} (h : ¬ (f.b.length ≠ 29 ∨ f.kd ≠ 5 ∨ mIv f = 0)) (h2 : ¬ (mIv f ≤ iv ∨ safeB s t (mIv f) = false)) : msgE s iv t f = 0 := by rw [msgE, if_neg h, if_neg h2]
theorem rdg_iv (r : Rdg) : r.cells[0 + 11]? = some (.int .u32 r.interval) := rfl
theorem rdg_sq (r : Rdg) : r.cells[0 + 12]? = some (U8 r.seq) := rfl
theorem rdg_len (r : Rdg) : r.cells.length = 57 := rfl
def MsgR (B : RBk) (z : RSt) (t : Int) (f : Fr) : Value → List It → List It → Prop := fun v I' H' => ∃ e c', v = .int .i64 e ∧ MsgO B.s z.iv t z.c f e c' I' ∧ H' = [bufI B.q B.r, mapQ B.r c']
theorem ttake_any (B : RBk) (z : RSt) (hz : z.Ok) (t : Int) (f : Fr) (q : Option Addr) (cc n : Nat) (hf : f.Ok) (hn : f.b.length = n) (hc : n ≤ cc) (hb : n ≤ 100000) :
    Spc Tryz.prog 44 #[.pointer (some ⟨B.b, 0, none⟩), .int .i64 t, .agg (f.cells (.slice q n cc)).toArray] [recI B z, sls q 1 n (bytes f.b)] [bufI B.q B.r, mapQ B.r z.c] (MsgR B z t f) := by
  have hfl := fr_len hf.tag (.slice q n cc)
  have hk := hz.k
  have hg := get_any 5 q n cc f.b hn hc (by omega)
  rw [gotR5] at hg
  have hr : ∀ r : Rdg, r.cells.length = 57 := rdg_len
  by_cases h29 : f.b.length = 29
  · rw [if_pos h29] at hg
    have hsf := ssafe B.s t (mIv f) (mIv_lt f)
    rw [safe_v] at hsf
    refine Spc.enter Tryz.func44 rfl rfl rfl (fun w0 hw0 => ?_)
    refine CW.seq ?_
    refine CW.region (ef := [0]) (bk := []) ?_
    refine RL.box rfl rfl rfl rfl rfl rfl ?_
    intro b1
    refine RL.assign rfl rfl rfl rfl ?_
    refine RL.nil ?_
    refine NQ.seq ?_
    refine CW.seq ?_
    refine CW.region (ef := [6, 7]) (bk := [7]) ?_
    refine RL.fieldAddr fa_30_4 rfl rfl rfl rfl ?_
    refine RL.loadq Tryz.isAgg26 rfl rfl rfl rfl ?_
    refine RL.callv (hg) Tryz.call68 rfl rfl rfl rfl (Lend.inI (by repeat (first | exact List.Mem.head _ | apply List.Mem.tail)) .nil) ?_
    refine RL.move rfl rfl rfl rfl ?_
    refine RL.extract rfl rfl rfl rfl rfl ?_
    refine RL.extract rfl rfl rfl rfl rfl ?_
    refine RL.alloc Tryz.zeroValue68 rfl rfl rfl rfl rfl ?_
    intro b2
    refine RL.storeW Tryz.sizeOf68 rfl rfl rfl rfl rfl rfl rfl rfl (Upd.here) (rdg_len _) rfl ?_
    refine RL.assign rfl rfl rfl rfl ?_
    refine RL.nil ?_
    refine NQ.seq ?_
    refine CW.only (.cons (k := 0) rfl (.cons (k := 1) rfl (.cons (k := 5) rfl (.cons (k := 7) rfl (.cons (k := 8) rfl .nil))))) ?_
    refine CW.seq ?_
    refine CW.seq ?_
    refine CW.region (ef := []) (bk := []) ?_
    refine RL.move rfl rfl rfl rfl ?_
    refine RL.bin rfl rfl rfl rfl rfl rfl ?_
    refine RL.move rfl rfl rfl rfl ?_
    apply RL.orB (d := 19) (dp := 23) (l' := (Sq.of [7, 8, 9, 10, 11])) rfl (.cons (k := 0) rfl (.cons (k := 1) rfl (.cons (k := 5) rfl (.cons (k := 7) rfl .nil))))
    ·
      intro hb3 K3
      refine RL.fieldAddr fa_30_0 rfl rfl rfl rfl ?_
      refine RL.loadq Tryz.isAgg3 rfl rfl rfl rfl ?_
      refine RL.bin rfl rfl rfl rfl rfl rfl ?_
      refine RL.pickF rfl rfl rfl rfl rfl ?_
      exact K3 _ (.cons rfl (.cons (k := 0) rfl (.cons (k := 1) rfl (.cons (k := 5) rfl (.cons (k := 7) rfl .nil)))))
    ·
      intro hb3 K3
      refine RL.skip rfl rfl rfl rfl ?_
      refine RL.skip rfl rfl rfl rfl ?_
      refine RL.skip rfl rfl rfl rfl ?_
      refine RL.pickT rfl rfl rfl rfl rfl ?_
      exact K3 _ (.cons rfl (.cons (k := 0) rfl (.cons (k := 1) rfl (.cons (k := 5) rfl (.cons (k := 7) rfl .nil)))))
    refine RL.move rfl rfl rfl rfl ?_
    apply RL.orB (d := 24) (dp := 28) (l' := (Sq.of [])) rfl (.cons (k := 0) rfl (.cons (k := 1) rfl (.cons (k := 5) rfl (.cons (k := 7) rfl .nil))))
    ·
      intro hb8 K8
      refine RL.fieldAddr fa_68_7 rfl rfl rfl rfl ?_
      refine RL.load Tryz.isAgg24 rfl rfl rfl rfl (Rd.get (List.Mem.head _) (rdg_iv _)) ?_
      refine RL.bin rfl rfl rfl rfl rfl rfl ?_
      refine RL.pickF rfl rfl rfl rfl rfl ?_
      exact K8 _ (.cons rfl (.cons (k := 0) rfl (.cons (k := 1) rfl (.cons (k := 5) rfl (.cons (k := 7) rfl .nil)))))
    ·
      intro hb8 K8
      refine RL.skip rfl rfl rfl rfl ?_
      refine RL.skip rfl rfl rfl rfl ?_
      refine RL.skip rfl rfl rfl rfl ?_
      refine RL.pickT rfl rfl rfl rfl rfl ?_
      exact K8 _ (.cons rfl (.cons (k := 0) rfl (.cons (k := 1) rfl (.cons (k := 5) rfl (.cons (k := 7) rfl .nil)))))
    refine RL.nil ?_
    refine NQ.seq ?_
    refine CW.cond rfl (fun h1 => ?_) (fun h1 => ?_)
    ·
      refine CW.seq ?_
      refine CW.region (ef := []) (bk := []) ?_
      refine RL.assign rfl rfl rfl rfl ?_
      refine RL.nil ?_
      refine NQ.seq ?_
      refine CW.ret ?_
      refine RQ.seq ?_
      have h1' : f.b.length ≠ 29 ∨ f.kd ≠ 5 ∨ mIv f = 0 := by
        right
        simp at h1
        rcases h1 with h | h
        · exact .inl h
        · exact .inr (by have : ((mIv f : Nat) : Int) = 0 := h; omega)
      exact RQ.post (res1 rfl rfl) (.drop (.drop (.keep (.keep .nil)))) ⟨120, z.c, rfl, .no (msgE_kd h1') (by decide), rfl⟩
    ·
      have h1' : ¬ (f.b.length ≠ 29 ∨ f.kd ≠ 5 ∨ mIv f = 0) := by
        rintro (h | h | h)
        · exact h h29
        · simp [h] at h1
        · have : (getR 5 f.b).interval = 0 := by (show ((mIv f : Nat) : Int) = 0; omega)
          simp [this] at h1
      refine CW.skip ?_
      refine NQ.seq ?_
      refine CW.seq ?_
      refine CW.regionD (Sq.of [0, 1, 2, 3, 4, 5, 6, 7, 8, 9, 10, 11, 12]) [] [] [0, 1, 2, 4, 5, 8, 9, 10, 11, 12] mixed (by kernel_rfl) ?_
      refine RL.move rfl rfl rfl rfl ?_
      refine RL.nilCheck rfl rfl rfl rfl ?_
      refine RL.fieldAddr fa_81_0 rfl rfl rfl rfl ?_
      refine RL.loadN (vs := [_, _, _, _]) Tryz.isAgg37 Tryz.sizeOf37 rfl rfl rfl rfl (Rds.celI (List.Mem.head _) (at_spec ⟨rfl, rfl, rfl, rfl, trivial⟩)) ?_
      refine RL.move rfl rfl rfl rfl ?_
      refine RL.fieldAddr fa_68_7 rfl rfl rfl rfl ?_
      refine RL.load Tryz.isAgg24 rfl rfl rfl rfl (Rd.get (List.Mem.head _) (rdg_iv _)) ?_
      refine RL.callvq (hsf) Tryz.call69 rfl rfl rfl rfl ?_
      refine RL.move rfl rfl rfl rfl ?_
      refine RL.extract rfl rfl rfl rfl rfl ?_
      refine RL.extract rfl rfl rfl rfl rfl ?_
      refine RL.assign rfl rfl rfl rfl ?_
      refine RL.assign rfl rfl rfl rfl ?_
      refine RL.nil ?_
      refine NQ.seq ?_
      refine CW.only (.cons (k := 0) rfl (.cons (k := 5) rfl (.cons (k := 7) rfl (.cons (k := 9) rfl .nil)))) ?_
      refine CW.seq ?_
      refine CW.seq ?_
      refine CW.regionD (Sq.of [0, 1, 2, 3, 4, 5, 6, 7, 8, 9, 10]) [] [] [0, 2, 3, 4, 6, 7, 8, 9, 10] mixed (by kernel_rfl) ?_
      refine RL.fieldAddr fa_68_7 rfl rfl rfl rfl ?_
      refine RL.load Tryz.isAgg24 rfl rfl rfl rfl (Rd.get (List.Mem.head _) (rdg_iv _)) ?_
      refine RL.move rfl rfl rfl rfl ?_
      refine RL.nilCheck rfl rfl rfl rfl ?_
      refine RL.fieldAddr fa_81_1 rfl rfl rfl rfl ?_
      refine RL.load Tryz.isAgg24 rfl rfl rfl rfl (Rd.getI (List.Mem.head _) (rc_iv B z)) ?_
      refine RL.bin rfl rfl rfl rfl rfl rfl ?_
      refine RL.move rfl rfl rfl rfl ?_
      apply RL.orB (d := 47) (dp := 50) (l' := (Sq.of [])) rfl (.cons (k := 0) rfl (.cons (k := 5) rfl (.cons (k := 7) rfl .nil)))
      ·
        intro hb8 K8
        refine RL.move rfl rfl rfl rfl ?_
        refine RL.not rfl rfl rfl rfl ?_
        refine RL.pickF rfl rfl rfl rfl rfl ?_
        exact K8 _ (.cons rfl (.cons (k := 0) rfl (.cons (k := 5) rfl (.cons (k := 7) rfl .nil))))
      ·
        intro hb8 K8
        refine RL.skip rfl rfl rfl rfl ?_
        refine RL.skip rfl rfl rfl rfl ?_
        refine RL.pickT rfl rfl rfl rfl rfl ?_
        exact K8 _ (.cons rfl (.cons (k := 0) rfl (.cons (k := 5) rfl (.cons (k := 7) rfl .nil))))
      refine RL.nil ?_
      refine NQ.seq ?_
      refine CW.cond rfl (fun h2 => ?_) (fun h2 => ?_)
      ·
        refine CW.seq ?_
        refine CW.region (ef := []) (bk := []) ?_
        refine RL.assign rfl rfl rfl rfl ?_
        refine RL.nil ?_
        refine NQ.seq ?_
        refine CW.ret ?_
        refine RQ.seq ?_
        have h2' : mIv f ≤ z.iv ∨ safeB B.s t (mIv f) = false := by
          simp at h2
          rcases h2 with h | h
          · exact .inl (by have : ((mIv f : Nat) : Int) ≤ z.iv := h; omega)
          · exact .inr h
        exact RQ.post (res1 rfl rfl) (.drop (.drop (.keep (.keep .nil)))) ⟨210, z.c, rfl, .no (msgE_lt h1' h2') (by decide), rfl⟩
      ·
        have h2' : ¬ (mIv f ≤ z.iv ∨ safeB B.s t (mIv f) = false) := by
          rintro (h | h)
          · have : (getR 5 f.b).interval ≤ (z.iv : Int) := by (show ((mIv f : Nat) : Int) ≤ z.iv; omega)
            simp [this] at h2
          · simp [h] at h2
        refine CW.skip ?_
        refine NQ.seq ?_
        refine CW.seq ?_
        refine CW.regionD (Sq.of [0, 1, 2, 3, 4, 5, 6, 7, 8, 9, 10, 11]) [10] [10] [0, 1, 2, 4, 6, 8, 11] mixed (by kernel_rfl) ?_
        refine RL.move rfl rfl rfl rfl ?_
        refine RL.nilCheck rfl rfl rfl rfl ?_
        refine RL.fieldAddr fa_81_3 rfl rfl rfl rfl ?_
        refine RL.load Tryz.isAgg78 rfl rfl rfl rfl (Rd.getI (List.Mem.head _) (rc_q B hk)) ?_
        refine RL.fieldAddr fa_68_7 rfl rfl rfl rfl ?_
        refine RL.load Tryz.isAgg24 rfl rfl rfl rfl (Rd.get (List.Mem.head _) (rdg_iv _)) ?_
        refine RL.fieldAddr fa_68_8 rfl rfl rfl rfl ?_
        refine RL.load Tryz.isAgg5 rfl rfl rfl rfl (Rd.get (List.Mem.head _) (rdg_sq _)) ?_
        refine RL.buildS [_, _] Tryz.zeroValue117 pl_117 rfl rfl rfl rfl rfl ?_
        first | refine RL.loadM Tryz.isAgg30 Tryz.sizeOf30 rfl rfl rfl rfl (by assumption) ?_ | refine RL.loadA Tryz.isAgg30 Tryz.sizeOf30 rfl rfl rfl rfl (by first | assumption | (apply RdsI.rds; assumption)) (by first | rfl | assumption | (simp only [List.length_map]; assumption) | (simp only [List.length_map, List.length_replicate, hfl, hr]; done) | (simp; done)) ?_ | refine RL.loadW Tryz.isAgg30 Tryz.sizeOf30 rfl rfl rfl rfl (by (solve | (repeat (first | exact List.Mem.head _ | apply List.Mem.tail)))) (by first | rfl | assumption | (simp only [List.length_map]; assumption) | (simp only [List.length_map, List.length_replicate, hfl, hr]; done) | (simp; done)) ?_
        refine RL.callf (qput_any B.q B.r z.c (mP f) f q cc n hf hn hb (fun x hx => hz.c x hx)) Tryz.call70 rfl rfl rfl rfl rfl (by repeat (first | exact Pick.nil | apply Pick.take | apply Pick.leave)) (Lend.inI (by repeat (first | exact List.Mem.head _ | apply List.Mem.tail)) .nil) (.inr rfl) ?_
        rintro _ _ _ ⟨e, c', rfl, hO, rfl⟩ hfr
        refine RL.assign rfl rfl rfl rfl ?_
        refine RL.nil ?_
        refine NQ.seq ?_
        refine CW.only (.cons (k := 6) rfl .nil) ?_
        refine CW.ret ?_
        exact RQ.postF (res1 rfl rfl) (.keep (.keep (.drop (.drop .nil)))) (fun x hx => List.mem_append_left _ hx) hfr ⟨e, c', rfl, .put (msgE_ok h1' h2') hO, rfl⟩
  · rw [if_neg h29] at hg
    refine Spc.enter Tryz.func44 rfl rfl rfl (fun w0 hw0 => ?_)
    refine CW.seq ?_
    refine CW.region (ef := [0]) (bk := []) ?_
    refine RL.box rfl rfl rfl rfl rfl rfl ?_
    intro b1
    refine RL.assign rfl rfl rfl rfl ?_
    refine RL.nil ?_
    refine NQ.seq ?_
    refine CW.seq ?_
    refine CW.region (ef := [6, 7]) (bk := [7]) ?_
    refine RL.fieldAddr fa_30_4 rfl rfl rfl rfl ?_
    refine RL.loadq Tryz.isAgg26 rfl rfl rfl rfl ?_
    refine RL.callv (hg) Tryz.call68 rfl rfl rfl rfl (Lend.inI (by repeat (first | exact List.Mem.head _ | apply List.Mem.tail)) .nil) ?_
    refine RL.move rfl rfl rfl rfl ?_
    refine RL.extract rfl rfl rfl rfl rfl ?_
    refine RL.extract rfl rfl rfl rfl rfl ?_
    refine RL.alloc Tryz.zeroValue68 rfl rfl rfl rfl rfl ?_
    intro b2
    refine RL.storeW Tryz.sizeOf68 rfl rfl rfl rfl rfl rfl rfl rfl (Upd.here) (rdg_len _) rfl ?_
    refine RL.assign rfl rfl rfl rfl ?_
    refine RL.nil ?_
    refine NQ.seq ?_
    refine CW.only (.cons (k := 0) rfl (.cons (k := 1) rfl (.cons (k := 5) rfl (.cons (k := 7) rfl (.cons (k := 8) rfl .nil))))) ?_
    refine CW.seq ?_
    refine CW.seq ?_
    refine CW.region (ef := []) (bk := []) ?_
    refine RL.move rfl rfl rfl rfl ?_
    refine RL.bin rfl rfl rfl rfl rfl rfl ?_
    refine RL.move rfl rfl rfl rfl ?_
    refine RL.cast (d := 19) (v' := .bool true) rfl (rfl) ?_
    refine RL.skip rfl rfl rfl rfl ?_
    refine RL.skip rfl rfl rfl rfl ?_
    refine RL.skip rfl rfl rfl rfl ?_
    refine RL.pickT rfl rfl rfl rfl rfl ?_
    refine RL.move rfl rfl rfl rfl ?_
    refine RL.skip rfl rfl rfl rfl ?_
    refine RL.skip rfl rfl rfl rfl ?_
    refine RL.skip rfl rfl rfl rfl ?_
    refine RL.pickT rfl rfl rfl rfl rfl ?_
    refine RL.nil ?_
    refine NQ.seq ?_
    refine CW.only (.cons (k := 0) rfl (.cons (k := 1) rfl (.cons (k := 5) rfl (.cons (k := 7) rfl (.cons (k := 28) rfl .nil))))) ?_
    refine CW.condT rfl rfl ?_
    refine CW.seq ?_
    refine CW.region (ef := []) (bk := []) ?_
    refine RL.assign rfl rfl rfl rfl ?_
    refine RL.nil ?_
    refine NQ.seq ?_
    refine CW.ret ?_
    refine RQ.seq ?_
    exact RQ.post (res1 rfl rfl) (.drop (.drop (.keep (.keep .nil)))) ⟨120, z.c, rfl, .no (msgE_kd (.inl h29)) (by decide), rfl⟩
inductive MessO (s : Sch) (iv : Nat) (t : Int) (c : Bq) (f : Fr) : Int → Bq → List It → Prop
  | no (h : tickB t = false) : MessO s iv t c f 2 c []
  | go {e : Int} {c' : Bq} {I' : List It} (h : tickB t = true) (hm : MsgO s iv t c f e c' I') : MessO s iv t c f e c' I'
def MessR (B : RBk) (z : RSt) (t : Int) (f : Fr) : Value → List It → List It → Prop := fun v I' H' => ∃ e c', v = .int .i64 e ∧ MessO B.s z.iv t z.c f e c' I' ∧ H' = [tmI B { z with m := bump e z.m }, bufI B.q B.r, mapQ B.r c']
theorem tmess_any (B : RBk) (z : RSt) (hz : z.Ok) (t : Int) (f : Fr) (q : Option Addr) (cc n : Nat) (hf : f.Ok) (hn : f.b.length = n) (hc : n ≤ cc) (hb : n ≤ 100000) :
    Spc Tryz.prog 16 #[.pointer (some ⟨B.b, 0, none⟩), .int .i64 t, .agg (f.cells (.slice q n cc)).toArray] [recI B z, sls q 1 n (bytes f.b)] [tmI B z, bufI B.q B.r, mapQ B.r z.c] (MessR B z t f) := by
  have hfl := fr_len hf.tag (.slice q n cc)
  refine Spc.enter Tryz.func16 rfl rfl rfl (fun w0 hw0 => ?_)
  refine CW.seq ?_
  refine CW.region (ef := [0]) (bk := []) ?_
  refine RL.box rfl rfl rfl rfl rfl rfl ?_
  intro b1
  refine RL.assign rfl rfl rfl rfl ?_
  refine RL.nil ?_
  refine NQ.seq ?_
  refine CW.seq ?_
  refine CW.block ?_
  refine CW.seq ?_
  refine CW.region (ef := []) (bk := []) ?_
  refine RL.move rfl rfl rfl rfl ?_
  refine RL.callv (tis_yes B z hz.k) Tryz.call42 rfl rfl rfl rfl (Lend.inI (by repeat (first | exact List.Mem.head _ | apply List.Mem.tail)) .nil) ?_
  refine RL.not rfl rfl rfl rfl ?_
  refine RL.assign rfl rfl rfl rfl ?_
  refine RL.nil ?_
  refine NQ.seq ?_
  refine CW.condF rfl (rfl) ?_
  refine CW.seq ?_
  refine CW.region (ef := []) (bk := []) ?_
  refine RL.move rfl rfl rfl rfl ?_
  refine RL.bin rfl rfl rfl rfl rfl rfl ?_
  refine RL.move rfl rfl rfl rfl ?_
  apply RL.orB (d := 14) (dp := 17) (l' := (Sq.of [6])) rfl (.cons (k := 0) rfl (.cons (k := 1) rfl (.cons (k := 5) rfl (.cons (k := 6) rfl .nil))))
  ·
    intro hb3 K3
    refine RL.move rfl rfl rfl rfl ?_
    refine RL.bin rfl rfl rfl rfl rfl rfl ?_
    refine RL.pickF rfl rfl rfl rfl rfl ?_
    exact K3 _ (.cons rfl (.cons (k := 0) rfl (.cons (k := 1) rfl (.cons (k := 5) rfl (.cons (k := 6) rfl .nil)))))
  ·
    intro hb3 K3
    refine RL.skip rfl rfl rfl rfl ?_
    refine RL.skip rfl rfl rfl rfl ?_
    refine RL.pickT rfl rfl rfl rfl rfl ?_
    exact K3 _ (.cons rfl (.cons (k := 0) rfl (.cons (k := 1) rfl (.cons (k := 5) rfl (.cons (k := 6) rfl .nil)))))
  refine RL.assign rfl rfl rfl rfl ?_
  refine RL.nil ?_
  refine NQ.seq ?_
  refine CW.cond rfl (fun h1 => ?_) (fun h1 => ?_)
  ·
    refine CW.seq ?_
    refine CW.region (ef := [1]) (bk := [1]) ?_
    refine RL.move rfl rfl rfl rfl ?_
    refine RL.call (tell_any B z hz.k hz.m 2) Tryz.call43 rfl rfl rfl rfl rfl (by repeat (first | exact Pick.nil | apply Pick.take | apply Pick.leave)) (Lend.inI (by repeat (first | exact List.Mem.head _ | apply List.Mem.tail)) .nil) (.inr rfl) ?_
    rintro _ _ _ ⟨rfl, rfl, rfl⟩
    refine RL.assign rfl rfl rfl rfl ?_
    refine RL.nil ?_
    refine NQ.seq ?_
    refine CW.ret ?_
    refine RQ.block ?_
    refine RQ.seq ?_
    have h1' : tickB t = false := by simp at h1; simp [tickB]; omega
    exact RQ.post (res1 rfl rfl) (.keep (.drop (.keep (.keep .nil)))) ⟨2, z.c, rfl, .no h1', rfl⟩
  ·
    have h1' : tickB t = true := by simp at h1; simp [tickB]; omega
    refine CW.skip ?_
    refine NQ.block ?_
    refine NQ.seq ?_
    refine CW.seq ?_
    refine CW.region (ef := [4, 5]) (bk := [4, 5]) ?_
    refine RL.move rfl rfl rfl rfl ?_
    refine RL.move rfl rfl rfl rfl ?_
    refine RL.move rfl rfl rfl rfl ?_
    first | refine RL.loadM Tryz.isAgg30 Tryz.sizeOf30 rfl rfl rfl rfl (by assumption) ?_ | refine RL.loadA Tryz.isAgg30 Tryz.sizeOf30 rfl rfl rfl rfl (by first | assumption | (apply RdsI.rds; assumption)) (by first | rfl | assumption | (simp only [List.length_map]; assumption) | (simp only [List.length_map, List.length_replicate, hfl]; done) | (simp; done)) ?_ | refine RL.loadW Tryz.isAgg30 Tryz.sizeOf30 rfl rfl rfl rfl (by (solve | (repeat (first | exact List.Mem.head _ | apply List.Mem.tail)))) (by first | rfl | assumption | (simp only [List.length_map]; assumption) | (simp only [List.length_map, List.length_replicate, hfl]; done) | (simp; done)) ?_
    refine RL.callf (ttake_any B z hz t f q cc n hf hn hc hb) Tryz.call44 rfl rfl rfl rfl rfl (by repeat (first | exact Pick.nil | apply Pick.take | apply Pick.leave)) (Lend.inI (by repeat (first | exact List.Mem.head _ | apply List.Mem.tail)) (Lend.inI (by repeat (first | exact List.Mem.head _ | apply List.Mem.tail)) .nil)) (.inr rfl) ?_
    rintro _ _ _ ⟨e, c', rfl, hO, rfl⟩ hfr
    refine RL.call (tell_any B z hz.k hz.m e) Tryz.call43 rfl rfl rfl rfl rfl (by repeat (first | exact Pick.nil | apply Pick.take | apply Pick.leave)) (Lend.inI (by simp) .nil) (.inr rfl) ?_
    rintro _ _ _ ⟨rfl, rfl, rfl⟩
    refine RL.assign rfl rfl rfl rfl ?_
    refine RL.nil ?_
    refine NQ.seq ?_
    refine CW.only (.cons (k := 6) rfl .nil) ?_
    refine CW.ret ?_
    exact RQ.postF (res1 rfl rfl) (.keep (.keep (.keep (.drop .nil)))) (fun x hx => by simp [hx]) hfr ⟨e, c', rfl, .go h1' hO, rfl⟩
end Go.Proofs.YtbdnebedmdoehaaGreat

namespace Go.Proofs.YtbdnebedmdoehaaGreat
open Go.PK
/-! ### Signed -/
def gnssL : List B8 := [103, 110, 115, 115]
def tagK (k : List B8) (i : Nat) : List B8 := deriveK k gnssL i
def Fr.tsign (f : Fr) (k : List B8) (i : Nat) : Fr := { f with tag := macTag (tagK k i) f.signed }
theorem tsign_seg (f : Fr) (sl : Value) : f.cells sl = [.int .i64 f.kd, .int .i64 f.sr, .int .u32 (f.ep : Int), .int .u64 (f.ct : Int), sl] ++ (bytes f.tag ++ []) := by simp [Fr.cells]
theorem Fr.tsign_ok {f : Fr} (h : f.Ok) (k : List B8) (i : Nat) : (f.tsign k i).Ok := ⟨h.ep, h.ct, macTag_len _ _⟩
theorem tderive_len (k : List B8) (l : List B8) (n : Nat) : (deriveK k l n).length = 32 := macCode_len _ _
theorem tagK_len (k : List B8) (i : Nat) : (tagK k i).length = 32 := tderive_len _ _ _
theorem tagKey_any (k : List B8) (i : Nat) (hk : k.length = 32) (hi : i < 4294967296) : Spc Tryz.prog 33 #[.agg (bytes k).toArray, .int .u32 (i : Int)] [] [] (Is (.agg (bytes (tagK k i)).toArray)) := by
  have hl := tagK_len k i
  refine Spc.enter Tryz.func33 rfl rfl rfl (fun w0 hw0 => ?_)
  refine CW.seq ?_
  refine CW.region (ef := [0, 1]) (bk := []) ?_
  refine RL.box rfl rfl rfl rfl rfl rfl ?_
  intro b1
  refine RL.alloc (cs := List.replicate 32 (U8 0#8)) Tryz.zeroValue23 rfl rfl rfl rfl rfl ?_
  intro b2
  refine RL.nil ?_
  refine NQ.seq ?_
  refine CW.seq ?_
  refine CW.region (ef := [4]) (bk := [4]) ?_
  first | refine RL.loadM Tryz.isAgg23 Tryz.sizeOf23 rfl rfl rfl rfl (by assumption) ?_ | refine RL.loadA Tryz.isAgg23 Tryz.sizeOf23 rfl rfl rfl rfl (by first | assumption | (apply RdsI.rds; assumption)) (by first | rfl | assumption | (simp only [List.length_map]; assumption) | (simp only [List.length_map, List.length_replicate, hk, hl]; done) | (simp; done)) ?_ | refine RL.loadW Tryz.isAgg23 Tryz.sizeOf23 rfl rfl rfl rfl (by (solve | (repeat (first | exact List.Mem.head _ | apply List.Mem.tail)))) (by first | rfl | assumption | (simp only [List.length_map]; assumption) | (simp only [List.length_map, List.length_replicate, hk, hl]; done) | (simp; done)) ?_
  refine RL.move rfl rfl rfl rfl ?_
  refine RL.conv Tryz.runUnderlying24 Tryz.runUnderlying25 rfl rfl rfl rfl ?_
  refine RL.callvq (derive_w k hk gnssL (by decide) i hi) Tryz.call60 rfl rfl rfl rfl ?_
  refine RL.storeW Tryz.sizeOf23 rfl rfl rfl rfl rfl rfl rfl (by first | rfl | exact ones_map one8 _ | exact ones_map (fun _ => rfl) _) (by repeat (first | exact Upd.here | apply Upd.there)) (by first | rfl | assumption | (simp only [List.length_map]; assumption) | (simp only [List.length_map, List.length_replicate, hk, hl]; done) | (simp; done)) (by first | rfl | assumption | (simp only [List.length_map]; assumption) | (simp only [List.length_map, List.length_replicate, hk, hl]; done) | (simp; done)) ?_
  refine RL.nil ?_
  refine NQ.seq ?_
  refine CW.only (.cons (k := 4) rfl .nil) ?_
  refine CW.ret ?_
  exact RQ.post (resW rfl rfl Tryz.isAgg23 Tryz.sizeOf23 (by repeat (first | exact List.Mem.head _ | apply List.Mem.tail)) (by rw [List.length_map, hl])) (Split.none _) ⟨rfl, rfl, rfl⟩
theorem tsign_any (k : List B8) (i : Nat) (f : Fr) (p : Option Addr) (c n : Nat) (hk : k.length = 32) (hi : i < 4294967296) (hf : f.Ok) (hn : f.b.length = n) (hb : n ≤ 900000) : Spc Tryz.prog 10 #[.agg (bytes k).toArray, .int .u32 (i : Int), .agg (f.cells (.slice p n c)).toArray] [sls p 1 n (bytes f.b)] [] (Is (.agg ((f.tsign k i).cells (.slice p n c)).toArray)) := by
  have hl := fr_len hf.tag (.slice p n c)
  have hl2 := fr_len (f.tsign_ok hf k i).tag (.slice p n c)
  have hsl := signed_len f
  refine Spc.enter Tryz.func10 rfl rfl rfl (fun w0 hw0 => ?_)
  refine CW.seq ?_
  refine CW.region (ef := [0, 1, 2]) (bk := []) ?_
  refine RL.box rfl rfl rfl rfl rfl rfl ?_
  intro b1
  refine RL.box rfl rfl rfl rfl rfl rfl ?_
  intro b2
  refine RL.alloc Tryz.zeroValue30 rfl rfl rfl rfl rfl ?_
  intro b3
  refine RL.nil ?_
  refine NQ.seq ?_
  refine CW.seq ?_
  refine CW.regionD (Sq.of [0, 1, 2, 3, 4, 5, 6, 7, 8]) [4, 5, 8] [8] [1, 7] mixed (by kernel_rfl) ?_
  first | refine RL.loadM Tryz.isAgg23 Tryz.sizeOf23 rfl rfl rfl rfl (by assumption) ?_ | refine RL.loadA Tryz.isAgg23 Tryz.sizeOf23 rfl rfl rfl rfl (by first | assumption | (apply RdsI.rds; assumption)) (by first | rfl | assumption | (simp only [List.length_map]; assumption) | (simp only [List.length_map, List.length_replicate, hk, hl]; done) | (simp; done)) ?_ | refine RL.loadW Tryz.isAgg23 Tryz.sizeOf23 rfl rfl rfl rfl (by (solve | (repeat (first | exact List.Mem.head _ | apply List.Mem.tail)))) (by first | rfl | assumption | (simp only [List.length_map]; assumption) | (simp only [List.length_map, List.length_replicate, hk, hl]; done) | (simp; done)) ?_
  refine RL.move rfl rfl rfl rfl ?_
  refine RL.callvq (tagKey_any k i hk hi) Tryz.call33 rfl rfl rfl rfl ?_
  first | refine RL.loadM Tryz.isAgg30 Tryz.sizeOf30 rfl rfl rfl rfl (by assumption) ?_ | refine RL.loadA Tryz.isAgg30 Tryz.sizeOf30 rfl rfl rfl rfl (by first | assumption | (apply RdsI.rds; assumption)) (by first | rfl | assumption | (simp only [List.length_map]; assumption) | (simp only [List.length_map, List.length_replicate, hk, hl]; done) | (simp; done)) ?_ | refine RL.loadW Tryz.isAgg30 Tryz.sizeOf30 rfl rfl rfl rfl (by (solve | (repeat (first | exact List.Mem.head _ | apply List.Mem.tail)))) (by first | rfl | assumption | (simp only [List.length_map]; assumption) | (simp only [List.length_map, List.length_replicate, hk, hl]; done) | (simp; done)) ?_
  refine RL.callq (signed_any f p c n hf hn hb) Tryz.call34 rfl rfl rfl rfl rfl (.inl rfl) ?_
  rintro _ _ _ ⟨ob1, cap1, rfl, rfl, rfl, ho1⟩
  refine RL.buildSlice [_] Tryz.runUnderlying123 Tryz.sizeOf26 Tryz.zeroValue26 rfl rfl (by decide) (by decide) rfl rfl rfl rfl rfl rfl ?_
  intro b4
  refine RL.callv (tag_any (tagK k i) (tderive_len _ _ _) (some ⟨b4, 0, none⟩) 1 1 [⟨ob1.map fun b => ⟨b, 0, none⟩, cap1, f.signed⟩] rfl (by decide) (by simp [joined]; omega)) Tryz.call32 rfl rfl rfl rfl (Lend.allX (by repeat (first | exact List.Mem.head _ | apply List.Mem.tail)) rfl rfl (Lend.own (by repeat (first | exact List.Mem.head _ | apply List.Mem.tail)) .nil)) ?_
  refine RL.fieldAddr fa_30_5 rfl rfl rfl rfl ?_
  rw [show joined [⟨ob1.map fun b => ⟨b, 0, none⟩, cap1, f.signed⟩] = f.signed by simp [joined]]
  refine RL.storeSeg (cs := f.cells (.slice p n c)) (cs' := (f.tsign k i).cells (.slice p n c)) (vs := bytes (macTag (tagK k i) f.signed)) [.int .i64 f.kd, .int .i64 f.sr, .int .u32 (f.ep : Int), .int .u64 (f.ct : Int), .slice p n c] (bytes f.tag) [] Tryz.sizeOf28 rfl rfl rfl rfl rfl rfl rfl (ones_map one8 _) (tsign_seg f _) (by rw [tsign_seg]; rfl) rfl (by rw [List.length_map, hf.tag]) (by rw [List.length_map, macTag_len]) (by repeat (first | exact Upd.here | apply Upd.there)) ?_
  refine RL.nil ?_
  refine NQ.seq ?_
  refine CW.only (.cons (k := 5) rfl (.cons (k := 6) rfl .nil)) ?_
  refine CW.seq ?_
  refine CW.region (ef := [1]) (bk := [1]) ?_
  first | refine RL.loadM Tryz.isAgg30 Tryz.sizeOf30 rfl rfl rfl rfl (by assumption) ?_ | refine RL.loadA Tryz.isAgg30 Tryz.sizeOf30 rfl rfl rfl rfl (by first | assumption | (apply RdsI.rds; assumption)) (by first | rfl | assumption | (simp only [List.length_map]; assumption) | (simp only [List.length_map, List.length_replicate, hk, hl]; done) | (simp; done)) ?_ | refine RL.loadW Tryz.isAgg30 Tryz.sizeOf30 rfl rfl rfl rfl (by (solve | (repeat (first | exact List.Mem.head _ | apply List.Mem.tail)))) (by first | rfl | assumption | (simp only [List.length_map]; assumption) | (simp only [List.length_map, List.length_replicate, hk, hl]; done) | (simp; done)) ?_
  refine RL.storeW Tryz.sizeOf30 rfl rfl rfl rfl rfl rfl rfl (ones_fr _ rfl) (by repeat (first | exact Upd.here | apply Upd.there)) hl2 rfl ?_
  refine RL.nil ?_
  refine NQ.seq ?_
  refine CW.ret ?_
  exact RQ.post (resW rfl rfl Tryz.isAgg30 Tryz.sizeOf30 (by repeat (first | exact List.Mem.head _ | apply List.Mem.tail)) hl2) (Split.none _) ⟨rfl, rfl, rfl⟩
end Go.Proofs.YtbdnebedmdoehaaGreat
