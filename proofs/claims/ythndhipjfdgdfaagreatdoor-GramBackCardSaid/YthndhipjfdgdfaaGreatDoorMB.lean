import Derived.Test.YthndhipjfdgdfaaGreatDoorFacts
import Derived.Test.YthndhipjfdgdfaaGreatDoorPC
import Derived.Test.YthndhipjfdgdfaaGreatDoorMA
import Derived.Test.YthndhipjfdgdfaaGreatDoorPE
set_option linter.unusedVariables false
set_option linter.unusedSimpArgs false
namespace Go.Proofs.YthndhipjfdgdfaaGreatDoor
open Go.PK
end Go.Proofs.YthndhipjfdgdfaaGreatDoor

/- Wide numbers, as integers: no program here. -/
namespace Go.PK

theorem IntKind.wrap_i64 (n : Int) : IntKind.i64.wrap n = (n + 9223372036854775808) % 18446744073709551616 - 9223372036854775808 := by
  simp only [IntKind.wrap, IntKind.bits, IntKind.signed]
  simp
  omega
theorem IntKind.wrap_u64 (n : Int) : IntKind.u64.wrap n = n % 18446744073709551616 := by
  simp [IntKind.wrap, IntKind.bits, IntKind.signed]

/-- A wide number. -/
def W (z : Int) : Value := .agg #[.int .i64 (z / 18446744073709551616), .int .u64 (z % 18446744073709551616)]

def clip (z : Int) : Int := if z < -9223372036854775808 then -9223372036854775808 else if z > 9223372036854775807 then 9223372036854775807 else z
def cut (z : Int) : Bool := decide (z < -9223372036854775808 ∨ z > 9223372036854775807)

theorem W_of (n : Int) (h : -9223372036854775808 ≤ n ∧ n ≤ 9223372036854775807) : Value.agg #[.int .i64 (n.fdiv (2 ^ 63)), .int .u64 (IntKind.u64.wrap n)] = W n := by
  rw [IntKind.wrap_u64, W]
  have : n.fdiv (2 ^ 63) = n / 18446744073709551616 := by
    rw [Int.fdiv_eq_ediv_of_nonneg _ (by decide)]
    omega
  rw [this]

end Go.PK

namespace Go.Proofs.YthndhipjfdgdfaaGreatDoor
open Go.PK

theorem eqs_wide (x0 x1 y0 y1 : Int) (x y : Operand) (w : World) : (do eqGuard .eql 319 x y (.agg #[.int .i64 x0, .int .u64 x1]) (.agg #[.int .i64 y0, .int .u64 y1]); binOp .eql 319 (.agg #[.int .i64 x0, .int .u64 x1]) (.agg #[.int .i64 y0, .int .u64 y1]) : Sem Value).run Tryz.prog w = .ok (.bool (x0 == y0 && x1 == y1)) w := by
  simp [run_eqGuard_agg, run_eql_struct, run_equalIn_struct, Program.fieldsOf, Op.eqFields, Go.part, go_sem]
  by_cases h1 : x0 = y0 <;> by_cases h2 : x1 = y1 <;> simp [h1, h2]

theorem wideOf_walk (n : Int) : Spc Tryz.prog 183 #[.int .i64 n] [] [] (Is (.agg #[.int .i64 (n.fdiv (2 ^ 63)), .int .u64 (IntKind.u64.wrap n)])) := by
  refine Spc.enter Tryz.func183 rfl rfl rfl (fun w0 hw0 => ?_)
  refine CW.seq (CW.region (ef := [0]) (bk := []) (RL.alloc Tryz.zeroValue319 rfl rfl rfl rfl rfl ?_))
  intro b1
  refine RL.nil (NQ.seq (CW.seq (CW.region (ef := [5]) (bk := [5]) (RL.p rfl (RL.shr 63 rfl rfl rfl rfl rfl rfl (by decide) ?_)))))
  refine RL.p rfl (RL.conv Tryz.runUnderlying2 Tryz.runUnderlying30 rfl rfl rfl rfl (RL.buildS [_, _] Tryz.zeroValue319 pl_319 rfl rfl rfl rfl rfl (RL.store (vs := [_, _]) Tryz.sizeOf319 rfl rfl rfl rfl rfl rfl rfl rfl rfl (by repeat (first | exact Upd.here | apply Upd.there)) ?_)))
  refine RL.nil (NQ.seq (CW.ok [2] rfl (CW.ret ?_)))
  exact RQ.post (resC rfl rfl Tryz.isAgg319 (vs := [_, _]) Tryz.sizeOf319 (Rds.cel (List.Mem.head _) (at_spec ⟨rfl, rfl, trivial⟩))) (Split.none _) ⟨rfl, rfl, rfl⟩
theorem wideOf (n : Int) (h : -9223372036854775808 ≤ n ∧ n ≤ 9223372036854775807) : Spc Tryz.prog 183 #[.int .i64 n] [] [] (Is (W n)) := W_of n h ▸ wideOf_walk n

theorem wideAdd (a b : Int) (h : -170141183460469231731687303715884105728 ≤ a + b) (h' : a + b < 170141183460469231731687303715884105728) : Spc Tryz.prog 177 #[W a, W b] [] [] (Is (W (a + b))) := by
  unfold W
  refine Spc.enter Tryz.func177 rfl rfl rfl (fun w0 hw0 => ?_)
  refine CW.seq (CW.region (ef := [0, 1, 2]) (bk := []) (RL.box rfl rfl rfl rfl rfl rfl ?_))
  intro b1
  refine RL.box rfl rfl rfl rfl rfl rfl ?_
  intro b2
  refine RL.alloc Tryz.zeroValue319 rfl rfl rfl rfl rfl ?_
  intro b3
  refine RL.nil (NQ.seq (CW.seq (CW.rg (RL.fieldAddr fa_319_1 rfl rfl rfl rfl (RL.loadq Tryz.isAgg30 rfl rfl rfl rfl ?_)))))
  refine RL.fieldAddr fa_319_1 rfl rfl rfl rfl (RL.loadq Tryz.isAgg30 rfl rfl rfl rfl ?_)
  refine RL.p rfl (RL.p rfl (RL.nil (NQ.seq (CW.ok [2, 3, 4, 5] rfl (CW.seq (CW.rg (RL.fieldAddr fa_319_0 rfl rfl rfl rfl (RL.loadq Tryz.isAgg2 rfl rfl rfl rfl ?_))))))))
  refine RL.conv Tryz.runUnderlying2 Tryz.runUnderlying30 rfl rfl rfl rfl (RL.fieldAddr fa_319_0 rfl rfl rfl rfl (RL.loadq Tryz.isAgg2 rfl rfl rfl rfl ?_))
  refine RL.conv Tryz.runUnderlying2 Tryz.runUnderlying30 rfl rfl rfl rfl (RL.p rfl (RL.p rfl (RL.nil (NQ.seq (CW.ok [2, 4, 5, 6] rfl (CW.seq (CW.seq (CW.rg (RL.p rfl (RL.fieldAddr fa_319_1 rfl rfl rfl rfl (RL.loadq Tryz.isAgg30 rfl rfl rfl rfl ?_)))))))))))
  refine RL.p rfl (RL.nil (NQ.seq ?_))
  refine CW.cond rfl (fun hc => ?_) (fun hc => ?_)
  ·
    refine CW.rg (RL.p rfl (RL.p rfl (RL.p rfl (RL.nil (NQ.seq (CW.ok [4, 5, 6] rfl (CW.seq (CW.region (ef := [4]) (bk := [4]) (RL.p rfl (RL.conv Tryz.runUnderlying30 Tryz.runUnderlying2 rfl rfl rfl rfl (RL.p rfl (RL.buildS [_, _] Tryz.zeroValue319 pl_319 rfl rfl rfl rfl rfl (RL.store (vs := [_, _]) Tryz.sizeOf319 rfl rfl rfl rfl rfl rfl rfl rfl rfl (by repeat (first | exact Upd.here | apply Upd.there)) ?_)))))))))))))
    refine RL.nil (NQ.seq (CW.ok [4] rfl (CW.ret ?_)))
    refine RQ.post (resC rfl rfl Tryz.isAgg319 (vs := [_, _]) Tryz.sizeOf319 (Rds.cel (List.Mem.head _) (at_spec ⟨rfl, rfl, trivial⟩))) (Split.none _) ⟨?_, rfl, rfl⟩
    simp only [decide_eq_true_eq, IntKind.wrap_i64, IntKind.wrap_u64] at hc ⊢
    have e1 : (a + b) / 18446744073709551616 = a / 18446744073709551616 + b / 18446744073709551616 + 1 := by omega
    have e2 : (a + b) % 18446744073709551616 = (a % 18446744073709551616 + b % 18446744073709551616) % 18446744073709551616 := by omega
    have e3 : -9223372036854775808 ≤ a / 18446744073709551616 + b / 18446744073709551616 + 1 ∧ a / 18446744073709551616 + b / 18446744073709551616 + 1 < 9223372036854775808 := by omega
    rw [e1, e2]
    generalize a / 18446744073709551616 = p at *
    generalize b / 18446744073709551616 = q at *
    congr 4
    congr 1; omega
  ·
    refine CW.skip (NQ.seq (CW.seq (CW.region (ef := [4]) (bk := [4]) (RL.p rfl (RL.conv Tryz.runUnderlying30 Tryz.runUnderlying2 rfl rfl rfl rfl (RL.p rfl (RL.buildS [_, _] Tryz.zeroValue319 pl_319 rfl rfl rfl rfl rfl (RL.store (vs := [_, _]) Tryz.sizeOf319 rfl rfl rfl rfl rfl rfl rfl rfl rfl (by repeat (first | exact Upd.here | apply Upd.there)) ?_))))))))
    refine RL.nil (NQ.seq (CW.ok [4] rfl (CW.ret ?_)))
    refine RQ.post (resC rfl rfl Tryz.isAgg319 (vs := [_, _]) Tryz.sizeOf319 (Rds.cel (List.Mem.head _) (at_spec ⟨rfl, rfl, trivial⟩))) (Split.none _) ⟨?_, rfl, rfl⟩
    simp only [decide_eq_false_iff_not, IntKind.wrap_i64, IntKind.wrap_u64] at hc ⊢
    have e1 : (a + b) / 18446744073709551616 = a / 18446744073709551616 + b / 18446744073709551616 + 0 := by omega
    have e2 : (a + b) % 18446744073709551616 = (a % 18446744073709551616 + b % 18446744073709551616) % 18446744073709551616 := by omega
    have e3 : -9223372036854775808 ≤ a / 18446744073709551616 + b / 18446744073709551616 + 0 ∧ a / 18446744073709551616 + b / 18446744073709551616 + 0 < 9223372036854775808 := by omega
    rw [e1, e2]
    generalize a / 18446744073709551616 = p at *
    generalize b / 18446744073709551616 = q at *
    congr 4
    congr 1; omega

theorem fixOf (n : Int) (h : -9223372036854775808 ≤ n ∧ n ≤ 9223372036854775807) : Spc Tryz.prog 178 #[.int .i64 n] [] [] (Is (W n)) := by
  refine Spc.enter Tryz.func178 rfl rfl rfl (fun w0 hw0 => ?_)
  refine CW.seq (CW.region (ef := [0]) (bk := []) (RL.alloc Tryz.zeroValue319 rfl rfl rfl rfl rfl ?_))
  intro b1
  refine RL.nil (NQ.seq (CW.seq (CW.region (ef := [2]) (bk := [2]) (RL.p rfl (RL.callvq (wideOf _ (by omega)) Tryz.call183 rfl rfl rfl rfl ?_)))))
  refine RL.store (vs := [_, _]) Tryz.sizeOf319 rfl rfl rfl rfl rfl rfl rfl rfl rfl (by repeat (first | exact Upd.here | apply Upd.there)) ?_
  refine RL.nil (NQ.seq (CW.ret ?_))
  exact RQ.post (resC rfl rfl Tryz.isAgg319 (vs := [_, _]) Tryz.sizeOf319 (Rds.cel (List.Mem.head _) (at_spec ⟨rfl, rfl, trivial⟩))) (Split.none _) ⟨rfl, rfl, rfl⟩

theorem wideClip (z : Int) (h : -170141183460469231731687303715884105728 ≤ z) (h' : z < 170141183460469231731687303715884105728) : Spc Tryz.prog 184 #[W z] [] [] (Is (.tuple #[.int .i64 (clip z), .bool (cut z)])) := by
  unfold W
  refine Spc.enter Tryz.func184 rfl rfl rfl (fun w0 hw0 => ?_)
  refine CW.seq (CW.region (ef := [0]) (bk := []) (RL.box rfl rfl rfl rfl rfl rfl ?_))
  intro b1
  refine RL.p rfl (RL.p rfl (RL.nil (NQ.seq (CW.seq (CW.rg (RL.fieldAddr fa_319_1 rfl rfl rfl rfl (RL.loadq Tryz.isAgg30 rfl rfl rfl rfl ?_)))))))
  refine RL.conv Tryz.runUnderlying30 Tryz.runUnderlying2 rfl rfl rfl rfl (RL.p rfl (RL.nil (NQ.seq (CW.ok [1, 4] rfl (CW.seq (CW.block (CW.seq (CW.regionD (Sq.of [0, 1, 2, 3, 4]) [] [] [0, 3, 4] mixed (by kernel_rfl) ?_))))))))
  refine RL.p rfl (RL.callvq (wideOf _ (by simp only [IntKind.wrap_i64]; omega)) Tryz.call183 rfl rfl rfl rfl ?_)
  refine RL.loadN (vs := [_, _]) Tryz.isAgg319 Tryz.sizeOf319 rfl rfl rfl rfl (by first | (apply Rds.cel; (solve | (repeat (first | exact List.Mem.head _ | apply List.Mem.tail))); exact at_spec ⟨rfl, rfl, trivial⟩) | (apply Rds.celI; (solve | (repeat (first | exact List.Mem.head _ | apply List.Mem.tail))); exact at_spec ⟨rfl, rfl, trivial⟩) | assumption | (apply RdsI.rds; assumption)) ?_
  refine RL.cmp rfl rfl rfl rfl rfl (eqs_wide _ _ _ _ _ _) (RL.p rfl (RL.nil (NQ.seq ?_)))
  have hb : ∀ q : Int, -9223372036854775808 ≤ (z % 18446744073709551616 + 9223372036854775808) % 18446744073709551616 - 9223372036854775808 := by omega
  refine CW.cond rfl (fun hc => ?_) (fun hc => ?_)
  ·
    refine CW.seq (CW.rg (RL.p rfl (RL.p rfl (RL.p rfl (RL.nil (NQ.seq (CW.ok [2, 3] rfl (CW.ret (RQ.block (RQ.seq ?_))))))))))
    refine RQ.post (res2 rfl rfl rfl) (Split.none _) ⟨?_, rfl, rfl⟩
    simp only [Bool.and_eq_true, beq_iff_eq, IntKind.wrap_i64] at hc ⊢
    have e1 : clip z = z := by unfold clip; split; omega; split; omega; rfl
    have e2 : cut z = false := by unfold cut; simp; omega
    rw [e1, e2]
    congr 3; congr 1; omega
  ·
    refine CW.seq (CW.rg (RL.fieldAddr fa_319_0 rfl rfl rfl rfl (RL.loadq Tryz.isAgg2 rfl rfl rfl rfl ?_)))
    refine RL.p rfl (RL.p rfl (RL.nil (NQ.seq (CW.ok [14] rfl ?_))))
    refine CW.cond rfl (fun hd => ?_) (fun hd => ?_)
    ·
      refine CW.seq (CW.rg (RL.p rfl (RL.p rfl (RL.nil (NQ.seq (CW.ret (RQ.block (RQ.seq ?_))))))))
      refine RQ.post (res2 rfl rfl rfl) (Split.none _) ⟨?_, rfl, rfl⟩
      simp only [Bool.and_eq_false_iff, beq_eq_false_iff_ne, IntKind.wrap_i64, decide_eq_true_eq] at hc hd ⊢
      have e1 : clip z = -9223372036854775808 := by unfold clip; split; rfl; omega
      have e2 : cut z = true := by unfold cut; simp; omega
      rw [e1, e2]
    ·
      refine CW.skip (NQ.block (NQ.seq (CW.seq (CW.rg (RL.p rfl (RL.p rfl (RL.nil (NQ.seq (CW.ret ?_)))))))))
      refine RQ.post (res2 rfl rfl rfl) (Split.none _) ⟨?_, rfl, rfl⟩
      simp only [Bool.and_eq_false_iff, beq_eq_false_iff_ne, IntKind.wrap_i64, decide_eq_false_iff_not] at hc hd ⊢
      have e1 : clip z = 9223372036854775807 := by unfold clip; split; omega; split; rfl; omega
      have e2 : cut z = true := by unfold cut; simp; omega
      rw [e1, e2]

theorem fixClip (z : Int) (h : -170141183460469231731687303715884105728 ≤ z) (h' : z < 170141183460469231731687303715884105728) : Spc Tryz.prog 179 #[W z] [] [] (Is (.tuple #[.int .i64 (clip z), .bool (cut z)])) := by
  unfold W
  refine Spc.enter Tryz.func179 rfl rfl rfl (fun w0 hw0 => ?_)
  refine CW.seq (CW.region (ef := [0]) (bk := []) (RL.box rfl rfl rfl rfl rfl rfl ?_))
  intro b1
  refine RL.p rfl (RL.p rfl (RL.nil (NQ.seq (CW.seq (CW.rg (RL.loadN (vs := [_, _]) Tryz.isAgg319 Tryz.sizeOf319 rfl rfl rfl rfl (by first | (apply Rds.cel; (solve | (repeat (first | exact List.Mem.head _ | apply List.Mem.tail))); exact at_spec ⟨rfl, rfl, trivial⟩) | (apply Rds.celI; (solve | (repeat (first | exact List.Mem.head _ | apply List.Mem.tail))); exact at_spec ⟨rfl, rfl, trivial⟩) | assumption | (apply RdsI.rds; assumption)) ?_))))))
  refine RL.callvq (wideClip _ h h') Tryz.call184 rfl rfl rfl rfl ?_
  refine RL.p rfl (RL.p rfl (RL.p rfl (RL.p rfl (RL.p rfl (RL.nil (NQ.seq (CW.ok [4, 5] rfl (CW.seq (CW.rg (RL.p rfl (RL.p rfl (RL.p rfl (RL.p rfl ?_)))))))))))))
  refine RL.nil (NQ.seq (CW.ret ?_))
  exact RQ.post (res2 rfl rfl rfl) (Split.none _) ⟨rfl, rfl, rfl⟩

/-- The sum of numbers. -/
def isum : List Int → Int
  | [] => 0
  | a :: r => a + isum r
theorem isum_snoc (l : List Int) (a : Int) : isum (l ++ [a]) = isum l + a := by
  induction l with
  | nil => simp [isum]
  | cons b l ih => simp [isum, ih]; omega
theorem isum_bd : ∀ (l : List Int), (∀ a ∈ l, -9223372036854775808 ≤ a ∧ a ≤ 9223372036854775807) → -9223372036854775808 * (l.length : Int) ≤ isum l ∧ isum l ≤ 9223372036854775807 * (l.length : Int)
  | [], _ => by simp [isum]
  | a :: l, h => by
    have h1 := h a (by simp)
    have h2 := isum_bd l (fun b hb => h b (by simp [hb]))
    simp only [isum, List.length_cons, Int.natCast_add, Int.natCast_one]
    omega

theorem fixSum (p : Option Addr) (l : List Int) (cap : Nat) (hl : l.length ≤ 9223372036854775807) (hb : ∀ a ∈ l, -9223372036854775808 ≤ a ∧ a ≤ 9223372036854775807) :
    Spc Tryz.prog 168 #[.slice p l.length cap] [sls p 1 l.length (ints l)] [] (Is (.tuple #[.int .i64 (clip (isum l)), .bool (cut (isum l))])) := by
  refine Spc.enter Tryz.func168 rfl rfl rfl (fun w0 hw0 => ?_)
  refine CW.seq (CW.rg (RL.p rfl (RL.p rfl (RL.nil (NQ.seq (CW.seq (CW.region (ef := [0]) (bk := []) (RL.alloc Tryz.zeroValue319 rfl rfl rfl rfl rfl ?_))))))))
  intro b1
  refine RL.nil (NQ.seq (CW.seq (CW.seq (CW.rg (RL.p rfl (RL.lenS Tryz.runUnderlying323 rfl rfl rfl rfl (RL.p rfl (RL.nil (NQ.seq (CW.block ?_))))))))))
  refine CW.fact (p := p = none → l.length = 0) (fun w hw hp => sls_nil (hw.s.i _ (List.Mem.head _)) hp) (fun hp => ?_)
  refine CW.loop (γ := Nat) (fun k => k ≤ l.length) (fun k => [(4, .pointer (some ⟨b1, 0, none⟩)), (7, .slice p l.length cap), (8, .int .i64 l.length), (9, .int .i64 k)]) (fun _ => [sls p 1 l.length (ints l)])
    (fun k => [cel b1 [.int .i64 (isum (l.take k) / 18446744073709551616), .int .u64 (isum (l.take k) % 18446744073709551616)] 319]) (fun k => l.length - k) 0 (by omega) (.cons rfl (.cons rfl (.cons rfl (.cons rfl .nil)))) (fun _ h => h) (fun k hk => ?_)
  refine CW.seq (CW.rg (RL.p rfl (RL.nil (NQ.seq (CW.seq ?_)))))
  refine CW.cond rfl (fun hc => ?_) (fun hc => ?_)
  ·
    refine CW.skip (NQ.seq (CW.seq (CW.block (CW.seq (CW.rg ?_)))))
    have hlt : k < l.length := by simpa using hc
    obtain ⟨a, rfl⟩ : ∃ a, p = some a := by
      cases p with
      | none => have := hp rfl; omega
      | some a => exact ⟨a, rfl⟩
    have hkk : (ints l)[k * 1]? = some (.int .i64 l[k]) := by simp [ints, hlt]
    have hb1 := isum_bd (l.take k) (fun a ha => hb a (List.mem_of_mem_take ha))
    have hb2 := hb l[k] (List.getElem_mem _)
    rw [List.length_take, Nat.min_eq_left hk] at hb1
    have hs : isum (l.take (k + 1)) = isum (l.take k) + l[k] := by rw [List.take_succ_eq_append_getElem hlt, isum_snoc]
    refine RL.idx Tryz.runUnderlying323 Tryz.sizeOf23 rfl rfl rfl rfl rfl rfl hlt (RL.load Tryz.isAgg23 rfl rfl rfl rfl (Rds.rd (Rds.sls (List.Mem.head _)) hkk) (RL.p rfl (RL.nil (NQ.seq (CW.regionD (Sq.of [0, 1, 2, 3, 4]) [4] [4] [1] mixed (by kernel_rfl) ?_)))))
    refine RL.loadN (vs := [_, _]) Tryz.isAgg319 Tryz.sizeOf319 rfl rfl rfl rfl (by first | (apply Rds.cel; (solve | (repeat (first | exact List.Mem.head _ | apply List.Mem.tail))); exact at_spec ⟨rfl, rfl, trivial⟩) | (apply Rds.celI; (solve | (repeat (first | exact List.Mem.head _ | apply List.Mem.tail))); exact at_spec ⟨rfl, rfl, trivial⟩) | assumption | (apply RdsI.rds; assumption)) ?_
    refine RL.p rfl (RL.callvq (fixOf _ (by omega)) Tryz.call178 rfl rfl rfl rfl ?_)
    refine RL.callvq (wideAdd _ _ (by omega) (by omega)) Tryz.call177 rfl rfl rfl rfl ?_
    refine RL.store (vs := [_, _]) Tryz.sizeOf319 rfl rfl rfl rfl rfl rfl rfl rfl rfl (by repeat (first | exact Upd.here | apply Upd.there)) ?_
    refine RL.nil (NQ.block (NQ.seq (CW.ok [4, 7, 8, 9] rfl (CW.rg (RL.bx rfl (wrapV_i64 (by omega) (by omega)) ?_)))))
    refine RL.p rfl (RL.nil ?_)
    refine NQ.round (k + 1) hlt (by omega) (.cons rfl (.cons rfl (.cons rfl (.cons rfl .nil)))) (fun w hw => ?_)
    simp only [hs]
    exact hw
  ·
    have hge : k = l.length := by simp at hc; omega
    subst hge
    have hb1 := isum_bd l hb
    have hb2 : isum (l.take l.length) = isum l := by rw [List.take_length]
    refine CW.exit (XQ.seq (XQ.seq (XQ.hit (NQ.seq (CW.seq (CW.rg (RL.loadN (vs := [_, _]) Tryz.isAgg319 Tryz.sizeOf319 rfl rfl rfl rfl (by first | (apply Rds.cel; (solve | (repeat (first | exact List.Mem.head _ | apply List.Mem.tail))); exact at_spec ⟨rfl, rfl, trivial⟩) | (apply Rds.celI; (solve | (repeat (first | exact List.Mem.head _ | apply List.Mem.tail))); exact at_spec ⟨rfl, rfl, trivial⟩) | assumption | (apply RdsI.rds; assumption)) ?_)))))))
    refine RL.callvq (fixClip _ (by omega) (by omega)) Tryz.call179 rfl rfl rfl rfl ?_
    refine RL.p rfl (RL.p rfl (RL.p rfl (RL.p rfl (RL.nil (NQ.seq (CW.ok [2, 3] rfl (CW.ret ?_)))))))
    exact RQ.post (res2 rfl rfl rfl) (Split.none _) ⟨by rw [hb2]; rfl, rfl, rfl⟩
end Go.Proofs.YthndhipjfdgdfaaGreatDoor

/- Bits of whole numbers: no program here. -/
namespace Go.PK
def zbits : Nat → Int → List Int
  | 0, _ => []
  | n + 1, z => z % 2 :: zbits n (z / 2)
theorem two_pos (n : Nat) : (0 : Int) < 2 ^ n := Int.pow_pos (by decide)
theorem half_pow (z : Int) (n : Nat) : z / 2 ^ n / 2 = z / 2 ^ (n + 1) := by
  rw [Int.pow_succ, ← Int.ediv_ediv_of_nonneg (Int.le_of_lt (two_pos n))]
theorem pow_half (z : Int) (n : Nat) : z / 2 / 2 ^ n = z / 2 ^ (n + 1) := by
  rw [Int.pow_succ, Int.mul_comm, ← Int.ediv_ediv_of_nonneg (by decide)]
theorem zbits_snoc : ∀ n z, zbits (n + 1) z = zbits n z ++ [z / 2 ^ n % 2]
  | 0, z => by simp [zbits]
  | n + 1, z => by rw [zbits, zbits_snoc n (z / 2), pow_half, zbits]; rfl
theorem zbits_get : ∀ {n z i}, i < n → (zbits n z)[i]? = some (z / 2 ^ i % 2)
  | n + 1, z, 0, _ => by simp [zbits]
  | n + 1, z, i + 1, h => by
    rw [zbits, List.getElem?_cons_succ, zbits_get (by omega), pow_half]
theorem zbits_add : ∀ (n : Nat) (z q : Int), zbits n (z + 2 ^ n * q) = zbits n z
  | 0, _, _ => rfl
  | n + 1, z, q => by
    have e : (2 : Int) ^ (n + 1) * q = 2 * (2 ^ n * q) := by rw [Int.pow_succ]; simp only [Int.mul_comm, Int.mul_left_comm]
    rw [e, zbits, zbits]
    have h1 : (z + 2 * (2 ^ n * q)) % 2 = z % 2 := by omega
    have h2 : (z + 2 * (2 ^ n * q)) / 2 = z / 2 + 2 ^ n * q := by omega
    rw [h1, h2, zbits_add]
theorem zbits_app : ∀ (m n : Nat) (z : Int), zbits (m + n) z = zbits m z ++ zbits n (z / 2 ^ m)
  | 0, n, z => by simp [zbits]
  | m + 1, n, z => by
    rw [show m + 1 + n = (m + n) + 1 by omega, zbits, zbits_app m n, pow_half, zbits]; rfl
theorem zbits_two (z : Int) : zbits 64 (z % 18446744073709551616) ++ zbits 64 (z / 18446744073709551616 % 18446744073709551616) = zbits 128 z := by
  rw [show (128 : Nat) = 64 + 64 from rfl, zbits_app]
  have h : ∀ y : Int, zbits 64 (y % 18446744073709551616) = zbits 64 y := fun y => by
    have := zbits_add 64 (y % 18446744073709551616) (y / 18446744073709551616)
    rw [show (2 : Int) ^ 64 = 18446744073709551616 from rfl] at this
    rw [← this]; congr 1; omega
  rw [h, h]; rfl
theorem mod_pow (z : Int) (n : Nat) : z % 2 ^ (n + 1) = z % 2 ^ n + z / 2 ^ n % 2 * 2 ^ n := by
  have h1 := Int.emod_add_mul_ediv z (2 ^ n)
  have h2 := Int.emod_nonneg z (Int.ne_of_gt (two_pos n))
  have h3 := Int.emod_lt_of_pos z (two_pos n)
  have h4 := half_pow z n
  have h5 := Int.emod_add_mul_ediv z (2 ^ (n + 1))
  have e : ∀ k : Int, (2 : Int) ^ (n + 1) * k = 2 ^ n * (2 * k) := fun k => by rw [Int.pow_succ, Int.mul_assoc]
  rw [e, ← h4] at h5
  have h6 : z / 2 ^ n = z / 2 ^ n % 2 + 2 * (z / 2 ^ n / 2) := by omega
  rw [h6, Int.mul_add] at h1
  have h7 : (z / 2 ^ n % 2 + 2 * (z / 2 ^ n / 2)) / 2 = z / 2 ^ n / 2 := by omega
  have h8 : (z / 2 ^ n % 2 + 2 * (z / 2 ^ n / 2)) % 2 = z / 2 ^ n % 2 := by omega
  rw [Int.mul_comm (z / 2 ^ n % 2) (2 ^ n)]
  generalize hA : 2 ^ n * (2 * (z / 2 ^ n / 2)) = A at *
  generalize hB : 2 ^ n * (z / 2 ^ n % 2) = B at *
  omega
theorem mod_bd (z : Int) (n : Nat) (h : n ≤ 64) : 0 ≤ z % 2 ^ n ∧ z % 2 ^ n < 18446744073709551616 := by
  have h1 := Int.emod_nonneg z (Int.ne_of_gt (two_pos n))
  have h2 := Int.emod_lt_of_pos z (two_pos n)
  have h3 : (2 : Int) ^ n ≤ 2 ^ 64 := by
    have := Nat.pow_le_pow_right (n := 2) (by decide) h
    exact_mod_cast this
  rw [show (2 : Int) ^ 64 = 18446744073709551616 from rfl] at h3
  omega
theorem bit_bd (z : Int) (n : Nat) : 0 ≤ z / 2 ^ n % 2 ∧ z / 2 ^ n % 2 ≤ 1 := by omega
/-- What is carried. -/
def cy (a b : Int) (n : Nat) : Int := (a + b) / 2 ^ n - a / 2 ^ n - b / 2 ^ n
theorem cy_step (a b : Int) (n : Nat) : (a / 2 ^ n % 2 + b / 2 ^ n % 2 + cy a b n) % 2 = (a + b) / 2 ^ n % 2 ∧ (a / 2 ^ n % 2 + b / 2 ^ n % 2 + cy a b n) / 2 = cy a b (n + 1) := by
  simp only [cy, ← half_pow]
  omega
theorem cy_bd (a b : Int) : ∀ n, 0 ≤ cy a b n ∧ cy a b n ≤ 1
  | 0 => by simp [cy]; omega
  | n + 1 => by
    have h := cy_bd a b n
    have := (cy_step a b n).2
    have h1 := bit_bd a n
    have h2 := bit_bd b n
    omega
end Go.PK

namespace Go.Proofs.YthndhipjfdgdfaaGreatDoor
open Go.PK

/-- Numbers of one's own, so many. -/
def IntsN (n : Nat) (l : List Int) : Value → List It → List It → Prop := fun v I' H' => ∃ ob cap, v = slO ob n cap ∧ I' = [] ∧ H' = [own ob cap 3 1 n (ints l)] ∧ (n = 0 ∨ ob.isSome = true)
theorem ints_snoc (l : List Int) (x : Int) : ints (l ++ [x]) = ints l ++ [.int .i64 x] := by simp [ints]
theorem tmod2 {x : Int} (h : 0 ≤ x) : x.tmod 2 = x % 2 := Int.tmod_eq_emod_of_nonneg h
theorem tdiv2 {x : Int} (h : 0 ≤ x) : x.tdiv 2 = x / 2 := Int.tdiv_eq_ediv_of_nonneg h
theorem u64_in {n : Int} (h : 0 ≤ n ∧ n < 18446744073709551616) : IntKind.u64.wrap n = n := by rw [IntKind.wrap_u64]; omega
theorem i64_in' {n : Int} (h : -9223372036854775808 ≤ n ∧ n ≤ 9223372036854775807) : IntKind.i64.wrap n = n := IntWalk.i64_in _ (by omega)
theorem bit_conv (z : Int) (n : Nat) (h : n ≤ 64) (hz : 0 ≤ z ∧ z < 18446744073709551616) : Value.int .i64 (IntKind.i64.wrap ((z / 2 ^ n).tmod 2)) = .int .i64 (z / 2 ^ n % 2) := by
  have h0 : 0 ≤ z / 2 ^ n := Int.ediv_nonneg hz.1 (Int.le_of_lt (two_pos n))
  rw [tmod2 h0, i64_in' (by omega)]
theorem div_conv (z : Int) (n : Nat) (hz : 0 ≤ z ∧ z < 18446744073709551616) : Value.int .u64 (IntKind.u64.wrap ((z / 2 ^ n).tdiv 2)) = .int .u64 (z / 2 ^ (n + 1)) := by
  have h0 : 0 ≤ z / 2 ^ n := Int.ediv_nonneg hz.1 (Int.le_of_lt (two_pos n))
  have h1 : z / 2 ^ n ≤ z := Int.ediv_le_self _ hz.1
  rw [tdiv2 h0, u64_in (by omega), half_pow]
theorem digits_any (z : Int) (h : -170141183460469231731687303715884105728 ≤ z ∧ z < 170141183460469231731687303715884105728) : Spc Tryz.prog 160 #[W z] [] [] (IntsN 128 (zbits 128 z)) := by
  unfold W
  have hlo : 0 ≤ z % 18446744073709551616 ∧ z % 18446744073709551616 < 18446744073709551616 := by omega
  have hhi : 0 ≤ z / 18446744073709551616 % 18446744073709551616 ∧ z / 18446744073709551616 % 18446744073709551616 < 18446744073709551616 := by omega
  have hb2 := zbits_two z
  generalize hl : z % 18446744073709551616 = lo at hlo hb2
  generalize hh : z / 18446744073709551616 % 18446744073709551616 = hi' at hhi hb2
  refine Spc.enter Tryz.func160 rfl rfl rfl (fun w0 hw0 => ?_)
  refine CW.seq (CW.region (ef := [0]) (bk := []) (RL.box rfl rfl rfl rfl rfl rfl ?_))
  intro b1
  refine RL.p rfl (RL.nil (NQ.seq (CW.seq (CW.region (ef := [0]) (bk := []) (RL.buildOwn [] Tryz.runUnderlying61 Tryz.sizeOf3 Tryz.zeroValue3 rfl rfl (by decide) (by decide) rfl (by decide) rfl rfl rfl rfl rfl rfl ?_)))))
  intro b2
  refine RL.p rfl (RL.nil (NQ.seq (CW.seq (CW.rg (RL.fieldAddr fa_319_1 rfl rfl rfl rfl (RL.loadq Tryz.isAgg30 rfl rfl rfl rfl ?_))))))
  refine RL.p rfl (RL.nil (NQ.seq (CW.seq (CW.seq (CW.rg (RL.p rfl (RL.nil (NQ.seq (CW.block ?_)))))))))
  refine CW.loop (γ := Nat × Option Nat × Nat) (fun g => g.1 ≤ 64 ∧ (g.1 = 0 ∨ g.2.1.isSome = true)) (fun g => [(1, .pointer (some ⟨b1, 0, none⟩)), (3, slO g.2.1 g.1 g.2.2), (4, .int .u64 (lo / 2 ^ g.1)), (5, .int .i64 (g.1 : Int))]) (fun _ => [])
    (fun g => [own g.2.1 g.2.2 3 1 g.1 (ints (zbits g.1 lo)), cel b1 [.int .i64 (z / 18446744073709551616), .int .u64 lo] 319]) (fun g => 64 - g.1) (0, some b2, 0) ⟨by simp, .inl rfl⟩
    (.cons rfl (.cons rfl (.cons (by simp; rfl) (.cons rfl .nil)))) (fun w h => h.rea (fun _ h => h) (by repeat (first | exact Rea.nil | (apply Rea.cons; (solve | (repeat (first | exact Del.here | apply Del.there))))))) ?_
  rintro ⟨i, ob, cp⟩ ⟨hi, hs⟩
  dsimp only at hi hs ⊢
  refine CW.seq (CW.seq (CW.rg (RL.p rfl (RL.p rfl (RL.nil (NQ.seq ?_))))))
  refine CW.cond rfl (fun hlt => ?_) (fun hlt => ?_)
  ·
    have hlt : i < 64 := by simp at hlt; omega
    have hlt0 := hlo
    refine CW.skip (NQ.seq (CW.seq (CW.block (CW.seq (CW.region (ef := [4, 5]) (bk := [5]) (RL.p rfl (RL.p rfl (RL.rem rfl rfl rfl rfl rfl (by decide) ?_))))))))
    refine RL.conv Tryz.runUnderlying30 Tryz.runUnderlying3 rfl rfl rfl rfl (RL.cast (d := 18) rfl (bit_conv lo i hi hlt0) ?_)
    refine RL.buildOwn [_] Tryz.runUnderlying61 Tryz.sizeOf3 Tryz.zeroValue3 rfl rfl (by decide) (by decide) rfl (by decide) rfl rfl rfl rfl rfl rfl ?_
    intro b3
    refine RL.appendq el_61 rfl rfl rfl rfl rfl rfl rfl ?_
    intro ob1 cap1 ho1
    refine RL.p rfl (RL.nil (NQ.seq (CW.ok [1, 3, 4, 5] rfl (CW.rg (RL.p rfl (RL.quoX (v' := .int .u64 (lo / 2 ^ (i + 1))) rfl rfl rfl rfl rfl (by decide) (div_conv lo i hlt0) ?_))))))
    refine RL.p rfl (RL.nil (NQ.block (NQ.seq (CW.rg (RL.p rfl (RL.bx rfl (wrapV_i64 (by omega) (by omega)) ?_))))))
    refine RL.p rfl (RL.nil ?_)
    refine NQ.round (g := (i, ob, cp)) (i + 1, ob1, cap1) ⟨hlt, by simpa using ho1⟩ (by show 64 - (i + 1) < 64 - i; omega) (.cons rfl (.cons rfl (.cons rfl (.cons rfl .nil)))) (fun w h => ?_)
    dsimp only
    rw [zbits_snoc, ints_snoc]
    exact h.rea (fun _ h => h) (by repeat (first | exact Rea.nil | (apply Rea.cons; (solve | (repeat (first | exact Del.here | apply Del.there))))))
  ·
    have hin : i = 64 := by simp at hlt; omega
    subst hin
    refine CW.exit (XQ.seq (XQ.seq (XQ.hit (NQ.seq (CW.seq (CW.rg (RL.fieldAddr fa_319_0 rfl rfl rfl rfl (RL.loadq Tryz.isAgg2 rfl rfl rfl rfl ?_))))))))
    refine RL.conv Tryz.runUnderlying2 Tryz.runUnderlying30 rfl rfl rfl rfl (RL.cast (d := 25) (v' := .int .u64 (hi' / 2 ^ 0)) rfl (by rw [IntKind.wrap_u64, hh]; simp) ?_)
    refine RL.p rfl (RL.nil (NQ.seq (CW.ok [3, 6] rfl (CW.seq (CW.seq (CW.rg (RL.p rfl (RL.nil (NQ.seq (CW.block ?_))))))))))
    refine CW.loop (γ := Nat × Option Nat × Nat) (fun g => g.1 ≤ 64 ∧ g.2.1.isSome = true) (fun g => [(3, slO g.2.1 (64 + g.1) g.2.2), (6, .int .u64 (hi' / 2 ^ g.1)), (7, .int .i64 (g.1 : Int))]) (fun _ => [])
      (fun g => [own g.2.1 g.2.2 3 1 (64 + g.1) (ints (zbits 64 lo ++ zbits g.1 hi'))]) (fun g => 64 - g.1) (0, ob, cp) ⟨by simp, ?_⟩
      (.cons rfl (.cons rfl (.cons rfl .nil))) (fun w h => by rw [show zbits 64 lo ++ zbits (0, ob, cp).1 hi' = zbits 64 lo by simp [zbits]]; exact h.rea (fun _ h => h) (by repeat (first | exact Rea.nil | (apply Rea.cons; (solve | (repeat (first | exact Del.here | apply Del.there))))))) ?_
    · rcases hs with hs | hs
      · cases hs
      · exact hs
    rintro ⟨i, ob, cp⟩ ⟨hi, hs⟩
    dsimp only at hi hs ⊢
    refine CW.seq (CW.seq (CW.rg (RL.p rfl (RL.p rfl (RL.nil (NQ.seq ?_))))))
    refine CW.cond rfl (fun hlt => ?_) (fun hlt => ?_)
    ·
      have hlt : i < 64 := by simp at hlt; omega
      have hlt0 := hhi
      refine CW.skip (NQ.seq (CW.seq (CW.block (CW.seq (CW.region (ef := [4, 5]) (bk := [5]) (RL.p rfl (RL.p rfl (RL.rem rfl rfl rfl rfl rfl (by decide) ?_))))))))
      refine RL.conv Tryz.runUnderlying30 Tryz.runUnderlying3 rfl rfl rfl rfl (RL.cast (d := 33) rfl (bit_conv hi' i hi hlt0) ?_)
      refine RL.buildOwn [_] Tryz.runUnderlying61 Tryz.sizeOf3 Tryz.zeroValue3 rfl rfl (by decide) (by decide) rfl (by decide) rfl rfl rfl rfl rfl rfl ?_
      intro b3
      refine RL.appendq el_61 rfl rfl rfl rfl rfl rfl rfl ?_
      intro ob1 cap1 ho1
      refine RL.p rfl (RL.nil (NQ.seq (CW.ok [3, 6, 7] rfl (CW.rg (RL.p rfl (RL.quoX (v' := .int .u64 (hi' / 2 ^ (i + 1))) rfl rfl rfl rfl rfl (by decide) (div_conv hi' i hlt0) ?_))))))
      refine RL.p rfl (RL.nil (NQ.block (NQ.seq (CW.rg (RL.p rfl (RL.bx rfl (wrapV_i64 (by omega) (by omega)) ?_))))))
      refine RL.p rfl (RL.nil ?_)
      refine NQ.round (g := (i, ob, cp)) (i + 1, ob1, cap1) ⟨hlt, by simpa using ho1⟩ (by show 64 - (i + 1) < 64 - i; omega) (.cons rfl (.cons rfl (.cons rfl .nil))) (fun w h => ?_)
      dsimp only
      rw [zbits_snoc i, ← List.append_assoc, ints_snoc]
      exact h.rea (fun _ h => h) (by repeat (first | exact Rea.nil | (apply Rea.cons; (solve | (repeat (first | exact Del.here | apply Del.there))))))
    ·
      refine CW.exit (XQ.seq (XQ.seq (XQ.hit (NQ.seq (CW.seq (CW.rg (RL.p rfl (RL.p rfl (RL.nil (NQ.seq (CW.ok [2] rfl (CW.ret ?_))))))))))))
      have hin : i = 64 := by simp at hlt; omega
      subst hin
      rw [hb2]
      exact RQ.post (res1 rfl rfl) (.keep .nil) ⟨ob, cp, rfl, rfl, rfl, .inr hs⟩
/-- What is made of bits. -/
theorem add_bit (z : Int) (i : Nat) (h : i < 64) : Value.int .u64 (IntKind.u64.wrap (z % 2 ^ i + IntKind.u64.wrap (IntKind.u64.wrap (z / 2 ^ i % 2) * IntKind.u64.wrap (2 ^ i)))) = .int .u64 (z % 2 ^ (i + 1)) := by
  have h1 := mod_bd z i (by omega)
  have h2 := mod_bd z (i + 1) (by omega)
  have h3 := mod_pow z i
  have h4 := bit_bd z i
  have h5 : (2 : Int) ^ i < 18446744073709551616 := by
    have := Nat.pow_lt_pow_right (a := 2) (by decide) h
    have h6 : (2 : Int) ^ i < 2 ^ 64 := by exact_mod_cast this
    exact h6
  have h7 := two_pos i
  have e1 : IntKind.u64.wrap (z / 2 ^ i % 2) = z / 2 ^ i % 2 := u64_in (by omega)
  have e2 : IntKind.u64.wrap (2 ^ i) = 2 ^ i := u64_in (by omega)
  rw [e1, e2]
  generalize hq : z / 2 ^ i % 2 * 2 ^ i = q at *
  have h8 : 0 ≤ q := by rw [← hq]; exact Int.mul_nonneg h4.1 (Int.le_of_lt h7)
  rw [u64_in (n := q) (by omega), u64_in (by omega), h3]
theorem pow_step (i : Nat) : Value.int .u64 (IntKind.u64.wrap (2 * IntKind.u64.wrap (2 ^ i))) = .int .u64 (IntKind.u64.wrap (2 ^ (i + 1))) := by
  rw [IntKind.wrap_u64, IntKind.wrap_u64, IntKind.wrap_u64, Int.pow_succ]
  generalize (2 : Int) ^ i = q
  congr 1; omega
theorem ints_get {l : List Int} {i : Nat} {x : Int} (h : l[i]? = some x) : (ints l)[i * 1]? = some (.int .i64 x) := by simp [ints, h]
theorem number_any (p : Option Addr) (c : Nat) (z : Int) (h : -170141183460469231731687303715884105728 ≤ z ∧ z < 170141183460469231731687303715884105728) : Spc Tryz.prog 175 #[.slice p 128 c] [sls p 1 128 (ints (zbits 128 z))] [] (Is (W z)) := by
  refine Spc.enter Tryz.func175 rfl rfl rfl (fun w0 hw0 => ?_)
  refine CW.seq (CW.region (ef := [0]) (bk := []) (RL.alloc Tryz.zeroValue319 rfl rfl rfl rfl rfl ?_))
  intro b1
  refine RL.nil (NQ.seq (CW.seq (CW.rg (RL.p rfl (RL.p rfl (RL.nil (NQ.seq (CW.seq (CW.rg (RL.p rfl (RL.nil (NQ.seq (CW.seq ?_)))))))))))))
  refine CW.seq ?_
  refine CW.fact (p := p = none → (128 : Nat) = 0) (fun w hC e => sls_nil (hC.s.i _ (List.Mem.head _)) e) (fun hpp => ?_)
  obtain ⟨a, rfl⟩ : ∃ a, p = some a := by
    cases p with
    | none => exact absurd (hpp rfl) (by decide)
    | some a => exact ⟨a, rfl⟩
  clear hpp
  refine CW.rg (RL.p rfl (RL.nil (NQ.seq (CW.block ?_))))
  refine CW.loop (γ := Nat) (fun i => i ≤ 64) (fun i => [(0, .slice (some a) 128 c), (2, .pointer (some ⟨b1, 0, none⟩)), (3, .int .u64 (z % 2 ^ i)), (4, .int .u64 0), (5, .int .u64 (IntKind.u64.wrap (2 ^ i))), (6, .int .i64 (i : Int))]) (fun _ => [sls (some a) 1 128 (ints (zbits 128 z))])
    (fun _ => [cel b1 [.int .i64 0, .int .u64 0] 319]) (fun i => 64 - i) 0 (by omega)
    (.cons rfl (.cons rfl (.cons (by simp; rfl) (.cons rfl (.cons rfl (.cons rfl .nil)))))) (fun w h => h) ?_
  rintro i hi
  refine CW.seq (CW.seq (CW.rg (RL.p rfl (RL.p rfl (RL.p rfl ?_)))))
  apply RL.andB (d := 10) (dp := 15) (l' := (Sq.of [])) rfl (sK [0, 2, 3, 4, 5, 6] rfl)
  ·
    intro hb3 K3
    refine RL.p rfl (RL.p rfl (RL.lenS Tryz.runUnderlying61 rfl rfl rfl rfl (RL.p rfl (RL.p rfl ?_))))
    exact K3 _ (.cons rfl (sK [0, 2, 3, 4, 5, 6] rfl))
  ·
    intro hb3 K3
    refine RL.p rfl (RL.p rfl (RL.p rfl (RL.p rfl (RL.p rfl ?_))))
    exact K3 _ (.cons rfl (sK [0, 2, 3, 4, 5, 6] rfl))
  refine RL.nil (NQ.seq ?_)
  refine CW.cond rfl (fun hlt => ?_) (fun hlt => ?_)
  ·
    have hlt : i < 64 := by simp at hlt; omega
    have hg : (zbits 128 z)[i]? = some (z / 2 ^ i % 2) := zbits_get (by omega)
    refine CW.skip (NQ.seq (CW.seq (CW.block (CW.seq (CW.rg (RL.p rfl (RL.p rfl (RL.p rfl (RL.idx (j := i) Tryz.runUnderlying61 Tryz.sizeOf3 rfl rfl rfl rfl rfl rfl (by omega) ?_)))))))))
    refine RL.load Tryz.isAgg3 rfl rfl rfl rfl (Rd.getS (List.Mem.head _) (ints_get hg)) (RL.conv Tryz.runUnderlying3 Tryz.runUnderlying30 rfl rfl rfl rfl (RL.p rfl (RL.p rfl (RL.p rfl (RL.cast (d := 26) rfl (add_bit z i hlt) ?_)))))
    refine RL.p rfl (RL.nil (NQ.seq (CW.ok [0, 2, 3, 4, 5, 6] rfl (CW.rg (RL.p rfl (RL.p rfl (RL.cast (d := 28) rfl (pow_step i) ?_)))))))
    refine RL.p rfl (RL.nil (NQ.block (NQ.seq (CW.rg (RL.p rfl (RL.bx rfl (wrapV_i64 (by omega) (by omega)) ?_))))))
    refine RL.p rfl (RL.nil ?_)
    refine NQ.round (g := i) (i + 1) hlt (by omega) (.cons rfl (.cons rfl (.cons rfl (.cons rfl (.cons rfl (.cons rfl .nil)))))) (fun w h => h)
  ·
    have hin : i = 64 := by simp at hlt; omega
    subst hin
    refine CW.exit (XQ.seq (XQ.seq (XQ.hit (NQ.seq (CW.seq (CW.rg (RL.p rfl (RL.nil (NQ.seq (CW.seq (CW.seq (CW.rg (RL.p rfl ?_)))))))))))))
    refine RL.nil (NQ.seq (CW.block ?_))
    refine CW.loop (γ := Nat) (fun i => i ≤ 64) (fun i => [(0, .slice (some a) 128 c), (2, .pointer (some ⟨b1, 0, none⟩)), (3, .int .u64 (z % 2 ^ 64)), (4, .int .u64 (z / 2 ^ 64 % 2 ^ i)), (5, .int .u64 (IntKind.u64.wrap (2 ^ i))), (7, .int .i64 ((64 + i : Nat) : Int))]) (fun _ => [sls (some a) 1 128 (ints (zbits 128 z))])
      (fun _ => [cel b1 [.int .i64 0, .int .u64 0] 319]) (fun i => 64 - i) 0 (by omega)
      (.cons rfl (.cons rfl (.cons rfl (.cons (by simp; rfl) (.cons rfl (.cons rfl .nil)))))) (fun w h => h) ?_
    rintro i hi
    refine CW.seq (CW.seq (CW.rg (RL.p rfl (RL.p rfl (RL.p rfl ?_)))))
    apply RL.andB (d := 31) (dp := 36) (l' := (Sq.of [])) rfl (sK [0, 2, 3, 4, 5, 7] rfl)
    ·
      intro hb3 K3
      refine RL.p rfl (RL.p rfl (RL.lenS Tryz.runUnderlying61 rfl rfl rfl rfl (RL.p rfl (RL.p rfl ?_))))
      exact K3 _ (.cons rfl (sK [0, 2, 3, 4, 5, 7] rfl))
    ·
      intro hb3 K3
      refine RL.p rfl (RL.p rfl (RL.p rfl (RL.p rfl (RL.p rfl ?_))))
      exact K3 _ (.cons rfl (sK [0, 2, 3, 4, 5, 7] rfl))
    refine RL.nil (NQ.seq ?_)
    refine CW.cond rfl (fun hlt => ?_) (fun hlt => ?_)
    ·
      have hlt : i < 64 := by simp at hlt; omega
      have hg : (zbits 128 z)[64 + i]? = some (z / 2 ^ 64 / 2 ^ i % 2) := by
        rw [zbits_get (by omega), Int.ediv_ediv_of_nonneg (Int.le_of_lt (two_pos 64)), ← Int.pow_add]
      refine CW.skip (NQ.seq (CW.seq (CW.block (CW.seq (CW.rg (RL.p rfl (RL.p rfl (RL.p rfl (RL.idx (j := 64 + i) Tryz.runUnderlying61 Tryz.sizeOf3 rfl rfl rfl rfl rfl rfl (by omega) ?_)))))))))
      refine RL.load Tryz.isAgg3 rfl rfl rfl rfl (Rd.getS (List.Mem.head _) (ints_get hg)) (RL.conv Tryz.runUnderlying3 Tryz.runUnderlying30 rfl rfl rfl rfl (RL.p rfl (RL.p rfl (RL.p rfl (RL.cast (d := 47) rfl (add_bit (z / 2 ^ 64) i hlt) ?_)))))
      refine RL.p rfl (RL.nil (NQ.seq (CW.ok [0, 2, 3, 4, 5, 7] rfl (CW.rg (RL.p rfl (RL.p rfl (RL.cast (d := 49) rfl (pow_step i) ?_)))))))
      refine RL.p rfl (RL.nil (NQ.block (NQ.seq (CW.rg (RL.p rfl (RL.bx rfl (wrapV_i64 (by omega) (by omega)) ?_))))))
      refine RL.p rfl (RL.nil ?_)
      refine NQ.round (g := i) (i + 1) hlt (by omega) (.cons rfl (.cons rfl (.cons rfl (.cons rfl (.cons rfl (.cons rfl .nil)))))) (fun w h => h)
    ·
      have hin : i = 64 := by simp at hlt; omega
      subst hin
      refine CW.exit (XQ.seq (XQ.seq (XQ.hit (NQ.seq (CW.seq (CW.region (ef := [4]) (bk := [4]) (RL.p rfl (RL.conv Tryz.runUnderlying30 Tryz.runUnderlying2 rfl rfl rfl rfl ?_))))))))
      refine RL.cast (d := 51) (v' := .int .i64 (z / 18446744073709551616)) rfl (by
        rw [show (2 : Int) ^ 64 = 18446744073709551616 from rfl, IntKind.wrap_i64]; congr 1; omega) ?_
      refine RL.p rfl (RL.buildS [_, _] Tryz.zeroValue319 pl_319 rfl rfl rfl rfl rfl (RL.store (vs := [_, _]) Tryz.sizeOf319 rfl rfl rfl rfl rfl rfl rfl rfl rfl (by repeat (first | exact Upd.here | apply Upd.there)) ?_))
      refine RL.nil (NQ.seq (CW.ok [2] rfl (CW.ret ?_)))
      exact RQ.post (resC rfl rfl Tryz.isAgg319 (vs := [_, _]) Tryz.sizeOf319 (Rds.cel (List.Mem.head _) (at_spec ⟨rfl, rfl, trivial⟩))) (Split.none _) ⟨rfl, rfl, rfl⟩
end Go.Proofs.YthndhipjfdgdfaaGreatDoor

namespace Go.Proofs.YthndhipjfdgdfaaGreatDoor
open Go.PK
def sw (z : Int) : Int := (z + 170141183460469231731687303715884105728) % 340282366920938463463374607431768211456 - 170141183460469231731687303715884105728
theorem sw_bd (z : Int) : -170141183460469231731687303715884105728 ≤ sw z ∧ sw z < 170141183460469231731687303715884105728 := by unfold sw; omega
theorem sw_id {z : Int} (h : -170141183460469231731687303715884105728 ≤ z ∧ z < 170141183460469231731687303715884105728) : sw z = z := by unfold sw; omega
theorem zbits_add : ∀ (n : Nat) (z q : Int), zbits n (z + 2 ^ n * q) = zbits n z
  | 0, _, _ => rfl
  | n + 1, z, q => by
    have h : (2 : Int) ^ (n + 1) * q = 2 * (2 ^ n * q) := by rw [Int.pow_succ, Int.mul_comm (2 ^ n) 2, Int.mul_assoc]
    rw [zbits, zbits, h]
    have ih := zbits_add n (z / 2) q
    generalize (2 : Int) ^ n * q = t at *
    rw [show (z + 2 * t) % 2 = z % 2 by omega, show (z + 2 * t) / 2 = z / 2 + t by omega, ih]
theorem zbits_sw (z : Int) : zbits 128 (sw z) = zbits 128 z := by
  have h : sw z = z + 2 ^ 128 * (-((z + 170141183460469231731687303715884105728) / 340282366920938463463374607431768211456)) := by
    rw [show (2 : Int) ^ 128 = 340282366920938463463374607431768211456 by decide]
    unfold sw; omega
  rw [h, zbits_add]
theorem radd_w (a b : Int) (ha : -170141183460469231731687303715884105728 ≤ a ∧ a < 170141183460469231731687303715884105728) (hb : -170141183460469231731687303715884105728 ≤ b ∧ b < 170141183460469231731687303715884105728) :
    Spc Tryz.prog 161 #[W a, W b] [] [] (Is (W (sw (a + b)))) := by
  have hsw := sw_bd (a + b)
  refine Spc.enter Tryz.func161 rfl rfl rfl (fun w0 hw0 => ?_)
  refine CW.seq (CW.region (ef := [0, 1, 2]) (bk := []) (RL.box rfl rfl rfl rfl rfl rfl ?_))
  intro b1
  refine RL.box rfl rfl rfl rfl rfl rfl ?_
  intro b2
  refine RL.alloc Tryz.zeroValue319 rfl rfl rfl rfl rfl ?_
  intro b3
  refine RL.nil (NQ.seq (CW.seq (CW.freezeP (A := [_, _]) (B := [_]) (.leave (.take (.take .nil))) rfl ?_)))
  refine CW.cutG (γ := Option Nat × Nat × Option Nat × Nat) (fun g => g.1.isSome = true ∧ g.2.2.1.isSome = true) (fun g => [(4, .pointer (some ⟨b3, 0, none⟩)), (5, slO g.1 128 g.2.1), (6, slO g.2.2.1 128 g.2.2.2)]) (fun _ => [])
    (fun g => [own g.1 g.2.1 3 1 128 (ints (zbits 128 a)), own g.2.2.1 g.2.2.2 3 1 128 (ints (zbits 128 b)), cel b3 [.int .i64 0, .int .u64 0] 319]) ?_ ?_
  ·
    refine CW.regionD (Sq.of [0, 2, 1, 3, 4, 5]) [1, 3] [] [0, 2, 4, 5] mixed (by kernel_rfl) ?_
    refine RL.loadNT (vs := [_, _]) Tryz.isAgg319 Tryz.sizeOf319 rfl rfl rfl rfl (by first | (apply Rds.cel; (solve | (repeat (first | exact List.Mem.head _ | apply List.Mem.tail))); exact at_spec ⟨rfl, rfl, trivial⟩) | (apply Rds.celI; (solve | (repeat (first | exact List.Mem.head _ | apply List.Mem.tail))); exact at_spec ⟨rfl, rfl, trivial⟩) | assumption | (apply RdsI.rds; assumption)) ?_
    refine RL.loadNT (vs := [_, _]) Tryz.isAgg319 Tryz.sizeOf319 rfl rfl rfl rfl (by first | (apply Rds.cel; (solve | (repeat (first | exact List.Mem.head _ | apply List.Mem.tail))); exact at_spec ⟨rfl, rfl, trivial⟩) | (apply Rds.celI; (solve | (repeat (first | exact List.Mem.head _ | apply List.Mem.tail))); exact at_spec ⟨rfl, rfl, trivial⟩) | assumption | (apply RdsI.rds; assumption)) ?_
    refine RL.callq (digits_any a ha) Tryz.call160 rfl rfl rfl rfl rfl (.inl rfl) ?_
    rintro _ _ _ ⟨ob1, cap1, rfl, rfl, rfl, ho1⟩
    refine RL.callq (digits_any b hb) Tryz.call160 rfl rfl rfl rfl rfl (.inl rfl) ?_
    rintro _ _ _ ⟨ob2, cap2, rfl, rfl, rfl, ho2⟩
    refine RL.p rfl (RL.p rfl (RL.nil ?_))
    exact NQ.midG (ob1, cap1, ob2, cap2) ⟨by simpa using ho1, by simpa using ho2⟩ (.cons rfl (.cons rfl (.cons rfl .nil))) (fun w h => h.rea (fun _ h => by simp at h) (by repeat (first | exact Rea.nil | (apply Rea.cons; (solve | (repeat (first | exact Del.here | apply Del.there)))))))
  rintro ⟨x, cx, y, cz⟩ ⟨hx, hy⟩
  dsimp only at hx hy ⊢
  obtain ⟨bx, rfl⟩ := Option.isSome_iff_exists.1 hx
  obtain ⟨bY, rfl⟩ := Option.isSome_iff_exists.1 hy
  have hga0 : ∀ i, i < 128 → (zbits 128 a)[i]? = some (a / 2 ^ i % 2) := fun i h => zbits_get h
  have hgb0 : ∀ i, i < 128 → (zbits 128 b)[i]? = some (b / 2 ^ i % 2) := fun i h => zbits_get h
  generalize zbits 128 a = xa at hga0 ⊢
  generalize zbits 128 b = xb at hgb0 ⊢
  refine CW.seq (CW.region (ef := [0]) (bk := []) (RL.buildOwn [] Tryz.runUnderlying61 Tryz.sizeOf3 Tryz.zeroValue3 rfl rfl (by decide) (by decide) rfl (by decide) rfl rfl rfl rfl rfl rfl ?_))
  intro b4
  refine RL.p rfl (RL.nil (NQ.seq (CW.seq (CW.rg (RL.p rfl (RL.nil (NQ.seq (CW.seq (CW.seq (CW.rg (RL.p rfl (RL.nil (NQ.seq ?_)))))))))))))
  refine CW.block ?_
  refine CW.loop (γ := Nat × Option Nat × Nat) (fun g => g.1 ≤ 128 ∧ (g.1 = 0 ∨ g.2.1.isSome = true)) (fun g => [(4, .pointer (some ⟨b3, 0, none⟩)), (5, slO (some bx) 128 cx), (6, slO (some bY) 128 cz), (7, slO g.2.1 g.1 g.2.2), (8, .int .i64 (cy a b g.1)), (9, .int .i64 (g.1 : Int))]) (fun _ => [])
    (fun g => [own g.2.1 g.2.2 3 1 g.1 (ints (zbits g.1 (a + b))), own (some bx) cx 3 1 128 (ints xa), own (some bY) cz 3 1 128 (ints xb), cel b3 [.int .i64 0, .int .u64 0] 319]) (fun g => 128 - g.1) (0, some b4, 0) ⟨by simp, .inl rfl⟩
    (.cons rfl (.cons rfl (.cons rfl (.cons rfl (.cons (by rw [show cy a b 0 = 0 by simp [cy]; omega]; rfl) (.cons rfl .nil)))))) (fun w h => h.rea (fun _ h => h) (by repeat (first | exact Rea.nil | (apply Rea.cons; (solve | (repeat (first | exact Del.here | apply Del.there))))))) ?_
  rintro ⟨i, ob, cp⟩ ⟨hi, hs⟩
  dsimp only at hi hs ⊢
  refine CW.seq (CW.seq (CW.rg (RL.p rfl (RL.p rfl (RL.nil (NQ.seq ?_))))))
  refine CW.cond rfl (fun hlt => ?_) (fun hlt => ?_)
  ·
    have hlt : i < 128 := by simp at hlt; omega
    have hga := hga0 i hlt
    have hgb := hgb0 i hlt
    have hc := cy_bd a b i
    have h1 := bit_bd a i
    have h2 := bit_bd b i
    have h3 := bit_bd (a + b) i
    have hst := cy_step a b i
    have hr : Value.int .i64 ((a / 2 ^ i % 2 + b / 2 ^ i % 2 + cy a b i).tmod 2) = .int .i64 ((a + b) / 2 ^ i % 2) := by rw [tmod2 (by omega), hst.1]
    have hq : Value.int .i64 (IntKind.i64.wrap ((a / 2 ^ i % 2 + b / 2 ^ i % 2 + cy a b i).tdiv 2)) = .int .i64 (cy a b (i + 1)) := by
      have := cy_bd a b (i + 1)
      rw [tdiv2 (by omega), hst.2, i64_in' (by omega)]
    refine CW.skip (NQ.seq (CW.seq (CW.block (CW.seq (CW.regionD (Sq.of [0, 1, 2, 3, 4, 5, 6, 7, 8, 9, 10, 11]) [] [] [0, 1, 2, 4, 5, 6, 8, 9, 10, 11] mixed (by kernel_rfl) ?_)))))
    refine RL.p rfl (RL.p rfl (RL.idx (j := i) Tryz.runUnderlying61 Tryz.sizeOf3 rfl rfl rfl rfl rfl rfl hlt (RL.load Tryz.isAgg3 rfl rfl rfl rfl (Rd.getO (List.Mem.tail _ (List.Mem.head _)) (ints_get hga)) (RL.p rfl (RL.p rfl (RL.idx (j := i) Tryz.runUnderlying61 Tryz.sizeOf3 rfl rfl rfl rfl rfl rfl hlt (RL.load Tryz.isAgg3 rfl rfl rfl rfl (Rd.getO (List.Mem.tail _ (List.Mem.tail _ (List.Mem.head _))) (ints_get hgb)) (RL.bx rfl (wrapV_i64 (by omega) (by omega)) ?_))))))))
    refine RL.p rfl (RL.bx rfl (wrapV_i64 (by omega) (by omega)) ?_)
    refine RL.p rfl (RL.nil (NQ.seq (CW.ok [4, 5, 6, 7, 9, 10] rfl (CW.seq (CW.region (ef := [3, 4]) (bk := [4]) (RL.p rfl (RL.p rfl (RL.remX rfl rfl rfl rfl rfl (by decide) hr ?_))))))))
    refine RL.buildOwn [_] Tryz.runUnderlying61 Tryz.sizeOf3 Tryz.zeroValue3 rfl rfl (by decide) (by decide) rfl (by decide) rfl rfl rfl rfl rfl rfl ?_
    intro b5
    refine RL.appendq el_61 rfl rfl rfl rfl rfl rfl rfl ?_ (hs := by first | exact Src.ownS (List.Mem.head _) | exact Src.own (List.Mem.head _))
    intro ob1 cap1 ho1
    refine RL.p rfl (RL.nil (NQ.seq (CW.rg (RL.p rfl (RL.quoX rfl rfl rfl rfl rfl (by decide) hq ?_)))))
    refine RL.p rfl (RL.nil (NQ.block (NQ.seq (CW.ok [4, 5, 6, 7, 8, 9] rfl (CW.rg (RL.p rfl (RL.bx rfl (wrapV_i64 (by omega) (by omega)) ?_)))))))
    refine RL.p rfl (RL.nil ?_)
    refine NQ.round (g := (i, ob, cp)) (i + 1, ob1, cap1) ⟨hlt, by simpa using ho1⟩ (by show 128 - (i + 1) < 128 - i; omega) (.cons rfl (.cons rfl (.cons rfl (.cons rfl (.cons rfl (.cons rfl .nil)))))) (fun w h => ?_)
    dsimp only
    rw [zbits_snoc, ints_snoc]
    exact h.rea (fun _ h => h) (by repeat (first | exact Rea.nil | (apply Rea.cons; (solve | (repeat (first | exact Del.here | apply Del.there))))))
  ·
    have hin : i = 128 := by simp at hlt; omega
    subst hin
    rw [← zbits_sw (a + b)]
    refine CW.exit (XQ.seq (XQ.seq (XQ.hit (NQ.seq (CW.ok [4, 7] rfl (CW.seq (CW.region (ef := [2]) (bk := [2]) (RL.p rfl (RL.callv (number_any (ob.map fun b => ⟨b, 0, none⟩) cp (sw (a + b)) hsw) Tryz.call175 rfl rfl rfl rfl (Lend.own (by repeat (first | exact List.Mem.head _ | apply List.Mem.tail)) .nil) ?_)))))))))
    refine RL.store (vs := [_, _]) Tryz.sizeOf319 rfl rfl rfl rfl rfl rfl rfl rfl rfl (by repeat (first | exact Upd.here | apply Upd.there)) ?_
    refine RL.nil (NQ.seq (CW.ret ?_))
    exact RQ.post (resW (vs := [.int .i64 (sw (a + b) / 18446744073709551616), .int .u64 (sw (a + b) % 18446744073709551616)]) rfl rfl Tryz.isAgg319 Tryz.sizeOf319 (List.Mem.tail _ (List.Mem.tail _ (List.Mem.tail _ (List.Mem.head _)))) rfl) (Split.none _) ⟨rfl, rfl, rfl⟩
theorem radd_any (a b : Int) (ha : -170141183460469231731687303715884105728 ≤ a ∧ a < 170141183460469231731687303715884105728) (hb : -170141183460469231731687303715884105728 ≤ b ∧ b < 170141183460469231731687303715884105728) (hab : -170141183460469231731687303715884105728 ≤ a + b ∧ a + b < 170141183460469231731687303715884105728) :
    Spc Tryz.prog 161 #[W a, W b] [] [] (Is (W (a + b))) := by
  have := radd_w a b ha hb
  rwa [sw_id hab] at this
theorem rwof_any (n : Int) (h : -9223372036854775808 ≤ n ∧ n ≤ 9223372036854775807) : Spc Tryz.prog 159 #[.int .i64 n] [] [] (Is (W n)) := by
  refine Spc.enter Tryz.func159 rfl rfl rfl (fun w0 hw0 => ?_)
  refine CW.seq (CW.region (ef := [0]) (bk := []) (RL.alloc Tryz.zeroValue319 rfl rfl rfl rfl rfl ?_))
  intro b1
  refine RL.nil (NQ.seq (CW.seq (CW.seq (CW.rg (RL.p rfl (RL.p rfl (RL.nil (NQ.seq ?_))))))))
  refine CW.cond rfl (fun hn => ?_) (fun hn => ?_)
  ·
    refine CW.seq (CW.region (ef := [3]) (bk := [3]) (RL.p rfl (RL.conv Tryz.runUnderlying2 Tryz.runUnderlying30 rfl rfl rfl rfl (RL.buildS [_, _] Tryz.zeroValue319 pl_319 rfl rfl rfl rfl rfl (RL.store (vs := [_, _]) Tryz.sizeOf319 rfl rfl rfl rfl rfl rfl rfl rfl rfl (by repeat (first | exact Upd.here | apply Upd.there)) ?_)))))
    refine RL.nil (NQ.seq (CW.ret (RQ.seq ?_)))
    refine RQ.post (resC rfl rfl Tryz.isAgg319 (vs := [_, _]) Tryz.sizeOf319 (Rds.cel (List.Mem.head _) (at_spec ⟨rfl, rfl, trivial⟩))) (Split.none _) ⟨?_, rfl, rfl⟩
    simp only [decide_eq_true_eq] at hn
    rw [W, IntKind.wrap_u64, show n / 18446744073709551616 = -1 by omega]
  ·
    refine CW.skip (NQ.seq (CW.seq (CW.region (ef := [3]) (bk := [3]) (RL.p rfl (RL.conv Tryz.runUnderlying2 Tryz.runUnderlying30 rfl rfl rfl rfl (RL.buildS [_, _] Tryz.zeroValue319 pl_319 rfl rfl rfl rfl rfl (RL.store (vs := [_, _]) Tryz.sizeOf319 rfl rfl rfl rfl rfl rfl rfl rfl rfl (by repeat (first | exact Upd.here | apply Upd.there)) ?_)))))))
    refine RL.nil (NQ.seq (CW.ok [2] rfl (CW.ret ?_)))
    refine RQ.post (resC rfl rfl Tryz.isAgg319 (vs := [_, _]) Tryz.sizeOf319 (Rds.cel (List.Mem.head _) (at_spec ⟨rfl, rfl, trivial⟩))) (Split.none _) ⟨?_, rfl, rfl⟩
    simp only [decide_eq_false_iff_not] at hn
    rw [W, IntKind.wrap_u64, show n / 18446744073709551616 = 0 by omega]
theorem rless_any (a b : Int) : Spc Tryz.prog 158 #[W a, W b] [] [] (Is (.bool (decide (a < b)))) := by
  unfold W
  refine Spc.enter Tryz.func158 rfl rfl rfl (fun w0 hw0 => ?_)
  refine CW.seq (CW.region (ef := [0, 1]) (bk := []) (RL.box rfl rfl rfl rfl rfl rfl ?_))
  intro b1
  refine RL.box rfl rfl rfl rfl rfl rfl ?_
  intro b2
  refine RL.p rfl (RL.nil (NQ.seq (CW.seq (CW.rg (RL.fieldAddr fa_319_0 rfl rfl rfl rfl (RL.loadq Tryz.isAgg2 rfl rfl rfl rfl ?_))))))
  refine RL.fieldAddr fa_319_0 rfl rfl rfl rfl (RL.loadq Tryz.isAgg2 rfl rfl rfl rfl ?_)
  refine RL.p rfl (RL.p rfl ?_)
  apply RL.orB (d := 10) (dp := 23) (l' := (Sq.of [19])) rfl (sK [4] rfl)
  ·
    intro hb6 K6
    refine RL.fieldAddr fa_319_0 rfl rfl rfl rfl (RL.loadq Tryz.isAgg2 rfl rfl rfl rfl ?_)
    refine RL.fieldAddr fa_319_0 rfl rfl rfl rfl (RL.loadq Tryz.isAgg2 rfl rfl rfl rfl ?_)
    refine RL.p rfl (RL.p rfl ?_)
    apply RL.andB (d := 16) (dp := 22) (l' := (Sq.of [18, 19])) rfl (sK [4, 10] rfl)
    ·
      intro hb12 K12
      refine RL.fieldAddr fa_319_1 rfl rfl rfl rfl (RL.loadq Tryz.isAgg30 rfl rfl rfl rfl ?_)
      refine RL.fieldAddr fa_319_1 rfl rfl rfl rfl (RL.loadq Tryz.isAgg30 rfl rfl rfl rfl ?_)
      refine RL.p rfl (RL.p rfl ?_)
      exact K12 _ (.cons rfl (sK [4, 10] rfl))
    ·
      intro hb12 K12
      refine RL.p rfl (RL.p rfl (RL.p rfl (RL.p rfl (RL.p rfl (RL.p rfl ?_)))))
      exact K12 _ (.cons rfl (sK [4, 10] rfl))
    refine RL.p rfl ?_
    exact K6 _ (.cons rfl (sK [4] rfl))
  ·
    intro hb6 K6
    refine RL.p rfl (RL.p rfl (RL.p rfl (RL.p rfl (RL.p rfl (RL.p rfl (RL.p rfl (RL.p rfl (RL.p rfl (RL.p rfl (RL.p rfl (RL.p rfl (RL.p rfl ?_))))))))))))
    exact K6 _ (.cons rfl (sK [4] rfl))
  refine RL.p rfl (RL.nil (NQ.seq (CW.ret ?_)))
  refine RQ.post (res1 rfl rfl) (Split.none _) ⟨?_, rfl, rfl⟩
  congr 1
  rw [Bool.eq_iff_iff]
  simp
  omega
theorem rwclip_any (z : Int) (h : -170141183460469231731687303715884105728 ≤ z ∧ z < 170141183460469231731687303715884105728) : Spc Tryz.prog 144 #[W z] [] [] (Is (.tuple #[.int .i64 (clip z), .bool (cut z)])) := by
  refine Spc.enter Tryz.func144 rfl rfl rfl (fun w0 hw0 => ?_)
  refine CW.seq (CW.region (ef := [0]) (bk := []) (RL.box rfl rfl rfl rfl rfl rfl ?_))
  intro b1
  refine RL.p rfl (RL.p rfl (RL.nil (NQ.seq (CW.seq (CW.seq (CW.freezeP (A := [_]) (B := []) (.take .nil) rfl (CW.regionD (Sq.of [0, 1, 2]) [] [] [0, 1, 2] mixed (by kernel_rfl) ?_)))))))
  refine RL.loadNT (vs := [_, _]) Tryz.isAgg319 Tryz.sizeOf319 rfl rfl rfl rfl (by first | (apply Rds.cel; (solve | (repeat (first | exact List.Mem.head _ | apply List.Mem.tail))); exact at_spec ⟨rfl, rfl, trivial⟩) | (apply Rds.celI; (solve | (repeat (first | exact List.Mem.head _ | apply List.Mem.tail))); exact at_spec ⟨rfl, rfl, trivial⟩) | assumption | (apply RdsI.rds; assumption)) ?_
  refine RL.callTq (rwof_any _ (by decide)) Tryz.call159 rfl rfl rfl rfl ?_
  refine RL.callTq (rless_any _ _) Tryz.call158 rfl rfl rfl rfl ?_
  refine RL.nil (NQ.seq ?_)
  refine CW.cond rfl (fun h1 => ?_) (fun h1 => ?_)
  ·
    refine CW.seq (CW.rg (RL.p rfl (RL.p rfl (RL.nil (NQ.seq (CW.ret (RQ.seq ?_)))))))
    refine RQ.post (res2 rfl rfl rfl) (Split.none _) ⟨?_, rfl, rfl⟩
    simp only [decide_eq_true_eq] at h1
    rw [clip, if_pos h1, cut]; simp [h1]
  ·
    refine CW.skip (NQ.seq (CW.ok [1] rfl (CW.seq (CW.seq (CW.regionD (Sq.of [0, 1, 2]) [] [] [0, 1, 2] mixed (by kernel_rfl) ?_)))))
    refine RL.callTq (rwof_any _ (by decide)) Tryz.call159 rfl rfl rfl rfl ?_
    refine RL.loadNT (vs := [_, _]) Tryz.isAgg319 Tryz.sizeOf319 rfl rfl rfl rfl (by first | (apply Rds.cel; (solve | (repeat (first | exact List.Mem.head _ | apply List.Mem.tail))); exact at_spec ⟨rfl, rfl, trivial⟩) | (apply Rds.celI; (solve | (repeat (first | exact List.Mem.head _ | apply List.Mem.tail))); exact at_spec ⟨rfl, rfl, trivial⟩) | assumption | (apply RdsI.rds; assumption)) ?_
    refine RL.callTq (rless_any _ _) Tryz.call158 rfl rfl rfl rfl ?_
    refine RL.nil (NQ.seq ?_)
    simp only [decide_eq_false_iff_not] at h1
    refine CW.cond rfl (fun h2 => ?_) (fun h2 => ?_)
    ·
      refine CW.seq (CW.rg (RL.p rfl (RL.p rfl (RL.nil (NQ.seq (CW.ret (RQ.seq ?_)))))))
      refine RQ.post (res2 rfl rfl rfl) (Split.none _) ⟨?_, rfl, rfl⟩
      simp only [decide_eq_true_eq] at h2
      rw [clip, if_neg h1, if_pos h2, cut]; simp [h2]
    ·
      refine CW.skip (NQ.seq (CW.seq (CW.rg (RL.fieldAddr fa_319_1 rfl rfl rfl rfl (RL.loadq Tryz.isAgg30 rfl rfl rfl rfl ?_)))))
      refine RL.conv Tryz.runUnderlying30 Tryz.runUnderlying2 rfl rfl rfl rfl (RL.p rfl (RL.p rfl (RL.nil (NQ.seq (CW.ok [2, 3] rfl (CW.ret ?_))))))
      simp only [decide_eq_false_iff_not] at h2
      refine RQ.post (res2 rfl rfl rfl) (Split.none _) ⟨?_, rfl, rfl⟩
      have : IntKind.i64.wrap (z % 18446744073709551616) = z := by rw [IntKind.wrap_i64]; omega
      rw [clip, if_neg h1, if_neg h2, cut, this]; simp; omega
theorem rclip_any (z : Int) (h : -170141183460469231731687303715884105728 ≤ z ∧ z < 170141183460469231731687303715884105728) : Spc Tryz.prog 163 #[W z] [] [] (Is (.tuple #[.int .i64 (clip z), .bool (cut z)])) := by
  refine Spc.enter Tryz.func163 rfl rfl rfl (fun w0 hw0 => ?_)
  refine CW.seq (CW.region (ef := [0]) (bk := []) (RL.box rfl rfl rfl rfl rfl rfl ?_))
  intro b1
  refine RL.p rfl (RL.p rfl (RL.nil (NQ.seq (CW.seq (CW.rg (RL.loadN (vs := [_, _]) Tryz.isAgg319 Tryz.sizeOf319 rfl rfl rfl rfl (by first | (apply Rds.cel; (solve | (repeat (first | exact List.Mem.head _ | apply List.Mem.tail))); exact at_spec ⟨rfl, rfl, trivial⟩) | (apply Rds.celI; (solve | (repeat (first | exact List.Mem.head _ | apply List.Mem.tail))); exact at_spec ⟨rfl, rfl, trivial⟩) | assumption | (apply RdsI.rds; assumption)) ?_))))))
  refine RL.callvq (rwclip_any z h) Tryz.call144 rfl rfl rfl rfl ?_
  refine RL.p rfl (RL.p rfl (RL.p rfl (RL.p rfl (RL.p rfl (RL.nil (NQ.seq (CW.ok [4, 5] rfl (CW.seq (CW.rg (RL.p rfl (RL.p rfl (RL.p rfl (RL.p rfl ?_)))))))))))))
  refine RL.nil (NQ.seq (CW.ret ?_))
  exact RQ.post (res2 rfl rfl rfl) (Split.none _) ⟨rfl, rfl, rfl⟩
theorem rsum_any (p : Option Addr) (l : List Int) (cap : Nat) (hl : l.length ≤ 9223372036854775807) (hb : ∀ a ∈ l, -9223372036854775808 ≤ a ∧ a ≤ 9223372036854775807) :
    Spc Tryz.prog 146 #[.slice p l.length cap] [sls p 1 l.length (ints l)] [] (Is (.tuple #[.int .i64 (clip (isum l)), .bool (cut (isum l))])) := by
  refine Spc.enter Tryz.func146 rfl rfl rfl (fun w0 hw0 => ?_)
  refine CW.seq (CW.rg (RL.p rfl (RL.p rfl (RL.nil (NQ.seq (CW.seq (CW.region (ef := [1, 2]) (bk := [2]) (RL.buildS _ Tryz.zeroValue319 pl_319 rfl rfl rfl rfl rfl (RL.alloc Tryz.zeroValue319 rfl rfl rfl rfl rfl ?_)))))))))
  intro b1
  refine RL.store (vs := [_, _]) Tryz.sizeOf319 rfl rfl rfl rfl rfl rfl rfl rfl rfl (by repeat (first | exact Upd.here | apply Upd.there)) ?_
  refine RL.nil (NQ.seq (CW.seq (CW.seq (CW.rg (RL.p rfl (RL.nil (NQ.seq (CW.block ?_))))))))
  refine CW.fact (p := p = none → l.length = 0) (fun w hw hp => sls_nil (hw.s.i _ (List.Mem.head _)) hp) (fun hp => ?_)
  refine CW.loop (γ := Nat) (fun k => k ≤ l.length) (fun k => [(0, .slice p l.length cap), (4, .pointer (some ⟨b1, 0, none⟩)), (5, .int .i64 k)]) (fun _ => [sls p 1 l.length (ints l)])
    (fun k => [cel b1 [.int .i64 (isum (l.take k) / 18446744073709551616), .int .u64 (isum (l.take k) % 18446744073709551616)] 319]) (fun k => l.length - k) 0 (by omega) (.cons rfl (.cons rfl (.cons rfl .nil))) (fun _ h => h) (fun k hk => ?_)
  refine CW.seq (CW.seq (CW.rg (RL.p rfl (RL.p rfl (RL.lenS Tryz.runUnderlying323 rfl rfl rfl rfl (RL.p rfl (RL.nil (NQ.seq ?_))))))))
  refine CW.cond rfl (fun hc => ?_) (fun hc => ?_)
  ·
    have hlt : k < l.length := by simpa using hc
    obtain ⟨a, rfl⟩ : ∃ a, p = some a := by
      cases p with
      | none => have := hp rfl; omega
      | some a => exact ⟨a, rfl⟩
    have hb1 := isum_bd (l.take k) (fun a ha => hb a (List.mem_of_mem_take ha))
    have hb2 := hb l[k] (List.getElem_mem _)
    rw [List.length_take, Nat.min_eq_left hk] at hb1
    have hs : isum (l.take (k + 1)) = isum (l.take k) + l[k] := by rw [List.take_succ_eq_append_getElem hlt, isum_snoc]
    have hg : l[k]? = some l[k] := List.getElem?_eq_getElem hlt
    refine CW.skip (NQ.seq (CW.seq (CW.block (CW.regionD (Sq.of [0, 1, 2, 3, 4, 5, 6, 7]) [7] [7] [1, 2, 3] mixed (by kernel_rfl) ?_))))
    refine RL.loadN (vs := [_, _]) Tryz.isAgg319 Tryz.sizeOf319 rfl rfl rfl rfl (by first | (apply Rds.cel; (solve | (repeat (first | exact List.Mem.head _ | apply List.Mem.tail))); exact at_spec ⟨rfl, rfl, trivial⟩) | (apply Rds.celI; (solve | (repeat (first | exact List.Mem.head _ | apply List.Mem.tail))); exact at_spec ⟨rfl, rfl, trivial⟩) | assumption | (apply RdsI.rds; assumption)) ?_
    refine RL.p rfl (RL.p rfl (RL.idx (j := k) Tryz.runUnderlying323 Tryz.sizeOf23 rfl rfl rfl rfl rfl rfl hlt (RL.load Tryz.isAgg23 rfl rfl rfl rfl (Rd.getS (List.Mem.head _) (ints_get hg)) (RL.callvq (rwof_any l[k] hb2) Tryz.call159 rfl rfl rfl rfl ?_))))
    refine RL.callvq (radd_any (isum (l.take k)) l[k] (by omega) (by omega) (by omega)) Tryz.call161 rfl rfl rfl rfl ?_
    refine RL.store (vs := [_, _]) Tryz.sizeOf319 rfl rfl rfl rfl rfl rfl rfl rfl rfl (by repeat (first | exact Upd.here | apply Upd.there)) ?_
    refine RL.nil (NQ.block (NQ.seq (CW.ok [0, 4, 5] rfl (CW.rg (RL.p rfl (RL.bx rfl (wrapV_i64 (by omega) (by omega)) ?_))))))
    refine RL.p rfl (RL.nil ?_)
    refine NQ.round (k + 1) hlt (by omega) (.cons rfl (.cons rfl (.cons rfl .nil))) (fun w hw => by simp only [hs]; exact hw)
  ·
    have hge : k = l.length := by simp at hc; omega
    subst hge
    have hb1 := isum_bd l hb
    have hb2 : isum (l.take l.length) = isum l := by rw [List.take_length]
    rw [hb2]
    refine CW.exit (XQ.seq (XQ.seq (XQ.hit (NQ.seq (CW.ok [4] rfl (CW.seq (CW.rg (RL.loadN (vs := [_, _]) Tryz.isAgg319 Tryz.sizeOf319 rfl rfl rfl rfl (by first | (apply Rds.cel; (solve | (repeat (first | exact List.Mem.head _ | apply List.Mem.tail))); exact at_spec ⟨rfl, rfl, trivial⟩) | (apply Rds.celI; (solve | (repeat (first | exact List.Mem.head _ | apply List.Mem.tail))); exact at_spec ⟨rfl, rfl, trivial⟩) | assumption | (apply RdsI.rds; assumption)) ?_))))))))
    refine RL.callvq (rclip_any (isum l) (by omega)) Tryz.call163 rfl rfl rfl rfl ?_
    refine RL.p rfl (RL.p rfl (RL.p rfl (RL.p rfl (RL.nil (NQ.seq (CW.ret ?_))))))
    exact RQ.post (res2 rfl rfl rfl) (Split.none _) ⟨rfl, rfl, rfl⟩
end Go.Proofs.YthndhipjfdgdfaaGreatDoor

namespace Go.Proofs.YthndhipjfdgdfaaGreatDoor
open Go.PK

theorem RdI.sls {I : List It} {a : Addr} {n j : Nat} {l : List Int} {x : Int} (hm : sls (some a) 1 n (ints l) ∈ I) (h : l[j]? = some x) : RdI I (a.add (j * 1)) (.int .i64 x) := ⟨fun _ => by
  rw [Nat.mul_one]
  exact Rds.rd (Rds.sls hm) (by rw [List.getElem?_map, h]; rfl)⟩
end Go.Proofs.YthndhipjfdgdfaaGreatDoor
