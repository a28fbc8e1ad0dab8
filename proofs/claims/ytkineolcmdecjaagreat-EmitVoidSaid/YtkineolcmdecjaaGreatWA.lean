import Derived.Test.YtkineolcmdecjaaGreatPC
import Derived.Test.YtkineolcmdecjaaGreatBase0
import Derived.Test.YtkineolcmdecjaaGreatFacts
import Derived.Test.YtkineolcmdecjaaGreatPE
/- Wide numbers, as integers: no program here. -/
namespace Go.PK

theorem IntKind.wrap_i64 (n : Int) : IntKind.i64.wrap n = (n + 9223372036854775808) % 18446744073709551616 - 9223372036854775808 := by
  simp only [IntKind.wrap, IntKind.bits, IntKind.signed]
  simp
  omega
theorem IntKind.wrap_u64 (n : Int) : IntKind.u64.wrap n = n % 18446744073709551616 := by
  simp [IntKind.wrap, IntKind.bits, IntKind.signed]

/-- A wide number. -/
def W (z : Int) : Value := .agg #[.int .i64 (z / 18446744073709551616), .int .u64 (z % 18446744073709551616)]

def clip (z : Int) : Int := if z < -9223372036854775808 then -9223372036854775808 else if z > 9223372036854775807 then 9223372036854775807 else z
def cut (z : Int) : Bool := decide (z < -9223372036854775808 ∨ z > 9223372036854775807)

theorem W_of (n : Int) (h : -9223372036854775808 ≤ n ∧ n ≤ 9223372036854775807) : Value.agg #[.int .i64 (n.fdiv (2 ^ 63)), .int .u64 (IntKind.u64.wrap n)] = W n := by
  rw [IntKind.wrap_u64, W]
  have : n.fdiv (2 ^ 63) = n / 18446744073709551616 := by
    rw [Int.fdiv_eq_ediv_of_nonneg _ (by decide)]
    omega
  rw [this]

end Go.PK

namespace Go.Proofs.YtkineolcmdecjaaGreat
open Go.PK

theorem eqs_wide (x0 x1 y0 y1 : Int) (x y : Operand) (w : World) : (do eqGuard .eql 354 x y (.agg #[.int .i64 x0, .int .u64 x1]) (.agg #[.int .i64 y0, .int .u64 y1]); binOp .eql 354 (.agg #[.int .i64 x0, .int .u64 x1]) (.agg #[.int .i64 y0, .int .u64 y1]) : Sem Value).run Tryz.prog w = .ok (.bool (x0 == y0 && x1 == y1)) w := by
  simp [run_eqGuard_agg, run_eql_struct, run_equalIn_struct, Program.fieldsOf, Op.eqFields, Go.part, go_sem]
  by_cases h1 : x0 = y0 <;> by_cases h2 : x1 = y1 <;> simp [h1, h2]

theorem wideOf_walk (n : Int) : Spc Tryz.prog 222 #[.int .i64 n] [] [] (Is (.agg #[.int .i64 (n.fdiv (2 ^ 63)), .int .u64 (IntKind.u64.wrap n)])) := by
  refine Spc.enter Tryz.func222 rfl rfl rfl (fun w0 hw0 => ?_)
  refine CW.seq (CW.region (ef := [0]) (bk := []) (RL.alloc Tryz.zeroValue354 rfl rfl rfl rfl rfl ?_))
  intro b1
  refine RL.nil (NQ.seq (CW.seq (CW.region (ef := [5]) (bk := [5]) (RL.p rfl (RL.shr 63 rfl rfl rfl rfl rfl rfl (by decide) ?_)))))
  refine RL.p rfl (RL.conv Tryz.runUnderlying2 Tryz.runUnderlying32 rfl rfl rfl rfl (RL.buildS [_, _] Tryz.zeroValue354 pl_354 rfl rfl rfl rfl rfl (RL.store (vs := [_, _]) Tryz.sizeOf354 rfl rfl rfl rfl rfl rfl rfl rfl rfl (by repeat (first | exact Upd.here | apply Upd.there)) ?_)))
  refine RL.nil (NQ.seq (CW.ok [2] rfl (CW.ret ?_)))
  exact RQ.post (resC rfl rfl Tryz.isAgg354 (vs := [_, _]) Tryz.sizeOf354 (Rds.cel (List.Mem.head _) (at_spec ⟨rfl, rfl, trivial⟩))) (Split.none _) ⟨rfl, rfl, rfl⟩
theorem wideOf (n : Int) (h : -9223372036854775808 ≤ n ∧ n ≤ 9223372036854775807) : Spc Tryz.prog 222 #[.int .i64 n] [] [] (Is (W n)) := W_of n h ▸ wideOf_walk n

theorem wideAdd (a b : Int) (h : -170141183460469231731687303715884105728 ≤ a + b) (h' : a + b < 170141183460469231731687303715884105728) : Spc Tryz.prog 206 #[W a, W b] [] [] (Is (W (a + b))) := by
  unfold W
  refine Spc.enter Tryz.func206 rfl rfl rfl (fun w0 hw0 => ?_)
  refine CW.seq (CW.region (ef := [0, 1, 2]) (bk := []) (RL.box rfl rfl rfl rfl rfl rfl ?_))
  intro b1
  refine RL.box rfl rfl rfl rfl rfl rfl ?_
  intro b2
  refine RL.alloc Tryz.zeroValue354 rfl rfl rfl rfl rfl ?_
  intro b3
  refine RL.nil (NQ.seq (CW.seq (CW.rg (RL.fieldAddr fa_354_1 rfl rfl rfl rfl (RL.loadq Tryz.isAgg32 rfl rfl rfl rfl ?_)))))
  refine RL.fieldAddr fa_354_1 rfl rfl rfl rfl (RL.loadq Tryz.isAgg32 rfl rfl rfl rfl ?_)
  refine RL.p rfl (RL.p rfl (RL.nil (NQ.seq (CW.ok [2, 3, 4, 5] rfl (CW.seq (CW.rg (RL.fieldAddr fa_354_0 rfl rfl rfl rfl (RL.loadq Tryz.isAgg2 rfl rfl rfl rfl ?_))))))))
  refine RL.conv Tryz.runUnderlying2 Tryz.runUnderlying32 rfl rfl rfl rfl (RL.fieldAddr fa_354_0 rfl rfl rfl rfl (RL.loadq Tryz.isAgg2 rfl rfl rfl rfl ?_))
  refine RL.conv Tryz.runUnderlying2 Tryz.runUnderlying32 rfl rfl rfl rfl (RL.p rfl (RL.p rfl (RL.nil (NQ.seq (CW.ok [2, 4, 5, 6] rfl (CW.seq (CW.seq (CW.rg (RL.p rfl (RL.fieldAddr fa_354_1 rfl rfl rfl rfl (RL.loadq Tryz.isAgg32 rfl rfl rfl rfl ?_)))))))))))
  refine RL.p rfl (RL.nil (NQ.seq ?_))
  refine CW.cond rfl (fun hc => ?_) (fun hc => ?_)
  ·
    refine CW.rg (RL.p rfl (RL.p rfl (RL.p rfl (RL.nil (NQ.seq (CW.ok [4, 5, 6] rfl (CW.seq (CW.region (ef := [4]) (bk := [4]) (RL.p rfl (RL.conv Tryz.runUnderlying32 Tryz.runUnderlying2 rfl rfl rfl rfl (RL.p rfl (RL.buildS [_, _] Tryz.zeroValue354 pl_354 rfl rfl rfl rfl rfl (RL.store (vs := [_, _]) Tryz.sizeOf354 rfl rfl rfl rfl rfl rfl rfl rfl rfl (by repeat (first | exact Upd.here | apply Upd.there)) ?_)))))))))))))
    refine RL.nil (NQ.seq (CW.ok [4] rfl (CW.ret ?_)))
    refine RQ.post (resC rfl rfl Tryz.isAgg354 (vs := [_, _]) Tryz.sizeOf354 (Rds.cel (List.Mem.head _) (at_spec ⟨rfl, rfl, trivial⟩))) (Split.none _) ⟨?_, rfl, rfl⟩
    simp only [decide_eq_true_eq, IntKind.wrap_i64, IntKind.wrap_u64] at hc ⊢
    have e1 : (a + b) / 18446744073709551616 = a / 18446744073709551616 + b / 18446744073709551616 + 1 := by omega
    have e2 : (a + b) % 18446744073709551616 = (a % 18446744073709551616 + b % 18446744073709551616) % 18446744073709551616 := by omega
    have e3 : -9223372036854775808 ≤ a / 18446744073709551616 + b / 18446744073709551616 + 1 ∧ a / 18446744073709551616 + b / 18446744073709551616 + 1 < 9223372036854775808 := by omega
    rw [e1, e2]
    generalize a / 18446744073709551616 = p at *
    generalize b / 18446744073709551616 = q at *
    congr 4
    congr 1; omega
  ·
    refine CW.skip (NQ.seq (CW.seq (CW.region (ef := [4]) (bk := [4]) (RL.p rfl (RL.conv Tryz.runUnderlying32 Tryz.runUnderlying2 rfl rfl rfl rfl (RL.p rfl (RL.buildS [_, _] Tryz.zeroValue354 pl_354 rfl rfl rfl rfl rfl (RL.store (vs := [_, _]) Tryz.sizeOf354 rfl rfl rfl rfl rfl rfl rfl rfl rfl (by repeat (first | exact Upd.here | apply Upd.there)) ?_))))))))
    refine RL.nil (NQ.seq (CW.ok [4] rfl (CW.ret ?_)))
    refine RQ.post (resC rfl rfl Tryz.isAgg354 (vs := [_, _]) Tryz.sizeOf354 (Rds.cel (List.Mem.head _) (at_spec ⟨rfl, rfl, trivial⟩))) (Split.none _) ⟨?_, rfl, rfl⟩
    simp only [decide_eq_false_iff_not, IntKind.wrap_i64, IntKind.wrap_u64] at hc ⊢
    have e1 : (a + b) / 18446744073709551616 = a / 18446744073709551616 + b / 18446744073709551616 + 0 := by omega
    have e2 : (a + b) % 18446744073709551616 = (a % 18446744073709551616 + b % 18446744073709551616) % 18446744073709551616 := by omega
    have e3 : -9223372036854775808 ≤ a / 18446744073709551616 + b / 18446744073709551616 + 0 ∧ a / 18446744073709551616 + b / 18446744073709551616 + 0 < 9223372036854775808 := by omega
    rw [e1, e2]
    generalize a / 18446744073709551616 = p at *
    generalize b / 18446744073709551616 = q at *
    congr 4
    congr 1; omega

theorem fixOf (n : Int) (h : -9223372036854775808 ≤ n ∧ n ≤ 9223372036854775807) : Spc Tryz.prog 207 #[.int .i64 n] [] [] (Is (W n)) := by
  refine Spc.enter Tryz.func207 rfl rfl rfl (fun w0 hw0 => ?_)
  refine CW.seq (CW.region (ef := [0]) (bk := []) (RL.alloc Tryz.zeroValue354 rfl rfl rfl rfl rfl ?_))
  intro b1
  refine RL.nil (NQ.seq (CW.seq (CW.region (ef := [2]) (bk := [2]) (RL.p rfl (RL.callvq (wideOf _ (by omega)) Tryz.call222 rfl rfl rfl rfl ?_)))))
  refine RL.store (vs := [_, _]) Tryz.sizeOf354 rfl rfl rfl rfl rfl rfl rfl rfl rfl (by repeat (first | exact Upd.here | apply Upd.there)) ?_
  refine RL.nil (NQ.seq (CW.ret ?_))
  exact RQ.post (resC rfl rfl Tryz.isAgg354 (vs := [_, _]) Tryz.sizeOf354 (Rds.cel (List.Mem.head _) (at_spec ⟨rfl, rfl, trivial⟩))) (Split.none _) ⟨rfl, rfl, rfl⟩

theorem wideClip (z : Int) (h : -170141183460469231731687303715884105728 ≤ z) (h' : z < 170141183460469231731687303715884105728) : Spc Tryz.prog 223 #[W z] [] [] (Is (.tuple #[.int .i64 (clip z), .bool (cut z)])) := by
  unfold W
  refine Spc.enter Tryz.func223 rfl rfl rfl (fun w0 hw0 => ?_)
  refine CW.seq (CW.region (ef := [0]) (bk := []) (RL.box rfl rfl rfl rfl rfl rfl ?_))
  intro b1
  refine RL.p rfl (RL.p rfl (RL.nil (NQ.seq (CW.seq (CW.rg (RL.fieldAddr fa_354_1 rfl rfl rfl rfl (RL.loadq Tryz.isAgg32 rfl rfl rfl rfl ?_)))))))
  refine RL.conv Tryz.runUnderlying32 Tryz.runUnderlying2 rfl rfl rfl rfl (RL.p rfl (RL.nil (NQ.seq (CW.ok [1, 4] rfl (CW.seq (CW.block (CW.seq (CW.regionD (Sq.of [0, 1, 2, 3, 4]) [] [] [0, 3, 4] mixed (by kernel_rfl) ?_))))))))
  refine RL.p rfl (RL.callvq (wideOf _ (by simp only [IntKind.wrap_i64]; omega)) Tryz.call222 rfl rfl rfl rfl ?_)
  refine RL.loadN (vs := [_, _]) Tryz.isAgg354 Tryz.sizeOf354 rfl rfl rfl rfl (by first | (apply Rds.cel; (solve | (repeat (first | exact List.Mem.head _ | apply List.Mem.tail))); exact at_spec ⟨rfl, rfl, trivial⟩) | (apply Rds.celI; (solve | (repeat (first | exact List.Mem.head _ | apply List.Mem.tail))); exact at_spec ⟨rfl, rfl, trivial⟩) | assumption | (apply RdsI.rds; assumption)) ?_
  refine RL.cmp rfl rfl rfl rfl rfl (eqs_wide _ _ _ _ _ _) (RL.p rfl (RL.nil (NQ.seq ?_)))
  have hb : ∀ q : Int, -9223372036854775808 ≤ (z % 18446744073709551616 + 9223372036854775808) % 18446744073709551616 - 9223372036854775808 := by omega
  refine CW.cond rfl (fun hc => ?_) (fun hc => ?_)
  ·
    refine CW.seq (CW.rg (RL.p rfl (RL.p rfl (RL.p rfl (RL.nil (NQ.seq (CW.ok [2, 3] rfl (CW.ret (RQ.block (RQ.seq ?_))))))))))
    refine RQ.post (res2 rfl rfl rfl) (Split.none _) ⟨?_, rfl, rfl⟩
    simp only [Bool.and_eq_true, beq_iff_eq, IntKind.wrap_i64] at hc ⊢
    have e1 : clip z = z := by unfold clip; split; omega; split; omega; rfl
    have e2 : cut z = false := by unfold cut; simp; omega
    rw [e1, e2]
    congr 3; congr 1; omega
  ·
    refine CW.seq (CW.rg (RL.fieldAddr fa_354_0 rfl rfl rfl rfl (RL.loadq Tryz.isAgg2 rfl rfl rfl rfl ?_)))
    refine RL.p rfl (RL.p rfl (RL.nil (NQ.seq (CW.ok [14] rfl ?_))))
    refine CW.cond rfl (fun hd => ?_) (fun hd => ?_)
    ·
      refine CW.seq (CW.rg (RL.p rfl (RL.p rfl (RL.nil (NQ.seq (CW.ret (RQ.block (RQ.seq ?_))))))))
      refine RQ.post (res2 rfl rfl rfl) (Split.none _) ⟨?_, rfl, rfl⟩
      simp only [Bool.and_eq_false_iff, beq_eq_false_iff_ne, IntKind.wrap_i64, decide_eq_true_eq] at hc hd ⊢
      have e1 : clip z = -9223372036854775808 := by unfold clip; split; rfl; omega
      have e2 : cut z = true := by unfold cut; simp; omega
      rw [e1, e2]
    ·
      refine CW.skip (NQ.block (NQ.seq (CW.seq (CW.rg (RL.p rfl (RL.p rfl (RL.nil (NQ.seq (CW.ret ?_)))))))))
      refine RQ.post (res2 rfl rfl rfl) (Split.none _) ⟨?_, rfl, rfl⟩
      simp only [Bool.and_eq_false_iff, beq_eq_false_iff_ne, IntKind.wrap_i64, decide_eq_false_iff_not] at hc hd ⊢
      have e1 : clip z = 9223372036854775807 := by unfold clip; split; omega; split; rfl; omega
      have e2 : cut z = true := by unfold cut; simp; omega
      rw [e1, e2]

theorem fixClip (z : Int) (h : -170141183460469231731687303715884105728 ≤ z) (h' : z < 170141183460469231731687303715884105728) : Spc Tryz.prog 208 #[W z] [] [] (Is (.tuple #[.int .i64 (clip z), .bool (cut z)])) := by
  unfold W
  refine Spc.enter Tryz.func208 rfl rfl rfl (fun w0 hw0 => ?_)
  refine CW.seq (CW.region (ef := [0]) (bk := []) (RL.box rfl rfl rfl rfl rfl rfl ?_))
  intro b1
  refine RL.p rfl (RL.p rfl (RL.nil (NQ.seq (CW.seq (CW.rg (RL.loadN (vs := [_, _]) Tryz.isAgg354 Tryz.sizeOf354 rfl rfl rfl rfl (by first | (apply Rds.cel; (solve | (repeat (first | exact List.Mem.head _ | apply List.Mem.tail))); exact at_spec ⟨rfl, rfl, trivial⟩) | (apply Rds.celI; (solve | (repeat (first | exact List.Mem.head _ | apply List.Mem.tail))); exact at_spec ⟨rfl, rfl, trivial⟩) | assumption | (apply RdsI.rds; assumption)) ?_))))))
  refine RL.callvq (wideClip _ h h') Tryz.call223 rfl rfl rfl rfl ?_
  refine RL.p rfl (RL.p rfl (RL.p rfl (RL.p rfl (RL.p rfl (RL.nil (NQ.seq (CW.ok [4, 5] rfl (CW.seq (CW.rg (RL.p rfl (RL.p rfl (RL.p rfl (RL.p rfl ?_)))))))))))))
  refine RL.nil (NQ.seq (CW.ret ?_))
  exact RQ.post (res2 rfl rfl rfl) (Split.none _) ⟨rfl, rfl, rfl⟩

/-- The sum of numbers. -/
def isum : List Int → Int
  | [] => 0
  | a :: r => a + isum r
theorem isum_snoc (l : List Int) (a : Int) : isum (l ++ [a]) = isum l + a := by
  induction l with
  | nil => simp [isum]
  | cons b l ih => simp [isum, ih]; omega
theorem isum_bd : ∀ (l : List Int), (∀ a ∈ l, -9223372036854775808 ≤ a ∧ a ≤ 9223372036854775807) → -9223372036854775808 * (l.length : Int) ≤ isum l ∧ isum l ≤ 9223372036854775807 * (l.length : Int)
  | [], _ => by simp [isum]
  | a :: l, h => by
    have h1 := h a (by simp)
    have h2 := isum_bd l (fun b hb => h b (by simp [hb]))
    simp only [isum, List.length_cons, Int.natCast_add, Int.natCast_one]
    omega

theorem fixSum (p : Option Addr) (l : List Int) (cap : Nat) (hl : l.length ≤ 9223372036854775807) (hb : ∀ a ∈ l, -9223372036854775808 ≤ a ∧ a ≤ 9223372036854775807) :
    Spc Tryz.prog 190 #[.slice p l.length cap] [sls p 1 l.length (ints l)] [] (Is (.tuple #[.int .i64 (clip (isum l)), .bool (cut (isum l))])) := by
  refine Spc.enter Tryz.func190 rfl rfl rfl (fun w0 hw0 => ?_)
  refine CW.seq (CW.rg (RL.p rfl (RL.p rfl (RL.nil (NQ.seq (CW.seq (CW.region (ef := [0]) (bk := []) (RL.alloc Tryz.zeroValue354 rfl rfl rfl rfl rfl ?_))))))))
  intro b1
  refine RL.nil (NQ.seq (CW.seq (CW.seq (CW.rg (RL.p rfl (RL.lenS Tryz.runUnderlying280 rfl rfl rfl rfl (RL.p rfl (RL.nil (NQ.seq (CW.block ?_))))))))))
  refine CW.fact (p := p = none → l.length = 0) (fun w hw hp => sls_nil (hw.s.i _ (List.Mem.head _)) hp) (fun hp => ?_)
  refine CW.loop (γ := Nat) (fun k => k ≤ l.length) (fun k => [(4, .pointer (some ⟨b1, 0, none⟩)), (7, .slice p l.length cap), (8, .int .i64 l.length), (9, .int .i64 k)]) (fun _ => [sls p 1 l.length (ints l)])
    (fun k => [cel b1 [.int .i64 (isum (l.take k) / 18446744073709551616), .int .u64 (isum (l.take k) % 18446744073709551616)] 354]) (fun k => l.length - k) 0 (by omega) (.cons rfl (.cons rfl (.cons rfl (.cons rfl .nil)))) (fun _ h => h) (fun k hk => ?_)
  refine CW.seq (CW.rg (RL.p rfl (RL.nil (NQ.seq (CW.seq ?_)))))
  refine CW.cond rfl (fun hc => ?_) (fun hc => ?_)
  ·
    refine CW.skip (NQ.seq (CW.seq (CW.block (CW.seq (CW.rg ?_)))))
    have hlt : k < l.length := by simpa using hc
    obtain ⟨a, rfl⟩ : ∃ a, p = some a := by
      cases p with
      | none => have := hp rfl; omega
      | some a => exact ⟨a, rfl⟩
    have hkk : (ints l)[k * 1]? = some (.int .i64 l[k]) := by simp [ints, hlt]
    have hb1 := isum_bd (l.take k) (fun a ha => hb a (List.mem_of_mem_take ha))
    have hb2 := hb l[k] (List.getElem_mem _)
    rw [List.length_take, Nat.min_eq_left hk] at hb1
    have hs : isum (l.take (k + 1)) = isum (l.take k) + l[k] := by rw [List.take_succ_eq_append_getElem hlt, isum_snoc]
    refine RL.idx Tryz.runUnderlying280 Tryz.sizeOf25 rfl rfl rfl rfl rfl rfl hlt (RL.load Tryz.isAgg25 rfl rfl rfl rfl (Rds.rd (Rds.sls (List.Mem.head _)) hkk) (RL.p rfl (RL.nil (NQ.seq (CW.regionD (Sq.of [0, 1, 2, 3, 4]) [4] [4] [1] mixed (by kernel_rfl) ?_)))))
    refine RL.loadN (vs := [_, _]) Tryz.isAgg354 Tryz.sizeOf354 rfl rfl rfl rfl (by first | (apply Rds.cel; (solve | (repeat (first | exact List.Mem.head _ | apply List.Mem.tail))); exact at_spec ⟨rfl, rfl, trivial⟩) | (apply Rds.celI; (solve | (repeat (first | exact List.Mem.head _ | apply List.Mem.tail))); exact at_spec ⟨rfl, rfl, trivial⟩) | assumption | (apply RdsI.rds; assumption)) ?_
    refine RL.p rfl (RL.callvq (fixOf _ (by omega)) Tryz.call207 rfl rfl rfl rfl ?_)
    refine RL.callvq (wideAdd _ _ (by omega) (by omega)) Tryz.call206 rfl rfl rfl rfl ?_
    refine RL.store (vs := [_, _]) Tryz.sizeOf354 rfl rfl rfl rfl rfl rfl rfl rfl rfl (by repeat (first | exact Upd.here | apply Upd.there)) ?_
    refine RL.nil (NQ.block (NQ.seq (CW.ok [4, 7, 8, 9] rfl (CW.rg (RL.bx rfl (wrapV_i64 (by omega) (by omega)) ?_)))))
    refine RL.p rfl (RL.nil ?_)
    refine NQ.round (k + 1) hlt (by omega) (.cons rfl (.cons rfl (.cons rfl (.cons rfl .nil)))) (fun w hw => ?_)
    simp only [hs]
    exact hw
  ·
    have hge : k = l.length := by simp at hc; omega
    subst hge
    have hb1 := isum_bd l hb
    have hb2 : isum (l.take l.length) = isum l := by rw [List.take_length]
    refine CW.exit (XQ.seq (XQ.seq (XQ.hit (NQ.seq (CW.seq (CW.rg (RL.loadN (vs := [_, _]) Tryz.isAgg354 Tryz.sizeOf354 rfl rfl rfl rfl (by first | (apply Rds.cel; (solve | (repeat (first | exact List.Mem.head _ | apply List.Mem.tail))); exact at_spec ⟨rfl, rfl, trivial⟩) | (apply Rds.celI; (solve | (repeat (first | exact List.Mem.head _ | apply List.Mem.tail))); exact at_spec ⟨rfl, rfl, trivial⟩) | assumption | (apply RdsI.rds; assumption)) ?_)))))))
    refine RL.callvq (fixClip _ (by omega) (by omega)) Tryz.call208 rfl rfl rfl rfl ?_
    refine RL.p rfl (RL.p rfl (RL.p rfl (RL.p rfl (RL.nil (NQ.seq (CW.ok [2, 3] rfl (CW.ret ?_)))))))
    exact RQ.post (res2 rfl rfl rfl) (Split.none _) ⟨by rw [hb2]; rfl, rfl, rfl⟩
end Go.Proofs.YtkineolcmdecjaaGreat

/- Bits of whole numbers: no program here. -/
namespace Go.PK
end Go.PK

namespace Go.Proofs.YtkineolcmdecjaaGreat
open Go.PK

end Go.Proofs.YtkineolcmdecjaaGreat

namespace Go.Proofs.YtkineolcmdecjaaGreat
open Go.PK
end Go.Proofs.YtkineolcmdecjaaGreat
