import Derived.Test.YtbdnebedmdoehaaU10
namespace Go.Proofs.Ytbdnebedmdoehaa
open Go.PK
/-! ### A source equals itself -/
theorem part_s {P : Program} {t : TypeId} {cs : List Value} {off : Nat} {v : Value} (hag : ∀ w, (isAgg t).run P w = .ok false w) (h : cs[off]? = some v) (w : World) : (Go.part t cs.toArray off).run P w = .ok v w := by
  simp [Go.part, hag, h]
theorem part_a {P : Program} {t : TypeId} {cs vs : List Value} {off n : Nat} (hag : ∀ w, (isAgg t).run P w = .ok true w) (hs : ∀ w, (sizeOf t).run P w = .ok n w) (h : (cs.drop off).take n = vs) (w : World) : (Go.part t cs.toArray off).run P w = .ok (.agg vs.toArray) w := by
  subst h
  simp [Go.part, hag, hs]
theorem eqF_step {P : Program} {d : Nat} {xs : Array Value} {f : Field} {fs : List Field} {a : Value} {w : World} (hn : f.name ≠ "_") (h1 : (Go.part f.type xs f.offset).run P w = .ok a w) (h3 : (Op.equalIn d f.type a a).run P w = .ok true w) (ih : (Op.eqFields d xs xs fs).run P w = .ok true w) : (Op.eqFields d xs xs (f :: fs)).run P w = .ok true w := by
  simp [Op.eqFields, hn, h1, h3, ih]
theorem eq_i64 {P : Program} {t : TypeId} (hu : ∀ w, (underlying t).run P w = .ok (.int .i64) w) (d : Nat) (n : Int) (w : World) : (Op.equalIn (d + 1) t (.int .i64 n) (.int .i64 n)).run P w = .ok true w := by
  rw [Op.equalIn.eq_2]
  simp [hu]
theorem eq_key (d : Nat) (l : List B8) (h : l.length = 32) (w : World) : (Op.equalIn (d + 2) 30 (.agg (bytes l).toArray) (.agg (bytes l).toArray)).run Try.prog w = .ok true w := by
  obtain ⟨ii, hi⟩ : ∃ ii, Try.prog.info? 5 = some ii := by
    cases hx : Try.prog.info? 5 with
    | some ii => exact ⟨ii, rfl⟩
    | none => exact absurd (congrArg Option.isSome hx) (by rw [show (Try.prog.info? 5).isSome = true from by kernel_rfl]; decide)
  rw [run_equalIn_array (P := Try.prog) w (d + 1) (n := 32) (e := 5) _ _ (by kernel_rfl) hi, show Try.prog.cellsOf 5 = 1 from by kernel_rfl]
  have h8 := run_eqItems8 (P := Try.prog) (e := 5) Try.isAgg5 Try.runUnderlying5 d l l (List.range 32) w (fun i hi => by simp at hi; omega)
  have ha : ((List.range 32).all fun i => l[i]? == l[i]?) = true := by simp
  rw [ha] at h8
  exact h8
theorem eq_gate (d : Nat) (a b c : Int) (w : World) : (Op.equalIn (d + 2) 42 (.agg [Value.int .i64 a, .int .i64 b, .int .i64 c].toArray) (.agg [Value.int .i64 a, .int .i64 b, .int .i64 c].toArray)).run Try.prog w = .ok true w := by
  rw [run_equalIn_struct (P := Try.prog) w (d + 1) 42 _ _ (by kernel_rfl) (by kernel_rfl)]
  simp only [Program.fieldsOf, Try.underlying42]
  refine eqF_step (by decide) (part_s Try.isAgg24 rfl w) (eq_i64 Try.runUnderlying24 d _ w) ?_
  refine eqF_step (by decide) (part_s Try.isAgg24 rfl w) (eq_i64 Try.runUnderlying24 d _ w) ?_
  refine eqF_step (by decide) (part_s Try.isAgg24 rfl w) (eq_i64 Try.runUnderlying24 d _ w) ?_
  rfl
theorem eq_watch (d : Nat) (x : Wt) (w : World) : (Op.equalIn (d + 3) 44 (.agg x.cells.toArray) (.agg x.cells.toArray)).run Try.prog w = .ok true w := by
  rw [run_equalIn_struct (P := Try.prog) w (d + 2) 44 _ _ (by kernel_rfl) (by kernel_rfl)]
  simp only [Program.fieldsOf, Try.underlying44]
  refine eqF_step (by decide) (part_a Try.isAgg42 Try.sizeOf42 rfl w) (eq_gate d _ _ _ w) ?_
  refine eqF_step (by decide) (part_s Try.isAgg24 rfl w) (eq_i64 Try.runUnderlying24 (d + 1) _ w) ?_
  refine eqF_step (by decide) (part_s Try.isAgg24 rfl w) (eq_i64 Try.runUnderlying24 (d + 1) _ w) ?_
  refine eqF_step (by decide) (part_s Try.isAgg3 rfl w) (eq_i64 Try.runUnderlying3 (d + 1) _ w) ?_
  refine eqF_step (by decide) (part_s Try.isAgg24 rfl w) (eq_i64 Try.runUnderlying24 (d + 1) _ w) ?_
  refine eqF_step (by decide) (part_s Try.isAgg3 rfl w) (eq_i64 Try.runUnderlying3 (d + 1) _ w) ?_
  refine eqF_step (by decide) (part_s Try.isAgg3 rfl w) (eq_i64 Try.runUnderlying3 (d + 1) _ w) ?_
  refine eqF_step (by decide) (part_s Try.isAgg3 rfl w) (eq_i64 Try.runUnderlying3 (d + 1) _ w) ?_
  rfl
theorem sr_key {s : Sr} (h : s.rt.length = 32) : (s.cells.drop 2).take 32 = bytes s.rt := by
  show (bytes s.rt ++ s.tl).take 32 = bytes s.rt
  rw [List.take_append_of_le_length (by simp [h]), List.take_of_length_le (by simp [h])]
theorem sr_watch {s : Sr} (h : s.rt.length = 32) : (s.cells.drop 38).take 10 = s.wt.cells := by
  show ((bytes s.rt ++ s.tl).drop 36).take 10 = s.wt.cells
  have e : bytes s.rt ++ s.tl = (bytes s.rt ++ [.int .i64 s.w, .int .i64 s.g, .int .i64 s.st, .int .i64 s.hz]) ++ s.wt.cells := by simp [Sr.tl]
  rw [e, List.drop_left' (by simp [h])]
  rfl
theorem eq_src (d : Nat) (s : Sr) (h : s.rt.length = 32) (w : World) : (Op.equalIn (d + 4) 46 (.agg s.cells.toArray) (.agg s.cells.toArray)).run Try.prog w = .ok true w := by
  rw [run_equalIn_struct (P := Try.prog) w (d + 3) 46 _ _ (by kernel_rfl) (by kernel_rfl)]
  simp only [Program.fieldsOf, Try.underlying46]
  have ht : ∀ j, s.cells[34 + j]? = s.tl[j]? := fun j => by have := sr_t h j; rwa [show 0 + 34 + j = 34 + j by omega] at this
  refine eqF_step (by decide) (part_s Try.isAgg3 rfl w) (eq_i64 Try.runUnderlying3 (d + 2) _ w) ?_
  refine eqF_step (by decide) (part_s Try.isAgg3 rfl w) (eq_i64 Try.runUnderlying3 (d + 2) _ w) ?_
  refine eqF_step (by decide) (part_a Try.isAgg30 Try.sizeOf30 (sr_key h) w) (eq_key (d + 1) _ h w) ?_
  refine eqF_step (by decide) (part_s Try.isAgg3 (ht 0) w) (eq_i64 Try.runUnderlying3 (d + 2) _ w) ?_
  refine eqF_step (by decide) (part_s Try.isAgg3 (ht 1) w) (eq_i64 Try.runUnderlying3 (d + 2) _ w) ?_
  refine eqF_step (by decide) (part_s Try.isAgg24 (ht 2) w) (eq_i64 Try.runUnderlying24 (d + 2) _ w) ?_
  refine eqF_step (by decide) (part_s Try.isAgg3 (ht 3) w) (eq_i64 Try.runUnderlying3 (d + 2) _ w) ?_
  refine eqF_step (by decide) (part_a Try.isAgg44 Try.sizeOf44 (sr_watch h) w) (eq_watch d _ w) ?_
  rfl
theorem eqs_src (s : Sr) (h : s.rt.length = 32) (x y : Operand) (w : World) : (do eqGuard .eql 46 x y (.agg s.cells.toArray) (.agg s.cells.toArray); binOp .eql 46 (.agg s.cells.toArray) (.agg s.cells.toArray) : Sem Value).run Try.prog w = .ok (.bool true) w := by
  simp [run_eqGuard_agg, run_eql_struct, eq_src 9996 s h w]
theorem neqs_src (s : Sr) (h : s.rt.length = 32) (x y : Operand) (w : World) : (do eqGuard .neq 46 x y (.agg s.cells.toArray) (.agg s.cells.toArray); binOp .neq 46 (.agg s.cells.toArray) (.agg s.cells.toArray) : Sem Value).run Try.prog w = .ok (.bool false) w := by
  simp [run_eqGuard_agg, run_neq_struct, eq_src 9996 s h w]
end Go.Proofs.Ytbdnebedmdoehaa
