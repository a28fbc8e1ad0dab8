/-
  PK, part U: a slice grown ahead of what is to come.
-/
import Derived.Test.YtkkfdoippibfkaaPkR
namespace Go.PK
theorem zeroCells_reps {zs : List Value} {n sz : Nat} (hsz : zs.length = sz) (hpos : 0 < sz) : Builtin.zeroCells zs.toArray n = (reps zs n).toArray := by
  subst hsz
  rw [← zeros_reps rfl hpos]
  simp [Builtin.zeroCells]
theorem reps_length (zs : List Value) : ∀ n, (reps zs n).length = n * zs.length
  | 0 => by simp [reps]
  | n + 1 => by rw [reps, List.length_append, reps_length zs n, Nat.add_mul, Nat.one_mul, Nat.add_comm]
theorem reps_add (zs : List Value) (m : Nat) : ∀ n, reps zs (n + m) = reps zs n ++ reps zs m
  | 0 => by simp [reps]
  | n + 1 => by rw [show n + 1 + m = n + m + 1 by omega, reps, reps, reps_add zs m n, List.append_assoc]
/-- 'append([]T(nil), make([]T, n)...)', of any elements. -/
theorem run_appendMk0 {P : Program} {t e ti ty : TypeId} {sz bytes : Nat} (T : ElemT P t e sz bytes) {zs : List Value} (hz0 : ∀ ii z, P.info? e = some ii → ii.zero = some z → z.cells = zs.toArray) (hsz' : zs.length = sz) (hti : ∀ w, (underlying ti).run P w = .ok (.int .i64) w) {mm : Nat} {w : World}
    (hm0 : 0 < mm) (hm : mm ≤ maxLen) (hby : mm * bytes ≤ 140737488355328) :
    ∃ b cap' w', (Builtin.append_ #[t, ti] ty #[.slice none 0 0, .int .i64 (mm : Int)]).run P w = .ok (.slice (some ⟨b, 0, none⟩) mm cap') w' ∧ (own (some b) cap' e sz 0 []).A w' ∧ Keeps [] w w' ∧ w.heap.size ≤ b := by
  obtain ⟨ii, z', hi, hz, hsz, hb, hzs⟩ := T.inf
  have hzc := hz0 ii z' hi hz
  have hpos := T.pos
  have h63 : ((mm : Nat) : Int) ≤ 9223372036854775807 := by simp only [maxLen] at hm; omega
  have hwr : IntKind.i64.wrap (mm : Int) = (mm : Int) := IntWalk.i64_in _ (by omega)
  have hneg : ¬ ((mm : Int) < 0) := by omega
  subst hb
  have h48a : ¬ ((281474976710656 : Int) < (mm : Int) * (ii.bytes : Int)) := by
    have : ((mm * ii.bytes : Nat) : Int) = (mm : Int) * (ii.bytes : Int) := by simp
    omega
  have h48' : ¬ (281474976710656 < Builtin.nextslicecap mm 0 * ii.bytes) := by rw [nextslicecap_zero (by omega)]; omega
  have hge := grownCap_ge w mm 0 e
  have hcm : grownCap w mm 0 e ≤ maxLen := grownCap_le_maxLen w mm 0 e hm
  have hne : mm * ii.size ≠ 0 := by rw [hsz]; exact Nat.ne_of_gt (Nat.mul_pos hm0 hpos)
  refine ⟨w.heap.size, grownCap w mm 0 e, w.drew.alloc (.cells ((reps zs mm).toArray ++ (reps zs (grownCap w mm 0 e - mm)).toArray) e), ?_, ?_, (Keeps.drew _ w _ (Nat.le_succ _)).trans (Keeps.alloc _ w.drew _), Nat.le_refl _⟩
  · have hmm : ¬ mm = 0 := by omega
    simp [Builtin.append_, run_underlying T.ut, sizeOf, typeInfo, hi, hti, asInt, asIntOf, hwr, hneg, h48a, hmm, hne, show ¬ ((9223372036854775807 : Int) < (mm : Int)) by omega, h48', Question.forced, run_firstCells_none, zeroValue, hz, hzc, zeroCells_reps hsz' hpos, newRow, grownCap]
  · refine ⟨by simp, Nat.zero_le _, hcm, reps zs (grownCap w mm 0 e), ⟨(0, 0), ?_, .inl rfl⟩, by rw [List.nil_append, reps_length, hsz']⟩
    have := heap_alloc_same w.drew (.cells ((reps zs mm).toArray ++ (reps zs (grownCap w mm 0 e - mm)).toArray) e)
    rw [show w.drew.heap.size = w.heap.size from rfl] at this
    rw [this, List.nil_append, show grownCap w mm 0 e = mm + (grownCap w mm 0 e - mm) by omega, reps_add]
    simp
section
variable {P : Program} {L : List Oper} {ef bk : List Nat} {tq : Tq} {Q : Exit → Act → World → Prop} {N : Nat} {E : Env} {w0 : World} {S : List Nat} {I H : List It} {i : Nat} {l : Sq}
variable {d : Nat} {x y z : Operand} {ty t yt : TypeId} {pos : String} {af : Array Edge} {g : Option (Nat × Bool)} {k : IntKind} {m n o : Int}
theorem RL.appendMk0 {e ti : TypeId} {sz bytes mm : Nat} {zs : List Value} (T : ElemT P t e sz bytes) (hz0 : ∀ ii z, P.info? e = some ii → ii.zero = some z → z.cells = zs.toArray) (hsz' : zs.length = sz) (hti : ∀ w, (underlying ti).run P w = .ok (.int .i64) w)
    (ho : nth L i = some ⟨some d, .call ⟨.builtin .append, #[x, y], #[t, ti]⟩, ty, pos, af, g⟩) (hw : wants L E ⟨some d, .call ⟨.builtin .append, #[x, y], #[t, ti]⟩, ty, pos, af, g⟩ = true) (hN : Nat.blt d N = true) (hi : ef.contains i = true)
    (hx : E.ev x = some (.slice none 0 0)) (hy : E.ev y = some (.int .i64 (mm : Int))) (hm0 : 0 < mm) (hm : mm ≤ maxLen) (hby : mm * bytes ≤ 140737488355328)
    (h : ∀ b cap', RL P L ef bk tq Q l N ((d, .slice (some ⟨b, 0, none⟩) mm cap') :: E) w0 S I (PK.own (some b) cap' e sz 0 [] :: H)) : RL P L ef bk tq Q (.cons i l) N E w0 S I H := by
  refine RL.eff ho hw hi rfl hN (fun a w ha hC => ?_)
  obtain ⟨b, cap', w', r1, r2, r3, r4⟩ := run_appendMk0 (ty := ty) (w := w) T hz0 hsz' hti hm0 hm hby
  unfold does
  rw [exec_append (ha.ev hx) (ha.ev hy) r1]
  exact ⟨I, _, hC.more r3 r2 (by simp [PK.own]) (by simpa [PK.own] using r4), fun _ h => h, fun _ _ h => h.less, h b cap'⟩
theorem exec_capS {ρ : Operand → Value} {dst : Option Tmp} {e : TypeId} {p : Option Addr} {len cap : Nat} (hu : ∀ w, (underlying t).run P w = .ok (.slice e) w) (hx : ρ x = .slice p len cap) (w : World) :
    (execOp ρ ⟨dst, .call ⟨.builtin .cap, #[x], #[t]⟩, ty, pos, af, g⟩).run P w = .ok (.value (.int .i64 cap)) w := by
  simp only [BigFrame.execOp_builtin, BigFrame.builtin_cap, List.map_toArray, List.map_cons, List.map_nil, hx]
  simp [Builtin.cap_, goInt, hu]
theorem RL.capS {e : TypeId} {p : Option Addr} {len cap : Nat} (hu : ∀ w, (underlying t).run P w = .ok (.slice e) w) (ho : nth L i = some ⟨some d, .call ⟨.builtin .cap, #[x], #[t]⟩, ty, pos, af, g⟩) (hw : wants L E ⟨some d, .call ⟨.builtin .cap, #[x], #[t]⟩, ty, pos, af, g⟩ = true) (hN : Nat.blt d N = true)
    (hx : E.ev x = some (.slice p len cap)) (h : RL P L ef bk tq Q l N ((d, .int .i64 cap) :: E) w0 S I H) : RL P L ef bk tq Q (.cons i l) N E w0 S I H :=
  RL.pval ho hw rfl hN (fun _ w ha => exec_capS hu (ha.ev hx) w) h
end
end Go.PK
