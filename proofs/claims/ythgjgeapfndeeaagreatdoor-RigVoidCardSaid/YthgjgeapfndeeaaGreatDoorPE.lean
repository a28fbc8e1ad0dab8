import Derived.Test.YthgjgeapfndeeaaGreatDoorPD
import Derived.DeepKeys3
import Derived.ScopeJumps
set_option linter.unusedVariables false
set_option linter.unusedSimpArgs false
/-
  PK, part Q: the entry that a range over a map is at.
-/
namespace Go.PK

section
variable {P : Program} {L : List Oper} {ef bk : List Nat} {tq : Tq} {Q : Exit → Act → World → Prop} {N : Fm} {E : Env} {w0 : World} {S : List Nat} {I H : List It} {i : Nat} {l : Sq}
variable {d : Nat} {x y z : Operand} {ty t yt : TypeId} {pos : String} {af : Array Edge} {g : Option (Nat × Bool)} {v : Value} {k k' : IntKind} {m n : Int}

/-- A map, one that goes over it, and the entry that it is at. -/
def mapCt (r it : Nat) (good : Value → Prop) (c left : List (Value × Value)) (p : Value × Value) : It where
  bs := [r, it]
  A w := ∃ es clock since seen, w.heap[r]? = some (.map es clock) ∧ w.heap[it]? = some (.mapIter (some r) since seen clock) ∧ kvs es.toList = c ∧ (c.map (·.1)).Nodup ∧ (∀ p ∈ c, good p.1) ∧ (es.toList.map (·.born)).Nodup ∧ (∀ e ∈ es.toList, e.born < clock) ∧
    since = clock ∧ left = kvs (es.toList.filter fun e => !seen.contains e.born) ∧ ∃ e, e ∈ es.toList ∧ seen.back? = some e.born ∧ (e.key, e.val) = p
  fr w w' h hA := by
    obtain ⟨es, clock, since, seen, h1, h2, rest⟩ := hA
    exact ⟨es, clock, since, seen, by rw [h r (by simp)]; exact h1, by rw [h it (by simp)]; exact h2, rest⟩
  lt w hA b hb := by
    obtain ⟨es, clock, since, seen, h1, h2, rest⟩ := hA
    simp at hb
    rcases hb with rfl | rfl
    · exact (Array.getElem?_eq_some_iff.1 h1).1
    · exact (Array.getElem?_eq_some_iff.1 h2).1

theorem find_born {e : MapEntry} : ∀ {es : List MapEntry}, e ∈ es → (es.map (·.born)).Nodup → es.find? (·.born == e.born) = some e
  | a :: es, he, hn => by
    rw [List.map_cons, List.nodup_cons] at hn
    rcases List.mem_cons.1 he with rfl | he
    · simp
    · have hne : a.born ≠ e.born := fun h => hn.1 (h ▸ List.mem_map.2 ⟨e, he, rfl⟩)
      rw [List.find?_cons_of_neg (by simpa using hne)]
      exact find_born he hn.2

/-- The entry that it is at. -/
theorem RL.entry {good : Value → Prop} {r it : Nat} {c left : List (Value × Value)} {p : Value × Value}
    (ho : nth L i = some ⟨some d, .entry x, ty, pos, af, g⟩) (hw : wants L E ⟨some d, .entry x, ty, pos, af, g⟩ = true) (hN : Nat.blt d N.n = true)
    (hx : E.ev x = some (.pointer (some ⟨it, 0, none⟩))) (hm : mapCt r it good c left p ∈ H)
    (h : RL P L ef bk tq Q l N ((d, .tuple #[p.1, p.2]) :: E) w0 S I H) (ht : tq.l.contains i = false := by rfl) : RL P L ef bk tq Q (.cons i l) N E w0 S I H :=
  RL.val ho hw rfl hN (fun a w ha hC => by
    obtain ⟨es, clock, since, seen, g1, g2, g3, g4, g5, g6, g7, g8, g9, e, he, hb, rfl⟩ := hC.s.h _ hm
    have hgi : (getObj it).run P w = .ok (.mapIter (some r) since seen clock) w := by simp [getObj, Sem.run, g2]
    have hgo : (getObj r).run P w = .ok (.map es clock) w := by simp [getObj, Sem.run, g1]
    have hf : es.find? (·.born == e.born) = some e := by rw [← Array.find?_toList]; exact find_born he g6
    simp [execOp, ha.ev hx, Instr.entry, hgi, hgo, hb, hf]) h rfl ht
theorem Cls.uncur {r it : Nat} {good : Value → Prop} {c left : List (Value × Value)} {p : Value × Value} {B : List It} {w : World} (h : Cls w0 S I (mapCt r it good c left p :: B) w) : Cls w0 S I (mapIt r it good c left :: B) w := by
  refine ⟨h.k, ⟨h.s.i, fun y hy => ?_, h.s.nd, h.s.dj⟩, h.own⟩
  rcases List.mem_cons.1 hy with rfl | hy
  · obtain ⟨es, clock, since, seen, g1, g2, g3, g4, g5, g6, g7, g8, g9, _⟩ := h.s.h _ (List.Mem.head _)
    exact ⟨es, clock, since, seen, g1, g2, g3, g4, g5, g6, g7, g8, g9⟩
  · exact h.s.h y (by simp [hy])
theorem CW.unrange {r it : Nat} {good : Value → Prop} {c left : List (Value × Value)} {B : List It} {cc : Code} (h : CW P cc Q N E w0 S I (mapI r good c :: B)) : CW P cc Q N E w0 S I (mapIt r it good c left :: B) := fun a w ha hw => h a w ha hw.unrange

theorem RL.nextC {good : Value → Prop} {r it : Nat} {c left : List (Value × Value)} {B : List It}
    (ho : nth L i = some ⟨some d, .next x false, ty, pos, af, g⟩) (hw : wants L E ⟨some d, .next x false, ty, pos, af, g⟩ = true) (hN : Nat.blt d N.n = true) (hi : ef.contains i = true) (hb : bk.contains i = true)
    (hx : E.ev x = some (.pointer (some ⟨it, 0, none⟩))) (hp : Pick H [mapIt r it good c left] B)
    (h0 : left = [] → RL P L ef bk tq Q l N ((d, .tuple #[.bool false]) :: E) w0 S I (mapIt r it good c left :: B))
    (h1 : ∀ j p, left[j]? = some p → RL P L ef bk tq Q l N ((d, .tuple #[.bool true, p.1, p.2]) :: E) w0 S I (mapCt r it good c (left.eraseIdx j) p :: B)) : RL P L ef bk tq Q (.cons i l) N E w0 S I H := by
  refine RL.eff ho hw hi rfl hN (fun a w ha hC => ?_)
  have hmA : (mapIt r it good c left).A w := hC.s.h _ (hp.memA _ (by simp))
  have hbsn : [r, it].Nodup := by
    have := (hp.perm.nodup_iff.1 hC.s.nd)
    rw [List.nodup_append] at this
    simpa [mapIt] using this.1
  obtain ⟨es, clock, since, seen, g1, g2, g3, g4, g5, g6, g7, rfl, g8⟩ := hmA
  have hgi : (getObj it).run P w = .ok (.mapIter (some r) since seen since) w := by simp [getObj, Sem.run, g2]
  have hgo : ∀ w', w'.heap = w.heap → (getObj r).run P w' = .ok (.map es since) w' := fun w' hh => by simp [getObj, Sem.run, hh, g1]
  have hall : (!seen.isEmpty && !es.isEmpty && es.all (fun e => decide (e.born ≥ since))) = false := by
    by_cases he : es.isEmpty = true
    · simp [he]
    · have hz : 0 < es.size := by
        rcases Nat.eq_zero_or_pos es.size with h | h
        · simp [Array.isEmpty, h] at he
        · exact h
      have h7 := g7 es[0] (by simp)
      have : es.all (fun e => decide (e.born ≥ since)) = false := by
        rw [Array.all_eq_false]
        exact ⟨0, hz, by simp; omega⟩
      simp [this]
  have hleft : (es.filter fun e => !seen.contains e.born).filter (fun e => decide (e.born < since)) = es.filter fun e => !seen.contains e.born := by
    apply Array.toList_inj.1
    rw [Array.toList_filter]
    apply List.filter_eq_self.2
    intro e he
    rw [Array.toList_filter] at he
    simpa using g7 e (List.mem_filter.1 he).1
  have hnew : (es.filter fun e => !seen.contains e.born).filter (fun e => decide (e.born ≥ since)) = #[] := by
    apply Array.toList_inj.1
    rw [Array.toList_filter]
    apply List.filter_eq_nil_iff.2
    intro e he
    rw [Array.toList_filter] at he
    have := g7 e (List.mem_filter.1 he).1
    simp; omega
  have hlist : (es.filter fun e => !seen.contains e.born).toList = es.toList.filter fun e => !seen.contains e.born := Array.toList_filter
  generalize hlf : (es.filter fun e => !seen.contains e.born) = lf at *
  have hkl : left = kvs lf.toList := by rw [g8, hlist]
  have common : ∀ (x' : It) (w' : World), x'.bs = [r, it] → x'.A w' → Keeps [r, it] w w' → Cls w0 S I (x' :: B) w' := by
    intro x' w' hb' hA hk
    have hs : Sat [] [x'] w' := ⟨by simp, by simpa using hA, by simpa [hb'] using hbsn, by simp⟩
    exact hC.call (C := []) (I' := []) (H' := [x']) hp .nil (by simpa [mapIt] using hk) hs (by simp [mapIt, hb']) (by simp)
  by_cases hemp : lf.isEmpty = true
  · have hl0 : left = [] := by rw [hkl]; simp [Array.isEmpty] at hemp; simp [kvs, hemp]
    obtain ⟨j, dr, hj, hdr, hch⟩ := run_choose (P := P) 1 (by omega) w
    have hj0 : j = 0 := by omega
    subst hj0
    have key : (execOp a.eval ⟨some d, .next x false, ty, pos, af, g⟩).run P w = .ok (.value (.tuple #[.bool false])) { w with drawn := dr } := by
      have hlf0 : lf = #[] := by simpa using hemp
      subst hlf0
      simp only [execOp, ha.ev hx, Instr.next, Sem.run_bind, hgi, Result.andThen_ok, hgo w rfl, hall, Bool.false_eq_true, if_false, hlf, hleft, hnew]
      rw [show (if (#[] : Array MapEntry).isEmpty = true then #[none] else (#[] : Array (Option MapEntry))) ++ Array.map some (#[] ++ #[]) = #[none] by simp, show (#[none] : Array (Option MapEntry)).size = 1 from rfl, hch]
      rfl
    unfold does
    rw [key]
    refine ⟨I, _, common (mapIt r it good c left) _ rfl ?_ (Keeps.drew _ _ _ hdr), fun _ h => h, fun hbk => (by rw [hb] at hbk; cases hbk), h0 hl0⟩
    exact ⟨es, since, since, seen, g1, g2, g3, g4, g5, g6, g7, rfl, g8⟩
  · have hpos : 0 < lf.size := by
      rcases Nat.eq_zero_or_pos lf.size with h | h
      · simp [Array.isEmpty, h] at hemp
      · exact h
    obtain ⟨j, dr, hj, hdr, hch⟩ := run_choose (P := P) lf.size hpos w
    have hej : lf[j]? = some lf[j] := by simp [hj]
    have key : (execOp a.eval ⟨some d, .next x false, ty, pos, af, g⟩).run P w = .ok (.value (.tuple #[.bool true, lf[j].key, lf[j].val]))
        { w with drawn := dr, heap := w.heap.setIfInBounds it (.mapIter (some r) since (seen.push lf[j].born) since) } := by
      simp only [execOp, ha.ev hx, Instr.next, Sem.run_bind, hgi, Result.andThen_ok, hgo w rfl, hall, Bool.false_eq_true, if_false, hlf, hleft, hnew, hemp]
      have hca : (#[] : Array (Option MapEntry)) ++ Array.map some (lf ++ #[]) = lf.map some := by simp
      rw [hca, show (lf.map some).size = lf.size by simp, hch]
      have hso : (setObj it (.mapIter (some r) since (seen.push lf[j].born) since)).run P { w with drawn := dr } = .ok () { w with drawn := dr, heap := w.heap.setIfInBounds it (.mapIter (some r) since (seen.push lf[j].born) since) } :=
        setObj_run (w := { w with drawn := dr }) g2 (by simp)
      simp [hj, hso]
    unfold does
    rw [key]
    have hpj : left[j]? = some (lf[j].key, lf[j].val) := by rw [hkl]; simp [kvs, hj]
    refine ⟨I, _, common (mapCt r it good c (left.eraseIdx j) (lf[j].key, lf[j].val)) _ rfl ?_ ?_, fun _ h => h, fun hbk => (by rw [hb] at hbk; cases hbk), h1 j _ hpj⟩
    · have hne : it ≠ r := by
        intro e; subst e; simp at hbsn
      refine ⟨es, since, since, seen.push lf[j].born, ?_, ?_, g3, g4, g5, g6, g7, rfl, ?_, lf[j], ?_, by simp, rfl⟩
      · show (w.heap.setIfInBounds it _)[r]? = _
        rw [Array.getElem?_setIfInBounds_ne hne]; exact g1
      · have hlt := (Array.getElem?_eq_some_iff.1 g2).1
        simp [hlt]
      · rw [filter_seen (j := j) g6 (by rw [← hlist]; simp [hj]), ← hlist, hkl]
        simp only [kvs]
        exact eraseIdx_map _ _ _
      · have : lf[j] ∈ (es.filter fun e => !seen.contains e.born).toList := by rw [hlf]; simp
        rw [Array.toList_filter] at this
        exact (List.mem_filter.1 this).1
    · refine ⟨rfl, rfl, rfl, by simp, fun b _ hn => ?_, by first | exact hdr | exact Nat.le_refl 0⟩
      have : it ≠ b := fun e => hn (by simp [e])
      show (w.heap.setIfInBounds it _)[b]? = _
      rw [Array.getElem?_setIfInBounds_ne this]


/-! ### Things that are put together -/

/-- Things as one thing. -/
def allI (l : List It) : It where
  bs := bss l
  A w := ∀ x ∈ l, x.A w
  fr w w' h hA x hx := x.fr w w' (fun b hb => h b (mem_bss.2 ⟨x, hx, hb⟩)) (hA x hx)
  lt w hA b hb := by
    obtain ⟨x, hx, hb⟩ := mem_bss.1 hb
    exact x.lt w (hA x hx) b hb
theorem bss_perm {a b : List It} (h : a.Perm b) : (bss a).Perm (bss b) := h.flatMap_right _
theorem Cls.perm {H' : List It} {w : World} (hp : H.Perm H') (h : Cls w0 S I H w) : Cls w0 S I H' w := by
  have hb := bss_perm hp
  exact ⟨h.k, ⟨h.s.i, fun y hy => h.s.h y (hp.mem_iff.2 hy), hb.nodup_iff.1 h.s.nd, fun b hi hh => h.s.dj b hi (hb.mem_iff.2 hh)⟩, fun b hh => h.own b (hb.mem_iff.2 hh)⟩
end
end Go.PK

/-
  PK, part R: a map that is nil, gone over; sorting.
-/
namespace Go.PK
section
variable {P : Program} {L : List Oper} {ef bk : List Nat} {tq : Tq} {Q : Exit → Act → World → Prop} {N : Fm} {E : Env} {w0 : World} {S : List Nat} {I H : List It} {i : Nat} {l : Sq}
variable {d : Nat} {x y z : Operand} {v : Value} {ty t yt : TypeId} {pos : String} {af : Array Edge} {g : Option (Nat × Bool)}
end
end Go.PK

/-
  PK, part U: a slice grown ahead of what is to come.
-/
namespace Go.PK
theorem zeroCells_reps {zs : List Value} {n sz : Nat} (hsz : zs.length = sz) (hpos : 0 < sz) : Builtin.zeroCells zs.toArray n = (reps zs n).toArray := by
  subst hsz
  rw [← zeros_reps rfl hpos]
  simp [Builtin.zeroCells]
theorem reps_length (zs : List Value) : ∀ n, (reps zs n).length = n * zs.length
  | 0 => by simp [reps]
  | n + 1 => by rw [reps, List.length_append, reps_length zs n, Nat.add_mul, Nat.one_mul, Nat.add_comm]
theorem reps_add (zs : List Value) (m : Nat) : ∀ n, reps zs (n + m) = reps zs n ++ reps zs m
  | 0 => by simp [reps]
  | n + 1 => by rw [show n + 1 + m = n + m + 1 by omega, reps, reps, reps_add zs m n, List.append_assoc]
/-- 'append([]T(nil), make([]T, n)...)', of any elements. -/
theorem run_appendMk0 {P : Program} {t e ti ty : TypeId} {sz bytes : Nat} (T : ElemT P t e sz bytes) {zs : List Value} (hz0 : ∀ ii z, P.info? e = some ii → ii.zero = some z → z.cells = zs.toArray) (hsz' : zs.length = sz) (hti : ∀ w, (underlying ti).run P w = .ok (.int .i64) w) {mm : Nat} {w : World}
    (hm0 : 0 < mm) (hm : mm ≤ maxLen) (hby : mm * bytes ≤ 140737488355328) :
    ∃ b cap' w', (Builtin.append_ #[t, ti] ty #[.slice none 0 0, .int .i64 (mm : Int)]).run P w = .ok (.slice (some ⟨b, 0, none⟩) mm cap') w' ∧ (own (some b) cap' e sz 0 []).A w' ∧ Keeps [] w w' ∧ w.heap.size ≤ b := by
  obtain ⟨ii, z', hi, hz, hsz, hb, hzs⟩ := T.inf
  have hzc := hz0 ii z' hi hz
  have hpos := T.pos
  have h63 : ((mm : Nat) : Int) ≤ 9223372036854775807 := by simp only [maxLen] at hm; omega
  have hwr : IntKind.i64.wrap (mm : Int) = (mm : Int) := IntWalk.i64_in _ (by omega)
  have hneg : ¬ ((mm : Int) < 0) := by omega
  subst hb
  have h48a : ¬ ((281474976710656 : Int) < (mm : Int) * (ii.bytes : Int)) := by
    have : ((mm * ii.bytes : Nat) : Int) = (mm : Int) * (ii.bytes : Int) := by simp
    omega
  have h48' : ¬ (281474976710656 < Builtin.nextslicecap mm 0 * ii.bytes) := by rw [nextslicecap_zero (by omega)]; omega
  have hge := grownCap_ge w mm 0 e
  have hcm : grownCap w mm 0 e ≤ maxLen := grownCap_le_maxLen w mm 0 e hm
  have hne : mm * ii.size ≠ 0 := by rw [hsz]; exact Nat.ne_of_gt (Nat.mul_pos hm0 hpos)
  refine ⟨w.heap.size, grownCap w mm 0 e, w.drew.alloc (.cells ((reps zs mm).toArray ++ (reps zs (grownCap w mm 0 e - mm)).toArray) e), ?_, ?_, (Keeps.drew _ w _ (Nat.le_succ _)).trans (Keeps.alloc _ w.drew _), Nat.le_refl _⟩
  · have hmm : ¬ mm = 0 := by omega
    simp [Builtin.append_, run_underlying T.ut, sizeOf, typeInfo, hi, hti, asInt, asIntOf, hwr, hneg, h48a, hmm, hne, show ¬ ((9223372036854775807 : Int) < (mm : Int)) by omega, h48', Question.forced, run_firstCells_none, zeroValue, hz, hzc, zeroCells_reps hsz' hpos, newRow, grownCap]
  · refine ⟨by simp, Nat.zero_le _, hcm, reps zs (grownCap w mm 0 e), ⟨(0, 0), ?_, .inl rfl⟩, by rw [List.nil_append, reps_length, hsz']⟩
    have := heap_alloc_same w.drew (.cells ((reps zs mm).toArray ++ (reps zs (grownCap w mm 0 e - mm)).toArray) e)
    rw [show w.drew.heap.size = w.heap.size from rfl] at this
    rw [this, List.nil_append, show grownCap w mm 0 e = mm + (grownCap w mm 0 e - mm) by omega, reps_add]
    simp
section
variable {P : Program} {L : List Oper} {ef bk : List Nat} {tq : Tq} {Q : Exit → Act → World → Prop} {N : Fm} {E : Env} {w0 : World} {S : List Nat} {I H : List It} {i : Nat} {l : Sq}
variable {d : Nat} {x y z : Operand} {ty t yt : TypeId} {pos : String} {af : Array Edge} {g : Option (Nat × Bool)} {k : IntKind} {m n o : Int}
theorem RL.appendMk0 {e ti : TypeId} {sz bytes mm : Nat} {zs : List Value} (T : ElemT P t e sz bytes) (hz0 : ∀ ii z, P.info? e = some ii → ii.zero = some z → z.cells = zs.toArray) (hsz' : zs.length = sz) (hti : ∀ w, (underlying ti).run P w = .ok (.int .i64) w)
    (ho : nth L i = some ⟨some d, .call ⟨.builtin .append, #[x, y], #[t, ti]⟩, ty, pos, af, g⟩) (hw : wants L E ⟨some d, .call ⟨.builtin .append, #[x, y], #[t, ti]⟩, ty, pos, af, g⟩ = true) (hN : Nat.blt d N.n = true) (hi : ef.contains i = true)
    (hx : E.ev x = some (.slice none 0 0)) (hy : E.ev y = some (.int .i64 (mm : Int))) (hm0 : 0 < mm) (hm : mm ≤ maxLen) (hby : mm * bytes ≤ 140737488355328)
    (h : ∀ b cap', RL P L ef bk tq Q l N ((d, .slice (some ⟨b, 0, none⟩) mm cap') :: E) w0 S I (PK.own (some b) cap' e sz 0 [] :: H)) : RL P L ef bk tq Q (.cons i l) N E w0 S I H := by
  refine RL.eff ho hw hi rfl hN (fun a w ha hC => ?_)
  obtain ⟨b, cap', w', r1, r2, r3, r4⟩ := run_appendMk0 (ty := ty) (w := w) T hz0 hsz' hti hm0 hm hby
  unfold does
  rw [exec_append (ha.ev hx) (ha.ev hy) r1]
  exact ⟨I, _, hC.more r3 r2 (by simp [PK.own]) (by simpa [PK.own] using r4), fun _ h => h, fun _ _ h => h.less, h b cap'⟩
theorem exec_capS {ρ : Operand → Value} {dst : Option Tmp} {e : TypeId} {p : Option Addr} {len cap : Nat} (hu : ∀ w, (underlying t).run P w = .ok (.slice e) w) (hx : ρ x = .slice p len cap) (w : World) :
    (execOp ρ ⟨dst, .call ⟨.builtin .cap, #[x], #[t]⟩, ty, pos, af, g⟩).run P w = .ok (.value (.int .i64 cap)) w := by
  simp only [BigFrame.execOp_builtin, BigFrame.builtin_cap, List.map_toArray, List.map_cons, List.map_nil, hx]
  simp [Builtin.cap_, goInt, hu]
theorem RL.capS {e : TypeId} {p : Option Addr} {len cap : Nat} (hu : ∀ w, (underlying t).run P w = .ok (.slice e) w) (ho : nth L i = some ⟨some d, .call ⟨.builtin .cap, #[x], #[t]⟩, ty, pos, af, g⟩) (hw : wants L E ⟨some d, .call ⟨.builtin .cap, #[x], #[t]⟩, ty, pos, af, g⟩ = true) (hN : Nat.blt d N.n = true)
    (hx : E.ev x = some (.slice p len cap)) (h : RL P L ef bk tq Q l N ((d, .int .i64 cap) :: E) w0 S I H) : RL P L ef bk tq Q (.cons i l) N E w0 S I H :=
  RL.pval ho hw rfl hN (fun _ w ha => exec_capS hu (ha.ev hx) w) h
end
end Go.PK

/-
  PK, part V: what holds between two statements, of things that are not known ahead.
-/
namespace Go.PK
section
variable {P : Program} {Q : Exit → Act → World → Prop} {N : Fm} {E : Env} {w0 : World} {S : List Nat} {I H : List It}
def MidG {γ : Type} (N : Fm) (p : γ → Prop) (E : γ → Env) (w0 : World) (S : List Nat) (I H : γ → List It) : Exit → Act → World → Prop := fun e a w => e = .normal ∧ ∃ g, p g ∧ Ag N a (E g) ∧ Cls w0 S (I g) (H g) w
theorem CW.cutG {γ : Type} {c y : Code} (p : γ → Prop) (E' : γ → Env) (I' H' : γ → List It) (h1 : CW P c (MidG N p E' w0 S I' H') N E w0 S I H) (h2 : ∀ g, p g → CW P y Q N (E' g) w0 S (I' g) (H' g)) : CW P c (Exit.then (fun a w => y.wpIn (FnR N.ro) 0 P Q a w) Q) N E w0 S I H := fun a w ha hw =>
  wpIn_mono (h1 a w ha hw) (fun e a' w' ⟨he, g, hp, ha', hw'⟩ => by subst he; exact h2 g hp a' w' ha' hw')
theorem NQ.midG {γ : Type} {p : γ → Prop} {E' : γ → Env} {I' H' : γ → List It} (g : γ) (hp : p g) (s : Sub E (E' g)) (hc : ∀ w, Cls w0 S I H w → Cls w0 S (I' g) (H' g) w) : NQ (MidG N p E' w0 S I' H') N E w0 S I H := fun _ _ ha hw => ⟨rfl, g, hp, ha.sub s, hc _ hw⟩
variable {L : List Oper} {ef bk : List Nat} {tq : Tq} {i : Nat} {l : Sq} {d : Nat} {x : Operand} {ty t : TypeId} {pos : String} {af : Array Edge} {g : Option (Nat × Bool)}
end
end Go.PK

/-
  PK: functions that hold what they captured.
-/
namespace Go.PK
section
variable {P : Program} {L : List Oper} {ef bk : List Nat} {tq : Tq} {Q : Exit → Act → World → Prop} {N : Fm} {E : Env} {w0 : World} {S : List Nat} {I H : List It} {i : Nat} {l : Sq}
variable {d : Nat} {y : Operand} {ty : TypeId} {pos : String} {af : Array Edge} {g : Option (Nat × Bool)}
theorem RL.makeFunc {fn : Fn} {xs ys : Array Operand} {vs cs : List Value} (ho : nth L i = some ⟨some d, .makeFunc fn xs ys, ty, pos, af, g⟩) (hw : wants L E ⟨some d, .makeFunc fn xs ys, ty, pos, af, g⟩ = true) (hN : Nat.blt d N.n = true)
    (hx : evs E xs.toList = some vs) (hy : evs E ys.toList = some cs) (h : RL P L ef bk tq Q l N ((d, .func fn vs.toArray cs.toArray) :: E) w0 S I H) : RL P L ef bk tq Q (.cons i l) N E w0 S I H :=
  RL.pval ho hw rfl hN (fun a w ha => by
    have h1 : xs.map a.eval = vs.toArray := by
      apply Array.toList_inj.1; simpa using ha.evs hx
    have h2 : ys.map a.eval = cs.toArray := by
      apply Array.toList_inj.1; simpa using ha.evs hy
    show Sem.run P (do pure (Next.value (← Instr.makeFunc fn (xs.map a.eval) (ys.map a.eval)))) w = _
    rw [h1, h2]
    simp [Instr.makeFunc]) h
end
end Go.PK

/-
  PK, part W: flat structs as keys of a map.
-/
namespace Go.PK
theorem fit_bits {k : EK} {v : Value} (h : k.fit v) (n : Nat) : Instr.sameBits n v v = true := by
  cases k <;> cases v <;> simp_all [EK.fit, Instr.sameBits]
  next s => cases s with
    | mk d => show (d == d) = true; simp
theorem fits_bits {n : Nat} : ∀ {ks : List EK} {cs : List Value}, Fits ks cs → (cs.zip cs).all (fun (x, y) => Instr.sameBits n x y) = true
  | [], [], _ => rfl
  | k :: ks, c :: cs, h => by
    rw [List.zip_cons_cons, List.all_cons, fits_bits h.2]
    simp [fit_bits h.1 n]
  | [], _ :: _, h => h.elim
  | _ :: _, [], h => h.elim
theorem keyT_flat {P : Program} {t : TypeId} {ks : List EK} {m : Nat} (hm : m ≤ 10000) (hk : P.keyTypeAt m t = true) (hs : shape P m t = some ks) (hw : (match P.underlying t with | some (.array _ _) | some (.struct _) => true | _ => false) = true) (hcs : P.cellsOf t = ks.length)
    (hu : ∃ D, (∀ w, (underlying t).run P w = .ok D w) ∧ ∀ a b : Array Value, Instr.sameNow D (.agg a) (.agg b) = none) : KeyT P t (fun v => ∃ cs, Fits ks cs ∧ v = .agg cs.toArray) where
  desc := by
    obtain ⟨D, h1, h2⟩ := hu
    refine ⟨D, h1, ?_⟩
    rintro _ _ ⟨c, hc, rfl⟩ ⟨d, hd, rfl⟩
    exact .inl (h2 _ _)
  eq := by
    rintro _ _ ⟨c, hc, rfl⟩ ⟨d, hd, rfl⟩ w
    exact run_equal_flat hm hk hs hw hcs hc hd (by rw [same_iff]; simp) w
  chk := by
    rintro _ ⟨c, hc, rfl⟩ e w
    have hf : (Value.agg c.toArray).formed P t = true := by
      have := hc.length
      simp only [Value.formed]
      split at hw <;> simp_all
    have := run_checkKey_deep (P := P) e (10000 - m) m t hk w m (.agg c.toArray) _ hf (by simpa [Value.cells] using keyLits_fits hs hc)
    rwa [show 10000 - m + m = 10000 by omega] at this
  bits := by
    rintro _ ⟨c, hc, rfl⟩
    rw [show (10000 : Nat) = 9999 + 1 from rfl, Instr.sameBits]
    simp only [beq_self_eq_true, Bool.true_and]
    exact fits_bits hc
end Go.PK

/-
  PK, part X: a scope with one label, and jumps to it.
-/
namespace Go.PK
section
variable {P : Program} {Q : Exit → Act → World → Prop} {K J : Act → World → Prop} {N : Fm} {id l : Nat} {E : Env} {w0 : World} {S : List Nat} {I H : List It}
def GQ (Q : Exit → Act → World → Prop) (l : Nat) (N : Fm) (E : Env) (w0 : World) (S : List Nat) (I H : List It) : Prop := ∀ a w, Ag N a E → Cls w0 S I H w → Q (.goto l) a w
theorem GQ.seq (h : GQ Q l N E w0 S I H) : GQ (Exit.then K Q) l N E w0 S I H := h
theorem GQ.block (h : GQ Q l N E w0 S I H) : GQ (Exit.inBlock id Q) l N E w0 S I H := h
def JQ {γ : Type} (N : Fm) (p : γ → Prop) (E : γ → Env) (w0 : World) (S : List Nat) (I H : γ → List It) : Act → World → Prop := fun a w => ∃ g, p g ∧ Ag N a (E g) ∧ Cls w0 S (I g) (H g) w
theorem GQ.at {γ : Type} {p : γ → Prop} {E' : γ → Env} {I' H' : γ → List It} (g : γ) (hp : p g) (s : Sub E (E' g)) (hc : ∀ w, Cls w0 S I H w → Cls w0 S (I' g) (H' g) w) : GQ (Exit.jump l (JQ N p E' w0 S I' H') Q) l N E w0 S I H := fun _ _ ha hw => ⟨rfl, g, hp, ha.sub s, hc _ hw⟩
end
end Go.PK

/-
  PK, part Y: what a call leaves to be read was made in it, and may be left to be read by one's own caller.
-/
namespace Go.PK
section
variable {P : Program} {L : List Oper} {ef bk : List Nat} {tq : Tq} {Q : Exit → Act → World → Prop} {N : Fm} {E : Env} {w0 : World} {S : List Nat} {I H : List It} {i : Nat} {l : Sq}
variable {d : Nat} {ty : TypeId} {pos : String} {af : Array Edge} {g : Option (Nat × Bool)} {v : Value}
end
end Go.PK
