/-
  PK, part Q: the entry that a range over a map is at.
-/
import Derived.Test.YtggmnhogmjglmaaPD
namespace Go.PK

section
variable {P : Program} {L : List Oper} {ef bk : List Nat} {tq : Tq} {Q : Exit → Act → World → Prop} {N : Nat} {E : Env} {w0 : World} {S : List Nat} {I H : List It} {i : Nat} {l : Sq}
variable {d : Nat} {x y z : Operand} {ty t yt : TypeId} {pos : String} {af : Array Edge} {g : Option (Nat × Bool)} {v : Value} {k k' : IntKind} {m n : Int}

/-- A map, one that goes over it, and the entry that it is at. -/
def mapCt (r it : Nat) (good : Value → Prop) (c left : List (Value × Value)) (p : Value × Value) : It where
  bs := [r, it]
  A w := ∃ es clock since seen, w.heap[r]? = some (.map es clock) ∧ w.heap[it]? = some (.mapIter (some r) since seen clock) ∧ kvs es.toList = c ∧ (c.map (·.1)).Nodup ∧ (∀ p ∈ c, good p.1) ∧ (es.toList.map (·.born)).Nodup ∧ (∀ e ∈ es.toList, e.born < clock) ∧
    since = clock ∧ left = kvs (es.toList.filter fun e => !seen.contains e.born) ∧ ∃ e, e ∈ es.toList ∧ seen.back? = some e.born ∧ (e.key, e.val) = p
  fr w w' h hA := by
    obtain ⟨es, clock, since, seen, h1, h2, rest⟩ := hA
    exact ⟨es, clock, since, seen, by rw [h r (by simp)]; exact h1, by rw [h it (by simp)]; exact h2, rest⟩
  lt w hA b hb := by
    obtain ⟨es, clock, since, seen, h1, h2, rest⟩ := hA
    simp at hb
    rcases hb with rfl | rfl
    · exact (Array.getElem?_eq_some_iff.1 h1).1
    · exact (Array.getElem?_eq_some_iff.1 h2).1

theorem find_born {e : MapEntry} : ∀ {es : List MapEntry}, e ∈ es → (es.map (·.born)).Nodup → es.find? (·.born == e.born) = some e
  | a :: es, he, hn => by
    rw [List.map_cons, List.nodup_cons] at hn
    rcases List.mem_cons.1 he with rfl | he
    · simp
    · have hne : a.born ≠ e.born := fun h => hn.1 (h ▸ List.mem_map.2 ⟨e, he, rfl⟩)
      rw [List.find?_cons_of_neg (by simpa using hne)]
      exact find_born he hn.2

/-- The entry that it is at. -/
theorem RL.entry {good : Value → Prop} {r it : Nat} {c left : List (Value × Value)} {p : Value × Value}
    (ho : nth L i = some ⟨some d, .entry x, ty, pos, af, g⟩) (hw : wants L E ⟨some d, .entry x, ty, pos, af, g⟩ = true) (hN : Nat.blt d N = true)
    (hx : E.ev x = some (.pointer (some ⟨it, 0, none⟩))) (hm : mapCt r it good c left p ∈ H)
    (h : RL P L ef bk tq Q l N ((d, .tuple #[p.1, p.2]) :: E) w0 S I H) (ht : tq.l.contains i = false := by rfl) : RL P L ef bk tq Q (.cons i l) N E w0 S I H :=
  RL.val ho hw rfl hN (fun a w ha hC => by
    obtain ⟨es, clock, since, seen, g1, g2, g3, g4, g5, g6, g7, g8, g9, e, he, hb, rfl⟩ := hC.s.h _ hm
    have hgi : (getObj it).run P w = .ok (.mapIter (some r) since seen clock) w := by simp [getObj, Sem.run, g2]
    have hgo : (getObj r).run P w = .ok (.map es clock) w := by simp [getObj, Sem.run, g1]
    have hf : es.find? (·.born == e.born) = some e := by rw [← Array.find?_toList]; exact find_born he g6
    simp [execOp, ha.ev hx, Instr.entry, hgi, hgo, hb, hf]) h rfl ht
theorem Cls.uncur {r it : Nat} {good : Value → Prop} {c left : List (Value × Value)} {p : Value × Value} {B : List It} {w : World} (h : Cls w0 S I (mapCt r it good c left p :: B) w) : Cls w0 S I (mapIt r it good c left :: B) w := by
  refine ⟨h.k, ⟨h.s.i, fun y hy => ?_, h.s.nd, h.s.dj⟩, h.own⟩
  rcases List.mem_cons.1 hy with rfl | hy
  · obtain ⟨es, clock, since, seen, g1, g2, g3, g4, g5, g6, g7, g8, g9, _⟩ := h.s.h _ (List.Mem.head _)
    exact ⟨es, clock, since, seen, g1, g2, g3, g4, g5, g6, g7, g8, g9⟩
  · exact h.s.h y (by simp [hy])
theorem CW.uncur {r it : Nat} {good : Value → Prop} {c left : List (Value × Value)} {p : Value × Value} {B : List It} {cc : Code} (h : CW P cc Q N E w0 S I (mapIt r it good c left :: B)) : CW P cc Q N E w0 S I (mapCt r it good c left p :: B) := fun a w ha hw => h a w ha hw.uncur
theorem CW.unrange {r it : Nat} {good : Value → Prop} {c left : List (Value × Value)} {B : List It} {cc : Code} (h : CW P cc Q N E w0 S I (mapI r good c :: B)) : CW P cc Q N E w0 S I (mapIt r it good c left :: B) := fun a w ha hw => h a w ha hw.unrange

theorem RL.nextC {good : Value → Prop} {r it : Nat} {c left : List (Value × Value)} {B : List It}
    (ho : nth L i = some ⟨some d, .next x false, ty, pos, af, g⟩) (hw : wants L E ⟨some d, .next x false, ty, pos, af, g⟩ = true) (hN : Nat.blt d N = true) (hi : ef.contains i = true) (hb : bk.contains i = true)
    (hx : E.ev x = some (.pointer (some ⟨it, 0, none⟩))) (hp : Pick H [mapIt r it good c left] B)
    (h0 : left = [] → RL P L ef bk tq Q l N ((d, .tuple #[.bool false]) :: E) w0 S I (mapIt r it good c left :: B))
    (h1 : ∀ j p, left[j]? = some p → RL P L ef bk tq Q l N ((d, .tuple #[.bool true, p.1, p.2]) :: E) w0 S I (mapCt r it good c (left.eraseIdx j) p :: B)) : RL P L ef bk tq Q (.cons i l) N E w0 S I H := by
  refine RL.eff ho hw hi rfl hN (fun a w ha hC => ?_)
  have hmA : (mapIt r it good c left).A w := hC.s.h _ (hp.memA _ (by simp))
  have hbsn : [r, it].Nodup := by
    have := (hp.perm.nodup_iff.1 hC.s.nd)
    rw [List.nodup_append] at this
    simpa [mapIt] using this.1
  obtain ⟨es, clock, since, seen, g1, g2, g3, g4, g5, g6, g7, rfl, g8⟩ := hmA
  have hgi : (getObj it).run P w = .ok (.mapIter (some r) since seen since) w := by simp [getObj, Sem.run, g2]
  have hgo : ∀ w', w'.heap = w.heap → (getObj r).run P w' = .ok (.map es since) w' := fun w' hh => by simp [getObj, Sem.run, hh, g1]
  have hall : (!seen.isEmpty && !es.isEmpty && es.all (fun e => decide (e.born ≥ since))) = false := by
    by_cases he : es.isEmpty = true
    · simp [he]
    · have hz : 0 < es.size := by
        rcases Nat.eq_zero_or_pos es.size with h | h
        · simp [Array.isEmpty, h] at he
        · exact h
      have h7 := g7 es[0] (by simp)
      have : es.all (fun e => decide (e.born ≥ since)) = false := by
        rw [Array.all_eq_false]
        exact ⟨0, hz, by simp; omega⟩
      simp [this]
  have hleft : (es.filter fun e => !seen.contains e.born).filter (fun e => decide (e.born < since)) = es.filter fun e => !seen.contains e.born := by
    apply Array.toList_inj.1
    rw [Array.toList_filter]
    apply List.filter_eq_self.2
    intro e he
    rw [Array.toList_filter] at he
    simpa using g7 e (List.mem_filter.1 he).1
  have hnew : (es.filter fun e => !seen.contains e.born).filter (fun e => decide (e.born ≥ since)) = #[] := by
    apply Array.toList_inj.1
    rw [Array.toList_filter]
    apply List.filter_eq_nil_iff.2
    intro e he
    rw [Array.toList_filter] at he
    have := g7 e (List.mem_filter.1 he).1
    simp; omega
  have hlist : (es.filter fun e => !seen.contains e.born).toList = es.toList.filter fun e => !seen.contains e.born := Array.toList_filter
  generalize hlf : (es.filter fun e => !seen.contains e.born) = lf at *
  have hkl : left = kvs lf.toList := by rw [g8, hlist]
  have common : ∀ (x' : It) (w' : World), x'.bs = [r, it] → x'.A w' → Keeps [r, it] w w' → Cls w0 S I (x' :: B) w' := by
    intro x' w' hb' hA hk
    have hs : Sat [] [x'] w' := ⟨by simp, by simpa using hA, by simpa [hb'] using hbsn, by simp⟩
    exact hC.call (C := []) (I' := []) (H' := [x']) hp .nil (by simpa [mapIt] using hk) hs (by simp [mapIt, hb']) (by simp)
  by_cases hemp : lf.isEmpty = true
  · have hl0 : left = [] := by rw [hkl]; simp [Array.isEmpty] at hemp; simp [kvs, hemp]
    obtain ⟨j, dr, hj, hdr, hch⟩ := run_choose (P := P) 1 (by omega) w
    have hj0 : j = 0 := by omega
    subst hj0
    have key : (execOp a.eval ⟨some d, .next x false, ty, pos, af, g⟩).run P w = .ok (.value (.tuple #[.bool false])) { w with drawn := dr } := by
      have hlf0 : lf = #[] := by simpa using hemp
      subst hlf0
      simp only [execOp, ha.ev hx, Instr.next, Sem.run_bind, hgi, Result.andThen_ok, hgo w rfl, hall, Bool.false_eq_true, if_false, hlf, hleft, hnew]
      rw [show (if (#[] : Array MapEntry).isEmpty = true then #[none] else (#[] : Array (Option MapEntry))) ++ Array.map some (#[] ++ #[]) = #[none] by simp, show (#[none] : Array (Option MapEntry)).size = 1 from rfl, hch]
      rfl
    unfold does
    rw [key]
    refine ⟨I, _, common (mapIt r it good c left) _ rfl ?_ (Keeps.drew _ _ _ hdr), fun _ h => h, fun hbk => (by rw [hb] at hbk; cases hbk), h0 hl0⟩
    exact ⟨es, since, since, seen, g1, g2, g3, g4, g5, g6, g7, rfl, g8⟩
  · have hpos : 0 < lf.size := by
      rcases Nat.eq_zero_or_pos lf.size with h | h
      · simp [Array.isEmpty, h] at hemp
      · exact h
    obtain ⟨j, dr, hj, hdr, hch⟩ := run_choose (P := P) lf.size hpos w
    have hej : lf[j]? = some lf[j] := by simp [hj]
    have key : (execOp a.eval ⟨some d, .next x false, ty, pos, af, g⟩).run P w = .ok (.value (.tuple #[.bool true, lf[j].key, lf[j].val]))
        { w with drawn := dr, heap := w.heap.setIfInBounds it (.mapIter (some r) since (seen.push lf[j].born) since) } := by
      simp only [execOp, ha.ev hx, Instr.next, Sem.run_bind, hgi, Result.andThen_ok, hgo w rfl, hall, Bool.false_eq_true, if_false, hlf, hleft, hnew, hemp]
      have hca : (#[] : Array (Option MapEntry)) ++ Array.map some (lf ++ #[]) = lf.map some := by simp
      rw [hca, show (lf.map some).size = lf.size by simp, hch]
      have hso : (setObj it (.mapIter (some r) since (seen.push lf[j].born) since)).run P { w with drawn := dr } = .ok () { w with drawn := dr, heap := w.heap.setIfInBounds it (.mapIter (some r) since (seen.push lf[j].born) since) } :=
        setObj_run (w := { w with drawn := dr }) g2 (by simp)
      simp [hj, hso]
    unfold does
    rw [key]
    have hpj : left[j]? = some (lf[j].key, lf[j].val) := by rw [hkl]; simp [kvs, hj]
    refine ⟨I, _, common (mapCt r it good c (left.eraseIdx j) (lf[j].key, lf[j].val)) _ rfl ?_ ?_, fun _ h => h, fun hbk => (by rw [hb] at hbk; cases hbk), h1 j _ hpj⟩
    · have hne : it ≠ r := by
        intro e; subst e; simp at hbsn
      refine ⟨es, since, since, seen.push lf[j].born, ?_, ?_, g3, g4, g5, g6, g7, rfl, ?_, lf[j], ?_, by simp, rfl⟩
      · show (w.heap.setIfInBounds it _)[r]? = _
        rw [Array.getElem?_setIfInBounds_ne hne]; exact g1
      · have hlt := (Array.getElem?_eq_some_iff.1 g2).1
        simp [hlt]
      · rw [filter_seen (j := j) g6 (by rw [← hlist]; simp [hj]), ← hlist, hkl]
        simp only [kvs]
        exact eraseIdx_map _ _ _
      · have : lf[j] ∈ (es.filter fun e => !seen.contains e.born).toList := by rw [hlf]; simp
        rw [Array.toList_filter] at this
        exact (List.mem_filter.1 this).1
    · refine ⟨rfl, rfl, rfl, by simp, fun b _ hn => ?_, hdr⟩
      have : it ≠ b := fun e => hn (by simp [e])
      show (w.heap.setIfInBounds it _)[b]? = _
      rw [Array.getElem?_setIfInBounds_ne this]


/-! ### Things that are put together -/

theorem bss_app (a b : List It) : bss (a ++ b) = bss a ++ bss b := List.flatMap_append
/-- Things as one thing. -/
def allI (l : List It) : It where
  bs := bss l
  A w := ∀ x ∈ l, x.A w
  fr w w' h hA x hx := x.fr w w' (fun b hb => h b (mem_bss.2 ⟨x, hx, hb⟩)) (hA x hx)
  lt w hA b hb := by
    obtain ⟨x, hx, hb⟩ := mem_bss.1 hb
    exact x.lt w (hA x hx) b hb
theorem bss_all (l B : List It) : bss (allI l :: B) = bss (l ++ B) := by rw [bss_app, bss_cons]; rfl
theorem Cls.unpack {l B : List It} {w : World} (h : Cls w0 S I (allI l :: B) w) : Cls w0 S I (l ++ B) w := by
  obtain ⟨h1, h2, h3⟩ := h
  rw [bss_all] at h3
  refine ⟨h1, ⟨h2.i, fun y hy => ?_, by rw [← bss_all]; exact h2.nd, by rw [← bss_all]; exact h2.dj⟩, h3⟩
  rcases List.mem_append.1 hy with hy | hy
  · exact h2.h _ (List.Mem.head _) y hy
  · exact h2.h y (by simp [hy])
theorem Cls.pack {l B : List It} {w : World} (h : Cls w0 S I (l ++ B) w) : Cls w0 S I (allI l :: B) w := by
  obtain ⟨h1, h2, h3⟩ := h
  rw [← bss_all] at h3
  refine ⟨h1, ⟨h2.i, fun y hy => ?_, by rw [bss_all]; exact h2.nd, by rw [bss_all]; exact h2.dj⟩, h3⟩
  rcases List.mem_cons.1 hy with rfl | hy
  · exact fun y hy => h2.h y (List.mem_append_left _ hy)
  · exact h2.h y (List.mem_append_right _ hy)
theorem bss_perm {a b : List It} (h : a.Perm b) : (bss a).Perm (bss b) := h.flatMap_right _
theorem Cls.perm {H' : List It} {w : World} (hp : H.Perm H') (h : Cls w0 S I H w) : Cls w0 S I H' w := by
  have hb := bss_perm hp
  exact ⟨h.k, ⟨h.s.i, fun y hy => h.s.h y (hp.mem_iff.2 hy), hb.nodup_iff.1 h.s.nd, fun b hi hh => h.s.dj b hi (hb.mem_iff.2 hh)⟩, fun b hh => h.own b (hb.mem_iff.2 hh)⟩
theorem CW.unpack {l B : List It} {cc : Code} (h : CW P cc Q N E w0 S I (l ++ B)) : CW P cc Q N E w0 S I (allI l :: B) := fun a w ha hw => h a w ha hw.unpack
theorem CW.pack {l B : List It} {cc : Code} (h : CW P cc Q N E w0 S I (allI l :: B)) : CW P cc Q N E w0 S I (l ++ B) := fun a w ha hw => h a w ha hw.pack
theorem RQ.pack {l B : List It} (h : RQ Q N E w0 S I (allI l :: B)) : RQ Q N E w0 S I (l ++ B) := fun a w ha hw => h a w ha hw.pack
theorem CW.perm {H' : List It} {cc : Code} (hp : H.Perm H') (h : CW P cc Q N E w0 S I H') : CW P cc Q N E w0 S I H := fun a w ha hw => h a w ha (hw.perm hp)
theorem RQ.perm {H' : List It} (hp : H.Perm H') (h : RQ Q N E w0 S I H') : RQ Q N E w0 S I H := fun a w ha hw => h a w ha (hw.perm hp)
end
end Go.PK
