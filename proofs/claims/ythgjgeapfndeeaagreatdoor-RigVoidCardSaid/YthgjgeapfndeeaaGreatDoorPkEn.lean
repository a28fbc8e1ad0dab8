/-
  PK: an entry of a map is made ready, and stored into later.
-/
import Derived.Test.YthgjgeapfndeeaaGreatDoorPD
set_option linter.unusedVariables false
set_option linter.unusedSimpArgs false
namespace Go.PK
/-- A map, and the stamp of a key's entry. -/
def mapE (r : Nat) (good : Value → Prop) (c : List (Value × Value)) (key : Value) (n : Nat) : It where
  bs := [r]
  A w := ∃ es clock, w.heap[r]? = some (.map es clock) ∧ (kvs es.toList = c ∧ (c.map (·.1)).Nodup ∧ (∀ p ∈ c, good p.1) ∧ (es.toList.map (·.born)).Nodup ∧ ∀ e ∈ es.toList, e.born < clock) ∧ ∃ (j : Nat) (e : MapEntry), es.toList[j]? = some e ∧ e.key = key ∧ e.born = n
  fr w w' h hA := by
    obtain ⟨es, clock, h1, rest⟩ := hA
    exact ⟨es, clock, by rw [h r (by simp)]; exact h1, rest⟩
  lt w hA b hb := by
    obtain ⟨es, clock, h1, rest⟩ := hA
    have : b = r := by simpa using hb
    subst this
    exact (Array.getElem?_eq_some_iff.1 h1).1
theorem mapE_I {r : Nat} {good : Value → Prop} {c : List (Value × Value)} {key : Value} {n : Nat} {w : World} (h : (mapE r good c key n).A w) : (mapI r good c).A w := by
  obtain ⟨es, clock, h1, h2, _⟩ := h
  exact ⟨es, clock, h1, h2⟩
section
variable {P : Program} {L : List Oper} {ef bk : List Nat} {tq : Tq} {Q : Exit → Act → World → Prop} {N : Fm} {E : Env} {w0 : World} {S : List Nat} {I H : List It} {i : Nat} {l : Sq}
variable {d : Nat} {x y z : Operand} {ty t yt : TypeId} {pos : String} {af : Array Edge} {g : Option (Nat × Bool)} {v : Value}
theorem MapAt.entry {r : Nat} {good : Value → Prop} {c : List (Value × Value)} {key : Value} {n : Nat} (hm : mapE r good c key n ∈ H) : MapAt I H r good c := fun _ hw => mapE_I (hw.h _ hm)
theorem modify_set {es : Array MapEntry} {j : Nat} {e : MapEntry} {f : MapEntry → MapEntry} (h : es.toList[j]? = some e) : (es.modify j f).toList = es.toList.set j (f e) := by
  apply List.ext_getElem?
  intro q
  simp only [Array.toList_modify, List.getElem?_modify, List.getElem?_set]
  by_cases hq : j = q
  · subst hq
    have hlt : j < es.size := by simpa using (List.getElem?_eq_some_iff.1 h).1
    rw [h]; simp [hlt]
  · simp [hq]
theorem set_self' {α : Type} {l : List α} {j : Nat} {e : α} (h : l[j]? = some e) : l.set j e = l := by
  obtain ⟨hj, rfl⟩ := List.getElem?_eq_some_iff.1 h
  exact List.set_getElem_self hj
theorem run_mapEntry {kt et : TypeId} {good : Value → Prop} {r : Nat} {c : List (Value × Value)} {key zv : Value} {w : World} (K : KeyT P kt good) (hu : ∀ w, (underlying t).run P w = .ok (.map kt et) w) (hz : ∀ w, (zeroValue et).run P w = .ok zv w) (hk : good key) (hA : (mapI r good c).A w) :
    ∃ (n : Nat) (w' : World), (Instr.mapEntry t (.map (some r)) key).run P w = .ok (.tuple #[(lookV key c).getD zv, .int .i64 n]) w' ∧ Keeps [r] w w' ∧ (mapE r good (setV key ((lookV key c).getD zv) c) key n).A w' := by
  obtain ⟨es, clock, h1, h2, h3, h4, h5, h6⟩ := hA
  have hf := run_findKey K hk es.toList w (good_of_kvs h2 h4)
  have hl := findL_look (k := key) es.toList 0
  rw [h2] at hl
  have hgo : (getObj r).run P w = .ok (.map es clock) w := by simp [getObj, Sem.run, h1]
  have hg' : ∀ u, ∀ p ∈ setV key u c, good p.1 := fun u p hp => by
    rcases mem_setV hp with rfl | hp
    · exact hk
    · exact h4 p hp
  cases hfl : findL key es.toList 0 with
  | none =>
    rw [hfl] at hl
    rw [← hl]
    refine ⟨clock, { w with heap := w.heap.setIfInBounds r (.map (es.push { key := key, val := zv, born := clock }) (clock + 1)) }, ?_, Keeps.setObj, ⟨_, _, heap_setObj h1, ⟨?_, nodup_setV h3, hg' _, ?_, ?_⟩, es.size, { key := key, val := zv, born := clock }, by simp, rfl, rfl⟩⟩
    · simp [Instr.mapEntry, hu, hz, hgo, K.chk key hk, hf, hfl, setObj_run h1 (by simp), goInt]
    · rw [Array.toList_push, setV_new es.toList (findL_none hfl), h2]; rfl
    · rw [Array.toList_push, List.map_append, List.nodup_append]
      exact ⟨h5, by simp, fun a ha b hb => by
        obtain ⟨e, he, rfl⟩ := List.mem_map.1 ha
        have := h6 e he
        simp at hb; omega⟩
    · intro e he
      rw [Array.toList_push] at he
      rcases List.mem_append.1 he with he | he
      · have := h6 e he; omega
      · simp at he; subst he; simp
  | some p =>
    obtain ⟨j, v0⟩ := p
    obtain ⟨_, e, g1, g2, g3, g4⟩ := findL_some hfl
    simp only [Nat.sub_zero] at g1 g4
    rw [hfl] at hl
    rw [← hl]
    have he : es[j]? = some e := by simpa using g1
    have hst : (Instr.keyThatStays ((es[j]?.map (·.key)).getD key) key).run P w = .ok key w := by
      have : (es[j]?.map (·.key)).getD key = key := by simp [he, g2]
      rw [this]
      simp [Instr.keyThatStays, K.bits key hk]
    have hself : (es.modify j fun e => { e with key := key }).toList = es.toList := by
      rw [modify_set g1, show ({ e with key := key } : MapEntry) = e by cases e; simp at g2; subst g2; rfl]
      exact set_self' g1
    refine ⟨e.born, { w with heap := w.heap.setIfInBounds r (.map (es.modify j fun e => { e with key := key }) clock) }, ?_, Keeps.setObj, ⟨_, _, heap_setObj h1, ⟨?_, nodup_setV h3, hg' _, ?_, ?_⟩, j, e, by rw [hself]; exact g1, g2, rfl⟩⟩
    · simp only [Instr.mapEntry, Sem.run_bind, hu, Result.andThen_ok, hgo, K.chk key hk, hf, hfl, hst, setObj_run h1 (by simp)]
      simp [he, goInt]
    · rw [hself, h2]
      have := setV_at (v := v0) es.toList j e g1 g2 g4
      rw [h2, show ({ e with key := key, val := v0 } : MapEntry) = e by cases e; simp at g2 g3; subst g2; subst g3; rfl, set_self' g1, h2] at this
      exact this
    · rw [hself]; exact h5
    · rw [hself]; exact h6
theorem run_entryStore {good : Value → Prop} {r n : Nat} {c : List (Value × Value)} {key u : Value} {w : World} (hA : (mapE r good c key n).A w) :
    ∃ w', (Instr.entryStore t (.map (some r)) (.int .i64 n) u).run P w = .ok () w' ∧ Keeps [r] w w' ∧ (mapI r good (setV key u c)).A w' := by
  obtain ⟨es, clock, h1, ⟨h2, h3, h4, h5, h6⟩, j, e, g1, g2, g3⟩ := hA
  have hgo : (getObj r).run P w = .ok (.map es clock) w := by simp [getObj, Sem.run, h1]
  have hkey : good key := by
    have := h4 (e.key, e.val) (by rw [← h2]; exact List.mem_map.2 ⟨e, List.mem_of_getElem? g1, rfl⟩)
    rw [g2] at this; exact this
  have hj : j < es.size := by simpa using (List.getElem?_eq_some_iff.1 g1).1
  have hej : es[j] = e := by
    have := (List.getElem?_eq_some_iff.1 g1).2
    simpa using this
  have hf : es.findIdx? (fun e => (e.born : Int) == (n : Int)) = some j := by
    rw [Array.findIdx?_eq_some_iff_getElem]
    refine ⟨hj, by rw [hej, g3]; simp, fun q hq => ?_⟩
    have hql : q < es.toList.length := by simp; omega
    intro hb
    have hb' : ((es[q].born : Nat) : Int) = (n : Int) := by simpa using hb
    have hb : es[q].born = n := by omega
    have e1 : (es.toList.map (·.born))[q]? = some n := by
      rw [List.getElem?_map, List.getElem?_eq_getElem hql]; simpa using hb
    have e2 : (es.toList.map (·.born))[j]? = some n := by
      rw [List.getElem?_map, g1, ← g3]; rfl
    have := (List.getElem?_inj (by simpa using hql) h5).1 (e1.trans e2.symm)
    omega
  have hfst : ∀ q < j, ∀ e', es.toList[q]? = some e' → e'.key ≠ key := fun q hq e' he' hk => by
    have e1 : (c.map (·.1))[q]? = some key := by rw [← h2]; simp [kvs, he', hk]
    have e2 : (c.map (·.1))[j]? = some key := by rw [← h2]; simp [kvs, g1, g2]
    have := (List.getElem?_inj (List.getElem?_eq_some_iff.1 e1).1 h3).1 (e1.trans e2.symm)
    omega
  have hm : (es.modify j fun e => { e with val := u }).toList = es.toList.set j { e with key := key, val := u } := by
    rw [modify_set g1, ← g2]
  refine ⟨{ w with heap := w.heap.setIfInBounds r (.map (es.modify j fun e => { e with val := u }) clock) }, ?_, Keeps.setObj, ⟨_, _, heap_setObj h1, ?_, nodup_setV h3, fun p hp => ?_, ?_, ?_⟩⟩
  · simp [Instr.entryStore, hgo, asInt, asIntOf, hf, setObj_run h1 (by simp)]
  · rw [hm, setV_at es.toList j e g1 g2 hfst, h2]
  · rcases mem_setV hp with rfl | hp
    · exact hkey
    · exact h4 p hp
  · have : (es.modify j fun e => { e with val := u }).toList.map (·.born) = es.toList.map (·.born) := by
      rw [modify_set g1, List.map_set]
      exact set_self' (by rw [List.getElem?_map, g1]; rfl)
    rw [this]; exact h5
  · intro e' he'
    rw [modify_set g1] at he'
    rcases List.mem_or_eq_of_mem_set he' with he' | rfl
    · exact h6 e' he'
    · exact h6 e (List.mem_of_getElem? g1)
end
end Go.PK
