import Derived.Test.YthndhipjfdgdfaaGreatDoorPB
import Derived.ChangeKeysEq
set_option linter.unusedVariables false
set_option linter.unusedSimpArgs false
/-
  PK, part H: comparisons; maps.
-/
namespace Go.PK

section
variable {P : Program} {L : List Oper} {ef bk : List Nat} {tq : Tq} {Q : Exit → Act → World → Prop} {N : Fm} {E : Env} {w0 : World} {S : List Nat} {I H : List It} {i : Nat} {l : Sq}
variable {d : Nat} {x y z : Operand} {ty t yt : TypeId} {pos : String} {af : Array Edge} {g : Option (Nat × Bool)} {v : Value} {k k' : IntKind} {m n : Int}

/-! ### Comparisons -/

theorem RL.cmp {op : BinOp} {a b : Value} (ho : nth L i = some ⟨some d, .binOp op t x y yt, ty, pos, af, g⟩) (hw : wants L E ⟨some d, .binOp op t x y yt, ty, pos, af, g⟩ = true) (hN : Nat.blt d N.n = true)
    (hx : E.ev x = some a) (hy : E.ev y = some b) (hr : ∀ w, (do eqGuard op t x y a b; binOp op t a b : Sem Value).run P w = .ok v w) (h : RL P L ef bk tq Q l N ((d, v) :: E) w0 S I H) : RL P L ef bk tq Q (.cons i l) N E w0 S I H :=
  RL.pval ho hw rfl hN (fun ac w ha => by
    have := hr w
    show Sem.run P (do pure (Next.value (← (do eqGuard op t x y (ac.eval x) (ac.eval y); binOp op t (ac.eval x) (ac.eval y) : Sem Value)))) w = _
    rw [ha.ev hx, ha.ev hy, Sem.run_bind, this]
    rfl) h

theorem equal_ptr {e : TypeId} (hu : ∀ w, (underlying t).run P w = .ok (.pointer e) w) (p : Option Addr) (w : World) : (Op.equal t (.pointer p) (.pointer none)).run P w = .ok p.isNone w := by
  unfold Op.equal
  rw [show Op.maxDepth = 9999 + 1 from rfl, Op.equalIn.eq_2]
  cases p <;> simp [hu]
theorem eql_ptr {e : TypeId} (hu : ∀ w, (underlying t).run P w = .ok (.pointer e) w) (p : Option Addr) (w : World) : (do eqGuard .eql t x y (.pointer p) (.pointer none); binOp .eql t (.pointer p) (.pointer none) : Sem Value).run P w = .ok (.bool p.isNone) w := by
  simp [eqGuard, binOp, equal_ptr hu p]
theorem equal_bool  (hu : ∀ w, (underlying t).run P w = .ok (.bool) w) (p q : Bool) (w : World) : (Op.equal t (.bool p) (.bool q)).run P w = .ok (p == q) w := by
  unfold Op.equal
  rw [show Op.maxDepth = 9999 + 1 from rfl, Op.equalIn.eq_2]
  cases p <;> simp [hu]
theorem neq_bool  (hu : ∀ w, (underlying t).run P w = .ok (.bool) w) (p q : Bool) (w : World) : (do eqGuard .neq t x y (.bool p) (.bool q); binOp .neq t (.bool p) (.bool q) : Sem Value).run P w = .ok (.bool (!(p == q))) w := by
  simp [eqGuard, binOp, equal_bool hu p q]

/-! ### Maps -/

open Classical in
/-- Two values are one. -/
noncomputable def same (a b : Value) : Bool := decide (a = b)

theorem same_iff {a b : Value} : same a b = true ↔ a = b := by simp [same]

/-- Keys whose equality is the model's own. -/
structure KeyT (P : Program) (kt : TypeId) (good : Value → Prop) : Prop where
  desc : ∃ D, (∀ w, (underlying kt).run P w = .ok D w) ∧ ∀ a b, good a → good b → Instr.sameNow D a b = none ∨ Instr.sameNow D a b = some (same a b)
  eq : ∀ a b, good a → good b → ∀ w, (Op.equal kt a b).run P w = .ok (same a b) w
  chk : ∀ a, good a → ∀ e w, (Instr.checkKey e 10000 kt a).run P w = .ok () w
  bits : ∀ a, good a → Instr.sameBits 10000 a a = true

noncomputable def findL (k : Value) : List MapEntry → Nat → Option (Nat × Value)
  | [], _ => none
  | e :: es, i => open Classical in if k = e.key then some (i, e.val) else findL k es (i + 1)

theorem run_findAsking {kt : TypeId} {good : Value → Prop} (K : KeyT P kt good) {k : Value} (hk : good k) : ∀ (es : List MapEntry) (i : Nat) (w : World), (∀ e ∈ es, good e.key) → (Instr.findAsking kt k es i).run P w = .ok (findL k es i) w
  | [], i, w, _ => by simp [Instr.findAsking, findL]
  | e :: es, i, w, hg => by
    have h1 := K.eq k e.key hk (hg e (by simp)) w
    have h2 := run_findAsking K hk es (i + 1) w (fun e he => hg e (by simp [he]))
    by_cases hke : k = e.key
    · subst hke; simp [Instr.findAsking, findL, h1, same]
    · simp [Instr.findAsking, findL, h1, same, hke, h2]

theorem findNow_eq {D : TypeDesc} {good : Value → Prop} (hD : ∀ a b, good a → good b → Instr.sameNow D a b = none ∨ Instr.sameNow D a b = some (same a b)) {k : Value} (hk : good k) :
    ∀ (es : List MapEntry) (i : Nat), (∀ e ∈ es, good e.key) → Instr.findNow D k es i = none ∨ Instr.findNow D k es i = some (findL k es i)
  | [], i, _ => .inr rfl
  | e :: es, i, hg => by
    rcases hD k e.key hk (hg e (by simp)) with h | h
    · left; simp [Instr.findNow, h]
    · by_cases hke : k = e.key
      · right; subst hke; simp [Instr.findNow, h, findL, same]
      · rcases findNow_eq hD hk es (i + 1) (fun e he => hg e (by simp [he])) with h2 | h2
        · left; simp [Instr.findNow, h, same, hke, h2]
        · right; simp [Instr.findNow, h, same, hke, h2, findL]

theorem run_findKey {kt : TypeId} {good : Value → Prop} (K : KeyT P kt good) {k : Value} (hk : good k) (es : List MapEntry) (w : World) (hg : ∀ e ∈ es, good e.key) : (Instr.findKey kt k es).run P w = .ok (findL k es 0) w := by
  obtain ⟨D, hu, hD⟩ := K.desc
  rcases findNow_eq hD hk es 0 hg with h | h
  · simp [Instr.findKey, hu, h, run_findAsking K hk es 0 w hg]
  · simp [Instr.findKey, hu, h]

def kvs (es : List MapEntry) : List (Value × Value) := es.map fun e => (e.key, e.val)

/-- A map: what it holds, key by key, in the order in which the keys came. -/
def mapI (r : Nat) (good : Value → Prop) (c : List (Value × Value)) : It where
  bs := [r]
  A w := ∃ es clock, w.heap[r]? = some (.map es clock) ∧ kvs es.toList = c ∧ (c.map (·.1)).Nodup ∧ (∀ p ∈ c, good p.1) ∧ (es.toList.map (·.born)).Nodup ∧ ∀ e ∈ es.toList, e.born < clock
  fr w w' h hA := by
    obtain ⟨es, clock, h1, rest⟩ := hA
    exact ⟨es, clock, by rw [h r (by simp)]; exact h1, rest⟩
  lt w hA b hb := by
    obtain ⟨es, clock, h1, rest⟩ := hA
    have : b = r := by simpa using hb
    subst this
    exact (Array.getElem?_eq_some_iff.1 h1).1

theorem RL.makeMap {good : Value → Prop} (ho : nth L i = some ⟨some d, .makeMap t none, ty, pos, af, g⟩) (hw : wants L E ⟨some d, .makeMap t none, ty, pos, af, g⟩ = true) (hN : Nat.blt d N.n = true) (hi : ef.contains i = true)
    (h : ∀ b, RL P L ef bk tq Q l N ((d, .map (some b)) :: E) w0 S I (mapI b good [] :: H)) : RL P L ef bk tq Q (.cons i l) N E w0 S I H :=
  RL.make (x := fun b => mapI b good []) (u := fun b => .map (some b)) ho hw hi rfl hN (fun a w _ _ => ⟨w.alloc (.map #[] 0), by
    simp [execOp, Instr.makeMap], Keeps.alloc _ _ _, ⟨#[], 0, heap_alloc_same w _, rfl, by simp, by simp, by simp, by simp⟩, rfl⟩) h

open Classical in
/-- What a key leads to. -/
noncomputable def lookV (k : Value) : List (Value × Value) → Option Value
  | [] => none
  | (a, v) :: r => if k = a then some v else lookV k r

theorem findL_look {k : Value} : ∀ (es : List MapEntry) (i : Nat), (findL k es i).map (·.2) = lookV k (kvs es)
  | [], _ => rfl
  | e :: es, i => by
    by_cases h : k = e.key
    · simp [findL, kvs, lookV, h]
    · have := findL_look (k := k) es (i + 1)
      simp only [kvs] at this
      simp [findL, kvs, lookV, h, this]

theorem good_of_kvs {good : Value → Prop} {es : List MapEntry} {c : List (Value × Value)} (h : kvs es = c) (hg : ∀ p ∈ c, good p.1) : ∀ e ∈ es, good e.key := fun e he =>
  hg (e.key, e.val) (by rw [← h]; exact List.mem_map.2 ⟨e, he, rfl⟩)

/-- What is told of a map in every world of the class. -/
def MapAt (I H : List It) (r : Nat) (good : Value → Prop) (c : List (Value × Value)) : Prop := ∀ w, Sat I H w → (mapI r good c).A w

theorem MapAt.own {r : Nat} {good : Value → Prop} {c : List (Value × Value)} (hm : mapI r good c ∈ H) : MapAt I H r good c := fun _ hw => hw.h _ hm
theorem MapAt.told {r : Nat} {good : Value → Prop} {c : List (Value × Value)} (hm : mapI r good c ∈ I) : MapAt I H r good c := fun _ hw => hw.i _ hm

theorem RL.lookup {kt et : TypeId} {good : Value → Prop} {r : Nat} {c : List (Value × Value)} {key zv : Value} (K : KeyT P kt good) (hu : ∀ w, (underlying t).run P w = .ok (.map kt et) w) (hz : ∀ w, (zeroValue et).run P w = .ok zv w)
    (ho : nth L i = some ⟨some d, .lookup t x y false, ty, pos, af, g⟩) (hw : wants L E ⟨some d, .lookup t x y false, ty, pos, af, g⟩ = true) (hN : Nat.blt d N.n = true) (hx : E.ev x = some (.map (some r))) (hy : E.ev y = some key) (hk : good key) (hm : MapAt I H r good c)
    (h : RL P L ef bk tq Q l N ((d, (lookV key c).getD zv) :: E) w0 S I H) (ht : tq.l.contains i = false := by rfl) : RL P L ef bk tq Q (.cons i l) N E w0 S I H :=
  RL.val ho hw rfl hN (fun a w ha hC => by
    obtain ⟨es, clock, h1, h2, h3, h4, h5, h6⟩ := hm w hC.s
    have hf := run_findKey K hk es.toList w (good_of_kvs h2 h4)
    have hl := findL_look (k := key) es.toList 0
    rw [h2] at hl
    have hgo : (getObj r).run P w = .ok (.map es clock) w := by simp [getObj, Sem.run, h1]
    simp only [execOp, ha.ev hx, ha.ev hy, Instr.lookup, Sem.run_bind, hu, Result.andThen_ok, hgo, Sem.run_pure, K.chk key hk, hf]
    cases hfl : findL key es.toList 0 with
    | none => rw [hfl] at hl; simp [hz, ← hl]
    | some p => rw [hfl] at hl; simp [← hl]) h rfl ht

open Classical in
/-- A key's value laid in. -/
noncomputable def setV (k v : Value) : List (Value × Value) → List (Value × Value)
  | [] => [(k, v)]
  | (a, u) :: r => if k = a then (k, v) :: r else (a, u) :: setV k v r

theorem mem_setV {k v : Value} : ∀ {c : List (Value × Value)} {p : Value × Value}, p ∈ setV k v c → p = (k, v) ∨ p ∈ c
  | [], p, h => by simp [setV] at h; exact .inl h
  | (a, u) :: r, p, h => by
    by_cases hk : k = a
    · subst hk; simp [setV] at h; rcases h with h | h <;> simp [h]
    · simp [setV, hk] at h
      rcases h with h | h
      · simp [h]
      · rcases mem_setV h with h | h <;> simp [h]

open Classical in
theorem keys_setV {k v : Value} : ∀ (c : List (Value × Value)), (setV k v c).map (·.1) = if k ∈ c.map (·.1) then c.map (·.1) else c.map (·.1) ++ [k]
  | [] => by simp [setV]
  | (a, u) :: r => by
    by_cases hk : k = a
    · subst hk; simp [setV]
    · have ih := keys_setV (k := k) (v := v) r
      simp only [setV, hk, if_false, List.map_cons, ih, List.mem_cons, false_or]
      split <;> simp

theorem nodup_setV {k v : Value} {c : List (Value × Value)} (h : (c.map (·.1)).Nodup) : ((setV k v c).map (·.1)).Nodup := by
  rw [keys_setV]
  split
  · exact h
  · rename_i hn
    rw [List.nodup_append]
    exact ⟨h, by simp, fun a ha b hb => by have : b = k := by simpa using hb
                                           subst this; exact fun e => hn (e ▸ ha)⟩

theorem setObj_run {r : Nat} {o o' : Obj} {w : World} (h : w.heap[r]? = some o) (hc : ∀ c e f, o ≠ .cells c e f) : (setObj r o').run P w = .ok () { w with heap := w.heap.setIfInBounds r o' } := by
  simp only [setObj, Sem.run, h]

theorem Keeps.setObj {w : World} {r : Nat} {o : Obj} : Keeps [r] w { w with heap := w.heap.setIfInBounds r o } :=
  ⟨rfl, rfl, rfl, by simp, fun b _ hn => by
    have : r ≠ b := fun e => hn (by simp [e])
    simp [Array.getElem?_setIfInBounds_ne this], Nat.le_refl _⟩

theorem heap_setObj {w : World} {r : Nat} {o o' : Obj} (h : w.heap[r]? = some o') : ({ w with heap := w.heap.setIfInBounds r o } : World).heap[r]? = some o := by
  have hlt := (Array.getElem?_eq_some_iff.1 h).1
  simp [hlt]

theorem findL_some {k : Value} : ∀ {es : List MapEntry} {i j : Nat} {v : Value}, findL k es i = some (j, v) → i ≤ j ∧ ∃ e, es[j - i]? = some e ∧ e.key = k ∧ e.val = v ∧ ∀ q < j - i, ∀ e', es[q]? = some e' → e'.key ≠ k
  | [], i, j, v, h => by cases h
  | e :: es, i, j, v, h => by
    by_cases hk : k = e.key
    · simp only [findL, hk, if_true, Option.some.injEq, Prod.mk.injEq] at h
      obtain ⟨rfl, rfl⟩ := h
      exact ⟨Nat.le_refl _, e, by simp, hk.symm, rfl, fun q hq => by omega⟩
    · simp only [findL, hk, if_false] at h
      obtain ⟨h1, e', h2, h3, h4, h5⟩ := findL_some h
      refine ⟨by omega, e', ?_, h3, h4, ?_⟩
      · rw [show j - i = (j - (i + 1)) + 1 by omega]; simpa using h2
      · intro q hq e2 he2
        cases q with
        | zero => simp at he2; subst he2; exact fun h => hk h.symm
        | succ q => simp at he2; exact h5 q (by omega) e2 he2

theorem findL_none {k : Value} : ∀ {es : List MapEntry} {i : Nat}, findL k es i = none → ∀ e ∈ es, e.key ≠ k
  | [], _, _, e, he => by cases he
  | e0 :: es, i, h, e, he => by
    by_cases hk : k = e0.key
    · simp [findL, hk] at h
    · simp only [findL, hk, if_false] at h
      rcases List.mem_cons.1 he with rfl | he
      · exact fun h => hk h.symm
      · exact findL_none h e he

theorem setV_at {k v : Value} : ∀ (es : List MapEntry) (j : Nat) (e : MapEntry), es[j]? = some e → e.key = k → (∀ q < j, ∀ e', es[q]? = some e' → e'.key ≠ k) → kvs (es.set j { e with key := k, val := v }) = setV k v (kvs es)
  | [], j, e, h, _, _ => by simp at h
  | e0 :: es, 0, e, h, hk, _ => by
    simp at h; subst h; simp [kvs, setV, hk]
  | e0 :: es, j + 1, e, h, hk, hn => by
    have h0 : k ≠ e0.key := fun h => hn 0 (by omega) e0 (by simp) h.symm
    have := setV_at (v := v) es j e (by simpa using h) hk (fun q hq e' he' => hn (q + 1) (by omega) e' (by simpa using he'))
    simp only [kvs] at this
    simp [kvs, setV, h0, this]

theorem setV_new {k v : Value} {b : Nat} : ∀ (es : List MapEntry), (∀ e ∈ es, e.key ≠ k) → kvs (es ++ [{ key := k, val := v, born := b }]) = setV k v (kvs es)
  | [], _ => by simp [kvs, setV]
  | e0 :: es, hn => by
    have h0 : k ≠ e0.key := fun h => hn e0 (by simp) h.symm
    have := setV_new (b := b) (v := v) es (fun e he => hn e (by simp [he]))
    have e1 : kvs (e0 :: es ++ [{ key := k, val := v, born := b }]) = (e0.key, e0.val) :: kvs (es ++ [{ key := k, val := v, born := b }]) := rfl
    have e2 : kvs (e0 :: es) = (e0.key, e0.val) :: kvs es := rfl
    rw [e1, this, e2, setV, if_neg h0]

theorem run_mapUpdate {kt et : TypeId} {good : Value → Prop} {r : Nat} {c : List (Value × Value)} {key u : Value} {w : World} (K : KeyT P kt good) (hu : ∀ w, (underlying t).run P w = .ok (.map kt et) w) (hk : good key) (hA : (mapI r good c).A w) :
    ∃ w', (Instr.mapUpdate t (.map (some r)) key u).run P w = .ok () w' ∧ Keeps [r] w w' ∧ (mapI r good (setV key u c)).A w' := by
  obtain ⟨es, clock, h1, h2, h3, h4, h5, h6⟩ := hA
  have hf := run_findKey K hk es.toList w (good_of_kvs h2 h4)
  have hgo : (getObj r).run P w = .ok (.map es clock) w := by simp [getObj, Sem.run, h1]
  have hg' : ∀ p ∈ setV key u c, good p.1 := fun p hp => by
    rcases mem_setV hp with rfl | hp
    · exact hk
    · exact h4 p hp
  cases hfl : findL key es.toList 0 with
  | none =>
    refine ⟨{ w with heap := w.heap.setIfInBounds r (.map (es.push { key := key, val := u, born := clock }) (clock + 1)) }, ?_, Keeps.setObj, ⟨_, _, heap_setObj h1, ?_, nodup_setV h3, hg', ?_, ?_⟩⟩
    · simp [Instr.mapUpdate, hu, hgo, K.chk key hk, hf, hfl, setObj_run h1 (by simp)]
    · rw [Array.toList_push, setV_new es.toList (findL_none hfl), h2]
    · rw [Array.toList_push, List.map_append, List.nodup_append]
      exact ⟨h5, by simp, fun a ha b hb => by
        obtain ⟨e, he, rfl⟩ := List.mem_map.1 ha
        have := h6 e he
        simp at hb; omega⟩
    · intro e he
      rw [Array.toList_push] at he
      rcases List.mem_append.1 he with he | he
      · have := h6 e he; omega
      · simp at he; subst he; simp
  | some p =>
    obtain ⟨j, v0⟩ := p
    obtain ⟨_, e, g1, g2, g3, g4⟩ := findL_some hfl
    simp only [Nat.sub_zero] at g1 g4
    have hst : (Instr.keyThatStays ((es[j]?.map (·.key)).getD key) key).run P w = .ok key w := by
      have : (es[j]?.map (·.key)).getD key = key := by
        have : es[j]? = some e := by simpa using g1
        simp [this, g2]
      rw [this]
      simp [Instr.keyThatStays, K.bits key hk]
    refine ⟨{ w with heap := w.heap.setIfInBounds r (.map (es.modify j fun e => { e with key := key, val := u }) clock) }, ?_, Keeps.setObj, ⟨_, _, heap_setObj h1, ?_, nodup_setV h3, hg', ?_, ?_⟩⟩
    · simp only [Instr.mapUpdate, Sem.run_bind, hu, Result.andThen_ok, hgo, K.chk key hk, hf, hfl, hst, setObj_run h1 (by simp)]
    · have hm : (es.modify j fun e => { e with key := key, val := u }).toList = es.toList.set j { e with key := key, val := u } := by
        apply List.ext_getElem?
        intro q
        simp only [Array.toList_modify, List.getElem?_modify, List.getElem?_set]
        by_cases hq : j = q
        · subst hq
          have hlt : j < es.size := by simpa using (List.getElem?_eq_some_iff.1 g1).1
          rw [g1]; simp [hlt]
        · simp [hq]
      rw [hm, setV_at es.toList j e g1 g2 g4, h2]
    · have : (es.modify j fun e => { e with key := key, val := u }).toList.map (·.born) = es.toList.map (·.born) := by
        apply List.ext_getElem?
        intro q
        simp only [Array.toList_modify, List.getElem?_map, List.getElem?_modify]
        cases es.toList[q]? with
        | none => simp
        | some e2 => by_cases hq : j = q <;> simp [hq]
      rw [this]; exact h5
    · intro e' he'
      rw [Array.toList_modify] at he'
      obtain ⟨q, hq, rfl⟩ := List.mem_iff_getElem.1 he'
      have := h6 (es.toList[q]'(by simpa using hq)) (List.getElem_mem _)
      rw [List.getElem_modify]
      split <;> exact this

theorem RL.mapUpdate {kt et : TypeId} {good : Value → Prop} {r : Nat} {c : List (Value × Value)} {key u : Value} {H' : List It} (K : KeyT P kt good) (hu : ∀ w, (underlying t).run P w = .ok (.map kt et) w)
    (ho : nth L i = some ⟨none, .mapUpdate t x y z, ty, pos, af, g⟩) (hw : wants L E ⟨none, .mapUpdate t x y z, ty, pos, af, g⟩ = true) (hi : ef.contains i = true) (hb : bk.contains i = true)
    (hx : E.ev x = some (.map (some r))) (hy : E.ev y = some key) (hz : E.ev z = some u) (hk : good key) (hup : Upd H (mapI r good c) (mapI r good (setV key u c)) H') (h : RL P L ef bk tq Q l N E w0 S I H') : RL P L ef bk tq Q (.cons i l) N E w0 S I H :=
  RL.turn0 ho hw hi hb rfl hup rfl (fun a w ha hC => by
    obtain ⟨w', h1, h2, h3⟩ := run_mapUpdate K hu hk (hC.s.h _ hup.mem) (u := u)
    refine ⟨w', ?_, h2, h3⟩
    show Sem.run P (do Instr.mapUpdate t (a.eval x) (a.eval y) (a.eval z); pure Next.skip) w = _
    rw [ha.ev hx, ha.ev hy, ha.ev hz]
    simp [h1]) h

/-! ### Ranging over a map -/

open Classical in
theorem look_set {k k' v : Value} : ∀ {c : List (Value × Value)}, lookV k (setV k' v c) = if k = k' then some v else lookV k c
  | [] => by simp [setV, lookV]
  | (a, u) :: c => by
    rw [setV]
    by_cases h : k' = a
    · subst h; rw [if_pos rfl]; simp only [lookV]; by_cases h2 : k = k' <;> simp [h2]
    · rw [if_neg h]; simp only [lookV]; rw [look_set]
      by_cases h2 : k = a
      · subst h2; simp [Ne.symm h]
      · simp [h2]
end
end Go.PK

/-
  PK, part I: unsigned integers as words of bits; parts of arrays; copy, make; bytes of a string.
-/
namespace Go.PK

/-! ### Words -/
abbrev B8 := BitVec 8
def U8 (x : B8) : Value := .int .u8 (x.toNat : Int)
theorem u8_wrap (n : Int) : IntKind.u8.wrap n = ((BitVec.ofInt 8 n).toNat : Int) := by
  simp [IntKind.wrap, IntKind.bits, IntKind.signed, BitVec.toNat_ofInt]; omega
abbrev Bin8 (op : BinOp) (f : B8 → B8 → B8) : Prop := ∀ a b : B8, ib op .u8 (a.toNat : Int) (b.toNat : Int) = some (U8 (f a b))
theorem and8 : Bin8 .and (· &&& ·) := fun a b => (by simp [ib, U8, u8_wrap, IntKind.bits]; rfl)
theorem or8 : Bin8 .or (· ||| ·) := fun a b => (by simp [ib, U8, u8_wrap, IntKind.bits]; rfl)
section
variable {P : Program} {L : List Oper} {ef bk : List Nat} {tq : Tq} {Q : Exit → Act → World → Prop} {N : Fm} {E : Env} {w0 : World} {S : List Nat} {I H : List It} {i : Nat} {l : Sq}
variable {d : Nat} {x y z : Operand} {ty t yt : TypeId} {pos : String} {af : Array Edge} {g : Option (Nat × Bool)} {v : Value} {k k' : IntKind} {m n : Int}

theorem RL.bv8 {op : BinOp} {f : B8 → B8 → B8} {a b : B8} (hf : Bin8 op f) (ho : nth L i = some ⟨some d, .binOp op t x y yt, ty, pos, af, g⟩) (hw : wants L E ⟨some d, .binOp op t x y yt, ty, pos, af, g⟩ = true) (hN : Nat.blt d N.n = true)
    (hx : E.ev x = some (U8 a)) (hy : E.ev y = some (U8 b)) (h : RL P L ef bk tq Q l N ((d, U8 (f a b)) :: E) w0 S I H) : RL P L ef bk tq Q (.cons i l) N E w0 S I H :=
  RL.bin ho hw hN hx hy (hf a b) h

/-- Any integer's lowest byte. -/
theorem RL.lowest (hs : ∀ w, (underlying t).run P w = .ok (.int k) w) (hd : ∀ w, (underlying yt).run P w = .ok (.int .u8) w) (ho : nth L i = some ⟨some d, .convert t yt x, ty, pos, af, g⟩) (hw : wants L E ⟨some d, .convert t yt x, ty, pos, af, g⟩ = true) (hN : Nat.blt d N.n = true)
    (hx : E.ev x = some (.int k m)) (h : RL P L ef bk tq Q l N ((d, U8 (BitVec.ofInt 8 m)) :: E) w0 S I H) : RL P L ef bk tq Q (.cons i l) N E w0 S I H :=
  RL.conv hs hd ho hw hN hx (by rw [u8_wrap]; exact h)

/-! ### Places -/
theorem RL.idxAt {e : TypeId} {b off len cap sz j : Nat} (hu : ∀ w, (underlying t).run P w = .ok (.slice e) w) (hs : ∀ w, (sizeOf e).run P w = .ok sz w) (ho : nth L i = some ⟨some d, .indexAddr t x y, ty, pos, af, g⟩) (hw : wants L E ⟨some d, .indexAddr t x y, ty, pos, af, g⟩ = true) (hN : Nat.blt d N.n = true)
    (hx : E.ev x = some (.slice (some ⟨b, off, none⟩) len cap)) (hy : E.ev y = some (.int k n)) (hj : n = (j : Int)) (hlt : j < len) (h : RL P L ef bk tq Q l N ((d, .pointer (some ⟨b, off + j * sz, none⟩)) :: E) w0 S I H) : RL P L ef bk tq Q (.cons i l) N E w0 S I H :=
  RL.idx hu hs ho hw hN hx hy hj hlt (by rw [add_none]; exact h)
theorem RL.idxAAt {e : TypeId} {b off len sz j : Nat} (hu : ∀ w, (underlying t).run P w = .ok (.array len e) w) (hs : ∀ w, (sizeOf e).run P w = .ok sz w) (ho : nth L i = some ⟨some d, .indexAddr t x y, ty, pos, af, g⟩) (hw : wants L E ⟨some d, .indexAddr t x y, ty, pos, af, g⟩ = true) (hN : Nat.blt d N.n = true)
    (hx : E.ev x = some (.pointer (some ⟨b, off, none⟩))) (hy : E.ev y = some (.int k n)) (hj : n = (j : Int)) (hlt : j < len) (h : RL P L ef bk tq Q l N ((d, .pointer (some ⟨b, off + j * sz, none⟩)) :: E) w0 S I H) : RL P L ef bk tq Q (.cons i l) N E w0 S I H :=
  RL.idxA hu hs ho hw hN hx hy hj hlt (by rw [add_none]; exact h)

theorem run_bnd {a : Act} (ha : Ag N a E) {o : Option Operand} {len cap : Nat} {lo : Nat} (hl : bnd E o len = some (lo : Int)) (h : lo ≤ cap) (s : BoundsCode) (w : World) :
    (match o.map a.eval with | some v => Instr.sliceBound v cap s | none => pure len : Sem Nat).run P w = .ok lo w := by
  cases o with
  | none => simp [bnd] at hl; have : len = lo := by omega
            subst this; rfl
  | some o =>
    simp only [bnd] at hl
    split at hl
    · rename_i kk mm he
      have : mm = (lo : Int) := by simpa using hl
      subst this
      simp only [Option.map_some, ha.ev he]
      exact run_bound h
    · cases hl

/-- 'x[lo:hi]' of an array. -/
theorem RL.sliceA {e : TypeId} {b off len sz lo hi : Nat} {ol oh : Option Operand} (hu : ∀ w, (underlying t).run P w = .ok (.array len e) w) (hs : ∀ w, (sizeOf e).run P w = .ok sz w) (ho : nth L i = some ⟨some d, .slice t x ol oh none, ty, pos, af, g⟩) (hw : wants L E ⟨some d, .slice t x ol oh none, ty, pos, af, g⟩ = true) (hN : Nat.blt d N.n = true)
    (hx : E.ev x = some (.pointer (some ⟨b, off, none⟩))) (hl : bnd E ol 0 = some (lo : Int)) (hh : bnd E oh len = some (hi : Int)) (h1 : lo ≤ hi) (h2 : hi ≤ len) (h3 : lo < len)
    (h : RL P L ef bk tq Q l N ((d, .slice (some ⟨b, off + lo * sz, none⟩) (hi - lo) (len - lo)) :: E) w0 S I H) : RL P L ef bk tq Q (.cons i l) N E w0 S I H :=
  RL.pval ho hw rfl hN (fun a w ha => by
    have q1 := run_bnd (P := P) ha hh h2 .sliceAlen w
    have q2 := run_bnd (P := P) ha hl h1 .sliceB w
    have hsb : (Instr.sliceBounds false len len (ol.map a.eval) (oh.map a.eval) none).run P w = .ok (lo, hi, len) w := by
      unfold Instr.sliceBounds
      cases oh with
      | none => cases ol with
        | none => simp at q1 q2 ⊢; exact ⟨q2, q1⟩
        | some o => simp at q1 q2 ⊢; subst q1; simp [q2]
      | some o' => cases ol with
        | none => simp at q1 q2 ⊢; subst q2; simp [q1]
        | some o => simp at q1 q2 ⊢; simp [q1, q2]
    have hne : ¬ len = lo := by omega
    show Sem.run P (do pure (Next.value (← Instr.sliceAt t (a.eval x) (ol.map a.eval) (oh.map a.eval) none))) w = _
    rw [ha.ev hx]
    simp [Instr.sliceAt, Instr.sureAddr, hu, hs, hsb, hne, add_none]) h

/-! ### Copy, make, bytes -/
/-- What is one's own is told from here on, and turns no more. -/
theorem Cls.freeze {x : It} {B : List It} {w : World} (h : Cls w0 S I H w) (hp : Pick H [x] B) : Cls w0 S (x :: I) B w := by
  have hm := hp.perm
  have hnd := hm.nodup_iff.1 h.s.nd
  rw [List.nodup_append] at hnd
  refine ⟨h.k, ⟨fun y hy => ?_, fun y hy => h.s.h y (hp.memB y hy), hnd.2.1, fun b hb hbx => ?_⟩, fun b hb => h.own b (hm.mem_iff.2 (List.mem_append_right _ hb))⟩
  · rcases List.mem_cons.1 hy with rfl | hy
    · exact h.s.h _ (hp.memA _ (by simp))
    · exact h.s.i y hy
  · rw [bss_cons] at hb
    rcases List.mem_append.1 hb with h1 | h1
    · exact hnd.2.2 b (by simpa [PK.bss] using h1) b hbx rfl
    · exact h.s.dj b h1 (hm.mem_iff.2 (List.mem_append_right _ hbx))

theorem zeros_reps {zs : List Value} {n sz : Nat} (hsz : zs.length = sz) (hpos : 0 < sz) : ((Array.range (n * sz)).map fun j => zs.toArray[j % zs.length]!) = (reps zs n).toArray := by
  have hrl : ∀ n, (reps zs n).length = n * sz := by
    intro n; induction n with
    | zero => simp [reps]
    | succ n ih => simp [reps, ih, hsz, Nat.add_mul]; omega
  have hrg : ∀ n j, j < n * sz → (reps zs n)[j]? = zs[j % sz]? := by
    intro n; induction n with
    | zero => intro j hj; simp at hj
    | succ n ih =>
      intro j hj
      simp only [reps, List.getElem?_append, hsz]
      by_cases hjs : j < sz
      · simp [hjs, Nat.mod_eq_of_lt hjs]
      · have hge : sz ≤ j := by omega
        simp only [hjs, if_false]
        rw [ih (j - sz) (by rw [Nat.add_mul] at hj; omega)]
        rw [Nat.mod_eq_sub_mod hge]
  apply Array.ext'
  apply List.ext_getElem?
  intro j
  simp only [Array.toList_map, Array.toList_range, List.getElem?_map]
  by_cases hj : j < n * sz
  · have hjm : j % zs.length < zs.length := by rw [hsz]; exact Nat.mod_lt _ hpos
    have hr := hrg n j hj
    rw [← hsz] at hr
    simp [hj, hr, hjm]
  · have hj' : (reps zs n)[j]? = none := by rw [List.getElem?_eq_none]; rw [hrl]; omega
    simp [hj, hj']

theorem RL.makeSlice {e : TypeId} {ii : TypeInfo} {sz len : Nat} {zs : List Value} {z' : Value} (hu : ∀ w, (underlying t).run P w = .ok (.slice e) w) (hs : ∀ w, (sizeOf e).run P w = .ok sz w) (hti : P.info? e = some ii)
    (hz : ∀ w, (zeroValue e).run P w = .ok z' w) (hzc : z'.cells = zs.toArray) (hsz : zs.length = sz) (hpos : 0 < sz) (hlen : 0 < len) (hb : len * ii.bytes ≤ 1000000) (hl2 : len ≤ 1000000)
    (ho : nth L i = some ⟨some d, .makeSlice t x y, ty, pos, af, g⟩) (hw : wants L E ⟨some d, .makeSlice t x y, ty, pos, af, g⟩ = true) (hN : Nat.blt d N.n = true) (hi : ef.contains i = true)
    (hx : E.ev x = some (.int k n)) (hxn : n = (len : Int)) (hy : E.ev y = some (.int k' m)) (hyn : m = (len : Int))
    (h : ∀ b, RL P L ef bk tq Q l N ((d, .slice (some ⟨b, 0, none⟩) len len) :: E) w0 S I (cel b (reps zs len) e :: H)) : RL P L ef bk tq Q (.cons i l) N E w0 S I H := by
  subst hxn; subst hyn
  refine RL.make (x := fun b => cel b (reps zs len) e) (u := fun b => .slice (some ⟨b, 0, none⟩) len len) ho hw hi rfl hN (fun a w ha _ => ⟨w.alloc (.cells (reps zs len).toArray e), ?_, Keeps.alloc _ _ _, cel_new, rfl⟩) h
  show Sem.run P (do pure (Next.value (← Instr.makeSlice t (a.eval x) (a.eval y)))) w = _
  rw [ha.ev hx, ha.ev hy]
  have hw1 : IntKind.i64.wrap (len : Int) = len := IntWalk.i64_in _ (by omega)
  have hti' : ∀ w, (typeInfo e).run P w = .ok ii w := fun w => by simp [typeInfo, hti]
  have h0 : ¬ len * sz = 0 := Nat.mul_ne_zero (by omega) (by omega)
  have hzz := zeros_reps (n := len) hsz hpos
  have e1 : ¬ ((len : Int) < 0) := by omega
  have e2 : ¬ ((ii.bytes : Int) * (len : Int) > 281474976710656) := by
    have : (ii.bytes : Int) * (len : Int) = ((len * ii.bytes : Nat) : Int) := by rw [Int.mul_comm]; simp
    omega
  simp only [Instr.makeSlice, Sem.run_bind, hu, asInt, hti', Result.andThen_ok]
  simp [e1, e2, h0, hw1, askRoom, newRow, hs, hz, hzc, asIntOf]
  rw [← hzz]; simp

/-! ### Handy forms -/
theorem Rd.get {b off : Nat} {cs : List Value} {T : TypeId} (hm : PK.cel b cs T ∈ H) (hn : cs[off]? = some v) : Rd I H ⟨b, off, none⟩ v := .cel hm (by rw [nth_eq]; exact hn)
theorem Rd.getI {b off : Nat} {cs : List Value} {T : TypeId} (hm : PK.cel b cs T ∈ I) (hn : cs[off]? = some v) : Rd I H ⟨b, off, none⟩ v := .celI hm (by rw [nth_eq]; exact hn)
theorem Rd.getS {p : Addr} {sz n j : Nat} {xs : List Value} (hm : PK.sls (some p) sz n xs ∈ I) (hn : xs[j]? = some v) : Rd I H (p.add j) v := (Rds.sls hm).rd hn
theorem Rd.getO {b cap sz n j : Nat} {e : TypeId} {xs : List Value} (hm : PK.own (some b) cap e sz n xs ∈ H) (hn : xs[j]? = some v) : Rd I H ((⟨b, 0, none⟩ : Addr).add j) v := (Rds.own hm).rd hn
theorem Rds.all {b : Nat} {cs : List Value} {T : TypeId} (hm : PK.cel b cs T ∈ H) : Rds I H ⟨b, 0, none⟩ cs := .cel hm (fun j u h => by rw [Nat.zero_add]; exact h)
theorem Rds.allI {b : Nat} {cs : List Value} {T : TypeId} (hm : PK.cel b cs T ∈ I) : Rds I H ⟨b, 0, none⟩ cs := .celI hm (fun j u h => by rw [Nat.zero_add]; exact h)

theorem RL.storeX {b off : Nat} {cs vs cs' : List Value} {T : TypeId} {H' : List It} (he : spl cs off vs = cs') (hs : ∀ w, (sizeOf t).run P w = .ok vs.length w) (ho : nth L i = some ⟨none, .store t x y, ty, pos, af, g⟩) (hw : wants L E ⟨none, .store t x y, ty, pos, af, g⟩ = true)
    (hi : ef.contains i = true) (hb : bk.contains i = true) (hx : E.ev x = some (.pointer (some ⟨b, off, none⟩))) (hy : E.ev y = some v) (hc : v.cells = vs.toArray) (h1 : ones vs = true)
    (hu : Upd H (PK.cel b cs T) (PK.cel b cs' T) H') (hl : off + vs.length ≤ cs.length) (h : RL P L ef bk tq Q l N E w0 S I H') : RL P L ef bk tq Q (.cons i l) N E w0 S I H := by
  subst he
  exact RL.store hs ho hw hi hb hx hy hc h1 (by simpa using hl) hu h

/-- An element's place in a slice that begins within another. -/
theorem RL.idxS {e : TypeId} {p : Addr} {len cap sz j q : Nat} (hu : ∀ w, (underlying t).run P w = .ok (.slice e) w) (hs : ∀ w, (sizeOf e).run P w = .ok sz w) (ho : nth L i = some ⟨some d, .indexAddr t x y, ty, pos, af, g⟩) (hw : wants L E ⟨some d, .indexAddr t x y, ty, pos, af, g⟩ = true) (hN : Nat.blt d N.n = true)
    (hx : E.ev x = some (.slice (some (p.add q)) len cap)) (hy : E.ev y = some (.int k n)) (hj : n = (j : Int)) (hlt : j < len) (h : RL P L ef bk tq Q l N ((d, .pointer (some (p.add (q + j * sz)))) :: E) w0 S I H) : RL P L ef bk tq Q (.cons i l) N E w0 S I H :=
  RL.idx hu hs ho hw hN hx hy hj hlt (by rw [add_add]; exact h)

theorem spl_one {cs : List Value} {j : Nat} {v : Value} (h : j < cs.length) : spl cs j [v] = cs.take j ++ [v] ++ cs.drop (j + 1) := spl_eq _ _ _ (by simp; omega)

theorem spl_all : ∀ {cs vs : List Value}, vs.length = cs.length → spl cs 0 vs = vs
  | [], [], _ => rfl
  | c :: cs, v :: vs, h => by simp only [List.length_cons, Nat.add_right_cancel_iff] at h; simp [spl, spl_all h]
  | [], v :: vs, h => by simp at h
  | c :: cs, [], h => by simp at h

theorem Src.celAt {b off mm sz : Nat} {cs : List Value} {T : TypeId} (hm : PK.cel b cs T ∈ H) (hl : off + mm * sz ≤ cs.length) : Src I H (some ⟨b, off, none⟩) mm sz ((cs.drop off).take (mm * sz)) := fun w hw =>
  ⟨by rw [List.length_take, List.length_drop]; omega, fun h => (by cases h), fun a h j u hj => by
    cases h
    rw [add_none, cell_of_cel (hw.h _ hm)]
    rw [List.getElem?_take] at hj
    split at hj
    · rw [List.getElem?_drop] at hj; exact hj
    · cases hj⟩

theorem ones_map {α : Type} {f : α → Value} (h : ∀ a, (f a).oneCell' = true) : ∀ l : List α, ones (l.map f) = true
  | [] => rfl
  | a :: l => by simp [ones, h a, ones_map h l]
theorem one_map {α : Type} {f : α → Value} (h : ∀ a, (f a).oneCell' = true) (l : List α) : ∀ u ∈ l.map f, u.oneCell' = true := by
  intro u hu
  obtain ⟨a, _, rfl⟩ := List.mem_map.1 hu
  exact h a

end
end Go.PK

/-
  PK, part J: slices that are told: appended to without room, lent in parts, told otherwise.
-/
namespace Go.PK

section
variable {P : Program} {L : List Oper} {ef bk : List Nat} {tq : Tq} {Q : Exit → Act → World → Prop} {N : Fm} {E : Env} {w0 : World} {S : List Nat} {I H : List It} {i : Nat} {l : Sq}
variable {d : Nat} {x y z : Operand} {ty t yt : TypeId} {pos : String} {af : Array Edge} {g : Option (Nat × Bool)} {v : Value} {k k' : IntKind} {m n : Int}

/-- A part of a slice, as one takes it. -/
theorem sls_sub {p : Option Addr} {sz nn lo k cap : Nat} {xs : List Value} {w : World} (h : (sls p sz nn xs).A w) (hk : lo + k ≤ nn) (hc : nn ≤ cap) : (sls (if cap = lo then p else p.map (·.add (lo * sz))) sz k ((xs.drop (lo * sz)).take (k * sz))).A w := by
  obtain ⟨h1, h2⟩ := h
  have hm : (lo + k) * sz ≤ nn * sz := Nat.mul_le_mul_right _ hk
  rw [Nat.add_mul] at hm
  have hlen : ((xs.drop (lo * sz)).take (k * sz)).length = k * sz := by rw [List.length_take, List.length_drop, h1]; omega
  by_cases hcl : cap = lo
  · have hk0 : k = 0 := by omega
    subst hk0
    rw [if_pos hcl]
    cases p with
    | none => exact ⟨hlen, rfl⟩
    | some a => exact ⟨hlen, fun h => absurd rfl h, fun j u hj => by simp at hj⟩
  · rw [if_neg hcl]
    cases p with
    | none =>
      refine ⟨hlen, ?_⟩
      show k = 0
      have : nn = 0 := h2
      omega
    | some a =>
      refine ⟨hlen, fun hk0 => ?_, fun j u hj => ?_⟩
      · have : ((a.add (lo * sz))).block = a.block := by unfold Addr.add; split <;> rfl
        show (a.add (lo * sz)).block < _
        rw [this]; exact h2.1 (by omega)
      · rw [add_add]
        refine h2.2 (lo * sz + j) u ?_
        rw [List.getElem?_take] at hj
        split at hj
        · rw [List.getElem?_drop] at hj; exact hj
        · cases hj
theorem bs_sub {p : Option Addr} {sz nn lo k cap : Nat} {xs ys : List Value} (hk : lo + k ≤ nn) : ∀ c ∈ (sls (if cap = lo then p else p.map (·.add (lo * sz))) sz k ys).bs, c ∈ (sls p sz nn xs).bs := by
  intro c hc
  have hb : ∀ a : Addr, (a.add (lo * sz)).block = a.block := fun a => by unfold Addr.add; split <;> rfl
  by_cases hk0 : k = 0
  · subst hk0; simp [sls] at hc
  · have : ¬ nn = 0 := by omega
    cases p with
    | none => simp [sls, hk0] at hc
    | some a =>
      by_cases hcl : cap = lo
      · simpa [sls, hk0, this, hcl] using hc
      · simpa [sls, hk0, this, hcl, hb] using hc

/-- All that is one's own is told from here on. -/
theorem CW.freezeAll {I' : List It} {c : Code} (he : H ++ I = I') (h : CW P c Q N E w0 S I' []) : CW P c Q N E w0 S I H := fun a w ha hw => h a w ha (by
  subst he
  refine ⟨hw.k, ⟨fun x hx => ?_, by simp, by simp, by simp⟩, by simp⟩
  rcases List.mem_append.1 hx with hx | hx
  · exact hw.s.h x hx
  · exact hw.s.i x hx)
/-- Some of one's own things are told from here on. -/
theorem CW.freezeP {A B I' : List It} {c : Code} (hp : Pick H A B) (he : A ++ I = I') (h : CW P c Q N E w0 S I' B) : CW P c Q N E w0 S I H := fun a w ha hw => h a w ha (by
  subst he
  have hperm := hp.perm
  have hnd : (bss A ++ bss B).Nodup := hperm.nodup_iff.1 hw.s.nd
  rw [List.nodup_append] at hnd
  refine ⟨hw.k, ⟨fun x hx => ?_, fun x hx => hw.s.h x (hp.memB x hx), hnd.2.1, fun b hb hb' => ?_⟩, fun b hb => hw.own b (hperm.mem_iff.2 (List.mem_append_right _ hb))⟩
  · rcases List.mem_append.1 hx with hx | hx
    · exact hw.s.h x (hp.memA x hx)
    · exact hw.s.i x hx
  · rw [bss_append] at hb
    rcases List.mem_append.1 hb with hb | hb
    · exact hnd.2.2 b hb b hb' rfl
    · exact hw.s.dj b hb (hperm.mem_iff.2 (List.mem_append_right _ hb')))

end
end Go.PK

/-
  PK, part K: arrays of bytes compared; a fact at a round's end; what is one's own told from here on.
-/
namespace Go.PK

section
variable {P : Program} {L : List Oper} {ef bk : List Nat} {tq : Tq} {Q : Exit → Act → World → Prop} {N : Fm} {E : Env} {w0 : World} {S : List Nat} {I H : List It} {i : Nat} {l : Sq}
variable {d : Nat} {x y z : Operand} {ty t yt : TypeId} {pos : String} {af : Array Edge} {g : Option (Nat × Bool)} {v : Value} {k k' : IntKind} {m n : Int}

theorem run_eqItems8 {e : TypeId} (hag : ∀ w, (isAgg e).run P w = .ok false w) (hu : ∀ w, (underlying e).run P w = .ok (.int .u8) w) (dd : Nat) (l1 l2 : List B8) : ∀ (is : List Nat) (w : World), (∀ i ∈ is, i < l1.length ∧ i < l2.length) →
    (Op.eqItems (dd + 1) e 1 (l1.map U8).toArray (l2.map U8).toArray is).run P w = .ok (is.all fun i => l1[i]? == l2[i]?) w
  | [], w, _ => by simp [Op.eqItems]
  | i :: is, w, h => by
    obtain ⟨h1, h2⟩ := h i (by simp)
    have ih := run_eqItems8 hag hu dd l1 l2 is w (fun j hj => h j (by simp [hj]))
    have p1 : (Go.part e (l1.map U8).toArray (i * 1)).run P w = .ok (U8 l1[i]) w := by simp [Go.part, hag, h1]
    have p2 : (Go.part e (l2.map U8).toArray (i * 1)).run P w = .ok (U8 l2[i]) w := by simp [Go.part, hag, h2]
    have p3 : (Op.equalIn (dd + 1) e (U8 l1[i]) (U8 l2[i])).run P w = .ok (l1[i] == l2[i]) w := by
      have he : ((l1[i].toNat : Int) == (l2[i].toNat : Int)) = (l1[i] == l2[i]) := by
        rw [Bool.eq_iff_iff]
        simp only [beq_iff_eq]
        exact ⟨fun hh => BitVec.eq_of_toNat_eq (by omega), fun hh => by rw [hh]⟩
      rw [Op.equalIn.eq_2, ← he]
      unfold U8
      generalize (l1[i].toNat : Int) = p
      generalize (l2[i].toNat : Int) = q
      simp [hu]
    simp only [Op.eqItems, Sem.run_bind, p1, p2, p3, Result.andThen_ok, List.all_cons]
    by_cases he : l1[i] = l2[i]
    · simp [he, ih, h1, h2]
    · simp [he, h1, h2]

end
end Go.PK
