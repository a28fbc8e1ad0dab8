import Derived.Test.YthgjgeapfndeeaaGreatDoorPB
import Derived.ChangeKeysEq
set_option linter.unusedVariables false
set_option linter.unusedSimpArgs false
/-
  PK, part H: comparisons; maps.
-/
namespace Go.PK

section
variable {P : Program} {L : List Oper} {ef bk : List Nat} {tq : Tq} {Q : Exit → Act → World → Prop} {N : Fm} {E : Env} {w0 : World} {S : List Nat} {I H : List It} {i : Nat} {l : Sq}
variable {d : Nat} {x y z : Operand} {ty t yt : TypeId} {pos : String} {af : Array Edge} {g : Option (Nat × Bool)} {v : Value} {k k' : IntKind} {m n : Int}

/-! ### Comparisons -/

theorem RL.cmp {op : BinOp} {a b : Value} (ho : nth L i = some ⟨some d, .binOp op t x y yt, ty, pos, af, g⟩) (hw : wants L E ⟨some d, .binOp op t x y yt, ty, pos, af, g⟩ = true) (hN : Nat.blt d N.n = true)
    (hx : E.ev x = some a) (hy : E.ev y = some b) (hr : ∀ w, (do eqGuard op t x y a b; binOp op t a b : Sem Value).run P w = .ok v w) (h : RL P L ef bk tq Q l N ((d, v) :: E) w0 S I H) : RL P L ef bk tq Q (.cons i l) N E w0 S I H :=
  RL.pval ho hw rfl hN (fun ac w ha => by
    have := hr w
    show Sem.run P (do pure (Next.value (← (do eqGuard op t x y (ac.eval x) (ac.eval y); binOp op t (ac.eval x) (ac.eval y) : Sem Value)))) w = _
    rw [ha.ev hx, ha.ev hy, Sem.run_bind, this]
    rfl) h

theorem equal_ptr {e : TypeId} (hu : ∀ w, (underlying t).run P w = .ok (.pointer e) w) (p : Option Addr) (w : World) : (Op.equal t (.pointer p) (.pointer none)).run P w = .ok p.isNone w := by
  unfold Op.equal
  rw [show Op.maxDepth = 9999 + 1 from rfl, Op.equalIn.eq_2]
  cases p <;> simp [hu]
theorem eql_ptr {e : TypeId} (hu : ∀ w, (underlying t).run P w = .ok (.pointer e) w) (p : Option Addr) (w : World) : (do eqGuard .eql t x y (.pointer p) (.pointer none); binOp .eql t (.pointer p) (.pointer none) : Sem Value).run P w = .ok (.bool p.isNone) w := by
  simp [eqGuard, binOp, equal_ptr hu p]
theorem neq_ptr {e : TypeId} (hu : ∀ w, (underlying t).run P w = .ok (.pointer e) w) (p : Option Addr) (w : World) : (do eqGuard .neq t x y (.pointer p) (.pointer none); binOp .neq t (.pointer p) (.pointer none) : Sem Value).run P w = .ok (.bool (!p.isNone)) w := by
  simp [eqGuard, binOp, equal_ptr hu p]
theorem equal_map {a b : TypeId} (hu : ∀ w, (underlying t).run P w = .ok (.map a b) w) (p : Option Nat) (w : World) : (Op.equal t (.map p) (.map none)).run P w = .ok p.isNone w := by
  unfold Op.equal
  rw [show Op.maxDepth = 9999 + 1 from rfl, Op.equalIn.eq_2]
  cases p <;> simp [hu]
theorem eql_map {a b : TypeId} (hu : ∀ w, (underlying t).run P w = .ok (.map a b) w) (p : Option Nat) (w : World) : (do eqGuard .eql t x y (.map p) (.map none); binOp .eql t (.map p) (.map none) : Sem Value).run P w = .ok (.bool p.isNone) w := by
  simp [eqGuard, binOp, equal_map hu p]
theorem neq_map {a b : TypeId} (hu : ∀ w, (underlying t).run P w = .ok (.map a b) w) (p : Option Nat) (w : World) : (do eqGuard .neq t x y (.map p) (.map none); binOp .neq t (.map p) (.map none) : Sem Value).run P w = .ok (.bool (!p.isNone)) w := by
  simp [eqGuard, binOp, equal_map hu p]
theorem equal_slice {a : TypeId} (hu : ∀ w, (underlying t).run P w = .ok (.slice a) w) (p : Option Addr) (len cap : Nat) (w : World) : (Op.equal t (.slice p len cap) (.slice none 0 0)).run P w = .ok p.isNone w := by
  unfold Op.equal
  rw [show Op.maxDepth = 9999 + 1 from rfl, Op.equalIn.eq_2]
  cases p <;> simp [hu]
theorem eql_slice {a : TypeId} (hu : ∀ w, (underlying t).run P w = .ok (.slice a) w) (p : Option Addr) (len cap : Nat) (w : World) : (do eqGuard .eql t x y (.slice p len cap) (.slice none 0 0); binOp .eql t (.slice p len cap) (.slice none 0 0) : Sem Value).run P w = .ok (.bool p.isNone) w := by
  simp [eqGuard, binOp, equal_slice hu p len cap]
theorem neq_slice {a : TypeId} (hu : ∀ w, (underlying t).run P w = .ok (.slice a) w) (p : Option Addr) (len cap : Nat) (w : World) : (do eqGuard .neq t x y (.slice p len cap) (.slice none 0 0); binOp .neq t (.slice p len cap) (.slice none 0 0) : Sem Value).run P w = .ok (.bool (!p.isNone)) w := by
  simp [eqGuard, binOp, equal_slice hu p len cap]
theorem equal_bool  (hu : ∀ w, (underlying t).run P w = .ok (.bool) w) (p q : Bool) (w : World) : (Op.equal t (.bool p) (.bool q)).run P w = .ok (p == q) w := by
  unfold Op.equal
  rw [show Op.maxDepth = 9999 + 1 from rfl, Op.equalIn.eq_2]
  cases p <;> simp [hu]
theorem eql_bool  (hu : ∀ w, (underlying t).run P w = .ok (.bool) w) (p q : Bool) (w : World) : (do eqGuard .eql t x y (.bool p) (.bool q); binOp .eql t (.bool p) (.bool q) : Sem Value).run P w = .ok (.bool (p == q)) w := by
  simp [eqGuard, binOp, equal_bool hu p q]
theorem neq_bool  (hu : ∀ w, (underlying t).run P w = .ok (.bool) w) (p q : Bool) (w : World) : (do eqGuard .neq t x y (.bool p) (.bool q); binOp .neq t (.bool p) (.bool q) : Sem Value).run P w = .ok (.bool (!(p == q))) w := by
  simp [eqGuard, binOp, equal_bool hu p q]

/-! ### Maps -/

open Classical in
/-- Two values are one. -/
noncomputable def same (a b : Value) : Bool := decide (a = b)

theorem same_iff {a b : Value} : same a b = true ↔ a = b := by simp [same]

/-- Keys whose equality is the model's own. -/
structure KeyT (P : Program) (kt : TypeId) (good : Value → Prop) : Prop where
  desc : ∃ D, (∀ w, (underlying kt).run P w = .ok D w) ∧ ∀ a b, good a → good b → Instr.sameNow D a b = none ∨ Instr.sameNow D a b = some (same a b)
  eq : ∀ a b, good a → good b → ∀ w, (Op.equal kt a b).run P w = .ok (same a b) w
  chk : ∀ a, good a → ∀ e w, (Instr.checkKey e 10000 kt a).run P w = .ok () w
  bits : ∀ a, good a → Instr.sameBits 10000 a a = true

noncomputable def findL (k : Value) : List MapEntry → Nat → Option (Nat × Value)
  | [], _ => none
  | e :: es, i => open Classical in if k = e.key then some (i, e.val) else findL k es (i + 1)

theorem run_findAsking {kt : TypeId} {good : Value → Prop} (K : KeyT P kt good) {k : Value} (hk : good k) : ∀ (es : List MapEntry) (i : Nat) (w : World), (∀ e ∈ es, good e.key) → (Instr.findAsking kt k es i).run P w = .ok (findL k es i) w
  | [], i, w, _ => by simp [Instr.findAsking, findL]
  | e :: es, i, w, hg => by
    have h1 := K.eq k e.key hk (hg e (by simp)) w
    have h2 := run_findAsking K hk es (i + 1) w (fun e he => hg e (by simp [he]))
    by_cases hke : k = e.key
    · subst hke; simp [Instr.findAsking, findL, h1, same]
    · simp [Instr.findAsking, findL, h1, same, hke, h2]

theorem findNow_eq {D : TypeDesc} {good : Value → Prop} (hD : ∀ a b, good a → good b → Instr.sameNow D a b = none ∨ Instr.sameNow D a b = some (same a b)) {k : Value} (hk : good k) :
    ∀ (es : List MapEntry) (i : Nat), (∀ e ∈ es, good e.key) → Instr.findNow D k es i = none ∨ Instr.findNow D k es i = some (findL k es i)
  | [], i, _ => .inr rfl
  | e :: es, i, hg => by
    rcases hD k e.key hk (hg e (by simp)) with h | h
    · left; simp [Instr.findNow, h]
    · by_cases hke : k = e.key
      · right; subst hke; simp [Instr.findNow, h, findL, same]
      · rcases findNow_eq hD hk es (i + 1) (fun e he => hg e (by simp [he])) with h2 | h2
        · left; simp [Instr.findNow, h, same, hke, h2]
        · right; simp [Instr.findNow, h, same, hke, h2, findL]

theorem run_findKey {kt : TypeId} {good : Value → Prop} (K : KeyT P kt good) {k : Value} (hk : good k) (es : List MapEntry) (w : World) (hg : ∀ e ∈ es, good e.key) : (Instr.findKey kt k es).run P w = .ok (findL k es 0) w := by
  obtain ⟨D, hu, hD⟩ := K.desc
  rcases findNow_eq hD hk es 0 hg with h | h
  · simp [Instr.findKey, hu, h, run_findAsking K hk es 0 w hg]
  · simp [Instr.findKey, hu, h]

def kvs (es : List MapEntry) : List (Value × Value) := es.map fun e => (e.key, e.val)

/-- A map: what it holds, key by key, in the order in which the keys came. -/
def mapI (r : Nat) (good : Value → Prop) (c : List (Value × Value)) : It where
  bs := [r]
  A w := ∃ es clock, w.heap[r]? = some (.map es clock) ∧ kvs es.toList = c ∧ (c.map (·.1)).Nodup ∧ (∀ p ∈ c, good p.1) ∧ (es.toList.map (·.born)).Nodup ∧ ∀ e ∈ es.toList, e.born < clock
  fr w w' h hA := by
    obtain ⟨es, clock, h1, rest⟩ := hA
    exact ⟨es, clock, by rw [h r (by simp)]; exact h1, rest⟩
  lt w hA b hb := by
    obtain ⟨es, clock, h1, rest⟩ := hA
    have : b = r := by simpa using hb
    subst this
    exact (Array.getElem?_eq_some_iff.1 h1).1

open Classical in
/-- What a key leads to. -/
noncomputable def lookV (k : Value) : List (Value × Value) → Option Value
  | [] => none
  | (a, v) :: r => if k = a then some v else lookV k r

theorem findL_look {k : Value} : ∀ (es : List MapEntry) (i : Nat), (findL k es i).map (·.2) = lookV k (kvs es)
  | [], _ => rfl
  | e :: es, i => by
    by_cases h : k = e.key
    · simp [findL, kvs, lookV, h]
    · have := findL_look (k := k) es (i + 1)
      simp only [kvs] at this
      simp [findL, kvs, lookV, h, this]

theorem good_of_kvs {good : Value → Prop} {es : List MapEntry} {c : List (Value × Value)} (h : kvs es = c) (hg : ∀ p ∈ c, good p.1) : ∀ e ∈ es, good e.key := fun e he =>
  hg (e.key, e.val) (by rw [← h]; exact List.mem_map.2 ⟨e, he, rfl⟩)

/-- What is told of a map in every world of the class. -/
def MapAt (I H : List It) (r : Nat) (good : Value → Prop) (c : List (Value × Value)) : Prop := ∀ w, Sat I H w → (mapI r good c).A w

theorem MapAt.own {r : Nat} {good : Value → Prop} {c : List (Value × Value)} (hm : mapI r good c ∈ H) : MapAt I H r good c := fun _ hw => hw.h _ hm
theorem MapAt.told {r : Nat} {good : Value → Prop} {c : List (Value × Value)} (hm : mapI r good c ∈ I) : MapAt I H r good c := fun _ hw => hw.i _ hm

open Classical in
/-- A key's value laid in. -/
noncomputable def setV (k v : Value) : List (Value × Value) → List (Value × Value)
  | [] => [(k, v)]
  | (a, u) :: r => if k = a then (k, v) :: r else (a, u) :: setV k v r

open Classical in
/-- A key taken out. -/
noncomputable def delV (k : Value) : List (Value × Value) → List (Value × Value)
  | [] => []
  | (a, u) :: r => if k = a then r else (a, u) :: delV k r

theorem mem_setV {k v : Value} : ∀ {c : List (Value × Value)} {p : Value × Value}, p ∈ setV k v c → p = (k, v) ∨ p ∈ c
  | [], p, h => by simp [setV] at h; exact .inl h
  | (a, u) :: r, p, h => by
    by_cases hk : k = a
    · subst hk; simp [setV] at h; rcases h with h | h <;> simp [h]
    · simp [setV, hk] at h
      rcases h with h | h
      · simp [h]
      · rcases mem_setV h with h | h <;> simp [h]

open Classical in
theorem keys_setV {k v : Value} : ∀ (c : List (Value × Value)), (setV k v c).map (·.1) = if k ∈ c.map (·.1) then c.map (·.1) else c.map (·.1) ++ [k]
  | [] => by simp [setV]
  | (a, u) :: r => by
    by_cases hk : k = a
    · subst hk; simp [setV]
    · have ih := keys_setV (k := k) (v := v) r
      simp only [setV, hk, if_false, List.map_cons, ih, List.mem_cons, false_or]
      split <;> simp

theorem nodup_setV {k v : Value} {c : List (Value × Value)} (h : (c.map (·.1)).Nodup) : ((setV k v c).map (·.1)).Nodup := by
  rw [keys_setV]
  split
  · exact h
  · rename_i hn
    rw [List.nodup_append]
    exact ⟨h, by simp, fun a ha b hb => by have : b = k := by simpa using hb
                                           subst this; exact fun e => hn (e ▸ ha)⟩

theorem delV_sublist {k : Value} : ∀ (c : List (Value × Value)), (delV k c).Sublist c
  | [] => List.Sublist.refl _
  | (a, u) :: r => by
    by_cases hk : k = a
    · simp [delV, hk]
    · simp only [delV, hk, if_false]; exact (delV_sublist r).cons_cons _

theorem setObj_run {r : Nat} {o o' : Obj} {w : World} (h : w.heap[r]? = some o) (hc : ∀ c e f, o ≠ .cells c e f) : (setObj r o').run P w = .ok () { w with heap := w.heap.setIfInBounds r o' } := by
  simp only [setObj, Sem.run, h]

theorem Keeps.setObj {w : World} {r : Nat} {o : Obj} : Keeps [r] w { w with heap := w.heap.setIfInBounds r o } :=
  ⟨rfl, rfl, rfl, by simp, fun b _ hn => by
    have : r ≠ b := fun e => hn (by simp [e])
    simp [Array.getElem?_setIfInBounds_ne this], Nat.le_refl _⟩

theorem heap_setObj {w : World} {r : Nat} {o o' : Obj} (h : w.heap[r]? = some o') : ({ w with heap := w.heap.setIfInBounds r o } : World).heap[r]? = some o := by
  have hlt := (Array.getElem?_eq_some_iff.1 h).1
  simp [hlt]

theorem findL_some {k : Value} : ∀ {es : List MapEntry} {i j : Nat} {v : Value}, findL k es i = some (j, v) → i ≤ j ∧ ∃ e, es[j - i]? = some e ∧ e.key = k ∧ e.val = v ∧ ∀ q < j - i, ∀ e', es[q]? = some e' → e'.key ≠ k
  | [], i, j, v, h => by cases h
  | e :: es, i, j, v, h => by
    by_cases hk : k = e.key
    · simp only [findL, hk, if_true, Option.some.injEq, Prod.mk.injEq] at h
      obtain ⟨rfl, rfl⟩ := h
      exact ⟨Nat.le_refl _, e, by simp, hk.symm, rfl, fun q hq => by omega⟩
    · simp only [findL, hk, if_false] at h
      obtain ⟨h1, e', h2, h3, h4, h5⟩ := findL_some h
      refine ⟨by omega, e', ?_, h3, h4, ?_⟩
      · rw [show j - i = (j - (i + 1)) + 1 by omega]; simpa using h2
      · intro q hq e2 he2
        cases q with
        | zero => simp at he2; subst he2; exact fun h => hk h.symm
        | succ q => simp at he2; exact h5 q (by omega) e2 he2

theorem findL_none {k : Value} : ∀ {es : List MapEntry} {i : Nat}, findL k es i = none → ∀ e ∈ es, e.key ≠ k
  | [], _, _, e, he => by cases he
  | e0 :: es, i, h, e, he => by
    by_cases hk : k = e0.key
    · simp [findL, hk] at h
    · simp only [findL, hk, if_false] at h
      rcases List.mem_cons.1 he with rfl | he
      · exact fun h => hk h.symm
      · exact findL_none h e he

theorem setV_at {k v : Value} : ∀ (es : List MapEntry) (j : Nat) (e : MapEntry), es[j]? = some e → e.key = k → (∀ q < j, ∀ e', es[q]? = some e' → e'.key ≠ k) → kvs (es.set j { e with key := k, val := v }) = setV k v (kvs es)
  | [], j, e, h, _, _ => by simp at h
  | e0 :: es, 0, e, h, hk, _ => by
    simp at h; subst h; simp [kvs, setV, hk]
  | e0 :: es, j + 1, e, h, hk, hn => by
    have h0 : k ≠ e0.key := fun h => hn 0 (by omega) e0 (by simp) h.symm
    have := setV_at (v := v) es j e (by simpa using h) hk (fun q hq e' he' => hn (q + 1) (by omega) e' (by simpa using he'))
    simp only [kvs] at this
    simp [kvs, setV, h0, this]

theorem setV_new {k v : Value} {b : Nat} : ∀ (es : List MapEntry), (∀ e ∈ es, e.key ≠ k) → kvs (es ++ [{ key := k, val := v, born := b }]) = setV k v (kvs es)
  | [], _ => by simp [kvs, setV]
  | e0 :: es, hn => by
    have h0 : k ≠ e0.key := fun h => hn e0 (by simp) h.symm
    have := setV_new (b := b) (v := v) es (fun e he => hn e (by simp [he]))
    have e1 : kvs (e0 :: es ++ [{ key := k, val := v, born := b }]) = (e0.key, e0.val) :: kvs (es ++ [{ key := k, val := v, born := b }]) := rfl
    have e2 : kvs (e0 :: es) = (e0.key, e0.val) :: kvs es := rfl
    rw [e1, this, e2, setV, if_neg h0]

theorem run_mapUpdate {kt et : TypeId} {good : Value → Prop} {r : Nat} {c : List (Value × Value)} {key u : Value} {w : World} (K : KeyT P kt good) (hu : ∀ w, (underlying t).run P w = .ok (.map kt et) w) (hk : good key) (hA : (mapI r good c).A w) :
    ∃ w', (Instr.mapUpdate t (.map (some r)) key u).run P w = .ok () w' ∧ Keeps [r] w w' ∧ (mapI r good (setV key u c)).A w' := by
  obtain ⟨es, clock, h1, h2, h3, h4, h5, h6⟩ := hA
  have hf := run_findKey K hk es.toList w (good_of_kvs h2 h4)
  have hgo : (getObj r).run P w = .ok (.map es clock) w := by simp [getObj, Sem.run, h1]
  have hg' : ∀ p ∈ setV key u c, good p.1 := fun p hp => by
    rcases mem_setV hp with rfl | hp
    · exact hk
    · exact h4 p hp
  cases hfl : findL key es.toList 0 with
  | none =>
    refine ⟨{ w with heap := w.heap.setIfInBounds r (.map (es.push { key := key, val := u, born := clock }) (clock + 1)) }, ?_, Keeps.setObj, ⟨_, _, heap_setObj h1, ?_, nodup_setV h3, hg', ?_, ?_⟩⟩
    · simp [Instr.mapUpdate, hu, hgo, K.chk key hk, hf, hfl, setObj_run h1 (by simp)]
    · rw [Array.toList_push, setV_new es.toList (findL_none hfl), h2]
    · rw [Array.toList_push, List.map_append, List.nodup_append]
      exact ⟨h5, by simp, fun a ha b hb => by
        obtain ⟨e, he, rfl⟩ := List.mem_map.1 ha
        have := h6 e he
        simp at hb; omega⟩
    · intro e he
      rw [Array.toList_push] at he
      rcases List.mem_append.1 he with he | he
      · have := h6 e he; omega
      · simp at he; subst he; simp
  | some p =>
    obtain ⟨j, v0⟩ := p
    obtain ⟨_, e, g1, g2, g3, g4⟩ := findL_some hfl
    simp only [Nat.sub_zero] at g1 g4
    have hst : (Instr.keyThatStays ((es[j]?.map (·.key)).getD key) key).run P w = .ok key w := by
      have : (es[j]?.map (·.key)).getD key = key := by
        have : es[j]? = some e := by simpa using g1
        simp [this, g2]
      rw [this]
      simp [Instr.keyThatStays, K.bits key hk]
    refine ⟨{ w with heap := w.heap.setIfInBounds r (.map (es.modify j fun e => { e with key := key, val := u }) clock) }, ?_, Keeps.setObj, ⟨_, _, heap_setObj h1, ?_, nodup_setV h3, hg', ?_, ?_⟩⟩
    · simp only [Instr.mapUpdate, Sem.run_bind, hu, Result.andThen_ok, hgo, K.chk key hk, hf, hfl, hst, setObj_run h1 (by simp)]
    · have hm : (es.modify j fun e => { e with key := key, val := u }).toList = es.toList.set j { e with key := key, val := u } := by
        apply List.ext_getElem?
        intro q
        simp only [Array.toList_modify, List.getElem?_modify, List.getElem?_set]
        by_cases hq : j = q
        · subst hq
          have hlt : j < es.size := by simpa using (List.getElem?_eq_some_iff.1 g1).1
          rw [g1]; simp [hlt]
        · simp [hq]
      rw [hm, setV_at es.toList j e g1 g2 g4, h2]
    · have : (es.modify j fun e => { e with key := key, val := u }).toList.map (·.born) = es.toList.map (·.born) := by
        apply List.ext_getElem?
        intro q
        simp only [Array.toList_modify, List.getElem?_map, List.getElem?_modify]
        cases es.toList[q]? with
        | none => simp
        | some e2 => by_cases hq : j = q <;> simp [hq]
      rw [this]; exact h5
    · intro e' he'
      rw [Array.toList_modify] at he'
      obtain ⟨q, hq, rfl⟩ := List.mem_iff_getElem.1 he'
      have := h6 (es.toList[q]'(by simpa using hq)) (List.getElem_mem _)
      rw [List.getElem_modify]
      split <;> exact this

theorem RL.mapUpdate {kt et : TypeId} {good : Value → Prop} {r : Nat} {c : List (Value × Value)} {key u : Value} {H' : List It} (K : KeyT P kt good) (hu : ∀ w, (underlying t).run P w = .ok (.map kt et) w)
    (ho : nth L i = some ⟨none, .mapUpdate t x y z, ty, pos, af, g⟩) (hw : wants L E ⟨none, .mapUpdate t x y z, ty, pos, af, g⟩ = true) (hi : ef.contains i = true) (hb : bk.contains i = true)
    (hx : E.ev x = some (.map (some r))) (hy : E.ev y = some key) (hz : E.ev z = some u) (hk : good key) (hup : Upd H (mapI r good c) (mapI r good (setV key u c)) H') (h : RL P L ef bk tq Q l N E w0 S I H') : RL P L ef bk tq Q (.cons i l) N E w0 S I H :=
  RL.turn0 ho hw hi hb rfl hup rfl (fun a w ha hC => by
    obtain ⟨w', h1, h2, h3⟩ := run_mapUpdate K hu hk (hC.s.h _ hup.mem) (u := u)
    refine ⟨w', ?_, h2, h3⟩
    show Sem.run P (do Instr.mapUpdate t (a.eval x) (a.eval y) (a.eval z); pure Next.skip) w = _
    rw [ha.ev hx, ha.ev hy, ha.ev hz]
    simp [h1]) h

/-! ### Ranging over a map -/

/-- A map and one that goes over it: what is still to come. -/
def mapIt (r it : Nat) (good : Value → Prop) (c left : List (Value × Value)) : It where
  bs := [r, it]
  A w := ∃ es clock since seen, w.heap[r]? = some (.map es clock) ∧ w.heap[it]? = some (.mapIter (some r) since seen clock) ∧ kvs es.toList = c ∧ (c.map (·.1)).Nodup ∧ (∀ p ∈ c, good p.1) ∧ (es.toList.map (·.born)).Nodup ∧ (∀ e ∈ es.toList, e.born < clock) ∧
    since = clock ∧ left = kvs (es.toList.filter fun e => !seen.contains e.born)
  fr w w' h hA := by
    obtain ⟨es, clock, since, seen, h1, h2, rest⟩ := hA
    exact ⟨es, clock, since, seen, by rw [h r (by simp)]; exact h1, by rw [h it (by simp)]; exact h2, rest⟩
  lt w hA b hb := by
    obtain ⟨es, clock, since, seen, h1, h2, rest⟩ := hA
    simp at hb
    rcases hb with rfl | rfl
    · exact (Array.getElem?_eq_some_iff.1 h1).1
    · exact (Array.getElem?_eq_some_iff.1 h2).1

theorem RL.range {kt et : TypeId} {good : Value → Prop} {r : Nat} {c : List (Value × Value)} {B : List It} (hu : ∀ w, (underlying t).run P w = .ok (.map kt et) w)
    (ho : nth L i = some ⟨some d, .range t x, ty, pos, af, g⟩) (hw : wants L E ⟨some d, .range t x, ty, pos, af, g⟩ = true) (hN : Nat.blt d N.n = true) (hi : ef.contains i = true) (hb : bk.contains i = true)
    (hx : E.ev x = some (.map (some r))) (hp : Pick H [mapI r good c] B) (h : ∀ it, RL P L ef bk tq Q l N ((d, .pointer (some ⟨it, 0, none⟩)) :: E) w0 S I (mapIt r it good c c :: B)) : RL P L ef bk tq Q (.cons i l) N E w0 S I H := by
  refine RL.eff ho hw hi rfl hN (fun a w ha hC => ?_)
  have hmA : (mapI r good c).A w := hC.s.h _ (hp.memA _ (by simp))
  obtain ⟨es, clock, h1, h2, h3, h4, h5, h6⟩ := hmA
  have hgo : (getObj r).run P w = .ok (.map es clock) w := by simp [getObj, Sem.run, h1]
  have hrl : r < w.heap.size := (Array.getElem?_eq_some_iff.1 h1).1
  have key : (execOp a.eval ⟨some d, .range t x, ty, pos, af, g⟩).run P w = .ok (.value (.pointer (some ⟨w.heap.size, 0, none⟩))) (w.alloc (.mapIter (some r) clock #[] clock)) := by
    simp [execOp, ha.ev hx, Instr.range, hu, hgo]
  unfold does
  rw [key]
  have hs : Sat [] [mapIt r w.heap.size good c c] (w.alloc (.mapIter (some r) clock #[] clock)) := by
    refine ⟨by simp, ?_, ?_, by simp⟩
    · intro y hy
      have : y = mapIt r w.heap.size good c c := by simpa using hy
      subst this
      refine ⟨es, clock, clock, #[], by rw [heap_alloc_lt _ _ hrl]; exact h1, heap_alloc_same w _, h2, h3, h4, h5, h6, rfl, ?_⟩
      rw [← h2]
      congr 1
      symm
      apply List.filter_eq_self.2
      simp
    · simp [mapIt]; omega
  refine ⟨I, _, hC.call (C := []) hp .nil (Keeps.alloc _ w _) hs ?_ (by simp), fun _ h => h, fun hbk => (by rw [hb] at hbk; cases hbk), h _⟩
  intro b hb'
  simp [mapIt, mapI] at hb' ⊢
  rcases hb' with rfl | rfl
  · exact .inl rfl
  · exact .inr (Nat.le_refl _)

theorem eraseIdx_map {α β : Type} (f : α → β) : ∀ (l : List α) (j : Nat), (l.map f).eraseIdx j = (l.eraseIdx j).map f
  | [], _ => by simp
  | _ :: _, 0 => by simp
  | a :: l, j + 1 => by simp [eraseIdx_map f l j]

theorem run_choose (n : Nat) (hn : 0 < n) (w : World) : ∃ j dr, j < n ∧ w.drawn ≤ dr ∧ (choose (.mapNext n)).run P w = .ok j { w with drawn := dr } := by
  by_cases h : n ≤ 1
  · exact ⟨0, w.drawn, hn, Nat.le_refl _, by simp [choose, Sem.run, Question.forced, h]⟩
  · refine ⟨_, w.drawn + 1, Nat.mod_lt (w.tape w.drawn (.mapNext n)) hn, Nat.le_succ _, ?_⟩
    simp [choose, Sem.run, Question.forced, h, Question.cut]

theorem filter_seen {es : List MapEntry} {seen : Array Nat} {e : MapEntry} {j : Nat} (hnd : (es.map (·.born)).Nodup) (he : (es.filter fun e => !seen.contains e.born)[j]? = some e) :
    (es.filter fun e' => !(seen.push e.born).contains e'.born) = (es.filter fun e => !seen.contains e.born).eraseIdx j := by
  have h1 : (es.filter fun e' => !(seen.push e.born).contains e'.born) = (es.filter fun e => !seen.contains e.born).filter (fun e' => e'.born != e.born) := by
    rw [List.filter_filter]
    apply List.filter_congr
    intro x _
    simp only [Array.contains_push, Bool.not_or]
    rw [Bool.and_comm]
    congr 1
  rw [h1]
  generalize hl : (es.filter fun e => !seen.contains e.born) = lf at he ⊢
  have hnd' : (lf.map (·.born)).Nodup := by rw [← hl]; exact hnd.sublist (List.filter_sublist.map _)
  clear hl h1 hnd
  induction lf generalizing j with
  | nil => simp at he
  | cons a lf ih =>
    simp only [List.map_cons, List.nodup_cons] at hnd'
    cases j with
    | zero =>
      simp only [List.getElem?_cons_zero, Option.some.injEq] at he
      subst he
      simp only [List.eraseIdx_zero, List.tail_cons]
      rw [List.filter_cons_of_neg (by simp)]
      apply List.filter_eq_self.2
      intro x hx
      have : x.born ≠ a.born := fun h => hnd'.1 (h ▸ List.mem_map.2 ⟨x, hx, rfl⟩)
      simpa using this
    | succ j =>
      simp only [List.getElem?_cons_succ] at he
      have hne : a.born ≠ e.born := fun h => hnd'.1 (h ▸ List.mem_map.2 ⟨e, List.mem_of_getElem? he, rfl⟩)
      rw [List.filter_cons_of_pos (by simpa using hne), ih he hnd'.2]
      simp

/-- Behind the loop the map is a map again. -/
theorem Cls.unrange {r it : Nat} {good : Value → Prop} {c left : List (Value × Value)} {B : List It} {w : World} (h : Cls w0 S I (mapIt r it good c left :: B) w) : Cls w0 S I (mapI r good c :: B) w := by
  have hA := h.s.h _ (List.mem_cons_self)
  obtain ⟨es, clock, since, seen, h1, h1', h2, h3, h4, h5, h6, h7, h8⟩ := hA
  have hsub : (bss (mapI r good c :: B)).Sublist (bss (mapIt r it good c left :: B)) := by simp [mapI, mapIt]
  refine ⟨h.k, ⟨h.s.i, fun y hy => ?_, h.s.nd.sublist hsub, fun b hb hb' => h.s.dj b hb (hsub.subset hb')⟩, fun b hb => h.own b (hsub.subset hb)⟩
  rcases List.mem_cons.1 hy with rfl | hy
  · exact ⟨es, clock, h1, h2, h3, h4, h5, h6⟩
  · exact h.s.h y (by simp [hy])

end
end Go.PK

/-
  PK, part I: unsigned integers as words of bits; parts of arrays; copy, make; bytes of a string.
-/
namespace Go.PK

/-! ### Words -/
abbrev B8 := BitVec 8
abbrev B32 := BitVec 32
def U8 (x : B8) : Value := .int .u8 (x.toNat : Int)
def U32 (x : B32) : Value := .int .u32 (x.toNat : Int)

theorem u8_wrap (n : Int) : IntKind.u8.wrap n = ((BitVec.ofInt 8 n).toNat : Int) := by
  simp [IntKind.wrap, IntKind.bits, IntKind.signed, BitVec.toNat_ofInt]; omega
theorem u32_wrap (n : Int) : IntKind.u32.wrap n = ((BitVec.ofInt 32 n).toNat : Int) := by
  simp [IntKind.wrap, IntKind.bits, IntKind.signed, BitVec.toNat_ofInt]; omega
theorem toNat_of32 (n : Nat) : (BitVec.ofInt 32 (n : Int)).toNat = n % 4294967296 := by rw [BitVec.toNat_ofInt]; omega
theorem ofInt_nat32 (a : B32) : BitVec.ofInt 32 (a.toNat : Int) = a := by simp

abbrev Bin32 (op : BinOp) (f : B32 → B32 → B32) : Prop := ∀ a b : B32, ib op .u32 (a.toNat : Int) (b.toNat : Int) = some (U32 (f a b))
abbrev Bin8 (op : BinOp) (f : B8 → B8 → B8) : Prop := ∀ a b : B8, ib op .u8 (a.toNat : Int) (b.toNat : Int) = some (U8 (f a b))
theorem add32 : Bin32 .add (· + ·) := fun a b => by simp [ib, U32, u32_wrap, BitVec.ofInt_add]
theorem mul32 : Bin32 .mul (· * ·) := fun a b => by simp [ib, U32, u32_wrap, BitVec.ofInt_mul]
theorem and32 : Bin32 .and (· &&& ·) := fun a b => (by simp [ib, U32, u32_wrap, IntKind.bits]; rfl)
theorem or32 : Bin32 .or (· ||| ·) := fun a b => (by simp [ib, U32, u32_wrap, IntKind.bits]; rfl)
theorem xor32 : Bin32 .xor (· ^^^ ·) := fun a b => (by simp [ib, U32, u32_wrap, IntKind.bits]; rfl)
theorem or8 : Bin8 .or (· ||| ·) := fun a b => (by simp [ib, U8, u8_wrap, IntKind.bits]; rfl)
theorem xor8 : Bin8 .xor (· ^^^ ·) := fun a b => (by simp [ib, U8, u8_wrap, IntKind.bits]; rfl)

section
variable {P : Program} {L : List Oper} {ef bk : List Nat} {tq : Tq} {Q : Exit → Act → World → Prop} {N : Fm} {E : Env} {w0 : World} {S : List Nat} {I H : List It} {i : Nat} {l : Sq}
variable {d : Nat} {x y z : Operand} {ty t yt : TypeId} {pos : String} {af : Array Edge} {g : Option (Nat × Bool)} {v : Value} {k k' : IntKind} {m n : Int}

theorem RL.bv32 {op : BinOp} {f : B32 → B32 → B32} {a b : B32} (hf : Bin32 op f) (ho : nth L i = some ⟨some d, .binOp op t x y yt, ty, pos, af, g⟩) (hw : wants L E ⟨some d, .binOp op t x y yt, ty, pos, af, g⟩ = true) (hN : Nat.blt d N.n = true)
    (hx : E.ev x = some (U32 a)) (hy : E.ev y = some (U32 b)) (h : RL P L ef bk tq Q l N ((d, U32 (f a b)) :: E) w0 S I H) : RL P L ef bk tq Q (.cons i l) N E w0 S I H :=
  RL.bin ho hw hN hx hy (hf a b) h
theorem RL.bv8 {op : BinOp} {f : B8 → B8 → B8} {a b : B8} (hf : Bin8 op f) (ho : nth L i = some ⟨some d, .binOp op t x y yt, ty, pos, af, g⟩) (hw : wants L E ⟨some d, .binOp op t x y yt, ty, pos, af, g⟩ = true) (hN : Nat.blt d N.n = true)
    (hx : E.ev x = some (U8 a)) (hy : E.ev y = some (U8 b)) (h : RL P L ef bk tq Q l N ((d, U8 (f a b)) :: E) w0 S I H) : RL P L ef bk tq Q (.cons i l) N E w0 S I H :=
  RL.bin ho hw hN hx hy (hf a b) h

theorem inv32 (a : B32) : Value.int .u32 (inv .u32 (a.toNat : Int)) = U32 (~~~a) := by
  have h1 : BitVec.ofInt 32 (if IntKind.u32.signed then -1 else IntKind.u32.max) = BitVec.allOnes 32 := by decide
  have h2 : inv .u32 (a.toNat : Int) = IntKind.u32.wrap (BitVec.ofInt 32 (if IntKind.u32.signed then -1 else IntKind.u32.max) ^^^ BitVec.ofInt 32 (a.toNat : Int)).toNat := rfl
  rw [h2, h1, u32_wrap, ofInt_nat32, ofInt_nat32, BitVec.allOnes_xor]
  rfl

theorem RL.inv32 {a : B32} (ho : nth L i = some ⟨some d, .unOp .xor t x, ty, pos, af, g⟩) (hw : wants L E ⟨some d, .unOp .xor t x, ty, pos, af, g⟩ = true) (hN : Nat.blt d N.n = true)
    (hx : E.ev x = some (U32 a)) (h : RL P L ef bk tq Q l N ((d, U32 (~~~a)) :: E) w0 S I H) : RL P L ef bk tq Q (.cons i l) N E w0 S I H :=
  RL.inv ho hw hN hx (by rw [PK.inv32]; exact h)

theorem shl_u32 (a : B32) (s : Nat) : Value.int .u32 (IntKind.u32.wrap ((a.toNat : Int) * 2 ^ s)) = U32 (a <<< s) := by
  have h : (a.toNat : Int) * 2 ^ s = ((a.toNat * 2 ^ s : Nat) : Int) := by simp
  rw [U32, u32_wrap, h, toNat_of32]
  congr 2
  simp [BitVec.toNat_shiftLeft, Nat.shiftLeft_eq]
theorem shr_u32 (a : B32) (s : Nat) : Value.int .u32 ((a.toNat : Int).fdiv (2 ^ s)) = U32 (a >>> s) := by
  have h : (a.toNat : Int).fdiv (2 ^ s) = ((a.toNat / 2 ^ s : Nat) : Int) := by
    rw [Int.fdiv_eq_ediv_of_nonneg _ (by exact Int.le_of_lt (Int.pow_pos (by decide)))]; simp
  rw [U32, h]
  congr 2
  simp [BitVec.toNat_ushiftRight, Nat.shiftRight_eq_div_pow]

theorem RL.shl32 {a : B32} (s : Nat) (ho : nth L i = some ⟨some d, .binOp .shl t x y yt, ty, pos, af, g⟩) (hw : wants L E ⟨some d, .binOp .shl t x y yt, ty, pos, af, g⟩ = true) (hN : Nat.blt d N.n = true)
    (hx : E.ev x = some (U32 a)) (hy : E.ev y = some (.int k' n)) (hn : n = (s : Int)) (hs : s ≤ 32) (h : RL P L ef bk tq Q l N ((d, U32 (a <<< s)) :: E) w0 S I H) : RL P L ef bk tq Q (.cons i l) N E w0 S I H :=
  RL.shl s ho hw hN hx hy hn hs (by rw [shl_u32]; exact h)
theorem RL.shr32 {a : B32} (s : Nat) (ho : nth L i = some ⟨some d, .binOp .shr t x y yt, ty, pos, af, g⟩) (hw : wants L E ⟨some d, .binOp .shr t x y yt, ty, pos, af, g⟩ = true) (hN : Nat.blt d N.n = true)
    (hx : E.ev x = some (U32 a)) (hy : E.ev y = some (.int k' n)) (hn : n = (s : Int)) (hs : s ≤ 32) (h : RL P L ef bk tq Q l N ((d, U32 (a >>> s)) :: E) w0 S I H) : RL P L ef bk tq Q (.cons i l) N E w0 S I H :=
  RL.shr s ho hw hN hx hy hn hs (by rw [shr_u32]; exact h)

theorem quo_u32 (a b : B32) : Value.int .u32 (IntKind.u32.wrap ((a.toNat : Int).tdiv (b.toNat : Int))) = U32 (a / b) := by
  have h : (a.toNat : Int).tdiv (b.toNat : Int) = ((a.toNat / b.toNat : Nat) : Int) := by simp
  rw [U32, u32_wrap, h, toNat_of32]
  congr 2
  have := a.isLt
  have h3 : a.toNat / b.toNat ≤ a.toNat := Nat.div_le_self _ _
  rw [BitVec.toNat_udiv, Nat.mod_eq_of_lt (by omega)]
theorem rem_u32 (a b : B32) : Value.int .u32 ((a.toNat : Int).tmod (b.toNat : Int)) = U32 (a % b) := by
  have h : (a.toNat : Int).tmod (b.toNat : Int) = ((a.toNat % b.toNat : Nat) : Int) := by rw [Int.tmod_eq_emod_of_nonneg (by omega)]; simp
  rw [U32, h]
  congr 2
theorem RL.quo32 {a : B32} (b : B32) (ho : nth L i = some ⟨some d, .binOp .quo t x y yt, ty, pos, af, g⟩) (hw : wants L E ⟨some d, .binOp .quo t x y yt, ty, pos, af, g⟩ = true) (hN : Nat.blt d N.n = true)
    (hx : E.ev x = some (U32 a)) (hy : E.ev y = some (U32 b)) (hb : b.toNat ≠ 0) (h : RL P L ef bk tq Q l N ((d, U32 (a / b)) :: E) w0 S I H) : RL P L ef bk tq Q (.cons i l) N E w0 S I H :=
  RL.quo ho hw hN hx hy (by omega) (by rw [quo_u32]; exact h)
theorem RL.rem32 {a : B32} (b : B32) (ho : nth L i = some ⟨some d, .binOp .rem t x y yt, ty, pos, af, g⟩) (hw : wants L E ⟨some d, .binOp .rem t x y yt, ty, pos, af, g⟩ = true) (hN : Nat.blt d N.n = true)
    (hx : E.ev x = some (U32 a)) (hy : E.ev y = some (U32 b)) (hb : b.toNat ≠ 0) (h : RL P L ef bk tq Q l N ((d, U32 (a % b)) :: E) w0 S I H) : RL P L ef bk tq Q (.cons i l) N E w0 S I H :=
  RL.rem ho hw hN hx hy (by omega) (by rw [rem_u32]; exact h)

/-- A byte as a word, and a word's lowest byte. -/
theorem RL.widen {a : B8} (hs : ∀ w, (underlying t).run P w = .ok (.int .u8) w) (hd : ∀ w, (underlying yt).run P w = .ok (.int .u32) w) (ho : nth L i = some ⟨some d, .convert t yt x, ty, pos, af, g⟩) (hw : wants L E ⟨some d, .convert t yt x, ty, pos, af, g⟩ = true) (hN : Nat.blt d N.n = true)
    (hx : E.ev x = some (U8 a)) (h : RL P L ef bk tq Q l N ((d, U32 (a.setWidth 32)) :: E) w0 S I H) : RL P L ef bk tq Q (.cons i l) N E w0 S I H :=
  RL.conv hs hd ho hw hN hx (by
    have : Value.int .u32 (IntKind.u32.wrap (a.toNat : Int)) = U32 (a.setWidth 32) := by
      rw [U32, u32_wrap]; congr 2; simp
    rw [this]; exact h)
theorem RL.narrow {a : B32} (hs : ∀ w, (underlying t).run P w = .ok (.int .u32) w) (hd : ∀ w, (underlying yt).run P w = .ok (.int .u8) w) (ho : nth L i = some ⟨some d, .convert t yt x, ty, pos, af, g⟩) (hw : wants L E ⟨some d, .convert t yt x, ty, pos, af, g⟩ = true) (hN : Nat.blt d N.n = true)
    (hx : E.ev x = some (U32 a)) (h : RL P L ef bk tq Q l N ((d, U8 (a.setWidth 8)) :: E) w0 S I H) : RL P L ef bk tq Q (.cons i l) N E w0 S I H :=
  RL.conv hs hd ho hw hN hx (by
    have : Value.int .u8 (IntKind.u8.wrap (a.toNat : Int)) = U8 (a.setWidth 8) := by
      rw [U8, u8_wrap]; congr 2
    rw [this]; exact h)
/-- Any integer's lowest byte. -/
theorem RL.lowest (hs : ∀ w, (underlying t).run P w = .ok (.int k) w) (hd : ∀ w, (underlying yt).run P w = .ok (.int .u8) w) (ho : nth L i = some ⟨some d, .convert t yt x, ty, pos, af, g⟩) (hw : wants L E ⟨some d, .convert t yt x, ty, pos, af, g⟩ = true) (hN : Nat.blt d N.n = true)
    (hx : E.ev x = some (.int k m)) (h : RL P L ef bk tq Q l N ((d, U8 (BitVec.ofInt 8 m)) :: E) w0 S I H) : RL P L ef bk tq Q (.cons i l) N E w0 S I H :=
  RL.conv hs hd ho hw hN hx (by rw [u8_wrap]; exact h)

/-! ### Places -/
theorem RL.idxAt {e : TypeId} {b off len cap sz j : Nat} (hu : ∀ w, (underlying t).run P w = .ok (.slice e) w) (hs : ∀ w, (sizeOf e).run P w = .ok sz w) (ho : nth L i = some ⟨some d, .indexAddr t x y, ty, pos, af, g⟩) (hw : wants L E ⟨some d, .indexAddr t x y, ty, pos, af, g⟩ = true) (hN : Nat.blt d N.n = true)
    (hx : E.ev x = some (.slice (some ⟨b, off, none⟩) len cap)) (hy : E.ev y = some (.int k n)) (hj : n = (j : Int)) (hlt : j < len) (h : RL P L ef bk tq Q l N ((d, .pointer (some ⟨b, off + j * sz, none⟩)) :: E) w0 S I H) : RL P L ef bk tq Q (.cons i l) N E w0 S I H :=
  RL.idx hu hs ho hw hN hx hy hj hlt (by rw [add_none]; exact h)
theorem RL.idxAAt {e : TypeId} {b off len sz j : Nat} (hu : ∀ w, (underlying t).run P w = .ok (.array len e) w) (hs : ∀ w, (sizeOf e).run P w = .ok sz w) (ho : nth L i = some ⟨some d, .indexAddr t x y, ty, pos, af, g⟩) (hw : wants L E ⟨some d, .indexAddr t x y, ty, pos, af, g⟩ = true) (hN : Nat.blt d N.n = true)
    (hx : E.ev x = some (.pointer (some ⟨b, off, none⟩))) (hy : E.ev y = some (.int k n)) (hj : n = (j : Int)) (hlt : j < len) (h : RL P L ef bk tq Q l N ((d, .pointer (some ⟨b, off + j * sz, none⟩)) :: E) w0 S I H) : RL P L ef bk tq Q (.cons i l) N E w0 S I H :=
  RL.idxA hu hs ho hw hN hx hy hj hlt (by rw [add_none]; exact h)

theorem run_bnd {a : Act} (ha : Ag N a E) {o : Option Operand} {len cap : Nat} {lo : Nat} (hl : bnd E o len = some (lo : Int)) (h : lo ≤ cap) (s : BoundsCode) (w : World) :
    (match o.map a.eval with | some v => Instr.sliceBound v cap s | none => pure len : Sem Nat).run P w = .ok lo w := by
  cases o with
  | none => simp [bnd] at hl; have : len = lo := by omega
            subst this; rfl
  | some o =>
    simp only [bnd] at hl
    split at hl
    · rename_i kk mm he
      have : mm = (lo : Int) := by simpa using hl
      subst this
      simp only [Option.map_some, ha.ev he]
      exact run_bound h
    · cases hl

/-- 'x[lo:hi]' of an array. -/
theorem RL.sliceA {e : TypeId} {b off len sz lo hi : Nat} {ol oh : Option Operand} (hu : ∀ w, (underlying t).run P w = .ok (.array len e) w) (hs : ∀ w, (sizeOf e).run P w = .ok sz w) (ho : nth L i = some ⟨some d, .slice t x ol oh none, ty, pos, af, g⟩) (hw : wants L E ⟨some d, .slice t x ol oh none, ty, pos, af, g⟩ = true) (hN : Nat.blt d N.n = true)
    (hx : E.ev x = some (.pointer (some ⟨b, off, none⟩))) (hl : bnd E ol 0 = some (lo : Int)) (hh : bnd E oh len = some (hi : Int)) (h1 : lo ≤ hi) (h2 : hi ≤ len) (h3 : lo < len)
    (h : RL P L ef bk tq Q l N ((d, .slice (some ⟨b, off + lo * sz, none⟩) (hi - lo) (len - lo)) :: E) w0 S I H) : RL P L ef bk tq Q (.cons i l) N E w0 S I H :=
  RL.pval ho hw rfl hN (fun a w ha => by
    have q1 := run_bnd (P := P) ha hh h2 .sliceAlen w
    have q2 := run_bnd (P := P) ha hl h1 .sliceB w
    have hsb : (Instr.sliceBounds false len len (ol.map a.eval) (oh.map a.eval) none).run P w = .ok (lo, hi, len) w := by
      unfold Instr.sliceBounds
      cases oh with
      | none => cases ol with
        | none => simp at q1 q2 ⊢; exact ⟨q2, q1⟩
        | some o => simp at q1 q2 ⊢; subst q1; simp [q2]
      | some o' => cases ol with
        | none => simp at q1 q2 ⊢; subst q2; simp [q1]
        | some o => simp at q1 q2 ⊢; simp [q1, q2]
    have hne : ¬ len = lo := by omega
    show Sem.run P (do pure (Next.value (← Instr.sliceAt t (a.eval x) (ol.map a.eval) (oh.map a.eval) none))) w = _
    rw [ha.ev hx]
    simp [Instr.sliceAt, Instr.sureAddr, hu, hs, hsb, hne, add_none]) h

/-- 'x[:hi:max]' of a slice. -/
theorem RL.slice3 {e : TypeId} {p : Option Addr} {len cap sz hi : Nat} {oh om : Operand} {k1 k2 : IntKind} (hu : ∀ w, (underlying t).run P w = .ok (.slice e) w) (hs : ∀ w, (sizeOf e).run P w = .ok sz w) (ho : nth L i = some ⟨some d, .slice t x none (some oh) (some om), ty, pos, af, g⟩) (hw : wants L E ⟨some d, .slice t x none (some oh) (some om), ty, pos, af, g⟩ = true) (hN : Nat.blt d N.n = true)
    (hx : E.ev x = some (.slice p len cap)) (hh : E.ev oh = some (.int k1 (hi : Int))) (hm : E.ev om = some (.int k2 (hi : Int))) (h2 : hi ≤ cap)
    (h : RL P L ef bk tq Q l N ((d, .slice p hi hi) :: E) w0 S I H) : RL P L ef bk tq Q (.cons i l) N E w0 S I H :=
  RL.pval ho hw rfl hN (fun a w ha => by
    have hsb : (Instr.sliceBounds true len cap none (some (Value.int k1 (hi : Int))) (some (Value.int k2 (hi : Int)))).run P w = .ok (0, hi, hi) w := by
      have a1 : ∀ s, (Instr.sliceBound (Value.int k2 (hi : Int)) cap s).run P w = .ok hi w := fun s => run_bound h2
      have a2 : ∀ s, (Instr.sliceBound (Value.int k1 (hi : Int)) hi s).run P w = .ok hi w := fun s => run_bound (Nat.le_refl _)
      unfold Instr.sliceBounds
      simp [a1, a2]
    show Sem.run P (do pure (Next.value (← Instr.sliceAt t (a.eval x) none (some (a.eval oh)) (some (a.eval om))))) w = _
    rw [ha.ev hx, ha.ev hh, ha.ev hm]
    by_cases h0 : hi = 0
    · subst h0
      have hsb' := hsb
      simp only [Int.ofNat_zero] at hsb'
      simp [Instr.sliceAt, Instr.slice, hu, hs, hsb']
    · simp [Instr.sliceAt, Instr.slice, hu, hs, hsb, h0]
      cases p with
      | none => rfl
      | some a => simp [Addr.add]) h

/-! ### Copy, make, bytes -/
theorem exec_copy {ρ : Operand → Value} {dst : Option Tmp} {vx vy : Value} {ats : Array TypeId} (hx : ρ x = vx) (hy : ρ y = vy) {r : Value} {w w' : World} (h : (Builtin.copy_ ats ty #[vx, vy]).run P w = .ok r w') :
    (execOp ρ ⟨dst, .call ⟨.builtin .copy, #[x, y], ats⟩, ty, pos, af, g⟩).run P w = .ok (.value r) w' := by
  simp only [BigFrame.execOp_builtin, BigFrame.builtin_copy, List.map_toArray, List.map_cons, List.map_nil, hx, hy]
  simp [h]

theorem RL.turnD {o : Oper} {H' : List It} {x x' : It} (ho : nth L i = some o) (hw : wants L E o = true) (hi : ef.contains i = true) (hb : bk.contains i = true) (hd : o.dst = some d) (hN : Nat.blt d N.n = true) (hu : Upd H x x' H') (hbs : x'.bs = x.bs)
    (hv : ∀ a w, Ag N a E → Cls w0 S I H w → ∃ w', (execOp a.eval o).run P w = .ok (.value v) w' ∧ Keeps x.bs w w' ∧ x'.A w') (h : RL P L ef bk tq Q l N ((d, v) :: E) w0 S I H') : RL P L ef bk tq Q (.cons i l) N E w0 S I H := by
  refine RL.eff ho hw hi hd hN (fun a w ha hC => ?_)
  obtain ⟨w', h1, h2, h3⟩ := hv a w ha hC
  unfold does
  rw [h1]
  exact ⟨I, H', hC.upd hu h2 hbs h3, fun _ h => h, fun h => (by rw [hb] at h; cases h), h⟩

theorem RL.copy {e T : TypeId} {b off dl dcap mm c2 sz : Nat} {p2 : Option Addr} {cs news : List Value} {H' : List It} {t2 : TypeId} (hu : ∀ w, (underlying t).run P w = .ok (.slice e) w) (hs : ∀ w, (sizeOf e).run P w = .ok sz w)
    (ho : nth L i = some ⟨some d, .call ⟨.builtin .copy, #[x, y], #[t, t2]⟩, ty, pos, af, g⟩) (hw : wants L E ⟨some d, .call ⟨.builtin .copy, #[x, y], #[t, t2]⟩, ty, pos, af, g⟩ = true) (hN : Nat.blt d N.n = true) (hi : ef.contains i = true) (hb : bk.contains i = true)
    (hx : E.ev x = some (.slice (some ⟨b, off, none⟩) dl dcap)) (hy : E.ev y = some (.slice p2 mm c2)) (hS : Src I H p2 mm sz news) (h1 : ∀ u ∈ news, u.oneCell' = true)
    (hu' : Upd H (PK.cel b cs T) (PK.cel b (spl cs off (news.take (Nat.min mm dl * sz))) T) H') (hl : off + dl * sz ≤ cs.length) (h : RL P L ef bk tq Q l N ((d, .int .i64 (Nat.min mm dl : Nat)) :: E) w0 S I H') : RL P L ef bk tq Q (.cons i l) N E w0 S I H :=
  RL.turnD ho hw hi hb rfl hN hu' rfl (fun a w ha hC => by
    have hA : w.heap[b]? = some (.cells cs.toArray T (0, 0)) := hC.s.h _ hu'.mem
    obtain ⟨g1, g2, g3⟩ := hS w hC.s
    have hml : Nat.min mm dl * sz ≤ mm * sz := Nat.mul_le_mul_right _ (Nat.min_le_left _ _)
    have hdl : Nat.min mm dl * sz ≤ dl * sz := Nat.mul_le_mul_right _ (Nat.min_le_right _ _)
    have hlen : (news.take (Nat.min mm dl * sz)).length = Nat.min mm dl * sz := by rw [List.length_take, g1]; omega
    have hst := run_storeCells_at P b off T (news.take (Nat.min mm dl * sz)) 0 cs.toArray w hA (by simp only [hlen, List.size_toArray]; omega) (fun u hu => h1 u (List.mem_of_mem_take hu))
    refine ⟨w.setRow b (spl cs off (news.take (Nat.min mm dl * sz))).toArray, ?_, Keeps.setRow, setRow_heap w b _ _ T _ hA⟩
    refine exec_copy (ha.ev hx) (ha.ev hy) ?_
    rw [spl_eq cs off _ (by rw [hlen]; omega)]
    simp only [Nat.add_zero] at hst
    have hfc : (Builtin.firstCells sz (Nat.min mm dl) (.slice p2 mm c2)).run P w = .ok (news.take (Nat.min mm dl * sz)).toArray w := by
      cases p2 with
      | none =>
        have := g2 rfl; subst this
        simp [Builtin.firstCells]
      | some q => exact run_firstCells_some (P := P) w sz (Nat.min mm dl) q mm c2 _ hlen (fun j u hj => g3 q rfl j u (by
          rw [List.getElem?_take] at hj; split at hj
          · exact hj
          · cases hj))
    simp [Builtin.copy_, hu, hs, Builtin.lenOf, hfc, hst]
    rfl) h

/-- One thing more that is told, in new blocks. -/
theorem Cls.tell {x : It} {w w' : World} (h : Cls w0 S I H w) (hg : Grow w w') (hx : x.A w') (hb : ∀ b ∈ x.bs, w.heap.size ≤ b) : Cls w0 S (x :: I) H w' := by
  have hO := Cls.open w0 S I H w w' h hg
  have ltH : ∀ b ∈ bss H, b < w.heap.size := fun b hb => by obtain ⟨y, hy, hbx⟩ := mem_bss.1 hb; exact y.lt w (h.s.h y hy) b hbx
  refine ⟨hO.k, ⟨fun y hy => ?_, hO.s.h, hO.s.nd, fun b hb' hbx => ?_⟩, hO.own⟩
  · rcases List.mem_cons.1 hy with rfl | hy
    · exact hx
    · exact hO.s.i y hy
  · rw [bss_cons] at hb'
    rcases List.mem_append.1 hb' with h1 | h1
    · have := hb b h1; have := ltH b hbx; omega
    · exact h.s.dj b h1 hbx
theorem Cls.untell {x : It} {w : World} (h : Cls w0 S (x :: I) H w) : Cls w0 S I H w := h.les (fun _ h => by simp [h]) (Les.refl H)

/-- What is one's own is told from here on, and turns no more. -/
theorem Cls.freeze {x : It} {B : List It} {w : World} (h : Cls w0 S I H w) (hp : Pick H [x] B) : Cls w0 S (x :: I) B w := by
  have hm := hp.perm
  have hnd := hm.nodup_iff.1 h.s.nd
  rw [List.nodup_append] at hnd
  refine ⟨h.k, ⟨fun y hy => ?_, fun y hy => h.s.h y (hp.memB y hy), hnd.2.1, fun b hb hbx => ?_⟩, fun b hb => h.own b (hm.mem_iff.2 (List.mem_append_right _ hb))⟩
  · rcases List.mem_cons.1 hy with rfl | hy
    · exact h.s.h _ (hp.memA _ (by simp))
    · exact h.s.i y hy
  · rw [bss_cons] at hb
    rcases List.mem_append.1 hb with h1 | h1
    · exact hnd.2.2 b (by simpa [PK.bss] using h1) b hbx rfl
    · exact h.s.dj b h1 (hm.mem_iff.2 (List.mem_append_right _ hbx))

theorem zeros_reps {zs : List Value} {n sz : Nat} (hsz : zs.length = sz) (hpos : 0 < sz) : ((Array.range (n * sz)).map fun j => zs.toArray[j % zs.length]!) = (reps zs n).toArray := by
  have hrl : ∀ n, (reps zs n).length = n * sz := by
    intro n; induction n with
    | zero => simp [reps]
    | succ n ih => simp [reps, ih, hsz, Nat.add_mul]; omega
  have hrg : ∀ n j, j < n * sz → (reps zs n)[j]? = zs[j % sz]? := by
    intro n; induction n with
    | zero => intro j hj; simp at hj
    | succ n ih =>
      intro j hj
      simp only [reps, List.getElem?_append, hsz]
      by_cases hjs : j < sz
      · simp [hjs, Nat.mod_eq_of_lt hjs]
      · have hge : sz ≤ j := by omega
        simp only [hjs, if_false]
        rw [ih (j - sz) (by rw [Nat.add_mul] at hj; omega)]
        rw [Nat.mod_eq_sub_mod hge]
  apply Array.ext'
  apply List.ext_getElem?
  intro j
  simp only [Array.toList_map, Array.toList_range, List.getElem?_map]
  by_cases hj : j < n * sz
  · have hjm : j % zs.length < zs.length := by rw [hsz]; exact Nat.mod_lt _ hpos
    have hr := hrg n j hj
    rw [← hsz] at hr
    simp [hj, hr, hjm]
  · have hj' : (reps zs n)[j]? = none := by rw [List.getElem?_eq_none]; rw [hrl]; omega
    simp [hj, hj']

theorem RL.makeSlice {e : TypeId} {ii : TypeInfo} {sz len : Nat} {zs : List Value} {z' : Value} (hu : ∀ w, (underlying t).run P w = .ok (.slice e) w) (hs : ∀ w, (sizeOf e).run P w = .ok sz w) (hti : P.info? e = some ii)
    (hz : ∀ w, (zeroValue e).run P w = .ok z' w) (hzc : z'.cells = zs.toArray) (hsz : zs.length = sz) (hpos : 0 < sz) (hlen : 0 < len) (hb : len * ii.bytes ≤ 1000000) (hl2 : len ≤ 1000000)
    (ho : nth L i = some ⟨some d, .makeSlice t x y, ty, pos, af, g⟩) (hw : wants L E ⟨some d, .makeSlice t x y, ty, pos, af, g⟩ = true) (hN : Nat.blt d N.n = true) (hi : ef.contains i = true)
    (hx : E.ev x = some (.int k n)) (hxn : n = (len : Int)) (hy : E.ev y = some (.int k' m)) (hyn : m = (len : Int))
    (h : ∀ b, RL P L ef bk tq Q l N ((d, .slice (some ⟨b, 0, none⟩) len len) :: E) w0 S I (cel b (reps zs len) e :: H)) : RL P L ef bk tq Q (.cons i l) N E w0 S I H := by
  subst hxn; subst hyn
  refine RL.make (x := fun b => cel b (reps zs len) e) (u := fun b => .slice (some ⟨b, 0, none⟩) len len) ho hw hi rfl hN (fun a w ha _ => ⟨w.alloc (.cells (reps zs len).toArray e), ?_, Keeps.alloc _ _ _, cel_new, rfl⟩) h
  show Sem.run P (do pure (Next.value (← Instr.makeSlice t (a.eval x) (a.eval y)))) w = _
  rw [ha.ev hx, ha.ev hy]
  have hw1 : IntKind.i64.wrap (len : Int) = len := IntWalk.i64_in _ (by omega)
  have hti' : ∀ w, (typeInfo e).run P w = .ok ii w := fun w => by simp [typeInfo, hti]
  have h0 : ¬ len * sz = 0 := Nat.mul_ne_zero (by omega) (by omega)
  have hzz := zeros_reps (n := len) hsz hpos
  have e1 : ¬ ((len : Int) < 0) := by omega
  have e2 : ¬ ((ii.bytes : Int) * (len : Int) > 281474976710656) := by
    have : (ii.bytes : Int) * (len : Int) = ((len * ii.bytes : Nat) : Int) := by rw [Int.mul_comm]; simp
    omega
  simp only [Instr.makeSlice, Sem.run_bind, hu, asInt, hti', Result.andThen_ok]
  simp [e1, e2, h0, hw1, askRoom, newRow, hs, hz, hzc, asIntOf]
  rw [← hzz]; simp

/-! ### Handy forms -/
theorem Rd.get {b off : Nat} {cs : List Value} {T : TypeId} (hm : PK.cel b cs T ∈ H) (hn : cs[off]? = some v) : Rd I H ⟨b, off, none⟩ v := .cel hm (by rw [nth_eq]; exact hn)
theorem Rd.getI {b off : Nat} {cs : List Value} {T : TypeId} (hm : PK.cel b cs T ∈ I) (hn : cs[off]? = some v) : Rd I H ⟨b, off, none⟩ v := .celI hm (by rw [nth_eq]; exact hn)
theorem Rd.getS {p : Addr} {sz n j : Nat} {xs : List Value} (hm : PK.sls (some p) sz n xs ∈ I) (hn : xs[j]? = some v) : Rd I H (p.add j) v := (Rds.sls hm).rd hn
theorem Rd.getO {b cap sz n j : Nat} {e : TypeId} {xs : List Value} (hm : PK.own (some b) cap e sz n xs ∈ H) (hn : xs[j]? = some v) : Rd I H ((⟨b, 0, none⟩ : Addr).add j) v := (Rds.own hm).rd hn
theorem Rds.all {b : Nat} {cs : List Value} {T : TypeId} (hm : PK.cel b cs T ∈ H) : Rds I H ⟨b, 0, none⟩ cs := .cel hm (fun j u h => by rw [Nat.zero_add]; exact h)
theorem Rds.allI {b : Nat} {cs : List Value} {T : TypeId} (hm : PK.cel b cs T ∈ I) : Rds I H ⟨b, 0, none⟩ cs := .celI hm (fun j u h => by rw [Nat.zero_add]; exact h)

theorem RL.storeX {b off : Nat} {cs vs cs' : List Value} {T : TypeId} {H' : List It} (he : spl cs off vs = cs') (hs : ∀ w, (sizeOf t).run P w = .ok vs.length w) (ho : nth L i = some ⟨none, .store t x y, ty, pos, af, g⟩) (hw : wants L E ⟨none, .store t x y, ty, pos, af, g⟩ = true)
    (hi : ef.contains i = true) (hb : bk.contains i = true) (hx : E.ev x = some (.pointer (some ⟨b, off, none⟩))) (hy : E.ev y = some v) (hc : v.cells = vs.toArray) (h1 : ones vs = true)
    (hu : Upd H (PK.cel b cs T) (PK.cel b cs' T) H') (hl : off + vs.length ≤ cs.length) (h : RL P L ef bk tq Q l N E w0 S I H') : RL P L ef bk tq Q (.cons i l) N E w0 S I H := by
  subst he
  exact RL.store hs ho hw hi hb hx hy hc h1 (by simpa using hl) hu h

/-- The like, of a slice that is not empty behind its begin. -/
theorem RL.sliceP {e : TypeId} {p : Addr} {len cap sz lo hi : Nat} {ol oh : Option Operand} (hu : ∀ w, (underlying t).run P w = .ok (.slice e) w) (hs : ∀ w, (sizeOf e).run P w = .ok sz w) (ho : nth L i = some ⟨some d, .slice t x ol oh none, ty, pos, af, g⟩) (hw : wants L E ⟨some d, .slice t x ol oh none, ty, pos, af, g⟩ = true) (hN : Nat.blt d N.n = true)
    (hx : E.ev x = some (.slice (some p) len cap)) (hl : bnd E ol 0 = some (lo : Int)) (hh : bnd E oh len = some (hi : Int)) (h1 : lo ≤ hi) (h2 : hi ≤ cap) (h3 : lo < cap)
    (h : RL P L ef bk tq Q l N ((d, .slice (some (p.add (lo * sz))) (hi - lo) (cap - lo)) :: E) w0 S I H) : RL P L ef bk tq Q (.cons i l) N E w0 S I H :=
  RL.slice hu hs ho hw hN hx hl hh h1 h2 (by rw [if_neg (by omega)]; exact h)

/-- An element's place in a slice that begins within another. -/
theorem RL.idxS {e : TypeId} {p : Addr} {len cap sz j q : Nat} (hu : ∀ w, (underlying t).run P w = .ok (.slice e) w) (hs : ∀ w, (sizeOf e).run P w = .ok sz w) (ho : nth L i = some ⟨some d, .indexAddr t x y, ty, pos, af, g⟩) (hw : wants L E ⟨some d, .indexAddr t x y, ty, pos, af, g⟩ = true) (hN : Nat.blt d N.n = true)
    (hx : E.ev x = some (.slice (some (p.add q)) len cap)) (hy : E.ev y = some (.int k n)) (hj : n = (j : Int)) (hlt : j < len) (h : RL P L ef bk tq Q l N ((d, .pointer (some (p.add (q + j * sz)))) :: E) w0 S I H) : RL P L ef bk tq Q (.cons i l) N E w0 S I H :=
  RL.idx hu hs ho hw hN hx hy hj hlt (by rw [add_add]; exact h)

theorem reps_one (z : Value) : ∀ n, reps [z] n = List.replicate n z
  | 0 => rfl
  | n + 1 => by simp [reps, reps_one z n, List.replicate_succ]
theorem spl_one {cs : List Value} {j : Nat} {v : Value} (h : j < cs.length) : spl cs j [v] = cs.take j ++ [v] ++ cs.drop (j + 1) := spl_eq _ _ _ (by simp; omega)

theorem spl_snoc {z v : Value} {k : Nat} : ∀ xs : List Value, spl (xs ++ List.replicate (k + 1) z) xs.length [v] = xs ++ [v] ++ List.replicate k z
  | [] => by simp [List.replicate_succ, spl]; cases k <;> rfl
  | a :: xs => by simp [spl, spl_snoc xs]

theorem spl_all : ∀ {cs vs : List Value}, vs.length = cs.length → spl cs 0 vs = vs
  | [], [], _ => rfl
  | c :: cs, v :: vs, h => by simp only [List.length_cons, Nat.add_right_cancel_iff] at h; simp [spl, spl_all h]
  | [], v :: vs, h => by simp at h
  | c :: cs, [], h => by simp at h

/-- One cell more of a list that takes another's place. -/
theorem spl_mix {l1 l2 : List Value} (h : l1.length = l2.length) {n : Nat} {v : Value} (hv : l2[n]? = some v) : spl (l2.take n ++ l1.drop n) (0 + n * 1) [v] = l2.take (n + 1) ++ l1.drop (n + 1) := by
  have hn : n < l2.length := (List.getElem?_eq_some_iff.1 hv).1
  have ht : (l2.take n).length = n := by rw [List.length_take]; omega
  rw [Nat.zero_add, Nat.mul_one, spl_eq _ _ _ (by simp; omega)]
  have e1 : (l2.take n ++ l1.drop n).take n = l2.take n := List.take_left' ht
  have e2 : (l2.take n ++ l1.drop n).drop (n + [v].length) = l1.drop (n + 1) := by
    rw [List.drop_append, ht]
    simp [ht, List.drop_drop]
  rw [e1, e2, List.take_add_one, hv]; simp
theorem get_mix {l1 l2 : List Value} {n : Nat} (hn : n < l2.length) : (l2.take n ++ l1.drop n)[0 + n * 1]? = l1[n]? := by
  have ht : (l2.take n).length = n := by rw [List.length_take]; omega
  rw [Nat.zero_add, Nat.mul_one, List.getElem?_append_right (by omega), ht]; simp

theorem Src.celAt {b off mm sz : Nat} {cs : List Value} {T : TypeId} (hm : PK.cel b cs T ∈ H) (hl : off + mm * sz ≤ cs.length) : Src I H (some ⟨b, off, none⟩) mm sz ((cs.drop off).take (mm * sz)) := fun w hw =>
  ⟨by rw [List.length_take, List.length_drop]; omega, fun h => (by cases h), fun a h j u hj => by
    cases h
    rw [add_none, cell_of_cel (hw.h _ hm)]
    rw [List.getElem?_take] at hj
    split at hj
    · rw [List.getElem?_drop] at hj; exact hj
    · cases hj⟩

theorem ones_map {α : Type} {f : α → Value} (h : ∀ a, (f a).oneCell' = true) : ∀ l : List α, ones (l.map f) = true
  | [] => rfl
  | a :: l => by simp [ones, h a, ones_map h l]
theorem one_map {α : Type} {f : α → Value} (h : ∀ a, (f a).oneCell' = true) (l : List α) : ∀ u ∈ l.map f, u.oneCell' = true := by
  intro u hu
  obtain ⟨a, _, rfl⟩ := List.mem_map.1 hu
  exact h a

end
end Go.PK

/-
  PK, part J: slices that are told: appended to without room, lent in parts, told otherwise.
-/
namespace Go.PK

section
variable {P : Program} {L : List Oper} {ef bk : List Nat} {tq : Tq} {Q : Exit → Act → World → Prop} {N : Fm} {E : Env} {w0 : World} {S : List Nat} {I H : List It} {i : Nat} {l : Sq}
variable {d : Nat} {x y z : Operand} {ty t yt : TypeId} {pos : String} {af : Array Edge} {g : Option (Nat × Bool)} {v : Value} {k k' : IntKind} {m n : Int}

/-- What follows from what is known of memory may be told, too. -/
theorem Cls.also {x : It} {w : World} (h : Cls w0 S I H w) (hA : ∀ w, Sat I H w → x.A w) (hb : ∀ c ∈ x.bs, c ∈ bss I) : Cls w0 S (x :: I) H w := by
  refine ⟨h.k, ⟨fun y hy => ?_, h.s.h, h.s.nd, fun b hb' hbx => ?_⟩, h.own⟩
  · rcases List.mem_cons.1 hy with rfl | hy
    · exact hA w h.s
    · exact h.s.i y hy
  · rw [bss_cons] at hb'
    rcases List.mem_append.1 hb' with h1 | h1
    · exact h.s.dj b (hb b h1) hbx
    · exact h.s.dj b h1 hbx
theorem CW.also {c : Code} (x : It) (hA : ∀ w, Sat I H w → x.A w) (hb : ∀ c ∈ x.bs, c ∈ bss I) (h : CW P c Q N E w0 S (x :: I) H) : CW P c Q N E w0 S I H := fun a w ha hw => h a w ha (hw.also hA hb)
/-- A part of a slice, as one takes it. -/
theorem sls_sub {p : Option Addr} {sz nn lo k cap : Nat} {xs : List Value} {w : World} (h : (sls p sz nn xs).A w) (hk : lo + k ≤ nn) (hc : nn ≤ cap) : (sls (if cap = lo then p else p.map (·.add (lo * sz))) sz k ((xs.drop (lo * sz)).take (k * sz))).A w := by
  obtain ⟨h1, h2⟩ := h
  have hm : (lo + k) * sz ≤ nn * sz := Nat.mul_le_mul_right _ hk
  rw [Nat.add_mul] at hm
  have hlen : ((xs.drop (lo * sz)).take (k * sz)).length = k * sz := by rw [List.length_take, List.length_drop, h1]; omega
  by_cases hcl : cap = lo
  · have hk0 : k = 0 := by omega
    subst hk0
    rw [if_pos hcl]
    cases p with
    | none => exact ⟨hlen, rfl⟩
    | some a => exact ⟨hlen, fun h => absurd rfl h, fun j u hj => by simp at hj⟩
  · rw [if_neg hcl]
    cases p with
    | none =>
      refine ⟨hlen, ?_⟩
      show k = 0
      have : nn = 0 := h2
      omega
    | some a =>
      refine ⟨hlen, fun hk0 => ?_, fun j u hj => ?_⟩
      · have : ((a.add (lo * sz))).block = a.block := by unfold Addr.add; split <;> rfl
        show (a.add (lo * sz)).block < _
        rw [this]; exact h2.1 (by omega)
      · rw [add_add]
        refine h2.2 (lo * sz + j) u ?_
        rw [List.getElem?_take] at hj
        split at hj
        · rw [List.getElem?_drop] at hj; exact hj
        · cases hj
theorem bs_sub {p : Option Addr} {sz nn lo k cap : Nat} {xs ys : List Value} (hk : lo + k ≤ nn) : ∀ c ∈ (sls (if cap = lo then p else p.map (·.add (lo * sz))) sz k ys).bs, c ∈ (sls p sz nn xs).bs := by
  intro c hc
  have hb : ∀ a : Addr, (a.add (lo * sz)).block = a.block := fun a => by unfold Addr.add; split <;> rfl
  by_cases hk0 : k = 0
  · subst hk0; simp [sls] at hc
  · have : ¬ nn = 0 := by omega
    cases p with
    | none => simp [sls, hk0] at hc
    | some a =>
      by_cases hcl : cap = lo
      · simpa [sls, hk0, this, hcl] using hc
      · simpa [sls, hk0, this, hcl, hb] using hc

theorem Lend.subI {F J : List It} {a : Addr} {sz nn lo k : Nat} {xs : List Value} (hm : PK.sls (some a) sz nn xs ∈ I) (hk : lo + k ≤ nn) (h : Lend I F J) : Lend I F (PK.sls (some (a.add (lo * sz))) sz k ((xs.drop (lo * sz)).take (k * sz)) :: J) := by
  refine .of (fun w hw => ?_) (fun c hc => .inl (mem_bss.2 ⟨_, hm, ?_⟩)) h
  · have := sls_sub (cap := lo + nn + 1) (hw.i _ hm) hk (by omega)
    rwa [if_neg (by omega)] at this
  · have := bs_sub (p := some a) (sz := sz) (nn := nn) (cap := lo + 1) (xs := xs) (ys := (xs.drop (lo * sz)).take (k * sz)) hk c
    rw [if_neg (by omega)] at this
    exact this hc
theorem Lend.subO {F J : List It} {b cap sz nn lo k : Nat} {e : TypeId} {xs : List Value} (hm : PK.own (some b) cap e sz nn xs ∈ F) (hk : lo + k ≤ nn) (h : Lend I F J) : Lend I F (PK.sls (some ((⟨b, 0, none⟩ : Addr).add (lo * sz))) sz k ((xs.drop (lo * sz)).take (k * sz)) :: J) := by
  refine .of (fun w hw => ?_) (fun c hc => .inr (mem_bss.2 ⟨_, hm, ?_⟩)) h
  · have := sls_sub (cap := lo + nn + 1) (own_sls (hw.h _ hm)) hk (by omega)
    rwa [if_neg (by omega)] at this
  · have := bs_sub (p := some ⟨b, 0, none⟩) (sz := sz) (nn := nn) (cap := lo + 1) (xs := xs) (ys := (xs.drop (lo * sz)).take (k * sz)) hk c
    rw [if_neg (by omega)] at this
    have h2 := this hc
    by_cases hn : nn = 0
    · simp [PK.sls, hn] at h2
    · simpa [PK.sls, PK.own, hn] using h2

theorem run_append0 {e : TypeId} {sz bytes : Nat} (T : ElemT P t e sz bytes) {p q : Option Addr} {nn cap c2 : Nat} {w : World} (hk : nn ≤ cap) : (Builtin.append_ #[t, t] ty #[.slice p nn cap, .slice q 0 c2]).run P w = .ok (.slice p nn cap) w := by
  obtain ⟨ii, z', hi', hz, hsz, hbb, hzs⟩ := T.inf
  have hf : (Builtin.firstCells ii.size 0 (.slice q 0 c2)).run P w = .ok #[] w := by
    cases q with
    | none => rfl
    | some a => exact run_firstCells_some (P := P) w ii.size 0 a 0 c2 [] (by simp) (by intro _ _ h'; simp at h')
  cases p with
  | none => simp [Builtin.append_, run_underlying T.ut, sizeOf, typeInfo, hi', Builtin.lenOf, hk, hf]
  | some a => simp [Builtin.append_, run_underlying T.ut, sizeOf, typeInfo, hi', Builtin.lenOf, hk, hf, storeCells]

/-- Appending nothing. -/
theorem RL.append0 {e : TypeId} {sz bytes : Nat} {p q : Option Addr} {nn cap c2 : Nat} (T : ElemT P t e sz bytes)
    (ho : nth L i = some ⟨some d, .call ⟨.builtin .append, #[x, y], #[t, t]⟩, ty, pos, af, g⟩) (hw : wants L E ⟨some d, .call ⟨.builtin .append, #[x, y], #[t, t]⟩, ty, pos, af, g⟩ = true) (hN : Nat.blt d N.n = true) (_hi : ef.contains i = true)
    (hx : E.ev x = some (.slice p nn cap)) (hy : E.ev y = some (.slice q 0 c2)) (hk : nn ≤ cap) (h : RL P L ef bk tq Q l N ((d, .slice p nn cap) :: E) w0 S I H) : RL P L ef bk tq Q (.cons i l) N E w0 S I H :=
  RL.pval ho hw rfl hN (fun _ _ ha => exec_append (ha.ev hx) (ha.ev hy) (run_append0 T hk)) h

/-- Appending to a slice without room that is told: what comes is told. -/
theorem RL.appendTold {e : TypeId} {sz bytes : Nat} {p : Option Addr} {nn mm c2 : Nat} {xs news : List Value} {p2 : Option Addr} (T : ElemT P t e sz bytes)
    (ho : nth L i = some ⟨some d, .call ⟨.builtin .append, #[x, y], #[t, t]⟩, ty, pos, af, g⟩) (hw : wants L E ⟨some d, .call ⟨.builtin .append, #[x, y], #[t, t]⟩, ty, pos, af, g⟩ = true) (hN : Nat.blt d N.n = true) (hi : ef.contains i = true)
    (hx : E.ev x = some (.slice p nn nn)) (hy : E.ev y = some (.slice p2 mm c2)) (hs1 : Src I H p nn sz xs) (hI : PK.sls p sz nn xs ∈ I) (hs : Src I H p2 mm sz news) (hm : nn + mm ≤ maxLen) (hby : (nn + mm) * bytes ≤ 140737488355328)
    (h : ∀ p' cap', nn + mm ≤ cap' → (p' = none → nn + mm = 0) → (mm ≠ 0 → ∀ c ∈ (PK.sls p' sz (nn + mm) (xs ++ news)).bs, w0.heap.size ≤ c) → RL P L ef bk tq Q l N ((d, .slice p' (nn + mm) cap') :: E) w0 S (PK.sls p' sz (nn + mm) (xs ++ news) :: I) H) :
    RL P L ef bk tq Q (.cons i l) N E w0 S I H := by
  by_cases h0 : mm = 0
  · subst h0
    refine RL.eff ho hw hi rfl hN (fun a w ha hC => ?_)
    obtain ⟨s1, _, _⟩ := hs w hC.s
    have hn0 : news = [] := List.eq_nil_of_length_eq_zero (by simpa using s1)
    subst hn0
    unfold does
    rw [exec_append (ha.ev hx) (ha.ev hy) (run_append0 T (Nat.le_refl nn))]
    have hq := h p nn (Nat.le_refl _) (fun hp => (hs1 w hC.s).2.1 hp) (fun h => absurd rfl h)
    rw [List.append_nil] at hq
    exact ⟨_, _, hC.also (fun w hw => hw.i _ hI) (fun c hc => mem_bss.2 ⟨_, hI, hc⟩), fun x hx => List.mem_cons_of_mem _ hx, fun _ _ h => h.untell, hq⟩
  · refine RL.eff ho hw hi rfl hN (fun a w ha hC => ?_)
    obtain ⟨s1, s2, s3⟩ := hs w hC.s
    obtain ⟨q1, q2, q3⟩ := hs1 w hC.s
    obtain ⟨w', hr, hg, hA⟩ := run_appendNew (ty := ty) T q1 q2 q3 s1 s2 s3 (show nn < nn + mm by omega) hm hby (c2 := c2)
    unfold does
    rw [exec_append (ha.ev hx) (ha.ev hy) hr]
    have hge := grownCap_ge w (nn + mm) nn e
    have hsz : ∀ b ∈ (PK.sls (some ⟨w.heap.size, 0, none⟩) sz (nn + mm) (xs ++ news)).bs, w.heap.size ≤ b := by
      intro b hb
      simp [PK.sls] at hb
      omega
    exact ⟨_, _, hC.tell (x := PK.sls (some ⟨w.heap.size, 0, none⟩) sz (nn + mm) (xs ++ news)) hg (own_sls hA) hsz, fun x hx => List.mem_cons_of_mem _ hx, fun _ _ h => h.untell, h _ _ hge (fun h => by cases h) (fun _ c hc => Nat.le_trans hC.k.size (hsz c hc))⟩

/-- Some of one's own things are told from here on. -/
theorem CW.freezeP {A B I' : List It} {c : Code} (hp : Pick H A B) (he : A ++ I = I') (h : CW P c Q N E w0 S I' B) : CW P c Q N E w0 S I H := fun a w ha hw => h a w ha (by
  subst he
  have hperm := hp.perm
  have hnd : (bss A ++ bss B).Nodup := hperm.nodup_iff.1 hw.s.nd
  rw [List.nodup_append] at hnd
  refine ⟨hw.k, ⟨fun x hx => ?_, fun x hx => hw.s.h x (hp.memB x hx), hnd.2.1, fun b hb hb' => ?_⟩, fun b hb => hw.own b (hperm.mem_iff.2 (List.mem_append_right _ hb))⟩
  · rcases List.mem_append.1 hx with hx | hx
    · exact hw.s.h x (hp.memA x hx)
    · exact hw.s.i x hx
  · rw [bss_append] at hb
    rcases List.mem_append.1 hb with hb | hb
    · exact hnd.2.2 b hb b hb' rfl
    · exact hw.s.dj b hb (hperm.mem_iff.2 (List.mem_append_right _ hb')))

/-- What holds between two statements. -/
def Mid (N : Fm) (E : Env) (w0 : World) (S : List Nat) (I H : List It) : Exit → Act → World → Prop := fun e a w => e = .normal ∧ Ag N a E ∧ Cls w0 S I H w
theorem CW.cut {c y : Code} (E' : Env) (I' H' : List It) (h1 : CW P c (Mid N E' w0 S I' H') N E w0 S I H) (h2 : CW P y Q N E' w0 S I' H') : CW P c (Exit.then (fun a w => y.wpIn (FnR N.ro) 0 P Q a w) Q) N E w0 S I H := fun a w ha hw =>
  wpIn_mono (h1 a w ha hw) (fun e a' w' ⟨he, ha', hw'⟩ => by subst he; exact h2 a' w' ha' hw')
theorem NQ.mid {E' : Env} {I' H' : List It} (s : Sub E E') (hc : ∀ w, Cls w0 S I H w → Cls w0 S I' H' w) : NQ (Mid N E' w0 S I' H') N E w0 S I H := fun _ _ ha hw => ⟨rfl, ha.sub s, hc _ hw⟩

theorem RL.also (x : It) (hA : ∀ w, Sat I H w → x.A w) (hb : ∀ c ∈ x.bs, c ∈ bss I) (h : RL P L ef bk tq Q l N E w0 S (x :: I) H) : RL P L ef bk tq Q l N E w0 S I H := by
  have he : Cls w0 S (x :: I) H = Cls w0 S I H := funext fun w => propext ⟨fun h => h.untell, fun h => h.also hA hb⟩
  intro hT a ha
  rw [← he]
  exact h (fun x hx => List.mem_cons_of_mem _ (hT x hx)) a ha

/-- A function's end: what is told of may go back, where it lies in new memory. -/
theorem RQ.postI {fn : Func} {R : Value → List It → List It → Prop} {H' I' : List It} (hr : ∀ a w, Ag N a E → Cls w0 S I H w → (results fn a.tmps).run P w = .ok v w) (hs : Split H H' []) (hi : ∀ x ∈ I', x ∈ I) (hf : ∀ b ∈ bss I', w0.heap.size ≤ b) (hR : R v I' H') (hd : N.ds = [] := by rfl) : RQ (FnPost P fn R w0 S) N E w0 S I H := by
  intro a w ha hw
  obtain ⟨s1, s2, s3⟩ := hs.spec
  obtain ⟨s4, s5⟩ := s3 hw.s.nd
  have own : ∀ x ∈ H, ∀ b ∈ x.bs, b ∈ S ∨ w0.heap.size ≤ b := fun x hx b hb => by
    rcases Nat.lt_or_ge b w0.heap.size with h | h
    · exact .inl (hw.own b (mem_bss.2 ⟨x, hx, hb⟩) h)
    · exact .inr h
  show LeavesInM _ _ _ _ _ _ a.defers _ _
  rw [ha.d, hd]
  refine ⟨v, hr a w ha hw, v, I', H', rfl, hR, hw.k, ⟨fun x hx => hw.s.i x (hi x hx), fun x hx => hw.s.h x (s1 x hx), s4, fun b hb hb' => ?_⟩, ?_, ?_⟩
  · obtain ⟨x, hx, hbx⟩ := mem_bss.1 hb
    obtain ⟨y, hy, hby⟩ := mem_bss.1 hb'
    exact hw.s.dj b (mem_bss.2 ⟨x, hi x hx, hbx⟩) (mem_bss.2 ⟨y, s1 y hy, hby⟩)
  · intro b hb; obtain ⟨x, hx, hbx⟩ := mem_bss.1 hb; exact own x (s1 x hx) b hbx
  · intro b hb; exact .inr (hf b hb)

theorem run_mark {b : Nat} {cs : Array Value} {T : TypeId} {w : World} (h : w.heap[b]? = some (.cells cs T (0, 0))) : (markStringish ⟨b, 0, none⟩).run P w = .ok () (w.freeze ⟨b, cs.size, none⟩ 1) := by
  have hs : (shape b).run P w = .ok (some (T, cs.size)) w := by simp [shape, Sem.run, World.shape?, h]
  simp only [markStringish, Sem.run_bind, hs, Result.andThen_ok]
  rfl

/-- '[]byte("..")', as it is made: its array is told from here on. -/
theorem RL.stringish {e : TypeId} {b len cap : Nat} {cs : List Value} {B : List It} (hu : ∀ w, (underlying t).run P w = .ok (.slice e) w) (he : ∀ w, (underlying e).run P w = .ok (.int .u8) w) (ho : nth L i = some ⟨some d, .convert t t x, ty, pos, af, g⟩) (hw : wants L E ⟨some d, .convert t t x, ty, pos, af, g⟩ = true) (hN : Nat.blt d N.n = true)
    (hi : ef.contains i = true) (hb : bk.contains i = true) (hx : E.ev x = some (.slice (some ⟨b, 0, none⟩) len cap)) (hp : Pick H [PK.cel b cs e] B) (hl : cs.length = len)
    (h : RL P L ef bk tq Q l N ((d, .slice (some ⟨b, 0, none⟩) len cap) :: E) w0 S (PK.sls (some ⟨b, 0, none⟩) 1 len cs :: I) B) : RL P L ef bk tq Q (.cons i l) N E w0 S I H := by
  refine RL.eff ho hw hi rfl hN (fun a w ha hC => ?_)
  have hA : w.heap[b]? = some (.cells cs.toArray e (0, 0)) := hC.s.h _ (hp.memA (PK.cel b cs e) (by simp))
  have hlt : b < w.heap.size := (Array.getElem?_eq_some_iff.1 hA).1
  have hrun : (execOp a.eval ⟨some d, .convert t t x, ty, pos, af, g⟩).run P w = .ok (.value (.slice (some ⟨b, 0, none⟩) len cap)) (w.freeze ⟨b, cs.toArray.size, none⟩ 1) := by
    simp [execOp, ha.ev hx, convert, hu, he, run_mark hA]
  have hk : Keeps (bss [PK.cel b cs e]) w (w.freeze ⟨b, cs.toArray.size, none⟩ 1) := by
    refine ⟨by simp [World.freeze], by simp [World.freeze], by simp [World.freeze], by simp [World.freeze], fun c _ hn => ?_, by simp [World.freeze]⟩
    have hne : ¬ b = c := fun h => hn (by simp [PK.cel, h])
    simp [World.freeze, Array.getElem?_modify, hne]
  unfold does
  rw [hrun]
  refine ⟨[PK.sls (some ⟨b, 0, none⟩) 1 len cs] ++ I, [] ++ B, hC.call hp .nil hk ⟨?_, by simp, by simp [bss], by simp [bss]⟩ (by simp [bss]) ?_, fun x hx => List.mem_append_right _ hx, fun hbk => (by rw [hb] at hbk; cases hbk), h⟩
  · intro y hy
    obtain rfl : y = PK.sls (some ⟨b, 0, none⟩) 1 len cs := by simpa using hy
    refine ⟨by rw [hl, Nat.mul_one], fun _ => by simpa [World.freeze] using hlt, fun j u hj => ?_⟩
    rw [add_none, Nat.zero_add]
    simp [World.cell?, World.freeze, Array.getElem?_modify, hA, hj]
  · intro c hc
    left
    by_cases h0 : len = 0
    · simp [bss, PK.sls, h0] at hc
    · simpa [bss, PK.sls, PK.cel, h0] using hc
end
end Go.PK

/-
  PK, part K: arrays of bytes compared; a fact at a round's end; what is one's own told from here on.
-/
namespace Go.PK

section
variable {P : Program} {L : List Oper} {ef bk : List Nat} {tq : Tq} {Q : Exit → Act → World → Prop} {N : Fm} {E : Env} {w0 : World} {S : List Nat} {I H : List It} {i : Nat} {l : Sq}
variable {d : Nat} {x y z : Operand} {ty t yt : TypeId} {pos : String} {af : Array Edge} {g : Option (Nat × Bool)} {v : Value} {k k' : IntKind} {m n : Int}

end
end Go.PK
