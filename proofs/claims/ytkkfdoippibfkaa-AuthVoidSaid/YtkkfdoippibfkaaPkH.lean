/-
  PK, part H: comparisons; maps.
-/
import Derived.Test.YtkkfdoippibfkaaPkG
namespace Go.PK

section
variable {P : Program} {L : List Oper} {ef bk : List Nat} {tq : Tq} {Q : Exit → Act → World → Prop} {N : Nat} {E : Env} {w0 : World} {S : List Nat} {I H : List It} {i : Nat} {l : Sq}
variable {d : Nat} {x y z : Operand} {ty t yt : TypeId} {pos : String} {af : Array Edge} {g : Option (Nat × Bool)} {v : Value} {k k' : IntKind} {m n : Int}

/-! ### Comparisons -/

theorem RL.cmp {op : BinOp} {a b : Value} (ho : nth L i = some ⟨some d, .binOp op t x y yt, ty, pos, af, g⟩) (hw : wants L E ⟨some d, .binOp op t x y yt, ty, pos, af, g⟩ = true) (hN : Nat.blt d N = true)
    (hx : E.ev x = some a) (hy : E.ev y = some b) (hr : ∀ w, (do eqGuard op t x y a b; binOp op t a b : Sem Value).run P w = .ok v w) (h : RL P L ef bk tq Q l N ((d, v) :: E) w0 S I H) : RL P L ef bk tq Q (.cons i l) N E w0 S I H :=
  RL.pval ho hw rfl hN (fun ac w ha => by
    have := hr w
    show Sem.run P (do pure (Next.value (← (do eqGuard op t x y (ac.eval x) (ac.eval y); binOp op t (ac.eval x) (ac.eval y) : Sem Value)))) w = _
    rw [ha.ev hx, ha.ev hy, Sem.run_bind, this]
    rfl) h

theorem equal_ptr {e : TypeId} (hu : ∀ w, (underlying t).run P w = .ok (.pointer e) w) (p : Option Addr) (w : World) : (Op.equal t (.pointer p) (.pointer none)).run P w = .ok p.isNone w := by
  unfold Op.equal
  rw [show Op.maxDepth = 9999 + 1 from rfl, Op.equalIn.eq_2]
  cases p <;> simp [hu]
theorem eql_ptr {e : TypeId} (hu : ∀ w, (underlying t).run P w = .ok (.pointer e) w) (p : Option Addr) (w : World) : (do eqGuard .eql t x y (.pointer p) (.pointer none); binOp .eql t (.pointer p) (.pointer none) : Sem Value).run P w = .ok (.bool p.isNone) w := by
  simp [eqGuard, binOp, equal_ptr hu p]
theorem neq_ptr {e : TypeId} (hu : ∀ w, (underlying t).run P w = .ok (.pointer e) w) (p : Option Addr) (w : World) : (do eqGuard .neq t x y (.pointer p) (.pointer none); binOp .neq t (.pointer p) (.pointer none) : Sem Value).run P w = .ok (.bool (!p.isNone)) w := by
  simp [eqGuard, binOp, equal_ptr hu p]
theorem equal_map {a b : TypeId} (hu : ∀ w, (underlying t).run P w = .ok (.map a b) w) (p : Option Nat) (w : World) : (Op.equal t (.map p) (.map none)).run P w = .ok p.isNone w := by
  unfold Op.equal
  rw [show Op.maxDepth = 9999 + 1 from rfl, Op.equalIn.eq_2]
  cases p <;> simp [hu]
theorem eql_map {a b : TypeId} (hu : ∀ w, (underlying t).run P w = .ok (.map a b) w) (p : Option Nat) (w : World) : (do eqGuard .eql t x y (.map p) (.map none); binOp .eql t (.map p) (.map none) : Sem Value).run P w = .ok (.bool p.isNone) w := by
  simp [eqGuard, binOp, equal_map hu p]
theorem neq_map {a b : TypeId} (hu : ∀ w, (underlying t).run P w = .ok (.map a b) w) (p : Option Nat) (w : World) : (do eqGuard .neq t x y (.map p) (.map none); binOp .neq t (.map p) (.map none) : Sem Value).run P w = .ok (.bool (!p.isNone)) w := by
  simp [eqGuard, binOp, equal_map hu p]
theorem equal_slice {a : TypeId} (hu : ∀ w, (underlying t).run P w = .ok (.slice a) w) (p : Option Addr) (len cap : Nat) (w : World) : (Op.equal t (.slice p len cap) (.slice none 0 0)).run P w = .ok p.isNone w := by
  unfold Op.equal
  rw [show Op.maxDepth = 9999 + 1 from rfl, Op.equalIn.eq_2]
  cases p <;> simp [hu]
theorem eql_slice {a : TypeId} (hu : ∀ w, (underlying t).run P w = .ok (.slice a) w) (p : Option Addr) (len cap : Nat) (w : World) : (do eqGuard .eql t x y (.slice p len cap) (.slice none 0 0); binOp .eql t (.slice p len cap) (.slice none 0 0) : Sem Value).run P w = .ok (.bool p.isNone) w := by
  simp [eqGuard, binOp, equal_slice hu p len cap]
theorem neq_slice {a : TypeId} (hu : ∀ w, (underlying t).run P w = .ok (.slice a) w) (p : Option Addr) (len cap : Nat) (w : World) : (do eqGuard .neq t x y (.slice p len cap) (.slice none 0 0); binOp .neq t (.slice p len cap) (.slice none 0 0) : Sem Value).run P w = .ok (.bool (!p.isNone)) w := by
  simp [eqGuard, binOp, equal_slice hu p len cap]
theorem equal_bool  (hu : ∀ w, (underlying t).run P w = .ok (.bool) w) (p q : Bool) (w : World) : (Op.equal t (.bool p) (.bool q)).run P w = .ok (p == q) w := by
  unfold Op.equal
  rw [show Op.maxDepth = 9999 + 1 from rfl, Op.equalIn.eq_2]
  cases p <;> simp [hu]
theorem eql_bool  (hu : ∀ w, (underlying t).run P w = .ok (.bool) w) (p q : Bool) (w : World) : (do eqGuard .eql t x y (.bool p) (.bool q); binOp .eql t (.bool p) (.bool q) : Sem Value).run P w = .ok (.bool (p == q)) w := by
  simp [eqGuard, binOp, equal_bool hu p q]
theorem neq_bool  (hu : ∀ w, (underlying t).run P w = .ok (.bool) w) (p q : Bool) (w : World) : (do eqGuard .neq t x y (.bool p) (.bool q); binOp .neq t (.bool p) (.bool q) : Sem Value).run P w = .ok (.bool (!(p == q))) w := by
  simp [eqGuard, binOp, equal_bool hu p q]

/-! ### Maps -/

open Classical in
/-- Two values are one. -/
noncomputable def same (a b : Value) : Bool := decide (a = b)

theorem same_self (a : Value) : same a a = true := by simp [same]
theorem same_iff {a b : Value} : same a b = true ↔ a = b := by simp [same]

/-- Keys whose equality is the model's own. -/
structure KeyT (P : Program) (kt : TypeId) (good : Value → Prop) : Prop where
  desc : ∃ D, (∀ w, (underlying kt).run P w = .ok D w) ∧ ∀ a b, good a → good b → Instr.sameNow D a b = none ∨ Instr.sameNow D a b = some (same a b)
  eq : ∀ a b, good a → good b → ∀ w, (Op.equal kt a b).run P w = .ok (same a b) w
  chk : ∀ a, good a → ∀ e w, (Instr.checkKey e 10000 kt a).run P w = .ok () w
  bits : ∀ a, good a → Instr.sameBits 10000 a a = true

noncomputable def findL (k : Value) : List MapEntry → Nat → Option (Nat × Value)
  | [], _ => none
  | e :: es, i => open Classical in if k = e.key then some (i, e.val) else findL k es (i + 1)

theorem run_findAsking {kt : TypeId} {good : Value → Prop} (K : KeyT P kt good) {k : Value} (hk : good k) : ∀ (es : List MapEntry) (i : Nat) (w : World), (∀ e ∈ es, good e.key) → (Instr.findAsking kt k es i).run P w = .ok (findL k es i) w
  | [], i, w, _ => by simp [Instr.findAsking, findL]
  | e :: es, i, w, hg => by
    have h1 := K.eq k e.key hk (hg e (by simp)) w
    have h2 := run_findAsking K hk es (i + 1) w (fun e he => hg e (by simp [he]))
    by_cases hke : k = e.key
    · subst hke; simp [Instr.findAsking, findL, h1, same]
    · simp [Instr.findAsking, findL, h1, same, hke, h2]

theorem findNow_eq {D : TypeDesc} {good : Value → Prop} (hD : ∀ a b, good a → good b → Instr.sameNow D a b = none ∨ Instr.sameNow D a b = some (same a b)) {k : Value} (hk : good k) :
    ∀ (es : List MapEntry) (i : Nat), (∀ e ∈ es, good e.key) → Instr.findNow D k es i = none ∨ Instr.findNow D k es i = some (findL k es i)
  | [], i, _ => .inr rfl
  | e :: es, i, hg => by
    rcases hD k e.key hk (hg e (by simp)) with h | h
    · left; simp [Instr.findNow, h]
    · by_cases hke : k = e.key
      · right; subst hke; simp [Instr.findNow, h, findL, same]
      · rcases findNow_eq hD hk es (i + 1) (fun e he => hg e (by simp [he])) with h2 | h2
        · left; simp [Instr.findNow, h, same, hke, h2]
        · right; simp [Instr.findNow, h, same, hke, h2, findL]

theorem run_findKey {kt : TypeId} {good : Value → Prop} (K : KeyT P kt good) {k : Value} (hk : good k) (es : List MapEntry) (w : World) (hg : ∀ e ∈ es, good e.key) : (Instr.findKey kt k es).run P w = .ok (findL k es 0) w := by
  obtain ⟨D, hu, hD⟩ := K.desc
  rcases findNow_eq hD hk es 0 hg with h | h
  · simp [Instr.findKey, hu, h, run_findAsking K hk es 0 w hg]
  · simp [Instr.findKey, hu, h]

def kvs (es : List MapEntry) : List (Value × Value) := es.map fun e => (e.key, e.val)

/-- A map: what it holds, key by key, in the order in which the keys came. -/
def mapI (r : Nat) (good : Value → Prop) (c : List (Value × Value)) : It where
  bs := [r]
  A w := ∃ es clock, w.heap[r]? = some (.map es clock) ∧ kvs es.toList = c ∧ (c.map (·.1)).Nodup ∧ (∀ p ∈ c, good p.1) ∧ (es.toList.map (·.born)).Nodup ∧ ∀ e ∈ es.toList, e.born < clock
  fr w w' h hA := by
    obtain ⟨es, clock, h1, rest⟩ := hA
    exact ⟨es, clock, by rw [h r (by simp)]; exact h1, rest⟩
  lt w hA b hb := by
    obtain ⟨es, clock, h1, rest⟩ := hA
    have : b = r := by simpa using hb
    subst this
    exact (Array.getElem?_eq_some_iff.1 h1).1

theorem RL.makeMap {good : Value → Prop} (ho : nth L i = some ⟨some d, .makeMap t none, ty, pos, af, g⟩) (hw : wants L E ⟨some d, .makeMap t none, ty, pos, af, g⟩ = true) (hN : Nat.blt d N = true) (hi : ef.contains i = true)
    (h : ∀ b, RL P L ef bk tq Q l N ((d, .map (some b)) :: E) w0 S I (mapI b good [] :: H)) : RL P L ef bk tq Q (.cons i l) N E w0 S I H :=
  RL.make (x := fun b => mapI b good []) (u := fun b => .map (some b)) ho hw hi rfl hN (fun a w _ _ => ⟨w.alloc (.map #[] 0), by
    simp [execOp, Instr.makeMap], Keeps.alloc _ _ _, ⟨#[], 0, heap_alloc_same w _, rfl, by simp, by simp, by simp, by simp⟩, rfl⟩) h

open Classical in
/-- What a key leads to. -/
noncomputable def lookV (k : Value) : List (Value × Value) → Option Value
  | [] => none
  | (a, v) :: r => if k = a then some v else lookV k r

theorem findL_look {k : Value} : ∀ (es : List MapEntry) (i : Nat), (findL k es i).map (·.2) = lookV k (kvs es)
  | [], _ => rfl
  | e :: es, i => by
    by_cases h : k = e.key
    · simp [findL, kvs, lookV, h]
    · have := findL_look (k := k) es (i + 1)
      simp only [kvs] at this
      simp [findL, kvs, lookV, h, this]

theorem good_of_kvs {good : Value → Prop} {es : List MapEntry} {c : List (Value × Value)} (h : kvs es = c) (hg : ∀ p ∈ c, good p.1) : ∀ e ∈ es, good e.key := fun e he =>
  hg (e.key, e.val) (by rw [← h]; exact List.mem_map.2 ⟨e, he, rfl⟩)

/-- What is told of a map in every world of the class. -/
def MapAt (I H : List It) (r : Nat) (good : Value → Prop) (c : List (Value × Value)) : Prop := ∀ w, Sat I H w → (mapI r good c).A w

theorem MapAt.own {r : Nat} {good : Value → Prop} {c : List (Value × Value)} (hm : mapI r good c ∈ H) : MapAt I H r good c := fun _ hw => hw.h _ hm
theorem MapAt.told {r : Nat} {good : Value → Prop} {c : List (Value × Value)} (hm : mapI r good c ∈ I) : MapAt I H r good c := fun _ hw => hw.i _ hm

theorem RL.lookup {kt et : TypeId} {good : Value → Prop} {r : Nat} {c : List (Value × Value)} {key zv : Value} (K : KeyT P kt good) (hu : ∀ w, (underlying t).run P w = .ok (.map kt et) w) (hz : ∀ w, (zeroValue et).run P w = .ok zv w)
    (ho : nth L i = some ⟨some d, .lookup t x y false, ty, pos, af, g⟩) (hw : wants L E ⟨some d, .lookup t x y false, ty, pos, af, g⟩ = true) (hN : Nat.blt d N = true) (hx : E.ev x = some (.map (some r))) (hy : E.ev y = some key) (hk : good key) (hm : MapAt I H r good c)
    (h : RL P L ef bk tq Q l N ((d, (lookV key c).getD zv) :: E) w0 S I H) (ht : tq.l.contains i = false := by rfl) : RL P L ef bk tq Q (.cons i l) N E w0 S I H :=
  RL.val ho hw rfl hN (fun a w ha hC => by
    obtain ⟨es, clock, h1, h2, h3, h4, h5, h6⟩ := hm w hC.s
    have hf := run_findKey K hk es.toList w (good_of_kvs h2 h4)
    have hl := findL_look (k := key) es.toList 0
    rw [h2] at hl
    have hgo : (getObj r).run P w = .ok (.map es clock) w := by simp [getObj, Sem.run, h1]
    simp only [execOp, ha.ev hx, ha.ev hy, Instr.lookup, Sem.run_bind, hu, Result.andThen_ok, hgo, Sem.run_pure, K.chk key hk, hf]
    cases hfl : findL key es.toList 0 with
    | none => rw [hfl] at hl; simp [hz, ← hl]
    | some p => rw [hfl] at hl; simp [← hl]) h rfl ht

theorem RL.lookupOk {kt et : TypeId} {good : Value → Prop} {r : Nat} {c : List (Value × Value)} {key zv : Value} (K : KeyT P kt good) (hu : ∀ w, (underlying t).run P w = .ok (.map kt et) w) (hz : ∀ w, (zeroValue et).run P w = .ok zv w)
    (ho : nth L i = some ⟨some d, .lookup t x y true, ty, pos, af, g⟩) (hw : wants L E ⟨some d, .lookup t x y true, ty, pos, af, g⟩ = true) (hN : Nat.blt d N = true) (hx : E.ev x = some (.map (some r))) (hy : E.ev y = some key) (hk : good key) (hm : MapAt I H r good c)
    (h : RL P L ef bk tq Q l N ((d, .tuple #[(lookV key c).getD zv, .bool (lookV key c).isSome]) :: E) w0 S I H) (ht : tq.l.contains i = false := by rfl) : RL P L ef bk tq Q (.cons i l) N E w0 S I H :=
  RL.val ho hw rfl hN (fun a w ha hC => by
    obtain ⟨es, clock, h1, h2, h3, h4, h5, h6⟩ := hm w hC.s
    have hf := run_findKey K hk es.toList w (good_of_kvs h2 h4)
    have hl := findL_look (k := key) es.toList 0
    rw [h2] at hl
    have hgo : (getObj r).run P w = .ok (.map es clock) w := by simp [getObj, Sem.run, h1]
    simp only [execOp, ha.ev hx, ha.ev hy, Instr.lookup, Sem.run_bind, hu, Result.andThen_ok, hgo, Sem.run_pure, K.chk key hk, hf]
    cases hfl : findL key es.toList 0 with
    | none => rw [hfl] at hl; simp [hz, ← hl]
    | some p => rw [hfl] at hl; simp [← hl]) h rfl ht

open Classical in
/-- A key's value laid in. -/
noncomputable def setV (k v : Value) : List (Value × Value) → List (Value × Value)
  | [] => [(k, v)]
  | (a, u) :: r => if k = a then (k, v) :: r else (a, u) :: setV k v r

open Classical in
/-- A key taken out. -/
noncomputable def delV (k : Value) : List (Value × Value) → List (Value × Value)
  | [] => []
  | (a, u) :: r => if k = a then r else (a, u) :: delV k r

theorem mem_setV {k v : Value} : ∀ {c : List (Value × Value)} {p : Value × Value}, p ∈ setV k v c → p = (k, v) ∨ p ∈ c
  | [], p, h => by simp [setV] at h; exact .inl h
  | (a, u) :: r, p, h => by
    by_cases hk : k = a
    · subst hk; simp [setV] at h; rcases h with h | h <;> simp [h]
    · simp [setV, hk] at h
      rcases h with h | h
      · simp [h]
      · rcases mem_setV h with h | h <;> simp [h]

open Classical in
theorem keys_setV {k v : Value} : ∀ (c : List (Value × Value)), (setV k v c).map (·.1) = if k ∈ c.map (·.1) then c.map (·.1) else c.map (·.1) ++ [k]
  | [] => by simp [setV]
  | (a, u) :: r => by
    by_cases hk : k = a
    · subst hk; simp [setV]
    · have ih := keys_setV (k := k) (v := v) r
      simp only [setV, hk, if_false, List.map_cons, ih, List.mem_cons, false_or]
      split <;> simp

theorem nodup_setV {k v : Value} {c : List (Value × Value)} (h : (c.map (·.1)).Nodup) : ((setV k v c).map (·.1)).Nodup := by
  rw [keys_setV]
  split
  · exact h
  · rename_i hn
    rw [List.nodup_append]
    exact ⟨h, by simp, fun a ha b hb => by have : b = k := by simpa using hb
                                           subst this; exact fun e => hn (e ▸ ha)⟩

theorem delV_sublist {k : Value} : ∀ (c : List (Value × Value)), (delV k c).Sublist c
  | [] => List.Sublist.refl _
  | (a, u) :: r => by
    by_cases hk : k = a
    · simp [delV, hk]
    · simp only [delV, hk, if_false]; exact (delV_sublist r).cons_cons _

theorem setObj_run {r : Nat} {o o' : Obj} {w : World} (h : w.heap[r]? = some o) (hc : ∀ c e f, o ≠ .cells c e f) : (setObj r o').run P w = .ok () { w with heap := w.heap.setIfInBounds r o' } := by
  simp only [setObj, Sem.run, h]

theorem Keeps.setObj {w : World} {r : Nat} {o : Obj} : Keeps [r] w { w with heap := w.heap.setIfInBounds r o } :=
  ⟨rfl, rfl, rfl, by simp, fun b _ hn => by
    have : r ≠ b := fun e => hn (by simp [e])
    simp [Array.getElem?_setIfInBounds_ne this], Nat.le_refl _⟩

theorem heap_setObj {w : World} {r : Nat} {o o' : Obj} (h : w.heap[r]? = some o') : ({ w with heap := w.heap.setIfInBounds r o } : World).heap[r]? = some o := by
  have hlt := (Array.getElem?_eq_some_iff.1 h).1
  simp [hlt]

theorem findL_some {k : Value} : ∀ {es : List MapEntry} {i j : Nat} {v : Value}, findL k es i = some (j, v) → i ≤ j ∧ ∃ e, es[j - i]? = some e ∧ e.key = k ∧ e.val = v ∧ ∀ q < j - i, ∀ e', es[q]? = some e' → e'.key ≠ k
  | [], i, j, v, h => by cases h
  | e :: es, i, j, v, h => by
    by_cases hk : k = e.key
    · simp only [findL, hk, if_true, Option.some.injEq, Prod.mk.injEq] at h
      obtain ⟨rfl, rfl⟩ := h
      exact ⟨Nat.le_refl _, e, by simp, hk.symm, rfl, fun q hq => by omega⟩
    · simp only [findL, hk, if_false] at h
      obtain ⟨h1, e', h2, h3, h4, h5⟩ := findL_some h
      refine ⟨by omega, e', ?_, h3, h4, ?_⟩
      · rw [show j - i = (j - (i + 1)) + 1 by omega]; simpa using h2
      · intro q hq e2 he2
        cases q with
        | zero => simp at he2; subst he2; exact fun h => hk h.symm
        | succ q => simp at he2; exact h5 q (by omega) e2 he2

theorem findL_none {k : Value} : ∀ {es : List MapEntry} {i : Nat}, findL k es i = none → ∀ e ∈ es, e.key ≠ k
  | [], _, _, e, he => by cases he
  | e0 :: es, i, h, e, he => by
    by_cases hk : k = e0.key
    · simp [findL, hk] at h
    · simp only [findL, hk, if_false] at h
      rcases List.mem_cons.1 he with rfl | he
      · exact fun h => hk h.symm
      · exact findL_none h e he

theorem setV_at {k v : Value} : ∀ (es : List MapEntry) (j : Nat) (e : MapEntry), es[j]? = some e → e.key = k → (∀ q < j, ∀ e', es[q]? = some e' → e'.key ≠ k) → kvs (es.set j { e with key := k, val := v }) = setV k v (kvs es)
  | [], j, e, h, _, _ => by simp at h
  | e0 :: es, 0, e, h, hk, _ => by
    simp at h; subst h; simp [kvs, setV, hk]
  | e0 :: es, j + 1, e, h, hk, hn => by
    have h0 : k ≠ e0.key := fun h => hn 0 (by omega) e0 (by simp) h.symm
    have := setV_at (v := v) es j e (by simpa using h) hk (fun q hq e' he' => hn (q + 1) (by omega) e' (by simpa using he'))
    simp only [kvs] at this
    simp [kvs, setV, h0, this]

theorem setV_new {k v : Value} {b : Nat} : ∀ (es : List MapEntry), (∀ e ∈ es, e.key ≠ k) → kvs (es ++ [{ key := k, val := v, born := b }]) = setV k v (kvs es)
  | [], _ => by simp [kvs, setV]
  | e0 :: es, hn => by
    have h0 : k ≠ e0.key := fun h => hn e0 (by simp) h.symm
    have := setV_new (b := b) (v := v) es (fun e he => hn e (by simp [he]))
    have e1 : kvs (e0 :: es ++ [{ key := k, val := v, born := b }]) = (e0.key, e0.val) :: kvs (es ++ [{ key := k, val := v, born := b }]) := rfl
    have e2 : kvs (e0 :: es) = (e0.key, e0.val) :: kvs es := rfl
    rw [e1, this, e2, setV, if_neg h0]

theorem delV_at {k : Value} : ∀ (es : List MapEntry) (j : Nat) (e : MapEntry), es[j]? = some e → e.key = k → (∀ q < j, ∀ e', es[q]? = some e' → e'.key ≠ k) → kvs (es.eraseIdx j) = delV k (kvs es)
  | [], j, e, h, _, _ => by simp at h
  | e0 :: es, 0, e, h, hk, _ => by
    simp at h; subst h; simp [kvs, delV, hk]
  | e0 :: es, j + 1, e, h, hk, hn => by
    have h0 : k ≠ e0.key := fun h => hn 0 (by omega) e0 (by simp) h.symm
    have := delV_at es j e (by simpa using h) hk (fun q hq e' he' => hn (q + 1) (by omega) e' (by simpa using he'))
    simp only [kvs] at this
    simp [kvs, delV, h0, this]

theorem delV_none {k : Value} : ∀ (es : List MapEntry), (∀ e ∈ es, e.key ≠ k) → delV k (kvs es) = kvs es
  | [], _ => rfl
  | e0 :: es, hn => by
    have h0 : k ≠ e0.key := fun h => hn e0 (by simp) h.symm
    have := delV_none es (fun e he => hn e (by simp [he]))
    simp only [kvs] at this
    simp [kvs, delV, h0, this]

theorem run_mapUpdate {kt et : TypeId} {good : Value → Prop} {r : Nat} {c : List (Value × Value)} {key u : Value} {w : World} (K : KeyT P kt good) (hu : ∀ w, (underlying t).run P w = .ok (.map kt et) w) (hk : good key) (hA : (mapI r good c).A w) :
    ∃ w', (Instr.mapUpdate t (.map (some r)) key u).run P w = .ok () w' ∧ Keeps [r] w w' ∧ (mapI r good (setV key u c)).A w' := by
  obtain ⟨es, clock, h1, h2, h3, h4, h5, h6⟩ := hA
  have hf := run_findKey K hk es.toList w (good_of_kvs h2 h4)
  have hgo : (getObj r).run P w = .ok (.map es clock) w := by simp [getObj, Sem.run, h1]
  have hg' : ∀ p ∈ setV key u c, good p.1 := fun p hp => by
    rcases mem_setV hp with rfl | hp
    · exact hk
    · exact h4 p hp
  cases hfl : findL key es.toList 0 with
  | none =>
    refine ⟨{ w with heap := w.heap.setIfInBounds r (.map (es.push { key := key, val := u, born := clock }) (clock + 1)) }, ?_, Keeps.setObj, ⟨_, _, heap_setObj h1, ?_, nodup_setV h3, hg', ?_, ?_⟩⟩
    · simp [Instr.mapUpdate, hu, hgo, K.chk key hk, hf, hfl, setObj_run h1 (by simp)]
    · rw [Array.toList_push, setV_new es.toList (findL_none hfl), h2]
    · rw [Array.toList_push, List.map_append, List.nodup_append]
      exact ⟨h5, by simp, fun a ha b hb => by
        obtain ⟨e, he, rfl⟩ := List.mem_map.1 ha
        have := h6 e he
        simp at hb; omega⟩
    · intro e he
      rw [Array.toList_push] at he
      rcases List.mem_append.1 he with he | he
      · have := h6 e he; omega
      · simp at he; subst he; simp
  | some p =>
    obtain ⟨j, v0⟩ := p
    obtain ⟨_, e, g1, g2, g3, g4⟩ := findL_some hfl
    simp only [Nat.sub_zero] at g1 g4
    have hst : (Instr.keyThatStays ((es[j]?.map (·.key)).getD key) key).run P w = .ok key w := by
      have : (es[j]?.map (·.key)).getD key = key := by
        have : es[j]? = some e := by simpa using g1
        simp [this, g2]
      rw [this]
      simp [Instr.keyThatStays, K.bits key hk]
    refine ⟨{ w with heap := w.heap.setIfInBounds r (.map (es.modify j fun e => { e with key := key, val := u }) clock) }, ?_, Keeps.setObj, ⟨_, _, heap_setObj h1, ?_, nodup_setV h3, hg', ?_, ?_⟩⟩
    · simp only [Instr.mapUpdate, Sem.run_bind, hu, Result.andThen_ok, hgo, K.chk key hk, hf, hfl, hst, setObj_run h1 (by simp)]
    · have hm : (es.modify j fun e => { e with key := key, val := u }).toList = es.toList.set j { e with key := key, val := u } := by
        apply List.ext_getElem?
        intro q
        simp only [Array.toList_modify, List.getElem?_modify, List.getElem?_set]
        by_cases hq : j = q
        · subst hq
          have hlt : j < es.size := by simpa using (List.getElem?_eq_some_iff.1 g1).1
          rw [g1]; simp [hlt]
        · simp [hq]
      rw [hm, setV_at es.toList j e g1 g2 g4, h2]
    · have : (es.modify j fun e => { e with key := key, val := u }).toList.map (·.born) = es.toList.map (·.born) := by
        apply List.ext_getElem?
        intro q
        simp only [Array.toList_modify, List.getElem?_map, List.getElem?_modify]
        cases es.toList[q]? with
        | none => simp
        | some e2 => by_cases hq : j = q <;> simp [hq]
      rw [this]; exact h5
    · intro e' he'
      rw [Array.toList_modify] at he'
      obtain ⟨q, hq, rfl⟩ := List.mem_iff_getElem.1 he'
      have := h6 (es.toList[q]'(by simpa using hq)) (List.getElem_mem _)
      rw [List.getElem_modify]
      split <;> exact this

theorem RL.mapUpdate {kt et : TypeId} {good : Value → Prop} {r : Nat} {c : List (Value × Value)} {key u : Value} {H' : List It} (K : KeyT P kt good) (hu : ∀ w, (underlying t).run P w = .ok (.map kt et) w)
    (ho : nth L i = some ⟨none, .mapUpdate t x y z, ty, pos, af, g⟩) (hw : wants L E ⟨none, .mapUpdate t x y z, ty, pos, af, g⟩ = true) (hi : ef.contains i = true) (hb : bk.contains i = true)
    (hx : E.ev x = some (.map (some r))) (hy : E.ev y = some key) (hz : E.ev z = some u) (hk : good key) (hup : Upd H (mapI r good c) (mapI r good (setV key u c)) H') (h : RL P L ef bk tq Q l N E w0 S I H') : RL P L ef bk tq Q (.cons i l) N E w0 S I H :=
  RL.turn0 ho hw hi hb rfl hup rfl (fun a w ha hC => by
    obtain ⟨w', h1, h2, h3⟩ := run_mapUpdate K hu hk (hC.s.h _ hup.mem) (u := u)
    refine ⟨w', ?_, h2, h3⟩
    show Sem.run P (do Instr.mapUpdate t (a.eval x) (a.eval y) (a.eval z); pure Next.skip) w = _
    rw [ha.ev hx, ha.ev hy, ha.ev hz]
    simp [h1]) h

theorem run_delete {kt et : TypeId} {good : Value → Prop} {r : Nat} {c : List (Value × Value)} {key : Value} {w : World} (K : KeyT P kt good) (hu : ∀ w, (underlying t).run P w = .ok (.map kt et) w) (hk : good key) {ats : Array TypeId} (ha : ats[0]? = some t)
    {es : Array MapEntry} {clock : Nat} (h1 : w.heap[r]? = some (.map es clock)) (h2 : kvs es.toList = c) (h4 : ∀ p ∈ c, good p.1) :
    ∃ es', (Builtin.delete_ ats ty #[.map (some r), key]).run P w = .ok (.tuple #[]) { w with heap := w.heap.setIfInBounds r (.map es' clock) } ∧ kvs es'.toList = delV key c ∧ es'.toList.Sublist es.toList ∧
      ∀ e ∈ es.toList, e ∈ es'.toList ∨ e.key = key := by
  have hf := run_findKey K hk es.toList w (good_of_kvs h2 h4)
  have hgo : (getObj r).run P w = .ok (.map es clock) w := by simp [getObj, Sem.run, h1]
  cases hfl : findL key es.toList 0 with
  | none =>
    refine ⟨es, ?_, ?_, List.Sublist.refl _, fun e he => .inl he⟩
    · simp [Builtin.delete_, ha, hu, hgo, K.chk key hk, hf, hfl, setObj_run h1 (by simp)]
    · rw [← h2, delV_none _ (findL_none hfl)]
  | some p =>
    obtain ⟨j, v0⟩ := p
    obtain ⟨_, e, g1, g2, g3, g4⟩ := findL_some hfl
    simp only [Nat.sub_zero] at g1 g4
    have hlt : j < es.size := by simpa using (List.getElem?_eq_some_iff.1 g1).1
    refine ⟨es.eraseIdxIfInBounds j, ?_, ?_, ?_, ?_⟩
    · simp [Builtin.delete_, ha, hu, hgo, K.chk key hk, hf, hfl, setObj_run h1 (by simp)]
    · rw [Array.toList_eraseIdxIfInBounds, delV_at es.toList j e g1 g2 g4, h2]
    · rw [Array.toList_eraseIdxIfInBounds]; exact List.eraseIdx_sublist _ _
    · intro e' he'
      rw [Array.toList_eraseIdxIfInBounds]
      obtain ⟨q, hq, rfl⟩ := List.mem_iff_getElem.1 he'
      by_cases hqj : q = j
      · subst hqj
        right
        have : es.toList[q] = e := by have := (List.getElem?_eq_some_iff.1 g1).2; exact this
        rw [this]; exact g2
      · left
        exact List.mem_eraseIdx_iff_getElem.2 ⟨q, hq, hqj, rfl⟩

theorem exec_delete {ρ : Operand → Value} {dst : Option Tmp} {vx vy : Value} {ats : Array TypeId} (hx : ρ x = vx) (hy : ρ y = vy) {r : Value} {w w' : World} (h : (Builtin.delete_ ats ty #[vx, vy]).run P w = .ok r w') :
    (execOp ρ ⟨dst, .call ⟨.builtin .delete, #[x, y], ats⟩, ty, pos, af, g⟩).run P w = .ok (.value r) w' := by
  simp only [BigFrame.execOp_builtin, BigFrame.builtin_delete, List.map_toArray, List.map_cons, List.map_nil, hx, hy]
  simp [h]

/-- An operation without a slot that turns one of one's own things, with a value nobody takes. -/
theorem RL.turnV {o : Oper} {H' : List It} {x x' : It} {u : Value} (ho : nth L i = some o) (hw : wants L E o = true) (hi : ef.contains i = true) (hb : bk.contains i = true) (hd : o.dst = none) (hu : Upd H x x' H') (hbs : x'.bs = x.bs)
    (hv : ∀ a w, Ag N a E → Cls w0 S I H w → ∃ w', (execOp a.eval o).run P w = .ok (.value u) w' ∧ Keeps x.bs w w' ∧ x'.A w') (h : RL P L ef bk tq Q l N E w0 S I H') : RL P L ef bk tq Q (.cons i l) N E w0 S I H := by
  refine RL.eff0 ho hw hi hd (fun a w ha hC => ?_)
  obtain ⟨w', h1, h2, h3⟩ := hv a w ha hC
  unfold does
  rw [h1]
  exact ⟨I, H', hC.upd hu h2 hbs h3, fun _ h => h, fun h => (by rw [hb] at h; cases h), h⟩

theorem RL.delete {kt et : TypeId} {good : Value → Prop} {r : Nat} {c : List (Value × Value)} {key : Value} {H' : List It} {t2 : TypeId} (K : KeyT P kt good) (hu : ∀ w, (underlying t).run P w = .ok (.map kt et) w)
    (ho : nth L i = some ⟨none, .call ⟨.builtin .delete, #[x, y], #[t, t2]⟩, ty, pos, af, g⟩) (hw : wants L E ⟨none, .call ⟨.builtin .delete, #[x, y], #[t, t2]⟩, ty, pos, af, g⟩ = true) (hi : ef.contains i = true) (hb : bk.contains i = true)
    (hx : E.ev x = some (.map (some r))) (hy : E.ev y = some key) (hk : good key) (hup : Upd H (mapI r good c) (mapI r good (delV key c)) H') (h : RL P L ef bk tq Q l N E w0 S I H') : RL P L ef bk tq Q (.cons i l) N E w0 S I H :=
  RL.turnV (u := .tuple #[]) ho hw hi hb rfl hup rfl (fun a w ha hC => by
    obtain ⟨es, clock, h1, h2, h3, h4, h5, h6⟩ := hC.s.h _ hup.mem
    obtain ⟨es', g1, g2, g3, g4⟩ := run_delete (ty := ty) K hu hk (ats := #[t, t2]) rfl h1 h2 h4
    refine ⟨_, exec_delete (ha.ev hx) (ha.ev hy) g1, Keeps.setObj, ⟨es', clock, heap_setObj h1, g2, ?_, ?_, ?_, ?_⟩⟩
    · exact h3.sublist ((delV_sublist c).map _)
    · exact fun p hp => h4 p ((delV_sublist c).subset hp)
    · exact h5.sublist (g3.map _)
    · exact fun e he => h6 e (g3.subset he)) h

/-! ### Ranging over a map -/

/-- A map and one that goes over it: what is still to come. -/
def mapIt (r it : Nat) (good : Value → Prop) (c left : List (Value × Value)) : It where
  bs := [r, it]
  A w := ∃ es clock since seen, w.heap[r]? = some (.map es clock) ∧ w.heap[it]? = some (.mapIter (some r) since seen clock) ∧ kvs es.toList = c ∧ (c.map (·.1)).Nodup ∧ (∀ p ∈ c, good p.1) ∧ (es.toList.map (·.born)).Nodup ∧ (∀ e ∈ es.toList, e.born < clock) ∧
    since = clock ∧ left = kvs (es.toList.filter fun e => !seen.contains e.born)
  fr w w' h hA := by
    obtain ⟨es, clock, since, seen, h1, h2, rest⟩ := hA
    exact ⟨es, clock, since, seen, by rw [h r (by simp)]; exact h1, by rw [h it (by simp)]; exact h2, rest⟩
  lt w hA b hb := by
    obtain ⟨es, clock, since, seen, h1, h2, rest⟩ := hA
    simp at hb
    rcases hb with rfl | rfl
    · exact (Array.getElem?_eq_some_iff.1 h1).1
    · exact (Array.getElem?_eq_some_iff.1 h2).1

theorem RL.range {kt et : TypeId} {good : Value → Prop} {r : Nat} {c : List (Value × Value)} {B : List It} (hu : ∀ w, (underlying t).run P w = .ok (.map kt et) w)
    (ho : nth L i = some ⟨some d, .range t x, ty, pos, af, g⟩) (hw : wants L E ⟨some d, .range t x, ty, pos, af, g⟩ = true) (hN : Nat.blt d N = true) (hi : ef.contains i = true) (hb : bk.contains i = true)
    (hx : E.ev x = some (.map (some r))) (hp : Pick H [mapI r good c] B) (h : ∀ it, RL P L ef bk tq Q l N ((d, .pointer (some ⟨it, 0, none⟩)) :: E) w0 S I (mapIt r it good c c :: B)) : RL P L ef bk tq Q (.cons i l) N E w0 S I H := by
  refine RL.eff ho hw hi rfl hN (fun a w ha hC => ?_)
  have hmA : (mapI r good c).A w := hC.s.h _ (hp.memA _ (by simp))
  obtain ⟨es, clock, h1, h2, h3, h4, h5, h6⟩ := hmA
  have hgo : (getObj r).run P w = .ok (.map es clock) w := by simp [getObj, Sem.run, h1]
  have hrl : r < w.heap.size := (Array.getElem?_eq_some_iff.1 h1).1
  have key : (execOp a.eval ⟨some d, .range t x, ty, pos, af, g⟩).run P w = .ok (.value (.pointer (some ⟨w.heap.size, 0, none⟩))) (w.alloc (.mapIter (some r) clock #[] clock)) := by
    simp [execOp, ha.ev hx, Instr.range, hu, hgo]
  unfold does
  rw [key]
  have hs : Sat [] [mapIt r w.heap.size good c c] (w.alloc (.mapIter (some r) clock #[] clock)) := by
    refine ⟨by simp, ?_, ?_, by simp⟩
    · intro y hy
      have : y = mapIt r w.heap.size good c c := by simpa using hy
      subst this
      refine ⟨es, clock, clock, #[], by rw [heap_alloc_lt _ _ hrl]; exact h1, heap_alloc_same w _, h2, h3, h4, h5, h6, rfl, ?_⟩
      rw [← h2]
      congr 1
      symm
      apply List.filter_eq_self.2
      simp
    · simp [mapIt]; omega
  refine ⟨I, _, hC.call (C := []) hp .nil (Keeps.alloc _ w _) hs ?_ (by simp), fun _ h => h, fun hbk => (by rw [hb] at hbk; cases hbk), h _⟩
  intro b hb'
  simp [mapIt, mapI] at hb' ⊢
  rcases hb' with rfl | rfl
  · exact .inl rfl
  · exact .inr (Nat.le_refl _)

theorem eraseIdx_map {α β : Type} (f : α → β) : ∀ (l : List α) (j : Nat), (l.map f).eraseIdx j = (l.eraseIdx j).map f
  | [], _ => by simp
  | _ :: _, 0 => by simp
  | a :: l, j + 1 => by simp [eraseIdx_map f l j]

theorem nodup_of_map {α β : Type} {f : α → β} {l : List α} (h : (l.map f).Nodup) : l.Nodup := by
  induction l with
  | nil => exact List.nodup_nil
  | cons a l ih =>
    simp only [List.map_cons, List.nodup_cons] at h ⊢
    exact ⟨fun ha => h.1 (List.mem_map.2 ⟨a, ha, rfl⟩), ih h.2⟩

theorem run_choose (n : Nat) (hn : 0 < n) (w : World) : ∃ j dr, j < n ∧ w.drawn ≤ dr ∧ (choose (.mapNext n)).run P w = .ok j { w with drawn := dr } := by
  by_cases h : n ≤ 1
  · exact ⟨0, w.drawn, hn, Nat.le_refl _, by simp [choose, Sem.run, Question.forced, h]⟩
  · refine ⟨_, w.drawn + 1, Nat.mod_lt (w.tape w.drawn (.mapNext n)) hn, Nat.le_succ _, ?_⟩
    simp [choose, Sem.run, Question.forced, h, Question.cut]

theorem filter_seen {es : List MapEntry} {seen : Array Nat} {e : MapEntry} {j : Nat} (hnd : (es.map (·.born)).Nodup) (he : (es.filter fun e => !seen.contains e.born)[j]? = some e) :
    (es.filter fun e' => !(seen.push e.born).contains e'.born) = (es.filter fun e => !seen.contains e.born).eraseIdx j := by
  have h1 : (es.filter fun e' => !(seen.push e.born).contains e'.born) = (es.filter fun e => !seen.contains e.born).filter (fun e' => e'.born != e.born) := by
    rw [List.filter_filter]
    apply List.filter_congr
    intro x _
    simp only [Array.contains_push, Bool.not_or]
    rw [Bool.and_comm]
    congr 1
  rw [h1]
  generalize hl : (es.filter fun e => !seen.contains e.born) = lf at he ⊢
  have hnd' : (lf.map (·.born)).Nodup := by rw [← hl]; exact hnd.sublist (List.filter_sublist.map _)
  clear hl h1 hnd
  induction lf generalizing j with
  | nil => simp at he
  | cons a lf ih =>
    simp only [List.map_cons, List.nodup_cons] at hnd'
    cases j with
    | zero =>
      simp only [List.getElem?_cons_zero, Option.some.injEq] at he
      subst he
      simp only [List.eraseIdx_zero, List.tail_cons]
      rw [List.filter_cons_of_neg (by simp)]
      apply List.filter_eq_self.2
      intro x hx
      have : x.born ≠ a.born := fun h => hnd'.1 (h ▸ List.mem_map.2 ⟨x, hx, rfl⟩)
      simpa using this
    | succ j =>
      simp only [List.getElem?_cons_succ] at he
      have hne : a.born ≠ e.born := fun h => hnd'.1 (h ▸ List.mem_map.2 ⟨e, List.mem_of_getElem? he, rfl⟩)
      rw [List.filter_cons_of_pos (by simpa using hne), ih he hnd'.2]
      simp

theorem RL.next {good : Value → Prop} {r it : Nat} {c left : List (Value × Value)} {B : List It}
    (ho : nth L i = some ⟨some d, .next x false, ty, pos, af, g⟩) (hw : wants L E ⟨some d, .next x false, ty, pos, af, g⟩ = true) (hN : Nat.blt d N = true) (hi : ef.contains i = true) (hb : bk.contains i = true)
    (hx : E.ev x = some (.pointer (some ⟨it, 0, none⟩))) (hp : Pick H [mapIt r it good c left] B)
    (h0 : left = [] → RL P L ef bk tq Q l N ((d, .tuple #[.bool false]) :: E) w0 S I (mapIt r it good c left :: B))
    (h1 : ∀ j p, left[j]? = some p → RL P L ef bk tq Q l N ((d, .tuple #[.bool true, p.1, p.2]) :: E) w0 S I (mapIt r it good c (left.eraseIdx j) :: B)) : RL P L ef bk tq Q (.cons i l) N E w0 S I H := by
  refine RL.eff ho hw hi rfl hN (fun a w ha hC => ?_)
  have hmA : (mapIt r it good c left).A w := hC.s.h _ (hp.memA _ (by simp))
  have hbsn : [r, it].Nodup := by
    have := (hp.perm.nodup_iff.1 hC.s.nd)
    rw [List.nodup_append] at this
    simpa [mapIt] using this.1
  obtain ⟨es, clock, since, seen, g1, g2, g3, g4, g5, g6, g7, rfl, g8⟩ := hmA
  have hgi : (getObj it).run P w = .ok (.mapIter (some r) since seen since) w := by simp [getObj, Sem.run, g2]
  have hgo : ∀ w', w'.heap = w.heap → (getObj r).run P w' = .ok (.map es since) w' := fun w' hh => by simp [getObj, Sem.run, hh, g1]
  have hall : (!seen.isEmpty && !es.isEmpty && es.all (fun e => decide (e.born ≥ since))) = false := by
    by_cases he : es.isEmpty = true
    · simp [he]
    · have hz : 0 < es.size := by
        rcases Nat.eq_zero_or_pos es.size with h | h
        · simp [Array.isEmpty, h] at he
        · exact h
      have h7 := g7 es[0] (by simp)
      have : es.all (fun e => decide (e.born ≥ since)) = false := by
        rw [Array.all_eq_false]
        exact ⟨0, hz, by simp; omega⟩
      simp [this]
  have hleft : (es.filter fun e => !seen.contains e.born).filter (fun e => decide (e.born < since)) = es.filter fun e => !seen.contains e.born := by
    apply Array.toList_inj.1
    rw [Array.toList_filter]
    apply List.filter_eq_self.2
    intro e he
    rw [Array.toList_filter] at he
    simpa using g7 e (List.mem_filter.1 he).1
  have hnew : (es.filter fun e => !seen.contains e.born).filter (fun e => decide (e.born ≥ since)) = #[] := by
    apply Array.toList_inj.1
    rw [Array.toList_filter]
    apply List.filter_eq_nil_iff.2
    intro e he
    rw [Array.toList_filter] at he
    have := g7 e (List.mem_filter.1 he).1
    simp; omega
  have hlist : (es.filter fun e => !seen.contains e.born).toList = es.toList.filter fun e => !seen.contains e.born := Array.toList_filter
  generalize hlf : (es.filter fun e => !seen.contains e.born) = lf at *
  have hkl : left = kvs lf.toList := by rw [g8, hlist]
  have common : ∀ (left' : List (Value × Value)) (w' : World), (mapIt r it good c left').A w' → Keeps [r, it] w w' → Cls w0 S I (mapIt r it good c left' :: B) w' := by
    intro left' w' hA hk
    have hs : Sat [] [mapIt r it good c left'] w' := ⟨by simp, by simpa using hA, by simpa [mapIt] using hbsn, by simp⟩
    exact hC.call (C := []) (I' := []) (H' := [mapIt r it good c left']) hp .nil (by simpa [mapIt] using hk) hs (by simp [mapIt]) (by simp)
  by_cases hemp : lf.isEmpty = true
  · have hl0 : left = [] := by rw [hkl]; simp [Array.isEmpty] at hemp; simp [kvs, hemp]
    obtain ⟨j, dr, hj, hdr, hch⟩ := run_choose (P := P) 1 (by omega) w
    have hj0 : j = 0 := by omega
    subst hj0
    have key : (execOp a.eval ⟨some d, .next x false, ty, pos, af, g⟩).run P w = .ok (.value (.tuple #[.bool false])) { w with drawn := dr } := by
      have hlf0 : lf = #[] := by simpa using hemp
      subst hlf0
      simp only [execOp, ha.ev hx, Instr.next, Sem.run_bind, hgi, Result.andThen_ok, hgo w rfl, hall, Bool.false_eq_true, if_false, hlf, hleft, hnew]
      rw [show (if (#[] : Array MapEntry).isEmpty = true then #[none] else (#[] : Array (Option MapEntry))) ++ Array.map some (#[] ++ #[]) = #[none] by simp, show (#[none] : Array (Option MapEntry)).size = 1 from rfl, hch]
      rfl
    unfold does
    rw [key]
    refine ⟨I, _, common left _ ?_ (Keeps.drew _ _ _ hdr), fun _ h => h, fun hbk => (by rw [hb] at hbk; cases hbk), h0 hl0⟩
    exact ⟨es, since, since, seen, g1, g2, g3, g4, g5, g6, g7, rfl, g8⟩
  · have hpos : 0 < lf.size := by
      rcases Nat.eq_zero_or_pos lf.size with h | h
      · simp [Array.isEmpty, h] at hemp
      · exact h
    obtain ⟨j, dr, hj, hdr, hch⟩ := run_choose (P := P) lf.size hpos w
    have hej : lf[j]? = some lf[j] := by simp [hj]
    have key : (execOp a.eval ⟨some d, .next x false, ty, pos, af, g⟩).run P w = .ok (.value (.tuple #[.bool true, lf[j].key, lf[j].val]))
        { w with drawn := dr, heap := w.heap.setIfInBounds it (.mapIter (some r) since (seen.push lf[j].born) since) } := by
      simp only [execOp, ha.ev hx, Instr.next, Sem.run_bind, hgi, Result.andThen_ok, hgo w rfl, hall, Bool.false_eq_true, if_false, hlf, hleft, hnew, hemp]
      have hca : (#[] : Array (Option MapEntry)) ++ Array.map some (lf ++ #[]) = lf.map some := by simp
      rw [hca, show (lf.map some).size = lf.size by simp, hch]
      have hso : (setObj it (.mapIter (some r) since (seen.push lf[j].born) since)).run P { w with drawn := dr } = .ok () { w with drawn := dr, heap := w.heap.setIfInBounds it (.mapIter (some r) since (seen.push lf[j].born) since) } :=
        setObj_run (w := { w with drawn := dr }) g2 (by simp)
      simp [hj, hso]
    unfold does
    rw [key]
    have hpj : left[j]? = some (lf[j].key, lf[j].val) := by rw [hkl]; simp [kvs, hj]
    refine ⟨I, _, common (left.eraseIdx j) _ ?_ ?_, fun _ h => h, fun hbk => (by rw [hb] at hbk; cases hbk), h1 j _ hpj⟩
    · have hne : it ≠ r := by
        intro e; subst e; simp at hbsn
      refine ⟨es, since, since, seen.push lf[j].born, ?_, ?_, g3, g4, g5, g6, g7, rfl, ?_⟩
      · show (w.heap.setIfInBounds it _)[r]? = _
        rw [Array.getElem?_setIfInBounds_ne hne]; exact g1
      · have hlt := (Array.getElem?_eq_some_iff.1 g2).1
        simp [hlt]
      · rw [filter_seen (j := j) g6 (by rw [← hlist]; simp [hj]), ← hlist, hkl]
        simp only [kvs]
        exact eraseIdx_map _ _ _
    · refine ⟨rfl, rfl, rfl, by simp, fun b _ hn => ?_, hdr⟩
      have : it ≠ b := fun e => hn (by simp [e])
      show (w.heap.setIfInBounds it _)[b]? = _
      rw [Array.getElem?_setIfInBounds_ne this]

/-- Taking a key out while ranging. -/
theorem RL.deleteIt {kt et : TypeId} {good : Value → Prop} {r it : Nat} {c left : List (Value × Value)} {key : Value} {H' : List It} {t2 : TypeId} (K : KeyT P kt good) (hu : ∀ w, (underlying t).run P w = .ok (.map kt et) w)
    (ho : nth L i = some ⟨none, .call ⟨.builtin .delete, #[x, y], #[t, t2]⟩, ty, pos, af, g⟩) (hw : wants L E ⟨none, .call ⟨.builtin .delete, #[x, y], #[t, t2]⟩, ty, pos, af, g⟩ = true) (hi : ef.contains i = true) (hb : bk.contains i = true)
    (hx : E.ev x = some (.map (some r))) (hy : E.ev y = some key) (hk : good key) (hnl : key ∉ left.map (·.1)) (hne : r ≠ it) (hup : Upd H (mapIt r it good c left) (mapIt r it good (delV key c) left) H') (h : RL P L ef bk tq Q l N E w0 S I H') : RL P L ef bk tq Q (.cons i l) N E w0 S I H :=
  RL.turnV (u := .tuple #[]) ho hw hi hb rfl hup rfl (fun a w ha hC => by
    obtain ⟨es, clock, since, seen, h1, h1', h2, h3, h4, h5, h6, h7, h8⟩ := hC.s.h _ hup.mem
    obtain ⟨es', g1, g2, g3, g4⟩ := run_delete (ty := ty) K hu hk (ats := #[t, t2]) rfl h1 h2 h4
    refine ⟨_, exec_delete (ha.ev hx) (ha.ev hy) g1, Keeps.setObj.mono (by simp [mapIt]), ⟨es', clock, since, seen, heap_setObj h1, ?_, g2, ?_, ?_, ?_, ?_, h7, ?_⟩⟩
    · show (w.heap.setIfInBounds r _)[it]? = _
      rw [Array.getElem?_setIfInBounds_ne hne]; exact h1'
    · exact h3.sublist ((delV_sublist c).map _)
    · exact fun p hp => h4 p ((delV_sublist c).subset hp)
    · exact h5.sublist (g3.map _)
    · exact fun e he => h6 e (g3.subset he)
    · rw [h8]
      congr 1
      have hsub : (es'.toList.filter fun e => !seen.contains e.born).Sublist (es.toList.filter fun e => !seen.contains e.born) := g3.filter _
      refine (hsub.eq_of_length_le ?_).symm
      refine List.Nodup.length_le_of_subset ?_ (fun e he => ?_)
      · have : ((es.toList.filter fun e => !seen.contains e.born).map (·.born)).Nodup := h5.sublist (List.filter_sublist.map _)
        exact nodup_of_map this
      · obtain ⟨e1, e2⟩ := List.mem_filter.1 he
        rcases g4 e e1 with h | h
        · exact List.mem_filter.2 ⟨h, e2⟩
        · exact absurd (by rw [h8]; exact List.mem_map.2 ⟨(e.key, e.val), List.mem_map.2 ⟨e, he, rfl⟩, h⟩) hnl) h

/-- Behind the loop the map is a map again. -/
theorem Cls.unrange {r it : Nat} {good : Value → Prop} {c left : List (Value × Value)} {B : List It} {w : World} (h : Cls w0 S I (mapIt r it good c left :: B) w) : Cls w0 S I (mapI r good c :: B) w := by
  have hA := h.s.h _ (List.mem_cons_self)
  obtain ⟨es, clock, since, seen, h1, h1', h2, h3, h4, h5, h6, h7, h8⟩ := hA
  have hsub : (bss (mapI r good c :: B)).Sublist (bss (mapIt r it good c left :: B)) := by simp [mapI, mapIt]
  refine ⟨h.k, ⟨h.s.i, fun y hy => ?_, h.s.nd.sublist hsub, fun b hb hb' => h.s.dj b hb (hsub.subset hb')⟩, fun b hb => h.own b (hsub.subset hb)⟩
  rcases List.mem_cons.1 hy with rfl | hy
  · exact ⟨es, clock, h1, h2, h3, h4, h5, h6⟩
  · exact h.s.h y (by simp [hy])

end
end Go.PK
