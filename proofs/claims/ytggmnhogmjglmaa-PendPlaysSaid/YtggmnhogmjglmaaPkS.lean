/-
  PK, part S: the kit's contracts on sorting, as contracts over one's own things.
-/
import Derived.Test.YtggmnhogmjglmaaPkR
import Derived.Sort.Row
import Derived.Sort.Grow
namespace Go.PK
open Go.Sort

theorem putCells_row {α : Type} [Inhabited α] (enc : α → Value) (d : List α) (xs rest : List Value) (h : xs.length = d.length) : putCells enc 0 d.toArray (xs ++ rest).toArray = (d.map enc ++ rest).toArray := by
  apply Array.ext'
  simp only [putCells, Array.toList_mapIdx]
  apply List.ext_getElem?
  intro k
  simp only [List.getElem?_mapIdx, List.size_toArray, Nat.zero_le, true_and, Nat.zero_add, Nat.sub_zero]
  by_cases hk : k < d.length
  · rw [List.getElem?_append_left (by omega), List.getElem?_append_left (by simpa using hk), List.getElem?_map, List.getElem?_eq_getElem (by omega), List.getElem?_eq_getElem hk]
    simp [hk]
  · rw [List.getElem?_append_right (by omega), List.getElem?_append_right (by simpa using hk), List.length_map, h]
    cases rest[k - d.length]? with
    | none => rfl
    | some v => simp [hk]
/-- What a sort leaves of a row of one's own. -/
theorem sorted_own {α : Type} [Inhabited α] (enc : α → Value) {b cap n sz m : Nat} {e : TypeId} {xs : List Value} {d : List α} {w : World} {os : Array Obj} (hA : (own (some b) cap e sz n xs).A w) (hl : d.length = xs.length) :
    (own (some b) cap e sz n (d.map enc)).A (grow (putRow enc (Sort.ahead w m) b 0 d.toArray) os) ∧ Keeps [b] w (grow (putRow enc (Sort.ahead w m) b 0 d.toArray) os) := by
  obtain ⟨h1, h2, h3, rest, ⟨f, h4, h6⟩, h5⟩ := hA
  have hb : b < w.heap.size := (Array.getElem?_eq_some_iff.1 h4).1
  have hget : ∀ c, c < w.heap.size → (grow (putRow enc (Sort.ahead w m) b 0 d.toArray) os).heap[c]? = (w.heap.modify b (onCells (putCells enc 0 d.toArray)))[c]? := fun c hc => by
    show (w.heap.modify b (onCells (putCells enc 0 d.toArray)) ++ os)[c]? = _
    rw [Array.getElem?_append_left (by simpa using hc)]
  refine ⟨⟨by rw [List.length_map, hl, h1], h2, h3, rest, ⟨f, ?_, h6⟩, ?_⟩, ⟨rfl, rfl, rfl, ?_, ?_, Nat.le_add_right _ _⟩⟩
  · rw [hget b hb, Array.getElem?_modify, if_pos rfl, h4]
    show some (onCells _ (Obj.cells (xs ++ rest).toArray e f)) = _
    rw [onCells, putCells_row enc d xs rest hl.symm]
  · rw [List.length_append, List.length_map, hl, ← List.length_append]; exact h5
  · show w.heap.size ≤ (w.heap.modify b _ ++ os).size
    simp
  · intro c hc hn
    rw [hget c hc, Array.getElem?_modify, if_neg (by intro h; subst h; exact hn (by simp))]
theorem own_holds {α : Type} [Inhabited α] (enc : α → Value) {b cap n : Nat} {e : TypeId} {d : List α} {w : World} (hA : (own (some b) cap e 1 n (d.map enc)).A w) : Holds enc w b 0 d.toArray ∧ b < w.heap.size ∧ d.length = n := by
  obtain ⟨h1, h2, h3, rest, ⟨f, h4, h6⟩, h5⟩ := hA
  have hb : b < w.heap.size := (Array.getElem?_eq_some_iff.1 h4).1
  have hn : d.length = n := by simpa using h1
  refine ⟨fun j hj => ?_, hb, hn⟩
  have hj : j < d.length := by simpa using hj
  constructor
  · simp [World.cell?, h4, List.getElem?_append_left, hj]
  · simp only [World.frozen?, h4, Nat.zero_add]
    rcases h6 with rfl | h6
    · simp
    · simp; omega
/-- slices.Sort, of one's own numbers. -/
theorem sort_ints {P : Program} {f : FuncId} (hC : ∀ (blk off cap : Nat) (zs : List Int) (w : World), Holds (Value.int .i64) w blk off zs.toArray → blk < w.heap.size → zs.length < 4611686018427387904 →
      Calls P f #[.slice (some ⟨blk, off, none⟩) zs.length cap] w fun e w' => e = .returned (.tuple #[]) ∧ ∃ n os, w' = grow (putRow (Value.int .i64) (Sort.ahead w n) blk off (zs.mergeSort fun x y => decide (x ≤ y)).toArray) os)
    (b cap n : Nat) (e : TypeId) (zs : List Int) (hn : zs.length = n) (hb : n < 4611686018427387904) :
    Spc P f #[slO (some b) n cap] [] [own (some b) cap e 1 n (zs.map (Value.int .i64))] (fun v I' H' => v = .tuple #[] ∧ I' = [] ∧ H' = [own (some b) cap e 1 n ((zs.mergeSort fun x y => decide (x ≤ y)).map (Value.int .i64))]) := by
  intro w hw
  have hA := hw.h _ (List.Mem.head _)
  obtain ⟨hH, hb', -⟩ := own_holds _ hA
  subst hn
  refine (hC b 0 cap zs w hH hb' hb).mono ?_
  rintro e' w' ⟨rfl, m, os, rfl⟩
  obtain ⟨k1, k2⟩ := sorted_own (Value.int .i64) (m := m) (os := os) (d := zs.mergeSort fun x y => decide (x ≤ y)) hA (by rw [List.length_mergeSort, List.length_map])
  refine ⟨_, [], _, rfl, ⟨rfl, rfl, rfl⟩, k2, ⟨by simp, fun x hx => ?_, by simp [own], by simp⟩, fun c hc => .inl hc, by simp⟩
  rw [List.mem_singleton.1 hx]; exact k1
end Go.PK
