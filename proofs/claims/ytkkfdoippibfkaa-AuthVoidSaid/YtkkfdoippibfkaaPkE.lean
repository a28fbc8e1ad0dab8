/-
  PK, part E: aggregates, slices, append.
-/
import Derived.Test.YtkkfdoippibfkaaPkD
namespace Go.PK

section
variable {P : Program} {L : List Oper} {ef bk : List Nat} {tq : Tq} {Q : Exit → Act → World → Prop} {N : Nat} {E : Env} {w0 : World} {S : List Nat} {I H : List It} {i : Nat} {l : Sq}
variable {d : Nat} {x y z : Operand} {ty t yt : TypeId} {pos : String} {af : Array Edge} {g : Option (Nat × Bool)} {v : Value} {k k' : IntKind} {m n : Int}

/-! ### Aggregates -/

def vparts (E : Env) : List (Nat × Operand) → Option (List (Nat × Value))
  | [] => some []
  | (j, x) :: r => match E.ev x, vparts E r with
    | some v, some vs => some ((j, v) :: vs)
    | _, _ => none

theorem Ag.parts {a : Act} (h : Ag N a E) : ∀ {xs : List (Nat × Operand)} {vs : List (Nat × Value)}, vparts E xs = some vs → xs.map (fun p => (p.1, a.eval p.2)) = vs
  | [], vs, hx => by cases hx; rfl
  | (j, x) :: r, vs, hx => by
    unfold vparts at hx
    split at hx
    · rename_i v vs' h1 h2
      cases hx
      rw [List.map_cons, h.ev h1, Ag.parts h h2]
    · cases hx

/-- Cells with parts laid in. -/
def fillL (place : Nat → Option (Nat × Nat)) (cells : List Value) : List (Nat × Value) → Option (List Value)
  | [] => some cells
  | (j, v) :: rest => match place j with
    | none => none
    | some (off, size) =>
      if v.cells.toList.length ≠ size || off + v.cells.toList.length > cells.length then none
      else fillL place (spl cells off v.cells.toList) rest

theorem fold_spl : ∀ (vs : List Value) (cells : Array Value) (off b : Nat), off + b + vs.length ≤ cells.size →
    ((vs.zipIdx b).foldl (fun cs (c, j) => cs.setIfInBounds (off + j) c) cells).toList = spl cells.toList (off + b) vs
  | [], cells, off, b, _ => by
    rw [spl_eq _ _ _ (by simpa using (by assumption : off + b + ([] : List Value).length ≤ cells.size))]
    simp
  | c :: vs, cells, off, b, h => by
    simp only [List.length_cons] at h
    simp only [List.zipIdx_cons, List.foldl_cons]
    rw [fold_spl vs _ off (b + 1) (by simp; omega)]
    rw [spl_eq _ _ _ (by simp; omega), spl_eq _ _ _ (by simp; omega)]
    apply List.ext_getElem?
    intro j
    simp only [Array.toList_setIfInBounds, List.length_cons]
    rw [List.getElem?_append, List.getElem?_append, List.getElem?_append, List.getElem?_append]
    simp only [List.length_append, List.length_take, List.length_set, Array.length_toList, List.getElem?_take, List.getElem?_set, List.getElem?_drop, List.length_cons]
    by_cases h1 : j < off + b
    · have a1 : j < off + (b + 1) := by omega
      have a2 : j < cells.size := by omega
      have a3 : j < min (off + (b + 1)) cells.size + vs.length := by omega
      have a4 : j < min (off + b) cells.size + (vs.length + 1) := by omega
      have a5 : j < min (off + (b + 1)) cells.size := by omega
      have a6 : j < min (off + b) cells.size := by omega
      have a7 : ¬ off + b = j := by omega
      simp [h1, a1, a3, a4, a5, a6, a7]
    · by_cases h2 : j = off + b
      · subst h2
        have a3 : off + b < min (off + (b + 1)) cells.size + vs.length := by omega
        have a4 : off + b < min (off + b) cells.size + (vs.length + 1) := by omega
        have a5 : off + b < min (off + (b + 1)) cells.size := by omega
        have a6 : ¬ off + b < min (off + b) cells.size := by omega
        have a7 : off + b < cells.size := by omega
        have a8 : off + b < off + (b + 1) := by omega
        have a9 : off + b - min (off + b) cells.size = 0 := by omega
        simp only [a3, a4, a5, a6, a7, a8, a9, if_true, if_false, List.getElem?_cons_zero]
      · have a5 : ¬ j < min (off + (b + 1)) cells.size := by omega
        have a6 : ¬ j < min (off + b) cells.size := by omega
        by_cases h3 : j < off + b + (vs.length + 1)
        · have a3 : j < min (off + (b + 1)) cells.size + vs.length := by omega
          have a4 : j < min (off + b) cells.size + (vs.length + 1) := by omega
          have a9 : j - min (off + b) cells.size = (j - min (off + (b + 1)) cells.size) + 1 := by omega
          simp only [a3, a4, a5, a6, a9, if_true, if_false, List.getElem?_cons_succ]
        · have a3 : ¬ j < min (off + (b + 1)) cells.size + vs.length := by omega
          have a4 : ¬ j < min (off + b) cells.size + (vs.length + 1) := by omega
          have a7 : ¬ off + b = off + (b + 1) + vs.length + (j - (min (off + (b + 1)) cells.size + vs.length)) := by omega
          simp only [a3, a4, a7, if_false]
          congr 1
          omega

theorem fill_eq (place : Nat → Option (Nat × Nat)) : ∀ (parts : List (Nat × Value)) (cells : List Value) (r : List Value), fillL place cells parts = some r → Instr.fill place cells.toArray parts = some r.toArray
  | [], cells, r, h => by cases h; rfl
  | (j, v) :: rest, cells, r, h => by
    unfold fillL at h
    unfold Instr.fill
    split at h
    · cases h
    · rename_i off size hp
      rw [hp]
      split at h
      · cases h
      · rename_i hc
        have hc' : ¬ ((decide (v.cells.size ≠ size) || decide (off + v.cells.size > cells.toArray.size)) = true) := by simpa using hc
        dsimp only
        rw [if_neg hc']
        have hb : off + v.cells.toList.length ≤ cells.length := by
          simp only [Bool.or_eq_true, decide_eq_true_eq, not_or] at hc; omega
        have hf := fold_spl v.cells.toList cells.toArray off 0 (by simpa using hb)
        have he : Array.foldl (fun cs (x : Value × Nat) => match x with | (c, j) => cs.setIfInBounds (off + j) c) cells.toArray v.cells.zipIdx = (spl cells off v.cells.toList).toArray := by
          apply Array.toList_inj.1
          rw [← Array.foldl_toList]
          simpa using hf
        have := fill_eq place rest _ _ h
        rw [← this]
        exact congrArg (fun c => Instr.fill place c rest) he

theorem map_parts {a : Act} (h : Ag N a E) {ps : Array (Nat × Operand)} {vs : List (Nat × Value)} (hx : vparts E ps.toList = some vs) : (ps.map fun (j, x) => (j, a.eval x)) = vs.toArray := by
  apply Array.toList_inj.1
  rw [Array.toList_map, ← h.parts hx]

/-- Where a struct's fields lie. -/
def StrT (P : Program) (t : TypeId) (places : Array (Nat × Nat)) : Prop :=
  ∃ fs, (∀ w, (underlying t).run P w = .ok (.struct fs) w) ∧ ∀ w, (fs.mapM (fun f => do pure (f.offset, ← sizeOf f.type) : Field → Sem (Nat × Nat))).run P w = .ok places w

theorem RL.buildS {places : Array (Nat × Nat)} {zs : List Value} {ps : Array (Nat × Operand)} {vs : List (Nat × Value)} (cs : List Value) (hz : ∀ w, (zeroValue t).run P w = .ok (.agg zs.toArray) w) (hu : StrT P t places)
    (ho : nth L i = some ⟨some d, .build t ps, ty, pos, af, g⟩) (hw : wants L E ⟨some d, .build t ps, ty, pos, af, g⟩ = true) (hN : Nat.blt d N = true)
    (hx : vparts E ps.toList = some vs) (hf : fillL (places[·]?) zs vs = some cs) (h : RL P L ef bk tq Q l N ((d, .agg cs.toArray) :: E) w0 S I H) : RL P L ef bk tq Q (.cons i l) N E w0 S I H :=
  RL.pval ho hw rfl hN (fun a w ha => by
    obtain ⟨fs, hu, hp⟩ := hu
    have h2 := fill_eq (places[·]?) vs zs cs hf
    show Sem.run P (do pure (Next.value (← Instr.build t (ps.map fun (j, x) => (j, a.eval x))))) w = _
    rw [map_parts ha hx]
    simp only [Instr.build, Sem.run_bind, hz, hu, hp, Result.andThen_ok, Value.cells, h2, Sem.run_pure]) h

theorem RL.buildA {len : Nat} {e : TypeId} {size : Nat} {zs : List Value} {ps : Array (Nat × Operand)} {vs : List (Nat × Value)} (cs : List Value) (hz : ∀ w, (zeroValue t).run P w = .ok (.agg zs.toArray) w) (hu : ∀ w, (underlying t).run P w = .ok (.array len e) w)
    (hs : ∀ w, (sizeOf e).run P w = .ok size w)
    (ho : nth L i = some ⟨some d, .build t ps, ty, pos, af, g⟩) (hw : wants L E ⟨some d, .build t ps, ty, pos, af, g⟩ = true) (hN : Nat.blt d N = true)
    (hx : vparts E ps.toList = some vs) (hf : fillL (fun j => some (j * size, size)) zs vs = some cs) (h : RL P L ef bk tq Q l N ((d, .agg cs.toArray) :: E) w0 S I H) : RL P L ef bk tq Q (.cons i l) N E w0 S I H :=
  RL.pval ho hw rfl hN (fun a w ha => by
    have h2 := fill_eq (fun j => some (j * size, size)) vs zs cs hf
    show Sem.run P (do pure (Next.value (← Instr.build t (ps.map fun (j, x) => (j, a.eval x))))) w = _
    rw [map_parts ha hx]
    simp [Instr.build, hz, hu, hs, Value.cells, h2]) h

/-- 'n' copies of some cells. -/
def reps (zs : List Value) : Nat → List Value
  | 0 => []
  | n + 1 => zs ++ reps zs n

theorem run_buildSlice {e : TypeId} {size len : Nat} {zs : List Value} {ps : Array (Nat × Operand)} {vs : List (Nat × Value)} {z : Value} (cs : List Value) (hu : ∀ w, (underlying t).run P w = .ok (.slice e) w) (hs : ∀ w, (sizeOf e).run P w = .ok size w)
    (hz : ∀ w, (zeroValue e).run P w = .ok z w) (hzc : z.cells = zs.toArray) (hsz : zs.length = size) (hpos : 0 < size) (hlen : len * size ≤ 16777216) {a : Act} {w : World} (ha : Ag N a E)
    (hx : vparts E ps.toList = some vs) (hf : fillL (fun j => some (j * size, size)) (reps zs len) vs = some cs) :
    ∃ w', (execOp a.eval ⟨some d, .buildSlice t len ps, ty, pos, af, g⟩).run P w = .ok (.value (.slice (some ⟨w.heap.size, 0, none⟩) len len)) w' ∧ Grow w w' ∧ (cel w.heap.size cs e).A w' := by
  refine ⟨w.alloc (.cells cs.toArray e), ?_, Keeps.alloc _ _ _, cel_new⟩
  have h2 := fill_eq (fun j => some (j * size, size)) vs (reps zs len) cs hf
  have hrl : ∀ n, (reps zs n).length = n * size := by
    intro n; induction n with
    | zero => simp [reps]
    | succ n ih => simp [reps, ih, hsz, Nat.add_mul]; omega
  have hrg : ∀ n j, j < n * size → (reps zs n)[j]? = zs[j % size]? := by
    intro n; induction n with
    | zero => intro j hj; simp at hj
    | succ n ih =>
      intro j hj
      simp only [reps, List.getElem?_append, hsz]
      by_cases hjs : j < size
      · simp [hjs, Nat.mod_eq_of_lt hjs]
      · have hge : size ≤ j := by omega
        simp only [hjs, if_false]
        rw [ih (j - size) (by rw [Nat.add_mul] at hj; omega)]
        rw [Nat.mod_eq_sub_mod hge]
  have hlen' : ¬ (len * size > 2 ^ 24) := by omega
  show Sem.run P (do pure (Next.value (← Instr.buildSlice t len (ps.map fun (j, x) => (j, a.eval x))))) w = _
  rw [map_parts ha hx]
  by_cases h0 : len * size = 0
  · have hrn : reps zs len = [] := List.eq_nil_of_length_eq_zero (by rw [hrl, h0])
    rw [hrn] at h2
    simp [Instr.buildSlice, hu, hs, h0, newRow, h2, show Array.range 0 = #[] from rfl]
  · have hzz : ((Array.range (len * size)).map fun j => zs.toArray[j % zs.length]!) = (reps zs len).toArray := by
      apply Array.ext'
      apply List.ext_getElem?
      intro j
      simp only [Array.toList_map, Array.toList_range, List.getElem?_map]
      by_cases hj : j < len * size
      · have hjm : j % zs.length < zs.length := by rw [hsz]; exact Nat.mod_lt _ hpos
        have hr := hrg len j hj
        rw [← hsz] at hr
        simp [hj, hr, hjm]
      · have hj' : (reps zs len)[j]? = none := by rw [List.getElem?_eq_none]; rw [hrl]; omega
        simp [hj, hj']
    have hl2 : (len * size > 2 ^ 24) = False := by simpa using hlen'
    simp only [Instr.buildSlice, Sem.run_bind, hu, hs, hz, Result.andThen_ok, hl2, if_false, h0, Sem.run_pure, newRow, hzc, List.size_toArray, hzz, h2]
    simp


theorem RL.buildSlice {e : TypeId} {size len : Nat} {zs : List Value} {ps : Array (Nat × Operand)} {vs : List (Nat × Value)} {z : Value} (cs : List Value) (hu : ∀ w, (underlying t).run P w = .ok (.slice e) w) (hs : ∀ w, (sizeOf e).run P w = .ok size w)
    (hz : ∀ w, (zeroValue e).run P w = .ok z w) (hzc : z.cells = zs.toArray) (hsz : zs.length = size) (hpos : 0 < size) (hlen : len * size ≤ 16777216)
    (ho : nth L i = some ⟨some d, .buildSlice t len ps, ty, pos, af, g⟩) (hw : wants L E ⟨some d, .buildSlice t len ps, ty, pos, af, g⟩ = true) (hN : Nat.blt d N = true) (hi : ef.contains i = true)
    (hx : vparts E ps.toList = some vs) (hf : fillL (fun j => some (j * size, size)) (reps zs len) vs = some cs)
    (h : ∀ b, RL P L ef bk tq Q l N ((d, .slice (some ⟨b, 0, none⟩) len len) :: E) w0 S I (cel b cs e :: H)) : RL P L ef bk tq Q (.cons i l) N E w0 S I H :=
  RL.make (x := fun b => cel b cs e) (u := fun b => .slice (some ⟨b, 0, none⟩) len len) ho hw hi rfl hN (fun a w ha _ => by
    obtain ⟨w', h1, h2, h3⟩ := run_buildSlice cs hu hs hz hzc hsz hpos hlen (pos := pos) (ty := ty) (af := af) (g := g) (d := d) (w := w) ha hx hf
    exact ⟨w', h1, h2, h3, rfl⟩) h

end
end Go.PK
