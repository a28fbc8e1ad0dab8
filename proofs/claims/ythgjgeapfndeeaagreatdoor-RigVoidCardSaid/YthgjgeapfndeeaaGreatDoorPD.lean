import Derived.Test.YthgjgeapfndeeaaGreatDoorPC
import Derived.ChangeShapes
import Derived.ChangeArms
import Derived.Deep.Slices
import Derived.OpenShut
import Derived.ShutString
import Derived.ChangeOld
import Derived.Below
import Derived.Carry
import Derived.ProofKit
import Derived.WalkKit
import Derived.JoinedOf
import Derived.Laws.BytesString
import Derived.DeepKeys
set_option linter.unusedVariables false
set_option linter.unusedSimpArgs false
/-
  PK, part L: readers: what a law's arguments are in memory, by type.
-/
namespace Go.PK
open Go.ChangeShapes Go.WideShapes

section
variable {P : Program}

/-- A reader of a type: what its cells are, what of it lies in memory. -/
structure Rdr (P : Program) (t : TypeId) (α : Type) where
  cells : α → List Value
  its : α → List It
  ok : α → Prop
  val : α → Value
  len : ∀ a, ok a → (cells a).length = P.cellsOf t
  spec : ∀ {H : Type} {enc : TypeId × Value → H} {w : World} {base : Nat} {held : Bool} {fuel : Nat} {cs : List Value} {x : DataW H × List MemPlace},
    DataW.trod enc P w base (fun _ => true) held fuel t cs = some x → ∃ a, cs = cells a ∧ ok a ∧ ∀ y ∈ its a, y.A w
  vspec : ∀ {a : α} {v : Value} {w : World} {r : Reach} {base : Nat}, Value.okWide P w r base t v → v.cells.toList = cells a → v = val a

theorem Rdr.arg {t : TypeId} {α : Type} (R : Rdr P t α) {H : Type} {enc : TypeId × Value → H} {w : World} {r : Reach} {base b2 : Nat} {held : Bool} {v : Value} {d : DataW H} {ps : List MemPlace}
    (hv : Value.okWide P w r b2 t v) (h : DataW.Trod enc P w base (fun _ => true) held t v d ps) : ∃ a, v = R.val a ∧ R.ok a ∧ ∀ y ∈ R.its a, y.A w := by
  obtain ⟨fuel, hf⟩ := h
  obtain ⟨a, h1, h2, h3⟩ := R.spec hf
  exact ⟨a, R.vspec hv h1, h2, h3⟩

theorem cells_single {v c : Value} (hn : ∀ cs, v ≠ .agg cs) (h : v.cells.toList = [c]) : v = c := by
  cases v <;> simp_all [Value.cells]

theorem okWide_notagg {t : TypeId} {v : Value} {w : World} {r : Reach} {b : Nat} (h : Value.okWide P w r b t v) (h1 : ∀ fs, P.underlying t ≠ some (.struct fs)) (h2 : ∀ n e, P.underlying t ≠ some (.array n e)) : ∀ cs, v ≠ .agg cs := by
  rintro cs rfl
  unfold Value.okWide at h
  split at h
  · exact absurd (by assumption) (h1 _)
  · exact absurd (by assumption) (h2 _ _)
  · unfold Cell.okWide at h
    split at h <;> simp_all [Cell.ok]

theorem okWide_isagg {t : TypeId} {v : Value} {w : World} {r : Reach} {b : Nat} (h : Value.okWide P w r b t v) (h1 : (∃ fs, P.underlying t = some (.struct fs)) ∨ ∃ n e, P.underlying t = some (.array n e)) : ∃ cs, v = .agg cs := by
  unfold Value.okWide at h
  split at h
  · obtain ⟨cs, h, _⟩ := h; exact ⟨cs, h⟩
  · obtain ⟨cs, h, _⟩ := h; exact ⟨cs, h⟩
  · rename_i n1 n2
    rcases h1 with ⟨fs, h1⟩ | ⟨n, e, h1⟩
    · exact absurd h1 (n1 fs)
    · exact absurd h1 (n2 n e)

def wfk (k : IntKind) (n : Int) : Prop := (Lit.int k n).wf = true
theorem wfk_bounds {k : IntKind} {n : Int} (h : wfk k n) : k.min ≤ n ∧ n ≤ k.max := by
  simpa [wfk, Lit.wf, Bool.and_eq_true, decide_eq_true_eq] using h

noncomputable def Rdr.int {t : TypeId} (k : IntKind) (hu : P.underlying t = some (.int k)) (hc : P.cellsOf t = 1) : Rdr P t Int where
  cells n := [.int k n]
  its _ := []
  ok n := wfk k n
  val n := .int k n
  len _ _ := by simp [hc]
  spec h := by
    obtain ⟨n, rfl, _, hw⟩ := DataW.trod_int hu h
    exact ⟨n, rfl, hw, by simp⟩
  vspec hv h := cells_single (okWide_notagg hv (by simp [hu]) (by simp [hu])) h

noncomputable def Rdr.bool {t : TypeId} (hu : P.underlying t = some .bool) (hc : P.cellsOf t = 1) : Rdr P t Bool where
  cells n := [.bool n]
  its _ := []
  ok _ := True
  val n := .bool n
  len _ _ := by simp [hc]
  spec h := by
    obtain ⟨n, rfl, _⟩ := DataW.trod_bool hu h
    exact ⟨n, rfl, trivial, by simp⟩
  vspec hv h := cells_single (okWide_notagg hv (by simp [hu]) (by simp [hu])) h

noncomputable def Rdr.string {t : TypeId} (hu : P.underlying t = some .string) (hc : P.cellsOf t = 1) : Rdr P t ByteArray where
  cells s := [.string s]
  its _ := []
  ok s := s.size ≤ maxLen
  val s := .string s
  len _ _ := by simp [hc]
  spec h := by
    obtain ⟨n, rfl, _, hl⟩ := DataW.trod_string hu h
    exact ⟨n, rfl, hl, by simp⟩
  vspec hv h := cells_single (okWide_notagg hv (by simp [hu]) (by simp [hu])) h

/-- The like, its things named otherwise. -/
noncomputable def Rdr.map {t : TypeId} {α β : Type} (R : Rdr P t α) (cells : β → List Value) (its : β → List It) (ok : β → Prop) (val : β → Value)
    (h : ∀ a, R.ok a → ∃ b, cells b = R.cells a ∧ ok b ∧ (∀ y ∈ its b, y ∈ R.its a)) (hl : ∀ b, ok b → (cells b).length = P.cellsOf t)
    (hv : ∀ {b : β} {v : Value} {w : World} {r : Reach} {base : Nat}, Value.okWide P w r base t v → v.cells.toList = cells b → v = val b) : Rdr P t β where
  cells := cells
  its := its
  ok := ok
  val := val
  len := hl
  spec hx := by
    obtain ⟨a, rfl, h2, h3⟩ := R.spec hx
    obtain ⟨b, h4, h5, h6⟩ := h a h2
    exact ⟨b, h4.symm, h5, fun y hy => h3 y (h6 y hy)⟩
  vspec := hv

/-- A byte, a word of 32 bits. -/
noncomputable def Rdr.u8 {t : TypeId} (hu : P.underlying t = some (.int .u8)) (hc : P.cellsOf t = 1) : Rdr P t B8 :=
  (Rdr.int .u8 hu hc).map (fun b => [U8 b]) (fun _ => []) (fun _ => True) U8
    (fun n hn => by
      have := wfk_bounds (show wfk .u8 n from hn)
      simp [IntKind.min, IntKind.max, IntKind.signed, IntKind.bits] at this
      refine ⟨BitVec.ofInt 8 n, ?_, trivial, by simp⟩
      simp only [Rdr.int, U8, BitVec.toNat_ofInt]
      congr 2; omega)
    (fun _ _ => by simp [hc]) (fun hv h => cells_single (okWide_notagg hv (by simp [hu]) (by simp [hu])) h)
noncomputable def Rdr.u32 {t : TypeId} (hu : P.underlying t = some (.int .u32)) (hc : P.cellsOf t = 1) : Rdr P t B32 :=
  (Rdr.int .u32 hu hc).map (fun b => [U32 b]) (fun _ => []) (fun _ => True) U32
    (fun n hn => by
      have := wfk_bounds (show wfk .u32 n from hn)
      simp [IntKind.min, IntKind.max, IntKind.signed, IntKind.bits] at this
      refine ⟨BitVec.ofInt 32 n, ?_, trivial, by simp⟩
      simp only [Rdr.int, U32, BitVec.toNat_ofInt]
      congr 2; omega)
    (fun _ _ => by simp [hc]) (fun hv h => cells_single (okWide_notagg hv (by simp [hu]) (by simp [hu])) h)

/-- A slice that came in. -/
structure Sl (α : Type) where
  p : Option Addr
  c : Nat
  l : List α

theorem length_flat {α β : Type} {f : α → List β} {n : Nat} {l : List α} (h : ∀ a ∈ l, (f a).length = n) : (l.flatMap f).length = l.length * n := by
  induction l with
  | nil => simp
  | cons a l ih =>
    rw [List.flatMap_cons, List.length_append, h a (by simp), ih (fun a ha => h a (by simp [ha])), List.length_cons, Nat.add_mul, Nat.one_mul, Nat.add_comm]

theorem get_flat {α β : Type} {f : α → List β} {n : Nat} : ∀ {l : List α} (_ : ∀ a ∈ l, (f a).length = n) {i j : Nat} {a : α} (_ : l[i]? = some a) (_ : j < n), (l.flatMap f)[i * n + j]? = (f a)[j]?
  | [], _, i, j, a, ha, _ => by simp at ha
  | b :: l, h, 0, j, a, ha, hj => by
    simp only [List.getElem?_cons_zero, Option.some.injEq] at ha
    subst ha
    rw [List.flatMap_cons, Nat.zero_mul, Nat.zero_add, List.getElem?_append_left (by rw [h b (by simp)]; exact hj)]
  | b :: l, h, i + 1, j, a, ha, hj => by
    simp only [List.getElem?_cons_succ] at ha
    have hb := h b (by simp)
    rw [List.flatMap_cons, Nat.add_mul, Nat.one_mul, List.getElem?_append_right (by rw [hb]; omega), hb, show i * n + n + j - n = i * n + j by omega]
    exact get_flat (fun a ha => h a (by simp [ha])) ha hj

/-- The list of all that 'p' gives, one by one. -/
theorem choose_list {α : Type} {p : Nat → α → Prop} : ∀ {n : Nat} (_ : ∀ i, i < n → ∃ x, p i x), ∃ l : List α, l.length = n ∧ ∀ i a, l[i]? = some a → p i a
  | 0, _ => ⟨[], rfl, by simp⟩
  | n + 1, h => by
    obtain ⟨l, h1, h2⟩ := choose_list (n := n) (fun i hi => h i (by omega))
    obtain ⟨x, hx⟩ := h n (by omega)
    refine ⟨l ++ [x], by simp [h1], fun i a ha => ?_⟩
    rw [List.getElem?_append] at ha
    split at ha
    · exact h2 i a ha
    · rename_i hi
      have hi' : i - l.length < 1 := by
        have := (List.getElem?_eq_some_iff.1 ha).1; simpa using this
      have e : i = n := by omega
      subst e
      simp [h1] at ha
      exact ha ▸ hx

noncomputable def Rdr.slice {t e : TypeId} {α : Type} (R : Rdr P e α) (sz : Nat) (hu : P.underlying t = some (.slice e)) (hc : P.cellsOf t = 1) (hs : P.cellsOf e = sz) (hpos : 0 < sz) (cs : List α → List Value) (hcs : ∀ l, cs l = l.flatMap R.cells) : Rdr P t (Sl α) where
  cells s := [.slice s.p s.l.length s.c]
  its s := sls s.p sz s.l.length (cs s.l) :: s.l.flatMap R.its
  ok s := s.l.length ≤ s.c ∧ s.c ≤ maxLen ∧ (s.p = none → s.l = [] ∧ s.c = 0) ∧ ∀ a ∈ s.l, R.ok a
  val s := .slice s.p s.l.length s.c
  len _ _ := by simp [hc]
  spec {H enc w base held fuel cells x} h := by
    rcases Go.Deep.open_slice hu h with ⟨rfl, _⟩ | ⟨a, len, cap, m, n, D, Pl, rfl, _, hl, hm, hmm, _, hx⟩
    · exact ⟨⟨none, 0, []⟩, rfl, ⟨Nat.le_refl _, by simp, by simp, by simp⟩, fun y hy => by
        simp only [List.flatMap_nil, List.mem_singleton] at hy
        subst hy
        exact ⟨by rw [hcs]; simp, rfl⟩⟩
    · simp only [if_true] at hmm
      subst hmm
      obtain ⟨l, h1, h2⟩ := choose_list (n := len) (p := fun i a' => w.cells? base (a.add (i * P.cellsOf e)) (P.cellsOf e) = some (R.cells a') ∧ R.ok a' ∧ ∀ y ∈ R.its a', y.A w) (fun i hi => by
        obtain ⟨cs', g1, g2⟩ := hx i (by omega)
        obtain ⟨a', rfl, g3, g4⟩ := R.spec g2
        exact ⟨a', g1, g3, g4⟩)
      have hok : ∀ a' ∈ l, R.ok a' := fun a' ha => by
        obtain ⟨i, hi⟩ := List.getElem?_of_mem ha
        exact (h2 i a' hi).2.1
      have hln : ∀ a' ∈ l, (R.cells a').length = sz := fun a' ha => by rw [R.len a' (hok a' ha), hs]
      refine ⟨⟨some a, m, l⟩, by simp [h1], ⟨by simp only [h1]; omega, hm, by simp, hok⟩, fun y hy => ?_⟩
      rcases List.mem_cons.1 hy with rfl | hy
      · refine ⟨by rw [hcs]; exact length_flat hln, fun hn => ?_, fun j u hj => ?_⟩
        · -- the block is there
          have hlen : l.length ≠ 0 := hn
          · obtain ⟨a', ha'⟩ : ∃ a', l[0]? = some a' := ⟨l[0]'(by omega), by simp⟩
            obtain ⟨g1, _⟩ := h2 0 a' ha'
            obtain ⟨_, g2, g3⟩ := World.cells?_some g1
            have := g3 0 (by omega)
            have hne : (R.cells a')[0]? ≠ none := by
              rw [Ne, List.getElem?_eq_none_iff]; rw [hln a' (List.mem_of_getElem? ha')]; omega
            rw [Nat.zero_mul, show (a.add 0).add 0 = a by simp [Addr.add]] at this
            rw [← this] at hne
            unfold World.cell? at hne
            by_cases hb : a.block < w.heap.size
            · exact hb
            · rw [Array.getElem?_eq_none (by omega)] at hne
              exact absurd rfl hne
        · rw [hcs] at hj
          have hjl : j < l.length * sz := by
            have := (List.getElem?_eq_some_iff.1 hj).1
            rwa [length_flat hln] at this
          have hsz : 0 < sz := Nat.pos_of_ne_zero (fun h => by simp [h] at hjl)
          have hi : j / sz < l.length := Nat.div_lt_of_lt_mul (by rw [Nat.mul_comm]; exact hjl)
          have ha' : l[j / sz]? = some l[j / sz] := by simp [hi]
          obtain ⟨g1, _⟩ := h2 _ _ ha'
          obtain ⟨_, g2, g3⟩ := World.cells?_some g1
          have hjm : j % sz < sz := Nat.mod_lt _ hsz
          have := g3 (j % sz) (by omega)
          have he : j / sz * sz + j % sz = j := by rw [Nat.mul_comm]; exact Nat.div_add_mod j sz
          have hg := get_flat hln ha' hjm
          rw [he, hj] at hg
          rw [hs, add_add, he, ← hg] at this
          exact this
      · obtain ⟨a', ha', hy⟩ := List.mem_flatMap.1 hy
        obtain ⟨i, hi⟩ := List.getElem?_of_mem ha'
        exact (h2 i a' hi).2.2 y hy
  vspec hv h := cells_single (okWide_notagg hv (by simp [hu]) (by simp [hu])) h

/-- Some fields of a struct, from a place on. -/
structure Flds (P : Program) (fs : List Field) (off tot : Nat) (α : Type) where
  cells : α → List Value
  its : α → List It
  ok : α → Prop
  len : ∀ a, ok a → (cells a).length = tot - off
  spec : ∀ {H : Type} {enc : TypeId × Value → H} {w : World} {base : Nat} {held : Bool} {cs : List Value}, cs.length = tot →
    (∀ f ∈ fs, ∃ n x, DataW.trod enc P w base (fun _ => true) held n f.type ((cs.drop f.offset).take (P.cellsOf f.type)) = some x) → ∃ a, cs.drop off = cells a ∧ ok a ∧ ∀ y ∈ its a, y.A w

noncomputable def Flds.nil {tot : Nat} : Flds P [] tot tot Unit where
  cells _ := []
  its _ := []
  ok _ := True
  len _ _ := by simp
  spec hl _ := ⟨(), by rw [List.drop_eq_nil_iff]; omega, trivial, by simp⟩

noncomputable def Flds.cons {f : Field} {fs : List Field} {off k tot : Nat} {α β : Type} (R : Rdr P f.type α) (ho : f.offset = off) (hk : P.cellsOf f.type = k) (hle : off + k ≤ tot) (F : Flds P fs (off + k) tot β) : Flds P (f :: fs) off tot (α × β) where
  cells x := R.cells x.1 ++ F.cells x.2
  its x := R.its x.1 ++ F.its x.2
  ok x := R.ok x.1 ∧ F.ok x.2
  len x h := by rw [List.length_append, R.len _ h.1, F.len _ h.2, hk]; omega
  spec {H enc w base held cs} hl h := by
    obtain ⟨n, x, hx⟩ := h f (by simp)
    obtain ⟨a, h1, h2, h3⟩ := R.spec hx
    obtain ⟨b, g1, g2, g3⟩ := F.spec hl (fun f' hf' => h f' (by simp [hf']))
    refine ⟨(a, b), ?_, ⟨h2, g2⟩, fun y hy => ?_⟩
    · rw [← g1, ← h1, ho, hk, ← List.drop_drop, List.take_append_drop]
    · rcases List.mem_append.1 hy with hy | hy
      · exact h3 y hy
      · exact g3 y hy

/-- A struct whose fields are read one by one; 'γ': its own name. -/
noncomputable def Rdr.struct {t : TypeId} {fs : Array Field} {tot : Nat} {α γ : Type} (hu : P.underlying t = some (.struct fs)) (hc : P.cellsOf t = tot) (F : Flds P fs.toList 0 tot α) (cells : γ → List Value) (its : γ → List It) (ok : γ → Prop)
    (h : ∀ a, F.ok a → ∃ g, cells g = F.cells a ∧ ok g ∧ ∀ y ∈ its g, y ∈ F.its a) (hl : ∀ g, ok g → (cells g).length = tot) : Rdr P t γ where
  cells := cells
  its := its
  ok := ok
  val g := .agg (cells g).toArray
  len g hg := by rw [hl g hg, hc]
  spec {H enc w base held fuel cs x} hx := by
    obtain ⟨xs, n, _, _, h2, h3, h4⟩ := DataW.trod_struct hu hx
    obtain ⟨a, g1, g2, g3⟩ := F.spec (enc := enc) (w := w) (base := base) (held := held) (cs := cs) (by rw [h2, hc]) (fun f hf => by
      obtain ⟨i, hi⟩ := List.getElem?_of_mem hf
      rw [Array.getElem?_toList] at hi
      have hlt : i < fs.size := (Array.getElem?_eq_some_iff.1 hi).1
      exact ⟨n, xs[i]'(by omega), by rw [h4 i f hi]; simp⟩)
    obtain ⟨g, k1, k2, k3⟩ := h a g2
    exact ⟨g, by rw [k1, ← g1, List.drop_zero], k2, fun y hy => g3 y (k3 y hy)⟩
  vspec hv h := by
    obtain ⟨cs, rfl⟩ := okWide_isagg hv (.inl ⟨_, hu⟩)
    rw [← h]; simp [Value.cells]

theorem trod_array {H : Type} {enc : TypeId × Value → H} {w : World} {base fuel : Nat} {sp : Nat → Bool} {held : Bool} {t e : TypeId} {k : Nat} {cs : List Value} {x : DataW H × List MemPlace} (hu : P.underlying t = some (.array k e)) (h : DataW.trod enc P w base sp held fuel t cs = some x) :
    ∃ n, cs.length = P.cellsOf t ∧ ∀ i, i < k → ∃ y, DataW.trod enc P w base sp held n e ((cs.drop (i * P.cellsOf e)).take (P.cellsOf e)) = some y := by
  cases fuel with
  | zero => simp [DataW.trod] at h
  | succ n =>
    unfold DataW.trod at h
    rw [hu] at h
    simp only at h
    split at h
    · rename_i hl
      refine ⟨n, hl, fun i hi => ?_⟩
      rw [Option.map_eq_some_iff] at h
      obtain ⟨ys, hy, _⟩ := h
      have : ∀ {l : List Nat} {ys : List (DataW H × List MemPlace)} {f : Nat → Option (DataW H × List MemPlace)}, l.mapM f = some ys → ∀ i ∈ l, ∃ y, f i = some y := by
        intro l
        induction l with
        | nil => intro ys f _ i hi; cases hi
        | cons a l ih =>
          intro ys f h i hi
          rw [List.mapM_cons] at h
          cases hfa : f a with
          | none => simp [hfa] at h
          | some y =>
            simp only [hfa, Option.bind_eq_bind, Option.bind_some] at h
            cases hl : l.mapM f with
            | none => simp [hl] at h
            | some zs =>
              rcases List.mem_cons.1 hi with rfl | hi
              · exact ⟨y, hfa⟩
              · exact ih hl i hi
      exact this hy i (by simpa using hi)
    · cases h

/-- An array. -/
noncomputable def Rdr.array {t e : TypeId} {α : Type} (R : Rdr P e α) (n sz : Nat) (hu : P.underlying t = some (.array n e)) (hs : P.cellsOf e = sz) (hc : P.cellsOf t = n * sz) (cs : List α → List Value) (hcs : ∀ l, cs l = l.flatMap R.cells) : Rdr P t (List α) where
  cells l := cs l
  its l := l.flatMap R.its
  ok l := l.length = n ∧ ∀ a ∈ l, R.ok a
  val l := .agg (cs l).toArray
  len l h := by rw [hcs, hc, ← h.1]; exact length_flat (fun a ha => by rw [R.len a (h.2 a ha), hs])
  spec {H enc w base held fuel cells x} hx := by
    obtain ⟨m, h1, h2⟩ := trod_array hu hx
    obtain ⟨l, g1, g2⟩ := choose_list (n := n) (p := fun i a => (cells.drop (i * sz)).take sz = R.cells a ∧ R.ok a ∧ ∀ y ∈ R.its a, y.A w) (fun i hi => by
      obtain ⟨y, hy⟩ := h2 i hi
      rw [hs] at hy
      obtain ⟨a, k1, k2, k3⟩ := R.spec hy
      exact ⟨a, k1, k2, k3⟩)
    have hok : ∀ a ∈ l, R.ok a := fun a ha => by
      obtain ⟨i, hi⟩ := List.getElem?_of_mem ha
      exact (g2 i a hi).2.1
    have hln : ∀ a ∈ l, (R.cells a).length = sz := fun a ha => by rw [R.len a (hok a ha), hs]
    refine ⟨l, ?_, ⟨g1, hok⟩, fun y hy => ?_⟩
    · rw [hcs]
      apply List.ext_getElem?
      intro j
      by_cases hj : j < n * sz
      · have hsz : 0 < sz := Nat.pos_of_ne_zero (fun h => by simp [h] at hj)
        have hi : j / sz < l.length := Nat.div_lt_of_lt_mul (by rw [g1, Nat.mul_comm]; exact hj)
        have ha : l[j / sz]? = some l[j / sz] := by simp [hi]
        have hjm : j % sz < sz := Nat.mod_lt _ hsz
        have he : j / sz * sz + j % sz = j := by rw [Nat.mul_comm]; exact Nat.div_add_mod j sz
        have hg := get_flat hln ha hjm
        rw [he] at hg
        rw [hg, ← (g2 _ _ ha).1, List.getElem?_take, if_pos hjm, List.getElem?_drop, he]
      · rw [List.getElem?_eq_none (by rw [h1, hc]; omega), List.getElem?_eq_none (by rw [length_flat hln, g1]; omega)]
    · obtain ⟨a, ha, hy⟩ := List.mem_flatMap.1 hy
      obtain ⟨i, hi⟩ := List.getElem?_of_mem ha
      exact (g2 i a hi).2.2 y hy
  vspec hv h := by
    obtain ⟨cs', rfl⟩ := okWide_isagg hv (.inr ⟨_, _, hu⟩)
    rw [← h]; simp [Value.cells]

theorem flat_one {α β : Type} (f : α → β) (l : List α) : l.map f = l.flatMap (fun a => [f a]) := by
  induction l <;> simp_all

/-- What a law's walk hands back, as its row wants it. -/
theorem Spc.lawI {f : FuncId} {args : Array Value} {u : Value} {w : World} {I : List It} (h : Spc P f args I [] (Is u)) (hw : ∀ y ∈ I, y.A w) : Calls P f args w (fun e w' => e = .returned u ∧ RowKit.Below w.heap.size w w') :=
  h.law ⟨hw, by simp, by simp, by simp⟩
end
/-- What a row wants of the program, one by one. -/
theorem joined_of {P : Program} {f : FuncId} {fn : Func} {s : ChangeSpec} {c : OpenClaim} (k1 : c.wf (OpenSpec.ofChange s) = true) (k2 : laidOutB P = true) (k3 : mapsRowed P = true) (k4 : fn.params.all (P.readableRec ·) = true) (k5 : namedTie P c.named s.vars = true) (k6 : (c.stops == []) = true) (k7 : (P.stops == []) = true) (k8 : (c.knobs == []) = true) (k9 : (P.stopKnobs == []) = true) (k10 : (c.inPlace == P.inPlace f) = true) (k11 : (c.unfollowed == P.unfollowed f) = true) (k12 : (c.recurses == P.recurses f) = true) (k13 : (c.named == P.varsNamed f) = true) (k14 : (c.maps == (fn.params.toList ++ s.plain.varTypes P).any (P.mapsRec ·)) = true) (k15 : (c.ifaces == (fn.params.toList ++ s.plain.varTypes P).any (P.ifacesRec ·)) = true) (k16 : (c.mapsOut == P.mapsAmong fn.resultTypes.toList) = true) (k17 : (c.loops == (fn.params.toList ++ s.plain.varTypes P).any (P.loopsFrom ·)) = true) (k18 : (c.wideKeys == (fn.params.toList ++ s.plain.varTypes P ++ fn.resultTypes.toList).any (P.wideKeysFrom ·)) = true) (k19 : s.vars.all (P.varReadable ·) = true) (k20 : fn.resultTypes.all (fun t => P.readableRec t && decide (t < P.types.size)) = true) (k21 : (c.ifacesOut == fn.resultTypes.toList.any (P.ifacesRec ·)) = true) (k22 : (c.loopsOut == fn.resultTypes.toList.any (P.loopsFrom ·)) = true) (k23 : (c.plainKeys == P.plainKeys) = true) (k24 : c.shortTexts.isNone = true) (k25 : P.stopsHeard = true) (k26 : P.mayEnter = true) (k27 : (c.lifted == P.liftsFinal) = true) (k28 : (P.make == some c.make) = true) (k29 : (c.kinds == (if c.domain.isEmpty then [] else fn.params.toList.map fun t => match P.underlying t with | some (.int k) => some k | _ => none)) = true) (k30 : (c.pinned == c.pinnedBy) = true) (k31 : (c.veiled == (fn.params.toList ++ s.plain.varTypes P ++ fn.resultTypes.toList).any (P.veiledRec ·)) = true) (k32 : c.veiledFits P fn.params.toList (fn.params.toList ++ s.plain.varTypes P ++ fn.resultTypes.toList) = true) : joinedFacts P f fn s c = true := by
  unfold joinedFacts
  simp only [Bool.and_eq_true]
  exact ⟨⟨⟨⟨⟨⟨⟨⟨⟨⟨⟨⟨⟨⟨⟨⟨⟨⟨⟨⟨⟨⟨⟨⟨⟨⟨⟨⟨⟨⟨⟨k1, k2⟩, k3⟩, k4⟩, k5⟩, k6⟩, k7⟩, k8⟩, k9⟩, k10⟩, k11⟩, k12⟩, k13⟩, k14⟩, k15⟩, k16⟩, k17⟩, k18⟩, k19⟩, k20⟩, k21⟩, k22⟩, k23⟩, k24⟩, k25⟩, k26⟩, k27⟩, k28⟩, k29⟩, k30⟩, k31⟩, k32⟩
end Go.PK

/-
  PK, part M: one's own slices, made and added to without a word.
-/
namespace Go.PK

theorem Upd.symm {H H' : List It} {x x' : It} (h : Upd H x x' H') : Upd H' x' x H := by
  induction h with
  | here => exact .here
  | there h ih => exact .there ih

theorem spl_set {v : Value} : ∀ {cs : List Value} {n : Nat}, n < cs.length → spl cs n [v] = cs.set n v
  | [], _, h => by simp at h
  | c :: cs, 0, _ => by cases cs <;> simp [spl]
  | c :: cs, n + 1, h => by simp only [spl, List.set_cons_succ]; rw [spl_set (by simpa using h)]
/-- A table of 'n' cells, one of them set. -/
theorem set_range {α : Type} {f f' : Nat → α} {n j : Nat} {v : α} (h : ∀ q, q ≠ j → f' q = f q) (hv : f' j = v) : ((List.range n).map f).set j v = (List.range n).map f' := by
  apply List.ext_getElem?
  intro q
  rw [List.getElem?_set]
  by_cases hq : j = q
  · subst hq
    by_cases hn : j < n
    · simp [hn, hv]
    · simp [hn]
  · simp only [hq, if_false, List.getElem?_map]
    by_cases hn : q < n
    · simp [hn, h q (Ne.symm hq)]
    · simp [hn]
theorem spl_range {f f' : Nat → Value} {n j : Nat} {v : Value} (hj : j < n) (h : ∀ q, q ≠ j → f' q = f q) (hv : f' j = v) : spl ((List.range n).map f) j [v] = (List.range n).map f' := by
  rw [spl_set (by simpa using hj), set_range h hv]

section
variable {P : Program} {L : List Oper} {ef bk : List Nat} {tq : Tq} {Q : Exit → Act → World → Prop} {N : Fm} {E : Env} {w0 : World} {S : List Nat} {I H : List It} {i : Nat} {l : Sq}
variable {d : Nat} {x y z : Operand} {ty t yt : TypeId} {pos : String} {af : Array Edge} {g : Option (Nat × Bool)} {v : Value} {k k' : IntKind} {m n : Int}

theorem cel_own {b sz n : Nat} {cs : List Value} {T : TypeId} (hl : cs.length = n * sz) (hm : n ≤ maxLen) (w : World) (h : (cel b cs T).A w) : (own (some b) n T sz n cs).A w :=
  ⟨hl, Nat.le_refl _, hm, [], ⟨_, by rw [List.append_nil]; exact h, .inl rfl⟩, by rw [List.append_nil]; exact hl⟩

/-- A slice built, as one's own. -/
theorem RL.buildOwn {e : TypeId} {size len : Nat} {zs : List Value} {ps : Array (Nat × Operand)} {vs : List (Nat × Value)} {z : Value} (cs : List Value) (hu : ∀ w, (underlying t).run P w = .ok (.slice e) w) (hs : ∀ w, (sizeOf e).run P w = .ok size w)
    (hz : ∀ w, (zeroValue e).run P w = .ok z w) (hzc : z.cells = zs.toArray) (hsz : zs.length = size) (hpos : 0 < size) (hlen : len * size ≤ 16777216) (hcl : cs.length = len * size) (hml : len ≤ 16777216)
    (ho : nth L i = some ⟨some d, .buildSlice t len ps, ty, pos, af, g⟩) (hw : wants L E ⟨some d, .buildSlice t len ps, ty, pos, af, g⟩ = true) (hN : Nat.blt d N.n = true) (hi : ef.contains i = true)
    (hx : vparts E ps.toList = some vs) (hf : fillL (fun j => some (j * size, size)) (reps zs len) vs = some cs)
    (h : ∀ b, RL P L ef bk tq Q l N ((d, .slice (some ⟨b, 0, none⟩) len len) :: E) w0 S I (own (some b) len e size len cs :: H)) : RL P L ef bk tq Q (.cons i l) N E w0 S I H :=
  RL.make (x := fun b => own (some b) len e size len cs) (u := fun b => .slice (some ⟨b, 0, none⟩) len len) ho hw hi rfl hN (fun a w ha hC => by
    obtain ⟨w', h1, h2, h3⟩ := run_buildSlice cs hu hs hz hzc hsz hpos hlen (pos := pos) (ty := ty) (af := af) (g := g) (d := d) (w := w) ha hx hf
    exact ⟨w', h1, h2, cel_own hcl (by unfold maxLen; omega) w' h3, rfl⟩) h

theorem Src.ownS {b cap sz nn : Nat} {e : TypeId} {xs : List Value} (hm : PK.own (some b) cap e sz nn xs ∈ H) : Src I H (some ⟨b, 0, none⟩) nn sz xs := Src.own (ob := some b) hm

/-- Something added to one's own slice: found by program. -/
theorem RL.appendA {e : TypeId} {sz bytes : Nat} {ob : Option Nat} {cap nn mm c2 : Nat} {xs news : List Value} {p2 : Option Addr} {B : List It} {vx : Value} (T : ElemT P t e sz bytes)
    (ho : nth L i = some ⟨some d, .call ⟨.builtin .append, #[x, y], #[t, t]⟩, ty, pos, af, g⟩) (hw : wants L E ⟨some d, .call ⟨.builtin .append, #[x, y], #[t, t]⟩, ty, pos, af, g⟩ = true) (hN : Nat.blt d N.n = true) (hi : ef.contains i = true) (hb : bk.contains i = true)
    (hx : E.ev x = some vx) (hy : E.ev y = some (.slice p2 mm c2)) (hp : Pick H [PK.own ob cap e sz nn xs] B ∧ vx = slO ob nn cap) (hs : Src I H p2 mm sz news) (h1 : ∀ u ∈ news, u.oneCell' = true) (hm : nn + mm ≤ maxLen) (hby : (nn + mm) * bytes ≤ 140737488355328)
    (h : ∀ ob' cap', (nn + mm = 0 ∨ ob'.isSome = true) → RL P L ef bk tq Q l N ((d, slO ob' (nn + mm) cap') :: E) w0 S I (PK.own ob' cap' e sz (nn + mm) (xs ++ news) :: B)) :
    RL P L ef bk tq Q (.cons i l) N E w0 S I H := by
  obtain ⟨hp, rfl⟩ := hp
  exact RL.append T ho hw hN hi hb hx hy hs h1 hm hby hp h

/-- A quotient, written otherwise. -/
theorem RL.quoX {v' : Value} (ho : nth L i = some ⟨some d, .binOp .quo t x y yt, ty, pos, af, g⟩) (hw : wants L E ⟨some d, .binOp .quo t x y yt, ty, pos, af, g⟩ = true) (hN : Nat.blt d N.n = true)
    (hx : E.ev x = some (.int k m)) (hy : E.ev y = some (.int k n)) (hn : n ≠ 0) (hv : Value.int k (k.wrap (m.tdiv n)) = v') (h : RL P L ef bk tq Q l N ((d, v') :: E) w0 S I H) : RL P L ef bk tq Q (.cons i l) N E w0 S I H :=
  RL.quo ho hw hN hx hy hn (hv ▸ h)
theorem RL.remX {v' : Value} (ho : nth L i = some ⟨some d, .binOp .rem t x y yt, ty, pos, af, g⟩) (hw : wants L E ⟨some d, .binOp .rem t x y yt, ty, pos, af, g⟩ = true) (hN : Nat.blt d N.n = true)
    (hx : E.ev x = some (.int k m)) (hy : E.ev y = some (.int k n)) (hn : n ≠ 0) (hv : Value.int k (m.tmod n) = v') (h : RL P L ef bk tq Q l N ((d, v') :: E) w0 S I H) : RL P L ef bk tq Q (.cons i l) N E w0 S I H :=
  RL.rem ho hw hN hx hy hn (hv ▸ h)

/-- The like, told otherwise: so many, these cells. -/
theorem own_is {ob : Option Nat} {cap sz n n' : Nat} {e : TypeId} {xs xs' : List Value} (hn : n = n') (hx : xs = xs') : own ob cap e sz n xs = own ob cap e sz n' xs' := by rw [hn, hx]

theorem Lend.many {F J : List It} (h : ∀ x ∈ J, x ∈ I) : Lend I F J := by
  induction J with
  | nil => exact .nil
  | cons x J ih => exact .inI (h x (by simp)) (ih (fun y hy => h y (by simp [hy])))

end
end Go.PK

/-
  PK, part N: arrays as slices, texts, cells of one's own slice.
-/
namespace Go.PK

/-- A text: its bytes. -/
def txt (l : List B8) : ByteArray := ⟨(l.map UInt8.ofBitVec).toArray⟩
theorem txt_size (l : List B8) : (txt l).size = l.length := by simp [txt, ByteArray.size]
theorem txt_of (s : ByteArray) : ∃ l, s = txt l := by
  refine ⟨s.data.toList.map UInt8.toBitVec, ?_⟩
  cases s with
  | mk d =>
    have : (d.toList.map UInt8.toBitVec).map UInt8.ofBitVec = d.toList := by
      rw [List.map_map]; conv => rhs; rw [← List.map_id d.toList]
      apply List.map_congr_left; intro b _; rfl
    simp only [txt, this]
section
variable {P : Program} {L : List Oper} {ef bk : List Nat} {tq : Tq} {Q : Exit → Act → World → Prop} {N : Fm} {E : Env} {w0 : World} {S : List Nat} {I H : List It} {i : Nat} {l : Sq}
variable {d : Nat} {x y z : Operand} {ty t yt : TypeId} {pos : String} {af : Array Edge} {g : Option (Nat × Bool)} {v : Value} {k k' : IntKind} {m n : Int}

/-- '[N]T(s)'. -/
theorem RL.toArr {e : TypeId} {p : Option Addr} {len cap nn : Nat} (hu : ∀ w, (underlying t).run P w = .ok (.array nn e) w) (ho : nth L i = some ⟨some d, .sliceToArrayPointer t x, ty, pos, af, g⟩) (hw : wants L E ⟨some d, .sliceToArrayPointer t x, ty, pos, af, g⟩ = true) (hN : Nat.blt d N.n = true)
    (hx : E.ev x = some (.slice p len cap)) (hl : nn ≤ len) (h : RL P L ef bk tq Q l N ((d, .pointer p) :: E) w0 S I H) : RL P L ef bk tq Q (.cons i l) N E w0 S I H :=
  RL.pval ho hw rfl hN (fun a w ha => by
    have : ¬ len < nn := by omega
    simp [execOp, ha.ev hx, Instr.arrayAt, hu, this]) h

/-- 'a[:]' of an array. -/
theorem RL.sliceAll {e : TypeId} {b off len sz : Nat} (hu : ∀ w, (underlying t).run P w = .ok (.array len e) w) (hs : ∀ w, (sizeOf e).run P w = .ok sz w) (hl : 0 < len) (ho : nth L i = some ⟨some d, .slice t x none none none, ty, pos, af, g⟩) (hw : wants L E ⟨some d, .slice t x none none none, ty, pos, af, g⟩ = true) (hN : Nat.blt d N.n = true)
    (hx : E.ev x = some (.pointer (some ⟨b, off, none⟩))) (h : RL P L ef bk tq Q l N ((d, .slice (some ⟨b, off, none⟩) len len) :: E) w0 S I H) : RL P L ef bk tq Q (.cons i l) N E w0 S I H :=
  RL.sliceA (lo := 0) (hi := len) hu hs ho hw hN hx rfl rfl (Nat.zero_le _) (Nat.le_refl _) hl (by simpa using h)

/-- A whole block read, written. -/
theorem RL.loadW {b nn : Nat} {vs : List Value} {T : TypeId} (hag : ∀ w, (isAgg t).run P w = .ok true w) (hs : ∀ w, (sizeOf t).run P w = .ok nn w) (ho : nth L i = some ⟨some d, .load t x, ty, pos, af, g⟩) (hw : wants L E ⟨some d, .load t x, ty, pos, af, g⟩ = true) (hN : Nat.blt d N.n = true)
    (hx : E.ev x = some (.pointer (some ⟨b, 0, none⟩))) (hm : PK.cel b vs T ∈ H) (hl : vs.length = nn) (h : RL P L ef bk tq Q l N ((d, .agg vs.toArray) :: E) w0 S I H) (ht : tq.l.contains i = false := by rfl) : RL P L ef bk tq Q (.cons i l) N E w0 S I H :=
  RL.loadN hag (by rw [hl]; exact hs) ho hw hN hx (Rds.all hm) h ht
theorem RL.loadWI {b nn : Nat} {vs : List Value} {T : TypeId} (hag : ∀ w, (isAgg t).run P w = .ok true w) (hs : ∀ w, (sizeOf t).run P w = .ok nn w) (ho : nth L i = some ⟨some d, .load t x, ty, pos, af, g⟩) (hw : wants L E ⟨some d, .load t x, ty, pos, af, g⟩ = true) (hN : Nat.blt d N.n = true)
    (hx : E.ev x = some (.pointer (some ⟨b, 0, none⟩))) (hm : PK.cel b vs T ∈ I) (hl : vs.length = nn) (h : RL P L ef bk tq Q l N ((d, .agg vs.toArray) :: E) w0 S I H) (ht : tq.l.contains i = false := by rfl) : RL P L ef bk tq Q (.cons i l) N E w0 S I H :=
  RL.loadN hag (by rw [hl]; exact hs) ho hw hN hx (Rds.allI hm) h ht
theorem RL.storeW {b nn : Nat} {cs vs : List Value} {T : TypeId} {H' : List It} (hs : ∀ w, (sizeOf t).run P w = .ok nn w) (ho : nth L i = some ⟨none, .store t x y, ty, pos, af, g⟩) (hw : wants L E ⟨none, .store t x y, ty, pos, af, g⟩ = true)
    (hi : ef.contains i = true) (hb : bk.contains i = true) (hx : E.ev x = some (.pointer (some ⟨b, 0, none⟩))) (hy : E.ev y = some v) (hc : v.cells = vs.toArray) (h1 : ones vs = true)
    (hu : Upd H (PK.cel b cs T) (PK.cel b vs T) H') (hv : vs.length = nn) (hl : cs.length = nn) (h : RL P L ef bk tq Q l N E w0 S I H') : RL P L ef bk tq Q (.cons i l) N E w0 S I H :=
  RL.storeX (spl_all (by rw [hv, hl])) (by rw [hv]; exact hs) ho hw hi hb hx hy hc h1 hu (by omega) h
theorem resW {fn : Func} {tt : Tmp} {T C : TypeId} {b nn : Nat} {vs : List Value} (hf : fn.results = #[.cell tt T]) (ht : E.get tt = some (.pointer (some ⟨b, 0, none⟩))) (hag : ∀ w, (isAgg T).run P w = .ok true w) (hs : ∀ w, (sizeOf T).run P w = .ok nn w) (hm : PK.cel b vs C ∈ H) (hl : vs.length = nn) :
    ∀ a w, Ag N a E → Cls w0 S I H w → (results fn a.tmps).run P w = .ok (.agg vs.toArray) w := resC hf ht hag (by rw [hl]; exact hs) (Rds.all hm)

/-- Some cells of a block read. -/
theorem RL.loadP {b off nn : Nat} {cs : List Value} {T : TypeId} (hag : ∀ w, (isAgg t).run P w = .ok true w) (hs : ∀ w, (sizeOf t).run P w = .ok nn w) (ho : nth L i = some ⟨some d, .load t x, ty, pos, af, g⟩) (hw : wants L E ⟨some d, .load t x, ty, pos, af, g⟩ = true) (hN : Nat.blt d N.n = true)
    (hx : E.ev x = some (.pointer (some ⟨b, off, none⟩))) (hm : PK.cel b cs T ∈ H) (hl : off + nn ≤ cs.length) (h : RL P L ef bk tq Q l N ((d, .agg ((cs.drop off).take nn).toArray) :: E) w0 S I H) (ht : tq.l.contains i = false := by rfl) : RL P L ef bk tq Q (.cons i l) N E w0 S I H :=
  RL.loadN hag (by rw [List.length_take, List.length_drop, Nat.min_eq_left (by omega)]; exact hs) ho hw hN hx (Rds.cel hm (fun j u hj => by
    rw [List.getElem?_take] at hj
    split at hj
    · rwa [List.getElem?_drop] at hj
    · cases hj)) h ht

theorem resWT {fn : Func} {tt uu : Tmp} {T C : TypeId} {b nn : Nat} {vs : List Value} {v2 : Value} (hf : fn.results = #[.cell tt T, .tmp uu]) (ht : E.get tt = some (.pointer (some ⟨b, 0, none⟩))) (hu : E.get uu = some v2) (hag : ∀ w, (isAgg T).run P w = .ok true w) (hs : ∀ w, (sizeOf T).run P w = .ok nn w) (hm : PK.cel b vs C ∈ H) (hl : vs.length = nn) :
    ∀ a w, Ag N a E → Cls w0 S I H w → (results fn a.tmps).run P w = .ok (.tuple #[.agg vs.toArray, v2]) w := fun a w ha hC => by
  have h1 := run_isAggT (P := P) hag (by rw [hl]; exact hs) (Rds.all (I := I) hm w hC.s)
  simp [results, hf, ha.t tt _ ht, ha.t uu _ hu, asAddr, h1]

/-- A store into one's own slice. -/
theorem RL.storeO {b cap sz nn off : Nat} {e : TypeId} {xs vs xs' : List Value} {p : Addr} {H' : List It} (he : spl xs off vs = xs') (hs : ∀ w, (sizeOf t).run P w = .ok vs.length w) (ho : nth L i = some ⟨none, .store t x y, ty, pos, af, g⟩) (hw : wants L E ⟨none, .store t x y, ty, pos, af, g⟩ = true)
    (hi : ef.contains i = true) (hb : bk.contains i = true) (hx : E.ev x = some (.pointer (some p))) (hpp : p = (⟨b, 0, none⟩ : Addr).add off) (hy : E.ev y = some v) (hc : v.cells = vs.toArray) (h1 : ones vs = true) (hl : off + vs.length ≤ xs.length)
    (hu : Upd H (own (some b) cap e sz nn xs) (own (some b) cap e sz nn xs') H') (h : RL P L ef bk tq Q l N E w0 S I H') : RL P L ef bk tq Q (.cons i l) N E w0 S I H := by
  subst he
  refine RL.turn0 ho hw hi hb rfl hu rfl (fun a w ha hC => ?_) h
  obtain ⟨q1, q2, q3, rest, ⟨f, hA, hfz⟩, q5⟩ := hC.s.h _ hu.mem
  have hst := run_storeCells_atF (P := P) b off e f vs 0 (xs ++ rest).toArray w (hfz.imp id (fun h => by rw [List.size_toArray, q5]; exact h)) hA (by simp; omega) (ones_spec h1)
  refine ⟨w.setRow b (spl xs off vs ++ rest).toArray, ?_, Keeps.setRow, ?_⟩
  · simp only [Nat.add_zero] at hst
    have e2 : (xs ++ rest).take off ++ vs ++ (xs ++ rest).drop (off + vs.length) = spl xs off vs ++ rest := by
      rw [spl_eq _ _ _ hl, List.take_append_of_le_length (by omega), List.drop_append_of_le_length hl, ← List.append_assoc]
    rw [add_none, Nat.zero_add] at hpp
    subst hpp
    rw [e2] at hst
    simp [execOp, ha.ev hx, ha.ev hy, Instr.storeAt, Instr.sureAddr, storeVar, hs, hc, hst]
  · refine ⟨by rw [spl_length]; exact q1, q2, q3, rest, ⟨f, setRow_heap w b _ _ e _ hA, hfz⟩, ?_⟩
    rw [List.length_append, spl_length, ← List.length_append]; exact q5
end

/-- A text that came in. -/
noncomputable def Rdr.text {P : Program} {t : TypeId} (hu : P.underlying t = some .string) (hc : P.cellsOf t = 1) : Rdr P t (List B8) :=
  (Rdr.string hu hc).map (fun l => [.string (txt l)]) (fun _ => []) (fun l => l.length ≤ maxLen) (fun l => .string (txt l))
    (fun s hs => by
      obtain ⟨l, rfl⟩ := txt_of s
      exact ⟨l, rfl, by rw [← txt_size]; exact hs, by simp⟩)
    (fun _ _ => by simp [hc]) (fun hv h => cells_single (okWide_notagg hv (by simp [hu]) (by simp [hu])) h)
end Go.PK

/-
  PK, part O: bytes of a text, one's own.
-/
namespace Go.PK

section
variable {P : Program} {L : List Oper} {ef bk : List Nat} {tq : Tq} {Q : Exit → Act → World → Prop} {N : Fm} {E : Env} {w0 : World} {S : List Nat} {I H : List It} {i : Nat} {l : Sq}
variable {d : Nat} {x y z : Operand} {ty t yt : TypeId} {pos : String} {af : Array Edge} {g : Option (Nat × Bool)} {v : Value} {k k' : IntKind} {m n : Int}

theorem run_strBytes {e : TypeId} (hs : ∀ w, (underlying t).run P w = .ok .string w) (hd : ∀ w, (underlying yt).run P w = .ok (.slice e) w) (he : ∀ w, (underlying e).run P w = .ok (.int .u8) w) (bs : List B8) (hb : bs.length ≤ 1000000000) (w : World) :
    ∃ cap w', (convert t yt (.string (txt bs))).run P w = .ok (.slice (some ⟨w.heap.size, 0, none⟩) bs.length cap) w' ∧ Grow w w' ∧ (own (some w.heap.size) cap e 1 bs.length (bs.map U8)).A w' := by
  have hsz := txt_size bs
  have hge := grownCap_ge w bs.length 0 e
  have hcm : grownCap w bs.length 0 e ≤ maxLen := grownCap_le_maxLen w bs.length 0 e (by unfold maxLen; omega)
  let arr : Array Value := (txt bs).data.map (fun b => Value.int .u8 (b.toNat : Int)) ++ Array.replicate (grownCap w bs.length 0 e - bs.length) (.int .u8 0)
  have harr : arr = (bs.map U8 ++ List.replicate (grownCap w bs.length 0 e - bs.length) (Value.int .u8 0)).toArray := by
    apply Array.toList_inj.1
    simp only [arr, txt, Array.toList_append, Array.toList_map, List.map_map, Array.toList_replicate]
    congr 1
  have hal : arr.size = grownCap w bs.length 0 e := by rw [harr]; simp; omega
  have hh : (w.drew.alloc (.cells arr e)).heap[w.heap.size]? = some (.cells arr e (0, 0)) := heap_alloc_same w.drew _
  have hm := run_mark (P := P) hh
  have hrun : (convert t yt (.string (txt bs))).run P w = .ok (.slice (some ⟨w.heap.size, 0, none⟩) bs.length (grownCap w bs.length 0 e)) ((w.drew.alloc (.cells arr e)).freeze ⟨w.heap.size, arr.size, none⟩ 1) := by
    simp only [convert, Sem.run_bind, hs, hd, he, Result.andThen_ok]
    simp only [Conv.stringToBytes, hsz]
    simp only [arr, grownCap] at hm
    simp [Question.forced, newRow, grownCap, hm, arr]
  refine ⟨_, _, hrun, ⟨by simp [World.freeze]; rfl, by simp [World.freeze], by simp [World.freeze]; rfl, by simp [World.freeze], fun c hc _ => ?_, by simp only [World.freeze, Nat.one_ne_zero, if_false]; exact by first | exact Nat.le_succ _ | exact Nat.le_refl 0⟩, ?_⟩
  · have hne : ¬ w.heap.size = c := by omega
    have h2 := heap_alloc_lt w.drew (.cells arr e) (b := c) hc
    simp only [World.freeze, Nat.one_ne_zero, if_false]
    rw [Array.getElem?_modify, if_neg hne]
    exact h2
  · refine ⟨by simp, hge, hcm, List.replicate (grownCap w bs.length 0 e - bs.length) (Value.int .u8 0), ⟨(arr.size, arr.size + 1), ?_, .inr (by rw [Nat.mul_one, hal]; exact Nat.le_refl _)⟩, by rw [← List.size_toArray, ← harr, hal, Nat.mul_one]⟩
    rw [← harr]
    simp only [World.freeze, Nat.one_ne_zero, if_false]
    rw [Array.getElem?_modify, if_pos rfl, hh]
    simp

/-- '[]byte(s)'. -/
theorem RL.strBytes {e : TypeId} {bs : List B8} (hs : ∀ w, (underlying t).run P w = .ok .string w) (hd : ∀ w, (underlying yt).run P w = .ok (.slice e) w) (he : ∀ w, (underlying e).run P w = .ok (.int .u8) w) (hb : bs.length ≤ 1000000000)
    (ho : nth L i = some ⟨some d, .convert t yt x, ty, pos, af, g⟩) (hw : wants L E ⟨some d, .convert t yt x, ty, pos, af, g⟩ = true) (hN : Nat.blt d N.n = true) (hi : ef.contains i = true)
    (hx : E.ev x = some (.string (txt bs))) (h : ∀ b cap, RL P L ef bk tq Q l N ((d, .slice (some ⟨b, 0, none⟩) bs.length cap) :: E) w0 S I (PK.own (some b) cap e 1 bs.length (bs.map U8) :: H)) : RL P L ef bk tq Q (.cons i l) N E w0 S I H := by
  refine RL.eff ho hw hi rfl hN (fun a w ha hC => ?_)
  obtain ⟨cap, w', h1, h2, h3⟩ := run_strBytes hs hd he bs hb w
  have hr : (execOp a.eval ⟨some d, .convert t yt x, ty, pos, af, g⟩).run P w = .ok (.value (.slice (some ⟨w.heap.size, 0, none⟩) bs.length cap)) w' := by
    simp [execOp, ha.ev hx, h1]
  unfold does
  rw [hr]
  exact ⟨I, _, hC.more h2 h3 (by simp [PK.own]) (by simp [PK.own]), fun _ h => h, fun _ _ h => h.less, h _ _⟩

end
end Go.PK

/-
  PK, part P: values of flat types (numbers, truths, texts, and structs and arrays of such) compared, whole.
-/
namespace Go.PK

/-- What a cell is. -/
inductive EK where | bool | int (k : IntKind) | str
def EK.fit : EK → Value → Prop
  | .bool, .bool _ => True
  | .int q, .int q' n => q' = q ∧ wfk q n
  | .str, .string s => s.size ≤ maxLen
  | _, _ => False
def Fits : List EK → List Value → Prop
  | [], [] => True
  | k :: ks, c :: cs => k.fit c ∧ Fits ks cs
  | _, _ => False
theorem Fits.length : ∀ {ks : List EK} {cs : List Value}, Fits ks cs → ks.length = cs.length
  | [], [], _ => rfl
  | _ :: _, _ :: _, h => by simp [Fits.length h.2]
  | [], _ :: _, h => h.elim
  | _ :: _, [], h => h.elim
theorem Fits.append : ∀ {a b : List EK} {c d : List Value}, Fits a c → Fits b d → Fits (a ++ b) (c ++ d)
  | [], _, [], _, _, h => h
  | _ :: _, _, _ :: _, _, h, h2 => ⟨h.1, h.2.append h2⟩
  | [], _, _ :: _, _, h, _ => h.elim
  | _ :: _, _, [], _, h, _ => h.elim
theorem Fits.split : ∀ {a b : List EK} {cs : List Value}, Fits (a ++ b) cs → Fits a (cs.take a.length) ∧ Fits b (cs.drop a.length)
  | [], _, _, h => ⟨trivial, h⟩
  | _ :: _, _, [], h => h.elim
  | _ :: _, _, _ :: _, h => ⟨⟨h.1, h.2.split.1⟩, h.2.split.2⟩
theorem Fits.one {k : EK} {v : Value} (h : k.fit v) : Fits [k] [v] := ⟨h, trivial⟩
theorem Fits.cons {k : EK} {ks : List EK} {v : Value} {vs : List Value} (h : k.fit v) (hs : Fits ks vs) : Fits (k :: ks) (v :: vs) := ⟨h, hs⟩
theorem Fits.map {α : Type} {k : EK} {f : α → Value} (h : ∀ a, k.fit (f a)) : ∀ {n : Nat} {l : List α}, l.length = n → Fits (List.replicate n k) (l.map f)
  | 0, [], _ => trivial
  | n + 1, a :: l, hl => ⟨h a, Fits.map h (by simpa using hl)⟩
  | 0, _ :: _, hl => by simp at hl
  | n + 1, [], hl => by simp at hl
/-- A cell as a literal. -/
def litOf : Value → Lit
  | .bool b => .bool b
  | .int q n => .int q n
  | .string s => .string s.data.toList
  | _ => .bool false
theorem Fits.inj : ∀ {ks : List EK} {c d : List Value}, Fits ks c → Fits ks d → c.map litOf = d.map litOf → c = d
  | [], [], [], _, _, _ => rfl
  | k :: ks, x :: c, y :: d, h, g, e => by
    simp only [List.map_cons, List.cons.injEq] at e
    rw [Fits.inj h.2 g.2 e.2]
    obtain ⟨h, -⟩ := h
    obtain ⟨g, -⟩ := g
    congr 1
    have e := e.1
    cases k <;> cases x <;> simp only [EK.fit] at h <;> cases y <;> simp only [EK.fit] at g <;> simp only [litOf, Lit.bool.injEq, Lit.int.injEq, Lit.string.injEq] at e
    · exact congrArg _ e
    · obtain ⟨e1, e2⟩ := e
      rw [e1, e2]
    · rename_i s1 s2 _
      obtain ⟨⟨l1⟩⟩ := s1
      obtain ⟨⟨l2⟩⟩ := s2
      simp only at e
      rw [e]
  | [], _ :: _, _, h, _, _ => h.elim
  | [], _, _ :: _, _, h, _ => h.elim
  | _ :: _, [], _, h, _, _ => h.elim
  | _ :: _, _, [], _, h, _ => h.elim

/-- The cells of a flat type. -/
def shapeF (P : Program) (sh : TypeId → Option (List EK)) : Nat → List Field → Option (List EK)
  | _, [] => some []
  | off, f :: fs =>
    match sh f.type with
    | none => none
    | some ks => if f.offset = off ∧ ks.length = P.cellsOf f.type ∧ f.name ≠ "_" then (shapeF P sh (off + ks.length) fs).map (ks ++ ·) else none
def shape (P : Program) : Nat → TypeId → Option (List EK)
  | 0, _ => none
  | d + 1, t =>
    match P.underlying t with
    | some .bool => some [.bool]
    | some (.int q) => some [.int q]
    | some .string => some [.str]
    | some (.array n e) =>
      match shape P d e with
      | none => none
      | some ks => if ks.length = P.cellsOf e ∧ P.cellsOf t = n * P.cellsOf e then some (List.replicate n ks).flatten else none
    | some (.struct fs) =>
      match shapeF P (shape P d) 0 fs.toList with
      | none => none
      | some ks => if ks.length = P.cellsOf t then some ks else none
    | _ => none

theorem mapM_items {P : Program} {d : Nat} {e : TypeId} {ks : List EK} {c : Nat} (hc : ks.length = c) (ih : ∀ {cs : List Value}, Fits ks cs → P.keyLits d e cs = some (cs.map litOf)) : ∀ (n i : Nat) (cs : List Value), Fits (List.replicate n ks).flatten (cs.drop (i * c)) →
    ((List.range' i n).mapM fun j => P.keyLits d e ((cs.drop (j * c)).take c)).map List.flatten = some ((cs.drop (i * c)).map litOf)
  | 0, i, cs, h => by
    have := h.length
    simp only [List.replicate_zero, List.flatten_nil, List.length_nil] at this
    rw [List.length_eq_zero_iff.1 this.symm]
    simp
  | n + 1, i, cs, h => by
    rw [List.replicate_succ, List.flatten_cons] at h
    obtain ⟨h1, h2⟩ := h.split
    rw [List.drop_drop, hc, show i * c + c = (i + 1) * c by rw [Nat.add_mul]; omega] at h2
    have g := mapM_items hc ih n (i + 1) cs h2
    rw [hc] at h1
    rw [List.range'_succ, List.mapM_cons, ih h1]
    simp only [Option.map_eq_some_iff] at g
    obtain ⟨as, ha, g⟩ := g
    simp only [Option.bind_eq_bind, Option.bind_some, ha, Option.pure_def, Option.map_some, List.flatten_cons, g, ← List.map_append, Option.some.injEq]
    congr 1
    rw [show (i + 1) * c = i * c + c by rw [Nat.add_mul]; omega, ← List.drop_drop, List.take_append_drop]

theorem mapM_fields {P : Program} {d : Nat} (ih : ∀ {t : TypeId} {ks : List EK} {cs : List Value}, shape P d t = some ks → Fits ks cs → P.keyLits d t cs = some (cs.map litOf)) : ∀ (fs : List Field) (off : Nat) (ks : List EK) (cs : List Value), shapeF P (shape P d) off fs = some ks → Fits ks (cs.drop off) →
    (fs.mapM fun f => P.keyLits d f.type ((cs.drop f.offset).take (P.cellsOf f.type))).map List.flatten = some ((cs.drop off).map litOf) ∧ ∀ f ∈ fs, f.name ≠ "_"
  | [], off, ks, cs, hs, h => by
    simp only [shapeF, Option.some.injEq] at hs
    subst hs
    have := h.length
    simp only [List.length_nil] at this
    rw [List.length_eq_zero_iff.1 this.symm]
    simp
  | f :: fs, off, ks, cs, hs, h => by
    simp only [shapeF] at hs
    cases h1 : shape P d f.type with
    | none => simp [h1] at hs
    | some k1 =>
      simp only [h1] at hs
      split at hs
      · rename_i hq
        obtain ⟨ho, hc, hn⟩ := hq
        simp only [Option.map_eq_some_iff] at hs
        obtain ⟨k2, h2, rfl⟩ := hs
        obtain ⟨f1, f2⟩ := h.split
        rw [List.drop_drop] at f2
        obtain ⟨g, gn⟩ := mapM_fields ih fs _ k2 cs h2 f2
        refine ⟨?_, fun x hx => ?_⟩
        · rw [List.mapM_cons, ho, ← hc, ih h1 f1]
          simp only [Option.map_eq_some_iff] at g
          obtain ⟨as, ha, g⟩ := g
          simp only [Option.bind_eq_bind, Option.bind_some, ha, Option.pure_def, Option.map_some, List.flatten_cons, g, ← List.map_append, Option.some.injEq]
          congr 1
          rw [← List.drop_drop, List.take_append_drop]
        · rcases List.mem_cons.1 hx with rfl | hx
          · exact hn
          · exact gn x hx
      · simp at hs

theorem keyLits_fits {P : Program} : ∀ {d : Nat} {t : TypeId} {ks : List EK} {cs : List Value}, shape P d t = some ks → Fits ks cs → P.keyLits d t cs = some (cs.map litOf)
  | 0, _, _, _, h, _ => by simp [shape] at h
  | d + 1, t, ks, cs, h, hf => by
    unfold shape at h
    unfold Program.keyLits
    cases hu : P.underlying t with
    | none => simp [hu] at h
    | some kd =>
      have one : ∀ {k : EK}, Fits [k] cs → ∃ c, cs = [c] ∧ k.fit c := by
        intro k hk
        match cs, hk with
        | [c], hk => exact ⟨c, rfl, hk.1⟩
      cases kd
      case bool =>
        simp only [hu, Option.some.injEq] at h
        subst h
        obtain ⟨c, rfl, hc⟩ := one hf
        cases c <;> simp [EK.fit] at hc
        rfl
      case int q =>
        simp only [hu, Option.some.injEq] at h
        subst h
        obtain ⟨c, rfl, hc⟩ := one hf
        cases c <;> simp [EK.fit] at hc
        obtain ⟨rfl, hc⟩ := hc
        simp only [wfk] at hc
        simp [hc, litOf]
      case string =>
        simp only [hu, Option.some.injEq] at h
        subst h
        obtain ⟨c, rfl, hc⟩ := one hf
        cases c <;> simp [EK.fit] at hc
        simp [hc, litOf]
      case array n e =>
        simp only [hu] at h
        cases h1 : shape P d e with
        | none => simp [h1] at h
        | some k1 =>
          simp only [h1] at h
          split at h
          · rename_i hq
            simp only [Option.some.injEq] at h
            subst h
            have hl := hf.length
            rw [List.length_flatten, List.map_replicate, List.sum_replicate_nat, hq.1, ← hq.2] at hl
            simp only [← hl, if_true]
            rw [List.range_eq_range']
            have := mapM_items hq.1 (keyLits_fits h1) n 0 cs (by simpa using hf)
            simpa using this
          · simp at h
      case struct fs =>
        simp only [hu] at h
        cases h1 : shapeF P (shape P d) 0 fs.toList with
        | none => simp [h1] at h
        | some k1 =>
          simp only [h1] at h
          split at h
          · rename_i hq
            simp only [Option.some.injEq] at h
            subst h
            obtain ⟨g, gn⟩ := mapM_fields (fun {t ks cs} => keyLits_fits (d := d)) fs.toList 0 k1 cs h1 (by simpa using hf)
            have : (fs.all fun x => x.name != "_") = true := by
              rw [Array.all_eq_true_iff_forall_mem]
              intro f hf
              simpa using gn f (Array.mem_toList_iff.2 hf)
            simp only [← hf.length, hq, this, and_self, if_true]
            simpa using g
          · simp at h
      all_goals (simp [hu] at h; done)

/-- Whole values are the same where their cells are. -/
theorem run_equal_flat {P : Program} {t : TypeId} {ks : List EK} {m : Nat} (hm : m ≤ 10000) (hk : P.keyTypeAt m t = true) (hs : shape P m t = some ks) (hw : (match P.underlying t with | some (.array _ _) | some (.struct _) => true | _ => false) = true) (hcs : P.cellsOf t = ks.length)
    {c d : List Value} (hc : Fits ks c) (hd : Fits ks d) {r : Bool} (hr : r = true ↔ c = d) (w : World) : (Op.equal t (.agg c.toArray) (.agg d.toArray)).run P w = .ok r w := by
  have fm : ∀ {c : List Value}, Fits ks c → (Value.agg c.toArray).formed P t = true := by
    intro c hc
    have := hc.length
    simp only [Value.formed]
    split at hw <;> simp_all
  obtain ⟨r', h1, h2⟩ := run_equalIn_deep (10000 - m) m t hk w m m (.agg c.toArray) (.agg d.toArray) _ _ (fm hc) (fm hd) (by simpa [Value.cells] using keyLits_fits hs hc) (by simpa [Value.cells] using keyLits_fits hs hd)
  have : r' = r := by
    rw [Bool.eq_iff_iff, h2, hr]
    exact ⟨hc.inj hd, fun e => by rw [e]⟩
  rw [← this, ← h1]
  unfold Op.equal
  rw [show 10000 - m + m = Op.maxDepth by simp [Op.maxDepth]; omega]

section
variable {P : Program} {t : TypeId} {x y : Operand}
theorem eql_flat {ks : List EK} {m : Nat} (hm : m ≤ 10000) (hk : P.keyTypeAt m t = true) (hs : shape P m t = some ks) (hw : (match P.underlying t with | some (.array _ _) | some (.struct _) => true | _ => false) = true) (hcs : P.cellsOf t = ks.length) (hg : P.eqGuardType P.depth t = false)
    {c d : List Value} (hc : Fits ks c) (hd : Fits ks d) {r : Bool} (hr : r = true ↔ c = d) (w : World) : (do eqGuard .eql t x y (.agg c.toArray) (.agg d.toArray); binOp .eql t (.agg c.toArray) (.agg d.toArray) : Sem Value).run P w = .ok (.bool r) w := by
  simp [eqGuard, binOp, hg, run_equal_flat hm hk hs hw hcs hc hd hr]
theorem neq_flat {ks : List EK} {m : Nat} (hm : m ≤ 10000) (hk : P.keyTypeAt m t = true) (hs : shape P m t = some ks) (hw : (match P.underlying t with | some (.array _ _) | some (.struct _) => true | _ => false) = true) (hcs : P.cellsOf t = ks.length) (hg : P.eqGuardType P.depth t = false)
    {c d : List Value} (hc : Fits ks c) (hd : Fits ks d) {r : Bool} (hr : r = true ↔ c = d) (w : World) : (do eqGuard .neq t x y (.agg c.toArray) (.agg d.toArray); binOp .neq t (.agg c.toArray) (.agg d.toArray) : Sem Value).run P w = .ok (.bool (!r)) w := by
  simp [eqGuard, binOp, hg, run_equal_flat hm hk hs hw hcs hc hd hr]
end
theorem Src.celI {I H : List It} {b mm sz : Nat} {cs : List Value} {T : TypeId} (hm : PK.cel b cs T ∈ I) (hl : cs.length = mm * sz) : Src I H (some ⟨b, 0, none⟩) mm sz cs := fun w hw =>
  ⟨hl, fun h => (by cases h), fun a h j u hj => by cases h; rw [add_none, cell_of_cel (hw.i _ hm), Nat.zero_add]; exact hj⟩
section
variable {P : Program} {L : List Oper} {ef bk : List Nat} {tq : Tq} {Q : Exit → Act → World → Prop} {N : Fm} {E : Env} {w0 : World} {S : List Nat} {I H : List It} {i : Nat} {l : Sq}
variable {d : Nat} {x y z : Operand} {ty t yt : TypeId} {pos : String} {af : Array Edge} {g : Option (Nat × Bool)} {v : Value} {k k' : IntKind} {m n : Int}
end
section
variable {P : Program} {L : List Oper} {ef bk : List Nat} {tq : Tq} {Q : Exit → Act → World → Prop} {N : Fm} {E : Env} {w0 : World} {S : List Nat} {I H : List It} {i : Nat} {l : Sq}
variable {d : Nat} {x y z : Operand} {ty t yt : TypeId} {pos : String} {af : Array Edge} {g : Option (Nat × Bool)}
/-- A load of what is known to stand there. -/
theorem RL.loadA {p : Addr} {nn : Nat} {vs : List Value} (hag : ∀ w, (isAgg t).run P w = .ok true w) (hs : ∀ w, (sizeOf t).run P w = .ok nn w) (ho : nth L i = some ⟨some d, .load t x, ty, pos, af, g⟩) (hw : wants L E ⟨some d, .load t x, ty, pos, af, g⟩ = true) (hN : Nat.blt d N.n = true)
    (hx : E.ev x = some (.pointer (some p))) (hr : Rds I H p vs) (hl : vs.length = nn) (h : RL P L ef bk tq Q l N ((d, .agg vs.toArray) :: E) w0 S I H) (ht : tq.l.contains i = false := by rfl) : RL P L ef bk tq Q (.cons i l) N E w0 S I H :=
  RL.loadN hag (by rw [hl]; exact hs) ho hw hN hx hr h ht
theorem RL.loadAT {p : Addr} {nn : Nat} {vs : List Value} (hag : ∀ w, (isAgg t).run P w = .ok true w) (hs : ∀ w, (sizeOf t).run P w = .ok nn w) (ho : nth L i = some ⟨some d, .load t x, ty, pos, af, g⟩) (hw : wants L E ⟨some d, .load t x, ty, pos, af, g⟩ = true) (hN : Nat.blt d N.n = true)
    (hx : E.ev x = some (.pointer (some p))) (hr : Rds tq.T [] p vs) (hl : vs.length = nn) (h : RL P L ef bk tq Q l N ((d, .agg vs.toArray) :: E) w0 S I H) : RL P L ef bk tq Q (.cons i l) N E w0 S I H :=
  RL.loadNT hag (by rw [hl]; exact hs) ho hw hN hx hr h
end
/-- What is told is known, whatever else there is. -/
structure RdI (I : List It) (p : Addr) (v : Value) : Prop where
  h : ∀ H, Rd I H p v
structure RdsI (I : List It) (p : Addr) (vs : List Value) : Prop where
  h : ∀ H, Rds I H p vs
theorem RdI.rd {I H : List It} {p : Addr} {v : Value} (h : RdI I p v) : Rd I H p v := h.h H
theorem RdsI.rds {I H : List It} {p : Addr} {vs : List Value} (h : RdsI I p vs) : Rds I H p vs := h.h H
/-- So many cells that are told. -/
structure RdsN (I : List It) (p : Addr) (n : Nat) (vs : List Value) : Prop where
  h : ∀ H, Rds I H p vs
  len : vs.length = n
section
variable {P : Program} {L : List Oper} {ef bk : List Nat} {tq : Tq} {Q : Exit → Act → World → Prop} {N : Fm} {E : Env} {w0 : World} {S : List Nat} {I H : List It} {i : Nat} {l : Sq}
variable {d : Nat} {x y z : Operand} {ty t yt : TypeId} {pos : String} {af : Array Edge} {g : Option (Nat × Bool)}
end

/-! ### The same, with what is found by program left out -/
section
variable {P : Program} {L : List Oper} {ef bk : List Nat} {tq : Tq} {Q : Exit → Act → World → Prop} {N : Fm} {E : Env} {w0 : World} {S : List Nat} {I H : List It} {i : Nat} {l : Sq}
variable {d : Nat} {x y z : Operand} {ty t yt : TypeId} {pos : String} {af : Array Edge} {g : Option (Nat × Bool)} {v : Value}
theorem RL.loadq {p : Addr} (hag : ∀ w, (isAgg t).run P w = .ok false w) (ho : nth L i = some ⟨some d, .load t x, ty, pos, af, g⟩) (hw : wants L E ⟨some d, .load t x, ty, pos, af, g⟩ = true) (hN : Nat.blt d N.n = true)
    (hx : E.ev x = some (.pointer (some p))) (h : RL P L ef bk tq Q l N ((d, v) :: E) w0 S I H) (hr : Rd I H p v := by first | assumption | (apply RdI.rd; assumption) | (apply Rd.get; (solve | (repeat (first | exact List.Mem.head _ | apply List.Mem.tail))); assumption) | (apply Rd.getS; (solve | (repeat (first | exact List.Mem.head _ | apply List.Mem.tail))); assumption) | (apply Rd.getO; (solve | (repeat (first | exact List.Mem.head _ | apply List.Mem.tail))); assumption) | (apply Rd.getI; (solve | (repeat (first | exact List.Mem.head _ | apply List.Mem.tail))); assumption) | (apply Rd.cel; (solve | (repeat (first | exact List.Mem.head _ | apply List.Mem.tail))); exact rfl) | (apply Rd.celI; (solve | (repeat (first | exact List.Mem.head _ | apply List.Mem.tail))); exact rfl)) (ht : tq.l.contains i = false := by rfl) : RL P L ef bk tq Q (.cons i l) N E w0 S I H := RL.load hag ho hw hN hx hr h ht
theorem RL.loadTq {p : Addr} (hag : ∀ w, (isAgg t).run P w = .ok false w) (ho : nth L i = some ⟨some d, .load t x, ty, pos, af, g⟩) (hw : wants L E ⟨some d, .load t x, ty, pos, af, g⟩ = true) (hN : Nat.blt d N.n = true)
    (hx : E.ev x = some (.pointer (some p))) (h : RL P L ef bk tq Q l N ((d, v) :: E) w0 S I H) (hr : Rd tq.T [] p v := by first | assumption | (apply RdI.rd; assumption) | (apply Rd.get; (solve | (repeat (first | exact List.Mem.head _ | apply List.Mem.tail))); assumption) | (apply Rd.getS; (solve | (repeat (first | exact List.Mem.head _ | apply List.Mem.tail))); assumption) | (apply Rd.getO; (solve | (repeat (first | exact List.Mem.head _ | apply List.Mem.tail))); assumption) | (apply Rd.getI; (solve | (repeat (first | exact List.Mem.head _ | apply List.Mem.tail))); assumption) | (apply Rd.cel; (solve | (repeat (first | exact List.Mem.head _ | apply List.Mem.tail))); exact rfl) | (apply Rd.celI; (solve | (repeat (first | exact List.Mem.head _ | apply List.Mem.tail))); exact rfl)) : RL P L ef bk tq Q (.cons i l) N E w0 S I H := RL.loadT hag ho hw hN hx hr h
theorem RL.appendq {e : TypeId} {sz bytes : Nat} {ob : Option Nat} {cap nn mm c2 : Nat} {xs news : List Value} {p2 : Option Addr} {B : List It} {vx : Value} (T : ElemT P t e sz bytes)
    (ho : nth L i = some ⟨some d, .call ⟨.builtin .append, #[x, y], #[t, t]⟩, ty, pos, af, g⟩) (hw : wants L E ⟨some d, .call ⟨.builtin .append, #[x, y], #[t, t]⟩, ty, pos, af, g⟩ = true) (hN : Nat.blt d N.n = true) (hi : ef.contains i = true) (hb : bk.contains i = true)
    (hx : E.ev x = some vx) (hy : E.ev y = some (.slice p2 mm c2))
    (h : ∀ ob' cap', (nn + mm = 0 ∨ ob'.isSome = true) → RL P L ef bk tq Q l N ((d, slO ob' (nn + mm) cap') :: E) w0 S I (PK.own ob' cap' e sz (nn + mm) (xs ++ news) :: B))
    (hp : Pick H [PK.own ob cap e sz nn xs] B ∧ vx = slO ob nn cap := by first | exact ⟨(.take (Pick.none _)), rfl⟩ | exact ⟨(.leave (.take (Pick.none _))), rfl⟩ | exact ⟨(.leave (.leave (.take (Pick.none _)))), rfl⟩ | exact ⟨(.leave (.leave (.leave (.take (Pick.none _))))), rfl⟩ | exact ⟨(.leave (.leave (.leave (.leave (.take (Pick.none _)))))), rfl⟩ | exact ⟨(.leave (.leave (.leave (.leave (.leave (.take (Pick.none _))))))), rfl⟩ | exact ⟨(.leave (.leave (.leave (.leave (.leave (.leave (.take (Pick.none _)))))))), rfl⟩ | exact ⟨(.leave (.leave (.leave (.leave (.leave (.leave (.leave (.take (Pick.none _))))))))), rfl⟩ | exact ⟨(.leave (.leave (.leave (.leave (.leave (.leave (.leave (.leave (.take (Pick.none _)))))))))), rfl⟩ | exact ⟨(.leave (.leave (.leave (.leave (.leave (.leave (.leave (.leave (.leave (.take (Pick.none _))))))))))), rfl⟩) (hs : Src I H p2 mm sz news := by first | (exact Src.cel (by (solve | (repeat (first | exact List.Mem.head _ | apply List.Mem.tail)))) (by first | rfl | assumption | (simp only [List.length_map]; assumption) | (simp; done))) | (exact Src.ownS (by (solve | (repeat (first | exact List.Mem.head _ | apply List.Mem.tail))))) | (exact Src.own (by (solve | (repeat (first | exact List.Mem.head _ | apply List.Mem.tail))))) | (exact Src.sls (by (solve | (repeat (first | exact List.Mem.head _ | apply List.Mem.tail))))) | (exact Src.celI (by (solve | (repeat (first | exact List.Mem.head _ | apply List.Mem.tail)))) (by first | rfl | assumption | (simp only [List.length_map]; assumption) | (simp; done)))) (h1 : ∀ u ∈ news, u.oneCell' = true := by first | exact one_map one8 _ | exact ones_spec rfl | exact one_map (fun _ => rfl) _ | (intro u hu; simp at hu; simp [hu, Value.oneCell'])) (hm : nn + mm ≤ maxLen := by first | omega | (simp only [maxLen]; omega)) (hby : (nn + mm) * bytes ≤ 140737488355328 := by first | omega | (simp only [maxLen]; omega)) :
    RL P L ef bk tq Q (.cons i l) N E w0 S I H := RL.appendA T ho hw hN hi hb hx hy hp hs h1 hm hby h
theorem RL.callvq {f : FuncId} {args : List Value} {C : List It} {u : Value} {xs : Array Operand} {ats : Array TypeId} (hfn : Spc P f args.toArray C [] (Is u))
    (hrun : ∀ args w, (callFunc f args).run P w = .ok (.enter f args) w) (ho : nth L i = some ⟨some d, .call ⟨.value (.func f), xs, ats⟩, ty, pos, af, g⟩) (hw : wants L E ⟨some d, .call ⟨.value (.func f), xs, ats⟩, ty, pos, af, g⟩ = true)
    (hN : Nat.blt d N.n = true) (hx : evs E xs.toList = some args)
    (h : RL P L ef bk tq Q l N ((d, u) :: E) w0 S I H) (hl : Lend I H C := by repeat (first | exact Lend.nil | (refine Lend.inI ?_ ?_; (solve | (repeat (first | exact List.Mem.head _ | apply List.Mem.tail)))) | (refine Lend.inH ?_ ?_; (solve | (repeat (first | exact List.Mem.head _ | apply List.Mem.tail)))))) (ht : tq.l.contains i = false := by rfl) : RL P L ef bk tq Q (.cons i l) N E w0 S I H := RL.callv hfn hrun ho hw hN hx hl h ht
theorem RL.callTq {f : FuncId} {args : List Value} {C : List It} {u : Value} {xs : Array Operand} {ats : Array TypeId} (hfn : Spc P f args.toArray C [] (Is u))
    (hrun : ∀ args w, (callFunc f args).run P w = .ok (.enter f args) w) (ho : nth L i = some ⟨some d, .call ⟨.value (.func f), xs, ats⟩, ty, pos, af, g⟩) (hw : wants L E ⟨some d, .call ⟨.value (.func f), xs, ats⟩, ty, pos, af, g⟩ = true)
    (hN : Nat.blt d N.n = true) (hx : evs E xs.toList = some args)
    (h : RL P L ef bk tq Q l N ((d, u) :: E) w0 S I H) (hl : Lend tq.T [] C := by repeat (first | exact Lend.nil | (refine Lend.inI ?_ ?_; (solve | (repeat (first | exact List.Mem.head _ | apply List.Mem.tail)))) | (refine Lend.inH ?_ ?_; (solve | (repeat (first | exact List.Mem.head _ | apply List.Mem.tail)))))) : RL P L ef bk tq Q (.cons i l) N E w0 S I H := RL.callvT hfn hrun ho hw hN hx hl h
theorem RL.callq {f : FuncId} {args : List Value} {A B C : List It} {R : Value → List It → List It → Prop} {xs : Array Operand} {ats : Array TypeId} (hfn : Spc P f args.toArray C A R)
    (hrun : ∀ args w, (callFunc f args).run P w = .ok (.enter f args) w) (ho : nth L i = some ⟨some d, .call ⟨.value (.func f), xs, ats⟩, ty, pos, af, g⟩) (hw : wants L E ⟨some d, .call ⟨.value (.func f), xs, ats⟩, ty, pos, af, g⟩ = true)
    (hN : Nat.blt d N.n = true) (hi : ef.contains i = true) (hx : evs E xs.toList = some args) (hb : A = [] ∨ bk.contains i = true)
    (h : ∀ v I' H', R v I' H' → RL P L ef bk tq Q l N ((d, v) :: E) w0 S (I' ++ I) (H' ++ B)) (hp : Pick H A B := by repeat (first | exact Pick.nil | apply Pick.take | apply Pick.leave)) (hl : Lend I B C := by repeat (first | exact Lend.nil | (refine Lend.inI ?_ ?_; (solve | (repeat (first | exact List.Mem.head _ | apply List.Mem.tail)))) | (refine Lend.inH ?_ ?_; (solve | (repeat (first | exact List.Mem.head _ | apply List.Mem.tail)))))) : RL P L ef bk tq Q (.cons i l) N E w0 S I H := RL.call hfn hrun ho hw hN hi hx hp hl hb h
end
end Go.PK

/-
  PK, part Z: the same steps, in fewer words: what is reckoned from the text alone is asked for once.
-/
namespace Go.PK
/-- What an operation without memory leaves. -/
def pv (E : Env) : Op → Option Value
  | .move x => E.ev x
  | .assign x => E.ev x
  | .nilCheck x => match E.ev x with
    | some (.pointer (some p)) => some (.pointer (some p))
    | _ => none
  | .extract x j => match E.ev x with
    | some (.tuple vs) => vs[j]?
    | _ => none
  | .unOp .not _ x => match E.ev x with
    | some (.bool b) => some (.bool !b)
    | _ => none
  | .pick x y z => match E.ev x with
    | some (.bool true) => E.ev y
    | some (.bool false) => E.ev z
    | _ => none
  | .binOp op _ x y _ => match E.ev x, E.ev y with
    | some (.int k m), some (.int k' n) => match decide (k = k') with
      | true => ib op k m n
      | false => none
    | _, _ => none
  | _ => none
def ps (L : List Oper) (E : Env) (N : Fm) (i : Nat) : Option (Nat × Value) :=
  match nth L i with
  | none => none
  | some o => match o.dst with
    | none => none
    | some d => match Nat.blt d N.n with
      | false => none
      | true => match wants L E o with
        | true => match pv E o.op with
          | some v => some (d, v)
          | none => none
        | false => match unwants L E o with
          | true => some (d, undef)
          | false => none
section
variable {P : Program} {L : List Oper} {ef bk : List Nat} {tq : Tq} {Q : Exit → Act → World → Prop} {N : Fm} {E : Env} {w0 : World} {S : List Nat} {I H : List It} {i : Nat} {l : Sq}
variable {d : Nat} {x y z : Operand} {ty t yt : TypeId} {pos : String} {af : Array Edge} {g : Option (Nat × Bool)} {v : Value} {k : IntKind} {m n : Int}
theorem exec_pv {o : Oper} {a : Act} (h : pv E o.op = some v) (ha : Ag N a E) (w : World) : (execOp a.eval o).run P w = .ok (.value v) w := by
  obtain ⟨dst, op, ty, pos, af, g⟩ := o
  cases op with
  | move x => simp only [execOp, ha.ev h]; rfl
  | assign x => simp only [execOp, ha.ev h]; rfl
  | nilCheck x =>
    simp only [pv] at h
    split at h
    · next p hx => cases h; simp [execOp, ha.ev hx]
    · cases h
  | extract x j =>
    simp only [pv] at h
    split at h
    · next vs hx => simp [execOp, ha.ev hx, Instr.extract, h]
    · cases h
  | unOp u t x =>
    cases u with
    | not =>
      simp only [pv] at h
      split at h
      · next b hx => cases h; simp [execOp, ha.ev hx, Op.unary]
      · cases h
    | _ => cases h
  | pick x y z =>
    simp only [pv] at h
    split at h
    · next hx => simp only [execOp, ha.ev hx, ha.ev h]; rfl
    · next hx => simp only [execOp, ha.ev hx, ha.ev h]; rfl
    · cases h
  | binOp op t x y yt =>
    simp only [pv] at h
    split at h
    · next k m k' n hx hy =>
      split at h
      · next hk =>
        have hk : k = k' := of_decide_eq_true hk
        subst hk
        exact exec_bin (ha.ev hx) (ha.ev hy) h w
      · cases h
    · cases h
  | _ => cases h
theorem RL.p {dv : Nat × Value} (h : ps L E N i = some dv) (r : RL P L ef bk tq Q l N (dv :: E) w0 S I H) : RL P L ef bk tq Q (.cons i l) N E w0 S I H := by
  unfold ps at h
  split at h
  · cases h
  · next o ho =>
    split at h
    · cases h
    · next d hd =>
      split at h
      · cases h
      · next hN =>
        split at h
        · next hw =>
          split at h
          · next v hv => cases h; exact RL.pval ho hw hd hN (fun a w ha => exec_pv hv ha w) r
          · cases h
        · split at h
          · next hw => cases h; exact RL.skip ho hw hd hN r
          · cases h
theorem RL.bx {v' : Value} (h : ps L E N i = some (d, v)) (hc : v = v') (r : RL P L ef bk tq Q l N ((d, v') :: E) w0 S I H) : RL P L ef bk tq Q (.cons i l) N E w0 S I H := by
  subst hc
  exact RL.p h r
theorem CW.rg {rid : Nat} (h : RL P L [] [] ⟨[], []⟩ Q (Sq.of (List.range L.length)) N E w0 S I H) : CW P (.region rid L.toArray false) Q N E w0 S I H := CW.region h
def pickK : List Nat → Env → Option Env
  | [], _ => some []
  | k :: ks, E => match E.get k with
    | none => none
    | some v => match pickK ks E with
      | none => none
      | some E' => some ((k, v) :: E')
theorem pickK_sub : ∀ {ks : List Nat} {E E' : Env}, pickK ks E = some E' → Sub E E'
  | [], _, _, h => by cases h; exact .nil
  | k :: ks, E, E', h => by
    unfold pickK at h
    split at h
    · cases h
    · next v hv =>
      split at h
      · cases h
      · next E2 h2 => cases h; exact .cons hv (pickK_sub h2)
theorem CW.ok {E' : Env} {c : Code} (ks : List Nat) (s : pickK ks E = some E') (h : CW P c Q N E' w0 S I H) : CW P c Q N E w0 S I H := CW.only (pickK_sub s) h
/-- A segment that may be read. -/
structure Sg (I H : List It) (p : Addr) (nn : Nat) (vs : List Value) : Prop where
  r : Rds I H p vs
  l : vs.length = nn
theorem Sg.ofN {p : Addr} {nn : Nat} {vs : List Value} (h : RdsN I p nn vs) : Sg I H p nn vs := ⟨h.h H, h.len⟩
theorem Sg.ofI {p : Addr} {nn : Nat} {vs : List Value} (h : RdsI I p vs) (hl : vs.length = nn) : Sg I H p nn vs := ⟨h.h H, hl⟩
theorem Sg.ofW {b nn : Nat} {T : TypeId} {vs : List Value} (h : PK.cel b vs T ∈ H) (hl : vs.length = nn) : Sg I H ⟨b, 0, none⟩ nn vs := ⟨Rds.all h, hl⟩
theorem RL.loadSq {p : Addr} {nn : Nat} {vs : List Value} (hag : ∀ w, (isAgg t).run P w = .ok true w) (hs : ∀ w, (sizeOf t).run P w = .ok nn w) (ho : nth L i = some ⟨some d, .load t x, ty, pos, af, g⟩) (hw : wants L E ⟨some d, .load t x, ty, pos, af, g⟩ = true) (hN : Nat.blt d N.n = true)
    (hx : E.ev x = some (.pointer (some p))) (h : RL P L ef bk tq Q l N ((d, .agg vs.toArray) :: E) w0 S I H)
    (hr : Sg I H p nn vs := by first | exact Sg.ofN (by assumption) | exact Sg.mk (by assumption) (by first | rfl | assumption | (simp only [List.length_map]; assumption) | (simp; done)) | exact Sg.ofI (by assumption) (by first | rfl | assumption | (simp only [List.length_map]; assumption) | (simp; done)) | exact Sg.ofW (by (solve | (repeat (first | exact List.Mem.head _ | apply List.Mem.tail)))) (by first | rfl | assumption | (simp only [List.length_map]; assumption) | (simp; done)))
    (ht : tq.l.contains i = false := by rfl) : RL P L ef bk tq Q (.cons i l) N E w0 S I H := RL.loadA hag hs ho hw hN hx hr.r hr.l h ht
theorem RL.loadSTq {p : Addr} {nn : Nat} {vs : List Value} (hag : ∀ w, (isAgg t).run P w = .ok true w) (hs : ∀ w, (sizeOf t).run P w = .ok nn w) (ho : nth L i = some ⟨some d, .load t x, ty, pos, af, g⟩) (hw : wants L E ⟨some d, .load t x, ty, pos, af, g⟩ = true) (hN : Nat.blt d N.n = true)
    (hx : E.ev x = some (.pointer (some p))) (h : RL P L ef bk tq Q l N ((d, .agg vs.toArray) :: E) w0 S I H)
    (hr : Sg tq.T [] p nn vs := by first | exact Sg.ofN (by assumption) | exact Sg.mk (by assumption) (by first | rfl | assumption | (simp only [List.length_map]; assumption) | (simp; done)) | exact Sg.ofI (by assumption) (by first | rfl | assumption | (simp only [List.length_map]; assumption) | (simp; done))) : RL P L ef bk tq Q (.cons i l) N E w0 S I H := RL.loadAT hag hs ho hw hN hx hr.r hr.l h
theorem RL.storeWq {b nn : Nat} {cs vs : List Value} {T : TypeId} {H' : List It} (hs : ∀ w, (sizeOf t).run P w = .ok nn w) (ho : nth L i = some ⟨none, .store t x y, ty, pos, af, g⟩) (hw : wants L E ⟨none, .store t x y, ty, pos, af, g⟩ = true)
    (hi : ef.contains i = true) (hb : bk.contains i = true) (hx : E.ev x = some (.pointer (some ⟨b, 0, none⟩))) (hy : E.ev y = some v) (hc : v.cells = vs.toArray) (h : RL P L ef bk tq Q l N E w0 S I H')
    (h1 : ones vs = true := by first | rfl | exact ones_map one8 _ | exact ones_map (fun _ => rfl) _) (hu : Upd H (PK.cel b cs T) (PK.cel b vs T) H' := by repeat (first | exact Upd.here | apply Upd.there))
    (hv : vs.length = nn := by first | rfl | assumption | (simp only [List.length_map]; assumption) | (simp; done)) (hl : cs.length = nn := by first | rfl | assumption | (simp only [List.length_map]; assumption) | (simp; done)) : RL P L ef bk tq Q (.cons i l) N E w0 S I H :=
  RL.storeW hs ho hw hi hb hx hy hc h1 hu hv hl h
theorem sK {E' : Env} (ks : List Nat) (s : pickK ks E = some E') : Sub E E' := pickK_sub s
end
end Go.PK
