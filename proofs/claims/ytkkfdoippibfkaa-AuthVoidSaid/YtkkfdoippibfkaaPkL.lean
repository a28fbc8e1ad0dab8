/-
  PK, part L: readers: what a law's arguments are in memory, by type.
-/
import Derived.Test.YtkkfdoippibfkaaPkK
import Derived.ChangeShapes
import Derived.ChangeArms
import Derived.Deep.Slices
import Derived.OpenShut
import Derived.ShutString
import Derived.ChangeOld
import Derived.Below
import Derived.Carry
import Derived.ProofKit
import Derived.WalkKit
import Derived.JoinedOf
namespace Go.PK
open Go.ChangeShapes Go.WideShapes

section
variable {P : Program}

/-- A reader of a type: what its cells are, what of it lies in memory. -/
structure Rdr (P : Program) (t : TypeId) (α : Type) where
  cells : α → List Value
  its : α → List It
  ok : α → Prop
  val : α → Value
  len : ∀ a, ok a → (cells a).length = P.cellsOf t
  spec : ∀ {H : Type} {enc : TypeId × Value → H} {w : World} {base : Nat} {held : Bool} {fuel : Nat} {cs : List Value} {x : DataW H × List MemPlace},
    DataW.trod enc P w base (fun _ => true) held fuel t cs = some x → ∃ a, cs = cells a ∧ ok a ∧ ∀ y ∈ its a, y.A w
  vspec : ∀ {a : α} {v : Value} {w : World} {r : Reach} {base : Nat}, Value.okWide P w r base t v → v.cells.toList = cells a → v = val a

theorem Rdr.arg {t : TypeId} {α : Type} (R : Rdr P t α) {H : Type} {enc : TypeId × Value → H} {w : World} {r : Reach} {base b2 : Nat} {held : Bool} {v : Value} {d : DataW H} {ps : List MemPlace}
    (hv : Value.okWide P w r b2 t v) (h : DataW.Trod enc P w base (fun _ => true) held t v d ps) : ∃ a, v = R.val a ∧ R.ok a ∧ ∀ y ∈ R.its a, y.A w := by
  obtain ⟨fuel, hf⟩ := h
  obtain ⟨a, h1, h2, h3⟩ := R.spec hf
  exact ⟨a, R.vspec hv h1, h2, h3⟩

theorem cells_single {v c : Value} (hn : ∀ cs, v ≠ .agg cs) (h : v.cells.toList = [c]) : v = c := by
  cases v <;> simp_all [Value.cells]

theorem okWide_notagg {t : TypeId} {v : Value} {w : World} {r : Reach} {b : Nat} (h : Value.okWide P w r b t v) (h1 : ∀ fs, P.underlying t ≠ some (.struct fs)) (h2 : ∀ n e, P.underlying t ≠ some (.array n e)) : ∀ cs, v ≠ .agg cs := by
  rintro cs rfl
  unfold Value.okWide at h
  split at h
  · exact absurd (by assumption) (h1 _)
  · exact absurd (by assumption) (h2 _ _)
  · unfold Cell.okWide at h
    split at h <;> simp_all [Cell.ok]

theorem okWide_isagg {t : TypeId} {v : Value} {w : World} {r : Reach} {b : Nat} (h : Value.okWide P w r b t v) (h1 : (∃ fs, P.underlying t = some (.struct fs)) ∨ ∃ n e, P.underlying t = some (.array n e)) : ∃ cs, v = .agg cs := by
  unfold Value.okWide at h
  split at h
  · obtain ⟨cs, h, _⟩ := h; exact ⟨cs, h⟩
  · obtain ⟨cs, h, _⟩ := h; exact ⟨cs, h⟩
  · rename_i n1 n2
    rcases h1 with ⟨fs, h1⟩ | ⟨n, e, h1⟩
    · exact absurd h1 (n1 fs)
    · exact absurd h1 (n2 n e)

def wfk (k : IntKind) (n : Int) : Prop := (Lit.int k n).wf = true
theorem wfk_bounds {k : IntKind} {n : Int} (h : wfk k n) : k.min ≤ n ∧ n ≤ k.max := by
  simpa [wfk, Lit.wf, Bool.and_eq_true, decide_eq_true_eq] using h

noncomputable def Rdr.int {t : TypeId} (k : IntKind) (hu : P.underlying t = some (.int k)) (hc : P.cellsOf t = 1) : Rdr P t Int where
  cells n := [.int k n]
  its _ := []
  ok n := wfk k n
  val n := .int k n
  len _ _ := by simp [hc]
  spec h := by
    obtain ⟨n, rfl, _, hw⟩ := DataW.trod_int hu h
    exact ⟨n, rfl, hw, by simp⟩
  vspec hv h := cells_single (okWide_notagg hv (by simp [hu]) (by simp [hu])) h

noncomputable def Rdr.bool {t : TypeId} (hu : P.underlying t = some .bool) (hc : P.cellsOf t = 1) : Rdr P t Bool where
  cells n := [.bool n]
  its _ := []
  ok _ := True
  val n := .bool n
  len _ _ := by simp [hc]
  spec h := by
    obtain ⟨n, rfl, _⟩ := DataW.trod_bool hu h
    exact ⟨n, rfl, trivial, by simp⟩
  vspec hv h := cells_single (okWide_notagg hv (by simp [hu]) (by simp [hu])) h

noncomputable def Rdr.string {t : TypeId} (hu : P.underlying t = some .string) (hc : P.cellsOf t = 1) : Rdr P t ByteArray where
  cells s := [.string s]
  its _ := []
  ok s := s.size ≤ maxLen
  val s := .string s
  len _ _ := by simp [hc]
  spec h := by
    obtain ⟨n, rfl, _, hl⟩ := DataW.trod_string hu h
    exact ⟨n, rfl, hl, by simp⟩
  vspec hv h := cells_single (okWide_notagg hv (by simp [hu]) (by simp [hu])) h

/-- The like, its things named otherwise. -/
noncomputable def Rdr.map {t : TypeId} {α β : Type} (R : Rdr P t α) (cells : β → List Value) (its : β → List It) (ok : β → Prop) (val : β → Value)
    (h : ∀ a, R.ok a → ∃ b, cells b = R.cells a ∧ ok b ∧ (∀ y ∈ its b, y ∈ R.its a)) (hl : ∀ b, ok b → (cells b).length = P.cellsOf t)
    (hv : ∀ {b : β} {v : Value} {w : World} {r : Reach} {base : Nat}, Value.okWide P w r base t v → v.cells.toList = cells b → v = val b) : Rdr P t β where
  cells := cells
  its := its
  ok := ok
  val := val
  len := hl
  spec hx := by
    obtain ⟨a, rfl, h2, h3⟩ := R.spec hx
    obtain ⟨b, h4, h5, h6⟩ := h a h2
    exact ⟨b, h4.symm, h5, fun y hy => h3 y (h6 y hy)⟩
  vspec := hv

/-- A byte, a word of 32 bits. -/
noncomputable def Rdr.u8 {t : TypeId} (hu : P.underlying t = some (.int .u8)) (hc : P.cellsOf t = 1) : Rdr P t B8 :=
  (Rdr.int .u8 hu hc).map (fun b => [U8 b]) (fun _ => []) (fun _ => True) U8
    (fun n hn => by
      have := wfk_bounds (show wfk .u8 n from hn)
      simp [IntKind.min, IntKind.max, IntKind.signed, IntKind.bits] at this
      refine ⟨BitVec.ofInt 8 n, ?_, trivial, by simp⟩
      simp only [Rdr.int, U8, BitVec.toNat_ofInt]
      congr 2; omega)
    (fun _ _ => by simp [hc]) (fun hv h => cells_single (okWide_notagg hv (by simp [hu]) (by simp [hu])) h)
noncomputable def Rdr.u32 {t : TypeId} (hu : P.underlying t = some (.int .u32)) (hc : P.cellsOf t = 1) : Rdr P t B32 :=
  (Rdr.int .u32 hu hc).map (fun b => [U32 b]) (fun _ => []) (fun _ => True) U32
    (fun n hn => by
      have := wfk_bounds (show wfk .u32 n from hn)
      simp [IntKind.min, IntKind.max, IntKind.signed, IntKind.bits] at this
      refine ⟨BitVec.ofInt 32 n, ?_, trivial, by simp⟩
      simp only [Rdr.int, U32, BitVec.toNat_ofInt]
      congr 2; omega)
    (fun _ _ => by simp [hc]) (fun hv h => cells_single (okWide_notagg hv (by simp [hu]) (by simp [hu])) h)

/-- A slice that came in. -/
structure Sl (α : Type) where
  p : Option Addr
  c : Nat
  l : List α

theorem length_flat {α β : Type} {f : α → List β} {n : Nat} {l : List α} (h : ∀ a ∈ l, (f a).length = n) : (l.flatMap f).length = l.length * n := by
  induction l with
  | nil => simp
  | cons a l ih =>
    rw [List.flatMap_cons, List.length_append, h a (by simp), ih (fun a ha => h a (by simp [ha])), List.length_cons, Nat.add_mul, Nat.one_mul, Nat.add_comm]

theorem get_flat {α β : Type} {f : α → List β} {n : Nat} : ∀ {l : List α} (_ : ∀ a ∈ l, (f a).length = n) {i j : Nat} {a : α} (_ : l[i]? = some a) (_ : j < n), (l.flatMap f)[i * n + j]? = (f a)[j]?
  | [], _, i, j, a, ha, _ => by simp at ha
  | b :: l, h, 0, j, a, ha, hj => by
    simp only [List.getElem?_cons_zero, Option.some.injEq] at ha
    subst ha
    rw [List.flatMap_cons, Nat.zero_mul, Nat.zero_add, List.getElem?_append_left (by rw [h b (by simp)]; exact hj)]
  | b :: l, h, i + 1, j, a, ha, hj => by
    simp only [List.getElem?_cons_succ] at ha
    have hb := h b (by simp)
    rw [List.flatMap_cons, Nat.add_mul, Nat.one_mul, List.getElem?_append_right (by rw [hb]; omega), hb, show i * n + n + j - n = i * n + j by omega]
    exact get_flat (fun a ha => h a (by simp [ha])) ha hj

/-- The list of all that 'p' gives, one by one. -/
theorem choose_list {α : Type} {p : Nat → α → Prop} : ∀ {n : Nat} (_ : ∀ i, i < n → ∃ x, p i x), ∃ l : List α, l.length = n ∧ ∀ i a, l[i]? = some a → p i a
  | 0, _ => ⟨[], rfl, by simp⟩
  | n + 1, h => by
    obtain ⟨l, h1, h2⟩ := choose_list (n := n) (fun i hi => h i (by omega))
    obtain ⟨x, hx⟩ := h n (by omega)
    refine ⟨l ++ [x], by simp [h1], fun i a ha => ?_⟩
    rw [List.getElem?_append] at ha
    split at ha
    · exact h2 i a ha
    · rename_i hi
      have hi' : i - l.length < 1 := by
        have := (List.getElem?_eq_some_iff.1 ha).1; simpa using this
      have e : i = n := by omega
      subst e
      simp [h1] at ha
      exact ha ▸ hx

noncomputable def Rdr.slice {t e : TypeId} {α : Type} (R : Rdr P e α) (sz : Nat) (hu : P.underlying t = some (.slice e)) (hc : P.cellsOf t = 1) (hs : P.cellsOf e = sz) (hpos : 0 < sz) (cs : List α → List Value) (hcs : ∀ l, cs l = l.flatMap R.cells) : Rdr P t (Sl α) where
  cells s := [.slice s.p s.l.length s.c]
  its s := sls s.p sz s.l.length (cs s.l) :: s.l.flatMap R.its
  ok s := s.l.length ≤ s.c ∧ s.c ≤ maxLen ∧ (s.p = none → s.l = [] ∧ s.c = 0) ∧ ∀ a ∈ s.l, R.ok a
  val s := .slice s.p s.l.length s.c
  len _ _ := by simp [hc]
  spec {H enc w base held fuel cells x} h := by
    rcases Go.Deep.open_slice hu h with ⟨rfl, _⟩ | ⟨a, len, cap, m, n, D, Pl, rfl, _, hl, hm, hmm, _, hx⟩
    · exact ⟨⟨none, 0, []⟩, rfl, ⟨Nat.le_refl _, by simp, by simp, by simp⟩, fun y hy => by
        simp only [List.flatMap_nil, List.mem_singleton] at hy
        subst hy
        exact ⟨by rw [hcs]; simp, rfl⟩⟩
    · simp only [if_true] at hmm
      subst hmm
      obtain ⟨l, h1, h2⟩ := choose_list (n := len) (p := fun i a' => w.cells? base (a.add (i * P.cellsOf e)) (P.cellsOf e) = some (R.cells a') ∧ R.ok a' ∧ ∀ y ∈ R.its a', y.A w) (fun i hi => by
        obtain ⟨cs', g1, g2⟩ := hx i (by omega)
        obtain ⟨a', rfl, g3, g4⟩ := R.spec g2
        exact ⟨a', g1, g3, g4⟩)
      have hok : ∀ a' ∈ l, R.ok a' := fun a' ha => by
        obtain ⟨i, hi⟩ := List.getElem?_of_mem ha
        exact (h2 i a' hi).2.1
      have hln : ∀ a' ∈ l, (R.cells a').length = sz := fun a' ha => by rw [R.len a' (hok a' ha), hs]
      refine ⟨⟨some a, m, l⟩, by simp [h1], ⟨by simp only [h1]; omega, hm, by simp, hok⟩, fun y hy => ?_⟩
      rcases List.mem_cons.1 hy with rfl | hy
      · refine ⟨by rw [hcs]; exact length_flat hln, fun hn => ?_, fun j u hj => ?_⟩
        · -- the block is there
          have hlen : l.length ≠ 0 := hn
          · obtain ⟨a', ha'⟩ : ∃ a', l[0]? = some a' := ⟨l[0]'(by omega), by simp⟩
            obtain ⟨g1, _⟩ := h2 0 a' ha'
            obtain ⟨_, g2, g3⟩ := World.cells?_some g1
            have := g3 0 (by omega)
            have hne : (R.cells a')[0]? ≠ none := by
              rw [Ne, List.getElem?_eq_none_iff]; rw [hln a' (List.mem_of_getElem? ha')]; omega
            rw [Nat.zero_mul, show (a.add 0).add 0 = a by simp [Addr.add]] at this
            rw [← this] at hne
            unfold World.cell? at hne
            by_cases hb : a.block < w.heap.size
            · exact hb
            · rw [Array.getElem?_eq_none (by omega)] at hne
              exact absurd rfl hne
        · rw [hcs] at hj
          have hjl : j < l.length * sz := by
            have := (List.getElem?_eq_some_iff.1 hj).1
            rwa [length_flat hln] at this
          have hsz : 0 < sz := Nat.pos_of_ne_zero (fun h => by simp [h] at hjl)
          have hi : j / sz < l.length := Nat.div_lt_of_lt_mul (by rw [Nat.mul_comm]; exact hjl)
          have ha' : l[j / sz]? = some l[j / sz] := by simp [hi]
          obtain ⟨g1, _⟩ := h2 _ _ ha'
          obtain ⟨_, g2, g3⟩ := World.cells?_some g1
          have hjm : j % sz < sz := Nat.mod_lt _ hsz
          have := g3 (j % sz) (by omega)
          have he : j / sz * sz + j % sz = j := by rw [Nat.mul_comm]; exact Nat.div_add_mod j sz
          have hg := get_flat hln ha' hjm
          rw [he, hj] at hg
          rw [hs, add_add, he, ← hg] at this
          exact this
      · obtain ⟨a', ha', hy⟩ := List.mem_flatMap.1 hy
        obtain ⟨i, hi⟩ := List.getElem?_of_mem ha'
        exact (h2 i a' hi).2.2 y hy
  vspec hv h := cells_single (okWide_notagg hv (by simp [hu]) (by simp [hu])) h

/-- Some fields of a struct, from a place on. -/
structure Flds (P : Program) (fs : List Field) (off tot : Nat) (α : Type) where
  cells : α → List Value
  its : α → List It
  ok : α → Prop
  len : ∀ a, ok a → (cells a).length = tot - off
  spec : ∀ {H : Type} {enc : TypeId × Value → H} {w : World} {base : Nat} {held : Bool} {cs : List Value}, cs.length = tot →
    (∀ f ∈ fs, ∃ n x, DataW.trod enc P w base (fun _ => true) held n f.type ((cs.drop f.offset).take (P.cellsOf f.type)) = some x) → ∃ a, cs.drop off = cells a ∧ ok a ∧ ∀ y ∈ its a, y.A w

noncomputable def Flds.nil {tot : Nat} : Flds P [] tot tot Unit where
  cells _ := []
  its _ := []
  ok _ := True
  len _ _ := by simp
  spec hl _ := ⟨(), by rw [List.drop_eq_nil_iff]; omega, trivial, by simp⟩

noncomputable def Flds.cons {f : Field} {fs : List Field} {off k tot : Nat} {α β : Type} (R : Rdr P f.type α) (ho : f.offset = off) (hk : P.cellsOf f.type = k) (hle : off + k ≤ tot) (F : Flds P fs (off + k) tot β) : Flds P (f :: fs) off tot (α × β) where
  cells x := R.cells x.1 ++ F.cells x.2
  its x := R.its x.1 ++ F.its x.2
  ok x := R.ok x.1 ∧ F.ok x.2
  len x h := by rw [List.length_append, R.len _ h.1, F.len _ h.2, hk]; omega
  spec {H enc w base held cs} hl h := by
    obtain ⟨n, x, hx⟩ := h f (by simp)
    obtain ⟨a, h1, h2, h3⟩ := R.spec hx
    obtain ⟨b, g1, g2, g3⟩ := F.spec hl (fun f' hf' => h f' (by simp [hf']))
    refine ⟨(a, b), ?_, ⟨h2, g2⟩, fun y hy => ?_⟩
    · rw [← g1, ← h1, ho, hk, ← List.drop_drop, List.take_append_drop]
    · rcases List.mem_append.1 hy with hy | hy
      · exact h3 y hy
      · exact g3 y hy

/-- A struct whose fields are read one by one; 'γ': its own name. -/
noncomputable def Rdr.struct {t : TypeId} {fs : Array Field} {tot : Nat} {α γ : Type} (hu : P.underlying t = some (.struct fs)) (hc : P.cellsOf t = tot) (F : Flds P fs.toList 0 tot α) (cells : γ → List Value) (its : γ → List It) (ok : γ → Prop)
    (h : ∀ a, F.ok a → ∃ g, cells g = F.cells a ∧ ok g ∧ ∀ y ∈ its g, y ∈ F.its a) (hl : ∀ g, ok g → (cells g).length = tot) : Rdr P t γ where
  cells := cells
  its := its
  ok := ok
  val g := .agg (cells g).toArray
  len g hg := by rw [hl g hg, hc]
  spec {H enc w base held fuel cs x} hx := by
    obtain ⟨xs, n, _, _, h2, h3, h4⟩ := DataW.trod_struct hu hx
    obtain ⟨a, g1, g2, g3⟩ := F.spec (enc := enc) (w := w) (base := base) (held := held) (cs := cs) (by rw [h2, hc]) (fun f hf => by
      obtain ⟨i, hi⟩ := List.getElem?_of_mem hf
      rw [Array.getElem?_toList] at hi
      have hlt : i < fs.size := (Array.getElem?_eq_some_iff.1 hi).1
      exact ⟨n, xs[i]'(by omega), by rw [h4 i f hi]; simp⟩)
    obtain ⟨g, k1, k2, k3⟩ := h a g2
    exact ⟨g, by rw [k1, ← g1, List.drop_zero], k2, fun y hy => g3 y (k3 y hy)⟩
  vspec hv h := by
    obtain ⟨cs, rfl⟩ := okWide_isagg hv (.inl ⟨_, hu⟩)
    rw [← h]; simp [Value.cells]

theorem trod_array {H : Type} {enc : TypeId × Value → H} {w : World} {base fuel : Nat} {sp : Nat → Bool} {held : Bool} {t e : TypeId} {k : Nat} {cs : List Value} {x : DataW H × List MemPlace} (hu : P.underlying t = some (.array k e)) (h : DataW.trod enc P w base sp held fuel t cs = some x) :
    ∃ n, cs.length = P.cellsOf t ∧ ∀ i, i < k → ∃ y, DataW.trod enc P w base sp held n e ((cs.drop (i * P.cellsOf e)).take (P.cellsOf e)) = some y := by
  cases fuel with
  | zero => simp [DataW.trod] at h
  | succ n =>
    unfold DataW.trod at h
    rw [hu] at h
    simp only at h
    split at h
    · rename_i hl
      refine ⟨n, hl, fun i hi => ?_⟩
      rw [Option.map_eq_some_iff] at h
      obtain ⟨ys, hy, _⟩ := h
      have : ∀ {l : List Nat} {ys : List (DataW H × List MemPlace)} {f : Nat → Option (DataW H × List MemPlace)}, l.mapM f = some ys → ∀ i ∈ l, ∃ y, f i = some y := by
        intro l
        induction l with
        | nil => intro ys f _ i hi; cases hi
        | cons a l ih =>
          intro ys f h i hi
          rw [List.mapM_cons] at h
          cases hfa : f a with
          | none => simp [hfa] at h
          | some y =>
            simp only [hfa, Option.bind_eq_bind, Option.bind_some] at h
            cases hl : l.mapM f with
            | none => simp [hl] at h
            | some zs =>
              rcases List.mem_cons.1 hi with rfl | hi
              · exact ⟨y, hfa⟩
              · exact ih hl i hi
      exact this hy i (by simpa using hi)
    · cases h

/-- An array. -/
noncomputable def Rdr.array {t e : TypeId} {α : Type} (R : Rdr P e α) (n sz : Nat) (hu : P.underlying t = some (.array n e)) (hs : P.cellsOf e = sz) (hc : P.cellsOf t = n * sz) (cs : List α → List Value) (hcs : ∀ l, cs l = l.flatMap R.cells) : Rdr P t (List α) where
  cells l := cs l
  its l := l.flatMap R.its
  ok l := l.length = n ∧ ∀ a ∈ l, R.ok a
  val l := .agg (cs l).toArray
  len l h := by rw [hcs, hc, ← h.1]; exact length_flat (fun a ha => by rw [R.len a (h.2 a ha), hs])
  spec {H enc w base held fuel cells x} hx := by
    obtain ⟨m, h1, h2⟩ := trod_array hu hx
    obtain ⟨l, g1, g2⟩ := choose_list (n := n) (p := fun i a => (cells.drop (i * sz)).take sz = R.cells a ∧ R.ok a ∧ ∀ y ∈ R.its a, y.A w) (fun i hi => by
      obtain ⟨y, hy⟩ := h2 i hi
      rw [hs] at hy
      obtain ⟨a, k1, k2, k3⟩ := R.spec hy
      exact ⟨a, k1, k2, k3⟩)
    have hok : ∀ a ∈ l, R.ok a := fun a ha => by
      obtain ⟨i, hi⟩ := List.getElem?_of_mem ha
      exact (g2 i a hi).2.1
    have hln : ∀ a ∈ l, (R.cells a).length = sz := fun a ha => by rw [R.len a (hok a ha), hs]
    refine ⟨l, ?_, ⟨g1, hok⟩, fun y hy => ?_⟩
    · rw [hcs]
      apply List.ext_getElem?
      intro j
      by_cases hj : j < n * sz
      · have hsz : 0 < sz := Nat.pos_of_ne_zero (fun h => by simp [h] at hj)
        have hi : j / sz < l.length := Nat.div_lt_of_lt_mul (by rw [g1, Nat.mul_comm]; exact hj)
        have ha : l[j / sz]? = some l[j / sz] := by simp [hi]
        have hjm : j % sz < sz := Nat.mod_lt _ hsz
        have he : j / sz * sz + j % sz = j := by rw [Nat.mul_comm]; exact Nat.div_add_mod j sz
        have hg := get_flat hln ha hjm
        rw [he] at hg
        rw [hg, ← (g2 _ _ ha).1, List.getElem?_take, if_pos hjm, List.getElem?_drop, he]
      · rw [List.getElem?_eq_none (by rw [h1, hc]; omega), List.getElem?_eq_none (by rw [length_flat hln, g1]; omega)]
    · obtain ⟨a, ha, hy⟩ := List.mem_flatMap.1 hy
      obtain ⟨i, hi⟩ := List.getElem?_of_mem ha
      exact (g2 i a hi).2.2 y hy
  vspec hv h := by
    obtain ⟨cs', rfl⟩ := okWide_isagg hv (.inr ⟨_, _, hu⟩)
    rw [← h]; simp [Value.cells]

theorem flat_one {α β : Type} (f : α → β) (l : List α) : l.map f = l.flatMap (fun a => [f a]) := by
  induction l <;> simp_all

/-- What a law's walk hands back, as its row wants it. -/
theorem Spc.lawI {f : FuncId} {args : Array Value} {u : Value} {w : World} {I : List It} (h : Spc P f args I [] (Is u)) (hw : ∀ y ∈ I, y.A w) : Calls P f args w (fun e w' => e = .returned u ∧ RowKit.Below w.heap.size w w') :=
  h.law ⟨hw, by simp, by simp, by simp⟩
end
/-- What a row wants of the program, one by one. -/
theorem joined_of {P : Program} {f : FuncId} {fn : Func} {s : ChangeSpec} {c : OpenClaim} (k1 : c.wf (OpenSpec.ofChange s) = true) (k2 : laidOutB P = true) (k3 : mapsRowed P = true) (k4 : fn.params.all (P.readableRec ·) = true) (k5 : namedTie P c.named s.vars = true) (k6 : (c.stops == []) = true) (k7 : (P.stops == []) = true) (k8 : (c.knobs == []) = true) (k9 : (P.stopKnobs == []) = true) (k10 : (c.inPlace == P.inPlace f) = true) (k11 : (c.unfollowed == P.unfollowed f) = true) (k12 : (c.recurses == P.recurses f) = true) (k13 : (c.named == P.varsNamed f) = true) (k14 : (c.maps == (fn.params.toList ++ s.plain.varTypes P).any (P.mapsRec ·)) = true) (k15 : (c.ifaces == (fn.params.toList ++ s.plain.varTypes P).any (P.ifacesRec ·)) = true) (k16 : (c.mapsOut == P.mapsAmong fn.resultTypes.toList) = true) (k17 : (c.loops == (fn.params.toList ++ s.plain.varTypes P).any (P.loopsFrom ·)) = true) (k18 : (c.wideKeys == (fn.params.toList ++ s.plain.varTypes P ++ fn.resultTypes.toList).any (P.wideKeysFrom ·)) = true) (k19 : s.vars.all (P.varReadable ·) = true) (k20 : fn.resultTypes.all (fun t => P.readableRec t && decide (t < P.types.size)) = true) (k21 : (c.ifacesOut == fn.resultTypes.toList.any (P.ifacesRec ·)) = true) (k22 : (c.loopsOut == fn.resultTypes.toList.any (P.loopsFrom ·)) = true) (k23 : (c.plainKeys == P.plainKeys) = true) (k24 : c.shortTexts.isNone = true) (k25 : P.stopsHeard = true) (k26 : P.mayEnter = true) (k27 : (c.lifted == P.liftsFinal) = true) (k28 : (P.make == some c.make) = true) (k29 : (c.kinds == (if c.domain.isEmpty then [] else fn.params.toList.map fun t => match P.underlying t with | some (.int k) => some k | _ => none)) = true) (k30 : (c.pinned == c.pinnedBy) = true) (k31 : (c.veiled == (fn.params.toList ++ s.plain.varTypes P ++ fn.resultTypes.toList).any (P.veiledRec ·)) = true) (k32 : c.veiledFits P fn.params.toList (fn.params.toList ++ s.plain.varTypes P ++ fn.resultTypes.toList) = true) : joinedFacts P f fn s c = true := by
  unfold joinedFacts
  simp only [Bool.and_eq_true]
  exact ⟨⟨⟨⟨⟨⟨⟨⟨⟨⟨⟨⟨⟨⟨⟨⟨⟨⟨⟨⟨⟨⟨⟨⟨⟨⟨⟨⟨⟨⟨⟨k1, k2⟩, k3⟩, k4⟩, k5⟩, k6⟩, k7⟩, k8⟩, k9⟩, k10⟩, k11⟩, k12⟩, k13⟩, k14⟩, k15⟩, k16⟩, k17⟩, k18⟩, k19⟩, k20⟩, k21⟩, k22⟩, k23⟩, k24⟩, k25⟩, k26⟩, k27⟩, k28⟩, k29⟩, k30⟩, k31⟩, k32⟩
end Go.PK
