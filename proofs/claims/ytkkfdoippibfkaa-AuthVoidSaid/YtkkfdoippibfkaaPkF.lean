/-
  PK, part F: slices.
-/
import Derived.Test.YtkkfdoippibfkaaPkE
namespace Go.PK

/-- A slice's value: nil, or from the head of a block on. -/
abbrev slO (ob : Option Nat) (n cap : Nat) : Value := .slice (ob.map fun b => ⟨b, 0, none⟩) n cap

/-- A slice that is one's own: its first cells. -/
def own (ob : Option Nat) (cap : Nat) (e : TypeId) (sz n : Nat) (xs : List Value) : It where
  bs := ob.toList
  A w := xs.length = n * sz ∧ match ob with
    | none => n = 0 ∧ cap = 0
    | some b => n ≤ cap ∧ cap ≤ maxLen ∧ ∃ rest : List Value, (∃ f : Nat × Nat, w.heap[b]? = some (.cells (xs ++ rest).toArray e f) ∧ (f = (0, 0) ∨ cap * sz ≤ f.1)) ∧ (xs ++ rest).length = cap * sz
  fr w w' h hA := by
    cases ob with
    | none => exact hA
    | some b =>
      obtain ⟨h1, h2, h3, rest, ⟨f, h4, h6⟩, h5⟩ := hA
      exact ⟨h1, h2, h3, rest, ⟨f, by rw [h b (by simp)]; exact h4, h6⟩, h5⟩
  lt w hA c hc := by
    cases ob with
    | none => simp at hc
    | some b =>
      obtain ⟨h1, h2, h3, rest, ⟨f, h4, h6⟩, h5⟩ := hA
      have : c = b := by simpa using hc
      subst this
      exact (Array.getElem?_eq_some_iff.1 h4).1

/-- A slice that one is told of: its cells. -/
def sls (p : Option Addr) (sz n : Nat) (xs : List Value) : It where
  bs := if n = 0 then [] else p.toList.map (·.block)
  A w := xs.length = n * sz ∧ match p with
    | none => n = 0
    | some a => (n ≠ 0 → a.block < w.heap.size) ∧ ∀ j u, xs[j]? = some u → w.cell? (a.add j) = some u
  fr w w' h hA := by
    cases p with
    | none => exact hA
    | some a =>
      obtain ⟨h1, h2, h3⟩ := hA
      by_cases hn : n = 0
      · subst hn
        have : xs = [] := List.eq_nil_of_length_eq_zero (by simpa using h1)
        subst this
        exact ⟨h1, fun h => absurd rfl h, fun j u hj => by simp at hj⟩
      · have hb := h a.block (by simp [hn])
        have h2' := h2 hn
        refine ⟨h1, fun _ => ?_, fun j u hj => ?_⟩
        · rw [Array.getElem?_eq_getElem h2'] at hb
          exact (Array.getElem?_eq_some_iff.1 hb).1
        · have := h3 j u hj
          have hbl : (a.add j).block = a.block := by unfold Addr.add; split <;> rfl
          simp only [World.cell?, hbl] at this ⊢
          rw [hb]; exact this
  lt w hA c hc := by
    by_cases hn : n = 0
    · simp [hn] at hc
    · cases p with
      | none => simp [hn] at hc
      | some a =>
        have : c = a.block := by simpa [hn] using hc
        subst this
        exact hA.2.1 hn

theorem sls_nil {p : Option Addr} {sz n : Nat} {xs : List Value} {w : World} (h : (sls p sz n xs).A w) (hp : p = none) : n = 0 := by
  subst hp; exact h.2

theorem own_sls {ob : Option Nat} {cap sz n : Nat} {e : TypeId} {xs : List Value} {w : World} (h : (own ob cap e sz n xs).A w) : (sls (ob.map fun b => ⟨b, 0, none⟩) sz n xs).A w := by
  cases ob with
  | none => exact ⟨h.1, h.2.1⟩
  | some b =>
    obtain ⟨h1, h2, h3, rest, ⟨f, h4, h6⟩, h5⟩ := h
    refine ⟨h1, fun _ => (Array.getElem?_eq_some_iff.1 h4).1, fun j u hj => ?_⟩
    have hlt : j < xs.length := (List.getElem?_eq_some_iff.1 hj).1
    rw [add_none]
    simp only [World.cell?, h4]
    simp [List.getElem?_append, hlt, (List.getElem?_eq_some_iff.1 hj).2]

theorem cel_sls {b off sz n : Nat} {cs xs : List Value} {T : TypeId} {w : World} (h : (cel b cs T).A w) (hl : xs.length = n * sz) (hx : ∀ j u, xs[j]? = some u → cs[off + j]? = some u) : (sls (some ⟨b, off, none⟩) sz n xs).A w :=
  ⟨hl, fun _ => (Array.getElem?_eq_some_iff.1 h).1, fun j u hj => by rw [add_none, cell_of_cel h]; exact hx j u hj⟩

/-- A block known whole is a slice's. -/
theorem own_of_cel {b sz n cap : Nat} {cs : List Value} {T : TypeId} {w : World} (h : (cel b cs T).A w) (hn : n ≤ cap) (hm : cap ≤ maxLen) (hl : cs.length = cap * sz) : (own (some b) cap T sz n (cs.take (n * sz))).A w := by
  refine ⟨by rw [List.length_take, hl]; exact Nat.min_eq_left (Nat.mul_le_mul_right _ hn), hn, hm, cs.drop (n * sz), ?_, ?_⟩
  · exact ⟨_, by rw [List.take_append_drop]; exact h, .inl rfl⟩
  · rw [List.take_append_drop]; exact hl

section
variable {P : Program} {L : List Oper} {ef bk : List Nat} {tq : Tq} {Q : Exit → Act → World → Prop} {N : Nat} {E : Env} {w0 : World} {S : List Nat} {I H : List It} {i : Nat} {l : Sq}
variable {d : Nat} {x y z : Operand} {ty t yt : TypeId} {pos : String} {af : Array Edge} {g : Option (Nat × Bool)} {v : Value} {k k' : IntKind} {m n : Int}

theorem Cls.conv {x x' : It} {H' : List It} {w : World} (h : Cls w0 S I H w) (hu : Upd H x x' H') (hb : x'.bs = x.bs) (hA : x.A w → x'.A w) : Cls w0 S I H' w :=
  h.upd hu (Keeps.refl _ _) hb (hA (h.s.h _ hu.mem))

theorem CW.turn {x x' : It} {H' : List It} {c : Code} (hu : Upd H x x' H') (hb : x'.bs = x.bs) (hA : ∀ w, x.A w → x'.A w) (h : CW P c Q N E w0 S I H') : CW P c Q N E w0 S I H := fun a w ha hw => h a w ha (hw.conv hu hb (hA w))
theorem NQ.turn {x x' : It} {H' : List It} (hu : Upd H x x' H') (hb : x'.bs = x.bs) (hA : ∀ w, x.A w → x'.A w) (h : NQ Q N E w0 S I H') : NQ Q N E w0 S I H := fun a w ha hw => h a w ha (hw.conv hu hb (hA w))
theorem Rds.sls {p : Addr} {sz n : Nat} {xs : List Value} (hm : PK.sls (some p) sz n xs ∈ I) : Rds I H p xs := fun _ hw => (hw.i _ hm).2.2
theorem Rds.own {b cap sz n : Nat} {e : TypeId} {xs : List Value} (hm : PK.own (some b) cap e sz n xs ∈ H) : Rds I H ⟨b, 0, none⟩ xs := fun _ hw => (own_sls (hw.h _ hm)).2.2
theorem Rds.rd {p : Addr} {xs : List Value} {j : Nat} (h : Rds I H p xs) (hj : xs[j]? = some v) : Rd I H (p.add j) v := fun w hw => h w hw j v hj
theorem add_add (p : Addr) (j q : Nat) : (p.add j).add q = p.add (j + q) := by
  unfold Addr.add
  by_cases h1 : j = 0
  · subst h1; simp
  · by_cases h2 : q = 0
    · subst h2; simp [h1]
    · have : ¬ j + q = 0 := by omega
      simp [h1, h2, Nat.add_assoc]
theorem Rds.part {p : Addr} {xs vs : List Value} {j : Nat} (h : Rds I H p xs) (hj : ∀ q u, vs[q]? = some u → xs[j + q]? = some u) : Rds I H (p.add j) vs := fun w hw q u hu => by
  have := h w hw (j + q) u (hj q u hu)
  rw [add_add]; exact this

/-- An element's place. -/
theorem RL.idx {e : TypeId} {p : Addr} {len cap sz j : Nat} (hu : ∀ w, (underlying t).run P w = .ok (.slice e) w) (hs : ∀ w, (sizeOf e).run P w = .ok sz w) (ho : nth L i = some ⟨some d, .indexAddr t x y, ty, pos, af, g⟩) (hw : wants L E ⟨some d, .indexAddr t x y, ty, pos, af, g⟩ = true) (hN : Nat.blt d N = true)
    (hx : E.ev x = some (.slice (some p) len cap)) (hy : E.ev y = some (.int k n)) (hj : n = (j : Int)) (hlt : j < len) (h : RL P L ef bk tq Q l N ((d, .pointer (some (p.add (j * sz)))) :: E) w0 S I H) : RL P L ef bk tq Q (.cons i l) N E w0 S I H :=
  RL.pval ho hw rfl hN (fun _ w ha => by
    subst hj
    have h2 : ¬ len ≤ j := by omega
    simp [execOp, ha.ev hx, ha.ev hy, Instr.indexAt, hu, hs, asIntOf, hlt]) h

/-- An element's place in an array behind a pointer. -/
theorem RL.idxA {e : TypeId} {p : Addr} {len sz j : Nat} (hu : ∀ w, (underlying t).run P w = .ok (.array len e) w) (hs : ∀ w, (sizeOf e).run P w = .ok sz w) (ho : nth L i = some ⟨some d, .indexAddr t x y, ty, pos, af, g⟩) (hw : wants L E ⟨some d, .indexAddr t x y, ty, pos, af, g⟩ = true) (hN : Nat.blt d N = true)
    (hx : E.ev x = some (.pointer (some p))) (hy : E.ev y = some (.int k n)) (hj : n = (j : Int)) (hlt : j < len) (h : RL P L ef bk tq Q l N ((d, .pointer (some (p.add (j * sz)))) :: E) w0 S I H) : RL P L ef bk tq Q (.cons i l) N E w0 S I H :=
  RL.pval ho hw rfl hN (fun _ w ha => by
    subst hj
    have h2 : ¬ len ≤ j := by omega
    simp [execOp, ha.ev hx, ha.ev hy, Instr.indexAt, Instr.sureAddr, hu, hs, asIntOf, hlt]) h

/-- An element of an array by value. -/
theorem RL.index {e : TypeId} {cs : Array Value} {len sz j : Nat} (hu : ∀ w, (underlying t).run P w = .ok (.array len e) w) (hs : ∀ w, (sizeOf e).run P w = .ok sz w) (hag : ∀ w, (isAgg e).run P w = .ok false w) (ho : nth L i = some ⟨some d, .index t x y, ty, pos, af, g⟩) (hw : wants L E ⟨some d, .index t x y, ty, pos, af, g⟩ = true) (hN : Nat.blt d N = true)
    (hx : E.ev x = some (.agg cs)) (hy : E.ev y = some (.int k n)) (hj : n = (j : Int)) (hlt : j < len) (hv : cs[j * sz]? = some v) (h : RL P L ef bk tq Q l N ((d, v) :: E) w0 S I H) : RL P L ef bk tq Q (.cons i l) N E w0 S I H :=
  RL.pval ho hw rfl hN (fun _ w ha => by
    subst hj
    have h2 : ¬ len ≤ j := by omega
    simp [execOp, ha.ev hx, ha.ev hy, Instr.index, hu, hs, asIntOf, hlt, Go.part, hag, hv]) h

theorem RL.indexAgg {e : TypeId} {cs vs : Array Value} {len sz j : Nat} (hu : ∀ w, (underlying t).run P w = .ok (.array len e) w) (hs : ∀ w, (sizeOf e).run P w = .ok sz w) (hag : ∀ w, (isAgg e).run P w = .ok true w) (ho : nth L i = some ⟨some d, .index t x y, ty, pos, af, g⟩) (hw : wants L E ⟨some d, .index t x y, ty, pos, af, g⟩ = true) (hN : Nat.blt d N = true)
    (hx : E.ev x = some (.agg cs)) (hy : E.ev y = some (.int k n)) (hj : n = (j : Int)) (hlt : j < len) (hv : cs.extract (j * sz) (j * sz + sz) = vs) (h : RL P L ef bk tq Q l N ((d, .agg vs) :: E) w0 S I H) : RL P L ef bk tq Q (.cons i l) N E w0 S I H :=
  RL.pval ho hw rfl hN (fun _ w ha => by
    subst hj
    have h2 : ¬ len ≤ j := by omega
    simp [execOp, ha.ev hx, ha.ev hy, Instr.index, hu, hs, asIntOf, hlt, Go.part, hag, hv]) h

/-- A string's byte. -/
theorem RL.indexStr {s : ByteArray} {j : Nat} (hu : ∀ w, (underlying t).run P w = .ok .string w) (ho : nth L i = some ⟨some d, .index t x y, ty, pos, af, g⟩) (hw : wants L E ⟨some d, .index t x y, ty, pos, af, g⟩ = true) (hN : Nat.blt d N = true)
    (hx : E.ev x = some (.string s)) (hy : E.ev y = some (.int k n)) (hj : n = (j : Int)) (hlt : j < s.size) (h : RL P L ef bk tq Q l N ((d, .int .u8 (s[j].toNat : Int)) :: E) w0 S I H) : RL P L ef bk tq Q (.cons i l) N E w0 S I H :=
  RL.pval ho hw rfl hN (fun _ w ha => by
    subst hj
    simp [execOp, ha.ev hx, ha.ev hy, Instr.index, hu, asIntOf, hlt]) h

/-- A field of a struct by value. -/
theorem RL.field {cs : Array Value} {j : Nat} (hf : ∀ w, (Instr.field t (.agg cs) j).run P w = .ok v w) (ho : nth L i = some ⟨some d, .field t x j, ty, pos, af, g⟩) (hw : wants L E ⟨some d, .field t x j, ty, pos, af, g⟩ = true) (hN : Nat.blt d N = true)
    (hx : E.ev x = some (.agg cs)) (h : RL P L ef bk tq Q l N ((d, v) :: E) w0 S I H) : RL P L ef bk tq Q (.cons i l) N E w0 S I H :=
  RL.pval ho hw rfl hN (fun _ w ha => by simp [execOp, ha.ev hx, hf]) h

/-! ### A part of a slice -/

def bnd (E : Env) : Option Operand → Nat → Option Int
  | none, n => some n
  | some x, _ => match E.ev x with
    | some (.int _ m) => some m
    | _ => none

theorem run_bound {P : Program} {k : IntKind} {j y : Nat} {code : BoundsCode} {w : World} (h : j ≤ y) : (Instr.sliceBound (.int k (j : Int)) y code).run P w = .ok j w := by
  simp [Instr.sliceBound, asIntOf, h]

/-- 'x[lo:hi]' of a slice. -/
theorem RL.slice {e : TypeId} {p : Option Addr} {len cap sz lo hi : Nat} {ol oh : Option Operand} (hu : ∀ w, (underlying t).run P w = .ok (.slice e) w) (hs : ∀ w, (sizeOf e).run P w = .ok sz w) (ho : nth L i = some ⟨some d, .slice t x ol oh none, ty, pos, af, g⟩) (hw : wants L E ⟨some d, .slice t x ol oh none, ty, pos, af, g⟩ = true) (hN : Nat.blt d N = true)
    (hx : E.ev x = some (.slice p len cap)) (hl : bnd E ol 0 = some (lo : Int)) (hh : bnd E oh len = some (hi : Int)) (h1 : lo ≤ hi) (h2 : hi ≤ cap)
    (h : RL P L ef bk tq Q l N ((d, .slice (if cap = lo then p else p.map (·.add (lo * sz))) (hi - lo) (cap - lo)) :: E) w0 S I H) : RL P L ef bk tq Q (.cons i l) N E w0 S I H :=
  RL.pval ho hw rfl hN (fun a w ha => by
    have hb : ∀ (s : BoundsCode), (match oh.map a.eval with | some v => Instr.sliceBound v cap s | none => pure len : Sem Nat).run P w = .ok hi w := by
      intro s
      cases oh with
      | none => simp [bnd] at hh; have : len = hi := by omega
                subst this; rfl
      | some o =>
        simp only [bnd] at hh
        split at hh
        · rename_i kk mm he
          have : mm = (hi : Int) := by simpa using hh
          subst this
          simp only [Option.map_some, ha.ev he]
          exact run_bound h2
        · cases hh
    have hb2 : ∀ (s : BoundsCode), (match ol.map a.eval with | some v => Instr.sliceBound v hi s | none => pure 0 : Sem Nat).run P w = .ok lo w := by
      intro s
      cases ol with
      | none => simp [bnd] at hl; have : 0 = lo := by omega
                subst this; rfl
      | some o =>
        simp only [bnd] at hl
        split at hl
        · rename_i kk mm he
          have : mm = (lo : Int) := by simpa using hl
          subst this
          simp only [Option.map_some, ha.ev he]
          exact run_bound h1
        · cases hl
    show Sem.run P (do pure (Next.value (← Instr.sliceAt t (a.eval x) (ol.map a.eval) (oh.map a.eval) none))) w = _
    rw [ha.ev hx]
    have hsb : (Instr.sliceBounds true len cap (ol.map a.eval) (oh.map a.eval) none).run P w = .ok (lo, hi, cap) w := by
      unfold Instr.sliceBounds
      have q1 := hb .sliceAcap
      have q2 := hb2 .sliceB
      cases oh with
      | none =>
        cases ol with
        | none => simp at q1 q2 ⊢; exact ⟨q2, q1⟩
        | some o => simp at q1 q2 ⊢; subst q1; simp [q2]
      | some o' =>
        cases ol with
        | none => simp at q1 q2 ⊢; subst q2; simp [q1]
        | some o => simp at q1 q2 ⊢; simp [q1, q2]
    simp [Instr.sliceAt, Instr.slice, hu, hs, hsb]) h

end
end Go.PK
