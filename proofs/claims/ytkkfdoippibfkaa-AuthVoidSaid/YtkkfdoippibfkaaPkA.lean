/-
  PK, part A: one order of a region serves every order. For a region that draws its order: if the operations that touch the world are ordered among each other, and the others are quiet, then walking one topological order is enough.
-/
import Derived.WalkKit
import Derived.Deep.Quiet
namespace Go.PK

/-- What an operation does, if it neither panics nor defers: its value, and the world behind it. -/
def does (P : Program) (o : Oper) (a : Act) (w : World) (K : Value → World → Prop) : Prop :=
  match (execOp a.eval o).run P w with
  | .ok (.value v) w' => K v w'
  | .ok .skip w' => K undef w'
  | .ok (.enter f args) w' => Calls P f args w' (fun e w'' => ∃ v, e = .returned v ∧ K v w'')
  | _ => False

theorem does_mono {P : Program} {o : Oper} {a : Act} {w : World} {K K' : Value → World → Prop} (h : ∀ v w', K v w' → K' v w') (hd : does P o a w K) : does P o a w K' := by
  unfold does at *
  split at hd
  · exact h _ _ hd
  · exact h _ _ hd
  · exact hd.mono fun e w'' ⟨v, he, hk⟩ => ⟨v, he, h _ _ hk⟩
  · exact hd.elim

theorem does_congr {P : Program} {o : Oper} {a a' : Act} {w : World} {K : Value → World → Prop} (h : execOp a.eval o = execOp a'.eval o) : does P o a w K = does P o a' w K := by
  unfold does; rw [h]

/-- Nothing that was there has turned, but for the blocks in 'S'; blocks may have come. -/
structure Keeps (S : List Nat) (w w' : World) : Prop where
  os : w'.os = w.os
  tape : w'.tape = w.tape
  output : w'.output = w.output
  size : w.heap.size ≤ w'.heap.size
  block : ∀ b, b < w.heap.size → b ∉ S → w'.heap[b]? = w.heap[b]?
  drawn : w.drawn ≤ w'.drawn

abbrev Grow (w w' : World) : Prop := Keeps [] w w'

theorem Keeps.refl (S : List Nat) (w : World) : Keeps S w w := ⟨rfl, rfl, rfl, Nat.le_refl _, fun _ _ _ => rfl, Nat.le_refl _⟩
theorem Keeps.trans {S : List Nat} {a b c : World} (h : Keeps S a b) (k : Keeps S b c) : Keeps S a c :=
  ⟨k.os.trans h.os, k.tape.trans h.tape, k.output.trans h.output, Nat.le_trans h.size k.size, fun i hi hn => (k.block i (Nat.lt_of_lt_of_le hi h.size) hn).trans (h.block i hi hn), Nat.le_trans h.drawn k.drawn⟩
theorem Keeps.mono {S S' : List Nat} {a b : World} (h : Keeps S a b) (hs : ∀ x ∈ S, x ∈ S') : Keeps S' a b :=
  ⟨h.os, h.tape, h.output, h.size, fun i hi hn => h.block i hi fun hx => hn (hs i hx), h.drawn⟩
theorem Keeps.drew (S : List Nat) (w : World) (n : Nat) (h : w.drawn ≤ n) : Keeps S w { w with drawn := n } := ⟨rfl, rfl, rfl, Nat.le_refl _, fun _ _ _ => rfl, h⟩

/-- A class of worlds that growing does not leave. -/
def Open (C : World → Prop) : Prop := ∀ w w', C w → Grow w w' → C w'

/-- Operations whose value hangs on no world. -/
def pureOp : Op → Bool
  | .move _ | .assign _ | .pick .. | .extract .. | .binOp .. | .unOp .. | .slice .. | .fieldAddr .. | .indexAddr .. | .nilCheck _ | .build .. | .sliceToArrayPointer .. | .index .. | .field .. => true
  | _ => false

/-- An order of operations; at a fork any of some operations comes next, each with an order of its own behind it. -/
inductive Sq
  | nil
  | cons (i : Nat) (l : Sq)
  | fork (ks : List Nat) (f : Nat → Sq)
def Sq.of : List Nat → Sq
  | [] => .nil
  | i :: l => .cons i (Sq.of l)

/-- One operation of a walk, and what comes behind it. 'tq': quiet ones that hang on 'T' alone, which every class keeps. -/
def stepRW (P : Program) (ops : Array Oper) (ef bk tq : List Nat) (T : World → Prop) (i : Nat) (R : Act → (World → Prop) → Prop) (a : Act) (C : World → Prop) : Prop :=
  ∃ o, ops[i]? = some o ∧
      ((Region.wanted o (yielded ops a.tmps) = false ∧ R (a.put o.dst undef) C) ∨
       (Region.wanted o (yielded ops a.tmps) = true ∧
         ((∃ v, (∀ w, (pureOp o.op = true ∨ (i ∈ tq ∧ T w) ∨ C w) → does P o a w (fun u w' => u = v ∧ Grow w w')) ∧ R (a.put o.dst v) C) ∨
          (i ∈ ef ∧ ∀ w, C w → does P o a w (fun v w' => ∃ C' : World → Prop, (Open C' ∧ ∀ w, C' w → T w) ∧ C' w' ∧ (i ∉ bk → ∀ w, C' w → C w) ∧ R (a.put o.dst v) C')))))

/-- A walk over operations in some order: 'ef': those that may turn the world (make memory, call, store); 'bk': those of them that may break the class of worlds. -/
def RW (P : Program) (ops : Array Oper) (ef bk tq : List Nat) (T : World → Prop) (Q : Exit → Act → World → Prop) : Sq → Act → (World → Prop) → Prop
  | .nil, a, C => ∀ w, C w → Q .normal a w
  | .cons i l, a, C => stepRW P ops ef bk tq T i (fun a C => RW P ops ef bk tq T Q l a C) a C
  | .fork ks f, a, C => ∀ k ∈ ks, stepRW P ops ef bk tq T k (fun a C => RW P ops ef bk tq T Q (f k) a C) a C

/-- A class of worlds that growing does not leave, and that keeps 'T'. -/
def Opn (T C : World → Prop) : Prop := Open C ∧ ∀ w, C w → T w

variable {P : Program} {ops : Array Oper} {ef bk tq : List Nat} {T : World → Prop} {Q : Exit → Act → World → Prop}

theorem wp_of_does {o : Oper} {a : Act} {K : Act → World → Prop} {w : World} (h : does P o a w (fun v w' => K (a.put o.dst v) w')) : o.wp P a w K Q := by
  unfold does at h
  unfold Oper.wp
  generalize (execOp a.eval o).run P w = r at *
  cases r with
  | ok n w' =>
    cases n <;> simp only [Oper.upon] at h ⊢ <;> try exact h
    exact h.mono fun e w'' ⟨v, he, hk⟩ => by subst he; exact hk
  | halt x w' => exact h.elim

/-- One operation of a region, wanted or not. -/
def doesAt (P : Program) (ops : Array Oper) (i : Nat) (a : Act) (w : World) (K : Act → World → Prop) : Prop :=
  ∃ o, ops[i]? = some o ∧ ((Region.wanted o (yielded ops a.tmps) = false ∧ K (a.put o.dst undef) w) ∨
    (Region.wanted o (yielded ops a.tmps) = true ∧ does P o a w (fun v w' => K (a.put o.dst v) w')))

theorem wpOp_of_doesAt {i : Nat} {a : Act} {w : World} {K : Act → World → Prop} (h : doesAt P ops i a w K) : wpOp P ops Q i K a w := by
  obtain ⟨o, ho, h⟩ := h
  unfold wpOp
  simp only [ho]
  rcases h with ⟨hw, h⟩ | ⟨hw, h⟩
  · simp only [hw, Bool.false_eq_true, if_false]; exact h
  · simp only [hw, if_true]; exact .inl (wp_of_does h)

/-- The first of a walk. -/
theorem RW.first {i : Nat} {R : Act → (World → Prop) → Prop} {a : Act} {C : World → Prop} {w : World} (hO : Opn T C) (h : stepRW P ops ef bk tq T i R a C) (hC : C w) :
    doesAt P ops i a w (fun a' w' => ∃ C' : World → Prop, Opn T C' ∧ C' w' ∧ (i ∉ bk → ∀ w, C' w → C w) ∧ R a' C') := by
  obtain ⟨o, ho, h⟩ := h
  refine ⟨o, ho, ?_⟩
  rcases h with ⟨hw, h⟩ | ⟨hw, h⟩
  · exact .inl ⟨hw, C, hO, hC, fun _ _ h => h, h⟩
  · refine .inr ⟨hw, ?_⟩
    rcases h with ⟨v, hq, h⟩ | ⟨_, h⟩
    · exact does_mono (fun u w' ⟨hu, hG⟩ => ⟨C, hO, hO.1 _ _ hC hG, fun _ _ h => h, hu ▸ h⟩) (hq w (.inr (.inr hC)))
    · exact h w hC

/-- A region in the order of its text. -/
theorem RW.text : ∀ (l : List Nat) (a : Act) (C : World → Prop) (w : World), Opn T C → RW P ops ef bk tq T Q (Sq.of l) a C → C w → wpOps P ops Q l a w
  | [], _, _, w, _, h, hC => h w hC
  | i :: l, a, C, w, hO, h, hC => by
    rw [wpOps_cons]
    refine wpOp_mono ?_ (wpOp_of_doesAt (RW.first hO h hC))
    rintro a' w' ⟨C', hO', hC', _, h⟩
    exact RW.text l a' C' w' hO' h hC'

/-- 'i' comes surely before 'j' (by a table of bits). -/
def rel (Tb : Array Nat) (i j : Nat) : Bool := (Tb.getD j 0).testBit i

def boundOf (o : Oper) : List Nat := (o.after.toList.filter (fun e => Region.binds .any e)).map (·.on)
def boundAt (ops : Array Oper) (j : Nat) : List Nat := match ops[j]? with | some o => boundOf o | none => []

/-- The table is closed: what it says comes of the edges. -/
def closedT (ops : Array Oper) (Tb : Array Nat) : Bool :=
  (List.range ops.size).all fun j => (boundAt ops j).all (fun k => Nat.blt k j) &&
    (List.range ops.size).all fun i => !rel Tb i j || (boundAt ops j).any (fun k => k == i || rel Tb i k)

def apartAt (ops : Array Oper) (i j : Nat) : Bool := match ops[i]?, ops[j]? with | some x, some y => x.apart ops y | _, _ => false

def pureAt (ops : Array Oper) (i : Nat) : Bool := match ops[i]? with | some x => pureOp x.op | none => false
def pairOk (ops : Array Oper) (Tb : Array Nat) (ef bk tq : List Nat) (i j : Nat) : Bool :=
  rel Tb i j || (apartAt ops i j && !ef.contains i && (!bk.contains j || pureAt ops i || tq.contains i))

/-- The order serves: what stands ahead may be passed by whatever is ready; where it may not, there is a fork. -/
def okS (ops : Array Oper) (Tb : Array Nat) (ef bk tq : List Nat) : List Nat → Sq → Bool
  | rem, .nil => rem.isEmpty
  | rem, .cons i l => rem.contains i && (boundAt ops i).all (fun k => !rem.contains k) && (rem.erase i).all (fun k => pairOk ops Tb ef bk tq i k) && okS ops Tb ef bk tq (rem.erase i) l
  | rem, .fork ks f => rem.all (fun j => ks.contains j || (boundAt ops j).any (fun k => rem.contains k)) && ks.all (fun k => okS ops Tb ef bk tq (rem.erase k) (f k)) && !rem.isEmpty

def chk (ops : Array Oper) (s : Sq) (ef bk tq : List Nat) : Bool :=
  closedT ops (Region.before ops) && okS ops (Region.before ops) ef bk tq (List.range ops.size) s && Region.noSelect ops

theorem closedT_lt {Tb : Array Nat} (h : closedT ops Tb = true) {j k : Nat} (hj : j < ops.size) (hk : k ∈ boundAt ops j) : k < j := by
  simp only [closedT, List.all_eq_true, List.mem_range, Bool.and_eq_true] at h
  have := (h j hj).1 k hk
  simpa using this

theorem closedT_rel {Tb : Array Nat} (h : closedT ops Tb = true) {i j : Nat} (hi : i < ops.size) (hj : j < ops.size) (hr : rel Tb i j = true) : ∃ k ∈ boundAt ops j, k = i ∨ rel Tb i k = true := by
  simp only [closedT, List.all_eq_true, List.mem_range, Bool.and_eq_true] at h
  have := (h j hj).2 i hi
  simp only [hr, Bool.not_true, Bool.false_or, List.any_eq_true, Bool.or_eq_true, beq_iff_eq] at this
  exact this

/-- What is not in the rest has nothing of the rest ahead of it. -/
theorem rel_out {Tb : Array Nat} (h : closedT ops Tb = true) {l : List Nat} (hd : ∀ j, j < ops.size → j ∉ l → ∀ k ∈ boundAt ops j, k ∉ l) {i : Nat} (hi : i < ops.size) (hil : i ∈ l) :
    ∀ j, j < ops.size → j ∉ l → rel Tb i j = false := by
  intro j
  induction j using Nat.strongRecOn with
  | _ j ih =>
    intro hj hjl
    cases hr : rel Tb i j
    · rfl
    · obtain ⟨k, hk, h'⟩ := closedT_rel h hi hj hr
      have hkl := hd j hj hjl k hk
      rcases h' with rfl | h'
      · exact absurd hil hkl
      · have hlt := closedT_lt h hj hk
        rw [ih k hlt (by omega) hkl] at h'
        cases h'

theorem mem_boundAt {j k : Nat} {o : Oper} (ho : ops[j]? = some o) : k ∈ boundAt ops j ↔ ∃ e ∈ o.after, Region.binds .any e = true ∧ e.on = k := by
  simp [boundAt, ho, boundOf, and_assoc]

/-- What is ready may be taken first. -/
theorem RW.move {Tb : Array Nat} (hs : Region.noSelect ops = true) (hT : closedT ops Tb = true) : ∀ (s : Sq) (rem : List Nat), okS ops Tb ef bk tq rem s = true → rem.Nodup → (∀ j ∈ rem, j < ops.size) →
    (∀ j, j < ops.size → j ∉ rem → ∀ k ∈ boundAt ops j, k ∉ rem) → ∀ j ∈ rem, (∀ k ∈ boundAt ops j, k ∉ rem) →
    ∃ s', okS ops Tb ef bk tq (rem.erase j) s' = true ∧ ∀ a C w, Opn T C → RW P ops ef bk tq T Q s a C → C w →
      doesAt P ops j a w (fun a' w' => ∃ C' : World → Prop, Opn T C' ∧ C' w' ∧ (j ∉ bk → ∀ w, C' w → C w) ∧ RW P ops ef bk tq T Q s' a' C') := by
  intro s
  induction s with
  | nil =>
    intro rem hok _ _ _ j hj
    simp only [okS, List.isEmpty_iff] at hok
    subst hok; cases hj
  | fork ks f _ =>
    intro rem hok _ _ _ j hj hr
    simp only [okS, Bool.and_eq_true, List.all_eq_true, Bool.or_eq_true, List.any_eq_true, List.contains_eq_mem, decide_eq_true_eq] at hok
    have hjk : j ∈ ks := by
      rcases hok.1.1 j hj with h | ⟨k, hk, hkr⟩
      · exact h
      · exact absurd hkr (hr k hk)
    exact ⟨f j, hok.1.2 j hjk, fun a C w hO h hC => RW.first hO (h j hjk) hC⟩
  | cons i l ih =>
    intro rem hok hnd hlt hd j hj hr
    simp only [okS, Bool.and_eq_true, List.all_eq_true, List.contains_eq_mem, decide_eq_true_eq, Bool.not_eq_true', decide_eq_false_iff_not] at hok
    obtain ⟨⟨⟨hi, hib⟩, hpair⟩, hl⟩ := hok
    by_cases hij : i = j
    · subst hij
      exact ⟨l, hl, fun a C w hO h hC => RW.first hO h hC⟩
    have hji : j ∈ rem.erase i := (hnd.mem_erase_iff).2 ⟨Ne.symm hij, hj⟩
    have hsub : ∀ k, k ∉ rem → k ∉ rem.erase i := fun k hk h => hk (List.mem_of_mem_erase h)
    obtain ⟨s1, hs1, H1⟩ := ih (rem.erase i) hl (hnd.erase i) (fun k hk => hlt k (List.mem_of_mem_erase hk)) (fun k hk hkn m hm => by
      by_cases hkr : k ∈ rem
      · have : k = i := Classical.byContradiction fun hne => hkn ((hnd.mem_erase_iff).2 ⟨hne, hkr⟩)
        subst this
        exact hsub m (hib m hm)
      · exact hsub m (hd k hk hkr m hm)) j hji (fun k hk => hsub k (hr k hk))
    have hrel : rel Tb i j = false := by
      cases hr' : rel Tb i j
      · rfl
      · obtain ⟨k, hk, h'⟩ := closedT_rel hT (hlt i hi) (hlt j hj) hr'
        have hkl := hr k hk
        rcases h' with rfl | h'
        · exact absurd hi hkl
        · have hlt2 := closedT_lt hT (hlt j hj) hk
          have := hlt j hj
          rw [rel_out hT hd (hlt i hi) hi k (by omega) hkl] at h'
          cases h'
    have hp := hpair j hji
    simp only [pairOk, hrel, Bool.false_or, Bool.and_eq_true, Bool.not_eq_true', Bool.or_eq_true] at hp
    obtain ⟨⟨hap, hief⟩, hjbk⟩ := hp
    have hief' : i ∉ ef := by simpa using hief
    refine ⟨.cons i s1, ?_, fun a C w hO h hC => ?_⟩
    · simp only [okS, Bool.and_eq_true, List.all_eq_true, List.contains_eq_mem, decide_eq_true_eq, Bool.not_eq_true', decide_eq_false_iff_not]
      refine ⟨⟨⟨(hnd.mem_erase_iff).2 ⟨hij, hi⟩, fun k hk h => hib k hk (List.mem_of_mem_erase h)⟩, fun k hk => hpair k ?_⟩, ?_⟩
      · rw [List.erase_comm] at hk; exact List.mem_of_mem_erase hk
      · rw [List.erase_comm]; exact hs1
    obtain ⟨oi, hoi, h⟩ := h
    cases hoj : ops[j]? with
    | none => simp [apartAt, hoi, hoj] at hap
    | some oj =>
    simp only [apartAt, hoi, hoj] at hap
    obtain ⟨h1, h2, h3⟩ := Oper.apart_spec hap
    have hsi := Region.noSelect_spec hs
    -- 'i' is quiet, or not wanted: in either case its value is 'v' wherever it is carried out
    have key : ∀ v : Value, (∀ u : Value, ∀ C' : World → Prop, (∀ w, C' w → T w) → (j ∉ bk → ∀ w, C' w → C w) → RW P ops ef bk tq T Q s1 ((a.put oj.dst u).put oi.dst v) C' → RW P ops ef bk tq T Q (.cons i s1) (a.put oj.dst u) C') →
        RW P ops ef bk tq T Q l (a.put oi.dst v) C →
        doesAt P ops j a w (fun a' w' => ∃ C' : World → Prop, Opn T C' ∧ C' w' ∧ (j ∉ bk → ∀ w, C' w → C w) ∧ RW P ops ef bk tq T Q (.cons i s1) a' C') := by
      intro v hq hr
      obtain ⟨o, ho, ih⟩ := H1 (a.put oi.dst v) C w hO hr hC
      obtain rfl : o = oj := by rw [hoj] at ho; exact (Option.some.inj ho).symm
      refine ⟨o, ho, ?_⟩
      rw [wanted_put o a oi.dst v h1, does_congr (execOp_put o (fun cs b => hsi j o cs b hoj) a oi.dst v h1)] at ih
      have comm : ∀ u, (a.put oi.dst v).put o.dst u = (a.put o.dst u).put oi.dst v := fun u => Act.put_comm a v u h2
      have fin : ∀ u w', (∃ C' : World → Prop, Opn T C' ∧ C' w' ∧ (j ∉ bk → ∀ w, C' w → C w) ∧ RW P ops ef bk tq T Q s1 ((a.put oi.dst v).put o.dst u) C') →
          ∃ C' : World → Prop, Opn T C' ∧ C' w' ∧ (j ∉ bk → ∀ w, C' w → C w) ∧ RW P ops ef bk tq T Q (.cons i s1) (a.put o.dst u) C' := fun u w' ⟨C', c0, c1, c2, c3⟩ =>
        ⟨C', c0, c1, c2, hq u C' c0.2 c2 (by rw [← comm]; exact c3)⟩
      rcases ih with ⟨hw, ih⟩ | ⟨hw, ih⟩
      · exact .inl ⟨hw, fin _ _ ih⟩
      · exact .inr ⟨hw, does_mono (fun u w' h => fin u w' h) ih⟩
    rcases h with ⟨hw, h⟩ | ⟨hw, h⟩
    · refine key undef (fun u C' _ _ hl => ⟨oi, hoi, .inl ⟨?_, hl⟩⟩) h
      rw [wanted_put oi a oj.dst u h3]; exact hw
    · rcases h with ⟨v, hq, h⟩ | ⟨hi', _⟩
      · refine key v (fun u C' hcT hm hl => ⟨oi, hoi, .inr ⟨?_, .inl ⟨v, ?_, hl⟩⟩⟩) h
        · rw [wanted_put oi a oj.dst u h3]; exact hw
        · intro w1 hw1
          rw [does_congr (execOp_put oi (fun cs b => hsi i oi cs b hoi) a oj.dst u h3)]
          refine hq w1 ?_
          rcases hw1 with hw1 | hw1
          · exact .inl hw1
          · rcases hw1 with hw1 | hw1
            · exact .inr (.inl hw1)
            rcases hjbk with (hb | hb) | hb
            · exact .inr (.inr (hm (by simpa using hb) w1 hw1))
            · exact .inl (by simpa [pureAt, hoi] using hb)
            · exact .inr (.inl ⟨by simpa using hb, hcT w1 hw1⟩)
      · exact absurd hi' hief'

/-- Whatever order the rest comes in. -/
theorem RW.rest {Tb : Array Nat} (hs : Region.noSelect ops = true) (hT : closedT ops Tb = true) : ∀ (n : Nat) (s : Sq) (rem : List Nat) (listed : Array Bool) (a : Act) (C : World → Prop) (w : World), rem.length = n →
    listed.size = ops.size → rem.Nodup → (∀ j, j < ops.size → (listed.getD j true = false ↔ j ∈ rem)) → (∀ j ∈ rem, j < ops.size) → (∀ j, j < ops.size → j ∉ rem → ∀ k ∈ boundAt ops j, k ∉ rem) →
    okS ops Tb ef bk tq rem s = true → Opn T C → RW P ops ef bk tq T Q s a C → C w → wpAny P .any ops Q n listed a w
  | n, s, rem, listed, a, C, w, hn, hsz, hnd, hl, hlt, hd, hok, hO, h, hC => by
    have hready : ∀ j, j ∈ Region.ready .any ops listed ↔ j ∈ rem ∧ ∀ k ∈ boundAt ops j, k ∉ rem := by
      intro j
      rw [mem_ready]
      constructor
      · rintro ⟨h0, o, ho, hall⟩
        have hj : j < ops.size := (Array.getElem?_eq_some_iff.1 ho).1
        refine ⟨(hl j hj).1 h0, fun k hk hkl => ?_⟩
        obtain ⟨e, he, hb, rfl⟩ := (mem_boundAt ho).1 hk
        have h1 := hall e he hb
        have h2 := (hl e.on (hlt _ hkl)).2 hkl
        have h3 := hlt _ hkl
        have : e.on < listed.size := by omega
        simp [this] at h1 h2
        rw [h1] at h2; cases h2
      · rintro ⟨hj, hk⟩
        have hj' := hlt j hj
        refine ⟨(hl j hj').2 hj, ops[j], by simp [hj'], fun e he hb => ?_⟩
        have hmem : e.on ∈ boundAt ops j := (mem_boundAt (by simp [hj'])).2 ⟨e, he, hb, rfl⟩
        have hlt2 := closedT_lt hT hj' hmem
        have hnl := hk _ hmem
        have h2 : ¬ listed.getD e.on true = false := fun h => hnl ((hl e.on (by omega)).1 h)
        have : e.on < listed.size := by omega
        simp [this] at h2 ⊢
        exact h2
    cases n with
    | zero =>
      obtain rfl : rem = [] := List.length_eq_zero_iff.1 hn
      refine ⟨?_, ?_⟩
      · refine List.eq_nil_iff_forall_not_mem.2 fun j hj => ?_
        have := ((hready j).1 hj).1
        cases this
      · cases s with
        | nil => exact h w hC
        | cons i l => simp [okS] at hok
        | fork ks f => simp [okS] at hok
    | succ n =>
      refine ⟨fun h0 => ?_, fun j hj => ?_⟩
      · -- the least of the rest is ready
        have hex : ∀ m, (∃ j ∈ rem, j ≤ m) → ∃ j ∈ rem, ∀ k ∈ boundAt ops j, k ∉ rem := by
          intro m
          induction m with
          | zero =>
            rintro ⟨j, hj, hjm⟩
            exact ⟨j, hj, fun k hk _ => by have := closedT_lt hT (hlt j hj) hk; omega⟩
          | succ m ihm =>
            rintro ⟨j, hj, hjm⟩
            by_cases hk : ∃ k ∈ boundAt ops j, k ∈ rem
            · obtain ⟨k, hk, hkr⟩ := hk
              have := closedT_lt hT (hlt j hj) hk
              exact ihm ⟨k, hkr, by omega⟩
            · exact ⟨j, hj, fun k hkb hkr => hk ⟨k, hkb, hkr⟩⟩
        cases rem with
        | nil => simp at hn
        | cons i t =>
          obtain ⟨j, hj, hjb⟩ := hex i ⟨i, by simp, Nat.le_refl _⟩
          have : j ∈ Region.ready .any ops listed := (hready j).2 ⟨hj, hjb⟩
          rw [h0] at this; cases this
      · obtain ⟨hjl, hjk⟩ := (hready j).1 hj
        have hj' := hlt j hjl
        obtain ⟨s', hok', H⟩ := RW.move (P := P) (Q := Q) hs hT s rem hok hnd hlt hd j hjl hjk
        refine wpOp_mono ?_ (wpOp_of_doesAt (H a C w hO h hC))
        rintro a' w' ⟨C', hO', hC', _, h'⟩
        refine RW.rest hs hT n s' (rem.erase j) (listed.setIfInBounds j true) a' C' w' (by rw [List.length_erase_of_mem hjl, hn]; rfl) (by simpa using hsz) (hnd.erase j) ?_ (fun k hk => hlt k (List.mem_of_mem_erase hk)) ?_ hok' hO' h' hC'
        · intro k hk
          rw [hnd.mem_erase_iff]
          by_cases hkj : k = j
          · subst hkj; simp [hsz, hk]
          · rw [getD_set_ne true (Ne.symm hkj), hl k hk]; simp [hkj]
        · intro k hk hkn m hmk hmm
          have hmm' := List.mem_of_mem_erase hmm
          by_cases hkj : k = j
          · subst hkj; exact hjk m hmk hmm'
          · exact hd k hk (fun hkl => hkn ((hnd.mem_erase_iff).2 ⟨hkj, hkl⟩)) m hmk hmm'
  termination_by n => n

/-- A region that draws its order. -/
theorem RW.any {s : Sq} {a : Act} {C : World → Prop} {w : World} (hc : chk ops s ef bk tq = true) (hO : Opn T C) (h : RW P ops ef bk tq T Q s a C) (hC : C w) :
    wpAny P .any ops Q ops.size (Array.replicate ops.size false) a w := by
  simp only [chk, Bool.and_eq_true] at hc
  obtain ⟨⟨hT, hok⟩, hs⟩ := hc
  exact RW.rest (P := P) (Q := Q) (ef := ef) (bk := bk) hs hT ops.size s (List.range ops.size) (Array.replicate ops.size false) a C w (by simp) (by simp) List.nodup_range
    (fun j hj => by simp [hj]) (fun j hj => by simpa using hj) (fun j hj hn => absurd (by simpa using hj) hn) hok hO h hC

end Go.PK
