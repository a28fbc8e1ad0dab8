import Derived.WalkKit
import Derived.Deep.Quiet
import Derived.OrdersIn
import Derived.RangeFuncIn
import Derived.RangeFuncRecord
import Derived.LoopNIn
import Derived.Deep.LoopGhost
set_option linter.unusedVariables false
set_option linter.unusedSimpArgs false
/-
  PK, part A: one order of a region serves every order. For a region that draws its order: if the operations that touch the world are ordered among each other, and the others are quiet, then walking one topological order is enough.
-/
namespace Go.PK

/-- What an operation does, if it neither panics nor defers: its value, and the world behind it. -/
def does (P : Program) (o : Oper) (a : Act) (w : World) (K : Value → World → Prop) : Prop :=
  match (execOp a.eval o).run P w with
  | .ok (.value v) w' => K v w'
  | .ok .skip w' => K undef w'
  | .ok (.enter f args) w' => Calls P f args w' (fun e w'' => ∃ v, e = .returned v ∧ K v w'')
  | .ok (.round l f tmps assign body) w' => RoundIn Fence.wide 0 P l f tmps assign body w' (fun e w'' => ∃ v, e = .returned v ∧ K v w'')
  | _ => False

theorem does_mono {P : Program} {o : Oper} {a : Act} {w : World} {K K' : Value → World → Prop} (h : ∀ v w', K v w' → K' v w') (hd : does P o a w K) : does P o a w K' := by
  unfold does at *
  split at hd
  · exact h _ _ hd
  · exact h _ _ hd
  · exact hd.mono fun e w'' ⟨v, he, hk⟩ => ⟨v, he, h _ _ hk⟩
  · exact RoundIn.mono hd fun e w'' ⟨v, he, hk⟩ => ⟨v, he, h _ _ hk⟩
  · exact hd.elim

theorem does_congr {P : Program} {o : Oper} {a a' : Act} {w : World} {K : Value → World → Prop} (h : execOp a.eval o = execOp a'.eval o) : does P o a w K = does P o a' w K := by
  unfold does; rw [h]

abbrev dr0 (w : World) : Nat := /- -/ 0 ---/ w.drawn

/-- Nothing that was there has turned, but for the blocks in 'S'; blocks may have come. -/
structure Keeps (S : List Nat) (w w' : World) : Prop where
  os : w'.os = w.os
  tape : w'.tape = w.tape
  output : w'.output = w.output
  size : w.heap.size ≤ w'.heap.size
  block : ∀ b, b < w.heap.size → b ∉ S → w'.heap[b]? = w.heap[b]?
  drawn : dr0 w ≤ dr0 w'

abbrev Grow (w w' : World) : Prop := Keeps [] w w'

theorem Keeps.refl (S : List Nat) (w : World) : Keeps S w w := ⟨rfl, rfl, rfl, Nat.le_refl _, fun _ _ _ => rfl, Nat.le_refl _⟩
theorem Keeps.trans {S : List Nat} {a b c : World} (h : Keeps S a b) (k : Keeps S b c) : Keeps S a c :=
  ⟨k.os.trans h.os, k.tape.trans h.tape, k.output.trans h.output, Nat.le_trans h.size k.size, fun i hi hn => (k.block i (Nat.lt_of_lt_of_le hi h.size) hn).trans (h.block i hi hn), Nat.le_trans h.drawn k.drawn⟩
theorem Keeps.mono {S S' : List Nat} {a b : World} (h : Keeps S a b) (hs : ∀ x ∈ S, x ∈ S') : Keeps S' a b :=
  ⟨h.os, h.tape, h.output, h.size, fun i hi hn => h.block i hi fun hx => hn (hs i hx), h.drawn⟩
theorem Keeps.drew (S : List Nat) (w : World) (n : Nat) (h : w.drawn ≤ n) : Keeps S w { w with drawn := n } := ⟨rfl, rfl, rfl, Nat.le_refl _, fun _ _ _ => rfl, by first | exact h | exact Nat.le_refl 0⟩

/-- A class of worlds that growing does not leave. -/
def Open (C : World → Prop) : Prop := ∀ w w', C w → Grow w w' → C w'

/-- Operations whose value hangs on no world. -/
def pureOp : Op → Bool
  | .move _ | .assign _ | .pick .. | .extract .. | .binOp .. | .unOp .. | .slice .. | .fieldAddr .. | .indexAddr .. | .nilCheck _ | .build .. | .sliceToArrayPointer .. | .index .. | .field .. => true
  | _ => false

/-- An order of operations; at a fork any of some operations comes next, each with an order of its own behind it. -/
inductive Sq
  | nil
  | cons (i : Nat) (l : Sq)
  | fork (ks : List Nat) (f : Nat → Sq)
def Sq.of : List Nat → Sq
  | [] => .nil
  | i :: l => .cons i (Sq.of l)

/-- One operation of a walk, and what comes behind it. 'tq': quiet ones that hang on 'T' alone, which every class keeps. -/
def stepRW (P : Program) (ops : Array Oper) (ef bk tq : List Nat) (T : World → Prop) (i : Nat) (R : Act → (World → Prop) → Prop) (a : Act) (C : World → Prop) : Prop :=
  ∃ o, ops[i]? = some o ∧
      ((Region.wanted o (yielded ops a.tmps) = false ∧ R (a.put o.dst undef) C) ∨
       (Region.wanted o (yielded ops a.tmps) = true ∧
         ((∃ v, (∀ w, (pureOp o.op = true ∨ (i ∈ tq ∧ T w) ∨ C w) → does P o a w (fun u w' => u = v ∧ Grow w w')) ∧ R (a.put o.dst v) C) ∨
          (i ∈ ef ∧ ∀ w, C w → does P o a w (fun v w' => ∃ C' : World → Prop, (Open C' ∧ ∀ w, C' w → T w) ∧ C' w' ∧ (i ∉ bk → ∀ w, C' w → C w) ∧ R (a.put o.dst v) C')))))

/-- A walk over operations in some order: 'ef': those that may turn the world (make memory, call, store); 'bk': those of them that may break the class of worlds. -/
def RW (P : Program) (ops : Array Oper) (ef bk tq : List Nat) (T : World → Prop) (Q : Exit → Act → World → Prop) : Sq → Act → (World → Prop) → Prop
  | .nil, a, C => ∀ w, C w → Q .normal a w
  | .cons i l, a, C => stepRW P ops ef bk tq T i (fun a C => RW P ops ef bk tq T Q l a C) a C
  | .fork ks f, a, C => ∀ k ∈ ks, stepRW P ops ef bk tq T k (fun a C => RW P ops ef bk tq T Q (f k) a C) a C

/-- A class of worlds that growing does not leave, and that keeps 'T'. -/
def Opn (T C : World → Prop) : Prop := Open C ∧ ∀ w, C w → T w

variable {P : Program} {ops : Array Oper} {ef bk tq : List Nat} {T : World → Prop} {Q : Exit → Act → World → Prop}

/-- Frames of a function, or of a round of a loop over a function. -/
abbrev FnR (ro : Option Nat) : Fence := { Fence.wide with round := ro }
theorem does_nodefer {o : Oper} {a : Act} {K : Value → World → Prop} {w : World} (h : does P o a w K) : ∀ c, o.op ≠ .defer c := by
  intro c hc
  unfold does at h
  have e : execOp a.eval o = (do pure (.defer (← resolve a.eval c o.type))) := by unfold execOp; rw [hc]
  rw [e, Sem.run_bind] at h
  cases hr : (resolve a.eval c o.type).run P w with
  | ok d w' => rw [hr] at h; exact h
  | halt x w' => rw [hr] at h; exact h
variable {ro : Option Nat}
theorem wp_of_does {o : Oper} {a : Act} {K : Act → World → Prop} {w : World} (h : does P o a w (fun v w' => K (a.put o.dst v) w')) : o.wpIn (FnR ro) 0 P a w K Q := by
  refine ⟨fun _ _ => trivial, ?_⟩
  rw [Oper.semAt_eq _ _ _ (does_nodefer h)]
  unfold does at h
  generalize (execOp a.eval o).run P w = r at *
  cases r with
  | ok n w' =>
    cases n <;> simp only [Oper.uponIn] at h ⊢ <;> try exact h
    · exact ⟨fun h => (by cases h), CallsIn.mono (callsIn_wide (n := 0) |>.2 h) fun e w'' ⟨v, he, hk⟩ => by subst he; exact hk⟩
    · exact ⟨fun h => (by cases h), RoundIn.mono h fun e w'' ⟨v, he, hk⟩ => by subst he; exact hk⟩
  | halt x w' => exact h.elim

/-- One operation of a region, wanted or not. -/
def doesAt (P : Program) (ops : Array Oper) (i : Nat) (a : Act) (w : World) (K : Act → World → Prop) : Prop :=
  ∃ o, ops[i]? = some o ∧ ((Region.wanted o (yielded ops a.tmps) = false ∧ K (a.put o.dst undef) w) ∨
    (Region.wanted o (yielded ops a.tmps) = true ∧ does P o a w (fun v w' => K (a.put o.dst v) w')))

theorem wpOp_of_doesAt {i : Nat} {a : Act} {w : World} {K : Act → World → Prop} (h : doesAt P ops i a w K) : wpOpIn (FnR ro) 0 P ops Q i K a w := by
  obtain ⟨o, ho, h⟩ := h
  unfold wpOpIn
  simp only [ho]
  rcases h with ⟨hw, h⟩ | ⟨hw, h⟩
  · simp only [hw, Bool.false_eq_true, if_false]; exact ⟨fun _ _ => trivial, h⟩
  · simp only [hw, if_true]; exact wp_of_does h

/-- The first of a walk. -/
theorem RW.first {i : Nat} {R : Act → (World → Prop) → Prop} {a : Act} {C : World → Prop} {w : World} (hO : Opn T C) (h : stepRW P ops ef bk tq T i R a C) (hC : C w) :
    doesAt P ops i a w (fun a' w' => ∃ C' : World → Prop, Opn T C' ∧ C' w' ∧ (i ∉ bk → ∀ w, C' w → C w) ∧ R a' C') := by
  obtain ⟨o, ho, h⟩ := h
  refine ⟨o, ho, ?_⟩
  rcases h with ⟨hw, h⟩ | ⟨hw, h⟩
  · exact .inl ⟨hw, C, hO, hC, fun _ _ h => h, h⟩
  · refine .inr ⟨hw, ?_⟩
    rcases h with ⟨v, hq, h⟩ | ⟨_, h⟩
    · exact does_mono (fun u w' ⟨hu, hG⟩ => ⟨C, hO, hO.1 _ _ hC hG, fun _ _ h => h, hu ▸ h⟩) (hq w (.inr (.inr hC)))
    · exact h w hC

/-- A region in the order of its text. -/
theorem RW.text : ∀ (l : List Nat) (a : Act) (C : World → Prop) (w : World), Opn T C → RW P ops ef bk tq T Q (Sq.of l) a C → C w → wpOpsIn (FnR ro) 0 P ops Q l a w
  | [], _, _, w, _, h, hC => h w hC
  | i :: l, a, C, w, hO, h, hC => by
    rw [wpOpsIn_cons]
    refine wpOpIn_mono ?_ (wpOp_of_doesAt (RW.first hO h hC))
    rintro a' w' ⟨C', hO', hC', _, h⟩
    exact RW.text l a' C' w' hO' h hC'

/-- 'i' comes surely before 'j' (by a table of bits). -/
def rel (Tb : Array Nat) (i j : Nat) : Bool := (Tb.getD j 0).testBit i

def boundOf (o : Oper) : List Nat := (o.after.toList.filter (fun e => Region.binds .any e)).map (·.on)
def boundAt (ops : Array Oper) (j : Nat) : List Nat := match ops[j]? with | some o => boundOf o | none => []

/-- The table is closed: what it says comes of the edges. -/
def closedT (ops : Array Oper) (Tb : Array Nat) : Bool :=
  (List.range ops.size).all fun j => (boundAt ops j).all (fun k => Nat.blt k j) &&
    (List.range ops.size).all fun i => !rel Tb i j || (boundAt ops j).any (fun k => k == i || rel Tb i k)

def apartAt (ops : Array Oper) (i j : Nat) : Bool := match ops[i]?, ops[j]? with | some x, some y => x.apart ops y | _, _ => false

def pureAt (ops : Array Oper) (i : Nat) : Bool := match ops[i]? with | some x => pureOp x.op | none => false
def pairOk (ops : Array Oper) (Tb : Array Nat) (ef bk tq : List Nat) (i j : Nat) : Bool :=
  rel Tb i j || (apartAt ops i j && !ef.contains i && (!bk.contains j || pureAt ops i || tq.contains i))

/-- The order serves: what stands ahead may be passed by whatever is ready; where it may not, there is a fork. -/
def okS (ops : Array Oper) (Tb : Array Nat) (ef bk tq : List Nat) : List Nat → Sq → Bool
  | rem, .nil => rem.isEmpty
  | rem, .cons i l => rem.contains i && (boundAt ops i).all (fun k => !rem.contains k) && (rem.erase i).all (fun k => pairOk ops Tb ef bk tq i k) && okS ops Tb ef bk tq (rem.erase i) l
  | rem, .fork ks f => rem.all (fun j => ks.contains j || (boundAt ops j).any (fun k => rem.contains k)) && ks.all (fun k => okS ops Tb ef bk tq (rem.erase k) (f k)) && !rem.isEmpty

def chk (ops : Array Oper) (s : Sq) (ef bk tq : List Nat) : Bool :=
  closedT ops (Region.before ops) && okS ops (Region.before ops) ef bk tq (List.range ops.size) s && Region.noSelect ops

theorem closedT_lt {Tb : Array Nat} (h : closedT ops Tb = true) {j k : Nat} (hj : j < ops.size) (hk : k ∈ boundAt ops j) : k < j := by
  simp only [closedT, List.all_eq_true, List.mem_range, Bool.and_eq_true] at h
  have := (h j hj).1 k hk
  simpa using this

theorem closedT_rel {Tb : Array Nat} (h : closedT ops Tb = true) {i j : Nat} (hi : i < ops.size) (hj : j < ops.size) (hr : rel Tb i j = true) : ∃ k ∈ boundAt ops j, k = i ∨ rel Tb i k = true := by
  simp only [closedT, List.all_eq_true, List.mem_range, Bool.and_eq_true] at h
  have := (h j hj).2 i hi
  simp only [hr, Bool.not_true, Bool.false_or, List.any_eq_true, Bool.or_eq_true, beq_iff_eq] at this
  exact this

/-- What is not in the rest has nothing of the rest ahead of it. -/
theorem rel_out {Tb : Array Nat} (h : closedT ops Tb = true) {l : List Nat} (hd : ∀ j, j < ops.size → j ∉ l → ∀ k ∈ boundAt ops j, k ∉ l) {i : Nat} (hi : i < ops.size) (hil : i ∈ l) :
    ∀ j, j < ops.size → j ∉ l → rel Tb i j = false := by
  intro j
  induction j using Nat.strongRecOn with
  | _ j ih =>
    intro hj hjl
    cases hr : rel Tb i j
    · rfl
    · obtain ⟨k, hk, h'⟩ := closedT_rel h hi hj hr
      have hkl := hd j hj hjl k hk
      rcases h' with rfl | h'
      · exact absurd hil hkl
      · have hlt := closedT_lt h hj hk
        rw [ih k hlt (by omega) hkl] at h'
        cases h'

theorem mem_boundAt {j k : Nat} {o : Oper} (ho : ops[j]? = some o) : k ∈ boundAt ops j ↔ ∃ e ∈ o.after, Region.binds .any e = true ∧ e.on = k := by
  simp [boundAt, ho, boundOf, and_assoc]

/-- What is ready may be taken first. -/
theorem RW.move {Tb : Array Nat} (hs : Region.noSelect ops = true) (hT : closedT ops Tb = true) : ∀ (s : Sq) (rem : List Nat), okS ops Tb ef bk tq rem s = true → rem.Nodup → (∀ j ∈ rem, j < ops.size) →
    (∀ j, j < ops.size → j ∉ rem → ∀ k ∈ boundAt ops j, k ∉ rem) → ∀ j ∈ rem, (∀ k ∈ boundAt ops j, k ∉ rem) →
    ∃ s', okS ops Tb ef bk tq (rem.erase j) s' = true ∧ ∀ a C w, Opn T C → RW P ops ef bk tq T Q s a C → C w →
      doesAt P ops j a w (fun a' w' => ∃ C' : World → Prop, Opn T C' ∧ C' w' ∧ (j ∉ bk → ∀ w, C' w → C w) ∧ RW P ops ef bk tq T Q s' a' C') := by
  intro s
  induction s with
  | nil =>
    intro rem hok _ _ _ j hj
    simp only [okS, List.isEmpty_iff] at hok
    subst hok; cases hj
  | fork ks f _ =>
    intro rem hok _ _ _ j hj hr
    simp only [okS, Bool.and_eq_true, List.all_eq_true, Bool.or_eq_true, List.any_eq_true, List.contains_eq_mem, decide_eq_true_eq] at hok
    have hjk : j ∈ ks := by
      rcases hok.1.1 j hj with h | ⟨k, hk, hkr⟩
      · exact h
      · exact absurd hkr (hr k hk)
    exact ⟨f j, hok.1.2 j hjk, fun a C w hO h hC => RW.first hO (h j hjk) hC⟩
  | cons i l ih =>
    intro rem hok hnd hlt hd j hj hr
    simp only [okS, Bool.and_eq_true, List.all_eq_true, List.contains_eq_mem, decide_eq_true_eq, Bool.not_eq_true', decide_eq_false_iff_not] at hok
    obtain ⟨⟨⟨hi, hib⟩, hpair⟩, hl⟩ := hok
    by_cases hij : i = j
    · subst hij
      exact ⟨l, hl, fun a C w hO h hC => RW.first hO h hC⟩
    have hji : j ∈ rem.erase i := (hnd.mem_erase_iff).2 ⟨Ne.symm hij, hj⟩
    have hsub : ∀ k, k ∉ rem → k ∉ rem.erase i := fun k hk h => hk (List.mem_of_mem_erase h)
    obtain ⟨s1, hs1, H1⟩ := ih (rem.erase i) hl (hnd.erase i) (fun k hk => hlt k (List.mem_of_mem_erase hk)) (fun k hk hkn m hm => by
      by_cases hkr : k ∈ rem
      · have : k = i := Classical.byContradiction fun hne => hkn ((hnd.mem_erase_iff).2 ⟨hne, hkr⟩)
        subst this
        exact hsub m (hib m hm)
      · exact hsub m (hd k hk hkr m hm)) j hji (fun k hk => hsub k (hr k hk))
    have hrel : rel Tb i j = false := by
      cases hr' : rel Tb i j
      · rfl
      · obtain ⟨k, hk, h'⟩ := closedT_rel hT (hlt i hi) (hlt j hj) hr'
        have hkl := hr k hk
        rcases h' with rfl | h'
        · exact absurd hi hkl
        · have hlt2 := closedT_lt hT (hlt j hj) hk
          have := hlt j hj
          rw [rel_out hT hd (hlt i hi) hi k (by omega) hkl] at h'
          cases h'
    have hp := hpair j hji
    simp only [pairOk, hrel, Bool.false_or, Bool.and_eq_true, Bool.not_eq_true', Bool.or_eq_true] at hp
    obtain ⟨⟨hap, hief⟩, hjbk⟩ := hp
    have hief' : i ∉ ef := by simpa using hief
    refine ⟨.cons i s1, ?_, fun a C w hO h hC => ?_⟩
    · simp only [okS, Bool.and_eq_true, List.all_eq_true, List.contains_eq_mem, decide_eq_true_eq, Bool.not_eq_true', decide_eq_false_iff_not]
      refine ⟨⟨⟨(hnd.mem_erase_iff).2 ⟨hij, hi⟩, fun k hk h => hib k hk (List.mem_of_mem_erase h)⟩, fun k hk => hpair k ?_⟩, ?_⟩
      · rw [List.erase_comm] at hk; exact List.mem_of_mem_erase hk
      · rw [List.erase_comm]; exact hs1
    obtain ⟨oi, hoi, h⟩ := h
    cases hoj : ops[j]? with
    | none => simp [apartAt, hoi, hoj] at hap
    | some oj =>
    simp only [apartAt, hoi, hoj] at hap
    obtain ⟨h1, h2, h3⟩ := Oper.apart_spec hap
    have hsi := Region.noSelect_spec hs
    -- 'i' is quiet, or not wanted: in either case its value is 'v' wherever it is carried out
    have key : ∀ v : Value, (∀ u : Value, ∀ C' : World → Prop, (∀ w, C' w → T w) → (j ∉ bk → ∀ w, C' w → C w) → RW P ops ef bk tq T Q s1 ((a.put oj.dst u).put oi.dst v) C' → RW P ops ef bk tq T Q (.cons i s1) (a.put oj.dst u) C') →
        RW P ops ef bk tq T Q l (a.put oi.dst v) C →
        doesAt P ops j a w (fun a' w' => ∃ C' : World → Prop, Opn T C' ∧ C' w' ∧ (j ∉ bk → ∀ w, C' w → C w) ∧ RW P ops ef bk tq T Q (.cons i s1) a' C') := by
      intro v hq hr
      obtain ⟨o, ho, ih⟩ := H1 (a.put oi.dst v) C w hO hr hC
      obtain rfl : o = oj := by rw [hoj] at ho; exact (Option.some.inj ho).symm
      refine ⟨o, ho, ?_⟩
      rw [wanted_put o a oi.dst v h1, does_congr (execOp_put o (fun cs b => hsi j o cs b hoj) a oi.dst v h1)] at ih
      have comm : ∀ u, (a.put oi.dst v).put o.dst u = (a.put o.dst u).put oi.dst v := fun u => Act.put_comm a v u h2
      have fin : ∀ u w', (∃ C' : World → Prop, Opn T C' ∧ C' w' ∧ (j ∉ bk → ∀ w, C' w → C w) ∧ RW P ops ef bk tq T Q s1 ((a.put oi.dst v).put o.dst u) C') →
          ∃ C' : World → Prop, Opn T C' ∧ C' w' ∧ (j ∉ bk → ∀ w, C' w → C w) ∧ RW P ops ef bk tq T Q (.cons i s1) (a.put o.dst u) C' := fun u w' ⟨C', c0, c1, c2, c3⟩ =>
        ⟨C', c0, c1, c2, hq u C' c0.2 c2 (by rw [← comm]; exact c3)⟩
      rcases ih with ⟨hw, ih⟩ | ⟨hw, ih⟩
      · exact .inl ⟨hw, fin _ _ ih⟩
      · exact .inr ⟨hw, does_mono (fun u w' h => fin u w' h) ih⟩
    rcases h with ⟨hw, h⟩ | ⟨hw, h⟩
    · refine key undef (fun u C' _ _ hl => ⟨oi, hoi, .inl ⟨?_, hl⟩⟩) h
      rw [wanted_put oi a oj.dst u h3]; exact hw
    · rcases h with ⟨v, hq, h⟩ | ⟨hi', _⟩
      · refine key v (fun u C' hcT hm hl => ⟨oi, hoi, .inr ⟨?_, .inl ⟨v, ?_, hl⟩⟩⟩) h
        · rw [wanted_put oi a oj.dst u h3]; exact hw
        · intro w1 hw1
          rw [does_congr (execOp_put oi (fun cs b => hsi i oi cs b hoi) a oj.dst u h3)]
          refine hq w1 ?_
          rcases hw1 with hw1 | hw1
          · exact .inl hw1
          · rcases hw1 with hw1 | hw1
            · exact .inr (.inl hw1)
            rcases hjbk with (hb | hb) | hb
            · exact .inr (.inr (hm (by simpa using hb) w1 hw1))
            · exact .inl (by simpa [pureAt, hoi] using hb)
            · exact .inr (.inl ⟨by simpa using hb, hcT w1 hw1⟩)
      · exact absurd hi' hief'

/-- Whatever order the rest comes in. -/
theorem RW.rest {Tb : Array Nat} (hs : Region.noSelect ops = true) (hT : closedT ops Tb = true) : ∀ (n : Nat) (s : Sq) (rem : List Nat) (listed : Array Bool) (a : Act) (C : World → Prop) (w : World), rem.length = n →
    listed.size = ops.size → rem.Nodup → (∀ j, j < ops.size → (listed.getD j true = false ↔ j ∈ rem)) → (∀ j ∈ rem, j < ops.size) → (∀ j, j < ops.size → j ∉ rem → ∀ k ∈ boundAt ops j, k ∉ rem) →
    okS ops Tb ef bk tq rem s = true → Opn T C → RW P ops ef bk tq T Q s a C → C w → wpAnyIn (FnR ro) 0 P .any ops Q n listed a w
  | n, s, rem, listed, a, C, w, hn, hsz, hnd, hl, hlt, hd, hok, hO, h, hC => by
    have hready : ∀ j, j ∈ Region.ready .any ops listed ↔ j ∈ rem ∧ ∀ k ∈ boundAt ops j, k ∉ rem := by
      intro j
      rw [mem_ready]
      constructor
      · rintro ⟨h0, o, ho, hall⟩
        have hj : j < ops.size := (Array.getElem?_eq_some_iff.1 ho).1
        refine ⟨(hl j hj).1 h0, fun k hk hkl => ?_⟩
        obtain ⟨e, he, hb, rfl⟩ := (mem_boundAt ho).1 hk
        have h1 := hall e he hb
        have h2 := (hl e.on (hlt _ hkl)).2 hkl
        have h3 := hlt _ hkl
        have : e.on < listed.size := by omega
        simp [this] at h1 h2
        rw [h1] at h2; cases h2
      · rintro ⟨hj, hk⟩
        have hj' := hlt j hj
        refine ⟨(hl j hj').2 hj, ops[j], by simp [hj'], fun e he hb => ?_⟩
        have hmem : e.on ∈ boundAt ops j := (mem_boundAt (by simp [hj'])).2 ⟨e, he, hb, rfl⟩
        have hlt2 := closedT_lt hT hj' hmem
        have hnl := hk _ hmem
        have h2 : ¬ listed.getD e.on true = false := fun h => hnl ((hl e.on (by omega)).1 h)
        have : e.on < listed.size := by omega
        simp [this] at h2 ⊢
        exact h2
    cases n with
    | zero =>
      obtain rfl : rem = [] := List.length_eq_zero_iff.1 hn
      refine ⟨?_, ?_⟩
      · refine List.eq_nil_iff_forall_not_mem.2 fun j hj => ?_
        have := ((hready j).1 hj).1
        cases this
      · cases s with
        | nil => exact h w hC
        | cons i l => simp [okS] at hok
        | fork ks f => simp [okS] at hok
    | succ n =>
      refine ⟨fun h0 => ?_, fun j hj => ?_⟩
      · -- the least of the rest is ready
        have hex : ∀ m, (∃ j ∈ rem, j ≤ m) → ∃ j ∈ rem, ∀ k ∈ boundAt ops j, k ∉ rem := by
          intro m
          induction m with
          | zero =>
            rintro ⟨j, hj, hjm⟩
            exact ⟨j, hj, fun k hk _ => by have := closedT_lt hT (hlt j hj) hk; omega⟩
          | succ m ihm =>
            rintro ⟨j, hj, hjm⟩
            by_cases hk : ∃ k ∈ boundAt ops j, k ∈ rem
            · obtain ⟨k, hk, hkr⟩ := hk
              have := closedT_lt hT (hlt j hj) hk
              exact ihm ⟨k, hkr, by omega⟩
            · exact ⟨j, hj, fun k hkb hkr => hk ⟨k, hkb, hkr⟩⟩
        cases rem with
        | nil => simp at hn
        | cons i t =>
          obtain ⟨j, hj, hjb⟩ := hex i ⟨i, by simp, Nat.le_refl _⟩
          have : j ∈ Region.ready .any ops listed := (hready j).2 ⟨hj, hjb⟩
          rw [h0] at this; cases this
      · obtain ⟨hjl, hjk⟩ := (hready j).1 hj
        have hj' := hlt j hjl
        obtain ⟨s', hok', H⟩ := RW.move (P := P) (Q := Q) hs hT s rem hok hnd hlt hd j hjl hjk
        refine wpOpIn_mono ?_ (wpOp_of_doesAt (H a C w hO h hC))
        rintro a' w' ⟨C', hO', hC', _, h'⟩
        refine RW.rest hs hT n s' (rem.erase j) (listed.setIfInBounds j true) a' C' w' (by rw [List.length_erase_of_mem hjl, hn]; rfl) (by simpa using hsz) (hnd.erase j) ?_ (fun k hk => hlt k (List.mem_of_mem_erase hk)) ?_ hok' hO' h' hC'
        · intro k hk
          rw [hnd.mem_erase_iff]
          by_cases hkj : k = j
          · subst hkj; simp [hsz, hk]
          · rw [getD_set_ne true (Ne.symm hkj), hl k hk]; simp [hkj]
        · intro k hk hkn m hmk hmm
          have hmm' := List.mem_of_mem_erase hmm
          by_cases hkj : k = j
          · subst hkj; exact hjk m hmk hmm'
          · exact hd k hk (fun hkl => hkn ((hnd.mem_erase_iff).2 ⟨hkj, hkl⟩)) m hmk hmm'
  termination_by n => n

/-- A region that draws its order. -/
theorem RW.any {s : Sq} {a : Act} {C : World → Prop} {w : World} (hc : chk ops s ef bk tq = true) (hO : Opn T C) (h : RW P ops ef bk tq T Q s a C) (hC : C w) :
    wpAnyIn (FnR ro) 0 P .any ops Q ops.size (Array.replicate ops.size false) a w := by
  simp only [chk, Bool.and_eq_true] at hc
  obtain ⟨⟨hT, hok⟩, hs⟩ := hc
  exact RW.rest (P := P) (Q := Q) (ef := ef) (bk := bk) hs hT ops.size s (List.range ops.size) (Array.replicate ops.size false) a C w (by simp) (by simp) List.nodup_range
    (fun j hj => by simp [hj]) (fun j hj => by simpa using hj) (fun j hj hn => absurd (by simpa using hj) hn) hok hO h hC

end Go.PK

/-
  PK, part B: a walk whose state is three lists: what the slots hold (E), what memory is told of and turns no more (I), what memory is one's own (H).
-/
namespace Go.PK

abbrev Env := List (Nat × Value)

def Env.get : Env → Nat → Option Value
  | [], _ => none
  | (k, v) :: r, n => bif Nat.beq k n then some v else Env.get r n

def Env.ev (E : Env) : Operand → Option Value
  | .tmp t => E.get t
  | .const v => some v
  | .global g => some (.pointer (some ⟨g, 0, none⟩))
  | .func f => some (.func (.func f) #[] #[])

def evs (E : Env) : List Operand → Option (List Value)
  | [] => some []
  | x :: r => match E.ev x, evs E r with
    | some v, some vs => some (v :: vs)
    | _, _ => none

def nth {α : Type} : List α → Nat → Option α
  | [], _ => none
  | x :: _, 0 => some x
  | _ :: l, n + 1 => nth l n

theorem nth_eq {α : Type} : ∀ (l : List α) (i : Nat), nth l i = l[i]?
  | [], _ => by simp [nth]
  | _ :: _, 0 => by simp [nth]
  | _ :: l, n + 1 => by simp [nth, nth_eq l n]

/-- A frame: how many slots; the marks of loops over functions; the round that it is in. -/
structure Fm where
  n : Nat
  ds : List Deferred
  ro : Option Nat
/-- What a frame is known to hold. -/
structure Ag (N : Fm) (a : Act) (E : Env) : Prop where
  d : a.defers = N.ds
  n : a.tmps.size = N.n
  t : ∀ k v, E.get k = some v → a.tmps[k]? = some v

theorem Ag.ev {N : Fm} {a : Act} {E : Env} (h : Ag N a E) {x : Operand} {v : Value} (hx : E.ev x = some v) : a.eval x = v := by
  cases x with
  | tmp t => simp [Act.eval, h.t t v hx]
  | const u => exact Option.some.inj hx
  | global g => exact Option.some.inj hx
  | func f => exact Option.some.inj hx

theorem Ag.evs {N : Fm} {a : Act} {E : Env} (h : Ag N a E) : ∀ {xs : List Operand} {vs : List Value}, evs E xs = some vs → xs.map a.eval = vs
  | [], vs, hx => by cases hx; rfl
  | x :: r, vs, hx => by
    unfold PK.evs at hx
    split at hx
    · rename_i v vs' h1 h2
      cases hx
      rw [List.map_cons, h.ev h1, h.evs h2]
    · cases hx

theorem Ag.put {N : Fm} {a : Act} {E : Env} (h : Ag N a E) {d : Nat} (hd : Nat.blt d N.n = true) (v : Value) : Ag N (a.put (some d) v) ((d, v) :: E) := by
  have hlt : d < a.tmps.size := by rw [h.n]; simpa using hd
  refine ⟨h.d, by simp [Act.put, h.n], fun k u hk => ?_⟩
  unfold Env.get at hk
  cases he : Nat.beq d k
  · simp only [he, cond_false] at hk
    have hne : d ≠ k := by intro e; subst e; simp at he
    simp only [Act.put]
    rw [Array.getElem?_setIfInBounds_ne hne]
    exact h.t k u hk
  · simp only [he, cond_true, Option.some.injEq] at hk
    have : d = k := by simpa using he
    subst this; subst hk
    simp [Act.put, hlt]

/-- Fewer slots. -/
inductive Sub (E : Env) : Env → Prop
  | nil : Sub E []
  | cons {k : Nat} {v : Value} {E' : Env} (h : E.get k = some v) (r : Sub E E') : Sub E ((k, v) :: E')

theorem Sub.get {E E' : Env} (h : Sub E E') : ∀ k v, E'.get k = some v → E.get k = some v := by
  induction h with
  | nil => intro k v hk; cases hk
  | cons h r ih =>
    rename_i k0 v0 E'
    intro k v hk
    unfold Env.get at hk
    cases he : Nat.beq k0 k
    · simp only [he, cond_false] at hk; exact ih k v hk
    · simp only [he, cond_true, Option.some.injEq] at hk
      have : k0 = k := by simpa using he
      subst this; subst hk; exact h

theorem Ag.sub {N : Fm} {a : Act} {E E' : Env} (h : Ag N a E) (s : Sub E E') : Ag N a E' := ⟨h.d, h.n, fun k v hk => h.t k v (s.get k v hk)⟩

/-- A thing in memory: which blocks it lies in, and what is true of them. -/
structure It where
  bs : List Nat
  A : World → Prop
  fr : ∀ w w', (∀ b ∈ bs, w'.heap[b]? = w.heap[b]?) → A w → A w'
  lt : ∀ w, A w → ∀ b ∈ bs, b < w.heap.size

def bss (H : List It) : List Nat := H.flatMap It.bs

@[simp] theorem bss_nil : bss [] = [] := rfl
@[simp] theorem bss_cons (x : It) (H : List It) : bss (x :: H) = x.bs ++ bss H := rfl
@[simp] theorem bss_append (H H' : List It) : bss (H ++ H') = bss H ++ bss H' := by simp [bss]
theorem mem_bss {H : List It} {b : Nat} : b ∈ bss H ↔ ∃ x ∈ H, b ∈ x.bs := by simp [bss]

/-- A block of cells, known whole. -/
def cel (b : Nat) (cs : List Value) (T : TypeId) : It where
  bs := [b]
  A w := w.heap[b]? = some (.cells cs.toArray T (0, 0))
  fr w w' h hA := by rw [h b (by simp)]; exact hA
  lt w hA c hc := by
    have : c = b := by simpa using hc
    subst this
    exact (Array.getElem?_eq_some_iff.1 hA).1

/-- Any other block (a map, ..), known whole. -/
def blk (b : Nat) (o : Obj) : It where
  bs := [b]
  A w := w.heap[b]? = some o
  fr w w' h hA := by rw [h b (by simp)]; exact hA
  lt w hA c hc := by
    have : c = b := by simpa using hc
    subst this
    exact (Array.getElem?_eq_some_iff.1 hA).1

structure Sat (I H : List It) (w : World) : Prop where
  i : ∀ x ∈ I, x.A w
  h : ∀ x ∈ H, x.A w
  nd : (bss H).Nodup
  dj : ∀ b ∈ bss I, b ∉ bss H

/-- The worlds of a walk that began at 'w0' with the blocks 'S' for its own. -/
structure Cls (w0 : World) (S : List Nat) (I H : List It) (w : World) : Prop where
  k : Keeps S w0 w
  s : Sat I H w
  own : ∀ b ∈ bss H, b < w0.heap.size → b ∈ S

theorem It.grow {S : List Nat} {x : It} {w w' : World} (h : x.A w) (hg : Keeps S w w') (hS : ∀ b ∈ x.bs, b ∉ S) : x.A w' :=
  x.fr w w' (fun b hb => hg.block b (x.lt w h b hb) (hS b hb)) h

theorem Sat.grow {I H : List It} {w w' : World} (h : Sat I H w) (hg : Grow w w') : Sat I H w' :=
  ⟨fun x hx => It.grow (h.i x hx) hg (by simp), fun x hx => It.grow (h.h x hx) hg (by simp), h.nd, h.dj⟩

theorem Cls.open (w0 : World) (S : List Nat) (I H : List It) : Open (Cls w0 S I H) := fun _ _ h hg => ⟨h.k.trans (hg.mono (by simp)), h.s.grow hg, h.own⟩

/-- Fewer things. -/
inductive Les : List It → List It → Prop
  | nil : Les [] []
  | keep {x : It} {H H' : List It} (h : Les H H') : Les (x :: H) (x :: H')
  | drop {x : It} {H H' : List It} (h : Les H H') : Les (x :: H) H'

theorem Les.mem {H H' : List It} (h : Les H H') : ∀ x ∈ H', x ∈ H := by
  induction h with
  | nil => simp
  | keep h ih => intro x hx; rcases List.mem_cons.1 hx with rfl | hx; · simp
                 · simp [ih x hx]
  | drop h ih => intro x hx; simp [ih x hx]

theorem Les.sublist {H H' : List It} (h : Les H H') : (bss H').Sublist (bss H) := by
  induction h with
  | nil => exact List.Sublist.refl _
  | keep h ih => simp only [bss_cons]; exact ih.append_left _
  | drop h ih => simp only [bss_cons]; exact ih.trans (List.sublist_append_right _ _)

theorem Les.refl : ∀ H : List It, Les H H
  | [] => .nil
  | _ :: H => .keep (Les.refl H)

theorem Sat.les {I H I' H' : List It} {w : World} (h : Sat I H w) (hi : ∀ x ∈ I', x ∈ I) (hh : Les H H') : Sat I' H' w :=
  ⟨fun x hx => h.i x (hi x hx), fun x hx => h.h x (hh.mem x hx), h.nd.sublist hh.sublist, fun b hb hb' => by
    obtain ⟨x, hx, hbx⟩ := mem_bss.1 hb
    exact h.dj b (mem_bss.2 ⟨x, hi x hx, hbx⟩) (hh.sublist.subset hb')⟩

theorem Cls.les {w0 : World} {S : List Nat} {I H I' H' : List It} {w : World} (h : Cls w0 S I H w) (hi : ∀ x ∈ I', x ∈ I) (hh : Les H H') : Cls w0 S I' H' w :=
  ⟨h.k, h.s.les hi hh, fun b hb => h.own b (hh.sublist.subset hb)⟩

/-! ### The judgements -/

def NQ (Q : Exit → Act → World → Prop) (N : Fm) (E : Env) (w0 : World) (S : List Nat) (I H : List It) : Prop := ∀ a w, Ag N a E → Cls w0 S I H w → Q .normal a w
def XQ (Q : Exit → Act → World → Prop) (id : Nat) (N : Fm) (E : Env) (w0 : World) (S : List Nat) (I H : List It) : Prop := ∀ a w, Ag N a E → Cls w0 S I H w → Q (.exit id) a w
def RQ (Q : Exit → Act → World → Prop) (N : Fm) (E : Env) (w0 : World) (S : List Nat) (I H : List It) : Prop := ∀ a w, Ag N a E → Cls w0 S I H w → Q .ret a w
def CW (P : Program) (c : Code) (Q : Exit → Act → World → Prop) (N : Fm) (E : Env) (w0 : World) (S : List Nat) (I H : List It) : Prop :=
  ∀ a w, Ag N a E → Cls w0 S I H w → c.wpIn (FnR N.ro) 0 P Q a w
/-- Those operations of a region that hang on what was told ahead of it alone. -/
structure Tq where
  l : List Nat
  T : List It
def Tq.W (t : Tq) (w : World) : Prop := ∀ x ∈ t.T, x.A w
def RL (P : Program) (L : List Oper) (ef bk : List Nat) (tq : Tq) (Q : Exit → Act → World → Prop) (l : Sq) (N : Fm) (E : Env) (w0 : World) (S : List Nat) (I H : List It) : Prop :=
  (∀ x ∈ tq.T, x ∈ I) → ∀ a, Ag N a E → RW P L.toArray ef bk tq.l tq.W Q l a (Cls w0 S I H)
theorem Cls.opn {t : Tq} {w0 : World} {S : List Nat} {I H : List It} (h : ∀ x ∈ t.T, x ∈ I) : Opn t.W (Cls w0 S I H) := ⟨Cls.open w0 S I H, fun _ hw x hx => hw.s.i x (h x hx)⟩

section
variable {P : Program} {Q : Exit → Act → World → Prop} {N : Fm} {E : Env} {w0 : World} {S : List Nat} {I H : List It} {K : Act → World → Prop} {id id' : Nat} {c x y : Code}

theorem NQ.seq (h : CW P y Q N E w0 S I H) : NQ (Exit.then (fun a w => y.wpIn (FnR N.ro) 0 P Q a w) Q) N E w0 S I H := h
theorem NQ.block (h : NQ Q N E w0 S I H) : NQ (Exit.inBlock id Q) N E w0 S I H := h
theorem XQ.seq (h : XQ Q id N E w0 S I H) : XQ (Exit.then K Q) id N E w0 S I H := h
theorem XQ.hit (h : NQ Q N E w0 S I H) : XQ (Exit.inBlock id Q) id N E w0 S I H := fun a w ha hw => by simpa [Exit.inBlock] using h a w ha hw
theorem RQ.seq (h : RQ Q N E w0 S I H) : RQ (Exit.then K Q) N E w0 S I H := h
theorem RQ.block (h : RQ Q N E w0 S I H) : RQ (Exit.inBlock id Q) N E w0 S I H := h

theorem CW.seq (h : CW P x (Exit.then (fun a w => y.wpIn (FnR N.ro) 0 P Q a w) Q) N E w0 S I H) : CW P (.seq x y) Q N E w0 S I H := fun a w ha hw => wpIn_seq (h a w ha hw)
theorem CW.block (h : CW P c (Exit.inBlock id Q) N E w0 S I H) : CW P (.block id c) Q N E w0 S I H := fun a w ha hw => wpIn_block (h a w ha hw)
theorem CW.skip (h : NQ Q N E w0 S I H) : CW P .skip Q N E w0 S I H := fun a w ha hw => wpIn_skip (h a w ha hw)
theorem CW.exit (h : XQ Q id N E w0 S I H) : CW P (.exit id) Q N E w0 S I H := fun a w ha hw => wpIn_exit (h a w ha hw)
theorem CW.ret (h : RQ Q N E w0 S I H) : CW P .ret Q N E w0 S I H := fun a w ha hw => wpIn_ret (h a w ha hw)
theorem CW.cond {o : Operand} {t : Bool} (ho : E.ev o = some (.bool t)) (h1 : t = true → CW P x Q N E w0 S I H) (h2 : t = false → CW P y Q N E w0 S I H) : CW P (.cond o x y) Q N E w0 S I H :=
  fun a w ha hw => wpIn_cond_split (ha.ev ho) (fun h => h1 h a w ha hw) (fun h => h2 h a w ha hw)
theorem CW.condT {o : Operand} {t : Bool} (ho : E.ev o = some (.bool t)) (ht : t = true) (h : CW P x Q N E w0 S I H) : CW P (.cond o x y) Q N E w0 S I H :=
  fun a w ha hw => wpIn_cond_true (ht ▸ ha.ev ho) (h a w ha hw)
theorem CW.condF {o : Operand} {t : Bool} (ho : E.ev o = some (.bool t)) (ht : t = false) (h : CW P y Q N E w0 S I H) : CW P (.cond o x y) Q N E w0 S I H :=
  fun a w ha hw => wpIn_cond_false (ht ▸ ha.ev ho) (h a w ha hw)

/-- Only these slots are still wanted. -/
theorem CW.only {E' : Env} (s : Sub E E') (h : CW P c Q N E' w0 S I H) : CW P c Q N E w0 S I H := fun a w ha hw => h a w (ha.sub s) hw
/-- A fact that every world of the class shows. -/
theorem CW.fact {p : Prop} (hp : ∀ w, Cls w0 S I H w → p) (h : p → CW P c Q N E w0 S I H) : CW P c Q N E w0 S I H := fun a w ha hw => h (hp w hw) a w ha hw

theorem CW.region {rid : Nat} {L : List Oper} {ef bk : List Nat} (h : RL P L ef bk ⟨[], []⟩ Q (Sq.of (List.range L.length)) N E w0 S I H) : CW P (.region rid L.toArray false) Q N E w0 S I H := fun a w ha hw =>
  wpIn_region (by simpa using RW.text _ a _ w (Cls.opn (t := ⟨[], []⟩) (by simp)) (h (by simp) a ha) hw)

theorem CW.regionD {rid : Nat} {L : List Oper} (π : Sq) (ef bk tl : List Nat) (hm : P.follows .mixedOrders = true) (hc : chk L.toArray π ef bk tl = true) (h : RL P L ef bk ⟨tl, I⟩ Q π N E w0 S I H) :
    CW P (.region rid L.toArray true) Q N E w0 S I H := fun a _ ha hw =>
  wpIn_region_any hm (RW.any hc (Cls.opn (t := ⟨tl, I⟩) (fun _ h => h)) (h (fun _ h => h) a ha) (Cls.open w0 S I H _ _ hw (Keeps.drew _ _ _ (Nat.le_succ _))))

/-- A loop: 'g' tells how far it is. -/
theorem CW.loop {γ : Type} (good : γ → Prop) (Eg : γ → Env) (Ig Hg : γ → List It) (μ : γ → Nat) (g0 : γ) (h0 : good g0) (s : Sub E (Eg g0)) (hc : ∀ w, Cls w0 S I H w → Cls w0 S (Ig g0) (Hg g0) w)
    (round : ∀ g, good g → CW P c (Exit.then (fun a w => ∃ g', good g' ∧ μ g' < μ g ∧ Ag N a (Eg g') ∧ Cls w0 S (Ig g') (Hg g') w) Q) N (Eg g) w0 S (Ig g) (Hg g)) : CW P (.loop c) Q N E w0 S I H := by
  intro a w ha hw
  have key : ∀ m g a w, μ g < m → good g → Ag N a (Eg g) → Cls w0 S (Ig g) (Hg g) w → Code.roundsIn (FnR N.ro) 0 P c Q m a w := by
    intro m
    induction m with
    | zero => intro g a w h; exact absurd h (Nat.not_lt_zero _)
    | succ m ih =>
      intro g a w hm hg ha hw
      refine wpIn_mono (round g hg a w ha hw) ?_
      intro e a' w' hq
      cases e with
      | normal => obtain ⟨g', h1, h2, h3, h4⟩ := hq; exact ih g' a' w' (by omega) h1 h3 h4
      | exit id => exact hq
      | goto l => exact hq
      | ret => exact hq
      | panic ch => exact hq
      | outgrown => exact hq
  exact wpIn_loop_rounds (μ g0 + 1) (key _ g0 a w (Nat.lt_succ_self _) h0 (ha.sub s) (hc w hw))

/-- A round's end. -/
theorem NQ.round {γ : Type} {good : γ → Prop} {Eg : γ → Env} {Ig Hg : γ → List It} {μ : γ → Nat} {g : γ} (g' : γ) (h : good g') (hμ : μ g' < μ g) (s : Sub E (Eg g')) (hc : ∀ w, Cls w0 S I H w → Cls w0 S (Ig g') (Hg g') w) :
    NQ (Exit.then (fun a w => ∃ g', good g' ∧ μ g' < μ g ∧ Ag N a (Eg g') ∧ Cls w0 S (Ig g') (Hg g') w) Q) N E w0 S I H := fun _ _ ha hw => ⟨g', h, hμ, ha.sub s, hc _ hw⟩
end

/-! ### One operation -/

def wants (L : List Oper) (E : Env) (o : Oper) : Bool :=
  match o.guard with
  | none => true
  | some (j, want) => match nth L j with
    | some oj => match oj.dst with
      | some dj => match E.get dj with
        | some (.bool b) => b == want
        | _ => false
      | none => false
    | none => false

def unwants (L : List Oper) (E : Env) (o : Oper) : Bool :=
  match o.guard with
  | none => false
  | some (j, want) => match nth L j with
    | some oj => match oj.dst with
      | some dj => match E.get dj with
        | some (.bool b) => b != want
        | some (.tuple _) => true
        | _ => false
      | none => false
    | none => false

theorem wants_spec {L : List Oper} {E : Env} {o : Oper} {N : Fm} {a : Act} (h : wants L E o = true) (ha : Ag N a E) : Region.wanted o (yielded L.toArray a.tmps) = true := by
  unfold wants at h
  unfold Region.wanted
  split at h
  · rename_i hg; rw [hg]
  · rename_i j want hg
    rw [hg]
    split at h
    · rename_i oj hj
      split at h
      · rename_i dj hd
        split at h
        · rename_i b hb
          have hb' := ha.t _ _ hb
          simp only [beq_iff_eq] at h ⊢
          rw [nth_eq] at hj
          simp [yielded, hj, hd, hb', h]
        · cases h
      · cases h
    · cases h

theorem unwants_spec {L : List Oper} {E : Env} {o : Oper} {N : Fm} {a : Act} (h : unwants L E o = true) (ha : Ag N a E) : Region.wanted o (yielded L.toArray a.tmps) = false := by
  unfold unwants at h
  unfold Region.wanted
  split at h
  · cases h
  · rename_i j want hg
    rw [hg]
    split at h
    · rename_i oj hj
      split at h
      · rename_i dj hd
        split at h
        · rename_i b hb
          have hb' := ha.t _ _ hb
          rw [nth_eq] at hj
          simp only [yielded, List.getElem?_toArray, hj, Option.bind_some, hd, hb']
          simpa using h
        · rename_i hb
          have hb' := ha.t _ _ hb
          rw [nth_eq] at hj
          simp [yielded, List.getElem?_toArray, hj, hd, hb']
        · cases h
      · cases h
    · cases h

section
variable {P : Program} {L : List Oper} {ef bk : List Nat} {tq : Tq} {Q : Exit → Act → World → Prop} {N : Fm} {E : Env} {w0 : World} {S : List Nat} {I H : List It} {i : Nat} {l : Sq}

theorem RL.nil (h : NQ Q N E w0 S I H) : RL P L ef bk tq Q .nil N E w0 S I H := fun _ a ha w hw => h a w ha hw

/-- A fork: whatever comes next. -/
def AllK (p : Nat → Prop) : List Nat → Prop
  | [] => True
  | k :: r => p k ∧ AllK p r
theorem AllK.spec {p : Nat → Prop} : ∀ {ks : List Nat}, AllK p ks → ∀ k ∈ ks, p k
  | [], _, k, h => by cases h
  | a :: r, hp, k, h => by
    rcases List.mem_cons.1 h with rfl | h
    · exact hp.1
    · exact AllK.spec hp.2 k h
theorem RL.only {E' : Env} (s : Sub E E') (h : RL P L ef bk tq Q l N E' w0 S I H) : RL P L ef bk tq Q l N E w0 S I H := fun hT a ha => h hT a (ha.sub s)

/-- Slot 'd' holds a Bool that is not decided: part. -/
theorem RL.part {d : Nat} {b : Bool} (hd : E.get d = some (.bool b)) (h1 : b = true → RL P L ef bk tq Q l N ((d, .bool true) :: E) w0 S I H) (h2 : b = false → RL P L ef bk tq Q l N ((d, .bool false) :: E) w0 S I H) :
    RL P L ef bk tq Q l N E w0 S I H := by
  intro hT a ha
  have key : ∀ b', b = b' → Ag N a ((d, .bool b') :: E) := by
    rintro _ rfl
    refine ⟨ha.d, ha.n, fun k v hk => ?_⟩
    unfold Env.get at hk
    cases he : Nat.beq d k
    · simp only [he, cond_false] at hk; exact ha.t k v hk
    · simp only [he, cond_true, Option.some.injEq] at hk
      have : d = k := by simpa using he
      subst this; subst hk; exact ha.t d _ hd
  cases b
  · exact h2 rfl hT a (key _ rfl)
  · exact h1 rfl hT a (key _ rfl)

/-- 'b || c', where what reckons 'c' is quiet and wanted only where 'b' is false: one walk behind it. 'K': closes either way. -/
theorem RL.orB {d dp : Nat} {b c : Bool} {l' : Sq} {E' : Env} (hd : E.get d = some (.bool b)) (s : Sub E E')
    (h2 : b = false → (∀ E1, Sub E1 ((dp, .bool c) :: E') → RL P L ef bk tq Q l' N E1 w0 S I H) → RL P L ef bk tq Q l N ((d, .bool false) :: E) w0 S I H)
    (h1 : b = true → (∀ E1, Sub E1 ((dp, .bool true) :: E') → RL P L ef bk tq Q l' N E1 w0 S I H) → RL P L ef bk tq Q l N ((d, .bool true) :: E) w0 S I H)
    (k : RL P L ef bk tq Q l' N ((dp, .bool (b || c)) :: E') w0 S I H) : RL P L ef bk tq Q l N E w0 S I H :=
  RL.part hd (fun hb => h1 hb fun E1 s1 => by subst hb; exact RL.only s1 k) (fun hb => h2 hb fun E1 s1 => by subst hb; exact RL.only s1 k)
theorem RL.andB {d dp : Nat} {b c : Bool} {l' : Sq} {E' : Env} (hd : E.get d = some (.bool b)) (s : Sub E E')
    (h1 : b = true → (∀ E1, Sub E1 ((dp, .bool c) :: E') → RL P L ef bk tq Q l' N E1 w0 S I H) → RL P L ef bk tq Q l N ((d, .bool true) :: E) w0 S I H)
    (h2 : b = false → (∀ E1, Sub E1 ((dp, .bool false) :: E') → RL P L ef bk tq Q l' N E1 w0 S I H) → RL P L ef bk tq Q l N ((d, .bool false) :: E) w0 S I H)
    (k : RL P L ef bk tq Q l' N ((dp, .bool (b && c)) :: E') w0 S I H) : RL P L ef bk tq Q l N E w0 S I H :=
  RL.part hd (fun hb => h1 hb fun E1 s1 => by subst hb; exact RL.only s1 k) (fun hb => h2 hb fun E1 s1 => by subst hb; exact RL.only s1 k)

/-- Slot 'd' holds this, too. -/
theorem RL.cast {d : Nat} {v v' : Value} (hd : E.get d = some v) (hv : v = v') (h : RL P L ef bk tq Q l N ((d, v') :: E) w0 S I H) : RL P L ef bk tq Q l N E w0 S I H := by
  subst hv
  intro hT a ha
  refine h hT a ⟨ha.d, ha.n, fun k u hk => ?_⟩
  unfold Env.get at hk
  cases he : Nat.beq d k
  · simp only [he, cond_false] at hk; exact ha.t k u hk
  · simp only [he, cond_true, Option.some.injEq] at hk
    have : d = k := by simpa using he
    subst this; subst hk; exact ha.t d _ hd

theorem RL.skip {o : Oper} {d : Nat} (ho : nth L i = some o) (hw : unwants L E o = true) (hd : o.dst = some d) (hN : Nat.blt d N.n = true) (h : RL P L ef bk tq Q l N ((d, undef) :: E) w0 S I H) :
    RL P L ef bk tq Q (.cons i l) N E w0 S I H := fun hT a ha =>
  ⟨o, by rw [List.getElem?_toArray, ← nth_eq]; exact ho, .inl ⟨unwants_spec hw ha, by rw [hd]; exact h hT _ (ha.put hN _)⟩⟩

/-- An operation that yields one value in every world of the class, and keeps all memory. -/
theorem RL.quiet {o : Oper} {d : Nat} {v : Value} (ho : nth L i = some o) (hw : wants L E o = true) (hd : o.dst = some d) (hN : Nat.blt d N.n = true)
    (hv : ∀ a w, Ag N a E → Cls w0 S I H w → does P o a w (fun u w' => u = v ∧ Grow w w')) (h : RL P L ef bk tq Q l N ((d, v) :: E) w0 S I H) (hp : pureOp o.op = false := by rfl) (ht : tq.l.contains i = false := by rfl) : RL P L ef bk tq Q (.cons i l) N E w0 S I H := fun hT a ha =>
  ⟨o, by rw [List.getElem?_toArray, ← nth_eq]; exact ho, .inr ⟨wants_spec hw ha, .inl ⟨v, fun w hC => hv a w ha ((hC.resolve_left (by simp [hp])).resolve_left (fun h => by simp at ht; exact ht h.1)), by rw [hd]; exact h hT _ (ha.put hN _)⟩⟩⟩

/-- The like, where what was told ahead of the region is enough. -/
theorem RL.toldQ {o : Oper} {d : Nat} {v : Value} (ho : nth L i = some o) (hw : wants L E o = true) (hd : o.dst = some d) (hN : Nat.blt d N.n = true)
    (hv : ∀ a w, Ag N a E → (∀ x ∈ tq.T, x.A w) → does P o a w (fun u w' => u = v ∧ Grow w w')) (h : RL P L ef bk tq Q l N ((d, v) :: E) w0 S I H) (hp : pureOp o.op = false := by rfl) : RL P L ef bk tq Q (.cons i l) N E w0 S I H := fun hT a ha =>
  ⟨o, by rw [List.getElem?_toArray, ← nth_eq]; exact ho, .inr ⟨wants_spec hw ha, .inl ⟨v, fun w hC => hv a w ha ((hC.resolve_left (by simp [hp])).elim (·.2) (fun h x hx => h.s.i x (hT x hx))), by rw [hd]; exact h hT _ (ha.put hN _)⟩⟩⟩

theorem RL.toldV {o : Oper} {d : Nat} {v : Value} (ho : nth L i = some o) (hw : wants L E o = true) (hd : o.dst = some d) (hN : Nat.blt d N.n = true)
    (hv : ∀ a w, Ag N a E → (∀ x ∈ tq.T, x.A w) → (execOp a.eval o).run P w = .ok (.value v) w) (h : RL P L ef bk tq Q l N ((d, v) :: E) w0 S I H) (hp : pureOp o.op = false := by rfl) : RL P L ef bk tq Q (.cons i l) N E w0 S I H :=
  RL.toldQ ho hw hd hN (fun a w ha hC => by unfold does; rw [hv a w ha hC]; exact ⟨rfl, Keeps.refl _ _⟩) h hp

/-- The like, in any world. -/
theorem RL.pval {o : Oper} {d : Nat} {v : Value} (ho : nth L i = some o) (hw : wants L E o = true) (hd : o.dst = some d) (hN : Nat.blt d N.n = true)
    (hv : ∀ a w, Ag N a E → (execOp a.eval o).run P w = .ok (.value v) w) (h : RL P L ef bk tq Q l N ((d, v) :: E) w0 S I H) : RL P L ef bk tq Q (.cons i l) N E w0 S I H := fun hT a ha =>
  ⟨o, by rw [List.getElem?_toArray, ← nth_eq]; exact ho, .inr ⟨wants_spec hw ha, .inl ⟨v, fun w _ => by unfold does; rw [hv a w ha]; exact ⟨rfl, Keeps.refl _ _⟩, by rw [hd]; exact h hT _ (ha.put hN _)⟩⟩⟩

/-- The like, at an operation that is a value's. -/
theorem RL.val {o : Oper} {d : Nat} {v : Value} (ho : nth L i = some o) (hw : wants L E o = true) (hd : o.dst = some d) (hN : Nat.blt d N.n = true)
    (hv : ∀ a w, Ag N a E → Cls w0 S I H w → (execOp a.eval o).run P w = .ok (.value v) w) (h : RL P L ef bk tq Q l N ((d, v) :: E) w0 S I H) (hp : pureOp o.op = false := by rfl) (ht : tq.l.contains i = false := by rfl) : RL P L ef bk tq Q (.cons i l) N E w0 S I H :=
  RL.quiet ho hw hd hN (fun a w ha hC => by unfold does; rw [hv a w ha hC]; exact ⟨rfl, Keeps.refl _ _⟩) h hp ht

/-- An operation that turns the world. -/
theorem RL.eff {o : Oper} {d : Nat} (ho : nth L i = some o) (hw : wants L E o = true) (hi : ef.contains i = true) (hd : o.dst = some d) (hN : Nat.blt d N.n = true)
    (hv : ∀ a w, Ag N a E → Cls w0 S I H w → does P o a w (fun v w' => ∃ I' H', Cls w0 S I' H' w' ∧ (∀ x ∈ I, x ∈ I') ∧ (bk.contains i = false → ∀ w, Cls w0 S I' H' w → Cls w0 S I H w) ∧ RL P L ef bk tq Q l N ((d, v) :: E) w0 S I' H')) :
    RL P L ef bk tq Q (.cons i l) N E w0 S I H := fun hT a ha =>
  ⟨o, by rw [List.getElem?_toArray, ← nth_eq]; exact ho, .inr ⟨wants_spec hw ha, .inr ⟨by simpa using hi, fun w hC => does_mono (fun v w' ⟨I', H', h1, hs, h2, h3⟩ =>
    have hT' := fun x hx => hs x (hT x hx)
    ⟨Cls w0 S I' H', Cls.opn hT', h1, fun hb => h2 (by simpa using hb), by rw [hd]; exact h3 hT' _ (ha.put hN _)⟩) (hv a w ha hC)⟩⟩⟩

theorem RL.eff0 {o : Oper} (ho : nth L i = some o) (hw : wants L E o = true) (hi : ef.contains i = true) (hd : o.dst = none)
    (hv : ∀ a w, Ag N a E → Cls w0 S I H w → does P o a w (fun _ w' => ∃ I' H', Cls w0 S I' H' w' ∧ (∀ x ∈ I, x ∈ I') ∧ (bk.contains i = false → ∀ w, Cls w0 S I' H' w → Cls w0 S I H w) ∧ RL P L ef bk tq Q l N E w0 S I' H')) :
    RL P L ef bk tq Q (.cons i l) N E w0 S I H := fun hT a ha =>
  ⟨o, by rw [List.getElem?_toArray, ← nth_eq]; exact ho, .inr ⟨wants_spec hw ha, .inr ⟨by simpa using hi, fun w hC => does_mono (fun v w' ⟨I', H', h1, hs, h2, h3⟩ =>
    have hT' := fun x hx => hs x (hT x hx)
    ⟨Cls w0 S I' H', Cls.opn hT', h1, fun hb => h2 (by simpa using hb), by rw [hd]; exact h3 hT' _ ha⟩) (hv a w ha hC)⟩⟩⟩

end
end Go.PK

/-
  PK, part C: operations that touch no memory; calls; a function's contract.
-/
namespace Go.PK

section
variable {P : Program} {L : List Oper} {ef bk : List Nat} {tq : Tq} {Q : Exit → Act → World → Prop} {N : Fm} {E : Env} {w0 : World} {S : List Nat} {I H : List It} {i : Nat} {l : Sq}
variable {d : Nat} {x y z : Operand} {ty t yt : TypeId} {pos : String} {af : Array Edge} {g : Option (Nat × Bool)} {v : Value} {k k' : IntKind} {m n : Int}

/-- What an operator makes of two integers of one kind. -/
def ib : BinOp → IntKind → Int → Int → Option Value
  | .add, k, a, b => some (.int k (k.wrap (a + b)))
  | .sub, k, a, b => some (.int k (k.wrap (a - b)))
  | .mul, k, a, b => some (.int k (k.wrap (a * b)))
  | .and, k, a, b => some (.int k (k.wrap (BitVec.ofInt k.bits a &&& BitVec.ofInt k.bits b).toNat))
  | .or, k, a, b => some (.int k (k.wrap (BitVec.ofInt k.bits a ||| BitVec.ofInt k.bits b).toNat))
  | .xor, k, a, b => some (.int k (k.wrap (BitVec.ofInt k.bits a ^^^ BitVec.ofInt k.bits b).toNat))
  | .andNot, k, a, b => some (.int k (k.wrap (BitVec.ofInt k.bits a &&& ~~~BitVec.ofInt k.bits b).toNat))
  | .eql, _, a, b => some (.bool (a == b))
  | .neq, _, a, b => some (.bool (a != b))
  | .lss, _, a, b => some (.bool (decide (a < b)))
  | .leq, _, a, b => some (.bool (decide (a ≤ b)))
  | .gtr, _, a, b => some (.bool (decide (a > b)))
  | .geq, _, a, b => some (.bool (decide (a ≥ b)))
  | _, _, _, _ => none

theorem exec_bin {ρ : Operand → Value} {dst : Option Tmp} {op : BinOp} (hx : ρ x = .int k m) (hy : ρ y = .int k n) (hv : ib op k m n = some v) (w : World) :
    (execOp ρ ⟨dst, .binOp op t x y yt, ty, pos, af, g⟩).run P w = .ok (.value v) w := by
  cases op <;> simp only [ib, Option.some.injEq, reduceCtorEq] at hv <;> subst hv <;> simp [execOp, hx, hy, eqGuard, binOp, Op.intArith, Op.intBits, Op.intCmp]

theorem RL.bin {op : BinOp} (ho : nth L i = some ⟨some d, .binOp op t x y yt, ty, pos, af, g⟩) (hw : wants L E ⟨some d, .binOp op t x y yt, ty, pos, af, g⟩ = true) (hN : Nat.blt d N.n = true)
    (hx : E.ev x = some (.int k m)) (hy : E.ev y = some (.int k n)) (hv : ib op k m n = some v) (h : RL P L ef bk tq Q l N ((d, v) :: E) w0 S I H) : RL P L ef bk tq Q (.cons i l) N E w0 S I H :=
  RL.pval ho hw rfl hN (fun _ w ha => exec_bin (ha.ev hx) (ha.ev hy) hv w) h

/-- The like, its value written otherwise. -/
theorem RL.binX {op : BinOp} {v' : Value} (ho : nth L i = some ⟨some d, .binOp op t x y yt, ty, pos, af, g⟩) (hw : wants L E ⟨some d, .binOp op t x y yt, ty, pos, af, g⟩ = true) (hN : Nat.blt d N.n = true)
    (hx : E.ev x = some (.int k m)) (hy : E.ev y = some (.int k n)) (hv : ib op k m n = some v) (hc : v = v') (h : RL P L ef bk tq Q l N ((d, v') :: E) w0 S I H) : RL P L ef bk tq Q (.cons i l) N E w0 S I H :=
  RL.bin ho hw hN hx hy hv (hc ▸ h)

theorem wrapV_i64 {n : Int} (h1 : -9223372036854775808 ≤ n) (h2 : n ≤ 9223372036854775807) : Value.int .i64 (IntKind.i64.wrap n) = .int .i64 n := by
  have : IntKind.i64.wrap n = n := IntWalk.i64_in _ (by omega)
  rw [this]

theorem RL.quo (ho : nth L i = some ⟨some d, .binOp .quo t x y yt, ty, pos, af, g⟩) (hw : wants L E ⟨some d, .binOp .quo t x y yt, ty, pos, af, g⟩ = true) (hN : Nat.blt d N.n = true)
    (hx : E.ev x = some (.int k m)) (hy : E.ev y = some (.int k n)) (hn : n ≠ 0) (h : RL P L ef bk tq Q l N ((d, .int k (k.wrap (m.tdiv n))) :: E) w0 S I H) : RL P L ef bk tq Q (.cons i l) N E w0 S I H :=
  RL.pval ho hw rfl hN (fun _ w ha => by simp [execOp, ha.ev hx, ha.ev hy, eqGuard, binOp, Op.intDiv, hn]) h

theorem RL.rem (ho : nth L i = some ⟨some d, .binOp .rem t x y yt, ty, pos, af, g⟩) (hw : wants L E ⟨some d, .binOp .rem t x y yt, ty, pos, af, g⟩ = true) (hN : Nat.blt d N.n = true)
    (hx : E.ev x = some (.int k m)) (hy : E.ev y = some (.int k n)) (hn : n ≠ 0) (h : RL P L ef bk tq Q l N ((d, .int k (m.tmod n)) :: E) w0 S I H) : RL P L ef bk tq Q (.cons i l) N E w0 S I H :=
  RL.pval ho hw rfl hN (fun _ w ha => by simp [execOp, ha.ev hx, ha.ev hy, eqGuard, binOp, Op.intDiv, hn]) h

theorem RL.shl (s : Nat) (ho : nth L i = some ⟨some d, .binOp .shl t x y yt, ty, pos, af, g⟩) (hw : wants L E ⟨some d, .binOp .shl t x y yt, ty, pos, af, g⟩ = true) (hN : Nat.blt d N.n = true)
    (hx : E.ev x = some (.int k m)) (hy : E.ev y = some (.int k' n)) (hn : n = (s : Int)) (hs : s ≤ k.bits) (h : RL P L ef bk tq Q l N ((d, .int k (k.wrap (m * 2 ^ s))) :: E) w0 S I H) : RL P L ef bk tq Q (.cons i l) N E w0 S I H :=
  RL.pval ho hw rfl hN (fun _ w ha => by
    subst hn
    have : ¬ ((s : Int) < 0) := by omega
    simp [execOp, ha.ev hx, ha.ev hy, eqGuard, binOp, Op.shift, this, Nat.min_eq_left hs]) h

theorem RL.shr (s : Nat) (ho : nth L i = some ⟨some d, .binOp .shr t x y yt, ty, pos, af, g⟩) (hw : wants L E ⟨some d, .binOp .shr t x y yt, ty, pos, af, g⟩ = true) (hN : Nat.blt d N.n = true)
    (hx : E.ev x = some (.int k m)) (hy : E.ev y = some (.int k' n)) (hn : n = (s : Int)) (hs : s ≤ k.bits) (h : RL P L ef bk tq Q l N ((d, .int k (m.fdiv (2 ^ s))) :: E) w0 S I H) : RL P L ef bk tq Q (.cons i l) N E w0 S I H :=
  RL.pval ho hw rfl hN (fun _ w ha => by
    subst hn
    have : ¬ ((s : Int) < 0) := by omega
    simp [execOp, ha.ev hx, ha.ev hy, eqGuard, binOp, Op.shift, this, Nat.min_eq_left hs]) h

theorem RL.neg (ho : nth L i = some ⟨some d, .unOp .neg t x, ty, pos, af, g⟩) (hw : wants L E ⟨some d, .unOp .neg t x, ty, pos, af, g⟩ = true) (hN : Nat.blt d N.n = true)
    (hx : E.ev x = some (.int k m)) (h : RL P L ef bk tq Q l N ((d, .int k (k.wrap (0 - m))) :: E) w0 S I H) : RL P L ef bk tq Q (.cons i l) N E w0 S I H :=
  RL.pval ho hw rfl hN (fun _ w ha => by simp [execOp, ha.ev hx, Op.unary, Op.intArith]) h

/-- All bits turned. -/
def inv (k : IntKind) (m : Int) : Int := k.wrap (BitVec.ofInt k.bits (if k.signed then -1 else k.max) ^^^ BitVec.ofInt k.bits m).toNat

theorem RL.inv (ho : nth L i = some ⟨some d, .unOp .xor t x, ty, pos, af, g⟩) (hw : wants L E ⟨some d, .unOp .xor t x, ty, pos, af, g⟩ = true) (hN : Nat.blt d N.n = true)
    (hx : E.ev x = some (.int k m)) (h : RL P L ef bk tq Q l N ((d, .int k (inv k m)) :: E) w0 S I H) : RL P L ef bk tq Q (.cons i l) N E w0 S I H :=
  RL.pval ho hw rfl hN (fun _ w ha => by simp [execOp, ha.ev hx, Op.unary, Op.intBits, PK.inv]) h

theorem RL.conv (hs : ∀ w, (underlying t).run P w = .ok (.int k) w) (hd : ∀ w, (underlying yt).run P w = .ok (.int k') w) (ho : nth L i = some ⟨some d, .convert t yt x, ty, pos, af, g⟩) (hw : wants L E ⟨some d, .convert t yt x, ty, pos, af, g⟩ = true) (hN : Nat.blt d N.n = true)
    (hx : E.ev x = some (.int k m)) (h : RL P L ef bk tq Q l N ((d, .int k' (k'.wrap m)) :: E) w0 S I H) : RL P L ef bk tq Q (.cons i l) N E w0 S I H :=
  RL.pval ho hw rfl hN (fun _ w ha => by simp [execOp, ha.ev hx, convert, hs, hd, Conv.intToInt]) h

theorem exec_max {ρ : Operand → Value} {dst : Option Tmp} {ats : Array TypeId} (hx : ρ x = .int k m) (hy : ρ y = .int k n) (w : World) :
    (execOp ρ ⟨dst, .call ⟨.builtin .max, #[x, y], ats⟩, ty, pos, af, g⟩).run P w = .ok (.value (.int k (Max.max m n))) w := by
  simp only [BigFrame.execOp_builtin, BigFrame.builtin_max, List.map_toArray, List.map_cons, List.map_nil, hx, hy]
  have : (if n > m then n else m) = Max.max m n := by rw [Int.max_def]; split <;> split <;> omega
  simp [Builtin.max_, Builtin.max2, this]
theorem exec_min {ρ : Operand → Value} {dst : Option Tmp} {ats : Array TypeId} (hx : ρ x = .int k m) (hy : ρ y = .int k n) (w : World) :
    (execOp ρ ⟨dst, .call ⟨.builtin .min, #[x, y], ats⟩, ty, pos, af, g⟩).run P w = .ok (.value (.int k (Min.min m n))) w := by
  simp only [BigFrame.execOp_builtin, BigFrame.builtin_min, List.map_toArray, List.map_cons, List.map_nil, hx, hy]
  have : (if n < m then n else m) = Min.min m n := by rw [Int.min_def]; split <;> split <;> omega
  simp [Builtin.min_, Builtin.min2, this]
theorem exec_lenS {ρ : Operand → Value} {dst : Option Tmp} {e : TypeId} {p : Option Addr} {len cap : Nat} (hu : ∀ w, (underlying t).run P w = .ok (.slice e) w) (hx : ρ x = .slice p len cap) (w : World) :
    (execOp ρ ⟨dst, .call ⟨.builtin .len, #[x], #[t]⟩, ty, pos, af, g⟩).run P w = .ok (.value (.int .i64 len)) w := by
  simp only [BigFrame.execOp_builtin, BigFrame.builtin_len, List.map_toArray, List.map_cons, List.map_nil, hx]
  simp [Builtin.len_, goInt, hu]
theorem exec_lenStr {ρ : Operand → Value} {dst : Option Tmp} {s : ByteArray} (hu : ∀ w, (underlying t).run P w = .ok .string w) (hx : ρ x = .string s) (w : World) :
    (execOp ρ ⟨dst, .call ⟨.builtin .len, #[x], #[t]⟩, ty, pos, af, g⟩).run P w = .ok (.value (.int .i64 s.size)) w := by
  simp only [BigFrame.execOp_builtin, BigFrame.builtin_len, List.map_toArray, List.map_cons, List.map_nil, hx]
  simp [Builtin.len_, goInt, hu]

theorem RL.max {ats : Array TypeId} (ho : nth L i = some ⟨some d, .call ⟨.builtin .max, #[x, y], ats⟩, ty, pos, af, g⟩) (hw : wants L E ⟨some d, .call ⟨.builtin .max, #[x, y], ats⟩, ty, pos, af, g⟩ = true) (hN : Nat.blt d N.n = true)
    (hx : E.ev x = some (.int k m)) (hy : E.ev y = some (.int k n)) (h : RL P L ef bk tq Q l N ((d, .int k (Max.max m n)) :: E) w0 S I H) : RL P L ef bk tq Q (.cons i l) N E w0 S I H :=
  RL.pval ho hw rfl hN (fun _ w ha => exec_max (ha.ev hx) (ha.ev hy) w) h

theorem RL.min {ats : Array TypeId} (ho : nth L i = some ⟨some d, .call ⟨.builtin .min, #[x, y], ats⟩, ty, pos, af, g⟩) (hw : wants L E ⟨some d, .call ⟨.builtin .min, #[x, y], ats⟩, ty, pos, af, g⟩ = true) (hN : Nat.blt d N.n = true)
    (hx : E.ev x = some (.int k m)) (hy : E.ev y = some (.int k n)) (h : RL P L ef bk tq Q l N ((d, .int k (Min.min m n)) :: E) w0 S I H) : RL P L ef bk tq Q (.cons i l) N E w0 S I H :=
  RL.pval ho hw rfl hN (fun _ w ha => exec_min (ha.ev hx) (ha.ev hy) w) h

theorem RL.lenS {e : TypeId} {p : Option Addr} {len cap : Nat} (hu : ∀ w, (underlying t).run P w = .ok (.slice e) w) (ho : nth L i = some ⟨some d, .call ⟨.builtin .len, #[x], #[t]⟩, ty, pos, af, g⟩) (hw : wants L E ⟨some d, .call ⟨.builtin .len, #[x], #[t]⟩, ty, pos, af, g⟩ = true) (hN : Nat.blt d N.n = true)
    (hx : E.ev x = some (.slice p len cap)) (h : RL P L ef bk tq Q l N ((d, .int .i64 len) :: E) w0 S I H) : RL P L ef bk tq Q (.cons i l) N E w0 S I H :=
  RL.pval ho hw rfl hN (fun _ w ha => exec_lenS hu (ha.ev hx) w) h

end

/-! ### Calls -/

/-- A function's contract: handed 'args' where the things 'I' (told) and 'H' (its own) are in memory, it returns; 'R' tells what, and which things are told and its own then. -/
def Spc (P : Program) (f : FuncId) (args : Array Value) (I H : List It) (R : Value → List It → List It → Prop) : Prop :=
  ∀ w, Sat I H w → Calls P f args w (fun e w' => ∃ v I' H', e = .returned v ∧ R v I' H' ∧ Keeps (bss H) w w' ∧ Sat I' H' w' ∧ (∀ b ∈ bss H', b ∈ bss H ∨ w.heap.size ≤ b) ∧ (∀ b ∈ bss I', b ∈ bss H ∨ w.heap.size ≤ b))

/-- It hands back this, and nothing in memory. -/
def Is (u : Value) : Value → List It → List It → Prop := fun v I' H' => v = u ∧ I' = [] ∧ H' = []

inductive Pick : List It → List It → List It → Prop
  | nil : Pick [] [] []
  | take {x : It} {H A B : List It} (h : Pick H A B) : Pick (x :: H) (x :: A) B
  | leave {x : It} {H A B : List It} (h : Pick H A B) : Pick (x :: H) A (x :: B)

theorem Pick.memA {H A B : List It} (h : Pick H A B) : ∀ x ∈ A, x ∈ H := by
  induction h with
  | nil => simp
  | take h ih => intro x hx; rcases List.mem_cons.1 hx with rfl | hx
                 · simp
                 · simp [ih x hx]
  | leave h ih => intro x hx; simp [ih x hx]
theorem Pick.memB {H A B : List It} (h : Pick H A B) : ∀ x ∈ B, x ∈ H := by
  induction h with
  | nil => simp
  | take h ih => intro x hx; simp [ih x hx]
  | leave h ih => intro x hx; rcases List.mem_cons.1 hx with rfl | hx
                  · simp
                  · simp [ih x hx]
theorem Pick.perm {H A B : List It} (h : Pick H A B) : (bss H).Perm (bss A ++ bss B) := by
  induction h with
  | nil => exact List.Perm.refl _
  | take h ih => simp only [bss_cons, List.append_assoc]; exact ih.append_left _
  | leave h ih =>
    simp only [bss_cons]
    refine (ih.append_left _).trans ?_
    rw [← List.append_assoc, ← List.append_assoc]
    exact List.perm_append_comm.append_right _

theorem Pick.none : ∀ H : List It, Pick H [] H
  | [] => .nil
  | _ :: H => .leave (Pick.none H)

/-- What is told to a callee: out of what is told, or lent out of one's own. -/
inductive Lend (I F : List It) : List It → Prop
  | nil : Lend I F []
  | inI {x : It} {J : List It} (hx : x ∈ I) (h : Lend I F J) : Lend I F (x :: J)
  | inH {x : It} {J : List It} (hx : x ∈ F) (h : Lend I F J) : Lend I F (x :: J)
  | of {x : It} {J : List It} (hx : ∀ w, Sat I F w → x.A w) (hb : ∀ b ∈ x.bs, b ∈ bss I ∨ b ∈ bss F) (h : Lend I F J) : Lend I F (x :: J)

theorem Lend.spec {I F J : List It} (h : Lend I F J) {w : World} (hw : Sat I F w) : (∀ x ∈ J, x.A w) ∧ ∀ b ∈ bss J, b ∈ bss I ∨ b ∈ bss F := by
  induction h with
  | nil => simp
  | inI hx h ih =>
    refine ⟨fun x h => ?_, fun b hb => ?_⟩
    · rcases List.mem_cons.1 h with rfl | h
      · exact hw.i _ hx
      · exact ih.1 x h
    · rcases List.mem_append.1 hb with hb | hb
      · exact .inl (mem_bss.2 ⟨_, hx, hb⟩)
      · exact ih.2 b hb
  | inH hx h ih =>
    refine ⟨fun x h => ?_, fun b hb => ?_⟩
    · rcases List.mem_cons.1 h with rfl | h
      · exact hw.h _ hx
      · exact ih.1 x h
    · rcases List.mem_append.1 hb with hb | hb
      · exact .inr (mem_bss.2 ⟨_, hx, hb⟩)
      · exact ih.2 b hb
  | of hx hb h ih =>
    refine ⟨fun x h => ?_, fun b hb' => ?_⟩
    · rcases List.mem_cons.1 h with rfl | h
      · exact hx w hw
      · exact ih.1 x h
    · rcases List.mem_append.1 hb' with hb' | hb'
      · exact hb b hb'
      · exact ih.2 b hb'

section
variable {P : Program} {L : List Oper} {ef bk : List Nat} {tq : Tq} {Q : Exit → Act → World → Prop} {N : Fm} {E : Env} {w0 : World} {S : List Nat} {I H : List It} {i : Nat} {l : Sq}
variable {d : Nat} {x y z : Operand} {ty t yt : TypeId} {pos : String} {af : Array Edge} {g : Option (Nat × Bool)} {v : Value} {k k' : IntKind} {m n : Int}

theorem exec_call {a : Act} {dst : Option Tmp} {f : FuncId} {xs : Array Operand} {ats : Array TypeId} (hrun : ∀ args w, (callFunc f args).run P w = .ok (.enter f args) w) (w : World) :
    (execOp a.eval ⟨dst, .call ⟨.value (.func f), xs, ats⟩, ty, pos, af, g⟩).run P w = .ok (.enter f (#[] ++ xs.map a.eval ++ #[])) w := by
  rw [execOp_call_go, hrun]

theorem Sat.part {A B C : List It} {w : World} (h : Sat I H w) (hp : Pick H A B) (hl : Lend I B C) : Sat C A w ∧ Sat I B w := by
  have hperm := hp.perm
  have hnd : (bss A ++ bss B).Nodup := hperm.nodup_iff.1 h.nd
  rw [List.nodup_append] at hnd
  have hB : Sat I B w := ⟨h.i, fun x hx => h.h x (hp.memB x hx), hnd.2.1, fun b hb hb' => h.dj b hb (hperm.mem_iff.2 (List.mem_append_right _ hb'))⟩
  obtain ⟨h1, h2⟩ := hl.spec hB
  refine ⟨⟨h1, fun x hx => h.h x (hp.memA x hx), hnd.1, fun b hb hb' => ?_⟩, hB⟩
  rcases h2 b hb with h3 | h3
  · exact h.dj b h3 (hperm.mem_iff.2 (List.mem_append_left _ hb'))
  · exact hnd.2.2 b hb' b h3 rfl

/-- The worlds behind a call. -/
theorem Cls.call {A B C I' H' : List It} {w w' : World} (h : Cls w0 S I H w) (hp : Pick H A B) (hl : Lend I B C) (hk : Keeps (bss A) w w') (hs : Sat I' H' w')
    (hn : ∀ b ∈ bss H', b ∈ bss A ∨ w.heap.size ≤ b) (hni : ∀ b ∈ bss I', b ∈ bss A ∨ w.heap.size ≤ b) : Cls w0 S (I' ++ I) (H' ++ B) w' := by
  obtain ⟨hA, hB⟩ := h.s.part hp hl
  have hperm := hp.perm
  have hnd : (bss A ++ bss B).Nodup := hperm.nodup_iff.1 h.s.nd
  rw [List.nodup_append] at hnd
  have ltB : ∀ b ∈ bss B, b < w.heap.size := fun b hb => by obtain ⟨x, hx, hbx⟩ := mem_bss.1 hb; exact x.lt w (hB.h x hx) b hbx
  have ltI : ∀ b ∈ bss I, b < w.heap.size := fun b hb => by obtain ⟨x, hx, hbx⟩ := mem_bss.1 hb; exact x.lt w (h.s.i x hx) b hbx
  have nAI : ∀ b ∈ bss I, b ∉ bss A := fun b hb hb' => h.s.dj b hb (hperm.mem_iff.2 (List.mem_append_left _ hb'))
  have nAB : ∀ b ∈ bss B, b ∉ bss A := fun b hb hb' => hnd.2.2 b hb' b hb rfl
  refine ⟨⟨hk.os.trans h.k.os, hk.tape.trans h.k.tape, hk.output.trans h.k.output, Nat.le_trans h.k.size hk.size, fun b hb hbS => ?_, Nat.le_trans h.k.drawn hk.drawn⟩, ⟨?_, ?_, ?_, ?_⟩, ?_⟩
  · rw [hk.block b (Nat.lt_of_lt_of_le hb h.k.size) (fun hbA => hbS (h.own b (hperm.mem_iff.2 (List.mem_append_left _ hbA)) hb)), h.k.block b hb hbS]
  · intro x hx
    rcases List.mem_append.1 hx with hx | hx
    · exact hs.i x hx
    · exact It.grow (h.s.i x hx) hk fun b hb => nAI b (mem_bss.2 ⟨x, hx, hb⟩)
  · intro x hx
    rcases List.mem_append.1 hx with hx | hx
    · exact hs.h x hx
    · exact It.grow (hB.h x hx) hk fun b hb => nAB b (mem_bss.2 ⟨x, hx, hb⟩)
  · rw [bss_append, List.nodup_append]
    refine ⟨hs.nd, hnd.2.1, fun b hb b' hb' e => ?_⟩
    subst e
    rcases hn b hb with h1 | h1
    · exact nAB b hb' h1
    · have := ltB b hb'; omega
  · intro b hb hb'
    rw [bss_append] at hb hb'
    rcases List.mem_append.1 hb with hb | hb <;> rcases List.mem_append.1 hb' with hb' | hb'
    · exact hs.dj b hb hb'
    · rcases hni b hb with h1 | h1
      · exact nAB b hb' h1
      · have := ltB b hb'; omega
    · rcases hn b hb' with h1 | h1
      · exact nAI b hb h1
      · have := ltI b hb; omega
    · exact h.s.dj b hb (hperm.mem_iff.2 (List.mem_append_right _ hb'))
  · intro b hb hlt
    rw [bss_append] at hb
    rcases List.mem_append.1 hb with hb | hb
    · rcases hn b hb with h1 | h1
      · exact h.own b (hperm.mem_iff.2 (List.mem_append_left _ h1)) hlt
      · have := h.k.size; omega
    · exact h.own b (hperm.mem_iff.2 (List.mem_append_right _ hb)) hlt

/-- What growing gave may be forgotten. -/
theorem Cls.forget {I' H' B : List It} {w : World} (hp : Pick H [] B) (h : Cls w0 S (I' ++ I) (H' ++ B) w) : Cls w0 S I H w := by
  have hperm := hp.perm
  simp only [bss_nil, List.nil_append] at hperm
  have hs := h.s
  have hnd := hs.nd
  rw [bss_append, List.nodup_append] at hnd
  refine ⟨h.k, ⟨fun x hx => hs.i x (by simp [hx]), fun x hx => hs.h x ?_, hperm.nodup_iff.2 hnd.2.1, fun b hb hb' => ?_⟩, fun b hb => h.own b ?_⟩
  · have : ∀ {H A B : List It}, Pick H A B → ∀ x ∈ H, x ∈ A ∨ x ∈ B := by
      intro H A B h
      induction h with
      | nil => simp
      | take h ih => intro x hx; rcases List.mem_cons.1 hx with rfl | hx
                     · simp
                     · rcases ih x hx with h | h <;> simp [h]
      | leave h ih => intro x hx; rcases List.mem_cons.1 hx with rfl | hx
                      · simp
                      · rcases ih x hx with h | h <;> simp [h]
    rcases this hp x hx with h | h
    · cases h
    · simp [h]
  · exact hs.dj b (by rw [bss_append]; exact List.mem_append_right _ hb) (by rw [bss_append]; exact List.mem_append_right _ (hperm.mem_iff.1 hb'))
  · rw [bss_append]; exact List.mem_append_right _ (hperm.mem_iff.1 hb)

theorem RL.call {f : FuncId} {args : List Value} {A B C : List It} {R : Value → List It → List It → Prop} {xs : Array Operand} {ats : Array TypeId} (hfn : Spc P f args.toArray C A R)
    (hrun : ∀ args w, (callFunc f args).run P w = .ok (.enter f args) w) (ho : nth L i = some ⟨some d, .call ⟨.value (.func f), xs, ats⟩, ty, pos, af, g⟩) (hw : wants L E ⟨some d, .call ⟨.value (.func f), xs, ats⟩, ty, pos, af, g⟩ = true)
    (hN : Nat.blt d N.n = true) (hi : ef.contains i = true) (hx : evs E xs.toList = some args) (hp : Pick H A B) (hl : Lend I B C) (hb : A = [] ∨ bk.contains i = true)
    (h : ∀ v I' H', R v I' H' → RL P L ef bk tq Q l N ((d, v) :: E) w0 S (I' ++ I) (H' ++ B)) : RL P L ef bk tq Q (.cons i l) N E w0 S I H := by
  refine RL.eff ho hw hi rfl hN (fun a w ha hC => ?_)
  unfold does
  rw [exec_call hrun]
  have hargs : (#[] ++ xs.map a.eval ++ #[]) = args.toArray := by
    have := ha.evs hx
    apply Array.toList_inj.1
    simpa using this
  show Calls P f _ w _
  rw [hargs]
  refine (hfn w (hC.s.part hp hl).1).mono ?_
  rintro e w' ⟨v, I', H', he, hR, hk, hs, hn, hni⟩
  refine ⟨v, he, I' ++ I, H' ++ B, hC.call hp hl hk hs hn hni, fun x hx => List.mem_append_right _ hx, fun hbk w2 hw2 => ?_, h v I' H' hR⟩
  rcases hb with rfl | hb
  · exact hw2.forget hp
  · rw [hb] at hbk; cases hbk

/-- A call whose answer hangs on no world. -/
theorem RL.callv {f : FuncId} {args : List Value} {C : List It} {u : Value} {xs : Array Operand} {ats : Array TypeId} (hfn : Spc P f args.toArray C [] (Is u))
    (hrun : ∀ args w, (callFunc f args).run P w = .ok (.enter f args) w) (ho : nth L i = some ⟨some d, .call ⟨.value (.func f), xs, ats⟩, ty, pos, af, g⟩) (hw : wants L E ⟨some d, .call ⟨.value (.func f), xs, ats⟩, ty, pos, af, g⟩ = true)
    (hN : Nat.blt d N.n = true) (hx : evs E xs.toList = some args) (hl : Lend I H C)
    (h : RL P L ef bk tq Q l N ((d, u) :: E) w0 S I H) (ht : tq.l.contains i = false := by rfl) : RL P L ef bk tq Q (.cons i l) N E w0 S I H := by
  refine RL.quiet ho hw rfl hN (fun a w ha hC => ?_) h rfl ht
  unfold does
  rw [exec_call hrun]
  have hargs : (#[] ++ xs.map a.eval ++ #[]) = args.toArray := by
    have := ha.evs hx
    apply Array.toList_inj.1
    simpa using this
  show Calls P f _ w _
  rw [hargs]
  refine (hfn w (hC.s.part (Pick.none H) hl).1).mono ?_
  rintro e w' ⟨v, I', H', he, ⟨rfl, rfl, rfl⟩, hk, hs, hn, hni⟩
  exact ⟨v, he, rfl, hk⟩

/-- The like, where what it is lent was told ahead of the region. -/
theorem RL.callvT {f : FuncId} {args : List Value} {C : List It} {u : Value} {xs : Array Operand} {ats : Array TypeId} (hfn : Spc P f args.toArray C [] (Is u))
    (hrun : ∀ args w, (callFunc f args).run P w = .ok (.enter f args) w) (ho : nth L i = some ⟨some d, .call ⟨.value (.func f), xs, ats⟩, ty, pos, af, g⟩) (hw : wants L E ⟨some d, .call ⟨.value (.func f), xs, ats⟩, ty, pos, af, g⟩ = true)
    (hN : Nat.blt d N.n = true) (hx : evs E xs.toList = some args) (hl : Lend tq.T [] C)
    (h : RL P L ef bk tq Q l N ((d, u) :: E) w0 S I H) : RL P L ef bk tq Q (.cons i l) N E w0 S I H := by
  refine RL.toldQ ho hw rfl hN (fun a w ha hC => ?_) h
  unfold does
  rw [exec_call hrun]
  have hargs : (#[] ++ xs.map a.eval ++ #[]) = args.toArray := by
    have := ha.evs hx
    apply Array.toList_inj.1
    simpa using this
  show Calls P f _ w _
  rw [hargs]
  have hsat : Sat tq.T [] w := ⟨hC, by simp, by simp, by simp⟩
  refine (hfn w (hsat.part (Pick.none []) hl).1).mono ?_
  rintro e w' ⟨v, I', H', he, ⟨rfl, rfl, rfl⟩, hk, hs, hn, hni⟩
  exact ⟨v, he, rfl, hk⟩

/-- A call of a function that a slot holds. -/
theorem exec_callF {ρ : Operand → Value} {dst : Option Tmp} {f : FuncId} {b1 b2 : Array Value} {xs : Array Operand} {ats : Array TypeId} (hy : ρ y = .func (.func f) b1 b2) :
    execOp ρ ⟨dst, .call ⟨.value y, xs, ats⟩, ty, pos, af, g⟩ = callFunc f (b1 ++ xs.map ρ ++ b2) := by
  simp only [execOp, resolve, hy]; rfl

theorem RL.callvF {f : FuncId} {args : List Value} {C : List It} {u : Value} {xs : Array Operand} {ats : Array TypeId} (hfn : Spc P f args.toArray C [] (Is u))
    (hrun : ∀ args w, (callFunc f args).run P w = .ok (.enter f args) w) (ho : nth L i = some ⟨some d, .call ⟨.value y, xs, ats⟩, ty, pos, af, g⟩) (hw : wants L E ⟨some d, .call ⟨.value y, xs, ats⟩, ty, pos, af, g⟩ = true)
    (hN : Nat.blt d N.n = true) (hy : E.ev y = some (.func (.func f) #[] #[])) (hx : evs E xs.toList = some args) (hl : Lend I H C)
    (h : RL P L ef bk tq Q l N ((d, u) :: E) w0 S I H) (ht : tq.l.contains i = false := by rfl) : RL P L ef bk tq Q (.cons i l) N E w0 S I H := by
  refine RL.quiet ho hw rfl hN (fun a w ha hC => ?_) h rfl ht
  unfold does
  rw [exec_callF (ha.ev hy), hrun]
  have hargs : (#[] ++ xs.map a.eval ++ #[]) = args.toArray := by
    have := ha.evs hx
    apply Array.toList_inj.1
    simpa using this
  show Calls P f _ w _
  rw [hargs]
  refine (hfn w (hC.s.part (Pick.none H) hl).1).mono ?_
  rintro e w' ⟨v, I', H', he, ⟨rfl, rfl, rfl⟩, hk, hs, hn, hni⟩
  exact ⟨v, he, rfl, hk⟩

/-! ### A function -/

def args0 : List Value → Nat → Env
  | [], _ => []
  | v :: r, n => (n, v) :: args0 r (n + 1)

theorem args0_get : ∀ (l : List Value) (n k : Nat) (v : Value), (args0 l n).get k = some v → n ≤ k ∧ l[k - n]? = some v
  | [], _, _, _, h => by cases h
  | u :: r, n, k, v, h => by
    unfold args0 Env.get at h
    cases he : Nat.beq n k
    · simp only [he, cond_false] at h
      have hne : n ≠ k := by intro e; subst e; simp at he
      obtain ⟨h1, h2⟩ := args0_get r (n + 1) k v h
      refine ⟨by omega, ?_⟩
      rw [show k - n = (k - (n + 1)) + 1 by omega]
      simpa using h2
    · simp only [he, cond_true, Option.some.injEq] at h
      have : n = k := by simpa using he
      subst this; subst h
      simp

/-- What a function must come to. -/
def FnPost (P : Program) (fn : Func) (R : Value → List It → List It → Prop) (w0 : World) (S : List Nat) : Exit → Act → World → Prop :=
  bodyPostM Fence.wide 0 P fn (fun e w' => ∃ v I' H', e = .returned v ∧ R v I' H' ∧ Keeps S w0 w' ∧ Sat I' H' w' ∧ (∀ b ∈ bss H', b ∈ S ∨ w0.heap.size ≤ b) ∧ (∀ b ∈ bss I', b ∈ S ∨ w0.heap.size ≤ b))

theorem Spc.enter {n : Nat} {f : FuncId} {fn : Func} {c : Code} {args : List Value} {R : Value → List It → List It → Prop} (hf : P.funcs[f]? = some fn) (hb : fn.body = some c) (hn : fn.ntmps = n) (hl : Nat.ble args.length n = true)
    (h : ∀ w0, Sat I H w0 → CW P c (FnPost P fn R w0 (bss H)) ⟨n, [], none⟩ (args0 args 0) w0 (bss H) I H) : Spc P f args.toArray I H R := by
  intro w hw
  refine (callsIn_wide (n := 0)).1 (callsIn_of_wp_marks hf hb trivial (h w hw _ w ⟨rfl, ?_, ?_⟩ ⟨Keeps.refl _ _, hw, fun b hb _ => hb⟩))
  · have : args.length ≤ n := by simpa using hl
    simp [hn]; omega
  · intro k v hk
    obtain ⟨_, h2⟩ := args0_get args 0 k v hk
    simp only [Nat.sub_zero] at h2
    have hlt : k < args.length := (List.getElem?_eq_some_iff.1 h2).1
    rw [Array.getElem?_append]
    simp only [List.size_toArray, hlt, if_true, List.getElem?_toArray]
    exact h2

/-- At the end each of one's own things is kept (handed on), given (told from now on) or dropped. -/
inductive Split : List It → List It → List It → Prop
  | nil : Split [] [] []
  | keep {x : It} {H A B : List It} (h : Split H A B) : Split (x :: H) (x :: A) B
  | give {x : It} {H A B : List It} (h : Split H A B) : Split (x :: H) A (x :: B)
  | drop {x : It} {H A B : List It} (h : Split H A B) : Split (x :: H) A B

theorem Split.none : ∀ H : List It, Split H [] []
  | [] => .nil
  | _ :: H => .drop (Split.none H)

theorem Split.spec {H A B : List It} (h : Split H A B) : (∀ x ∈ A, x ∈ H) ∧ (∀ x ∈ B, x ∈ H) ∧ ((bss H).Nodup → (bss A).Nodup ∧ ∀ b ∈ bss B, b ∉ bss A) := by
  have sub : ∀ {H A B : List It}, Split H A B → (∀ x ∈ A, x ∈ H) ∧ (∀ x ∈ B, x ∈ H) := by
    intro H A B h
    induction h with
    | nil => simp
    | keep h ih => exact ⟨fun x hx => by rcases List.mem_cons.1 hx with rfl | hx <;> simp_all, fun x hx => by simp [ih.2 x hx]⟩
    | give h ih => exact ⟨fun x hx => by simp [ih.1 x hx], fun x hx => by rcases List.mem_cons.1 hx with rfl | hx <;> simp_all⟩
    | drop h ih => exact ⟨fun x hx => by simp [ih.1 x hx], fun x hx => by simp [ih.2 x hx]⟩
  have subb : ∀ {H A B : List It}, Split H A B → (∀ b ∈ bss A, b ∈ bss H) ∧ (∀ b ∈ bss B, b ∈ bss H) := fun h =>
    ⟨fun b hb => by obtain ⟨x, hx, hbx⟩ := mem_bss.1 hb; exact mem_bss.2 ⟨x, (sub h).1 x hx, hbx⟩, fun b hb => by obtain ⟨x, hx, hbx⟩ := mem_bss.1 hb; exact mem_bss.2 ⟨x, (sub h).2 x hx, hbx⟩⟩
  refine ⟨(sub h).1, (sub h).2, ?_⟩
  induction h with
  | nil => simp
  | keep h ih =>
    intro hnd
    rw [bss_cons, List.nodup_append] at hnd
    obtain ⟨i1, i2⟩ := ih hnd.2.1
    refine ⟨?_, fun b hb hb' => ?_⟩
    · rw [bss_cons, List.nodup_append]
      exact ⟨hnd.1, i1, fun b hb b' hb' => hnd.2.2 b hb b' ((subb h).1 b' hb')⟩
    · rw [bss_cons] at hb'
      rcases List.mem_append.1 hb' with hb' | hb'
      · exact hnd.2.2 b hb' b ((subb h).2 b hb) rfl
      · exact i2 b hb hb'
  | give h ih =>
    intro hnd
    rw [bss_cons, List.nodup_append] at hnd
    obtain ⟨i1, i2⟩ := ih hnd.2.1
    refine ⟨i1, fun b hb hb' => ?_⟩
    rw [bss_cons] at hb
    rcases List.mem_append.1 hb with hb | hb
    · exact hnd.2.2 b hb b ((subb h).1 b hb') rfl
    · exact i2 b hb hb'
  | drop h ih =>
    intro hnd
    rw [bss_cons, List.nodup_append] at hnd
    exact ih hnd.2.1

theorem RQ.post {fn : Func} {R : Value → List It → List It → Prop} {H' I' : List It} (hr : ∀ a w, Ag N a E → Cls w0 S I H w → (results fn a.tmps).run P w = .ok v w) (hs : Split H H' I') (hR : R v I' H') (hd : N.ds = [] := by rfl) : RQ (FnPost P fn R w0 S) N E w0 S I H := by
  intro a w ha hw
  obtain ⟨s1, s2, s3⟩ := hs.spec
  obtain ⟨s4, s5⟩ := s3 hw.s.nd
  have own : ∀ x ∈ H, ∀ b ∈ x.bs, b ∈ S ∨ w0.heap.size ≤ b := fun x hx b hb => by
    rcases Nat.lt_or_ge b w0.heap.size with h | h
    · exact .inl (hw.own b (mem_bss.2 ⟨x, hx, hb⟩) h)
    · exact .inr h
  show LeavesInM _ _ _ _ _ _ a.defers _ _
  rw [ha.d, hd]
  refine ⟨v, hr a w ha hw, v, I', H', rfl, hR, hw.k, ⟨fun x hx => hw.s.h x (s2 x hx), fun x hx => hw.s.h x (s1 x hx), s4, s5⟩, ?_, ?_⟩
  · intro b hb; obtain ⟨x, hx, hbx⟩ := mem_bss.1 hb; exact own x (s1 x hx) b hbx
  · intro b hb; obtain ⟨x, hx, hbx⟩ := mem_bss.1 hb; exact own x (s2 x hx) b hbx

theorem NQ.post {fn : Func} {R : Value → List It → List It → Prop} {H' I' : List It} (hr : ∀ a w, Ag N a E → Cls w0 S I H w → (results fn a.tmps).run P w = .ok v w) (hs : Split H H' I') (hR : R v I' H') (hd : N.ds = [] := by rfl) : NQ (FnPost P fn R w0 S) N E w0 S I H :=
  fun a w ha hw => RQ.post (P := P) hr hs hR hd a w ha hw

theorem res1 {fn : Func} {t : Tmp} (hf : fn.results = #[.tmp t]) (ht : E.get t = some v) : ∀ a w, Ag N a E → Cls w0 S I H w → (results fn a.tmps).run P w = .ok v w := fun a w ha _ => by
  rw [results_tmp hf]; simp [ha.t t v ht]
theorem res2 {fn : Func} {t u : Tmp} {v1 v2 : Value} (hf : fn.results = #[.tmp t, .tmp u]) (ht : E.get t = some v1) (hu : E.get u = some v2) :
    ∀ a w, Ag N a E → Cls w0 S I H w → (results fn a.tmps).run P w = .ok (.tuple #[v1, v2]) w := fun a w ha _ => by
  rw [results_tmp2 hf]; simp [ha.t t v1 ht, ha.t u v2 hu]
theorem res0 {fn : Func} (hf : fn.results = #[]) : ∀ a w, Ag N a E → Cls w0 S I H w → (results fn a.tmps).run P w = .ok (.tuple #[]) w := fun _ _ _ _ => results_none hf _ _ _

end
end Go.PK
