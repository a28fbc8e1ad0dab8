/-
  PK, part A: one order of a region serves every order. For a region that draws its order: if the operations that touch the world are ordered among each other, and the others are quiet, then walking one topological order is enough.
-/
import Derived.WalkKit
import Derived.Deep.Quiet
namespace Go.PK

/-- What an operation does, if it neither panics nor defers: its value, and the world behind it. -/
def does (P : Program) (o : Oper) (a : Act) (w : World) (K : Value → World → Prop) : Prop :=
  match (execOp a.eval o).run P w with
  | .ok (.value v) w' => K v w'
  | .ok .skip w' => K undef w'
  | .ok (.enter f args) w' => Calls P f args w' (fun e w'' => ∃ v, e = .returned v ∧ K v w'')
  | _ => False

theorem does_mono {P : Program} {o : Oper} {a : Act} {w : World} {K K' : Value → World → Prop} (h : ∀ v w', K v w' → K' v w') (hd : does P o a w K) : does P o a w K' := by
  unfold does at *
  split at hd
  · exact h _ _ hd
  · exact h _ _ hd
  · exact hd.mono fun e w'' ⟨v, he, hk⟩ => ⟨v, he, h _ _ hk⟩
  · exact hd.elim

theorem does_congr {P : Program} {o : Oper} {a a' : Act} {w : World} {K : Value → World → Prop} (h : execOp a.eval o = execOp a'.eval o) : does P o a w K = does P o a' w K := by
  unfold does; rw [h]

/-- Nothing that was there has turned, but for the blocks in 'S'; blocks may have come. -/
structure Keeps (S : List Nat) (w w' : World) : Prop where
  os : w'.os = w.os
  tape : w'.tape = w.tape
  output : w'.output = w.output
  size : w.heap.size ≤ w'.heap.size
  block : ∀ b, b < w.heap.size → b ∉ S → w'.heap[b]? = w.heap[b]?

abbrev Grow (w w' : World) : Prop := Keeps [] w w'

theorem Keeps.refl (S : List Nat) (w : World) : Keeps S w w := ⟨rfl, rfl, rfl, Nat.le_refl _, fun _ _ _ => rfl⟩
theorem Keeps.trans {S : List Nat} {a b c : World} (h : Keeps S a b) (k : Keeps S b c) : Keeps S a c :=
  ⟨k.os.trans h.os, k.tape.trans h.tape, k.output.trans h.output, Nat.le_trans h.size k.size, fun i hi hn => (k.block i (Nat.lt_of_lt_of_le hi h.size) hn).trans (h.block i hi hn)⟩
theorem Keeps.mono {S S' : List Nat} {a b : World} (h : Keeps S a b) (hs : ∀ x ∈ S, x ∈ S') : Keeps S' a b :=
  ⟨h.os, h.tape, h.output, h.size, fun i hi hn => h.block i hi fun hx => hn (hs i hx)⟩
theorem Keeps.drew (S : List Nat) (w : World) (n : Nat) : Keeps S w { w with drawn := n } := ⟨rfl, rfl, rfl, Nat.le_refl _, fun _ _ _ => rfl⟩

/-- A class of worlds that growing does not leave. -/
def Open (C : World → Prop) : Prop := ∀ w w', C w → Grow w w' → C w'

/-- A walk over operations in some order: 'ef': those that may turn the world (make memory, call, store); 'bk': those of them that may break the class of worlds. -/
def RW (P : Program) (ops : Array Oper) (ef bk : List Nat) (Q : Exit → Act → World → Prop) : List Nat → Act → (World → Prop) → Prop
  | [], a, C => ∀ w, C w → Q .normal a w
  | i :: l, a, C => ∃ o, ops[i]? = some o ∧
      ((Region.wanted o (yielded ops a.tmps) = false ∧ RW P ops ef bk Q l (a.put o.dst undef) C) ∨
       (Region.wanted o (yielded ops a.tmps) = true ∧
         ((∃ v, (∀ w, C w → does P o a w (fun u w' => u = v ∧ Grow w w')) ∧ RW P ops ef bk Q l (a.put o.dst v) C) ∨
          (i ∈ ef ∧ ∀ w, C w → does P o a w (fun v w' => ∃ C' : World → Prop, Open C' ∧ C' w' ∧ (i ∉ bk → ∀ w, C' w → C w) ∧ RW P ops ef bk Q l (a.put o.dst v) C')))))

variable {P : Program} {ops : Array Oper} {ef bk : List Nat} {Q : Exit → Act → World → Prop}

theorem wp_of_does {o : Oper} {a : Act} {K : Act → World → Prop} {w : World} (h : does P o a w (fun v w' => K (a.put o.dst v) w')) : o.wp P a w K Q := by
  unfold does at h
  unfold Oper.wp
  generalize (execOp a.eval o).run P w = r at *
  cases r with
  | ok n w' =>
    cases n <;> simp only [Oper.upon] at h ⊢ <;> try exact h
    exact h.mono fun e w'' ⟨v, he, hk⟩ => by subst he; exact hk
  | halt x w' => exact h.elim

/-- One operation of a region, wanted or not. -/
def doesAt (P : Program) (ops : Array Oper) (i : Nat) (a : Act) (w : World) (K : Act → World → Prop) : Prop :=
  ∃ o, ops[i]? = some o ∧ ((Region.wanted o (yielded ops a.tmps) = false ∧ K (a.put o.dst undef) w) ∨
    (Region.wanted o (yielded ops a.tmps) = true ∧ does P o a w (fun v w' => K (a.put o.dst v) w')))

theorem wpOp_of_doesAt {i : Nat} {a : Act} {w : World} {K : Act → World → Prop} (h : doesAt P ops i a w K) : wpOp P ops Q i K a w := by
  obtain ⟨o, ho, h⟩ := h
  unfold wpOp
  simp only [ho]
  rcases h with ⟨hw, h⟩ | ⟨hw, h⟩
  · simp only [hw, Bool.false_eq_true, if_false]; exact h
  · simp only [hw, if_true]; exact .inl (wp_of_does h)

/-- The first of a walk. -/
theorem RW.first {i : Nat} {l : List Nat} {a : Act} {C : World → Prop} {w : World} (hO : Open C) (h : RW P ops ef bk Q (i :: l) a C) (hC : C w) :
    doesAt P ops i a w (fun a' w' => ∃ C' : World → Prop, Open C' ∧ C' w' ∧ (i ∉ bk → ∀ w, C' w → C w) ∧ RW P ops ef bk Q l a' C') := by
  obtain ⟨o, ho, h⟩ := h
  refine ⟨o, ho, ?_⟩
  rcases h with ⟨hw, h⟩ | ⟨hw, h⟩
  · exact .inl ⟨hw, C, hO, hC, fun _ _ h => h, h⟩
  · refine .inr ⟨hw, ?_⟩
    rcases h with ⟨v, hq, h⟩ | ⟨_, h⟩
    · exact does_mono (fun u w' ⟨hu, hG⟩ => ⟨C, hO, hO _ _ hC hG, fun _ _ h => h, hu ▸ h⟩) (hq w hC)
    · exact h w hC

/-- A region in the order of its text. -/
theorem RW.text : ∀ (l : List Nat) (a : Act) (C : World → Prop) (w : World), Open C → RW P ops ef bk Q l a C → C w → wpOps P ops Q l a w
  | [], _, _, w, _, h, hC => h w hC
  | i :: l, a, C, w, hO, h, hC => by
    rw [wpOps_cons]
    refine wpOp_mono ?_ (wpOp_of_doesAt (RW.first hO h hC))
    rintro a' w' ⟨C', hO', hC', _, h⟩
    exact RW.text l a' C' w' hO' h hC'

/-- 'i' comes surely before 'j' (by a table of bits). -/
def rel (T : Array Nat) (i j : Nat) : Bool := (T.getD j 0).testBit i

def boundOf (o : Oper) : List Nat := (o.after.toList.filter (fun e => Region.binds .any e)).map (·.on)
def boundAt (ops : Array Oper) (j : Nat) : List Nat := match ops[j]? with | some o => boundOf o | none => []

/-- The table is closed: what it says comes of the edges. -/
def closedT (ops : Array Oper) (T : Array Nat) : Bool :=
  (List.range ops.size).all fun j => (boundAt ops j).all (fun k => Nat.blt k j) &&
    (List.range ops.size).all fun i => !rel T i j || (boundAt ops j).any (fun k => k == i || rel T i k)

def apartAt (ops : Array Oper) (i j : Nat) : Bool := match ops[i]?, ops[j]? with | some x, some y => x.apart ops y | _, _ => false

def pairOk (ops : Array Oper) (T : Array Nat) (ef bk : List Nat) (i j : Nat) : Bool :=
  rel T i j || (apartAt ops i j && !ef.contains i && !bk.contains j)

def pairsOk (ops : Array Oper) (T : Array Nat) (ef bk : List Nat) : List Nat → Bool
  | [] => true
  | i :: l => l.all (fun j => pairOk ops T ef bk i j) && pairsOk ops T ef bk l

/-- Each operation's edges lead to what was listed ahead of it. -/
def topoOk (ops : Array Oper) : List Nat → List Nat → Bool
  | _, [] => true
  | seen, j :: l => (boundAt ops j).all (fun k => seen.contains k) && !seen.contains j && topoOk ops (j :: seen) l

def chk (ops : Array Oper) (π ef bk : List Nat) : Bool :=
  closedT ops (Region.before ops) && pairsOk ops (Region.before ops) ef bk π && topoOk ops [] π && (List.range ops.size).all (fun j => π.contains j) && π.all (fun j => Nat.blt j ops.size) && Region.noSelect ops

theorem pairsOk_mem {T : Array Nat} : ∀ {p : List Nat} {i j : Nat} {s : List Nat}, pairsOk ops T ef bk (p ++ j :: s) = true → i ∈ p → pairOk ops T ef bk i j = true
  | x :: p, i, j, s, h, hi => by
    simp only [List.cons_append, pairsOk, Bool.and_eq_true, List.all_eq_true] at h
    rcases List.mem_cons.1 hi with rfl | hi
    · exact h.1 j (by simp)
    · exact pairsOk_mem h.2 hi

theorem pairsOk_drop {T : Array Nat} : ∀ {p : List Nat} {j : Nat} {s : List Nat}, pairsOk ops T ef bk (p ++ j :: s) = true → pairsOk ops T ef bk (p ++ s) = true
  | [], j, s, h => by simp only [List.nil_append, pairsOk, Bool.and_eq_true] at h ⊢; exact h.2
  | x :: p, j, s, h => by
    simp only [List.cons_append, pairsOk, Bool.and_eq_true, List.all_eq_true] at h ⊢
    exact ⟨fun k hk => h.1 k (by simp at hk ⊢; rcases hk with hk | hk <;> simp [hk]), pairsOk_drop h.2⟩

/-- An operation that is related to nothing that stands ahead of it may be taken first. -/
theorem RW.move {T : Array Nat} (hs : Region.noSelect ops = true) {j : Nat} {s : List Nat} : ∀ (p : List Nat) (a : Act) (C : World → Prop) (w : World),
    (∀ i ∈ p, pairOk ops T ef bk i j = true ∧ rel T i j = false) → Open C → RW P ops ef bk Q (p ++ j :: s) a C → C w →
    doesAt P ops j a w (fun a' w' => ∃ C' : World → Prop, Open C' ∧ C' w' ∧ (j ∉ bk → ∀ w, C' w → C w) ∧ RW P ops ef bk Q (p ++ s) a' C')
  | [], a, C, w, _, hO, h, hC => RW.first hO h hC
  | i :: p, a, C, w, hp, hO, h, hC => by
    obtain ⟨hij, hrel⟩ := hp i (by simp)
    have hp' : ∀ k ∈ p, pairOk ops T ef bk k j = true ∧ rel T k j = false := fun k hk => hp k (by simp [hk])
    obtain ⟨oi, hoi, h⟩ := h
    simp only [pairOk, hrel, Bool.false_or, Bool.and_eq_true, Bool.not_eq_true'] at hij
    obtain ⟨⟨hap, hief⟩, hjbk⟩ := hij
    have hief' : i ∉ ef := by simpa using hief
    have hjbk' : j ∉ bk := by simpa using hjbk
    cases hoj : ops[j]? with
    | none => simp [apartAt, hoi, hoj] at hap
    | some oj =>
    simp only [apartAt, hoi, hoj] at hap
    obtain ⟨h1, h2, h3⟩ := Oper.apart_spec hap
    have hsi := Region.noSelect_spec hs
    -- 'i' is quiet, or not wanted: in either case its value is 'v' wherever it is carried out
    have key : ∀ v : Value, (∀ u : Value, ∀ C' : World → Prop, (∀ w, C' w → C w) → ∀ l, RW P ops ef bk Q l ((a.put oj.dst u).put oi.dst v) C' → RW P ops ef bk Q (i :: l) (a.put oj.dst u) C') →
        RW P ops ef bk Q (p ++ j :: s) (a.put oi.dst v) C →
        doesAt P ops j a w (fun a' w' => ∃ C' : World → Prop, Open C' ∧ C' w' ∧ (j ∉ bk → ∀ w, C' w → C w) ∧ RW P ops ef bk Q (i :: (p ++ s)) a' C') := by
      intro v hq hr
      obtain ⟨o, ho, ih⟩ := RW.move hs p (a.put oi.dst v) C w hp' hO hr hC
      obtain rfl : o = oj := by rw [hoj] at ho; exact (Option.some.inj ho).symm
      refine ⟨o, ho, ?_⟩
      rw [wanted_put o a oi.dst v h1, does_congr (execOp_put o (fun cs b => hsi j o cs b hoj) a oi.dst v h1)] at ih
      have comm : ∀ u, (a.put oi.dst v).put o.dst u = (a.put o.dst u).put oi.dst v := fun u => Act.put_comm a v u h2
      have fin : ∀ u w', (∃ C' : World → Prop, Open C' ∧ C' w' ∧ (j ∉ bk → ∀ w, C' w → C w) ∧ RW P ops ef bk Q (p ++ s) ((a.put oi.dst v).put o.dst u) C') →
          ∃ C' : World → Prop, Open C' ∧ C' w' ∧ (j ∉ bk → ∀ w, C' w → C w) ∧ RW P ops ef bk Q (i :: (p ++ s)) (a.put o.dst u) C' := fun u w' ⟨C', c0, c1, c2, c3⟩ =>
        ⟨C', c0, c1, c2, hq u C' (c2 hjbk') _ (by rw [← comm]; exact c3)⟩
      rcases ih with ⟨hw, ih⟩ | ⟨hw, ih⟩
      · exact .inl ⟨hw, fin _ _ ih⟩
      · exact .inr ⟨hw, does_mono (fun u w' h => fin u w' h) ih⟩
    rcases h with ⟨hw, h⟩ | ⟨hw, h⟩
    · refine key undef (fun u C' _ l hl => ⟨oi, hoi, .inl ⟨?_, hl⟩⟩) h
      rw [wanted_put oi a oj.dst u h3]; exact hw
    · rcases h with ⟨v, hq, h⟩ | ⟨hi, _⟩
      · refine key v (fun u C' hm l hl => ⟨oi, hoi, .inr ⟨?_, .inl ⟨v, ?_, hl⟩⟩⟩) h
        · rw [wanted_put oi a oj.dst u h3]; exact hw
        · intro w1 hw1; rw [does_congr (execOp_put oi (fun cs b => hsi i oi cs b hoi) a oj.dst u h3)]; exact hq w1 (hm w1 hw1)
      · exact absurd hi hief'


theorem closedT_lt {T : Array Nat} (h : closedT ops T = true) {j k : Nat} (hj : j < ops.size) (hk : k ∈ boundAt ops j) : k < j := by
  simp only [closedT, List.all_eq_true, List.mem_range, Bool.and_eq_true] at h
  have := (h j hj).1 k hk
  simpa using this

theorem closedT_rel {T : Array Nat} (h : closedT ops T = true) {i j : Nat} (hi : i < ops.size) (hj : j < ops.size) (hr : rel T i j = true) : ∃ k ∈ boundAt ops j, k = i ∨ rel T i k = true := by
  simp only [closedT, List.all_eq_true, List.mem_range, Bool.and_eq_true] at h
  have := (h j hj).2 i hi
  simp only [hr, Bool.not_true, Bool.false_or, List.any_eq_true, Bool.or_eq_true, beq_iff_eq] at this
  exact this

/-- What is not in the rest has nothing of the rest ahead of it. -/
theorem rel_out {T : Array Nat} (h : closedT ops T = true) {l : List Nat} (hd : ∀ j, j < ops.size → j ∉ l → ∀ k ∈ boundAt ops j, k ∉ l) {i : Nat} (hi : i < ops.size) (hil : i ∈ l) :
    ∀ j, j < ops.size → j ∉ l → rel T i j = false := by
  intro j
  induction j using Nat.strongRecOn with
  | _ j ih =>
    intro hj hjl
    cases hr : rel T i j
    · rfl
    · obtain ⟨k, hk, h'⟩ := closedT_rel h hi hj hr
      have hkl := hd j hj hjl k hk
      rcases h' with rfl | h'
      · exact absurd hil hkl
      · have hlt := closedT_lt h hj hk
        rw [ih k hlt (by omega) hkl] at h'
        cases h'

theorem mem_boundAt {j k : Nat} {o : Oper} (ho : ops[j]? = some o) : k ∈ boundAt ops j ↔ ∃ e ∈ o.after, Region.binds .any e = true ∧ e.on = k := by
  simp [boundAt, ho, boundOf, and_assoc]

/-- Whatever order the rest comes in. -/
theorem RW.rest {T : Array Nat} (hs : Region.noSelect ops = true) (hT : closedT ops T = true) : ∀ (n : Nat) (l : List Nat) (listed : Array Bool) (a : Act) (C : World → Prop) (w : World), l.length = n →
    listed.size = ops.size → l.Nodup → (∀ j, j < ops.size → (listed.getD j true = false ↔ j ∈ l)) → (∀ j ∈ l, j < ops.size) → (∀ j, j < ops.size → j ∉ l → ∀ k ∈ boundAt ops j, k ∉ l) →
    pairsOk ops T ef bk l = true → (∀ i t, l = i :: t → ∀ k ∈ boundAt ops i, k ∉ l) → (∀ p j s, l = p ++ j :: s → ∀ k ∈ boundAt ops j, k ∈ l → k ∈ p) → Open C → RW P ops ef bk Q l a C → C w → wpAny P .any ops Q n listed a w
  | n, l, listed, a, C, w, hn, hsz, hnd, hl, hlt, hd, hp, hfst, htop, hO, h, hC => by
    have hready : ∀ j, j ∈ Region.ready .any ops listed ↔ j ∈ l ∧ ∀ k ∈ boundAt ops j, k ∉ l := by
      intro j
      rw [mem_ready]
      constructor
      · rintro ⟨h0, o, ho, hall⟩
        have hj : j < ops.size := (Array.getElem?_eq_some_iff.1 ho).1
        refine ⟨(hl j hj).1 h0, fun k hk hkl => ?_⟩
        obtain ⟨e, he, hb, rfl⟩ := (mem_boundAt ho).1 hk
        have h1 := hall e he hb
        have h2 := (hl e.on (hlt _ hkl)).2 hkl
        have h3 := hlt _ hkl
        have : e.on < listed.size := by omega
        simp [this] at h1 h2
        rw [h1] at h2; cases h2
      · rintro ⟨hj, hk⟩
        have hj' := hlt j hj
        refine ⟨(hl j hj').2 hj, ops[j], by simp [hj'], fun e he hb => ?_⟩
        have hmem : e.on ∈ boundAt ops j := (mem_boundAt (by simp [hj'])).2 ⟨e, he, hb, rfl⟩
        have hlt2 := closedT_lt hT hj' hmem
        have hnl := hk _ hmem
        have h2 : ¬ listed.getD e.on true = false := fun h => hnl ((hl e.on (by omega)).1 h)
        have : e.on < listed.size := by omega
        simp [this] at h2 ⊢
        exact h2
    cases n with
    | zero =>
      obtain rfl : l = [] := List.length_eq_zero_iff.1 hn
      refine ⟨?_, h w hC⟩
      refine List.eq_nil_iff_forall_not_mem.2 fun j hj => ?_
      have := ((hready j).1 hj).1
      cases this
    | succ n =>
      refine ⟨fun h0 => ?_, fun j hj => ?_⟩
      · cases l with
        | nil => simp at hn
        | cons i t =>
          have : i ∈ Region.ready .any ops listed := (hready i).2 ⟨by simp, hfst i t rfl⟩
          rw [h0] at this; cases this
      · obtain ⟨hjl, hjk⟩ := (hready j).1 hj
        have hj' := hlt j hjl
        obtain ⟨p, s, rfl⟩ := List.append_of_mem hjl
        have hpj : ∀ i ∈ p, pairOk ops T ef bk i j = true ∧ rel T i j = false := by
          intro i hi
          refine ⟨pairsOk_mem hp hi, ?_⟩
          cases hr : rel T i j
          · rfl
          · obtain ⟨k, hk, h'⟩ := closedT_rel hT (hlt i (by simp [hi])) hj' hr
            have hkl := hjk k hk
            rcases h' with rfl | h'
            · exact absurd (List.mem_append_left _ hi) hkl
            · have hlt2 := closedT_lt hT hj' hk
              rw [rel_out hT hd (hlt i (by simp [hi])) (by simp [hi]) k (by omega) hkl] at h'
              cases h'
        have hm := wpOp_of_doesAt (Q := Q) (RW.move hs p a C w hpj hO h hC)
        refine wpOp_mono ?_ hm
        rintro a' w' ⟨C', hO', hC', _, h'⟩
        have hnd' := hnd
        rw [List.nodup_append] at hnd'
        obtain ⟨ndp, ndjs, disj⟩ := hnd'
        rw [List.nodup_cons] at ndjs
        have hjp : j ∉ p := fun hj => disj j hj j (by simp) rfl
        have hjs : j ∉ s := ndjs.1
        have hmem : ∀ k, k ∈ p ++ s ↔ k ∈ p ++ j :: s ∧ k ≠ j := by
          intro k
          simp only [List.mem_append, List.mem_cons]
          constructor
          · rintro (h | h)
            · exact ⟨.inl h, fun e => hjp (e ▸ h)⟩
            · exact ⟨.inr (.inr h), fun e => hjs (e ▸ h)⟩
          · rintro ⟨h | h | h, hne⟩
            · exact .inl h
            · exact absurd h hne
            · exact .inr h
        refine RW.rest hs hT n (p ++ s) (listed.setIfInBounds j true) a' C' w' (by simp at hn ⊢; omega) (by simpa using hsz) ?_ ?_ ?_ ?_ (pairsOk_drop hp) ?_ ?_ hO' h' hC'
        · rw [List.nodup_append]
          exact ⟨ndp, ndjs.2, fun x hx y hy => disj x hx y (by simp [hy])⟩
        · intro k hk
          rw [hmem]
          by_cases hkj : k = j
          · subst hkj; simp [hsz, hk]
          · rw [getD_set_ne true (Ne.symm hkj), hl k hk]; simp [hkj]
        · intro k hk; exact hlt k ((hmem k).1 hk).1
        · intro k hk hkn m hmk hmm
          have hmm' := ((hmem m).1 hmm).1
          by_cases hkj : k = j
          · subst hkj; exact hjk m hmk hmm'
          · exact hd k hk (fun hkl => hkn ((hmem k).2 ⟨hkl, hkj⟩)) m hmk hmm'
        · intro i t hit k hk hkl
          have hkl' := ((hmem k).1 hkl)
          -- 'i' is the first of 'p ++ s'
          cases p with
          | nil =>
            simp only [List.nil_append] at hit hkl hkl' htop
            subst hit
            have := htop [j] i t rfl k hk hkl'.1
            simp at this
            exact hkl'.2 this
          | cons p0 p' =>
            simp only [List.cons_append, List.cons.injEq] at hit
            obtain ⟨rfl, _⟩ := hit
            exact hfst p0 (p' ++ j :: s) rfl k hk hkl'.1
        · intro p2 i s2 he k hk hkl
          have hkl' := (hmem k).1 hkl
          -- where does 'i' stand in the longer list?
          rcases List.append_eq_append_iff.1 he with ⟨m, hm1, hm2⟩ | ⟨m, hm1, hm2⟩
          · -- p2 = p ++ m, s = m ++ i :: s2
            subst hm1
            have := htop (p ++ j :: m) i s2 (by rw [hm2]; simp) k hk hkl'.1
            simp only [List.mem_append, List.mem_cons] at this ⊢
            rcases this with h | h | h
            · exact .inl h
            · exact absurd h hkl'.2
            · exact .inr h
          · -- p = p2 ++ m, i :: s2 = m ++ s
            cases m with
            | nil =>
              simp only [List.append_nil] at hm1
              simp only [List.nil_append] at hm2
              subst hm1
              have := htop (p ++ [j]) i s2 (by rw [← hm2]; simp) k hk hkl'.1
              simp only [List.mem_append, List.mem_singleton] at this
              rcases this with h | h
              · exact h
              · exact absurd h hkl'.2
            | cons m0 m' =>
              simp only [List.cons_append, List.cons.injEq] at hm2
              obtain ⟨rfl, _⟩ := hm2
              subst hm1
              exact htop p2 i (m' ++ j :: s) (by simp) k hk hkl'.1
  termination_by n => n

theorem topoOk_nodup : ∀ {seen l : List Nat}, topoOk ops seen l = true → l.Nodup ∧ ∀ x ∈ l, x ∉ seen
  | _, [], _ => ⟨List.nodup_nil, by simp⟩
  | seen, j :: l, h => by
    simp only [topoOk, Bool.and_eq_true, Bool.not_eq_true', List.contains_eq_mem, decide_eq_false_iff_not] at h
    obtain ⟨h1, h2⟩ := topoOk_nodup h.2
    refine ⟨List.nodup_cons.2 ⟨fun hj => h2 j hj (by simp), h1⟩, ?_⟩
    intro x hx
    rcases List.mem_cons.1 hx with rfl | hx
    · exact h.1.2
    · exact fun hs => h2 x hx (by simp [hs])

theorem topoOk_ahead : ∀ {seen l : List Nat}, topoOk ops seen l = true → ∀ p j s, l = p ++ j :: s → ∀ k ∈ boundAt ops j, k ∈ p ∨ k ∈ seen
  | _, [], _, p, j, s, he, _, _ => by cases p <;> cases he
  | seen, i :: l, h, p, j, s, he, k, hk => by
    simp only [topoOk, Bool.and_eq_true, List.all_eq_true, List.contains_eq_mem, decide_eq_true_eq] at h
    cases p with
    | nil =>
      simp only [List.nil_append, List.cons.injEq] at he
      obtain ⟨rfl, rfl⟩ := he
      exact .inr (h.1.1 k hk)
    | cons p0 p =>
      simp only [List.cons_append, List.cons.injEq] at he
      obtain ⟨rfl, rfl⟩ := he
      rcases topoOk_ahead h.2 p j s rfl k hk with h | h
      · exact .inl (by simp [h])
      · rcases List.mem_cons.1 h with rfl | h
        · exact .inl (by simp)
        · exact .inr h

/-- A region that draws its order, by one order. -/
theorem RW.any {π : List Nat} {a : Act} {C : World → Prop} {w : World} (hc : chk ops π ef bk = true) (hO : Open C) (h : RW P ops ef bk Q π a C) (hC : C w) :
    wpAny P .any ops Q ops.size (Array.replicate ops.size false) a w := by
  simp only [chk, Bool.and_eq_true, List.all_eq_true, List.mem_range, List.contains_eq_mem, decide_eq_true_eq] at hc
  obtain ⟨⟨⟨⟨⟨hT, hp⟩, ht⟩, hall⟩, hlt⟩, hs⟩ := hc
  have hlt' : ∀ j ∈ π, j < ops.size := fun j hj => by simpa using hlt j hj
  have hnd := (topoOk_nodup ht).1
  have hlen : π.length = ops.size := by
    refine Nat.le_antisymm ?_ ?_
    · have := List.Nodup.length_le_of_subset hnd (l₂ := List.range ops.size) (fun x hx => by simpa using hlt' x hx)
      simpa using this
    · have := List.Nodup.length_le_of_subset (List.nodup_range (n := ops.size)) (l₂ := π) (fun x hx => hall x (by simpa using hx))
      simpa using this
  have htop := topoOk_ahead ht
  have := RW.rest (P := P) (Q := Q) (ef := ef) (bk := bk) hs hT ops.size π (Array.replicate ops.size false) a C w hlen (by simp) hnd
    (fun j hj => by simp [hj, hall j hj]) hlt' (fun j hj hn => absurd (hall j hj) hn) hp
    (fun i t he k hk hkl => by
      have h1 := htop [] i t he k hk
      simp at h1) (fun p j s he k hk _ => by simpa using htop p j s he k hk) hO h hC
  exact this

end Go.PK
