/-
  PK, part B: a walk whose state is three lists: what the slots hold (E), what memory is told of and turns no more (I), what memory is one's own (H).
-/
import Derived.Test.YtkkfdoippibfkaaPkA
import Derived.Deep.LoopGhost
namespace Go.PK

abbrev Env := List (Nat × Value)

def Env.get : Env → Nat → Option Value
  | [], _ => none
  | (k, v) :: r, n => bif Nat.beq k n then some v else Env.get r n

def Env.ev (E : Env) : Operand → Option Value
  | .tmp t => E.get t
  | .const v => some v
  | .global g => some (.pointer (some ⟨g, 0, none⟩))
  | .func f => some (.func (.func f) #[] #[])

def evs (E : Env) : List Operand → Option (List Value)
  | [] => some []
  | x :: r => match E.ev x, evs E r with
    | some v, some vs => some (v :: vs)
    | _, _ => none

def nth {α : Type} : List α → Nat → Option α
  | [], _ => none
  | x :: _, 0 => some x
  | _ :: l, n + 1 => nth l n

theorem nth_eq {α : Type} : ∀ (l : List α) (i : Nat), nth l i = l[i]?
  | [], _ => by simp [nth]
  | _ :: _, 0 => by simp [nth]
  | _ :: l, n + 1 => by simp [nth, nth_eq l n]

/-- What a frame is known to hold. -/
structure Ag (N : Nat) (a : Act) (E : Env) : Prop where
  d : a.defers = []
  n : a.tmps.size = N
  t : ∀ k v, E.get k = some v → a.tmps[k]? = some v

theorem Ag.ev {N : Nat} {a : Act} {E : Env} (h : Ag N a E) {x : Operand} {v : Value} (hx : E.ev x = some v) : a.eval x = v := by
  cases x with
  | tmp t => simp [Act.eval, h.t t v hx]
  | const u => exact Option.some.inj hx
  | global g => exact Option.some.inj hx
  | func f => exact Option.some.inj hx

theorem Ag.evs {N : Nat} {a : Act} {E : Env} (h : Ag N a E) : ∀ {xs : List Operand} {vs : List Value}, evs E xs = some vs → xs.map a.eval = vs
  | [], vs, hx => by cases hx; rfl
  | x :: r, vs, hx => by
    unfold PK.evs at hx
    split at hx
    · rename_i v vs' h1 h2
      cases hx
      rw [List.map_cons, h.ev h1, h.evs h2]
    · cases hx

theorem Ag.put {N : Nat} {a : Act} {E : Env} (h : Ag N a E) {d : Nat} (hd : Nat.blt d N = true) (v : Value) : Ag N (a.put (some d) v) ((d, v) :: E) := by
  have hlt : d < a.tmps.size := by rw [h.n]; simpa using hd
  refine ⟨h.d, by simp [Act.put, h.n], fun k u hk => ?_⟩
  unfold Env.get at hk
  cases he : Nat.beq d k
  · simp only [he, cond_false] at hk
    have hne : d ≠ k := by intro e; subst e; simp at he
    simp only [Act.put]
    rw [Array.getElem?_setIfInBounds_ne hne]
    exact h.t k u hk
  · simp only [he, cond_true, Option.some.injEq] at hk
    have : d = k := by simpa using he
    subst this; subst hk
    simp [Act.put, hlt]

theorem Ag.putO {N : Nat} {a : Act} {E : Env} (h : Ag N a E) (v : Value) : Ag N (a.put none v) E := h

/-- Fewer slots. -/
inductive Sub (E : Env) : Env → Prop
  | nil : Sub E []
  | cons {k : Nat} {v : Value} {E' : Env} (h : E.get k = some v) (r : Sub E E') : Sub E ((k, v) :: E')

theorem Sub.get {E E' : Env} (h : Sub E E') : ∀ k v, E'.get k = some v → E.get k = some v := by
  induction h with
  | nil => intro k v hk; cases hk
  | cons h r ih =>
    rename_i k0 v0 E'
    intro k v hk
    unfold Env.get at hk
    cases he : Nat.beq k0 k
    · simp only [he, cond_false] at hk; exact ih k v hk
    · simp only [he, cond_true, Option.some.injEq] at hk
      have : k0 = k := by simpa using he
      subst this; subst hk; exact h

theorem Ag.sub {N : Nat} {a : Act} {E E' : Env} (h : Ag N a E) (s : Sub E E') : Ag N a E' := ⟨h.d, h.n, fun k v hk => h.t k v (s.get k v hk)⟩

/-- A thing in memory: which blocks it lies in, and what is true of them. -/
structure It where
  bs : List Nat
  A : World → Prop
  fr : ∀ w w', (∀ b ∈ bs, w'.heap[b]? = w.heap[b]?) → A w → A w'
  lt : ∀ w, A w → ∀ b ∈ bs, b < w.heap.size

def bss (H : List It) : List Nat := H.flatMap It.bs

@[simp] theorem bss_nil : bss [] = [] := rfl
@[simp] theorem bss_cons (x : It) (H : List It) : bss (x :: H) = x.bs ++ bss H := rfl
@[simp] theorem bss_append (H H' : List It) : bss (H ++ H') = bss H ++ bss H' := by simp [bss]
theorem mem_bss {H : List It} {b : Nat} : b ∈ bss H ↔ ∃ x ∈ H, b ∈ x.bs := by simp [bss]

/-- A block of cells, known whole. -/
def cel (b : Nat) (cs : List Value) (T : TypeId) : It where
  bs := [b]
  A w := w.heap[b]? = some (.cells cs.toArray T (0, 0))
  fr w w' h hA := by rw [h b (by simp)]; exact hA
  lt w hA c hc := by
    have : c = b := by simpa using hc
    subst this
    exact (Array.getElem?_eq_some_iff.1 hA).1

/-- Any other block (a map, ..), known whole. -/
def blk (b : Nat) (o : Obj) : It where
  bs := [b]
  A w := w.heap[b]? = some o
  fr w w' h hA := by rw [h b (by simp)]; exact hA
  lt w hA c hc := by
    have : c = b := by simpa using hc
    subst this
    exact (Array.getElem?_eq_some_iff.1 hA).1

structure Sat (I H : List It) (w : World) : Prop where
  i : ∀ x ∈ I, x.A w
  h : ∀ x ∈ H, x.A w
  nd : (bss H).Nodup
  dj : ∀ b ∈ bss I, b ∉ bss H

/-- The worlds of a walk that began at 'w0' with the blocks 'S' for its own. -/
structure Cls (w0 : World) (S : List Nat) (I H : List It) (w : World) : Prop where
  k : Keeps S w0 w
  s : Sat I H w
  own : ∀ b ∈ bss H, b < w0.heap.size → b ∈ S

theorem It.grow {S : List Nat} {x : It} {w w' : World} (h : x.A w) (hg : Keeps S w w') (hS : ∀ b ∈ x.bs, b ∉ S) : x.A w' :=
  x.fr w w' (fun b hb => hg.block b (x.lt w h b hb) (hS b hb)) h

theorem Sat.grow {I H : List It} {w w' : World} (h : Sat I H w) (hg : Grow w w') : Sat I H w' :=
  ⟨fun x hx => It.grow (h.i x hx) hg (by simp), fun x hx => It.grow (h.h x hx) hg (by simp), h.nd, h.dj⟩

theorem Cls.open (w0 : World) (S : List Nat) (I H : List It) : Open (Cls w0 S I H) := fun _ _ h hg => ⟨h.k.trans (hg.mono (by simp)), h.s.grow hg, h.own⟩

/-- Fewer things. -/
inductive Les : List It → List It → Prop
  | nil : Les [] []
  | keep {x : It} {H H' : List It} (h : Les H H') : Les (x :: H) (x :: H')
  | drop {x : It} {H H' : List It} (h : Les H H') : Les (x :: H) H'

theorem Les.mem {H H' : List It} (h : Les H H') : ∀ x ∈ H', x ∈ H := by
  induction h with
  | nil => simp
  | keep h ih => intro x hx; rcases List.mem_cons.1 hx with rfl | hx; · simp
                 · simp [ih x hx]
  | drop h ih => intro x hx; simp [ih x hx]

theorem Les.sublist {H H' : List It} (h : Les H H') : (bss H').Sublist (bss H) := by
  induction h with
  | nil => exact List.Sublist.refl _
  | keep h ih => simp only [bss_cons]; exact ih.append_left _
  | drop h ih => simp only [bss_cons]; exact ih.trans (List.sublist_append_right _ _)

theorem Les.refl : ∀ H : List It, Les H H
  | [] => .nil
  | _ :: H => .keep (Les.refl H)

theorem Sat.les {I H I' H' : List It} {w : World} (h : Sat I H w) (hi : ∀ x ∈ I', x ∈ I) (hh : Les H H') : Sat I' H' w :=
  ⟨fun x hx => h.i x (hi x hx), fun x hx => h.h x (hh.mem x hx), h.nd.sublist hh.sublist, fun b hb hb' => by
    obtain ⟨x, hx, hbx⟩ := mem_bss.1 hb
    exact h.dj b (mem_bss.2 ⟨x, hi x hx, hbx⟩) (hh.sublist.subset hb')⟩

theorem Cls.les {w0 : World} {S : List Nat} {I H I' H' : List It} {w : World} (h : Cls w0 S I H w) (hi : ∀ x ∈ I', x ∈ I) (hh : Les H H') : Cls w0 S I' H' w :=
  ⟨h.k, h.s.les hi hh, fun b hb => h.own b (hh.sublist.subset hb)⟩

/-! ### The judgements -/

def NQ (Q : Exit → Act → World → Prop) (N : Nat) (E : Env) (w0 : World) (S : List Nat) (I H : List It) : Prop := ∀ a w, Ag N a E → Cls w0 S I H w → Q .normal a w
def XQ (Q : Exit → Act → World → Prop) (id : Nat) (N : Nat) (E : Env) (w0 : World) (S : List Nat) (I H : List It) : Prop := ∀ a w, Ag N a E → Cls w0 S I H w → Q (.exit id) a w
def RQ (Q : Exit → Act → World → Prop) (N : Nat) (E : Env) (w0 : World) (S : List Nat) (I H : List It) : Prop := ∀ a w, Ag N a E → Cls w0 S I H w → Q .ret a w
def CW (P : Program) (c : Code) (Q : Exit → Act → World → Prop) (N : Nat) (E : Env) (w0 : World) (S : List Nat) (I H : List It) : Prop :=
  ∀ a w, Ag N a E → Cls w0 S I H w → c.wp P Q a w
/-- Those operations of a region that hang on what was told ahead of it alone. -/
structure Tq where
  l : List Nat
  T : List It
def Tq.W (t : Tq) (w : World) : Prop := ∀ x ∈ t.T, x.A w
def RL (P : Program) (L : List Oper) (ef bk : List Nat) (tq : Tq) (Q : Exit → Act → World → Prop) (l : Sq) (N : Nat) (E : Env) (w0 : World) (S : List Nat) (I H : List It) : Prop :=
  (∀ x ∈ tq.T, x ∈ I) → ∀ a, Ag N a E → RW P L.toArray ef bk tq.l tq.W Q l a (Cls w0 S I H)
theorem Cls.opn {t : Tq} {w0 : World} {S : List Nat} {I H : List It} (h : ∀ x ∈ t.T, x ∈ I) : Opn t.W (Cls w0 S I H) := ⟨Cls.open w0 S I H, fun _ hw x hx => hw.s.i x (h x hx)⟩

section
variable {P : Program} {Q : Exit → Act → World → Prop} {N : Nat} {E : Env} {w0 : World} {S : List Nat} {I H : List It} {K : Act → World → Prop} {id id' : Nat} {c x y : Code}

theorem NQ.seq (h : CW P y Q N E w0 S I H) : NQ (Exit.then (fun a w => y.wp P Q a w) Q) N E w0 S I H := h
theorem NQ.block (h : NQ Q N E w0 S I H) : NQ (Exit.inBlock id Q) N E w0 S I H := h
theorem XQ.seq (h : XQ Q id N E w0 S I H) : XQ (Exit.then K Q) id N E w0 S I H := h
theorem XQ.hit (h : NQ Q N E w0 S I H) : XQ (Exit.inBlock id Q) id N E w0 S I H := fun a w ha hw => by simpa [Exit.inBlock] using h a w ha hw
theorem XQ.miss (hne : Nat.beq id' id = false) (h : XQ Q id' N E w0 S I H) : XQ (Exit.inBlock id Q) id' N E w0 S I H := fun a w ha hw => by
  have : id' ≠ id := by intro e; subst e; simp at hne
  simpa [Exit.inBlock, this] using h a w ha hw
theorem RQ.seq (h : RQ Q N E w0 S I H) : RQ (Exit.then K Q) N E w0 S I H := h
theorem RQ.block (h : RQ Q N E w0 S I H) : RQ (Exit.inBlock id Q) N E w0 S I H := h

theorem CW.seq (h : CW P x (Exit.then (fun a w => y.wp P Q a w) Q) N E w0 S I H) : CW P (.seq x y) Q N E w0 S I H := fun a w ha hw => wp_seq (h a w ha hw)
theorem CW.block (h : CW P c (Exit.inBlock id Q) N E w0 S I H) : CW P (.block id c) Q N E w0 S I H := fun a w ha hw => wp_block (h a w ha hw)
theorem CW.skip (h : NQ Q N E w0 S I H) : CW P .skip Q N E w0 S I H := fun a w ha hw => wp_skip (h a w ha hw)
theorem CW.label {l : Nat} (h : NQ Q N E w0 S I H) : CW P (.label l) Q N E w0 S I H := fun a w ha hw => wp_label (h a w ha hw)
theorem CW.exit (h : XQ Q id N E w0 S I H) : CW P (.exit id) Q N E w0 S I H := fun a w ha hw => wp_exit (h a w ha hw)
theorem CW.ret (h : RQ Q N E w0 S I H) : CW P .ret Q N E w0 S I H := fun a w ha hw => wp_ret (h a w ha hw)
theorem CW.cond {o : Operand} {t : Bool} (ho : E.ev o = some (.bool t)) (h1 : t = true → CW P x Q N E w0 S I H) (h2 : t = false → CW P y Q N E w0 S I H) : CW P (.cond o x y) Q N E w0 S I H :=
  fun a w ha hw => wp_cond_split (ha.ev ho) (fun h => h1 h a w ha hw) (fun h => h2 h a w ha hw)
theorem CW.condT {o : Operand} {t : Bool} (ho : E.ev o = some (.bool t)) (ht : t = true) (h : CW P x Q N E w0 S I H) : CW P (.cond o x y) Q N E w0 S I H :=
  fun a w ha hw => wp_cond_true (ht ▸ ha.ev ho) (h a w ha hw)
theorem CW.condF {o : Operand} {t : Bool} (ho : E.ev o = some (.bool t)) (ht : t = false) (h : CW P y Q N E w0 S I H) : CW P (.cond o x y) Q N E w0 S I H :=
  fun a w ha hw => wp_cond_false (ht ▸ ha.ev ho) (h a w ha hw)

/-- Only these slots are still wanted. -/
theorem CW.only {E' : Env} (s : Sub E E') (h : CW P c Q N E' w0 S I H) : CW P c Q N E w0 S I H := fun a w ha hw => h a w (ha.sub s) hw
theorem NQ.only {E' : Env} (s : Sub E E') (h : NQ Q N E' w0 S I H) : NQ Q N E w0 S I H := fun a w ha hw => h a w (ha.sub s) hw
theorem CW.les {I' H' : List It} (hi : ∀ x ∈ I', x ∈ I) (hh : Les H H') (h : CW P c Q N E w0 S I' H') : CW P c Q N E w0 S I H := fun a w ha hw => h a w ha (hw.les hi hh)
theorem NQ.les {I' H' : List It} (hi : ∀ x ∈ I', x ∈ I) (hh : Les H H') (h : NQ Q N E w0 S I' H') : NQ Q N E w0 S I H := fun a w ha hw => h a w ha (hw.les hi hh)
/-- Another description of the same memory. -/
theorem CW.conv {I' H' : List It} (hc : ∀ w, Cls w0 S I H w → Cls w0 S I' H' w) (h : CW P c Q N E w0 S I' H') : CW P c Q N E w0 S I H := fun a w ha hw => h a w ha (hc w hw)
theorem NQ.conv {I' H' : List It} (hc : ∀ w, Cls w0 S I H w → Cls w0 S I' H' w) (h : NQ Q N E w0 S I' H') : NQ Q N E w0 S I H := fun a w ha hw => h a w ha (hc w hw)
/-- A fact that every world of the class shows. -/
theorem CW.fact {p : Prop} (hp : ∀ w, Cls w0 S I H w → p) (h : p → CW P c Q N E w0 S I H) : CW P c Q N E w0 S I H := fun a w ha hw => h (hp w hw) a w ha hw

theorem CW.region {rid : Nat} {L : List Oper} {ef bk : List Nat} (h : RL P L ef bk ⟨[], []⟩ Q (Sq.of (List.range L.length)) N E w0 S I H) : CW P (.region rid L.toArray false) Q N E w0 S I H := fun a w ha hw =>
  wp_region (by simpa using RW.text _ a _ w (Cls.opn (t := ⟨[], []⟩) (by simp)) (h (by simp) a ha) hw)

theorem CW.regionD {rid : Nat} {L : List Oper} (π : Sq) (ef bk tl : List Nat) (hm : P.follows .mixedOrders = true) (hc : chk L.toArray π ef bk tl = true) (h : RL P L ef bk ⟨tl, I⟩ Q π N E w0 S I H) :
    CW P (.region rid L.toArray true) Q N E w0 S I H := fun a _ ha hw =>
  wp_region_any hm (RW.any hc (Cls.opn (t := ⟨tl, I⟩) (fun _ h => h)) (h (fun _ h => h) a ha) (Cls.open w0 S I H _ _ hw (Keeps.drew _ _ _ (Nat.le_succ _))))

/-- A loop: 'g' tells how far it is. -/
theorem CW.loop {γ : Type} (good : γ → Prop) (Eg : γ → Env) (Ig Hg : γ → List It) (μ : γ → Nat) (g0 : γ) (h0 : good g0) (s : Sub E (Eg g0)) (hc : ∀ w, Cls w0 S I H w → Cls w0 S (Ig g0) (Hg g0) w)
    (round : ∀ g, good g → CW P c (Exit.then (fun a w => ∃ g', good g' ∧ μ g' < μ g ∧ Ag N a (Eg g') ∧ Cls w0 S (Ig g') (Hg g') w) Q) N (Eg g) w0 S (Ig g) (Hg g)) : CW P (.loop c) Q N E w0 S I H := by
  intro a w ha hw
  refine wp_loop_ghost (fun n a w => ∃ g, good g ∧ μ g = n ∧ Ag N a (Eg g) ∧ Cls w0 S (Ig g) (Hg g) w) (μ g0) ⟨g0, h0, rfl, ha.sub s, hc w hw⟩ ?_
  rintro n a w ⟨g, hg, rfl, ha, hw⟩
  refine wp_mono (round g hg a w ha hw) ?_
  intro e a' w' hq
  cases e with
  | normal => obtain ⟨g', h1, h2, h3, h4⟩ := hq; exact ⟨μ g', h2, g', h1, rfl, h3, h4⟩
  | exit id => exact hq
  | goto l => exact hq
  | ret => exact hq
  | panic ch => exact hq
  | outgrown => exact hq

/-- A round's end. -/
theorem NQ.round {γ : Type} {good : γ → Prop} {Eg : γ → Env} {Ig Hg : γ → List It} {μ : γ → Nat} {g : γ} (g' : γ) (h : good g') (hμ : μ g' < μ g) (s : Sub E (Eg g')) (hc : ∀ w, Cls w0 S I H w → Cls w0 S (Ig g') (Hg g') w) :
    NQ (Exit.then (fun a w => ∃ g', good g' ∧ μ g' < μ g ∧ Ag N a (Eg g') ∧ Cls w0 S (Ig g') (Hg g') w) Q) N E w0 S I H := fun _ _ ha hw => ⟨g', h, hμ, ha.sub s, hc _ hw⟩
end

/-! ### One operation -/

def wants (L : List Oper) (E : Env) (o : Oper) : Bool :=
  match o.guard with
  | none => true
  | some (j, want) => match nth L j with
    | some oj => match oj.dst with
      | some dj => match E.get dj with
        | some (.bool b) => b == want
        | _ => false
      | none => false
    | none => false

def unwants (L : List Oper) (E : Env) (o : Oper) : Bool :=
  match o.guard with
  | none => false
  | some (j, want) => match nth L j with
    | some oj => match oj.dst with
      | some dj => match E.get dj with
        | some (.bool b) => b != want
        | some (.tuple _) => true
        | _ => false
      | none => false
    | none => false

theorem wants_spec {L : List Oper} {E : Env} {o : Oper} {N : Nat} {a : Act} (h : wants L E o = true) (ha : Ag N a E) : Region.wanted o (yielded L.toArray a.tmps) = true := by
  unfold wants at h
  unfold Region.wanted
  split at h
  · rename_i hg; rw [hg]
  · rename_i j want hg
    rw [hg]
    split at h
    · rename_i oj hj
      split at h
      · rename_i dj hd
        split at h
        · rename_i b hb
          have hb' := ha.t _ _ hb
          simp only [beq_iff_eq] at h ⊢
          rw [nth_eq] at hj
          simp [yielded, hj, hd, hb', h]
        · cases h
      · cases h
    · cases h

theorem unwants_spec {L : List Oper} {E : Env} {o : Oper} {N : Nat} {a : Act} (h : unwants L E o = true) (ha : Ag N a E) : Region.wanted o (yielded L.toArray a.tmps) = false := by
  unfold unwants at h
  unfold Region.wanted
  split at h
  · cases h
  · rename_i j want hg
    rw [hg]
    split at h
    · rename_i oj hj
      split at h
      · rename_i dj hd
        split at h
        · rename_i b hb
          have hb' := ha.t _ _ hb
          rw [nth_eq] at hj
          simp only [yielded, List.getElem?_toArray, hj, Option.bind_some, hd, hb']
          simpa using h
        · rename_i hb
          have hb' := ha.t _ _ hb
          rw [nth_eq] at hj
          simp [yielded, List.getElem?_toArray, hj, hd, hb']
        · cases h
      · cases h
    · cases h

section
variable {P : Program} {L : List Oper} {ef bk : List Nat} {tq : Tq} {Q : Exit → Act → World → Prop} {N : Nat} {E : Env} {w0 : World} {S : List Nat} {I H : List It} {i : Nat} {l : Sq}

theorem RL.nil (h : NQ Q N E w0 S I H) : RL P L ef bk tq Q .nil N E w0 S I H := fun _ a ha w hw => h a w ha hw

/-- A fork: whatever comes next. -/
def AllK (p : Nat → Prop) : List Nat → Prop
  | [] => True
  | k :: r => p k ∧ AllK p r
theorem AllK.spec {p : Nat → Prop} : ∀ {ks : List Nat}, AllK p ks → ∀ k ∈ ks, p k
  | [], _, k, h => by cases h
  | a :: r, hp, k, h => by
    rcases List.mem_cons.1 h with rfl | h
    · exact hp.1
    · exact AllK.spec hp.2 k h
theorem RL.fork {ks : List Nat} {f : Nat → Sq} (h : AllK (fun k => RL P L ef bk tq Q (.cons k (f k)) N E w0 S I H) ks) : RL P L ef bk tq Q (.fork ks f) N E w0 S I H := fun hT a ha k hk => AllK.spec h k hk hT a ha

theorem RL.only {E' : Env} (s : Sub E E') (h : RL P L ef bk tq Q l N E' w0 S I H) : RL P L ef bk tq Q l N E w0 S I H := fun hT a ha => h hT a (ha.sub s)

/-- Slot 'd' holds a Bool that is not decided: part. -/
theorem RL.part {d : Nat} {b : Bool} (hd : E.get d = some (.bool b)) (h1 : b = true → RL P L ef bk tq Q l N ((d, .bool true) :: E) w0 S I H) (h2 : b = false → RL P L ef bk tq Q l N ((d, .bool false) :: E) w0 S I H) :
    RL P L ef bk tq Q l N E w0 S I H := by
  intro hT a ha
  have key : ∀ b', b = b' → Ag N a ((d, .bool b') :: E) := by
    rintro _ rfl
    refine ⟨ha.d, ha.n, fun k v hk => ?_⟩
    unfold Env.get at hk
    cases he : Nat.beq d k
    · simp only [he, cond_false] at hk; exact ha.t k v hk
    · simp only [he, cond_true, Option.some.injEq] at hk
      have : d = k := by simpa using he
      subst this; subst hk; exact ha.t d _ hd
  cases b
  · exact h2 rfl hT a (key _ rfl)
  · exact h1 rfl hT a (key _ rfl)

/-- 'b || c', where what reckons 'c' is quiet and wanted only where 'b' is false: one walk behind it. 'K': closes either way. -/
theorem RL.orB {d dp : Nat} {b c : Bool} {l' : Sq} {E' : Env} (hd : E.get d = some (.bool b)) (s : Sub E E')
    (h2 : b = false → (∀ E1, Sub E1 ((dp, .bool c) :: E') → RL P L ef bk tq Q l' N E1 w0 S I H) → RL P L ef bk tq Q l N ((d, .bool false) :: E) w0 S I H)
    (h1 : b = true → (∀ E1, Sub E1 ((dp, .bool true) :: E') → RL P L ef bk tq Q l' N E1 w0 S I H) → RL P L ef bk tq Q l N ((d, .bool true) :: E) w0 S I H)
    (k : RL P L ef bk tq Q l' N ((dp, .bool (b || c)) :: E') w0 S I H) : RL P L ef bk tq Q l N E w0 S I H :=
  RL.part hd (fun hb => h1 hb fun E1 s1 => by subst hb; exact RL.only s1 k) (fun hb => h2 hb fun E1 s1 => by subst hb; exact RL.only s1 k)
theorem RL.andB {d dp : Nat} {b c : Bool} {l' : Sq} {E' : Env} (hd : E.get d = some (.bool b)) (s : Sub E E')
    (h1 : b = true → (∀ E1, Sub E1 ((dp, .bool c) :: E') → RL P L ef bk tq Q l' N E1 w0 S I H) → RL P L ef bk tq Q l N ((d, .bool true) :: E) w0 S I H)
    (h2 : b = false → (∀ E1, Sub E1 ((dp, .bool false) :: E') → RL P L ef bk tq Q l' N E1 w0 S I H) → RL P L ef bk tq Q l N ((d, .bool false) :: E) w0 S I H)
    (k : RL P L ef bk tq Q l' N ((dp, .bool (b && c)) :: E') w0 S I H) : RL P L ef bk tq Q l N E w0 S I H :=
  RL.part hd (fun hb => h1 hb fun E1 s1 => by subst hb; exact RL.only s1 k) (fun hb => h2 hb fun E1 s1 => by subst hb; exact RL.only s1 k)

/-- Slot 'd' holds this, too. -/
theorem RL.cast {d : Nat} {v v' : Value} (hd : E.get d = some v) (hv : v = v') (h : RL P L ef bk tq Q l N ((d, v') :: E) w0 S I H) : RL P L ef bk tq Q l N E w0 S I H := by
  subst hv
  intro hT a ha
  refine h hT a ⟨ha.d, ha.n, fun k u hk => ?_⟩
  unfold Env.get at hk
  cases he : Nat.beq d k
  · simp only [he, cond_false] at hk; exact ha.t k u hk
  · simp only [he, cond_true, Option.some.injEq] at hk
    have : d = k := by simpa using he
    subst this; subst hk; exact ha.t d _ hd

theorem RL.skip {o : Oper} {d : Nat} (ho : nth L i = some o) (hw : unwants L E o = true) (hd : o.dst = some d) (hN : Nat.blt d N = true) (h : RL P L ef bk tq Q l N ((d, undef) :: E) w0 S I H) :
    RL P L ef bk tq Q (.cons i l) N E w0 S I H := fun hT a ha =>
  ⟨o, by rw [List.getElem?_toArray, ← nth_eq]; exact ho, .inl ⟨unwants_spec hw ha, by rw [hd]; exact h hT _ (ha.put hN _)⟩⟩

theorem RL.skip0 {o : Oper} (ho : nth L i = some o) (hw : unwants L E o = true) (hd : o.dst = none) (h : RL P L ef bk tq Q l N E w0 S I H) :
    RL P L ef bk tq Q (.cons i l) N E w0 S I H := fun hT a ha =>
  ⟨o, by rw [List.getElem?_toArray, ← nth_eq]; exact ho, .inl ⟨unwants_spec hw ha, by rw [hd]; exact h hT _ ha⟩⟩

/-- An operation that yields one value in every world of the class, and keeps all memory. -/
theorem RL.quiet {o : Oper} {d : Nat} {v : Value} (ho : nth L i = some o) (hw : wants L E o = true) (hd : o.dst = some d) (hN : Nat.blt d N = true)
    (hv : ∀ a w, Ag N a E → Cls w0 S I H w → does P o a w (fun u w' => u = v ∧ Grow w w')) (h : RL P L ef bk tq Q l N ((d, v) :: E) w0 S I H) (hp : pureOp o.op = false := by rfl) (ht : tq.l.contains i = false := by rfl) : RL P L ef bk tq Q (.cons i l) N E w0 S I H := fun hT a ha =>
  ⟨o, by rw [List.getElem?_toArray, ← nth_eq]; exact ho, .inr ⟨wants_spec hw ha, .inl ⟨v, fun w hC => hv a w ha ((hC.resolve_left (by simp [hp])).resolve_left (fun h => by simp at ht; exact ht h.1)), by rw [hd]; exact h hT _ (ha.put hN _)⟩⟩⟩

/-- The like, where what was told ahead of the region is enough. -/
theorem RL.toldQ {o : Oper} {d : Nat} {v : Value} (ho : nth L i = some o) (hw : wants L E o = true) (hd : o.dst = some d) (hN : Nat.blt d N = true)
    (hv : ∀ a w, Ag N a E → (∀ x ∈ tq.T, x.A w) → does P o a w (fun u w' => u = v ∧ Grow w w')) (h : RL P L ef bk tq Q l N ((d, v) :: E) w0 S I H) (hp : pureOp o.op = false := by rfl) : RL P L ef bk tq Q (.cons i l) N E w0 S I H := fun hT a ha =>
  ⟨o, by rw [List.getElem?_toArray, ← nth_eq]; exact ho, .inr ⟨wants_spec hw ha, .inl ⟨v, fun w hC => hv a w ha ((hC.resolve_left (by simp [hp])).elim (·.2) (fun h x hx => h.s.i x (hT x hx))), by rw [hd]; exact h hT _ (ha.put hN _)⟩⟩⟩

theorem RL.toldV {o : Oper} {d : Nat} {v : Value} (ho : nth L i = some o) (hw : wants L E o = true) (hd : o.dst = some d) (hN : Nat.blt d N = true)
    (hv : ∀ a w, Ag N a E → (∀ x ∈ tq.T, x.A w) → (execOp a.eval o).run P w = .ok (.value v) w) (h : RL P L ef bk tq Q l N ((d, v) :: E) w0 S I H) (hp : pureOp o.op = false := by rfl) : RL P L ef bk tq Q (.cons i l) N E w0 S I H :=
  RL.toldQ ho hw hd hN (fun a w ha hC => by unfold does; rw [hv a w ha hC]; exact ⟨rfl, Keeps.refl _ _⟩) h hp

/-- The like, in any world. -/
theorem RL.pval {o : Oper} {d : Nat} {v : Value} (ho : nth L i = some o) (hw : wants L E o = true) (hd : o.dst = some d) (hN : Nat.blt d N = true)
    (hv : ∀ a w, Ag N a E → (execOp a.eval o).run P w = .ok (.value v) w) (h : RL P L ef bk tq Q l N ((d, v) :: E) w0 S I H) : RL P L ef bk tq Q (.cons i l) N E w0 S I H := fun hT a ha =>
  ⟨o, by rw [List.getElem?_toArray, ← nth_eq]; exact ho, .inr ⟨wants_spec hw ha, .inl ⟨v, fun w _ => by unfold does; rw [hv a w ha]; exact ⟨rfl, Keeps.refl _ _⟩, by rw [hd]; exact h hT _ (ha.put hN _)⟩⟩⟩

theorem RL.quiet0 {o : Oper} {v : Value} (ho : nth L i = some o) (hw : wants L E o = true) (hd : o.dst = none)
    (hv : ∀ a w, Ag N a E → Cls w0 S I H w → does P o a w (fun u w' => u = v ∧ Grow w w')) (h : RL P L ef bk tq Q l N E w0 S I H) (hp : pureOp o.op = false := by rfl) (ht : tq.l.contains i = false := by rfl) : RL P L ef bk tq Q (.cons i l) N E w0 S I H := fun hT a ha =>
  ⟨o, by rw [List.getElem?_toArray, ← nth_eq]; exact ho, .inr ⟨wants_spec hw ha, .inl ⟨v, fun w hC => hv a w ha ((hC.resolve_left (by simp [hp])).resolve_left (fun h => by simp at ht; exact ht h.1)), by rw [hd]; exact h hT _ ha⟩⟩⟩

/-- The like, at an operation that is a value's. -/
theorem RL.val {o : Oper} {d : Nat} {v : Value} (ho : nth L i = some o) (hw : wants L E o = true) (hd : o.dst = some d) (hN : Nat.blt d N = true)
    (hv : ∀ a w, Ag N a E → Cls w0 S I H w → (execOp a.eval o).run P w = .ok (.value v) w) (h : RL P L ef bk tq Q l N ((d, v) :: E) w0 S I H) (hp : pureOp o.op = false := by rfl) (ht : tq.l.contains i = false := by rfl) : RL P L ef bk tq Q (.cons i l) N E w0 S I H :=
  RL.quiet ho hw hd hN (fun a w ha hC => by unfold does; rw [hv a w ha hC]; exact ⟨rfl, Keeps.refl _ _⟩) h hp ht

/-- An operation that turns the world. -/
theorem RL.eff {o : Oper} {d : Nat} (ho : nth L i = some o) (hw : wants L E o = true) (hi : ef.contains i = true) (hd : o.dst = some d) (hN : Nat.blt d N = true)
    (hv : ∀ a w, Ag N a E → Cls w0 S I H w → does P o a w (fun v w' => ∃ I' H', Cls w0 S I' H' w' ∧ (∀ x ∈ I, x ∈ I') ∧ (bk.contains i = false → ∀ w, Cls w0 S I' H' w → Cls w0 S I H w) ∧ RL P L ef bk tq Q l N ((d, v) :: E) w0 S I' H')) :
    RL P L ef bk tq Q (.cons i l) N E w0 S I H := fun hT a ha =>
  ⟨o, by rw [List.getElem?_toArray, ← nth_eq]; exact ho, .inr ⟨wants_spec hw ha, .inr ⟨by simpa using hi, fun w hC => does_mono (fun v w' ⟨I', H', h1, hs, h2, h3⟩ =>
    have hT' := fun x hx => hs x (hT x hx)
    ⟨Cls w0 S I' H', Cls.opn hT', h1, fun hb => h2 (by simpa using hb), by rw [hd]; exact h3 hT' _ (ha.put hN _)⟩) (hv a w ha hC)⟩⟩⟩

theorem RL.eff0 {o : Oper} (ho : nth L i = some o) (hw : wants L E o = true) (hi : ef.contains i = true) (hd : o.dst = none)
    (hv : ∀ a w, Ag N a E → Cls w0 S I H w → does P o a w (fun _ w' => ∃ I' H', Cls w0 S I' H' w' ∧ (∀ x ∈ I, x ∈ I') ∧ (bk.contains i = false → ∀ w, Cls w0 S I' H' w → Cls w0 S I H w) ∧ RL P L ef bk tq Q l N E w0 S I' H')) :
    RL P L ef bk tq Q (.cons i l) N E w0 S I H := fun hT a ha =>
  ⟨o, by rw [List.getElem?_toArray, ← nth_eq]; exact ho, .inr ⟨wants_spec hw ha, .inr ⟨by simpa using hi, fun w hC => does_mono (fun v w' ⟨I', H', h1, hs, h2, h3⟩ =>
    have hT' := fun x hx => hs x (hT x hx)
    ⟨Cls w0 S I' H', Cls.opn hT', h1, fun hb => h2 (by simpa using hb), by rw [hd]; exact h3 hT' _ ha⟩) (hv a w ha hC)⟩⟩⟩

end
end Go.PK
