import Derived.Test.YthgjgeapfndeeaaGreatDoorPA
set_option linter.unusedVariables false
set_option linter.unusedSimpArgs false
/-
  PK, part D: operations on memory.
-/
namespace Go.PK

section
variable {P : Program} {L : List Oper} {ef bk : List Nat} {tq : Tq} {Q : Exit → Act → World → Prop} {N : Fm} {E : Env} {w0 : World} {S : List Nat} {I H : List It} {i : Nat} {l : Sq}
variable {d : Nat} {x y z : Operand} {ty t yt : TypeId} {pos : String} {af : Array Edge} {g : Option (Nat × Bool)} {v : Value} {k k' : IntKind} {m n : Int}

theorem heap_alloc_lt (w : World) (o : Obj) {b : Nat} (h : b < w.heap.size) : (w.alloc o).heap[b]? = w.heap[b]? := by
  simp only [World.alloc, Array.getElem?_push, if_neg (show ¬ b = w.heap.size by omega)]

theorem heap_alloc_same (w : World) (o : Obj) : (w.alloc o).heap[w.heap.size]? = some o := by
  show (w.heap.push o)[w.heap.size]? = some o
  simp

theorem Keeps.alloc (S : List Nat) (w : World) (o : Obj) : Keeps S w (w.alloc o) :=
  ⟨rfl, rfl, rfl, by simp, fun _ hb _ => heap_alloc_lt w o hb, Nat.le_refl _⟩

/-- One thing more, in new blocks. -/
theorem Cls.more {x : It} {w w' : World} (h : Cls w0 S I H w) (hg : Grow w w') (hx : x.A w') (hn : x.bs.Nodup) (hb : ∀ b ∈ x.bs, w.heap.size ≤ b) : Cls w0 S I (x :: H) w' := by
  have hO := Cls.open w0 S I H w w' h hg
  have ltH : ∀ b ∈ bss H, b < w.heap.size := fun b hb => by obtain ⟨y, hy, hbx⟩ := mem_bss.1 hb; exact y.lt w (h.s.h y hy) b hbx
  have ltI : ∀ b ∈ bss I, b < w.heap.size := fun b hb => by obtain ⟨y, hy, hbx⟩ := mem_bss.1 hb; exact y.lt w (h.s.i y hy) b hbx
  refine ⟨hO.k, ⟨hO.s.i, fun y hy => ?_, ?_, fun b hb' hbx => ?_⟩, fun b hbx hlt => ?_⟩
  · rcases List.mem_cons.1 hy with rfl | hy
    · exact hx
    · exact hO.s.h y hy
  · rw [bss_cons, List.nodup_append]
    exact ⟨hn, h.s.nd, fun b h1 b' h2 e => by subst e; have := hb b h1; have := ltH b h2; omega⟩
  · rw [bss_cons] at hbx
    rcases List.mem_append.1 hbx with h1 | h1
    · have := hb b h1; have := ltI b hb'; omega
    · exact h.s.dj b hb' h1
  · rw [bss_cons] at hbx
    rcases List.mem_append.1 hbx with h1 | h1
    · have := hb b h1; have := h.k.size; omega
    · exact h.own b h1 hlt

theorem Cls.less {x : It} {w : World} (h : Cls w0 S I (x :: H) w) : Cls w0 S I H w := h.les (fun _ h => h) (.drop (Les.refl H))

/-- An operation that makes one thing in new blocks. -/
theorem RL.make {o : Oper} {x : Nat → It} {u : Nat → Value} (ho : nth L i = some o) (hw : wants L E o = true) (hi : ef.contains i = true) (hd : o.dst = some d) (hN : Nat.blt d N.n = true)
    (hv : ∀ a w, Ag N a E → Cls w0 S I H w → ∃ w', (execOp a.eval o).run P w = .ok (.value (u w.heap.size)) w' ∧ Grow w w' ∧ (x w.heap.size).A w' ∧ (x w.heap.size).bs = [w.heap.size])
    (h : ∀ b, RL P L ef bk tq Q l N ((d, u b) :: E) w0 S I (x b :: H)) : RL P L ef bk tq Q (.cons i l) N E w0 S I H := by
  refine RL.eff ho hw hi hd hN (fun a w ha hC => ?_)
  obtain ⟨w', h1, h2, h3, h4⟩ := hv a w ha hC
  unfold does
  rw [h1]
  exact ⟨I, _, hC.more h2 h3 (by rw [h4]; simp) (by rw [h4]; simp), fun _ h => h, fun _ _ h => h.less, h _⟩

theorem cel_new {w : World} {cs : List Value} {T : TypeId} : (cel w.heap.size cs T).A (w.alloc (.cells cs.toArray T)) := heap_alloc_same w _

theorem RL.box {cs : List Value} (ho : nth L i = some ⟨some d, .box t x, ty, pos, af, g⟩) (hw : wants L E ⟨some d, .box t x, ty, pos, af, g⟩ = true) (hN : Nat.blt d N.n = true) (hi : ef.contains i = true)
    (hx : E.ev x = some v) (hc : v.cells = cs.toArray) (h : ∀ b, RL P L ef bk tq Q l N ((d, .pointer (some ⟨b, 0, none⟩)) :: E) w0 S I (cel b cs t :: H)) : RL P L ef bk tq Q (.cons i l) N E w0 S I H :=
  RL.make (x := fun b => cel b cs t) (u := fun b => .pointer (some ⟨b, 0, none⟩)) ho hw hi rfl hN (fun a w ha _ => ⟨w.alloc (.cells cs.toArray t), by
    simp [execOp, ha.ev hx, Instr.box, newVar, newRow, hc], Keeps.alloc _ _ _, cel_new, rfl⟩) h

theorem RL.alloc {cs : List Value} {z' : Value} (hz : ∀ w, (zeroValue t).run P w = .ok z' w) (ho : nth L i = some ⟨some d, .alloc t, ty, pos, af, g⟩) (hw : wants L E ⟨some d, .alloc t, ty, pos, af, g⟩ = true) (hN : Nat.blt d N.n = true) (hi : ef.contains i = true)
    (hc : z'.cells = cs.toArray) (h : ∀ b, RL P L ef bk tq Q l N ((d, .pointer (some ⟨b, 0, none⟩)) :: E) w0 S I (cel b cs t :: H)) : RL P L ef bk tq Q (.cons i l) N E w0 S I H :=
  RL.make (x := fun b => cel b cs t) (u := fun b => .pointer (some ⟨b, 0, none⟩)) ho hw hi rfl hN (fun a w _ _ => ⟨w.alloc (.cells cs.toArray t), by
    simp [execOp, Instr.alloc, hz, newVar, newRow, hc], Keeps.alloc _ _ _, cel_new, rfl⟩) h

/-! ### Reading -/

/-- In every world with these things the cell holds this. -/
def Rd (I H : List It) (p : Addr) (v : Value) : Prop := ∀ w, Sat I H w → w.cell? p = some v
/-- .. the cells from here on hold these. -/
def Rds (I H : List It) (p : Addr) (vs : List Value) : Prop := ∀ w, Sat I H w → ∀ j u, vs[j]? = some u → w.cell? (p.add j) = some u

theorem cell_of_cel {b off : Nat} {cs : List Value} {T : TypeId} {w : World} (h : (cel b cs T).A w) : w.cell? ⟨b, off, none⟩ = cs[off]? := by
  have h' : w.heap[b]? = some (.cells cs.toArray T (0, 0)) := h
  simp [World.cell?, h']

theorem Rd.cel {b off : Nat} {cs : List Value} {T : TypeId} (hm : cel b cs T ∈ H) (hn : nth cs off = some v) : Rd I H ⟨b, off, none⟩ v := fun w hw => by
  rw [cell_of_cel (hw.h _ hm), ← nth_eq]; exact hn
theorem Rd.celI {b off : Nat} {cs : List Value} {T : TypeId} (hm : PK.cel b cs T ∈ I) (hn : nth cs off = some v) : Rd I H ⟨b, off, none⟩ v := fun w hw => by
  rw [cell_of_cel (hw.i _ hm), ← nth_eq]; exact hn

theorem add_none (b off j : Nat) : (⟨b, off, none⟩ : Addr).add j = ⟨b, off + j, none⟩ := by unfold Addr.add; split <;> simp_all

theorem Rds.cel {b off : Nat} {cs vs : List Value} {T : TypeId} (hm : PK.cel b cs T ∈ H) (hv : ∀ j u, vs[j]? = some u → cs[off + j]? = some u) : Rds I H ⟨b, off, none⟩ vs := fun w hw j u hu => by
  rw [add_none, cell_of_cel (hw.h _ hm)]; exact hv j u hu
theorem Rds.celI {b off : Nat} {cs vs : List Value} {T : TypeId} (hm : PK.cel b cs T ∈ I) (hv : ∀ j u, vs[j]? = some u → cs[off + j]? = some u) : Rds I H ⟨b, off, none⟩ vs := fun w hw j u hu => by
  rw [add_none, cell_of_cel (hw.i _ hm)]; exact hv j u hu

/-- Some cells of a list, told one by one. -/
def at_ (cs : List Value) : Nat → List Value → Prop
  | _, [] => True
  | n, v :: vs => nth cs n = some v ∧ at_ cs (n + 1) vs

theorem at_spec {cs : List Value} : ∀ {vs : List Value} {n : Nat}, at_ cs n vs → ∀ j u, vs[j]? = some u → cs[n + j]? = some u
  | [], _, _, j, u, h => by simp at h
  | v :: vs, n, hh, 0, u, h => by
    simp only [List.getElem?_cons_zero, Option.some.injEq] at h
    subst h; rw [Nat.add_zero, ← nth_eq]; exact hh.1
  | v :: vs, n, hh, j + 1, u, h => by
    simp only [List.getElem?_cons_succ] at h
    have := at_spec hh.2 j u h
    rwa [show n + 1 + j = n + (j + 1) by omega] at this

theorem run_isAggF {T : TypeId} {a : Addr} {w : World} (hag : ∀ w, (isAgg T).run P w = .ok false w) (h : w.cell? a = some v) : (loadVar T a).run P w = .ok v w := by
  simp [loadVar, hag, h]

theorem run_isAggT {T : TypeId} {a : Addr} {w : World} {vs : List Value} (hag : ∀ w, (isAgg T).run P w = .ok true w) (hs : ∀ w, (sizeOf T).run P w = .ok vs.length w) (h : ∀ j u, vs[j]? = some u → w.cell? (a.add j) = some u) :
    (loadVar T a).run P w = .ok (.agg vs.toArray) w := by
  simp [loadVar, hag, hs, run_loadCells_list w a vs h]

theorem RL.load {p : Addr} (hag : ∀ w, (isAgg t).run P w = .ok false w) (ho : nth L i = some ⟨some d, .load t x, ty, pos, af, g⟩) (hw : wants L E ⟨some d, .load t x, ty, pos, af, g⟩ = true) (hN : Nat.blt d N.n = true)
    (hx : E.ev x = some (.pointer (some p))) (hr : Rd I H p v) (h : RL P L ef bk tq Q l N ((d, v) :: E) w0 S I H) (ht : tq.l.contains i = false := by rfl) : RL P L ef bk tq Q (.cons i l) N E w0 S I H :=
  RL.val ho hw rfl hN (fun _ w ha hC => by
    simp [execOp, ha.ev hx, Instr.loadAt, Instr.sureAddr, run_isAggF hag (hr w hC.s)]) h rfl ht
theorem RL.loadT {p : Addr} (hag : ∀ w, (isAgg t).run P w = .ok false w) (ho : nth L i = some ⟨some d, .load t x, ty, pos, af, g⟩) (hw : wants L E ⟨some d, .load t x, ty, pos, af, g⟩ = true) (hN : Nat.blt d N.n = true)
    (hx : E.ev x = some (.pointer (some p))) (hr : Rd tq.T [] p v) (h : RL P L ef bk tq Q l N ((d, v) :: E) w0 S I H) : RL P L ef bk tq Q (.cons i l) N E w0 S I H :=
  RL.toldV ho hw rfl hN (fun _ w ha hC => by
    simp [execOp, ha.ev hx, Instr.loadAt, Instr.sureAddr, run_isAggF hag (hr w ⟨hC, by simp, by simp, by simp⟩)]) h

theorem RL.loadN {p : Addr} {vs : List Value} (hag : ∀ w, (isAgg t).run P w = .ok true w) (hs : ∀ w, (sizeOf t).run P w = .ok vs.length w) (ho : nth L i = some ⟨some d, .load t x, ty, pos, af, g⟩) (hw : wants L E ⟨some d, .load t x, ty, pos, af, g⟩ = true) (hN : Nat.blt d N.n = true)
    (hx : E.ev x = some (.pointer (some p))) (hr : Rds I H p vs) (h : RL P L ef bk tq Q l N ((d, .agg vs.toArray) :: E) w0 S I H) (ht : tq.l.contains i = false := by rfl) : RL P L ef bk tq Q (.cons i l) N E w0 S I H :=
  RL.val ho hw rfl hN (fun _ w ha hC => by
    simp [execOp, ha.ev hx, Instr.loadAt, Instr.sureAddr, run_isAggT hag hs (hr w hC.s)]) h rfl ht
theorem RL.loadNT {p : Addr} {vs : List Value} (hag : ∀ w, (isAgg t).run P w = .ok true w) (hs : ∀ w, (sizeOf t).run P w = .ok vs.length w) (ho : nth L i = some ⟨some d, .load t x, ty, pos, af, g⟩) (hw : wants L E ⟨some d, .load t x, ty, pos, af, g⟩ = true) (hN : Nat.blt d N.n = true)
    (hx : E.ev x = some (.pointer (some p))) (hr : Rds tq.T [] p vs) (h : RL P L ef bk tq Q l N ((d, .agg vs.toArray) :: E) w0 S I H) : RL P L ef bk tq Q (.cons i l) N E w0 S I H :=
  RL.toldV ho hw rfl hN (fun _ w ha hC => by
    simp [execOp, ha.ev hx, Instr.loadAt, Instr.sureAddr, run_isAggT hag hs (hr w ⟨hC, by simp, by simp, by simp⟩)]) h

theorem RL.fieldAddr {b off fo : Nat} {j : Nat} (hf : ∀ p w, (Instr.fieldAt t (.pointer (some p)) j).run P w = .ok (.pointer (some (p.add fo))) w) (ho : nth L i = some ⟨some d, .fieldAddr t x j, ty, pos, af, g⟩) (hw : wants L E ⟨some d, .fieldAddr t x j, ty, pos, af, g⟩ = true) (hN : Nat.blt d N.n = true)
    (hx : E.ev x = some (.pointer (some ⟨b, off, none⟩))) (h : RL P L ef bk tq Q l N ((d, .pointer (some ⟨b, off + fo, none⟩)) :: E) w0 S I H) : RL P L ef bk tq Q (.cons i l) N E w0 S I H :=
  RL.pval ho hw rfl hN (fun _ w ha => by
    simp [execOp, ha.ev hx, hf, add_none]) h

/-! ### Writing -/

/-- A list with others from a place on. -/
def spl : List Value → Nat → List Value → List Value
  | [], _, _ => []
  | c :: cs, n + 1, vs => c :: spl cs n vs
  | c :: cs, 0, [] => c :: cs
  | _ :: cs, 0, v :: vs => v :: spl cs 0 vs

theorem spl_length : ∀ (cs : List Value) (n : Nat) (vs : List Value), (spl cs n vs).length = cs.length
  | [], _, _ => rfl
  | c :: cs, n + 1, vs => by simp [spl, spl_length cs n vs]
  | c :: cs, 0, [] => rfl
  | c :: cs, 0, v :: vs => by simp [spl, spl_length cs 0 vs]

theorem spl_eq : ∀ (cs : List Value) (n : Nat) (vs : List Value), n + vs.length ≤ cs.length → spl cs n vs = cs.take n ++ vs ++ cs.drop (n + vs.length)
  | [], n, vs, h => by
    have h1 : n = 0 := by simp at h; omega
    have h2 : vs = [] := by simp at h; exact h.2
    subst h1; subst h2; rfl
  | c :: cs, n + 1, vs, h => by
    have := spl_eq cs n vs (by simp at h; omega)
    rw [show n + 1 + vs.length = (n + vs.length) + 1 by omega]
    simp [spl, this]
  | c :: cs, 0, [], _ => rfl
  | c :: cs, 0, v :: vs, h => by
    have := spl_eq cs 0 vs (by simp at h ⊢; omega)
    simp only [List.take_zero, List.nil_append, Nat.zero_add] at this
    simp [spl, this]

/-- One of one's own things turns into another, in the same blocks. -/
inductive Upd : List It → It → It → List It → Prop
  | here {x x' : It} {H : List It} : Upd (x :: H) x x' (x' :: H)
  | there {x x' y : It} {H H' : List It} (h : Upd H x x' H') : Upd (y :: H) x x' (y :: H')

theorem Upd.mem {H H' : List It} {x x' : It} (h : Upd H x x' H') : x ∈ H := by
  induction h with
  | here => simp
  | there h ih => simp [ih]
theorem Upd.bss {H H' : List It} {x x' : It} (h : Upd H x x' H') (hb : x'.bs = x.bs) : bss H' = bss H := by
  induction h with
  | here => simp [hb]
  | there h ih => simp [ih hb]
/-- The others are as they were. -/
theorem Upd.A {H H' : List It} {x x' : It} (h : Upd H x x' H') {w w' : World} (hA : ∀ y ∈ H, y.A w) (hk : Keeps x.bs w w') (hnd : (PK.bss H).Nodup) (hx : x'.A w') : ∀ y ∈ H', y.A w' := by
  induction h with
  | here =>
    intro y hy
    rename_i H
    rcases List.mem_cons.1 hy with rfl | hy
    · exact hx
    · refine It.grow (hA y (by simp [hy])) hk fun b hb hbx => ?_
      rw [bss_cons, List.nodup_append] at hnd
      exact hnd.2.2 b hbx b (mem_bss.2 ⟨y, hy, hb⟩) rfl
  | there h ih =>
    rename_i z H H'
    rw [bss_cons, List.nodup_append] at hnd
    intro y hy
    rcases List.mem_cons.1 hy with rfl | hy
    · refine It.grow (hA y (by simp)) hk fun b hb hbx => ?_
      exact hnd.2.2 b hb b (mem_bss.2 ⟨_, h.mem, hbx⟩) rfl
    · exact ih (fun y hy => hA y (by simp [hy])) hk hnd.2.1 hx y hy

theorem Cls.upd {H' : List It} {x x' : It} {w w' : World} (h : Cls w0 S I H w) (hu : Upd H x x' H') (hk : Keeps x.bs w w') (hb : x'.bs = x.bs) (hx : x'.A w') : Cls w0 S I H' w' := by
  have hin : ∀ b ∈ x.bs, b ∈ bss H := fun b hb => mem_bss.2 ⟨x, hu.mem, hb⟩
  refine ⟨⟨hk.os.trans h.k.os, hk.tape.trans h.k.tape, hk.output.trans h.k.output, Nat.le_trans h.k.size hk.size, fun b hlt hbS => ?_, Nat.le_trans h.k.drawn hk.drawn⟩, ⟨fun y hy => ?_, hu.A h.s.h hk h.s.nd hx, ?_, ?_⟩, ?_⟩
  · rw [hk.block b (Nat.lt_of_lt_of_le hlt h.k.size) (fun hbx => hbS (h.own b (hin b hbx) hlt)), h.k.block b hlt hbS]
  · exact It.grow (h.s.i y hy) hk fun b hb' hbx => h.s.dj b (mem_bss.2 ⟨y, hy, hb'⟩) (hin b hbx)
  · rw [hu.bss hb]; exact h.s.nd
  · rw [hu.bss hb]; exact h.s.dj
  · rw [hu.bss hb]; exact h.own

/-- An operation without a result that turns one of one's own things. -/
theorem RL.turn0 {o : Oper} {H' : List It} {x x' : It} (ho : nth L i = some o) (hw : wants L E o = true) (hi : ef.contains i = true) (hb : bk.contains i = true) (hd : o.dst = none) (hu : Upd H x x' H') (hbs : x'.bs = x.bs)
    (hv : ∀ a w, Ag N a E → Cls w0 S I H w → ∃ w', (execOp a.eval o).run P w = .ok .skip w' ∧ Keeps x.bs w w' ∧ x'.A w') (h : RL P L ef bk tq Q l N E w0 S I H') : RL P L ef bk tq Q (.cons i l) N E w0 S I H := by
  refine RL.eff0 ho hw hi hd (fun a w ha hC => ?_)
  obtain ⟨w', h1, h2, h3⟩ := hv a w ha hC
  unfold does
  rw [h1]
  exact ⟨I, H', hC.upd hu h2 hbs h3, fun _ h => h, fun h => (by rw [hb] at h; cases h), h⟩

theorem Keeps.setRow {w : World} {b : Nat} {cs : Array Value} : Keeps [b] w (w.setRow b cs) :=
  ⟨rfl, rfl, rfl, by simp, fun c _ hn => setRow_other w b c cs (by simpa using hn), Nat.le_refl _⟩

def ones : List Value → Bool
  | [] => true
  | u :: r => u.oneCell' && ones r
theorem ones_spec : ∀ {l : List Value}, ones l = true → ∀ u ∈ l, u.oneCell' = true
  | [], _, u, h => by cases h
  | v :: r, ho, u, h => by
    simp only [ones, Bool.and_eq_true] at ho
    rcases List.mem_cons.1 h with rfl | h
    · exact ho.1
    · exact ones_spec ho.2 u h

theorem RL.store {b off : Nat} {cs vs : List Value} {T : TypeId} {H' : List It} (hs : ∀ w, (sizeOf t).run P w = .ok vs.length w) (ho : nth L i = some ⟨none, .store t x y, ty, pos, af, g⟩) (hw : wants L E ⟨none, .store t x y, ty, pos, af, g⟩ = true)
    (hi : ef.contains i = true) (hb : bk.contains i = true) (hx : E.ev x = some (.pointer (some ⟨b, off, none⟩))) (hy : E.ev y = some v) (hc : v.cells = vs.toArray) (h1 : ones vs = true) (hl : Nat.ble (off + vs.length) cs.length = true)
    (hu : Upd H (cel b cs T) (cel b (spl cs off vs) T) H') (h : RL P L ef bk tq Q l N E w0 S I H') : RL P L ef bk tq Q (.cons i l) N E w0 S I H :=
  RL.turn0 ho hw hi hb rfl hu rfl (fun a w ha hC => by
    have hA : w.heap[b]? = some (.cells cs.toArray T (0, 0)) := hC.s.h _ hu.mem
    have hl : off + vs.length ≤ cs.length := by simpa using hl
    have hst := run_storeCells_at P b off T vs 0 cs.toArray w hA (by simpa using hl) (ones_spec h1)
    refine ⟨w.setRow b (spl cs off vs).toArray, ?_, Keeps.setRow, setRow_heap w b _ _ T _ hA⟩
    simp only [Nat.add_zero] at hst
    rw [spl_eq cs off vs hl]
    simp [execOp, ha.ev hx, ha.ev hy, Instr.storeAt, Instr.sureAddr, storeVar, hs, hc, hst]) h

end
end Go.PK

/-
  PK, part E: aggregates, slices, append.
-/
namespace Go.PK

section
variable {P : Program} {L : List Oper} {ef bk : List Nat} {tq : Tq} {Q : Exit → Act → World → Prop} {N : Fm} {E : Env} {w0 : World} {S : List Nat} {I H : List It} {i : Nat} {l : Sq}
variable {d : Nat} {x y z : Operand} {ty t yt : TypeId} {pos : String} {af : Array Edge} {g : Option (Nat × Bool)} {v : Value} {k k' : IntKind} {m n : Int}

/-! ### Aggregates -/

def vparts (E : Env) : List (Nat × Operand) → Option (List (Nat × Value))
  | [] => some []
  | (j, x) :: r => match E.ev x, vparts E r with
    | some v, some vs => some ((j, v) :: vs)
    | _, _ => none

theorem Ag.parts {a : Act} (h : Ag N a E) : ∀ {xs : List (Nat × Operand)} {vs : List (Nat × Value)}, vparts E xs = some vs → xs.map (fun p => (p.1, a.eval p.2)) = vs
  | [], vs, hx => by cases hx; rfl
  | (j, x) :: r, vs, hx => by
    unfold vparts at hx
    split at hx
    · rename_i v vs' h1 h2
      cases hx
      rw [List.map_cons, h.ev h1, Ag.parts h h2]
    · cases hx

/-- Cells with parts laid in. -/
def fillL (place : Nat → Option (Nat × Nat)) (cells : List Value) : List (Nat × Value) → Option (List Value)
  | [] => some cells
  | (j, v) :: rest => match place j with
    | none => none
    | some (off, size) =>
      if v.cells.toList.length ≠ size || off + v.cells.toList.length > cells.length then none
      else fillL place (spl cells off v.cells.toList) rest

theorem fold_spl : ∀ (vs : List Value) (cells : Array Value) (off b : Nat), off + b + vs.length ≤ cells.size →
    ((vs.zipIdx b).foldl (fun cs (c, j) => cs.setIfInBounds (off + j) c) cells).toList = spl cells.toList (off + b) vs
  | [], cells, off, b, _ => by
    rw [spl_eq _ _ _ (by simpa using (by assumption : off + b + ([] : List Value).length ≤ cells.size))]
    simp
  | c :: vs, cells, off, b, h => by
    simp only [List.length_cons] at h
    simp only [List.zipIdx_cons, List.foldl_cons]
    rw [fold_spl vs _ off (b + 1) (by simp; omega)]
    rw [spl_eq _ _ _ (by simp; omega), spl_eq _ _ _ (by simp; omega)]
    apply List.ext_getElem?
    intro j
    simp only [Array.toList_setIfInBounds, List.length_cons]
    rw [List.getElem?_append, List.getElem?_append, List.getElem?_append, List.getElem?_append]
    simp only [List.length_append, List.length_take, List.length_set, Array.length_toList, List.getElem?_take, List.getElem?_set, List.getElem?_drop, List.length_cons]
    by_cases h1 : j < off + b
    · have a1 : j < off + (b + 1) := by omega
      have a2 : j < cells.size := by omega
      have a3 : j < min (off + (b + 1)) cells.size + vs.length := by omega
      have a4 : j < min (off + b) cells.size + (vs.length + 1) := by omega
      have a5 : j < min (off + (b + 1)) cells.size := by omega
      have a6 : j < min (off + b) cells.size := by omega
      have a7 : ¬ off + b = j := by omega
      simp [h1, a1, a3, a4, a5, a6, a7]
    · by_cases h2 : j = off + b
      · subst h2
        have a3 : off + b < min (off + (b + 1)) cells.size + vs.length := by omega
        have a4 : off + b < min (off + b) cells.size + (vs.length + 1) := by omega
        have a5 : off + b < min (off + (b + 1)) cells.size := by omega
        have a6 : ¬ off + b < min (off + b) cells.size := by omega
        have a7 : off + b < cells.size := by omega
        have a8 : off + b < off + (b + 1) := by omega
        have a9 : off + b - min (off + b) cells.size = 0 := by omega
        simp only [a3, a4, a5, a6, a7, a8, a9, if_true, if_false, List.getElem?_cons_zero]
      · have a5 : ¬ j < min (off + (b + 1)) cells.size := by omega
        have a6 : ¬ j < min (off + b) cells.size := by omega
        by_cases h3 : j < off + b + (vs.length + 1)
        · have a3 : j < min (off + (b + 1)) cells.size + vs.length := by omega
          have a4 : j < min (off + b) cells.size + (vs.length + 1) := by omega
          have a9 : j - min (off + b) cells.size = (j - min (off + (b + 1)) cells.size) + 1 := by omega
          simp only [a3, a4, a5, a6, a9, if_true, if_false, List.getElem?_cons_succ]
        · have a3 : ¬ j < min (off + (b + 1)) cells.size + vs.length := by omega
          have a4 : ¬ j < min (off + b) cells.size + (vs.length + 1) := by omega
          have a7 : ¬ off + b = off + (b + 1) + vs.length + (j - (min (off + (b + 1)) cells.size + vs.length)) := by omega
          simp only [a3, a4, a7, if_false]
          congr 1
          omega

theorem fill_eq (place : Nat → Option (Nat × Nat)) : ∀ (parts : List (Nat × Value)) (cells : List Value) (r : List Value), fillL place cells parts = some r → Instr.fill place cells.toArray parts = some r.toArray
  | [], cells, r, h => by cases h; rfl
  | (j, v) :: rest, cells, r, h => by
    unfold fillL at h
    unfold Instr.fill
    split at h
    · cases h
    · rename_i off size hp
      rw [hp]
      split at h
      · cases h
      · rename_i hc
        have hc' : ¬ ((decide (v.cells.size ≠ size) || decide (off + v.cells.size > cells.toArray.size)) = true) := by simpa using hc
        dsimp only
        rw [if_neg hc']
        have hb : off + v.cells.toList.length ≤ cells.length := by
          simp only [Bool.or_eq_true, decide_eq_true_eq, not_or] at hc; omega
        have hf := fold_spl v.cells.toList cells.toArray off 0 (by simpa using hb)
        have he : Array.foldl (fun cs (x : Value × Nat) => match x with | (c, j) => cs.setIfInBounds (off + j) c) cells.toArray v.cells.zipIdx = (spl cells off v.cells.toList).toArray := by
          apply Array.toList_inj.1
          rw [← Array.foldl_toList]
          simpa using hf
        have := fill_eq place rest _ _ h
        rw [← this]
        exact congrArg (fun c => Instr.fill place c rest) he

theorem map_parts {a : Act} (h : Ag N a E) {ps : Array (Nat × Operand)} {vs : List (Nat × Value)} (hx : vparts E ps.toList = some vs) : (ps.map fun (j, x) => (j, a.eval x)) = vs.toArray := by
  apply Array.toList_inj.1
  rw [Array.toList_map, ← h.parts hx]

/-- Where a struct's fields lie. -/
def StrT (P : Program) (t : TypeId) (places : Array (Nat × Nat)) : Prop :=
  ∃ fs, (∀ w, (underlying t).run P w = .ok (.struct fs) w) ∧ ∀ w, (fs.mapM (fun f => do pure (f.offset, ← sizeOf f.type) : Field → Sem (Nat × Nat))).run P w = .ok places w

theorem RL.buildS {places : Array (Nat × Nat)} {zs : List Value} {ps : Array (Nat × Operand)} {vs : List (Nat × Value)} (cs : List Value) (hz : ∀ w, (zeroValue t).run P w = .ok (.agg zs.toArray) w) (hu : StrT P t places)
    (ho : nth L i = some ⟨some d, .build t ps, ty, pos, af, g⟩) (hw : wants L E ⟨some d, .build t ps, ty, pos, af, g⟩ = true) (hN : Nat.blt d N.n = true)
    (hx : vparts E ps.toList = some vs) (hf : fillL (places[·]?) zs vs = some cs) (h : RL P L ef bk tq Q l N ((d, .agg cs.toArray) :: E) w0 S I H) : RL P L ef bk tq Q (.cons i l) N E w0 S I H :=
  RL.pval ho hw rfl hN (fun a w ha => by
    obtain ⟨fs, hu, hp⟩ := hu
    have h2 := fill_eq (places[·]?) vs zs cs hf
    show Sem.run P (do pure (Next.value (← Instr.build t (ps.map fun (j, x) => (j, a.eval x))))) w = _
    rw [map_parts ha hx]
    simp only [Instr.build, Sem.run_bind, hz, hu, hp, Result.andThen_ok, Value.cells, h2, Sem.run_pure]) h

theorem RL.buildA {len : Nat} {e : TypeId} {size : Nat} {zs : List Value} {ps : Array (Nat × Operand)} {vs : List (Nat × Value)} (cs : List Value) (hz : ∀ w, (zeroValue t).run P w = .ok (.agg zs.toArray) w) (hu : ∀ w, (underlying t).run P w = .ok (.array len e) w)
    (hs : ∀ w, (sizeOf e).run P w = .ok size w)
    (ho : nth L i = some ⟨some d, .build t ps, ty, pos, af, g⟩) (hw : wants L E ⟨some d, .build t ps, ty, pos, af, g⟩ = true) (hN : Nat.blt d N.n = true)
    (hx : vparts E ps.toList = some vs) (hf : fillL (fun j => some (j * size, size)) zs vs = some cs) (h : RL P L ef bk tq Q l N ((d, .agg cs.toArray) :: E) w0 S I H) : RL P L ef bk tq Q (.cons i l) N E w0 S I H :=
  RL.pval ho hw rfl hN (fun a w ha => by
    have h2 := fill_eq (fun j => some (j * size, size)) vs zs cs hf
    show Sem.run P (do pure (Next.value (← Instr.build t (ps.map fun (j, x) => (j, a.eval x))))) w = _
    rw [map_parts ha hx]
    simp [Instr.build, hz, hu, hs, Value.cells, h2]) h

/-- 'n' copies of some cells. -/
def reps (zs : List Value) : Nat → List Value
  | 0 => []
  | n + 1 => zs ++ reps zs n

theorem run_buildSlice {e : TypeId} {size len : Nat} {zs : List Value} {ps : Array (Nat × Operand)} {vs : List (Nat × Value)} {z : Value} (cs : List Value) (hu : ∀ w, (underlying t).run P w = .ok (.slice e) w) (hs : ∀ w, (sizeOf e).run P w = .ok size w)
    (hz : ∀ w, (zeroValue e).run P w = .ok z w) (hzc : z.cells = zs.toArray) (hsz : zs.length = size) (hpos : 0 < size) (hlen : len * size ≤ 16777216) {a : Act} {w : World} (ha : Ag N a E)
    (hx : vparts E ps.toList = some vs) (hf : fillL (fun j => some (j * size, size)) (reps zs len) vs = some cs) :
    ∃ w', (execOp a.eval ⟨some d, .buildSlice t len ps, ty, pos, af, g⟩).run P w = .ok (.value (.slice (some ⟨w.heap.size, 0, none⟩) len len)) w' ∧ Grow w w' ∧ (cel w.heap.size cs e).A w' := by
  refine ⟨w.alloc (.cells cs.toArray e), ?_, Keeps.alloc _ _ _, cel_new⟩
  have h2 := fill_eq (fun j => some (j * size, size)) vs (reps zs len) cs hf
  have hrl : ∀ n, (reps zs n).length = n * size := by
    intro n; induction n with
    | zero => simp [reps]
    | succ n ih => simp [reps, ih, hsz, Nat.add_mul]; omega
  have hrg : ∀ n j, j < n * size → (reps zs n)[j]? = zs[j % size]? := by
    intro n; induction n with
    | zero => intro j hj; simp at hj
    | succ n ih =>
      intro j hj
      simp only [reps, List.getElem?_append, hsz]
      by_cases hjs : j < size
      · simp [hjs, Nat.mod_eq_of_lt hjs]
      · have hge : size ≤ j := by omega
        simp only [hjs, if_false]
        rw [ih (j - size) (by rw [Nat.add_mul] at hj; omega)]
        rw [Nat.mod_eq_sub_mod hge]
  have hlen' : ¬ (len * size > 2 ^ 24) := by omega
  show Sem.run P (do pure (Next.value (← Instr.buildSlice t len (ps.map fun (j, x) => (j, a.eval x))))) w = _
  rw [map_parts ha hx]
  by_cases h0 : len * size = 0
  · have hrn : reps zs len = [] := List.eq_nil_of_length_eq_zero (by rw [hrl, h0])
    rw [hrn] at h2
    simp [Instr.buildSlice, hu, hs, h0, newRow, h2, show Array.range 0 = #[] from rfl]
  · have hzz : ((Array.range (len * size)).map fun j => zs.toArray[j % zs.length]!) = (reps zs len).toArray := by
      apply Array.ext'
      apply List.ext_getElem?
      intro j
      simp only [Array.toList_map, Array.toList_range, List.getElem?_map]
      by_cases hj : j < len * size
      · have hjm : j % zs.length < zs.length := by rw [hsz]; exact Nat.mod_lt _ hpos
        have hr := hrg len j hj
        rw [← hsz] at hr
        simp [hj, hr, hjm]
      · have hj' : (reps zs len)[j]? = none := by rw [List.getElem?_eq_none]; rw [hrl]; omega
        simp [hj, hj']
    have hl2 : (len * size > 2 ^ 24) = False := by simpa using hlen'
    simp only [Instr.buildSlice, Sem.run_bind, hu, hs, hz, Result.andThen_ok, hl2, if_false, h0, Sem.run_pure, newRow, hzc, List.size_toArray, hzz, h2]
    simp


theorem RL.buildSlice {e : TypeId} {size len : Nat} {zs : List Value} {ps : Array (Nat × Operand)} {vs : List (Nat × Value)} {z : Value} (cs : List Value) (hu : ∀ w, (underlying t).run P w = .ok (.slice e) w) (hs : ∀ w, (sizeOf e).run P w = .ok size w)
    (hz : ∀ w, (zeroValue e).run P w = .ok z w) (hzc : z.cells = zs.toArray) (hsz : zs.length = size) (hpos : 0 < size) (hlen : len * size ≤ 16777216)
    (ho : nth L i = some ⟨some d, .buildSlice t len ps, ty, pos, af, g⟩) (hw : wants L E ⟨some d, .buildSlice t len ps, ty, pos, af, g⟩ = true) (hN : Nat.blt d N.n = true) (hi : ef.contains i = true)
    (hx : vparts E ps.toList = some vs) (hf : fillL (fun j => some (j * size, size)) (reps zs len) vs = some cs)
    (h : ∀ b, RL P L ef bk tq Q l N ((d, .slice (some ⟨b, 0, none⟩) len len) :: E) w0 S I (cel b cs e :: H)) : RL P L ef bk tq Q (.cons i l) N E w0 S I H :=
  RL.make (x := fun b => cel b cs e) (u := fun b => .slice (some ⟨b, 0, none⟩) len len) ho hw hi rfl hN (fun a w ha _ => by
    obtain ⟨w', h1, h2, h3⟩ := run_buildSlice cs hu hs hz hzc hsz hpos hlen (pos := pos) (ty := ty) (af := af) (g := g) (d := d) (w := w) ha hx hf
    exact ⟨w', h1, h2, h3, rfl⟩) h

end
end Go.PK

/-
  PK, part F: slices.
-/
namespace Go.PK

/-- A slice's value: nil, or from the head of a block on. -/
abbrev slO (ob : Option Nat) (n cap : Nat) : Value := .slice (ob.map fun b => ⟨b, 0, none⟩) n cap

/-- A slice that is one's own: its first cells. -/
def own (ob : Option Nat) (cap : Nat) (e : TypeId) (sz n : Nat) (xs : List Value) : It where
  bs := ob.toList
  A w := xs.length = n * sz ∧ match ob with
    | none => n = 0 ∧ cap = 0
    | some b => n ≤ cap ∧ cap ≤ maxLen ∧ ∃ rest : List Value, (∃ f : Nat × Nat, w.heap[b]? = some (.cells (xs ++ rest).toArray e f) ∧ (f = (0, 0) ∨ cap * sz ≤ f.1)) ∧ (xs ++ rest).length = cap * sz
  fr w w' h hA := by
    cases ob with
    | none => exact hA
    | some b =>
      obtain ⟨h1, h2, h3, rest, ⟨f, h4, h6⟩, h5⟩ := hA
      exact ⟨h1, h2, h3, rest, ⟨f, by rw [h b (by simp)]; exact h4, h6⟩, h5⟩
  lt w hA c hc := by
    cases ob with
    | none => simp at hc
    | some b =>
      obtain ⟨h1, h2, h3, rest, ⟨f, h4, h6⟩, h5⟩ := hA
      have : c = b := by simpa using hc
      subst this
      exact (Array.getElem?_eq_some_iff.1 h4).1

/-- A slice that one is told of: its cells. -/
def sls (p : Option Addr) (sz n : Nat) (xs : List Value) : It where
  bs := if n = 0 then [] else p.toList.map (·.block)
  A w := xs.length = n * sz ∧ match p with
    | none => n = 0
    | some a => (n ≠ 0 → a.block < w.heap.size) ∧ ∀ j u, xs[j]? = some u → w.cell? (a.add j) = some u
  fr w w' h hA := by
    cases p with
    | none => exact hA
    | some a =>
      obtain ⟨h1, h2, h3⟩ := hA
      by_cases hn : n = 0
      · subst hn
        have : xs = [] := List.eq_nil_of_length_eq_zero (by simpa using h1)
        subst this
        exact ⟨h1, fun h => absurd rfl h, fun j u hj => by simp at hj⟩
      · have hb := h a.block (by simp [hn])
        have h2' := h2 hn
        refine ⟨h1, fun _ => ?_, fun j u hj => ?_⟩
        · rw [Array.getElem?_eq_getElem h2'] at hb
          exact (Array.getElem?_eq_some_iff.1 hb).1
        · have := h3 j u hj
          have hbl : (a.add j).block = a.block := by unfold Addr.add; split <;> rfl
          simp only [World.cell?, hbl] at this ⊢
          rw [hb]; exact this
  lt w hA c hc := by
    by_cases hn : n = 0
    · simp [hn] at hc
    · cases p with
      | none => simp [hn] at hc
      | some a =>
        have : c = a.block := by simpa [hn] using hc
        subst this
        exact hA.2.1 hn

theorem sls_nil {p : Option Addr} {sz n : Nat} {xs : List Value} {w : World} (h : (sls p sz n xs).A w) (hp : p = none) : n = 0 := by
  subst hp; exact h.2

theorem own_sls {ob : Option Nat} {cap sz n : Nat} {e : TypeId} {xs : List Value} {w : World} (h : (own ob cap e sz n xs).A w) : (sls (ob.map fun b => ⟨b, 0, none⟩) sz n xs).A w := by
  cases ob with
  | none => exact ⟨h.1, h.2.1⟩
  | some b =>
    obtain ⟨h1, h2, h3, rest, ⟨f, h4, h6⟩, h5⟩ := h
    refine ⟨h1, fun _ => (Array.getElem?_eq_some_iff.1 h4).1, fun j u hj => ?_⟩
    have hlt : j < xs.length := (List.getElem?_eq_some_iff.1 hj).1
    rw [add_none]
    simp only [World.cell?, h4]
    simp [List.getElem?_append, hlt, (List.getElem?_eq_some_iff.1 hj).2]

theorem cel_sls {b off sz n : Nat} {cs xs : List Value} {T : TypeId} {w : World} (h : (cel b cs T).A w) (hl : xs.length = n * sz) (hx : ∀ j u, xs[j]? = some u → cs[off + j]? = some u) : (sls (some ⟨b, off, none⟩) sz n xs).A w :=
  ⟨hl, fun _ => (Array.getElem?_eq_some_iff.1 h).1, fun j u hj => by rw [add_none, cell_of_cel h]; exact hx j u hj⟩

/-- A block known whole is a slice's. -/
theorem own_of_cel {b sz n cap : Nat} {cs : List Value} {T : TypeId} {w : World} (h : (cel b cs T).A w) (hn : n ≤ cap) (hm : cap ≤ maxLen) (hl : cs.length = cap * sz) : (own (some b) cap T sz n (cs.take (n * sz))).A w := by
  refine ⟨by rw [List.length_take, hl]; exact Nat.min_eq_left (Nat.mul_le_mul_right _ hn), hn, hm, cs.drop (n * sz), ?_, ?_⟩
  · exact ⟨_, by rw [List.take_append_drop]; exact h, .inl rfl⟩
  · rw [List.take_append_drop]; exact hl

section
variable {P : Program} {L : List Oper} {ef bk : List Nat} {tq : Tq} {Q : Exit → Act → World → Prop} {N : Fm} {E : Env} {w0 : World} {S : List Nat} {I H : List It} {i : Nat} {l : Sq}
variable {d : Nat} {x y z : Operand} {ty t yt : TypeId} {pos : String} {af : Array Edge} {g : Option (Nat × Bool)} {v : Value} {k k' : IntKind} {m n : Int}

theorem Cls.conv {x x' : It} {H' : List It} {w : World} (h : Cls w0 S I H w) (hu : Upd H x x' H') (hb : x'.bs = x.bs) (hA : x.A w → x'.A w) : Cls w0 S I H' w :=
  h.upd hu (Keeps.refl _ _) hb (hA (h.s.h _ hu.mem))

theorem Rds.sls {p : Addr} {sz n : Nat} {xs : List Value} (hm : PK.sls (some p) sz n xs ∈ I) : Rds I H p xs := fun _ hw => (hw.i _ hm).2.2
theorem Rds.own {b cap sz n : Nat} {e : TypeId} {xs : List Value} (hm : PK.own (some b) cap e sz n xs ∈ H) : Rds I H ⟨b, 0, none⟩ xs := fun _ hw => (own_sls (hw.h _ hm)).2.2
theorem Rds.rd {p : Addr} {xs : List Value} {j : Nat} (h : Rds I H p xs) (hj : xs[j]? = some v) : Rd I H (p.add j) v := fun w hw => h w hw j v hj
theorem add_add (p : Addr) (j q : Nat) : (p.add j).add q = p.add (j + q) := by
  unfold Addr.add
  by_cases h1 : j = 0
  · subst h1; simp
  · by_cases h2 : q = 0
    · subst h2; simp [h1]
    · have : ¬ j + q = 0 := by omega
      simp [h1, h2, Nat.add_assoc]
theorem Rds.part {p : Addr} {xs vs : List Value} {j : Nat} (h : Rds I H p xs) (hj : ∀ q u, vs[q]? = some u → xs[j + q]? = some u) : Rds I H (p.add j) vs := fun w hw q u hu => by
  have := h w hw (j + q) u (hj q u hu)
  rw [add_add]; exact this

/-- An element's place. -/
theorem RL.idx {e : TypeId} {p : Addr} {len cap sz j : Nat} (hu : ∀ w, (underlying t).run P w = .ok (.slice e) w) (hs : ∀ w, (sizeOf e).run P w = .ok sz w) (ho : nth L i = some ⟨some d, .indexAddr t x y, ty, pos, af, g⟩) (hw : wants L E ⟨some d, .indexAddr t x y, ty, pos, af, g⟩ = true) (hN : Nat.blt d N.n = true)
    (hx : E.ev x = some (.slice (some p) len cap)) (hy : E.ev y = some (.int k n)) (hj : n = (j : Int)) (hlt : j < len) (h : RL P L ef bk tq Q l N ((d, .pointer (some (p.add (j * sz)))) :: E) w0 S I H) : RL P L ef bk tq Q (.cons i l) N E w0 S I H :=
  RL.pval ho hw rfl hN (fun _ w ha => by
    subst hj
    have h2 : ¬ len ≤ j := by omega
    simp [execOp, ha.ev hx, ha.ev hy, Instr.indexAt, hu, hs, asIntOf, hlt]) h

/-- An element's place in an array behind a pointer. -/
theorem RL.idxA {e : TypeId} {p : Addr} {len sz j : Nat} (hu : ∀ w, (underlying t).run P w = .ok (.array len e) w) (hs : ∀ w, (sizeOf e).run P w = .ok sz w) (ho : nth L i = some ⟨some d, .indexAddr t x y, ty, pos, af, g⟩) (hw : wants L E ⟨some d, .indexAddr t x y, ty, pos, af, g⟩ = true) (hN : Nat.blt d N.n = true)
    (hx : E.ev x = some (.pointer (some p))) (hy : E.ev y = some (.int k n)) (hj : n = (j : Int)) (hlt : j < len) (h : RL P L ef bk tq Q l N ((d, .pointer (some (p.add (j * sz)))) :: E) w0 S I H) : RL P L ef bk tq Q (.cons i l) N E w0 S I H :=
  RL.pval ho hw rfl hN (fun _ w ha => by
    subst hj
    have h2 : ¬ len ≤ j := by omega
    simp [execOp, ha.ev hx, ha.ev hy, Instr.indexAt, Instr.sureAddr, hu, hs, asIntOf, hlt]) h

/-- An element of an array by value. -/
theorem RL.index {e : TypeId} {cs : Array Value} {len sz j : Nat} (hu : ∀ w, (underlying t).run P w = .ok (.array len e) w) (hs : ∀ w, (sizeOf e).run P w = .ok sz w) (hag : ∀ w, (isAgg e).run P w = .ok false w) (ho : nth L i = some ⟨some d, .index t x y, ty, pos, af, g⟩) (hw : wants L E ⟨some d, .index t x y, ty, pos, af, g⟩ = true) (hN : Nat.blt d N.n = true)
    (hx : E.ev x = some (.agg cs)) (hy : E.ev y = some (.int k n)) (hj : n = (j : Int)) (hlt : j < len) (hv : cs[j * sz]? = some v) (h : RL P L ef bk tq Q l N ((d, v) :: E) w0 S I H) : RL P L ef bk tq Q (.cons i l) N E w0 S I H :=
  RL.pval ho hw rfl hN (fun _ w ha => by
    subst hj
    have h2 : ¬ len ≤ j := by omega
    simp [execOp, ha.ev hx, ha.ev hy, Instr.index, hu, hs, asIntOf, hlt, Go.part, hag, hv]) h

/-! ### A part of a slice -/

def bnd (E : Env) : Option Operand → Nat → Option Int
  | none, n => some n
  | some x, _ => match E.ev x with
    | some (.int _ m) => some m
    | _ => none

theorem run_bound {P : Program} {k : IntKind} {j y : Nat} {code : BoundsCode} {w : World} (h : j ≤ y) : (Instr.sliceBound (.int k (j : Int)) y code).run P w = .ok j w := by
  simp [Instr.sliceBound, asIntOf, h]

/-- 'x[lo:hi]' of a slice. -/
theorem RL.slice {e : TypeId} {p : Option Addr} {len cap sz lo hi : Nat} {ol oh : Option Operand} (hu : ∀ w, (underlying t).run P w = .ok (.slice e) w) (hs : ∀ w, (sizeOf e).run P w = .ok sz w) (ho : nth L i = some ⟨some d, .slice t x ol oh none, ty, pos, af, g⟩) (hw : wants L E ⟨some d, .slice t x ol oh none, ty, pos, af, g⟩ = true) (hN : Nat.blt d N.n = true)
    (hx : E.ev x = some (.slice p len cap)) (hl : bnd E ol 0 = some (lo : Int)) (hh : bnd E oh len = some (hi : Int)) (h1 : lo ≤ hi) (h2 : hi ≤ cap)
    (h : RL P L ef bk tq Q l N ((d, .slice (if cap = lo then p else p.map (·.add (lo * sz))) (hi - lo) (cap - lo)) :: E) w0 S I H) : RL P L ef bk tq Q (.cons i l) N E w0 S I H :=
  RL.pval ho hw rfl hN (fun a w ha => by
    have hb : ∀ (s : BoundsCode), (match oh.map a.eval with | some v => Instr.sliceBound v cap s | none => pure len : Sem Nat).run P w = .ok hi w := by
      intro s
      cases oh with
      | none => simp [bnd] at hh; have : len = hi := by omega
                subst this; rfl
      | some o =>
        simp only [bnd] at hh
        split at hh
        · rename_i kk mm he
          have : mm = (hi : Int) := by simpa using hh
          subst this
          simp only [Option.map_some, ha.ev he]
          exact run_bound h2
        · cases hh
    have hb2 : ∀ (s : BoundsCode), (match ol.map a.eval with | some v => Instr.sliceBound v hi s | none => pure 0 : Sem Nat).run P w = .ok lo w := by
      intro s
      cases ol with
      | none => simp [bnd] at hl; have : 0 = lo := by omega
                subst this; rfl
      | some o =>
        simp only [bnd] at hl
        split at hl
        · rename_i kk mm he
          have : mm = (lo : Int) := by simpa using hl
          subst this
          simp only [Option.map_some, ha.ev he]
          exact run_bound h1
        · cases hl
    show Sem.run P (do pure (Next.value (← Instr.sliceAt t (a.eval x) (ol.map a.eval) (oh.map a.eval) none))) w = _
    rw [ha.ev hx]
    have hsb : (Instr.sliceBounds true len cap (ol.map a.eval) (oh.map a.eval) none).run P w = .ok (lo, hi, cap) w := by
      unfold Instr.sliceBounds
      have q1 := hb .sliceAcap
      have q2 := hb2 .sliceB
      cases oh with
      | none =>
        cases ol with
        | none => simp at q1 q2 ⊢; exact ⟨q2, q1⟩
        | some o => simp at q1 q2 ⊢; subst q1; simp [q2]
      | some o' =>
        cases ol with
        | none => simp at q1 q2 ⊢; subst q2; simp [q1]
        | some o => simp at q1 q2 ⊢; simp [q1, q2]
    simp [Instr.sliceAt, Instr.slice, hu, hs, hsb]) h

end
end Go.PK

/-
  PK, part G: append, copy, make; results in memory; strings.
-/
namespace Go.PK

section
variable {P : Program} {L : List Oper} {ef bk : List Nat} {tq : Tq} {Q : Exit → Act → World → Prop} {N : Fm} {E : Env} {w0 : World} {S : List Nat} {I H : List It} {i : Nat} {l : Sq}
variable {d : Nat} {x y z : Operand} {ty t yt : TypeId} {pos : String} {af : Array Edge} {g : Option (Nat × Bool)} {v : Value} {k k' : IntKind} {m n : Int}

/-- What a slice's element type is. -/
structure ElemT (P : Program) (t e : TypeId) (sz bytes : Nat) : Prop where
  ut : P.underlying t = some (.slice e)
  inf : ∃ i z, P.info? e = some i ∧ i.zero = some z ∧ i.size = sz ∧ i.bytes = bytes ∧ z.cells.size = sz
  pos : 0 < sz

theorem exec_append {ρ : Operand → Value} {dst : Option Tmp} {vx vy : Value} {ats : Array TypeId} (hx : ρ x = vx) (hy : ρ y = vy) {r : Value} {w w' : World} (h : (Builtin.append_ ats ty #[vx, vy]).run P w = .ok r w') :
    (execOp ρ ⟨dst, .call ⟨.builtin .append, #[x, y], ats⟩, ty, pos, af, g⟩).run P w = .ok (.value r) w' := by
  simp only [BigFrame.execOp_builtin, BigFrame.builtin_append, List.map_toArray, List.map_cons, List.map_nil, hx, hy]
  simp [h]

/-- Cells written below what is frozen. -/
theorem run_storeCells_atF {P : Program} (g o : Nat) (t : TypeId) (f : Nat × Nat) : ∀ (vs : List Value) (i : Nat) (cur : Array Value) (w : World), (f = (0, 0) ∨ cur.size ≤ f.1) → w.heap[g]? = some (.cells cur t f) → o + i + vs.length ≤ cur.size → (∀ v ∈ vs, v.oneCell' = true) →
    (storeCells ⟨g, o, none⟩ vs i).run P w = .ok () (w.setRow g (cur.toList.take (o + i) ++ vs ++ cur.toList.drop (o + i + vs.length)).toArray)
  | [], i, cur, w, _, hg, _, _ => by
    simp only [storeCells, List.append_nil, List.length_nil, Nat.add_zero, List.take_append_drop, Array.toArray_toList]
    rw [setRow_self w g cur t f hg]
    rfl
  | v :: rest, i, cur, w, hf, hg, hl, h1 => by
    have hi : o + i < cur.size := by simp at hl; omega
    have hadd : (⟨g, o, none⟩ : Addr).add i = ⟨g, o + i, none⟩ := by unfold Addr.add; split <;> simp_all
    have hcell : w.cell? ⟨g, o + i, none⟩ = some cur[o + i] := by simp [World.cell?, hg, hi]
    have hfro : w.frozen? ⟨g, o + i, none⟩ = false := by
      rcases hf with hf | hf
      · simp [World.frozen?, hg, hf]
      · obtain ⟨f1, f2⟩ := f
        simp [World.frozen?, hg] at hf ⊢
        omega
    have hst : (store ((⟨g, o, none⟩ : Addr).add i) v).run P w = .ok () (w.setRow g (cur.setIfInBounds (o + i) v)) := by
      rw [hadd, run_store P w _ v _ (h1 v (by simp)), hcell]
      simp [hfro, setCell_eq_setRow w g (o + i) cur t f v hg]
    have ih := run_storeCells_atF (P := P) g o t f rest (i + 1) (cur.setIfInBounds (o + i) v) (w.setRow g (cur.setIfInBounds (o + i) v)) (by simpa using hf) (setRow_heap w g cur _ t _ hg) (by simp at hl ⊢; omega) (fun x hx => h1 x (by simp [hx]))
    simp only [storeCells, Sem.run_bind, hst, Result.andThen_ok, ih, setRow_setRow]
    congr 3
    have e := list_seg_step cur.toList (o + i) v rest (by simp at hl ⊢; omega)
    simpa [Array.toList_setIfInBounds, Nat.add_assoc] using e

theorem run_append_roomF {P : Program} {t : TypeId} (w : World) (ty e : TypeId) (i : TypeInfo) (ht : P.underlying t = some (.slice e)) (hi : P.info? e = some i)
    (g sLen sCap : Nat) (cur : Array Value) (f : Nat × Nat) (hf : f = (0, 0) ∨ cur.size ≤ f.1) (hg : w.heap[g]? = some (.cells cur e f))
    (a : Addr) (m c : Nat) (news : List Value) (hl : news.length = m * i.size) (hnews : ∀ j u, news[j]? = some u → w.cell? (a.add j) = some u) (h1 : ∀ u ∈ news, u.oneCell' = true)
    (hroom : sLen + m ≤ sCap) (hfit : sLen * i.size + news.length ≤ cur.size) :
    (Builtin.append_ #[t, t] ty #[.slice (some ⟨g, 0, none⟩) sLen sCap, .slice (some a) m c]).run P w =
      .ok (.slice (some ⟨g, 0, none⟩) (sLen + m) sCap) (w.setRow g (cur.toList.take (sLen * i.size) ++ news ++ cur.toList.drop (sLen * i.size + news.length)).toArray) := by
  have hfc := run_firstCells_some (P := P) w i.size m a m c news hl hnews
  have hst := run_storeCells_atF (P := P) g (sLen * i.size) e f news 0 cur w hf hg (by simpa using hfit) h1
  simp only [Nat.add_zero] at hst
  simp [Builtin.append_, run_underlying ht, sizeOf, typeInfo, hi, Builtin.lenOf, hroom, hfc, Addr.add_lit, hst]

/-- Appending to a slice of one's own. -/
theorem run_append {e : TypeId} {sz bytes : Nat} (T : ElemT P t e sz bytes) {ob : Option Nat} {cap nn mm c2 : Nat} {xs news : List Value} {p2 : Option Addr} {w : World} (hA : (own ob cap e sz nn xs).A w)
    (hl : news.length = mm * sz) (hp : p2 = none → mm = 0) (hnews : ∀ a, p2 = some a → ∀ j u, news[j]? = some u → w.cell? (a.add j) = some u) (h1 : ∀ u ∈ news, u.oneCell' = true)
    (hm : nn + mm ≤ maxLen) (hby : (nn + mm) * bytes ≤ 140737488355328) :
    ∃ ob' cap' w', (Builtin.append_ #[t, t] ty #[slO ob nn cap, .slice p2 mm c2]).run P w = .ok (slO ob' (nn + mm) cap') w' ∧ (own ob' cap' e sz (nn + mm) (xs ++ news)).A w' ∧ Keeps ob.toList w w' ∧
      (∀ b ∈ ob'.toList, b ∈ ob.toList ∨ w.heap.size ≤ b) ∧ (nn + mm = 0 ∨ ob'.isSome = true) := by
  obtain ⟨ii, z', hi, hz, hsz, hb, hzs⟩ := T.inf
  have hlen : (xs ++ news).length = (nn + mm) * sz := by rw [List.length_append, hA.1, hl, Nat.add_mul]
  have h63 : ((nn + mm : Nat) : Int) ≤ 9223372036854775807 := by simp only [maxLen] at hm; omega
  -- a new block
  have grown : ∀ (olds : List Value) (old : Nat), olds.length = nn * sz → olds = xs → old < nn + mm →
      (own (some w.heap.size) (grownCap w (nn + mm) old e) e sz (nn + mm) (xs ++ news)).A
        (w.drew.alloc (.cells (olds.toArray ++ news.toArray ++ Builtin.zeroCells z'.cells (grownCap w (nn + mm) old e - (nn + mm))) e)) ∧
      Keeps ob.toList w (w.drew.alloc (.cells (olds.toArray ++ news.toArray ++ Builtin.zeroCells z'.cells (grownCap w (nn + mm) old e - (nn + mm))) e)) := by
    rintro olds old _ rfl ho
    have hge := grownCap_ge w (nn + mm) old e
    have hcm : grownCap w (nn + mm) old e ≤ maxLen := grownCap_le_maxLen w (nn + mm) old e hm
    refine ⟨⟨hlen, hge, hcm, (Builtin.zeroCells z'.cells (grownCap w (nn + mm) old e - (nn + mm))).toList, ?_, ?_⟩, (Keeps.drew _ w _ (Nat.le_succ _)).trans (Keeps.alloc _ w.drew _)⟩
    · refine ⟨(0, 0), ?_, .inl rfl⟩
      have := heap_alloc_same w.drew (.cells (olds.toArray ++ news.toArray ++ Builtin.zeroCells z'.cells (grownCap w (nn + mm) old e - (nn + mm))) e)
      have hs : w.drew.heap.size = w.heap.size := rfl
      rw [hs] at this
      rw [this]
      congr 2
      apply Array.toList_inj.1
      simp
    · have hzc : (Builtin.zeroCells z'.cells (grownCap w (nn + mm) old e - (nn + mm))).size = (grownCap w (nn + mm) old e - (nn + mm)) * sz := by rw [size_zeroCells, hzs]
      rw [List.length_append, hlen, Array.length_toList, hzc, ← Nat.add_mul]
      congr 1; omega
  have nonil : ∀ a c, p2 = some a → (∀ j u, news[j]? = some u → w.cell? (a.add j) = some u) → ∃ ob' cap' w', (Builtin.append_ #[t, t] ty #[slO ob nn cap, .slice (some a) mm c]).run P w = .ok (slO ob' (nn + mm) cap') w' ∧ (own ob' cap' e sz (nn + mm) (xs ++ news)).A w' ∧ Keeps ob.toList w w' ∧
      (∀ b ∈ ob'.toList, b ∈ ob.toList ∨ w.heap.size ≤ b) ∧ (nn + mm = 0 ∨ ob'.isSome = true) := by
    intro a c ha hn
    subst hsz
    subst hb
    cases ob with
    | none =>
      obtain ⟨hx0, hn0, hc0⟩ := hA
      subst hn0; subst hc0
      have hxs : xs = [] := List.eq_nil_of_length_eq_zero (by simpa using hx0)
      subst hxs
      by_cases hm0 : mm = 0
      · subst hm0
        have : news = [] := List.eq_nil_of_length_eq_zero (by simpa using hl)
        subst this
        refine ⟨none, 0, w, ?_, ⟨by simp, by simp⟩, Keeps.refl _ _, by simp, .inl rfl⟩
        have hf := run_firstCells_some (P := P) w ii.size 0 a 0 c [] (by simp) (by simp)
        simp [Builtin.append_, run_underlying T.ut, sizeOf, typeInfo, hi, Builtin.lenOf, hf, slO]
      · have hr := run_append_nil (P := P) w t ty e ii z' T.ut hi hz a mm c news hl hn (by omega) (by simpa using h63) (by simp at hby; omega)
        obtain ⟨g1, g2⟩ := grown [] 0 (by simp) rfl (by omega)
        simp only [Nat.zero_add] at g1 g2 ⊢
        refine ⟨some w.heap.size, _, _, hr, ?_, ?_, by simp, .inr rfl⟩
        · simpa using g1
        · simpa using g2
    | some b =>
      obtain ⟨hx0, hnc, hcm, rest, ⟨f, hg, hfz⟩, hgl⟩ := hA
      by_cases hroom : nn + mm ≤ cap
      · have hfit : nn * ii.size + news.length ≤ (xs ++ rest).toArray.size := by
          have := Nat.mul_le_mul_right ii.size hroom
          simp only [List.size_toArray, hgl, hl, ← Nat.add_mul]; exact this
        have hr := run_append_roomF (P := P) (t := t) w ty e ii T.ut hi b nn cap (xs ++ rest).toArray f (hfz.imp id (fun h => by rw [List.size_toArray, hgl]; exact h)) hg a mm c news hl hn h1 hroom hfit
        refine ⟨some b, cap, _, hr, ⟨hlen, hroom, hcm, (xs ++ rest).drop (nn * ii.size + news.length), ?_, ?_⟩, Keeps.setRow, by simp, .inr rfl⟩
        · refine ⟨f, ?_, hfz⟩
          rw [setRow_heap w b _ _ e _ hg]
          congr 3
          simp [← hx0]
        · rw [List.length_append, hlen, List.length_drop, hgl, hl, ← Nat.add_mul]
          have := Nat.mul_le_mul_right ii.size hroom
          omega
      · have holds : ∀ j u, xs[j]? = some u → w.cell? ((⟨b, 0, none⟩ : Addr).add j) = some u := fun j u hj => by
          have hlt : j < xs.length := (List.getElem?_eq_some_iff.1 hj).1
          rw [add_none]
          simp only [World.cell?, hg]
          simp [List.getElem?_append, hlt, (List.getElem?_eq_some_iff.1 hj).2]
        have hr := run_append_grow (P := P) w t ty e ii z' T.ut hi hz ⟨b, 0, none⟩ nn cap xs hx0 holds a mm c news hl hn (by omega) h63 (growslice_fits (by omega) hby)
        obtain ⟨g1, g2⟩ := grown xs cap hx0 rfl (by omega)
        exact ⟨some w.heap.size, _, _, hr, g1, g2, by simp, .inr rfl⟩
  cases p2 with
  | some a => exact nonil a c2 rfl (hnews a rfl)
  | none =>
    have := hp rfl
    subst this
    have : news = [] := List.eq_nil_of_length_eq_zero (by simpa using hl)
    subst this
    refine ⟨ob, cap, w, ?_, by simpa using hA, Keeps.refl _ _, fun b hb => .inl hb, ?_⟩
    · cases ob with
      | none =>
        obtain ⟨hx0, hn0, hc0⟩ := hA
        subst hn0; subst hc0
        simp [Builtin.append_, run_underlying T.ut, sizeOf, typeInfo, hi, Builtin.lenOf, Builtin.firstCells, slO]
      | some b =>
        obtain ⟨hx0, hnc, hcm, rest, ⟨f, hg, hfz⟩, hgl⟩ := hA
        simp [Builtin.append_, run_underlying T.ut, sizeOf, typeInfo, hi, Builtin.lenOf, Builtin.firstCells, slO, hnc, storeCells]
    · cases ob with
      | none => exact .inl (by have := hA.2.1; omega)
      | some b => exact .inr rfl

/-- What a slice holds, wherever it lies. -/
def Src (I H : List It) (p : Option Addr) (mm sz : Nat) (xs : List Value) : Prop :=
  ∀ w, Sat I H w → xs.length = mm * sz ∧ (p = none → mm = 0) ∧ ∀ a, p = some a → ∀ j u, xs[j]? = some u → w.cell? (a.add j) = some u

theorem Src.sls {p : Option Addr} {nn sz : Nat} {xs : List Value} (hm : PK.sls p sz nn xs ∈ I) : Src I H p nn sz xs := fun w hw => by
  have := hw.i _ hm
  refine ⟨this.1, ?_, ?_⟩
  · rintro rfl; exact this.2
  · rintro a rfl; exact this.2.2
theorem Src.own {ob : Option Nat} {cap sz nn : Nat} {e : TypeId} {xs : List Value} (hm : PK.own ob cap e sz nn xs ∈ H) : Src I H (ob.map fun b => ⟨b, 0, none⟩) nn sz xs := fun w hw => by
  have := own_sls (hw.h _ hm)
  refine ⟨this.1, ?_, ?_⟩
  · intro h; rw [h] at this; exact this.2
  · intro a h; rw [h] at this; exact this.2.2
theorem Src.cel {b mm sz : Nat} {cs : List Value} {T : TypeId} (hm : PK.cel b cs T ∈ H) (hl : cs.length = mm * sz) : Src I H (some ⟨b, 0, none⟩) mm sz cs := fun w hw =>
  ⟨hl, fun h => (by cases h), fun a h j u hj => by cases h; rw [add_none, cell_of_cel (hw.h _ hm), Nat.zero_add]; exact hj⟩
/-- A part of it. -/
theorem Src.sub {p : Option Addr} {nn sz lo hi cap : Nat} {xs : List Value} (h : Src I H p nn sz xs) (h1 : lo ≤ hi) (h2 : hi ≤ nn) (h3 : cap = lo → lo = hi) : Src I H (if cap = lo then p else p.map (·.add (lo * sz))) (hi - lo) sz ((xs.drop (lo * sz)).take ((hi - lo) * sz)) := fun w hw => by
  obtain ⟨g1, g2, g3⟩ := h w hw
  have hm1 : lo * sz ≤ hi * sz := Nat.mul_le_mul_right _ h1
  have hm2 : hi * sz ≤ nn * sz := Nat.mul_le_mul_right _ h2
  refine ⟨by rw [List.length_take, List.length_drop, g1, Nat.sub_mul]; omega, ?_, ?_⟩
  · intro hp
    by_cases hc : cap = lo
    · have := h3 hc; omega
    · rw [if_neg hc] at hp
      have := g2 (by simpa using hp); omega
  · intro a ha j u hj
    have hlt : j < (hi - lo) * sz := by have := (List.getElem?_eq_some_iff.1 hj).1; rw [List.length_take] at this; omega
    by_cases hc : cap = lo
    · have := h3 hc; subst this; simp at hlt
    · rw [if_neg hc] at ha
      cases p with
      | none => simp at ha
      | some q =>
        simp only [Option.map_some, Option.some.injEq] at ha
        subst ha
        rw [add_add]
        refine g3 q rfl (lo * sz + j) u ?_
        rw [List.getElem?_take, if_pos hlt, List.getElem?_drop] at hj
        exact hj

theorem RL.append {e : TypeId} {sz bytes : Nat} {ob : Option Nat} {cap nn mm c2 : Nat} {xs news : List Value} {p2 : Option Addr} {B : List It} (T : ElemT P t e sz bytes)
    (ho : nth L i = some ⟨some d, .call ⟨.builtin .append, #[x, y], #[t, t]⟩, ty, pos, af, g⟩) (hw : wants L E ⟨some d, .call ⟨.builtin .append, #[x, y], #[t, t]⟩, ty, pos, af, g⟩ = true) (hN : Nat.blt d N.n = true) (hi : ef.contains i = true) (hb : bk.contains i = true)
    (hx : E.ev x = some (slO ob nn cap)) (hy : E.ev y = some (.slice p2 mm c2)) (hs : Src I H p2 mm sz news) (h1 : ∀ u ∈ news, u.oneCell' = true) (hm : nn + mm ≤ maxLen) (hby : (nn + mm) * bytes ≤ 140737488355328)
    (hp : Pick H [PK.own ob cap e sz nn xs] B) (h : ∀ ob' cap', (nn + mm = 0 ∨ ob'.isSome = true) → RL P L ef bk tq Q l N ((d, slO ob' (nn + mm) cap') :: E) w0 S I (PK.own ob' cap' e sz (nn + mm) (xs ++ news) :: B)) :
    RL P L ef bk tq Q (.cons i l) N E w0 S I H := by
  refine RL.eff ho hw hi rfl hN (fun a w ha hC => ?_)
  obtain ⟨s1, s2, s3⟩ := hs w hC.s
  have hA : (PK.own ob cap e sz nn xs).A w := hC.s.h _ (hp.memA _ (by simp))
  obtain ⟨ob', cap', w', r1, r2, r3, r4, r5⟩ := run_append (ty := ty) T hA s1 s2 s3 h1 hm hby (c2 := c2)
  unfold does
  rw [exec_append (ha.ev hx) (ha.ev hy) r1]
  have hs' : Sat [] [PK.own ob' cap' e sz (nn + mm) (xs ++ news)] w' := ⟨by simp, by simpa using r2, by cases ob' <;> simp [PK.own], by simp⟩
  have hk : Keeps (bss [PK.own ob cap e sz nn xs]) w w' := by simpa [PK.own] using r3
  have := hC.call (C := []) hp .nil hk hs' (by simpa [PK.own] using r4) (by simp)
  exact ⟨I, _, this, fun _ h => h, fun hbk => (by rw [hb] at hbk; cases hbk), h ob' cap' r5⟩

/-- Appending without room. -/
theorem run_appendNew {e : TypeId} {sz bytes : Nat} {p : Option Addr} {nn cap mm c2 : Nat} {xs news : List Value} {p2 : Option Addr} {w : World} (T : ElemT P t e sz bytes) (q1 : xs.length = nn * sz) (q2 : p = none → nn = 0)
    (q3 : ∀ a, p = some a → ∀ j u, xs[j]? = some u → w.cell? (a.add j) = some u) (s1 : news.length = mm * sz) (s2 : p2 = none → mm = 0) (s3 : ∀ a, p2 = some a → ∀ j u, news[j]? = some u → w.cell? (a.add j) = some u)
    (hroom : cap < nn + mm) (hm : nn + mm ≤ maxLen) (hby : (nn + mm) * bytes ≤ 140737488355328) :
    ∃ w', (Builtin.append_ #[t, t] ty #[.slice p nn cap, .slice p2 mm c2]).run P w = .ok (.slice (some ⟨w.heap.size, 0, none⟩) (nn + mm) (grownCap w (nn + mm) cap e)) w' ∧ Grow w w' ∧
      (PK.own (some w.heap.size) (grownCap w (nn + mm) cap e) e sz (nn + mm) (xs ++ news)).A w' := by
  obtain ⟨ii, z', hi', hz, hsz, hbb, hzs⟩ := T.inf
  have h63 : ((nn + mm : Nat) : Int) ≤ 9223372036854775807 := by simp only [maxLen] at hm; omega
  have hlen : (xs ++ news).length = (nn + mm) * sz := by rw [List.length_append, q1, s1, Nat.add_mul]
  have hge := grownCap_ge w (nn + mm) cap e
  have hcm : grownCap w (nn + mm) cap e ≤ maxLen := grownCap_le_maxLen w (nn + mm) cap e hm
  have key : (Builtin.append_ #[t, t] ty #[.slice p nn cap, .slice p2 mm c2]).run P w = .ok (.slice (some ⟨w.heap.size, 0, none⟩) (nn + mm) (grownCap w (nn + mm) cap e))
      (w.drew.alloc (.cells (xs.toArray ++ news.toArray ++ Builtin.zeroCells z'.cells (grownCap w (nn + mm) cap e - (nn + mm))) e)) := by
    have hfit := growslice_fits hroom hby
    subst hsz; subst hbb
    have hf1 : ∀ w' : World, (∀ a, w'.cell? a = w.cell? a) → (Builtin.firstCells ii.size nn (.slice p nn cap)).run P w' = .ok xs.toArray w' := by
      intro w' hw'
      cases p with
      | none =>
        have := q2 rfl; subst this
        have : xs = [] := List.eq_nil_of_length_eq_zero (by simpa using q1)
        subst this; simp [Builtin.firstCells]
      | some q => exact run_firstCells_some (P := P) w' ii.size nn q nn cap xs q1 (fun j u hj => by rw [hw']; exact q3 q rfl j u hj)
    have hf2 : ∀ w' : World, (∀ a, w'.cell? a = w.cell? a) → (Builtin.firstCells ii.size mm (.slice p2 mm c2)).run P w' = .ok news.toArray w' := by
      intro w' hw'
      cases p2 with
      | none =>
        have := s2 rfl; subst this
        have : news = [] := List.eq_nil_of_length_eq_zero (by simpa using s1)
        subst this; simp [Builtin.firstCells]
      | some q => exact run_firstCells_some (P := P) w' ii.size mm q mm c2 news s1 (fun j u hj => by rw [hw']; exact s3 q rfl j u hj)
    have hd1 := hf1 w.drew (fun _ => rfl)
    have hd2 := hf2 w.drew (fun _ => rfl)
    have hn : ¬ (nn + mm ≤ cap) := by omega
    have h63' : ¬ (9223372036854775807 < ((nn : Int) + (mm : Int))) := by omega
    have h48' : ¬ (281474976710656 < Builtin.nextslicecap (nn + mm) cap * ii.bytes) := by omega
    simp [Builtin.append_, run_underlying T.ut, sizeOf, typeInfo, zeroValue, hi', hz, Builtin.lenOf, hn, h63', h48', Question.forced, hd1, hd2, newRow, grownCap]
    congr 2
    apply Array.ext'
    simp [List.append_assoc]
  have hdr : w.drew.heap.size = w.heap.size := rfl
  refine ⟨_, key, (Keeps.drew _ w _ (Nat.le_succ _)).trans (Keeps.alloc _ w.drew _), hlen, hge, hcm, (Builtin.zeroCells z'.cells (grownCap w (nn + mm) cap e - (nn + mm))).toList, ?_, ?_⟩
  · refine ⟨(0, 0), ?_, .inl rfl⟩
    have := heap_alloc_same w.drew (.cells (xs.toArray ++ news.toArray ++ Builtin.zeroCells z'.cells (grownCap w (nn + mm) cap e - (nn + mm))) e)
    rw [hdr] at this
    rw [this]
    congr 2
    apply Array.toList_inj.1
    simp
  · have hzc : (Builtin.zeroCells z'.cells (grownCap w (nn + mm) cap e - (nn + mm))).size = (grownCap w (nn + mm) cap e - (nn + mm)) * sz := by rw [size_zeroCells, hzs]
    rw [List.length_append, hlen, Array.length_toList, hzc, ← Nat.add_mul]
    congr 1; omega

/-- Appending to a slice that is not one's own, without room: a new one comes. -/
theorem RL.appendNew {e : TypeId} {sz bytes : Nat} {p : Option Addr} {nn cap mm c2 : Nat} {xs news : List Value} {p2 : Option Addr} (T : ElemT P t e sz bytes)
    (ho : nth L i = some ⟨some d, .call ⟨.builtin .append, #[x, y], #[t, t]⟩, ty, pos, af, g⟩) (hw : wants L E ⟨some d, .call ⟨.builtin .append, #[x, y], #[t, t]⟩, ty, pos, af, g⟩ = true) (hN : Nat.blt d N.n = true) (hi : ef.contains i = true)
    (hx : E.ev x = some (.slice p nn cap)) (hy : E.ev y = some (.slice p2 mm c2)) (hs1 : Src I H p nn sz xs) (hs : Src I H p2 mm sz news) (hroom : cap < nn + mm) (hm : nn + mm ≤ maxLen) (hby : (nn + mm) * bytes ≤ 140737488355328)
    (h : ∀ b cap', RL P L ef bk tq Q l N ((d, .slice (some ⟨b, 0, none⟩) (nn + mm) cap') :: E) w0 S I (PK.own (some b) cap' e sz (nn + mm) (xs ++ news) :: H)) :
    RL P L ef bk tq Q (.cons i l) N E w0 S I H := by
  refine RL.eff ho hw hi rfl hN (fun a w ha hC => ?_)
  obtain ⟨s1, s2, s3⟩ := hs w hC.s
  obtain ⟨q1, q2, q3⟩ := hs1 w hC.s
  obtain ⟨w', hr, hg, hA⟩ := run_appendNew (ty := ty) T q1 q2 q3 s1 s2 s3 hroom hm hby (c2 := c2)
  unfold does
  rw [exec_append (ha.ev hx) (ha.ev hy) hr]
  exact ⟨I, _, hC.more hg hA (by simp [PK.own]) (by simp [PK.own]), fun _ h => h, fun _ _ h => h.less, h _ _⟩

/-! ### The same things in another order, some left out -/

inductive Del : List It → It → List It → Prop
  | here {x : It} {H : List It} : Del (x :: H) x H
  | there {x y : It} {H B : List It} (h : Del H x B) : Del (y :: H) x (y :: B)

theorem Del.spec {H B : List It} {x : It} (h : Del H x B) : x ∈ H ∧ (∀ y ∈ B, y ∈ H) ∧ (PK.bss H).Perm (x.bs ++ PK.bss B) := by
  induction h with
  | here => exact ⟨by simp, fun y hy => by simp [hy], List.Perm.refl _⟩
  | there h ih =>
    refine ⟨by simp [ih.1], fun y hy => ?_, ?_⟩
    · rcases List.mem_cons.1 hy with rfl | hy
      · simp
      · simp [ih.2.1 y hy]
    · simp only [bss_cons]
      refine (ih.2.2.append_left _).trans ?_
      rw [← List.append_assoc, ← List.append_assoc]
      exact List.perm_append_comm.append_right _

inductive Rea : List It → List It → Prop
  | nil {H : List It} : Rea H []
  | cons {x : It} {H B H' : List It} (d : Del H x B) (r : Rea B H') : Rea H (x :: H')

theorem Rea.spec {H H' : List It} (h : Rea H H') : (∀ y ∈ H', y ∈ H) ∧ (∀ b ∈ PK.bss H', b ∈ PK.bss H) ∧ ((PK.bss H).Nodup → (PK.bss H').Nodup) := by
  induction h with
  | nil => simp
  | cons d r ih =>
    obtain ⟨d1, d2, d3⟩ := d.spec
    refine ⟨fun y hy => ?_, fun b hb => ?_, fun hnd => ?_⟩
    · rcases List.mem_cons.1 hy with rfl | hy
      · exact d1
      · exact d2 y (ih.1 y hy)
    · refine d3.mem_iff.2 ?_
      rcases List.mem_append.1 hb with hb | hb
      · exact List.mem_append_left _ hb
      · exact List.mem_append_right _ (ih.2.1 b hb)
    · have := d3.nodup_iff.1 hnd
      rw [List.nodup_append] at this
      rw [bss_cons, List.nodup_append]
      exact ⟨this.1, ih.2.2 this.2.1, fun b hb b' hb' => this.2.2 b hb b' (ih.2.1 b' hb')⟩

theorem Cls.rea {I' H' : List It} {w : World} (h : Cls w0 S I H w) (hi : ∀ x ∈ I', x ∈ I) (r : Rea H H') : Cls w0 S I' H' w := by
  obtain ⟨r1, r2, r3⟩ := r.spec
  exact ⟨h.k, ⟨fun x hx => h.s.i x (hi x hx), fun x hx => h.s.h x (r1 x hx), r3 h.s.nd, fun b hb hb' => by
    obtain ⟨x, hx, hbx⟩ := mem_bss.1 hb
    exact h.s.dj b (mem_bss.2 ⟨x, hi x hx, hbx⟩) (r2 b hb')⟩, fun b hb => h.own b (r2 b hb)⟩
/-! ### What is lent to a callee -/

theorem Lend.cel {F J : List It} {b off sz nn : Nat} {cs xs : List Value} {T : TypeId} (hm : PK.cel b cs T ∈ F) (hl : xs.length = nn * sz) (hx : ∀ j u, xs[j]? = some u → cs[off + j]? = some u) (h : Lend I F J) : Lend I F (PK.sls (some ⟨b, off, none⟩) sz nn xs :: J) :=
  .of (fun _ hw => cel_sls (hw.h _ hm) hl hx) (fun c hc => .inr (mem_bss.2 ⟨_, hm, by by_cases hn : nn = 0 <;> simp_all [PK.sls, PK.cel]⟩)) h
theorem Lend.all {F J : List It} {b sz nn : Nat} {cs : List Value} {T : TypeId} (hm : PK.cel b cs T ∈ F) (hl : cs.length = nn * sz) (h : Lend I F J) : Lend I F (PK.sls (some ⟨b, 0, none⟩) sz nn cs :: J) :=
  .cel hm hl (fun j u hj => by rw [Nat.zero_add]; exact hj) h
theorem Lend.own {F J : List It} {ob : Option Nat} {cap sz nn : Nat} {e : TypeId} {xs : List Value} (hm : PK.own ob cap e sz nn xs ∈ F) (h : Lend I F J) : Lend I F (PK.sls (ob.map fun b => ⟨b, 0, none⟩) sz nn xs :: J) :=
  .of (fun _ hw => own_sls (hw.h _ hm)) (fun c hc => .inr (mem_bss.2 ⟨_, hm, by by_cases hn : nn = 0 <;> cases ob <;> simp_all [PK.sls, PK.own]⟩)) h

/-! ### A law's end -/

theorem Spc.law {f : FuncId} {args : Array Value} {u : Value} {w : World} (h : Spc P f args I [] (Is u)) (hw : Sat I [] w) : Calls P f args w (fun e w' => e = .returned u ∧ RowKit.Below w.heap.size w w') :=
  (h w hw).mono fun _ _ ⟨_, _, _, he, ⟨hv, _, _⟩, hk, _⟩ => ⟨by rw [he, hv], ⟨hk.os, hk.tape, hk.output, hk.size, fun b hb => hk.block b hb (by simp)⟩⟩

theorem Sat.one {x : It} {w : World} (h : x.A w) : Sat [x] [] w := ⟨by simpa using h, by simp, by simp, by simp⟩
theorem Sat.none (w : World) : Sat [] [] w := ⟨by simp, by simp, by simp, by simp⟩

/-! ### A result that lies in memory -/

theorem resC {fn : Func} {tt : Tmp} {T : TypeId} {p : Addr} {vs : List Value} (hf : fn.results = #[.cell tt T]) (ht : E.get tt = some (.pointer (some p))) (hag : ∀ w, (isAgg T).run P w = .ok true w) (hs : ∀ w, (sizeOf T).run P w = .ok vs.length w) (hr : Rds I H p vs) :
    ∀ a w, Ag N a E → Cls w0 S I H w → (results fn a.tmps).run P w = .ok (.agg vs.toArray) w := fun a w ha hC => by
  have := run_isAggT (P := P) hag hs (hr w hC.s)
  simp [results, hf, ha.t tt _ ht, asAddr, this]

end
end Go.PK
