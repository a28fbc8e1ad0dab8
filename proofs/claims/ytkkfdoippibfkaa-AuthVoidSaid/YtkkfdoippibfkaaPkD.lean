/-
  PK, part D: operations on memory.
-/
import Derived.Test.YtkkfdoippibfkaaPkC
namespace Go.PK

section
variable {P : Program} {L : List Oper} {ef bk : List Nat} {tq : Tq} {Q : Exit → Act → World → Prop} {N : Nat} {E : Env} {w0 : World} {S : List Nat} {I H : List It} {i : Nat} {l : Sq}
variable {d : Nat} {x y z : Operand} {ty t yt : TypeId} {pos : String} {af : Array Edge} {g : Option (Nat × Bool)} {v : Value} {k k' : IntKind} {m n : Int}

theorem heap_alloc_lt (w : World) (o : Obj) {b : Nat} (h : b < w.heap.size) : (w.alloc o).heap[b]? = w.heap[b]? := by
  simp only [World.alloc, Array.getElem?_push, if_neg (show ¬ b = w.heap.size by omega)]

theorem heap_alloc_same (w : World) (o : Obj) : (w.alloc o).heap[w.heap.size]? = some o := by
  show (w.heap.push o)[w.heap.size]? = some o
  simp

theorem Keeps.alloc (S : List Nat) (w : World) (o : Obj) : Keeps S w (w.alloc o) :=
  ⟨rfl, rfl, rfl, by simp, fun _ hb _ => heap_alloc_lt w o hb, Nat.le_refl _⟩

/-- One thing more, in new blocks. -/
theorem Cls.more {x : It} {w w' : World} (h : Cls w0 S I H w) (hg : Grow w w') (hx : x.A w') (hn : x.bs.Nodup) (hb : ∀ b ∈ x.bs, w.heap.size ≤ b) : Cls w0 S I (x :: H) w' := by
  have hO := Cls.open w0 S I H w w' h hg
  have ltH : ∀ b ∈ bss H, b < w.heap.size := fun b hb => by obtain ⟨y, hy, hbx⟩ := mem_bss.1 hb; exact y.lt w (h.s.h y hy) b hbx
  have ltI : ∀ b ∈ bss I, b < w.heap.size := fun b hb => by obtain ⟨y, hy, hbx⟩ := mem_bss.1 hb; exact y.lt w (h.s.i y hy) b hbx
  refine ⟨hO.k, ⟨hO.s.i, fun y hy => ?_, ?_, fun b hb' hbx => ?_⟩, fun b hbx hlt => ?_⟩
  · rcases List.mem_cons.1 hy with rfl | hy
    · exact hx
    · exact hO.s.h y hy
  · rw [bss_cons, List.nodup_append]
    exact ⟨hn, h.s.nd, fun b h1 b' h2 e => by subst e; have := hb b h1; have := ltH b h2; omega⟩
  · rw [bss_cons] at hbx
    rcases List.mem_append.1 hbx with h1 | h1
    · have := hb b h1; have := ltI b hb'; omega
    · exact h.s.dj b hb' h1
  · rw [bss_cons] at hbx
    rcases List.mem_append.1 hbx with h1 | h1
    · have := hb b h1; have := h.k.size; omega
    · exact h.own b h1 hlt

theorem Cls.less {x : It} {w : World} (h : Cls w0 S I (x :: H) w) : Cls w0 S I H w := h.les (fun _ h => h) (.drop (Les.refl H))

/-- An operation that makes one thing in new blocks. -/
theorem RL.make {o : Oper} {x : Nat → It} {u : Nat → Value} (ho : nth L i = some o) (hw : wants L E o = true) (hi : ef.contains i = true) (hd : o.dst = some d) (hN : Nat.blt d N = true)
    (hv : ∀ a w, Ag N a E → Cls w0 S I H w → ∃ w', (execOp a.eval o).run P w = .ok (.value (u w.heap.size)) w' ∧ Grow w w' ∧ (x w.heap.size).A w' ∧ (x w.heap.size).bs = [w.heap.size])
    (h : ∀ b, RL P L ef bk tq Q l N ((d, u b) :: E) w0 S I (x b :: H)) : RL P L ef bk tq Q (.cons i l) N E w0 S I H := by
  refine RL.eff ho hw hi hd hN (fun a w ha hC => ?_)
  obtain ⟨w', h1, h2, h3, h4⟩ := hv a w ha hC
  unfold does
  rw [h1]
  exact ⟨I, _, hC.more h2 h3 (by rw [h4]; simp) (by rw [h4]; simp), fun _ h => h, fun _ _ h => h.less, h _⟩

theorem cel_new {w : World} {cs : List Value} {T : TypeId} : (cel w.heap.size cs T).A (w.alloc (.cells cs.toArray T)) := heap_alloc_same w _

theorem RL.box {cs : List Value} (ho : nth L i = some ⟨some d, .box t x, ty, pos, af, g⟩) (hw : wants L E ⟨some d, .box t x, ty, pos, af, g⟩ = true) (hN : Nat.blt d N = true) (hi : ef.contains i = true)
    (hx : E.ev x = some v) (hc : v.cells = cs.toArray) (h : ∀ b, RL P L ef bk tq Q l N ((d, .pointer (some ⟨b, 0, none⟩)) :: E) w0 S I (cel b cs t :: H)) : RL P L ef bk tq Q (.cons i l) N E w0 S I H :=
  RL.make (x := fun b => cel b cs t) (u := fun b => .pointer (some ⟨b, 0, none⟩)) ho hw hi rfl hN (fun a w ha _ => ⟨w.alloc (.cells cs.toArray t), by
    simp [execOp, ha.ev hx, Instr.box, newVar, newRow, hc], Keeps.alloc _ _ _, cel_new, rfl⟩) h

theorem RL.alloc {cs : List Value} {z' : Value} (hz : ∀ w, (zeroValue t).run P w = .ok z' w) (ho : nth L i = some ⟨some d, .alloc t, ty, pos, af, g⟩) (hw : wants L E ⟨some d, .alloc t, ty, pos, af, g⟩ = true) (hN : Nat.blt d N = true) (hi : ef.contains i = true)
    (hc : z'.cells = cs.toArray) (h : ∀ b, RL P L ef bk tq Q l N ((d, .pointer (some ⟨b, 0, none⟩)) :: E) w0 S I (cel b cs t :: H)) : RL P L ef bk tq Q (.cons i l) N E w0 S I H :=
  RL.make (x := fun b => cel b cs t) (u := fun b => .pointer (some ⟨b, 0, none⟩)) ho hw hi rfl hN (fun a w _ _ => ⟨w.alloc (.cells cs.toArray t), by
    simp [execOp, Instr.alloc, hz, newVar, newRow, hc], Keeps.alloc _ _ _, cel_new, rfl⟩) h

/-! ### Reading -/

/-- In every world with these things the cell holds this. -/
def Rd (I H : List It) (p : Addr) (v : Value) : Prop := ∀ w, Sat I H w → w.cell? p = some v
/-- .. the cells from here on hold these. -/
def Rds (I H : List It) (p : Addr) (vs : List Value) : Prop := ∀ w, Sat I H w → ∀ j u, vs[j]? = some u → w.cell? (p.add j) = some u

theorem cell_of_cel {b off : Nat} {cs : List Value} {T : TypeId} {w : World} (h : (cel b cs T).A w) : w.cell? ⟨b, off, none⟩ = cs[off]? := by
  have h' : w.heap[b]? = some (.cells cs.toArray T (0, 0)) := h
  simp [World.cell?, h']

theorem Rd.cel {b off : Nat} {cs : List Value} {T : TypeId} (hm : cel b cs T ∈ H) (hn : nth cs off = some v) : Rd I H ⟨b, off, none⟩ v := fun w hw => by
  rw [cell_of_cel (hw.h _ hm), ← nth_eq]; exact hn
theorem Rd.celI {b off : Nat} {cs : List Value} {T : TypeId} (hm : PK.cel b cs T ∈ I) (hn : nth cs off = some v) : Rd I H ⟨b, off, none⟩ v := fun w hw => by
  rw [cell_of_cel (hw.i _ hm), ← nth_eq]; exact hn

theorem add_none (b off j : Nat) : (⟨b, off, none⟩ : Addr).add j = ⟨b, off + j, none⟩ := by unfold Addr.add; split <;> simp_all

theorem Rds.cel {b off : Nat} {cs vs : List Value} {T : TypeId} (hm : PK.cel b cs T ∈ H) (hv : ∀ j u, vs[j]? = some u → cs[off + j]? = some u) : Rds I H ⟨b, off, none⟩ vs := fun w hw j u hu => by
  rw [add_none, cell_of_cel (hw.h _ hm)]; exact hv j u hu
theorem Rds.celI {b off : Nat} {cs vs : List Value} {T : TypeId} (hm : PK.cel b cs T ∈ I) (hv : ∀ j u, vs[j]? = some u → cs[off + j]? = some u) : Rds I H ⟨b, off, none⟩ vs := fun w hw j u hu => by
  rw [add_none, cell_of_cel (hw.i _ hm)]; exact hv j u hu

/-- Some cells of a list, told one by one. -/
def at_ (cs : List Value) : Nat → List Value → Prop
  | _, [] => True
  | n, v :: vs => nth cs n = some v ∧ at_ cs (n + 1) vs

theorem at_spec {cs : List Value} : ∀ {vs : List Value} {n : Nat}, at_ cs n vs → ∀ j u, vs[j]? = some u → cs[n + j]? = some u
  | [], _, _, j, u, h => by simp at h
  | v :: vs, n, hh, 0, u, h => by
    simp only [List.getElem?_cons_zero, Option.some.injEq] at h
    subst h; rw [Nat.add_zero, ← nth_eq]; exact hh.1
  | v :: vs, n, hh, j + 1, u, h => by
    simp only [List.getElem?_cons_succ] at h
    have := at_spec hh.2 j u h
    rwa [show n + 1 + j = n + (j + 1) by omega] at this

theorem run_isAggF {T : TypeId} {a : Addr} {w : World} (hag : ∀ w, (isAgg T).run P w = .ok false w) (h : w.cell? a = some v) : (loadVar T a).run P w = .ok v w := by
  simp [loadVar, hag, h]

theorem run_isAggT {T : TypeId} {a : Addr} {w : World} {vs : List Value} (hag : ∀ w, (isAgg T).run P w = .ok true w) (hs : ∀ w, (sizeOf T).run P w = .ok vs.length w) (h : ∀ j u, vs[j]? = some u → w.cell? (a.add j) = some u) :
    (loadVar T a).run P w = .ok (.agg vs.toArray) w := by
  simp [loadVar, hag, hs, run_loadCells_list w a vs h]

theorem RL.load {p : Addr} (hag : ∀ w, (isAgg t).run P w = .ok false w) (ho : nth L i = some ⟨some d, .load t x, ty, pos, af, g⟩) (hw : wants L E ⟨some d, .load t x, ty, pos, af, g⟩ = true) (hN : Nat.blt d N = true)
    (hx : E.ev x = some (.pointer (some p))) (hr : Rd I H p v) (h : RL P L ef bk tq Q l N ((d, v) :: E) w0 S I H) (ht : tq.l.contains i = false := by rfl) : RL P L ef bk tq Q (.cons i l) N E w0 S I H :=
  RL.val ho hw rfl hN (fun _ w ha hC => by
    simp [execOp, ha.ev hx, Instr.loadAt, Instr.sureAddr, run_isAggF hag (hr w hC.s)]) h rfl ht
theorem RL.loadT {p : Addr} (hag : ∀ w, (isAgg t).run P w = .ok false w) (ho : nth L i = some ⟨some d, .load t x, ty, pos, af, g⟩) (hw : wants L E ⟨some d, .load t x, ty, pos, af, g⟩ = true) (hN : Nat.blt d N = true)
    (hx : E.ev x = some (.pointer (some p))) (hr : Rd tq.T [] p v) (h : RL P L ef bk tq Q l N ((d, v) :: E) w0 S I H) : RL P L ef bk tq Q (.cons i l) N E w0 S I H :=
  RL.toldV ho hw rfl hN (fun _ w ha hC => by
    simp [execOp, ha.ev hx, Instr.loadAt, Instr.sureAddr, run_isAggF hag (hr w ⟨hC, by simp, by simp, by simp⟩)]) h

theorem RL.loadN {p : Addr} {vs : List Value} (hag : ∀ w, (isAgg t).run P w = .ok true w) (hs : ∀ w, (sizeOf t).run P w = .ok vs.length w) (ho : nth L i = some ⟨some d, .load t x, ty, pos, af, g⟩) (hw : wants L E ⟨some d, .load t x, ty, pos, af, g⟩ = true) (hN : Nat.blt d N = true)
    (hx : E.ev x = some (.pointer (some p))) (hr : Rds I H p vs) (h : RL P L ef bk tq Q l N ((d, .agg vs.toArray) :: E) w0 S I H) (ht : tq.l.contains i = false := by rfl) : RL P L ef bk tq Q (.cons i l) N E w0 S I H :=
  RL.val ho hw rfl hN (fun _ w ha hC => by
    simp [execOp, ha.ev hx, Instr.loadAt, Instr.sureAddr, run_isAggT hag hs (hr w hC.s)]) h rfl ht
theorem RL.loadNT {p : Addr} {vs : List Value} (hag : ∀ w, (isAgg t).run P w = .ok true w) (hs : ∀ w, (sizeOf t).run P w = .ok vs.length w) (ho : nth L i = some ⟨some d, .load t x, ty, pos, af, g⟩) (hw : wants L E ⟨some d, .load t x, ty, pos, af, g⟩ = true) (hN : Nat.blt d N = true)
    (hx : E.ev x = some (.pointer (some p))) (hr : Rds tq.T [] p vs) (h : RL P L ef bk tq Q l N ((d, .agg vs.toArray) :: E) w0 S I H) : RL P L ef bk tq Q (.cons i l) N E w0 S I H :=
  RL.toldV ho hw rfl hN (fun _ w ha hC => by
    simp [execOp, ha.ev hx, Instr.loadAt, Instr.sureAddr, run_isAggT hag hs (hr w ⟨hC, by simp, by simp, by simp⟩)]) h

theorem RL.fieldAddr {b off fo : Nat} {j : Nat} (hf : ∀ p w, (Instr.fieldAt t (.pointer (some p)) j).run P w = .ok (.pointer (some (p.add fo))) w) (ho : nth L i = some ⟨some d, .fieldAddr t x j, ty, pos, af, g⟩) (hw : wants L E ⟨some d, .fieldAddr t x j, ty, pos, af, g⟩ = true) (hN : Nat.blt d N = true)
    (hx : E.ev x = some (.pointer (some ⟨b, off, none⟩))) (h : RL P L ef bk tq Q l N ((d, .pointer (some ⟨b, off + fo, none⟩)) :: E) w0 S I H) : RL P L ef bk tq Q (.cons i l) N E w0 S I H :=
  RL.pval ho hw rfl hN (fun _ w ha => by
    simp [execOp, ha.ev hx, hf, add_none]) h

/-! ### Writing -/

/-- A list with others from a place on. -/
def spl : List Value → Nat → List Value → List Value
  | [], _, _ => []
  | c :: cs, n + 1, vs => c :: spl cs n vs
  | c :: cs, 0, [] => c :: cs
  | _ :: cs, 0, v :: vs => v :: spl cs 0 vs

theorem spl_length : ∀ (cs : List Value) (n : Nat) (vs : List Value), (spl cs n vs).length = cs.length
  | [], _, _ => rfl
  | c :: cs, n + 1, vs => by simp [spl, spl_length cs n vs]
  | c :: cs, 0, [] => rfl
  | c :: cs, 0, v :: vs => by simp [spl, spl_length cs 0 vs]

theorem spl_eq : ∀ (cs : List Value) (n : Nat) (vs : List Value), n + vs.length ≤ cs.length → spl cs n vs = cs.take n ++ vs ++ cs.drop (n + vs.length)
  | [], n, vs, h => by
    have h1 : n = 0 := by simp at h; omega
    have h2 : vs = [] := by simp at h; exact h.2
    subst h1; subst h2; rfl
  | c :: cs, n + 1, vs, h => by
    have := spl_eq cs n vs (by simp at h; omega)
    rw [show n + 1 + vs.length = (n + vs.length) + 1 by omega]
    simp [spl, this]
  | c :: cs, 0, [], _ => rfl
  | c :: cs, 0, v :: vs, h => by
    have := spl_eq cs 0 vs (by simp at h ⊢; omega)
    simp only [List.take_zero, List.nil_append, Nat.zero_add] at this
    simp [spl, this]

/-- One of one's own things turns into another, in the same blocks. -/
inductive Upd : List It → It → It → List It → Prop
  | here {x x' : It} {H : List It} : Upd (x :: H) x x' (x' :: H)
  | there {x x' y : It} {H H' : List It} (h : Upd H x x' H') : Upd (y :: H) x x' (y :: H')

theorem Upd.mem {H H' : List It} {x x' : It} (h : Upd H x x' H') : x ∈ H := by
  induction h with
  | here => simp
  | there h ih => simp [ih]
theorem Upd.bss {H H' : List It} {x x' : It} (h : Upd H x x' H') (hb : x'.bs = x.bs) : bss H' = bss H := by
  induction h with
  | here => simp [hb]
  | there h ih => simp [ih hb]
/-- The others are as they were. -/
theorem Upd.A {H H' : List It} {x x' : It} (h : Upd H x x' H') {w w' : World} (hA : ∀ y ∈ H, y.A w) (hk : Keeps x.bs w w') (hnd : (PK.bss H).Nodup) (hx : x'.A w') : ∀ y ∈ H', y.A w' := by
  induction h with
  | here =>
    intro y hy
    rename_i H
    rcases List.mem_cons.1 hy with rfl | hy
    · exact hx
    · refine It.grow (hA y (by simp [hy])) hk fun b hb hbx => ?_
      rw [bss_cons, List.nodup_append] at hnd
      exact hnd.2.2 b hbx b (mem_bss.2 ⟨y, hy, hb⟩) rfl
  | there h ih =>
    rename_i z H H'
    rw [bss_cons, List.nodup_append] at hnd
    intro y hy
    rcases List.mem_cons.1 hy with rfl | hy
    · refine It.grow (hA y (by simp)) hk fun b hb hbx => ?_
      exact hnd.2.2 b hb b (mem_bss.2 ⟨_, h.mem, hbx⟩) rfl
    · exact ih (fun y hy => hA y (by simp [hy])) hk hnd.2.1 hx y hy

theorem Cls.upd {H' : List It} {x x' : It} {w w' : World} (h : Cls w0 S I H w) (hu : Upd H x x' H') (hk : Keeps x.bs w w') (hb : x'.bs = x.bs) (hx : x'.A w') : Cls w0 S I H' w' := by
  have hin : ∀ b ∈ x.bs, b ∈ bss H := fun b hb => mem_bss.2 ⟨x, hu.mem, hb⟩
  refine ⟨⟨hk.os.trans h.k.os, hk.tape.trans h.k.tape, hk.output.trans h.k.output, Nat.le_trans h.k.size hk.size, fun b hlt hbS => ?_, Nat.le_trans h.k.drawn hk.drawn⟩, ⟨fun y hy => ?_, hu.A h.s.h hk h.s.nd hx, ?_, ?_⟩, ?_⟩
  · rw [hk.block b (Nat.lt_of_lt_of_le hlt h.k.size) (fun hbx => hbS (h.own b (hin b hbx) hlt)), h.k.block b hlt hbS]
  · exact It.grow (h.s.i y hy) hk fun b hb' hbx => h.s.dj b (mem_bss.2 ⟨y, hy, hb'⟩) (hin b hbx)
  · rw [hu.bss hb]; exact h.s.nd
  · rw [hu.bss hb]; exact h.s.dj
  · rw [hu.bss hb]; exact h.own

/-- An operation without a result that turns one of one's own things. -/
theorem RL.turn0 {o : Oper} {H' : List It} {x x' : It} (ho : nth L i = some o) (hw : wants L E o = true) (hi : ef.contains i = true) (hb : bk.contains i = true) (hd : o.dst = none) (hu : Upd H x x' H') (hbs : x'.bs = x.bs)
    (hv : ∀ a w, Ag N a E → Cls w0 S I H w → ∃ w', (execOp a.eval o).run P w = .ok .skip w' ∧ Keeps x.bs w w' ∧ x'.A w') (h : RL P L ef bk tq Q l N E w0 S I H') : RL P L ef bk tq Q (.cons i l) N E w0 S I H := by
  refine RL.eff0 ho hw hi hd (fun a w ha hC => ?_)
  obtain ⟨w', h1, h2, h3⟩ := hv a w ha hC
  unfold does
  rw [h1]
  exact ⟨I, H', hC.upd hu h2 hbs h3, fun _ h => h, fun h => (by rw [hb] at h; cases h), h⟩

theorem Keeps.setRow {w : World} {b : Nat} {cs : Array Value} : Keeps [b] w (w.setRow b cs) :=
  ⟨rfl, rfl, rfl, by simp, fun c _ hn => setRow_other w b c cs (by simpa using hn), Nat.le_refl _⟩

theorem cells_one {v : Value} (h : v.oneCell' = true) : v.cells = #[v] := by cases v <;> simp_all [Value.oneCell', Value.cells]

def ones : List Value → Bool
  | [] => true
  | u :: r => u.oneCell' && ones r
theorem ones_spec : ∀ {l : List Value}, ones l = true → ∀ u ∈ l, u.oneCell' = true
  | [], _, u, h => by cases h
  | v :: r, ho, u, h => by
    simp only [ones, Bool.and_eq_true] at ho
    rcases List.mem_cons.1 h with rfl | h
    · exact ho.1
    · exact ones_spec ho.2 u h

theorem RL.store {b off : Nat} {cs vs : List Value} {T : TypeId} {H' : List It} (hs : ∀ w, (sizeOf t).run P w = .ok vs.length w) (ho : nth L i = some ⟨none, .store t x y, ty, pos, af, g⟩) (hw : wants L E ⟨none, .store t x y, ty, pos, af, g⟩ = true)
    (hi : ef.contains i = true) (hb : bk.contains i = true) (hx : E.ev x = some (.pointer (some ⟨b, off, none⟩))) (hy : E.ev y = some v) (hc : v.cells = vs.toArray) (h1 : ones vs = true) (hl : Nat.ble (off + vs.length) cs.length = true)
    (hu : Upd H (cel b cs T) (cel b (spl cs off vs) T) H') (h : RL P L ef bk tq Q l N E w0 S I H') : RL P L ef bk tq Q (.cons i l) N E w0 S I H :=
  RL.turn0 ho hw hi hb rfl hu rfl (fun a w ha hC => by
    have hA : w.heap[b]? = some (.cells cs.toArray T (0, 0)) := hC.s.h _ hu.mem
    have hl : off + vs.length ≤ cs.length := by simpa using hl
    have hst := run_storeCells_at P b off T vs 0 cs.toArray w hA (by simpa using hl) (ones_spec h1)
    refine ⟨w.setRow b (spl cs off vs).toArray, ?_, Keeps.setRow, setRow_heap w b _ _ T _ hA⟩
    simp only [Nat.add_zero] at hst
    rw [spl_eq cs off vs hl]
    simp [execOp, ha.ev hx, ha.ev hy, Instr.storeAt, Instr.sureAddr, storeVar, hs, hc, hst]) h

end
end Go.PK
