/-
  PK, part R: a map that is nil, gone over; sorting.
-/
import Derived.Test.YtggmnhogmjglmaaPkQ
namespace Go.PK
section
variable {P : Program} {L : List Oper} {ef bk : List Nat} {tq : Tq} {Q : Exit → Act → World → Prop} {N : Nat} {E : Env} {w0 : World} {S : List Nat} {I H : List It} {i : Nat} {l : Sq}
variable {d : Nat} {x y z : Operand} {v : Value} {ty t yt : TypeId} {pos : String} {af : Array Edge} {g : Option (Nat × Bool)}
theorem blk_new {w : World} {o : Obj} : (blk w.heap.size o).A (w.alloc o) := heap_alloc_same w _
theorem RL.rangeNil {kt et : TypeId} (hu : ∀ w, (underlying t).run P w = .ok (.map kt et) w)
    (ho : nth L i = some ⟨some d, .range t x, ty, pos, af, g⟩) (hw : wants L E ⟨some d, .range t x, ty, pos, af, g⟩ = true) (hN : Nat.blt d N = true) (hi : ef.contains i = true)
    (hx : E.ev x = some (.map none)) (h : ∀ it, RL P L ef bk tq Q l N ((d, .pointer (some ⟨it, 0, none⟩)) :: E) w0 S I (blk it (.mapIter none 0 #[] 0) :: H)) : RL P L ef bk tq Q (.cons i l) N E w0 S I H :=
  RL.make (x := fun b => blk b (.mapIter none 0 #[] 0)) (u := fun b => .pointer (some ⟨b, 0, none⟩)) ho hw hi rfl hN (fun a w ha _ => ⟨w.alloc (.mapIter none 0 #[] 0), by
    simp [execOp, ha.ev hx, Instr.range, hu], Keeps.alloc _ _ _, blk_new, rfl⟩) h
theorem RL.nextNil {it : Nat} (ho : nth L i = some ⟨some d, .next x false, ty, pos, af, g⟩) (hw : wants L E ⟨some d, .next x false, ty, pos, af, g⟩ = true) (hN : Nat.blt d N = true)
    (hx : E.ev x = some (.pointer (some ⟨it, 0, none⟩))) (hm : blk it (.mapIter none 0 #[] 0) ∈ H)
    (h : RL P L ef bk tq Q l N ((d, .tuple #[.bool false]) :: E) w0 S I H) (ht : tq.l.contains i = false := by rfl) : RL P L ef bk tq Q (.cons i l) N E w0 S I H :=
  RL.val ho hw rfl hN (fun a w ha hC => by
    have hA : w.heap[it]? = some (.mapIter none 0 #[] 0) := hC.s.h _ hm
    have hgi : (getObj it).run P w = .ok (.mapIter none 0 #[] 0) w := by simp [getObj, Sem.run, hA]
    simp [execOp, ha.ev hx, Instr.next, hgi]) h rfl ht
end
end Go.PK
