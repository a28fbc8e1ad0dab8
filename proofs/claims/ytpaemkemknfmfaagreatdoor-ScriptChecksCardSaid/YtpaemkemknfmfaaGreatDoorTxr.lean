import Derived.Test.YtpaemkemknfmfaaGreatDoorGX
import Derived.Test.YtpaemkemknfmfaaGreatDoorPD
set_option linter.unusedVariables false
set_option linter.unusedSimpArgs false
namespace Go.Proofs.YtpaemkemknfmfaaGreatDoor
open Go.PK
section
variable {P : Program} {L : List Oper} {ef bk : List Nat} {tq : Tq} {Q : Exit → Act → World → Prop} {N : Fm} {E : Env} {w0 : World} {S : List Nat} {I H : List It} {i : Nat} {l : Sq}
variable {d : Nat} {x y : Operand} {ty t : TypeId} {pos : String} {af : Array Edge} {g : Option (Nat × Bool)} {k : IntKind} {n : Int}
theorem RL.idxTxt {s : List B8} {j : Nat} {c : B8} (hu : ∀ w, (underlying t).run P w = .ok .string w) (ho : nth L i = some ⟨some d, .index t x y, ty, pos, af, g⟩) (hw : wants L E ⟨some d, .index t x y, ty, pos, af, g⟩ = true) (hN : Nat.blt d N.n = true)
    (hx : E.ev x = some (.string (txt s))) (hy : E.ev y = some (.int k n)) (hj : n = (j : Int)) (hc : s[j]? = some c) (h : RL P L ef bk tq Q l N ((d, U8 c) :: E) w0 S I H) : RL P L ef bk tq Q (.cons i l) N E w0 S I H := by
  obtain ⟨hl, e⟩ := List.getElem?_eq_some_iff.1 hc
  have hlt : j < (txt s).size := by rw [txt_size]; exact hl
  exact RL.indexStr hu ho hw hN hx hy hj hlt (by
    have h1 := txt_get s j hlt
    rw [e] at h1
    rw [h1]; exact h)
end
end Go.Proofs.YtpaemkemknfmfaaGreatDoor
