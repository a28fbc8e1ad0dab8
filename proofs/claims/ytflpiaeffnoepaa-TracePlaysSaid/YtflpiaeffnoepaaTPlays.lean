import Derived.Test.YtflpiaeffnoepaaT12
import Derived.Test.YtflpiaeffnoepaaTRd
namespace Go.Proofs.Ytflpiaeffnoepaa
open Go.PK
theorem tracePlays_call (W : World) (z : Int) (x : Sl Ent) (last : Int) (_ : rInt.ok z) (hx : rEnts.ok x) (_ : rInt.ok last) (_ : ∀ y ∈ rInt.its z, y.A W) (tx : ∀ y ∈ rEnts.its x, y.A W) (_ : ∀ y ∈ rInt.its last, y.A W) :
    Calls Try.prog 6 #[rInt.val z, rEnts.val x, rInt.val last] W (fun e w' => e = .returned (.bool true) ∧ RowKit.Below W.heap.size W w') := by
  have ht : ∀ y ∈ [sls x.p 4 x.l.length (entsV x.l)], y.A W := fun y hy => by rw [List.mem_singleton.1 hy]; exact tx _ (List.Mem.head _)
  by_cases hz : z < 1 ∨ z > 4096
  · exact (plays_no z last x.p x.l.length x.c x.l hz).lawI ht
  · obtain ⟨m, rfl⟩ : ∃ m : Nat, z = (m : Int) := ⟨z.toNat, by omega⟩
    exact (plays_yes m last x.p x.c x.l (by omega) (by omega) hx.1).lawI ht
end Go.Proofs.Ytflpiaeffnoepaa
