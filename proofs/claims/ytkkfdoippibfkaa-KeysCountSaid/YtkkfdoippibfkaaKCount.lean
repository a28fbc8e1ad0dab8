import Derived.Test.YtkkfdoippibfkaaK22
namespace Go.Proofs.Ytkkfdoippibfkaa
open Go.PK
theorem keysCount_call (W : World) (x : Sl Act16) (source tick later : Int) (hx : rActs16.ok x) (_ : rInt.ok source) (_ : rInt.ok tick) (_ : rInt.ok later) (tx : ∀ y ∈ rActs16.its x, y.A W) (_ : ∀ y ∈ rInt.its source, y.A W) (_ : ∀ y ∈ rInt.its tick, y.A W) (_ : ∀ y ∈ rInt.its later, y.A W) :
    Calls Try.prog 3 #[rActs16.val x, rInt.val source, rInt.val tick, rInt.val later] W (fun e w' => e = .returned (.bool true) ∧ RowKit.Below W.heap.size W w') := by
  have ht : ∀ y ∈ [sls x.p 38 x.l.length (x.l.flatMap Act16.cells)], y.A W := fun y hy => by rw [List.mem_singleton.1 hy]; exact tx _ (List.Mem.head _)
  exact (kcount x.p x.c x.l source tick later hx.2.2.2 hx.1).lawI ht
end Go.Proofs.Ytkkfdoippibfkaa
