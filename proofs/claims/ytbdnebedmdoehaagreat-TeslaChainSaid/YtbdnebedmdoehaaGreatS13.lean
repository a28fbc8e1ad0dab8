import Derived.Test.YtbdnebedmdoehaaGreatSC
namespace Go.Proofs.YtbdnebedmdoehaaGreat
open Go.PK
inductive RaiseO (z : RSt) (iv : Nat) (key : List B8) : Int → RSt → Prop
  | no (h : iv ≤ z.iv) : RaiseO z iv key 6 z
  | yes {T c' : Bq} (h : ¬ iv ≤ z.iv) (hT : TakeO z.c iv T c') : RaiseO z iv key 0 ⟨iv, key, z.bad + T.length, z.rel, c', z.m⟩
end Go.Proofs.YtbdnebedmdoehaaGreat
