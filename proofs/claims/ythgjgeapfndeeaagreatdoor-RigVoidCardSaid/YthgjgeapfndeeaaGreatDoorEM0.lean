/-
  EM, part 0: words by which states are written down (rig/lit.py).
-/
import Derived.Test.YthgjgeapfndeeaaGreatDoorEX5
set_option linter.unusedVariables false
set_option linter.unusedSimpArgs false
namespace Go.PK
abbrev ni64 (n : Int) : AV := .val (.int .i64 n)
abbrev nu64 (n : Int) : AV := .val (.int .u64 n)
abbrev nu32 (n : Int) : AV := .val (.int .u32 n)
abbrev nu8 (n : Int) : AV := .val (.int .u8 n)
abbrev bt : AV := .val (.bool true)
abbrev bf : AV := .val (.bool false)
abbrev pn : AV := .val (.pointer none)
abbrev zs : AV := .val (.slice none 0 0)
abbrev zi : AV := .val .nilIface
def st (l : List UInt8) : AV := .val (.string ⟨⟨l⟩⟩)
def b8 (l : List Nat) : List AV := l.map fun n => .val (.int .u8 (.ofNat n))
def rp (n : Nat) (v : AV) : List AV := List.replicate n v
noncomputable def litE (l : List (Nat × AV)) : EnvT := List.rec (motive := fun _ => EnvT) EnvT.nil (fun x _ ih => (EnvT.sE x.1).f x.2 ih) l
noncomputable def litH (l : List (Nat × Blk)) : Heap := List.rec (motive := fun _ => Heap) .e (fun x _ ih => Option.rec (motive := fun _ => Heap) .e (fun h => h) (ih.set x.2 x.1)) l
noncomputable def lit (e : List (Nat × AV)) (h : List (Nat × Blk)) (n : Nat) : St := ⟨litE e, litH h, n⟩
end Go.PK
