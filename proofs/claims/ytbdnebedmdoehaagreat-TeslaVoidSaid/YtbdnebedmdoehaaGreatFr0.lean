import Derived.Test.YtbdnebedmdoehaaGreatOwnN
namespace Go.Proofs.YtbdnebedmdoehaaGreat
open Go.PK

/-- A frame. -/
structure Fr where
  kd : Int
  sr : Int
  ep : Nat
  ct : Nat
  b : List B8
  tag : List B8
def Fr.cells (f : Fr) (sl : Value) : List Value := .int .i64 f.kd :: .int .i64 f.sr :: .int .u32 (f.ep : Int) :: .int .u64 (f.ct : Int) :: sl :: bytes f.tag
structure Fr.Ok (f : Fr) : Prop where
  ep : f.ep < 4294967296
  ct : f.ct < 18446744073709551616
  tag : f.tag.length = 16
theorem fr_len {f : Fr} (h : f.tag.length = 16) (sl : Value) : (f.cells sl).length = 21 := by simp [Fr.cells, h]
theorem fr_tag (f : Fr) (sl : Value) : ∀ (j : Nat) (u : Value), (bytes f.tag)[j]? = some u → (f.cells sl)[0 + 5 + j]? = some u := fun j u hj => by
  rw [show 0 + 5 + j = j + 1 + 1 + 1 + 1 + 1 by omega]; exact hj
theorem ones_fr (f : Fr) {sl : Value} (hs : sl.oneCell' = true) : ones (f.cells sl) = true := by
  have h : ones (bytes f.tag) = true := ones_map one8 _
  have e : ones (f.cells sl) = (true && (true && (true && (true && (sl.oneCell' && ones (bytes f.tag)))))) := rfl
  rw [e, hs, h]; rfl
def FewR (f : Fr) (n : Nat) : Value → List It → List It → Prop := fun v I' H' => ∃ ob cap, v = .agg (f.cells (slO ob n cap)).toArray ∧ I' = [] ∧ H' = [own ob cap 5 1 n (bytes f.b)] ∧ True
/-- A frame that came in. -/
structure FrA where
  f : Fr
  p : Option Addr
  c : Nat
abbrev FrA.sl (x : FrA) : Value := .slice x.p x.f.b.length x.c
structure FrA.Ok (x : FrA) : Prop where
  f : x.f.Ok
  c : x.f.b.length ≤ x.c
  b : x.f.b.length ≤ maxLen
end Go.Proofs.YtbdnebedmdoehaaGreat
