/-
  No cell of these rows narrows 'for every input' (looked for: loops, veiled, ifaces, maps, wideKeys, modest, calm, conditions, laid).
  DERIVED. THE GIVEN ROWS OF THIS SEAT. 3 by the template 'for every input the law returns true; each argument reads behind the call as it read before'; 0 by the template 'total and deterministic' (their statements: YtkkfdoippibfkaaGreatTotals.lean).
  GIVEN WITH THE SEED: the statements are not yours to turn. If you find one false, say at which input.
  Laid BY PROGRAM, IN A SANDBOX (cutbox-rows.mjs): the forced cells as the released guide's own fill.sh prints them over the translation 5974e11356e21e20… (all of the seat's roots in one cut). By AI agents, Wed Nov 11 2026. No macro, syntax, notation, axiom, sorry.
-/
import Derived.Test.YtkkfdoippibfkaaGreatChecked
import GoSem.Claim
import GoSem.ClaimJoined
import GoSem.ClaimMapViews
import Derived.JoinedTies
import Derived.KernelRfl
namespace Go.Proofs.YtkkfdoippibfkaaGreat
/- THE CELL 'sum', in the pinned program and in every row, IS THE sha256 OF THE DUMP (.gsa) THAT YtkkfdoippibfkaaGreatProg.lean LOADS. Nothing in Lean hashes anything: it is a label: what it is worth is what the hold of that sum in a sandbox is worth. -/
noncomputable def Tryz.pinned : Pinned := { name := "ytkkfdoippibfkaagreat", sum := "5974e11356e21e20688b26b678fe44a697ca8584e3f6e71bc380c5f018a4910b", checked := Tryz.checked }
namespace Rows
def none {H : Type} : Left H := { results := [], args := [] }

/-- 'peloruslaw19.AuthRefuses': WHATEVER THE INPUT: true; the input reads as it did. -/
def authRefusesSpec : ChangeSpec := { name := "authRefuses", fn := fun _ => fun
  | [d1, d2, d3] => { results := [.lit (.bool true)], args := [d1, d2, d3] }
  | _ => none }
def authRefusesRow : OpenClaim := { program := "ytkkfdoippibfkaagreat", sum := "5974e11356e21e20688b26b678fe44a697ca8584e3f6e71bc380c5f018a4910b", func := "pelorus/peloruslaw19.AuthRefuses", spec := "authRefuses", unfollowed := true, recurses := true, plainKeys := false, apart := false }
def AuthRefusesSaid : Prop := authRefusesRow.holds Tryz.pinned (OpenSpec.ofChange authRefusesSpec)

/-- ITS FALSE NEIGHBOUR: 'it returns false'. Refute it at one input. -/
def authRefusesWrong : ChangeSpec := { name := "authRefuses", fn := fun _ => fun
  | [d1, d2, d3] => { results := [.lit (.bool false)], args := [d1, d2, d3] }
  | _ => none }
def AuthRefusesWrongFalsely : Prop := authRefusesRow.holds Tryz.pinned (OpenSpec.ofChange authRefusesWrong)

/-- 'peloruslaw19.AuthTakes': WHATEVER THE INPUT: true; the input reads as it did. -/
def authTakesSpec : ChangeSpec := { name := "authTakes", fn := fun _ => fun
  | [d1, d2, d3, d4, d5, d6, d7] => { results := [.lit (.bool true)], args := [d1, d2, d3, d4, d5, d6, d7] }
  | _ => none }
def authTakesRow : OpenClaim := { program := "ytkkfdoippibfkaagreat", sum := "5974e11356e21e20688b26b678fe44a697ca8584e3f6e71bc380c5f018a4910b", func := "pelorus/peloruslaw19.AuthTakes", spec := "authTakes", unfollowed := true, recurses := true, plainKeys := false, apart := false }
def AuthTakesSaid : Prop := authTakesRow.holds Tryz.pinned (OpenSpec.ofChange authTakesSpec)

/-- ITS FALSE NEIGHBOUR: 'it returns false'. Refute it at one input. -/
def authTakesWrong : ChangeSpec := { name := "authTakes", fn := fun _ => fun
  | [d1, d2, d3, d4, d5, d6, d7] => { results := [.lit (.bool false)], args := [d1, d2, d3, d4, d5, d6, d7] }
  | _ => none }
def AuthTakesWrongFalsely : Prop := authTakesRow.holds Tryz.pinned (OpenSpec.ofChange authTakesWrong)

/-- 'peloruslaw19.AuthPlays': WHATEVER THE INPUT: true; the input reads as it did. -/
def authPlaysSpec : ChangeSpec := { name := "authPlays", fn := fun _ => fun
  | [d1, d2, d3] => { results := [.lit (.bool true)], args := [d1, d2, d3] }
  | _ => none }
def authPlaysRow : OpenClaim := { program := "ytkkfdoippibfkaagreat", sum := "5974e11356e21e20688b26b678fe44a697ca8584e3f6e71bc380c5f018a4910b", func := "pelorus/peloruslaw19.AuthPlays", spec := "authPlays", unfollowed := true, recurses := true, plainKeys := false, apart := false }
def AuthPlaysSaid : Prop := authPlaysRow.holds Tryz.pinned (OpenSpec.ofChange authPlaysSpec)

/-- ITS FALSE NEIGHBOUR: 'it returns false'. Refute it at one input. -/
def authPlaysWrong : ChangeSpec := { name := "authPlays", fn := fun _ => fun
  | [d1, d2, d3] => { results := [.lit (.bool false)], args := [d1, d2, d3] }
  | _ => none }
def AuthPlaysWrongFalsely : Prop := authPlaysRow.holds Tryz.pinned (OpenSpec.ofChange authPlaysWrong)

/- THE SECOND FORM. 'bulk': how many values and letters a reading holds, each counted each time it is reached (what is shared counts as often as it is met; a slice's spare places count too). A statement '..UptoSaid' is the law's where the arguments, and the package variables that the reading takes, are together of bulk at most 1048576: NARROWER than '..Said'. Prove '..Said' where nothing that the law and all that it calls make is longer than what came in: it says more and counts as full. Else prove '..UptoSaid'. A law counts once. -/
mutual
def uptoBulk {H : Type} : DataW H → Nat
  | .lit (.string bytes) => bytes.length + 1
  | .lit _ => 1
  | .nil => 1
  | .ptr d => uptoBulk d + 1
  | .slice elems spare => uptoBulkAll elems + uptoBulkAll spare + 1
  | .agg parts => uptoBulkAll parts + 1
  | .iface _ d => uptoBulk d + 1
  | .map entries => uptoBulkEntries entries + 1
  | .held _ => 1
def uptoBulkAll {H : Type} : List (DataW H) → Nat
  | [] => 0
  | d :: r => uptoBulk d + uptoBulkAll r
def uptoBulkEntries {H : Type} : List (Lit × DataW H) → Nat
  | [] => 0
  | x :: r => uptoBulkEntry x + uptoBulkEntries r
def uptoBulkEntry {H : Type} : Lit × DataW H → Nat
  | (.string bytes, d) => bytes.length + uptoBulk d + 1
  | (_, d) => uptoBulk d + 1
 end
def uptoSmall : (H : Type) → List (DataW H) → Bool := fun _ ds => decide (uptoBulkAll ds ≤ 1048576)
def OpenSpec.upto (s : _root_.Go.ChangeSpec) : _root_.Go.OpenSpec := { _root_.Go.OpenSpec.ofChange s with cond := some uptoSmall }

/-- 'peloruslaw19.AuthRefuses', WHERE WHAT IT READS IS OF BULK AT MOST 1048576: true; the input reads as it did. -/
def authRefusesUptoRow : OpenClaim := { program := "ytkkfdoippibfkaagreat", sum := "5974e11356e21e20688b26b678fe44a697ca8584e3f6e71bc380c5f018a4910b", func := "pelorus/peloruslaw19.AuthRefuses", spec := "authRefuses", unfollowed := true, recurses := true, plainKeys := false, apart := false, narrowed := true }
def AuthRefusesUptoSaid : Prop := authRefusesUptoRow.holds Tryz.pinned (OpenSpec.upto authRefusesSpec)

/-- 'peloruslaw19.AuthTakes', WHERE WHAT IT READS IS OF BULK AT MOST 1048576: true; the input reads as it did. -/
def authTakesUptoRow : OpenClaim := { program := "ytkkfdoippibfkaagreat", sum := "5974e11356e21e20688b26b678fe44a697ca8584e3f6e71bc380c5f018a4910b", func := "pelorus/peloruslaw19.AuthTakes", spec := "authTakes", unfollowed := true, recurses := true, plainKeys := false, apart := false, narrowed := true }
def AuthTakesUptoSaid : Prop := authTakesUptoRow.holds Tryz.pinned (OpenSpec.upto authTakesSpec)

/-- 'peloruslaw19.AuthPlays', WHERE WHAT IT READS IS OF BULK AT MOST 1048576: true; the input reads as it did. -/
def authPlaysUptoRow : OpenClaim := { program := "ytkkfdoippibfkaagreat", sum := "5974e11356e21e20688b26b678fe44a697ca8584e3f6e71bc380c5f018a4910b", func := "pelorus/peloruslaw19.AuthPlays", spec := "authPlays", unfollowed := true, recurses := true, plainKeys := false, apart := false, narrowed := true }
def AuthPlaysUptoSaid : Prop := authPlaysUptoRow.holds Tryz.pinned (OpenSpec.upto authPlaysSpec)

end Rows
end Go.Proofs.YtkkfdoippibfkaaGreat
