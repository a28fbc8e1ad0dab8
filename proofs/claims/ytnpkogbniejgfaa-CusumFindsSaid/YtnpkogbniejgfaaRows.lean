/-
  No cell of these rows narrows 'for every input' (looked for: loops, veiled, ifaces, maps, wideKeys, modest, calm, conditions, laid).
  DERIVED. THE GIVEN ROWS OF THIS SEAT. 4 by the template 'for every input the law returns true; each argument reads behind the call as it read before'; 0 by the template 'total and deterministic' (their statements: YtnpkogbniejgfaaTotals.lean).
  GIVEN WITH THE SEED: the statements are not yours to turn. If you find one false, say at which input.
  Laid BY PROGRAM, IN A SANDBOX (cutbox-rows.mjs): the forced cells as the released guide's own fill.sh prints them over the translation 4da56c58a1fe6b62… (all of the seat's roots in one cut). By AI agents, Wed Nov 11 2026. No macro, syntax, notation, axiom, sorry.
-/
import Derived.Test.YtnpkogbniejgfaaChecked
import GoSem.Claim
import GoSem.ClaimJoined
import GoSem.ClaimMapViews
import Derived.JoinedTies
import Derived.KernelRfl
namespace Go.Proofs.Ytnpkogbniejgfaa
/- THE CELL 'sum', in the pinned program and in every row, IS THE sha256 OF THE DUMP (.gsa) THAT YtnpkogbniejgfaaProg.lean LOADS. Nothing in Lean hashes anything: it is a label: what it is worth is what the hold of that sum in a sandbox is worth. -/
noncomputable def Try.pinned : Pinned := { name := "ytnpkogbniejgfaa", sum := "4da56c58a1fe6b62c3e7f2a6efc6f9a969abadddbbd985bbde07bdd89f296173", checked := Try.checked }
namespace Rows
def none {H : Type} : Left H := { results := [], args := [] }

/-- 'peloruslaw23.CusumSlack': WHATEVER THE INPUT: true; the input reads as it did. -/
def cusumSlackSpec : ChangeSpec := { name := "cusumSlack", fn := fun _ => fun
  | [d1, d2, d3] => { results := [.lit (.bool true)], args := [d1, d2, d3] }
  | _ => none }
def cusumSlackRow : OpenClaim := { program := "ytnpkogbniejgfaa", sum := "4da56c58a1fe6b62c3e7f2a6efc6f9a969abadddbbd985bbde07bdd89f296173", func := "pelorus/peloruslaw23.CusumSlack", spec := "cusumSlack", plainKeys := false, apart := false }
def CusumSlackSaid : Prop := cusumSlackRow.holds Try.pinned (OpenSpec.ofChange cusumSlackSpec)

/-- ITS FALSE NEIGHBOUR: 'it returns false'. Refute it at one input. -/
def cusumSlackWrong : ChangeSpec := { name := "cusumSlack", fn := fun _ => fun
  | [d1, d2, d3] => { results := [.lit (.bool false)], args := [d1, d2, d3] }
  | _ => none }
def CusumSlackWrongFalsely : Prop := cusumSlackRow.holds Try.pinned (OpenSpec.ofChange cusumSlackWrong)

/-- 'peloruslaw23.CusumFinds': WHATEVER THE INPUT: true; the input reads as it did. -/
def cusumFindsSpec : ChangeSpec := { name := "cusumFinds", fn := fun _ => fun
  | [d1, d2, d3] => { results := [.lit (.bool true)], args := [d1, d2, d3] }
  | _ => none }
def cusumFindsRow : OpenClaim := { program := "ytnpkogbniejgfaa", sum := "4da56c58a1fe6b62c3e7f2a6efc6f9a969abadddbbd985bbde07bdd89f296173", func := "pelorus/peloruslaw23.CusumFinds", spec := "cusumFinds", plainKeys := false, apart := false }
def CusumFindsSaid : Prop := cusumFindsRow.holds Try.pinned (OpenSpec.ofChange cusumFindsSpec)

/-- ITS FALSE NEIGHBOUR: 'it returns false'. Refute it at one input. -/
def cusumFindsWrong : ChangeSpec := { name := "cusumFinds", fn := fun _ => fun
  | [d1, d2, d3] => { results := [.lit (.bool false)], args := [d1, d2, d3] }
  | _ => none }
def CusumFindsWrongFalsely : Prop := cusumFindsRow.holds Try.pinned (OpenSpec.ofChange cusumFindsWrong)

/-- 'peloruslaw23.CusumPlays': WHATEVER THE INPUT: true; the input reads as it did. -/
def cusumPlaysSpec : ChangeSpec := { name := "cusumPlays", fn := fun _ => fun
  | [d1, d2, d3] => { results := [.lit (.bool true)], args := [d1, d2, d3] }
  | _ => none }
def cusumPlaysRow : OpenClaim := { program := "ytnpkogbniejgfaa", sum := "4da56c58a1fe6b62c3e7f2a6efc6f9a969abadddbbd985bbde07bdd89f296173", func := "pelorus/peloruslaw23.CusumPlays", spec := "cusumPlays", unfollowed := true, recurses := true, plainKeys := false, apart := false }
def CusumPlaysSaid : Prop := cusumPlaysRow.holds Try.pinned (OpenSpec.ofChange cusumPlaysSpec)

/-- ITS FALSE NEIGHBOUR: 'it returns false'. Refute it at one input. -/
def cusumPlaysWrong : ChangeSpec := { name := "cusumPlays", fn := fun _ => fun
  | [d1, d2, d3] => { results := [.lit (.bool false)], args := [d1, d2, d3] }
  | _ => none }
def CusumPlaysWrongFalsely : Prop := cusumPlaysRow.holds Try.pinned (OpenSpec.ofChange cusumPlaysWrong)

/-- 'peloruslaw23.CusumVoid': WHATEVER THE INPUT: true; the input reads as it did. -/
def cusumVoidSpec : ChangeSpec := { name := "cusumVoid", fn := fun _ => fun
  | [d1, d2] => { results := [.lit (.bool true)], args := [d1, d2] }
  | _ => none }
def cusumVoidRow : OpenClaim := { program := "ytnpkogbniejgfaa", sum := "4da56c58a1fe6b62c3e7f2a6efc6f9a969abadddbbd985bbde07bdd89f296173", func := "pelorus/peloruslaw23.CusumVoid", spec := "cusumVoid", unfollowed := true, recurses := true, plainKeys := false, apart := false }
def CusumVoidSaid : Prop := cusumVoidRow.holds Try.pinned (OpenSpec.ofChange cusumVoidSpec)

/-- ITS FALSE NEIGHBOUR: 'it returns false'. Refute it at one input. -/
def cusumVoidWrong : ChangeSpec := { name := "cusumVoid", fn := fun _ => fun
  | [d1, d2] => { results := [.lit (.bool false)], args := [d1, d2] }
  | _ => none }
def CusumVoidWrongFalsely : Prop := cusumVoidRow.holds Try.pinned (OpenSpec.ofChange cusumVoidWrong)

/- THE SECOND FORM. 'bulk': how many values and letters a reading holds, each counted each time it is reached (what is shared counts as often as it is met; a slice's spare places count too). A statement '..UptoSaid' is the law's where the arguments, and the package variables that the reading takes, are together of bulk at most 1048576: NARROWER than '..Said'. Prove '..Said' where nothing that the law and all that it calls make is longer than what came in: it says more and counts as full. Else prove '..UptoSaid'. A law counts once. -/
mutual
def uptoBulk {H : Type} : DataW H → Nat
  | .lit (.string bytes) => bytes.length + 1
  | .lit _ => 1
  | .nil => 1
  | .ptr d => uptoBulk d + 1
  | .slice elems spare => uptoBulkAll elems + uptoBulkAll spare + 1
  | .agg parts => uptoBulkAll parts + 1
  | .iface _ d => uptoBulk d + 1
  | .map entries => uptoBulkEntries entries + 1
  | .held _ => 1
def uptoBulkAll {H : Type} : List (DataW H) → Nat
  | [] => 0
  | d :: r => uptoBulk d + uptoBulkAll r
def uptoBulkEntries {H : Type} : List (Lit × DataW H) → Nat
  | [] => 0
  | x :: r => uptoBulkEntry x + uptoBulkEntries r
def uptoBulkEntry {H : Type} : Lit × DataW H → Nat
  | (.string bytes, d) => bytes.length + uptoBulk d + 1
  | (_, d) => uptoBulk d + 1
 end
def uptoSmall : (H : Type) → List (DataW H) → Bool := fun _ ds => decide (uptoBulkAll ds ≤ 1048576)
def OpenSpec.upto (s : _root_.Go.ChangeSpec) : _root_.Go.OpenSpec := { _root_.Go.OpenSpec.ofChange s with cond := some uptoSmall }

/-- 'peloruslaw23.CusumSlack', WHERE WHAT IT READS IS OF BULK AT MOST 1048576: true; the input reads as it did. -/
def cusumSlackUptoRow : OpenClaim := { program := "ytnpkogbniejgfaa", sum := "4da56c58a1fe6b62c3e7f2a6efc6f9a969abadddbbd985bbde07bdd89f296173", func := "pelorus/peloruslaw23.CusumSlack", spec := "cusumSlack", plainKeys := false, apart := false, narrowed := true }
def CusumSlackUptoSaid : Prop := cusumSlackUptoRow.holds Try.pinned (OpenSpec.upto cusumSlackSpec)

/-- 'peloruslaw23.CusumFinds', WHERE WHAT IT READS IS OF BULK AT MOST 1048576: true; the input reads as it did. -/
def cusumFindsUptoRow : OpenClaim := { program := "ytnpkogbniejgfaa", sum := "4da56c58a1fe6b62c3e7f2a6efc6f9a969abadddbbd985bbde07bdd89f296173", func := "pelorus/peloruslaw23.CusumFinds", spec := "cusumFinds", plainKeys := false, apart := false, narrowed := true }
def CusumFindsUptoSaid : Prop := cusumFindsUptoRow.holds Try.pinned (OpenSpec.upto cusumFindsSpec)

/-- 'peloruslaw23.CusumPlays', WHERE WHAT IT READS IS OF BULK AT MOST 1048576: true; the input reads as it did. -/
def cusumPlaysUptoRow : OpenClaim := { program := "ytnpkogbniejgfaa", sum := "4da56c58a1fe6b62c3e7f2a6efc6f9a969abadddbbd985bbde07bdd89f296173", func := "pelorus/peloruslaw23.CusumPlays", spec := "cusumPlays", unfollowed := true, recurses := true, plainKeys := false, apart := false, narrowed := true }
def CusumPlaysUptoSaid : Prop := cusumPlaysUptoRow.holds Try.pinned (OpenSpec.upto cusumPlaysSpec)

/-- 'peloruslaw23.CusumVoid', WHERE WHAT IT READS IS OF BULK AT MOST 1048576: true; the input reads as it did. -/
def cusumVoidUptoRow : OpenClaim := { program := "ytnpkogbniejgfaa", sum := "4da56c58a1fe6b62c3e7f2a6efc6f9a969abadddbbd985bbde07bdd89f296173", func := "pelorus/peloruslaw23.CusumVoid", spec := "cusumVoid", unfollowed := true, recurses := true, plainKeys := false, apart := false, narrowed := true }
def CusumVoidUptoSaid : Prop := cusumVoidUptoRow.holds Try.pinned (OpenSpec.upto cusumVoidSpec)

end Rows
end Go.Proofs.Ytnpkogbniejgfaa
