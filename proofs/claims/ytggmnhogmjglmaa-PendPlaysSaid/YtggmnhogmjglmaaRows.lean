/-
  No cell of these rows narrows 'for every input' (looked for: loops, veiled, ifaces, maps, wideKeys, modest, calm, conditions, laid).
  DERIVED. THE GIVEN ROWS OF THIS SEAT. 5 by the template 'for every input the law returns true; each argument reads behind the call as it read before'; 0 by the template 'total and deterministic' (their statements: YtggmnhogmjglmaaTotals.lean).
  GIVEN WITH THE SEED: the statements are not yours to turn. If you find one false, say at which input.
  Laid BY PROGRAM, IN A SANDBOX (cutbox-rows.mjs): the forced cells as the released guide's own fill.sh prints them over the translation 170967deecaa022e… (all of the seat's roots in one cut). By AI agents, Wed Nov 11 2026. No macro, syntax, notation, axiom, sorry.
-/
import Derived.Test.YtggmnhogmjglmaaChecked
import GoSem.Claim
import GoSem.ClaimJoined
import GoSem.ClaimMapViews
import Derived.JoinedTies
import Derived.KernelRfl
namespace Go.Proofs.Ytggmnhogmjglmaa
/- THE CELL 'sum', in the pinned program and in every row, IS THE sha256 OF THE DUMP (.gsa) THAT YtggmnhogmjglmaaProg.lean LOADS. Nothing in Lean hashes anything: it is a label: what it is worth is what the hold of that sum in a sandbox is worth. -/
noncomputable def Try.pinned : Pinned := { name := "ytggmnhogmjglmaa", sum := "170967deecaa022eca8b231898f8de483b3762a3d5c20cd0dc0f8b4a8b733ed9", checked := Try.checked }
namespace Rows
def none {H : Type} : Left H := { results := [], args := [] }

/-- 'peloruslaw20.PendOnce': WHATEVER THE INPUT: true; the input reads as it did. -/
def pendOnceSpec : ChangeSpec := { name := "pendOnce", fn := fun _ => fun
  | [d] => { results := [.lit (.bool true)], args := [d] }
  | _ => none }
def pendOnceRow : OpenClaim := { program := "ytggmnhogmjglmaa", sum := "170967deecaa022eca8b231898f8de483b3762a3d5c20cd0dc0f8b4a8b733ed9", func := "pelorus/peloruslaw20.PendOnce", spec := "pendOnce", unfollowed := true, recurses := true, plainKeys := false, apart := false }
def PendOnceSaid : Prop := pendOnceRow.holds Try.pinned (OpenSpec.ofChange pendOnceSpec)

/-- ITS FALSE NEIGHBOUR: 'it returns false'. Refute it at one input. -/
def pendOnceWrong : ChangeSpec := { name := "pendOnce", fn := fun _ => fun
  | [d] => { results := [.lit (.bool false)], args := [d] }
  | _ => none }
def PendOnceWrongFalsely : Prop := pendOnceRow.holds Try.pinned (OpenSpec.ofChange pendOnceWrong)

/-- 'peloruslaw20.PendPlays': WHATEVER THE INPUT: true; the input reads as it did. -/
def pendPlaysSpec : ChangeSpec := { name := "pendPlays", fn := fun _ => fun
  | [d] => { results := [.lit (.bool true)], args := [d] }
  | _ => none }
def pendPlaysRow : OpenClaim := { program := "ytggmnhogmjglmaa", sum := "170967deecaa022eca8b231898f8de483b3762a3d5c20cd0dc0f8b4a8b733ed9", func := "pelorus/peloruslaw20.PendPlays", spec := "pendPlays", unfollowed := true, recurses := true, plainKeys := false, apart := false }
def PendPlaysSaid : Prop := pendPlaysRow.holds Try.pinned (OpenSpec.ofChange pendPlaysSpec)

/-- ITS FALSE NEIGHBOUR: 'it returns false'. Refute it at one input. -/
def pendPlaysWrong : ChangeSpec := { name := "pendPlays", fn := fun _ => fun
  | [d] => { results := [.lit (.bool false)], args := [d] }
  | _ => none }
def PendPlaysWrongFalsely : Prop := pendPlaysRow.holds Try.pinned (OpenSpec.ofChange pendPlaysWrong)

/-- 'peloruslaw20.PendVoid': WHATEVER THE INPUT: true; the input reads as it did. -/
def pendVoidSpec : ChangeSpec := { name := "pendVoid", fn := fun _ => fun
  | [d] => { results := [.lit (.bool true)], args := [d] }
  | _ => none }
def pendVoidRow : OpenClaim := { program := "ytggmnhogmjglmaa", sum := "170967deecaa022eca8b231898f8de483b3762a3d5c20cd0dc0f8b4a8b733ed9", func := "pelorus/peloruslaw20.PendVoid", spec := "pendVoid", unfollowed := true, recurses := true, plainKeys := false, apart := false }
def PendVoidSaid : Prop := pendVoidRow.holds Try.pinned (OpenSpec.ofChange pendVoidSpec)

/-- ITS FALSE NEIGHBOUR: 'it returns false'. Refute it at one input. -/
def pendVoidWrong : ChangeSpec := { name := "pendVoid", fn := fun _ => fun
  | [d] => { results := [.lit (.bool false)], args := [d] }
  | _ => none }
def PendVoidWrongFalsely : Prop := pendVoidRow.holds Try.pinned (OpenSpec.ofChange pendVoidWrong)

/-- 'peloruslaw23.CusumPlays': WHATEVER THE INPUT: true; the input reads as it did. -/
def cusumPlaysSpec : ChangeSpec := { name := "cusumPlays", fn := fun _ => fun
  | [d1, d2, d3] => { results := [.lit (.bool true)], args := [d1, d2, d3] }
  | _ => none }
def cusumPlaysRow : OpenClaim := { program := "ytggmnhogmjglmaa", sum := "170967deecaa022eca8b231898f8de483b3762a3d5c20cd0dc0f8b4a8b733ed9", func := "pelorus/peloruslaw23.CusumPlays", spec := "cusumPlays", unfollowed := true, recurses := true, plainKeys := false, apart := false }
def CusumPlaysSaid : Prop := cusumPlaysRow.holds Try.pinned (OpenSpec.ofChange cusumPlaysSpec)

/-- ITS FALSE NEIGHBOUR: 'it returns false'. Refute it at one input. -/
def cusumPlaysWrong : ChangeSpec := { name := "cusumPlays", fn := fun _ => fun
  | [d1, d2, d3] => { results := [.lit (.bool false)], args := [d1, d2, d3] }
  | _ => none }
def CusumPlaysWrongFalsely : Prop := cusumPlaysRow.holds Try.pinned (OpenSpec.ofChange cusumPlaysWrong)

/-- 'peloruslaw23.CusumVoid': WHATEVER THE INPUT: true; the input reads as it did. -/
def cusumVoidSpec : ChangeSpec := { name := "cusumVoid", fn := fun _ => fun
  | [d1, d2] => { results := [.lit (.bool true)], args := [d1, d2] }
  | _ => none }
def cusumVoidRow : OpenClaim := { program := "ytggmnhogmjglmaa", sum := "170967deecaa022eca8b231898f8de483b3762a3d5c20cd0dc0f8b4a8b733ed9", func := "pelorus/peloruslaw23.CusumVoid", spec := "cusumVoid", unfollowed := true, recurses := true, plainKeys := false, apart := false }
def CusumVoidSaid : Prop := cusumVoidRow.holds Try.pinned (OpenSpec.ofChange cusumVoidSpec)

/-- ITS FALSE NEIGHBOUR: 'it returns false'. Refute it at one input. -/
def cusumVoidWrong : ChangeSpec := { name := "cusumVoid", fn := fun _ => fun
  | [d1, d2] => { results := [.lit (.bool false)], args := [d1, d2] }
  | _ => none }
def CusumVoidWrongFalsely : Prop := cusumVoidRow.holds Try.pinned (OpenSpec.ofChange cusumVoidWrong)

/- THE SECOND FORM. 'bulk': how many values and letters a reading holds, each counted each time it is reached (what is shared counts as often as it is met; a slice's spare places count too). A statement '..UptoSaid' is the law's where the arguments, and the package variables that the reading takes, are together of bulk at most 1048576: NARROWER than '..Said'. Prove '..Said' where nothing that the law and all that it calls make is longer than what came in: it says more and counts as full. Else prove '..UptoSaid'. A law counts once. -/
mutual
def uptoBulk {H : Type} : DataW H → Nat
  | .lit (.string bytes) => bytes.length + 1
  | .lit _ => 1
  | .nil => 1
  | .ptr d => uptoBulk d + 1
  | .slice elems spare => uptoBulkAll elems + uptoBulkAll spare + 1
  | .agg parts => uptoBulkAll parts + 1
  | .iface _ d => uptoBulk d + 1
  | .map entries => uptoBulkEntries entries + 1
  | .held _ => 1
def uptoBulkAll {H : Type} : List (DataW H) → Nat
  | [] => 0
  | d :: r => uptoBulk d + uptoBulkAll r
def uptoBulkEntries {H : Type} : List (Lit × DataW H) → Nat
  | [] => 0
  | x :: r => uptoBulkEntry x + uptoBulkEntries r
def uptoBulkEntry {H : Type} : Lit × DataW H → Nat
  | (.string bytes, d) => bytes.length + uptoBulk d + 1
  | (_, d) => uptoBulk d + 1
 end
def uptoSmall : (H : Type) → List (DataW H) → Bool := fun _ ds => decide (uptoBulkAll ds ≤ 1048576)
def OpenSpec.upto (s : _root_.Go.ChangeSpec) : _root_.Go.OpenSpec := { _root_.Go.OpenSpec.ofChange s with cond := some uptoSmall }

/-- 'peloruslaw20.PendOnce', WHERE WHAT IT READS IS OF BULK AT MOST 1048576: true; the input reads as it did. -/
def pendOnceUptoRow : OpenClaim := { program := "ytggmnhogmjglmaa", sum := "170967deecaa022eca8b231898f8de483b3762a3d5c20cd0dc0f8b4a8b733ed9", func := "pelorus/peloruslaw20.PendOnce", spec := "pendOnce", unfollowed := true, recurses := true, plainKeys := false, apart := false, narrowed := true }
def PendOnceUptoSaid : Prop := pendOnceUptoRow.holds Try.pinned (OpenSpec.upto pendOnceSpec)

/-- 'peloruslaw20.PendPlays', WHERE WHAT IT READS IS OF BULK AT MOST 1048576: true; the input reads as it did. -/
def pendPlaysUptoRow : OpenClaim := { program := "ytggmnhogmjglmaa", sum := "170967deecaa022eca8b231898f8de483b3762a3d5c20cd0dc0f8b4a8b733ed9", func := "pelorus/peloruslaw20.PendPlays", spec := "pendPlays", unfollowed := true, recurses := true, plainKeys := false, apart := false, narrowed := true }
def PendPlaysUptoSaid : Prop := pendPlaysUptoRow.holds Try.pinned (OpenSpec.upto pendPlaysSpec)

/-- 'peloruslaw20.PendVoid', WHERE WHAT IT READS IS OF BULK AT MOST 1048576: true; the input reads as it did. -/
def pendVoidUptoRow : OpenClaim := { program := "ytggmnhogmjglmaa", sum := "170967deecaa022eca8b231898f8de483b3762a3d5c20cd0dc0f8b4a8b733ed9", func := "pelorus/peloruslaw20.PendVoid", spec := "pendVoid", unfollowed := true, recurses := true, plainKeys := false, apart := false, narrowed := true }
def PendVoidUptoSaid : Prop := pendVoidUptoRow.holds Try.pinned (OpenSpec.upto pendVoidSpec)

/-- 'peloruslaw23.CusumPlays', WHERE WHAT IT READS IS OF BULK AT MOST 1048576: true; the input reads as it did. -/
def cusumPlaysUptoRow : OpenClaim := { program := "ytggmnhogmjglmaa", sum := "170967deecaa022eca8b231898f8de483b3762a3d5c20cd0dc0f8b4a8b733ed9", func := "pelorus/peloruslaw23.CusumPlays", spec := "cusumPlays", unfollowed := true, recurses := true, plainKeys := false, apart := false, narrowed := true }
def CusumPlaysUptoSaid : Prop := cusumPlaysUptoRow.holds Try.pinned (OpenSpec.upto cusumPlaysSpec)

/-- 'peloruslaw23.CusumVoid', WHERE WHAT IT READS IS OF BULK AT MOST 1048576: true; the input reads as it did. -/
def cusumVoidUptoRow : OpenClaim := { program := "ytggmnhogmjglmaa", sum := "170967deecaa022eca8b231898f8de483b3762a3d5c20cd0dc0f8b4a8b733ed9", func := "pelorus/peloruslaw23.CusumVoid", spec := "cusumVoid", unfollowed := true, recurses := true, plainKeys := false, apart := false, narrowed := true }
def CusumVoidUptoSaid : Prop := cusumVoidUptoRow.holds Try.pinned (OpenSpec.upto cusumVoidSpec)

end Rows
end Go.Proofs.Ytggmnhogmjglmaa
