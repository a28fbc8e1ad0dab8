/-
  No cell of these rows narrows 'for every input' (looked for: loops, veiled, ifaces, maps, wideKeys, modest, calm, conditions, laid).
  DERIVED. THE GIVEN ROWS OF THIS SEAT. 12 by the template 'for every input the law returns true; each argument reads behind the call as it read before'; 0 by the template 'total and deterministic' (their statements: YtflpiaeffnoepaaTotals.lean).
  GIVEN WITH THE SEED: the statements are not yours to turn. If you find one false, say at which input.
  Laid BY PROGRAM, IN A SANDBOX (cutbox-rows.mjs): the forced cells as the released guide's own fill.sh prints them over the translation 119cf4bff8c5666c… (all of the seat's roots in one cut). By AI agents, Wed Nov 11 2026. No macro, syntax, notation, axiom, sorry.
-/
import Derived.Test.YtflpiaeffnoepaaChecked
import GoSem.Claim
import GoSem.ClaimJoined
import GoSem.ClaimMapViews
import Derived.JoinedTies
import Derived.KernelRfl
namespace Go.Proofs.Ytflpiaeffnoepaa
/- THE CELL 'sum', in the pinned program and in every row, IS THE sha256 OF THE DUMP (.gsa) THAT YtflpiaeffnoepaaProg.lean LOADS. Nothing in Lean hashes anything: it is a label: what it is worth is what the hold of that sum in a sandbox is worth. -/
noncomputable def Try.pinned : Pinned := { name := "ytflpiaeffnoepaa", sum := "119cf4bff8c5666c8b2b41aae346b5a3d53680900154d01646e5c1e2eadcffdc", checked := Try.checked }
namespace Rows
def none {H : Type} : Left H := { results := [], args := [] }

/-- 'peloruslaw12.KindPuts': WHATEVER THE INPUT: true; the input reads as it did. -/
def kindPutsSpec : ChangeSpec := { name := "kindPuts", fn := fun _ => fun
  | [d1, d2] => { results := [.lit (.bool true)], args := [d1, d2] }
  | _ => none }
def kindPutsRow : OpenClaim := { program := "ytflpiaeffnoepaa", sum := "119cf4bff8c5666c8b2b41aae346b5a3d53680900154d01646e5c1e2eadcffdc", func := "pelorus/peloruslaw12.KindPuts", spec := "kindPuts", plainKeys := false, apart := false }
def KindPutsSaid : Prop := kindPutsRow.holds Try.pinned (OpenSpec.ofChange kindPutsSpec)

/-- ITS FALSE NEIGHBOUR: 'it returns false'. Refute it at one input. -/
def kindPutsWrong : ChangeSpec := { name := "kindPuts", fn := fun _ => fun
  | [d1, d2] => { results := [.lit (.bool false)], args := [d1, d2] }
  | _ => none }
def KindPutsWrongFalsely : Prop := kindPutsRow.holds Try.pinned (OpenSpec.ofChange kindPutsWrong)

/-- 'peloruslaw12.KindGets': WHATEVER THE INPUT: true; the input reads as it did. -/
def kindGetsSpec : ChangeSpec := { name := "kindGets", fn := fun _ => fun
  | [d1, d2] => { results := [.lit (.bool true)], args := [d1, d2] }
  | _ => none }
def kindGetsRow : OpenClaim := { program := "ytflpiaeffnoepaa", sum := "119cf4bff8c5666c8b2b41aae346b5a3d53680900154d01646e5c1e2eadcffdc", func := "pelorus/peloruslaw12.KindGets", spec := "kindGets", plainKeys := false, apart := false }
def KindGetsSaid : Prop := kindGetsRow.holds Try.pinned (OpenSpec.ofChange kindGetsSpec)

/-- ITS FALSE NEIGHBOUR: 'it returns false'. Refute it at one input. -/
def kindGetsWrong : ChangeSpec := { name := "kindGets", fn := fun _ => fun
  | [d1, d2] => { results := [.lit (.bool false)], args := [d1, d2] }
  | _ => none }
def KindGetsWrongFalsely : Prop := kindGetsRow.holds Try.pinned (OpenSpec.ofChange kindGetsWrong)

/-- 'peloruslaw12.KindBack': WHATEVER THE INPUT: true; the input reads as it did. -/
def kindBackSpec : ChangeSpec := { name := "kindBack", fn := fun _ => fun
  | [d1, d2, d3] => { results := [.lit (.bool true)], args := [d1, d2, d3] }
  | _ => none }
def kindBackRow : OpenClaim := { program := "ytflpiaeffnoepaa", sum := "119cf4bff8c5666c8b2b41aae346b5a3d53680900154d01646e5c1e2eadcffdc", func := "pelorus/peloruslaw12.KindBack", spec := "kindBack", plainKeys := false, apart := false }
def KindBackSaid : Prop := kindBackRow.holds Try.pinned (OpenSpec.ofChange kindBackSpec)

/-- ITS FALSE NEIGHBOUR: 'it returns false'. Refute it at one input. -/
def kindBackWrong : ChangeSpec := { name := "kindBack", fn := fun _ => fun
  | [d1, d2, d3] => { results := [.lit (.bool false)], args := [d1, d2, d3] }
  | _ => none }
def KindBackWrongFalsely : Prop := kindBackRow.holds Try.pinned (OpenSpec.ofChange kindBackWrong)

/-- 'peloruslaw36.TracePlays': WHATEVER THE INPUT: true; the input reads as it did. -/
def tracePlaysSpec : ChangeSpec := { name := "tracePlays", fn := fun _ => fun
  | [d1, d2, d3] => { results := [.lit (.bool true)], args := [d1, d2, d3] }
  | _ => none }
def tracePlaysRow : OpenClaim := { program := "ytflpiaeffnoepaa", sum := "119cf4bff8c5666c8b2b41aae346b5a3d53680900154d01646e5c1e2eadcffdc", func := "pelorus/peloruslaw36.TracePlays", spec := "tracePlays", unfollowed := true, recurses := true, plainKeys := false, apart := false }
def TracePlaysSaid : Prop := tracePlaysRow.holds Try.pinned (OpenSpec.ofChange tracePlaysSpec)

/-- ITS FALSE NEIGHBOUR: 'it returns false'. Refute it at one input. -/
def tracePlaysWrong : ChangeSpec := { name := "tracePlays", fn := fun _ => fun
  | [d1, d2, d3] => { results := [.lit (.bool false)], args := [d1, d2, d3] }
  | _ => none }
def TracePlaysWrongFalsely : Prop := tracePlaysRow.holds Try.pinned (OpenSpec.ofChange tracePlaysWrong)

/-- 'peloruslaw36.TraceVoid': WHATEVER THE INPUT: true; the input reads as it did. -/
def traceVoidSpec : ChangeSpec := { name := "traceVoid", fn := fun _ => fun
  | [d1, d2] => { results := [.lit (.bool true)], args := [d1, d2] }
  | _ => none }
def traceVoidRow : OpenClaim := { program := "ytflpiaeffnoepaa", sum := "119cf4bff8c5666c8b2b41aae346b5a3d53680900154d01646e5c1e2eadcffdc", func := "pelorus/peloruslaw36.TraceVoid", spec := "traceVoid", unfollowed := true, recurses := true, plainKeys := false, apart := false }
def TraceVoidSaid : Prop := traceVoidRow.holds Try.pinned (OpenSpec.ofChange traceVoidSpec)

/-- ITS FALSE NEIGHBOUR: 'it returns false'. Refute it at one input. -/
def traceVoidWrong : ChangeSpec := { name := "traceVoid", fn := fun _ => fun
  | [d1, d2] => { results := [.lit (.bool false)], args := [d1, d2] }
  | _ => none }
def TraceVoidWrongFalsely : Prop := traceVoidRow.holds Try.pinned (OpenSpec.ofChange traceVoidWrong)

/-- 'peloruslaw36.TraceHolds': WHATEVER THE INPUT: true; the input reads as it did. -/
def traceHoldsSpec : ChangeSpec := { name := "traceHolds", fn := fun _ => fun
  | [d1, d2, d3] => { results := [.lit (.bool true)], args := [d1, d2, d3] }
  | _ => none }
def traceHoldsRow : OpenClaim := { program := "ytflpiaeffnoepaa", sum := "119cf4bff8c5666c8b2b41aae346b5a3d53680900154d01646e5c1e2eadcffdc", func := "pelorus/peloruslaw36.TraceHolds", spec := "traceHolds", unfollowed := true, recurses := true, plainKeys := false, apart := false }
def TraceHoldsSaid : Prop := traceHoldsRow.holds Try.pinned (OpenSpec.ofChange traceHoldsSpec)

/-- ITS FALSE NEIGHBOUR: 'it returns false'. Refute it at one input. -/
def traceHoldsWrong : ChangeSpec := { name := "traceHolds", fn := fun _ => fun
  | [d1, d2, d3] => { results := [.lit (.bool false)], args := [d1, d2, d3] }
  | _ => none }
def TraceHoldsWrongFalsely : Prop := traceHoldsRow.holds Try.pinned (OpenSpec.ofChange traceHoldsWrong)

/-- 'peloruslaw36.TraceTells': WHATEVER THE INPUT: true; the input reads as it did. -/
def traceTellsSpec : ChangeSpec := { name := "traceTells", fn := fun _ => fun
  | [d1, d2, d3, d4] => { results := [.lit (.bool true)], args := [d1, d2, d3, d4] }
  | _ => none }
def traceTellsRow : OpenClaim := { program := "ytflpiaeffnoepaa", sum := "119cf4bff8c5666c8b2b41aae346b5a3d53680900154d01646e5c1e2eadcffdc", func := "pelorus/peloruslaw36.TraceTells", spec := "traceTells", unfollowed := true, recurses := true, plainKeys := false, apart := false }
def TraceTellsSaid : Prop := traceTellsRow.holds Try.pinned (OpenSpec.ofChange traceTellsSpec)

/-- ITS FALSE NEIGHBOUR: 'it returns false'. Refute it at one input. -/
def traceTellsWrong : ChangeSpec := { name := "traceTells", fn := fun _ => fun
  | [d1, d2, d3, d4] => { results := [.lit (.bool false)], args := [d1, d2, d3, d4] }
  | _ => none }
def TraceTellsWrongFalsely : Prop := traceTellsRow.holds Try.pinned (OpenSpec.ofChange traceTellsWrong)

/-- 'peloruslaw16.KeysCount': WHATEVER THE INPUT: true; the input reads as it did. -/
def keysCountSpec : ChangeSpec := { name := "keysCount", fn := fun _ => fun
  | [d1, d2, d3, d4] => { results := [.lit (.bool true)], args := [d1, d2, d3, d4] }
  | _ => none }
def keysCountRow : OpenClaim := { program := "ytflpiaeffnoepaa", sum := "119cf4bff8c5666c8b2b41aae346b5a3d53680900154d01646e5c1e2eadcffdc", func := "pelorus/peloruslaw16.KeysCount", spec := "keysCount", plainKeys := false, apart := false }
def KeysCountSaid : Prop := keysCountRow.holds Try.pinned (OpenSpec.ofChange keysCountSpec)

/-- ITS FALSE NEIGHBOUR: 'it returns false'. Refute it at one input. -/
def keysCountWrong : ChangeSpec := { name := "keysCount", fn := fun _ => fun
  | [d1, d2, d3, d4] => { results := [.lit (.bool false)], args := [d1, d2, d3, d4] }
  | _ => none }
def KeysCountWrongFalsely : Prop := keysCountRow.holds Try.pinned (OpenSpec.ofChange keysCountWrong)

/-- 'peloruslaw16.KeysPlays': WHATEVER THE INPUT: true; the input reads as it did. -/
def keysPlaysSpec : ChangeSpec := { name := "keysPlays", fn := fun _ => fun
  | [d1, d2, d3, d4] => { results := [.lit (.bool true)], args := [d1, d2, d3, d4] }
  | _ => none }
def keysPlaysRow : OpenClaim := { program := "ytflpiaeffnoepaa", sum := "119cf4bff8c5666c8b2b41aae346b5a3d53680900154d01646e5c1e2eadcffdc", func := "pelorus/peloruslaw16.KeysPlays", spec := "keysPlays", recurses := true, plainKeys := false, apart := false }
def KeysPlaysSaid : Prop := keysPlaysRow.holds Try.pinned (OpenSpec.ofChange keysPlaysSpec)

/-- ITS FALSE NEIGHBOUR: 'it returns false'. Refute it at one input. -/
def keysPlaysWrong : ChangeSpec := { name := "keysPlays", fn := fun _ => fun
  | [d1, d2, d3, d4] => { results := [.lit (.bool false)], args := [d1, d2, d3, d4] }
  | _ => none }
def KeysPlaysWrongFalsely : Prop := keysPlaysRow.holds Try.pinned (OpenSpec.ofChange keysPlaysWrong)

/-- 'peloruslaw16.KeysVoid': WHATEVER THE INPUT: true; the input reads as it did. -/
def keysVoidSpec : ChangeSpec := { name := "keysVoid", fn := fun _ => fun
  | [d] => { results := [.lit (.bool true)], args := [d] }
  | _ => none }
def keysVoidRow : OpenClaim := { program := "ytflpiaeffnoepaa", sum := "119cf4bff8c5666c8b2b41aae346b5a3d53680900154d01646e5c1e2eadcffdc", func := "pelorus/peloruslaw16.KeysVoid", spec := "keysVoid", recurses := true, plainKeys := false, apart := false }
def KeysVoidSaid : Prop := keysVoidRow.holds Try.pinned (OpenSpec.ofChange keysVoidSpec)

/-- ITS FALSE NEIGHBOUR: 'it returns false'. Refute it at one input. -/
def keysVoidWrong : ChangeSpec := { name := "keysVoid", fn := fun _ => fun
  | [d] => { results := [.lit (.bool false)], args := [d] }
  | _ => none }
def KeysVoidWrongFalsely : Prop := keysVoidRow.holds Try.pinned (OpenSpec.ofChange keysVoidWrong)

/-- 'peloruslaw31.SetupPlain': WHATEVER THE INPUT: true; the input reads as it did. -/
def setupPlainSpec : ChangeSpec := { name := "setupPlain", fn := fun _ => fun
  | [d1, d2] => { results := [.lit (.bool true)], args := [d1, d2] }
  | _ => none }
def setupPlainRow : OpenClaim := { program := "ytflpiaeffnoepaa", sum := "119cf4bff8c5666c8b2b41aae346b5a3d53680900154d01646e5c1e2eadcffdc", func := "pelorus/peloruslaw31.SetupPlain", spec := "setupPlain", unfollowed := true, recurses := true, plainKeys := false, apart := false }
def SetupPlainSaid : Prop := setupPlainRow.holds Try.pinned (OpenSpec.ofChange setupPlainSpec)

/-- ITS FALSE NEIGHBOUR: 'it returns false'. Refute it at one input. -/
def setupPlainWrong : ChangeSpec := { name := "setupPlain", fn := fun _ => fun
  | [d1, d2] => { results := [.lit (.bool false)], args := [d1, d2] }
  | _ => none }
def SetupPlainWrongFalsely : Prop := setupPlainRow.holds Try.pinned (OpenSpec.ofChange setupPlainWrong)

/-- 'peloruslaw31.SetupTells': WHATEVER THE INPUT: true; the input reads as it did. -/
def setupTellsSpec : ChangeSpec := { name := "setupTells", fn := fun _ => fun
  | [d1, d2] => { results := [.lit (.bool true)], args := [d1, d2] }
  | _ => none }
def setupTellsRow : OpenClaim := { program := "ytflpiaeffnoepaa", sum := "119cf4bff8c5666c8b2b41aae346b5a3d53680900154d01646e5c1e2eadcffdc", func := "pelorus/peloruslaw31.SetupTells", spec := "setupTells", unfollowed := true, recurses := true, plainKeys := false, apart := false }
def SetupTellsSaid : Prop := setupTellsRow.holds Try.pinned (OpenSpec.ofChange setupTellsSpec)

/-- ITS FALSE NEIGHBOUR: 'it returns false'. Refute it at one input. -/
def setupTellsWrong : ChangeSpec := { name := "setupTells", fn := fun _ => fun
  | [d1, d2] => { results := [.lit (.bool false)], args := [d1, d2] }
  | _ => none }
def SetupTellsWrongFalsely : Prop := setupTellsRow.holds Try.pinned (OpenSpec.ofChange setupTellsWrong)

/- THE SECOND FORM. 'bulk': how many values and letters a reading holds, each counted each time it is reached (what is shared counts as often as it is met; a slice's spare places count too). A statement '..UptoSaid' is the law's where the arguments, and the package variables that the reading takes, are together of bulk at most 1048576: NARROWER than '..Said'. Prove '..Said' where nothing that the law and all that it calls make is longer than what came in: it says more and counts as full. Else prove '..UptoSaid'. A law counts once. -/
mutual
def uptoBulk {H : Type} : DataW H → Nat
  | .lit (.string bytes) => bytes.length + 1
  | .lit _ => 1
  | .nil => 1
  | .ptr d => uptoBulk d + 1
  | .slice elems spare => uptoBulkAll elems + uptoBulkAll spare + 1
  | .agg parts => uptoBulkAll parts + 1
  | .iface _ d => uptoBulk d + 1
  | .map entries => uptoBulkEntries entries + 1
  | .held _ => 1
def uptoBulkAll {H : Type} : List (DataW H) → Nat
  | [] => 0
  | d :: r => uptoBulk d + uptoBulkAll r
def uptoBulkEntries {H : Type} : List (Lit × DataW H) → Nat
  | [] => 0
  | x :: r => uptoBulkEntry x + uptoBulkEntries r
def uptoBulkEntry {H : Type} : Lit × DataW H → Nat
  | (.string bytes, d) => bytes.length + uptoBulk d + 1
  | (_, d) => uptoBulk d + 1
 end
def uptoSmall : (H : Type) → List (DataW H) → Bool := fun _ ds => decide (uptoBulkAll ds ≤ 1048576)
def OpenSpec.upto (s : _root_.Go.ChangeSpec) : _root_.Go.OpenSpec := { _root_.Go.OpenSpec.ofChange s with cond := some uptoSmall }

/-- 'peloruslaw12.KindPuts', WHERE WHAT IT READS IS OF BULK AT MOST 1048576: true; the input reads as it did. -/
def kindPutsUptoRow : OpenClaim := { program := "ytflpiaeffnoepaa", sum := "119cf4bff8c5666c8b2b41aae346b5a3d53680900154d01646e5c1e2eadcffdc", func := "pelorus/peloruslaw12.KindPuts", spec := "kindPuts", plainKeys := false, apart := false, narrowed := true }
def KindPutsUptoSaid : Prop := kindPutsUptoRow.holds Try.pinned (OpenSpec.upto kindPutsSpec)

/-- 'peloruslaw12.KindGets', WHERE WHAT IT READS IS OF BULK AT MOST 1048576: true; the input reads as it did. -/
def kindGetsUptoRow : OpenClaim := { program := "ytflpiaeffnoepaa", sum := "119cf4bff8c5666c8b2b41aae346b5a3d53680900154d01646e5c1e2eadcffdc", func := "pelorus/peloruslaw12.KindGets", spec := "kindGets", plainKeys := false, apart := false, narrowed := true }
def KindGetsUptoSaid : Prop := kindGetsUptoRow.holds Try.pinned (OpenSpec.upto kindGetsSpec)

/-- 'peloruslaw12.KindBack', WHERE WHAT IT READS IS OF BULK AT MOST 1048576: true; the input reads as it did. -/
def kindBackUptoRow : OpenClaim := { program := "ytflpiaeffnoepaa", sum := "119cf4bff8c5666c8b2b41aae346b5a3d53680900154d01646e5c1e2eadcffdc", func := "pelorus/peloruslaw12.KindBack", spec := "kindBack", plainKeys := false, apart := false, narrowed := true }
def KindBackUptoSaid : Prop := kindBackUptoRow.holds Try.pinned (OpenSpec.upto kindBackSpec)

/-- 'peloruslaw36.TracePlays', WHERE WHAT IT READS IS OF BULK AT MOST 1048576: true; the input reads as it did. -/
def tracePlaysUptoRow : OpenClaim := { program := "ytflpiaeffnoepaa", sum := "119cf4bff8c5666c8b2b41aae346b5a3d53680900154d01646e5c1e2eadcffdc", func := "pelorus/peloruslaw36.TracePlays", spec := "tracePlays", unfollowed := true, recurses := true, plainKeys := false, apart := false, narrowed := true }
def TracePlaysUptoSaid : Prop := tracePlaysUptoRow.holds Try.pinned (OpenSpec.upto tracePlaysSpec)

/-- 'peloruslaw36.TraceVoid', WHERE WHAT IT READS IS OF BULK AT MOST 1048576: true; the input reads as it did. -/
def traceVoidUptoRow : OpenClaim := { program := "ytflpiaeffnoepaa", sum := "119cf4bff8c5666c8b2b41aae346b5a3d53680900154d01646e5c1e2eadcffdc", func := "pelorus/peloruslaw36.TraceVoid", spec := "traceVoid", unfollowed := true, recurses := true, plainKeys := false, apart := false, narrowed := true }
def TraceVoidUptoSaid : Prop := traceVoidUptoRow.holds Try.pinned (OpenSpec.upto traceVoidSpec)

/-- 'peloruslaw36.TraceHolds', WHERE WHAT IT READS IS OF BULK AT MOST 1048576: true; the input reads as it did. -/
def traceHoldsUptoRow : OpenClaim := { program := "ytflpiaeffnoepaa", sum := "119cf4bff8c5666c8b2b41aae346b5a3d53680900154d01646e5c1e2eadcffdc", func := "pelorus/peloruslaw36.TraceHolds", spec := "traceHolds", unfollowed := true, recurses := true, plainKeys := false, apart := false, narrowed := true }
def TraceHoldsUptoSaid : Prop := traceHoldsUptoRow.holds Try.pinned (OpenSpec.upto traceHoldsSpec)

/-- 'peloruslaw36.TraceTells', WHERE WHAT IT READS IS OF BULK AT MOST 1048576: true; the input reads as it did. -/
def traceTellsUptoRow : OpenClaim := { program := "ytflpiaeffnoepaa", sum := "119cf4bff8c5666c8b2b41aae346b5a3d53680900154d01646e5c1e2eadcffdc", func := "pelorus/peloruslaw36.TraceTells", spec := "traceTells", unfollowed := true, recurses := true, plainKeys := false, apart := false, narrowed := true }
def TraceTellsUptoSaid : Prop := traceTellsUptoRow.holds Try.pinned (OpenSpec.upto traceTellsSpec)

/-- 'peloruslaw16.KeysCount', WHERE WHAT IT READS IS OF BULK AT MOST 1048576: true; the input reads as it did. -/
def keysCountUptoRow : OpenClaim := { program := "ytflpiaeffnoepaa", sum := "119cf4bff8c5666c8b2b41aae346b5a3d53680900154d01646e5c1e2eadcffdc", func := "pelorus/peloruslaw16.KeysCount", spec := "keysCount", plainKeys := false, apart := false, narrowed := true }
def KeysCountUptoSaid : Prop := keysCountUptoRow.holds Try.pinned (OpenSpec.upto keysCountSpec)

/-- 'peloruslaw16.KeysPlays', WHERE WHAT IT READS IS OF BULK AT MOST 1048576: true; the input reads as it did. -/
def keysPlaysUptoRow : OpenClaim := { program := "ytflpiaeffnoepaa", sum := "119cf4bff8c5666c8b2b41aae346b5a3d53680900154d01646e5c1e2eadcffdc", func := "pelorus/peloruslaw16.KeysPlays", spec := "keysPlays", recurses := true, plainKeys := false, apart := false, narrowed := true }
def KeysPlaysUptoSaid : Prop := keysPlaysUptoRow.holds Try.pinned (OpenSpec.upto keysPlaysSpec)

/-- 'peloruslaw16.KeysVoid', WHERE WHAT IT READS IS OF BULK AT MOST 1048576: true; the input reads as it did. -/
def keysVoidUptoRow : OpenClaim := { program := "ytflpiaeffnoepaa", sum := "119cf4bff8c5666c8b2b41aae346b5a3d53680900154d01646e5c1e2eadcffdc", func := "pelorus/peloruslaw16.KeysVoid", spec := "keysVoid", recurses := true, plainKeys := false, apart := false, narrowed := true }
def KeysVoidUptoSaid : Prop := keysVoidUptoRow.holds Try.pinned (OpenSpec.upto keysVoidSpec)

/-- 'peloruslaw31.SetupPlain', WHERE WHAT IT READS IS OF BULK AT MOST 1048576: true; the input reads as it did. -/
def setupPlainUptoRow : OpenClaim := { program := "ytflpiaeffnoepaa", sum := "119cf4bff8c5666c8b2b41aae346b5a3d53680900154d01646e5c1e2eadcffdc", func := "pelorus/peloruslaw31.SetupPlain", spec := "setupPlain", unfollowed := true, recurses := true, plainKeys := false, apart := false, narrowed := true }
def SetupPlainUptoSaid : Prop := setupPlainUptoRow.holds Try.pinned (OpenSpec.upto setupPlainSpec)

/-- 'peloruslaw31.SetupTells', WHERE WHAT IT READS IS OF BULK AT MOST 1048576: true; the input reads as it did. -/
def setupTellsUptoRow : OpenClaim := { program := "ytflpiaeffnoepaa", sum := "119cf4bff8c5666c8b2b41aae346b5a3d53680900154d01646e5c1e2eadcffdc", func := "pelorus/peloruslaw31.SetupTells", spec := "setupTells", unfollowed := true, recurses := true, plainKeys := false, apart := false, narrowed := true }
def SetupTellsUptoSaid : Prop := setupTellsUptoRow.holds Try.pinned (OpenSpec.upto setupTellsSpec)

end Rows
end Go.Proofs.Ytflpiaeffnoepaa
