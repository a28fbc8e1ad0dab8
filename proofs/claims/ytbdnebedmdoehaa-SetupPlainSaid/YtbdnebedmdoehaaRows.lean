/-
  No cell of these rows narrows 'for every input' (looked for: loops, veiled, ifaces, maps, wideKeys, modest, calm, conditions, laid).
  DERIVED. THE GIVEN ROWS OF THIS SEAT. 3 by the template 'for every input the law returns true; each argument reads behind the call as it read before'; 0 by the template 'total and deterministic' (their statements: YtbdnebedmdoehaaTotals.lean).
  GIVEN WITH THE SEED: the statements are not yours to turn. If you find one false, say at which input.
  Laid BY PROGRAM, IN A SANDBOX (cutbox-rows.mjs): the forced cells as the released guide's own fill.sh prints them over the translation b26512fab1c9558e… (all of the seat's roots in one cut). By AI agents, Wed Nov 11 2026. No macro, syntax, notation, axiom, sorry.
-/
import Derived.Test.YtbdnebedmdoehaaChecked
import GoSem.Claim
import GoSem.ClaimJoined
import GoSem.ClaimMapViews
import Derived.JoinedTies
import Derived.KernelRfl
namespace Go.Proofs.Ytbdnebedmdoehaa
/- THE CELL 'sum', in the pinned program and in every row, IS THE sha256 OF THE DUMP (.gsa) THAT YtbdnebedmdoehaaProg.lean LOADS. Nothing in Lean hashes anything: it is a label: what it is worth is what the hold of that sum in a sandbox is worth. -/
noncomputable def Try.pinned : Pinned := { name := "ytbdnebedmdoehaa", sum := "b26512fab1c9558ecfbc3cae426beda6e13ec61e53717d5a94a4e60b19a2926b", checked := Try.checked }
namespace Rows
def none {H : Type} : Left H := { results := [], args := [] }

/-- 'peloruslaw31.SetupPlain': WHATEVER THE INPUT: true; the input reads as it did. -/
def setupPlainSpec : ChangeSpec := { name := "setupPlain", fn := fun _ => fun
  | [d1, d2] => { results := [.lit (.bool true)], args := [d1, d2] }
  | _ => none }
def setupPlainRow : OpenClaim := { program := "ytbdnebedmdoehaa", sum := "b26512fab1c9558ecfbc3cae426beda6e13ec61e53717d5a94a4e60b19a2926b", func := "pelorus/peloruslaw31.SetupPlain", spec := "setupPlain", unfollowed := true, recurses := true, plainKeys := false, apart := false }
def SetupPlainSaid : Prop := setupPlainRow.holds Try.pinned (OpenSpec.ofChange setupPlainSpec)

/-- ITS FALSE NEIGHBOUR: 'it returns false'. Refute it at one input. -/
def setupPlainWrong : ChangeSpec := { name := "setupPlain", fn := fun _ => fun
  | [d1, d2] => { results := [.lit (.bool false)], args := [d1, d2] }
  | _ => none }
def SetupPlainWrongFalsely : Prop := setupPlainRow.holds Try.pinned (OpenSpec.ofChange setupPlainWrong)

/-- 'peloruslaw31.SetupTells': WHATEVER THE INPUT: true; the input reads as it did. -/
def setupTellsSpec : ChangeSpec := { name := "setupTells", fn := fun _ => fun
  | [d1, d2] => { results := [.lit (.bool true)], args := [d1, d2] }
  | _ => none }
def setupTellsRow : OpenClaim := { program := "ytbdnebedmdoehaa", sum := "b26512fab1c9558ecfbc3cae426beda6e13ec61e53717d5a94a4e60b19a2926b", func := "pelorus/peloruslaw31.SetupTells", spec := "setupTells", unfollowed := true, recurses := true, plainKeys := false, apart := false }
def SetupTellsSaid : Prop := setupTellsRow.holds Try.pinned (OpenSpec.ofChange setupTellsSpec)

/-- ITS FALSE NEIGHBOUR: 'it returns false'. Refute it at one input. -/
def setupTellsWrong : ChangeSpec := { name := "setupTells", fn := fun _ => fun
  | [d1, d2] => { results := [.lit (.bool false)], args := [d1, d2] }
  | _ => none }
def SetupTellsWrongFalsely : Prop := setupTellsRow.holds Try.pinned (OpenSpec.ofChange setupTellsWrong)

/-- 'peloruslaw36.TraceTells': WHATEVER THE INPUT: true; the input reads as it did. -/
def traceTellsSpec : ChangeSpec := { name := "traceTells", fn := fun _ => fun
  | [d1, d2, d3, d4] => { results := [.lit (.bool true)], args := [d1, d2, d3, d4] }
  | _ => none }
def traceTellsRow : OpenClaim := { program := "ytbdnebedmdoehaa", sum := "b26512fab1c9558ecfbc3cae426beda6e13ec61e53717d5a94a4e60b19a2926b", func := "pelorus/peloruslaw36.TraceTells", spec := "traceTells", unfollowed := true, recurses := true, plainKeys := false, apart := false }
def TraceTellsSaid : Prop := traceTellsRow.holds Try.pinned (OpenSpec.ofChange traceTellsSpec)

/-- ITS FALSE NEIGHBOUR: 'it returns false'. Refute it at one input. -/
def traceTellsWrong : ChangeSpec := { name := "traceTells", fn := fun _ => fun
  | [d1, d2, d3, d4] => { results := [.lit (.bool false)], args := [d1, d2, d3, d4] }
  | _ => none }
def TraceTellsWrongFalsely : Prop := traceTellsRow.holds Try.pinned (OpenSpec.ofChange traceTellsWrong)

/- THE SECOND FORM. 'bulk': how many values and letters a reading holds, each counted each time it is reached (what is shared counts as often as it is met; a slice's spare places count too). A statement '..UptoSaid' is the law's where the arguments, and the package variables that the reading takes, are together of bulk at most 1048576: NARROWER than '..Said'. Prove '..Said' where nothing that the law and all that it calls make is longer than what came in: it says more and counts as full. Else prove '..UptoSaid'. A law counts once. -/
mutual
def uptoBulk {H : Type} : DataW H → Nat
  | .lit (.string bytes) => bytes.length + 1
  | .lit _ => 1
  | .nil => 1
  | .ptr d => uptoBulk d + 1
  | .slice elems spare => uptoBulkAll elems + uptoBulkAll spare + 1
  | .agg parts => uptoBulkAll parts + 1
  | .iface _ d => uptoBulk d + 1
  | .map entries => uptoBulkEntries entries + 1
  | .held _ => 1
def uptoBulkAll {H : Type} : List (DataW H) → Nat
  | [] => 0
  | d :: r => uptoBulk d + uptoBulkAll r
def uptoBulkEntries {H : Type} : List (Lit × DataW H) → Nat
  | [] => 0
  | x :: r => uptoBulkEntry x + uptoBulkEntries r
def uptoBulkEntry {H : Type} : Lit × DataW H → Nat
  | (.string bytes, d) => bytes.length + uptoBulk d + 1
  | (_, d) => uptoBulk d + 1
 end
def uptoSmall : (H : Type) → List (DataW H) → Bool := fun _ ds => decide (uptoBulkAll ds ≤ 1048576)
def OpenSpec.upto (s : _root_.Go.ChangeSpec) : _root_.Go.OpenSpec := { _root_.Go.OpenSpec.ofChange s with cond := some uptoSmall }

/-- 'peloruslaw31.SetupPlain', WHERE WHAT IT READS IS OF BULK AT MOST 1048576: true; the input reads as it did. -/
def setupPlainUptoRow : OpenClaim := { program := "ytbdnebedmdoehaa", sum := "b26512fab1c9558ecfbc3cae426beda6e13ec61e53717d5a94a4e60b19a2926b", func := "pelorus/peloruslaw31.SetupPlain", spec := "setupPlain", unfollowed := true, recurses := true, plainKeys := false, apart := false, narrowed := true }
def SetupPlainUptoSaid : Prop := setupPlainUptoRow.holds Try.pinned (OpenSpec.upto setupPlainSpec)

/-- 'peloruslaw31.SetupTells', WHERE WHAT IT READS IS OF BULK AT MOST 1048576: true; the input reads as it did. -/
def setupTellsUptoRow : OpenClaim := { program := "ytbdnebedmdoehaa", sum := "b26512fab1c9558ecfbc3cae426beda6e13ec61e53717d5a94a4e60b19a2926b", func := "pelorus/peloruslaw31.SetupTells", spec := "setupTells", unfollowed := true, recurses := true, plainKeys := false, apart := false, narrowed := true }
def SetupTellsUptoSaid : Prop := setupTellsUptoRow.holds Try.pinned (OpenSpec.upto setupTellsSpec)

/-- 'peloruslaw36.TraceTells', WHERE WHAT IT READS IS OF BULK AT MOST 1048576: true; the input reads as it did. -/
def traceTellsUptoRow : OpenClaim := { program := "ytbdnebedmdoehaa", sum := "b26512fab1c9558ecfbc3cae426beda6e13ec61e53717d5a94a4e60b19a2926b", func := "pelorus/peloruslaw36.TraceTells", spec := "traceTells", unfollowed := true, recurses := true, plainKeys := false, apart := false, narrowed := true }
def TraceTellsUptoSaid : Prop := traceTellsUptoRow.holds Try.pinned (OpenSpec.upto traceTellsSpec)

end Rows
end Go.Proofs.Ytbdnebedmdoehaa
