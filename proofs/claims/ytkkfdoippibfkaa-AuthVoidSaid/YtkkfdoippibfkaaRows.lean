/-
  No cell of these rows narrows 'for every input' (looked for: loops, veiled, ifaces, maps, wideKeys, modest, calm, conditions, laid).
  DERIVED. THE GIVEN ROWS OF THIS SEAT. 8 by the template 'for every input the law returns true; each argument reads behind the call as it read before'; 0 by the template 'total and deterministic' (their statements: YtkkfdoippibfkaaTotals.lean).
  GIVEN WITH THE SEED: the statements are not yours to turn. If you find one false, say at which input.
  Laid BY PROGRAM, IN A SANDBOX (cutbox-rows.mjs): the forced cells as the released guide's own fill.sh prints them over the translation 8307d208277f6ece… (all of the seat's roots in one cut). By AI agents, Wed Nov 11 2026. No macro, syntax, notation, axiom, sorry.
-/
import Derived.Test.YtkkfdoippibfkaaChecked
import GoSem.Claim
import GoSem.ClaimJoined
import GoSem.ClaimMapViews
import Derived.JoinedTies
import Derived.KernelRfl
namespace Go.Proofs.Ytkkfdoippibfkaa
/- THE CELL 'sum', in the pinned program and in every row, IS THE sha256 OF THE DUMP (.gsa) THAT YtkkfdoippibfkaaProg.lean LOADS. Nothing in Lean hashes anything: it is a label: what it is worth is what the hold of that sum in a sandbox is worth. -/
noncomputable def Try.pinned : Pinned := { name := "ytkkfdoippibfkaa", sum := "8307d208277f6ece00e6d8d70aa2f3861ce2b296a12fb1a0cb7addc1151e82db", checked := Try.checked }
namespace Rows
def none {H : Type} : Left H := { results := [], args := [] }

/-- 'peloruslaw16.KeysCount': WHATEVER THE INPUT: true; the input reads as it did. -/
def keysCountSpec : ChangeSpec := { name := "keysCount", fn := fun _ => fun
  | [d1, d2, d3, d4] => { results := [.lit (.bool true)], args := [d1, d2, d3, d4] }
  | _ => none }
def keysCountRow : OpenClaim := { program := "ytkkfdoippibfkaa", sum := "8307d208277f6ece00e6d8d70aa2f3861ce2b296a12fb1a0cb7addc1151e82db", func := "pelorus/peloruslaw16.KeysCount", spec := "keysCount", plainKeys := false, apart := false }
def KeysCountSaid : Prop := keysCountRow.holds Try.pinned (OpenSpec.ofChange keysCountSpec)

/-- ITS FALSE NEIGHBOUR: 'it returns false'. Refute it at one input. -/
def keysCountWrong : ChangeSpec := { name := "keysCount", fn := fun _ => fun
  | [d1, d2, d3, d4] => { results := [.lit (.bool false)], args := [d1, d2, d3, d4] }
  | _ => none }
def KeysCountWrongFalsely : Prop := keysCountRow.holds Try.pinned (OpenSpec.ofChange keysCountWrong)

/-- 'peloruslaw31.SetupPlain': WHATEVER THE INPUT: true; the input reads as it did. -/
def setupPlainSpec : ChangeSpec := { name := "setupPlain", fn := fun _ => fun
  | [d1, d2] => { results := [.lit (.bool true)], args := [d1, d2] }
  | _ => none }
def setupPlainRow : OpenClaim := { program := "ytkkfdoippibfkaa", sum := "8307d208277f6ece00e6d8d70aa2f3861ce2b296a12fb1a0cb7addc1151e82db", func := "pelorus/peloruslaw31.SetupPlain", spec := "setupPlain", unfollowed := true, recurses := true, plainKeys := false, apart := false }
def SetupPlainSaid : Prop := setupPlainRow.holds Try.pinned (OpenSpec.ofChange setupPlainSpec)

/-- ITS FALSE NEIGHBOUR: 'it returns false'. Refute it at one input. -/
def setupPlainWrong : ChangeSpec := { name := "setupPlain", fn := fun _ => fun
  | [d1, d2] => { results := [.lit (.bool false)], args := [d1, d2] }
  | _ => none }
def SetupPlainWrongFalsely : Prop := setupPlainRow.holds Try.pinned (OpenSpec.ofChange setupPlainWrong)

/-- 'peloruslaw31.SetupTells': WHATEVER THE INPUT: true; the input reads as it did. -/
def setupTellsSpec : ChangeSpec := { name := "setupTells", fn := fun _ => fun
  | [d1, d2] => { results := [.lit (.bool true)], args := [d1, d2] }
  | _ => none }
def setupTellsRow : OpenClaim := { program := "ytkkfdoippibfkaa", sum := "8307d208277f6ece00e6d8d70aa2f3861ce2b296a12fb1a0cb7addc1151e82db", func := "pelorus/peloruslaw31.SetupTells", spec := "setupTells", unfollowed := true, recurses := true, plainKeys := false, apart := false }
def SetupTellsSaid : Prop := setupTellsRow.holds Try.pinned (OpenSpec.ofChange setupTellsSpec)

/-- ITS FALSE NEIGHBOUR: 'it returns false'. Refute it at one input. -/
def setupTellsWrong : ChangeSpec := { name := "setupTells", fn := fun _ => fun
  | [d1, d2] => { results := [.lit (.bool false)], args := [d1, d2] }
  | _ => none }
def SetupTellsWrongFalsely : Prop := setupTellsRow.holds Try.pinned (OpenSpec.ofChange setupTellsWrong)

/-- 'peloruslaw19.AuthSigns': WHATEVER THE INPUT: true; the input reads as it did. -/
def authSignsSpec : ChangeSpec := { name := "authSigns", fn := fun _ => fun
  | [d1, d2] => { results := [.lit (.bool true)], args := [d1, d2] }
  | _ => none }
def authSignsRow : OpenClaim := { program := "ytkkfdoippibfkaa", sum := "8307d208277f6ece00e6d8d70aa2f3861ce2b296a12fb1a0cb7addc1151e82db", func := "pelorus/peloruslaw19.AuthSigns", spec := "authSigns", unfollowed := true, recurses := true, plainKeys := false, apart := false }
def AuthSignsSaid : Prop := authSignsRow.holds Try.pinned (OpenSpec.ofChange authSignsSpec)

/-- ITS FALSE NEIGHBOUR: 'it returns false'. Refute it at one input. -/
def authSignsWrong : ChangeSpec := { name := "authSigns", fn := fun _ => fun
  | [d1, d2] => { results := [.lit (.bool false)], args := [d1, d2] }
  | _ => none }
def AuthSignsWrongFalsely : Prop := authSignsRow.holds Try.pinned (OpenSpec.ofChange authSignsWrong)

/-- 'peloruslaw16.KeysPlays': WHATEVER THE INPUT: true; the input reads as it did. -/
def keysPlaysSpec : ChangeSpec := { name := "keysPlays", fn := fun _ => fun
  | [d1, d2, d3, d4] => { results := [.lit (.bool true)], args := [d1, d2, d3, d4] }
  | _ => none }
def keysPlaysRow : OpenClaim := { program := "ytkkfdoippibfkaa", sum := "8307d208277f6ece00e6d8d70aa2f3861ce2b296a12fb1a0cb7addc1151e82db", func := "pelorus/peloruslaw16.KeysPlays", spec := "keysPlays", recurses := true, plainKeys := false, apart := false }
def KeysPlaysSaid : Prop := keysPlaysRow.holds Try.pinned (OpenSpec.ofChange keysPlaysSpec)

/-- ITS FALSE NEIGHBOUR: 'it returns false'. Refute it at one input. -/
def keysPlaysWrong : ChangeSpec := { name := "keysPlays", fn := fun _ => fun
  | [d1, d2, d3, d4] => { results := [.lit (.bool false)], args := [d1, d2, d3, d4] }
  | _ => none }
def KeysPlaysWrongFalsely : Prop := keysPlaysRow.holds Try.pinned (OpenSpec.ofChange keysPlaysWrong)

/-- 'peloruslaw16.KeysVoid': WHATEVER THE INPUT: true; the input reads as it did. -/
def keysVoidSpec : ChangeSpec := { name := "keysVoid", fn := fun _ => fun
  | [d] => { results := [.lit (.bool true)], args := [d] }
  | _ => none }
def keysVoidRow : OpenClaim := { program := "ytkkfdoippibfkaa", sum := "8307d208277f6ece00e6d8d70aa2f3861ce2b296a12fb1a0cb7addc1151e82db", func := "pelorus/peloruslaw16.KeysVoid", spec := "keysVoid", recurses := true, plainKeys := false, apart := false }
def KeysVoidSaid : Prop := keysVoidRow.holds Try.pinned (OpenSpec.ofChange keysVoidSpec)

/-- ITS FALSE NEIGHBOUR: 'it returns false'. Refute it at one input. -/
def keysVoidWrong : ChangeSpec := { name := "keysVoid", fn := fun _ => fun
  | [d] => { results := [.lit (.bool false)], args := [d] }
  | _ => none }
def KeysVoidWrongFalsely : Prop := keysVoidRow.holds Try.pinned (OpenSpec.ofChange keysVoidWrong)

/-- 'peloruslaw19.AuthVoid': WHATEVER THE INPUT: true; the input reads as it did. -/
def authVoidSpec : ChangeSpec := { name := "authVoid", fn := fun _ => fun
  | [d] => { results := [.lit (.bool true)], args := [d] }
  | _ => none }
def authVoidRow : OpenClaim := { program := "ytkkfdoippibfkaa", sum := "8307d208277f6ece00e6d8d70aa2f3861ce2b296a12fb1a0cb7addc1151e82db", func := "pelorus/peloruslaw19.AuthVoid", spec := "authVoid", unfollowed := true, recurses := true, plainKeys := false, apart := false }
def AuthVoidSaid : Prop := authVoidRow.holds Try.pinned (OpenSpec.ofChange authVoidSpec)

/-- ITS FALSE NEIGHBOUR: 'it returns false'. Refute it at one input. -/
def authVoidWrong : ChangeSpec := { name := "authVoid", fn := fun _ => fun
  | [d] => { results := [.lit (.bool false)], args := [d] }
  | _ => none }
def AuthVoidWrongFalsely : Prop := authVoidRow.holds Try.pinned (OpenSpec.ofChange authVoidWrong)

/-- 'peloruslaw36.TraceTells': WHATEVER THE INPUT: true; the input reads as it did. -/
def traceTellsSpec : ChangeSpec := { name := "traceTells", fn := fun _ => fun
  | [d1, d2, d3, d4] => { results := [.lit (.bool true)], args := [d1, d2, d3, d4] }
  | _ => none }
def traceTellsRow : OpenClaim := { program := "ytkkfdoippibfkaa", sum := "8307d208277f6ece00e6d8d70aa2f3861ce2b296a12fb1a0cb7addc1151e82db", func := "pelorus/peloruslaw36.TraceTells", spec := "traceTells", unfollowed := true, recurses := true, plainKeys := false, apart := false }
def TraceTellsSaid : Prop := traceTellsRow.holds Try.pinned (OpenSpec.ofChange traceTellsSpec)

/-- ITS FALSE NEIGHBOUR: 'it returns false'. Refute it at one input. -/
def traceTellsWrong : ChangeSpec := { name := "traceTells", fn := fun _ => fun
  | [d1, d2, d3, d4] => { results := [.lit (.bool false)], args := [d1, d2, d3, d4] }
  | _ => none }
def TraceTellsWrongFalsely : Prop := traceTellsRow.holds Try.pinned (OpenSpec.ofChange traceTellsWrong)

/- THE SECOND FORM. 'bulk': how many values and letters a reading holds, each counted each time it is reached (what is shared counts as often as it is met; a slice's spare places count too). A statement '..UptoSaid' is the law's where the arguments, and the package variables that the reading takes, are together of bulk at most 1048576: NARROWER than '..Said'. Prove '..Said' where nothing that the law and all that it calls make is longer than what came in: it says more and counts as full. Else prove '..UptoSaid'. A law counts once. -/
mutual
def uptoBulk {H : Type} : DataW H → Nat
  | .lit (.string bytes) => bytes.length + 1
  | .lit _ => 1
  | .nil => 1
  | .ptr d => uptoBulk d + 1
  | .slice elems spare => uptoBulkAll elems + uptoBulkAll spare + 1
  | .agg parts => uptoBulkAll parts + 1
  | .iface _ d => uptoBulk d + 1
  | .map entries => uptoBulkEntries entries + 1
  | .held _ => 1
def uptoBulkAll {H : Type} : List (DataW H) → Nat
  | [] => 0
  | d :: r => uptoBulk d + uptoBulkAll r
def uptoBulkEntries {H : Type} : List (Lit × DataW H) → Nat
  | [] => 0
  | x :: r => uptoBulkEntry x + uptoBulkEntries r
def uptoBulkEntry {H : Type} : Lit × DataW H → Nat
  | (.string bytes, d) => bytes.length + uptoBulk d + 1
  | (_, d) => uptoBulk d + 1
 end
def uptoSmall : (H : Type) → List (DataW H) → Bool := fun _ ds => decide (uptoBulkAll ds ≤ 1048576)
def OpenSpec.upto (s : _root_.Go.ChangeSpec) : _root_.Go.OpenSpec := { _root_.Go.OpenSpec.ofChange s with cond := some uptoSmall }

/-- 'peloruslaw16.KeysCount', WHERE WHAT IT READS IS OF BULK AT MOST 1048576: true; the input reads as it did. -/
def keysCountUptoRow : OpenClaim := { program := "ytkkfdoippibfkaa", sum := "8307d208277f6ece00e6d8d70aa2f3861ce2b296a12fb1a0cb7addc1151e82db", func := "pelorus/peloruslaw16.KeysCount", spec := "keysCount", plainKeys := false, apart := false, narrowed := true }
def KeysCountUptoSaid : Prop := keysCountUptoRow.holds Try.pinned (OpenSpec.upto keysCountSpec)

/-- 'peloruslaw31.SetupPlain', WHERE WHAT IT READS IS OF BULK AT MOST 1048576: true; the input reads as it did. -/
def setupPlainUptoRow : OpenClaim := { program := "ytkkfdoippibfkaa", sum := "8307d208277f6ece00e6d8d70aa2f3861ce2b296a12fb1a0cb7addc1151e82db", func := "pelorus/peloruslaw31.SetupPlain", spec := "setupPlain", unfollowed := true, recurses := true, plainKeys := false, apart := false, narrowed := true }
def SetupPlainUptoSaid : Prop := setupPlainUptoRow.holds Try.pinned (OpenSpec.upto setupPlainSpec)

/-- 'peloruslaw31.SetupTells', WHERE WHAT IT READS IS OF BULK AT MOST 1048576: true; the input reads as it did. -/
def setupTellsUptoRow : OpenClaim := { program := "ytkkfdoippibfkaa", sum := "8307d208277f6ece00e6d8d70aa2f3861ce2b296a12fb1a0cb7addc1151e82db", func := "pelorus/peloruslaw31.SetupTells", spec := "setupTells", unfollowed := true, recurses := true, plainKeys := false, apart := false, narrowed := true }
def SetupTellsUptoSaid : Prop := setupTellsUptoRow.holds Try.pinned (OpenSpec.upto setupTellsSpec)

/-- 'peloruslaw19.AuthSigns', WHERE WHAT IT READS IS OF BULK AT MOST 1048576: true; the input reads as it did. -/
def authSignsUptoRow : OpenClaim := { program := "ytkkfdoippibfkaa", sum := "8307d208277f6ece00e6d8d70aa2f3861ce2b296a12fb1a0cb7addc1151e82db", func := "pelorus/peloruslaw19.AuthSigns", spec := "authSigns", unfollowed := true, recurses := true, plainKeys := false, apart := false, narrowed := true }
def AuthSignsUptoSaid : Prop := authSignsUptoRow.holds Try.pinned (OpenSpec.upto authSignsSpec)

/-- 'peloruslaw16.KeysPlays', WHERE WHAT IT READS IS OF BULK AT MOST 1048576: true; the input reads as it did. -/
def keysPlaysUptoRow : OpenClaim := { program := "ytkkfdoippibfkaa", sum := "8307d208277f6ece00e6d8d70aa2f3861ce2b296a12fb1a0cb7addc1151e82db", func := "pelorus/peloruslaw16.KeysPlays", spec := "keysPlays", recurses := true, plainKeys := false, apart := false, narrowed := true }
def KeysPlaysUptoSaid : Prop := keysPlaysUptoRow.holds Try.pinned (OpenSpec.upto keysPlaysSpec)

/-- 'peloruslaw16.KeysVoid', WHERE WHAT IT READS IS OF BULK AT MOST 1048576: true; the input reads as it did. -/
def keysVoidUptoRow : OpenClaim := { program := "ytkkfdoippibfkaa", sum := "8307d208277f6ece00e6d8d70aa2f3861ce2b296a12fb1a0cb7addc1151e82db", func := "pelorus/peloruslaw16.KeysVoid", spec := "keysVoid", recurses := true, plainKeys := false, apart := false, narrowed := true }
def KeysVoidUptoSaid : Prop := keysVoidUptoRow.holds Try.pinned (OpenSpec.upto keysVoidSpec)

/-- 'peloruslaw19.AuthVoid', WHERE WHAT IT READS IS OF BULK AT MOST 1048576: true; the input reads as it did. -/
def authVoidUptoRow : OpenClaim := { program := "ytkkfdoippibfkaa", sum := "8307d208277f6ece00e6d8d70aa2f3861ce2b296a12fb1a0cb7addc1151e82db", func := "pelorus/peloruslaw19.AuthVoid", spec := "authVoid", unfollowed := true, recurses := true, plainKeys := false, apart := false, narrowed := true }
def AuthVoidUptoSaid : Prop := authVoidUptoRow.holds Try.pinned (OpenSpec.upto authVoidSpec)

/-- 'peloruslaw36.TraceTells', WHERE WHAT IT READS IS OF BULK AT MOST 1048576: true; the input reads as it did. -/
def traceTellsUptoRow : OpenClaim := { program := "ytkkfdoippibfkaa", sum := "8307d208277f6ece00e6d8d70aa2f3861ce2b296a12fb1a0cb7addc1151e82db", func := "pelorus/peloruslaw36.TraceTells", spec := "traceTells", unfollowed := true, recurses := true, plainKeys := false, apart := false, narrowed := true }
def TraceTellsUptoSaid : Prop := traceTellsUptoRow.holds Try.pinned (OpenSpec.upto traceTellsSpec)

end Rows
end Go.Proofs.Ytkkfdoippibfkaa
