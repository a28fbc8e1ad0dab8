/-
  No cell of these rows narrows 'for every input' (looked for: loops, veiled, ifaces, maps, wideKeys, modest, calm, conditions, laid).
  DERIVED. THE GIVEN ROWS OF THIS SEAT. 12 by the template 'for every input the law returns true; each argument reads behind the call as it read before'; 0 by the template 'total and deterministic' (their statements: YtpokocnnaendaaaTotals.lean).
  GIVEN WITH THE SEED: the statements are not yours to turn. If you find one false, say at which input.
  Laid BY PROGRAM, IN A SANDBOX (cutbox-rows.mjs): the forced cells as the released guide's own fill.sh prints them over the translation 93c28d1b6952f852… (all of the seat's roots in one cut). By AI agents, Wed Nov 11 2026. No macro, syntax, notation, axiom, sorry.
-/
import Derived.Test.YtpokocnnaendaaaChecked
import GoSem.Claim
import GoSem.ClaimJoined
import GoSem.ClaimMapViews
import Derived.JoinedTies
import Derived.KernelRfl
namespace Go.Proofs.Ytpokocnnaendaaa
/- THE CELL 'sum', in the pinned program and in every row, IS THE sha256 OF THE DUMP (.gsa) THAT YtpokocnnaendaaaProg.lean LOADS. Nothing in Lean hashes anything: it is a label: what it is worth is what the hold of that sum in a sandbox is worth. -/
noncomputable def Try.pinned : Pinned := { name := "ytpokocnnaendaaa", sum := "93c28d1b6952f85288a0240a0116050786736bcfd98c96955570f800ffd02c87", checked := Try.checked }
namespace Rows
def none {H : Type} : Left H := { results := [], args := [] }

/-- 'peloruslaw08.HashOf': WHATEVER THE INPUT: true; the input reads as it did. -/
def hashOfSpec : ChangeSpec := { name := "hashOf", fn := fun _ => fun
  | [d] => { results := [.lit (.bool true)], args := [d] }
  | _ => none }
def hashOfRow : OpenClaim := { program := "ytpokocnnaendaaa", sum := "93c28d1b6952f85288a0240a0116050786736bcfd98c96955570f800ffd02c87", func := "pelorus/peloruslaw08.HashOf", spec := "hashOf", apart := false }
def HashOfSaid : Prop := hashOfRow.holds Try.pinned (OpenSpec.ofChange hashOfSpec)

/-- ITS FALSE NEIGHBOUR: 'it returns false'. Refute it at one input. -/
def hashOfWrong : ChangeSpec := { name := "hashOf", fn := fun _ => fun
  | [d] => { results := [.lit (.bool false)], args := [d] }
  | _ => none }
def HashOfWrongFalsely : Prop := hashOfRow.holds Try.pinned (OpenSpec.ofChange hashOfWrong)

/-- 'peloruslaw08.HashPieces': WHATEVER THE INPUT: true; the input reads as it did. -/
def hashPiecesSpec : ChangeSpec := { name := "hashPieces", fn := fun _ => fun
  | [d1, d2] => { results := [.lit (.bool true)], args := [d1, d2] }
  | _ => none }
def hashPiecesRow : OpenClaim := { program := "ytpokocnnaendaaa", sum := "93c28d1b6952f85288a0240a0116050786736bcfd98c96955570f800ffd02c87", func := "pelorus/peloruslaw08.HashPieces", spec := "hashPieces", apart := false }
def HashPiecesSaid : Prop := hashPiecesRow.holds Try.pinned (OpenSpec.ofChange hashPiecesSpec)

/-- ITS FALSE NEIGHBOUR: 'it returns false'. Refute it at one input. -/
def hashPiecesWrong : ChangeSpec := { name := "hashPieces", fn := fun _ => fun
  | [d1, d2] => { results := [.lit (.bool false)], args := [d1, d2] }
  | _ => none }
def HashPiecesWrongFalsely : Prop := hashPiecesRow.holds Try.pinned (OpenSpec.ofChange hashPiecesWrong)

/-- 'peloruslaw08.HashWrites': WHATEVER THE INPUT: true; the input reads as it did. -/
def hashWritesSpec : ChangeSpec := { name := "hashWrites", fn := fun _ => fun
  | [d1, d2] => { results := [.lit (.bool true)], args := [d1, d2] }
  | _ => none }
def hashWritesRow : OpenClaim := { program := "ytpokocnnaendaaa", sum := "93c28d1b6952f85288a0240a0116050786736bcfd98c96955570f800ffd02c87", func := "pelorus/peloruslaw08.HashWrites", spec := "hashWrites", apart := false }
def HashWritesSaid : Prop := hashWritesRow.holds Try.pinned (OpenSpec.ofChange hashWritesSpec)

/-- ITS FALSE NEIGHBOUR: 'it returns false'. Refute it at one input. -/
def hashWritesWrong : ChangeSpec := { name := "hashWrites", fn := fun _ => fun
  | [d1, d2] => { results := [.lit (.bool false)], args := [d1, d2] }
  | _ => none }
def HashWritesWrongFalsely : Prop := hashWritesRow.holds Try.pinned (OpenSpec.ofChange hashWritesWrong)

/-- 'peloruslaw08.HashVoid': WHATEVER THE INPUT: true; the input reads as it did. -/
def hashVoidSpec : ChangeSpec := { name := "hashVoid", fn := fun _ => fun
  | [d] => { results := [.lit (.bool true)], args := [d] }
  | _ => none }
def hashVoidRow : OpenClaim := { program := "ytpokocnnaendaaa", sum := "93c28d1b6952f85288a0240a0116050786736bcfd98c96955570f800ffd02c87", func := "pelorus/peloruslaw08.HashVoid", spec := "hashVoid", apart := false }
def HashVoidSaid : Prop := hashVoidRow.holds Try.pinned (OpenSpec.ofChange hashVoidSpec)

/-- ITS FALSE NEIGHBOUR: 'it returns false'. Refute it at one input. -/
def hashVoidWrong : ChangeSpec := { name := "hashVoid", fn := fun _ => fun
  | [d] => { results := [.lit (.bool false)], args := [d] }
  | _ => none }
def HashVoidWrongFalsely : Prop := hashVoidRow.holds Try.pinned (OpenSpec.ofChange hashVoidWrong)

/-- 'peloruslaw10.ChainWalks': WHATEVER THE INPUT: true; the input reads as it did. -/
def chainWalksSpec : ChangeSpec := { name := "chainWalks", fn := fun _ => fun
  | [d1, d2, d3] => { results := [.lit (.bool true)], args := [d1, d2, d3] }
  | _ => none }
def chainWalksRow : OpenClaim := { program := "ytpokocnnaendaaa", sum := "93c28d1b6952f85288a0240a0116050786736bcfd98c96955570f800ffd02c87", func := "pelorus/peloruslaw10.ChainWalks", spec := "chainWalks", apart := false }
def ChainWalksSaid : Prop := chainWalksRow.holds Try.pinned (OpenSpec.ofChange chainWalksSpec)

/-- ITS FALSE NEIGHBOUR: 'it returns false'. Refute it at one input. -/
def chainWalksWrong : ChangeSpec := { name := "chainWalks", fn := fun _ => fun
  | [d1, d2, d3] => { results := [.lit (.bool false)], args := [d1, d2, d3] }
  | _ => none }
def ChainWalksWrongFalsely : Prop := chainWalksRow.holds Try.pinned (OpenSpec.ofChange chainWalksWrong)

/-- 'peloruslaw10.ChainSteps': WHATEVER THE INPUT: true; the input reads as it did. -/
def chainStepsSpec : ChangeSpec := { name := "chainSteps", fn := fun _ => fun
  | [d1, d2, d3] => { results := [.lit (.bool true)], args := [d1, d2, d3] }
  | _ => none }
def chainStepsRow : OpenClaim := { program := "ytpokocnnaendaaa", sum := "93c28d1b6952f85288a0240a0116050786736bcfd98c96955570f800ffd02c87", func := "pelorus/peloruslaw10.ChainSteps", spec := "chainSteps", apart := false }
def ChainStepsSaid : Prop := chainStepsRow.holds Try.pinned (OpenSpec.ofChange chainStepsSpec)

/-- ITS FALSE NEIGHBOUR: 'it returns false'. Refute it at one input. -/
def chainStepsWrong : ChangeSpec := { name := "chainSteps", fn := fun _ => fun
  | [d1, d2, d3] => { results := [.lit (.bool false)], args := [d1, d2, d3] }
  | _ => none }
def ChainStepsWrongFalsely : Prop := chainStepsRow.holds Try.pinned (OpenSpec.ofChange chainStepsWrong)

/-- 'peloruslaw10.ChainDerives': WHATEVER THE INPUT: true; the input reads as it did. -/
def chainDerivesSpec : ChangeSpec := { name := "chainDerives", fn := fun _ => fun
  | [d1, d2, d3] => { results := [.lit (.bool true)], args := [d1, d2, d3] }
  | _ => none }
def chainDerivesRow : OpenClaim := { program := "ytpokocnnaendaaa", sum := "93c28d1b6952f85288a0240a0116050786736bcfd98c96955570f800ffd02c87", func := "pelorus/peloruslaw10.ChainDerives", spec := "chainDerives", apart := false }
def ChainDerivesSaid : Prop := chainDerivesRow.holds Try.pinned (OpenSpec.ofChange chainDerivesSpec)

/-- ITS FALSE NEIGHBOUR: 'it returns false'. Refute it at one input. -/
def chainDerivesWrong : ChangeSpec := { name := "chainDerives", fn := fun _ => fun
  | [d1, d2, d3] => { results := [.lit (.bool false)], args := [d1, d2, d3] }
  | _ => none }
def ChainDerivesWrongFalsely : Prop := chainDerivesRow.holds Try.pinned (OpenSpec.ofChange chainDerivesWrong)

/-- 'peloruslaw10.ChainFinds': WHATEVER THE INPUT: true; the input reads as it did. -/
def chainFindsSpec : ChangeSpec := { name := "chainFinds", fn := fun _ => fun
  | [d1, d2, d3, d4] => { results := [.lit (.bool true)], args := [d1, d2, d3, d4] }
  | _ => none }
def chainFindsRow : OpenClaim := { program := "ytpokocnnaendaaa", sum := "93c28d1b6952f85288a0240a0116050786736bcfd98c96955570f800ffd02c87", func := "pelorus/peloruslaw10.ChainFinds", spec := "chainFinds", apart := false }
def ChainFindsSaid : Prop := chainFindsRow.holds Try.pinned (OpenSpec.ofChange chainFindsSpec)

/-- ITS FALSE NEIGHBOUR: 'it returns false'. Refute it at one input. -/
def chainFindsWrong : ChangeSpec := { name := "chainFinds", fn := fun _ => fun
  | [d1, d2, d3, d4] => { results := [.lit (.bool false)], args := [d1, d2, d3, d4] }
  | _ => none }
def ChainFindsWrongFalsely : Prop := chainFindsRow.holds Try.pinned (OpenSpec.ofChange chainFindsWrong)

/-- 'peloruslaw09.MacCodes': WHATEVER THE INPUT: true; the input reads as it did. -/
def macCodesSpec : ChangeSpec := { name := "macCodes", fn := fun _ => fun
  | [d1, d2, d3, d4] => { results := [.lit (.bool true)], args := [d1, d2, d3, d4] }
  | _ => none }
def macCodesRow : OpenClaim := { program := "ytpokocnnaendaaa", sum := "93c28d1b6952f85288a0240a0116050786736bcfd98c96955570f800ffd02c87", func := "pelorus/peloruslaw09.MacCodes", spec := "macCodes", apart := false }
def MacCodesSaid : Prop := macCodesRow.holds Try.pinned (OpenSpec.ofChange macCodesSpec)

/-- ITS FALSE NEIGHBOUR: 'it returns false'. Refute it at one input. -/
def macCodesWrong : ChangeSpec := { name := "macCodes", fn := fun _ => fun
  | [d1, d2, d3, d4] => { results := [.lit (.bool false)], args := [d1, d2, d3, d4] }
  | _ => none }
def MacCodesWrongFalsely : Prop := macCodesRow.holds Try.pinned (OpenSpec.ofChange macCodesWrong)

/-- 'peloruslaw09.MacPieces': WHATEVER THE INPUT: true; the input reads as it did. -/
def macPiecesSpec : ChangeSpec := { name := "macPieces", fn := fun _ => fun
  | [d1, d2, d3, d4] => { results := [.lit (.bool true)], args := [d1, d2, d3, d4] }
  | _ => none }
def macPiecesRow : OpenClaim := { program := "ytpokocnnaendaaa", sum := "93c28d1b6952f85288a0240a0116050786736bcfd98c96955570f800ffd02c87", func := "pelorus/peloruslaw09.MacPieces", spec := "macPieces", apart := false }
def MacPiecesSaid : Prop := macPiecesRow.holds Try.pinned (OpenSpec.ofChange macPiecesSpec)

/-- ITS FALSE NEIGHBOUR: 'it returns false'. Refute it at one input. -/
def macPiecesWrong : ChangeSpec := { name := "macPieces", fn := fun _ => fun
  | [d1, d2, d3, d4] => { results := [.lit (.bool false)], args := [d1, d2, d3, d4] }
  | _ => none }
def MacPiecesWrongFalsely : Prop := macPiecesRow.holds Try.pinned (OpenSpec.ofChange macPiecesWrong)

/-- 'peloruslaw09.MacTurned': WHATEVER THE INPUT: true; the input reads as it did. -/
def macTurnedSpec : ChangeSpec := { name := "macTurned", fn := fun _ => fun
  | [d1, d2, d3, d4] => { results := [.lit (.bool true)], args := [d1, d2, d3, d4] }
  | _ => none }
def macTurnedRow : OpenClaim := { program := "ytpokocnnaendaaa", sum := "93c28d1b6952f85288a0240a0116050786736bcfd98c96955570f800ffd02c87", func := "pelorus/peloruslaw09.MacTurned", spec := "macTurned", apart := false }
def MacTurnedSaid : Prop := macTurnedRow.holds Try.pinned (OpenSpec.ofChange macTurnedSpec)

/-- ITS FALSE NEIGHBOUR: 'it returns false'. Refute it at one input. -/
def macTurnedWrong : ChangeSpec := { name := "macTurned", fn := fun _ => fun
  | [d1, d2, d3, d4] => { results := [.lit (.bool false)], args := [d1, d2, d3, d4] }
  | _ => none }
def MacTurnedWrongFalsely : Prop := macTurnedRow.holds Try.pinned (OpenSpec.ofChange macTurnedWrong)

/-- 'peloruslaw09.MacEqual': WHATEVER THE INPUT: true; the input reads as it did. -/
def macEqualSpec : ChangeSpec := { name := "macEqual", fn := fun _ => fun
  | [d1, d2] => { results := [.lit (.bool true)], args := [d1, d2] }
  | _ => none }
def macEqualRow : OpenClaim := { program := "ytpokocnnaendaaa", sum := "93c28d1b6952f85288a0240a0116050786736bcfd98c96955570f800ffd02c87", func := "pelorus/peloruslaw09.MacEqual", spec := "macEqual", apart := false }
def MacEqualSaid : Prop := macEqualRow.holds Try.pinned (OpenSpec.ofChange macEqualSpec)

/-- ITS FALSE NEIGHBOUR: 'it returns false'. Refute it at one input. -/
def macEqualWrong : ChangeSpec := { name := "macEqual", fn := fun _ => fun
  | [d1, d2] => { results := [.lit (.bool false)], args := [d1, d2] }
  | _ => none }
def MacEqualWrongFalsely : Prop := macEqualRow.holds Try.pinned (OpenSpec.ofChange macEqualWrong)

/- THE SECOND FORM. 'bulk': how many values and letters a reading holds, each counted each time it is reached (what is shared counts as often as it is met; a slice's spare places count too). A statement '..UptoSaid' is the law's where the arguments, and the package variables that the reading takes, are together of bulk at most 1048576: NARROWER than '..Said'. Prove '..Said' where nothing that the law and all that it calls make is longer than what came in: it says more and counts as full. Else prove '..UptoSaid'. A law counts once. -/
mutual
def uptoBulk {H : Type} : DataW H → Nat
  | .lit (.string bytes) => bytes.length + 1
  | .lit _ => 1
  | .nil => 1
  | .ptr d => uptoBulk d + 1
  | .slice elems spare => uptoBulkAll elems + uptoBulkAll spare + 1
  | .agg parts => uptoBulkAll parts + 1
  | .iface _ d => uptoBulk d + 1
  | .map entries => uptoBulkEntries entries + 1
  | .held _ => 1
def uptoBulkAll {H : Type} : List (DataW H) → Nat
  | [] => 0
  | d :: r => uptoBulk d + uptoBulkAll r
def uptoBulkEntries {H : Type} : List (Lit × DataW H) → Nat
  | [] => 0
  | x :: r => uptoBulkEntry x + uptoBulkEntries r
def uptoBulkEntry {H : Type} : Lit × DataW H → Nat
  | (.string bytes, d) => bytes.length + uptoBulk d + 1
  | (_, d) => uptoBulk d + 1
 end
def uptoSmall : (H : Type) → List (DataW H) → Bool := fun _ ds => decide (uptoBulkAll ds ≤ 1048576)
def OpenSpec.upto (s : _root_.Go.ChangeSpec) : _root_.Go.OpenSpec := { _root_.Go.OpenSpec.ofChange s with cond := some uptoSmall }

/-- 'peloruslaw08.HashOf', WHERE WHAT IT READS IS OF BULK AT MOST 1048576: true; the input reads as it did. -/
def hashOfUptoRow : OpenClaim := { program := "ytpokocnnaendaaa", sum := "93c28d1b6952f85288a0240a0116050786736bcfd98c96955570f800ffd02c87", func := "pelorus/peloruslaw08.HashOf", spec := "hashOf", apart := false, narrowed := true }
def HashOfUptoSaid : Prop := hashOfUptoRow.holds Try.pinned (OpenSpec.upto hashOfSpec)

/-- 'peloruslaw08.HashPieces', WHERE WHAT IT READS IS OF BULK AT MOST 1048576: true; the input reads as it did. -/
def hashPiecesUptoRow : OpenClaim := { program := "ytpokocnnaendaaa", sum := "93c28d1b6952f85288a0240a0116050786736bcfd98c96955570f800ffd02c87", func := "pelorus/peloruslaw08.HashPieces", spec := "hashPieces", apart := false, narrowed := true }
def HashPiecesUptoSaid : Prop := hashPiecesUptoRow.holds Try.pinned (OpenSpec.upto hashPiecesSpec)

/-- 'peloruslaw08.HashWrites', WHERE WHAT IT READS IS OF BULK AT MOST 1048576: true; the input reads as it did. -/
def hashWritesUptoRow : OpenClaim := { program := "ytpokocnnaendaaa", sum := "93c28d1b6952f85288a0240a0116050786736bcfd98c96955570f800ffd02c87", func := "pelorus/peloruslaw08.HashWrites", spec := "hashWrites", apart := false, narrowed := true }
def HashWritesUptoSaid : Prop := hashWritesUptoRow.holds Try.pinned (OpenSpec.upto hashWritesSpec)

/-- 'peloruslaw08.HashVoid', WHERE WHAT IT READS IS OF BULK AT MOST 1048576: true; the input reads as it did. -/
def hashVoidUptoRow : OpenClaim := { program := "ytpokocnnaendaaa", sum := "93c28d1b6952f85288a0240a0116050786736bcfd98c96955570f800ffd02c87", func := "pelorus/peloruslaw08.HashVoid", spec := "hashVoid", apart := false, narrowed := true }
def HashVoidUptoSaid : Prop := hashVoidUptoRow.holds Try.pinned (OpenSpec.upto hashVoidSpec)

/-- 'peloruslaw10.ChainWalks', WHERE WHAT IT READS IS OF BULK AT MOST 1048576: true; the input reads as it did. -/
def chainWalksUptoRow : OpenClaim := { program := "ytpokocnnaendaaa", sum := "93c28d1b6952f85288a0240a0116050786736bcfd98c96955570f800ffd02c87", func := "pelorus/peloruslaw10.ChainWalks", spec := "chainWalks", apart := false, narrowed := true }
def ChainWalksUptoSaid : Prop := chainWalksUptoRow.holds Try.pinned (OpenSpec.upto chainWalksSpec)

/-- 'peloruslaw10.ChainSteps', WHERE WHAT IT READS IS OF BULK AT MOST 1048576: true; the input reads as it did. -/
def chainStepsUptoRow : OpenClaim := { program := "ytpokocnnaendaaa", sum := "93c28d1b6952f85288a0240a0116050786736bcfd98c96955570f800ffd02c87", func := "pelorus/peloruslaw10.ChainSteps", spec := "chainSteps", apart := false, narrowed := true }
def ChainStepsUptoSaid : Prop := chainStepsUptoRow.holds Try.pinned (OpenSpec.upto chainStepsSpec)

/-- 'peloruslaw10.ChainDerives', WHERE WHAT IT READS IS OF BULK AT MOST 1048576: true; the input reads as it did. -/
def chainDerivesUptoRow : OpenClaim := { program := "ytpokocnnaendaaa", sum := "93c28d1b6952f85288a0240a0116050786736bcfd98c96955570f800ffd02c87", func := "pelorus/peloruslaw10.ChainDerives", spec := "chainDerives", apart := false, narrowed := true }
def ChainDerivesUptoSaid : Prop := chainDerivesUptoRow.holds Try.pinned (OpenSpec.upto chainDerivesSpec)

/-- 'peloruslaw10.ChainFinds', WHERE WHAT IT READS IS OF BULK AT MOST 1048576: true; the input reads as it did. -/
def chainFindsUptoRow : OpenClaim := { program := "ytpokocnnaendaaa", sum := "93c28d1b6952f85288a0240a0116050786736bcfd98c96955570f800ffd02c87", func := "pelorus/peloruslaw10.ChainFinds", spec := "chainFinds", apart := false, narrowed := true }
def ChainFindsUptoSaid : Prop := chainFindsUptoRow.holds Try.pinned (OpenSpec.upto chainFindsSpec)

/-- 'peloruslaw09.MacCodes', WHERE WHAT IT READS IS OF BULK AT MOST 1048576: true; the input reads as it did. -/
def macCodesUptoRow : OpenClaim := { program := "ytpokocnnaendaaa", sum := "93c28d1b6952f85288a0240a0116050786736bcfd98c96955570f800ffd02c87", func := "pelorus/peloruslaw09.MacCodes", spec := "macCodes", apart := false, narrowed := true }
def MacCodesUptoSaid : Prop := macCodesUptoRow.holds Try.pinned (OpenSpec.upto macCodesSpec)

/-- 'peloruslaw09.MacPieces', WHERE WHAT IT READS IS OF BULK AT MOST 1048576: true; the input reads as it did. -/
def macPiecesUptoRow : OpenClaim := { program := "ytpokocnnaendaaa", sum := "93c28d1b6952f85288a0240a0116050786736bcfd98c96955570f800ffd02c87", func := "pelorus/peloruslaw09.MacPieces", spec := "macPieces", apart := false, narrowed := true }
def MacPiecesUptoSaid : Prop := macPiecesUptoRow.holds Try.pinned (OpenSpec.upto macPiecesSpec)

/-- 'peloruslaw09.MacTurned', WHERE WHAT IT READS IS OF BULK AT MOST 1048576: true; the input reads as it did. -/
def macTurnedUptoRow : OpenClaim := { program := "ytpokocnnaendaaa", sum := "93c28d1b6952f85288a0240a0116050786736bcfd98c96955570f800ffd02c87", func := "pelorus/peloruslaw09.MacTurned", spec := "macTurned", apart := false, narrowed := true }
def MacTurnedUptoSaid : Prop := macTurnedUptoRow.holds Try.pinned (OpenSpec.upto macTurnedSpec)

/-- 'peloruslaw09.MacEqual', WHERE WHAT IT READS IS OF BULK AT MOST 1048576: true; the input reads as it did. -/
def macEqualUptoRow : OpenClaim := { program := "ytpokocnnaendaaa", sum := "93c28d1b6952f85288a0240a0116050786736bcfd98c96955570f800ffd02c87", func := "pelorus/peloruslaw09.MacEqual", spec := "macEqual", apart := false, narrowed := true }
def MacEqualUptoSaid : Prop := macEqualUptoRow.holds Try.pinned (OpenSpec.upto macEqualSpec)

end Rows
end Go.Proofs.Ytpokocnnaendaaa
