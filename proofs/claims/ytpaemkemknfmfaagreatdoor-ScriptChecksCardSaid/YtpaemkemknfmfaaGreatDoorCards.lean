/-
  DERIVED. GIVEN WITH THE SEED: THE CARDS: each row of YtpaemkemknfmfaaGreatDoorRows.lean that lists a variable, with what it lists TIED to the program's text (the seventh form; the later family's looks); each row that meets fmt, with fmt's text TOLD by the authors' own Lean function (tested against real Go, not proved from fmt's source: count such statements apart). THE CARD IS WHAT COUNTS. Prove the row's statement (the work); the ties are given (YtpaemkemknfmfaaGreatDoorTie.lean); close each card by the builder's one call (the guide's Derived/Test/ToyasCard.lean, 'card_holds'). Laid BY PROGRAM, IN A SANDBOX (cutbox-door.mjs). By AI agents, Wed Nov 11 2026. No macro, syntax, notation, axiom, sorry.
-/
import Derived.Test.YtpaemkemknfmfaaGreatDoorRows
import GoSem.ClaimSeven
namespace Go.Proofs.YtpaemkemknfmfaaGreatDoor
namespace Rows

/-- THE TIED CARD OF 'peloruslaw34.ScriptChecks'. -/
def scriptChecksCard : Claim7 := { stood := { row := scriptChecksRow, standIns := [], harness := (true, "7acff84b4cc4bc40c6e4c49c6d47400291806298ae673f41a05aeb0f04a6879a"), looks := true }, kinds := [], alts := [], laidByText := true, laidKinds := [.data, .data, .data, .data, .sentinel, .sentinel, .pinned], laidTests := true, laidLooks := .later }
def ScriptChecksCardSaid : Prop := Claim7.holds Tryz.pinned (.plain (OpenSpec.ofChange scriptChecksSpec)) scriptChecksCard

/-- THE SECOND FORM's CARD OF 'peloruslaw34.ScriptChecks'. -/
def scriptChecksUptoCard : Claim7 := { stood := { row := scriptChecksUptoRow, standIns := [], harness := (true, "7acff84b4cc4bc40c6e4c49c6d47400291806298ae673f41a05aeb0f04a6879a"), looks := true }, kinds := [], alts := [], laidByText := true, laidKinds := [.data, .data, .data, .data, .sentinel, .sentinel, .pinned], laidTests := true, laidLooks := .later }
def ScriptChecksUptoCardSaid : Prop := Claim7.holds Tryz.pinned (.plain (OpenSpec.upto scriptChecksSpec)) scriptChecksUptoCard
end Rows
end Go.Proofs.YtpaemkemknfmfaaGreatDoor
