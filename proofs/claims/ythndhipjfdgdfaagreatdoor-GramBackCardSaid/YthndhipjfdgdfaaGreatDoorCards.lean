/-
  DERIVED. GIVEN WITH THE SEED: THE CARDS: each row of YthndhipjfdgdfaaGreatDoorRows.lean that lists a variable, with what it lists TIED to the program's text (the seventh form; the later family's looks); each row that meets fmt, with fmt's text TOLD by the authors' own Lean function (tested against real Go, not proved from fmt's source: count such statements apart). THE CARD IS WHAT COUNTS. Prove the row's statement (the work); the ties are given (YthndhipjfdgdfaaGreatDoorTie.lean); close each card by the builder's one call (the guide's Derived/Test/ToyasCard.lean, 'card_holds'). Laid BY PROGRAM, IN A SANDBOX (cutbox-door.mjs). By AI agents, Wed Nov 11 2026. No macro, syntax, notation, axiom, sorry.
-/
import Derived.Test.YthndhipjfdgdfaaGreatDoorRows
import GoSem.ClaimSeven
namespace Go.Proofs.YthndhipjfdgdfaaGreatDoor
namespace Rows

/-- THE TIED CARD OF 'peloruslaw38.GramPrints'. -/
def gramPrintsCard : Claim7 := { stood := { row := gramPrintsRow, standIns := [], harness := (true, "184a7101ac518d7d032b41db89d14d767819f056da6597c17c445c462912de25"), looks := true }, kinds := [], alts := [], laidByText := true, laidKinds := [.data, .data, .data, .data, .sentinel, .sentinel, .pinned], laidTests := true, laidLooks := .later }
def GramPrintsCardSaid : Prop := Claim7.holds Tryz.pinned (.plain (OpenSpec.ofChange gramPrintsSpec)) gramPrintsCard

/-- THE TIED CARD OF 'peloruslaw38.GramReads'. -/
def gramReadsCard : Claim7 := { stood := { row := gramReadsRow, standIns := [], harness := (true, "184a7101ac518d7d032b41db89d14d767819f056da6597c17c445c462912de25"), looks := true }, kinds := [], alts := [], laidByText := true, laidKinds := [.data, .data, .data, .data, .sentinel, .sentinel, .pinned], laidTests := true, laidLooks := .later }
def GramReadsCardSaid : Prop := Claim7.holds Tryz.pinned (.plain (OpenSpec.ofChange gramReadsSpec)) gramReadsCard

/-- THE TIED CARD OF 'peloruslaw38.GramBack'. -/
def gramBackCard : Claim7 := { stood := { row := gramBackRow, standIns := [], harness := (true, "184a7101ac518d7d032b41db89d14d767819f056da6597c17c445c462912de25"), looks := true }, kinds := [], alts := [], laidByText := true, laidKinds := [.data, .data, .data, .data, .sentinel, .sentinel, .pinned], laidTests := true, laidLooks := .later }
def GramBackCardSaid : Prop := Claim7.holds Tryz.pinned (.plain (OpenSpec.ofChange gramBackSpec)) gramBackCard

/-- THE SECOND FORM's CARD OF 'peloruslaw38.GramPrints'. -/
def gramPrintsUptoCard : Claim7 := { stood := { row := gramPrintsUptoRow, standIns := [], harness := (true, "184a7101ac518d7d032b41db89d14d767819f056da6597c17c445c462912de25"), looks := true }, kinds := [], alts := [], laidByText := true, laidKinds := [.data, .data, .data, .data, .sentinel, .sentinel, .pinned], laidTests := true, laidLooks := .later }
def GramPrintsUptoCardSaid : Prop := Claim7.holds Tryz.pinned (.plain (OpenSpec.upto gramPrintsSpec)) gramPrintsUptoCard

/-- THE SECOND FORM's CARD OF 'peloruslaw38.GramReads'. -/
def gramReadsUptoCard : Claim7 := { stood := { row := gramReadsUptoRow, standIns := [], harness := (true, "184a7101ac518d7d032b41db89d14d767819f056da6597c17c445c462912de25"), looks := true }, kinds := [], alts := [], laidByText := true, laidKinds := [.data, .data, .data, .data, .sentinel, .sentinel, .pinned], laidTests := true, laidLooks := .later }
def GramReadsUptoCardSaid : Prop := Claim7.holds Tryz.pinned (.plain (OpenSpec.upto gramReadsSpec)) gramReadsUptoCard

/-- THE SECOND FORM's CARD OF 'peloruslaw38.GramBack'. -/
def gramBackUptoCard : Claim7 := { stood := { row := gramBackUptoRow, standIns := [], harness := (true, "184a7101ac518d7d032b41db89d14d767819f056da6597c17c445c462912de25"), looks := true }, kinds := [], alts := [], laidByText := true, laidKinds := [.data, .data, .data, .data, .sentinel, .sentinel, .pinned], laidTests := true, laidLooks := .later }
def GramBackUptoCardSaid : Prop := Claim7.holds Tryz.pinned (.plain (OpenSpec.upto gramBackSpec)) gramBackUptoCard
end Rows
end Go.Proofs.YthndhipjfdgdfaaGreatDoor
