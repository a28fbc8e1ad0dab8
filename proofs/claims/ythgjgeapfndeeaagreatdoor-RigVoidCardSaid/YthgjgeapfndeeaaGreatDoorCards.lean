/-
  DERIVED. GIVEN WITH THE SEED: THE CARDS: each row of YthgjgeapfndeeaaGreatDoorRows.lean that lists a variable, with what it lists TIED to the program's text (the seventh form; the later family's looks); each row that meets fmt, with fmt's text TOLD by the authors' own Lean function (tested against real Go, not proved from fmt's source: count such statements apart). THE CARD IS WHAT COUNTS. Prove the row's statement (the work); the ties are given (YthgjgeapfndeeaaGreatDoorTie.lean); close each card by the builder's one call (the guide's Derived/Test/ToyasCard.lean, 'card_holds'). Laid BY PROGRAM, IN A SANDBOX (cutbox-door.mjs). By AI agents, Wed Nov 11 2026. No macro, syntax, notation, axiom, sorry.
-/
import Derived.Test.YthgjgeapfndeeaaGreatDoorRows
import GoSem.ClaimSeven
namespace Go.Proofs.YthgjgeapfndeeaaGreatDoor
namespace Rows

/-- THE TIED CARD OF 'peloruslaw39.RigVoid'. -/
def rigVoidCard : Claim7 := { stood := { row := rigVoidRow, standIns := [], harness := (true, "9306f9c4cfb54bcc31005ea86438aecc400c668cbca21844052034f6264e7559"), looks := false }, kinds := [], alts := [], laidByText := true, laidKinds := [.data, .data, .data], laidTests := true, laidLooks := .later }
def RigVoidCardSaid : Prop := Claim7.holds Tryz.pinned (.plain (OpenSpec.ofChange rigVoidSpec)) rigVoidCard

/-- THE SECOND FORM's CARD OF 'peloruslaw39.RigVoid'. -/
def rigVoidUptoCard : Claim7 := { stood := { row := rigVoidUptoRow, standIns := [], harness := (true, "9306f9c4cfb54bcc31005ea86438aecc400c668cbca21844052034f6264e7559"), looks := false }, kinds := [], alts := [], laidByText := true, laidKinds := [.data, .data, .data], laidTests := true, laidLooks := .later }
def RigVoidUptoCardSaid : Prop := Claim7.holds Tryz.pinned (.plain (OpenSpec.upto rigVoidSpec)) rigVoidUptoCard
end Rows
end Go.Proofs.YthgjgeapfndeeaaGreatDoor
