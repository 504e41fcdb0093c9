/-
  DERIVED. GIVEN WITH THE SEED: THE CARDS: each row of YtbdhdandljfkfaaGreatDoorRows.lean that lists a variable, with what it lists TIED to the program's text (the seventh form; the later family's looks); each row that meets fmt, with fmt's text TOLD by the authors' own Lean function (tested against real Go, not proved from fmt's source: count such statements apart). THE CARD IS WHAT COUNTS. Prove the row's statement (the work); the ties are given (YtbdhdandljfkfaaGreatDoorTie.lean); close each card by the builder's one call (the guide's Derived/Test/ToyasCard.lean, 'card_holds'). Laid BY PROGRAM, IN A SANDBOX (cutbox-door.mjs). By AI agents, Wed Nov 11 2026. No macro, syntax, notation, axiom, sorry.
-/
import Derived.Test.YtbdhdandljfkfaaGreatDoorRows
import GoSem.ClaimSeven
namespace Go.Proofs.YtbdhdandljfkfaaGreatDoor
namespace Rows

/-- THE TIED CARD OF 'aumbrylaw20.UploadEncodes'. -/
def uploadEncodesCard : Claim7 := { stood := { row := uploadEncodesRow, standIns := [], harness := (true, "8da46a3352d169d0342037813daddbe740864be0b9dfeb555ff2ddda2897f518"), looks := true }, kinds := [], alts := [], laidByText := true, laidKinds := [.data, .data, .data], laidTests := true, laidLooks := .later }
def UploadEncodesCardSaid : Prop := Claim7.holds Tryz.pinned (.plain (OpenSpec.ofChange uploadEncodesSpec)) uploadEncodesCard

/-- THE SECOND FORM's CARD OF 'aumbrylaw20.UploadEncodes'. -/
def uploadEncodesUptoCard : Claim7 := { stood := { row := uploadEncodesUptoRow, standIns := [], harness := (true, "8da46a3352d169d0342037813daddbe740864be0b9dfeb555ff2ddda2897f518"), looks := true }, kinds := [], alts := [], laidByText := true, laidKinds := [.data, .data, .data], laidTests := true, laidLooks := .later }
def UploadEncodesUptoCardSaid : Prop := Claim7.holds Tryz.pinned (.plain (OpenSpec.upto uploadEncodesSpec)) uploadEncodesUptoCard
end Rows
end Go.Proofs.YtbdhdandljfkfaaGreatDoor
