/-
  DERIVED. GIVEN WITH THE SEED: THE CARDS: each row of YtlphacnnifjnpaaGreatDoorRows.lean that lists a variable, with what it lists TIED to the program's text (the seventh form; the later family's looks); each row that meets fmt, with fmt's text TOLD by the authors' own Lean function (tested against real Go, not proved from fmt's source: count such statements apart). THE CARD IS WHAT COUNTS. Prove the row's statement (the work); the ties are given (YtlphacnnifjnpaaGreatDoorTie.lean); close each card by the builder's one call (the guide's Derived/Test/ToyasCard.lean, 'card_holds'). Laid BY PROGRAM, IN A SANDBOX (cutbox-door.mjs). By AI agents, Wed Nov 11 2026. No macro, syntax, notation, axiom, sorry.
-/
import Derived.Test.YtlphacnnifjnpaaGreatDoorRows
import GoSem.ClaimSeven
namespace Go.Proofs.YtlphacnnifjnpaaGreatDoor
namespace Rows

/-- THE TIED CARD OF 'aumbrylaw20.UploadLong'. -/
def uploadLongCard : Claim7 := { stood := { row := uploadLongRow, standIns := [], harness := (true, "5b45913f2dccc2b4f7857b91dee4db681d8f78803b1a65f7336b0a6ada7e6cd6"), looks := true }, kinds := [], alts := [], laidByText := true, laidKinds := [.data, .data, .data], laidTests := true, laidLooks := .later }
def UploadLongCardSaid : Prop := Claim7.holds Tryz.pinned (.plain (OpenSpec.ofChange uploadLongSpec)) uploadLongCard

/-- THE SECOND FORM's CARD OF 'aumbrylaw20.UploadLong'. -/
def uploadLongUptoCard : Claim7 := { stood := { row := uploadLongUptoRow, standIns := [], harness := (true, "5b45913f2dccc2b4f7857b91dee4db681d8f78803b1a65f7336b0a6ada7e6cd6"), looks := true }, kinds := [], alts := [], laidByText := true, laidKinds := [.data, .data, .data], laidTests := true, laidLooks := .later }
def UploadLongUptoCardSaid : Prop := Claim7.holds Tryz.pinned (.plain (OpenSpec.upto uploadLongSpec)) uploadLongUptoCard
end Rows
end Go.Proofs.YtlphacnnifjnpaaGreatDoor
