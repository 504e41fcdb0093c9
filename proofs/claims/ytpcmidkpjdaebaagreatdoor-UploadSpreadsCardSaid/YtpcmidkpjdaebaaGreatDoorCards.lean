/-
  DERIVED. GIVEN WITH THE SEED: THE CARDS: each row of YtpcmidkpjdaebaaGreatDoorRows.lean that lists a variable, with what it lists TIED to the program's text (the seventh form; the later family's looks); each row that meets fmt, with fmt's text TOLD by the authors' own Lean function (tested against real Go, not proved from fmt's source: count such statements apart). THE CARD IS WHAT COUNTS. Prove the row's statement (the work); the ties are given (YtpcmidkpjdaebaaGreatDoorTie.lean); close each card by the builder's one call (the guide's Derived/Test/ToyasCard.lean, 'card_holds'). Laid BY PROGRAM, IN A SANDBOX (cutbox-door.mjs). By AI agents, Wed Nov 11 2026. No macro, syntax, notation, axiom, sorry.
-/
import Derived.Test.YtpcmidkpjdaebaaGreatDoorRows
import GoSem.ClaimSeven
namespace Go.Proofs.YtpcmidkpjdaebaaGreatDoor
namespace Rows

/-- THE TIED CARD OF 'aumbrylaw20.UploadRight'. -/
def uploadRightCard : Claim7 := { stood := { row := uploadRightRow, standIns := [], harness := (true, "c9f9b913eeacfdcab1c559c0838a69ffc3c87508280404eb3ee013b0fe3f6eb0"), looks := true }, kinds := [], alts := [], laidByText := true, laidKinds := [.data, .data, .data], laidTests := true, laidLooks := .later }
def UploadRightCardSaid : Prop := Claim7.holds Tryz.pinned (.plain (OpenSpec.ofChange uploadRightSpec)) uploadRightCard

/-- THE TIED CARD OF 'aumbrylaw20.UploadEncodes'. -/
def uploadEncodesCard : Claim7 := { stood := { row := uploadEncodesRow, standIns := [], harness := (true, "c9f9b913eeacfdcab1c559c0838a69ffc3c87508280404eb3ee013b0fe3f6eb0"), looks := true }, kinds := [], alts := [], laidByText := true, laidKinds := [.data, .data, .data], laidTests := true, laidLooks := .later }
def UploadEncodesCardSaid : Prop := Claim7.holds Tryz.pinned (.plain (OpenSpec.ofChange uploadEncodesSpec)) uploadEncodesCard

/-- THE TIED CARD OF 'aumbrylaw20.UploadSpreads'. -/
def uploadSpreadsCard : Claim7 := { stood := { row := uploadSpreadsRow, standIns := [], harness := (true, "c9f9b913eeacfdcab1c559c0838a69ffc3c87508280404eb3ee013b0fe3f6eb0"), looks := true }, kinds := [], alts := [], laidByText := true, laidKinds := [.data, .data, .data], laidTests := true, laidLooks := .later }
def UploadSpreadsCardSaid : Prop := Claim7.holds Tryz.pinned (.plain (OpenSpec.ofChange uploadSpreadsSpec)) uploadSpreadsCard

/-- THE TIED CARD OF 'aumbrylaw20.UploadOwn'. -/
def uploadOwnCard : Claim7 := { stood := { row := uploadOwnRow, standIns := [], harness := (true, "c9f9b913eeacfdcab1c559c0838a69ffc3c87508280404eb3ee013b0fe3f6eb0"), looks := true }, kinds := [], alts := [], laidByText := true, laidKinds := [.data, .data, .data], laidTests := true, laidLooks := .later }
def UploadOwnCardSaid : Prop := Claim7.holds Tryz.pinned (.plain (OpenSpec.ofChange uploadOwnSpec)) uploadOwnCard

/-- THE SECOND FORM's CARD OF 'aumbrylaw20.UploadRight'. -/
def uploadRightUptoCard : Claim7 := { stood := { row := uploadRightUptoRow, standIns := [], harness := (true, "c9f9b913eeacfdcab1c559c0838a69ffc3c87508280404eb3ee013b0fe3f6eb0"), looks := true }, kinds := [], alts := [], laidByText := true, laidKinds := [.data, .data, .data], laidTests := true, laidLooks := .later }
def UploadRightUptoCardSaid : Prop := Claim7.holds Tryz.pinned (.plain (OpenSpec.upto uploadRightSpec)) uploadRightUptoCard

/-- THE SECOND FORM's CARD OF 'aumbrylaw20.UploadEncodes'. -/
def uploadEncodesUptoCard : Claim7 := { stood := { row := uploadEncodesUptoRow, standIns := [], harness := (true, "c9f9b913eeacfdcab1c559c0838a69ffc3c87508280404eb3ee013b0fe3f6eb0"), looks := true }, kinds := [], alts := [], laidByText := true, laidKinds := [.data, .data, .data], laidTests := true, laidLooks := .later }
def UploadEncodesUptoCardSaid : Prop := Claim7.holds Tryz.pinned (.plain (OpenSpec.upto uploadEncodesSpec)) uploadEncodesUptoCard

/-- THE SECOND FORM's CARD OF 'aumbrylaw20.UploadSpreads'. -/
def uploadSpreadsUptoCard : Claim7 := { stood := { row := uploadSpreadsUptoRow, standIns := [], harness := (true, "c9f9b913eeacfdcab1c559c0838a69ffc3c87508280404eb3ee013b0fe3f6eb0"), looks := true }, kinds := [], alts := [], laidByText := true, laidKinds := [.data, .data, .data], laidTests := true, laidLooks := .later }
def UploadSpreadsUptoCardSaid : Prop := Claim7.holds Tryz.pinned (.plain (OpenSpec.upto uploadSpreadsSpec)) uploadSpreadsUptoCard

/-- THE SECOND FORM's CARD OF 'aumbrylaw20.UploadOwn'. -/
def uploadOwnUptoCard : Claim7 := { stood := { row := uploadOwnUptoRow, standIns := [], harness := (true, "c9f9b913eeacfdcab1c559c0838a69ffc3c87508280404eb3ee013b0fe3f6eb0"), looks := true }, kinds := [], alts := [], laidByText := true, laidKinds := [.data, .data, .data], laidTests := true, laidLooks := .later }
def UploadOwnUptoCardSaid : Prop := Claim7.holds Tryz.pinned (.plain (OpenSpec.upto uploadOwnSpec)) uploadOwnUptoCard
end Rows
end Go.Proofs.YtpcmidkpjdaebaaGreatDoor
