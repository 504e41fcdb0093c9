/-
  DERIVED. GIVEN WITH THE SEED: THE CARDS: each row of YtbjffoahpbedjaaGreatDoorRows.lean that lists a variable, with what it lists TIED to the program's text (the seventh form; the later family's looks); each row that meets fmt, with fmt's text TOLD by the authors' own Lean function (tested against real Go, not proved from fmt's source: count such statements apart). THE CARD IS WHAT COUNTS. Prove the row's statement (the work); the ties are given (YtbjffoahpbedjaaGreatDoorTie.lean); close each card by the builder's one call (the guide's Derived/Test/ToyasCard.lean, 'card_holds'). Laid BY PROGRAM, IN A SANDBOX (cutbox-door.mjs). By AI agents, Wed Nov 11 2026. No macro, syntax, notation, axiom, sorry.
-/
import Derived.Test.YtbjffoahpbedjaaGreatDoorRows
import GoSem.ClaimSeven
namespace Go.Proofs.YtbjffoahpbedjaaGreatDoor
namespace Rows

/-- THE TIED CARD OF 'aumbrylaw21.DownloadJoins'. -/
def downloadJoinsCard : Claim7 := { stood := { row := downloadJoinsRow, standIns := [], harness := (true, "d6f3e7efd5fbd3225927df6a428bf38111ab51eda153da31af98438946143702"), looks := true }, kinds := [], alts := [], laidByText := true, laidKinds := [.data, .data, .data], laidTests := true, laidLooks := .later }
def DownloadJoinsCardSaid : Prop := Claim7.holds Tryz.pinned (.plain (OpenSpec.ofChange downloadJoinsSpec)) downloadJoinsCard

/-- THE TIED CARD OF 'aumbrylaw20.UploadRight'. -/
def uploadRightCard : Claim7 := { stood := { row := uploadRightRow, standIns := [], harness := (true, "d6f3e7efd5fbd3225927df6a428bf38111ab51eda153da31af98438946143702"), looks := true }, kinds := [], alts := [], laidByText := true, laidKinds := [.data, .data, .data], laidTests := true, laidLooks := .later }
def UploadRightCardSaid : Prop := Claim7.holds Tryz.pinned (.plain (OpenSpec.ofChange uploadRightSpec)) uploadRightCard

/-- THE TIED CARD OF 'aumbrylaw20.UploadEncodes'. -/
def uploadEncodesCard : Claim7 := { stood := { row := uploadEncodesRow, standIns := [], harness := (true, "d6f3e7efd5fbd3225927df6a428bf38111ab51eda153da31af98438946143702"), looks := true }, kinds := [], alts := [], laidByText := true, laidKinds := [.data, .data, .data], laidTests := true, laidLooks := .later }
def UploadEncodesCardSaid : Prop := Claim7.holds Tryz.pinned (.plain (OpenSpec.ofChange uploadEncodesSpec)) uploadEncodesCard

/-- THE TIED CARD OF 'aumbrylaw21.DownloadExplains'. -/
def downloadExplainsCard : Claim7 := { stood := { row := downloadExplainsRow, standIns := [], harness := (true, "d6f3e7efd5fbd3225927df6a428bf38111ab51eda153da31af98438946143702"), looks := true }, kinds := [], alts := [], laidByText := true, laidKinds := [.data, .data, .data], laidTests := true, laidLooks := .later }
def DownloadExplainsCardSaid : Prop := Claim7.holds Tryz.pinned (.plain (OpenSpec.ofChange downloadExplainsSpec)) downloadExplainsCard

/-- THE TIED CARD OF 'aumbrylaw20.UploadSpreads'. -/
def uploadSpreadsCard : Claim7 := { stood := { row := uploadSpreadsRow, standIns := [], harness := (true, "d6f3e7efd5fbd3225927df6a428bf38111ab51eda153da31af98438946143702"), looks := true }, kinds := [], alts := [], laidByText := true, laidKinds := [.data, .data, .data], laidTests := true, laidLooks := .later }
def UploadSpreadsCardSaid : Prop := Claim7.holds Tryz.pinned (.plain (OpenSpec.ofChange uploadSpreadsSpec)) uploadSpreadsCard

/-- THE TIED CARD OF 'aumbrylaw21.DownloadAny'. -/
def downloadAnyCard : Claim7 := { stood := { row := downloadAnyRow, standIns := [], harness := (true, "d6f3e7efd5fbd3225927df6a428bf38111ab51eda153da31af98438946143702"), looks := true }, kinds := [], alts := [], laidByText := true, laidKinds := [.data, .data, .data], laidTests := true, laidLooks := .later }
def DownloadAnyCardSaid : Prop := Claim7.holds Tryz.pinned (.plain (OpenSpec.ofChange downloadAnySpec)) downloadAnyCard

/-- THE SECOND FORM's CARD OF 'aumbrylaw21.DownloadJoins'. -/
def downloadJoinsUptoCard : Claim7 := { stood := { row := downloadJoinsUptoRow, standIns := [], harness := (true, "d6f3e7efd5fbd3225927df6a428bf38111ab51eda153da31af98438946143702"), looks := true }, kinds := [], alts := [], laidByText := true, laidKinds := [.data, .data, .data], laidTests := true, laidLooks := .later }
def DownloadJoinsUptoCardSaid : Prop := Claim7.holds Tryz.pinned (.plain (OpenSpec.upto downloadJoinsSpec)) downloadJoinsUptoCard

/-- THE SECOND FORM's CARD OF 'aumbrylaw20.UploadRight'. -/
def uploadRightUptoCard : Claim7 := { stood := { row := uploadRightUptoRow, standIns := [], harness := (true, "d6f3e7efd5fbd3225927df6a428bf38111ab51eda153da31af98438946143702"), looks := true }, kinds := [], alts := [], laidByText := true, laidKinds := [.data, .data, .data], laidTests := true, laidLooks := .later }
def UploadRightUptoCardSaid : Prop := Claim7.holds Tryz.pinned (.plain (OpenSpec.upto uploadRightSpec)) uploadRightUptoCard

/-- THE SECOND FORM's CARD OF 'aumbrylaw20.UploadEncodes'. -/
def uploadEncodesUptoCard : Claim7 := { stood := { row := uploadEncodesUptoRow, standIns := [], harness := (true, "d6f3e7efd5fbd3225927df6a428bf38111ab51eda153da31af98438946143702"), looks := true }, kinds := [], alts := [], laidByText := true, laidKinds := [.data, .data, .data], laidTests := true, laidLooks := .later }
def UploadEncodesUptoCardSaid : Prop := Claim7.holds Tryz.pinned (.plain (OpenSpec.upto uploadEncodesSpec)) uploadEncodesUptoCard

/-- THE SECOND FORM's CARD OF 'aumbrylaw21.DownloadExplains'. -/
def downloadExplainsUptoCard : Claim7 := { stood := { row := downloadExplainsUptoRow, standIns := [], harness := (true, "d6f3e7efd5fbd3225927df6a428bf38111ab51eda153da31af98438946143702"), looks := true }, kinds := [], alts := [], laidByText := true, laidKinds := [.data, .data, .data], laidTests := true, laidLooks := .later }
def DownloadExplainsUptoCardSaid : Prop := Claim7.holds Tryz.pinned (.plain (OpenSpec.upto downloadExplainsSpec)) downloadExplainsUptoCard

/-- THE SECOND FORM's CARD OF 'aumbrylaw20.UploadSpreads'. -/
def uploadSpreadsUptoCard : Claim7 := { stood := { row := uploadSpreadsUptoRow, standIns := [], harness := (true, "d6f3e7efd5fbd3225927df6a428bf38111ab51eda153da31af98438946143702"), looks := true }, kinds := [], alts := [], laidByText := true, laidKinds := [.data, .data, .data], laidTests := true, laidLooks := .later }
def UploadSpreadsUptoCardSaid : Prop := Claim7.holds Tryz.pinned (.plain (OpenSpec.upto uploadSpreadsSpec)) uploadSpreadsUptoCard

/-- THE SECOND FORM's CARD OF 'aumbrylaw21.DownloadAny'. -/
def downloadAnyUptoCard : Claim7 := { stood := { row := downloadAnyUptoRow, standIns := [], harness := (true, "d6f3e7efd5fbd3225927df6a428bf38111ab51eda153da31af98438946143702"), looks := true }, kinds := [], alts := [], laidByText := true, laidKinds := [.data, .data, .data], laidTests := true, laidLooks := .later }
def DownloadAnyUptoCardSaid : Prop := Claim7.holds Tryz.pinned (.plain (OpenSpec.upto downloadAnySpec)) downloadAnyUptoCard
end Rows
end Go.Proofs.YtbjffoahpbedjaaGreatDoor
