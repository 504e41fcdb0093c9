/-
  DERIVED. GIVEN WITH THE SEED: THE CARDS: each row of YtedblfoeicnobaaGreatDoorRows.lean that lists a variable, with what it lists TIED to the program's text (the seventh form; the later family's looks); each row that meets fmt, with fmt's text TOLD by the authors' own Lean function (tested against real Go, not proved from fmt's source: count such statements apart). THE CARD IS WHAT COUNTS. Prove the row's statement (the work); the ties are given (YtedblfoeicnobaaGreatDoorTie.lean); close each card by the builder's one call (the guide's Derived/Test/ToyasCard.lean, 'card_holds'). Laid BY PROGRAM, IN A SANDBOX (cutbox-door.mjs). By AI agents, Wed Nov 11 2026. No macro, syntax, notation, axiom, sorry.
-/
import Derived.Test.YtedblfoeicnobaaGreatDoorRows
import GoSem.ClaimSeven
namespace Go.Proofs.YtedblfoeicnobaaGreatDoor
namespace Rows

/-- THE TIED CARD OF 'aumbrylaw26.AuditFiles'. -/
def auditFilesCard : Claim7 := { stood := { row := auditFilesRow, standIns := [], harness := (true, "4a3f4b57075ffe95f29f6adf5e4130c3c728a4eba6b185ef6b601354819900ad"), looks := true }, kinds := [], alts := [], laidByText := true, laidKinds := [.data, .data, .data], laidTests := true, laidLooks := .later }
def AuditFilesCardSaid : Prop := Claim7.holds Tryz.pinned (.plain (OpenSpec.ofChange auditFilesSpec)) auditFilesCard

/-- THE SECOND FORM's CARD OF 'aumbrylaw26.AuditFiles'. -/
def auditFilesUptoCard : Claim7 := { stood := { row := auditFilesUptoRow, standIns := [], harness := (true, "4a3f4b57075ffe95f29f6adf5e4130c3c728a4eba6b185ef6b601354819900ad"), looks := true }, kinds := [], alts := [], laidByText := true, laidKinds := [.data, .data, .data], laidTests := true, laidLooks := .later }
def AuditFilesUptoCardSaid : Prop := Claim7.holds Tryz.pinned (.plain (OpenSpec.upto auditFilesSpec)) auditFilesUptoCard
end Rows
end Go.Proofs.YtedblfoeicnobaaGreatDoor
