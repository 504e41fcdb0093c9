/-
  DERIVED. GIVEN WITH THE SEED: THE CARDS: each row of YtpdabjlnbldpfaaGreatDoorRows.lean that lists a variable, with what it lists TIED to the program's text (the seventh form; the later family's looks); each row that meets fmt, with fmt's text TOLD by the authors' own Lean function (tested against real Go, not proved from fmt's source: count such statements apart). THE CARD IS WHAT COUNTS. Prove the row's statement (the work); the ties are given (YtpdabjlnbldpfaaGreatDoorTie.lean); close each card by the builder's one call (the guide's Derived/Test/ToyasCard.lean, 'card_holds'). Laid BY PROGRAM, IN A SANDBOX (cutbox-door.mjs). By AI agents, Wed Nov 11 2026. No macro, syntax, notation, axiom, sorry.
-/
import Derived.Test.YtpdabjlnbldpfaaGreatDoorRows
import GoSem.ClaimSeven
namespace Go.Proofs.YtpdabjlnbldpfaaGreatDoor
namespace Rows

/-- THE TIED CARD OF 'aumbrylaw25.GridNews'. -/
def gridNewsCard : Claim7 := { stood := { row := gridNewsRow, standIns := [], harness := (true, "75204bd4ab7620fbf92c429b3e373b6a490f3e22c39c55b28c4c9a58c44d8ce9"), looks := true }, kinds := [], alts := [], laidByText := true, laidKinds := [.data, .data, .data], laidTests := true, laidLooks := .later }
def GridNewsCardSaid : Prop := Claim7.holds Tryz.pinned (.plain (OpenSpec.ofChange gridNewsSpec)) gridNewsCard

/-- THE SECOND FORM's CARD OF 'aumbrylaw25.GridNews'. -/
def gridNewsUptoCard : Claim7 := { stood := { row := gridNewsUptoRow, standIns := [], harness := (true, "75204bd4ab7620fbf92c429b3e373b6a490f3e22c39c55b28c4c9a58c44d8ce9"), looks := true }, kinds := [], alts := [], laidByText := true, laidKinds := [.data, .data, .data], laidTests := true, laidLooks := .later }
def GridNewsUptoCardSaid : Prop := Claim7.holds Tryz.pinned (.plain (OpenSpec.upto gridNewsSpec)) gridNewsUptoCard
end Rows
end Go.Proofs.YtpdabjlnbldpfaaGreatDoor
