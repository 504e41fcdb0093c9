/-
  DERIVED. GIVEN WITH THE SEED: THE CARDS: each row of YtjaancbplomopaaGreatDoorRows.lean that lists a variable, with what it lists TIED to the program's text (the seventh form; the later family's looks); each row that meets fmt, with fmt's text TOLD by the authors' own Lean function (tested against real Go, not proved from fmt's source: count such statements apart). THE CARD IS WHAT COUNTS. Prove the row's statement (the work); the ties are given (YtjaancbplomopaaGreatDoorTie.lean); close each card by the builder's one call (the guide's Derived/Test/ToyasCard.lean, 'card_holds'). Laid BY PROGRAM, IN A SANDBOX (cutbox-door.mjs). By AI agents, Wed Nov 11 2026. No macro, syntax, notation, axiom, sorry.
-/
import Derived.Test.YtjaancbplomopaaGreatDoorRows
import GoSem.ClaimSeven
namespace Go.Proofs.YtjaancbplomopaaGreatDoor
namespace Rows

/-- THE TIED CARD OF 'aumbrylaw22.SlotsKinds'. -/
def slotsKindsCard : Claim7 := { stood := { row := slotsKindsRow, standIns := [], harness := (true, "d0019c5022db5cc5f48758a0e2378234f28bdeb0efe3a0795b43950e76d9557f"), looks := true }, kinds := [], alts := [], laidByText := true, laidKinds := [.data, .data, .data], laidTests := true, laidLooks := .later }
def SlotsKindsCardSaid : Prop := Claim7.holds Tryz.pinned (.plain (OpenSpec.ofChange slotsKindsSpec)) slotsKindsCard

/-- THE SECOND FORM's CARD OF 'aumbrylaw22.SlotsKinds'. -/
def slotsKindsUptoCard : Claim7 := { stood := { row := slotsKindsUptoRow, standIns := [], harness := (true, "d0019c5022db5cc5f48758a0e2378234f28bdeb0efe3a0795b43950e76d9557f"), looks := true }, kinds := [], alts := [], laidByText := true, laidKinds := [.data, .data, .data], laidTests := true, laidLooks := .later }
def SlotsKindsUptoCardSaid : Prop := Claim7.holds Tryz.pinned (.plain (OpenSpec.upto slotsKindsSpec)) slotsKindsUptoCard
end Rows
end Go.Proofs.YtjaancbplomopaaGreatDoor
