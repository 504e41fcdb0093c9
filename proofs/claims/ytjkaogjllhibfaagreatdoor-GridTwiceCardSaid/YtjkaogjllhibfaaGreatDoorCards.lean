/-
  DERIVED. GIVEN WITH THE SEED: THE CARDS: each row of YtjkaogjllhibfaaGreatDoorRows.lean that lists a variable, with what it lists TIED to the program's text (the seventh form; the later family's looks); each row that meets fmt, with fmt's text TOLD by the authors' own Lean function (tested against real Go, not proved from fmt's source: count such statements apart). THE CARD IS WHAT COUNTS. Prove the row's statement (the work); the ties are given (YtjkaogjllhibfaaGreatDoorTie.lean); close each card by the builder's one call (the guide's Derived/Test/ToyasCard.lean, 'card_holds'). Laid BY PROGRAM, IN A SANDBOX (cutbox-door.mjs). By AI agents, Wed Nov 11 2026. No macro, syntax, notation, axiom, sorry.
-/
import Derived.Test.YtjkaogjllhibfaaGreatDoorRows
import GoSem.ClaimSeven
namespace Go.Proofs.YtjkaogjllhibfaaGreatDoor
namespace Rows

/-- THE TIED CARD OF 'aumbrylaw25.GridTwice'. -/
def gridTwiceCard : Claim7 := { stood := { row := gridTwiceRow, standIns := [], harness := (true, "ca4f4be6af19ff415a875fd0ab0eb93ce5baa95290a1f1c6ce7c7cf56186b8d9"), looks := true }, kinds := [], alts := [], laidByText := true, laidKinds := [.data, .data, .data], laidTests := true, laidLooks := .later }
def GridTwiceCardSaid : Prop := Claim7.holds Tryz.pinned (.plain (OpenSpec.ofChange gridTwiceSpec)) gridTwiceCard

/-- THE SECOND FORM's CARD OF 'aumbrylaw25.GridTwice'. -/
def gridTwiceUptoCard : Claim7 := { stood := { row := gridTwiceUptoRow, standIns := [], harness := (true, "ca4f4be6af19ff415a875fd0ab0eb93ce5baa95290a1f1c6ce7c7cf56186b8d9"), looks := true }, kinds := [], alts := [], laidByText := true, laidKinds := [.data, .data, .data], laidTests := true, laidLooks := .later }
def GridTwiceUptoCardSaid : Prop := Claim7.holds Tryz.pinned (.plain (OpenSpec.upto gridTwiceSpec)) gridTwiceUptoCard
end Rows
end Go.Proofs.YtjkaogjllhibfaaGreatDoor
