/- GridNews holds: grids there are as the document says, for all arguments. -/
import Derived.Test.YtpdabjlnbldpfaaGreatDoorJ
import Derived.Test.YtpdabjlnbldpfaaGreatDoorY9
set_option linter.unusedVariables false
set_option linter.unusedSimpArgs false
set_option linter.unusedSectionVars false
set_option maxRecDepth 100000
section
namespace Go.Proofs.YtpdabjlnbldpfaaGreatDoor
theorem gridNews_holds:Rows.GridNewsCardSaid:=card_holds fun x _=>Sx.law639 x
end Go.Proofs.YtpdabjlnbldpfaaGreatDoor
end
