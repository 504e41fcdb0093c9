/- SlotsKinds holds: what may not read is not told, what is no slot's has one error, and nothing is sent, for all arguments. -/
import Derived.Test.YtjaancbplomopaaGreatDoorJ
import Derived.Test.YtjaancbplomopaaGreatDoorY7
set_option linter.unusedVariables false
set_option linter.unusedSimpArgs false
set_option linter.unusedSectionVars false
set_option maxRecDepth 100000
section
namespace Go.Proofs.YtjaancbplomopaaGreatDoor
theorem slotsKinds_holds:Rows.SlotsKindsCardSaid:=card_holds fun x _=>Sx.law658 x
end Go.Proofs.YtjaancbplomopaaGreatDoor
end
