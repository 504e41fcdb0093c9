/- GridTwice holds: of one seed there is one keystore, without one nothing is written and nothing is sent, for all arguments. -/
import Derived.Test.YtjkaogjllhibfaaGreatDoorJ
import Derived.Test.YtjkaogjllhibfaaGreatDoorY5
set_option linter.unusedVariables false
set_option linter.unusedSimpArgs false
set_option linter.unusedSectionVars false
set_option maxRecDepth 100000
section
namespace Go.Proofs.YtjkaogjllhibfaaGreatDoor
theorem gridTwice_holds:Rows.GridTwiceCardSaid:=card_holds fun x _=>Sx.law533 x
end Go.Proofs.YtjkaogjllhibfaaGreatDoor
end
