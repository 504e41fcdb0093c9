/- DownloadAny holds: any K of a file's shares, in order, make the data, for all arguments. No conditions. -/
import Derived.Test.YtbjffoahpbedjaaGreatDoorJ
import Derived.Test.YtbjffoahpbedjaaGreatDoorS
set_option linter.unusedVariables false
set_option linter.unusedSimpArgs false
set_option linter.unusedSectionVars false
set_option maxRecDepth 100000
section
namespace Go.Proofs.YtbjffoahpbedjaaGreatDoor
theorem downloadAny_holds : Rows.DownloadAnyCardSaid := card_holds fun x _ => Mx.law440 x.1 x.2.1 x.2.2.1 x.2.2.2.1 x.2.2.2.2.1
end Go.Proofs.YtbjffoahpbedjaaGreatDoor
end
