/- DownloadJoins holds: the ciphertext of shares and its layout, or why there is none, and what that opens to, are as the document says, for all arguments. No conditions. -/
import Derived.Test.YtbjffoahpbedjaaGreatDoorJ
import Derived.Test.YtbjffoahpbedjaaGreatDoorW
set_option linter.unusedVariables false
set_option linter.unusedSimpArgs false
set_option linter.unusedSectionVars false
set_option maxRecDepth 100000
section
namespace Go.Proofs.YtbjffoahpbedjaaGreatDoor
theorem downloadJoins_holds:Rows.DownloadJoinsCardSaid:=card_holds fun x _=>Mx.law442 x.1 x.2.1 x.2.2.1 x.2.2.2.1 x.2.2.2.2.1 x.2.2.2.2.2.1 x.2.2.2.2.2.2.1 x.2.2.2.2.2.2.2.1
end Go.Proofs.YtbjffoahpbedjaaGreatDoor
end
