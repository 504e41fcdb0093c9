/- UploadOwn holds: equal data have one capability, and shares are made anew of the ciphertext alone, for all arguments. No conditions. -/
import Derived.Test.YtpcmidkpjdaebaaGreatDoorJ
import Derived.Test.YtpcmidkpjdaebaaGreatDoorQ
set_option linter.unusedVariables false
set_option linter.unusedSimpArgs false
set_option linter.unusedSectionVars false
set_option maxRecDepth 100000
section
namespace Go.Proofs.YtpcmidkpjdaebaaGreatDoor
theorem uploadOwn_holds:Rows.UploadOwnCardSaid:=card_holds fun x _=>Mx.law530 x.1 x.2.1 x.2.2.1
end Go.Proofs.YtpcmidkpjdaebaaGreatDoor
end
