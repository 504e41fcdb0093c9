/- UploadRight holds: each share is right, its blocks are the segments' shares, and all leaves make the layout's root, for all arguments. No conditions. -/
import Derived.Test.YtpcmidkpjdaebaaGreatDoorJ
import Derived.Test.YtpcmidkpjdaebaaGreatDoorQ
set_option linter.unusedVariables false
set_option linter.unusedSimpArgs false
set_option linter.unusedSectionVars false
set_option maxRecDepth 100000
section
namespace Go.Proofs.YtpcmidkpjdaebaaGreatDoor
theorem uploadRight_holds:Rows.UploadRightCardSaid:=card_holds fun x _=>Mx.law437 x.1 x.2.1 x.2.2.1 x.2.2.2.1
end Go.Proofs.YtpcmidkpjdaebaaGreatDoor
end
