/- UploadSpreads holds: a ciphertext is spread anew as the document says, and another one, or another layout, is told in the same way, for all arguments. No conditions. -/
import Derived.Test.YtpcmidkpjdaebaaGreatDoorJ
import Derived.Test.YtpcmidkpjdaebaaGreatDoorQ
set_option linter.unusedVariables false
set_option linter.unusedSimpArgs false
set_option linter.unusedSectionVars false
set_option maxRecDepth 100000
section
namespace Go.Proofs.YtpcmidkpjdaebaaGreatDoor
theorem uploadSpreads_holds:Rows.UploadSpreadsCardSaid:=card_holds fun x _=>Mx.law438 x.1 x.2.1 x.2.2.1 x.2.2.2.1 x.2.2.2.2.1 x.2.2.2.2.2.1
end Go.Proofs.YtpcmidkpjdaebaaGreatDoor
end
