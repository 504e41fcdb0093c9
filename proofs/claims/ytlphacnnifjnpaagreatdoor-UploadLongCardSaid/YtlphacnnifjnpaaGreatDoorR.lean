/- UploadLong holds: files as long as may be are encoded as the document says, and longer ones are told in the same way, for all arguments. No conditions. -/
import Derived.Test.YtlphacnnifjnpaaGreatDoorJ
import Derived.Test.YtlphacnnifjnpaaGreatDoorQ
set_option linter.unusedVariables false
set_option linter.unusedSimpArgs false
set_option linter.unusedSectionVars false
set_option maxRecDepth 100000
section
namespace Go.Proofs.YtlphacnnifjnpaaGreatDoor
theorem uploadLong_holds:Rows.UploadLongCardSaid:=card_holds fun x _=>Mx.law532 x.1 x.2.1 x.2.2.1
end Go.Proofs.YtlphacnnifjnpaaGreatDoor
end
