/- UploadEncodes holds: a file, its capability and its shares come as the document says, or the same error comes; the lent bytes stay as they were; the own keys are one; for all arguments. No conditions. -/
import Derived.Test.YtbdhdandljfkfaaGreatDoorJ
import Derived.Test.YtbdhdandljfkfaaGreatDoorQ
set_option linter.unusedVariables false
set_option linter.unusedSimpArgs false
set_option linter.unusedSectionVars false
set_option maxRecDepth 100000
section
namespace Go.Proofs.YtbdhdandljfkfaaGreatDoor
theorem uploadEncodes_holds:Rows.UploadEncodesCardSaid:=card_holds fun x hx=>Mx.law436 x.1 x.2.1 x.2.2.1 x.2.2.2.1 x.2.2.2.2.1 hx.2.2.1.2 hx.2.2.2.1.2
end Go.Proofs.YtbdhdandljfkfaaGreatDoor
end
