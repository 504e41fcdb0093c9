/- DownloadExplains holds: of any two ciphertexts a break where they are unlike and vouched for by one print, else none, for all arguments. No conditions. -/
import Derived.Test.YtooldamajjbeoaaGreatDoorJ
import Derived.Test.YtooldamajjbeoaaGreatDoorQ
set_option linter.unusedVariables false
set_option linter.unusedSimpArgs false
set_option linter.unusedSectionVars false
set_option maxRecDepth 100000
section
namespace Go.Proofs.YtooldamajjbeoaaGreatDoor
theorem downloadExplains_holds : Rows.DownloadExplainsCardSaid := card_holds fun x h => Mx.law441 x.1 x.2.1 x.2.2.1 x.2.2.2.1 x.2.2.2.2.1 x.2.2.2.2.2.1 h.2.1 h.2.2.1
end Go.Proofs.YtooldamajjbeoaaGreatDoor
end
