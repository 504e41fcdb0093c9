/- The chapter's example comes to true. No conditions. -/
import Derived.Test.YtpdabjlnbldpfaaGreatDoorX7
set_option linter.unusedVariables false
set_option linter.unusedSimpArgs false
set_option linter.unusedSectionVars false
set_option maxRecDepth 100000
section
open Go Go.Proofs Ev
namespace Sx
theorem wkx:run540 ()=some true:=by kernel_rfl
theorem k540:FnOk Tryz.prog 8 s540:=FnOk.tt (run:=run540) kx540 wkx
end Sx
end
