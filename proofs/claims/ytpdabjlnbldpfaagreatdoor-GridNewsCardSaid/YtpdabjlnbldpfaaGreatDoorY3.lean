/- Which servers the document makes, second part: by running. No conditions. -/
import Derived.Test.YtpdabjlnbldpfaaGreatDoorY2
set_option linter.unusedVariables false
set_option linter.unusedSimpArgs false
set_option linter.unusedSectionVars false
set_option maxRecDepth 100000
section
open Go Go.Proofs Ev
namespace Sx
theorem dsRow_7:((List.range 13).all fun j=>j==0||dsT 7 j)=true:=by kernel_rfl
theorem dsRow_8:((List.range 13).all fun j=>j==0||dsT 8 j)=true:=by kernel_rfl
theorem dsRow_9:((List.range 13).all fun j=>j==0||dsT 9 j)=true:=by kernel_rfl
end Sx
end
