/- The statement's run where one tries too seldom, or too often. No conditions. -/
import Derived.Test.YtjaancbplomopaaGreatDoorY4
set_option linter.unusedVariables false
set_option linter.unusedSimpArgs false
set_option linter.unusedSectionVars false
set_option maxRecDepth 100000
section
open Go Go.Proofs Ev
namespace Sx
theorem gTA(W4:Int->Int)(W30:Int->Int)(VS:CapG->Bool)(CR:CapG->Bool)(CW:CapG->Bool)(TR:Int->Bool)(SH:Vector UInt8 16->Nat->UInt8)(IX:Vector UInt8 16->Nat->UInt8)(PC:Vector UInt8 16->Nat->UInt8)(PR:Vector UInt8 16->Nat->UInt8)(g:Nat->UInt8)(kind tries:Int):gRunA W4 W30 VS CR CW TR SH IX PC PR (sp16 g,kind,tries,())=if 0<=W4 kind∧W4 kind<((4:Nat):Int)then TT (CR (capK 6 (sp16 (IX (sp16 (SH (sp16 g))))) (sp32 (PR (sp16 g))))) (VS (badC kind (W4 kind))) (CR (badC kind (W4 kind))) (TWA (CW (badC kind (W4 kind))) (VS (capK 6 (sp16 (IX (sp16 (SH (sp16 g))))) (sp32 (PR (sp16 g))))) (TR (subI (W30 tries) 5)) (subI (W30 tries) 5))else none:=by kernel_rfl
end Sx
end
