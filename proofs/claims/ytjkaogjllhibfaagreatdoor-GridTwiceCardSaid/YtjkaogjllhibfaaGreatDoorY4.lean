/- What GridTwice comes to, as tests of indexes and seeds. No conditions. -/
import Derived.Test.YtjkaogjllhibfaaGreatDoorY3
set_option linter.unusedVariables false
set_option linter.unusedSimpArgs false
set_option linter.unusedSectionVars false
set_option maxRecDepth 100000
section
open Go Go.Proofs Ev
namespace Sx
noncomputable def D16(a b:Vector UInt8 16):Bool:= @decide (a=b) (decV (.arr 16 .u8) a b)
noncomputable def TT(a b s o:Vector UInt8 16):Option Bool:=
 cond (D16 a a) (cond (D16 a a) (cond (D16 a a)
  (cond (D16 s o) (some true) (cond (D16 b a) (some true) (cond (D16 a b) none (cond (D16 a b) none (some true)))))
  none) none) none
theorem gT(W:Int->Int)(SH IX:Vector UInt8 16->Nat->UInt8)(PC:Vector UInt8 16->Int->Nat->UInt8)(g g':Nat->UInt8)(h:Int):gRun W SH IX PC (sp16 g,sp16 g',h,())=if W h=((0:Nat):Int)then TT (sp16 (IX (sp16 (SH (sp16 g))))) (sp16 (IX (sp16 (SH (sp16 g'))))) (sp16 g) (sp16 g')else if W h=((1:Nat):Int)then TT (sp16 (IX (sp16 (SH (sp16 g))))) (sp16 (IX (sp16 (SH (sp16 g'))))) (sp16 g) (sp16 g')else none:=by kernel_rfl
end Sx
end
