/- The code of one share of one: a literal value. No conditions. -/
import Derived.Test.YtjaancbplomopaaGreatDoorT
set_option linter.unusedVariables false
set_option linter.unusedSimpArgs false
set_option linter.unusedSectionVars false
set_option maxRecDepth 100000
section
open Go Go.Proofs Ev
namespace Sx
noncomputable def ar83:Val (.pair .i64 (.pair .i64 .unit)):=((1:Int),(1:Int),())
theorem v83:s83.run ar83=some (some ((1:Int),((1:Int),([[(1:UInt8)]],()))),(0:Int)):=by kernel_rfl
noncomputable def gl83(x:InT P83):Bool:=eqV (.pair .i64 (.pair .i64 .unit)) x ar83
theorem gl83_ok(x:InT P83)(h:gl83 x=true):x=ar83:=eqV_ok (.pair .i64 (.pair .i64 .unit)) x ar83 h
noncomputable def sl83:Ev.Spec:=⟨s83.params,s83.results,fun x=>cond (gl83 x) (some (some ((1:Int),((1:Int),([[(1:UInt8)]],()))),(0:Int))) none⟩
theorem kl83:FnOk Tryz.prog 69 sl83:=FnOk.lit k83 ar83 (some ((1:Int),((1:Int),([[(1:UInt8)]],()))),(0:Int)) v83 gl83 gl83_ok
end Sx
end
