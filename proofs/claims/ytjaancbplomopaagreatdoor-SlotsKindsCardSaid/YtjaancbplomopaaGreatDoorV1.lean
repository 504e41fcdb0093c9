/- The print of the example's keystore, by the code: a literal value. No conditions. -/
import Derived.Test.YtjaancbplomopaaGreatDoorT
set_option linter.unusedVariables false
set_option linter.unusedSimpArgs false
set_option linter.unusedSectionVars false
set_option maxRecDepth 100000
section
open Go Go.Proofs Ev
namespace Sx
noncomputable def ar543:Val (.pair (.arr 16 .u8) (.pair .i64 .unit)):=(z16,(0:Int),())
theorem v543:sx543.run ar543=some (wFp,(0:Int)):=by kernel_rfl
noncomputable def gl543(x:InT P543):Bool:=eqV (.pair (.arr 16 .u8) (.pair .i64 .unit)) x ar543
theorem gl543_ok(x:InT P543)(h:gl543 x=true):x=ar543:=eqV_ok (.pair (.arr 16 .u8) (.pair .i64 .unit)) x ar543 h
noncomputable def sl543:Ev.Spec:=⟨sx543.params,sx543.results,fun x=>cond (gl543 x) (some (wFp,(0:Int))) none⟩
theorem kl543:FnOk Tryz.prog 51 sl543:=FnOk.lit kx543 ar543 (wFp,(0:Int)) v543 gl543 gl543_ok
end Sx
end
