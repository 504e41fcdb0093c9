/- The example's signature: a literal value. No conditions. -/
import Derived.Test.YtjaancbplomopaaGreatDoorT
set_option linter.unusedVariables false
set_option linter.unusedSimpArgs false
set_option linter.unusedSectionVars false
set_option maxRecDepth 100000
section
open Go Go.Proofs Ev
namespace Sx
noncomputable def ar589:Val (.pair (.arr 16 .u8) (.pair .i64 (.pair .i64 (.pair (.sl .u8) .unit)))):=(z16,(0:Int),(0:Int),wVerB,())
theorem v589:sx589.run ar589=some (wSig,(0:Int)):=by kernel_rfl
noncomputable def gl589(x:InT P589):Bool:=eqV (.pair (.arr 16 .u8) (.pair .i64 (.pair .i64 (.pair (.sl .u8) .unit)))) x ar589
theorem gl589_ok(x:InT P589)(h:gl589 x=true):x=ar589:=eqV_ok (.pair (.arr 16 .u8) (.pair .i64 (.pair .i64 (.pair (.sl .u8) .unit)))) x ar589 h
noncomputable def sl589:Ev.Spec:=⟨sx589.params,sx589.results,fun x=>cond (gl589 x) (some (wSig,(0:Int))) none⟩
theorem kl589:FnOk Tryz.prog 152 sl589:=FnOk.lit kx589 ar589 (wSig,(0:Int)) v589 gl589 gl589_ok
end Sx
end
