/- The piece of the example's bytes: a literal value. No conditions. -/
import Derived.Test.YtjaancbplomopaaGreatDoorT
set_option linter.unusedVariables false
set_option linter.unusedSimpArgs false
set_option linter.unusedSectionVars false
set_option maxRecDepth 100000
section
open Go Go.Proofs Ev
namespace Sx
noncomputable def ar598:Val (.pair (.sl .u8) .unit):=(wPcB,())
theorem v598:s598.run ar598=some (wPc,true):=by kernel_rfl
noncomputable def gl598(x:InT P598):Bool:=eqV (.pair (.sl .u8) .unit) x ar598
theorem gl598_ok(x:InT P598)(h:gl598 x=true):x=ar598:=eqV_ok (.pair (.sl .u8) .unit) x ar598 h
noncomputable def sl598:Ev.Spec:=⟨s598.params,s598.results,fun x=>cond (gl598 x) (some (wPc,true)) none⟩
theorem kl598:FnOk Tryz.prog 165 sl598:=FnOk.lit k598 ar598 (wPc,true) v598 gl598 gl598_ok
end Sx
end
