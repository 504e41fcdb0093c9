/- The example's share: a literal value. No conditions. -/
import Derived.Test.YtjaancbplomopaaGreatDoorT
set_option linter.unusedVariables false
set_option linter.unusedSimpArgs false
set_option linter.unusedSectionVars false
set_option maxRecDepth 100000
section
open Go Go.Proofs Ev
namespace Sx
noncomputable def ar84:Val (.pair (.pair .i64 (.pair .i64 (.pair (.sl (.sl .u8)) .unit))) (.pair (.sl .u8) .unit)):=(((1:Int),((1:Int),([[(1:UInt8)]],()))),wCry,())
theorem v84:s84.run ar84=some [wCry]:=by kernel_rfl
noncomputable def gl84(x:InT P84):Bool:=eqV (.pair (.pair .i64 (.pair .i64 (.pair (.sl (.sl .u8)) .unit))) (.pair (.sl .u8) .unit)) x ar84
theorem gl84_ok(x:InT P84)(h:gl84 x=true):x=ar84:=eqV_ok (.pair (.pair .i64 (.pair .i64 (.pair (.sl (.sl .u8)) .unit))) (.pair (.sl .u8) .unit)) x ar84 h
noncomputable def sl84:Ev.Spec:=⟨s84.params,s84.results,fun x=>cond (gl84 x) (some [wCry]) none⟩
theorem kl84:FnOk Tryz.prog 91 sl84:=FnOk.lit k84 ar84 [wCry] v84 gl84 gl84_ok
end Sx
end
