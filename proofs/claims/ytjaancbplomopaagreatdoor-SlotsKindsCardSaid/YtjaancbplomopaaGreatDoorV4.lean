/- The example's piece as bytes: a literal value. No conditions. -/
import Derived.Test.YtjaancbplomopaaGreatDoorT
set_option linter.unusedVariables false
set_option linter.unusedSimpArgs false
set_option linter.unusedSectionVars false
set_option maxRecDepth 100000
section
open Go Go.Proofs Ev
namespace Sx
noncomputable def ar582:Val (.pair (.pair .i64 (.pair (.pair .i64 (.pair .i64 (.pair .i64 (.pair .i64 (.pair (.arr 16 .u8) (.pair (.arr 32 .u8) .unit)))))) (.pair (.pair .i64 (.pair .i64 (.pair (.sl (.arr 32 .u8)) (.pair (.sl (.arr 32 .u8)) .unit)))) (.pair (.sl (.arr 32 .u8)) (.pair (.sl .u8) .unit))))) .unit):=(wPc,())
theorem v582:s582.run ar582=some wPcB:=by kernel_rfl
noncomputable def gl582(x:InT P582):Bool:=eqV (.pair (.pair .i64 (.pair (.pair .i64 (.pair .i64 (.pair .i64 (.pair .i64 (.pair (.arr 16 .u8) (.pair (.arr 32 .u8) .unit)))))) (.pair (.pair .i64 (.pair .i64 (.pair (.sl (.arr 32 .u8)) (.pair (.sl (.arr 32 .u8)) .unit)))) (.pair (.sl (.arr 32 .u8)) (.pair (.sl .u8) .unit))))) .unit) x ar582
theorem gl582_ok(x:InT P582)(h:gl582 x=true):x=ar582:=eqV_ok (.pair (.pair .i64 (.pair (.pair .i64 (.pair .i64 (.pair .i64 (.pair .i64 (.pair (.arr 16 .u8) (.pair (.arr 32 .u8) .unit)))))) (.pair (.pair .i64 (.pair .i64 (.pair (.sl (.arr 32 .u8)) (.pair (.sl (.arr 32 .u8)) .unit)))) (.pair (.sl (.arr 32 .u8)) (.pair (.sl .u8) .unit))))) .unit) x ar582 h
noncomputable def sl582:Ev.Spec:=⟨s582.params,s582.results,fun x=>cond (gl582 x) (some wPcB) none⟩
theorem kl582:FnOk Tryz.prog 100 sl582:=FnOk.lit k582 ar582 wPcB v582 gl582 gl582_ok
end Sx
end
