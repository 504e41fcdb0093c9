/- The example's share is right: literal values. No conditions. -/
import Derived.Test.YtpdabjlnbldpfaaGreatDoorX
set_option linter.unusedVariables false
set_option linter.unusedSimpArgs false
set_option linter.unusedSectionVars false
set_option maxRecDepth 100000
section
open Go Go.Proofs Ev
namespace Sx
noncomputable def ar146:Val (.pair (.pair .i64 (.pair (.arr 16 .u8) (.pair (.arr 32 .u8) (.pair .i64 (.pair .i64 (.pair .i64 (.pair (.sl .u8) .unit))))))) (.pair (.pair .i64 (.pair (.sl .u8) (.pair (.sl (.arr 32 .u8)) (.pair (.sl (.sl .u8)) .unit)))) .unit)):=(wCap,wSh,())
theorem v146:sx146.run ar146=some (wUeb,true):=by kernel_rfl
noncomputable def gl146(x:InT P146):Bool:= @decide ((x:Val (.pair (.pair .i64 (.pair (.arr 16 .u8) (.pair (.arr 32 .u8) (.pair .i64 (.pair .i64 (.pair .i64 (.pair (.sl .u8) .unit))))))) (.pair (.pair .i64 (.pair (.sl .u8) (.pair (.sl (.arr 32 .u8)) (.pair (.sl (.sl .u8)) .unit)))) .unit)))=ar146) (decV (.pair (.pair .i64 (.pair (.arr 16 .u8) (.pair (.arr 32 .u8) (.pair .i64 (.pair .i64 (.pair .i64 (.pair (.sl .u8) .unit))))))) (.pair (.pair .i64 (.pair (.sl .u8) (.pair (.sl (.arr 32 .u8)) (.pair (.sl (.sl .u8)) .unit)))) .unit)) x ar146)
theorem gl146_ok(x:InT P146)(h:gl146 x=true):x=ar146:= @of_decide_eq_true ((x:Val (.pair (.pair .i64 (.pair (.arr 16 .u8) (.pair (.arr 32 .u8) (.pair .i64 (.pair .i64 (.pair .i64 (.pair (.sl .u8) .unit))))))) (.pair (.pair .i64 (.pair (.sl .u8) (.pair (.sl (.arr 32 .u8)) (.pair (.sl (.sl .u8)) .unit)))) .unit)))=ar146) (decV (.pair (.pair .i64 (.pair (.arr 16 .u8) (.pair (.arr 32 .u8) (.pair .i64 (.pair .i64 (.pair .i64 (.pair (.sl .u8) .unit))))))) (.pair (.pair .i64 (.pair (.sl .u8) (.pair (.sl (.arr 32 .u8)) (.pair (.sl (.sl .u8)) .unit)))) .unit)) x ar146) h
noncomputable def sl146:Ev.Spec:=⟨sx146.params,sx146.results,fun x=>cond (gl146 x) (some (wUeb,true)) none⟩
theorem kl146:FnOk Tryz.prog 75 sl146:=FnOk.lit kx146 ar146 (wUeb,true) v146 gl146 gl146_ok
end Sx
end
