/- The print of the example's keystore, by the document: a literal value. No conditions. -/
import Derived.Test.YtjaancbplomopaaGreatDoorT
set_option linter.unusedVariables false
set_option linter.unusedSimpArgs false
set_option linter.unusedSectionVars false
set_option maxRecDepth 100000
section
open Go Go.Proofs Ev
namespace Sx
noncomputable def ar660:Val (.pair (.arr 16 .u8) (.pair .i64 .unit)):=(z16,(0:Int),())
theorem v660:sx660.run ar660=some wFp:=by kernel_rfl
noncomputable def gl660(x:InT P660):Bool:=eqV (.pair (.arr 16 .u8) (.pair .i64 .unit)) x ar660
theorem gl660_ok(x:InT P660)(h:gl660 x=true):x=ar660:=eqV_ok (.pair (.arr 16 .u8) (.pair .i64 .unit)) x ar660 h
noncomputable def sl660:Ev.Spec:=⟨sx660.params,sx660.results,fun x=>cond (gl660 x) (some wFp) none⟩
theorem kl660:FnOk Tryz.prog 7 sl660:=FnOk.lit kx660 ar660 wFp v660 gl660 gl660_ok
end Sx
end
