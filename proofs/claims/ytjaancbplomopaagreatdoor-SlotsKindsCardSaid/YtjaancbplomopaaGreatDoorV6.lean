/- The length of the example's share: a literal value. No conditions. -/
import Derived.Test.YtjaancbplomopaaGreatDoorT
set_option linter.unusedVariables false
set_option linter.unusedSimpArgs false
set_option linter.unusedSectionVars false
set_option maxRecDepth 100000
section
open Go Go.Proofs Ev
namespace Sx
noncomputable def ar183:Val (.pair .i64 (.pair .i64 .unit)):=((1:Int),(2:Int),())
theorem v183:s183.run ar183=some (2:Int):=by kernel_rfl
noncomputable def gl183(x:InT P183):Bool:=eqV (.pair .i64 (.pair .i64 .unit)) x ar183
theorem gl183_ok(x:InT P183)(h:gl183 x=true):x=ar183:=eqV_ok (.pair .i64 (.pair .i64 .unit)) x ar183 h
noncomputable def sl183:Ev.Spec:=⟨s183.params,s183.results,fun x=>cond (gl183 x) (some (2:Int)) none⟩
theorem kl183:FnOk Tryz.prog 228 sl183:=FnOk.lit k183 ar183 (2:Int) v183 gl183 gl183_ok
end Sx
end
