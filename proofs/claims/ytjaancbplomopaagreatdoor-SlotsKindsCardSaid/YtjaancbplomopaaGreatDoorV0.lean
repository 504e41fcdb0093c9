/- The example's index, keys, secrets, order and the ends of its signature's chains: literal values. No conditions. -/
import Derived.Test.YtjaancbplomopaaGreatDoorT
set_option linter.unusedVariables false
set_option linter.unusedSimpArgs false
set_option linter.unusedSectionVars false
set_option maxRecDepth 100000
section
open Go Go.Proofs Ev
namespace Sx
noncomputable def ar74:Val (.pair (.pair .i64 (.pair (.arr 16 .u8) (.pair (.arr 32 .u8) (.pair .i64 (.pair .i64 (.pair .i64 (.pair (.sl .u8) .unit))))))) .unit):=(wCap,())
theorem v74:sx74.run ar74=some (wIdx,(0:Int)):=by kernel_rfl
noncomputable def gl74(x:InT P74):Bool:=eqV (.pair (.pair .i64 (.pair (.arr 16 .u8) (.pair (.arr 32 .u8) (.pair .i64 (.pair .i64 (.pair .i64 (.pair (.sl .u8) .unit))))))) .unit) x ar74
theorem gl74_ok(x:InT P74)(h:gl74 x=true):x=ar74:=eqV_ok (.pair (.pair .i64 (.pair (.arr 16 .u8) (.pair (.arr 32 .u8) (.pair .i64 (.pair .i64 (.pair .i64 (.pair (.sl .u8) .unit))))))) .unit) x ar74 h
noncomputable def sl74:Ev.Spec:=⟨sx74.params,sx74.results,fun x=>cond (gl74 x) (some (wIdx,(0:Int))) none⟩
theorem kl74:FnOk Tryz.prog 34 sl74:=FnOk.lit kx74 ar74 (wIdx,(0:Int)) v74 gl74 gl74_ok
noncomputable def ar138:Val (.pair (.pair .i64 (.pair (.arr 16 .u8) (.pair (.arr 32 .u8) (.pair .i64 (.pair .i64 (.pair .i64 (.pair (.sl .u8) .unit))))))) .unit):=(wCap,())
theorem v138:sx138.run ar138=some (wRcap,(0:Int)):=by kernel_rfl
noncomputable def gl138(x:InT P138):Bool:=eqV (.pair (.pair .i64 (.pair (.arr 16 .u8) (.pair (.arr 32 .u8) (.pair .i64 (.pair .i64 (.pair .i64 (.pair (.sl .u8) .unit))))))) .unit) x ar138
theorem gl138_ok(x:InT P138)(h:gl138 x=true):x=ar138:=eqV_ok (.pair (.pair .i64 (.pair (.arr 16 .u8) (.pair (.arr 32 .u8) (.pair .i64 (.pair .i64 (.pair .i64 (.pair (.sl .u8) .unit))))))) .unit) x ar138 h
noncomputable def sl138:Ev.Spec:=⟨sx138.params,sx138.results,fun x=>cond (gl138 x) (some (wRcap,(0:Int))) none⟩
theorem kl138:FnOk Tryz.prog 72 sl138:=FnOk.lit kx138 ar138 (wRcap,(0:Int)) v138 gl138 gl138_ok
noncomputable def ar580:Val (.pair (.pair .i64 (.pair (.arr 16 .u8) (.pair (.arr 32 .u8) (.pair .i64 (.pair .i64 (.pair .i64 (.pair (.sl .u8) .unit))))))) (.pair .i64 .unit)):=(wCap,(0:Int),())
theorem v580:sx580.run ar580=some (wEnb,(0:Int)):=by kernel_rfl
noncomputable def gl580(x:InT P580):Bool:=eqV (.pair (.pair .i64 (.pair (.arr 16 .u8) (.pair (.arr 32 .u8) (.pair .i64 (.pair .i64 (.pair .i64 (.pair (.sl .u8) .unit))))))) (.pair .i64 .unit)) x ar580
theorem gl580_ok(x:InT P580)(h:gl580 x=true):x=ar580:=eqV_ok (.pair (.pair .i64 (.pair (.arr 16 .u8) (.pair (.arr 32 .u8) (.pair .i64 (.pair .i64 (.pair .i64 (.pair (.sl .u8) .unit))))))) (.pair .i64 .unit)) x ar580 h
noncomputable def sl580:Ev.Spec:=⟨sx580.params,sx580.results,fun x=>cond (gl580 x) (some (wEnb,(0:Int))) none⟩
theorem kl580:FnOk Tryz.prog 97 sl580:=FnOk.lit kx580 ar580 (wEnb,(0:Int)) v580 gl580 gl580_ok
noncomputable def ar466:Val (.pair (.arr 16 .u8) (.pair (.arr 16 .u8) (.pair .i64 .unit))):=(z16,wIdx,(0:Int),())
theorem v466:sx466.run ar466=some wSec:=by kernel_rfl
noncomputable def gl466(x:InT P466):Bool:=eqV (.pair (.arr 16 .u8) (.pair (.arr 16 .u8) (.pair .i64 .unit))) x ar466
theorem gl466_ok(x:InT P466)(h:gl466 x=true):x=ar466:=eqV_ok (.pair (.arr 16 .u8) (.pair (.arr 16 .u8) (.pair .i64 .unit))) x ar466 h
noncomputable def sl466:Ev.Spec:=⟨sx466.params,sx466.results,fun x=>cond (gl466 x) (some wSec) none⟩
theorem kl466:FnOk Tryz.prog 98 sl466:=FnOk.lit kx466 ar466 wSec v466 gl466 gl466_ok
noncomputable def ar483:Val (.pair .i64 (.pair (.arr 16 .u8) .unit)):=((1:Int),wIdx,())
theorem v483:sx483.run ar483=some [(0:Int)]:=by kernel_rfl
noncomputable def gl483(x:InT P483):Bool:=eqV (.pair .i64 (.pair (.arr 16 .u8) .unit)) x ar483
theorem gl483_ok(x:InT P483)(h:gl483 x=true):x=ar483:=eqV_ok (.pair .i64 (.pair (.arr 16 .u8) .unit)) x ar483 h
noncomputable def sl483:Ev.Spec:=⟨sx483.params,sx483.results,fun x=>cond (gl483 x) (some [(0:Int)]) none⟩
theorem kl483:FnOk Tryz.prog 36 sl483:=FnOk.lit kx483 ar483 [(0:Int)] v483 gl483 gl483_ok
noncomputable def ar539:Val (.pair (.arr 16 .u8) (.pair (.arr 32 .u8) .unit)):=(z16,wFp,())
theorem v539:sx539.run ar539=some wCap:=by kernel_rfl
noncomputable def gl539(x:InT P539):Bool:=eqV (.pair (.arr 16 .u8) (.pair (.arr 32 .u8) .unit)) x ar539
theorem gl539_ok(x:InT P539)(h:gl539 x=true):x=ar539:=eqV_ok (.pair (.arr 16 .u8) (.pair (.arr 32 .u8) .unit)) x ar539 h
noncomputable def sl539:Ev.Spec:=⟨sx539.params,sx539.results,fun x=>cond (gl539 x) (some wCap) none⟩
theorem kl539:FnOk Tryz.prog 6 sl539:=FnOk.lit kx539 ar539 wCap v539 gl539 gl539_ok
noncomputable def ar56:Val (.pair (.sl .u8) .unit):=(wCry,())
theorem v56:sx56.run ar56=some wRoot:=by kernel_rfl
noncomputable def gl56(x:InT P56):Bool:=eqV (.pair (.sl .u8) .unit) x ar56
theorem gl56_ok(x:InT P56)(h:gl56 x=true):x=ar56:=eqV_ok (.pair (.sl .u8) .unit) x ar56 h
noncomputable def sl56:Ev.Spec:=⟨sx56.params,sx56.results,fun x=>cond (gl56 x) (some wRoot) none⟩
theorem kl56:FnOk Tryz.prog 92 sl56:=FnOk.lit kx56 ar56 wRoot v56 gl56 gl56_ok
end Sx
end
section
open Go Go.Proofs Ev
namespace Sx
noncomputable def wEnV:List (Vector UInt8 32):=wQ.map fun q=>vecOf 32 q.2.2.2 0
noncomputable def ar607:Val (.pair (.sl .u8) (.pair (.sl (.arr 32 .u8)) .unit)):=(wVerB,wSgV,())
theorem v607:sx607.run ar607=some (wEnV,true):=by kernel_rfl
noncomputable def gl607(x:InT P607):Bool:=eqV (.pair (.sl .u8) (.pair (.sl (.arr 32 .u8)) .unit)) x ar607
theorem gl607_ok(x:InT P607)(h:gl607 x=true):x=ar607:=eqV_ok (.pair (.sl .u8) (.pair (.sl (.arr 32 .u8)) .unit)) x ar607 h
noncomputable def sl607:Ev.Spec:=⟨sx607.params,sx607.results,fun x=>cond (gl607 x) (some (wEnV,true)) none⟩
theorem kl607:FnOk Tryz.prog 311 sl607:=FnOk.lit kx607 ar607 (wEnV,true) v607 gl607 gl607_ok
end Sx
end
section
open Go Go.Proofs Ev
namespace Sx
noncomputable def wPub:Vector UInt8 32:=(vecOf 32 [18,29,33,192,254,171,217,193,232,187,137,19,13,68,124,245,98,251,219,145,252,66,68,179,223,34,38,221,12,233,171,194] 0)
noncomputable def ar586:Val (.pair (.sl (.arr 32 .u8)) .unit):=(wEnV,())
theorem v586:sx586.run ar586=some wPub:=by kernel_rfl
noncomputable def gl586(x:InT P586):Bool:=eqV (.pair (.sl (.arr 32 .u8)) .unit) x ar586
theorem gl586_ok(x:InT P586)(h:gl586 x=true):x=ar586:=eqV_ok (.pair (.sl (.arr 32 .u8)) .unit) x ar586 h
noncomputable def sl586:Ev.Spec:=⟨sx586.params,sx586.results,fun x=>cond (gl586 x) (some wPub) none⟩
theorem kl586:FnOk Tryz.prog 224 sl586:=FnOk.lit kx586 ar586 wPub v586 gl586 gl586_ok
end Sx
end
