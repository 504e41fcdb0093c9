/- The example's key, index, secret, order and disk: literal values. No conditions. -/
import Derived.Test.YtpdabjlnbldpfaaGreatDoorX
set_option linter.unusedVariables false
set_option linter.unusedSimpArgs false
set_option linter.unusedSectionVars false
set_option maxRecDepth 100000
section
open Go Go.Proofs Ev
namespace Sx
noncomputable def ar485:Val (.pair (.sl .u8) (.pair .i64 (.pair .i64 .unit))):=(dat,(1:Int),(1:Int),())
theorem v485:sx485.run ar485=some wKey:=by kernel_rfl
noncomputable def gl485(x:InT P485):Bool:= @decide ((x:Val (.pair (.sl .u8) (.pair .i64 (.pair .i64 .unit))))=ar485) (decV (.pair (.sl .u8) (.pair .i64 (.pair .i64 .unit))) x ar485)
theorem gl485_ok(x:InT P485)(h:gl485 x=true):x=ar485:= @of_decide_eq_true ((x:Val (.pair (.sl .u8) (.pair .i64 (.pair .i64 .unit))))=ar485) (decV (.pair (.sl .u8) (.pair .i64 (.pair .i64 .unit))) x ar485) h
noncomputable def sl485:Ev.Spec:=⟨sx485.params,sx485.results,fun x=>cond (gl485 x) (some wKey) none⟩
theorem kl485:FnOk Tryz.prog 37 sl485:=FnOk.lit kx485 ar485 wKey v485 gl485 gl485_ok
noncomputable def ar74:Val (.pair (.pair .i64 (.pair (.arr 16 .u8) (.pair (.arr 32 .u8) (.pair .i64 (.pair .i64 (.pair .i64 (.pair (.sl .u8) .unit))))))) .unit):=(wCap,())
theorem v74:sx74.run ar74=some (wIdx,(0:Int)):=by kernel_rfl
noncomputable def gl74(x:InT P74):Bool:= @decide ((x:Val (.pair (.pair .i64 (.pair (.arr 16 .u8) (.pair (.arr 32 .u8) (.pair .i64 (.pair .i64 (.pair .i64 (.pair (.sl .u8) .unit))))))) .unit))=ar74) (decV (.pair (.pair .i64 (.pair (.arr 16 .u8) (.pair (.arr 32 .u8) (.pair .i64 (.pair .i64 (.pair .i64 (.pair (.sl .u8) .unit))))))) .unit) x ar74)
theorem gl74_ok(x:InT P74)(h:gl74 x=true):x=ar74:= @of_decide_eq_true ((x:Val (.pair (.pair .i64 (.pair (.arr 16 .u8) (.pair (.arr 32 .u8) (.pair .i64 (.pair .i64 (.pair .i64 (.pair (.sl .u8) .unit))))))) .unit))=ar74) (decV (.pair (.pair .i64 (.pair (.arr 16 .u8) (.pair (.arr 32 .u8) (.pair .i64 (.pair .i64 (.pair .i64 (.pair (.sl .u8) .unit))))))) .unit) x ar74) h
noncomputable def sl74:Ev.Spec:=⟨sx74.params,sx74.results,fun x=>cond (gl74 x) (some (wIdx,(0:Int))) none⟩
theorem kl74:FnOk Tryz.prog 48 sl74:=FnOk.lit kx74 ar74 (wIdx,(0:Int)) v74 gl74 gl74_ok
noncomputable def ar466:Val (.pair (.arr 16 .u8) (.pair (.arr 16 .u8) (.pair .i64 .unit))):=(Vector.replicate 16 (0:UInt8),wIdx,(0:Int),())
theorem v466:sx466.run ar466=some wSec:=by kernel_rfl
noncomputable def gl466(x:InT P466):Bool:= @decide ((x:Val (.pair (.arr 16 .u8) (.pair (.arr 16 .u8) (.pair .i64 .unit))))=ar466) (decV (.pair (.arr 16 .u8) (.pair (.arr 16 .u8) (.pair .i64 .unit))) x ar466)
theorem gl466_ok(x:InT P466)(h:gl466 x=true):x=ar466:= @of_decide_eq_true ((x:Val (.pair (.arr 16 .u8) (.pair (.arr 16 .u8) (.pair .i64 .unit))))=ar466) (decV (.pair (.arr 16 .u8) (.pair (.arr 16 .u8) (.pair .i64 .unit))) x ar466) h
noncomputable def sl466:Ev.Spec:=⟨sx466.params,sx466.results,fun x=>cond (gl466 x) (some wSec) none⟩
theorem kl466:FnOk Tryz.prog 101 sl466:=FnOk.lit kx466 ar466 wSec v466 gl466 gl466_ok
noncomputable def ar483:Val (.pair .i64 (.pair (.arr 16 .u8) .unit)):=((1:Int),wIdx,())
theorem v483:sx483.run ar483=some [(0:Int)]:=by kernel_rfl
noncomputable def gl483(x:InT P483):Bool:= @decide ((x:Val (.pair .i64 (.pair (.arr 16 .u8) .unit)))=ar483) (decV (.pair .i64 (.pair (.arr 16 .u8) .unit)) x ar483)
theorem gl483_ok(x:InT P483)(h:gl483 x=true):x=ar483:= @of_decide_eq_true ((x:Val (.pair .i64 (.pair (.arr 16 .u8) .unit)))=ar483) (decV (.pair .i64 (.pair (.arr 16 .u8) .unit)) x ar483) h
noncomputable def sl483:Ev.Spec:=⟨sx483.params,sx483.results,fun x=>cond (gl483 x) (some [(0:Int)]) none⟩
theorem kl483:FnOk Tryz.prog 71 sl483:=FnOk.lit kx483 ar483 [(0:Int)] v483 gl483 gl483_ok
noncomputable def ar106:Val (.pair .i64 .unit):=((320:Int),())
theorem v106:s106.run ar106=some (some dsk0,(0:Int)):=by kernel_rfl
noncomputable def gl106(x:InT P106):Bool:= @decide ((x:Val (.pair .i64 .unit))=ar106) (decV (.pair .i64 .unit) x ar106)
theorem gl106_ok(x:InT P106)(h:gl106 x=true):x=ar106:= @of_decide_eq_true ((x:Val (.pair .i64 .unit))=ar106) (decV (.pair .i64 .unit) x ar106) h
noncomputable def sl106:Ev.Spec:=⟨s106.params,s106.results,fun x=>cond (gl106 x) (some (some dsk0,(0:Int))) none⟩
theorem kl106:FnOk Tryz.prog 13 sl106:=FnOk.lit k106 ar106 (some dsk0,(0:Int)) v106 gl106 gl106_ok
end Sx
end
