/- The example's data as shares: literal values. No conditions. -/
import Derived.Test.YtpdabjlnbldpfaaGreatDoorX1
set_option linter.unusedVariables false
set_option linter.unusedSimpArgs false
set_option linter.unusedSectionVars false
set_option maxRecDepth 100000
section
open Go Go.Proofs Ev
namespace Sx
noncomputable def sec19:Ctx:=mkC tys cells maps [(63,sl23e),(62,s45),(64,sx46),(65,s47),(66,sx48),(67,sx49),(68,s50),(34,s91)] [] [(68,Tryz.f68)]
noncomputable def se19:Ev.Spec:=mkS sec19 Tryz.f47 h19 P19 R19
theorem kse19:FnOk Tryz.prog 47 se19:=fn_okS (C:=sec19) (hs:=h19) (ps:=P19) (rs:=R19) (specs:=[(63,sl23e),(62,s45),(64,sx46),(65,s47),(66,sx48),(67,sx49),(68,s50),(34,s91)]) (dyns:=[]) (codes:=[(68,Tryz.f68)]) rfl hm hT ⟨kl23e,k45,kx46,k47,kx48,kx49,k50,k91,trivial⟩ ⟨Tryz.func68,trivial⟩ (by kernel_rfl) Tryz.func47 (by kernel_rfl)
noncomputable def ar19:Val (.pair (.arr 16 .u8) (.pair (.sl .u8) (.pair .i64 (.pair .i64 .unit)))):=(wKey,dat,(1:Int),(1:Int),())
theorem v19:se19.run ar19=some (wCap,wShs,(0:Int)):=by kernel_rfl
noncomputable def gl19(x:InT P19):Bool:= @decide ((x:Val (.pair (.arr 16 .u8) (.pair (.sl .u8) (.pair .i64 (.pair .i64 .unit)))))=ar19) (decV (.pair (.arr 16 .u8) (.pair (.sl .u8) (.pair .i64 (.pair .i64 .unit)))) x ar19)
theorem gl19_ok(x:InT P19)(h:gl19 x=true):x=ar19:= @of_decide_eq_true ((x:Val (.pair (.arr 16 .u8) (.pair (.sl .u8) (.pair .i64 (.pair .i64 .unit)))))=ar19) (decV (.pair (.arr 16 .u8) (.pair (.sl .u8) (.pair .i64 (.pair .i64 .unit)))) x ar19) h
noncomputable def sl19:Ev.Spec:=⟨se19.params,se19.results,fun x=>cond (gl19 x) (some (wCap,wShs,(0:Int))) none⟩
theorem kl19:FnOk Tryz.prog 47 sl19:=FnOk.lit kse19 ar19 (wCap,wShs,(0:Int)) v19 gl19 gl19_ok
end Sx
end
