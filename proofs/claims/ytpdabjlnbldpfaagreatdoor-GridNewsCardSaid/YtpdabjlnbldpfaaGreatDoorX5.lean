/- The example's shares make its data again: literal values. No conditions. -/
import Derived.Test.YtpdabjlnbldpfaaGreatDoorX1
import Derived.Test.YtpdabjlnbldpfaaGreatDoorX4
set_option linter.unusedVariables false
set_option linter.unusedSimpArgs false
set_option linter.unusedSectionVars false
set_option maxRecDepth 100000
section
open Go Go.Proofs Ev
namespace Sx
noncomputable def sec114:Ctx:=mkC tys cells maps [(75,sl146)] [] []
noncomputable def se114:Ev.Spec:=mkS sec114 Tryz.f50 h114 P114 R114
theorem kse114:FnOk Tryz.prog 50 se114:=fn_okS (C:=sec114) (hs:=h114) (ps:=P114) (rs:=R114) (specs:=[(75,sl146)]) (dyns:=[]) (codes:=[]) rfl hm hT ⟨kl146,trivial⟩ trivial (by kernel_rfl) Tryz.func50 (by kernel_rfl)
noncomputable def sec467:Ctx:=mkC tys cells maps [(66,sx48),(82,s83),(75,sl146),(83,s410),(78,s471)] [] []
noncomputable def se467:Ev.Spec:=mkS sec467 Tryz.f57 h467 P467 R467
theorem kse467:FnOk Tryz.prog 57 se467:=fn_okS (C:=sec467) (hs:=h467) (ps:=P467) (rs:=R467) (specs:=[(66,sx48),(82,s83),(75,sl146),(83,s410),(78,s471)]) (dyns:=[]) (codes:=[]) rfl hm hT ⟨kx48,k83,kl146,k410,k471,trivial⟩ trivial (by kernel_rfl) Tryz.func57 (by kernel_rfl)
noncomputable def ar467:Val (.pair (.pair .i64 (.pair (.arr 16 .u8) (.pair (.arr 32 .u8) (.pair .i64 (.pair .i64 (.pair .i64 (.pair (.sl .u8) .unit))))))) (.pair (.sl (.pair .i64 (.pair (.sl .u8) (.pair (.sl (.arr 32 .u8)) (.pair (.sl (.sl .u8)) .unit))))) .unit)):=(wCap,wShs,())
theorem v467:se467.run ar467=some (wCry,wUeb,(0:Int)):=by kernel_rfl
noncomputable def gl467(x:InT P467):Bool:= @decide ((x:Val (.pair (.pair .i64 (.pair (.arr 16 .u8) (.pair (.arr 32 .u8) (.pair .i64 (.pair .i64 (.pair .i64 (.pair (.sl .u8) .unit))))))) (.pair (.sl (.pair .i64 (.pair (.sl .u8) (.pair (.sl (.arr 32 .u8)) (.pair (.sl (.sl .u8)) .unit))))) .unit)))=ar467) (decV (.pair (.pair .i64 (.pair (.arr 16 .u8) (.pair (.arr 32 .u8) (.pair .i64 (.pair .i64 (.pair .i64 (.pair (.sl .u8) .unit))))))) (.pair (.sl (.pair .i64 (.pair (.sl .u8) (.pair (.sl (.arr 32 .u8)) (.pair (.sl (.sl .u8)) .unit))))) .unit)) x ar467)
theorem gl467_ok(x:InT P467)(h:gl467 x=true):x=ar467:= @of_decide_eq_true ((x:Val (.pair (.pair .i64 (.pair (.arr 16 .u8) (.pair (.arr 32 .u8) (.pair .i64 (.pair .i64 (.pair .i64 (.pair (.sl .u8) .unit))))))) (.pair (.sl (.pair .i64 (.pair (.sl .u8) (.pair (.sl (.arr 32 .u8)) (.pair (.sl (.sl .u8)) .unit))))) .unit)))=ar467) (decV (.pair (.pair .i64 (.pair (.arr 16 .u8) (.pair (.arr 32 .u8) (.pair .i64 (.pair .i64 (.pair .i64 (.pair (.sl .u8) .unit))))))) (.pair (.sl (.pair .i64 (.pair (.sl .u8) (.pair (.sl (.arr 32 .u8)) (.pair (.sl (.sl .u8)) .unit))))) .unit)) x ar467) h
noncomputable def sl467:Ev.Spec:=⟨se467.params,se467.results,fun x=>cond (gl467 x) (some (wCry,wUeb,(0:Int))) none⟩
theorem kl467:FnOk Tryz.prog 57 sl467:=FnOk.lit kse467 ar467 (wCry,wUeb,(0:Int)) v467 gl467 gl467_ok
noncomputable def sec470:Ctx:=mkC tys cells maps [(63,sl23o),(55,s136)] [] []
noncomputable def se470:Ev.Spec:=mkS sec470 Tryz.f58 h470 P470 R470
theorem kse470:FnOk Tryz.prog 58 se470:=fn_okS (C:=sec470) (hs:=h470) (ps:=P470) (rs:=R470) (specs:=[(63,sl23o),(55,s136)]) (dyns:=[]) (codes:=[]) rfl hm hT ⟨kl23o,k136,trivial⟩ trivial (by kernel_rfl) Tryz.func58 (by kernel_rfl)
noncomputable def ar470:Val (.pair (.pair .i64 (.pair (.arr 16 .u8) (.pair (.arr 32 .u8) (.pair .i64 (.pair .i64 (.pair .i64 (.pair (.sl .u8) .unit))))))) (.pair (.sl .u8) .unit)):=(wCap,wCry,())
theorem v470:se470.run ar470=some (dat,(0:Int)):=by kernel_rfl
noncomputable def gl470(x:InT P470):Bool:= @decide ((x:Val (.pair (.pair .i64 (.pair (.arr 16 .u8) (.pair (.arr 32 .u8) (.pair .i64 (.pair .i64 (.pair .i64 (.pair (.sl .u8) .unit))))))) (.pair (.sl .u8) .unit)))=ar470) (decV (.pair (.pair .i64 (.pair (.arr 16 .u8) (.pair (.arr 32 .u8) (.pair .i64 (.pair .i64 (.pair .i64 (.pair (.sl .u8) .unit))))))) (.pair (.sl .u8) .unit)) x ar470)
theorem gl470_ok(x:InT P470)(h:gl470 x=true):x=ar470:= @of_decide_eq_true ((x:Val (.pair (.pair .i64 (.pair (.arr 16 .u8) (.pair (.arr 32 .u8) (.pair .i64 (.pair .i64 (.pair .i64 (.pair (.sl .u8) .unit))))))) (.pair (.sl .u8) .unit)))=ar470) (decV (.pair (.pair .i64 (.pair (.arr 16 .u8) (.pair (.arr 32 .u8) (.pair .i64 (.pair .i64 (.pair .i64 (.pair (.sl .u8) .unit))))))) (.pair (.sl .u8) .unit)) x ar470) h
noncomputable def sl470:Ev.Spec:=⟨se470.params,se470.results,fun x=>cond (gl470 x) (some (dat,(0:Int))) none⟩
theorem kl470:FnOk Tryz.prog 58 sl470:=FnOk.lit kse470 ar470 (dat,(0:Int)) v470 gl470 gl470_ok
end Sx
end
