/- The example's piece is right; what its survey tells: literal values. No conditions. -/
import Derived.Test.YtjaancbplomopaaGreatDoorV0
import Derived.Test.YtjaancbplomopaaGreatDoorV6
import Derived.Test.YtjaancbplomopaaGreatDoorV5
set_option linter.unusedVariables false
set_option linter.unusedSimpArgs false
set_option linter.unusedSectionVars false
set_option maxRecDepth 100000
section
open Go Go.Proofs Ev
namespace Sx
noncomputable def sec606:Ctx:=mkC tys cells maps [(224,sl586),(311,sl607)] [] []
noncomputable def se606:Ev.Spec:=mkS sec606 Tryz.f298 h606 P606 R606
theorem kse606:FnOk Tryz.prog 298 se606:=fn_okS (C:=sec606) (hs:=h606) (ps:=P606) (rs:=R606) (specs:=[(224,sl586),(311,sl607)]) (dyns:=[]) (codes:=[]) rfl hm hT ⟨kl586,kl607,trivial⟩ trivial (by kernel_rfl) Tryz.func298 (by kernel_rfl)
noncomputable def sec605:Ctx:=mkC tys cells maps [(286,sx203),(106,s558),(298,se606)] [] []
noncomputable def se605:Ev.Spec:=mkS sec605 Tryz.f285 h605 P605 R605
theorem kse605:FnOk Tryz.prog 285 se605:=fn_okS (C:=sec605) (hs:=h605) (ps:=P605) (rs:=R605) (specs:=[(286,sx203),(106,s558),(298,se606)]) (dyns:=[]) (codes:=[]) rfl hm hT ⟨kx203,k558,kse606,trivial⟩ trivial (by kernel_rfl) Tryz.func285 (by kernel_rfl)
noncomputable def sec603:Ctx:=mkC tys cells maps [(107,sx125),(108,s559),(285,se605)] [] []
noncomputable def se603:Ev.Spec:=mkS sec603 Tryz.f229 h603 P603 R603
theorem kse603:FnOk Tryz.prog 229 se603:=fn_okS (C:=sec603) (hs:=h603) (ps:=P603) (rs:=R603) (specs:=[(107,sx125),(108,s559),(285,se605)]) (dyns:=[]) (codes:=[]) rfl hm hT ⟨kx125,k559,kse605,trivial⟩ trivial (by kernel_rfl) Tryz.func229 (by kernel_rfl)
noncomputable def sec599:Ctx:=mkC tys cells maps [(92,sx56),(228,sl183),(230,sx184),(68,s578),(229,se603)] [] []
noncomputable def se599:Ev.Spec:=mkS sec599 Tryz.f166 h599 P599 R599
theorem kse599:FnOk Tryz.prog 166 se599:=fn_okS (C:=sec599) (hs:=h599) (ps:=P599) (rs:=R599) (specs:=[(92,sx56),(228,sl183),(230,sx184),(68,s578),(229,se603)]) (dyns:=[]) (codes:=[]) rfl hm hT ⟨kx56,kl183,kx184,k578,kse603,trivial⟩ trivial (by kernel_rfl) Tryz.func166 (by kernel_rfl)
noncomputable def ar599:Val (.pair (.arr 32 .u8) (.pair (.pair .i64 (.pair (.pair .i64 (.pair .i64 (.pair .i64 (.pair .i64 (.pair (.arr 16 .u8) (.pair (.arr 32 .u8) .unit)))))) (.pair (.pair .i64 (.pair .i64 (.pair (.sl (.arr 32 .u8)) (.pair (.sl (.arr 32 .u8)) .unit)))) (.pair (.sl (.arr 32 .u8)) (.pair (.sl .u8) .unit))))) .unit)):=(wFp,wPc,())
theorem v599:se599.run ar599=some true:=by kernel_rfl
noncomputable def gl599(x:InT P599):Bool:=eqV (.pair (.arr 32 .u8) (.pair (.pair .i64 (.pair (.pair .i64 (.pair .i64 (.pair .i64 (.pair .i64 (.pair (.arr 16 .u8) (.pair (.arr 32 .u8) .unit)))))) (.pair (.pair .i64 (.pair .i64 (.pair (.sl (.arr 32 .u8)) (.pair (.sl (.arr 32 .u8)) .unit)))) (.pair (.sl (.arr 32 .u8)) (.pair (.sl .u8) .unit))))) .unit)) x ar599
theorem gl599_ok(x:InT P599)(h:gl599 x=true):x=ar599:=eqV_ok (.pair (.arr 32 .u8) (.pair (.pair .i64 (.pair (.pair .i64 (.pair .i64 (.pair .i64 (.pair .i64 (.pair (.arr 16 .u8) (.pair (.arr 32 .u8) .unit)))))) (.pair (.pair .i64 (.pair .i64 (.pair (.sl (.arr 32 .u8)) (.pair (.sl (.arr 32 .u8)) .unit)))) (.pair (.sl (.arr 32 .u8)) (.pair (.sl .u8) .unit))))) .unit)) x ar599 h
noncomputable def sl599:Ev.Spec:=⟨se599.params,se599.results,fun x=>cond (gl599 x) (some true) none⟩
theorem kl599:FnOk Tryz.prog 166 sl599:=FnOk.lit kse599 ar599 true v599 gl599 gl599_ok
end Sx
end
section
open Go Go.Proofs Ev
namespace Sx
noncomputable def sec595:Ctx:=mkC tys cells maps [(165,sl598),(166,sl599)] [] []
noncomputable def se595:Ev.Spec:=mkS sec595 Tryz.f116 h595 P595 R595
theorem kse595:FnOk Tryz.prog 116 se595:=fn_okS (C:=sec595) (hs:=h595) (ps:=P595) (rs:=R595) (specs:=[(165,sl598),(166,sl599)]) (dyns:=[]) (codes:=[]) rfl hm hT ⟨kl598,kl599,trivial⟩ trivial (by kernel_rfl) Tryz.func116 (by kernel_rfl)
noncomputable def sec588:Ctx:=mkC tys cells maps [(116,se595)] [] []
noncomputable def se588:Ev.Spec:=mkS sec588 Tryz.f64 h588 P588 R588
theorem kse588:FnOk Tryz.prog 64 se588:=fn_okS (C:=sec588) (hs:=h588) (ps:=P588) (rs:=R588) (specs:=[(116,se595)]) (dyns:=[]) (codes:=[]) rfl hm hT ⟨kse595,trivial⟩ trivial (by kernel_rfl) Tryz.func64 (by kernel_rfl)
noncomputable def ar588a:Val (.pair (.pair .i64 (.pair (.arr 16 .u8) (.pair (.arr 32 .u8) (.pair .i64 (.pair .i64 (.pair .i64 (.pair (.sl .u8) .unit))))))) (.pair (.pair (.sl .bool) (.pair (.sl (.sl (.pair .i64 (.pair (.sl .u8) .unit)))) .unit)) .unit)):=(wCap,wS0,())
theorem v588a:se588.run ar588a=some ([]:List (Val (.pair .i64 (.pair (.pair .i64 (.pair .i64 (.pair .i64 (.pair .i64 (.pair (.arr 16 .u8) (.pair (.arr 32 .u8) .unit)))))) (.pair (.pair .i64 (.pair .i64 (.pair (.sl (.arr 32 .u8)) (.pair (.sl (.arr 32 .u8)) .unit)))) (.pair (.sl (.arr 32 .u8)) (.pair (.sl .u8) .unit))))))):=by kernel_rfl
noncomputable def gl588a(x:InT P588):Bool:=eqV (.pair (.pair .i64 (.pair (.arr 16 .u8) (.pair (.arr 32 .u8) (.pair .i64 (.pair .i64 (.pair .i64 (.pair (.sl .u8) .unit))))))) (.pair (.pair (.sl .bool) (.pair (.sl (.sl (.pair .i64 (.pair (.sl .u8) .unit)))) .unit)) .unit)) x ar588a
theorem gl588a_ok(x:InT P588)(h:gl588a x=true):x=ar588a:=eqV_ok (.pair (.pair .i64 (.pair (.arr 16 .u8) (.pair (.arr 32 .u8) (.pair .i64 (.pair .i64 (.pair .i64 (.pair (.sl .u8) .unit))))))) (.pair (.pair (.sl .bool) (.pair (.sl (.sl (.pair .i64 (.pair (.sl .u8) .unit)))) .unit)) .unit)) x ar588a h
noncomputable def sl588a:Ev.Spec:=⟨se588.params,se588.results,fun x=>cond (gl588a x) (some ([]:List (Val (.pair .i64 (.pair (.pair .i64 (.pair .i64 (.pair .i64 (.pair .i64 (.pair (.arr 16 .u8) (.pair (.arr 32 .u8) .unit)))))) (.pair (.pair .i64 (.pair .i64 (.pair (.sl (.arr 32 .u8)) (.pair (.sl (.arr 32 .u8)) .unit)))) (.pair (.sl (.arr 32 .u8)) (.pair (.sl .u8) .unit)))))))) none⟩
theorem kl588a:FnOk Tryz.prog 64 sl588a:=FnOk.lit kse588 ar588a ([]:List (Val (.pair .i64 (.pair (.pair .i64 (.pair .i64 (.pair .i64 (.pair .i64 (.pair (.arr 16 .u8) (.pair (.arr 32 .u8) .unit)))))) (.pair (.pair .i64 (.pair .i64 (.pair (.sl (.arr 32 .u8)) (.pair (.sl (.arr 32 .u8)) .unit)))) (.pair (.sl (.arr 32 .u8)) (.pair (.sl .u8) .unit))))))) v588a gl588a gl588a_ok
noncomputable def ar588b:Val (.pair (.pair .i64 (.pair (.arr 16 .u8) (.pair (.arr 32 .u8) (.pair .i64 (.pair .i64 (.pair .i64 (.pair (.sl .u8) .unit))))))) (.pair (.pair (.sl .bool) (.pair (.sl (.sl (.pair .i64 (.pair (.sl .u8) .unit)))) .unit)) .unit)):=(wCap,wS1,())
theorem v588b:se588.run ar588b=some [wPc]:=by kernel_rfl
noncomputable def gl588b(x:InT P588):Bool:=eqV (.pair (.pair .i64 (.pair (.arr 16 .u8) (.pair (.arr 32 .u8) (.pair .i64 (.pair .i64 (.pair .i64 (.pair (.sl .u8) .unit))))))) (.pair (.pair (.sl .bool) (.pair (.sl (.sl (.pair .i64 (.pair (.sl .u8) .unit)))) .unit)) .unit)) x ar588b
theorem gl588b_ok(x:InT P588)(h:gl588b x=true):x=ar588b:=eqV_ok (.pair (.pair .i64 (.pair (.arr 16 .u8) (.pair (.arr 32 .u8) (.pair .i64 (.pair .i64 (.pair .i64 (.pair (.sl .u8) .unit))))))) (.pair (.pair (.sl .bool) (.pair (.sl (.sl (.pair .i64 (.pair (.sl .u8) .unit)))) .unit)) .unit)) x ar588b h
noncomputable def sl588b:Ev.Spec:=⟨se588.params,se588.results,fun x=>cond (gl588b x) (some [wPc]) none⟩
theorem kl588b:FnOk Tryz.prog 64 sl588b:=FnOk.lit kse588 ar588b [wPc] v588b gl588b gl588b_ok
noncomputable def sl588:Ev.Spec:=⟨P588,R588,fun x=>cond (gl588a x) (sl588a.run x) (sl588b.run x)⟩
theorem kl588:FnOk Tryz.prog 64 sl588:=FnOk.lit2 (run:=sl588a.run) (run':=sl588b.run) kl588a kl588b gl588a
noncomputable def sec575:Ctx:=mkC tys cells maps [(65,s587),(64,sl588)] [] []
noncomputable def se575:Ev.Spec:=mkS sec575 Tryz.f90 h575 P575 R575
theorem kse575:FnOk Tryz.prog 90 se575:=fn_okS (C:=sec575) (hs:=h575) (ps:=P575) (rs:=R575) (specs:=[(65,s587),(64,sl588)]) (dyns:=[]) (codes:=[]) rfl hm hT ⟨k587,kl588,trivial⟩ trivial (by kernel_rfl) Tryz.func90 (by kernel_rfl)
noncomputable def sec567:Ctx:=mkC tys cells maps [(90,se575)] [] []
noncomputable def se567:Ev.Spec:=mkS sec567 Tryz.f40 h567 P567 R567
theorem kse567:FnOk Tryz.prog 40 se567:=fn_okS (C:=sec567) (hs:=h567) (ps:=P567) (rs:=R567) (specs:=[(90,se575)]) (dyns:=[]) (codes:=[]) rfl hm hT ⟨kse575,trivial⟩ trivial (by kernel_rfl) Tryz.func40 (by kernel_rfl)
noncomputable def ar567:Val (.pair (.pair .i64 (.pair (.arr 16 .u8) (.pair (.arr 32 .u8) (.pair .i64 (.pair .i64 (.pair .i64 (.pair (.sl .u8) .unit))))))) (.pair (.pair (.sl .bool) (.pair (.sl (.sl (.pair .i64 (.pair (.sl .u8) .unit)))) .unit)) .unit)):=(wCap,wS0,())
theorem v567:se567.run ar567=some (0:Int):=by kernel_rfl
noncomputable def gl567(x:InT P567):Bool:=eqV (.pair (.pair .i64 (.pair (.arr 16 .u8) (.pair (.arr 32 .u8) (.pair .i64 (.pair .i64 (.pair .i64 (.pair (.sl .u8) .unit))))))) (.pair (.pair (.sl .bool) (.pair (.sl (.sl (.pair .i64 (.pair (.sl .u8) .unit)))) .unit)) .unit)) x ar567
theorem gl567_ok(x:InT P567)(h:gl567 x=true):x=ar567:=eqV_ok (.pair (.pair .i64 (.pair (.arr 16 .u8) (.pair (.arr 32 .u8) (.pair .i64 (.pair .i64 (.pair .i64 (.pair (.sl .u8) .unit))))))) (.pair (.pair (.sl .bool) (.pair (.sl (.sl (.pair .i64 (.pair (.sl .u8) .unit)))) .unit)) .unit)) x ar567 h
noncomputable def sl567:Ev.Spec:=⟨se567.params,se567.results,fun x=>cond (gl567 x) (some (0:Int)) none⟩
theorem kl567:FnOk Tryz.prog 40 sl567:=FnOk.lit kse567 ar567 (0:Int) v567 gl567 gl567_ok
noncomputable def sec624:Ctx:=mkC tys cells maps [(65,s587),(64,sl588),(66,s629)] [] []
noncomputable def se624:Ev.Spec:=mkS sec624 Tryz.f30 h624 P624 R624
theorem kse624:FnOk Tryz.prog 30 se624:=fn_okS (C:=sec624) (hs:=h624) (ps:=P624) (rs:=R624) (specs:=[(65,s587),(64,sl588),(66,s629)]) (dyns:=[]) (codes:=[]) rfl hm hT ⟨k587,kl588,k629,trivial⟩ trivial (by kernel_rfl) Tryz.func30 (by kernel_rfl)
noncomputable def ar624:Val (.pair (.pair .i64 (.pair (.arr 16 .u8) (.pair (.arr 32 .u8) (.pair .i64 (.pair .i64 (.pair .i64 (.pair (.sl .u8) .unit))))))) (.pair (.pair (.sl .bool) (.pair (.sl (.sl (.pair .i64 (.pair (.sl .u8) .unit)))) .unit)) .unit)):=(wCap,wS1,())
theorem v624:se624.run ar624=some (wVer,[wPc],(0:Int)):=by kernel_rfl
noncomputable def gl624(x:InT P624):Bool:=eqV (.pair (.pair .i64 (.pair (.arr 16 .u8) (.pair (.arr 32 .u8) (.pair .i64 (.pair .i64 (.pair .i64 (.pair (.sl .u8) .unit))))))) (.pair (.pair (.sl .bool) (.pair (.sl (.sl (.pair .i64 (.pair (.sl .u8) .unit)))) .unit)) .unit)) x ar624
theorem gl624_ok(x:InT P624)(h:gl624 x=true):x=ar624:=eqV_ok (.pair (.pair .i64 (.pair (.arr 16 .u8) (.pair (.arr 32 .u8) (.pair .i64 (.pair .i64 (.pair .i64 (.pair (.sl .u8) .unit))))))) (.pair (.pair (.sl .bool) (.pair (.sl (.sl (.pair .i64 (.pair (.sl .u8) .unit)))) .unit)) .unit)) x ar624 h
noncomputable def sl624:Ev.Spec:=⟨se624.params,se624.results,fun x=>cond (gl624 x) (some (wVer,[wPc],(0:Int))) none⟩
theorem kl624:FnOk Tryz.prog 30 sl624:=FnOk.lit kse624 ar624 (wVer,[wPc],(0:Int)) v624 gl624 gl624_ok
end Sx
end
