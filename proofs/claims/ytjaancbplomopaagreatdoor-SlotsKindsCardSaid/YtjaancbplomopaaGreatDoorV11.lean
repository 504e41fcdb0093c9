/- What the example's piece opens to: a literal value. No conditions. -/
import Derived.Test.YtjaancbplomopaaGreatDoorV7
import Derived.Test.YtjaancbplomopaaGreatDoorV0
set_option linter.unusedVariables false
set_option linter.unusedSimpArgs false
set_option linter.unusedSectionVars false
set_option maxRecDepth 100000
section
open Go Go.Proofs Ev
namespace Sx
noncomputable def soc625:Ctx:=mkC tys cells maps [(69,s83),(29,s137),(72,sl138),(70,s202),(71,s410),(32,s574),(73,so576),(68,s578),(67,s601)] [] []
noncomputable def so625:Ev.Spec:=mkS soc625 Tryz.f31 h625 P625 R625
theorem kso625:FnOk Tryz.prog 31 so625:=fn_okS (C:=soc625) (hs:=h625) (ps:=P625) (rs:=R625) (specs:=[(69,s83),(29,s137),(72,sl138),(70,s202),(71,s410),(32,s574),(73,so576),(68,s578),(67,s601)]) (dyns:=[]) (codes:=[]) rfl hm hT ⟨k83,k137,kl138,k202,k410,k574,kso576,k578,k601,trivial⟩ trivial (by kernel_rfl) Tryz.func31 (by kernel_rfl)
noncomputable def ar625:Val (.pair (.pair .i64 (.pair (.arr 16 .u8) (.pair (.arr 32 .u8) (.pair .i64 (.pair .i64 (.pair .i64 (.pair (.sl .u8) .unit))))))) (.pair (.pair .i64 (.pair .i64 (.pair .i64 (.pair .i64 (.pair (.arr 16 .u8) (.pair (.arr 32 .u8) .unit)))))) (.pair (.sl (.pair .i64 (.pair (.pair .i64 (.pair .i64 (.pair .i64 (.pair .i64 (.pair (.arr 16 .u8) (.pair (.arr 32 .u8) .unit)))))) (.pair (.pair .i64 (.pair .i64 (.pair (.sl (.arr 32 .u8)) (.pair (.sl (.arr 32 .u8)) .unit)))) (.pair (.sl (.arr 32 .u8)) (.pair (.sl .u8) .unit)))))) .unit))):=(wCap,wVer,[wPc],())
theorem v625:so625.run ar625=some (dat,(0:Int)):=by kernel_rfl
noncomputable def gl625(x:InT P625):Bool:=eqV (.pair (.pair .i64 (.pair (.arr 16 .u8) (.pair (.arr 32 .u8) (.pair .i64 (.pair .i64 (.pair .i64 (.pair (.sl .u8) .unit))))))) (.pair (.pair .i64 (.pair .i64 (.pair .i64 (.pair .i64 (.pair (.arr 16 .u8) (.pair (.arr 32 .u8) .unit)))))) (.pair (.sl (.pair .i64 (.pair (.pair .i64 (.pair .i64 (.pair .i64 (.pair .i64 (.pair (.arr 16 .u8) (.pair (.arr 32 .u8) .unit)))))) (.pair (.pair .i64 (.pair .i64 (.pair (.sl (.arr 32 .u8)) (.pair (.sl (.arr 32 .u8)) .unit)))) (.pair (.sl (.arr 32 .u8)) (.pair (.sl .u8) .unit)))))) .unit))) x ar625
theorem gl625_ok(x:InT P625)(h:gl625 x=true):x=ar625:=eqV_ok (.pair (.pair .i64 (.pair (.arr 16 .u8) (.pair (.arr 32 .u8) (.pair .i64 (.pair .i64 (.pair .i64 (.pair (.sl .u8) .unit))))))) (.pair (.pair .i64 (.pair .i64 (.pair .i64 (.pair .i64 (.pair (.arr 16 .u8) (.pair (.arr 32 .u8) .unit)))))) (.pair (.sl (.pair .i64 (.pair (.pair .i64 (.pair .i64 (.pair .i64 (.pair .i64 (.pair (.arr 16 .u8) (.pair (.arr 32 .u8) .unit)))))) (.pair (.pair .i64 (.pair .i64 (.pair (.sl (.arr 32 .u8)) (.pair (.sl (.arr 32 .u8)) .unit)))) (.pair (.sl (.arr 32 .u8)) (.pair (.sl .u8) .unit)))))) .unit))) x ar625 h
noncomputable def sl625:Ev.Spec:=⟨so625.params,so625.results,fun x=>cond (gl625 x) (some (dat,(0:Int))) none⟩
theorem kl625:FnOk Tryz.prog 31 sl625:=FnOk.lit kso625 ar625 (dat,(0:Int)) v625 gl625 gl625_ok
end Sx
end
