/- A store on a disk of noughts is opened: literal values. No conditions. -/
import Derived.Test.YtpdabjlnbldpfaaGreatDoorX
set_option linter.unusedVariables false
set_option linter.unusedSimpArgs false
set_option linter.unusedSectionVars false
set_option maxRecDepth 100000
section
open Go Go.Proofs Ev
namespace Sx
noncomputable def arb:Val (.pair (.pair (.op (.pair (.sl (.arr 32 .u8)) (.pair .bool (.pair .bool (.pair .i64 (.pair .i64 (.pair .i64 .unit))))))) (.pair .i64 (.pair (.sl (.pair .bool (.pair .str (.pair .i64 (.pair (.sl .u8) .unit))))) (.pair .bool .unit)))) (.pair .str .unit)):=(sto0,[],())
theorem vb:s134.run arb=some (-1:Int):=by kernel_rfl
noncomputable def glb(x:InT P134):Bool:= @decide ((x:Val (.pair (.pair (.op (.pair (.sl (.arr 32 .u8)) (.pair .bool (.pair .bool (.pair .i64 (.pair .i64 (.pair .i64 .unit))))))) (.pair .i64 (.pair (.sl (.pair .bool (.pair .str (.pair .i64 (.pair (.sl .u8) .unit))))) (.pair .bool .unit)))) (.pair .str .unit)))=arb) (decV (.pair (.pair (.op (.pair (.sl (.arr 32 .u8)) (.pair .bool (.pair .bool (.pair .i64 (.pair .i64 (.pair .i64 .unit))))))) (.pair .i64 (.pair (.sl (.pair .bool (.pair .str (.pair .i64 (.pair (.sl .u8) .unit))))) (.pair .bool .unit)))) (.pair .str .unit)) x arb)
theorem glb_ok(x:InT P134)(h:glb x=true):x=arb:= @of_decide_eq_true ((x:Val (.pair (.pair (.op (.pair (.sl (.arr 32 .u8)) (.pair .bool (.pair .bool (.pair .i64 (.pair .i64 (.pair .i64 .unit))))))) (.pair .i64 (.pair (.sl (.pair .bool (.pair .str (.pair .i64 (.pair (.sl .u8) .unit))))) (.pair .bool .unit)))) (.pair .str .unit)))=arb) (decV (.pair (.pair (.op (.pair (.sl (.arr 32 .u8)) (.pair .bool (.pair .bool (.pair .i64 (.pair .i64 (.pair .i64 .unit))))))) (.pair .i64 (.pair (.sl (.pair .bool (.pair .str (.pair .i64 (.pair (.sl .u8) .unit))))) (.pair .bool .unit)))) (.pair .str .unit)) x arb) h
noncomputable def sb134:Ev.Spec:=⟨s134.params,s134.results,fun x=>cond (glb x) (some (-1:Int)) none⟩
theorem kb134:FnOk Tryz.prog 26 sb134:=FnOk.lit k134 arb (-1:Int) vb glb glb_ok
noncomputable def co107:Ctx:=mkC tys cells maps [(23,s131),(24,s132),(25,s133),(26,sb134),(27,s135),(42,s172),(43,s173)] [89] [(25,Tryz.f25)]
noncomputable def so107:Ev.Spec:=mkS co107 Tryz.f14 h107 P107 R107
theorem ko107:FnOk Tryz.prog 14 so107:=fn_okS (C:=co107) (hs:=h107) (ps:=P107) (rs:=R107) (specs:=[(23,s131),(24,s132),(25,s133),(26,sb134),(27,s135),(42,s172),(43,s173)]) (dyns:=[89]) (codes:=[(25,Tryz.f25)]) rfl hm hT ⟨k131,k132,k133,kb134,k135,k172,k173,trivial⟩ ⟨Tryz.func25,trivial⟩ (by kernel_rfl) Tryz.func14 (by kernel_rfl)
noncomputable def ar107:Val (.pair (.op (.pair (.sl (.arr 32 .u8)) (.pair .bool (.pair .bool (.pair .i64 (.pair .i64 (.pair .i64 .unit))))))) (.pair .i64 (.pair .i64 .unit))):=(some dsk0,(64:Int),(4:Int),())
theorem v107:so107.run ar107=some (some sto0,(0:Int)):=by kernel_rfl
noncomputable def gl107(x:InT P107):Bool:= @decide ((x:Val (.pair (.op (.pair (.sl (.arr 32 .u8)) (.pair .bool (.pair .bool (.pair .i64 (.pair .i64 (.pair .i64 .unit))))))) (.pair .i64 (.pair .i64 .unit))))=ar107) (decV (.pair (.op (.pair (.sl (.arr 32 .u8)) (.pair .bool (.pair .bool (.pair .i64 (.pair .i64 (.pair .i64 .unit))))))) (.pair .i64 (.pair .i64 .unit))) x ar107)
theorem gl107_ok(x:InT P107)(h:gl107 x=true):x=ar107:= @of_decide_eq_true ((x:Val (.pair (.op (.pair (.sl (.arr 32 .u8)) (.pair .bool (.pair .bool (.pair .i64 (.pair .i64 (.pair .i64 .unit))))))) (.pair .i64 (.pair .i64 .unit))))=ar107) (decV (.pair (.op (.pair (.sl (.arr 32 .u8)) (.pair .bool (.pair .bool (.pair .i64 (.pair .i64 (.pair .i64 .unit))))))) (.pair .i64 (.pair .i64 .unit))) x ar107) h
noncomputable def sl107:Ev.Spec:=⟨so107.params,so107.results,fun x=>cond (gl107 x) (some (some sto0,(0:Int))) none⟩
theorem kl107:FnOk Tryz.prog 14 sl107:=FnOk.lit ko107 ar107 (some sto0,(0:Int)) v107 gl107 gl107_ok
end Sx
end
