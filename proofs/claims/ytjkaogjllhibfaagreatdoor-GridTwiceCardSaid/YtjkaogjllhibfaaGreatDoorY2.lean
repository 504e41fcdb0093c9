/- A tree's print: there is one for the heights 0 and 1, and an error for those that may not be. No conditions. -/
import Derived.Test.YtjkaogjllhibfaaGreatDoorY1
set_option linter.unusedVariables false
set_option linter.unusedSimpArgs false
set_option linter.unusedSectionVars false
set_option maxRecDepth 100000
section
open Go Go.Proofs Ev
namespace Sx
noncomputable def pubO(s:Vector UInt8 16)(n:Int):Option (Vector UInt8 32):=gp573.run (s,n,())
theorem pubO_0(s:Vector UInt8 16):(pubO s 0).isSome=true:=by
 rw[←sp16_eq s];exact pub0 _
theorem pubO_1(s:Vector UInt8 16):(pubO s 1).isSome=true:=by
 rw[←sp16_eq s];exact pub1 _
noncomputable def pubL(s:Vector UInt8 16)(n:Int)(i:Nat):UInt8:=((pubO s n).getD (Vector.replicate 32 0)).toList.getD i 0
theorem pub_of{s:Vector UInt8 16}{n:Int}(h:(pubO s n).isSome=true):pubO s n=some (sp32 (pubL s n)):=by
 obtain⟨v,e⟩:=Option.isSome_iff_exists.1 h
 rw[show pubL s n=fun i=>((pubO s n).getD (Vector.replicate 32 0)).toList.getD i 0 from rfl,sp32_eq,e];rfl
noncomputable def gPubR:InT gp573.params->Option (OutT gp573.results (ioTy gp573.params)):=fun x=>cond (decide (x.2.1=(0:Int))||decide (x.2.1=(1:Int))) (some (sp32 (pubL x.1 x.2.1))) none
theorem gPub_ok(x:InT gp573.params)(r:OutT gp573.results (ioTy gp573.params))(h:gPubR x=some r):gp573.run x=some r:=by
 obtain⟨x0,x1,x2⟩:=x
 cases x2
 unfold gPubR at h
 have h':=cond_some h
 clear h
 obtain⟨hc,h⟩:=h'
 dsimp only at hc h
 rw[Bool.or_eq_true,decide_eq_true_eq,decide_eq_true_eq]at hc
 refine Eq.trans ?_ h
 show pubO x0 x1=_
 rcases hc with hc|hc
 ·subst hc;exact pub_of (pubO_0 x0)
 ·subst hc;exact pub_of (pubO_1 x0)
noncomputable def gPub:Ev.Spec:=⟨gp573.params,gp573.results,gPubR⟩
theorem kgPub:FnOk Tryz.prog 89 gPub:=FnOk.sb kgp573 gPubR gPub_ok
noncomputable def gqc129:Ctx:=mkC tys cells maps [(48,gSum),(185,s130)] [] []
noncomputable def gq129:Ev.Spec:=mkS gqc129 Tryz.f133 h129 P129 R129
theorem kgq129:FnOk Tryz.prog 133 gq129:=fn_okS (C:=gqc129) (hs:=h129) (ps:=P129) (rs:=R129) (specs:=[(48,gSum),(185,s130)]) (dyns:=[]) (codes:=[]) rfl hm hT ⟨kgSum,k130,trivial⟩ trivial (by kernel_rfl) Tryz.func133 (by kernel_rfl)
noncomputable def gqc96:Ctx:=mkC tys cells maps [(66,gTag),(132,s128),(133,gq129)] [] []
noncomputable def gq96:Ev.Spec:=mkS gqc96 Tryz.f88 h96 P96 R96
theorem kgq96:FnOk Tryz.prog 88 gq96:=fn_okS (C:=gqc96) (hs:=h96) (ps:=P96) (rs:=R96) (specs:=[(66,gTag),(132,s128),(133,gq129)]) (dyns:=[]) (codes:=[]) rfl hm hT ⟨kgTag,k128,kgq129,trivial⟩ trivial (by kernel_rfl) Tryz.func88 (by kernel_rfl)
noncomputable def gqc87:Ctx:=mkC tys cells maps [(88,gq96)] [] []
noncomputable def gq87:Ev.Spec:=mkS gqc87 Tryz.f50 h87 P87 R87
theorem kgq87:FnOk Tryz.prog 50 gq87:=fn_okS (C:=gqc87) (hs:=h87) (ps:=P87) (rs:=R87) (specs:=[(88,gq96)]) (dyns:=[]) (codes:=[]) rfl hm hT ⟨kgq96,trivial⟩ trivial (by kernel_rfl) Tryz.func50 (by kernel_rfl)
noncomputable def gqc560:Ctx:=mkC tys cells maps [(47,s558),(89,gPub)] [] []
noncomputable def gq560:Ev.Spec:=mkS gqc560 Tryz.f51 h560 P560 R560
theorem kgq560:FnOk Tryz.prog 51 gq560:=fn_okS (C:=gqc560) (hs:=h560) (ps:=P560) (rs:=R560) (specs:=[(47,s558),(89,gPub)]) (dyns:=[]) (codes:=[]) rfl hm hT ⟨k558,kgPub,trivial⟩ trivial (by kernel_rfl) Tryz.func51 (by kernel_rfl)
noncomputable def gqc543:Ctx:=mkC tys cells maps [(50,gq87),(48,gSum),(47,s558),(49,s559),(51,gq560)] [] []
noncomputable def gq543:Ev.Spec:=mkS gqc543 Tryz.f18 h543 P543 R543
theorem kgq543:FnOk Tryz.prog 18 gq543:=fn_okS (C:=gqc543) (hs:=h543) (ps:=P543) (rs:=R543) (specs:=[(50,gq87),(48,gSum),(47,s558),(49,s559),(51,gq560)]) (dyns:=[]) (codes:=[]) rfl hm hT ⟨kgq87,kgSum,k558,k559,kgq560,trivial⟩ trivial (by kernel_rfl) Tryz.func18 (by kernel_rfl)
theorem pri0(g:Nat->UInt8):(gq543.run (sp16 g,(0:Int),())).map (fun r=>r.2)=some (0:Int):=by kernel_rfl
theorem pri1(g:Nat->UInt8):(gq543.run (sp16 g,(1:Int),())).map (fun r=>r.2)=some (0:Int):=by kernel_rfl
theorem pri5(s:Vector UInt8 16):gq543.run (s,(5:Int),())=some (Vector.replicate 32 0,(1:Int)):=by kernel_rfl
theorem prim(s:Vector UInt8 16):gq543.run (s,(-1:Int),())=some (Vector.replicate 32 0,(1:Int)):=by kernel_rfl
end Sx
end
