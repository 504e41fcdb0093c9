/- A leaf's public hash: there is one. No conditions. -/
import Derived.Test.YtjkaogjllhibfaaGreatDoorY
set_option linter.unusedVariables false
set_option linter.unusedSimpArgs false
set_option linter.unusedSectionVars false
set_option maxRecDepth 100000
section
open Go Go.Proofs Ev
namespace Sx
noncomputable def gac591:Ctx:=mkC tys cells maps [(66,gTag)] [] []
noncomputable def ga591:Ev.Spec:=mkS gac591 Tryz.f186 h591 P591 R591
theorem kga591:FnOk Tryz.prog 186 ga591:=fn_okS (C:=gac591) (hs:=h591) (ps:=P591) (rs:=R591) (specs:=[(66,gTag)]) (dyns:=[]) (codes:=[]) rfl hm hT ⟨kgTag,trivial⟩ trivial (by kernel_rfl) Tryz.func186 (by kernel_rfl)
noncomputable def gac584:Ctx:=mkC tys cells maps [(186,ga591)] [] []
noncomputable def ga584:Ev.Spec:=mkS gac584 Tryz.f134 h584 P584 R584
theorem kga584:FnOk Tryz.prog 134 ga584:=fn_okS (C:=gac584) (hs:=h584) (ps:=P584) (rs:=R584) (specs:=[(186,ga591)]) (dyns:=[]) (codes:=[]) rfl hm hT ⟨kga591,trivial⟩ trivial (by kernel_rfl) Tryz.func134 (by kernel_rfl)
theorem alo15(g:Nat->UInt8):(ga584.run (sp32 g,(15:Int),())).isSome=true:=by kernel_rfl
noncomputable def aloO(s:Vector UInt8 32):Option (Vector UInt8 32):=ga584.run (s,(15:Int),())
theorem aloO_ok(s:Vector UInt8 32):(aloO s).isSome=true:=by
 rw[←sp32_eq s];exact alo15 _
noncomputable def aloL(s:Vector UInt8 32)(i:Nat):UInt8:=((aloO s).getD (Vector.replicate 32 0)).toList.getD i 0
theorem alo_of(s:Vector UInt8 32):aloO s=some (sp32 (aloL s)):=by
 obtain⟨v,e⟩:=Option.isSome_iff_exists.1 (aloO_ok s)
 rw[show aloL s=fun i=>((aloO s).getD (Vector.replicate 32 0)).toList.getD i 0 from rfl,sp32_eq,e];rfl
noncomputable def gAloR:InT ga584.params->Option (OutT ga584.results (ioTy ga584.params)):=fun x=>cond (decide (x.2.1=(15:Int))) (some (sp32 (aloL x.1))) none
theorem gAlo_ok(x:InT ga584.params)(r:OutT ga584.results (ioTy ga584.params))(h:gAloR x=some r):ga584.run x=some r:=by
 obtain⟨x0,x1,x2⟩:=x
 cases x2
 unfold gAloR at h
 have h':=cond_some h
 clear h
 obtain⟨hc,h⟩:=h'
 dsimp only at hc h
 rw[decide_eq_true_eq]at hc
 refine Eq.trans ?_ h
 subst hc
 exact alo_of x0
noncomputable def gAlo:Ev.Spec:=⟨ga584.params,ga584.results,gAloR⟩
theorem kgAlo:FnOk Tryz.prog 134 gAlo:=FnOk.sb kga584 gAloR gAlo_ok
noncomputable def gpc585:Ctx:=mkC tys cells maps [(35,s89),(66,gTag)] [] []
noncomputable def gp585:Ev.Spec:=mkS gpc585 Tryz.f135 h585 P585 R585
theorem kgp585:FnOk Tryz.prog 135 gp585:=fn_okS (C:=gpc585) (hs:=h585) (ps:=P585) (rs:=R585) (specs:=[(35,s89),(66,gTag)]) (dyns:=[]) (codes:=[]) rfl hm hT ⟨k89,kgTag,trivial⟩ trivial (by kernel_rfl) Tryz.func135 (by kernel_rfl)
noncomputable def gpc586:Ctx:=mkC tys cells maps [(66,gTag)] [] []
noncomputable def gp586:Ev.Spec:=mkS gpc586 Tryz.f136 h586 P586 R586
theorem kgp586:FnOk Tryz.prog 136 gp586:=fn_okS (C:=gpc586) (hs:=h586) (ps:=P586) (rs:=R586) (specs:=[(66,gTag)]) (dyns:=[]) (codes:=[]) rfl hm hT ⟨kgTag,trivial⟩ trivial (by kernel_rfl) Tryz.func136 (by kernel_rfl)
noncomputable def gpc573:Ctx:=mkC tys cells maps [(134,gAlo),(135,gp585),(136,gp586)] [] []
noncomputable def gp573:Ev.Spec:=mkS gpc573 Tryz.f89 h573 P573 R573
theorem kgp573:FnOk Tryz.prog 89 gp573:=fn_okS (C:=gpc573) (hs:=h573) (ps:=P573) (rs:=R573) (specs:=[(134,gAlo),(135,gp585),(136,gp586)]) (dyns:=[]) (codes:=[]) rfl hm hT ⟨kgAlo,kgp585,kgp586,trivial⟩ trivial (by kernel_rfl) Tryz.func89 (by kernel_rfl)
theorem pub0(g:Nat->UInt8):(gp573.run (sp16 g,(0:Int),())).isSome=true:=by kernel_rfl
theorem pub1(g:Nat->UInt8):(gp573.run (sp16 g,(1:Int),())).isSome=true:=by kernel_rfl
end Sx
end
