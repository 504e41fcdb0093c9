/- A print of height nought is there, by the code and by the document. No conditions. -/
import Derived.Test.YtjaancbplomopaaGreatDoorY1
import Derived.Test.YtjaancbplomopaaGreatDoorY2
set_option linter.unusedVariables false
set_option linter.unusedSimpArgs false
set_option linter.unusedSectionVars false
set_option maxRecDepth 100000
section
open Go Go.Proofs Ev
namespace Sx
noncomputable def pubO(s:Vector UInt8 16)(n:Int):Option (Vector UInt8 32):=gp573.run (s,n,())
theorem pubO_0(s:Vector UInt8 16):(pubO s 0).isSome=true:=by
 rw[←sp16_eq s];exact pub0 _
noncomputable def pubL(s:Vector UInt8 16)(i:Nat):UInt8:=((pubO s 0).getD (Vector.replicate 32 0)).toList.getD i 0
theorem vL_of{o:Option (Vector UInt8 32)}(h:o.isSome=true):o=some (sp32 fun i=>(o.getD (Vector.replicate 32 0)).toList.getD i 0):=by
 obtain⟨v,e⟩:=Option.isSome_iff_exists.1 h
 rw[sp32_eq,e];rfl
noncomputable def gPub:Ev.Spec:=⟨gp573.params,gp573.results,fun x=>cond (decide (x.2.1=(0:Int))) (some (sp32 (pubL x.1))) none⟩
theorem kgPub:FnOk Tryz.prog 160 gPub:=FnOk.sb kgp573 _ fun x r h=>by
 obtain⟨v,n,x2⟩:=x
 cases x2
 have h':=cond_some h
 clear h
 obtain⟨hc,h⟩:=h'
 have hc':n=(0:Int):=of_decide_eq_true hc
 subst hc'
 exact Eq.trans (vL_of (pubO_0 v)) h
noncomputable def rpuO(s:Vector UInt8 16)(n:Int):Option (Vector UInt8 32):=rp664.run (s,n,())
theorem rpuO_0(s:Vector UInt8 16):(rpuO s 0).isSome=true:=by
 rw[←sp16_eq s];exact rpu0 _
noncomputable def rpuL(s:Vector UInt8 16)(i:Nat):UInt8:=((rpuO s 0).getD (Vector.replicate 32 0)).toList.getD i 0
noncomputable def gRpu:Ev.Spec:=⟨rp664.params,rp664.results,fun x=>cond (decide (x.2.1=(0:Int))) (some (sp32 (rpuL x.1))) none⟩
theorem kgRpu:FnOk Tryz.prog 59 gRpu:=FnOk.sb krp664 _ fun x r h=>by
 obtain⟨v,n,x2⟩:=x
 cases x2
 have h':=cond_some h
 clear h
 obtain⟨hc,h⟩:=h'
 have hc':n=(0:Int):=of_decide_eq_true hc
 subst hc'
 exact Eq.trans (vL_of (rpuO_0 v)) h
noncomputable def gqc129:Ctx:=mkC tys cells maps [(107,gSum),(279,s130)] [] []
noncomputable def gq129:Ev.Spec:=mkS gqc129 Tryz.f213 h129 P129 R129
theorem kgq129:FnOk Tryz.prog 213 gq129:=fn_okS (C:=gqc129) (hs:=h129) (ps:=P129) (rs:=R129) (specs:=[(107,gSum),(279,s130)]) (dyns:=[]) (codes:=[]) rfl hm hT ⟨kgSum,k130,trivial⟩ trivial (by kernel_rfl) Tryz.func213 (by kernel_rfl)
noncomputable def gqc96:Ctx:=mkC tys cells maps [(76,gTag),(212,s128),(213,gq129)] [] []
noncomputable def gq96:Ev.Spec:=mkS gqc96 Tryz.f150 h96 P96 R96
theorem kgq96:FnOk Tryz.prog 150 gq96:=fn_okS (C:=gqc96) (hs:=h96) (ps:=P96) (rs:=R96) (specs:=[(76,gTag),(212,s128),(213,gq129)]) (dyns:=[]) (codes:=[]) rfl hm hT ⟨kgTag,k128,kgq129,trivial⟩ trivial (by kernel_rfl) Tryz.func150 (by kernel_rfl)
noncomputable def gqc87:Ctx:=mkC tys cells maps [(150,gq96)] [] []
noncomputable def gq87:Ev.Spec:=mkS gqc87 Tryz.f93 h87 P87 R87
theorem kgq87:FnOk Tryz.prog 93 gq87:=fn_okS (C:=gqc87) (hs:=h87) (ps:=P87) (rs:=R87) (specs:=[(150,gq96)]) (dyns:=[]) (codes:=[]) rfl hm hT ⟨kgq96,trivial⟩ trivial (by kernel_rfl) Tryz.func93 (by kernel_rfl)
noncomputable def gqc560:Ctx:=mkC tys cells maps [(106,s558),(160,gPub)] [] []
noncomputable def gq560:Ev.Spec:=mkS gqc560 Tryz.f109 h560 P560 R560
theorem kgq560:FnOk Tryz.prog 109 gq560:=fn_okS (C:=gqc560) (hs:=h560) (ps:=P560) (rs:=R560) (specs:=[(106,s558),(160,gPub)]) (dyns:=[]) (codes:=[]) rfl hm hT ⟨k558,kgPub,trivial⟩ trivial (by kernel_rfl) Tryz.func109 (by kernel_rfl)
noncomputable def gqc543:Ctx:=mkC tys cells maps [(93,gq87),(107,gSum),(106,s558),(108,s559),(109,gq560)] [] []
noncomputable def gq543:Ev.Spec:=mkS gqc543 Tryz.f51 h543 P543 R543
theorem kgq543:FnOk Tryz.prog 51 gq543:=fn_okS (C:=gqc543) (hs:=h543) (ps:=P543) (rs:=R543) (specs:=[(93,gq87),(107,gSum),(106,s558),(108,s559),(109,gq560)]) (dyns:=[]) (codes:=[]) rfl hm hT ⟨kgq87,kgSum,k558,k559,kgq560,trivial⟩ trivial (by kernel_rfl) Tryz.func51 (by kernel_rfl)
noncomputable def rqc66:Ctx:=mkC tys cells maps [(52,gRtg),(112,s103)] [] []
noncomputable def rq66:Ev.Spec:=mkS rqc66 Tryz.f57 h66 P66 R66
theorem krq66:FnOk Tryz.prog 57 rq66:=fn_okS (C:=rqc66) (hs:=h66) (ps:=P66) (rs:=R66) (specs:=[(52,gRtg),(112,s103)]) (dyns:=[]) (codes:=[]) rfl hm hT ⟨kgRtg,k103,trivial⟩ trivial (by kernel_rfl) Tryz.func57 (by kernel_rfl)
noncomputable def rqc104:Ctx:=mkC tys cells maps [(162,s68),(22,gRsb)] [] []
noncomputable def rq104:Ev.Spec:=mkS rqc104 Tryz.f113 h104 P104 R104
theorem krq104:FnOk Tryz.prog 113 rq104:=fn_okS (C:=rqc104) (hs:=h104) (ps:=P104) (rs:=R104) (specs:=[(162,s68),(22,gRsb)]) (dyns:=[]) (codes:=[]) rfl hm hT ⟨k68,kgRsb,trivial⟩ trivial (by kernel_rfl) Tryz.func113 (by kernel_rfl)
noncomputable def rqc67:Ctx:=mkC tys cells maps [(113,rq104)] [] []
noncomputable def rq67:Ev.Spec:=mkS rqc67 Tryz.f58 h67 P67 R67
theorem krq67:FnOk Tryz.prog 58 rq67:=fn_okS (C:=rqc67) (hs:=h67) (ps:=P67) (rs:=R67) (specs:=[(113,rq104)]) (dyns:=[]) (codes:=[]) rfl hm hT ⟨krq104,trivial⟩ trivial (by kernel_rfl) Tryz.func58 (by kernel_rfl)
noncomputable def rqc38:Ctx:=mkC tys cells maps [(57,rq66),(58,rq67)] [] []
noncomputable def rq38:Ev.Spec:=mkS rqc38 Tryz.f24 h38 P38 R38
theorem krq38:FnOk Tryz.prog 24 rq38:=fn_okS (C:=rqc38) (hs:=h38) (ps:=P38) (rs:=R38) (specs:=[(57,rq66),(58,rq67)]) (dyns:=[]) (codes:=[]) rfl hm hT ⟨krq66,krq67,trivial⟩ trivial (by kernel_rfl) Tryz.func24 (by kernel_rfl)
noncomputable def rqc663:Ctx:=mkC tys cells maps [(59,gRpu)] [] []
noncomputable def rq663:Ev.Spec:=mkS rqc663 Tryz.f25 h663 P663 R663
theorem krq663:FnOk Tryz.prog 25 rq663:=fn_okS (C:=rqc663) (hs:=h663) (ps:=P663) (rs:=R663) (specs:=[(59,gRpu)]) (dyns:=[]) (codes:=[]) rfl hm hT ⟨kgRpu,trivial⟩ trivial (by kernel_rfl) Tryz.func25 (by kernel_rfl)
noncomputable def rqc660:Ctx:=mkC tys cells maps [(24,rq38),(22,gRsb),(23,s662),(25,rq663)] [] []
noncomputable def rq660:Ev.Spec:=mkS rqc660 Tryz.f7 h660 P660 R660
theorem krq660:FnOk Tryz.prog 7 rq660:=fn_okS (C:=rqc660) (hs:=h660) (ps:=P660) (rs:=R660) (specs:=[(24,rq38),(22,gRsb),(23,s662),(25,rq663)]) (dyns:=[]) (codes:=[]) rfl hm hT ⟨krq38,kgRsb,k662,krq663,trivial⟩ trivial (by kernel_rfl) Tryz.func7 (by kernel_rfl)
theorem pri0(g:Nat->UInt8):(gq543.run (sp16 g,(0:Int),())).map (fun r=>r.2)=some (0:Int):=by kernel_rfl
theorem rpr0(g:Nat->UInt8):(rq660.run (sp16 g,(0:Int),())).isSome=true:=by kernel_rfl
noncomputable def priO(s:Vector UInt8 16)(n:Int):Option (Vector UInt8 32×Int):=gq543.run (s,n,())
noncomputable def printC(s:Vector UInt8 16):Vector UInt8 32:=((priO s 0).getD (Vector.replicate 32 0,0)).1
theorem pri_of{s:Vector UInt8 16}(h:(priO s 0).map (fun r=>r.2)=some 0):priO s 0=some (printC s,0):=by
 unfold printC
 cases e:priO s 0 with
 |none=>rw[e]at h;cases h
 |some r=>
  rw[e]at h
  obtain⟨a,b⟩:=r
  injection h with h
  subst h;rfl
theorem priO_0(s:Vector UInt8 16):priO s 0=some (printC s,0):=pri_of (by rw[←sp16_eq s];exact pri0 _)
noncomputable def printF(s:Vector UInt8 16)(i:Nat):UInt8:=(printC s).toList.getD i 0
noncomputable def gPriR(PC:Vector UInt8 16->Nat->UInt8):InT gq543.params->Option (OutT gq543.results (ioTy gq543.params)):=fun x=>cond (decide (x.2.1=(0:Int))) (some (sp32 (PC x.1),(0:Int))) none
noncomputable def gPri(PC:Vector UInt8 16->Nat->UInt8):Ev.Spec:=⟨gq543.params,gq543.results,gPriR PC⟩
theorem kgPri:FnOk Tryz.prog 51 (gPri printF):=FnOk.sb kgq543 _ fun x r h=>by
 obtain⟨v,n,x2⟩:=x
 cases x2
 have h':=cond_some h
 clear h
 obtain⟨hc,h⟩:=h'
 have hc':n=(0:Int):=of_decide_eq_true hc
 subst hc'
 have h2:some (sp32 (printF v),(0:Int))=some r:=h
 rw[show sp32 (printF v)=printC v from sp32_eq _]at h2
 exact Eq.trans (priO_0 v) h2
noncomputable def rprO(s:Vector UInt8 16)(n:Int):Option (Vector UInt8 32):=rq660.run (s,n,())
theorem rprO_0(s:Vector UInt8 16):(rprO s 0).isSome=true:=by
 rw[←sp16_eq s];exact rpr0 _
noncomputable def rprF(s:Vector UInt8 16)(i:Nat):UInt8:=((rprO s 0).getD (Vector.replicate 32 0)).toList.getD i 0
noncomputable def gRpr(PR:Vector UInt8 16->Nat->UInt8):Ev.Spec:=⟨rq660.params,rq660.results,fun x=>cond (decide (x.2.1=(0:Int))) (some (sp32 (PR x.1))) none⟩
theorem kgRpr:FnOk Tryz.prog 7 (gRpr rprF):=FnOk.sb krq660 _ fun x r h=>by
 obtain⟨v,n,x2⟩:=x
 cases x2
 have h':=cond_some h
 clear h
 obtain⟨hc,h⟩:=h'
 have hc':n=(0:Int):=of_decide_eq_true hc
 subst hc'
 exact Eq.trans (vL_of (rprO_0 v)) h
end Sx
end
