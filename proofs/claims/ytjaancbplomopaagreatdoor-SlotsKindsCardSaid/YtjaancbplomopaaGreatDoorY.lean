/- Contracts of what the statement calls, digests kept as rows of variables. No conditions. -/
import Derived.Test.YtjaancbplomopaaGreatDoorW
import Derived.Test.YtjaancbplomopaaGreatDoorK
set_option linter.unusedVariables false
set_option linter.unusedSimpArgs false
set_option linter.unusedSectionVars false
set_option maxRecDepth 100000
section
open Go Go.Proofs Ev
namespace Sx
noncomputable def aloL(s:Vector UInt8 32)(i:Nat):UInt8:=(alN 15 s).toList.getD i 0
noncomputable def gAlo:Ev.Spec:=⟨ga584.params,ga584.results,fun x=>cond (decide (x.2.1=(15:Int))) (some (sp32 (aloL x.1))) none⟩
theorem kgAlo:FnOk Tryz.prog 222 gAlo:=FnOk.sb kga584 _ fun x r h=>by
 obtain⟨v,n,x2⟩:=x
 cases x2
 have h':=cond_some h
 clear h
 obtain⟨hc,h⟩:=h'
 have hc':n=((15:Nat):Int):=of_decide_eq_true hc
 subst hc'
 have e:=gaal v 15 (Nat.le_refl _)
 have h2:some (sp32 (aloL v))=some r:=h
 rw[show sp32 (aloL v)=alN 15 v from sp32_eq _]at h2
 exact Eq.trans e h2
noncomputable def rAlo:Ev.Spec:=⟨ra667.params,ra667.results,fun x=>cond (decide (x.2.1=(15:Int))) (some (sp32 (aloL x.1))) none⟩
theorem krAlo:FnOk Tryz.prog 163 rAlo:=FnOk.sb kra667 _ fun x r h=>by
 obtain⟨v,n,x2⟩:=x
 cases x2
 have h':=cond_some h
 clear h
 obtain⟨hc,h⟩:=h'
 have hc':n=((15:Nat):Int):=of_decide_eq_true hc
 subst hc'
 have e:=raal v 15 (Nat.le_refl _)
 have h2:some (sp32 (aloL v))=some r:=h
 rw[show sp32 (aloL v)=alN 15 v from sp32_eq _]at h2
 exact Eq.trans e h2
noncomputable def gRsbR:InT s82.params->Option (OutT s82.results (ioTy s82.params)):=fun x=>cond (Nat.ble (List.length (α:=UInt8) x.1) 9999) (some (sp32 (sumL x.1))) none
theorem gRsb_ok(x:InT s82.params)(r:OutT s82.results (ioTy s82.params))(h:gRsbR x=some r):s82.run x=some r:=by
 obtain⟨x0,x2⟩:=x
 cases x2
 unfold gRsbR at h
 have h':=cond_some h
 clear h
 obtain⟨hc,h⟩:=h'
 dsimp only at hc h
 have hc':=Nat.le_of_ble_eq_true hc
 refine Eq.trans ?_ h
 rw[sumL_eq]
 have e:=Mx.p82 x0 (by omega)
 unfold Mx.f82 r82 at e
 exact e
noncomputable def gRsb:Ev.Spec:=⟨s82.params,s82.results,gRsbR⟩
theorem kgRsb:FnOk Tryz.prog 22 gRsb:=FnOk.sb k82 gRsbR gRsb_ok
noncomputable def gpc585:Ctx:=mkC tys cells maps [(77,s89),(76,gTag)] [] []
noncomputable def gp585:Ev.Spec:=mkS gpc585 Tryz.f223 h585 P585 R585
theorem kgp585:FnOk Tryz.prog 223 gp585:=fn_okS (C:=gpc585) (hs:=h585) (ps:=P585) (rs:=R585) (specs:=[(77,s89),(76,gTag)]) (dyns:=[]) (codes:=[]) rfl hm hT ⟨k89,kgTag,trivial⟩ trivial (by kernel_rfl) Tryz.func223 (by kernel_rfl)
noncomputable def gpc586:Ctx:=mkC tys cells maps [(76,gTag)] [] []
noncomputable def gp586:Ev.Spec:=mkS gpc586 Tryz.f224 h586 P586 R586
theorem kgp586:FnOk Tryz.prog 224 gp586:=fn_okS (C:=gpc586) (hs:=h586) (ps:=P586) (rs:=R586) (specs:=[(76,gTag)]) (dyns:=[]) (codes:=[]) rfl hm hT ⟨kgTag,trivial⟩ trivial (by kernel_rfl) Tryz.func224 (by kernel_rfl)
noncomputable def gpc573:Ctx:=mkC tys cells maps [(222,gAlo),(223,gp585),(224,gp586)] [] []
noncomputable def gp573:Ev.Spec:=mkS gpc573 Tryz.f160 h573 P573 R573
theorem kgp573:FnOk Tryz.prog 160 gp573:=fn_okS (C:=gpc573) (hs:=h573) (ps:=P573) (rs:=R573) (specs:=[(222,gAlo),(223,gp585),(224,gp586)]) (dyns:=[]) (codes:=[]) rfl hm hT ⟨kgAlo,kgp585,kgp586,trivial⟩ trivial (by kernel_rfl) Tryz.func160 (by kernel_rfl)
noncomputable def rpc668:Ctx:=mkC tys cells maps [(54,s42),(52,gRtg)] [] []
noncomputable def rp668:Ev.Spec:=mkS rpc668 Tryz.f164 h668 P668 R668
theorem krp668:FnOk Tryz.prog 164 rp668:=fn_okS (C:=rpc668) (hs:=h668) (ps:=P668) (rs:=R668) (specs:=[(54,s42),(52,gRtg)]) (dyns:=[]) (codes:=[]) rfl hm hT ⟨k42,kgRtg,trivial⟩ trivial (by kernel_rfl) Tryz.func164 (by kernel_rfl)
noncomputable def rpc666:Ctx:=mkC tys cells maps [(163,rAlo),(164,rp668)] [] []
noncomputable def rp666:Ev.Spec:=mkS rpc666 Tryz.f115 h666 P666 R666
theorem krp666:FnOk Tryz.prog 115 rp666:=fn_okS (C:=rpc666) (hs:=h666) (ps:=P666) (rs:=R666) (specs:=[(163,rAlo),(164,rp668)]) (dyns:=[]) (codes:=[]) rfl hm hT ⟨krAlo,krp668,trivial⟩ trivial (by kernel_rfl) Tryz.func115 (by kernel_rfl)
noncomputable def rpc664:Ctx:=mkC tys cells maps [(22,gRsb),(114,s665),(115,rp666)] [] []
noncomputable def rp664:Ev.Spec:=mkS rpc664 Tryz.f59 h664 P664 R664
theorem krp664:FnOk Tryz.prog 59 rp664:=fn_okS (C:=rpc664) (hs:=h664) (ps:=P664) (rs:=R664) (specs:=[(22,gRsb),(114,s665),(115,rp666)]) (dyns:=[]) (codes:=[]) rfl hm hT ⟨kgRsb,k665,krp666,trivial⟩ trivial (by kernel_rfl) Tryz.func59 (by kernel_rfl)
end Sx
end
section
open Go Go.Proofs Ev
namespace Sx
noncomputable def tagL(t:List UInt8)(l:List (List UInt8))(i:Nat):UInt8:=(Mx.tagged t l).toList.getD i 0
noncomputable def shortL(t:List UInt8)(l:List (List UInt8)):Vector UInt8 16:=sp16 (tagL t l)
theorem p44'(t:List UInt8)(l:List (List UInt8))(h:Mx.Short l)(ht:t.length<100000):s44.run (t,l,())=some (Mx.tagged t l):=by
 have e:=Mx.p44 t l h ht
 unfold Mx.f44 r44 at e
 exact e
noncomputable def cRshK(K:InT P44->Option (Vector UInt8 32)):Ctx:=mkC tys cells maps [(52,⟨P44,R44,K⟩)] [] []
noncomputable def rshQ(K:InT P44->Option (Vector UInt8 32))(t:List UInt8)(l:List (List UInt8)):Option (Vector UInt8 16):=evF (cRshK K) Tryz.f21 h446 P446 R446 (t,l,())
theorem rshE(K:InT P44->Option (Vector UInt8 32))(t:List UInt8)(l:List (List UInt8)):rshQ K t l=(K (t,l,())).bind fun h=>rshQ (fun _=>some h) t l:=by kernel_rfl
theorem rshV(g:Nat->UInt8)(t:List UInt8)(l:List (List UInt8)):rshQ (fun _=>some (sp32 g)) t l=some (sp16 g):=by kernel_rfl
noncomputable def rshT:InT P44->Option (Vector UInt8 32):=s44.run
theorem rshS(t:List UInt8)(l:List (List UInt8)):s446.run (t,l,())=rshQ rshT t l:=by kernel_rfl
theorem rshR(t:List UInt8)(l:List (List UInt8))(h:Mx.Short l)(ht:t.length<100000):s446.run (t,l,())=some (shortL t l):=by
 have e:rshT (t,l,())=some (sp32 (tagL t l)):=by
  rw[show tagL t l=fun i=>(Mx.tagged t l).toList.getD i 0 from rfl,sp32_eq];exact p44' t l h ht
 refine(rshS t l).trans ?_
 rw[rshE,e,Option.bind_some,rshV]
 rfl
noncomputable def gRshR:InT s446.params->Option (OutT s446.results (ioTy s446.params)):=fun x=>cond (bndB x.1 x.2.1) (some (shortL x.1 x.2.1)) none
theorem gRsh_ok(x:InT s446.params)(r:OutT s446.results (ioTy s446.params))(h:gRshR x=some r):s446.run x=some r:=by
 obtain⟨x0,x1,x2⟩:=x
 cases x2
 unfold gRshR at h
 have h':=cond_some h
 clear h
 obtain⟨hc,h⟩:=h'
 dsimp only at hc h
 refine Eq.trans ?_ h
 exact rshR x0 x1 (bndB_ok hc).1 (bndB_ok hc).2
noncomputable def gRsh:Ev.Spec:=⟨s446.params,s446.results,gRshR⟩
theorem kgRsh:FnOk Tryz.prog 21 gRsh:=FnOk.sb k446 gRshR gRsh_ok
noncomputable def gsc539:Ctx:=mkC tys cells maps [(21,gRsh)] [] []
noncomputable def gs539:Ev.Spec:=mkS gsc539 Tryz.f6 h539 P539 R539
theorem kgs539:FnOk Tryz.prog 6 gs539:=fn_okS (C:=gsc539) (hs:=h539) (ps:=P539) (rs:=R539) (specs:=[(21,gRsh)]) (dyns:=[]) (codes:=[]) rfl hm hT ⟨kgRsh,trivial⟩ trivial (by kernel_rfl) Tryz.func6 (by kernel_rfl)
noncomputable def gsc454:Ctx:=mkC tys cells maps [(21,gRsh),(27,s451),(62,s452)] [60] []
noncomputable def gs454:Ev.Spec:=mkS gsc454 Tryz.f28 h454 P454 R454
theorem kgs454:FnOk Tryz.prog 28 gs454:=fn_okS (C:=gsc454) (hs:=h454) (ps:=P454) (rs:=R454) (specs:=[(21,gRsh),(27,s451),(62,s452)]) (dyns:=[60]) (codes:=[]) rfl hm hT ⟨kgRsh,k451,k452,trivial⟩ trivial (by kernel_rfl) Tryz.func28 (by kernel_rfl)
noncomputable def gsc459:Ctx:=mkC tys cells maps [(21,gRsh),(27,s451),(28,gs454),(26,s458)] [60] []
noncomputable def gs459:Ev.Spec:=mkS gsc459 Tryz.f8 h459 P459 R459
theorem kgs459:FnOk Tryz.prog 8 gs459:=fn_okS (C:=gsc459) (hs:=h459) (ps:=P459) (rs:=R459) (specs:=[(21,gRsh),(27,s451),(28,gs454),(26,s458)]) (dyns:=[60]) (codes:=[]) rfl hm hT ⟨kgRsh,k451,kgs454,k458,trivial⟩ trivial (by kernel_rfl) Tryz.func8 (by kernel_rfl)
abbrev CapG:=Int×Vector UInt8 16×Vector UInt8 32×Int×Int×Int×List UInt8×Unit
noncomputable def capK(k:Int)(s:Vector UInt8 16)(fp:Vector UInt8 32):CapG:=(k,s,fp,0,0,0,[],())
noncomputable def wriB:List UInt8:=[119,114,105,116,101]
noncomputable def reaB:List UInt8:=[114,101,97,100]
noncomputable def idxB:List UInt8:=[105,110,100,101,120]
theorem rslR0(g:Nat->UInt8)(fp:Vector UInt8 32):gs539.run (sp16 g,fp,())=some (capK 4 (shortL wriB [(sp16 g).toList]) fp):=by kernel_rfl
theorem rvoR4(g:Nat->UInt8)(fp:Vector UInt8 32):gs459.run (capK 4 (sp16 g) fp,())=some (capK 6 (shortL idxB [(shortL reaB [(sp16 g).toList]).toList]) fp,(0:Int)):=by kernel_rfl
noncomputable def shC(s:Vector UInt8 16):Nat->UInt8:=tagL wriB [s.toList]
noncomputable def ixF(k:Vector UInt8 16):Nat->UInt8:=tagL idxB [(shortL reaB [k.toList]).toList]
noncomputable def gRsl(SH:Vector UInt8 16->Nat->UInt8):Ev.Spec:=⟨gs539.params,gs539.results,fun x=>some (capK 4 (sp16 (SH x.1)) x.2.1)⟩
theorem kgRsl:FnOk Tryz.prog 6 (gRsl shC):=FnOk.sb kgs539 _ fun x r h=>by
 obtain⟨x0,x1,x2⟩:=x
 cases x2
 refine Eq.trans ?_ h
 have e:=rslR0 (fun i=>x0.toList.getD i 0) x1
 rw[sp16_eq x0]at e
 exact e
noncomputable def restB(k:Int)(c:CapG):Bool:=decide (c.1=k)&&(decide (c.2.2.2.1=(0:Int))&&(decide (c.2.2.2.2.1=(0:Int))&&(decide (c.2.2.2.2.2.1=(0:Int))&&(c.2.2.2.2.2.2.1:List UInt8).isEmpty)))
theorem restB_ok{k:Int}{c:CapG}(h:restB k c=true):c=capK k c.2.1 c.2.2.1:=by
 obtain⟨a,s,f,b,d,e,l,u⟩:=c
 unfold restB at h
 simp only[Bool.and_eq_true,decide_eq_true_eq,List.isEmpty_iff]at h
 obtain⟨rfl,rfl,rfl,rfl,rfl⟩:=h
 rfl
noncomputable def gRvo(IX:Vector UInt8 16->Nat->UInt8):Ev.Spec:=⟨gs459.params,gs459.results,fun x=>cond (restB 4 x.1) (some (capK 6 (sp16 (IX x.1.2.1)) x.1.2.2.1,(0:Int))) none⟩
theorem kgRvo:FnOk Tryz.prog 8 (gRvo ixF):=FnOk.sb kgs459 _ fun x r h=>by
 obtain⟨c,x2⟩:=x
 cases x2
 have h':=cond_some h
 clear h
 obtain⟨hc,h⟩:=h'
 have hc':=restB_ok hc
 dsimp only at h hc'
 have e:=rvoR4 (fun i=>Vector.toList (α:=UInt8) (n:=16) c.2.1|>.getD i 0) c.2.2.1
 rw[sp16_eq c.2.1,←hc']at e
 exact Eq.trans e h
theorem ixx6(g:Nat->UInt8)(fp:Vector UInt8 32):s74.run (capK 6 (sp16 g) fp,())=some (sp16 g,(0:Int)):=by kernel_rfl
noncomputable def gIxx:Ev.Spec:=⟨s74.params,s74.results,fun x=>cond (restB 6 x.1) (some (x.1.2.1,(0:Int))) none⟩
theorem kgIxx:FnOk Tryz.prog 34 gIxx:=FnOk.sb k74 _ fun x r h=>by
 obtain⟨c,x2⟩:=x
 cases x2
 have h':=cond_some h
 clear h
 obtain⟨hc,h⟩:=h'
 have hc':=restB_ok hc
 dsimp only at h hc'
 have e:=ixx6 (fun i=>Vector.toList (α:=UInt8) (n:=16) c.2.1|>.getD i 0) c.2.2.1
 rw[sp16_eq c.2.1,←hc']at e
 exact Eq.trans e h
noncomputable def goc483:Ctx:=mkC tys cells maps [(77,s89),(76,gTag),(78,s424)] [157] [(133,Tryz.f133),(75,Tryz.f75),(135,Tryz.f135),(351,Tryz.f351),(349,Tryz.f349),(79,Tryz.f79),(350,Tryz.f350)] cxA
noncomputable def go483:Ev.Spec:=mkS goc483 Tryz.f36 h483 P483 R483
theorem kgo483:FnOk Tryz.prog 36 go483:=fn_okSX (C:=goc483) (hs:=h483) (ps:=P483) (rs:=R483) (specs:=[(77,s89),(76,gTag),(78,s424)]) (dyns:=[157]) (codes:=[(133,Tryz.f133),(75,Tryz.f75),(135,Tryz.f135),(351,Tryz.f351),(349,Tryz.f349),(79,Tryz.f79),(350,Tryz.f350)]) (x:=cxA) rfl hm hT cxOk ⟨k89,kgTag,k424,trivial⟩ ⟨Tryz.func133,Tryz.func75,Tryz.func135,Tryz.func351,Tryz.func349,Tryz.func79,Tryz.func350,trivial⟩ (by kernel_rfl) Tryz.func36 (by kernel_rfl)
theorem ord1(g:Nat->UInt8):go483.run ((1:Int),sp16 g,())=some [(0:Int)]:=by kernel_rfl
noncomputable def gOrd:Ev.Spec:=⟨go483.params,go483.results,fun x=>cond (decide (x.1=(1:Int))) (some [(0:Int)]) none⟩
theorem kgOrd:FnOk Tryz.prog 36 gOrd:=FnOk.sb kgo483 _ fun x r h=>by
 obtain⟨n,v,x2⟩:=x
 cases x2
 have h':=cond_some h
 clear h
 obtain⟨hc,h⟩:=h'
 have hc':n=(1:Int):=of_decide_eq_true hc
 subst hc'
 have e:=ord1 (fun i=>Vector.toList (α:=UInt8) (n:=16) v|>.getD i 0)
 rw[sp16_eq v]at e
 exact Eq.trans e h
end Sx
end
section
open Go Go.Proofs Ev
namespace Sx
noncomputable def tVal(x0:CapG):Option Bool:=(bif decide (x0.1=(1:Int))then some (decide (x0.1=(1:Int)))else some (decide (x0.1=(2:Int)))).bind fun(x:Bool)=>bif x then(bif decide ((1:Int)<=x0.2.2.2.1)then bif decide (x0.2.2.2.1<=x0.2.2.2.2.1)then bif decide (x0.2.2.2.2.1<=(16:Int))then bif decide ((1:Int)<=x0.2.2.2.2.2.1)then bif decide (x0.2.2.2.2.2.1<=(1024:Int))then some (decide (((x0.2.2.2.2.2.2.1.length:Nat):Int)=(0:Int)))else some false else some false else some false else some false else some false).bind fun(x:Bool)=>some x else bif decide (x0.1=(3:Int))then(bif decide (((x0.2.2.2.2.2.2.1.length:Nat):Int)<=(64:Int))then bif decide (x0.2.1=Vector.replicate 16 (0:UInt8))then bif decide (x0.2.2.1=Vector.replicate 32 (0:UInt8))then bif decide (x0.2.2.2.1=(0:Int))then bif decide (x0.2.2.2.2.1=(0:Int))then some (decide (x0.2.2.2.2.2.1=(0:Int)))else some false else some false else some false else some false else some false).bind fun(x:Bool)=>some x else(bif decide (x0.1=(4:Int))then some (decide (x0.1=(4:Int)))else(bif decide (x0.1=(5:Int))then some (decide (x0.1=(5:Int)))else(bif decide (x0.1=(6:Int))then some (decide (x0.1=(6:Int)))else(bif decide (x0.1=(7:Int))then some (decide (x0.1=(7:Int)))else(bif decide (x0.1=(8:Int))then some (decide (x0.1=(8:Int)))else some (decide (x0.1=(9:Int)))).bind fun(x:Bool)=>some x).bind fun(x:Bool)=>some x).bind fun(x:Bool)=>some x).bind fun(x:Bool)=>some x).bind fun(x:Bool)=>bif x then(bif decide (x0.2.2.2.1=(0:Int))then bif decide (x0.2.2.2.2.1=(0:Int))then bif decide (x0.2.2.2.2.2.1=(0:Int))then some (decide (((x0.2.2.2.2.2.2.1.length:Nat):Int)=(0:Int)))else some false else some false else some false).bind fun(x:Bool)=>some x else some false
theorem valR(c:CapG):s136.run (c,())=tVal c:=by kernel_rfl
theorem tot_c{α:Type}{c:Bool}{x y:Option α}(hx: ∃b,x=some b)(hy: ∃b,y=some b): ∃b,cond c x y=some b:=by
 cases c
 ·exact hy
 ·exact hx
theorem tot_b{α β:Type}{x:Option α}{f:α->Option β}(hx: ∃a,x=some a)(hf: ∀a,∃b,f a=some b): ∃b,x.bind f=some b:=by
 obtain⟨a,rfl⟩:=hx
 exact hf a
theorem bsome{α:Type}(o:Option α):(o.bind fun x=>some x)=o:=by cases o<;>rfl
theorem tot_s{α:Type}{a:α}: ∃b,some a=some b:=⟨a,rfl⟩
theorem tVal_some(c:CapG): ∃b,tVal c=some b:=by
 unfold tVal
 repeat' (first|exact tot_s|refine tot_c ?_ ?_|refine tot_b ?_ (fun _=> ?_))
noncomputable def valT:InT P136->Option Bool:=s136.run
theorem valT_some(c:CapG): ∃b,valT (c,())=some b:=by
 obtain⟨b,e⟩:=tVal_some c
 exact⟨b,(valR c).trans e⟩
theorem val6(s:Vector UInt8 16)(fp:Vector UInt8 32):valT (capK 6 s fp,())=some true:=by kernel_rfl
noncomputable def slK(K:InT P136->Option Bool)(c:CapG):Option Bool:=evF (mkC tys cells maps [(63,⟨P136,R136,K⟩)] [] []) Tryz.f32 h574 P574 R574 (c,())
theorem slE(K:InT P136->Option Bool)(c:CapG):slK K c=((K (c,())).bind fun b=>cond b (some (decide ((4:Int)<=c.1))) (some false)).bind fun x=>some x:=by kernel_rfl
theorem slS(c:CapG):s574.run (c,())=slK valT c:=by kernel_rfl
theorem sl_of{c:CapG}{b:Bool}(e:valT (c,())=some b):s574.run (c,())=cond b (some (decide ((4:Int)<=c.1))) (some false):=by
 refine(slS c).trans ?_
 rw[slE,e,Option.bind_some,bsome]
theorem sl_some(c:CapG): ∃b,s574.run (c,())=some b:=by
 obtain⟨b,e⟩:=valT_some c
 rw[sl_of e]
 repeat' (first|exact tot_s|refine tot_c ?_ ?_)
noncomputable def slF(c:CapG):Bool:=(s574.run (c,())).getD false
theorem slF_of{c:CapG}{b:Bool}(h:s574.run (c,())=some b):slF c=b:=by unfold slF;rw[h];rfl
noncomputable def gsl(V:CapG->Bool):Ev.Spec:=⟨s574.params,s574.results,fun x=>some (V x.1)⟩
theorem kgsl:FnOk Tryz.prog 32 (gsl slF):=FnOk.sb k574 _ fun x r h=>by
 obtain⟨c,x2⟩:=x
 cases x2
 obtain⟨b,e⟩:=sl_some c
 have h2:some (slF c)=some r:=h
 rw[slF_of e]at h2
 exact Eq.trans e h2
noncomputable def crK(K:InT P136->Option Bool)(c:CapG):Option Bool:=evF (mkC tys cells maps [(63,⟨P136,R136,K⟩)] [] []) Tryz.f29 h137 P137 R137 (c,())
theorem crE(K:InT P136->Option Bool)(c:CapG):crK K c=((K (c,())).bind fun b=>cond b (cond (decide (c.1≠(2:Int))) (cond (decide (c.1≠(6:Int))) (some (decide (c.1≠(9:Int)))) (some false)) (some false)) (some false)).bind fun x=>some x:=by kernel_rfl
theorem crS(c:CapG):s137.run (c,())=crK valT c:=by kernel_rfl
theorem cr_of{c:CapG}{b:Bool}(e:valT (c,())=some b):s137.run (c,())=cond b (cond (decide (c.1≠(2:Int))) (cond (decide (c.1≠(6:Int))) (some (decide (c.1≠(9:Int)))) (some false)) (some false)) (some false):=by
 refine(crS c).trans ?_
 rw[crE,e,Option.bind_some,bsome]
theorem cr_some(c:CapG): ∃b,s137.run (c,())=some b:=by
 obtain⟨b,e⟩:=valT_some c
 rw[cr_of e]
 repeat' (first|exact tot_s|refine tot_c ?_ ?_)
noncomputable def crF(c:CapG):Bool:=(s137.run (c,())).getD false
theorem crF_of{c:CapG}{b:Bool}(h:s137.run (c,())=some b):crF c=b:=by unfold crF;rw[h];rfl
noncomputable def gcr(V:CapG->Bool):Ev.Spec:=⟨s137.params,s137.results,fun x=>some (V x.1)⟩
theorem kgcr:FnOk Tryz.prog 29 (gcr crF):=FnOk.sb k137 _ fun x r h=>by
 obtain⟨c,x2⟩:=x
 cases x2
 obtain⟨b,e⟩:=cr_some c
 have h2:some (crF c)=some r:=h
 rw[crF_of e]at h2
 exact Eq.trans e h2
noncomputable def cwK(K:InT P136->Option Bool)(c:CapG):Option Bool:=evF (mkC tys cells maps [(63,⟨P136,R136,K⟩)] [] []) Tryz.f38 h175 P175 R175 (c,())
theorem cwE(K:InT P136->Option Bool)(c:CapG):cwK K c=((K (c,())).bind fun b=>cond b (cond (decide (c.1=(4:Int))) (some true) (some (decide (c.1=(7:Int))))) (some false)).bind fun x=>some x:=by kernel_rfl
theorem cwS(c:CapG):s175.run (c,())=cwK valT c:=by kernel_rfl
theorem cw_of{c:CapG}{b:Bool}(e:valT (c,())=some b):s175.run (c,())=cond b (cond (decide (c.1=(4:Int))) (some true) (some (decide (c.1=(7:Int))))) (some false):=by
 refine(cwS c).trans ?_
 rw[cwE,e,Option.bind_some,bsome]
theorem cw_some(c:CapG): ∃b,s175.run (c,())=some b:=by
 obtain⟨b,e⟩:=valT_some c
 rw[cw_of e]
 repeat' (first|exact tot_s|refine tot_c ?_ ?_)
noncomputable def cwF(c:CapG):Bool:=(s175.run (c,())).getD false
theorem cwF_of{c:CapG}{b:Bool}(h:s175.run (c,())=some b):cwF c=b:=by unfold cwF;rw[h];rfl
noncomputable def gcw(V:CapG->Bool):Ev.Spec:=⟨s175.params,s175.results,fun x=>some (V x.1)⟩
theorem kgcw:FnOk Tryz.prog 38 (gcw cwF):=FnOk.sb k175 _ fun x r h=>by
 obtain⟨c,x2⟩:=x
 cases x2
 obtain⟨b,e⟩:=cw_some c
 have h2:some (cwF c)=some r:=h
 rw[cwF_of e]at h2
 exact Eq.trans e h2
theorem slF_lt{c:CapG}(h:c.1<4):slF c=false:=by
 obtain⟨b,e⟩:=valT_some c
 refine slF_of ((sl_of e).trans ?_)
 rw[decide_eq_false (by omega)]
 cases b<;>rfl
theorem cwF_lt{c:CapG}(h:c.1<4):cwF c=false:=by
 obtain⟨b,e⟩:=valT_some c
 refine cwF_of ((cw_of e).trans ?_)
 rw[decide_eq_false (show¬c.1=4 by omega),decide_eq_false (show¬c.1=7 by omega)]
 cases b<;>rfl
theorem slF_6(s:Vector UInt8 16)(fp:Vector UInt8 32):slF (capK 6 s fp)=true:=slF_of (sl_of (val6 s fp))
theorem crF_6(s:Vector UInt8 16)(fp:Vector UInt8 32):crF (capK 6 s fp)=false:=crF_of (cr_of (val6 s fp))
theorem triV(t:Int):s564.run (t,())=(cond (decide ((1:Int)<=t)) (some (decide (t<=(16:Int)))) (some false)).bind fun x=>some x:=by kernel_rfl
noncomputable def triF(t:Int):Bool:=cond (decide ((1:Int)<=t)) (decide (t<=(16:Int))) false
noncomputable def gTri(T:Int->Bool):Ev.Spec:=⟨s564.params,s564.results,fun x=>some (T x.1)⟩
theorem kgTri:FnOk Tryz.prog 33 (gTri triF):=FnOk.sb k564 _ fun x r h=>by
 obtain⟨t,x2⟩:=x
 cases x2
 refine(triV t).trans (Eq.trans ?_ h)
 show _=some (triF t)
 unfold triF
 cases decide ((1:Int)<=t)<;>rfl
noncomputable def witF(n:Int)(v:Int):Int:=(s6.run (v,n,())).getD (0:Int)
theorem wit_ok(n:Nat)(h:1<=n)(hn:n<=1000)(v:Int):s6.run (v,(n:Int),())=some (witF n v)∧ ∃k:Nat,k<n∧witF n v=(k:Int):=by
 obtain⟨k,hk,e⟩:=Mx.p6 v n h hn
 have e':s6.run (v,(n:Int),())=some (k:Int):=e
 unfold witF
 rw[e']
 exact⟨rfl,k,hk,rfl⟩
noncomputable def gWit(W4 W30:Int->Int):Ev.Spec:=⟨s6.params,s6.results,fun x=>cond (decide (x.2.1=(4:Int))) (some (W4 x.1)) (cond (decide (x.2.1=(30:Int))) (some (W30 x.1)) none)⟩
theorem kgWit:FnOk Tryz.prog 9 (gWit (witF 4) (witF 30)):=FnOk.sb k6 _ fun x r h=>by
 obtain⟨v,n,x2⟩:=x
 cases x2
 have h':cond (decide (n=(4:Int))) (some (witF 4 v)) (cond (decide (n=(30:Int))) (some (witF 30 v)) none)=some r:=h
 by_cases h4:n=(4:Int)
 ·rw[decide_eq_true h4,cond_true]at h'
  subst h4
  exact Eq.trans (wit_ok 4 (by decide) (by decide) v).1 h'
 ·rw[decide_eq_false h4,cond_false]at h'
  by_cases h30:n=(30:Int)
  ·rw[decide_eq_true h30,cond_true]at h'
   subst h30
   exact Eq.trans (wit_ok 30 (by decide) (by decide) v).1 h'
  ·rw[decide_eq_false h30,cond_false]at h'
   cases h'
end Sx
end
