/- Short digests and the indexes of slots, for the program and for the document alike. No conditions. -/
import Derived.Test.YtjkaogjllhibfaaGreatDoorH
import Derived.Test.YtjkaogjllhibfaaGreatDoorK
set_option linter.unusedVariables false
set_option linter.unusedSimpArgs false
set_option linter.unusedSectionVars false
set_option maxRecDepth 100000
section
open Go Go.Proofs Ev
namespace Sx
theorem FnOk.sb{P:Program}{f:FuncId}{s:Ev.Spec}(h:FnOk P f s)(run':InT s.params->Option (OutT s.results (ioTy s.params)))(hr: ∀x r,run' x=some r->s.run x=some r):FnOk P f ⟨s.params,s.results,run'⟩:=⟨h.1,fun w M x vs a b c d e r q=>h.2 w M x vs a b c d e r (hr x r q)⟩
noncomputable def sp32(f:Nat->UInt8):Vector UInt8 32:=vecOf 32 ((List.range 32).map f) 0
noncomputable def sp16(f:Nat->UInt8):Vector UInt8 16:=vecOf 16 ((List.range 16).map f) 0
theorem sp32_eq(v:Vector UInt8 32):sp32 (fun i=>v.toList.getD i 0)=v:=by
 unfold sp32 vecOf
 rw[dif_pos (by simp)]
 apply Vector.ext
 intro i hi
 simp[List.getD,hi]
theorem sp16_eq(v:Vector UInt8 16):sp16 (fun i=>v.toList.getD i 0)=v:=by
 unfold sp16 vecOf
 rw[dif_pos (by simp)]
 apply Vector.ext
 intro i hi
 simp[List.getD,hi]
noncomputable def tagL(t:List UInt8)(l:List (List UInt8))(i:Nat):UInt8:=(Mx.tagged t l).toList.getD i 0
noncomputable def sumL(b:List UInt8)(i:Nat):UInt8:=(Mx.sum b).toList.getD i 0
noncomputable def gTagR:InT s90.params->Option (OutT s90.results (ioTy s90.params)):=fun x=>cond (decide ((x.1:List UInt8).length<1000)&&(x.2.1:List (List UInt8)).all (fun b=>decide (b.length<1000))&&decide ((x.2.1:List (List UInt8)).length<=1000)) (some (sp32 (tagL x.1 x.2.1))) none
theorem p90'(t:List UInt8)(l:List (List UInt8))(h:Mx.Short l)(ht:t.length<100000):s90.run (t,l,())=some (Mx.tagged t l):=by
 have e:=Mx.p90 t l h ht
 unfold Mx.f90 r90 at e
 exact e
theorem gTag_ok(x:InT s90.params)(r:OutT s90.results (ioTy s90.params))(h:gTagR x=some r):s90.run x=some r:=by
 obtain⟨x0,x1,x2⟩:=x
 cases x2
 unfold gTagR at h
 have h':=cond_some h
 clear h
 obtain⟨hc,h⟩:=h'
 dsimp only at hc h
 simp only[Bool.and_eq_true,decide_eq_true_eq,List.all_eq_true]at hc
 refine Eq.trans ?_ h
 rw[show tagL x0 x1=fun i=>(Mx.tagged x0 x1).toList.getD i 0 from rfl,sp32_eq]
 exact p90' x0 x1 ⟨fun b hb=>Nat.lt_trans (hc.1.2 b hb) (by decide),hc.2⟩ (Nat.lt_trans hc.1.1 (by decide))
noncomputable def gTag:Ev.Spec:=⟨s90.params,s90.results,gTagR⟩
theorem kgTag:FnOk Tryz.prog 66 gTag:=FnOk.sb k90 gTagR gTag_ok
noncomputable def gSumR:InT s125.params->Option (OutT s125.results (ioTy s125.params)):=fun x=>cond (decide ((x.1:List UInt8).length<1000)) (some (sp32 (sumL x.1))) none
theorem p125'(t:List UInt8)(h:t.length<1000):s125.run (t,())=some (Mx.sum t):=by
 have e:=Mx.p125 t (by omega)
 unfold Mx.f125 r125 at e
 exact e
theorem gSum_ok(x:InT s125.params)(r:OutT s125.results (ioTy s125.params))(h:gSumR x=some r):s125.run x=some r:=by
 obtain⟨x0,x2⟩:=x
 cases x2
 unfold gSumR at h
 have h':=cond_some h
 clear h
 obtain⟨hc,h⟩:=h'
 dsimp only at hc h
 rw[decide_eq_true_eq]at hc
 refine Eq.trans ?_ h
 rw[show sumL x0=fun i=>(Mx.sum x0).toList.getD i 0 from rfl,sp32_eq]
 exact p125' x0 hc
noncomputable def gSum:Ev.Spec:=⟨s125.params,s125.results,gSumR⟩
theorem kgSum:FnOk Tryz.prog 48 gSum:=FnOk.sb k125 gSumR gSum_ok
noncomputable def shortL(t:List UInt8)(l:List (List UInt8)):Vector UInt8 16:=sp16 (tagL t l)
noncomputable def cShoK(K:InT P90->Option (Vector UInt8 32)):Ctx:=mkC tys cells maps [(66,⟨P90,R90,K⟩)] [] []
noncomputable def shoQ(K:InT P90->Option (Vector UInt8 32))(t:List UInt8)(l:List (List UInt8)):Option (Vector UInt8 16):=evF (cShoK K) Tryz.f34 h176 P176 R176 (t,l,())
theorem shoE(K:InT P90->Option (Vector UInt8 32))(t:List UInt8)(l:List (List UInt8)):shoQ K t l=(K (t,l,())).bind fun h=>shoQ (fun _=>some h) t l:=by kernel_rfl
theorem shoV(g:Nat->UInt8)(t:List UInt8)(l:List (List UInt8)):shoQ (fun _=>some (sp32 g)) t l=some (sp16 g):=by kernel_rfl
noncomputable def shoT:InT P90->Option (Vector UInt8 32):=s90.run
theorem shoS(t:List UInt8)(l:List (List UInt8)):s176.run (t,l,())=shoQ shoT t l:=by kernel_rfl
theorem shoR(t:List UInt8)(l:List (List UInt8))(h:Mx.Short l)(ht:t.length<100000):s176.run (t,l,())=some (shortL t l):=by
 have e:shoT (t,l,())=some (sp32 (tagL t l)):=by
  rw[show tagL t l=fun i=>(Mx.tagged t l).toList.getD i 0 from rfl,sp32_eq];exact p90' t l h ht
 refine(shoS t l).trans ?_
 rw[shoE,e,Option.bind_some,shoV]
 rfl
theorem p44'(t:List UInt8)(l:List (List UInt8))(h:Mx.Short l)(ht:t.length<100000):s44.run (t,l,())=some (Mx.tagged t l):=by
 have e:=Mx.p44 t l h ht
 unfold Mx.f44 r44 at e
 exact e
noncomputable def cRshK(K:InT P44->Option (Vector UInt8 32)):Ctx:=mkC tys cells maps [(58,⟨P44,R44,K⟩)] [] []
noncomputable def rshQ(K:InT P44->Option (Vector UInt8 32))(t:List UInt8)(l:List (List UInt8)):Option (Vector UInt8 16):=evF (cRshK K) Tryz.f27 h446 P446 R446 (t,l,())
theorem rshE(K:InT P44->Option (Vector UInt8 32))(t:List UInt8)(l:List (List UInt8)):rshQ K t l=(K (t,l,())).bind fun h=>rshQ (fun _=>some h) t l:=by kernel_rfl
theorem rshV(g:Nat->UInt8)(t:List UInt8)(l:List (List UInt8)):rshQ (fun _=>some (sp32 g)) t l=some (sp16 g):=by kernel_rfl
noncomputable def rshT:InT P44->Option (Vector UInt8 32):=s44.run
theorem rshS(t:List UInt8)(l:List (List UInt8)):s446.run (t,l,())=rshQ rshT t l:=by kernel_rfl
theorem rshR(t:List UInt8)(l:List (List UInt8))(h:Mx.Short l)(ht:t.length<100000):s446.run (t,l,())=some (shortL t l):=by
 have e:rshT (t,l,())=some (sp32 (tagL t l)):=by
  rw[show tagL t l=fun i=>(Mx.tagged t l).toList.getD i 0 from rfl,sp32_eq];exact p44' t l h ht
 refine(rshS t l).trans ?_
 rw[rshE,e,Option.bind_some,rshV]
 rfl
noncomputable def bndB(t:List UInt8)(l:List (List UInt8)):Bool:=decide (t.length<1000)&&l.all (fun b=>decide (b.length<1000))&&decide (l.length<=1000)
theorem bndB_ok{t:List UInt8}{l:List (List UInt8)}(h:bndB t l=true):Mx.Short l∧t.length<100000:=by
 unfold bndB at h
 simp only[Bool.and_eq_true,decide_eq_true_eq,List.all_eq_true]at h
 exact⟨⟨fun b hb=>Nat.lt_trans (h.1.2 b hb) (by decide),h.2⟩,Nat.lt_trans h.1.1 (by decide)⟩
noncomputable def gShoR:InT s176.params->Option (OutT s176.results (ioTy s176.params)):=fun x=>cond (bndB x.1 x.2.1) (some (shortL x.1 x.2.1)) none
theorem gSho_ok(x:InT s176.params)(r:OutT s176.results (ioTy s176.params))(h:gShoR x=some r):s176.run x=some r:=by
 obtain⟨x0,x1,x2⟩:=x
 cases x2
 unfold gShoR at h
 have h':=cond_some h
 clear h
 obtain⟨hc,h⟩:=h'
 dsimp only at hc h
 refine Eq.trans ?_ h
 exact shoR x0 x1 (bndB_ok hc).1 (bndB_ok hc).2
noncomputable def gSho:Ev.Spec:=⟨s176.params,s176.results,gShoR⟩
theorem kgSho:FnOk Tryz.prog 34 gSho:=FnOk.sb k176 gShoR gSho_ok
noncomputable def gRshR:InT s446.params->Option (OutT s446.results (ioTy s446.params)):=fun x=>cond (bndB x.1 x.2.1) (some (shortL x.1 x.2.1)) none
theorem gRsh_ok(x:InT s446.params)(r:OutT s446.results (ioTy s446.params))(h:gRshR x=some r):s446.run x=some r:=by
 obtain⟨x0,x1,x2⟩:=x
 cases x2
 unfold gRshR at h
 have h':=cond_some h
 clear h
 obtain⟨hc,h⟩:=h'
 dsimp only at hc h
 refine Eq.trans ?_ h
 exact rshR x0 x1 (bndB_ok hc).1 (bndB_ok hc).2
noncomputable def gRsh:Ev.Spec:=⟨s446.params,s446.results,gRshR⟩
theorem kgRsh:FnOk Tryz.prog 27 gRsh:=FnOk.sb k446 gRshR gRsh_ok
noncomputable def gsc139:Ctx:=mkC tys cells maps [(34,gSho)] [] []
noncomputable def gs139:Ev.Spec:=mkS gsc139 Tryz.f52 h139 P139 R139
theorem kgs139:FnOk Tryz.prog 52 gs139:=fn_okS (C:=gsc139) (hs:=h139) (ps:=P139) (rs:=R139) (specs:=[(34,gSho)]) (dyns:=[]) (codes:=[]) rfl hm hT ⟨kgSho,trivial⟩ trivial (by kernel_rfl) Tryz.func52 (by kernel_rfl)
noncomputable def gsc544:Ctx:=mkC tys cells maps [(52,gs139)] [] []
noncomputable def gs544:Ev.Spec:=mkS gsc544 Tryz.f19 h544 P544 R544
theorem kgs544:FnOk Tryz.prog 19 gs544:=fn_okS (C:=gsc544) (hs:=h544) (ps:=P544) (rs:=R544) (specs:=[(52,gs139)]) (dyns:=[]) (codes:=[]) rfl hm hT ⟨kgs139,trivial⟩ trivial (by kernel_rfl) Tryz.func19 (by kernel_rfl)
noncomputable def gsc138:Ctx:=mkC tys cells maps [(90,s137),(52,gs139),(32,s175)] [] []
noncomputable def gs138:Ev.Spec:=mkS gsc138 Tryz.f91 h138 P138 R138
theorem kgs138:FnOk Tryz.prog 91 gs138:=fn_okS (C:=gsc138) (hs:=h138) (ps:=P138) (rs:=R138) (specs:=[(90,s137),(52,gs139),(32,s175)]) (dyns:=[]) (codes:=[]) rfl hm hT ⟨k137,kgs139,k175,trivial⟩ trivial (by kernel_rfl) Tryz.func91 (by kernel_rfl)
noncomputable def gsc109:Ctx:=mkC tys cells maps [(57,s136),(90,s137),(91,gs138),(52,gs139)] [] []
noncomputable def gs109:Ev.Spec:=mkS gsc109 Tryz.f55 h109 P109 R109
theorem kgs109:FnOk Tryz.prog 55 gs109:=fn_okS (C:=gsc109) (hs:=h109) (ps:=P109) (rs:=R109) (specs:=[(57,s136),(90,s137),(91,gs138),(52,gs139)]) (dyns:=[]) (codes:=[]) rfl hm hT ⟨k136,k137,kgs138,kgs139,trivial⟩ trivial (by kernel_rfl) Tryz.func55 (by kernel_rfl)
noncomputable def gsc74:Ctx:=mkC tys cells maps [(55,gs109)] [] []
noncomputable def gs74:Ev.Spec:=mkS gsc74 Tryz.f21 h74 P74 R74
theorem kgs74:FnOk Tryz.prog 21 gs74:=fn_okS (C:=gsc74) (hs:=h74) (ps:=P74) (rs:=R74) (specs:=[(55,gs109)]) (dyns:=[]) (codes:=[]) rfl hm hT ⟨kgs109,trivial⟩ trivial (by kernel_rfl) Tryz.func21 (by kernel_rfl)
noncomputable def gsc539:Ctx:=mkC tys cells maps [(27,gRsh)] [] []
noncomputable def gs539:Ev.Spec:=mkS gsc539 Tryz.f10 h539 P539 R539
theorem kgs539:FnOk Tryz.prog 10 gs539:=fn_okS (C:=gsc539) (hs:=h539) (ps:=P539) (rs:=R539) (specs:=[(27,gRsh)]) (dyns:=[]) (codes:=[]) rfl hm hT ⟨kgRsh,trivial⟩ trivial (by kernel_rfl) Tryz.func10 (by kernel_rfl)
noncomputable def gsc454:Ctx:=mkC tys cells maps [(27,gRsh),(64,s451),(105,s452)] [86] []
noncomputable def gs454:Ev.Spec:=mkS gsc454 Tryz.f65 h454 P454 R454
theorem kgs454:FnOk Tryz.prog 65 gs454:=fn_okS (C:=gsc454) (hs:=h454) (ps:=P454) (rs:=R454) (specs:=[(27,gRsh),(64,s451),(105,s452)]) (dyns:=[86]) (codes:=[]) rfl hm hT ⟨kgRsh,k451,k452,trivial⟩ trivial (by kernel_rfl) Tryz.func65 (by kernel_rfl)
noncomputable def gsc459:Ctx:=mkC tys cells maps [(27,gRsh),(64,s451),(65,gs454),(63,s458)] [86] []
noncomputable def gs459:Ev.Spec:=mkS gsc459 Tryz.f31 h459 P459 R459
theorem kgs459:FnOk Tryz.prog 31 gs459:=fn_okS (C:=gsc459) (hs:=h459) (ps:=P459) (rs:=R459) (specs:=[(27,gRsh),(64,s451),(65,gs454),(63,s458)]) (dyns:=[86]) (codes:=[]) rfl hm hT ⟨kgRsh,k451,kgs454,k458,trivial⟩ trivial (by kernel_rfl) Tryz.func31 (by kernel_rfl)
noncomputable def gsc541:Ctx:=mkC tys cells maps [(31,gs459)] [] []
noncomputable def gs541:Ev.Spec:=mkS gsc541 Tryz.f12 h541 P541 R541
theorem kgs541:FnOk Tryz.prog 12 gs541:=fn_okS (C:=gsc541) (hs:=h541) (ps:=P541) (rs:=R541) (specs:=[(31,gs459)]) (dyns:=[]) (codes:=[]) rfl hm hT ⟨kgs459,trivial⟩ trivial (by kernel_rfl) Tryz.func12 (by kernel_rfl)
end Sx
end
section
open Go Go.Proofs Ev
namespace Sx
abbrev CapG:=Int×Vector UInt8 16×Vector UInt8 32×Int×Int×Int×List UInt8×Unit
noncomputable def wriB:List UInt8:=[119,114,105,116,101]
noncomputable def reaB:List UInt8:=[114,101,97,100]
noncomputable def idxB:List UInt8:=[105,110,100,101,120]
noncomputable def sloC(s:Vector UInt8 16)(fp:Vector UInt8 32):CapG:=(4,shortL wriB [s.toList],fp,0,0,0,[],())
noncomputable def idxC(k:Vector UInt8 16):Vector UInt8 16:=shortL idxB [(shortL reaB [k.toList]).toList]
theorem sloR0(g:Nat->UInt8)(fp:Vector UInt8 32):gs544.run (sp16 g,fp,())=some (sloC (sp16 g) fp):=by kernel_rfl
theorem rslR0(g:Nat->UInt8)(fp:Vector UInt8 32):gs539.run (sp16 g,fp,())=some (sloC (sp16 g) fp):=by kernel_rfl
theorem idxR0(g:Nat->UInt8)(fp:Vector UInt8 32):gs74.run (((4:Int),sp16 g,fp,(0:Int),(0:Int),(0:Int),([]:List UInt8),()),())=some (idxC (sp16 g),(0:Int)):=by kernel_rfl
theorem rixR0(g:Nat->UInt8)(fp:Vector UInt8 32):gs541.run (((4:Int),sp16 g,fp,(0:Int),(0:Int),(0:Int),([]:List UInt8),()),())=some (idxC (sp16 g),(0:Int)):=by kernel_rfl
end Sx
end
