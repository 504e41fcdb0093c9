/- Contracts over quick digests; chains of digests, step by step. No conditions. -/
import Derived.Test.YtjaancbplomopaaGreatDoorH
import Derived.Test.YtjaancbplomopaaGreatDoorK
set_option linter.unusedVariables false
set_option linter.unusedSimpArgs false
set_option linter.unusedSectionVars false
set_option maxRecDepth 100000
section
open Go Go.Proofs Ev
namespace Sx
theorem FnOk.sub{P:Program}{f:FuncId}{ps:List PK}{rs:List RK}{run run':InT ps->Option (OutT rs (ioTy ps))}(h:FnOk P f ⟨ps,rs,run⟩)(hr: ∀x r,run' x=some r->run x=some r):FnOk P f ⟨ps,rs,run'⟩:=⟨h.1,fun w M x vs a b c d e r q=>h.2 w M x vs a b c d e r (hr x r q)⟩
theorem FnOk.sb{P:Program}{f:FuncId}{s:Ev.Spec}(h:FnOk P f s)(run':InT s.params->Option (OutT s.results (ioTy s.params)))(hr: ∀x r,run' x=some r->s.run x=some r):FnOk P f ⟨s.params,s.results,run'⟩:=⟨h.1,fun w M x vs a b c d e r q=>h.2 w M x vs a b c d e r (hr x r q)⟩
theorem FnOk.tt{P:Program}{f:FuncId}{run:Unit->Option Bool}(h:FnOk P f ⟨[],[.v .bool],run⟩)(e:run ()=some true):FnOk P f ⟨[],[.v .bool],fun _=>some true⟩:=FnOk.sub h fun x r q=>by cases x;exact e.trans q
theorem FnOk.lit{P:Program}{f:FuncId}{s:Ev.Spec}(h:FnOk P f s)(arg:InT s.params)(res:OutT s.results (ioTy s.params))(hv:s.run arg=some res)(g:InT s.params->Bool)(hg: ∀x,g x=true->x=arg):FnOk P f ⟨s.params,s.results,fun x=>cond (g x) (some res) none⟩:=⟨h.1,fun w M x vs a b c d e r q=>by
 obtain⟨hc,q⟩:=cond_some q
 exact h.2 w M x vs a b c d e r ((congrArg s.run (hg x hc)).trans (hv.trans q))⟩
theorem FnOk.lit2{P:Program}{f:FuncId}{ps:List PK}{rs:List RK}{run run':InT ps->Option (OutT rs (ioTy ps))}(h:FnOk P f ⟨ps,rs,run⟩)(h':FnOk P f ⟨ps,rs,run'⟩)(g:InT ps->Bool):FnOk P f ⟨ps,rs,fun x=>cond (g x) (run x) (run' x)⟩:=⟨h.1,fun w M x vs a b c d e r q=>by
 have q':cond (g x) (run x) (run' x)=some r:=q
 cases hc:g x with
 |true=>rw[hc]at q';exact h.2 w M x vs a b c d e r q'
 |false=>rw[hc]at q';exact h'.2 w M x vs a b c d e r q'⟩
noncomputable def sx125:Ev.Spec:=⟨P125,R125,fun x=>cond (decide ((x.1:List UInt8).length<100000)) (some (Mx.sumN x.1)) none⟩
theorem kx125:FnOk Tryz.prog 107 sx125:=FnOk.sub (run:=s125.run) k125 fun x r h=>by
 obtain⟨hc,h⟩:=cond_some h
 simp only[decide_eq_true_eq]at hc
 rw[←Mx.sum_n]at h
 refine Eq.trans ?_ h
 have e:=Mx.p125 x.1 (by omega)
 unfold Mx.f125 r125 at e
 exact e
noncomputable def sx90:Ev.Spec:=⟨P90,R90,fun x=>cond (decide ((x.1:List UInt8).length<100000)&&(x.2.1:List (List UInt8)).all (fun b=>decide (b.length<100000))&&decide ((x.2.1:List (List UInt8)).length<=1000)) (some (Mx.sumN (Mx.text x.1 x.2.1))) none⟩
theorem kx90:FnOk Tryz.prog 76 sx90:=FnOk.sub (run:=s90.run) k90 fun x r h=>by
 obtain⟨hc,h⟩:=cond_some h
 simp only[Bool.and_eq_true,decide_eq_true_eq,List.all_eq_true]at hc
 rw[←Mx.sum_n]at h
 refine Eq.trans ?_ h
 have e:=Mx.p90 x.1 x.2.1 ⟨hc.1.2,hc.2⟩ hc.1.1
 unfold Mx.f90 r90 Mx.tagged at e
 exact e
noncomputable def sx82:Ev.Spec:=⟨P82,R82,fun x=>cond (decide ((x.1:List UInt8).length<100000)) (some (Mx.sumN x.1)) none⟩
theorem kx82:FnOk Tryz.prog 22 sx82:=FnOk.sub (run:=s82.run) k82 fun x r h=>by
 obtain⟨hc,h⟩:=cond_some h
 simp only[decide_eq_true_eq]at hc
 rw[←Mx.sum_n]at h
 refine Eq.trans ?_ h
 have e:=Mx.p82 x.1 (by omega)
 unfold Mx.f82 r82 at e
 exact e
noncomputable def sx44:Ev.Spec:=⟨P44,R44,fun x=>cond (decide ((x.1:List UInt8).length<100000)&&(x.2.1:List (List UInt8)).all (fun b=>decide (b.length<100000))&&decide ((x.2.1:List (List UInt8)).length<=1000)) (some (Mx.sumN (Mx.text x.1 x.2.1))) none⟩
theorem kx44:FnOk Tryz.prog 52 sx44:=FnOk.sub (run:=s44.run) k44 fun x r h=>by
 obtain⟨hc,h⟩:=cond_some h
 simp only[Bool.and_eq_true,decide_eq_true_eq,List.all_eq_true]at hc
 rw[←Mx.sum_n]at h
 refine Eq.trans ?_ h
 have e:=Mx.p44 x.1 x.2.1 ⟨hc.1.2,hc.2⟩ hc.1.1
 unfold Mx.f44 r44 Mx.tagged at e
 exact e
end Sx
end
section
open Go Go.Proofs Ev
namespace Sx
noncomputable def sp32(f:Nat->UInt8):Vector UInt8 32:=vecOf 32 ((List.range 32).map f) 0
noncomputable def sp16(f:Nat->UInt8):Vector UInt8 16:=vecOf 16 ((List.range 16).map f) 0
theorem sp32_eq(v:Vector UInt8 32):sp32 (fun i=>v.toList.getD i 0)=v:=by
 unfold sp32 vecOf
 rw[dif_pos (by simp)]
 apply Vector.ext
 intro i hi
 simp[List.getD,hi]
theorem sp16_eq(v:Vector UInt8 16):sp16 (fun i=>v.toList.getD i 0)=v:=by
 unfold sp16 vecOf
 rw[dif_pos (by simp)]
 apply Vector.ext
 intro i hi
 simp[List.getD,hi]
noncomputable def sumL(b:List UInt8)(i:Nat):UInt8:=(Mx.sum b).toList.getD i 0
theorem sumL_eq(b:List UInt8):sp32 (sumL b)=Mx.sum b:=sp32_eq (Mx.sum b)
noncomputable def bndB(t:List UInt8)(l:List (List UInt8)):Bool:=decide (t.length<1000)&&l.all (fun b=>decide (b.length<1000))&&decide (l.length<=1000)
theorem bndB_ok{t:List UInt8}{l:List (List UInt8)}(h:bndB t l=true):Mx.Short l∧t.length<100000:=by
 unfold bndB at h
 simp only[Bool.and_eq_true,decide_eq_true_eq,List.all_eq_true]at h
 exact⟨⟨fun b hb=>Nat.lt_trans (h.1.2 b hb) (by decide),h.2⟩,Nat.lt_trans h.1.1 (by decide)⟩
noncomputable def gTagR:InT s90.params->Option (OutT s90.results (ioTy s90.params)):=fun x=>cond (bndB x.1 x.2.1) (some (sp32 (sumL (Mx.text x.1 x.2.1)))) none
theorem gTag_ok(x:InT s90.params)(r:OutT s90.results (ioTy s90.params))(h:gTagR x=some r):s90.run x=some r:=by
 obtain⟨x0,x1,x2⟩:=x
 cases x2
 unfold gTagR at h
 have h':=cond_some h
 clear h
 obtain⟨hc,h⟩:=h'
 dsimp only at hc h
 refine Eq.trans ?_ h
 rw[sumL_eq]
 have e:=Mx.p90 x0 x1 (bndB_ok hc).1 (bndB_ok hc).2
 unfold Mx.f90 r90 Mx.tagged at e
 exact e
noncomputable def gTag:Ev.Spec:=⟨s90.params,s90.results,gTagR⟩
theorem kgTag:FnOk Tryz.prog 76 gTag:=FnOk.sb k90 gTagR gTag_ok
noncomputable def gRtgR:InT s44.params->Option (OutT s44.results (ioTy s44.params)):=fun x=>cond (bndB x.1 x.2.1) (some (sp32 (sumL (Mx.text x.1 x.2.1)))) none
theorem gRtg_ok(x:InT s44.params)(r:OutT s44.results (ioTy s44.params))(h:gRtgR x=some r):s44.run x=some r:=by
 obtain⟨x0,x1,x2⟩:=x
 cases x2
 unfold gRtgR at h
 have h':=cond_some h
 clear h
 obtain⟨hc,h⟩:=h'
 dsimp only at hc h
 refine Eq.trans ?_ h
 rw[sumL_eq]
 have e:=Mx.p44 x0 x1 (bndB_ok hc).1 (bndB_ok hc).2
 unfold Mx.f44 r44 Mx.tagged at e
 exact e
noncomputable def gRtg:Ev.Spec:=⟨s44.params,s44.results,gRtgR⟩
theorem kgRtg:FnOk Tryz.prog 52 gRtg:=FnOk.sb k44 gRtgR gRtg_ok
noncomputable def gSumR:InT s125.params->Option (OutT s125.results (ioTy s125.params)):=fun x=>cond (decide ((x.1:List UInt8).length<1000)) (some (sp32 (sumL x.1))) none
theorem gSum_ok(x:InT s125.params)(r:OutT s125.results (ioTy s125.params))(h:gSumR x=some r):s125.run x=some r:=by
 obtain⟨x0,x2⟩:=x
 cases x2
 unfold gSumR at h
 have h':=cond_some h
 clear h
 obtain⟨hc,h⟩:=h'
 dsimp only at hc h
 rw[decide_eq_true_eq]at hc
 refine Eq.trans ?_ h
 rw[sumL_eq]
 have e:=Mx.p125 x0 (by omega)
 unfold Mx.f125 r125 at e
 exact e
noncomputable def gSum:Ev.Spec:=⟨s125.params,s125.results,gSumR⟩
theorem kgSum:FnOk Tryz.prog 107 gSum:=FnOk.sb k125 gSumR gSum_ok
noncomputable def gRsuR:InT s82.params->Option (OutT s82.results (ioTy s82.params)):=fun x=>cond (decide ((x.1:List UInt8).length<1000)) (some (sp32 (sumL x.1))) none
theorem gRsu_ok(x:InT s82.params)(r:OutT s82.results (ioTy s82.params))(h:gRsuR x=some r):s82.run x=some r:=by
 obtain⟨x0,x2⟩:=x
 cases x2
 unfold gRsuR at h
 have h':=cond_some h
 clear h
 obtain⟨hc,h⟩:=h'
 dsimp only at hc h
 rw[decide_eq_true_eq]at hc
 refine Eq.trans ?_ h
 rw[sumL_eq]
 have e:=Mx.p82 x0 (by omega)
 unfold Mx.f82 r82 at e
 exact e
noncomputable def gRsu:Ev.Spec:=⟨s82.params,s82.results,gRsuR⟩
theorem kgRsu:FnOk Tryz.prog 22 gRsu:=FnOk.sb k82 gRsuR gRsu_ok
noncomputable def gac591:Ctx:=mkC tys cells maps [(76,gTag)] [] []
noncomputable def ga591:Ev.Spec:=mkS gac591 Tryz.f282 h591 P591 R591
theorem kga591:FnOk Tryz.prog 282 ga591:=fn_okS (C:=gac591) (hs:=h591) (ps:=P591) (rs:=R591) (specs:=[(76,gTag)]) (dyns:=[]) (codes:=[]) rfl hm hT ⟨kgTag,trivial⟩ trivial (by kernel_rfl) Tryz.func282 (by kernel_rfl)
noncomputable def gac584:Ctx:=mkC tys cells maps [(282,ga591)] [] []
noncomputable def ga584:Ev.Spec:=mkS gac584 Tryz.f222 h584 P584 R584
theorem kga584:FnOk Tryz.prog 222 ga584:=fn_okS (C:=gac584) (hs:=h584) (ps:=P584) (rs:=R584) (specs:=[(282,ga591)]) (dyns:=[]) (codes:=[]) rfl hm hT ⟨kga591,trivial⟩ trivial (by kernel_rfl) Tryz.func222 (by kernel_rfl)
noncomputable def rac669:Ctx:=mkC tys cells maps [(22,gRsu),(283,s670)] [] []
noncomputable def ra669:Ev.Spec:=mkS rac669 Tryz.f225 h669 P669 R669
theorem kra669:FnOk Tryz.prog 225 ra669:=fn_okS (C:=rac669) (hs:=h669) (ps:=P669) (rs:=R669) (specs:=[(22,gRsu),(283,s670)]) (dyns:=[]) (codes:=[]) rfl hm hT ⟨kgRsu,k670,trivial⟩ trivial (by kernel_rfl) Tryz.func225 (by kernel_rfl)
noncomputable def rac667:Ctx:=mkC tys cells maps [(225,ra669)] [] []
noncomputable def ra667:Ev.Spec:=mkS rac667 Tryz.f163 h667 P667 R667
theorem kra667:FnOk Tryz.prog 163 ra667:=fn_okS (C:=rac667) (hs:=h667) (ps:=P667) (rs:=R667) (specs:=[(225,ra669)]) (dyns:=[]) (codes:=[]) rfl hm hT ⟨kra669,trivial⟩ trivial (by kernel_rfl) Tryz.func163 (by kernel_rfl)
noncomputable def alS(n:Nat)(h:Vector UInt8 32):Vector UInt8 32:=Nat.rec (motive:=fun _=>Vector UInt8 32) h (fun _ ih=>sp32 (sumL ([52,58,115,116,101,112,44,51,50,58]++ih.toList++[44]))) n
noncomputable def alN(n:Nat)(h:Vector UInt8 32):Vector UInt8 32:=Nat.rec (motive:=fun _=>Vector UInt8 32) h (fun _ ih=>Mx.sumN ([52,58,115,116,101,112,44,51,50,58]++ih.toList++[44])) n
theorem alS_N(h:Vector UInt8 32): ∀n,alS n h=alN n h
 |0=>rfl
 |n+1=>by
  show sp32 (sumL ([52,58,115,116,101,112,44,51,50,58]++(alS n h).toList++[44]))=Mx.sumN ([52,58,115,116,101,112,44,51,50,58]++(alN n h).toList++[44])
  rw[sumL_eq,alS_N h n,Mx.sum_n]
theorem alN_add(h:Vector UInt8 32)(m:Nat): ∀n,alN (m+n) h=alN n (alN m h)
 |0=>rfl
 |n+1=>by
  show Mx.sumN ([52,58,115,116,101,112,44,51,50,58]++(alN (m+n) h).toList++[44])=Mx.sumN ([52,58,115,116,101,112,44,51,50,58]++(alN n (alN m h)).toList++[44])
  rw[alN_add h m n]
theorem gaal0(g:Nat->UInt8):ga584.run (sp32 g,((0:Nat):Int),())=some (alS 0 (sp32 g)):=by kernel_rfl
theorem gaal1(g:Nat->UInt8):ga584.run (sp32 g,((1:Nat):Int),())=some (alS 1 (sp32 g)):=by kernel_rfl
theorem gaal2(g:Nat->UInt8):ga584.run (sp32 g,((2:Nat):Int),())=some (alS 2 (sp32 g)):=by kernel_rfl
theorem gaal3(g:Nat->UInt8):ga584.run (sp32 g,((3:Nat):Int),())=some (alS 3 (sp32 g)):=by kernel_rfl
theorem gaal4(g:Nat->UInt8):ga584.run (sp32 g,((4:Nat):Int),())=some (alS 4 (sp32 g)):=by kernel_rfl
theorem gaal5(g:Nat->UInt8):ga584.run (sp32 g,((5:Nat):Int),())=some (alS 5 (sp32 g)):=by kernel_rfl
theorem gaal6(g:Nat->UInt8):ga584.run (sp32 g,((6:Nat):Int),())=some (alS 6 (sp32 g)):=by kernel_rfl
theorem gaal7(g:Nat->UInt8):ga584.run (sp32 g,((7:Nat):Int),())=some (alS 7 (sp32 g)):=by kernel_rfl
theorem gaal8(g:Nat->UInt8):ga584.run (sp32 g,((8:Nat):Int),())=some (alS 8 (sp32 g)):=by kernel_rfl
theorem gaal9(g:Nat->UInt8):ga584.run (sp32 g,((9:Nat):Int),())=some (alS 9 (sp32 g)):=by kernel_rfl
theorem gaal10(g:Nat->UInt8):ga584.run (sp32 g,((10:Nat):Int),())=some (alS 10 (sp32 g)):=by kernel_rfl
theorem gaal11(g:Nat->UInt8):ga584.run (sp32 g,((11:Nat):Int),())=some (alS 11 (sp32 g)):=by kernel_rfl
theorem gaal12(g:Nat->UInt8):ga584.run (sp32 g,((12:Nat):Int),())=some (alS 12 (sp32 g)):=by kernel_rfl
theorem gaal13(g:Nat->UInt8):ga584.run (sp32 g,((13:Nat):Int),())=some (alS 13 (sp32 g)):=by kernel_rfl
theorem gaal14(g:Nat->UInt8):ga584.run (sp32 g,((14:Nat):Int),())=some (alS 14 (sp32 g)):=by kernel_rfl
theorem gaal15(g:Nat->UInt8):ga584.run (sp32 g,((15:Nat):Int),())=some (alS 15 (sp32 g)):=by kernel_rfl
theorem gaal(v:Vector UInt8 32): ∀n:Nat,n<=15->ga584.run (v,(n:Int),())=some (alN n v):=by
 intro n hn
 rw[←alS_N,←sp32_eq v]
 match n,hn with
 |0,_=>exact gaal0 _
 |1,_=>exact gaal1 _
 |2,_=>exact gaal2 _
 |3,_=>exact gaal3 _
 |4,_=>exact gaal4 _
 |5,_=>exact gaal5 _
 |6,_=>exact gaal6 _
 |7,_=>exact gaal7 _
 |8,_=>exact gaal8 _
 |9,_=>exact gaal9 _
 |10,_=>exact gaal10 _
 |11,_=>exact gaal11 _
 |12,_=>exact gaal12 _
 |13,_=>exact gaal13 _
 |14,_=>exact gaal14 _
 |15,_=>exact gaal15 _
 |n+16,hn=>omega
theorem raal0(g:Nat->UInt8):ra667.run (sp32 g,((0:Nat):Int),())=some (alS 0 (sp32 g)):=by kernel_rfl
theorem raal1(g:Nat->UInt8):ra667.run (sp32 g,((1:Nat):Int),())=some (alS 1 (sp32 g)):=by kernel_rfl
theorem raal2(g:Nat->UInt8):ra667.run (sp32 g,((2:Nat):Int),())=some (alS 2 (sp32 g)):=by kernel_rfl
theorem raal3(g:Nat->UInt8):ra667.run (sp32 g,((3:Nat):Int),())=some (alS 3 (sp32 g)):=by kernel_rfl
theorem raal4(g:Nat->UInt8):ra667.run (sp32 g,((4:Nat):Int),())=some (alS 4 (sp32 g)):=by kernel_rfl
theorem raal5(g:Nat->UInt8):ra667.run (sp32 g,((5:Nat):Int),())=some (alS 5 (sp32 g)):=by kernel_rfl
theorem raal6(g:Nat->UInt8):ra667.run (sp32 g,((6:Nat):Int),())=some (alS 6 (sp32 g)):=by kernel_rfl
theorem raal7(g:Nat->UInt8):ra667.run (sp32 g,((7:Nat):Int),())=some (alS 7 (sp32 g)):=by kernel_rfl
theorem raal8(g:Nat->UInt8):ra667.run (sp32 g,((8:Nat):Int),())=some (alS 8 (sp32 g)):=by kernel_rfl
theorem raal9(g:Nat->UInt8):ra667.run (sp32 g,((9:Nat):Int),())=some (alS 9 (sp32 g)):=by kernel_rfl
theorem raal10(g:Nat->UInt8):ra667.run (sp32 g,((10:Nat):Int),())=some (alS 10 (sp32 g)):=by kernel_rfl
theorem raal11(g:Nat->UInt8):ra667.run (sp32 g,((11:Nat):Int),())=some (alS 11 (sp32 g)):=by kernel_rfl
theorem raal12(g:Nat->UInt8):ra667.run (sp32 g,((12:Nat):Int),())=some (alS 12 (sp32 g)):=by kernel_rfl
theorem raal13(g:Nat->UInt8):ra667.run (sp32 g,((13:Nat):Int),())=some (alS 13 (sp32 g)):=by kernel_rfl
theorem raal14(g:Nat->UInt8):ra667.run (sp32 g,((14:Nat):Int),())=some (alS 14 (sp32 g)):=by kernel_rfl
theorem raal15(g:Nat->UInt8):ra667.run (sp32 g,((15:Nat):Int),())=some (alS 15 (sp32 g)):=by kernel_rfl
theorem raal(v:Vector UInt8 32): ∀n:Nat,n<=15->ra667.run (v,(n:Int),())=some (alN n v):=by
 intro n hn
 rw[←alS_N,←sp32_eq v]
 match n,hn with
 |0,_=>exact raal0 _
 |1,_=>exact raal1 _
 |2,_=>exact raal2 _
 |3,_=>exact raal3 _
 |4,_=>exact raal4 _
 |5,_=>exact raal5 _
 |6,_=>exact raal6 _
 |7,_=>exact raal7 _
 |8,_=>exact raal8 _
 |9,_=>exact raal9 _
 |10,_=>exact raal10 _
 |11,_=>exact raal11 _
 |12,_=>exact raal12 _
 |13,_=>exact raal13 _
 |14,_=>exact raal14 _
 |15,_=>exact raal15 _
 |n+16,hn=>omega
end Sx
end
