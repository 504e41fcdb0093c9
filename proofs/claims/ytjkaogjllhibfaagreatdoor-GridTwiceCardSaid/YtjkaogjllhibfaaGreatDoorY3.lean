/- The functions that GridTwice calls, by what they come to. No conditions. -/
import Derived.Test.YtjkaogjllhibfaaGreatDoorX7
import Derived.Test.YtjkaogjllhibfaaGreatDoorY
import Derived.Test.YtjkaogjllhibfaaGreatDoorY2
import Derived.Test.YtjkaogjllhibfaaGreatDoorK
set_option linter.unusedVariables false
set_option linter.unusedSimpArgs false
set_option linter.unusedSectionVars false
set_option maxRecDepth 100000
section
open Go Go.Proofs Ev
namespace Sx
noncomputable def shC(s:Vector UInt8 16):Nat->UInt8:=tagL wriB [s.toList]
noncomputable def ixF(k:Vector UInt8 16):Nat->UInt8:=tagL idxB [(shortL reaB [k.toList]).toList]
noncomputable def sloP(SH:Vector UInt8 16->Nat->UInt8)(s:Vector UInt8 16)(fp:Vector UInt8 32):CapG:=(4,sp16 (SH s),fp,0,0,0,[],())
noncomputable def gSlo(SH:Vector UInt8 16->Nat->UInt8):Ev.Spec:=⟨gs544.params,gs544.results,fun x=>some (sloP SH x.1 x.2.1)⟩
theorem kgSlo:FnOk Tryz.prog 19 (gSlo shC):=FnOk.sb kgs544 _ fun x r h=>by
 obtain⟨x0,x1,x2⟩:=x
 cases x2
 refine Eq.trans ?_ h
 have e:=sloR0 (fun i=>x0.toList.getD i 0) x1
 rw[sp16_eq x0]at e
 exact e
noncomputable def gRsl(SH:Vector UInt8 16->Nat->UInt8):Ev.Spec:=⟨gs539.params,gs539.results,fun x=>some (sloP SH x.1 x.2.1)⟩
theorem kgRsl:FnOk Tryz.prog 10 (gRsl shC):=FnOk.sb kgs539 _ fun x r h=>by
 obtain⟨x0,x1,x2⟩:=x
 cases x2
 refine Eq.trans ?_ h
 have e:=rslR0 (fun i=>x0.toList.getD i 0) x1
 rw[sp16_eq x0]at e
 exact e
noncomputable def slotB(c:CapG):Bool:=decide (c.1=(4:Int))&&(decide (c.2.2.2.1=(0:Int))&&(decide (c.2.2.2.2.1=(0:Int))&&(decide (c.2.2.2.2.2.1=(0:Int))&&(c.2.2.2.2.2.2.1:List UInt8).isEmpty)))
theorem slotB_ok{c:CapG}(h:slotB c=true):c=(4,c.2.1,c.2.2.1,0,0,0,[],()):=by
 obtain⟨a,k,f,b,d,e,l,u⟩:=c
 unfold slotB at h
 simp only[Bool.and_eq_true,decide_eq_true_eq,List.isEmpty_iff]at h
 obtain⟨rfl,rfl,rfl,rfl,rfl⟩:=h
 rfl
noncomputable def gIdxR(IX:Vector UInt8 16->Nat->UInt8):InT gs74.params->Option (OutT gs74.results (ioTy gs74.params)):=fun x=>cond (slotB x.1) (some (sp16 (IX x.1.2.1),(0:Int))) none
theorem gIdx_ok(x:InT gs74.params)(r:OutT gs74.results (ioTy gs74.params))(h:gIdxR ixF x=some r):gs74.run x=some r:=by
 obtain⟨c,x2⟩:=x
 cases x2
 unfold gIdxR at h
 have h':=cond_some h
 clear h
 obtain⟨hc,h⟩:=h'
 dsimp only at hc h
 have hc':=slotB_ok hc
 refine Eq.trans ?_ h
 have e:=idxR0 (fun i=>c.2.1.toList.getD i 0) c.2.2.1
 rw[sp16_eq c.2.1]at e
 rw[←hc']at e
 exact e
noncomputable def gIdx(IX:Vector UInt8 16->Nat->UInt8):Ev.Spec:=⟨gs74.params,gs74.results,gIdxR IX⟩
theorem kgIdx:FnOk Tryz.prog 21 (gIdx ixF):=FnOk.sb kgs74 (gIdxR ixF) gIdx_ok
noncomputable def gRixR(IX:Vector UInt8 16->Nat->UInt8):InT gs541.params->Option (OutT gs541.results (ioTy gs541.params)):=fun x=>cond (slotB x.1) (some (sp16 (IX x.1.2.1),(0:Int))) none
theorem gRix_ok(x:InT gs541.params)(r:OutT gs541.results (ioTy gs541.params))(h:gRixR ixF x=some r):gs541.run x=some r:=by
 obtain⟨c,x2⟩:=x
 cases x2
 unfold gRixR at h
 have h':=cond_some h
 clear h
 obtain⟨hc,h⟩:=h'
 dsimp only at hc h
 have hc':=slotB_ok hc
 refine Eq.trans ?_ h
 have e:=rixR0 (fun i=>c.2.1.toList.getD i 0) c.2.2.1
 rw[sp16_eq c.2.1]at e
 rw[←hc']at e
 exact e
noncomputable def gRix(IX:Vector UInt8 16->Nat->UInt8):Ev.Spec:=⟨gs541.params,gs541.results,gRixR IX⟩
theorem kgRix:FnOk Tryz.prog 12 (gRix ixF):=FnOk.sb kgs541 (gRixR ixF) gRix_ok
noncomputable def priO(s:Vector UInt8 16)(n:Int):Option (Vector UInt8 32×Int):=gq543.run (s,n,())
noncomputable def printC(s:Vector UInt8 16)(n:Int):Vector UInt8 32:=((priO s n).getD (Vector.replicate 32 0,0)).1
theorem pri_of{s:Vector UInt8 16}{n:Int}(h:(priO s n).map (fun r=>r.2)=some 0):priO s n=some (printC s n,0):=by
 unfold printC
 cases e:priO s n with
 |none=>rw[e]at h;cases h
 |some r=>
  rw[e]at h
  obtain⟨a,b⟩:=r
  injection h with h
  subst h;rfl
theorem priO_0(s:Vector UInt8 16):priO s 0=some (printC s 0,0):=pri_of (by rw[←sp16_eq s];exact pri0 _)
theorem priO_1(s:Vector UInt8 16):priO s 1=some (printC s 1,0):=pri_of (by rw[←sp16_eq s];exact pri1 _)
noncomputable def gPriR(PC:Vector UInt8 16->Int->Nat->UInt8):InT gq543.params->Option (OutT gq543.results (ioTy gq543.params)):=fun x=>cond (decide (x.2.1=(0:Int))||decide (x.2.1=(1:Int))) (some (sp32 (PC x.1 x.2.1),(0:Int))) (cond (decide (x.2.1=(5:Int))||decide (x.2.1=(-1:Int))) (some (Vector.replicate 32 0,(1:Int))) none)
noncomputable def printF(s:Vector UInt8 16)(n:Int)(i:Nat):UInt8:=(printC s n).toList.getD i 0
theorem printF_eq(s:Vector UInt8 16)(n:Int):sp32 (printF s n)=printC s n:=sp32_eq _
theorem gPri_ok(x:InT gq543.params)(r:OutT gq543.results (ioTy gq543.params))(h:gPriR printF x=some r):gq543.run x=some r:=by
 obtain⟨s,n,x2⟩:=x
 cases x2
 unfold gPriR at h
 dsimp only at h
 cases hc:(decide (n=(0:Int))||decide (n=(1:Int)))with
 |true=>
  rw[hc]at h
  rw[Bool.or_eq_true,decide_eq_true_eq,decide_eq_true_eq]at hc
  refine Eq.trans ?_ h
  show priO s n=_
  rcases hc with hc|hc
  ·subst hc;rw[printF_eq];exact priO_0 s
  ·subst hc;rw[printF_eq];exact priO_1 s
 |false=>
  rw[hc]at h
  have h':=cond_some (show cond _ _ _=_ from h)
  clear h
  obtain⟨hd,h⟩:=h'
  rw[Bool.or_eq_true,decide_eq_true_eq,decide_eq_true_eq]at hd
  refine Eq.trans ?_ h
  rcases hd with hd|hd
  ·subst hd;exact pri5 s
  ·subst hd;exact prim s
noncomputable def gPri(PC:Vector UInt8 16->Int->Nat->UInt8):Ev.Spec:=⟨gq543.params,gq543.results,gPriR PC⟩
theorem kgPri:FnOk Tryz.prog 18 (gPri printF):=FnOk.sb kgq543 (gPriR printF) gPri_ok
noncomputable def witC(v:Int):Int:=(s6.run (v,(2:Int),())).getD (0:Int)
noncomputable def gWitR(W:Int->Int):InT s6.params->Option (OutT s6.results (ioTy s6.params)):=fun x=>cond (decide (x.2.1=(2:Int))) (some (W x.1)) none
theorem wit_ok(v:Int):s6.run (v,(2:Int),())=some (witC v)∧(witC v=0∨witC v=1):=by
 obtain⟨k,hk,e⟩:=Mx.p6 v 2 (by omega) (by omega)
 have e':s6.run (v,(2:Int),())=some (k:Int):=e
 unfold witC
 rw[e']
 refine⟨rfl,?_⟩
 show(k:Int)=0∨(k:Int)=1
 omega
theorem gWit_ok(x:InT s6.params)(r:OutT s6.results (ioTy s6.params))(h:gWitR witC x=some r):s6.run x=some r:=by
 obtain⟨v,n,x2⟩:=x
 cases x2
 unfold gWitR at h
 have h':=cond_some h
 clear h
 obtain⟨hc,h⟩:=h'
 dsimp only at hc h
 rw[decide_eq_true_eq]at hc
 subst hc
 refine Eq.trans ?_ h
 exact(wit_ok v).1
noncomputable def gWit(W:Int->Int):Ev.Spec:=⟨s6.params,s6.results,gWitR W⟩
theorem kgWit:FnOk Tryz.prog 6 (gWit witC):=FnOk.sb k6 (gWitR witC) gWit_ok
theorem nam0(g:Nat->UInt8):s547.run (sp16 g,())=some (107::(sp16 g).toList):=by kernel_rfl
noncomputable def gNamR:InT s547.params->Option (OutT s547.results (ioTy s547.params)):=fun x=>some ((107:UInt8)::Vector.toList (α:=UInt8) (n:=16) x.1)
theorem gNam_ok(x:InT s547.params)(r:OutT s547.results (ioTy s547.params))(h:gNamR x=some r):s547.run x=some r:=by
 obtain⟨x0,x1⟩:=x
 cases x1
 refine Eq.trans ?_ h
 have e:=nam0 (fun i=>Vector.toList (α:=UInt8) (n:=16) x0|>.getD i 0)
 rw[sp16_eq x0]at e
 exact e
noncomputable def gNam:Ev.Spec:=⟨s547.params,s547.results,gNamR⟩
theorem kgNam:FnOk Tryz.prog 23 gNam:=FnOk.sb k547 gNamR gNam_ok
noncomputable def hIF(v:Bool):List (Nat×Hint):=[(6, .rounds (List.replicate 3 [(19, .must v)]))]
noncomputable def hFD(v:Bool):List (Nat×Hint):=[(13, .inl 5 53 (hIF v))]
noncomputable def hKL:List (Nat×Hint):=[(1, .inr 8 12 92 [])]
noncomputable def hKO:List (Nat×Hint):=[(15, .inl 1 56 hKL)]
noncomputable def hCR(v:Bool):List (Nat×Hint):=[(16, .inl 2 20 (hFD v)),(25, .inr 8 24 22 hKO),(35, .inr 5 8 24 [])]
noncomputable def hMK(v:Bool):List (Nat×Hint):=[(3, .inl 3 7 (hCR v))]
noncomputable def hLF(v:Bool):List (Nat×Hint):=[(3, .inl 2 20 (hFD v)),(13, .inl 8 26 [(3, .inl 1 56 hKL)])]
noncomputable def hWR(v:Bool):List (Nat×Hint):=[(11, .inl 2 20 (hFD v))]
noncomputable def hGT:List (Nat×Hint):=[(15, .pick 2 2),(3, .inl 0 4 hI534),(6, .inl 8 5 []),(15, .inl 3 7 (hCR true)),(17, .inl 4 7 (hCR true)),(19, .inl 3 8 (hMK true)),(21, .inl 2 7 (hCR true)),(23, .inl 2 7 (hCR true)),(26, .inl 21 9 (hLF true)),(55, .inl 2 13 (hWR false)),(55, .inl 7 9 (hLF false)),(55, .inl 12 5 [])]
noncomputable def gSP(W:Int->Int)(SH IX:Vector UInt8 16->Nat->UInt8)(PC:Vector UInt8 16->Int->Nat->UInt8):List (FuncId×Ev.Spec):=[(6,gWit W),(40,s71),(21,gIdx IX),(35,s89),(93,s93),(16,sl106),(17,sl107),(42,s131),(43,s132),(45,s134),(46,s135),(82,s173),(32,s175),(34,s176),(125,s193),(14,s420),(5,s535),(10,gRsl SH),(11,s540),(12,gRix IX),(18,gPri PC),(19,gSlo SH),(20,s545),(23,gNam),(24,s548),(25,s549),(33,s553),(37,s555),(38,s556),(53,s561),(54,s562)]
noncomputable def cG(W:Int->Int)(SH IX:Vector UInt8 16->Nat->UInt8)(PC:Vector UInt8 16->Int->Nat->UInt8):Ctx:=mkC tys cells maps (gSP W SH IX PC) [88,153,99,95,221,250,83,97,101,173,219,188,143,216,141,55,68,52,122,53,115,253] [(53,Tryz.f53),(20,Tryz.f20),(7,Tryz.f7),(8,Tryz.f8),(9,Tryz.f9),(13,Tryz.f13),(22,Tryz.f22),(56,Tryz.f56),(26,Tryz.f26),(92,Tryz.f92),(24,Tryz.f24),(5,Tryz.f5),(16,Tryz.f16),(81,Tryz.f81),(44,Tryz.f44),(17,Tryz.f17),(80,Tryz.f80),(41,Tryz.f41),(15,Tryz.f15),(4,Tryz.f4)] cxA
noncomputable def gRun(W:Int->Int)(SH IX:Vector UInt8 16->Nat->UInt8)(PC:Vector UInt8 16->Int->Nat->UInt8)(x:InT P533):Option Bool:=evF (cG W SH IX PC) Tryz.f3 hGT P533 R533 x
end Sx
end
