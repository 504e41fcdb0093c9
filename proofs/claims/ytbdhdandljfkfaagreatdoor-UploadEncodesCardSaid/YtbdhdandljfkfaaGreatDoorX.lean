/- A world is made and a file is put: the run comes to true, as the code's contract. No conditions. -/
import Derived.Test.YtbdhdandljfkfaaGreatDoorH
import Derived.Test.YtbdhdandljfkfaaGreatDoorP
set_option linter.unusedVariables false
set_option linter.unusedSimpArgs false
set_option linter.unusedSectionVars false
set_option maxRecDepth 100000
section
open Go Go.Proofs Ev
namespace Sx
theorem FnOk.sub{P:Program}{f:FuncId}{ps:List PK}{rs:List RK}{run run':InT ps->Option (OutT rs (ioTy ps))}(h:FnOk P f ⟨ps,rs,run⟩)(hr: ∀x r,run' x=some r->run x=some r):FnOk P f ⟨ps,rs,run'⟩:=⟨h.1,fun w M x vs a b c d e r q=>h.2 w M x vs a b c d e r (hr x r q)⟩
theorem FnOk.tt{P:Program}{f:FuncId}{run:Unit->Option Bool}(h:FnOk P f ⟨[],[.v .bool],run⟩)(e:run ()=some true):FnOk P f ⟨[],[.v .bool],fun _=>some true⟩:=FnOk.sub h fun x r q=>by cases x;exact e.trans q
noncomputable def sx90:Ev.Spec:=⟨P90,R90,fun x=>cond (decide ((x.1:List UInt8).length<100000)&&(x.2.1:List (List UInt8)).all (fun b=>decide (b.length<100000))&&decide ((x.2.1:List (List UInt8)).length<=1000)) (some (Mx.tagged x.1 x.2.1)) none⟩
theorem kx90:FnOk Tryz.prog 44 sx90:=FnOk.sub (run:=s90.run) k90 fun x r h=>by
 obtain⟨hc,h⟩:=cond_some h
 simp only[Bool.and_eq_true,decide_eq_true_eq,List.all_eq_true]at hc
 refine Eq.trans ?_ h
 have e:=Mx.p90 x.1 x.2.1 ⟨hc.1.2,hc.2⟩ hc.1.1
 unfold Mx.f90 r90 at e
 exact e
abbrev CapT:=Int×Vector UInt8 16×Vector UInt8 32×Int×Int×Int×List UInt8×Unit
noncomputable def capEq(a b:CapT):Bool:= @decide (a=b) (decV (.pair .i64 (.pair (.arr 16 .u8) (.pair (.arr 32 .u8) (.pair .i64 (.pair .i64 (.pair .i64 (.pair (.sl .u8) .unit))))))) a b)
noncomputable def wKey:Vector UInt8 16:=vecOf 16 [1,0,0,0,0,0,0,0,0,0,0,0,0,0,0,0] 0
noncomputable def wUeb:List UInt8:=[49,58,1,44,49,58,1,44,52,58,0,0,0,3,44,52,58,0,0,0,64,44,51,50,58,9,127,108,231,108,117,117,37,35,78,173,204,113,48,227,88,95,185,110,102,163,88,39,56,63,116,98,71,237,156,220,39,44,51,50,58,9,127,108,231,108,117,117,37,35,78,173,204,113,48,227,88,95,185,110,102,163,88,39,56,63,116,98,71,237,156,220,39,44]
noncomputable def wFp:Vector UInt8 32:=vecOf 32 [241,2,248,215,253,92,90,94,38,120,96,5,242,80,87,69,157,97,126,159,68,0,8,2,154,17,70,91,168,56,133,228] 0
noncomputable def wCap:CapT:=(1,wKey,wFp,1,1,3,[],())
noncomputable def wIdx:Vector UInt8 16:=vecOf 16 [156,74,150,21,59,152,228,75,155,52,122,133,215,220,131,120] 0
noncomputable def wSec:Vector UInt8 16:=vecOf 16 [176,245,214,222,210,67,239,67,190,176,37,48,17,57,46,230] 0
noncomputable def wSh:List (Int×List UInt8×List (Vector UInt8 32)×List (List UInt8)×Unit):=[(0,wUeb,[],[[189,108,187]],())]
theorem w1:Mx.stream wKey [97,98,99]=[189,108,187]:=by kernel_rfl
theorem w2:Mx.uebC wKey [97,98,99] 1 1=wUeb:=by kernel_rfl
theorem w3:Mx.uebH wUeb=wFp:=by kernel_rfl
theorem w4:Mx.shS wUeb 1 1 [189,108,187]=wSh:=by kernel_rfl
noncomputable def sl19:Ev.Spec:=⟨P19,R19,fun x=>if(x.1:Vector UInt8 16)=wKey∧(x.2.1:List UInt8)=[97,98,99]∧x.2.2.1=(1:Int)∧x.2.2.2.1=(1:Int)then some (wCap,wSh,(0:Int))else none⟩
theorem kl19:FnOk Tryz.prog 6 sl19:=FnOk.sub (run:=s19.run) k19 fun x r h=>by
 obtain⟨x0,x1,x2,x3,x4⟩:=x
 dsimp only at h
 split at h
 case isFalse=>cases h
 rename_i hc
 obtain⟨h1,h2,h3,h4⟩:=hc
 subst h1 h2 h3 h4
 have e:=Mx.p19 (k:=1) (n:=1) (b:=[97,98,99]) wKey (by omega) (by omega) (by omega) (by simp) (by simp)
 have e2:Mx.capC wKey [97,98,99] 1 1=wCap:=by unfold Mx.capC;rw[w2,w3];rfl
 rw[e2,w2,w1,w4]at e
 unfold Mx.f19 r19 at e
 exact e.trans h
noncomputable def cx176:Ctx:=mkC tys cells maps [(44,sx90)] [] []
noncomputable def sx176:Ev.Spec:=mkS cx176 Tryz.f27 h176 P176 R176
theorem kx176:FnOk Tryz.prog 27 sx176:=fn_okS (C:=cx176) (hs:=h176) (ps:=P176) (rs:=R176) (specs:=[(44,sx90)]) (dyns:=[]) (codes:=[]) rfl hm hT ⟨kx90,trivial⟩ trivial (by kernel_rfl) Tryz.func27 (by kernel_rfl)
noncomputable def cx139:Ctx:=mkC tys cells maps [(27,sx176)] [] []
noncomputable def sx139:Ev.Spec:=mkS cx139 Tryz.f141 h139 P139 R139
theorem kx139:FnOk Tryz.prog 141 sx139:=fn_okS (C:=cx139) (hs:=h139) (ps:=P139) (rs:=R139) (specs:=[(27,sx176)]) (dyns:=[]) (codes:=[]) rfl hm hT ⟨kx176,trivial⟩ trivial (by kernel_rfl) Tryz.func141 (by kernel_rfl)
noncomputable def cx138:Ctx:=mkC tys cells maps [(139,s137),(141,sx139),(175,s175)] [] []
noncomputable def sx138:Ev.Spec:=mkS cx138 Tryz.f140 h138 P138 R138
theorem kx138:FnOk Tryz.prog 140 sx138:=fn_okS (C:=cx138) (hs:=h138) (ps:=P138) (rs:=R138) (specs:=[(139,s137),(141,sx139),(175,s175)]) (dyns:=[]) (codes:=[]) rfl hm hT ⟨k137,kx139,k175,trivial⟩ trivial (by kernel_rfl) Tryz.func140 (by kernel_rfl)
noncomputable def cx109:Ctx:=mkC tys cells maps [(138,s136),(139,s137),(140,sx138),(141,sx139)] [] []
noncomputable def sx109:Ev.Spec:=mkS cx109 Tryz.f93 h109 P109 R109
theorem kx109:FnOk Tryz.prog 93 sx109:=fn_okS (C:=cx109) (hs:=h109) (ps:=P109) (rs:=R109) (specs:=[(138,s136),(139,s137),(140,sx138),(141,sx139)]) (dyns:=[]) (codes:=[]) rfl hm hT ⟨k136,k137,kx138,kx139,trivial⟩ trivial (by kernel_rfl) Tryz.func93 (by kernel_rfl)
noncomputable def cx74:Ctx:=mkC tys cells maps [(93,sx109)] [] []
noncomputable def sx74:Ev.Spec:=mkS cx74 Tryz.f61 h74 P74 R74
theorem kx74:FnOk Tryz.prog 61 sx74:=fn_okS (C:=cx74) (hs:=h74) (ps:=P74) (rs:=R74) (specs:=[(93,sx109)]) (dyns:=[]) (codes:=[]) rfl hm hT ⟨kx109,trivial⟩ trivial (by kernel_rfl) Tryz.func61 (by kernel_rfl)
theorem v74:sx74.run (wCap,())=some (wIdx,(0:Int)):=by kernel_rfl
noncomputable def sl74:Ev.Spec:=⟨P74,R74,fun x=>if capEq x.1 wCap=true then some (wIdx,(0:Int))else none⟩
theorem kl74:FnOk Tryz.prog 61 sl74:=FnOk.sub (run:=sx74.run) kx74 fun x r h=>by
 obtain⟨y0,y1⟩:=x
 dsimp only at h
 split at h
 case isFalse=>cases h
 rename_i hc
 have hc:y0=wCap:= @of_decide_eq_true _ (decV _ _ _) hc
 subst hc
 exact v74.trans h
noncomputable def cx483:Ctx:=mkC tys cells maps [(28,s89),(44,sx90),(145,s424)] [212] [(187,Tryz.f187),(144,Tryz.f144),(188,Tryz.f188),(364,Tryz.f364),(362,Tryz.f362),(146,Tryz.f146),(363,Tryz.f363)] cxA
noncomputable def sx483:Ev.Spec:=mkS cx483 Tryz.f95 h483 P483 R483
theorem kx483:FnOk Tryz.prog 95 sx483:=fn_okSX (C:=cx483) (hs:=h483) (ps:=P483) (rs:=R483) (specs:=[(28,s89),(44,sx90),(145,s424)]) (dyns:=[212]) (codes:=[(187,Tryz.f187),(144,Tryz.f144),(188,Tryz.f188),(364,Tryz.f364),(362,Tryz.f362),(146,Tryz.f146),(363,Tryz.f363)]) (x:=cxA) rfl hm hT cxOk ⟨k89,kx90,k424,trivial⟩ ⟨Tryz.func187,Tryz.func144,Tryz.func188,Tryz.func364,Tryz.func362,Tryz.func146,Tryz.func363,trivial⟩ (by kernel_rfl) Tryz.func95 (by kernel_rfl)
theorem v483:sx483.run (1,wIdx,())=some ([0]:List Int):=by kernel_rfl
noncomputable def sl483:Ev.Spec:=⟨P483,R483,fun x=>if x.1=(1:Int)∧(x.2.1:Vector UInt8 16)=wIdx then some ([0]:List Int)else none⟩
theorem kl483:FnOk Tryz.prog 95 sl483:=FnOk.sub (run:=sx483.run) kx483 fun x r h=>by
 obtain⟨y0,y1,y2⟩:=x
 dsimp only at h
 split at h
 case isFalse=>cases h
 rename_i hc
 obtain⟨h1,h2⟩:=hc
 subst h1 h2
 exact v483.trans h
noncomputable def cx466:Ctx:=mkC tys cells maps [(28,s89),(27,sx176)] [] []
noncomputable def sx466:Ev.Spec:=mkS cx466 Tryz.f147 h466 P466 R466
theorem kx466:FnOk Tryz.prog 147 sx466:=fn_okS (C:=cx466) (hs:=h466) (ps:=P466) (rs:=R466) (specs:=[(28,s89),(27,sx176)]) (dyns:=[]) (codes:=[]) rfl hm hT ⟨k89,kx176,trivial⟩ trivial (by kernel_rfl) Tryz.func147 (by kernel_rfl)
theorem v466:sx466.run (Vector.replicate 16 0,wIdx,0,())=some wSec:=by kernel_rfl
noncomputable def sl466:Ev.Spec:=⟨P466,R466,fun x=>if(x.1:Vector UInt8 16)=Vector.replicate 16 0∧(x.2.1:Vector UInt8 16)=wIdx∧x.2.2.1=(0:Int)then some wSec else none⟩
theorem kl466:FnOk Tryz.prog 147 sl466:=FnOk.sub (run:=sx466.run) kx466 fun x r h=>by
 obtain⟨y0,y1,y2,y3⟩:=x
 dsimp only at h
 split at h
 case isFalse=>cases h
 rename_i hc
 obtain⟨h1,h2,h3⟩:=hc
 subst h1 h2 h3
 exact v466.trans h
noncomputable def hI421:List (Nat×Hint):=[]
noncomputable def hI144(g:FuncId)(h:List (Nat×Hint)):List (Nat×Hint):=[(21, .inl 3 g h)]
noncomputable def hI419(g:FuncId)(h:List (Nat×Hint)):List (Nat×Hint):=[(13, .inl 1 178 hI421),(39, .inl 2 182 (hI144 g h)),(54, .inl 2 182 (hI144 g h)),(61, .inl 2 182 (hI144 g h))]
noncomputable def hI143:List (Nat×Hint):=[]
noncomputable def hI230:List (Nat×Hint):=[(15, .inr 8 12 144 (hI248 366))]
noncomputable def hI214:List (Nat×Hint):=[(3, .inl 4 277 hI143),(15, .inl 8 250 hI230)]
noncomputable def hI174:List (Nat×Hint):=[]
noncomputable def hI236:List (Nat×Hint):=[(3, .inl 6 174 hI174)]
noncomputable def hI215:List (Nat×Hint):=[(6, .rounds (List.replicate 34 [])),(52, .rounds (List.replicate 34 [(65, .inl 8 293 hI236)])),(77, .inl 3 293 hI236)]
noncomputable def hI223:List (Nat×Hint):=[(9, .inr 9 40 270 hI215)]
noncomputable def hI216:List (Nat×Hint):=[(3, .inl 4 277 hI143),(6, .inl 8 250 hI230),(13, .inl 4 278 hI223)]
noncomputable def hI213:List (Nat×Hint):=[]
noncomputable def hI197:List (Nat×Hint):=[(15, .inl 5 215 hI213),(18, .inl 6 269 hI214),(31, .inr 7 40 270 hI215),(41, .inl 2 271 hI216)]
noncomputable def hI416:List (Nat×Hint):=[(3, .inr 30 160 142 (hI419 238 hI197))]
noncomputable def hI417:List (Nat×Hint):=[]
noncomputable def hI415:List (Nat×Hint):=[]
noncomputable def hI209:List (Nat×Hint):=[(8, .rounds (List.replicate 34 [(20, .inr 7 12 215 hI213)]))]
noncomputable def hI196:List (Nat×Hint):=[(3, .inl 3 265 hI209)]
noncomputable def hI486:List (Nat×Hint):=[(8, .rounds (List.replicate 34 [(20, .inl 4 142 (hI419 237 hI196)),(24, .rounds (List.replicate 34 [(40, .inl 4 99 hI415)]))]))]
noncomputable def hI488:List (Nat×Hint):=[(3, .inr 7 12 94 hI486),(12, .rounds (List.replicate 34 [(25, .inl 3 98 hI417),(32, .rounds (List.replicate 34 [(46, .inl 3 97 hI416),(49, .inl 4 99 hI415)]))]))]
noncomputable def hI487:List (Nat×Hint):=[(22, .inl 7 62 hI488)]
noncomputable def hI106:List (Nat×Hint):=[]
noncomputable def hI172:List (Nat×Hint):=[]
noncomputable def hI133:List (Nat×Hint):=[(3, .inr 11 12 172 hI172),(18, .rounds (List.replicate 33 [(30, .inr 14 12 172 hI172)]))]
noncomputable def hI107:List (Nat×Hint):=[(16, .rounds (List.replicate 9 [(28, .inl 2 135 hI133)])),(43, .rounds (List.replicate 9 []))]
noncomputable def hI108:List (Nat×Hint):=[]
noncomputable def hI72:List (Nat×Hint):=[(11, .inl 4 90 hI106),(21, .inl 3 91 hI107),(31, .inl 4 92 hI108)]
noncomputable def hI34:List (Nat×Hint):=[(14, .rounds (List.replicate 34 [])),(39, .rounds (List.replicate 34 [(51, .inl 2 60 hI72)]))]
noncomputable def hI439:List (Nat×Hint):=[(3, .inl 0 31 hI34),(13, .inl 5 32 hI487)]
noncomputable def cx439:Ctx:=mkC tys cells maps [(6,sl19),(31,s34),(59,s71),(60,s72),(96,s73),(61,sl74),(90,s106),(91,s107),(92,s108),(143,s113),(63,s114),(133,s131),(134,s132),(135,s133),(136,s134),(137,s135),(177,s140),(182,s144),(172,s172),(173,s173),(174,s174),(180,s177),(208,s178),(209,s179),(202,s193),(265,s209),(266,s210),(267,s211),(268,s212),(215,s213),(290,s231),(291,s232),(216,s233),(251,s234),(292,s235),(249,s240),(252,s242),(280,s247),(358,s304),(98,s417),(150,s418),(147,sl466),(148,s473),(176,s478),(183,s479),(181,s480),(64,s482),(95,sl483),(149,s495),(151,s497)] [97,136,185,182,195,141,93,183,187,103,193,205,200,207,198] [(178,Tryz.f178),(182,Tryz.f182),(142,Tryz.f142),(277,Tryz.f277),(187,Tryz.f187),(144,Tryz.f144),(366,Tryz.f366),(250,Tryz.f250),(269,Tryz.f269),(174,Tryz.f174),(293,Tryz.f293),(270,Tryz.f270),(278,Tryz.f278),(271,Tryz.f271),(215,Tryz.f215),(238,Tryz.f238),(97,Tryz.f97),(98,Tryz.f98),(99,Tryz.f99),(265,Tryz.f265),(237,Tryz.f237),(94,Tryz.f94),(62,Tryz.f62),(32,Tryz.f32),(90,Tryz.f90),(172,Tryz.f172),(135,Tryz.f135),(91,Tryz.f91),(92,Tryz.f92),(60,Tryz.f60),(31,Tryz.f31)] cxA
noncomputable def run439:Unit->Option Bool:=fun x=>evF cx439 Tryz.f13 hI439 P439 R439 x
noncomputable def sx439:Ev.Spec:=⟨P439,R439,run439⟩
theorem kx439:FnOk Tryz.prog 13 sx439:=fn_okSX (C:=cx439) (hs:=hI439) (ps:=P439) (rs:=R439) (specs:=[(6,sl19),(31,s34),(59,s71),(60,s72),(96,s73),(61,sl74),(90,s106),(91,s107),(92,s108),(143,s113),(63,s114),(133,s131),(134,s132),(135,s133),(136,s134),(137,s135),(177,s140),(182,s144),(172,s172),(173,s173),(174,s174),(180,s177),(208,s178),(209,s179),(202,s193),(265,s209),(266,s210),(267,s211),(268,s212),(215,s213),(290,s231),(291,s232),(216,s233),(251,s234),(292,s235),(249,s240),(252,s242),(280,s247),(358,s304),(98,s417),(150,s418),(147,sl466),(148,s473),(176,s478),(183,s479),(181,s480),(64,s482),(95,sl483),(149,s495),(151,s497)]) (dyns:=[97,136,185,182,195,141,93,183,187,103,193,205,200,207,198]) (codes:=[(178,Tryz.f178),(182,Tryz.f182),(142,Tryz.f142),(277,Tryz.f277),(187,Tryz.f187),(144,Tryz.f144),(366,Tryz.f366),(250,Tryz.f250),(269,Tryz.f269),(174,Tryz.f174),(293,Tryz.f293),(270,Tryz.f270),(278,Tryz.f278),(271,Tryz.f271),(215,Tryz.f215),(238,Tryz.f238),(97,Tryz.f97),(98,Tryz.f98),(99,Tryz.f99),(265,Tryz.f265),(237,Tryz.f237),(94,Tryz.f94),(62,Tryz.f62),(32,Tryz.f32),(90,Tryz.f90),(172,Tryz.f172),(135,Tryz.f135),(91,Tryz.f91),(92,Tryz.f92),(60,Tryz.f60),(31,Tryz.f31)]) (x:=cxA) rfl hm hT cxOk ⟨kl19,k34,k71,k72,k73,kl74,k106,k107,k108,k113,k114,k131,k132,k133,k134,k135,k140,k144,k172,k173,k174,k177,k178,k179,k193,k209,k210,k211,k212,k213,k231,k232,k233,k234,k235,k240,k242,k247,k304,k417,k418,kl466,k473,k478,k479,k480,k482,kl483,k495,k497,trivial⟩ ⟨Tryz.func178,Tryz.func182,Tryz.func142,Tryz.func277,Tryz.func187,Tryz.func144,Tryz.func366,Tryz.func250,Tryz.func269,Tryz.func174,Tryz.func293,Tryz.func270,Tryz.func278,Tryz.func271,Tryz.func215,Tryz.func238,Tryz.func97,Tryz.func98,Tryz.func99,Tryz.func265,Tryz.func237,Tryz.func94,Tryz.func62,Tryz.func32,Tryz.func90,Tryz.func172,Tryz.func135,Tryz.func91,Tryz.func92,Tryz.func60,Tryz.func31,trivial⟩ (by kernel_rfl) Tryz.func13 (by kernel_rfl)
theorem wkx:run439 ()=some true:=by kernel_rfl
theorem k439:FnOk Tryz.prog 13 s439:=FnOk.tt (run:=run439) kx439 wkx
end Sx
end
section
open Go Go.Proofs Ev
namespace Sx
theorem k436:FnOk Tryz.prog 3 s436:=fn_okS (C:=c436) (hs:=h436) (ps:=P436) (rs:=R436) (specs:=[(4,s5),(7,s7),(6,s19),(8,s427),(10,s430),(5,s431),(9,s435),(13,s439),(12,s462),(11,s485)]) (dyns:=[]) (codes:=[(5,Tryz.f5),(10,Tryz.f10)]) rfl hm hT ⟨k5,k7,k19,k427,k430,k431,k435,k439,k462,k485,trivial⟩ ⟨Tryz.func5,Tryz.func10,trivial⟩ (by kernel_rfl) Tryz.func3 (by kernel_rfl)
end Sx
end
