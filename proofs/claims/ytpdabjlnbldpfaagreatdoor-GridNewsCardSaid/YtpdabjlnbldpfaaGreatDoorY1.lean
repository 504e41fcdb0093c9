/- A store on a disk of noughts is opened, whatever its room; which servers the code makes. No conditions. -/
import Derived.Test.YtpdabjlnbldpfaaGreatDoorY
set_option linter.unusedVariables false
set_option linter.unusedSimpArgs false
set_option linter.unusedSectionVars false
set_option maxRecDepth 100000
section
open Go Go.Proofs Ev
namespace Sx
noncomputable def rec0:Bool×List UInt8×Int×List UInt8×Unit:=(false,[],0,[],())
noncomputable def zT(KR:InT P172->Option (OutT R172 (ioTy P172)))(d:Val ((.pair (.sl (.arr 32 .u8)) (.pair .bool (.pair .bool (.pair .i64 (.pair .i64 (.pair .i64 .unit))))))))(r:Int)(s:Nat):Nat->Nat->Option (OutT R107 (ioTy P107))
 |0,_=>some (some (some d,r,List.replicate s rec0,false,()),(0:Int))
 |f+1,i=>(KR (d,mulI (i:Int) (addI r 1),())).bind fun q=>(bif neI q.2 0 then some true else(at? (q.1:List UInt8) 0).bind fun(y:UInt8)=>some (decide (y≠1))).bind fun b=>bif b then(bif neI q.2 0 then some (none,q.2)else zT KR d r s f (i+1))else none
noncomputable def stT(KI:InT P131->Option (OutT R131 (ioTy P131)))(KL:InT P132->Option (OutT R132 (ioTy P132)))(KR:InT P172->Option (OutT R172 (ioTy P172)))(d:Val ((.pair (.sl (.arr 32 .u8)) (.pair .bool (.pair .bool (.pair .i64 (.pair .i64 (.pair .i64 .unit))))))))(r:Int)(s:Nat):Option (OutT R107 (ioTy P107)):=((KI ((s:Int),())).bind fun a=>bif !a then some true else(KI (r,())).bind fun b=>bif !b then some true else(KL (d,())).bind fun c=>some (neI c (mulI (s:Int) (addI r 1)))).bind fun x=>bif x then none else zT KR d r s s 0
theorem stO_1(KI KL KR d)(r:Int):stOQ KI KL KR (some d,(1:Int),r,())=stT KI KL KR d r 1:=by kernel_rfl
theorem stO_2(KI KL KR d)(r:Int):stOQ KI KL KR (some d,(2:Int),r,())=stT KI KL KR d r 2:=by kernel_rfl
theorem stO_3(KI KL KR d)(r:Int):stOQ KI KL KR (some d,(3:Int),r,())=stT KI KL KR d r 3:=by kernel_rfl
theorem stO_4(KI KL KR d)(r:Int):stOQ KI KL KR (some d,(4:Int),r,())=stT KI KL KR d r 4:=by kernel_rfl
theorem stO_5(KI KL KR d)(r:Int):stOQ KI KL KR (some d,(5:Int),r,())=stT KI KL KR d r 5:=by kernel_rfl
theorem stO_6(KI KL KR d)(r:Int):stOQ KI KL KR (some d,(6:Int),r,())=stT KI KL KR d r 6:=by kernel_rfl
theorem stO_7(KI KL KR d)(r:Int):stOQ KI KL KR (some d,(7:Int),r,())=stT KI KL KR d r 7:=by kernel_rfl
theorem stO_8(KI KL KR d)(r:Int):stOQ KI KL KR (some d,(8:Int),r,())=stT KI KL KR d r 8:=by kernel_rfl
theorem stO_9(KI KL KR d)(r:Int):stOQ KI KL KR (some d,(9:Int),r,())=stT KI KL KR d r 9:=by kernel_rfl
theorem stO_10(KI KL KR d)(r:Int):stOQ KI KL KR (some d,(10:Int),r,())=stT KI KL KR d r 10:=by kernel_rfl
theorem stO_11(KI KL KR d)(r:Int):stOQ KI KL KR (some d,(11:Int),r,())=stT KI KL KR d r 11:=by kernel_rfl
theorem stO_12(KI KL KR d)(r:Int):stOQ KI KL KR (some d,(12:Int),r,())=stT KI KL KR d r 12:=by kernel_rfl
theorem stO_k(KI KL KR d)(r:Int)(k:Nat)(h0:k≠0)(h:k<13):stOQ KI KL KR (some d,(k:Int),r,())=stT KI KL KR d r k:=by
 match k,h0,h with
 |1,_,_=>exact stO_1 KI KL KR d r
 |2,_,_=>exact stO_2 KI KL KR d r
 |3,_,_=>exact stO_3 KI KL KR d r
 |4,_,_=>exact stO_4 KI KL KR d r
 |5,_,_=>exact stO_5 KI KL KR d r
 |6,_,_=>exact stO_6 KI KL KR d r
 |7,_,_=>exact stO_7 KI KL KR d r
 |8,_,_=>exact stO_8 KI KL KR d r
 |9,_,_=>exact stO_9 KI KL KR d r
 |10,_,_=>exact stO_10 KI KL KR d r
 |11,_,_=>exact stO_11 KI KL KR d r
 |12,_,_=>exact stO_12 KI KL KR d r
theorem diB_t(d)(i:Int):diBQ (d,i,())=bif decide (0<=i)then some (decide (i<(d.1.length:Int)))else some false:=by kernel_rfl
theorem dlB_t(d):dlBQ (d,())=some (d.1.length:Int):=by kernel_rfl
theorem drB_t(KI d)(i:Int):drBQ KI (d,i,())=(KI (d,i,())).bind fun r=>bif !r then some ([],(1:Int))else bif d.2.1 then some ([],(8:Int))else(at? d.1 i).bind fun(y:Vector UInt8 32)=>(cut? y.toList 0 ((32:Nat):Int)).bind fun r=>(fits? r).bind fun ys=>some (ys,(0:Int)):=by kernel_rfl
noncomputable def dsk(n:Nat):Val ((.pair (.sl (.arr 32 .u8)) (.pair .bool (.pair .bool (.pair .i64 (.pair .i64 (.pair .i64 .unit))))))):=(List.replicate n (Vector.replicate 32 (0:UInt8)),false,false,(0:Int),(0:Int),(0:Int),())
theorem dr_ok{n i:Nat}(h:i<n):drBQ diBQ (dsk n,(i:Int),())=some (List.replicate 32 (0:UInt8),(0:Int)):=by
 refine(drB_t diBQ (dsk n) i).trans ?_
 have e:diBQ (dsk n,(i:Int),())=some true:=by
  refine(diB_t (dsk n) i).trans ?_
  rw[decide_eq_true (show(0:Int)<=(i:Int)by omega),cond_true]
  refine congrArg some (decide_eq_true ?_)
  show(i:Int)<((List.replicate n (Vector.replicate 32 (0:UInt8))).length:Int)
  rw[List.length_replicate];omega
 refine(congrArg (fun o=>Option.bind o _) e).trans ?_
 have e2:at? (List.replicate n (Vector.replicate 32 (0:UInt8))) (i:Int)=some (Vector.replicate 32 (0:UInt8)):=by
  rw[Mx.at_lt (by rw[List.length_replicate];exact h),List.getElem_replicate]
 refine(congrArg (fun o=>Option.bind o _) e2).trans ?_
 rfl
theorem zT_ok(KR d)(r:Int)(s:Nat)(h: ∀i,i<s->KR (d,mulI (i:Int) (addI r 1),())=some (List.replicate 32 (0:UInt8),(0:Int))): ∀f i,i+f=s->zT KR d r s f i=some (some (some d,r,List.replicate s rec0,false,()),(0:Int))
 |0,i,_=>rfl
 |f+1,i,q=>(congrArg (fun o=>Option.bind o _) (h i (by omega))).trans (zT_ok KR d r s h f (i+1) (by omega))
theorem mul_nat{k j:Nat}(hk:k<=12)(hj:j<=12):mulI (k:Int) (addI (j:Int) 1)=((k*(j+1):Nat):Int):=by
 have h:k*(j+1)<=12*13:=Nat.mul_le_mul hk (by omega)
 rw[Mx.addI_ok (by omega) (by omega),show(j:Int)+1=((j+1:Nat):Int)by omega,Mx.mulI_ok (by rw[←Int.natCast_mul];omega) (by rw[←Int.natCast_mul];omega),←Int.natCast_mul]
theorem siB_yes{k:Nat}(h0:k≠0)(h:k<13):siBQ ((k:Int),())=some true:=by
 rw[siB_t,decide_eq_true (show 1<=(k:Int)by omega),cond_true,decide_eq_true (show(k:Int)<=1024 by omega)];rfl
theorem neI_self(a:Int):neI a a=false:=by unfold neI;exact decide_eq_false fun h=>h rfl
theorem st_ok{k j:Nat}(hk0:k≠0)(hk:k<13)(hj0:j≠0)(hj:j<13):stOQ siBQ dlBQ (drBQ diBQ) (some (dsk (k*(j+1))),(k:Int),(j:Int),())=some (some (some (dsk (k*(j+1))),(j:Int),List.replicate k rec0,false,()),(0:Int)):=by
 refine(stO_k siBQ dlBQ (drBQ diBQ) _ _ k hk0 hk).trans ?_
 unfold stT
 refine(congrArg (fun o=>Option.bind (Option.bind o _) _) (siB_yes hk0 hk)).trans ?_
 refine(congrArg (fun o=>Option.bind (Option.bind o _) _) (siB_yes hj0 hj)).trans ?_
 show((dlBQ (dsk (k*(j+1)),())).bind fun c=>some (neI c (mulI (k:Int) (addI (j:Int) 1)))).bind (fun x=>bif x then none else zT (drBQ diBQ) (dsk (k*(j+1))) (j:Int) k k 0)=_
 refine(congrArg (fun o=>Option.bind (Option.bind o _) _) (dlB_t _)).trans ?_
 have e:neI ((dsk (k*(j+1))).1.length:Int) (mulI (k:Int) (addI (j:Int) 1))=false:=by
  rw[mul_nat (by omega) (by omega)]
  show neI ((List.replicate (k*(j+1)) (Vector.replicate 32 (0:UInt8))).length:Int) _=false
  rw[List.length_replicate]
  exact neI_self _
 refine(congrArg (fun b=>Option.bind (some b) _) e).trans ?_
 refine zT_ok (drBQ diBQ) _ _ k (fun i hi=> ?_) k 0 (by omega)
 rw[mul_nat (by omega) (by omega)]
 exact dr_ok (Nat.mul_lt_mul_of_pos_right hi (by omega))
theorem lne:(s108.run ()).isSome=true:=by kernel_rfl
theorem srO_t(KD KO)(s r:Int):srOQ KD KO (s,r,())=(bif decide (s<1)then some true else bif decide (r<1)then some true else bif decide (4096<s)then some true else some (decide (4096<r))).bind fun x=>bif x then some (none,(1:Int))else(KD (mulI s (addI r 1),())).bind fun q=>bif neI q.2 0 then some (none,q.2)else(KO (q.1,s,r,())).bind fun w=>bif neI w.2 0 then some (none,w.2)else(s108.run ()).bind fun l=>some (some (s,r,q.1,w.1,l,false,()),(0:Int)):=by kernel_rfl
theorem dk_is{n:Nat}(h:1<=n)(h':n<=4096):dkBQ ((n:Int),())=some (some (dsk n),(0:Int)):=by
 rw[dkB_t,decide_eq_false (show¬(n:Int)<1 by omega),cond_false,decide_eq_false (show¬4096<(n:Int)by omega),Option.bind_some,cond_false,Mx.zeros_ok (by omega)]
 rfl
theorem srO_ok{k j:Nat}(hk0:k≠0)(hk:k<13)(hj0:j≠0)(hj:j<13): ∃v,srOQ dkBQ (stOQ siBQ dlBQ (drBQ diBQ)) ((k:Int),(j:Int),())=some (some v,(0:Int)):=by
 obtain⟨l,el⟩:=Option.isSome_iff_exists.1 lne
 have h1:1<=k*(j+1):=Nat.mul_pos (by omega) (by omega)
 have h2:k*(j+1)<=12*13:=Nat.mul_le_mul (by omega) (by omega)
 have e:srOQ dkBQ (stOQ siBQ dlBQ (drBQ diBQ)) ((k:Int),(j:Int),())=some (some ((k:Int),(j:Int),some (dsk (k*(j+1))),some (some (dsk (k*(j+1))),(j:Int),List.replicate k rec0,false,()),l,false,()),(0:Int)):=by
  refine(srO_t _ _ _ _).trans ?_
  rw[good4 (by omega)]
  refine(congrArg (fun o=>Option.bind o _) ((congrArg (fun m=>dkBQ (m,())) (mul_nat (by omega) (by omega))).trans (dk_is h1 (by omega)))).trans ?_
  refine(congrArg (fun o=>Option.bind o _) (st_ok hk0 hk hj0 hj)).trans ?_
  show(s108.run ()).bind (fun l=>some (some ((k:Int),(j:Int),some (dsk (k*(j+1))),some (some (dsk (k*(j+1))),(j:Int),List.replicate k rec0,false,()),l,false,()),(0:Int)))=_
  exact(congrArg (fun o=>Option.bind o _) el).trans rfl
 exact⟨_,e⟩
noncomputable def srR(x:InT P72):Option (OutT R72 (ioTy P72)):=cond (badB x.1||badB x.2.1) (some (none,(1:Int))) (cond (okB x.1&&okB x.2.1) (srOQ dkBQ (stOQ siBQ dlBQ (drBQ diBQ)) x) none)
theorem ksr:FnOk Tryz.prog 22 ⟨P72,R72,srR⟩:=FnOk.two (FnOk.two ksrA ksrB (fun x=>cond (badB x.1||badB x.2.1) (some (none,(1:Int))) none) fun x r h=>by
 obtain⟨s,t,u⟩:=x
 cases u
 obtain⟨hc,h⟩:=cond_some h
 rcases sr_bad hc with e|e
 ·exact Or.inl (e.trans h)
 ·exact Or.inr (e.trans h)) ksrO srR fun x r h=>by
 obtain⟨s,t,u⟩:=x
 cases u
 unfold srR at h
 cases hb:(badB s||badB t)with
 |true=>
  left
  have h:=(congrArg (fun b=>cond b _ _) hb).symm.trans h
  exact h
 |false=>
  right
  have h:=(congrArg (fun b=>cond b _ _) hb).symm.trans h
  exact(cond_some (show cond _ _ _=_ from h)).2
theorem sr_ok{s r:Int}(hs:okB s=true)(hr:okB r=true): ∃v,srR (s,r,())=some (some v,(0:Int)):=by
 have e:srR (s,r,())=srOQ dkBQ (stOQ siBQ dlBQ (drBQ diBQ)) (s,r,()):=by
  unfold srR
  rw[badB_ok hs,badB_ok hr,hs,hr];rfl
 rw[e]
 obtain⟨i,rfl,h1,h2⟩:=okB_nat hs
 obtain⟨j,rfl,h3,h4⟩:=okB_nat hr
 exact srO_ok h2 h1 h4 h3
theorem sr_no{s r:Int}(h:(badB s||badB r)=true):srR (s,r,())=some (none,(1:Int)):=by
 unfold srR
 rw[h];rfl
end Sx
end
