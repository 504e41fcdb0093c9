/- Which worlds there are, by code and by document. No conditions. -/
import Derived.Test.YtpdabjlnbldpfaaGreatDoorY5
import Derived.Test.YtpdabjlnbldpfaaGreatDoorY6
import Derived.Test.YtpdabjlnbldpfaaGreatDoorY4
set_option linter.unusedVariables false
set_option linter.unusedSimpArgs false
set_option linter.unusedSectionVars false
set_option maxRecDepth 100000
section
open Go Go.Proofs Ev
namespace Sx
theorem kixB:FnOk Tryz.prog 40 ⟨P105,R105,ixBQ⟩:=fn_okS (C:=ixBC) (hs:=ixBH) (ps:=P105) (rs:=R105) (specs:=[]) (dyns:=[]) (codes:=[]) rfl hm hT trivial trivial (by kernel_rfl) Tryz.func40 (by kernel_rfl)
theorem kcoB:FnOk Tryz.prog 21 ⟨P71,R71,coBQ (ixBQ)⟩:=fn_okS (C:=coBC (ixBQ)) (hs:=coBH) (ps:=P71) (rs:=R71) (specs:=[(40,⟨P105,R105,ixBQ⟩)]) (dyns:=[]) (codes:=[]) rfl hm hT ⟨kixB,trivial⟩ trivial (by kernel_rfl) Tryz.func21 (by kernel_rfl)
theorem kinB:FnOk Tryz.prog 28 ⟨P645,R645,inBQ⟩:=fn_okS (C:=inBC) (hs:=inBH) (ps:=P645) (rs:=R645) (specs:=[]) (dyns:=[]) (codes:=[]) rfl hm hT trivial trivial (by kernel_rfl) Tryz.func28 (by kernel_rfl)
theorem kwlA:FnOk Tryz.prog 12 ⟨P34,R34,wlAQ⟩:=fn_okS (C:=wlAC) (hs:=wlAH) (ps:=P34) (rs:=R34) (specs:=[(21,s71),(22,s72)]) (dyns:=[78]) (codes:=[]) rfl hm hT ⟨k71,k72,trivial⟩ trivial (by kernel_rfl) Tryz.func12 (by kernel_rfl)
theorem kwlB:FnOk Tryz.prog 12 ⟨P34,R34,wlBQ (coBQ ixBQ) (srR)⟩:=fn_okS (C:=wlBC (coBQ ixBQ) (srR)) (hs:=wlBH) (ps:=P34) (rs:=R34) (specs:=[(21,⟨P71,R71,coBQ ixBQ⟩),(22,⟨P72,R72,srR⟩)]) (dyns:=[78]) (codes:=[]) rfl hm hT ⟨kcoB,ksr,trivial⟩ trivial (by kernel_rfl) Tryz.func12 (by kernel_rfl)
theorem ixB_t(L:List Int)(n:Int):ixBQ (L,n,())=Mx.idxT L n:=by kernel_rfl
theorem coB_t(KI)(L:List Int)(n:Int):coBQ KI (L,n,())=(KI (L,n,())).bind fun(r:Int)=>some (decide ((0:Int)<=r)):=by kernel_rfl
theorem inB_t(L:List Int)(n:Int):inBQ (L,n,())=Mx.inT L n:=by kernel_rfl
theorem co_ok(L:List Int)(n:Int)(h:L.length<=1000):coBQ ixBQ (L,n,())=some (decide (n∈L)):=by
 refine(coB_t ixBQ L n).trans ?_
 refine(congrArg (fun o=>Option.bind o _) (ixB_t L n)).trans ?_
 exact Mx.idxT_ok L n h
theorem in_ok(L:List Int)(n:Int)(h:L.length<=1000):inBQ (L,n,())=some (decide (n∈L)):=(inB_t L n).trans (Mx.inT_ok L n h)
noncomputable def bAt(s:Int)(L:List Int)(i:Nat):Bool:=decide (L.getD i 0<0)||(decide (s<=L.getD i 0)||decide (L.getD i 0∈L.take i))
noncomputable def BL(s:Int)(L:List Int):Bool:=(List.range L.length).any (bAt s L)
theorem cutL{L:List Int}{i:Nat}(h:i<=L.length):cut? L 0 (i:Int)=some (L.take i):=by
 have e:=Mx.cut_nat (l:=L) (a:=0) (b:=i) (Nat.zero_le _) h
 rw[List.drop_zero,Nat.sub_zero]at e
 exact e
theorem l1S_ok(KC:KTC)(hC: ∀(l:List Int) (n:Int),l.length<=1000->KC (l,n,())=some (decide (n∈l)))(s:Int)(L:List Int)(h:L.length<=1000):iter (l1S KC s L) 0=some (cond (BL s L) (Sum.inr (none,(1:Int))) (Sum.inl ())):=by
 refine Mx.scan_ok L.length (bAt s L) _ h (fun i hi=> ?_) ?_
 ·have ht:(L.take i).length<=1000:=by rw[List.length_take];omega
  unfold l1S bAt
  rw[decide_eq_true (show(i:Int)<(L.length:Int)by omega),cond_true,Mx.at_lt hi,Option.bind_some,cutL (by omega),Option.bind_some,show L.getD i 0=L[i]by simp[List.getD,hi],show((i+1:Nat):Int)=addI (i:Int) 1 by rw[Mx.addI_ok (by omega) (by omega)];omega]
  generalize L[i]=n
  cases decide (n<0)with
  |true=>rfl
  |false=>
   cases decide (s<=n)with
   |true=>rfl
   |false=>
    refine(congrArg (fun o=>Option.bind (Option.bind o _) _) (hC (L.take i) n ht)).trans ?_
    cases decide (n∈L.take i)<;>rfl
 ·unfold l1S
  rw[decide_eq_false (by omega),cond_false]
theorem w2T_no(KC KS)(a r:Int)(L:List Int)(s:Nat)(hS:KS (a,r,())=some (none,(1:Int)))(f i:Nat)(row):w2T KC KS a r L s (f+1) i row=some (none,(1:Int)):=(congrArg (fun o=>Option.bind o _) hS).trans rfl
theorem w2T_ok(KC KS)(a r:Int)(L:List Int)(s:Nat)(v)(hS:KS (a,r,())=some (some v,(0:Int)))(hC: ∀n:Int,∃b,KC (L,n,())=some b): ∀(f i:Nat) (row:List (Option (Val ((.pair .i64 (.pair .i64 (.pair (.op (.pair (.sl (.arr 32 .u8)) (.pair .bool (.pair .bool (.pair .i64 (.pair .i64 (.pair .i64 .unit))))))) (.pair (.op (.pair (.op (.pair (.sl (.arr 32 .u8)) (.pair .bool (.pair .bool (.pair .i64 (.pair .i64 (.pair .i64 .unit))))))) (.pair .i64 (.pair (.sl (.pair .bool (.pair .str (.pair .i64 (.pair (.sl .u8) .unit))))) (.pair .bool .unit))))) (.pair (.op (.pair (.sl (.pair (.arr 16 .u8) (.pair (.pair (.arr 16 .u8) (.pair .i64 .unit)) .unit))) .unit)) (.pair .bool .unit)))))))))),∃row':List (Option (Val ((.pair .i64 (.pair .i64 (.pair (.op (.pair (.sl (.arr 32 .u8)) (.pair .bool (.pair .bool (.pair .i64 (.pair .i64 (.pair .i64 .unit))))))) (.pair (.op (.pair (.op (.pair (.sl (.arr 32 .u8)) (.pair .bool (.pair .bool (.pair .i64 (.pair .i64 (.pair .i64 .unit))))))) (.pair .i64 (.pair (.sl (.pair .bool (.pair .str (.pair .i64 (.pair (.sl .u8) .unit))))) (.pair .bool .unit))))) (.pair (.op (.pair (.sl (.pair (.arr 16 .u8) (.pair (.pair (.arr 16 .u8) (.pair .i64 .unit)) .unit))) .unit)) (.pair .bool .unit))))))))),row'.length=row.length∧w2T KC KS a r L s f i row=some (some (row',List.replicate s false,[],[],(0:Int),(0:Int),()),(0:Int))
 |0,i,row=>⟨row,rfl,rfl⟩
 |f+1,i,row=>by
  obtain⟨b,hb⟩:=hC (i:Int)
  cases b with
  |true=>
   obtain⟨row',h1,h2⟩:=w2T_ok KC KS a r L s v hS hC f (i+1) row
   refine⟨row',h1,Eq.trans ?_ h2⟩
   refine(congrArg (fun o=>Option.bind o _) hS).trans ?_
   exact(congrArg (fun o=>Option.bind o _) hb).trans rfl
  |false=>
   obtain⟨row',h1,h2⟩:=w2T_ok KC KS a r L s v hS hC f (i+1) (List.set row i (some v))
   refine⟨row',h1.trans (List.length_set ..),Eq.trans ?_ h2⟩
   refine(congrArg (fun o=>Option.bind o _) hS).trans ?_
   exact(congrArg (fun o=>Option.bind o _) hb).trans rfl
noncomputable def rngB(s:Int):Bool:=decide (s<1)||decide (8<s)
theorem rng_no{s:Int}(h:rngB s=true):(bif decide (s<1)then some true else some (decide (8<s)))=some true:=by
 unfold rngB at h
 cases h1:decide (s<1)with
 |true=>rfl
 |false=>rw[h1,Bool.false_or]at h;rw[cond_false,h]
theorem rng_nat{s:Int}(h:rngB s=false): ∃k:Nat,s=(k:Int)∧k≠0∧k<9:=by
 unfold rngB at h
 rw[Bool.or_eq_false_iff,decide_eq_false_iff_not,decide_eq_false_iff_not]at h
 exact⟨s.toNat,by omega,by omega,by omega⟩
theorem wlA_t(s a r:Int)(L:List Int):wlAQ (s,a,r,L,())=(bif decide (s<1)then some true else some (decide (8<s))).bind fun x=>bif x then some (none,(1:Int))else none:=by kernel_rfl
theorem wlA_no{s:Int}(h:rngB s=true)(a r:Int)(L:List Int):wlAQ (s,a,r,L,())=some (none,(1:Int)):=by
 rw[wlA_t,rng_no h];rfl
theorem wlB_k(KC KS)(a r:Int)(L:List Int)(k:Nat)(h0:k≠0)(h:k<9):wlBQ KC KS ((k:Int),a,r,L,())=wlT KC KS a r L k:=by
 match k,h0,h with
 |1,_,_=>exact wl_1 KC KS a r L
 |2,_,_=>exact wl_2 KC KS a r L
 |3,_,_=>exact wl_3 KC KS a r L
 |4,_,_=>exact wl_4 KC KS a r L
 |5,_,_=>exact wl_5 KC KS a r L
 |6,_,_=>exact wl_6 KC KS a r L
 |7,_,_=>exact wl_7 KC KS a r L
 |8,_,_=>exact wl_8 KC KS a r L
noncomputable def preB(a:Int):Bool:=badB a||okB a
noncomputable def BAD(s a r:Int)(L:List Int):Bool:=rngB s||(BL s L||(badB a||badB r))
theorem cond_t{α:Type}{b:Bool}{x y:α}(h:b=true):cond b x y=x:=by subst h;rfl
theorem cond_f{α:Type}{b:Bool}{x y:α}(h:b=false):cond b x y=y:=by subst h;rfl
theorem FnOk.ite2{P:Program}{f:FuncId}{ps:List PK}{rs:List RK}{r1 r2:InT ps->Option (OutT rs (ioTy ps))}(h1:FnOk P f ⟨ps,rs,r1⟩)(h2:FnOk P f ⟨ps,rs,r2⟩)(g:InT ps->Bool):FnOk P f ⟨ps,rs,fun x=>cond (g x) (r1 x) (r2 x)⟩:=FnOk.two h1 h2 _ fun x r h=>by
 cases hb:g x with
 |true=>left;exact(cond_t hb).symm.trans h
 |false=>right;exact(cond_f hb).symm.trans h
noncomputable def wlR(x:InT P34):Option (OutT R34 (ioTy P34)):=cond (rngB x.1) (wlAQ x) (wlBQ (coBQ ixBQ) srR x)
theorem kwl:FnOk Tryz.prog 12 ⟨P34,R34,wlR⟩:=FnOk.ite2 kwlA kwlB fun x=>rngB x.1
theorem wlR_t{s:Int}(h:rngB s=true)(a r:Int)(L:List Int):wlR (s,a,r,L,())=wlAQ (s,a,r,L,()):=cond_t (y:=wlBQ (coBQ ixBQ) srR (s,a,r,L,())) h
theorem wlR_f{s:Int}(h:rngB s=false)(a r:Int)(L:List Int):wlR (s,a,r,L,())=wlBQ (coBQ ixBQ) srR (s,a,r,L,()):=cond_f (x:=wlAQ (s,a,r,L,())) h
theorem wlT_1(KC KS)(a r:Int)(L:List Int)(s:Nat)(h:iter (l1S KC (s:Int) L) 0=some (Sum.inr (none,(1:Int)))):wlT KC KS a r L s=some (none,(1:Int)):=(congrArg (fun o=>Option.bind o _) h).trans rfl
theorem wlT_2(KC KS)(a r:Int)(L:List Int)(s:Nat)(h:iter (l1S KC (s:Int) L) 0=some (Sum.inl ())):wlT KC KS a r L s=w2T KC KS a r L s s 0 (List.replicate s none):=(congrArg (fun o=>Option.bind o _) h).trans rfl
theorem preB_iff{a r:Int}(ha:preB a=true)(hr:preB r=true)(h:(badB a||badB r)=false):okB a=true∧okB r=true:=by
 unfold preB at ha hr
 rw[Bool.or_eq_false_iff]at h
 rw[h.1,Bool.false_or]at ha
 rw[h.2,Bool.false_or]at hr
 exact⟨ha,hr⟩
theorem wl_no{s a r:Int}{L:List Int}(hl:L.length<=1000)(h:BAD s a r L=true):wlR (s,a,r,L,())=some (none,(1:Int)):=by
 unfold BAD at h
 cases hs:rngB s with
 |true=>exact(wlR_t hs a r L).trans (wlA_no hs a r L)
 |false=>
  rw[hs,Bool.false_or]at h
  refine(wlR_f hs a r L).trans ?_
  obtain⟨k,rfl,h0,h9⟩:=rng_nat hs
  refine(wlB_k (coBQ ixBQ) srR a r L k h0 h9).trans ?_
  have e:=l1S_ok (coBQ ixBQ) co_ok (k:Int) L hl
  cases hb:BL (k:Int) L with
  |true=>
   rw[hb,cond_true]at e
   exact wlT_1 _ _ a r L k e
  |false=>
   rw[hb,cond_false]at e
   rw[hb,Bool.false_or]at h
   refine(wlT_2 _ _ a r L k e).trans ?_
   obtain⟨m,rfl⟩: ∃m,k=m+1:=⟨k-1,by omega⟩
   exact w2T_no _ _ a r L _ (sr_no h) m 0 _
theorem wl_ok{s a r:Int}{L:List Int}(hl:L.length<=1000)(ha:preB a=true)(hr:preB r=true)(h:BAD s a r L=false): ∃(row:List (Option (Val ((.pair .i64 (.pair .i64 (.pair (.op (.pair (.sl (.arr 32 .u8)) (.pair .bool (.pair .bool (.pair .i64 (.pair .i64 (.pair .i64 .unit))))))) (.pair (.op (.pair (.op (.pair (.sl (.arr 32 .u8)) (.pair .bool (.pair .bool (.pair .i64 (.pair .i64 (.pair .i64 .unit))))))) (.pair .i64 (.pair (.sl (.pair .bool (.pair .str (.pair .i64 (.pair (.sl .u8) .unit))))) (.pair .bool .unit))))) (.pair (.op (.pair (.sl (.pair (.arr 16 .u8) (.pair (.pair (.arr 16 .u8) (.pair .i64 .unit)) .unit))) .unit)) (.pair .bool .unit)))))))))) (dn:List Bool),(row.length:Int)=s∧wlR (s,a,r,L,())=some (some (row,dn,[],[],(0:Int),(0:Int),()),(0:Int)):=by
 unfold BAD at h
 rw[Bool.or_eq_false_iff,Bool.or_eq_false_iff]at h
 obtain⟨hs,hb,hv⟩:=h
 obtain⟨oa,or_⟩:=preB_iff ha hr hv
 obtain⟨v,ev⟩:=sr_ok oa or_
 obtain⟨k,rfl,h0,h9⟩:=rng_nat hs
 have e:=l1S_ok (coBQ ixBQ) co_ok (k:Int) L hl
 rw[hb,cond_false]at e
 obtain⟨row,h1,h2⟩:=w2T_ok (coBQ ixBQ) srR a r L k v ev (fun n=>⟨_,co_ok L n hl⟩) k 0 (List.replicate k none)
 rw[List.length_replicate]at h1
 exact⟨row,List.replicate k false,by rw[h1],(wlR_f hs a r L).trans ((wlB_k (coBQ ixBQ) srR a r L k h0 h9).trans ((wlT_2 _ _ a r L k e).trans h2))⟩
end Sx
end
section
open Go Go.Proofs Ev
namespace Sx
theorem kdwA:FnOk Tryz.prog 15 ⟨P642,R642,dwAQ⟩:=fn_okS (C:=dwAC) (hs:=dwAH) (ps:=P642) (rs:=R642) (specs:=[(28,s645),(29,s646)]) (dyns:=[98]) (codes:=[]) rfl hm hT ⟨k645,k646,trivial⟩ trivial (by kernel_rfl) Tryz.func15 (by kernel_rfl)
theorem kdwB:FnOk Tryz.prog 15 ⟨P642,R642,dwBQ (inBQ) (dsR)⟩:=fn_okS (C:=dwBC (inBQ) (dsR)) (hs:=dwBH) (ps:=P642) (rs:=R642) (specs:=[(28,⟨P645,R645,inBQ⟩),(29,⟨P646,R646,dsR⟩)]) (dyns:=[98]) (codes:=[]) rfl hm hT ⟨kinB,kds,trivial⟩ trivial (by kernel_rfl) Tryz.func15 (by kernel_rfl)
theorem l1D_ok(KC:KTD)(hC: ∀(l:List Int) (n:Int),l.length<=1000->KC (l,n,())=some (decide (n∈l)))(s:Int)(L:List Int)(h:L.length<=1000):iter (l1D KC s L) 0=some (cond (BL s L) (Sum.inr (none,(1:Int))) (Sum.inl ())):=by
 refine Mx.scan_ok L.length (bAt s L) _ h (fun i hi=> ?_) ?_
 ·have ht:(L.take i).length<=1000:=by rw[List.length_take];omega
  unfold l1D bAt
  rw[decide_eq_true (show(i:Int)<(L.length:Int)by omega),cond_true,Mx.at_lt hi,Option.bind_some,Option.bind_some,cutL (by omega),Option.bind_some,Option.bind_some,show L.getD i 0=L[i]by simp[List.getD,hi],show((i+1:Nat):Int)=addI (i:Int) 1 by rw[Mx.addI_ok (by omega) (by omega)];omega]
  generalize L[i]=n
  cases decide (n<0)with
  |true=>rfl
  |false=>
   cases decide (s<=n)with
   |true=>rfl
   |false=>
    refine(congrArg (fun o=>Option.bind (Option.bind o _) _) (hC (L.take i) n ht)).trans ?_
    cases decide (n∈L.take i)<;>rfl
 ·unfold l1D
  rw[decide_eq_false (by omega),cond_false]
theorem d2T_no(KC KS)(a r:Int)(L:List Int)(s:Nat)(hS:KS (a,r,())=some (none,(1:Int)))(f i:Nat)(row):d2T KC KS a r L s (f+1) i row=some (none,(1:Int)):=(congrArg (fun o=>Option.bind o _) hS).trans rfl
theorem d2T_ok(KC KS)(a r:Int)(L:List Int)(s:Nat)(v)(hS:KS (a,r,())=some (some v,(0:Int)))(hC: ∀n:Int,∃b,KC (L,n,())=some b): ∀(f i:Nat) (row:List (Option (Val ((.pair .i64 (.pair .i64 (.pair (.op (.pair (.op (.pair (.sl .u8) (.pair .bool (.pair .bool (.pair .i64 (.pair .i64 (.pair .i64 .unit))))))) (.pair .i64 (.pair .i64 (.pair (.sl (.pair .str (.pair .i64 (.pair (.sl .u8) (.pair .i64 .unit))))) (.pair .bool .unit)))))) (.pair (.op (.pair (.sl .u8) (.pair .bool (.pair .bool (.pair .i64 (.pair .i64 (.pair .i64 .unit))))))) (.pair (.op (.pair (.sl (.pair (.arr 16 .u8) (.pair (.pair (.arr 16 .u8) (.pair .i64 .unit)) .unit))) .unit)) (.pair .bool .unit)))))))))),row.length+f<=1000-> ∃row':List (Option (Val ((.pair .i64 (.pair .i64 (.pair (.op (.pair (.op (.pair (.sl .u8) (.pair .bool (.pair .bool (.pair .i64 (.pair .i64 (.pair .i64 .unit))))))) (.pair .i64 (.pair .i64 (.pair (.sl (.pair .str (.pair .i64 (.pair (.sl .u8) (.pair .i64 .unit))))) (.pair .bool .unit)))))) (.pair (.op (.pair (.sl .u8) (.pair .bool (.pair .bool (.pair .i64 (.pair .i64 (.pair .i64 .unit))))))) (.pair (.op (.pair (.sl (.pair (.arr 16 .u8) (.pair (.pair (.arr 16 .u8) (.pair .i64 .unit)) .unit))) .unit)) (.pair .bool .unit))))))))),d2T KC KS a r L s f i row=some (some (row',List.replicate s false,[],[],(0:Int),(0:Int),()),(0:Int))
 |0,i,row,_=>⟨row,rfl⟩
 |f+1,i,row,hf=>by
  obtain⟨b,hb⟩:=hC (i:Int)
  cases b with
  |true=>
   obtain⟨row',h2⟩:=d2T_ok KC KS a r L s v hS hC f (i+1) (row++[none]) (by rw[List.length_append,List.length_singleton];omega)
   refine⟨row',Eq.trans ?_ h2⟩
   refine(congrArg (fun o=>Option.bind o _) hS).trans ?_
   refine(congrArg (fun o=>Option.bind o _) hb).trans ?_
   exact(congrArg (fun o=>Option.bind o _) (Mx.app_ok (xs:=row) (ys:=[none]) (by rw[List.length_singleton];omega))).trans rfl
  |false=>
   obtain⟨row',h2⟩:=d2T_ok KC KS a r L s v hS hC f (i+1) (row++[some v]) (by rw[List.length_append,List.length_singleton];omega)
   refine⟨row',Eq.trans ?_ h2⟩
   refine(congrArg (fun o=>Option.bind o _) hS).trans ?_
   refine(congrArg (fun o=>Option.bind o _) hb).trans ?_
   exact(congrArg (fun o=>Option.bind o _) (Mx.app_ok (xs:=row) (ys:=[some v]) (by rw[List.length_singleton];omega))).trans rfl
theorem dwA_t(s a r:Int)(L:List Int):dwAQ (s,a,r,L,())=(bif decide (s<1)then some true else some (decide (8<s))).bind fun x=>bif x then some (none,(1:Int))else none:=by kernel_rfl
theorem dwA_no{s:Int}(h:rngB s=true)(a r:Int)(L:List Int):dwAQ (s,a,r,L,())=some (none,(1:Int)):=by
 rw[dwA_t,rng_no h];rfl
theorem dwB_k(KC KS)(a r:Int)(L:List Int)(k:Nat)(h0:k≠0)(h:k<9):dwBQ KC KS ((k:Int),a,r,L,())=dlT KC KS a r L k:=by
 match k,h0,h with
 |1,_,_=>exact dl_1 KC KS a r L
 |2,_,_=>exact dl_2 KC KS a r L
 |3,_,_=>exact dl_3 KC KS a r L
 |4,_,_=>exact dl_4 KC KS a r L
 |5,_,_=>exact dl_5 KC KS a r L
 |6,_,_=>exact dl_6 KC KS a r L
 |7,_,_=>exact dl_7 KC KS a r L
 |8,_,_=>exact dl_8 KC KS a r L
noncomputable def dwR(x:InT P642):Option (OutT R642 (ioTy P642)):=cond (rngB x.1) (dwAQ x) (dwBQ inBQ dsR x)
theorem kdw:FnOk Tryz.prog 15 ⟨P642,R642,dwR⟩:=FnOk.ite2 kdwA kdwB fun x=>rngB x.1
theorem dwR_t{s:Int}(h:rngB s=true)(a r:Int)(L:List Int):dwR (s,a,r,L,())=dwAQ (s,a,r,L,()):=cond_t (y:=dwBQ inBQ dsR (s,a,r,L,())) h
theorem dwR_f{s:Int}(h:rngB s=false)(a r:Int)(L:List Int):dwR (s,a,r,L,())=dwBQ inBQ dsR (s,a,r,L,()):=cond_f (x:=dwAQ (s,a,r,L,())) h
theorem dlT_1(KC KS)(a r:Int)(L:List Int)(s:Nat)(h:iter (l1D KC (s:Int) L) 0=some (Sum.inr (none,(1:Int)))):dlT KC KS a r L s=some (none,(1:Int)):=(congrArg (fun o=>Option.bind o _) h).trans rfl
theorem dlT_2(KC KS)(a r:Int)(L:List Int)(s:Nat)(h:iter (l1D KC (s:Int) L) 0=some (Sum.inl ())):dlT KC KS a r L s=d2T KC KS a r L s s 0 []:=(congrArg (fun o=>Option.bind o _) h).trans rfl
theorem dl_no{s a r:Int}{L:List Int}(hl:L.length<=1000)(h:BAD s a r L=true):dwR (s,a,r,L,())=some (none,(1:Int)):=by
 unfold BAD at h
 cases hs:rngB s with
 |true=>exact(dwR_t hs a r L).trans (dwA_no hs a r L)
 |false=>
  rw[hs,Bool.false_or]at h
  refine(dwR_f hs a r L).trans ?_
  obtain⟨k,rfl,h0,h9⟩:=rng_nat hs
  refine(dwB_k inBQ dsR a r L k h0 h9).trans ?_
  have e:=l1D_ok inBQ in_ok (k:Int) L hl
  cases hb:BL (k:Int) L with
  |true=>
   rw[hb,cond_true]at e
   exact dlT_1 _ _ a r L k e
  |false=>
   rw[hb,cond_false]at e
   rw[hb,Bool.false_or]at h
   refine(dlT_2 _ _ a r L k e).trans ?_
   obtain⟨m,rfl⟩: ∃m,k=m+1:=⟨k-1,by omega⟩
   exact d2T_no _ _ a r L _ (ds_no h) m 0 _
theorem dl_ok{s a r:Int}{L:List Int}(hl:L.length<=1000)(ha:preB a=true)(hr:preB r=true)(h:BAD s a r L=false): ∃w,dwR (s,a,r,L,())=some (some w,(0:Int)):=by
 unfold BAD at h
 rw[Bool.or_eq_false_iff,Bool.or_eq_false_iff]at h
 obtain⟨hs,hb,hv⟩:=h
 obtain⟨oa,or_⟩:=preB_iff ha hr hv
 obtain⟨v,ev⟩:=ds_ok oa or_
 obtain⟨k,rfl,h0,h9⟩:=rng_nat hs
 have e:=l1D_ok inBQ in_ok (k:Int) L hl
 rw[hb,cond_false]at e
 obtain⟨row,h2⟩:=d2T_ok inBQ dsR a r L k v ev (fun n=>⟨_,in_ok L n hl⟩) k 0 [] (by rw[List.length_nil];omega)
 exact⟨_,(dwR_f hs a r L).trans ((dwB_k inBQ dsR a r L k h0 h9).trans ((dlT_2 _ _ a r L k e).trans h2))⟩
end Sx
end
