/- UploadOwn as a functional reading: it answers true for all arguments. No conditions. -/
import Derived.Test.YtpcmidkpjdaebaaGreatDoorG
import Derived.Test.YtpcmidkpjdaebaaGreatDoorP
set_option linter.unusedVariables false
set_option linter.unusedSimpArgs false
set_option linter.unusedSectionVars false
set_option maxRecDepth 100000
section
open Go Go.Proofs Ev Sx
namespace Mx
theorem p439:f439=some true:=rfl
theorem p176(t:B)(l:List B)(h:Short l)(ht:t.length<100000):f176 t l=toArr 16 (List.take 16 (List.drop 0 (tagged t l).toList)):=by
 rw[e176,t176,bs (p90 t l h ht)]
 cases toArr 16 (List.take 16 (List.drop 0 (tagged t l).toList))<;>rfl
theorem arr16(h:H): ∃v:V16,toArr 16 (List.take 16 (List.drop 0 h.toList))=some v:=by
 unfold toArr
 rw[dif_pos (by simp)]
 exact⟨_,rfl⟩
def cvT:B:=[99,111,110,118,101,114,103,101,110,116]
theorem p485(b:B)(k n:Nat)(hb:b.length<100000)(hk:k<=1000000)(hn:n<=1000000):f485 b (k:Int) (n:Int)=toArr 16 (List.take 16 (List.drop 0 (tagged cvT [b,beN 1 k,beN 1 n]).toList)):=by
 have e1:=p89 k 1 (by omega) (by omega)
 have e2:=p89 n 1 (by omega) (by omega)
 have hs:Short [b,beN 1 k,beN 1 n]:=⟨fun c hc=>by
  simp only[List.mem_cons,List.mem_nil_iff,or_false]at hc
  rcases hc with rfl|rfl|rfl
  ·exact hb
  ·simp
  ·simp,by simp⟩
 rw[e485,t485]
 refine bt e1 ?_
 refine bt e2 ?_
 have e3:=p176 cvT [b,beN 1 k,beN 1 n] hs (by decide)
 show(f176 cvT [b,beN 1 k,beN 1 n]).bind _=_
 rw[e3]
 cases toArr 16 (List.take 16 (List.drop 0 (tagged cvT [b,beN 1 k,beN 1 n]).toList))<;>rfl
theorem p427(c:Cp)(h:c.2.2.2.2.2.2.1.length<1000000000):f427 c c=some true:=by
 rw[e427,t427,cd_pos (rfl:c.1=c.1),cd_pos (rfl:c.2.1=c.2.1),cd_pos (rfl:c.2.2.1=c.2.2.1),cd_pos (rfl:c.2.2.2.1=c.2.2.2.1),cd_pos (rfl:c.2.2.2.2.1=c.2.2.2.2.1),cd_pos (rfl:c.2.2.2.2.2.1=c.2.2.2.2.2.1),bs (p13 _ h)];rfl
theorem p433(a:List H)(h:a.length<=1000000):f433 a a=some true:=by
 rw[e433,t433,cd_neg (by omega)]
 refine it_bind (fun i=>(i:Int)) a.length (.inl ()) rfl ?_ ?_ (by omega) rfl
 ·intro i hi
  rw[cd_pos (by omega),bs (at_gd hi default),bs (at_gd hi default),decide_eq_true (rfl:a.getD i default=a.getD i default),cn_t,addI_1 (by omega)]
 ·rw[cd_neg (by omega)]
theorem p432(a:List B)(h:a.length<=1000000)(hb: ∀b∈a,b.length<1000000000):f432 a a=some true:=by
 rw[e432,t432,cd_neg (by omega)]
 refine it_bind (fun i=>(i:Int)) a.length (.inl ()) rfl ?_ ?_ (by omega) rfl
 ·intro i hi
  rw[cd_pos (by omega),bs (at_lt hi),bs (at_lt hi),bs (p13 _ (hb _ (List.getElem_mem hi))),cn_t,addI_1 (by omega)]
 ·rw[cd_neg (by omega)]
def okSh(s:ShT):Prop:=s.2.1.length<1000000000∧s.2.2.1.length<=1000000∧s.2.2.2.1.length<=1000000∧ ∀b∈s.2.2.2.1,b.length<1000000000
theorem p434(s:ShT)(h:okSh s):f434 s s=some true:=by
 obtain⟨h1,h2,h3,h4⟩:=h
 rw[e434,t434,cd_pos (rfl:s.1=s.1),bs (p13 _ h1),cb_t,bs (p433 _ h2),cb_t,bs (p432 _ h3 h4)];rfl
theorem p435(a:List ShT)(h:a.length<=1000000)(hb: ∀s∈a,okSh s):f435 a a=some true:=by
 rw[e435,t435,cd_neg (by omega)]
 refine it_bind (fun i=>(i:Int)) a.length (.inl ()) rfl ?_ ?_ (by omega) rfl
 ·intro i hi
  rw[cd_pos (by omega),bs (at_lt hi),bs (at_lt hi),bs (p434 _ (hb _ (List.getElem_mem hi))),cn_t,addI_1 (by omega)]
 ·rw[cd_neg (by omega)]
theorem m1_all:(List.range 256).all (fun y=>decide (mulT 1 (UInt8.ofNat y)=UInt8.ofNat y))=true:=by kernel_rfl
theorem mulT_1(y:UInt8):mulT 1 y=y:=by
 have h:=all_of m1_all y.toNat y.toNat_lt
 rw[UInt8.ofNat_toNat]at h
 exact of_decide_eq_true h
theorem xf_pick(i:Nat)(f:Nat->UInt8): ∀n,xf (fun j=>if j=i then f j else 0) n=if i<n then f i else 0
 |0=>rfl
 |n+1=>by
  rw[xf,xf_pick i f n]
  by_cases c:n=i
  ·subst c;simp
  ·by_cases d:i<n
   ·rw[if_pos d,if_neg c,if_pos (by omega)];simp
   ·rw[if_neg d,if_neg c,if_neg (by omega)];rfl
theorem enc_unit(p:B)(L k i:Nat)(hi:i<k)(hp:p.length=L*k):encR p L k (unitR k i)=(p.drop (L*i)).take L:=by
 have hle:L*i+L<=p.length:=by
  have:L*(i+1)<=L*k:=Nat.mul_le_mul_left L hi
  rw[Nat.mul_succ]at this;omega
 unfold encR
 apply List.ext_getElem (by simp;omega)
 intro x h1 h2
 have hx:x<L:=by simpa using h1
 rw[List.getElem_map,List.getElem_range]
 have:xf (fun j=>mulT ((unitR k i).getD j 0) (p.getD (L*j+x) 0)) k=xf (fun j=>if j=i then p.getD (L*j+x) 0 else 0) k:=xf_congr k fun j hj=>by
  rw[unitR,gd_range _ _ _ _ hj]
  by_cases c:j=i
  ·rw[if_pos c,if_pos c,mulT_1]
  ·rw[if_neg c,if_neg c,mulT_z (.inl rfl)]
 rw[this,xf_pick,if_pos hi]
 simp only[List.getElem_take,List.getElem_drop]
 rw[List.getD_eq_getElem?_getD,List.getElem?_eq_getElem (by omega)];rfl
theorem chunks(p:B)(L:Nat): ∀k,p.length=L*k->((List.range k).map fun r=>(p.drop (L*r)).take L).flatten=p
 |0,h=>by simp at h;simp[h]
 |k+1,h=>by
  rw[List.range_succ,List.map_append,List.flatten_append]
  have hle:L*k<=p.length:=by rw[h];exact Nat.mul_le_mul_left L (by omega)
  have h1:=chunks (p.take (L*k)) L k (by rw[List.length_take];omega)
  have h2:(List.range k).map (fun r=>(p.drop (L*r)).take L)=(List.range k).map fun r=>((p.take (L*k)).drop (L*r)).take L:=by
   refine List.map_congr_left fun r hr=> ?_
   have hr':=List.mem_range.1 hr
   have:L*(r+1)<=L*k:=Nat.mul_le_mul_left L hr'
   rw[Nat.mul_succ]at this
   rw[List.drop_take,List.take_take,Nat.min_eq_left (by omega)]
  rw[h2,h1]
  simp only[List.map_cons,List.map_nil,List.flatten_cons,List.flatten_nil,List.append_nil]
  rw[List.take_of_length_le (l:=p.drop (L*k)) (by rw[List.length_drop,h,Nat.mul_succ];omega),List.take_append_drop]
section
variable {k n : Nat} {b : B} (h1 : 1 <= k) (h2 : k <= n) (h3 : n <= 7 ∧ k <= 4) (hb1 : 1 <= b.length) (hb : b.length <= 256)
include h1 h2 h3 hb1 hb
theorem blk_at(i j:Nat)(hi:i<n)(hj:j<nseg b.length):at? (blkOf (rowsS k n b) i) (j:Int)=some (encR (padK ((b.drop (64*j)).take 64) k) ((padK ((b.drop (64*j)).take 64) k).length/k) k ((MT k n).getD i [])):=by
 have hl:j<(blkOf (rowsS k n b) i).length:=by rw[blk_len h1 h2 h3 hb1 hb];exact hj
 have hM:i<(MT k n).length:=by rw[MT_len h1 h2 h3];exact hi
 rw[at_lt hl]
 simp only[blkOf,rowsS,segs,List.getElem_map,List.getElem_range]
 rw[encC,gd_map _ _ _ [] _ hM]
theorem shS_ok(u:B)(hu:u.length<=1000): ∀s∈shS u k n b,okSh s:=fun s hs=>by
 obtain⟨i,hi,rfl⟩:=List.mem_map.1 hs
 have hi':=List.mem_range.1 hi
 have hg:=lg_le n
 have hns:=nseg13 h1 h2 h3 hb1 hb
 refine⟨by dsimp only[shC];omega,?_,?_,fun c hc=> ?_⟩
 ·dsimp only[shC,prS,proofC];simp;omega
 ·dsimp only[shC];rw[blk_len h1 h2 h3 hb1 hb];omega
 ·have:=blk_small h1 h2 h3 hb1 hb i hi' c hc;omega
theorem p531(u:B):f531 (shS u k n b) (k:Int) (b.length:Int)=some b:=by
 have hns:=nseg13 h1 h2 h3 hb1 hb
 have hat: ∀i:Nat,i<n->at? (shS u k n b) (i:Int)=some (shC u (prS k n b) (rowsS k n b) i):=fun i hi=>by
  rw[at_lt (by rw[shS_len];exact hi)];simp[shS]
 have h0:at? (shS u k n b) 0=_:=hat 0 (by omega)
 have hbl:(shC u (prS k n b) (rowsS k n b) 0).2.2.2.1.length=nseg b.length:=blk_len h1 h2 h3 hb1 hb 0
 rw[e531,t531,bs h0]
 refine it_bind (fun j=>(b.take (64*j),(j:Int))) (nseg b.length) b (by simp) ?_ ?_ (by omega) rfl
 ·intro j hj
  have hjb:64*j<b.length:=by unfold nseg at hj;omega
  have hsl:((b.drop (64*j)).take 64).length=min (b.length-64*j) 64:=by rw[List.length_take,List.length_drop];omega
  have hpl:=pad_len ((b.drop (64*j)).take 64) k h1
  have hple:=padK_le ((b.drop (64*j)).take 64) k h1
  have hpge:((b.drop (64*j)).take 64).length<=(padK ((b.drop (64*j)).take 64) k).length:=by simp[padK]
  have hpt:(padK ((b.drop (64*j)).take 64) k).take ((b.drop (64*j)).take 64).length=(b.drop (64*j)).take 64:=by
   rw[padK,List.take_append_of_le_length (Nat.le_refl _),List.take_length]
  have hblk:=fun(i:Nat) (hi:i<k)=>(blk_at h1 h2 h3 hb1 hb i j (by omega) hj)
  generalize hp:padK ((b.drop (64*j)).take 64) k=p at*
  generalize hL:p.length/k=L at*
  dsimp only
  rw[cd_pos (show(j:Int)<((shC u (prS k n b) (rowsS k n b) 0).2.2.2.1.length:Int)by omega)]
  have hfl: ∀r,((List.range r).map fun r=>(p.drop (L*r)).take L).flatten.length<=r*L:=fun r=>by
   induction r with
   |zero=>simp
   |succ r ih=>rw[List.range_succ,List.map_append,List.flatten_append,List.length_append,Nat.succ_mul,List.map_cons,List.map_nil,List.flatten_cons,List.flatten_nil,List.append_nil,List.length_take];omega
  have hkL:k*L=p.length:=by rw[Nat.mul_comm];exact hpl.symm
  refine it_bind (fun i=>(((List.range i).map fun r=>(p.drop (L*r)).take L).flatten,(i:Int))) k p rfl ?_ ?_ (by omega) ?_
  ·intro i hi
   have:=hfl i
   have hm:i*L<=k*L:=Nat.mul_le_mul_right _ (by omega)
   dsimp only
   rw[cd_pos (by omega),bs (hat i (by omega))]
   dsimp only[shC]
   rw[bs (hblk i hi),MT_unit h1 h2 h3 i hi,enc_unit p L k i hi hpl,bs (app_ok (by rw[List.length_take,List.length_drop];omega)),addI_1 (by omega),List.range_succ,List.map_append,List.flatten_append]
   simp
  ·dsimp only
   rw[cd_neg (by omega),chunks p L k hpl]
  have e1:mulI (j:Int) 64=((64*j:Nat):Int):=by rw[mulI_ok (by omega) (by omega)];omega
  have hm:minI (minI (p.length:Int) 64) (subI (b.length:Int) (mulI (j:Int) 64))=((((b.drop (64*j)).take 64).length:Nat):Int):=by
   rw[e1,subI_ok (by omega) (by omega),show(64:Int)=((64:Nat):Int)from rfl,minI_nat,show(b.length:Int)-((64*j:Nat):Int)=((b.length-64*j:Nat):Int)by omega,minI_nat,hsl]
   rw[hsl]at hpge
   omega
  rw[hm,if_pos (by omega),Int.toNat_natCast,List.drop_zero,Nat.sub_zero,hpt]
  have hlt:(b.take (64*j)).length=64*j:=by rw[List.length_take];omega
  have hnx:b.take (64*j)++(b.drop (64*j)).take 64=b.take (64*(j+1)):=by
   rw[Nat.mul_succ,List.take_add]
  rw[bs (app_ok (by rw[hsl,hlt];omega)),addI_1 (by omega),hnx]
 ·have:b.length<=64*nseg b.length:=by unfold nseg;omega
  dsimp only
  rw[cd_neg (show¬((nseg b.length:Nat):Int)<((shC u (prS k n b) (rowsS k n b) 0).2.2.2.1.length:Int)by omega),List.take_of_length_le this]
theorem p489:f489 b (mkU k n b.length 64 (crypt b) (rootS k n b))=some (shS (packC k n b.length 64 (crypt b) (rootS k n b)) k n b,0):=by
 have hs:=p46 h1 h2 h3 hb1 hb
 have lp:=packC_le k n b.length 64 (crypt b) (rootS k n b)
 have h48:=p48 b hb1 (by omega)
 have h47:=p47 k n b.length 64 (crypt b) (rootS k n b) (by omega) (by omega) (by omega) (by omega)
 have h53:f53 (mkU k n b.length 64 (crypt b) (rootS k n b))=some true:=by
  rw[p53,decide_eq_true]
  exact⟨⟨h1,h2,by omega,hb1,by omega⟩,rfl⟩
 rw[e489,t489]
 refine bt (a:=false) ?_ ?_
 ·rw[bs h53,cn_t];exact congrArg some (decide_eq_false (fun h=>h rfl))
 rw[cb_f]
 refine bt hs ?_
 dsimp only[mkU]
 refine bt (a:=false) ?_ ?_
 ·rw[bs h48,decide_eq_true (rfl:crypt b=crypt b),cn_t,decide_eq_true (rfl:rootS k n b=rootS k n b)];rfl
 rw[cb_f]
 refine bt h47 ?_
 have hl:=shS_len [] k n b
 generalize packC k n b.length 64 (crypt b) (rootS k n b)=U at*
 have hend:shS U k n b=(shS [] k n b).map fun s=>(s.1,U,s.2.2):=by simp[shS,shC]
 rw[hend]
 generalize shS [] k n b=l at*
 refine it_bind (fun i=>((i:Int),(l.take i).map (fun s=>(s.1,U,s.2.2))++l.drop i)) n (l.map fun s=>(s.1,U,s.2.2)) (by simp) ?_ ?_ (by omega) rfl
 ·intro i hi
  have hil:i<l.length:=by omega
  have hd:l.drop i=l[i]::l.drop (i+1):=List.drop_eq_getElem_cons hil
  have hlen:((l.take i).map (fun s=>((s.1,U,s.2.2):ShT))).length=i:=by simp;omega
  dsimp only
  rw[hl,cd_pos (by omega),bs (p91 _ (by omega)),if_pos (by simp;omega),addI_1 (by omega),Int.toNat_natCast,hd]
  have hg:((l.take i).map (fun s=>((s.1,U,s.2.2):ShT))++l[i]::l.drop (i+1)).getD i (0,[],[],[],())=l[i]:=by
   rw[List.getD_eq_getElem?_getD,List.getElem?_append_right (by omega),hlen,Nat.sub_self];rfl
  rw[hg,set_past _ _ _ _ _ hlen,tk l i hil,List.map_append,List.append_assoc];rfl
 ·dsimp only
  rw[hl,cd_neg (by omega),List.take_of_length_le (by omega),List.drop_eq_nil_of_le (by omega),List.append_nil]
end
theorem law530(x0:B)(x1 x2:Int):f530 x0 x1 x2=some true:=by
 have hd1:1<=(9::x0.take 140:B).length:=by simp
 have hd2:(9::x0.take 140:B).length<=256:=by simp;omega
 rw[e530,t530,bs (p4 x0)]
 generalize (9::x0.take 140:B)=d at*
 obtain⟨n',hn,e1⟩:=p6 x2 4 (by omega) (by omega)
 refine bt e1 ?_
 have a1:addI 1 (n':Int)=((n'+1:Nat):Int):=by rw[addI_ok (by omega) (by omega)];omega
 rw[a1]
 generalize hN:n'+1=n at*
 obtain⟨k',hk,e2⟩:=p6 x1 n (by omega) (by omega)
 refine bt e2 ?_
 have a2:addI 1 (k':Int)=((k'+1:Nat):Int):=by rw[addI_ok (by omega) (by omega)];omega
 rw[a2]
 generalize hK:k'+1=k at*
 have h1:1<=k:=by omega
 have h2:k<=n:=by omega
 have h3:n<=7∧k<=4:=by omega
 obtain⟨a,ha⟩:=arr16 (tagged cvT [d,beN 1 k,beN 1 n])
 have e485:=(p485 d k n (by omega) (by omega) (by omega)).trans ha
 have e19:=p19 a h1 h2 h3 hd1 hd2
 have e8:=p8 d (by omega)
 rw[bs e485,bs e19,bs e8,bs e485,bs e8,bs e19]
 have hs1:1<=(stream a d).length:=by rw[stream_len];exact hd1
 have hs2:(stream a d).length<=256:=by rw[stream_len];exact hd2
 have hU:uebC a d k n=packC k n (stream a d).length 64 (crypt (stream a d)) (rootS k n (stream a d)):=by unfold uebC;rw[stream_len]
 have lu:(uebC a d k n).length<=240:=packC_le _ _ _ _ _ _
 have hsl:=shS_len (uebC a d k n) k n (stream a d)
 have hok:=shS_ok h1 h2 h3 hs1 hs2 (uebC a d k n) (by omega)
 have e435:=p435 (shS (uebC a d k n) k n (stream a d)) (by omega) hok
 refine bt (a:=false) ?_ ?_
 ·dsimp only
  rw[cd_neg (by simp),cd_neg (by simp),cd_neg (by omega),bs (p427 _ (by simp[capC])),cn_t,bs e435];rfl
 rw[cb_f]
 have h0:at? (shS (uebC a d k n) k n (stream a d)) 0=some (shC (uebC a d k n) (prS k n (stream a d)) (rowsS k n (stream a d)) 0):=by
  rw[at_g0 (by omega) (shC (uebC a d k n) (prS k n (stream a d)) (rowsS k n (stream a d)) 0),shS,gd_range _ _ _ _ (by omega)]
 refine bt h0 ?_
 have hOk:OkU k n (stream a d).length:=⟨h1,h2,by omega,hs1,by omega⟩
 have e20:=(unpA (b:=uebC a d k n) ⟨hOk,hU⟩).1
 dsimp only[shC]
 rw[bs e20]
 dsimp only
 rw[cn_t]
 have e531:=p531 h1 h2 h3 hs1 hs2 (uebC a d k n)
 rw[stream_len]at e531
 have e489:=p489 h1 h2 h3 hs1 hs2
 rw[←hU]at e489
 rw[bs e531,bs (p8 (stream a d) (by omega)),bs e489]
 dsimp only
 rw[cd_pos (rfl:(0:Int)=0),bs e435,cb_t,cd_pos (show(capC a d k n).2.1=a from rfl),p439];rfl
end Mx
end
