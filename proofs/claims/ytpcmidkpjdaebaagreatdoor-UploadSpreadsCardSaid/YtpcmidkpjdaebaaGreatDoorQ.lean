/- UploadSpreads as a functional reading: it answers true for all arguments. No conditions. -/
import Derived.Test.YtpcmidkpjdaebaaGreatDoorG
import Derived.Test.YtpcmidkpjdaebaaGreatDoorP
set_option linter.unusedVariables false
set_option linter.unusedSimpArgs false
set_option linter.unusedSectionVars false
set_option maxRecDepth 100000
section
open Go Go.Proofs Ev Sx
namespace Mx
theorem p439:f439=some true:=rfl
theorem p433(a:List H)(h:a.length<=1000000):f433 a a=some true:=by
 rw[e433,t433,cd_neg (by omega)]
 refine it_bind (fun i=>(i:Int)) a.length (.inl ()) rfl ?_ ?_ (by omega) rfl
 ·intro i hi
  rw[cd_pos (by omega),bs (at_gd hi default),bs (at_gd hi default),decide_eq_true (rfl:a.getD i default=a.getD i default),cn_t,addI_1 (by omega)]
 ·rw[cd_neg (by omega)]
theorem p432(a:List B)(h:a.length<=1000000)(hb: ∀b∈a,b.length<1000000000):f432 a a=some true:=by
 rw[e432,t432,cd_neg (by omega)]
 refine it_bind (fun i=>(i:Int)) a.length (.inl ()) rfl ?_ ?_ (by omega) rfl
 ·intro i hi
  rw[cd_pos (by omega),bs (at_lt hi),bs (at_lt hi),bs (p13 _ (hb _ (List.getElem_mem hi))),cn_t,addI_1 (by omega)]
 ·rw[cd_neg (by omega)]
def okSh(s:ShT):Prop:=s.2.1.length<1000000000∧s.2.2.1.length<=1000000∧s.2.2.2.1.length<=1000000∧ ∀b∈s.2.2.2.1,b.length<1000000000
theorem p434(s:ShT)(h:okSh s):f434 s s=some true:=by
 obtain⟨h1,h2,h3,h4⟩:=h
 rw[e434,t434,cd_pos (rfl:s.1=s.1),bs (p13 _ h1),cb_t,bs (p433 _ h2),cb_t,bs (p432 _ h3 h4)];rfl
theorem p435(a:List ShT)(h:a.length<=1000000)(hb: ∀s∈a,okSh s):f435 a a=some true:=by
 rw[e435,t435,cd_neg (by omega)]
 refine it_bind (fun i=>(i:Int)) a.length (.inl ()) rfl ?_ ?_ (by omega) rfl
 ·intro i hi
  rw[cd_pos (by omega),bs (at_lt hi),bs (at_lt hi),bs (p434 _ (hb _ (List.getElem_mem hi))),cn_t,addI_1 (by omega)]
 ·rw[cd_neg (by omega)]
section
variable {k n : Nat} {b : B} (h1 : 1 <= k) (h2 : k <= n) (h3 : n <= 7 ∧ k <= 5) (hb1 : 1 <= b.length) (hb : b.length <= 256)
include h1 h2 h3 hb1 hb
theorem shS_ok(u:B)(hu:u.length<=1000): ∀s∈shS u k n b,okSh s:=fun s hs=>by
 obtain⟨i,hi,rfl⟩:=List.mem_map.1 hs
 have hi':=List.mem_range.1 hi
 have hg:=lg_le n
 have hns:=nseg13 h1 h2 h3 hb1 hb
 refine⟨by dsimp only[shC];omega,?_,?_,fun c hc=> ?_⟩
 ·dsimp only[shC,prS,proofC];simp;omega
 ·dsimp only[shC];rw[blk_len h1 h2 h3 hb1 hb];omega
 ·have:=blk_small h1 h2 h3 hb1 hb i hi' c hc;omega
theorem p489:f489 b (mkU k n b.length 64 (crypt b) (rootS k n b))=some (shS (packC k n b.length 64 (crypt b) (rootS k n b)) k n b,0):=by
 have hs:=p46 h1 h2 h3 hb1 hb
 have lp:=packC_le k n b.length 64 (crypt b) (rootS k n b)
 have h48:=p48 b hb1 (by omega)
 have h47:=p47 k n b.length 64 (crypt b) (rootS k n b) (by omega) (by omega) (by omega) (by omega)
 have h53:f53 (mkU k n b.length 64 (crypt b) (rootS k n b))=some true:=by
  rw[p53,decide_eq_true]
  exact⟨⟨h1,h2,by omega,hb1,by omega⟩,rfl⟩
 rw[e489,t489]
 refine bt (a:=false) ?_ ?_
 ·rw[bs h53,cn_t];exact congrArg some (decide_eq_false (fun h=>h rfl))
 rw[cb_f]
 refine bt hs ?_
 dsimp only[mkU]
 refine bt (a:=false) ?_ ?_
 ·rw[bs h48,decide_eq_true (rfl:crypt b=crypt b),cn_t,decide_eq_true (rfl:rootS k n b=rootS k n b)];rfl
 rw[cb_f]
 refine bt h47 ?_
 have hl:=shS_len [] k n b
 generalize packC k n b.length 64 (crypt b) (rootS k n b)=U at*
 have hend:shS U k n b=(shS [] k n b).map fun s=>(s.1,U,s.2.2):=by simp[shS,shC]
 rw[hend]
 generalize shS [] k n b=l at*
 refine it_bind (fun i=>((i:Int),(l.take i).map (fun s=>(s.1,U,s.2.2))++l.drop i)) n (l.map fun s=>(s.1,U,s.2.2)) (by simp) ?_ ?_ (by omega) rfl
 ·intro i hi
  have hil:i<l.length:=by omega
  have hd:l.drop i=l[i]::l.drop (i+1):=List.drop_eq_getElem_cons hil
  have hlen:((l.take i).map (fun s=>((s.1,U,s.2.2):ShT))).length=i:=by simp;omega
  dsimp only
  rw[hl,cd_pos (by omega),bs (p91 _ (by omega)),if_pos (by simp;omega),addI_1 (by omega),Int.toNat_natCast,hd]
  have hg:((l.take i).map (fun s=>((s.1,U,s.2.2):ShT))++l[i]::l.drop (i+1)).getD i (0,[],[],[],())=l[i]:=by
   rw[List.getD_eq_getElem?_getD,List.getElem?_append_right (by omega),hlen,Nat.sub_self];rfl
  rw[hg,set_past _ _ _ _ _ hlen,tk l i hil,List.map_append,List.append_assoc];rfl
 ·dsimp only
  rw[hl,cd_neg (by omega),List.take_of_length_le (by omega),List.drop_eq_nil_of_le (by omega),List.append_nil]
end
end Mx
end
section
open Go Go.Proofs Ev Sx
namespace Mx
theorem p42i(x:Int)(w:Nat)(hx:x<=9223372036854775807)(hw:w<=8):f42 x w=some (beN w x.toNat):=by
 by_cases h:x<0
 ·have e:x.toNat=0:=by omega
  have:=p42 0 w (by omega) hw
  rw[e42,t42,cd_neg (by omega)]at this
  rw[e,e42,t42,cd_pos h];exact this
 ·have e:x=(x.toNat:Int):=by omega
  have:=p42 x.toNat w (by omega) hw
  rwa[←e]at this
theorem p42i1(x:Int)(hx:x<=9223372036854775807):f42 x 1=some (beN 1 x.toNat):=p42i x 1 hx (by omega)
theorem p42i4(x:Int)(hx:x<=9223372036854775807):f42 x 4=some (beN 4 x.toNat):=p42i x 4 hx (by omega)
theorem p27i(K N Z G:Int)(c s:H)(h1:K<=1000000)(h2:N<=1000000)(h3:Z<=1000000)(h4:G<=1000000):f27 (K,N,Z,G,c,s,())=some (packC K.toNat N.toNat Z.toNat G.toNat c s):=by
 rw[e27,t27,bs (p42i1 _ (by dsimp only;omega)),bs (p42i1 _ (by dsimp only;omega)),bs (p42i4 _ (by dsimp only;omega)),bs (p42i4 _ (by dsimp only;omega)),tl32,tl32]
 exact bs (p63 _ (rowsU_short _ _ _ _ _ _))
theorem p94i(k n:Int):f94 k n=some (decide (1<=k∧k<=n∧n<=16)):=by
 rw[e94,t94]
 by_cases c1:1<=k
 ·by_cases c2:k<=n
  ·rw[cd_pos (by omega),cd_pos (by omega)]
   by_cases c3:n<=16
   ·rw[decide_eq_true c3,decide_eq_true (show 1<=k∧k<=n∧n<=16 from⟨c1,c2,c3⟩)];rfl
   ·rw[decide_eq_false c3,decide_eq_false (show¬(1<=k∧k<=n∧n<=16)from fun h=>c3 h.2.2)];rfl
  ·rw[cd_pos (by omega),cd_neg (by omega),decide_eq_false (show¬(1<=k∧k<=n∧n<=16)from fun h=>c2 h.2.1)];rfl
 ·rw[cd_neg (by omega),decide_eq_false (show¬(1<=k∧k<=n∧n<=16)from fun h=>c1 h.1)];rfl
def MayI(K N Z G:Int):Prop:=(1<=K∧K<=N∧N<=16)∧1<=Z∧Z<=1024∧G=64
instance (K N Z G:Int):Decidable (MayI K N Z G):=by unfold MayI;infer_instance
theorem p53i(K N Z G:Int)(c s:H):f53 (K,N,Z,G,c,s,())=some (decide (MayI K N Z G)):=by
 rw[e53,t53]
 dsimp only
 rw[p94i]
 by_cases c1:1<=K∧K<=N∧N<=16
 ·rw[decide_eq_true c1]
  show(Option.bind (bif decide (1<=Z)then _ else _) _)=_
  by_cases c2:1<=Z
  ·rw[cd_pos c2]
   by_cases c3:Z<=1024
   ·rw[cd_pos c3]
    by_cases c4:G=64
    ·rw[decide_eq_true c4,decide_eq_true (show MayI K N Z G from⟨c1,c2,c3,c4⟩)];rfl
    ·rw[decide_eq_false c4,decide_eq_false (show¬MayI K N Z G from fun h=>c4 h.2.2.2)];rfl
   ·rw[cd_neg c3,decide_eq_false (show¬MayI K N Z G from fun h=>c3 h.2.2.1)];rfl
  ·rw[cd_neg c2,decide_eq_false (show¬MayI K N Z G from fun h=>c2 h.2.1)];rfl
 ·rw[decide_eq_false c1,decide_eq_false (show¬MayI K N Z G from fun h=>c1 h.1)];rfl
theorem p10pack(k n z g:Nat)(c s:H)(hk:k<256)(hn:n<256)(hz:z<4294967296)(hg:g<4294967296): ∃u,f10 (packC k n z g c s)=some (u,decide (OkU k n z∧g=64)):=by
 have hl:=packC_len k n z g c s
 have hN:IsNets (packC k n z g c s) [beN 1 k,beN 1 n,beN 4 z,beN 4 g,c.toList,s.toList]:=⟨rowsU_small k n z g c s,rfl⟩
 rw[p10L (by omega) hN,uOf,getC_beN 1 k (by omega),getC_beN 1 n (by omega),getC_beN 4 z (by omega),getC_beN 4 g (by omega)]
 by_cases P:OkU k n z∧g=64
 ·rw[if_pos ⟨⟨by simp,by simp,by simp,by simp⟩,by simp,by simp,P.1,P.2⟩,decide_eq_true P];exact⟨_,rfl⟩
 ·rw[if_neg (fun h=>P ⟨h.2.2.2.1,h.2.2.2.2⟩),decide_eq_false P];exact⟨_,rfl⟩
theorem p12(k:V16)(b:B)(hb:b.length<=256):f12 k b=some (stream k b):=by
 rw[e12,t12,bs (p17 k b (by omega))]
theorem spread(b:B)(K N Z G:Int)(C S:H)(hb1:1<=b.length)(hb:b.length<=256)(hK:K<=200)(hN:N<=200)(hZ:Z<=1000)(hG:G<=1000)(hkn:K<=N->N<=7∧K<=5):
 ∃l e,f489 b (K,N,Z,G,C,S,())=some (l,e)∧f465 b (K,N,Z,G,C,S,())=some (l,e)∧l.length<=1000000∧ ∀s∈l,okSh s:=by
 have h27:=p27i K N Z G C S (by omega) (by omega) (by omega) (by omega)
 obtain⟨u0,h10⟩:=p10pack K.toNat N.toNat Z.toNat G.toNat C S (by omega) (by omega) (by omega) (by omega)
 have h53:=p53i K N Z G C S
 have none_: ∀s∈([]:List ShT),okSh s:=fun s hs=>by cases hs
 by_cases c:MayI K N Z G
 rotate_left
 ·refine⟨[],1,?_,?_,by simp,none_⟩
  ·rw[e489,t489]
   refine bt (a:=true) ?_ rfl
   rw[bs h53,decide_eq_false c];rfl
  ·rw[e465,t465,bs h27,bs h10]
   refine bt (a:=true) ?_ rfl
   rw[decide_eq_false (show¬(OkU K.toNat N.toNat Z.toNat∧G.toNat=64)from fun h=>c ?_)]
   ·rfl
   ·obtain⟨⟨q1,q2,q3,q4,q5⟩,q6⟩:=h
    exact⟨⟨by omega,by omega,by omega⟩,by omega,by omega,by omega⟩
 obtain⟨⟨c1,c2,c3⟩,c4,c5,c6⟩:=c
 have h3:=hkn c2
 obtain⟨k,rfl⟩: ∃k:Nat,K=k:=⟨K.toNat,by omega⟩
 obtain⟨n,rfl⟩: ∃n:Nat,N=n:=⟨N.toNat,by omega⟩
 obtain⟨z,rfl⟩: ∃z:Nat,Z=z:=⟨Z.toNat,by omega⟩
 subst c6
 have h1:1<=k:=by omega
 have h2:k<=n:=by omega
 have h3':n<=7∧k<=5:=by omega
 rw[decide_eq_true (show MayI (k:Int) (n:Int) (z:Int) 64 from⟨⟨c1,c2,c3⟩,c4,c5,rfl⟩)]at h53
 have hok:OkU (k:Int).toNat (n:Int).toNat (z:Int).toNat∧(64:Int).toNat=64:=⟨⟨by omega,by omega,by omega,by omega,by omega⟩,rfl⟩
 rw[decide_eq_true hok]at h10
 by_cases hz:z=b.length
 rotate_left
 ·refine⟨[],1,?_,?_,by simp,none_⟩
  ·rw[e489,t489]
   refine bt (a:=true) ?_ rfl
   rw[bs h53,cn_t];exact congrArg some (decide_eq_true (show(b.length:Int)≠(z:Int)by omega))
  ·rw[e465,t465,bs h27,bs h10]
   refine bt (a:=true) ?_ rfl
   dsimp only
   rw[cn_t,cd_neg (by omega),cd_neg (by omega),cd_pos (by omega)]
 subst hz
 have hs:=p46 h1 h2 h3' hb1 hb
 have hr:=p16 h1 h2 h3' hb1 hb
 have h48:=p48 b hb1 (by omega)
 have h28:=p28 b (by omega)
 have h15:=p15 b.length k n h1 h2 h3' hb1 hb
 have gP:((f53 ((k:Int),(n:Int),(b.length:Int),(64:Int),C,S,())).bind fun(r:Bool)=>bif !r then some true else some (decide ((↑b.length:Int)≠(b.length:Int))))=some false:=by
  rw[bs h53,cn_t];exact congrArg some (decide_eq_false (fun h=>h rfl))
 have gR:(bif !(u0,true).2 then some true else bif decide ((k:Int)<(0:Int))then some true else bif decide ((n:Int)<(0:Int))then some true else bif decide ((b.length:Int)≠(↑b.length:Int))then some true else(f15 (↑b.length:Int) (k:Int) (n:Int)).bind fun(r:Bool)=>bif !r then some true else some (decide ((64:Int)≠(64:Int))))=some false:=by
  rw[cn_t,cd_neg (by omega),cd_neg (by omega),cd_neg (by omega),bs h15];rfl
 by_cases hC:crypt b=C
 rotate_left
 ·refine⟨[],13,?_,?_,by simp,none_⟩
  ·rw[e489,t489]
   refine bt gP ?_
   rw[cb_f]
   refine bt hs ?_
   refine bt (a:=true) ?_ rfl
   rw[bs h48,decide_eq_false hC];rfl
  ·rw[e465,t465,bs h27,bs h10]
   refine bt gR ?_
   rw[cb_f,bs h28,decide_eq_false hC];rfl
 subst hC
 by_cases hS:rootS k n b=S
 rotate_left
 ·refine⟨[],13,?_,?_,by simp,none_⟩
  ·rw[e489,t489]
   refine bt gP ?_
   rw[cb_f]
   refine bt hs ?_
   refine bt (a:=true) ?_ rfl
   rw[bs h48,decide_eq_true (rfl:crypt b=crypt b),cn_t,decide_eq_false hS];rfl
  ·rw[e465,t465,bs h27,bs h10]
   refine bt gR ?_
   rw[cb_f,bs h28,decide_eq_true (rfl:crypt b=crypt b),cn_t]
   refine bt hr ?_
   dsimp only[mkU]
   rw[decide_eq_false hS];rfl
 subst hS
 refine⟨_,_,p489 h1 h2 h3' hb1 hb,?_,by rw[shS_len];omega,shS_ok h1 h2 h3' hb1 hb _ (by have:=packC_le k n b.length 64 (crypt b) (rootS k n b);omega)⟩
 rw[e465,t465,bs h27,bs h10]
 refine bt gR ?_
 rw[cb_f,bs h28,decide_eq_true (rfl:crypt b=crypt b),cn_t]
 refine bt hr ?_
 dsimp only[mkU]
 rw[decide_eq_true (rfl:rootS k n b=rootS k n b)];rfl
theorem rem_lt(x:Int)(n:Nat)(h:1<=n)(hn:n<=1000): ∃c,remI x (n:Int)=some c∧ -(n:Int)<c∧c<(n:Int):=by
 have h1:=Int.tmod_lt_of_pos x (show(0:Int)<(n:Int)by omega)
 have h2: -(n:Int)<x.tmod (n:Int):=Int.lt_tmod_of_pos x (show(0:Int)<(n:Int)by omega)
 exact⟨_,by unfold remI;rw[if_neg (by omega)],h2,h1⟩
theorem law438(x0:V16)(x1:B)(x2 x3 x4 x5:Int):f438 x0 x1 x2 x3 x4 x5=some true:=by
 have hd1:1<=(9::x1.take 140:B).length:=by simp
 have hd2:(9::x1.take 140:B).length<=141:=by simp;omega
 rw[e438,t438,bs (p4 x1)]
 generalize (9::x1.take 140:B)=d at*
 obtain⟨n',hn,e1⟩:=p6 x3 5 (by omega) (by omega)
 refine bt e1 ?_
 have a1:addI 1 (n':Int)=((n'+1:Nat):Int):=by rw[addI_ok (by omega) (by omega)];omega
 rw[a1]
 generalize hN:n'+1=n at*
 obtain⟨k',hk,e2⟩:=p6 x2 n (by omega) (by omega)
 refine bt e2 ?_
 have a2:addI 1 (k':Int)=((k'+1:Nat):Int):=by rw[addI_ok (by omega) (by omega)];omega
 rw[a2]
 generalize hK:k'+1=k at*
 have h1:1<=k:=by omega
 have h2:k<=n:=by omega
 have h3:n<=7∧k<=5:=by omega
 have h7:=p7 x0 h1 h2 h3 hd1 (by omega)
 have hs1:1<=(stream x0 d).length:=by rw[stream_len];exact hd1
 have hl:(stream x0 d).length=d.length:=stream_len _ _
 have hOk:OkU k n (stream x0 d).length:=⟨h1,h2,by omega,hs1,by omega⟩
 have hU:uebC x0 d k n=packC k n (stream x0 d).length 64 (crypt (stream x0 d)) (rootS k n (stream x0 d)):=by unfold uebC;rw[stream_len]
 have h10:=(unpA (b:=uebC x0 d k n) ⟨hOk,hU⟩).2
 have h12:=p12 x0 d (by omega)
 have hsl:=shS_len (uebC x0 d k n) k n (stream x0 d)
 have h0:at? (shS (uebC x0 d k n) k n (stream x0 d)) 0=some (shC (uebC x0 d k n) (prS k n (stream x0 d)) (rowsS k n (stream x0 d)) 0):=by
  rw[at_g0 (by omega) (shC (uebC x0 d k n) (prS k n (stream x0 d)) (rowsS k n (stream x0 d)) 0),shS,gd_range _ _ _ _ (by omega)]
 rw[bs h7]
 refine bt h0 ?_
 dsimp only[shC]
 rw[bs h10,bs h12]
 generalize stream x0 d=c at*
 generalize crypt c=C at*
 generalize rootS k n c=S at*
 obtain⟨w,hw,e6⟩:=p6 x4 7 (by omega) (by omega)
 refine bt e6 ?_
 dsimp only[mkU]
 have key: ∀(b':B) (K N Z G:Int) (C S:H),b'.length=c.length->K<=200->N<=200->Z<=1000->G<=1000->(K<=N->N<=7∧K<=5)->
  ((f489 b' (K,N,Z,G,C,S,())).bind fun(r:List ShT×Int)=>(f465 b' (K,N,Z,G,C,S,())).bind fun(r_6:List ShT×Int)=>(bif decide (r.2=r_6.2)then(f435 r.1 r_6.1).bind fun(r:Bool)=>bif r then(f439).bind fun(r:Bool)=>some r else some false else some false).bind fun(x:Bool)=>some x)=some true:=fun b' K N Z G C S hb q1 q2 q3 q4 q5=>by
  obtain⟨l,e,g1,g2,g3,g4⟩:=spread b' K N Z G C S (by omega) (by omega) q1 q2 q3 q4 q5
  rw[bs g1,bs g2]
  dsimp only
  rw[cd_pos (rfl:e=e),bs (p435 l g3 g4),cb_t,p439];rfl
 have hw7:w=0∨w=1∨w=2∨w=3∨w=4∨w=5∨w=6:=by omega
 rcases hw7 with rfl|rfl|rfl|rfl|rfl|rfl|rfl
 ·refine bt (a:=(((k:Int),(n:Int),(c.length:Int),(64:Int),C,S,()),c)) rfl ?_
  exact key c _ _ _ _ _ _ rfl (by omega) (by omega) (by omega) (by omega) (by omega)
 ·obtain⟨p,hp,e7⟩:=p6 x5 c.length (by omega) (by omega)
  refine bt (a:=(((k:Int),(n:Int),(c.length:Int),(64:Int),C,S,()),c.set p (c.getD p 0^^^1))) ?_ ?_
  ·rw[cd_pos (by omega),bs e7,if_pos (by omega),if_pos (by omega)];rfl
  ·exact key _ _ _ _ _ _ _ (by simp) (by omega) (by omega) (by omega) (by omega) (by omega)
 ·refine bt (a:=(((k:Int),(n:Int),(c.length:Int),(64:Int),C,S.setIfInBounds 3 (S[3]?.getD 0^^^1),()),c)) rfl ?_
  exact key c _ _ _ _ _ _ rfl (by omega) (by omega) (by omega) (by omega) (by omega)
 ·refine bt (a:=(((k:Int),(n:Int),addI (c.length:Int) 1,(64:Int),C,S,()),c)) rfl ?_
  rw[addI_1 (by omega)]
  exact key c _ _ _ _ _ _ rfl (by omega) (by omega) (by omega) (by omega) (by omega)
 ·obtain⟨v,e7,v1,v2⟩:=rem_lt x5 3 (by omega) (by omega)
  have e7':remI x5 3=some v:=e7
  refine bt (a:=((addI (k:Int) (subI v 1),(n:Int),(c.length:Int),(64:Int),C,S,()),c)) ?_ ?_
  ·rw[cd_neg (by omega),cd_neg (by omega),cd_neg (by omega),cd_pos (by omega),bs e7'];rfl
  ·rw[subI_ok (by omega) (by omega),addI_ok (by omega) (by omega)]
   exact key c _ _ _ _ _ _ rfl (by omega) (by omega) (by omega) (by omega) (by omega)
 ·obtain⟨v,e7,v1,v2⟩:=rem_lt x5 70 (by omega) (by omega)
  have e7':remI x5 70=some v:=e7
  refine bt (a:=(((k:Int),(n:Int),(c.length:Int),v,C,S,()),c)) ?_ ?_
  ·rw[cd_neg (by omega),cd_neg (by omega),cd_neg (by omega),cd_neg (by omega),cd_pos (by omega),bs e7'];rfl
  ·exact key c _ _ _ _ _ _ rfl (by omega) (by omega) (by omega) (by omega) (by omega)
 ·obtain⟨v,e7,v1,v2⟩:=rem_lt x5 5 (by omega) (by omega)
  have e7':remI x5 5=some v:=e7
  refine bt (a:=(((k:Int),addI (n:Int) (subI v 2),(c.length:Int),(64:Int),C,S,()),c)) ?_ ?_
  ·rw[cd_neg (by omega),cd_neg (by omega),cd_neg (by omega),cd_neg (by omega),cd_neg (by omega),cd_pos (by omega),bs e7'];rfl
  ·rw[subI_ok (by omega) (by omega),addI_ok (by omega) (by omega)]
   exact key c _ _ _ _ _ _ rfl (by omega) (by omega) (by omega) (by omega) (by omega)
end Mx
end
