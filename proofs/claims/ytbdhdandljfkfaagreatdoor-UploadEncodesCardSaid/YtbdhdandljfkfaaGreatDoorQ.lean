/- UploadEncodes as a functional reading: it answers true for all arguments. No conditions. -/
import Derived.Test.YtbdhdandljfkfaaGreatDoorG
import Derived.Test.YtbdhdandljfkfaaGreatDoorP
set_option linter.unusedVariables false
set_option linter.unusedSimpArgs false
set_option linter.unusedSectionVars false
set_option maxRecDepth 100000
section
open Go Go.Proofs Ev Sx
namespace Mx
theorem p439:f439=some true:=rfl
theorem p427(c:Cp)(h:c.2.2.2.2.2.2.1.length<1000000000):f427 c c=some true:=by
 rw[e427,t427,cd_pos (rfl:c.1=c.1),cd_pos (rfl:c.2.1=c.2.1),cd_pos (rfl:c.2.2.1=c.2.2.1),cd_pos (rfl:c.2.2.2.1=c.2.2.2.1),cd_pos (rfl:c.2.2.2.2.1=c.2.2.2.2.1),cd_pos (rfl:c.2.2.2.2.2.1=c.2.2.2.2.2.1),bs (p13 _ h)];rfl
theorem p433(a:List H)(h:a.length<=1000000):f433 a a=some true:=by
 rw[e433,t433,cd_neg (by omega)]
 refine it_bind (fun i=>(i:Int)) a.length (.inl ()) rfl ?_ ?_ (by omega) rfl
 ·intro i hi
  rw[cd_pos (by omega),bs (at_gd hi default),bs (at_gd hi default),decide_eq_true (rfl:a.getD i default=a.getD i default),cn_t,addI_1 (by omega)]
 ·rw[cd_neg (by omega)]
theorem p432(a:List B)(h:a.length<=1000000)(hb: ∀b∈a,b.length<1000000000):f432 a a=some true:=by
 rw[e432,t432,cd_neg (by omega)]
 refine it_bind (fun i=>(i:Int)) a.length (.inl ()) rfl ?_ ?_ (by omega) rfl
 ·intro i hi
  rw[cd_pos (by omega),bs (at_lt hi),bs (at_lt hi),bs (p13 _ (hb _ (List.getElem_mem hi))),cn_t,addI_1 (by omega)]
 ·rw[cd_neg (by omega)]
def okSh(s:ShT):Prop:=s.2.1.length<1000000000∧s.2.2.1.length<=1000000∧s.2.2.2.1.length<=1000000∧ ∀b∈s.2.2.2.1,b.length<1000000000
theorem p434(s:ShT)(h:okSh s):f434 s s=some true:=by
 obtain⟨h1,h2,h3,h4⟩:=h
 rw[e434,t434,cd_pos (rfl:s.1=s.1),bs (p13 _ h1),cb_t,bs (p433 _ h2),cb_t,bs (p432 _ h3 h4)];rfl
theorem p435(a:List ShT)(h:a.length<=1000000)(hb: ∀s∈a,okSh s):f435 a a=some true:=by
 rw[e435,t435,cd_neg (by omega)]
 refine it_bind (fun i=>(i:Int)) a.length (.inl ()) rfl ?_ ?_ (by omega) rfl
 ·intro i hi
  rw[cd_pos (by omega),bs (at_lt hi),bs (at_lt hi),bs (p434 _ (hb _ (List.getElem_mem hi))),cn_t,addI_1 (by omega)]
 ·rw[cd_neg (by omega)]
theorem p176(t:B)(l:List B)(h:Short l)(ht:t.length<100000):f176 t l=toArr 16 (List.take 16 (List.drop 0 (tagged t l).toList)):=by
 rw[e176,t176,bs (p90 t l h ht)]
 cases toArr 16 (List.take 16 (List.drop 0 (tagged t l).toList))<;>rfl
theorem arr16(h:H): ∃v:V16,toArr 16 (List.take 16 (List.drop 0 h.toList))=some v:=by
 unfold toArr
 rw[dif_pos (by simp)]
 exact⟨_,rfl⟩
def cvT:B:=[99,111,110,118,101,114,103,101,110,116]
theorem p42i(x:Int)(w:Nat)(hx:x<=9223372036854775807)(hw:w<=8):f42 x w=some (beN w x.toNat):=by
 by_cases h:x<0
 ·have e:x.toNat=0:=by omega
  have:=p42 0 w (by omega) hw
  rw[e42,t42,cd_neg (by omega)]at this
  rw[e,e42,t42,cd_pos h];exact this
 ·have e:x=(x.toNat:Int):=by omega
  have:=p42 x.toNat w (by omega) hw
  rwa[←e]at this
theorem p89i(x:Int)(w:Nat)(hx:x<=9223372036854775807)(hw:w<=8):f89 x w=some (beN w x.toNat):=by
 by_cases h:x<0
 ·have e:x.toNat=0:=by omega
  have:=p89 0 w (by omega) hw
  have m:maxI 0 x=maxI 0 ((0:Nat):Int):=by unfold maxI;split<;>split<;>omega
  rw[e89,t89]at this
  rw[e,e89,t89,m];exact this
 ·have e:x=(x.toNat:Int):=by omega
  have:=p89 x.toNat w (by omega) hw
  rwa[←e]at this
theorem cvS(b:B)(k n:Nat)(hb:b.length<100000):Short [b,beN 1 k,beN 1 n]:=⟨fun c hc=>by
 simp only[List.mem_cons,List.mem_nil_iff,or_false]at hc
 rcases hc with rfl|rfl|rfl
 ·exact hb
 ·simp
 ·simp,by simp⟩
theorem p485i(b:B)(k n:Int)(hb:b.length<100000)(hk:k<=9223372036854775807)(hn:n<=9223372036854775807):f485 b k n=toArr 16 (List.take 16 (List.drop 0 (tagged cvT [b,beN 1 k.toNat,beN 1 n.toNat]).toList)):=by
 rw[e485,t485]
 refine bt (p89i k 1 hk (by omega)) ?_
 refine bt (p89i n 1 hn (by omega)) ?_
 show(f176 cvT [b,beN 1 k.toNat,beN 1 n.toNat]).bind _=_
 rw[p176 _ _ (cvS b _ _ hb) (by decide)]
 cases toArr 16 (List.take 16 (List.drop 0 (tagged cvT [b,beN 1 k.toNat,beN 1 n.toNat]).toList))<;>rfl
def vS(h:H)(i:Nat):V16:=Vector.ofFn fun j:Fin 16=>if j.val<i then h[j.val]'(by omega)else 0
theorem vS_set(h:H)(i:Nat)(hi:i<16):(vS h i).setIfInBounds i (h[i]?.getD 0)=vS h (i+1):=by
 ext j hj
 simp only[vS,Vector.getElem_setIfInBounds,Vector.getElem_ofFn]
 by_cases c:i=j
 ·subst c
  simp[show i<32 by omega]
 ·rw[if_neg c]
  by_cases d:j<i
  ·rw[if_pos d,if_pos (by omega)]
  ·rw[if_neg d,if_neg (by omega)]
theorem vS_arr(h:H):toArr 16 (List.take 16 (List.drop 0 h.toList))=some (vS h 16):=by
 unfold toArr
 rw[dif_pos (by simp)]
 congr 1
 ext j hj
 simp[vS,hj]
theorem p446(t:B)(l:List B)(h:Short l)(ht:t.length<100000):f446 t l=toArr 16 (List.take 16 (List.drop 0 (tagged t l).toList)):=by
 rw[e446,t446,bs (p44 t l h ht),vS_arr]
 generalize tagged t l=r
 refine it_bind (fun i=>((i:Int),vS r i)) 16 (vS r 16) ?_ ?_ ?_ (by omega) rfl
 ·refine Prod.ext rfl ?_
  show Vector.replicate 16 0=vS r 0
  ext j hj
  simp[vS]
 ·intro i hi
  dsimp only
  rw[cd_pos (by omega),if_pos (by omega),if_pos (by omega),addI_1 (by omega)]
  rw[Int.toNat_natCast,vS_set r i hi]
 ·dsimp only
  rw[cd_neg (by omega)]
theorem p462i(b:B)(k n:Int)(hb:b.length<100000)(hk:k<=9223372036854775807)(hn:n<=9223372036854775807):f462 b k n=toArr 16 (List.take 16 (List.drop 0 (tagged cvT [b,beN 1 k.toNat,beN 1 n.toNat]).toList)):=by
 rw[e462,t462]
 refine bt (p42i k 1 hk (by omega)) ?_
 refine bt (p42i n 1 hn (by omega)) ?_
 show(f446 cvT [b,beN 1 k.toNat,beN 1 n.toNat]).bind _=_
 rw[p446 _ _ (cvS b _ _ hb) (by decide)]
 cases toArr 16 (List.take 16 (List.drop 0 (tagged cvT [b,beN 1 k.toNat,beN 1 n.toNat]).toList))<;>rfl
def OkArgs(L:Nat)(k n:Int):Prop:=1<=L∧L<=1024∧1<=k∧k<=n∧n<=16
theorem p45N(b:B)(k n:Int)(h: ¬OkArgs b.length k n):f45 b k n=some false:=by
 rw[e45,t45]
 refine bt (a:=false) ?_ rfl
 by_cases c1:(1:Int)<=b.length
 ·rw[cd_pos c1]
  by_cases c2:(b.length:Int)<=1024
  ·rw[cd_pos c2]
   by_cases c3:1<=k
   ·rw[cd_pos c3]
    by_cases c4:k<=n
    ·rw[cd_pos c4,decide_eq_false (show¬n<=16 from fun c5=>h ⟨by omega,by omega,c3,c4,c5⟩)]
    ·rw[cd_neg c4]
   ·rw[cd_neg c3]
  ·rw[cd_neg c2]
 ·rw[cd_neg c1]
theorem p15N(b:B)(k n:Int)(h: ¬OkArgs b.length k n):f15 (b.length:Int) k n=some false:=by
 rw[e15,t15]
 refine bt (a:=false) ?_ rfl
 by_cases c1:(1:Int)<=b.length
 ·rw[cd_pos c1]
  by_cases c2:(b.length:Int)<=1024
  ·rw[cd_pos c2]
   by_cases c3:1<=k
   ·rw[cd_pos c3]
    by_cases c4:k<=n
    ·rw[cd_pos c4,decide_eq_false (show¬n<=16 from fun c5=>h ⟨by omega,by omega,c3,c4,c5⟩)]
    ·rw[cd_neg c4]
   ·rw[cd_neg c3]
  ·rw[cd_neg c2]
 ·rw[cd_neg c1]
theorem shS_ok6{k n:Nat}{b:B}(h1:1<=k)(h2:k<=n)(h3:n<=7∧k<=6)(hb1:1<=b.length)(hb:b.length<=256)(u:B)(hu:u.length<=1000): ∀s∈shS u k n b,okSh s:=fun s hs=>by
 obtain⟨i,hi,rfl⟩:=List.mem_map.1 hs
 have hi':=List.mem_range.1 hi
 have hg:=lg_le n
 have hns:=nseg13 h1 h2 h3 hb1 (.inl hb)
 refine⟨by dsimp only[shC];omega,?_,?_,fun c hc=> ?_⟩
 ·dsimp only[shC,prS,proofC];simp;omega
 ·dsimp only[shC];rw[blk_len h1 h2 h3 hb1 (.inl hb)];omega
 ·have:=blk_small h1 h2 h3 hb1 (.inl hb) i hi' c hc;omega
theorem enc_same(x0:V16)(d:B)(k n:Int)(hd:d.length<=200)(hkn:(1<=k∧k<=n∧n<=6)∨ ¬(1<=k∧k<=n∧n<=16)):
 ∃c l e,f19 x0 d k n=some (c,l,e)∧f7 x0 d k n=some (c,l,e)∧c.2.2.2.2.2.2.1.length<1000000000∧l.length<=1000000∧ ∀s∈l,okSh s:=by
 by_cases h:OkArgs d.length k n
 ·have h6:1<=k∧k<=n∧n<=6:=hkn.resolve_right fun q=>q ⟨h.2.2.1,h.2.2.2.1,h.2.2.2.2⟩
  obtain⟨a,rfl⟩: ∃a:Nat,k=a:=⟨k.toNat,by omega⟩
  obtain⟨m,rfl⟩: ∃m:Nat,n=m:=⟨n.toNat,by omega⟩
  have h1:1<=a:=by omega
  have h2:a<=m:=by omega
  have h3:m<=7∧a<=6:=by omega
  have hb1:1<=d.length:=h.1
  have hsl:(stream x0 d).length=d.length:=stream_len _ _
  have lu:(uebC x0 d a m).length<=240:=packC_le _ _ _ _ _ _
  have hok:=shS_ok6 (b:=stream x0 d) h1 h2 h3 (by omega) (by omega) (uebC x0 d a m) (by omega)
  exact⟨_,_,_,p19 (k:=a) (n:=m) x0 h1 h2 h3 hb1 (.inl (by omega)),p7 (k:=a) (n:=m) x0 h1 h2 h3 hb1 (.inl (by omega)),by simp[capC],by rw[shS_len];omega,hok⟩
 ·refine⟨((0:Int),Vector.replicate 16 (0:UInt8),Vector.replicate 32 (0:UInt8),(0:Int),(0:Int),(0:Int),[],()),[],1,?_,?_,by simp,by simp,fun s hs=>by cases hs⟩
  ·rw[e19,t19,bs (p45N _ _ _ h)];rfl
  ·rw[e7,t7,bs (p15N _ _ _ h)];rfl
theorem law436(x0:V16)(x1:B)(x2 x3:Int)(x4:Bool)(h2:x2<=9223372036854775807)(h3:x3<=9223372036854775807):f436 x0 x1 x2 x3 x4=some true:=by
 rw[e436]
 unfold t436
 refine bt (p5 x1 200) ?_
 obtain⟨d,hd,ed⟩: ∃d:B,d.length<=200∧(bif x4 then some []else some (x1.take 200))=some d:=by
  cases x4
  ·exact⟨x1.take 200,by simp;omega,rfl⟩
  ·exact⟨[],by simp,rfl⟩
 refine bt ed ?_
 clear ed
 refine bt (a:=decide (0<x2∧x2<=x3∧x3<=16∧6<x3)) ?_ ?_
 ·by_cases c1:0<x2
  ·rw[cd_pos c1]
   by_cases c2:x2<=x3
   ·rw[cd_pos c2]
    by_cases c3:x3<=16
    ·rw[cd_pos c3];congr 1;exact decide_eq_decide.2 ⟨fun c=>⟨c1,c2,c3,c⟩,fun c=>c.2.2.2⟩
    ·rw[cd_neg c3,decide_eq_false (show¬(0<x2∧x2<=x3∧x3<=16∧6<x3)from fun q=>c3 q.2.2.1)]
   ·rw[cd_neg c2,decide_eq_false (show¬(0<x2∧x2<=x3∧x3<=16∧6<x3)from fun q=>c2 q.2.1)]
  ·rw[cd_neg c1,decide_eq_false (show¬(0<x2∧x2<=x3∧x3<=16∧6<x3)from fun q=>c1 q.1)]
 obtain⟨k,n,ek,hk,hn,hkn⟩: ∃k n:Int,(bif decide (0<x2∧x2<=x3∧x3<=16∧6<x3)then(remI x3 (6:Int)).bind fun(c:Int)=>(remI x2 (addI (1:Int) c)).bind fun(e:Int)=>some (addI (1:Int) e,addI (1:Int) c)else some (x2,x3))=some (k,n)∧k<=9223372036854775807∧n<=9223372036854775807∧((1<=k∧k<=n∧n<=6)∨ ¬(1<=k∧k<=n∧n<=16)):=by
  by_cases hg:0<x2∧x2<=x3∧x3<=16∧6<x3
  ·rw[cd_pos hg]
   obtain⟨a,rfl⟩: ∃a:Nat,x2=a:=⟨x2.toNat,by omega⟩
   obtain⟨m,rfl⟩: ∃m:Nat,x3=m:=⟨x3.toNat,by omega⟩
   have e1:remI (m:Int) 6=some ((m%6:Nat):Int):=remI_nat (b:=6) (by omega)
   have l1:m%6<6:=Nat.mod_lt _ (by omega)
   have a1:addI 1 ((m%6:Nat):Int)=((1+m%6:Nat):Int):=by rw[addI_ok (by omega) (by omega)];omega
   have e2:remI (a:Int) ((1+m%6:Nat):Int)=some ((a%(1+m%6):Nat):Int):=remI_nat (by omega)
   have l2:a%(1+m%6)<1+m%6:=Nat.mod_lt _ (by omega)
   have a2:addI 1 ((a%(1+m%6):Nat):Int)=((1+a%(1+m%6):Nat):Int):=by rw[addI_ok (by omega) (by omega)];omega
   refine⟨((1+a%(1+m%6):Nat):Int),((1+m%6:Nat):Int),?_,by omega,by omega, .inl ⟨by omega,by omega,by omega⟩⟩
   rw[bs e1,a1,bs e2,a2]
  ·rw[cd_neg hg]
   exact⟨x2,x3,rfl,h2,h3,by omega⟩
 refine bt ek ?_
 clear ek
 have aL:addI (d.length:Int) 3=((d.length+3:Nat):Int):=by rw[addI_ok (by omega) (by omega)];omega
 have w0:(((d.length+3:Nat):Int)).toNat-(0:Int).toNat=d.length+3:=by rw[Int.toNat_natCast];rfl
 have hp:lput (List.replicate (d.length+3) (0:UInt8)) 0 (List.take d.length d)=d++List.replicate 3 0:=by
  unfold lput
  rw[List.take_length]
  simp[List.drop_replicate]
 dsimp only
 rw[aL,w0,Int.toNat_natCast,if_pos (by omega),bs (zeros_ok (by omega)),hp,if_pos ⟨by omega,by omega,by simp⟩]
 refine it_bind (fun i=>(((d.length+i:Nat):Int),d++(List.replicate i 85++List.replicate (3-i) 0))) 3 (d++[85,85,85]) ?_ ?_ ?_ (by omega) ?_
 ·simp
 ·intro i hi
  dsimp only
  have hz:(0:Int).toNat+((d.length+i:Nat):Int).toNat=d.length+i:=by rw[Int.toNat_natCast];exact Nat.zero_add _
  rw[cd_pos (by omega),if_pos (by omega),addI_1 (by omega),hz]
  refine congrArg (fun z=>some (Sum.inl z)) (Prod.ext (by dsimp only;omega) ?_)
  have:i=0∨i=1∨i=2:=by omega
  rcases this with rfl|rfl|rfl<;>simp[List.set_append]
 ·dsimp only
  rw[cd_neg (by omega)];simp
 have hr:List.take d.length (List.drop 0 (d++[(85:UInt8),85,85]))=d:=by simp
 rw[hr]
 obtain⟨c,l,e,e19,e7,hc,hl,hs⟩:=enc_same x0 d k n hd hkn
 refine bt e19 ?_
 refine bt e7 ?_
 dsimp only
 have hlen:(d++[(85:UInt8),85,85]).length=d.length+3:=by simp
 refine bt (a:=true) ?_ rfl
 rw[cd_pos (rfl:e=e),bs (p427 c hc),cb_t,bs (p435 l hl hs),cb_t,hlen]
 refine bt (a:=false) ?_ ?_
 ·rw[cd_neg (by simp),decide_eq_false (by simp)]
 rw[cb_f,if_pos (by omega)]
 refine it_bind (fun i=>(i:Int)) (d.length+3) (.inl ()) rfl ?_ ?_ (by omega) ?_
 ·intro i hi
  rw[cd_pos (by omega)]
  refine bt (a:=false) ?_ (by rw[cb_f,addI_1 (by omega)])
  have hz:(0:Int).toNat+((i:Int)).toNat=i:=by simp
  rw[hz]
  by_cases ci:i<d.length
  ·rw[cd_pos (by omega),if_pos (by omega),bs (at_lt ci)]
   rw[cd_neg (show¬((d++[(85:UInt8),85,85]).getD i 0≠d[i])by simp[List.getD_eq_getElem?_getD,List.getElem?_append_left ci,ci]),cd_neg (by omega)]
  ·rw[cd_neg (by omega),cd_pos (by omega),if_pos (by omega)]
   congr 1
   refine decide_eq_false ?_
   have:i=d.length∨i=d.length+1∨i=d.length+2:=by omega
   rcases this with rfl|rfl|rfl<;>simp[List.getD_eq_getElem?_getD,List.getElem?_append_right]
 ·rw[cd_neg (by omega)]
 ·show(f485 d k n).bind _=_
  obtain⟨v,hv⟩:=arr16 (tagged cvT [d,beN 1 k.toNat,beN 1 n.toNat])
  rw[bs ((p485i d k n (by omega) hk hn).trans hv),bs ((p462i d k n (by omega) hk hn).trans hv),cd_pos rfl,p439];rfl
end Mx
end
