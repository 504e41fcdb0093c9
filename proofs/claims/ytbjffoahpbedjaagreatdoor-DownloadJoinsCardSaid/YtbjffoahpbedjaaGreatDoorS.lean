/- Plain laws of right shares. No conditions. -/
import Derived.Test.YtbjffoahpbedjaaGreatDoorQ
import Derived.Test.YtbjffoahpbedjaaGreatDoorO
import Derived.Test.YtbjffoahpbedjaaGreatDoorP
import Derived.Test.YtbjffoahpbedjaaGreatDoorH
set_option linter.unusedVariables false
set_option linter.unusedSimpArgs false
set_option linter.unusedSectionVars false
set_option maxRecDepth 100000
section
open Go Go.Proofs Ev Sx
namespace Mx
theorem q128:f128=t128:=funext fun a=>e128 a
theorem p244_all:(List.range 17).all (fun n=>decide (t244 t128 (n:Int)=some ((lg n:Nat):Int)))=true:=by kernel_rfl
theorem p244(n:Nat)(h:n<=16):f244 (n:Int)=some ((lg n:Nat):Int):=by
 rw[e244,q128];exact of_decide_eq_true (all_of p244_all n (by omega))
theorem q103(n:Nat)(h:n<=16):f103 (n:Int)=some ((padN n:Nat):Int):=p103 n h
noncomputable def climbC:Nat->H->List H->H
 |_,h,[]=>h
 |i,h,p::ps=>climbC (i/2) (if i%2=1 then node p h else node h p) ps
theorem climb_snoc: ∀(ps:List H) (i:Nat) (h p:H),climbC i h (ps++[p])=if i/2^ps.length%2=1 then node p (climbC i h ps)else node (climbC i h ps) p
 |[],i,h,p=>by simp[climbC]
 |q::ps,i,h,p=>by
  rw[List.cons_append,climbC,climb_snoc ps,climbC,List.length_cons,Nat.pow_succ,Nat.mul_comm,Nat.div_div_eq_div_mul]
theorem remI_2{a:Nat}:remI (a:Int) 2=some ((a%2:Nat):Int):=remI_nat (b:=2) (by omega)
theorem p224(n i:Nat)(h:H)(ps:List H)(hn:n<=16)(hi:i<n)(hp:ps.length=lg n): ∃out,f224 (n:Int) (i:Int) h ps=some (out,climbC i h ps,true):=by
 have hlg:=lg_le n
 have key: ∀m,m<=ps.length-> ∃out:List (Vector H 2),out.length=m∧ ∀(β:Type) (F:List (Vector H 2)×H->Option β) (z:Option β),True:=fun m _=>⟨List.replicate m (vecOf 2 [h,h] h),by simp,fun _ _ _=>trivial⟩
 let pr:Nat->Vector H 2:=fun j=>if i/2^j%2=1 then vecOf 2 [ps.getD j default,climbC i h (ps.take j)] (Vector.replicate 32 0)else vecOf 2 [climbC i h (ps.take j),ps.getD j default] (Vector.replicate 32 0)
 refine⟨(List.range ps.length).map pr,?_⟩
 rw[e224,t224,cd_neg (by omega),cd_neg (by omega),cd_neg (by omega)]
 refine bt (a:=false) ?_ ?_
 ·rw[bs (p244 n hn),hp];simp
 rw[cb_f]
 refine it_bind (fun j=>(((i/2^j:Nat):Int),(List.range j).map pr,(j:Int),climbC i h (ps.take j))) ps.length ((List.range ps.length).map pr,climbC i h ps) (by simp[climbC]) ?_ ?_ (by omega) rfl
 ·intro j hj
  have hd:i/2^j<=i:=Nat.div_le_self _ _
  dsimp only
  rw[cd_pos (by omega),bs (at_gd hj default),bs remI_2]
  have hsn:=climb_snoc (ps.take j) i h (ps.getD j default)
  have htk:ps.take (j+1)=ps.take j++[ps.getD j default]:=by
   rw[tk ps j hj,List.getD_eq_getElem?_getD,List.getElem?_eq_getElem hj];rfl
  have hlt:(ps.take j).length=j:=by rw[List.length_take];omega
  rw[hlt]at hsn
  have hdiv:i/2^j/2=i/2^(j+1):=by rw[Nat.div_div_eq_div_mul,Nat.pow_succ]
  by_cases c:i/2^j%2=1
  ·have hp1:pr j=vecOf 2 [ps.getD j default,climbC i h (ps.take j)] (Vector.replicate 32 0):=if_pos c
   rw[cd_pos (by omega),Option.bind_some,bs (app_ok (by simp;omega))]
   refine bt (a:=node (ps.getD j default) (climbC i h (ps.take j))) (p129 _ _) ?_
   rw[bs (quoI_2 (by omega)),addI_1 (by omega),htk,hsn,if_pos c,List.range_succ,List.map_append,List.map_singleton,hp1,hdiv]
  ·have hp1:pr j=vecOf 2 [climbC i h (ps.take j),ps.getD j default] (Vector.replicate 32 0):=if_neg c
   rw[cd_neg (by omega),Option.bind_some,bs (app_ok (by simp;omega))]
   refine bt (a:=node (climbC i h (ps.take j)) (ps.getD j default)) (p129 _ _) ?_
   rw[bs (quoI_2 (by omega)),addI_1 (by omega),htk,hsn,if_neg c,List.range_succ,List.map_append,List.map_singleton,hp1,hdiv]
 ·dsimp only
  rw[cd_neg (by omega),List.take_of_length_le (by omega)]
theorem p203(n i:Nat)(h:H)(ps:List H)(hn:n<=16)(hi:i<n)(hp:ps.length=lg n):f203 (n:Int) (i:Int) h ps=some (climbC i h ps,true):=by
 obtain⟨out,e⟩:=p224 n i h ps hn hi hp
 rw[e203,t203,bs e]
theorem p184(r:H)(n i:Nat)(h:H)(ps:List H)(hn:n<=16)(hi:i<n)(hp:ps.length=lg n):f184 r (n:Int) (i:Int) h ps=some (decide (climbC i h ps=r)):=by
 rw[e184,t184,bs (p203 n i h ps hn hi hp)];rfl
theorem shl_lt(x:Nat)(hx:x<=4):shlI 1 (UInt64.ofInt (x:Int)).toNat=((2^x:Nat):Int):=by
 have:x=0∨x=1∨x=2∨x=3∨x=4:=by omega
 rcases this with rfl|rfl|rfl|rfl|rfl<;>decide
theorem p450(n i:Nat)(h:H)(ps:List H)(hn:n<=16)(hi:i<n)(hp:ps.length=lg n):f450 (n:Int) (i:Int) h ps=some (climbC i h ps,true):=by
 have hlg:=lg_le n
 rw[e450,t450,cd_neg (by omega),cd_neg (by omega),decide_eq_false (show¬(256:Int)<(n:Int)by omega),Option.bind_some,cb_f]
 refine it_bind (fun x=>(x:Int)) (lg n) ((lg n:Nat):Int) rfl ?_ ?_ (by omega) ?_
 ·intro x hx
  have h2:2^x<2^lg n:=Nat.pow_lt_pow_right (by omega) hx
  rw[bs (q103 n hn),shl_lt x (by omega),cd_pos (by unfold padN;omega),addI_1 (by omega)]
 ·rw[bs (q103 n hn),shl_lt _ hlg,cd_neg (by unfold padN;omega)]
 rw[hp,cd_neg (by simp)]
 refine it_bind (fun j=>(((i/2^j:Nat):Int),(j:Int),climbC i h (ps.take j))) ps.length (climbC i h ps) (by simp[climbC]) ?_ ?_ (by omega) rfl
 ·intro j hj
  have hd:i/2^j<=i:=Nat.div_le_self _ _
  dsimp only
  rw[cd_pos (by omega),bs remI_2]
  have hsn:=climb_snoc (ps.take j) i h (ps.getD j default)
  have htk:ps.take (j+1)=ps.take j++[ps.getD j default]:=by
   rw[tk ps j hj,List.getD_eq_getElem?_getD,List.getElem?_eq_getElem hj];rfl
  have hlt:(ps.take j).length=j:=by rw[List.length_take];omega
  rw[hlt]at hsn
  have hdiv:i/2^j/2=i/2^(j+1):=by rw[Nat.div_div_eq_div_mul,Nat.pow_succ]
  by_cases c:i/2^j%2=1
  ·rw[cd_neg (by omega),bs (at_gd hj default),bs (p104 _ _),Option.bind_some,bs (quoI_2 (by omega)),addI_1 (by omega),htk,hsn,if_pos c,hdiv]
  ·rw[cd_pos (by omega),bs (at_gd hj default),bs (p104 _ _),Option.bind_some,bs (quoI_2 (by omega)),addI_1 (by omega),htk,hsn,if_neg c,hdiv]
 ·dsimp only
  rw[cd_neg (by omega),List.take_of_length_le (by omega)]
theorem p449(r:H)(n i:Nat)(h:H)(ps:List H)(hn:n<=16)(hi:i<n)(hp:ps.length=lg n):f449 r (n:Int) (i:Int) h ps=some (decide (climbC i h ps=r)):=by
 rw[e449,t449,bs (p450 n i h ps hn hi hp)];rfl
theorem proofC_len(l:List H)(i k:Nat):(proofC l i k).length=k:=by simp[proofC]
end Mx
end
section
open Go Go.Proofs Ev Sx
namespace Mx
theorem n83k{k:Nat}(h1:1<=k)(h4:k<=4): ∃M,f83 (k:Int) 16=some (some ((k:Int),16,M,()),0):=by
 have:k=1∨k=2∨k=3∨k=4:=by omega
 rcases this with rfl|rfl|rfl|rfl
 ·exact n83_116
 ·exact n83_216
 ·exact n83_316
 ·exact n83_416
def shLen(k x:Nat):Nat:=(x-1)/k+1
theorem p202(k x:Nat)(n:Int)(M:List B)(hk:1<=k)(hx:1<=x)(hx2:x<=100000):f202 ((k:Int),n,M,()) (x:Int)=some ((shLen k x:Nat):Int):=by
 have hd:(x-1)/k<=x-1:=Nat.div_le_self _ _
 have hq:quoI ((x-1:Nat):Int) (k:Int)=some (((x-1)/k:Nat):Int):=quoI_nat (by omega) (by omega)
 rw[e202,t202,cd_neg (by omega),subI_ok (by omega) (by omega),show(x:Int)-1=((x-1:Nat):Int)by omega,bs hq,addI_1 (by omega)];rfl
theorem p183(k x:Nat)(h1:1<=k)(h4:k<=4)(hx:1<=x)(hx2:x<=100000):f183 (k:Int) (x:Int)=some ((shLen k x:Nat):Int):=by
 obtain⟨M,e⟩:=n83k h1 h4
 have hm:maxI (k:Int) 16=16:=by unfold maxI;split<;>omega
 rw[e183,t183,hm,bs e,decide_eq_true rfl,cb_t,Option.bind_some,bs (p202 k x 16 M h1 hx hx2)]
theorem p448(k x:Nat)(h1:1<=k)(hx:1<=x)(hx2:x<=100000):f448 (x:Int) (k:Int)=some ((shLen k x:Nat):Int):=by
 have hd:(x-1)/k<=x-1:=Nat.div_le_self _ _
 have hq:quoI ((x-1:Nat):Int) (k:Int)=some (((x-1)/k:Nat):Int):=quoI_nat (by omega) (by omega)
 rw[e448,t448,cd_neg (by omega),subI_ok (by omega) (by omega),show(x:Int)-1=((x-1:Nat):Int)by omega,bs hq,addI_1 (by omega)];rfl
theorem pad_sh(s:B)(k:Nat)(h1:1<=k)(h4:k<=4)(hs:1<=s.length):(padK s k).length/k=shLen k s.length:=by
 have e:(padK s k).length=s.length+padZ s.length k:=by simp[padK]
 rw[e];unfold shLen padZ
 have:k=1∨k=2∨k=3∨k=4:=by omega
 rcases this with rfl|rfl|rfl|rfl<;>omega
def segLen(z j:Nat):Nat:=min (z-64*j) 64
def BlOk(k z:Nat)(Bl:List B):Prop:=Bl.length=nseg z∧ ∀(j:Nat) (h:j<Bl.length),Bl[j].length=shLen k (segLen z j)
abbrev cpOf(kd:Int)(ky:V16)(fp:H)(k n z:Nat):Cp:=(kd,ky,fp,(k:Int),(n:Int),(z:Int),[],())
theorem p136f(kd:Int)(ky:V16)(fp:H)(k n z:Nat)(hk:kd=1∨kd=2)(h:OkU k n z):f136 (cpOf kd ky fp k n z)=some true:=by
 obtain⟨h1,h2,h3,h4,h5⟩:=h
 rw[e136,t136]
 refine bt (a:=true) ?_ ?_
 ·rcases hk with rfl|rfl<;>rfl
 rw[cb_t]
 dsimp only[cpOf]
 rw[cd_pos (by omega),cd_pos (by omega),cd_pos (by omega),cd_pos (by omega),cd_pos (by omega)];rfl
theorem p182(kd:Int)(ky:V16)(fp:H)(k n z:Nat)(hk:kd=1∨kd=2)(h:OkU k n z):f182 (cpOf kd ky fp k n z)=some true:=by
 obtain⟨h1,h2,h3,h4,h5⟩:=h
 rw[e182,t182]
 dsimp only[cpOf]
 refine bt (a:=true) ?_ rfl
 have go:((f94 (k:Int) (n:Int)).bind fun(r:Bool)=>bif r then bif decide ((1:Int)<=(z:Int))then bif decide ((z:Int)<=(1024:Int))then some (decide (((([]:List UInt8).length:Nat):Int)=(0:Int)))else some false else some false else some false)=some true:=by
  rw[bs (p94 k n),decide_eq_true (show 1<=k∧k<=n∧n<=16 by omega),cb_t,cd_pos (by omega),cd_pos (by omega)];rfl
 rcases hk with rfl|rfl
 ·rw[decide_eq_true rfl,cb_t];exact go
 ·rw[cd_neg (by omega),decide_eq_true rfl,cb_t];exact go
section
variable {k n z : Nat} (kd : Int) (ky : V16) (cr r : H) (hk : kd = 1 ∨ kd = 2) (h1 : 1 <= k) (h2 : k <= n) (h3 : n <= 4) (hz1 : 1 <= z) (hz : z <= 192) (i : Nat) (hi : i < n) (ps : List H) (hps : ps.length = lg n) (Bl : List B) (hB : BlOk k z Bl)
include hk h1 h2 h3 hz1 hz hi hps hB
theorem bl_small: ∀b∈Bl,b.length<100000:=fun b hb=>by
 obtain⟨j,hj,rfl⟩:=List.getElem_of_mem hb
 rw[hB.2 j hj]
 have:(segLen z j-1)/k<=segLen z j-1:=Nat.div_le_self _ _
 unfold shLen segLen at*;omega
theorem p146:f146 (cpOf kd ky (uebH (packC k n z 64 cr r)) k n z) ((i:Int),packC k n z 64 cr r,ps,Bl,())=some (if climbC i (root (Bl.map leaf)) ps=r then(mkU k n z 64 cr r,true)else(zU,false)):=by
 have hok:OkU k n z:=⟨h1,h2,by omega,hz1,by omega⟩
 have hun:=(unpA (b:=packC k n z 64 cr r) ⟨hok,rfl⟩).1
 have hpl:=packC_le k n z 64 cr r
 have hBs:=bl_small kd hk h1 h2 h3 hz1 hz i hi ps hps Bl hB
 have hns:1<=nseg z∧nseg z<=3:=by unfold nseg;omega
 rw[e146,t146]
 refine bt hun ?_
 refine bt (a:=false) ?_ ?_
 ·rw[cn_t,bs (p182 kd ky _ k n z hk hok),cn_t]
  refine bt (p49 _ (by dsimp only;omega)) ?_
  dsimp only[cpOf,mkU]
  rw[decide_eq_true (show uebH (packC k n z 64 cr r)=uebH (packC k n z 64 cr r)from rfl),cn_t,cd_neg (show¬(k:Int)≠(k:Int)by simp),cd_neg (show¬(n:Int)≠(n:Int)by simp),cd_neg (show¬(z:Int)≠(z:Int)by simp),cd_neg (by omega),decide_eq_false (show¬(n:Int)<=(i:Int)by omega)]
 rw[cb_f]
 dsimp only[cpOf,mkU]
 refine it_bind (fun j=>(((z:Int)-64*j),(j:Int),(0:Int),(0:Int),(0:Int),(0:Int),Vector.replicate 32 (0:UInt8),Vector.replicate 32 (0:UInt8),())) Bl.length
  (.inl (((z:Int)-64*(Bl.length:Nat)),(0:Int),(0:Int),(0:Int),(0:Int),Vector.replicate 32 (0:UInt8),Vector.replicate 32 (0:UInt8),())) (by simp) ?_ ?_ (by rw[hB.1];omega) ?_
 ·intro j hj
  have hjn:j<nseg z:=by rw[←hB.1];exact hj
  have hjz:64*j<z:=by unfold nseg at hjn;omega
  have hmin:minI ((z:Int)-64*j) 64=((segLen z j:Nat):Int):=by unfold minI segLen;split<;>omega
  have hsl:1<=segLen z j∧segLen z j<=64:=by unfold segLen;omega
  dsimp only
  rw[cd_pos (by omega),bs (at_lt hj),cd_neg (by omega),hmin,bs (p183 k _ h1 (by omega) hsl.1 (by omega)),hB.2 j hj]
  refine bt (a:=false) (by simp) ?_
  rw[cb_f,subI_ok (by omega) (by omega),addI_1 (by omega)]
  refine some_inl (pe (by omega) rfl)
 ·dsimp only
  rw[cd_neg (by omega)]
 show(Option.bind (cond (decide _) _ _) _)=_
 have hle: ¬(0:Int)<(z:Int)-64*(Bl.length:Nat):=by rw[hB.1];unfold nseg;omega
 rw[cd_neg hle]
 have h85:=p85 ((i:Int),packC k n z 64 cr r,ps,Bl,()) hBs (by dsimp only;rw[hB.1];omega) (by dsimp only;rw[hB.1];omega)
 rw[bs h85]
 dsimp only
 rw[bs (p184 r n i (root (Bl.map leaf)) ps (by omega) hi hps),Option.bind_some]
 by_cases c:climbC i (root (Bl.map leaf)) ps=r
 ·rw[decide_eq_true c,if_pos c,cn_t]
 ·rw[decide_eq_false c,if_neg c,cn_f];rfl
end
end Mx
end
section
open Go Go.Proofs Ev Sx
namespace Mx
theorem segs_get(b:B)(j:Nat)(h:j<nseg b.length):(segs b)[j]'(by simpa using h)=(b.drop (64*j)).take 64:=by simp[segs]
theorem seg_len(b:B)(j:Nat)(h:j<nseg b.length):((b.drop (64*j)).take 64).length=segLen b.length j∧1<=segLen b.length j:=by
 unfold nseg at h;unfold segLen;simp;omega
section
variable {k n : Nat} {b : B} (h1 : 1 <= k) (h2 : k <= n) (h3 : n <= 4) (hb1 : 1 <= b.length) (hb : b.length <= 192)
include h1 h2 h3 hb1 hb
theorem blk_get(i:Nat)(hi:i<n)(j:Nat)(hj:j<nseg b.length):(blkOf (rowsS k n b) i)[j]'(by rw[blk_len h1 h2 h3 hb1 hb];exact hj)=dOf k n (padK ((b.drop (64*j)).take 64) k) i:=by
 have hl:i<(encC (MT k n) k ((b.drop (64*j)).take 64)).length:=by rw[encC_len,MT_len h1 h2 h3];exact hi
 have hm:i<(MT k n).length:=by rw[MT_len h1 h2 h3];exact hi
 simp only[blkOf,rowsS,List.getElem_map,segs_get b j hj]
 rw[List.getD_eq_getElem?_getD,List.getElem?_eq_getElem hl,Option.getD_some]
 simp only[encC,List.getElem_map]
 unfold dOf
 rw[List.getD_eq_getElem?_getD,List.getElem?_eq_getElem hm,Option.getD_some]
theorem blk_ok(i:Nat)(hi:i<n):BlOk k b.length (blkOf (rowsS k n b) i):=by
 refine⟨blk_len h1 h2 h3 hb1 hb i,fun j hj=> ?_⟩
 have hjn:j<nseg b.length:=by rw[←blk_len h1 h2 h3 hb1 hb i];exact hj
 obtain⟨l1,l2⟩:=seg_len b j hjn
 rw[blk_get h1 h2 h3 hb1 hb i hi j hjn,dOf,encR_len,pad_sh _ k h1 (by omega) (by omega),l1]
theorem prS_len(i:Nat):(prS k n b i).length=lg n:=proofC_len _ _ _
noncomputable def ueb(k n:Nat)(b:B):B:=packC k n b.length 64 (crypt b) (rootS k n b)
noncomputable abbrev shN(k n:Nat)(b:B)(i:Nat):ShT:=((i:Int),ueb k n b,prS k n b i,blkOf (rowsS k n b) i,())
theorem shC_shN(i:Nat):shC (ueb k n b) (prS k n b) (rowsS k n b) i=shN k n b i:=by
 have:(rowsS k n b).length≠0:=by rw[rowsS_len];unfold nseg;omega
 unfold shC shN
 cases hr:rowsS k n b with
 |nil=>rw[hr]at this;simp at this
 |cons a l=>rfl
theorem shS_eq:shS (ueb k n b) k n b=(List.range n).map (shN k n b):=List.map_congr_left fun i _=>shC_shN h1 h2 h3 hb1 hb i
end
end Mx
end
section
open Go Go.Proofs Ev Sx
namespace Mx
abbrev pickS(n k:Int)(l:List ShT)(x4:List Int)(x:List ShT×Int):Option ((List ShT×Int) ⊕ List ShT):=(bif decide (x.2<n)then some (decide ((↑x.1.length:Int)<k))else some false).bind fun(x_1:Bool)=>bif x_1 then(bif decide (subI n x.2=subI k (↑x.1.length:Int))then some true else bif decide (x.2<(↑x4.length:Int))then(at? x4 x.2).bind fun(y:Int)=>(remI y (2:Int)).bind fun(c:Int)=>some (decide (c=(0:Int)))else some false).bind fun(x_2:Bool)=>(bif x_2 then(at? l x.2).bind fun(y:ShT)=>(app? x.1 [y]).bind fun(zs:List ShT)=>some zs else some x.1).bind fun(x_3:List ShT)=>some (Sum.inl (x_3,addI x.2 (1:Int)))else some (Sum.inr x.1)
theorem pick_go(n k:Nat)(hk:k<=n)(hn:n<=1000)(sh:Nat->ShT)(x4:List Int): ∀(m i:Nat) (J:List Nat),i<=n->J.length<=k->k-J.length<=n-i->J.Pairwise (· < ·)->(∀j∈J,j<i)->n-i<m->
 ∃I,Sel k n I∧iterN (pickS (n:Int) (k:Int) ((List.range n).map sh) x4) m (J.map sh,(i:Int))=some (I.map sh)
 |0,i,J,_,_,_,_,_,hm=>by omega
 |m+1,i,J,hi,hJ,hl,hs,hb,hm=>by
  by_cases c:i<n∧J.length<k
  ·have e2: ∃t:Bool,((bif decide (subI (n:Int) (i:Int)=subI (k:Int) (((J.map sh).length:Nat):Int))then some true else bif decide ((i:Int)<(x4.length:Int))then(at? x4 (i:Int)).bind fun(y:Int)=>(remI y (2:Int)).bind fun(c:Int)=>some (decide (c=(0:Int)))else some false)=some t)∧(n-i=k-J.length->t=true):=by
    rw[List.length_map,subI_ok (by omega) (by omega),subI_ok (by omega) (by omega)]
    by_cases d:(n:Int)-(i:Int)=(k:Int)-(J.length:Int)
    ·exact⟨true,by rw[cd_pos d],fun _=>rfl⟩
    ·rw[cd_neg d]
     by_cases g:(i:Int)<(x4.length:Int)
     ·rw[cd_pos g,bs (at_lt (by omega))]
      refine⟨decide (x4[i].tmod 2=0),?_,fun h=>by omega⟩
      unfold remI;rw[if_neg (by omega)];rfl
     ·rw[cd_neg g];exact⟨false,rfl,fun h=>by omega⟩
   obtain⟨t,e2,e3⟩:=e2
   have hstep:pickS (n:Int) (k:Int) ((List.range n).map sh) x4 (J.map sh,(i:Int))=some (.inl ((if t=true then J++[i]else J).map sh,((i+1:Nat):Int))):=by
    unfold pickS
    dsimp only
    rw[cd_pos (show(i:Int)<(n:Int)by omega),List.length_map,decide_eq_true (show(J.length:Int)<(k:Int)by omega),Option.bind_some,cb_t]
    rw[List.length_map]at e2
    rw[bs e2,addI_1 (by omega)]
    cases t with
    |true=>
     have ha:at? ((List.range n).map sh) (i:Int)=some (sh i):=by rw[at_lt (by simpa using c.1),List.getElem_map,List.getElem_range]
     rw[cb_t,bs ha,bs (app_ok (by simp;omega)),Option.bind_some,if_pos rfl,List.map_append];rfl
    |false=>rw[cb_f,Option.bind_some,if_neg (by simp)]
   simp only[iterN,hstep,Option.bind_some]
   cases t with
   |true=>
    rw[if_pos rfl]
    refine pick_go n k hk hn sh x4 m (i+1) (J++[i]) (by omega) (by simp;omega) (by simp;omega) ?_ ?_ (by omega)
    ·rw[List.pairwise_append]
     exact⟨hs,by simp,fun a ha b hb'=>by rw[List.mem_singleton.1 hb'];exact hb a ha⟩
    ·intro j hj
     rcases List.mem_append.1 hj with h|h
     ·have:=hb j h;omega
     ·rw[List.mem_singleton.1 h];omega
   |false=>
    rw[if_neg (by simp)]
    have:n-i≠k-J.length:=fun h=>by have:=e3 h;simp at this
    exact pick_go n k hk hn sh x4 m (i+1) J (by omega) hJ (by omega) hs (fun j hj=>by have:=hb j hj;omega) (by omega)
  ·refine⟨J,⟨by omega,hs,fun j hj=>by have:=hb j hj;omega⟩,?_⟩
   have hstep:pickS (n:Int) (k:Int) ((List.range n).map sh) x4 (J.map sh,(i:Int))=some (.inr (J.map sh)):=by
    unfold pickS
    dsimp only
    refine bt (a:=false) ?_ rfl
    by_cases d:i<n
    ·rw[cd_pos (by omega),List.length_map,decide_eq_false (by omega)]
    ·rw[cd_neg (by omega)]
   simp only[iterN,hstep,Option.bind_some]
theorem pick(n k:Nat)(hk:k<=n)(hn:n<=1000)(sh:Nat->ShT)(x4:List Int): ∃I,Sel k n I∧iter (pickS (n:Int) (k:Int) ((List.range n).map sh) x4) ([],(0:Int))=some (I.map sh):=
 pick_go n k hk hn sh x4 4611686018427387904 0 [] (by omega) (by simp) (by simp;omega) List.Pairwise.nil (by simp) (by omega)
theorem p443(a b:Int): ∃k n:Nat,1<=k∧k<=n∧n<=4∧f443 a b=some ((k:Int),(n:Int)):=by
 obtain⟨n,hn,e1⟩:=p6 b 4 (by omega) (by omega)
 have a1:addI 1 (n:Int)=((n+1:Nat):Int):=by rw[addI_ok (by omega) (by omega)];omega
 obtain⟨k,hk,e2⟩:=p6 a (n+1) (by omega) (by omega)
 have a2:addI 1 (k:Int)=((k+1:Nat):Int):=by rw[addI_ok (by omega) (by omega)];omega
 refine⟨k+1,n+1,by omega,by omega,by omega,?_⟩
 rw[e443,t443]
 refine bt e1 ?_
 rw[a1,bs e2,a2]
theorem p445:f445=some true:=wk21
end Mx
end
