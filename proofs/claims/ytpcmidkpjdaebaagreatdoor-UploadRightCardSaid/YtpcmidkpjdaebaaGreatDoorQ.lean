/- UploadRight as a functional reading: it answers true for all arguments. No conditions. -/
import Derived.Test.YtpcmidkpjdaebaaGreatDoorG
import Derived.Test.YtpcmidkpjdaebaaGreatDoorP
import Derived.Test.YtpcmidkpjdaebaaGreatDoorT
import Derived.Test.YtpcmidkpjdaebaaGreatDoorM
import Derived.Test.YtpcmidkpjdaebaaGreatDoorS
set_option linter.unusedVariables false
set_option linter.unusedSimpArgs false
set_option linter.unusedSectionVars false
set_option maxRecDepth 100000
section
open Go Go.Proofs Ev Sx
namespace Mx
theorem p439:f439=some true:=rfl
section
variable {k n : Nat} {b : B} (h1 : 1 <= k) (h2 : k <= n) (h3 : n <= 7 ∧ k <= 5) (hb1 : 1 <= b.length) (hb : b.length <= 256)
include h1 h2 h3 hb1 hb
end
end Mx
end
section
open Go Go.Proofs Ev Sx
namespace Mx
theorem q128:f128=t128:=funext fun a=>e128 a
theorem p244_all:(List.range 17).all (fun n=>decide (t244 t128 (n:Int)=some ((lg n:Nat):Int)))=true:=by kernel_rfl
theorem p244(n:Nat)(h:n<=16):f244 (n:Int)=some ((lg n:Nat):Int):=by
 rw[e244,q128];exact of_decide_eq_true (all_of p244_all n (by omega))
noncomputable def climbC:Nat->H->List H->H
 |_,h,[]=>h
 |i,h,p::ps=>climbC (i/2) (if i%2=1 then node p h else node h p) ps
theorem climb_snoc: ∀(ps:List H) (i:Nat) (h p:H),climbC i h (ps++[p])=if i/2^ps.length%2=1 then node p (climbC i h ps)else node (climbC i h ps) p
 |[],i,h,p=>by simp[climbC]
 |q::ps,i,h,p=>by
  rw[List.cons_append,climbC,climb_snoc ps,climbC,List.length_cons,Nat.pow_succ,Nat.mul_comm,Nat.div_div_eq_div_mul]
theorem remI_2{a:Nat}:remI (a:Int) 2=some ((a%2:Nat):Int):=remI_nat (b:=2) (by omega)
theorem p224(n i:Nat)(h:H)(ps:List H)(hn:n<=16)(hi:i<n)(hp:ps.length=lg n): ∃out,f224 (n:Int) (i:Int) h ps=some (out,climbC i h ps,true):=by
 have hlg:=lg_le n
 have key: ∀m,m<=ps.length-> ∃out:List (Vector H 2),out.length=m∧ ∀(β:Type) (F:List (Vector H 2)×H->Option β) (z:Option β),True:=fun m _=>⟨List.replicate m (vecOf 2 [h,h] h),by simp,fun _ _ _=>trivial⟩
 let pr:Nat->Vector H 2:=fun j=>if i/2^j%2=1 then vecOf 2 [ps.getD j default,climbC i h (ps.take j)] (Vector.replicate 32 0)else vecOf 2 [climbC i h (ps.take j),ps.getD j default] (Vector.replicate 32 0)
 refine⟨(List.range ps.length).map pr,?_⟩
 rw[e224,t224,cd_neg (by omega),cd_neg (by omega),cd_neg (by omega)]
 refine bt (a:=false) ?_ ?_
 ·rw[bs (p244 n hn),hp];simp
 rw[cb_f]
 refine it_bind (fun j=>(((i/2^j:Nat):Int),(List.range j).map pr,(j:Int),climbC i h (ps.take j))) ps.length ((List.range ps.length).map pr,climbC i h ps) (by simp[climbC]) ?_ ?_ (by omega) rfl
 ·intro j hj
  have hd:i/2^j<=i:=Nat.div_le_self _ _
  dsimp only
  rw[cd_pos (by omega),bs (at_gd hj default),bs remI_2]
  have hsn:=climb_snoc (ps.take j) i h (ps.getD j default)
  have htk:ps.take (j+1)=ps.take j++[ps.getD j default]:=by
   rw[tk ps j hj,List.getD_eq_getElem?_getD,List.getElem?_eq_getElem hj];rfl
  have hlt:(ps.take j).length=j:=by rw[List.length_take];omega
  rw[hlt]at hsn
  have hdiv:i/2^j/2=i/2^(j+1):=by rw[Nat.div_div_eq_div_mul,Nat.pow_succ]
  by_cases c:i/2^j%2=1
  ·have hp1:pr j=vecOf 2 [ps.getD j default,climbC i h (ps.take j)] (Vector.replicate 32 0):=if_pos c
   rw[cd_pos (by omega),Option.bind_some,bs (app_ok (by simp;omega))]
   refine bt (a:=node (ps.getD j default) (climbC i h (ps.take j))) (p129 _ _) ?_
   rw[bs (quoI_2 (by omega)),addI_1 (by omega),htk,hsn,if_pos c,List.range_succ,List.map_append,List.map_singleton,hp1,hdiv]
  ·have hp1:pr j=vecOf 2 [climbC i h (ps.take j),ps.getD j default] (Vector.replicate 32 0):=if_neg c
   rw[cd_neg (by omega),Option.bind_some,bs (app_ok (by simp;omega))]
   refine bt (a:=node (climbC i h (ps.take j)) (ps.getD j default)) (p129 _ _) ?_
   rw[bs (quoI_2 (by omega)),addI_1 (by omega),htk,hsn,if_neg c,List.range_succ,List.map_append,List.map_singleton,hp1,hdiv]
 ·dsimp only
  rw[cd_neg (by omega),List.take_of_length_le (by omega)]
theorem p203(n i:Nat)(h:H)(ps:List H)(hn:n<=16)(hi:i<n)(hp:ps.length=lg n):f203 (n:Int) (i:Int) h ps=some (climbC i h ps,true):=by
 obtain⟨out,e⟩:=p224 n i h ps hn hi hp
 rw[e203,t203,bs e]
theorem p184(r:H)(n i:Nat)(h:H)(ps:List H)(hn:n<=16)(hi:i<n)(hp:ps.length=lg n):f184 r (n:Int) (i:Int) h ps=some (decide (climbC i h ps=r)):=by
 rw[e184,t184,bs (p203 n i h ps hn hi hp)];rfl
theorem proofC_len(l:List H)(i k:Nat):(proofC l i k).length=k:=by simp[proofC]
theorem climb_proof(l:List H)(i:Nat)(hl:l.length<=16)(hi:i<l.length):climbC i (l.getD i default) (proofC l i (lg l.length))=root l:=by
 have hr:=rowC_len l hl
 have key: ∀j,j<=lg l.length->climbC i (l.getD i default) ((proofC l i (lg l.length)).take j)=(upN (rowC l) j).getD (i/2^j) default:=fun j=>by
  induction j with
  |zero=>
   intro _
   simp only[List.take_zero,climbC,Nat.pow_zero,Nat.div_one]
   show _=(rowC l).getD i default
   rw[rowC,List.getD_eq_getElem?_getD,List.getD_eq_getElem?_getD,List.getElem?_append_left hi]
  |succ j ih=>
   intro hj
   have hul:=upN_len (rowC l) (lg l.length) hr j (by omega)
   have hpl:=proofC_len l i (lg l.length)
   have hg:(proofC l i (lg l.length)).take (j+1)=(proofC l i (lg l.length)).take j++[(upN (rowC l) j).getD ((i/2^j)^^^1) default]:=by
    rw[tk _ j (by omega)];simp[proofC]
   have hlt:((proofC l i (lg l.length)).take j).length=j:=by rw[List.length_take];omega
   rw[hg,climb_snoc,hlt,ih (by omega)]
   have hw:2^(lg l.length-j)=2*2^(lg l.length-(j+1)):=by
    rw[show lg l.length-j=(lg l.length-(j+1))+1 by omega,Nat.pow_succ];omega
   have hlt2:i/2^(j+1)<2^(lg l.length-(j+1)):=by
    rw[Nat.div_lt_iff_lt_mul (Nat.pow_pos (by omega)),←Nat.pow_add,show lg l.length-(j+1)+(j+1)=lg l.length by omega]
    have:=lg_ge l.length hl;omega
   have hup:(upN (rowC l) (j+1)).getD (i/2^(j+1)) default=node ((upN (rowC l) j).getD (2*(i/2^(j+1))) default) ((upN (rowC l) j).getD (2*(i/2^(j+1))+1) default):=by
    show(upC (upN (rowC l) j)).getD _ default=_
    rw[upC,gd_range _ _ _ _ (by omega)]
   have hdiv:i/2^(j+1)=i/2^j/2:=by rw[Nat.div_div_eq_div_mul,Nat.pow_succ]
   rw[hup,hdiv]
   generalize i/2^j=t
   have hx:t^^^1=if t%2=1 then t-1 else t+1:=by
    have a1:(t^^^1)/2=t/2:=by rw[Nat.xor_div_two];simp
    have a2:(t^^^1)%2=(t+1)%2:=by
     have:=Nat.xor_mod_two_pow (a:=t) (b:=1) (n:=1)
     simp at this
     rcases Nat.mod_two_eq_zero_or_one t with e|e<;>rw[this,e]<;>simp<;>omega
    split<;>omega
   by_cases c:t%2=1
   ·rw[if_pos c,hx,if_pos c,show t-1=2*(t/2)by omega,show(t:Nat)=2*(t/2)+1 by omega]
    rw[show(2*(t/2)+1)/2=t/2 by omega]
   ·rw[if_neg c,hx,if_neg c,show t+1=2*(t/2)+1 by omega]
    rw[show 2*(t/2)=t by omega]
 have h:=key (lg l.length) (Nat.le_refl _)
 rw[List.take_of_length_le (by rw[proofC_len];omega)]at h
 rw[h,root]
 congr 1
 exact Nat.div_eq_of_lt (by have:=lg_ge l.length hl;omega)|>.trans rfl|>fun e=>by
  rcases Nat.lt_or_ge i (2^lg l.length)with h|h
  ·exact Nat.div_eq_of_lt h
  ·have:=lg_ge l.length hl;omega
end Mx
end
section
open Go Go.Proofs Ev Sx
namespace Mx
theorem n83k{k:Nat}(h1:1<=k)(h4:k<=5): ∃M,f83 (k:Int) 16=some (some ((k:Int),16,M,()),0):=by
 have:k=1∨k=2∨k=3∨k=4∨k=5:=by omega
 rcases this with rfl|rfl|rfl|rfl|rfl
 ·exact n83_116
 ·exact n83_216
 ·exact n83_316
 ·exact n83_416
 ·exact n83_516
def shLen(k x:Nat):Nat:=(x-1)/k+1
theorem p202(k x:Nat)(n:Int)(M:List B)(hk:1<=k)(hx:1<=x)(hx2:x<=100000):f202 ((k:Int),n,M,()) (x:Int)=some ((shLen k x:Nat):Int):=by
 have hd:(x-1)/k<=x-1:=Nat.div_le_self _ _
 have hq:quoI ((x-1:Nat):Int) (k:Int)=some (((x-1)/k:Nat):Int):=quoI_nat (by omega) (by omega)
 rw[e202,t202,cd_neg (by omega),subI_ok (by omega) (by omega),show(x:Int)-1=((x-1:Nat):Int)by omega,bs hq,addI_1 (by omega)];rfl
theorem p183(k x:Nat)(h1:1<=k)(h4:k<=5)(hx:1<=x)(hx2:x<=100000):f183 (k:Int) (x:Int)=some ((shLen k x:Nat):Int):=by
 obtain⟨M,e⟩:=n83k h1 h4
 have hm:maxI (k:Int) 16=16:=by unfold maxI;split<;>omega
 rw[e183,t183,hm,bs e,decide_eq_true rfl,cb_t,Option.bind_some,bs (p202 k x 16 M h1 hx hx2)]
theorem pad_sh(s:B)(k:Nat)(h1:1<=k)(h4:k<=5)(hs:1<=s.length):(padK s k).length/k=shLen k s.length:=by
 have e:(padK s k).length=s.length+padZ s.length k:=by simp[padK]
 rw[e];unfold shLen padZ
 have:k=1∨k=2∨k=3∨k=4∨k=5:=by omega
 rcases this with rfl|rfl|rfl|rfl|rfl<;>omega
def segLen(z j:Nat):Nat:=min (z-64*j) 64
def BlOk(k z:Nat)(Bl:List B):Prop:=Bl.length=nseg z∧ ∀(j:Nat) (h:j<Bl.length),Bl[j].length=shLen k (segLen z j)
abbrev cpOf(kd:Int)(ky:V16)(fp:H)(k n z:Nat):Cp:=(kd,ky,fp,(k:Int),(n:Int),(z:Int),[],())
theorem p182(kd:Int)(ky:V16)(fp:H)(k n z:Nat)(hk:kd=1∨kd=2)(h:OkU k n z):f182 (cpOf kd ky fp k n z)=some true:=by
 obtain⟨h1,h2,h3,h4,h5⟩:=h
 rw[e182,t182]
 dsimp only[cpOf]
 refine bt (a:=true) ?_ rfl
 have go:((f94 (k:Int) (n:Int)).bind fun(r:Bool)=>bif r then bif decide ((1:Int)<=(z:Int))then bif decide ((z:Int)<=(1024:Int))then some (decide (((([]:List UInt8).length:Nat):Int)=(0:Int)))else some false else some false else some false)=some true:=by
  rw[bs (p94 k n),decide_eq_true (show 1<=k∧k<=n∧n<=16 by omega),cb_t,cd_pos (by omega),cd_pos (by omega)];rfl
 rcases hk with rfl|rfl
 ·rw[decide_eq_true rfl,cb_t];exact go
 ·rw[cd_neg (by omega),decide_eq_true rfl,cb_t];exact go
section
variable {k n z : Nat} (kd : Int) (ky : V16) (cr r : H) (hk : kd = 1 ∨ kd = 2) (h1 : 1 <= k) (h2 : k <= n) (h3 : n <= 7 ∧ k <= 5) (hz1 : 1 <= z) (hz : z <= 256) (i : Nat) (hi : i < n) (ps : List H) (hps : ps.length = lg n) (Bl : List B) (hB : BlOk k z Bl)
include hk h1 h2 h3 hz1 hz hi hps hB
theorem bl_small: ∀b∈Bl,b.length<100000:=fun b hb=>by
 obtain⟨j,hj,rfl⟩:=List.getElem_of_mem hb
 rw[hB.2 j hj]
 have:(segLen z j-1)/k<=segLen z j-1:=Nat.div_le_self _ _
 unfold shLen segLen at*;omega
theorem p146:f146 (cpOf kd ky (uebH (packC k n z 64 cr r)) k n z) ((i:Int),packC k n z 64 cr r,ps,Bl,())=some (if climbC i (root (Bl.map leaf)) ps=r then(mkU k n z 64 cr r,true)else(zU,false)):=by
 have hok:OkU k n z:=⟨h1,h2,by omega,hz1,by omega⟩
 have hun:=(unpA (b:=packC k n z 64 cr r) ⟨hok,rfl⟩).1
 have hpl:=packC_le k n z 64 cr r
 have hBs:=bl_small kd hk h1 h2 h3 hz1 hz i hi ps hps Bl hB
 have hns:1<=nseg z∧nseg z<=4:=by unfold nseg;omega
 rw[e146,t146]
 refine bt hun ?_
 refine bt (a:=false) ?_ ?_
 ·rw[cn_t,bs (p182 kd ky _ k n z hk hok),cn_t]
  refine bt (p49 _ (by dsimp only;omega)) ?_
  dsimp only[cpOf,mkU]
  rw[decide_eq_true (show uebH (packC k n z 64 cr r)=uebH (packC k n z 64 cr r)from rfl),cn_t,cd_neg (show¬(k:Int)≠(k:Int)by simp),cd_neg (show¬(n:Int)≠(n:Int)by simp),cd_neg (show¬(z:Int)≠(z:Int)by simp),cd_neg (by omega),decide_eq_false (show¬(n:Int)<=(i:Int)by omega)]
 rw[cb_f]
 dsimp only[cpOf,mkU]
 refine it_bind (fun j=>(((z:Int)-64*j),(j:Int),(0:Int),(0:Int),(0:Int),(0:Int),Vector.replicate 32 (0:UInt8),Vector.replicate 32 (0:UInt8),())) Bl.length
  (.inl (((z:Int)-64*(Bl.length:Nat)),(0:Int),(0:Int),(0:Int),(0:Int),Vector.replicate 32 (0:UInt8),Vector.replicate 32 (0:UInt8),())) (by simp) ?_ ?_ (by rw[hB.1];omega) ?_
 ·intro j hj
  have hjn:j<nseg z:=by rw[←hB.1];exact hj
  have hjz:64*j<z:=by unfold nseg at hjn;omega
  have hmin:minI ((z:Int)-64*j) 64=((segLen z j:Nat):Int):=by unfold minI segLen;split<;>omega
  have hsl:1<=segLen z j∧segLen z j<=64:=by unfold segLen;omega
  dsimp only
  rw[cd_pos (by omega),bs (at_lt hj),cd_neg (by omega),hmin,bs (p183 k _ h1 (by omega) hsl.1 (by omega)),hB.2 j hj]
  refine bt (a:=false) (by simp) ?_
  rw[cb_f,subI_ok (by omega) (by omega),addI_1 (by omega)]
  refine some_inl (pe (by omega) rfl)
 ·dsimp only
  rw[cd_neg (by omega)]
 show(Option.bind (cond (decide _) _ _) _)=_
 have hle: ¬(0:Int)<(z:Int)-64*(Bl.length:Nat):=by rw[hB.1];unfold nseg;omega
 rw[cd_neg hle]
 have h85:=p85 ((i:Int),packC k n z 64 cr r,ps,Bl,()) hBs (by dsimp only;rw[hB.1];omega) (by dsimp only;rw[hB.1];omega)
 rw[bs h85]
 dsimp only
 rw[bs (p184 r n i (root (Bl.map leaf)) ps (by omega) hi hps),Option.bind_some]
 by_cases c:climbC i (root (Bl.map leaf)) ps=r
 ·rw[decide_eq_true c,if_pos c,cn_t]
 ·rw[decide_eq_false c,if_neg c,cn_f];rfl
end
end Mx
end
section
open Go Go.Proofs Ev Sx
namespace Mx
theorem segs_get(b:B)(j:Nat)(h:j<nseg b.length):(segs b)[j]'(by simpa using h)=(b.drop (64*j)).take 64:=by simp[segs]
theorem seg_len(b:B)(j:Nat)(h:j<nseg b.length):((b.drop (64*j)).take 64).length=segLen b.length j∧1<=segLen b.length j:=by
 unfold nseg at h;unfold segLen;simp;omega
def dOf(k n:Nat)(p:B)(i:Nat):B:=encR p (p.length/k) k ((MT k n).getD i [])
theorem encR_len(p:B)(L k:Nat)(m:B):(encR p L k m).length=L:=by simp[encR]
section
variable {k n : Nat} {b : B} (h1 : 1 <= k) (h2 : k <= n) (h3 : n <= 7 ∧ k <= 5) (hb1 : 1 <= b.length) (hb : b.length <= 256)
include h1 h2 h3 hb1 hb
theorem blk_get(i:Nat)(hi:i<n)(j:Nat)(hj:j<nseg b.length):(blkOf (rowsS k n b) i)[j]'(by rw[blk_len h1 h2 h3 hb1 hb];exact hj)=dOf k n (padK ((b.drop (64*j)).take 64) k) i:=by
 have hl:i<(encC (MT k n) k ((b.drop (64*j)).take 64)).length:=by rw[encC_len,MT_len h1 h2 h3];exact hi
 have hm:i<(MT k n).length:=by rw[MT_len h1 h2 h3];exact hi
 simp only[blkOf,rowsS,List.getElem_map,segs_get b j hj]
 rw[List.getD_eq_getElem?_getD,List.getElem?_eq_getElem hl,Option.getD_some]
 simp only[encC,List.getElem_map]
 unfold dOf
 rw[List.getD_eq_getElem?_getD,List.getElem?_eq_getElem hm,Option.getD_some]
theorem blk_ok(i:Nat)(hi:i<n):BlOk k b.length (blkOf (rowsS k n b) i):=by
 refine⟨blk_len h1 h2 h3 hb1 hb i,fun j hj=> ?_⟩
 have hjn:j<nseg b.length:=by rw[←blk_len h1 h2 h3 hb1 hb i];exact hj
 obtain⟨l1,l2⟩:=seg_len b j hjn
 rw[blk_get h1 h2 h3 hb1 hb i hi j hjn,dOf,encR_len,pad_sh _ k h1 (by omega) (by omega),l1]
theorem prS_len(i:Nat):(prS k n b i).length=lg n:=proofC_len _ _ _
theorem way_ok(i:Nat)(hi:i<n):climbC i (root ((blkOf (rowsS k n b) i).map leaf)) (prS k n b i)=rootS k n b:=by
 have hl:=lv_len h1 h2 h3 hb1 hb
 have:=climb_proof (lvS k n b) i (by omega) (by omega)
 rw[hl]at this
 have e:(lvS k n b).getD i default=root ((blkOf (rowsS k n b) i).map leaf):=by rw[lvS,gd_range _ _ _ _ hi]
 rw[e]at this
 exact this
noncomputable def ueb(k n:Nat)(b:B):B:=packC k n b.length 64 (crypt b) (rootS k n b)
noncomputable abbrev shN(k n:Nat)(b:B)(i:Nat):ShT:=((i:Int),ueb k n b,prS k n b i,blkOf (rowsS k n b) i,())
theorem shC_shN(i:Nat):shC (ueb k n b) (prS k n b) (rowsS k n b) i=shN k n b i:=by
 have:(rowsS k n b).length≠0:=by rw[rowsS_len];unfold nseg;omega
 unfold shC shN
 cases hr:rowsS k n b with
 |nil=>rw[hr]at this;simp at this
 |cons a l=>rfl
theorem shS_eq:shS (ueb k n b) k n b=(List.range n).map (shN k n b):=List.map_congr_left fun i _=>shC_shN h1 h2 h3 hb1 hb i
noncomputable abbrev uN(k n:Nat)(b:B):U:=mkU k n b.length 64 (crypt b) (rootS k n b)
theorem p146S(kd:Int)(ky:V16)(hk:kd=1∨kd=2)(i:Nat)(hi:i<n):f146 (cpOf kd ky (uebH (ueb k n b)) k n b.length) (shN k n b i)=some (uN k n b,true):=by
 have:=p146 (k:=k) (n:=n) (z:=b.length) kd ky (crypt b) (rootS k n b) hk h1 h2 h3 hb1 hb i hi (prS k n b i) (prS_len h1 h2 h3 hb1 hb i) _ (blk_ok h1 h2 h3 hb1 hb i hi)
 rw[if_pos (way_ok h1 h2 h3 hb1 hb i hi)]at this
 exact this
end
end Mx
end
section
open Go Go.Proofs Ev Sx
namespace Mx
theorem law437(x0:V16)(x1:B)(x2 x3:Int):f437 x0 x1 x2 x3=some true:=by
 have hd1:1<=(9::x1.take 140:B).length:=by simp
 have hd2:(9::x1.take 140:B).length<=256:=by simp;omega
 rw[e437,t437,bs (p4 x1)]
 generalize (9::x1.take 140:B)=d at*
 obtain⟨n',hn,e1⟩:=p6 x3 5 (by omega) (by omega)
 refine bt e1 ?_
 have a1:addI 1 (n':Int)=((n'+1:Nat):Int):=by rw[addI_ok (by omega) (by omega)];omega
 rw[a1]
 generalize hN:n'+1=n at*
 obtain⟨k',hk,e2⟩:=p6 x2 n (by omega) (by omega)
 refine bt e2 ?_
 have a2:addI 1 (k':Int)=((k'+1:Nat):Int):=by rw[addI_ok (by omega) (by omega)];omega
 rw[a2]
 generalize hK:k'+1=k at*
 have h1:1<=k:=by omega
 have h2:k<=n:=by omega
 have h3:n<=7∧k<=5:=by omega
 have h3':n<=7∧k<=5:=by omega
 have h19:=p19 x0 h1 h2 h3' hd1 hd2
 have hs1:1<=(stream x0 d).length:=by rw[stream_len];exact hd1
 have hs2:(stream x0 d).length<=256:=by rw[stream_len];exact hd2
 have hl:(stream x0 d).length=d.length:=stream_len _ _
 have hsh:shS (uebC x0 d k n) k n (stream x0 d)=(List.range n).map (shN k n (stream x0 d)):=by
  have:=shS_eq h1 h2 h3 hs1 hs2
  rw[←this];unfold uebC ueb;rw[hl]
 have hcap:capC x0 d k n=cpOf 1 x0 (uebH (ueb k n (stream x0 d))) k n (stream x0 d).length:=by
  unfold capC uebC ueb;rw[hl]
 rw[hsh,hcap]at h19
 have h146:=fun i hi=>p146S h1 h2 h3 hs1 hs2 1 x0 (.inl rfl) i hi
 have h83:=p83 h1 h2 h3'
 have hblk:=fun i hi=>blk_ok h1 h2 h3 hs1 hs2 i hi
 have hbs:=fun i hi=>blk_small h1 h2 h3' hs1 hs2 i hi
 have hns:=nseg13 h1 h2 h3' hs1 hs2
 have hbl:=blk_len h1 h2 h3' hs1 hs2
 have lu:(ueb k n (stream x0 d)).length<=240:=packC_le _ _ _ _ _ _
 have hlv:(lvS k n (stream x0 d)).length=n:=lv_len h1 h2 h3' hs1 hs2
 have hOk:OkU k n (stream x0 d).length:=⟨h1,h2,by omega,hs1,by omega⟩
 have h20:=(unpA (b:=ueb k n (stream x0 d)) ⟨hOk,rfl⟩).1
 generalize hc:stream x0 d=c at*
 have hat: ∀i:Nat,i<n->at? ((List.range n).map (shN k n c)) (i:Int)=some (shN k n c i):=fun i hi=>by
  rw[at_lt (by simpa using hi),List.getElem_map,List.getElem_range]
 have h0:at? ((List.range n).map (shN k n c)) 0=_:=hat 0 (by omega)
 rw[bs h19]
 refine bt (a:=false) ?_ ?_
 ·dsimp only
  rw[List.length_map,List.length_range,cd_neg (by simp),cd_neg (by simp),cd_neg (by simp),cd_neg (by simp),cd_neg (show¬(c.length:Int)≠(d.length:Int)by omega),decide_eq_true (rfl:x0=x0)];rfl
 rw[cb_f,bs h83]
 refine(cond_neg rfl).trans ?_
 have hlen:(((List.range n).map (shN k n c)).length:Int)=(n:Int):=by simp
 refine it_bind (fun i=>((List.range i).map fun i=>root ((blkOf (rowsS k n c) i).map leaf),(i:Int))) n (.inl (lvS k n c)) rfl ?_ ?_ (by omega) ?_
 ·intro i hi
  dsimp only
  rw[cd_pos (show(i:Int)<(((List.range n).map (shN k n c)).length:Int)by omega),bs (hat i hi),bs (h146 i hi)]
  refine bt (a:=false) ?_ ?_
  ·rw[cn_t,bs (hat i hi)]
   dsimp only[uN,mkU,shN]
   rw[cd_neg (by simp),cd_neg (show¬(c.length:Int)≠(d.length:Int)by omega),bs (hat i hi),bs h0]
   dsimp only[shN]
   rw[bs (p13 _ (by omega))];rfl
  rw[cb_f,bs (hat i hi)]
  have h85:=p85 (shN k n c i) (fun b hb=>by have:=hbs i hi b hb;omega) (by dsimp only;rw[hbl];omega) (by dsimp only;rw[hbl];omega)
  rw[bs h85,bs (app_ok (by simp;omega)),bs (hat i hi)]
  have hbi:(shN k n c i).2.2.2.1.length=nseg c.length:=hbl i
  refine it_bind (fun j=>(j:Int)) (nseg c.length) (.inl ()) rfl ?_ ?_ (by omega) ?_
  ·intro j hj
   obtain⟨q1,q2⟩:=hblk i hi
   have hjb:j<(blkOf (rowsS k n c) i).length:=by rw[hbl];exact hj
   have hjz:64*j<c.length:=by unfold nseg at hj;omega
   have hmin:minI (subI (d.length:Int) (mulI (j:Int) 64)) 64=((segLen c.length j:Nat):Int):=by
    rw[mulI_ok (by omega) (by omega),subI_ok (by omega) (by omega),←hl]
    unfold minI segLen;split<;>omega
   have hsl:1<=segLen c.length j∧segLen c.length j<=64:=by unfold segLen;omega
   rw[cd_pos (show(j:Int)<((shN k n c i).2.2.2.1.length:Int)by omega),bs (hat i hi)]
   dsimp only[shN]
   rw[bs (at_lt hjb),Option.bind_some,hmin,bs (p202 k _ n _ h1 hsl.1 (by omega)),q2 j hjb,cd_neg (by simp),addI_1 (by omega)]
  ·rw[cd_neg (show¬((nseg c.length:Nat):Int)<((shN k n c i).2.2.2.1.length:Int)by omega)]
  ·dsimp only[sumE]
   rw[addI_1 (by omega),List.range_succ,List.map_append];rfl
 ·dsimp only
  rw[cd_neg (show¬(n:Int)<(((List.range n).map (shN k n c)).length:Int)by omega)];rfl
 ·dsimp only[sumE]
  rw[bs h0]
  dsimp only[shN]
  rw[bs h20]
  refine bt (a:=true) ?_ rfl
  dsimp only[mkU]
  rw[cb_t,bs (p87 (lvS k n c) (by omega) (by omega)),cd_pos (show rootS k n c=root (lvS k n c)from rfl),bs h0]
  dsimp only[shN]
  rw[bs (p49 _ (by omega)),cd_pos (rfl:uebH (ueb k n c)=uebH (ueb k n c)),p439];rfl
end Mx
end
