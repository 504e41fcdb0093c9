/- Plain laws of shares that are joined, both ways. No conditions. -/
import Derived.Test.YtbjffoahpbedjaaGreatDoorS
import Derived.Test.YtbjffoahpbedjaaGreatDoorV
import Derived.Test.YtbjffoahpbedjaaGreatDoorG
set_option linter.unusedVariables false
set_option linter.unusedSimpArgs false
set_option linter.unusedSectionVars false
set_option maxRecDepth 100000
section
open Go Go.Proofs Ev Sx
namespace Mx
theorem c80_co:coefs.all (fun c=>(List.range 256).all fun b=>decide (t80 c (UInt8.ofNat b)=some (mulT c (UInt8.ofNat b))))=true:=by kernel_rfl
theorem p80c{a:UInt8}(h:a∈coefs)(b:UInt8):f80 a b=some (mulT a b):=by
 have h1:=all_of (List.all_eq_true.1 c80_co a h) b.toNat b.toNat_lt
 rw[UInt8.ofNat_toNat]at h1
 rw[e80];exact of_decide_eq_true h1
def rowX(I:List Nat)(D:List B):List (Int×List UInt8×Unit):=List.zipWith (fun(i:Nat) (d:B)=>((i:Int),d,())) I D
def decN(N:List B)(L k:Nat)(D:List B):B:=(N.map (encR D.flatten L k)).flatten
theorem flat_le(N:List B)(L:Nat)(h: ∀b∈N,b.length=L)(r:Nat):(N.take r).flatten.length<=L*r:=by
 rw[flat_len L _ (fun b hb=>h b (List.mem_of_mem_take hb))]
 exact Nat.mul_le_mul_left L (by rw[List.length_take];omega)
section
variable {k n L : Nat} (h1 : 1 <= k) (h2 : k <= n) (h3 : n <= 4) {I : List Nat} (hI : Sel k n I) (D : List B) (hD : D.length = k) (hL : ∀ d ∈ D, d.length = L) (hL2 : L <= 10000)
include h1 h2 h3 hI hD hL hL2
theorem rowX_len:(rowX I D).length=k:=by simp[rowX,hD,hI.1]
theorem rowX_at(i:Nat)(hi:i<k):at? (rowX I D) (i:Int)=some (((I[i]'(by rw[hI.1];exact hi):Nat):Int),D[i]'(by rw[hD];exact hi),()):=by
 rw[at_lt (by rw[rowX_len h1 h2 h3 hI D hD hL hL2];exact hi)];simp[rowX]
theorem p410G(N:List B)(e1:f121 (rowsI k n I)=some (N,0))(e2:f476 (MT k n) (I.map fun(i:Nat)=>(i:Int))=some (rowsI k n I,0))(cN:coOk N k=true):
 f410 ((k:Int),(n:Int),MT k n,()) (rowX I D)=some (decN N L k D,0):=by
 have hxl:=rowX_len h1 h2 h3 hI D hD hL hL2
 have hat:=rowX_at h1 h2 h3 hI D hD hL hL2
 obtain⟨hl,hso,hb⟩:=hI
 obtain⟨lN,rN⟩:=coOk_len cN
 have hfl:=flat_len L D hL
 rw[hD]at hfl
 have hfr:=flat_rows L D hL
 rw[hD]at hfr
 have hLk:L*k<=40000:=by
  have:L*k<=L*4:=Nat.mul_le_mul_left L (by omega)
  omega
 have key:=p124 D.flatten L k h1 hfl (by omega) N rN (by omega) (by omega)
 rw[hfr]at key
 rw[e410,t410,hxl]
 dsimp only
 rw[cd_neg (by simp)]
 have h0:at? (rowX I D) 0=_:=hat 0 (by omega)
 refine it_bind (fun i=>((I.take i).map (fun(i:Nat)=>(i:Int)),D.take i,(i:Int))) k (.inl (I.map (fun(i:Nat)=>(i:Int)),D)) rfl ?_ ?_ (by omega) ?_
 ·intro i hi
  have hbi:=hb _ (List.getElem_mem (show i<I.length by omega))
  have hdi:=hL _ (List.getElem_mem (show i<D.length by omega))
  have hd0:=hL _ (List.getElem_mem (show 0<D.length by omega))
  dsimp only
  rw[cd_pos (by omega),bs (hat i hi),cd_neg (by dsimp only;omega),cd_neg (by dsimp only;omega)]
  refine bt (a:=false) ?_ ?_
  ·rw[bs h0];dsimp only;rw[hdi,hd0];simp
  rw[cb_f]
  have hc:cut? (rowX I D) 0 (i:Int)=some (((rowX I D).drop 0).take (i-0)):=cut_nat (a:=0) (by omega) (by omega)
  rw[bs hc,List.drop_zero,Nat.sub_zero]
  have htl:((rowX I D).take i).length=i:=by rw[List.length_take];omega
  refine it_bind (fun j=>(j:Int)) i (.inl ()) rfl ?_ ?_ (by omega) ?_
  ·intro j hj
   have hat2:at? ((rowX I D).take i) (j:Int)=some (((I[j]'(by omega):Nat):Int),D[j]'(by omega),()):=by
    rw[at_nat,List.getElem?_take,if_pos hj,←at_nat];exact hat j (by omega)
   have hlt:=List.pairwise_iff_getElem.1 hso j i (by omega) (by omega) hj
   rw[htl,cd_pos (by omega),bs hat2,cd_neg (by dsimp only;omega),addI_1 (by omega)]
  ·rw[htl,cd_neg (by omega)]
  ·show(app? _ _).bind _=_
   rw[bs (app_ok (by simp;omega)),bs (app_ok (by simp;omega)),addI_1 (by omega),tk I i (by omega),tk D i (by omega),List.map_append];rfl
 ·dsimp only
  rw[cd_neg (by omega),List.take_of_length_le (l:=I) (by omega),List.take_of_length_le (l:=D) (by omega)]
 ·show(f476 (MT k n) (I.map fun(i:Nat)=>(i:Int))).bind _=_
  rw[bs e2,bs e1,cd_neg (by simp),bs key]
  have hrow: ∀b∈N.map (encR D.flatten L k),b.length=L:=fun b hb=>by
   obtain⟨m,_,rfl⟩:=List.mem_map.1 hb;exact encR_len _ _ _ _
  have hlm:(N.map (encR D.flatten L k)).length=k:=by simp[lN]
  show(Option.bind _ _)=some (((N.map (encR D.flatten L k)).flatten,0):B×Int)
  generalize N.map (encR D.flatten L k)=R at*
  refine it_bind (fun r=>((R.take r).flatten,(r:Int))) k R.flatten rfl ?_ ?_ (by omega) rfl
  ·intro r hr
   have hle:=flat_le R L hrow r
   have hlr:L*r<=L*k:=Nat.mul_le_mul_left L (by omega)
   have hrr:=hrow _ (List.getElem_mem (show r<R.length by omega))
   dsimp only
   rw[hlm,cd_pos (by omega),bs (at_lt (show r<R.length by omega)),bs (app_ok (by omega)),addI_1 (by omega),tk R r (by omega),List.flatten_append]
   simp
  ·dsimp only
   rw[hlm,cd_neg (by omega),List.take_of_length_le (l:=R) (by omega)]
theorem p447G(N:List B)(e1:f116 (rowsI k n I)=some (N,true))(cN:coOk N k=true):f447 (rowX I D) (k:Int) (n:Int)=some (decN N L k D,true):=by
 have hxl:=rowX_len h1 h2 h3 hI D hD hL hL2
 have hat:=rowX_at h1 h2 h3 hI D hD hL hL2
 obtain⟨hl,hso,hb⟩:=hI
 obtain⟨lN,rN⟩:=coOk_len cN
 have hfl:=flat_len L D hL
 rw[hD]at hfl
 have hMl:=MT_len h1 h2 h3
 have hLk:L*k<=40000:=by
  have:L*k<=L*4:=Nat.mul_le_mul_left L (by omega)
  omega
 have h0:at? (rowX I D) 0=_:=hat 0 (by omega)
 have hd0:=hL _ (List.getElem_mem (show 0<D.length by omega))
 rw[e447,t447,hxl,cd_neg (by simp),bs (p79 h1 h2 h3)]
 refine it_bind (fun i=>((I.take i).map (fun i=>(MT k n).getD i []),(i:Int))) k (.inl (rowsI k n I)) rfl ?_ ?_ (by omega) ?_
 ·intro i hi
  have hbi:=hb _ (List.getElem_mem (show i<I.length by omega))
  have hdi:=hL _ (List.getElem_mem (show i<D.length by omega))
  dsimp only
  rw[cd_pos (by omega)]
  refine bt (a:=false) ?_ ?_
  ·rw[bs (hat i hi),cd_neg (by dsimp only;omega),bs (hat i hi),cd_neg (by dsimp only;omega),bs (hat i hi),bs h0]
   dsimp only;rw[hdi,hd0];simp
  rw[cb_f]
  refine it_bind (fun j=>(j:Int)) i (.inl ()) rfl ?_ ?_ (by omega) ?_
  ·intro j hj
   have hlt:=List.pairwise_iff_getElem.1 hso j i (by omega) (by omega) hj
   rw[cd_pos (by omega),bs (hat j (by omega)),bs (hat i hi),cd_neg (by dsimp only;omega),addI_1 (by omega)]
  ·rw[cd_neg (by omega)]
  ·show(Option.bind (at? _ _) _)=_
   rw[bs (hat i hi)]
   dsimp only
   rw[bs (at_gd (show I[i]<(MT k n).length by omega) []),bs (app_ok (by simp;omega)),addI_1 (by omega),tk I i (by omega),List.map_append];rfl
 ·dsimp only
  rw[cd_neg (by omega),List.take_of_length_le (l:=I) (by omega)];rfl
 ·show(Option.bind (f116 (rowsI k n I)) _)=_
  rw[bs e1,cn_t]
  show(Option.bind _ _)=some (((N.map (encR D.flatten L k)).flatten,true):B×Bool)
  obtain⟨R,hR⟩: ∃R,N.map (encR D.flatten L k)=R:=⟨_,rfl⟩
  rw[hR]
  have hrow: ∀b∈R,b.length=L:=fun b hb=>by
   rw[←hR]at hb
   obtain⟨m,_,rfl⟩:=List.mem_map.1 hb;exact encR_len _ _ _ _
  have hlm:R.length=k:=by rw[←hR];simp[lN]
  have hget: ∀(r:Nat) (hr:r<k) (x:Nat),x<L->(R[r]'(by omega)).getD x 0=xf (fun j=>mulT ((N[r]'(by omega)).getD j 0) (D.flatten.getD (L*j+x) 0)) k:=fun r hr x hx=>by
   subst hR
   rw[List.getElem_map,encR_get _ _ _ _ _ hx]
  refine it_bind (fun r=>((R.take r).flatten,(r:Int))) k R.flatten rfl ?_ ?_ (by omega) rfl
  ·intro r hr
   have hle:=flat_le _ L hrow r
   have hlr:L*r<=L*k:=Nat.mul_le_mul_left L (by omega)
   have hRr:(R[r]'(by omega)).length=L:=hrow _ (List.getElem_mem _)
   dsimp only
   rw[cd_pos (by omega),bs h0]
   dsimp only
   rw[hd0]
   refine it_bind (fun x=>((R.take r).flatten++(R[r]'(by omega)).take x,(x:Int))) L ((R.take r).flatten++(R[r]'(by omega))) (by simp) ?_ ?_ (by omega) ?_
   ·intro x hx
    dsimp only
    rw[cd_pos (by omega)]
    refine it_bind (fun j=>(xf (fun j=>mulT ((N[r]'(by omega)).getD j 0) (D.flatten.getD (L*j+x) 0)) j,(j:Int))) k (xf (fun j=>mulT ((N[r]'(by omega)).getD j 0) (D.flatten.getD (L*j+x) 0)) k) rfl ?_ ?_ (by omega) ?_
    ·intro j hj
     have hdj:=hL _ (List.getElem_mem (show j<D.length by omega))
     have hNr:=rN _ (List.getElem_mem (show r<N.length by omega))
     have hco:(N[r]'(by omega)).getD j 0∈coefs:=by
      have:=mem_coefs (i:=r) (j:=j) cN
      unfold mget at this
      have e:N.getD r []=N[r]'(by omega):=by simp[List.getD_eq_getElem?_getD,show r<N.length by omega]
      rwa[e]at this
     have hfx:D.flatten.getD (L*j+x) 0=(D[j]'(by omega)).getD x 0:=by
      rw[flat_get L D hL j x (by omega) hx]
      have e:D.getD j []=D[j]'(by omega):=by simp[List.getD_eq_getElem?_getD,show j<D.length by omega]
      rw[e]
     dsimp only
     rw[cd_pos (by omega),bs (at_lt (show r<N.length by omega)),bs (at_gd (show j<(N[r]'(by omega)).length by omega) 0),bs (hat j hj)]
     dsimp only
     rw[bs (at_gd (show x<(D[j]'(by omega)).length by omega) 0),bs (p80c hco _),addI_1 (by omega),←hfx];rfl
    ·dsimp only;rw[cd_neg (by omega)]
    ·have hxl2:((R.take r).flatten++(R[r]'(by omega)).take x).length<=100000:=by rw[List.length_append,List.length_take];omega
     rw[bs (app_ok (by simp only[List.length_cons,List.length_nil];omega)),addI_1 (by omega),←hget r hr x hx,List.append_assoc,tk (R[r]'(by omega)) x (by omega),List.getD_eq_getElem?_getD,List.getElem?_eq_getElem (show x<(R[r]'(by omega)).length by omega),Option.getD_some]
   ·dsimp only;rw[cd_neg (by omega),List.take_of_length_le (l:=R[r]'(by omega)) (by omega)]
   ·rw[addI_1 (by omega),tk R r (by omega),List.flatten_append];simp
  ·dsimp only
   rw[cd_neg (by omega),List.take_of_length_le (l:=R) (by omega)]
end
end Mx
end
section
open Go Go.Proofs Ev Sx
namespace Mx
theorem p460(kd:Int)(ky:V16)(fp:H)(k n z:Nat):f460 (cpOf kd ky fp k n z)=some (decide (kd=1∨kd=2)):=by
 rw[e460,t460]
 dsimp only[cpOf]
 by_cases h:kd=1
 ·rw[cd_pos h,decide_eq_true (show kd=1∨kd=2 from .inl h)];rfl
 ·rw[cd_neg h,Option.bind_some]
  by_cases g:kd=2
  ·rw[decide_eq_true g,decide_eq_true (show kd=1∨kd=2 from .inr g)]
  ·rw[decide_eq_false g,decide_eq_false (show¬(kd=1∨kd=2)from fun q=>q.elim h g)]
theorem p458t(kd:Int)(ky:V16)(fp:H)(k n z:Nat)(hk:kd=1∨kd=2)(h:OkU k n z):f458 (cpOf kd ky fp k n z)=some true:=by
 obtain⟨h1,h2,h3,h4,h5⟩:=h
 rw[e458,t458]
 refine bt (a:=false) ?_ ?_
 ·dsimp only[cpOf];rw[cd_neg (by omega)]
 rw[bs (p460 kd ky fp k n z),decide_eq_true hk,cb_t]
 dsimp only[cpOf]
 rw[cd_pos (by omega),cd_pos (by omega),cd_pos (by omega),cd_pos (by omega),cd_pos (by omega)];rfl
theorem p458f(kd:Int)(ky:V16)(fp:H)(k n z:Nat)(hk: ¬(kd=1∨kd=2))(h1:1<=k):f458 (cpOf kd ky fp k n z)=some false:=by
 rw[e458,t458]
 refine bt (a:=false) ?_ ?_
 ·dsimp only[cpOf];rw[cd_neg (by omega)]
 rw[bs (p460 kd ky fp k n z),decide_eq_false hk,cb_f]
 by_cases c:kd=3
 ·rw[cd_pos c];rfl
 ·rw[cd_neg c]
  have: ∃b,f461 (cpOf kd ky fp k n z)=some b:=by
   rw[e461,t461]
   dsimp only[cpOf]
   by_cases g:(4:Int)<=kd
   ·rw[cd_pos g];exact⟨_,rfl⟩
   ·rw[cd_neg g];exact⟨_,rfl⟩
  obtain⟨b,e⟩:=this
  rw[bs e]
  cases b<;>rfl
theorem p453t(kd:Int)(ky:V16)(fp:H)(k n z:Nat)(hk:kd=1∨kd=2)(h:OkU k n z):f453 (cpOf kd ky fp k n z)=some true:=by
 rw[e453,t453,bs (p458t kd ky fp k n z hk h),cb_t,bs (p460 kd ky fp k n z),decide_eq_true hk];rfl
theorem p453f(kd:Int)(ky:V16)(fp:H)(k n z:Nat)(hk: ¬(kd=1∨kd=2))(h1:1<=k):f453 (cpOf kd ky fp k n z)=some false:=by
 rw[e453,t453,bs (p458f kd ky fp k n z hk h1),cb_f];rfl
theorem p136n(kd:Int)(ky:V16)(fp:H)(k n z:Nat)(hk: ¬(kd=1∨kd=2))(h1:1<=k):f136 (cpOf kd ky fp k n z)=some false:=by
 rw[e136,t136]
 refine bt (a:=false) ?_ ?_
 ·dsimp only[cpOf]
  rw[cd_neg (fun q=>hk (.inl q)),decide_eq_false (fun q=>hk (.inr q))]
 rw[cb_f]
 dsimp only[cpOf]
 by_cases c:kd=3
 ·rw[cd_pos c]
  refine bt (a:=false) ?_ rfl
  by_cases a:(((([]:List UInt8).length:Nat):Int)<=(64:Int))
  ·rw[cd_pos a]
   by_cases a2:ky=Vector.replicate 16 (0:UInt8)
   ·rw[cd_pos a2]
    by_cases a3:fp=Vector.replicate 32 (0:UInt8)
    ·rw[cd_pos a3,cd_neg (by omega)]
    ·rw[cd_neg a3]
   ·rw[cd_neg a2]
  ·rw[cd_neg a]
 ·rw[cd_neg c]
  have: ∀b:Bool,(bif b then(bif decide ((k:Int)=0)then bif decide ((n:Int)=0)then bif decide ((z:Int)=0)then some (decide (((([]:List UInt8).length:Nat):Int)=0))else some false else some false else some false).bind fun(x:Bool)=>some x else some false)=some false:=fun b=>by
   cases b with
   |false=>rfl
   |true=>rw[cb_t,cd_neg (by omega)];rfl
  by_cases c4:kd=4
  ·rw[cd_pos c4,Option.bind_some];exact this _
  ·rw[cd_neg c4]
   by_cases c5:kd=5
   ·rw[cd_pos c5,Option.bind_some,Option.bind_some];exact this _
   ·rw[cd_neg c5]
    by_cases c6:kd=6
    ·rw[cd_pos c6,Option.bind_some,Option.bind_some,Option.bind_some];exact this _
    ·rw[cd_neg c6]
     by_cases c7:kd=7
     ·rw[cd_pos c7,Option.bind_some,Option.bind_some,Option.bind_some,Option.bind_some];exact this _
     ·rw[cd_neg c7]
      by_cases c8:kd=8
      ·rw[cd_pos c8,Option.bind_some,Option.bind_some,Option.bind_some,Option.bind_some,Option.bind_some];exact this _
      ·rw[cd_neg c8,Option.bind_some,Option.bind_some,Option.bind_some,Option.bind_some,Option.bind_some];exact this _
theorem p471n(kd:Int)(ky:V16)(fp:H)(k n z:Nat)(hk: ¬(kd=1∨kd=2))(h1:1<=k):f471 (cpOf kd ky fp k n z)=some false:=by
 rw[e471,t471,bs (p136n kd ky fp k n z hk h1),cb_f];rfl
theorem open_same(kd:Int)(ky:V16)(fp:H)(k n z:Nat)(h:OkU k n z)(y:B)(hy:y.length<=1000000): ∃r,f470 (cpOf kd ky fp k n z) y=some r∧f464 (cpOf kd ky fp k n z) y=some r∧r.1.length<=1000000:=by
 by_cases h1:kd=1
 ·subst h1
  have a1:f470 (cpOf 1 ky fp k n z) y=bif decide (((y.length:Nat):Int)≠(z:Int))then some ([],1)else(f23 ky 0 y).bind fun r=>some (r,0):=by
   rw[e470,t470]
   refine bt (a:=false) ?_ ?_
   ·rw[bs (p136f 1 ky fp k n z (.inl rfl) h),cn_t];rfl
   rw[cb_f]
  have a2:f464 (cpOf 1 ky fp k n z) y=bif decide (((y.length:Nat):Int)≠(z:Int))then some ([],1)else(f17 ky 0 y).bind fun r=>some (r,0):=by
   rw[e464,t464]
   refine bt (a:=false) ?_ ?_
   ·rw[bs (p453t 1 ky fp k n z (.inl rfl) h),cn_t];rfl
   rw[cb_f]
  rw[a1,a2,p23 ky y hy,p17 ky y hy]
  by_cases c:((y.length:Nat):Int)≠(z:Int)
  ·rw[cd_pos c];exact⟨_,rfl,rfl,by simp⟩
  ·rw[cd_neg c];exact⟨_,rfl,rfl,by simpa using hy⟩
 ·have b1:f470 (cpOf kd ky fp k n z) y=some ([],11):=by
   rw[e470,t470]
   refine bt (a:=true) ?_ rfl
   by_cases c:kd=2
   ·rw[bs (p136f kd ky fp k n z (.inr c) h),cn_t];dsimp only[cpOf];rw[decide_eq_true h1]
   ·rw[bs (p136n kd ky fp k n z (fun q=>q.elim h1 c) h.1),cn_f]
  have b2:f464 (cpOf kd ky fp k n z) y=some ([],11):=by
   rw[e464,t464]
   refine bt (a:=true) ?_ rfl
   by_cases c:kd=2
   ·rw[bs (p453t kd ky fp k n z (.inr c) h),cn_t];dsimp only[cpOf];rw[decide_eq_true h1]
   ·rw[bs (p453f kd ky fp k n z (fun q=>q.elim h1 c) h.1),cn_f]
  exact⟨_,b1,b2,by simp⟩
theorem p457(z:Nat)(h:1<=z)(h2:z<=100000):f457 (z:Int)=some ((nseg z:Nat):Int):=by
 have hq:quoI ((z-1:Nat):Int) 64=some (((z-1)/64:Nat):Int):=quoI_nat (b:=64) (by omega) (by omega)
 rw[e457,t457,subI_ok (by omega) (by omega),show(z:Int)-1=((z-1:Nat):Int)by omega,bs hq,addI_1 (by omega)]
 congr 1;unfold nseg;omega
theorem p456(z j:Nat)(h:64*j<z)(h2:z<=100000):f456 (z:Int) (j:Int)=some ((segLen z j:Nat):Int):=by
 have e:mulI (j:Int) 64=((64*j:Nat):Int):=by rw[mulI_ok (by omega) (by omega)];omega
 rw[e456,t456,e,subI_ok (by omega) (by omega),show(64:Int)=((64:Nat):Int)from rfl,show(z:Int)-((64*j:Nat):Int)=((z-64*j:Nat):Int)by omega,minI_nat];rfl
section
variable {k n z : Nat} (kd : Int) (ky : V16) (cr r : H) (hk : kd = 1 ∨ kd = 2) (h1 : 1 <= k) (h2 : k <= n) (h3 : n <= 4) (hz1 : 1 <= z) (hz : z <= 192) (i : Nat) (hi : i < n) (ps : List H) (hps : ps.length = lg n) (Bl : List B) (hB : BlOk k z Bl)
include hk h1 h2 h3 hz1 hz hi hps hB
theorem p455:f455 (cpOf kd ky (uebH (packC k n z 64 cr r)) k n z) ((i:Int),packC k n z 64 cr r,ps,Bl,())=some (if climbC i (root (Bl.map leaf)) ps=r then(mkU k n z 64 cr r,true)else(zU,false)):=by
 have hok:OkU k n z:=⟨h1,h2,by omega,hz1,by omega⟩
 have hun:=(unpA (b:=packC k n z 64 cr r) ⟨hok,rfl⟩).2
 have hpl:=packC_le k n z 64 cr r
 have hBs:=bl_small kd hk h1 h2 h3 hz1 hz i hi ps hps Bl hB
 have hns:1<=nseg z∧nseg z<=3:=by unfold nseg;omega
 rw[e455,t455]
 refine bt (a:=false) ?_ ?_
 ·rw[bs (p453t kd ky _ k n z hk hok),cn_t]
  refine bt (p18 _ (by dsimp only;omega)) ?_
  dsimp only[cpOf]
  rw[decide_eq_true (show uebH (packC k n z 64 cr r)=uebH (packC k n z 64 cr r)from rfl)];rfl
 rw[cb_f]
 refine bt hun ?_
 refine bt (a:=false) ?_ ?_
 ·dsimp only[cpOf,mkU]
  rw[cn_t,cd_neg (show¬(k:Int)≠(k:Int)by simp),cd_neg (show¬(n:Int)≠(n:Int)by simp),cd_neg (show¬(z:Int)≠(z:Int)by simp),cd_neg (by omega),cd_neg (show¬(n:Int)<=(i:Int)by omega),bs (p457 z hz1 (by omega)),hB.1];simp
 rw[cb_f]
 dsimp only[cpOf,mkU]
 refine it_bind (fun j=>((j:Int),(0:Int),(0:Int),(0:Int),(0:Int),Vector.replicate 32 (0:UInt8),Vector.replicate 32 (0:UInt8),())) Bl.length
  (.inl ((0:Int),(0:Int),(0:Int),(0:Int),Vector.replicate 32 (0:UInt8),Vector.replicate 32 (0:UInt8),())) rfl ?_ ?_ (by rw[hB.1];omega) ?_
 ·intro j hj
  have hjn:j<nseg z:=by rw[←hB.1];exact hj
  have hjz:64*j<z:=by unfold nseg at hjn;omega
  have hsl:1<=segLen z j∧segLen z j<=64:=by unfold segLen;omega
  dsimp only
  rw[cd_pos (by omega),bs (at_lt hj),bs (p456 z j hjz (by omega)),bs (p448 k _ h1 hsl.1 (by omega)),hB.2 j hj,cd_neg (by simp),addI_1 (by omega)]
 ·dsimp only
  rw[cd_neg (by omega)]
 show(Option.bind (f37 _) _)=_
 have h37:=p37 ((i:Int),packC k n z 64 cr r,ps,Bl,()) hBs (by dsimp only;rw[hB.1];omega)
 rw[bs h37]
 dsimp only
 rw[bs (p449 r n i (root (Bl.map leaf)) ps (by omega) hi hps)]
 by_cases c:climbC i (root (Bl.map leaf)) ps=r
 ·rw[decide_eq_true c,if_pos c,cn_t]
 ·rw[decide_eq_false c,if_neg c,cn_f];rfl
end
end Mx
end
section
open Go Go.Proofs Ev Sx
namespace Mx
abbrev TS:=List (Nat×List H×List B)
abbrev shT(u:B)(t:Nat×List H×List B):ShT:=((t.1:Int),u,t.2.1,t.2.2,())
theorem inv_both{k n:Nat}(h1:1<=k)(h2:k<=n)(h3:n<=4){I:List Nat}(h:Sel k n I): ∃N,f121 (rowsI k n I)=some (N,0)∧f116 (rowsI k n I)=some (N,true)∧coOk N k=true∧f476 (MT k n) (I.map fun(i:Nat)=>(i:Int))=some (rowsI k n I,0):=
 sel_cases h1 h2 h3 h (P:=fun k n I=> ∃N,f121 (rowsI k n I)=some (N,0)∧f116 (rowsI k n I)=some (N,true)∧coOk N k=true∧f476 (MT k n) (I.map fun(i:Nat)=>(i:Int))=some (rowsI k n I,0)) ⟨⟨_,(k121 [[1]]).trans b121_0,(k116 [[1]]).trans b116_0,id_0.2.1,v476_0⟩,
  ⟨_,(k121 [[1]]).trans b121_0,(k116 [[1]]).trans b116_0,id_0.2.1,v476_1⟩,
  ⟨_,(k121 [[1]]).trans b121_0,(k116 [[1]]).trans b116_0,id_0.2.1,v476_2⟩,
  ⟨_,(k121 [[1,0],[0,1]]).trans b121_1,(k116 [[1,0],[0,1]]).trans b116_1,id_1.2.1,v476_3⟩,
  ⟨_,(k121 [[1]]).trans b121_0,(k116 [[1]]).trans b116_0,id_0.2.1,v476_4⟩,
  ⟨_,(k121 [[1]]).trans b121_0,(k116 [[1]]).trans b116_0,id_0.2.1,v476_5⟩,
  ⟨_,(k121 [[1]]).trans b121_0,(k116 [[1]]).trans b116_0,id_0.2.1,v476_6⟩,
  ⟨_,(k121 [[1,0],[0,1]]).trans b121_1,(k116 [[1,0],[0,1]]).trans b116_1,id_1.2.1,v476_7⟩,
  ⟨_,(k121 [[1,0],[3,2]]).trans b121_2,(k116 [[1,0],[3,2]]).trans b116_2,id_2.2.1,v476_8⟩,
  ⟨_,(k121 [[0,1],[3,2]]).trans b121_3,(k116 [[0,1],[3,2]]).trans b116_3,id_3.2.1,v476_9⟩,
  ⟨_,(k121 [[1,0,0],[0,1,0],[0,0,1]]).trans b121_4,(k116 [[1,0,0],[0,1,0],[0,0,1]]).trans b116_4,id_4.2.1,v476_10⟩,
  ⟨_,(k121 [[1]]).trans b121_0,(k116 [[1]]).trans b116_0,id_0.2.1,v476_11⟩,
  ⟨_,(k121 [[1]]).trans b121_0,(k116 [[1]]).trans b116_0,id_0.2.1,v476_12⟩,
  ⟨_,(k121 [[1]]).trans b121_0,(k116 [[1]]).trans b116_0,id_0.2.1,v476_13⟩,
  ⟨_,(k121 [[1]]).trans b121_0,(k116 [[1]]).trans b116_0,id_0.2.1,v476_14⟩,
  ⟨_,(k121 [[1,0],[0,1]]).trans b121_1,(k116 [[1,0],[0,1]]).trans b116_1,id_1.2.1,v476_15⟩,
  ⟨_,(k121 [[1,0],[3,2]]).trans b121_2,(k116 [[1,0],[3,2]]).trans b116_2,id_2.2.1,v476_16⟩,
  ⟨_,(k121 [[1,0],[2,3]]).trans b121_5,(k116 [[1,0],[2,3]]).trans b116_5,id_5.2.1,v476_17⟩,
  ⟨_,(k121 [[0,1],[3,2]]).trans b121_3,(k116 [[0,1],[3,2]]).trans b116_3,id_3.2.1,v476_18⟩,
  ⟨_,(k121 [[0,1],[2,3]]).trans b121_6,(k116 [[0,1],[2,3]]).trans b116_6,id_6.2.1,v476_19⟩,
  ⟨_,(k121 [[3,2],[2,3]]).trans b121_7,(k116 [[3,2],[2,3]]).trans b116_7,id_7.2.1,v476_20⟩,
  ⟨_,(k121 [[1,0,0],[0,1,0],[0,0,1]]).trans b121_4,(k116 [[1,0,0],[0,1,0],[0,0,1]]).trans b116_4,id_4.2.1,v476_21⟩,
  ⟨_,(k121 [[1,0,0],[0,1,0],[1,1,1]]).trans b121_8,(k116 [[1,0,0],[0,1,0],[1,1,1]]).trans b116_8,id_8.2.1,v476_22⟩,
  ⟨_,(k121 [[1,0,0],[0,0,1],[1,1,1]]).trans b121_9,(k116 [[1,0,0],[0,0,1],[1,1,1]]).trans b116_9,id_9.2.1,v476_23⟩,
  ⟨_,(k121 [[0,1,0],[0,0,1],[1,1,1]]).trans b121_10,(k116 [[0,1,0],[0,0,1],[1,1,1]]).trans b116_10,id_10.2.1,v476_24⟩,
  ⟨_,(k121 [[1,0,0,0],[0,1,0,0],[0,0,1,0],[0,0,0,1]]).trans b121_11,(k116 [[1,0,0,0],[0,1,0,0],[0,0,1,0],[0,0,0,1]]).trans b116_11,id_11.2.1,v476_25⟩⟩
theorem shLen_ge(k s:Nat)(h1:1<=k)(hs:1<=s):s<=shLen k s*k:=by
 unfold shLen
 have:=Nat.div_add_mod (s-1) k
 have h2:=Nat.mod_lt (s-1) h1
 rw[Nat.add_mul,Nat.mul_comm];omega
theorem shLen_le(k s:Nat)(hs:s<=64):shLen k s<=64:=by
 unfold shLen
 have:(s-1)/k<=s-1:=Nat.div_le_self _ _
 rcases Nat.eq_zero_or_pos s with h|h
 ·subst h;simp
 ·omega
theorem decN_len{N:List B}{L k:Nat}(D:List B)(h:N.length=k):(decN N L k D).length=L*k:=by
 unfold decN
 rw[flat_len L _ (fun b hb=>by obtain⟨m,_,rfl⟩:=List.mem_map.1 hb;exact encR_len _ _ _ _),List.length_map,h]
theorem p471c(kd:Int)(ky:V16)(fp:H)(hk:kd=1∨kd=2)(k n z:Nat)(hz:OkU k n z):f471 (cpOf kd ky fp k n z)=some true:=by
 rw[e471,t471,bs (p136f kd ky fp k n z hk hz),cb_t]
 rcases hk with rfl|rfl<;>rfl
section
variable {k n z : Nat} (kd : Int) (ky : V16) (cr r : H) (hk : kd = 1 ∨ kd = 2) (h1 : 1 <= k) (h2 : k <= n) (h3 : n <= 4) (hz1 : 1 <= z) (hz : z <= 192) (T : TS) (hT : T.length = k) (hg : ∀ t ∈ T, t.1 < n ∧ t.2.1.length = lg n ∧ BlOk k z t.2.2)
abbrev okT(r:H)(t:Nat×List H×List B):Prop:=climbC t.1 (root (t.2.2.map leaf)) t.2.1=r
abbrev badT(r:H)(T:TS)(j:Nat):Prop:= ¬okT r (T.getD j (0,[],[]))∨0<j∧(T.getD j (0,[],[])).1<=(T.getD (j-1) (0,[],[])).1
theorem least{p:Nat->Prop}: ∀ {m:Nat},p m-> ∃j,j<=m∧p j∧ ∀i,i<j-> ¬p i
 |m,h=>by
  by_cases c: ∃i,i<m∧p i
  ·obtain⟨i,hi,hp⟩:=c
   obtain⟨j,h1,h2,h3⟩:=least hp
   exact⟨j,by omega,h2,h3⟩
  ·exact⟨m,Nat.le_refl _,h,fun i hi hp=>c ⟨i,hi,hp⟩⟩
include hk h1 h2 h3 hz1 hz hT hg
theorem at_T(u:B)(j:Nat)(hj:j<k):at? (T.map (shT u)) (j:Int)=some (shT u (T.getD j (0,[],[]))):=by
 rw[at_gd (by rw[List.length_map,hT];exact hj) (shT u (0,[],[])),gd_map T (shT u) j (0,[],[]) _ (by omega)]
theorem gT(j:Nat)(hj:j<k):(T.getD j (0,[],[])).1<n∧(T.getD j (0,[],[])).2.1.length=lg n∧BlOk k z (T.getD j (0,[],[])).2.2:=by
 have e:T.getD j (0,[],[])=T[j]'(by omega):=by simp[List.getD_eq_getElem?_getD,show j<T.length by omega]
 rw[e];exact hg _ (List.getElem_mem _)
theorem R1(j:Nat)(hj:j<k):f146 (cpOf kd ky (uebH (packC k n z 64 cr r)) k n z) (shT (packC k n z 64 cr r) (T.getD j (0,[],[])))=some (if okT r (T.getD j (0,[],[]))then(mkU k n z 64 cr r,true)else(zU,false)):=by
 obtain⟨g1,g2,g3⟩:=gT kd hk h1 h2 h3 hz1 hz T hT hg j hj
 exact p146 kd ky cr r hk h1 h2 h3 hz1 hz _ g1 _ g2 _ g3
theorem R2(j:Nat)(hj:j<k):f455 (cpOf kd ky (uebH (packC k n z 64 cr r)) k n z) (shT (packC k n z 64 cr r) (T.getD j (0,[],[])))=some (if okT r (T.getD j (0,[],[]))then(mkU k n z 64 cr r,true)else(zU,false)):=by
 obtain⟨g1,g2,g3⟩:=gT kd hk h1 h2 h3 hz1 hz T hT hg j hj
 exact p455 kd ky cr r hk h1 h2 h3 hz1 hz _ g1 _ g2 _ g3
theorem join_bad(hb: ∃j,j<k∧badT r T j):f467 (cpOf kd ky (uebH (packC k n z 64 cr r)) k n z) (T.map (shT (packC k n z 64 cr r)))=some ([],zU,1)∧f463 (cpOf kd ky (uebH (packC k n z 64 cr r)) k n z) (T.map (shT (packC k n z 64 cr r)))=some ([],zU,1):=by
 have hok:OkU k n z:=⟨h1,h2,by omega,hz1,by omega⟩
 obtain⟨m,hm,hb⟩:=hb
 obtain⟨j,hj,hbj,hlt⟩:=least hb
 have hS:(T.map (shT (packC k n z 64 cr r))).length=k:=by rw[List.length_map,hT]
 have hat:=at_T kd hk h1 h2 h3 hz1 hz T hT hg (packC k n z 64 cr r)
 have r1:=R1 kd ky cr r hk h1 h2 h3 hz1 hz T hT hg
 have r2:=R2 kd ky cr r hk h1 h2 h3 hz1 hz T hT hg
 have dec: ∀i,i<k-> ∀(A:Bool),A=decide (badT r T i)->((bif !(if okT r (T.getD i (0,[],[]))then((mkU k n z 64 cr r,true):U×Bool)else(zU,false)).2 then some true else bif decide ((0:Int)<(i:Int))then(at? (T.map (shT (packC k n z 64 cr r))) (subI (i:Int) 1)).bind fun(y_1:ShT)=>some (decide ((shT (packC k n z 64 cr r) (T.getD i (0,[],[]))).1<=y_1.1))else some false):Option Bool)=some A:=fun i hi A hA=>by
  subst hA
  by_cases c:okT r (T.getD i (0,[],[]))
  ·rw[if_pos c,cn_t]
   by_cases d:i=0
   ·rw[cd_neg (by omega),decide_eq_false (show¬badT r T i from fun q=>q.elim (fun q=>q c) (fun q=>by omega))]
   ·rw[cd_pos (by omega),subI_ok (by omega) (by omega),show(i:Int)-1=((i-1:Nat):Int)by omega,bs (hat (i-1) (by omega))]
    congr 1
    by_cases g:(T.getD i (0,[],[])).1<=(T.getD (i-1) (0,[],[])).1
    ·rw[decide_eq_true (show badT r T i from .inr ⟨by omega,g⟩)];exact decide_eq_true (by show((T.getD i (0,[],[])).1:Int)<=((T.getD (i-1) (0,[],[])).1:Int);omega)
    ·rw[decide_eq_false (show¬badT r T i from fun q=>q.elim (fun q=>q c) (fun q=>g q.2))];exact decide_eq_false (by show¬((T.getD i (0,[],[])).1:Int)<=((T.getD (i-1) (0,[],[])).1:Int);omega)
  ·rw[if_neg c,cn_f,decide_eq_true (show badT r T i from .inl c)]
 constructor
 ·rw[e467,t467,bs (p471c kd ky _ hk k n z hok),cn_t,hS]
  dsimp only[cpOf]at r1⊢
  rw[cd_neg (by simp)]
  refine it_bind (fun i=>((i:Int),(0:Int),(0:Int),(0:Int),(0:Int),Vector.replicate 32 (0:UInt8),Vector.replicate 32 (0:UInt8),())) j
   (.inr ([],(1:Int),(0:Int),(0:Int),(0:Int),(0:Int),Vector.replicate 32 (0:UInt8),Vector.replicate 32 (0:UInt8),())) rfl ?_ ?_ (by omega) rfl
  ·intro i hi
   dsimp only
   rw[cd_pos (by omega),bs (hat i (by omega)),bs (r1 i (by omega))]
   refine bt (dec i (by omega) false (decide_eq_false (hlt i hi)).symm) ?_
   rw[cb_f,addI_1 (by omega)]
  ·dsimp only
   rw[cd_pos (by omega),bs (hat j (by omega)),bs (r1 j (by omega))]
   refine bt (dec j (by omega) true (decide_eq_true hbj).symm) ?_
   rw[cb_t]
 ·rw[e463,t463,bs (p453t kd ky _ k n z hk hok),cn_t,hS]
  dsimp only[cpOf]at r2⊢
  rw[cd_neg (by simp)]
  refine it_bind (fun i=>((i:Int),zU,if i=0 then zU else mkU k n z 64 cr r)) j
   (.inr ([],(1:Int),zU,if j=0 then zU else mkU k n z 64 cr r)) rfl ?_ ?_ (by omega) rfl
  ·intro i hi
   have hok2:okT r (T.getD i (0,[],[])):=Classical.byContradiction fun q=>hlt i hi (.inl q)
   dsimp only
   rw[cd_pos (by omega),bs (hat i (by omega)),bs (r2 i (by omega))]
   have d0:=dec i (by omega) false (decide_eq_false (hlt i hi)).symm
   rw[if_pos hok2]at d0⊢
   dsimp only at d0⊢
   rw[cn_t]at d0⊢
   refine bt (a:=false) ?_ ?_
   ·rw[←d0]
    by_cases d:i=0
    ·rw[cd_neg (by omega),cd_neg (by omega)]
    ·rw[cd_pos (by omega),cd_pos (by omega),bs (hat i (by omega))]
   ·rw[cb_f]
    by_cases d:i=0
    ·subst d
     rw[cd_pos (show((0:Nat):Int)=0 from rfl),Option.bind_some,if_neg (by omega),addI_1 (by omega)]
    ·rw[cd_neg (by omega),Option.bind_some,if_neg d,if_neg (by omega),addI_1 (by omega)]
  ·dsimp only
   rw[cd_pos (by omega),bs (hat j (by omega)),bs (r2 j (by omega))]
   have d0:=dec j (by omega) true (decide_eq_true hbj).symm
   refine bt (a:=true) ?_ ?_
   ·rw[←d0]
    by_cases c:okT r (T.getD j (0,[],[]))
    ·rw[if_pos c]
     dsimp only
     rw[cn_t,cn_t]
     by_cases d:j=0
     ·rw[cd_neg (by omega),cd_neg (by omega)]
     ·rw[cd_pos (by omega),cd_pos (by omega),bs (hat j (by omega))]
    ·rw[if_neg c];rfl
   ·rw[cb_t];rfl
end
end Mx
end
section
open Go Go.Proofs Ev Sx
namespace Mx
theorem rowX_map(f:(Nat×List H×List B)->Nat)(g:(Nat×List H×List B)->B): ∀T:TS,rowX (T.map f) (T.map g)=T.map fun t=>((f t:Int),g t,())
 |[]=>rfl
 |t::T=>by
  have:=rowX_map f g T
  simp only[rowX,List.map_cons,List.zipWith_cons_cons]at this⊢
  rw[this]
section
variable {k n z : Nat} (kd : Int) (ky : V16) (cr r : H) (hk : kd = 1 ∨ kd = 2) (h1 : 1 <= k) (h2 : k <= n) (h3 : n <= 4) (hz1 : 1 <= z) (hz : z <= 192) (T : TS) (hT : T.length = k) (hg : ∀ t ∈ T, t.1 < n ∧ t.2.1.length = lg n ∧ BlOk k z t.2.2)
def dT(T:TS)(j:Nat):List B:=T.map fun t=>t.2.2.getD j []
def outT(N:List B)(k z:Nat)(T:TS)(j:Nat):B:=((List.range j).map fun t=>(decN N (shLen k (segLen z t)) k (dT T t)).take (segLen z t)).flatten
include hk h1 h2 h3 hz1 hz hT hg
theorem sel_T(hn: ∀j,j<k-> ¬badT r T j):Sel k n (T.map (·.1)):=by
 have hadj: ∀j,0<j->j<k->(T.getD (j-1) (0,[],[])).1<(T.getD j (0,[],[])).1:=fun j h0 hj=>by
  have:=hn j hj
  rcases Nat.lt_or_ge (T.getD (j-1) (0,[],[])).1 (T.getD j (0,[],[])).1 with h|h
  ·exact h
  ·exact absurd (.inr ⟨h0,h⟩) this
 have hgd: ∀j (hj:j<T.length),T[j]=T.getD j (0,[],[]):=fun j hj=>by simp[List.getD_eq_getElem?_getD,hj]
 have hlt: ∀d i,i+d+1<k->(T.getD i (0,[],[])).1<(T.getD (i+d+1) (0,[],[])).1:=fun d=>by
  induction d with
  |zero=>intro i hi;exact hadj (i+1) (by omega) hi
  |succ d ih=>
   intro i hi
   have a:=ih i (by omega)
   have b:=hadj (i+d+1+1) (by omega) hi
   rw[show i+d+1+1-1=i+d+1 by omega]at b
   exact Nat.lt_trans a b
 refine⟨by rw[List.length_map,hT],?_,fun i hi=> ?_⟩
 ·rw[List.pairwise_iff_getElem]
  intro i j hi hj hij
  rw[List.getElem_map,List.getElem_map,hgd,hgd]
  rw[List.length_map,hT]at hi hj
  have:=hlt (j-i-1) i (by omega)
  rwa[show i+(j-i-1)+1=j by omega]at this
 ·obtain⟨t,ht,rfl⟩:=List.mem_map.1 hi
  exact(hg t ht).1
theorem dT_len(j:Nat)(hj:j<nseg z):(dT T j).length=k∧ ∀d∈dT T j,d.length=shLen k (segLen z j):=by
 refine⟨by simp[dT,hT],fun d hd=> ?_⟩
 obtain⟨t,ht,rfl⟩:=List.mem_map.1 hd
 obtain⟨b1,b2⟩:=(hg t ht).2.2
 have:j<t.2.2.length:=by rw[b1];exact hj
 have e:t.2.2.getD j []=t.2.2[j]:=by simp[List.getD_eq_getElem?_getD,this]
 rw[e];exact b2 j this
theorem outT_len(N:List B)(hN:N.length=k)(j:Nat)(hj:j<=nseg z):(outT N k z T j).length=min (64*j) z:=by
 induction j with
 |zero=>simp[outT]
 |succ j ih=>
  have hjz:64*j<z:=by unfold nseg at hj;omega
  have hsl:1<=segLen z j∧segLen z j<=64:=by unfold segLen;omega
  have hge:=shLen_ge k (segLen z j) h1 hsl.1
  have h:=ih (by omega)
  unfold outT at h⊢
  rw[List.range_succ,List.map_append,List.flatten_append,List.length_append,h]
  simp only[List.map_cons,List.map_nil,List.flatten_cons,List.flatten_nil,List.append_nil,List.length_take,decN_len _ hN]
  rw[Nat.min_eq_left hge]
  unfold segLen;omega
theorem outT_succ(N:List B)(j:Nat):outT N k z T (j+1)=outT N k z T j++(decN N (shLen k (segLen z j)) k (dT T j)).take (segLen z j):=by
 unfold outT
 rw[List.range_succ,List.map_append,List.flatten_append];simp
theorem join_ok(hn: ∀j,j<k-> ¬badT r T j): ∃q:B×U×Int,q.1.length<=1000∧f467 (cpOf kd ky (uebH (packC k n z 64 cr r)) k n z) (T.map (shT (packC k n z 64 cr r)))=some q∧f463 (cpOf kd ky (uebH (packC k n z 64 cr r)) k n z) (T.map (shT (packC k n z 64 cr r)))=some q:=by
 have hok:OkU k n z:=⟨h1,h2,by omega,hz1,by omega⟩
 have hns:1<=nseg z∧nseg z<=3:=by unfold nseg;omega
 have hsel:=sel_T kd r hk h1 h2 h3 hz1 hz T hT hg hn
 obtain⟨N,e1,e2,cN,e3⟩:=inv_both h1 h2 h3 hsel
 have lN:=(coOk_len cN).1
 have hS:(T.map (shT (packC k n z 64 cr r))).length=k:=by rw[List.length_map,hT]
 have hat:=at_T kd hk h1 h2 h3 hz1 hz T hT hg (packC k n z 64 cr r)
 have h0:at? (T.map (shT (packC k n z 64 cr r))) 0=_:=hat 0 (by omega)
 have hgT:=gT kd hk h1 h2 h3 hz1 hz T hT hg
 have hok2: ∀j,j<k->okT r (T.getD j (0,[],[])):=fun j hj=>Classical.byContradiction fun q=>hn j hj (.inl q)
 have r1: ∀j,j<k->f146 (cpOf kd ky (uebH (packC k n z 64 cr r)) k n z) (shT (packC k n z 64 cr r) (T.getD j (0,[],[])))=some (mkU k n z 64 cr r,true):=fun j hj=>by
  rw[R1 kd ky cr r hk h1 h2 h3 hz1 hz T hT hg j hj,if_pos (hok2 j hj)]
 have r2: ∀j,j<k->f455 (cpOf kd ky (uebH (packC k n z 64 cr r)) k n z) (shT (packC k n z 64 cr r) (T.getD j (0,[],[])))=some (mkU k n z 64 cr r,true):=fun j hj=>by
  rw[R2 kd ky cr r hk h1 h2 h3 hz1 hz T hT hg j hj,if_pos (hok2 j hj)]
 have hlt: ∀j,0<j->j<k->(T.getD (j-1) (0,[],[])).1<(T.getD j (0,[],[])).1:=fun j a b=>by
  rcases Nat.lt_or_ge (T.getD (j-1) (0,[],[])).1 (T.getD j (0,[],[])).1 with h|h
  ·exact h
  ·exact absurd (.inr ⟨a,h⟩) (hn j b)
 have hol:=outT_len kd hk h1 h2 h3 hz1 hz T hT hg N lN
 have hos:=outT_succ kd hk h1 h2 h3 hz1 hz T hT hg N
 have hrow: ∀j,(T.map fun t=>((t.1:Int),t.2.2.getD j [],()))=rowX (T.map (·.1)) (dT T j):=fun j=>(rowX_map (·.1) (fun t=>t.2.2.getD j []) T).symm
 have htk: ∀(i:Nat) (hi:i<k),T.take (i+1)=T.take i++[T.getD i (0,[],[])]:=fun i hi=>by
  rw[tk T i (by omega)];simp[List.getD_eq_getElem?_getD,show i<T.length by omega]
 have hbat: ∀j,j<nseg z-> ∀i,i<k->at? (T.getD i (0,[],[])).2.2 (j:Int)=some ((T.getD i (0,[],[])).2.2.getD j []):=fun j hj i hi=>at_gd (by rw[(hgT i hi).2.2.1];exact hj) []
 have hbl: ∀i,i<k->(T.getD i (0,[],[])).2.2.length=nseg z:=fun i hi=>(hgT i hi).2.2.1
 have hdl:=dT_len kd hk h1 h2 h3 hz1 hz T hT hg
 have hll: ∀j,j<nseg z->1<=segLen z j∧segLen z j<=64∧segLen z j<=shLen k (segLen z j)*k∧shLen k (segLen z j)<=64∧64*j<z:=fun j hj=>by
  have hjz:64*j<z:=by unfold nseg at hj;omega
  have hsl:1<=segLen z j∧segLen z j<=64:=by unfold segLen;omega
  exact⟨hsl.1,hsl.2,shLen_ge k _ h1 hsl.1,shLen_le k _ hsl.2,hjz⟩
 have hend:(outT N k z T (nseg z)).length=z:=by rw[hol _ (Nat.le_refl _)];unfold nseg;omega
 let Q:B×U×Int:=if crypt (outT N k z T (nseg z))=cr then(outT N k z T (nseg z),mkU k n z 64 cr r,0)else([],zU,13)
 refine⟨Q,by show(if _ then _ else _:B×U×Int).1.length<=1000;split<;>simp<;>omega,?_,?_⟩
 ·rw[e467,t467,bs (p471c kd ky _ hk k n z hok),cn_t,hS]
  dsimp only[cpOf]at r1⊢
  rw[cd_neg (by simp)]
  refine it_bind (fun i=>((i:Int),(0:Int),(0:Int),(0:Int),(0:Int),Vector.replicate 32 (0:UInt8),Vector.replicate 32 (0:UInt8),())) k
   (.inl ((0:Int),(0:Int),(0:Int),(0:Int),Vector.replicate 32 (0:UInt8),Vector.replicate 32 (0:UInt8),())) rfl ?_ ?_ (by omega) ?_
  ·intro i hi
   dsimp only
   rw[cd_pos (by omega),bs (hat i (by omega)),bs (r1 i (by omega))]
   refine bt (a:=false) ?_ ?_
   ·rw[cn_t]
    by_cases d:i=0
    ·rw[cd_neg (by omega)]
    ·have:=hlt i (by omega) hi
     rw[cd_pos (by omega),subI_ok (by omega) (by omega),show(i:Int)-1=((i-1:Nat):Int)by omega,bs (hat (i-1) (by omega))]
     exact congrArg some (decide_eq_false (by show¬((T.getD i (0,[],[])).1:Int)<=((T.getD (i-1) (0,[],[])).1:Int);omega))
   ·rw[cb_f,addI_1 (by omega)]
  ·dsimp only;rw[cd_neg (by omega)]
  show(Option.bind (at? _ _) _)=_
  rw[bs h0,bs (r1 0 (by omega))]
  dsimp only[mkU]
  rw[bs (p83 h1 h2 h3),bs h0]
  refine it_bind (fun j=>(outT N k z T j,(j:Int),(0:Int),(0:Int),(0:Int),(0:Int),Vector.replicate 32 (0:UInt8),Vector.replicate 32 (0:UInt8),())) (nseg z)
   (.inl (outT N k z T (nseg z),(0:Int),(0:Int),(0:Int),(0:Int),Vector.replicate 32 (0:UInt8),Vector.replicate 32 (0:UInt8),())) (by simp[outT]) ?_ ?_ (by omega) ?_
  ·intro j hj
   obtain⟨l1,l2,l3,l4,l5⟩:=hll j hj
   obtain⟨d1,d2⟩:=hdl j hj
   have hb0:(j:Int)<((T.getD 0 (0,[],[])).2.2.length:Int):=by rw[hbl 0 (by omega)];omega
   dsimp only
   rw[cd_pos hb0]
   refine it_bind (fun i=>((T.take i).map (fun t=>((t.1:Int),t.2.2.getD j [],())),(i:Int))) k (rowX (T.map (·.1)) (dT T j)) rfl ?_ ?_ (by omega) ?_
   ·intro i hi
    dsimp only
    rw[cd_pos (by omega),bs (hat i hi)]
    dsimp only
    rw[bs (hbat j hj i hi),bs (app_ok (by simp;omega)),addI_1 (by omega),htk i hi,List.map_append];rfl
   ·dsimp only
    rw[cd_neg (by omega),List.take_of_length_le (l:=T) (by omega),hrow j]
   dsimp only[Option.bind_some]
   have hdec:=decN_len (N:=N) (L:=shLen k (segLen z j)) (dT T j) lN
   have hoj:=hol j (by omega)
   rw[bs (p410G h1 h2 h3 hsel (dT T j) d1 d2 (by omega) N e1 e3 cN),cd_neg (by simp)]
   dsimp only
   have hm:minI (minI ((decN N (shLen k (segLen z j)) k (dT T j)).length:Int) 64) (subI (z:Int) ((outT N k z T j).length:Int))=((segLen z j:Nat):Int):=by
    rw[hdec,hoj,subI_ok (by omega) (by omega),show(64:Int)=((64:Nat):Int)from rfl,minI_nat,show(z:Int)-((min (64*j) z:Nat):Int)=((z-64*j:Nat):Int)by omega,minI_nat]
    have:segLen z j=min (z-64*j) 64:=rfl
    omega
   rw[hm]
   have hc:cut? (decN N (shLen k (segLen z j)) k (dT T j)) 0 ((segLen z j:Nat):Int)=some (((decN N (shLen k (segLen z j)) k (dT T j)).drop 0).take (segLen z j-0)):=cut_nat (a:=0) (by omega) (by omega)
   rw[bs hc,List.drop_zero,Nat.sub_zero,bs (app_ok (by rw[hoj,List.length_take];omega)),addI_1 (by omega),←hos j]
  ·have hb0: ¬((nseg z:Nat):Int)<((T.getD 0 (0,[],[])).2.2.length:Int):=by rw[hbl 0 (by omega)];omega
   dsimp only
   rw[cd_neg hb0]
  show(Option.bind (f48 (outT N k z T (nseg z))) _)=_
  rw[bs (p48 _ (by omega) (by omega))]
  show _=some (if _ then _ else _)
  by_cases c:crypt (outT N k z T (nseg z))=cr
  ·rw[decide_eq_true c,if_pos c,cn_t]
  ·rw[decide_eq_false c,if_neg c,cn_f];rfl
 ·rw[e463,t463,bs (p453t kd ky _ k n z hk hok),cn_t,hS]
  dsimp only[cpOf]at r2⊢
  rw[cd_neg (by simp)]
  refine it_bind (fun i=>((i:Int),zU,if i=0 then zU else mkU k n z 64 cr r)) k
   (.inl (zU,mkU k n z 64 cr r)) rfl ?_ ?_ (by omega) ?_
  ·intro i hi
   dsimp only
   rw[cd_pos (by omega),bs (hat i (by omega)),bs (r2 i (by omega))]
   refine bt (a:=false) ?_ ?_
   ·rw[cn_t]
    by_cases d:i=0
    ·rw[cd_neg (by omega)]
    ·have:=hlt i (by omega) hi
     rw[cd_pos (by omega),bs (hat i hi),subI_ok (by omega) (by omega),show(i:Int)-1=((i-1:Nat):Int)by omega,bs (hat (i-1) (by omega))]
     exact congrArg some (decide_eq_false (by show¬((T.getD i (0,[],[])).1:Int)<=((T.getD (i-1) (0,[],[])).1:Int);omega))
   ·rw[cb_f]
    by_cases d:i=0
    ·subst d
     rw[cd_pos (show((0:Nat):Int)=0 from rfl),Option.bind_some,if_neg (by omega),addI_1 (by omega)]
    ·rw[cd_neg (by omega),Option.bind_some,if_neg d,if_neg (by omega),addI_1 (by omega)]
  ·dsimp only;rw[cd_neg (by omega),if_neg (by omega)]
  show(Option.bind (iter _ _) _)=_
  dsimp only[zU]
  refine it_bind (fun j=>(outT N k z T j,(j:Int),(0:Int),(0:Int),(0:Int),(0:Int),Vector.replicate 32 (0:UInt8),Vector.replicate 32 (0:UInt8),())) (nseg z)
   (.inl (outT N k z T (nseg z),(0:Int),(0:Int),(0:Int),(0:Int),Vector.replicate 32 (0:UInt8),Vector.replicate 32 (0:UInt8),())) (by simp[outT]) ?_ ?_ (by omega) ?_
  ·intro j hj
   obtain⟨l1,l2,l3,l4,l5⟩:=hll j hj
   obtain⟨d1,d2⟩:=hdl j hj
   dsimp only
   rw[bs (p457 z hz1 (by omega)),cd_pos (by omega)]
   refine it_bind (fun i=>((T.take i).map (fun t=>((t.1:Int),t.2.2.getD j [],())),(i:Int))) k (rowX (T.map (·.1)) (dT T j)) rfl ?_ ?_ (by omega) ?_
   ·intro i hi
    dsimp only
    rw[cd_pos (by omega),bs (hat i hi),bs (hat i hi)]
    dsimp only
    rw[bs (hbat j hj i hi),bs (app_ok (by simp;omega)),addI_1 (by omega),htk i hi,List.map_append];rfl
   ·dsimp only
    rw[cd_neg (by omega),List.take_of_length_le (l:=T) (by omega),hrow j]
   have hdec:=decN_len (N:=N) (L:=shLen k (segLen z j)) (dT T j) lN
   have hoj:=hol j (by omega)
   rw[bs (p447G h1 h2 h3 hsel (dT T j) d1 d2 (by omega) N e2 cN),cn_t,bs (p456 z j l5 (by omega))]
   have hc:cut? (decN N (shLen k (segLen z j)) k (dT T j)) 0 ((segLen z j:Nat):Int)=some (((decN N (shLen k (segLen z j)) k (dT T j)).drop 0).take (segLen z j-0)):=cut_nat (a:=0) (by omega) (by omega)
   rw[bs hc,List.drop_zero,Nat.sub_zero,bs (app_ok (by rw[hoj,List.length_take];omega)),addI_1 (by omega),←hos j]
  ·dsimp only
   rw[bs (p457 z hz1 (by omega)),cd_neg (by omega)]
  show(Option.bind (f28 (outT N k z T (nseg z))) _)=_
  rw[bs (p28 _ (by omega))]
  show _=some (if _ then _ else _)
  by_cases c:crypt (outT N k z T (nseg z))=cr
  ·rw[decide_eq_true c,if_pos c,cn_t]
  ·rw[decide_eq_false c,if_neg c,cn_f];rfl
end
end Mx
end
