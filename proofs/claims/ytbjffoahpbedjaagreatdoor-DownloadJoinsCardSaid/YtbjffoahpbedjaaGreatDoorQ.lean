/- Plain laws of shares that are worked back. No conditions. -/
import Derived.Test.YtbjffoahpbedjaaGreatDoorE
import Derived.Test.YtbjffoahpbedjaaGreatDoorP
import Derived.Test.YtbjffoahpbedjaaGreatDoorN
import Derived.Test.YtbjffoahpbedjaaGreatDoorG
set_option linter.unusedVariables false
set_option linter.unusedSimpArgs false
set_option linter.unusedSectionVars false
set_option maxRecDepth 100000
section
open Go Go.Proofs Ev Sx
theorem wk21:(r445 ():Option Bool)=some true:=by kernel_rfl
end
section
open Go Go.Proofs Ev Sx
namespace Mx
def bas:List UInt8:=[1,2,4,8,16,32,64,128]
def coefs:List UInt8:=[0,1,2,3,142,143,244,245]
def mget(M:List B)(i j:Nat):UInt8:=(M.getD i []).getD j 0
def coOk(M:List B)(k:Nat):Bool:=decide (M.length=k)&&M.all fun r=>decide (r.length=k)&&r.all fun c=>decide (c∈coefs)
def idOk(M N:List B)(k:Nat):Bool:=(List.range k).all fun r=>(List.range k).all fun j=>(List.range 8).all fun e=>decide (xf (fun i=>mulT (mget N r i) (mulT (mget M i j) (bas.getD e 0))) k=if r=j then bas.getD e 0 else 0)
theorem mem_coefs{M:List B}{k i j:Nat}(h:coOk M k=true):mget M i j∈coefs:=by
 unfold coOk at h
 rw[Bool.and_eq_true,List.all_eq_true]at h
 unfold mget
 by_cases hi:i<M.length
 ·have h1:=h.2 _ (List.getElem_mem hi)
  rw[Bool.and_eq_true,List.all_eq_true]at h1
  have e1:M.getD i []=M[i]:=by simp[List.getD_eq_getElem?_getD,hi]
  rw[e1]
  by_cases hj:j<M[i].length
  ·have e2:M[i].getD j 0=M[i][j]:=by simp[List.getD_eq_getElem?_getD,hj]
   rw[e2]
   exact of_decide_eq_true (h1.2 _ (List.getElem_mem hj))
  ·have e2:M[i].getD j 0=0:=by simp[List.getD_eq_getElem?_getD,Nat.le_of_not_lt hj]
   rw[e2];simp[coefs]
 ·have e1:M.getD i []=[]:=by simp[List.getD_eq_getElem?_getD,Nat.le_of_not_lt hi]
  rw[e1];simp[coefs]
theorem coOk_len{M:List B}{k:Nat}(h:coOk M k=true):M.length=k∧ ∀r∈M,r.length=k:=by
 unfold coOk at h
 rw[Bool.and_eq_true,List.all_eq_true]at h
 refine⟨of_decide_eq_true h.1,fun r hr=> ?_⟩
 have:=h.2 r hr
 rw[Bool.and_eq_true]at this
 exact of_decide_eq_true this.1
end Mx
end
section
open Go Go.Proofs Ev Sx
namespace Mx
def Sel(k n:Nat)(I:List Nat):Prop:=I.length=k∧I.Pairwise (· < ·)∧ ∀i∈I,i<n
theorem sel_cases{k n:Nat}(h1:1<=k)(h2:k<=n)(h3:n<=4){I:List Nat}(h:Sel k n I){P:Nat->Nat->List Nat->Prop}(hp:P 1 1 [0]∧P 1 2 [0]∧P 1 2 [1]∧P 2 2 [0,1]∧P 1 3 [0]∧P 1 3 [1]∧P 1 3 [2]∧P 2 3 [0,1]∧P 2 3 [0,2]∧P 2 3 [1,2]∧P 3 3 [0,1,2]∧P 1 4 [0]∧P 1 4 [1]∧P 1 4 [2]∧P 1 4 [3]∧P 2 4 [0,1]∧P 2 4 [0,2]∧P 2 4 [0,3]∧P 2 4 [1,2]∧P 2 4 [1,3]∧P 2 4 [2,3]∧P 3 4 [0,1,2]∧P 3 4 [0,1,3]∧P 3 4 [0,2,3]∧P 3 4 [1,2,3]∧P 4 4 [0,1,2,3]):P k n I:=by
 obtain⟨c0,c1,c2,c3,c4,c5,c6,c7,c8,c9,c10,c11,c12,c13,c14,c15,c16,c17,c18,c19,c20,c21,c22,c23,c24,c25⟩:=hp
 obtain⟨hl,hs,hb⟩:=h
 have hk:k=1∨k=2∨k=3∨k=4:=by omega
 have hn:n=1∨n=2∨n=3∨n=4:=by omega
 rcases hk with rfl|rfl|rfl|rfl
 ·match I,hl with
  |[a],_=>
   simp only[List.mem_cons,List.mem_nil_iff,or_false,forall_eq]at hb
   rcases hn with rfl|rfl|rfl|rfl
   ·have:(a=0):=by omega
    rcases this with rfl
    ·exact c0
   ·have:(a=0)∨(a=1):=by omega
    rcases this with rfl|rfl
    ·exact c1
    ·exact c2
   ·have:(a=0)∨(a=1)∨(a=2):=by omega
    rcases this with rfl|rfl|rfl
    ·exact c4
    ·exact c5
    ·exact c6
   ·have:(a=0)∨(a=1)∨(a=2)∨(a=3):=by omega
    rcases this with rfl|rfl|rfl|rfl
    ·exact c11
    ·exact c12
    ·exact c13
    ·exact c14
 ·match I,hl with
  |[a,b],_=>
   simp only[List.pairwise_cons,List.mem_cons,List.mem_nil_iff,or_false,forall_eq_or_imp,forall_eq]at hs hb
   rcases hn with rfl|rfl|rfl|rfl
   ·omega
   ·have:(a=0∧b=1):=by omega
    rcases this with⟨rfl,rfl⟩
    ·exact c3
   ·have:(a=0∧b=1)∨(a=0∧b=2)∨(a=1∧b=2):=by omega
    rcases this with⟨rfl,rfl⟩|⟨rfl,rfl⟩|⟨rfl,rfl⟩
    ·exact c7
    ·exact c8
    ·exact c9
   ·have:(a=0∧b=1)∨(a=0∧b=2)∨(a=0∧b=3)∨(a=1∧b=2)∨(a=1∧b=3)∨(a=2∧b=3):=by omega
    rcases this with⟨rfl,rfl⟩|⟨rfl,rfl⟩|⟨rfl,rfl⟩|⟨rfl,rfl⟩|⟨rfl,rfl⟩|⟨rfl,rfl⟩
    ·exact c15
    ·exact c16
    ·exact c17
    ·exact c18
    ·exact c19
    ·exact c20
 ·match I,hl with
  |[a,b,c],_=>
   simp only[List.pairwise_cons,List.mem_cons,List.mem_nil_iff,or_false,forall_eq_or_imp,forall_eq]at hs hb
   rcases hn with rfl|rfl|rfl|rfl
   ·omega
   ·omega
   ·have:(a=0∧b=1∧c=2):=by omega
    rcases this with⟨rfl,rfl,rfl⟩
    ·exact c10
   ·have:(a=0∧b=1∧c=2)∨(a=0∧b=1∧c=3)∨(a=0∧b=2∧c=3)∨(a=1∧b=2∧c=3):=by omega
    rcases this with⟨rfl,rfl,rfl⟩|⟨rfl,rfl,rfl⟩|⟨rfl,rfl,rfl⟩|⟨rfl,rfl,rfl⟩
    ·exact c21
    ·exact c22
    ·exact c23
    ·exact c24
 ·match I,hl with
  |[a,b,c,d],_=>
   simp only[List.pairwise_cons,List.mem_cons,List.mem_nil_iff,or_false,forall_eq_or_imp,forall_eq]at hs hb
   rcases hn with rfl|rfl|rfl|rfl
   ·omega
   ·omega
   ·omega
   ·have:(a=0∧b=1∧c=2∧d=3):=by omega
    rcases this with⟨rfl,rfl,rfl,rfl⟩
    ·exact c25
def rowsI(k n:Nat)(I:List Nat):List B:=I.map fun i=>(MT k n).getD i []
theorem id_0:coOk [[1]] 1=true∧coOk [[1]] 1=true∧idOk [[1]] [[1]] 1=true:=⟨by kernel_rfl,by kernel_rfl,by kernel_rfl⟩
theorem id_1:coOk [[1,0],[0,1]] 2=true∧coOk [[1,0],[0,1]] 2=true∧idOk [[1,0],[0,1]] [[1,0],[0,1]] 2=true:=⟨by kernel_rfl,by kernel_rfl,by kernel_rfl⟩
theorem id_2:coOk [[1,0],[3,2]] 2=true∧coOk [[1,0],[143,142]] 2=true∧idOk [[1,0],[3,2]] [[1,0],[143,142]] 2=true:=⟨by kernel_rfl,by kernel_rfl,by kernel_rfl⟩
theorem id_3:coOk [[0,1],[3,2]] 2=true∧coOk [[245,244],[1,0]] 2=true∧idOk [[0,1],[3,2]] [[245,244],[1,0]] 2=true:=⟨by kernel_rfl,by kernel_rfl,by kernel_rfl⟩
theorem id_4:coOk [[1,0,0],[0,1,0],[0,0,1]] 3=true∧coOk [[1,0,0],[0,1,0],[0,0,1]] 3=true∧idOk [[1,0,0],[0,1,0],[0,0,1]] [[1,0,0],[0,1,0],[0,0,1]] 3=true:=⟨by kernel_rfl,by kernel_rfl,by kernel_rfl⟩
theorem id_5:coOk [[1,0],[2,3]] 2=true∧coOk [[1,0],[245,244]] 2=true∧idOk [[1,0],[2,3]] [[1,0],[245,244]] 2=true:=⟨by kernel_rfl,by kernel_rfl,by kernel_rfl⟩
theorem id_6:coOk [[0,1],[2,3]] 2=true∧coOk [[143,142],[1,0]] 2=true∧idOk [[0,1],[2,3]] [[143,142],[1,0]] 2=true:=⟨by kernel_rfl,by kernel_rfl,by kernel_rfl⟩
theorem id_7:coOk [[3,2],[2,3]] 2=true∧coOk [[3,2],[2,3]] 2=true∧idOk [[3,2],[2,3]] [[3,2],[2,3]] 2=true:=⟨by kernel_rfl,by kernel_rfl,by kernel_rfl⟩
theorem id_8:coOk [[1,0,0],[0,1,0],[1,1,1]] 3=true∧coOk [[1,0,0],[0,1,0],[1,1,1]] 3=true∧idOk [[1,0,0],[0,1,0],[1,1,1]] [[1,0,0],[0,1,0],[1,1,1]] 3=true:=⟨by kernel_rfl,by kernel_rfl,by kernel_rfl⟩
theorem id_9:coOk [[1,0,0],[0,0,1],[1,1,1]] 3=true∧coOk [[1,0,0],[1,1,1],[0,1,0]] 3=true∧idOk [[1,0,0],[0,0,1],[1,1,1]] [[1,0,0],[1,1,1],[0,1,0]] 3=true:=⟨by kernel_rfl,by kernel_rfl,by kernel_rfl⟩
theorem id_10:coOk [[0,1,0],[0,0,1],[1,1,1]] 3=true∧coOk [[1,1,1],[1,0,0],[0,1,0]] 3=true∧idOk [[0,1,0],[0,0,1],[1,1,1]] [[1,1,1],[1,0,0],[0,1,0]] 3=true:=⟨by kernel_rfl,by kernel_rfl,by kernel_rfl⟩
theorem id_11:coOk [[1,0,0,0],[0,1,0,0],[0,0,1,0],[0,0,0,1]] 4=true∧coOk [[1,0,0,0],[0,1,0,0],[0,0,1,0],[0,0,0,1]] 4=true∧idOk [[1,0,0,0],[0,1,0,0],[0,0,1,0],[0,0,0,1]] [[1,0,0,0],[0,1,0,0],[0,0,1,0],[0,0,0,1]] 4=true:=⟨by kernel_rfl,by kernel_rfl,by kernel_rfl⟩
theorem v476_0:f476 [[1]] [0]=some ([[1]],0):=by kernel_rfl
theorem v476_1:f476 [[1],[1]] [0]=some ([[1]],0):=by kernel_rfl
theorem v476_2:f476 [[1],[1]] [1]=some ([[1]],0):=by kernel_rfl
theorem v476_3:f476 [[1,0],[0,1]] [0,1]=some ([[1,0],[0,1]],0):=by kernel_rfl
theorem v476_4:f476 [[1],[1],[1]] [0]=some ([[1]],0):=by kernel_rfl
theorem v476_5:f476 [[1],[1],[1]] [1]=some ([[1]],0):=by kernel_rfl
theorem v476_6:f476 [[1],[1],[1]] [2]=some ([[1]],0):=by kernel_rfl
theorem v476_7:f476 [[1,0],[0,1],[3,2]] [0,1]=some ([[1,0],[0,1]],0):=by kernel_rfl
theorem v476_8:f476 [[1,0],[0,1],[3,2]] [0,2]=some ([[1,0],[3,2]],0):=by kernel_rfl
theorem v476_9:f476 [[1,0],[0,1],[3,2]] [1,2]=some ([[0,1],[3,2]],0):=by kernel_rfl
theorem v476_10:f476 [[1,0,0],[0,1,0],[0,0,1]] [0,1,2]=some ([[1,0,0],[0,1,0],[0,0,1]],0):=by kernel_rfl
theorem v476_11:f476 [[1],[1],[1],[1]] [0]=some ([[1]],0):=by kernel_rfl
theorem v476_12:f476 [[1],[1],[1],[1]] [1]=some ([[1]],0):=by kernel_rfl
theorem v476_13:f476 [[1],[1],[1],[1]] [2]=some ([[1]],0):=by kernel_rfl
theorem v476_14:f476 [[1],[1],[1],[1]] [3]=some ([[1]],0):=by kernel_rfl
theorem v476_15:f476 [[1,0],[0,1],[3,2],[2,3]] [0,1]=some ([[1,0],[0,1]],0):=by kernel_rfl
theorem v476_16:f476 [[1,0],[0,1],[3,2],[2,3]] [0,2]=some ([[1,0],[3,2]],0):=by kernel_rfl
theorem v476_17:f476 [[1,0],[0,1],[3,2],[2,3]] [0,3]=some ([[1,0],[2,3]],0):=by kernel_rfl
theorem v476_18:f476 [[1,0],[0,1],[3,2],[2,3]] [1,2]=some ([[0,1],[3,2]],0):=by kernel_rfl
theorem v476_19:f476 [[1,0],[0,1],[3,2],[2,3]] [1,3]=some ([[0,1],[2,3]],0):=by kernel_rfl
theorem v476_20:f476 [[1,0],[0,1],[3,2],[2,3]] [2,3]=some ([[3,2],[2,3]],0):=by kernel_rfl
theorem v476_21:f476 [[1,0,0],[0,1,0],[0,0,1],[1,1,1]] [0,1,2]=some ([[1,0,0],[0,1,0],[0,0,1]],0):=by kernel_rfl
theorem v476_22:f476 [[1,0,0],[0,1,0],[0,0,1],[1,1,1]] [0,1,3]=some ([[1,0,0],[0,1,0],[1,1,1]],0):=by kernel_rfl
theorem v476_23:f476 [[1,0,0],[0,1,0],[0,0,1],[1,1,1]] [0,2,3]=some ([[1,0,0],[0,0,1],[1,1,1]],0):=by kernel_rfl
theorem v476_24:f476 [[1,0,0],[0,1,0],[0,0,1],[1,1,1]] [1,2,3]=some ([[0,1,0],[0,0,1],[1,1,1]],0):=by kernel_rfl
theorem v476_25:f476 [[1,0,0,0],[0,1,0,0],[0,0,1,0],[0,0,0,1]] [0,1,2,3]=some ([[1,0,0,0],[0,1,0,0],[0,0,1,0],[0,0,0,1]],0):=by kernel_rfl
end Mx
end
section
open Go Go.Proofs Ev Sx
namespace Mx
theorem encR_len(p:B)(L k:Nat)(m:B):(encR p L k m).length=L:=by simp[encR]
theorem encR_get(p:B)(L k:Nat)(m:B)(x:Nat)(h:x<L):(encR p L k m).getD x 0=xf (fun j=>mulT (m.getD j 0) (p.getD (L*j+x) 0)) k:=by
 rw[encR,gd_range _ _ _ _ h]
theorem flat_len(L:Nat): ∀l:List B,(∀b∈l,b.length=L)->l.flatten.length=L*l.length
 |[],_=>by simp
 |b::l,h=>by rw[List.flatten_cons,List.length_append,flat_len L l (fun c hc=>h c (List.mem_cons_of_mem _ hc)),h b List.mem_cons_self,List.length_cons,Nat.mul_succ];omega
theorem flat_get(L:Nat): ∀(l:List B),(∀b∈l,b.length=L)-> ∀j x,j<l.length->x<L->l.flatten.getD (L*j+x) 0=(l.getD j []).getD x 0
 |b::l,h,0,x,_,hx=>by
  have:=h b List.mem_cons_self
  rw[List.flatten_cons,Nat.mul_zero,Nat.zero_add,gd_app_left (by omega)];rfl
 |b::l,h,j+1,x,hj,hx=>by
  have:=h b List.mem_cons_self
  rw[List.flatten_cons,gd_app_right (by rw[Nat.mul_succ];omega),Nat.mul_succ,show L*j+L+x-b.length=L*j+x by omega,
   flat_get L l (fun c hc=>h c (List.mem_cons_of_mem _ hc)) j x (by simpa using hj) hx];rfl
theorem flat_rows(L:Nat)(l:List B)(h: ∀b∈l,b.length=L):(List.range l.length).map (fun j=>(l.flatten.drop (L*j)).take L)=l:=by
 induction l with
 |nil=>rfl
 |cons b l ih=>
  have hb:=h b List.mem_cons_self
  have hc:=ih fun c hc=>h c (List.mem_cons_of_mem _ hc)
  rw[List.length_cons,List.range_succ_eq_map,List.map_cons,List.map_map,List.flatten_cons]
  have e0:((b++l.flatten).drop (L*0)).take L=b:=by rw[Nat.mul_zero,List.drop_zero,List.take_append_of_le_length (by omega),List.take_of_length_le (by omega)]
  rw[e0]
  congr 1
  refine Eq.trans (List.map_congr_left fun j _=> ?_) hc
  dsimp only[Function.comp]
  rw[Nat.mul_succ,List.drop_append,List.drop_eq_nil_of_le (by omega),List.nil_append,show L*j+L-b.length=L*j by omega]
def dOf(k n:Nat)(p:B)(i:Nat):B:=encR p (p.length/k) k ((MT k n).getD i [])
section
variable {k n : Nat} (h1 : 1 <= k) (h2 : k <= n) (h3 : n <= 4) {I : List Nat} (hI : Sel k n I) (s : B) (hs : s.length <= 10000)
include h1 h2 h3 hI hs
end
end Mx
end
