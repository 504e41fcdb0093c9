/- Each function that the statement reaches keeps its contract. No conditions. -/
import Derived.Test.YtbjffoahpbedjaaGreatDoorD
import Derived.Deep.DeepHandedRow
import Derived.ProofKit
import Derived.OpenShut
import Derived.SizedLaws
import Derived.LaidSub
import Derived.MakeChecks
import Derived.Test.YtbjffoahpbedjaaGreatDoorProg
import Derived.Shelf.LaysM
import Derived.Ground.NamesProg
import Derived.Shelf.Strconv.Itoa3
import Derived.Ground.SlgnProg
import Derived.Shelf.SlicesE.Clone
import Derived.Test.YtbjffoahpbedjaaGreatDoorE
set_option linter.unusedVariables false
set_option linter.unusedSimpArgs false
set_option linter.unusedSectionVars false
set_option maxRecDepth 100000
section
namespace Ev
open Go
def Ty.noOp:Ty->Bool
 | .op _=>false
 | .sl e=>e.noOp
 | .arr _ e=>e.noOp
 | .pair a b=>a.noOp&&b.noOp
 |_=>true
def noM:Nat->Prop:=fun _=>False
theorem mapM_len{α β:Type}{f:α->Option β}: ∀ {l:List α} {r:List β},l.mapM f=some r->r.length=l.length:=Lib.mapM_length
theorem rows_of{α:Type}{R:α->List Value->Prop}{sz:Nat}: ∀(n:Nat) (cs:List Value),cs.length=n*sz->(∀i,i<n-> ∃x,R x ((cs.drop (i*sz)).take sz))-> ∃l:List α,l.length=n∧RowR R l cs
 |0,cs,hl,_=>by
  have:cs=[]:=List.length_eq_zero_iff.1 (by simpa using hl)
  subst this
  exact⟨[],rfl, .nil⟩
 |n+1,cs,hl,h=>by
  obtain⟨x,hx⟩:=h 0 (by omega)
  have hl':(cs.drop sz).length=n*sz:=by rw[List.length_drop,hl,Nat.succ_mul];omega
  obtain⟨l,h1,h2⟩:=rows_of n (cs.drop sz) hl' fun i hi=>by
   obtain⟨y,hy⟩:=h (i+1) (by omega)
   refine⟨y,?_⟩
   rw[List.drop_drop]
   rw[Nat.succ_mul,Nat.add_comm]at hy
   exact hy
  refine⟨x::l,by simp[h1],?_⟩
  have:=RowR.cons (R:=R) (x:=x) (u:=cs.take sz) (by simpa using hx) h2
  rwa[List.take_append_drop]at this
theorem rows_at{α:Type}{R:α->List Value->Prop}{sz:Nat}{w:World}{B:Nat}: ∀(n off:Nat),(∀i,i<n-> ∃us x,us.length=sz∧CellsAt w B (off+i*sz) us∧R x us)-> ∃(l:List α) (vs:List Value),l.length=n∧CellsAt w B off vs∧RowR R l vs
 |0,off,_=>⟨[],[],rfl,fun i v h=>by simp at h, .nil⟩
 |n+1,off,h=>by
  obtain⟨us,x,h1,h2,h3⟩:=h 0 (by omega)
  obtain⟨l,vs,k1,k2,k3⟩:=rows_at n (off+sz) fun i hi=>by
   obtain⟨us,y,q1,q2,q3⟩:=h (i+1) (by omega)
   refine⟨us,y,q1,?_,q3⟩
   rw[Nat.succ_mul]at q2
   rw[Nat.add_assoc,Nat.add_comm sz]
   exact q2
  refine⟨x::l,us++vs,by simp[k1],fun i v hv=> ?_, .cons h3 k3⟩
  rcases Nat.lt_or_ge i us.length with hi|hi
  ·rw[List.getElem?_append_left hi]at hv
   simpa using h2 i v hv
  ·rw[List.getElem?_append_right hi]at hv
   have:=k2 _ v hv
   rw[h1]at this
   have e:off+sz+(i-sz)=off+i:=by omega
   rw[e]at this
   exact this
theorem cellsOf_base{P:Program}{T:TypeId}{t:Ty}(h:Base P T t):P.cellsOf T=t.size:=by
 have:=h.sz
 unfold tsz at this
 unfold Program.cellsOf
 rw[this];rfl
theorem some_cell_lt{w:World}{a:Addr}{v:Value}(h:w.cell? a=some v):a.block<w.heap.size:=by
 rcases Nat.lt_or_ge a.block w.heap.size with h'|h'
 ·exact h'
 ·simp[World.cell?,Array.getElem?_eq_none h']at h
theorem add0(b off i:Nat):(⟨b,off,none⟩:Addr).add i=⟨b,off+i,none⟩:=by
 unfold Addr.add
 split<;>simp_all
theorem cells_read{w:World}{base:Nat}{a:Addr}{n:Nat}{us:List Value}(h:w.cells? base a n=some us):us.length=n∧ ∀(i:Nat) v,us[i]?=some v->w.cell? (a.add i)=some v:=by
 unfold World.cells? at h
 split at h
 ·have hl:=mapM_len h
  refine⟨by simpa using hl,fun i v hv=> ?_⟩
  have hi:i<us.length:=(List.getElem?_eq_some_iff.1 hv).1
  have hn:i<n:=by rw[hl]at hi;simpa using hi
  obtain⟨b,hb,hf⟩:=Lib.mapM_at h i i (by simp[hn])
  rw[hb]at hv;injection hv with hv;subst hv
  exact hf
 ·cases h
section
variable {H : Type} {enc : TypeId × Value -> H} {P : Program} {w : World}
theorem wfU{k:IntKind}{z:Int}{lo hi:Int}(h1:k.min=lo)(h2:k.max=hi)(h:(Lit.int k z).wf=true):lo<=z∧z<=hi:=by
 simp only[Lit.wf,Bool.and_eq_true,decide_eq_true_eq]at h
 rw[←h1,←h2];exact h
def okI:(t:Ty)->Val t->Prop
 | .i64,z=> -9223372036854775808<=(z:Int)∧(z:Int)<=9223372036854775807
 | .sl e,l=> ∀x∈(l:List (Val e)),okI e x
 | .arr _ e,v=> ∀x∈(v:Vector (Val e) _).toList,okI e x
 | .pair a b,p=>okI a p.1∧okI b p.2
 |_,_=>True
theorem rowR_split{α:Type}{R:α->List Value->Prop}{Q:α->Prop}{l:List α}{vs:List Value}(h:RowR (fun y u=>R y u∧Q y) l vs):RowR R l vs∧ ∀x∈l,Q x:=by
 induction h with
 |nil=>exact⟨.nil,fun x h=>by cases h⟩
 |cons h1 h2 ih=>exact⟨.cons h1.1 ih.1,fun x hx=>by rcases List.mem_cons.1 hx with rfl|hx;exact h1.2;exact ih.2 x hx⟩
theorem trod_rel: ∀t:Ty,t.noOp=true->
 (∀(T:TypeId) (fuel:Nat) (cs:List Value) (x:DataW H×List MemPlace),(TyR P t).1 T->DataW.trod enc P w 0 (fun _=>true) true fuel T cs=some x-> ∃y,RelC w noM t y cs∧okI t y)∧
 (∀(fs:List Field) (off fuel:Nat) (cs:List Value),(TyR P t).2 fs off->off+t.size<=cs.length->(∀(i:Nat) (f:Field),fs[i]?=some f-> ∃x:DataW H×List MemPlace,DataW.trod enc P w 0 (fun _=>true) true fuel f.type ((cs.drop f.offset).take (P.cellsOf f.type))=some x)-> ∃y,RelC w noM t y ((cs.drop off).take t.size)∧okI t y)
 | .i64,_=>by
  refine⟨fun T fuel cs x hT h=> ?_,fun fs off fuel cs hT=>hT.elim⟩
  obtain⟨z,hc,_,hz⟩:=DataW.trod_int hT.2 h
  exact⟨z,hc,wfU (lo:= -9223372036854775808) (hi:=9223372036854775807) rfl rfl hz⟩
 | .u8,_=>by
  refine⟨fun T fuel cs x hT h=> ?_,fun fs off fuel cs hT=>hT.elim⟩
  obtain⟨z,hc,_,hz⟩:=DataW.trod_int hT.2 h
  obtain⟨z1,z2⟩:=wfU (lo:=0) (hi:=255) rfl rfl hz
  refine⟨UInt8.ofNat z.toNat,?_,trivial⟩
  simp only[RelC]
  rw[hc]
  have:(UInt8.ofNat z.toNat).toNat=z.toNat:=by simp;omega
  rw[this]
  congr 2;omega
 | .u32,_=>by
  refine⟨fun T fuel cs x hT h=> ?_,fun fs off fuel cs hT=>hT.elim⟩
  obtain⟨z,hc,_,hz⟩:=DataW.trod_int hT.2 h
  obtain⟨z1,z2⟩:=wfU (lo:=0) (hi:=4294967295) rfl rfl hz
  refine⟨UInt32.ofNat z.toNat,?_,trivial⟩
  simp only[RelC]
  rw[hc]
  have:(UInt32.ofNat z.toNat).toNat=z.toNat:=by simp;omega
  rw[this]
  congr 2;omega
 | .u64,_=>by
  refine⟨fun T fuel cs x hT h=> ?_,fun fs off fuel cs hT=>hT.elim⟩
  obtain⟨z,hc,_,hz⟩:=DataW.trod_int hT.2 h
  obtain⟨z1,z2⟩:=wfU (lo:=0) (hi:=18446744073709551615) rfl rfl hz
  refine⟨UInt64.ofNat z.toNat,?_,trivial⟩
  simp only[RelC]
  rw[hc]
  have:(UInt64.ofNat z.toNat).toNat=z.toNat:=by simp;omega
  rw[this]
  congr 2;omega
 | .bool,_=>by
  refine⟨fun T fuel cs x hT h=> ?_,fun fs off fuel cs hT=>hT.elim⟩
  obtain⟨b,hc,_⟩:=DataW.trod_bool hT.2 h
  exact⟨b,hc,trivial⟩
 | .str,_=>by
  refine⟨fun T fuel cs x hT h=> ?_,fun fs off fuel cs hT=>hT.elim⟩
  obtain⟨b,hc,_⟩:=DataW.trod_string hT.2 h
  exact⟨b.data.toList,by simp only[RelC];rw[hc],trivial⟩
 | .unit,_=>by
  refine⟨fun T fuel cs x hT h=> ?_,fun fs off fuel cs hT hl h=>⟨(),by simp[RelC,Ty.size],trivial⟩⟩
  obtain⟨hb,fs,hu,he⟩:=hT
  obtain⟨xs,n,_,_,hl,_⟩:=DataW.trod_struct hu h
  rw[cellsOf_base hb]at hl
  exact⟨(),by simp only[RelC];exact List.length_eq_zero_iff.1 hl,trivial⟩
 | .sl e,hn=>by
  refine⟨fun T fuel cs x hT h=> ?_,fun fs off fuel cs hT=>hT.elim⟩
  obtain⟨hb,E,hu,hE,h0⟩:=hT
  have hsz:P.cellsOf E=e.size:=cellsOf_base (TyOk.base hE)
  rcases DataW.trod_slice hu h with⟨hc,_⟩|⟨a,len,cap,elems,rest,n,_,hc,_,_,hlc,_,hel,hr,_⟩
  ·exact⟨([]:List (Val e)),by simp only[RelC];exact .inl ⟨trivial,none,0,hc⟩,fun x h=>by cases h⟩
  ·rw[hsz]at hr
   obtain⟨B,o,sp⟩:=a
   rcases Nat.eq_zero_or_pos len with hz|hz
   ·subst hz
    exact⟨([]:List (Val e)),by simp only[RelC];exact .inl ⟨trivial,_,_,hc⟩,fun x h=>by cases h⟩
   ·have key: ∀i,i<len-> ∃us y,us.length=e.size∧(∀(j:Nat) v,us[j]?=some v->w.cell? (((⟨B,o,sp⟩:Addr).add (i*e.size)).add j)=some v)∧RelC w noM e y us∧okI e y:=fun i hi=>by
     have h1:=hr i hi
     have h2: ∃z,elems[i]?=some z:=⟨elems[i]'(by omega),List.getElem?_eq_getElem (by omega)⟩
     obtain⟨z,h2⟩:=h2
     rw[h2]at h1
     obtain⟨us,h3,h4⟩:=Option.bind_eq_some_iff.1 h1
     obtain⟨y,hy⟩:=(trod_rel e hn).1 E n us z hE h4
     obtain⟨q1,q2⟩:=cells_read h3
     exact⟨us,y,q1,q2,hy⟩
    have hsp:sp=none∧B<w.heap.size:=by
     obtain⟨us,y,q1,q2,_⟩:=key 0 hz
     have:=q2 0 (us[0]'(by omega)) (List.getElem?_eq_getElem (by omega))
     simp only[Nat.zero_mul]at this
     have e0:((⟨B,o,sp⟩:Addr).add 0).add 0=⟨B,o,sp⟩:=by simp[Addr.add]
     rw[e0]at this
     exact⟨World.cell?_spot this,some_cell_lt this⟩
    obtain⟨rfl,hB⟩:=hsp
    obtain⟨l,vs,k1,k2,k3⟩:=rows_at (w:=w) (R:=fun y u=>RelC w noM e y u∧okI e y) (sz:=e.size) (B:=B) len o fun i hi=>by
     obtain⟨us,y,q1,q2,q3⟩:=key i hi
     refine⟨us,y,q1,fun j v hv=> ?_,q3⟩
     have:=q2 j v hv
     rwa[add0,add0]at this
    refine⟨l,?_,(rowR_split k3).2⟩
    have k3:=(rowR_split k3).1
    simp only[RelC]
    refine .inr ⟨fun hc=>by rw[hc]at k1;simp at k1;omega,B,o,cap,vs,by rw[k1];exact hc,by omega,hB,fun hc=>hc,k2,k3⟩
 | .arr n e,hn=>by
  refine⟨fun T fuel cs x hT h=> ?_,fun fs off fuel cs hT=>hT.elim⟩
  obtain⟨hb,E,hu,hE,h0⟩:=hT
  have hsz:P.cellsOf E=e.size:=cellsOf_base (TyOk.base hE)
  obtain⟨xs,m,_,_,hl,hxl,hx⟩:=DataW.trod_array hu h
  rw[cellsOf_base hb]at hl
  rw[hsz]at hx
  obtain⟨l,h1,h2⟩:=rows_of (R:=fun y u=>RelC w noM e y u∧okI e y) (sz:=e.size) n cs (by rw[hl];rfl) fun i hi=>by
   have h1:=hx i hi
   rw[List.getElem?_eq_getElem (by omega)]at h1
   exact(trod_rel e hn).1 E m _ _ hE h1
  refine⟨(⟨l.toArray,by simpa using h1⟩:Vector (Val e) n),?_,?_⟩
  ·simp only[RelC]
   simpa using(rowR_split h2).1
  ·intro x hx
   exact(rowR_split h2).2 x (by simpa[Vector.toList]using hx)
 | .pair a b,hn=>by
  have hn':a.noOp=true∧b.noOp=true:=by simpa[Ty.noOp]using hn
  have ha:=trod_rel a hn'.1
  have hb:=trod_rel b hn'.2
  have two: ∀(fs:List Field) (off fuel:Nat) (cs:List Value),(TyR P (.pair a b)).2 fs off->off+(a.size+b.size)<=cs.length->(∀(i:Nat) (f:Field),fs[i]?=some f-> ∃x:DataW H×List MemPlace,DataW.trod enc P w 0 (fun _=>true) true fuel f.type ((cs.drop f.offset).take (P.cellsOf f.type))=some x)-> ∃y,RelC w noM (.pair a b) y ((cs.drop off).take (a.size+b.size))∧okI (.pair a b) y:=by
   rintro fs off fuel cs ⟨f,r,rfl,ho,_,hfa,_,hfb⟩ hl hx
   obtain⟨x,h1⟩:=hx 0 f rfl
   rw[cellsOf_base (TyOk.base hfa),ho]at h1
   obtain⟨y,hy,iy⟩:=ha.1 f.type fuel _ x hfa h1
   obtain⟨z,hz,iz⟩:=hb.2 r (off+a.size) fuel cs hfb (by omega) fun i g hg=>hx (i+1) g hg
   refine⟨(y,z),?_,iy,iz⟩
   simp only[RelC]
   refine⟨_,_,?_,hy,hz⟩
   rw[List.take_add,List.drop_drop]
  refine⟨fun T fuel cs x hT h=> ?_,fun fs off fuel cs hT hl hx=>two fs off fuel cs hT hl hx⟩
  obtain⟨hbs,fs,hu,f,r,hfs,h0,hnm,hfa,hsa,hfb⟩:=hT
  obtain⟨xs,n,_,_,hl,hxl,hx⟩:=DataW.trod_struct hu h
  rw[cellsOf_base hbs]at hl
  obtain⟨y,hy,iy⟩:=two fs.toList 0 n cs ⟨f,r,hfs,h0,hnm,hfa,hsa,by simpa using hfb⟩ (by simp[Ty.size]at hl;omega) fun i g hg=>by
   have:=hx i g (by simpa using hg)
   have hi:i<xs.length:=by
    have:=(List.getElem?_eq_some_iff.1 hg).1
    rw[hxl];simpa using this
   rw[List.getElem?_eq_getElem hi]at this
   exact⟨_,this⟩
  refine⟨y,?_,iy⟩
  rw[List.drop_zero,List.take_of_length_le (by simp[Ty.size]at hl;omega)]at hy
  exact hy
 | .op e,hn=>by cases hn
theorem relV_of{T:TypeId}{t:Ty}{v:Value}{base:Nat}(hT:TyOk P T t){y:Val t}(h:RelC w noM t y v.cells.toList)(hv:Value.okWide P w .any base T v):RelV w noM t y v:=by
 unfold RelV
 have hag:=hT.isAgg
 unfold isAggT at hag
 obtain⟨d,hd,hag⟩:=Option.map_eq_some_iff.1 hag
 unfold Value.okWide at hv
 rw[hd]at hv
 split
 ·rename_i ht
  rw[ht]at hag
  cases d<;>simp only[aggD]at hag<;>first|(cases hag;done)|skip
  all_goals
   obtain⟨cs,rfl,_,_⟩:=hv
   exact⟨cs,rfl,h⟩
 ·rename_i ht
  rw[ht]at hag
  have key: ∀cs,v= .agg cs->Cell.okWide P w .any base T v->False:=by
   rintro cs rfl hc
   unfold Cell.okWide at hc
   rw[hd]at hc
   cases d<;>simp[Cell.ok,hd]at hc
  have hna: ∀cs,v≠ .agg cs:=by
   intro cs hc
   cases d<;>simp only[aggD]at hag<;>first|(cases hag;done)|exact key cs hc hv
  cases v<;>first|exact h|exact absurd rfl (hna _)
def ParOk(P:Program):List TypeId->List Ty->Prop
 |[],[]=>True
 |T::Ts,t::ts=>(TyOk P T t∧t.noOp=true)∧ParOk P Ts ts
 |_,_=>False
def okA:(ts:List Ty)->InT (ts.map PK.v)->Prop
 |[],_=>True
 |t::ts,x=>okI t x.1∧okA ts x.2
theorem args_rel{base:Nat}: ∀(Ts:List TypeId) (ts:List Ty) (vs:List Value) (ds:List (DataW H)) (ps:List MemPlace),ParOk P Ts ts->(∀(j:Nat) t v,Ts[j]?=some t->vs[j]?=some v->Value.okWide P w .any base t v)->DataW.TrodAll enc P w 0 (fun _=>true) true Ts vs ds ps->
 ∃x:InT (ts.map PK.v),ArgsR P w noM (ts.map PK.v) x vs∧okA ts x
 |[],[],vs,ds,ps,_,_,h=>by
  cases vs with
  |nil=>exact⟨(),rfl,trivial⟩
  |cons v vs=>cases h
 |T::Ts,t::ts,vs,ds,ps,hp,hv,h=>by
  cases vs with
  |nil=>cases h
  |cons v vs=>
   cases ds with
   |nil=>cases h
   |cons d ds=>
    obtain⟨p,q,⟨fuel,h1⟩,h2,_⟩:=h
    obtain⟨y,hy,iy⟩:=(trod_rel t hp.1.2).1 T fuel _ _ hp.1.1 h1
    obtain⟨x,hx,ix⟩:=args_rel Ts ts vs ds q hp.2 (fun j t v a b=>hv (j+1) t v a b) h2
    exact⟨(y,x),⟨v,vs,rfl,relV_of hp.1.1 hy (hv 0 T v rfl rfl),hx⟩,iy,ix⟩
 |[],_::_,_,_,_,hp,_,_=>hp.elim
 |_::_,[],_,_,_,hp,_,_=>hp.elim
theorem args_stay(hl:laidOutB P=true){W W':World}(hb:Go.RowKit.Below W.heap.size W W'): ∀(Ts:List TypeId) (vs:List Value) (ds:List (DataW H)) (ps:List MemPlace),(Ts.all fun t=>P.readableRec t&&decide (t<P.types.size))=true->(∀x∈ps,x.block<W.heap.size)->DataW.TrodAll enc P W 0 (fun _=>true) true Ts vs ds ps->
 DataW.TrodAll enc P W' 0 (fun b=>decide (b<W.heap.size)) true Ts vs ds ps
 |[],[],[],ps,_,_,h=>h
 |T::Ts,v::vs,d::ds,ps,ht,hlt,h=>by
  obtain⟨p,q,h1,h2,rfl⟩:=h
  simp only[List.all_cons,Bool.and_eq_true,decide_eq_true_eq]at ht
  exact⟨p,q,Go.RowKit.Below.trod hl ht.1.1 ht.1.2 h1 hb (fun x hx=>hlt x (by simp[hx])),args_stay hl hb Ts vs ds q ht.2 (fun x hx=>hlt x (by simp[hx])) h2,rfl⟩
theorem ioBlks_v: ∀(ts:List Ty) (vs:List Value),ioBlks (ts.map PK.v) vs=[]
 |[],vs=>by cases vs<;>rfl
 |t::ts,[]=>rfl
 |t::ts,v::vs=>by show ioBlks (ts.map PK.v) vs=[];exact ioBlks_v ts vs
theorem After.below{W W':World}{M M':Nat->Prop}(h:After W M [] W' M'):Go.RowKit.Below W.heap.size W W':=
 ⟨h.os,h.tape,h.output,h.size,fun k hk=>h.blk k hk (by simp)⟩
theorem law_calls{f:FuncId}{ts:List Ty}{run:InT (ts.map PK.v)->Option (OutT [.v .bool] (ioTy (ts.map PK.v)))}(k:FnOk P f ⟨ts.map PK.v,[.v .bool],run⟩){vs:List Value}(hg:Glob P noM w)(hx: ∃x:InT (ts.map PK.v),ArgsR P w noM (ts.map PK.v) x vs∧okA ts x)
 (r:OutT [.v .bool] (ioTy (ts.map PK.v))) (hlaw: ∀x,okA ts x->run x=some r) (hr: ∀w' M' old us bs,OutR w' M' old [.v .bool] (ioTy (ts.map PK.v)) r us bs->us=[.bool true]):
 Calls P f vs.toArray w fun e w'=>e= .returned (.bool true)∧Go.RowKit.Below w.heap.size w w':=by
 obtain⟨x,hx,ix⟩:=hx
 refine(k.2 w noM x vs (fun _ h=>h.elim) hg hx ?_ ?_ r (hlaw x ix)).mono ?_
 ·rw[ioBlks_v];exact List.nodup_nil
 ·rw[ioBlks_v];intro B hB;cases hB
 ·rintro e w' ⟨us,M',rfl,ho,ha⟩
  have hu:=hr _ _ _ _ _ ho
  subst hu
  have ha':After w noM (ioBlks (ts.map PK.v) vs) w' M':=ha
  rw[ioBlks_v]at ha'
  exact⟨rfl,ha'.below⟩
end
end Ev
end
section
namespace Go.Proofs
open Go.Shelf
def Tryz.laysItoa_ren:Go.Shelf.Ren:=⟨fun|171=>216|243=>251|246=>278|283=>308|284=>309|285=>310|286=>311|129=>307|317=>340|318=>341|319=>342|320=>343|337=>358|338=>359|n=>n,fun|3=>3|9=>9|2=>2|4=>4|171=>359|0=>0|53=>189|37=>24|5=>5|173=>361|212=>390|51=>195|20=>20|213=>391|46=>147|232=>28|233=>424|n=>n,fun|17=>0|18=>2|19=>3|n=>n⟩
theorem Tryz.laysItoa:Go.Proofs.LaysM.n171 Tryz.prog Tryz.laysItoa_ren:={
 mixed:=by kernel_rfl
 f129:=Tryz.func307.trans (congrArg some (by kernel_rfl))
 f171:=Tryz.func216.trans (congrArg some (by kernel_rfl))
 f243:=Tryz.func251.trans (congrArg some (by kernel_rfl))
 f246:=Tryz.func278.trans (congrArg some (by kernel_rfl))
 f283:=Tryz.func308.trans (congrArg some (by kernel_rfl))
 f284:=Tryz.func309.trans (congrArg some (by kernel_rfl))
 f285:=Tryz.func310.trans (congrArg some (by kernel_rfl))
 f286:=Tryz.func311.trans (congrArg some (by kernel_rfl))
 f317:=Tryz.func340.trans (congrArg some (by kernel_rfl))
 f318:=Tryz.func341.trans (congrArg some (by kernel_rfl))
 f319:=Tryz.func342.trans (congrArg some (by kernel_rfl))
 f320:=Tryz.func343.trans (congrArg some (by kernel_rfl))
 f337:=Tryz.func358.trans (congrArg some (by kernel_rfl))
 f338:=Tryz.func359.trans (congrArg some (by kernel_rfl))
 t0:=Tryz.underlying0
 a0:=Tryz.isAgg0
 z0:=Tryz.sizeOf0
 v0:=Tryz.zeroValue0
 t2:=Tryz.underlying2
 a2:=Tryz.isAgg2
 z2:=Tryz.sizeOf2
 v2:=Tryz.zeroValue2
 t3:=Tryz.underlying3
 a3:=Tryz.isAgg3
 z3:=Tryz.sizeOf3
 v3:=Tryz.zeroValue3
 t4:=Tryz.underlying4
 a4:=Tryz.isAgg4
 z4:=Tryz.sizeOf4
 v4:=Tryz.zeroValue4
 t5:=Tryz.underlying5
 a5:=Tryz.isAgg5
 z5:=Tryz.sizeOf5
 v5:=Tryz.zeroValue5
 t9:=Tryz.underlying9
 a9:=Tryz.isAgg9
 z9:=Tryz.sizeOf9
 v9:=Tryz.zeroValue9
 t20:=Tryz.underlying20
 a20:=Tryz.isAgg20
 z20:=Tryz.sizeOf20
 v20:=Tryz.zeroValue20
 t37:=Tryz.underlying24
 a37:=Tryz.isAgg24
 z37:=Tryz.sizeOf24
 v37:=Tryz.zeroValue24
 t46:=Tryz.underlying147
 a46:=Tryz.isAgg147
 z46:=Tryz.sizeOf147
 v46:=Tryz.zeroValue147
 t51:=Tryz.underlying195
 a51:=Tryz.isAgg195
 z51:=Tryz.sizeOf195
 v51:=Tryz.zeroValue195
 t53:=Tryz.underlying189
 a53:=Tryz.isAgg189
 z53:=Tryz.sizeOf189
 v53:=Tryz.zeroValue189
 t171:=Tryz.underlying359
 a171:=Tryz.isAgg359
 z171:=Tryz.sizeOf359
 v171:=Tryz.zeroValue359
 t173:=Tryz.underlying361
 a173:=Tryz.isAgg361
 z173:=Tryz.sizeOf361
 v173:=Tryz.zeroValue361
 t212:=Tryz.underlying390
 a212:=Tryz.isAgg390
 z212:=Tryz.sizeOf390
 v212:=Tryz.zeroValue390
 t213:=Tryz.underlying391
 a213:=Tryz.isAgg391
 z213:=Tryz.sizeOf391
 t232:=Tryz.underlying28
 a232:=Tryz.isAgg28
 z232:=Tryz.sizeOf28
 v232:=Tryz.zeroValue28
 t233:=Tryz.underlying424
 a233:=Tryz.isAgg424
 z233:=Tryz.sizeOf424
 v233:=Tryz.zeroValue424
 g17:=by kernel_rfl
 g18:=by kernel_rfl
 g19:=by kernel_rfl
 i0:=by kernel_rfl
 i2:=by kernel_rfl
 i3:=by kernel_rfl
 i4:=by kernel_rfl
 i5:=by kernel_rfl
 i9:=by kernel_rfl
 i20:=by kernel_rfl
 i37:=by kernel_rfl
 i46:=by kernel_rfl
 i51:=by kernel_rfl
 i53:=by kernel_rfl
 i171:=by kernel_rfl
 i173:=by kernel_rfl
 i212:=by kernel_rfl
 i232:=by kernel_rfl
 i233:=by kernel_rfl
 m17:=by kernel_rfl
 m18:=by kernel_rfl
 m19:=by kernel_rfl}
def Tryz.laysClone_ren:Go.Shelf.Ren:=⟨fun|41=>131|n=>n,fun|22=>24|23=>5|4=>4|n=>n,fun|n=>n⟩
theorem Tryz.laysClone:Go.Proofs.SlLaysE0.n41 Tryz.prog Tryz.laysClone_ren:={
 mixed:=by kernel_rfl
 f41:=⟨Tryz.f131.name,by decide,Tryz.func131.trans (congrArg some (by kernel_rfl))⟩
 t4:=Tryz.underlying4
 a4:=Tryz.isAgg4
 z4:=Tryz.sizeOf4
 v4:=Tryz.zeroValue4
 t22:=Tryz.underlying24
 a22:=Tryz.isAgg24
 z22:=Tryz.sizeOf24
 v22:=Tryz.zeroValue24}
end Go.Proofs
end
section
open Go Go.Proofs Go.Shelf Go.RowKit Go.Lib Ev
namespace Sx
theorem After.grow(w:World)(M:Nat->Prop)(hM: ∀B,M B->B<w.heap.size)(k:Nat)(os:Array Obj):After w M [] (Sort.grow (w.drewN k) os) M where
 size:=by simp[Sort.grow,World.drewN]
 blk B hB _:=by simp[Sort.grow,World.drewN,Array.getElem?_append_left hB]
 os:=rfl
 tape:=rfl
 output:=rfl
 m _ _:=Iff.rfl
 mlt B hB:=Nat.lt_of_lt_of_le (hM B hB) (by simp[Sort.grow,World.drewN])
theorem k127:FnOk Tryz.prog 216 s127:=by
 refine⟨(fnB_ok Tryz.func216 (by kernel_rfl)).1,fun w M x vs hM hg hx _ _ r hr=> ?_⟩
 obtain⟨v,l,rfl,hv,hl⟩:=hx
 have hl':l=[]:=hl
 subst hl'
 have hv':RelC w M .i64 x.1 [v]:=hv
 simp only[RelC,List.cons.injEq,and_true]at hv'
 subst hv'
 have hr':cond (decide (-9223372036854775808<=(x.1:Int))&&decide ((x.1:Int)<=9223372036854775807)) (some (Lib.itoa x.1)) none=(some r:Option (List UInt8)):=hr
 cases hc:decide (-9223372036854775808<=(x.1:Int))&&decide ((x.1:Int)<=9223372036854775807)with
 |false=>rw[hc]at hr';cases hr'
 |true=>
  rw[hc]at hr'
  simp only[cond_true]at hr'
  simp only[Bool.and_eq_true,decide_eq_true_eq]at hc
  refine(Any.strconv_Itoa Tryz.laysItoa x.1 hc.1 hc.2 w (hg _ _ (by simp[tabs]) 0 (by kernel_rfl)).1).mono ?_
  rintro e w' ⟨rfl,k,os,rfl⟩
  refine⟨[.string ⟨(Lib.itoa x.1).toArray⟩],M,rfl,?_,After.grow w M hM k os⟩
  refine⟨_,rfl,?_,rfl⟩
  have e:(Lib.itoa x.1:List UInt8)=r:=by injection hr'
  have:RelC (Sort.grow (w.drewN k) os) M .str (Lib.itoa x.1:List UInt8) [.string ⟨(Lib.itoa x.1).toArray⟩]:=by simp only[RelC]
  exact e▸this
theorem info5: ∃i0,Tryz.prog.info? 5=some i0∧i0.zero=some (.int .u8 0)∧i0.size=1∧i0.bytes=1:=by
 have h:(Tryz.prog.info? 5).map (fun i=>(i.zero,i.size,i.bytes))=some (some (.int .u8 0),1,1):=by kernel_rfl
 obtain⟨i0,h1,h2⟩:=Option.map_eq_some_iff.1 h
 simp only[Prod.mk.injEq]at h2
 exact⟨i0,h1,h2.1,h2.2.1,h2.2.2⟩
theorem clone_zero(a:Addr)(c:Nat)(w:World):
 Calls Tryz.prog 131 #[.slice (some a) 0 c] w fun e w'=> ∃v',e= .returned v'∧w'.ownsRow w.heap.size 5 1 v' 0 []∧Below w.heap.size w w':=by
 have q: ∀(w:World) (a:Option Addr) (n c n' c':Nat),(binOp .eql 24 (.slice a n c) (.slice none n' c')).run Tryz.prog w= .ok (.bool a.isNone) w:=fun w a n c n' c'=>Lib.run_eql_slice_nil w _ _ a n c n' c' Tryz.underlying24
 obtain⟨i0,hi,hz0,hz1,hz2⟩:=info5
 go_enter Tryz.func131,Tryz.ntmps131
 go_wp2_with (at_builtin;refine wpList_append_own _ rfl _ _ 24 rfl w.heap.size 5 i0 (.int .u8 0) 1 1 Tryz.underlying24 hi hz0 hz1 hz2 rfl (by decide) _ _ _ rfl (World.ownsRow_made w #[] 0 (Nat.le_refl _) (Nat.zero_le _) rfl) a 0 c [] rfl rfl (by intro j u hj;simp at hj) (by intro u hu;cases hu) (by unfold maxLen;omega) (by omega) (by simp) ?_)
 intro v' w1 hown hgrow hnil
 go_wp2
 go_ret
 exact⟨v',rfl,by simpa using hown,((Below.refl _ w).alloc (Nat.le_refl _) _).grown hgrow (by simp) (by intro k hk;simp[Value.ownBlock]at hk;omega)⟩
theorem After.ofBelow{w w':World}{M:Nat->Prop}(hM: ∀B,M B->B<w.heap.size)(h:Below w.heap.size w w'):After w M [] w' M:=
 ⟨h.size,fun B hB _=>h.block B hB,h.os,h.tape,h.output,fun _ _=>Iff.rfl,fun B hB=>Nat.lt_of_lt_of_le (hM B hB) h.size⟩
theorem bytesOne: ∀ {l:List UInt8} {vs:List Value} {w:World} {M:Nat->Prop},RowR (fun(y:Val .u8) u=>RelC w M .u8 y u) l vs-> ∀u∈vs,u.oneCell'=true:=by
 intro l vs w M h
 refine RowR.all (p:=fun u=>u.oneCell'=true) ?_ h
 intro x u hu v hv
 have hu':u=[.int .u8 (x:UInt8).toNat]:=hu
 subst hu'
 simp only[List.mem_singleton]at hv
 subst hv;rfl
theorem owns_rel{w w':World}{M:Nat->Prop}(hM: ∀B,M B->B<w.heap.size){l:List UInt8}{vs:List Value}{w0:World}{M0:Nat->Prop}(hr:RowR (fun(y:Val .u8) u=>RelC w0 M0 .u8 y u) l vs){v':Value}(h:w'.ownsRow w.heap.size 5 1 v' l.length vs):RelC w' M (.sl .u8) l [v']:=by
 obtain⟨h1,h2⟩:=h
 rcases h2 with⟨rfl,h2⟩|⟨g,cap,cur,rfl,hg,hc,hlc,_,hsz,ht⟩
 ·have:l=[]:=List.length_eq_zero_iff.1 h2
  subst this
  simp only[RelC]
  exact .inl ⟨trivial,none,0,rfl⟩
 ·by_cases hl:l=[]
  ·subst hl
   simp only[RelC]
   exact .inl ⟨trivial,_,_,rfl⟩
  ·simp only[RelC]
   have hlt:g<w'.heap.size:=(Array.getElem?_eq_some_iff.1 hc).1
   refine .inr ⟨hl,g,0,cap,vs,rfl,hlc,hlt,fun hm=>absurd (hM g hm) (by omega),fun i v hv=> ?_,hr.mono fun x u hu=>hu⟩
   have hi:i<vs.length:=(List.getElem?_eq_some_iff.1 hv).1
   rw[←ht]at hv
   rw[List.getElem?_take]at hv
   split at hv
   ·simp only[World.cell?,Nat.zero_add,hc]
    simpa using hv
   ·cases hv
theorem k91:FnOk Tryz.prog 131 s91:=by
 refine⟨(fnB_ok Tryz.func131 (by kernel_rfl)).1,fun w M x vs hM hg hx _ _ r hr=> ?_⟩
 obtain⟨v,l,rfl,hv,hl⟩:=hx
 have hl':l=[]:=hl
 subst hl'
 have hv':RelC w M (.sl .u8) x.1 [v]:=hv
 have hr':fits? (x.1:List UInt8)=(some r:Option (List UInt8)):=hr
 unfold fits? at hr'
 split at hr'
 ·rename_i hlen
  have e:(x.1:List UInt8)=r:=by injection hr'
  have fin: ∀(v':Value) (w':World),RelC w' M (.sl .u8) (x.1:List UInt8) [v']->Below w.heap.size w w'-> ∃us M',Ending.returned v'= .returned (match us with|[u]=>u|us=> .tuple us.toArray)∧OutR w' M' w.heap.size s91.results (ioTy s91.params) r us (ioBlks s91.params [v])∧After w M (ioBlks s91.params [v]) w' M':=by
   intro v' w' h1 h2
   refine⟨[v'],M,rfl,⟨v',rfl,?_,rfl⟩,After.ofBelow hM h2⟩
   have h1':RelC w' M (.sl .u8) r [v']:=e▸h1
   exact h1'
  simp only[RelC]at hv'
  rcases hv' with⟨h0,a,c,hv'⟩|⟨h0,B,off,cap,us,hv',h1,h2,h3,h4,h5⟩
  ·simp only[List.cons.injEq,and_true]at hv'
   subst hv'
   cases a with
   |none=>
    refine(AnyE.slices_Clone_nil Tryz.laysClone 0 c w).mono ?_
    rintro e' w' ⟨rfl,rfl⟩
    refine fin _ _ ?_ (Below.refl _ _)
    rw[h0];simp only[RelC];exact .inl ⟨trivial,none,0,rfl⟩
   |some a=>
    refine(clone_zero a c w).mono ?_
    rintro e' w' ⟨v',rfl,ho,hb⟩
    refine fin _ _ ?_ hb
    rw[h0]
    exact owns_rel (w0:=w) (M0:=M) hM (l:=[]) .nil ho
  ·simp only[List.cons.injEq,and_true]at hv'
   subst hv'
   obtain⟨i0,hi,hz0,hz1,hz2⟩:=info5
   have hln:=h5.length (s:=1) (fun x u hu=>by have hu':u=[.int .u8 (x:UInt8).toNat]:=hu;rw[hu'];rfl)
   refine(AnyE.slices_Clone Tryz.laysClone i0 (.int .u8 0) 1 1 hi hz0 hz1 hz2 rfl (by decide) (fun w=>by kernel_rfl) B off _ cap us w hln (by unfold maxLen;omega) (by omega) (fun j u hu=>h4 j u hu) (bytesOne (w:=w) (M:=M) h5)).mono ?_
   rintro e' w' ⟨v',rfl,ho,_,hb⟩
   exact fin _ _ (owns_rel (w0:=w) (M0:=M) hM h5 ho) hb
 ·cases hr'
end Sx
end
section
open Go Go.Proofs Ev
namespace Sx
theorem hm:Tryz.prog.follows .mixedOrders=true:=by kernel_rfl
theorem hT:Tys Tryz.prog tys cells maps:=⟨by kernel_rfl,by kernel_rfl,by kernel_rfl⟩
theorem k6:FnOk Tryz.prog 20 s6:=fn_okS (C:=c6) (hs:=h6) (ps:=P6) (rs:=R6) (specs:=[]) (dyns:=[]) (codes:=[]) rfl hm hT trivial trivial (by kernel_rfl) Tryz.func20 (by kernel_rfl)
theorem k443:FnOk Tryz.prog 9 s443:=fn_okS (C:=c443) (hs:=h443) (ps:=P443) (rs:=R443) (specs:=[(20,s6)]) (dyns:=[]) (codes:=[]) rfl hm hT ⟨k6,trivial⟩ trivial (by kernel_rfl) Tryz.func9 (by kernel_rfl)
theorem kN102: ∀n,FnOk Tryz.prog 215 (sN102 n)
 |0=>⟨(fnB_ok Tryz.func215 (by kernel_rfl)).1,fun _ _ _ _ _ _ _ _ _ _ h=>none_some h⟩
 |n+1=>fn_okS (C:=mkC tys cells maps [(215,sN102 n)] [] []) (hs:=[]) (ps:=P102) (rs:=R102) (specs:=[(215,sN102 n)]) (dyns:=[]) (codes:=[]) rfl hm hT ⟨kN102 n,trivial⟩ trivial rfl Tryz.func215 (by kernel_rfl)
theorem k102:FnOk Tryz.prog 215 s102:=kN102 6
theorem k64:FnOk Tryz.prog 166 s64:=fn_okS (C:=c64) (hs:=h64) (ps:=P64) (rs:=R64) (specs:=[(215,s102)]) (dyns:=[]) (codes:=[]) rfl hm hT ⟨k102,trivial⟩ trivial (by kernel_rfl) Tryz.func166 (by kernel_rfl)
theorem k63:FnOk Tryz.prog 97 s63:=fn_okS (C:=c63) (hs:=h63) (ps:=P63) (rs:=R63) (specs:=[(166,s64)]) (dyns:=[]) (codes:=[]) rfl hm hT ⟨k64,trivial⟩ trivial (by kernel_rfl) Tryz.func97 (by kernel_rfl)
theorem k29:FnOk Tryz.prog 102 s29:=fn_okS (C:=c29) (hs:=h29) (ps:=P29) (rs:=R29) (specs:=[(97,s63),(166,s64)]) (dyns:=[]) (codes:=[]) rfl hm hT ⟨k63,k64,trivial⟩ trivial (by kernel_rfl) Tryz.func102 (by kernel_rfl)
theorem k42:FnOk Tryz.prog 92 s42:=fn_okS (C:=c42) (hs:=h42) (ps:=P42) (rs:=R42) (specs:=[]) (dyns:=[]) (codes:=[]) rfl hm hT trivial trivial (by kernel_rfl) Tryz.func92 (by kernel_rfl)
theorem k118:FnOk Tryz.prog 171 s118:=fn_okS (C:=c118) (hs:=h118) (ps:=P118) (rs:=R118) (specs:=[]) (dyns:=[]) (codes:=[]) rfl hm hT trivial trivial (by kernel_rfl) Tryz.func171 (by kernel_rfl)
theorem k119:FnOk Tryz.prog 172 s119:=fn_okS (C:=c119) (hs:=h119) (ps:=P119) (rs:=R119) (specs:=[]) (dyns:=[]) (codes:=[]) rfl hm hT trivial trivial (by kernel_rfl) Tryz.func172 (by kernel_rfl)
theorem k82:FnOk Tryz.prog 105 s82:=fn_okS (C:=c82) (hs:=h82) (ps:=P82) (rs:=R82) (specs:=[(92,s42),(171,s118),(172,s119)]) (dyns:=[]) (codes:=[]) rfl hm hT ⟨k42,k118,k119,trivial⟩ trivial (by kernel_rfl) Tryz.func105 (by kernel_rfl)
theorem k44:FnOk Tryz.prog 96 s44:=fn_okS (C:=c44) (hs:=h44) (ps:=P44) (rs:=R44) (specs:=[(102,s29),(105,s82)]) (dyns:=[]) (codes:=[]) rfl hm hT ⟨k29,k82,trivial⟩ trivial (by kernel_rfl) Tryz.func96 (by kernel_rfl)
theorem k18:FnOk Tryz.prog 38 s18:=fn_okS (C:=c18) (hs:=h18) (ps:=P18) (rs:=R18) (specs:=[(96,s44)]) (dyns:=[]) (codes:=[]) rfl hm hT ⟨k44,trivial⟩ trivial (by kernel_rfl) Tryz.func38 (by kernel_rfl)
theorem k15:FnOk Tryz.prog 49 s15:=fn_okS (C:=c15) (hs:=h15) (ps:=P15) (rs:=R15) (specs:=[]) (dyns:=[]) (codes:=[]) rfl hm hT trivial trivial (by kernel_rfl) Tryz.func49 (by kernel_rfl)
theorem k103:FnOk Tryz.prog 213 s103:=fn_okS (C:=c103) (hs:=h103) (ps:=P103) (rs:=R103) (specs:=[]) (dyns:=[]) (codes:=[]) rfl hm hT trivial trivial (by kernel_rfl) Tryz.func213 (by kernel_rfl)
theorem k66:FnOk Tryz.prog 163 s66:=fn_okS (C:=c66) (hs:=h66) (ps:=P66) (rs:=R66) (specs:=[(96,s44),(213,s103)]) (dyns:=[]) (codes:=[]) rfl hm hT ⟨k44,k103,trivial⟩ trivial (by kernel_rfl) Tryz.func163 (by kernel_rfl)
theorem k68:FnOk Tryz.prog 170 s68:=fn_okS (C:=c68) (hs:=h68) (ps:=P68) (rs:=R68) (specs:=[(102,s29)]) (dyns:=[]) (codes:=[]) rfl hm hT ⟨k29,trivial⟩ trivial (by kernel_rfl) Tryz.func170 (by kernel_rfl)
theorem k104:FnOk Tryz.prog 214 s104:=fn_okS (C:=c104) (hs:=h104) (ps:=P104) (rs:=R104) (specs:=[(170,s68),(105,s82)]) (dyns:=[]) (codes:=[]) rfl hm hT ⟨k68,k82,trivial⟩ trivial (by kernel_rfl) Tryz.func214 (by kernel_rfl)
theorem k67:FnOk Tryz.prog 164 s67:=fn_okS (C:=c67) (hs:=h67) (ps:=P67) (rs:=R67) (specs:=[(214,s104)]) (dyns:=[]) (codes:=[]) rfl hm hT ⟨k104,trivial⟩ trivial (by kernel_rfl) Tryz.func164 (by kernel_rfl)
theorem k38:FnOk Tryz.prog 93 s38:=fn_okS (C:=c38) (hs:=h38) (ps:=P38) (rs:=R38) (specs:=[(163,s66),(164,s67)]) (dyns:=[]) (codes:=[]) rfl hm hT ⟨k66,k67,trivial⟩ trivial (by kernel_rfl) Tryz.func93 (by kernel_rfl)
theorem k31:FnOk Tryz.prog 103 s31:=fn_okS (C:=c31) (hs:=h31) (ps:=P31) (rs:=R31) (specs:=[(96,s44)]) (dyns:=[]) (codes:=[]) rfl hm hT ⟨k44,trivial⟩ trivial (by kernel_rfl) Tryz.func103 (by kernel_rfl)
theorem k70:FnOk Tryz.prog 165 s70:=fn_okS (C:=c70) (hs:=h70) (ps:=P70) (rs:=R70) (specs:=[(103,s31)]) (dyns:=[]) (codes:=[]) rfl hm hT ⟨k31,trivial⟩ trivial (by kernel_rfl) Tryz.func165 (by kernel_rfl)
theorem k33:FnOk Tryz.prog 94 s33:=fn_okS (C:=c33) (hs:=h33) (ps:=P33) (rs:=R33) (specs:=[(165,s70)]) (dyns:=[]) (codes:=[]) rfl hm hT ⟨k70,trivial⟩ trivial (by kernel_rfl) Tryz.func94 (by kernel_rfl)
theorem k30:FnOk Tryz.prog 95 s30:=fn_okS (C:=c30) (hs:=h30) (ps:=P30) (rs:=R30) (specs:=[]) (dyns:=[]) (codes:=[]) rfl hm hT trivial trivial (by kernel_rfl) Tryz.func95 (by kernel_rfl)
theorem k28:FnOk Tryz.prog 37 s28:=fn_okS (C:=c28) (hs:=h28) (ps:=P28) (rs:=R28) (specs:=[(95,s30),(94,s33),(93,s38)]) (dyns:=[]) (codes:=[]) rfl hm hT ⟨k30,k33,k38,trivial⟩ trivial (by kernel_rfl) Tryz.func37 (by kernel_rfl)
theorem k27:FnOk Tryz.prog 39 s27:=fn_okS (C:=c27) (hs:=h27) (ps:=P27) (rs:=R27) (specs:=[(92,s42),(97,s63)]) (dyns:=[]) (codes:=[]) rfl hm hT ⟨k42,k63,trivial⟩ trivial (by kernel_rfl) Tryz.func39 (by kernel_rfl)
theorem k80:FnOk Tryz.prog 125 s80:=fn_okS (C:=c80) (hs:=h80) (ps:=P80) (rs:=R80) (specs:=[]) (dyns:=[]) (codes:=[]) rfl hm hT trivial trivial (by kernel_rfl) Tryz.func125 (by kernel_rfl)
theorem k148:FnOk Tryz.prog 184 s148:=fn_okS (C:=c148) (hs:=h148) (ps:=P148) (rs:=R148) (specs:=[]) (dyns:=[]) (codes:=[]) rfl hm hT trivial trivial (by kernel_rfl) Tryz.func184 (by kernel_rfl)
theorem k149:FnOk Tryz.prog 185 s149:=fn_okS (C:=c149) (hs:=h149) (ps:=P149) (rs:=R149) (specs:=[(125,s80)]) (dyns:=[]) (codes:=[]) rfl hm hT ⟨k80,trivial⟩ trivial (by kernel_rfl) Tryz.func185 (by kernel_rfl)
theorem k116:FnOk Tryz.prog 124 s116:=fn_okS (C:=c116) (hs:=h116) (ps:=P116) (rs:=R116) (specs:=[(125,s80),(184,s148),(185,s149)]) (dyns:=[38]) (codes:=[]) rfl hm hT ⟨k80,k148,k149,trivial⟩ trivial (by kernel_rfl) Tryz.func124 (by kernel_rfl)
theorem k147:FnOk Tryz.prog 220 s147:=fn_okS (C:=c147) (hs:=h147) (ps:=P147) (rs:=R147) (specs:=[(125,s80)]) (dyns:=[]) (codes:=[]) rfl hm hT ⟨k80,trivial⟩ trivial (by kernel_rfl) Tryz.func220 (by kernel_rfl)
theorem k115:FnOk Tryz.prog 182 s115:=fn_okS (C:=c115) (hs:=h115) (ps:=P115) (rs:=R115) (specs:=[(220,s147)]) (dyns:=[]) (codes:=[]) rfl hm hT ⟨k147,trivial⟩ trivial (by kernel_rfl) Tryz.func182 (by kernel_rfl)
theorem k150:FnOk Tryz.prog 221 s150:=fn_okS (C:=c150) (hs:=h150) (ps:=P150) (rs:=R150) (specs:=[(125,s80)]) (dyns:=[]) (codes:=[]) rfl hm hT ⟨k80,trivial⟩ trivial (by kernel_rfl) Tryz.func221 (by kernel_rfl)
theorem k151:FnOk Tryz.prog 222 s151:=fn_okS (C:=c151) (hs:=h151) (ps:=P151) (rs:=R151) (specs:=[]) (dyns:=[]) (codes:=[]) rfl hm hT trivial trivial (by kernel_rfl) Tryz.func222 (by kernel_rfl)
theorem k117:FnOk Tryz.prog 183 s117:=fn_okS (C:=c117) (hs:=h117) (ps:=P117) (rs:=R117) (specs:=[(221,s150),(222,s151)]) (dyns:=[]) (codes:=[]) rfl hm hT ⟨k150,k151,trivial⟩ trivial (by kernel_rfl) Tryz.func183 (by kernel_rfl)
theorem k79:FnOk Tryz.prog 123 s79:=fn_okS (C:=c79) (hs:=h79) (ps:=P79) (rs:=R79) (specs:=[(182,s115),(124,s116),(183,s117)]) (dyns:=[]) (codes:=[]) rfl hm hT ⟨k115,k116,k117,trivial⟩ trivial (by kernel_rfl) Tryz.func123 (by kernel_rfl)
theorem k78:FnOk Tryz.prog 177 s78:=fn_okS (C:=c78) (hs:=h78) (ps:=P78) (rs:=R78) (specs:=[]) (dyns:=[]) (codes:=[]) rfl hm hT trivial trivial (by kernel_rfl) Tryz.func177 (by kernel_rfl)
theorem k36:FnOk Tryz.prog 110 s36:=fn_okS (C:=c36) (hs:=h36) (ps:=P36) (rs:=R36) (specs:=[(177,s78),(123,s79),(125,s80)]) (dyns:=[]) (codes:=[]) rfl hm hT ⟨k78,k79,k80,trivial⟩ trivial (by kernel_rfl) Tryz.func110 (by kernel_rfl)
theorem k37:FnOk Tryz.prog 111 s37:=fn_okS (C:=c37) (hs:=h37) (ps:=P37) (rs:=R37) (specs:=[(93,s38),(165,s70)]) (dyns:=[]) (codes:=[]) rfl hm hT ⟨k38,k70,trivial⟩ trivial (by kernel_rfl) Tryz.func111 (by kernel_rfl)
theorem k39:FnOk Tryz.prog 112 s39:=fn_okS (C:=c39) (hs:=h39) (ps:=P39) (rs:=R39) (specs:=[(163,s66),(164,s67)]) (dyns:=[]) (codes:=[]) rfl hm hT ⟨k66,k67,trivial⟩ trivial (by kernel_rfl) Tryz.func112 (by kernel_rfl)
theorem k16:FnOk Tryz.prog 50 s16:=fn_ok hm hT (specs:=[(39,s27),(37,s28),(95,s30),(110,s36),(111,s37),(93,s38),(112,s39)]) (dyns:=[32]) (codes:=[]) ⟨k27,k28,k30,k36,k37,k38,k39,trivial⟩ trivial (by kernel_rfl) Tryz.func50 (by kernel_rfl) (fun x r h=>by obtain⟨hs,_,e⟩:=List.mem_map.1 (orAll_mem h);exact⟨_,e⟩)
theorem k81:FnOk Tryz.prog 178 s81:=fn_okS (C:=c81) (hs:=h81) (ps:=P81) (rs:=R81) (specs:=[]) (dyns:=[]) (codes:=[]) rfl hm hT trivial trivial (by kernel_rfl) Tryz.func178 (by kernel_rfl)
theorem k40:FnOk Tryz.prog 113 s40:=fn_okS (C:=c40) (hs:=h40) (ps:=P40) (rs:=R40) (specs:=[(178,s81)]) (dyns:=[]) (codes:=[]) rfl hm hT ⟨k81,trivial⟩ trivial (by kernel_rfl) Tryz.func113 (by kernel_rfl)
theorem k41:FnOk Tryz.prog 114 s41:=fn_okS (C:=c41) (hs:=h41) (ps:=P41) (rs:=R41) (specs:=[(178,s81)]) (dyns:=[]) (codes:=[]) rfl hm hT ⟨k81,trivial⟩ trivial (by kernel_rfl) Tryz.func114 (by kernel_rfl)
theorem k43:FnOk Tryz.prog 115 s43:=fn_okS (C:=c43) (hs:=h43) (ps:=P43) (rs:=R43) (specs:=[(178,s81)]) (dyns:=[]) (codes:=[]) rfl hm hT ⟨k81,trivial⟩ trivial (by kernel_rfl) Tryz.func115 (by kernel_rfl)
theorem k17:FnOk Tryz.prog 51 s17:=fn_okS (C:=c17) (hs:=h17) (ps:=P17) (rs:=R17) (specs:=[(113,s40),(114,s41),(92,s42),(115,s43)]) (dyns:=[]) (codes:=[]) rfl hm hT ⟨k40,k41,k42,k43,trivial⟩ trivial (by kernel_rfl) Tryz.func51 (by kernel_rfl)
theorem k7:FnOk Tryz.prog 10 s7:=fn_okS (C:=c7) (hs:=h7) (ps:=P7) (rs:=R7) (specs:=[(49,s15),(50,s16),(51,s17),(38,s18)]) (dyns:=[]) (codes:=[]) rfl hm hT ⟨k15,k16,k17,k18,trivial⟩ trivial (by kernel_rfl) Tryz.func10 (by kernel_rfl)
theorem k5:FnOk Tryz.prog 30 s5:=fn_okS (C:=c5) (hs:=h5) (ps:=P5) (rs:=R5) (specs:=[]) (dyns:=[]) (codes:=[]) rfl hm hT trivial trivial (by kernel_rfl) Tryz.func30 (by kernel_rfl)
theorem k4:FnOk Tryz.prog 11 s4:=fn_okS (C:=c4) (hs:=h4) (ps:=P4) (rs:=R4) (specs:=[(30,s5)]) (dyns:=[]) (codes:=[]) rfl hm hT ⟨k5,trivial⟩ trivial (by kernel_rfl) Tryz.func11 (by kernel_rfl)
theorem k429:FnOk Tryz.prog 52 s429:=fn_okS (C:=c429) (hs:=h429) (ps:=P429) (rs:=R429) (specs:=[]) (dyns:=[]) (codes:=[]) rfl hm hT trivial trivial (by kernel_rfl) Tryz.func52 (by kernel_rfl)
theorem k8:FnOk Tryz.prog 40 s8:=fn_okS (C:=c8) (hs:=h8) (ps:=P8) (rs:=R8) (specs:=[]) (dyns:=[]) (codes:=[]) rfl hm hT trivial trivial (by kernel_rfl) Tryz.func40 (by kernel_rfl)
theorem k428:FnOk Tryz.prog 53 s428:=fn_okS (C:=c428) (hs:=h428) (ps:=P428) (rs:=R428) (specs:=[(40,s8)]) (dyns:=[]) (codes:=[]) rfl hm hT ⟨k8,trivial⟩ trivial (by kernel_rfl) Tryz.func53 (by kernel_rfl)
theorem k444a:FnOk Tryz.prog 12 ⟨P444,R444,fun x=>evF c444 Tryz.f12 h444 P444 R444 x⟩:=fn_okS (C:=c444) (hs:=h444) (ps:=P444) (rs:=R444) (specs:=[(20,s6),(53,s428),(52,s429)]) (dyns:=[]) (codes:=[]) rfl hm hT ⟨k6,k428,k429,trivial⟩ trivial (by kernel_rfl) Tryz.func12 (by kernel_rfl)
theorem k444b(q:Nat):FnOk Tryz.prog 12 ⟨P444,R444,fun x=>evF c444b Tryz.f12 (h444b q) P444 R444 x⟩:=fn_okS (C:=c444b) (hs:=h444b q) (ps:=P444) (rs:=R444) (specs:=[(20,s6),(53,s428),(52,s429)]) (dyns:=[32,38]) (codes:=[(52,Tryz.f52),(53,Tryz.f53),(40,Tryz.f40)]) rfl hm hT ⟨k6,k428,k429,trivial⟩ ⟨Tryz.func52,Tryz.func53,Tryz.func40,trivial⟩ (by kernel_rfl) Tryz.func12 (by kernel_rfl)
theorem k444:FnOk Tryz.prog 12 s444:=⟨k444a.1,fun w M x vs a b c d e r h=>by
 rcases List.mem_cons.1 (orAll_mem h)with h|h
 ·exact k444a.2 w M x vs a b c d e r h.symm
 ·obtain⟨q,_,h⟩:=List.mem_map.1 h
  exact(k444b q).2 w M x vs a b c d e r h⟩
theorem k460:FnOk Tryz.prog 116 s460:=fn_okS (C:=c460) (hs:=h460) (ps:=P460) (rs:=R460) (specs:=[]) (dyns:=[]) (codes:=[]) rfl hm hT trivial trivial (by kernel_rfl) Tryz.func116 (by kernel_rfl)
theorem k461:FnOk Tryz.prog 117 s461:=fn_okS (C:=c461) (hs:=h461) (ps:=P461) (rs:=R461) (specs:=[]) (dyns:=[]) (codes:=[]) rfl hm hT trivial trivial (by kernel_rfl) Tryz.func117 (by kernel_rfl)
theorem k458:FnOk Tryz.prog 54 s458:=fn_okS (C:=c458) (hs:=h458) (ps:=P458) (rs:=R458) (specs:=[(116,s460),(117,s461)]) (dyns:=[]) (codes:=[]) rfl hm hT ⟨k460,k461,trivial⟩ trivial (by kernel_rfl) Tryz.func54 (by kernel_rfl)
theorem k451:FnOk Tryz.prog 55 s451:=fn_okS (C:=c451) (hs:=h451) (ps:=P451) (rs:=R451) (specs:=[(54,s458)]) (dyns:=[]) (codes:=[]) rfl hm hT ⟨k458,trivial⟩ trivial (by kernel_rfl) Tryz.func55 (by kernel_rfl)
theorem k446:FnOk Tryz.prog 57 s446:=fn_okS (C:=c446) (hs:=h446) (ps:=P446) (rs:=R446) (specs:=[(96,s44)]) (dyns:=[]) (codes:=[]) rfl hm hT ⟨k44,trivial⟩ trivial (by kernel_rfl) Tryz.func57 (by kernel_rfl)
theorem k452:FnOk Tryz.prog 118 s452:=fn_okS (C:=c452) (hs:=h452) (ps:=P452) (rs:=R452) (specs:=[(54,s458)]) (dyns:=[]) (codes:=[]) rfl hm hT ⟨k458,trivial⟩ trivial (by kernel_rfl) Tryz.func118 (by kernel_rfl)
theorem k454:FnOk Tryz.prog 56 s454:=fn_okS (C:=c454) (hs:=h454) (ps:=P454) (rs:=R454) (specs:=[(57,s446),(55,s451),(118,s452)]) (dyns:=[38]) (codes:=[]) rfl hm hT ⟨k446,k451,k452,trivial⟩ trivial (by kernel_rfl) Tryz.func56 (by kernel_rfl)
theorem k459:FnOk Tryz.prog 13 s459:=fn_okS (C:=c459) (hs:=h459) (ps:=P459) (rs:=R459) (specs:=[(57,s446),(55,s451),(56,s454),(54,s458)]) (dyns:=[38]) (codes:=[]) rfl hm hT ⟨k446,k451,k454,k458,trivial⟩ trivial (by kernel_rfl) Tryz.func13 (by kernel_rfl)
theorem k152:FnOk Tryz.prog 136 s152:=fn_okS (C:=c152) (hs:=h152) (ps:=P152) (rs:=R152) (specs:=[]) (dyns:=[]) (codes:=[]) rfl hm hT trivial trivial (by kernel_rfl) Tryz.func136 (by kernel_rfl)
theorem k185:FnOk Tryz.prog 200 s185:=fn_okS (C:=c185) (hs:=h185) (ps:=P185) (rs:=R185) (specs:=[]) (dyns:=[]) (codes:=[]) rfl hm hT trivial trivial (by kernel_rfl) Tryz.func200 (by kernel_rfl)
theorem k153:FnOk Tryz.prog 137 s153:=fn_okS (C:=c153) (hs:=h153) (ps:=P153) (rs:=R153) (specs:=[(200,s185)]) (dyns:=[]) (codes:=[]) rfl hm hT ⟨k185,trivial⟩ trivial (by kernel_rfl) Tryz.func137 (by kernel_rfl)
theorem k154:FnOk Tryz.prog 138 s154:=fn_okS (C:=c154) (hs:=h154) (ps:=P154) (rs:=R154) (specs:=[]) (dyns:=[]) (codes:=[]) rfl hm hT trivial trivial (by kernel_rfl) Tryz.func138 (by kernel_rfl)
theorem k155:FnOk Tryz.prog 139 s155:=fn_okS (C:=c155) (hs:=h155) (ps:=P155) (rs:=R155) (specs:=[]) (dyns:=[38]) (codes:=[]) rfl hm hT trivial trivial (by kernel_rfl) Tryz.func139 (by kernel_rfl)
theorem k156:FnOk Tryz.prog 140 s156:=fn_okS (C:=c156) (hs:=h156) (ps:=P156) (rs:=R156) (specs:=[]) (dyns:=[]) (codes:=[]) rfl hm hT trivial trivial (by kernel_rfl) Tryz.func140 (by kernel_rfl)
theorem k120:FnOk Tryz.prog 75 s120:=fn_okS (C:=c120) (hs:=h120) (ps:=P120) (rs:=R120) (specs:=[(136,s152),(137,s153),(138,s154),(139,s155),(140,s156)]) (dyns:=[]) (codes:=[]) rfl hm hT ⟨k152,k153,k154,k155,k156,trivial⟩ trivial (by kernel_rfl) Tryz.func75 (by kernel_rfl)
theorem k157:FnOk Tryz.prog 141 s157:=fn_okS (C:=c157) (hs:=h157) (ps:=P157) (rs:=R157) (specs:=[]) (dyns:=[]) (codes:=[]) rfl hm hT trivial trivial (by kernel_rfl) Tryz.func141 (by kernel_rfl)
theorem k158:FnOk Tryz.prog 142 s158:=fn_okS (C:=c158) (hs:=h158) (ps:=P158) (rs:=R158) (specs:=[]) (dyns:=[]) (codes:=[]) rfl hm hT trivial trivial (by kernel_rfl) Tryz.func142 (by kernel_rfl)
theorem k186:FnOk Tryz.prog 201 s186:=fn_okS (C:=c186) (hs:=h186) (ps:=P186) (rs:=R186) (specs:=[]) (dyns:=[]) (codes:=[]) rfl hm hT trivial trivial (by kernel_rfl) Tryz.func201 (by kernel_rfl)
theorem k159:FnOk Tryz.prog 143 s159:=fn_okS (C:=c159) (hs:=h159) (ps:=P159) (rs:=R159) (specs:=[(136,s152),(139,s155),(201,s186)]) (dyns:=[]) (codes:=[]) rfl hm hT ⟨k152,k155,k186,trivial⟩ trivial (by kernel_rfl) Tryz.func143 (by kernel_rfl)
theorem k161:FnOk Tryz.prog 145 s161:=fn_okS (C:=c161) (hs:=h161) (ps:=P161) (rs:=R161) (specs:=[]) (dyns:=[]) (codes:=[]) rfl hm hT trivial trivial (by kernel_rfl) Tryz.func145 (by kernel_rfl)
theorem k162:FnOk Tryz.prog 146 s162:=fn_okS (C:=c162) (hs:=h162) (ps:=P162) (rs:=R162) (specs:=[]) (dyns:=[]) (codes:=[]) rfl hm hT trivial trivial (by kernel_rfl) Tryz.func146 (by kernel_rfl)
theorem k187:FnOk Tryz.prog 202 s187:=fn_okS (C:=c187) (hs:=h187) (ps:=P187) (rs:=R187) (specs:=[]) (dyns:=[]) (codes:=[]) rfl hm hT trivial trivial (by kernel_rfl) Tryz.func202 (by kernel_rfl)
theorem k121:FnOk Tryz.prog 76 s121:=fn_okS (C:=c121) (hs:=h121) (ps:=P121) (rs:=R121) (specs:=[(136,s152),(137,s153),(139,s155),(141,s157),(142,s158),(143,s159),(145,s161),(146,s162),(201,s186),(202,s187)]) (dyns:=[38]) (codes:=[(139,Tryz.f139),(143,Tryz.f143),(144,Tryz.f144),(147,Tryz.f147)]) rfl hm hT ⟨k152,k153,k155,k157,k158,k159,k161,k162,k186,k187,trivial⟩ ⟨Tryz.func139,Tryz.func143,Tryz.func144,Tryz.func147,trivial⟩ (by kernel_rfl) Tryz.func76 (by kernel_rfl)
theorem k188:FnOk Tryz.prog 203 s188:=fn_okS (C:=c188) (hs:=h188) (ps:=P188) (rs:=R188) (specs:=[(202,s187)]) (dyns:=[]) (codes:=[]) rfl hm hT ⟨k187,trivial⟩ trivial (by kernel_rfl) Tryz.func203 (by kernel_rfl)
theorem k164:FnOk Tryz.prog 148 s164:=fn_okS (C:=c164) (hs:=h164) (ps:=P164) (rs:=R164) (specs:=[(145,s161),(203,s188)]) (dyns:=[]) (codes:=[]) rfl hm hT ⟨k161,k188,trivial⟩ trivial (by kernel_rfl) Tryz.func148 (by kernel_rfl)
theorem k166:FnOk Tryz.prog 150 s166:=fn_okS (C:=c166) (hs:=h166) (ps:=P166) (rs:=R166) (specs:=[]) (dyns:=[]) (codes:=[]) rfl hm hT trivial trivial (by kernel_rfl) Tryz.func150 (by kernel_rfl)
theorem k165:FnOk Tryz.prog 149 s165:=fn_okS (C:=c165) (hs:=h165) (ps:=P165) (rs:=R165) (specs:=[(150,s166)]) (dyns:=[]) (codes:=[]) rfl hm hT ⟨k166,trivial⟩ trivial (by kernel_rfl) Tryz.func149 (by kernel_rfl)
theorem k122:FnOk Tryz.prog 77 s122:=fn_okS (C:=c122) (hs:=h122) (ps:=P122) (rs:=R122) (specs:=[(137,s153),(139,s155),(141,s157),(148,s164),(149,s165)]) (dyns:=[]) (codes:=[]) rfl hm hT ⟨k153,k155,k157,k164,k165,trivial⟩ trivial (by kernel_rfl) Tryz.func77 (by kernel_rfl)
theorem k83:FnOk Tryz.prog 22 s83:=fn_okS (C:=c83) (hs:=h83) (ps:=P83) (rs:=R83) (specs:=[(75,s120),(76,s121),(77,s122)]) (dyns:=[]) (codes:=[]) rfl hm hT ⟨k120,k121,k122,trivial⟩ trivial (by kernel_rfl) Tryz.func22 (by kernel_rfl)
theorem k95:FnOk Tryz.prog 167 s95:=fn_okS (C:=c95) (hs:=h95) (ps:=P95) (rs:=R95) (specs:=[(216,s127)]) (dyns:=[]) (codes:=[]) rfl hm hT ⟨k127,trivial⟩ trivial (by kernel_rfl) Tryz.func167 (by kernel_rfl)
theorem k88:FnOk Tryz.prog 135 s88:=fn_okS (C:=c88) (hs:=h88) (ps:=P88) (rs:=R88) (specs:=[(167,s95)]) (dyns:=[]) (codes:=[]) rfl hm hT ⟨k95,trivial⟩ trivial (by kernel_rfl) Tryz.func135 (by kernel_rfl)
theorem k54:FnOk Tryz.prog 98 s54:=fn_okS (C:=c54) (hs:=h54) (ps:=P54) (rs:=R54) (specs:=[(135,s88),(167,s95)]) (dyns:=[]) (codes:=[]) rfl hm hT ⟨k88,k95,trivial⟩ trivial (by kernel_rfl) Tryz.func98 (by kernel_rfl)
theorem k189:FnOk Tryz.prog 217 s189:=fn_okS (C:=c189) (hs:=h189) (ps:=P189) (rs:=R189) (specs:=[]) (dyns:=[]) (codes:=[]) rfl hm hT trivial trivial (by kernel_rfl) Tryz.func217 (by kernel_rfl)
theorem k190:FnOk Tryz.prog 218 s190:=fn_okS (C:=c190) (hs:=h190) (ps:=P190) (rs:=R190) (specs:=[]) (dyns:=[]) (codes:=[]) rfl hm hT trivial trivial (by kernel_rfl) Tryz.func218 (by kernel_rfl)
theorem k168:FnOk Tryz.prog 173 s168:=fn_okS (C:=c168) (hs:=h168) (ps:=P168) (rs:=R168) (specs:=[(217,s189),(218,s190)]) (dyns:=[]) (codes:=[]) rfl hm hT ⟨k189,k190,trivial⟩ trivial (by kernel_rfl) Tryz.func173 (by kernel_rfl)
theorem k204:FnOk Tryz.prog 252 s204:=fn_okS (C:=c204) (hs:=h204) (ps:=P204) (rs:=R204) (specs:=[]) (dyns:=[]) (codes:=[]) rfl hm hT trivial trivial (by kernel_rfl) Tryz.func252 (by kernel_rfl)
theorem k191:FnOk Tryz.prog 219 s191:=fn_okS (C:=c191) (hs:=h191) (ps:=P191) (rs:=R191) (specs:=[(252,s204)]) (dyns:=[]) (codes:=[]) rfl hm hT ⟨k204,trivial⟩ trivial (by kernel_rfl) Tryz.func219 (by kernel_rfl)
theorem k169:FnOk Tryz.prog 174 s169:=fn_okS (C:=c169) (hs:=h169) (ps:=P169) (rs:=R169) (specs:=[(219,s191)]) (dyns:=[]) (codes:=[]) rfl hm hT ⟨k191,trivial⟩ trivial (by kernel_rfl) Tryz.func174 (by kernel_rfl)
theorem k89:FnOk Tryz.prog 91 s89:=fn_okS (C:=c89) (hs:=h89) (ps:=P89) (rs:=R89) (specs:=[]) (dyns:=[]) (codes:=[]) rfl hm hT trivial trivial (by kernel_rfl) Tryz.func91 (by kernel_rfl)
theorem k170:FnOk Tryz.prog 175 s170:=fn_okS (C:=c170) (hs:=h170) (ps:=P170) (rs:=R170) (specs:=[(91,s89),(219,s191)]) (dyns:=[]) (codes:=[]) rfl hm hT ⟨k89,k191,trivial⟩ trivial (by kernel_rfl) Tryz.func175 (by kernel_rfl)
theorem k125:FnOk Tryz.prog 106 s125:=fn_okS (C:=c125) (hs:=h125) (ps:=P125) (rs:=R125) (specs:=[(173,s168),(174,s169),(175,s170)]) (dyns:=[]) (codes:=[]) rfl hm hT ⟨k168,k169,k170,trivial⟩ trivial (by kernel_rfl) Tryz.func106 (by kernel_rfl)
theorem k90:FnOk Tryz.prog 87 s90:=fn_okS (C:=c90) (hs:=h90) (ps:=P90) (rs:=R90) (specs:=[(98,s54),(106,s125)]) (dyns:=[]) (codes:=[]) rfl hm hT ⟨k54,k125,trivial⟩ trivial (by kernel_rfl) Tryz.func87 (by kernel_rfl)
theorem k128:FnOk Tryz.prog 155 s128:=fn_okS (C:=c128) (hs:=h128) (ps:=P128) (rs:=R128) (specs:=[]) (dyns:=[]) (codes:=[]) rfl hm hT trivial trivial (by kernel_rfl) Tryz.func155 (by kernel_rfl)
theorem k130:FnOk Tryz.prog 206 s130:=fn_okS (C:=c130) (hs:=h130) (ps:=P130) (rs:=R130) (specs:=[(98,s54)]) (dyns:=[]) (codes:=[]) rfl hm hT ⟨k54,trivial⟩ trivial (by kernel_rfl) Tryz.func206 (by kernel_rfl)
theorem k129:FnOk Tryz.prog 156 s129:=fn_okS (C:=c129) (hs:=h129) (ps:=P129) (rs:=R129) (specs:=[(106,s125),(206,s130)]) (dyns:=[]) (codes:=[]) rfl hm hT ⟨k125,k130,trivial⟩ trivial (by kernel_rfl) Tryz.func156 (by kernel_rfl)
theorem k96:FnOk Tryz.prog 86 s96:=fn_okS (C:=c96) (hs:=h96) (ps:=P96) (rs:=R96) (specs:=[(87,s90),(155,s128),(156,s129)]) (dyns:=[]) (codes:=[]) rfl hm hT ⟨k90,k128,k129,trivial⟩ trivial (by kernel_rfl) Tryz.func86 (by kernel_rfl)
theorem k87:FnOk Tryz.prog 27 s87:=fn_okS (C:=c87) (hs:=h87) (ps:=P87) (rs:=R87) (specs:=[(86,s96)]) (dyns:=[]) (codes:=[]) rfl hm hT ⟨k96,trivial⟩ trivial (by kernel_rfl) Tryz.func27 (by kernel_rfl)
theorem k56:FnOk Tryz.prog 81 s56:=fn_okS (C:=c56) (hs:=h56) (ps:=P56) (rs:=R56) (specs:=[(87,s90)]) (dyns:=[]) (codes:=[]) rfl hm hT ⟨k90,trivial⟩ trivial (by kernel_rfl) Tryz.func81 (by kernel_rfl)
theorem k85:FnOk Tryz.prog 24 s85:=fn_okS (C:=c85) (hs:=h85) (ps:=P85) (rs:=R85) (specs:=[(81,s56),(27,s87)]) (dyns:=[]) (codes:=[]) rfl hm hT ⟨k56,k87,trivial⟩ trivial (by kernel_rfl) Tryz.func24 (by kernel_rfl)
theorem k47:FnOk Tryz.prog 73 s47:=fn_okS (C:=c47) (hs:=h47) (ps:=P47) (rs:=R47) (specs:=[(135,s88),(91,s89)]) (dyns:=[]) (codes:=[]) rfl hm hT ⟨k88,k89,trivial⟩ trivial (by kernel_rfl) Tryz.func73 (by kernel_rfl)
theorem k126:FnOk Tryz.prog 205 s126:=fn_okS (C:=c126) (hs:=h126) (ps:=P126) (rs:=R126) (specs:=[]) (dyns:=[]) (codes:=[]) rfl hm hT trivial trivial (by kernel_rfl) Tryz.func205 (by kernel_rfl)
theorem k92:FnOk Tryz.prog 153 s92:=fn_okS (C:=c92) (hs:=h92) (ps:=P92) (rs:=R92) (specs:=[(205,s126)]) (dyns:=[]) (codes:=[]) rfl hm hT ⟨k126,trivial⟩ trivial (by kernel_rfl) Tryz.func153 (by kernel_rfl)
theorem k51:FnOk Tryz.prog 82 s51:=fn_okS (C:=c51) (hs:=h51) (ps:=P51) (rs:=R51) (specs:=[(153,s92)]) (dyns:=[]) (codes:=[]) rfl hm hT ⟨k92,trivial⟩ trivial (by kernel_rfl) Tryz.func82 (by kernel_rfl)
theorem k93:FnOk Tryz.prog 154 s93:=fn_okS (C:=c93) (hs:=h93) (ps:=P93) (rs:=R93) (specs:=[]) (dyns:=[]) (codes:=[]) rfl hm hT trivial trivial (by kernel_rfl) Tryz.func154 (by kernel_rfl)
theorem k52:FnOk Tryz.prog 83 s52:=fn_okS (C:=c52) (hs:=h52) (ps:=P52) (rs:=R52) (specs:=[(154,s93)]) (dyns:=[]) (codes:=[]) rfl hm hT ⟨k93,trivial⟩ trivial (by kernel_rfl) Tryz.func83 (by kernel_rfl)
theorem k94:FnOk Tryz.prog 151 s94:=fn_okS (C:=c94) (hs:=h94) (ps:=P94) (rs:=R94) (specs:=[]) (dyns:=[]) (codes:=[]) rfl hm hT trivial trivial (by kernel_rfl) Tryz.func151 (by kernel_rfl)
theorem k53:FnOk Tryz.prog 84 s53:=fn_okS (C:=c53) (hs:=h53) (ps:=P53) (rs:=R53) (specs:=[(151,s94)]) (dyns:=[]) (codes:=[]) rfl hm hT ⟨k94,trivial⟩ trivial (by kernel_rfl) Tryz.func84 (by kernel_rfl)
theorem k21:FnOk Tryz.prog 85 s21:=fn_okS (C:=c21) (hs:=h21) (ps:=P21) (rs:=R21) (specs:=[]) (dyns:=[]) (codes:=[]) rfl hm hT trivial trivial (by kernel_rfl) Tryz.func85 (by kernel_rfl)
theorem k20:FnOk Tryz.prog 26 s20:=fn_okS (C:=c20) (hs:=h20) (ps:=P20) (rs:=R20) (specs:=[(85,s21),(73,s47),(82,s51),(83,s52),(84,s53)]) (dyns:=[]) (codes:=[]) rfl hm hT ⟨k21,k47,k51,k52,k53,trivial⟩ trivial (by kernel_rfl) Tryz.func26 (by kernel_rfl)
theorem k49:FnOk Tryz.prog 28 s49:=fn_okS (C:=c49) (hs:=h49) (ps:=P49) (rs:=R49) (specs:=[(87,s90)]) (dyns:=[]) (codes:=[]) rfl hm hT ⟨k90,trivial⟩ trivial (by kernel_rfl) Tryz.func28 (by kernel_rfl)
theorem k182:FnOk Tryz.prog 78 s182:=fn_okS (C:=c182) (hs:=h182) (ps:=P182) (rs:=R182) (specs:=[(151,s94)]) (dyns:=[]) (codes:=[]) rfl hm hT ⟨k94,trivial⟩ trivial (by kernel_rfl) Tryz.func78 (by kernel_rfl)
theorem k202:FnOk Tryz.prog 25 s202:=fn_okS (C:=c202) (hs:=h202) (ps:=P202) (rs:=R202) (specs:=[]) (dyns:=[]) (codes:=[]) rfl hm hT trivial trivial (by kernel_rfl) Tryz.func25 (by kernel_rfl)
theorem k183:FnOk Tryz.prog 79 s183:=fn_okS (C:=c183) (hs:=h183) (ps:=P183) (rs:=R183) (specs:=[(22,s83),(25,s202)]) (dyns:=[]) (codes:=[]) rfl hm hT ⟨k83,k202,trivial⟩ trivial (by kernel_rfl) Tryz.func79 (by kernel_rfl)
theorem k244:FnOk Tryz.prog 242 s244:=fn_okS (C:=c244) (hs:=h244) (ps:=P244) (rs:=R244) (specs:=[(155,s128)]) (dyns:=[]) (codes:=[]) rfl hm hT ⟨k128,trivial⟩ trivial (by kernel_rfl) Tryz.func242 (by kernel_rfl)
theorem k224:FnOk Tryz.prog 204 s224:=fn_okS (C:=c224) (hs:=h224) (ps:=P224) (rs:=R224) (specs:=[(156,s129),(242,s244)]) (dyns:=[]) (codes:=[]) rfl hm hT ⟨k129,k244,trivial⟩ trivial (by kernel_rfl) Tryz.func204 (by kernel_rfl)
theorem k203:FnOk Tryz.prog 152 s203:=fn_okS (C:=c203) (hs:=h203) (ps:=P203) (rs:=R203) (specs:=[(204,s224)]) (dyns:=[]) (codes:=[]) rfl hm hT ⟨k224,trivial⟩ trivial (by kernel_rfl) Tryz.func152 (by kernel_rfl)
theorem k184:FnOk Tryz.prog 80 s184:=fn_okS (C:=c184) (hs:=h184) (ps:=P184) (rs:=R184) (specs:=[(152,s203)]) (dyns:=[]) (codes:=[]) rfl hm hT ⟨k203,trivial⟩ trivial (by kernel_rfl) Tryz.func80 (by kernel_rfl)
theorem k146:FnOk Tryz.prog 23 s146:=fn_okS (C:=c146) (hs:=h146) (ps:=P146) (rs:=R146) (specs:=[(26,s20),(28,s49),(24,s85),(78,s182),(79,s183),(80,s184)]) (dyns:=[]) (codes:=[]) rfl hm hT ⟨k20,k49,k85,k182,k183,k184,trivial⟩ trivial (by kernel_rfl) Tryz.func23 (by kernel_rfl)
theorem k136:FnOk Tryz.prog 66 s136:=fn_okS (C:=c136) (hs:=h136) (ps:=P136) (rs:=R136) (specs:=[]) (dyns:=[]) (codes:=[]) rfl hm hT trivial trivial (by kernel_rfl) Tryz.func66 (by kernel_rfl)
theorem k471:FnOk Tryz.prog 58 s471:=fn_okS (C:=c471) (hs:=h471) (ps:=P471) (rs:=R471) (specs:=[(66,s136)]) (dyns:=[]) (codes:=[]) rfl hm hT ⟨k136,trivial⟩ trivial (by kernel_rfl) Tryz.func58 (by kernel_rfl)
theorem k477:FnOk Tryz.prog 179 s477:=fn_okS (C:=c477) (hs:=h477) (ps:=P477) (rs:=R477) (specs:=[]) (dyns:=[]) (codes:=[]) rfl hm hT trivial trivial (by kernel_rfl) Tryz.func179 (by kernel_rfl)
theorem k476:FnOk Tryz.prog 119 s476:=fn_okS (C:=c476) (hs:=h476) (ps:=P476) (rs:=R476) (specs:=[(139,s155),(141,s157),(179,s477)]) (dyns:=[]) (codes:=[]) rfl hm hT ⟨k155,k157,k477,trivial⟩ trivial (by kernel_rfl) Tryz.func119 (by kernel_rfl)
theorem k167:FnOk Tryz.prog 180 s167:=fn_okS (C:=c167) (hs:=h167) (ps:=P167) (rs:=R167) (specs:=[]) (dyns:=[]) (codes:=[]) rfl hm hT trivial trivial (by kernel_rfl) Tryz.func180 (by kernel_rfl)
theorem k124:FnOk Tryz.prog 120 s124:=fn_okS (C:=c124) (hs:=h124) (ps:=P124) (rs:=R124) (specs:=[(137,s153),(148,s164),(180,s167)]) (dyns:=[38]) (codes:=[]) rfl hm hT ⟨k153,k164,k167,trivial⟩ trivial (by kernel_rfl) Tryz.func120 (by kernel_rfl)
theorem k410:FnOk Tryz.prog 59 s410:=fn_okS (C:=c410) (hs:=h410) (ps:=P410) (rs:=R410) (specs:=[(76,s121),(120,s124),(119,s476)]) (dyns:=[]) (codes:=[]) rfl hm hT ⟨k121,k124,k476,trivial⟩ trivial (by kernel_rfl) Tryz.func59 (by kernel_rfl)
theorem k55:FnOk Tryz.prog 99 s55:=fn_okS (C:=c55) (hs:=h55) (ps:=P55) (rs:=R55) (specs:=[]) (dyns:=[]) (codes:=[]) rfl hm hT trivial trivial (by kernel_rfl) Tryz.func99 (by kernel_rfl)
theorem k48:FnOk Tryz.prog 60 s48:=fn_okS (C:=c48) (hs:=h48) (ps:=P48) (rs:=R48) (specs:=[(99,s55),(81,s56),(27,s87)]) (dyns:=[]) (codes:=[]) rfl hm hT ⟨k55,k56,k87,trivial⟩ trivial (by kernel_rfl) Tryz.func60 (by kernel_rfl)
theorem k467:FnOk Tryz.prog 14 s467:=fn_okS (C:=c467) (hs:=h467) (ps:=P467) (rs:=R467) (specs:=[(60,s48),(22,s83),(23,s146),(59,s410),(58,s471)]) (dyns:=[]) (codes:=[]) rfl hm hT ⟨k48,k83,k146,k410,k471,trivial⟩ trivial (by kernel_rfl) Tryz.func14 (by kernel_rfl)
theorem k453:FnOk Tryz.prog 61 s453:=fn_okS (C:=c453) (hs:=h453) (ps:=P453) (rs:=R453) (specs:=[(54,s458),(116,s460)]) (dyns:=[]) (codes:=[]) rfl hm hT ⟨k458,k460,trivial⟩ trivial (by kernel_rfl) Tryz.func61 (by kernel_rfl)
theorem k62:FnOk Tryz.prog 176 s62:=fn_okS (C:=c62) (hs:=h62) (ps:=P62) (rs:=R62) (specs:=[]) (dyns:=[]) (codes:=[]) rfl hm hT trivial trivial (by kernel_rfl) Tryz.func176 (by kernel_rfl)
theorem k24:FnOk Tryz.prog 107 s24:=fn_okS (C:=c24) (hs:=h24) (ps:=P24) (rs:=R24) (specs:=[(176,s62)]) (dyns:=[]) (codes:=[]) rfl hm hT ⟨k62,trivial⟩ trivial (by kernel_rfl) Tryz.func107 (by kernel_rfl)
theorem k25:FnOk Tryz.prog 108 s25:=fn_okS (C:=c25) (hs:=h25) (ps:=P25) (rs:=R25) (specs:=[]) (dyns:=[]) (codes:=[]) rfl hm hT trivial trivial (by kernel_rfl) Tryz.func108 (by kernel_rfl)
theorem k26:FnOk Tryz.prog 109 s26:=fn_okS (C:=c26) (hs:=h26) (ps:=P26) (rs:=R26) (specs:=[]) (dyns:=[]) (codes:=[]) rfl hm hT trivial trivial (by kernel_rfl) Tryz.func109 (by kernel_rfl)
theorem k10:FnOk Tryz.prog 45 s10:=fn_okS (C:=c10) (hs:=h10) (ps:=P10) (rs:=R10) (specs:=[(107,s24),(108,s25),(109,s26)]) (dyns:=[]) (codes:=[]) rfl hm hT ⟨k24,k25,k26,trivial⟩ trivial (by kernel_rfl) Tryz.func45 (by kernel_rfl)
theorem k457:FnOk Tryz.prog 63 s457:=fn_okS (C:=c457) (hs:=h457) (ps:=P457) (rs:=R457) (specs:=[]) (dyns:=[]) (codes:=[]) rfl hm hT trivial trivial (by kernel_rfl) Tryz.func63 (by kernel_rfl)
theorem k456:FnOk Tryz.prog 65 s456:=fn_okS (C:=c456) (hs:=h456) (ps:=P456) (rs:=R456) (specs:=[]) (dyns:=[]) (codes:=[]) rfl hm hT trivial trivial (by kernel_rfl) Tryz.func65 (by kernel_rfl)
theorem k448:FnOk Tryz.prog 121 s448:=fn_okS (C:=c448) (hs:=h448) (ps:=P448) (rs:=R448) (specs:=[]) (dyns:=[]) (codes:=[]) rfl hm hT trivial trivial (by kernel_rfl) Tryz.func121 (by kernel_rfl)
theorem k450:FnOk Tryz.prog 181 s450:=fn_okS (C:=c450) (hs:=h450) (ps:=P450) (rs:=R450) (specs:=[(213,s103),(214,s104)]) (dyns:=[]) (codes:=[]) rfl hm hT ⟨k103,k104,trivial⟩ trivial (by kernel_rfl) Tryz.func181 (by kernel_rfl)
theorem k449:FnOk Tryz.prog 122 s449:=fn_okS (C:=c449) (hs:=h449) (ps:=P449) (rs:=R449) (specs:=[(181,s450)]) (dyns:=[]) (codes:=[]) rfl hm hT ⟨k450,trivial⟩ trivial (by kernel_rfl) Tryz.func122 (by kernel_rfl)
theorem k455:FnOk Tryz.prog 62 s455:=fn_okS (C:=c455) (hs:=h455) (ps:=P455) (rs:=R455) (specs:=[(45,s10),(38,s18),(111,s37),(121,s448),(122,s449),(61,s453),(65,s456),(63,s457)]) (dyns:=[]) (codes:=[]) rfl hm hT ⟨k10,k18,k37,k448,k449,k453,k456,k457,trivial⟩ trivial (by kernel_rfl) Tryz.func62 (by kernel_rfl)
theorem k447:FnOk Tryz.prog 64 s447:=fn_okS (C:=c447) (hs:=h447) (ps:=P447) (rs:=R447) (specs:=[(123,s79),(125,s80),(124,s116)]) (dyns:=[]) (codes:=[]) rfl hm hT ⟨k79,k80,k116,trivial⟩ trivial (by kernel_rfl) Tryz.func64 (by kernel_rfl)
theorem k463:FnOk Tryz.prog 15 s463:=fn_okS (C:=c463) (hs:=h463) (ps:=P463) (rs:=R463) (specs:=[(37,s28),(64,s447),(61,s453),(62,s455),(65,s456),(63,s457)]) (dyns:=[]) (codes:=[]) rfl hm hT ⟨k28,k447,k453,k455,k456,k457,trivial⟩ trivial (by kernel_rfl) Tryz.func15 (by kernel_rfl)
theorem k13:FnOk Tryz.prog 16 s13:=fn_okS (C:=c13) (hs:=h13) (ps:=P13) (rs:=R13) (specs:=[]) (dyns:=[]) (codes:=[]) rfl hm hT trivial trivial (by kernel_rfl) Tryz.func16 (by kernel_rfl)
theorem k98:FnOk Tryz.prog 186 s98:=fn_okS (C:=c98) (hs:=h98) (ps:=P98) (rs:=R98) (specs:=[]) (dyns:=[]) (codes:=[]) rfl hm hT trivial trivial (by kernel_rfl) Tryz.func186 (by kernel_rfl)
theorem k99:FnOk Tryz.prog 187 s99:=fn_okS (C:=c99) (hs:=h99) (ps:=P99) (rs:=R99) (specs:=[]) (dyns:=[]) (codes:=[]) rfl hm hT trivial trivial (by kernel_rfl) Tryz.func187 (by kernel_rfl)
theorem k59:FnOk Tryz.prog 126 s59:=fn_okS (C:=c59) (hs:=h59) (ps:=P59) (rs:=R59) (specs:=[(186,s98),(187,s99)]) (dyns:=[]) (codes:=[]) rfl hm hT ⟨k98,k99,trivial⟩ trivial (by kernel_rfl) Tryz.func126 (by kernel_rfl)
theorem k60:FnOk Tryz.prog 127 s60:=fn_okS (C:=c60) (hs:=h60) (ps:=P60) (rs:=R60) (specs:=[(186,s98)]) (dyns:=[]) (codes:=[]) rfl hm hT ⟨k98,trivial⟩ trivial (by kernel_rfl) Tryz.func127 (by kernel_rfl)
theorem k100:FnOk Tryz.prog 188 s100:=fn_okS (C:=c100) (hs:=h100) (ps:=P100) (rs:=R100) (specs:=[]) (dyns:=[]) (codes:=[]) rfl hm hT trivial trivial (by kernel_rfl) Tryz.func188 (by kernel_rfl)
theorem k101:FnOk Tryz.prog 189 s101:=fn_okS (C:=c101) (hs:=h101) (ps:=P101) (rs:=R101) (specs:=[(186,s98)]) (dyns:=[]) (codes:=[]) rfl hm hT ⟨k98,trivial⟩ trivial (by kernel_rfl) Tryz.func189 (by kernel_rfl)
theorem k61:FnOk Tryz.prog 128 s61:=fn_okS (C:=c61) (hs:=h61) (ps:=P61) (rs:=R61) (specs:=[(188,s100),(189,s101)]) (dyns:=[]) (codes:=[]) rfl hm hT ⟨k100,k101,trivial⟩ trivial (by kernel_rfl) Tryz.func128 (by kernel_rfl)
theorem k23:FnOk Tryz.prog 67 s23:=fn_okS (C:=c23) (hs:=h23) (ps:=P23) (rs:=R23) (specs:=[(126,s59),(127,s60),(128,s61)]) (dyns:=[]) (codes:=[]) rfl hm hT ⟨k59,k60,k61,trivial⟩ trivial (by kernel_rfl) Tryz.func67 (by kernel_rfl)
theorem k470:FnOk Tryz.prog 17 s470:=fn_okS (C:=c470) (hs:=h470) (ps:=P470) (rs:=R470) (specs:=[(67,s23),(66,s136)]) (dyns:=[]) (codes:=[]) rfl hm hT ⟨k23,k136,trivial⟩ trivial (by kernel_rfl) Tryz.func17 (by kernel_rfl)
theorem k464:FnOk Tryz.prog 18 s464:=fn_okS (C:=c464) (hs:=h464) (ps:=P464) (rs:=R464) (specs:=[(51,s17),(61,s453)]) (dyns:=[]) (codes:=[]) rfl hm hT ⟨k17,k453,trivial⟩ trivial (by kernel_rfl) Tryz.func18 (by kernel_rfl)
theorem k105:FnOk Tryz.prog 190 s105:=fn_okS (C:=c105) (hs:=h105) (ps:=P105) (rs:=R105) (specs:=[]) (dyns:=[]) (codes:=[]) rfl hm hT trivial trivial (by kernel_rfl) Tryz.func190 (by kernel_rfl)
theorem k71:FnOk Tryz.prog 129 s71:=fn_okS (C:=c71) (hs:=h71) (ps:=P71) (rs:=R71) (specs:=[(190,s105)]) (dyns:=[]) (codes:=[]) rfl hm hT ⟨k105,trivial⟩ trivial (by kernel_rfl) Tryz.func129 (by kernel_rfl)
theorem k106:FnOk Tryz.prog 191 s106:=fn_okS (C:=c106) (hs:=h106) (ps:=P106) (rs:=R106) (specs:=[]) (dyns:=[]) (codes:=[]) rfl hm hT trivial trivial (by kernel_rfl) Tryz.func191 (by kernel_rfl)
theorem k131:FnOk Tryz.prog 223 s131:=fn_okS (C:=c131) (hs:=h131) (ps:=P131) (rs:=R131) (specs:=[]) (dyns:=[]) (codes:=[]) rfl hm hT trivial trivial (by kernel_rfl) Tryz.func223 (by kernel_rfl)
theorem k132:FnOk Tryz.prog 224 s132:=fn_okS (C:=c132) (hs:=h132) (ps:=P132) (rs:=R132) (specs:=[]) (dyns:=[]) (codes:=[]) rfl hm hT trivial trivial (by kernel_rfl) Tryz.func224 (by kernel_rfl)
theorem k193:FnOk Tryz.prog 279 s193:=fn_okS (C:=c193) (hs:=h193) (ps:=P193) (rs:=R193) (specs:=[]) (dyns:=[]) (codes:=[]) rfl hm hT trivial trivial (by kernel_rfl) Tryz.func279 (by kernel_rfl)
theorem k135:FnOk Tryz.prog 227 s135:=⟨(fnB_ok Tryz.func227 (by kernel_rfl)).1,fun _ _ _ _ _ _ _ _ _ _ h=>none_some h⟩
theorem k172:FnOk Tryz.prog 253 s172:=fn_okS (C:=c172) (hs:=h172) (ps:=P172) (rs:=R172) (specs:=[(279,s193)]) (dyns:=[]) (codes:=[]) rfl hm hT ⟨k193,trivial⟩ trivial (by kernel_rfl) Tryz.func253 (by kernel_rfl)
theorem k173:FnOk Tryz.prog 254 s173:=fn_okS (C:=c173) (hs:=h173) (ps:=P173) (rs:=R173) (specs:=[(153,s92),(154,s93)]) (dyns:=[]) (codes:=[]) rfl hm hT ⟨k92,k93,trivial⟩ trivial (by kernel_rfl) Tryz.func254 (by kernel_rfl)
theorem k133:FnOk Tryz.prog 225 s133:=⟨(fnB_ok Tryz.func225 (by kernel_rfl)).1,fun _ _ _ _ _ _ _ _ _ _ h=>none_some h⟩
theorem k134:FnOk Tryz.prog 226 s134:=fn_okS (C:=c134) (hs:=h134) (ps:=P134) (rs:=R134) (specs:=[]) (dyns:=[]) (codes:=[]) rfl hm hT trivial trivial (by kernel_rfl) Tryz.func226 (by kernel_rfl)
theorem k107:FnOk Tryz.prog 192 s107:=fn_okS (C:=c107) (hs:=h107) (ps:=P107) (rs:=R107) (specs:=[(223,s131),(224,s132),(225,s133),(226,s134),(227,s135),(253,s172),(254,s173)]) (dyns:=[263]) (codes:=[(225,Tryz.f225)]) rfl hm hT ⟨k131,k132,k133,k134,k135,k172,k173,trivial⟩ ⟨Tryz.func225,trivial⟩ (by kernel_rfl) Tryz.func192 (by kernel_rfl)
theorem k108:FnOk Tryz.prog 193 s108:=fn_okS (C:=c108) (hs:=h108) (ps:=P108) (rs:=R108) (specs:=[]) (dyns:=[]) (codes:=[]) rfl hm hT trivial trivial (by kernel_rfl) Tryz.func193 (by kernel_rfl)
theorem k72:FnOk Tryz.prog 130 s72:=fn_okS (C:=c72) (hs:=h72) (ps:=P72) (rs:=R72) (specs:=[(191,s106),(192,s107),(193,s108)]) (dyns:=[]) (codes:=[]) rfl hm hT ⟨k106,k107,k108,trivial⟩ trivial (by kernel_rfl) Tryz.func130 (by kernel_rfl)
theorem k34:FnOk Tryz.prog 68 s34:=fn_okS (C:=c34) (hs:=h34) (ps:=P34) (rs:=R34) (specs:=[(129,s71),(130,s72)]) (dyns:=[154]) (codes:=[]) rfl hm hT ⟨k71,k72,trivial⟩ trivial (by kernel_rfl) Tryz.func68 (by kernel_rfl)
theorem k468:FnOk Tryz.prog 132 s468:=⟨(fnB_ok Tryz.func132 (by kernel_rfl)).1,fun _ _ _ _ _ _ _ _ _ _ h=>none_some h⟩
theorem k469:FnOk Tryz.prog 69 s469:=fn_okS (C:=c469) (hs:=h469) (ps:=P469) (rs:=R469) (specs:=[(131,s91),(66,s136),(14,s467),(132,s468),(17,s470)]) (dyns:=[]) (codes:=[]) rfl hm hT ⟨k91,k136,k467,k468,k470,trivial⟩ trivial (by kernel_rfl) Tryz.func69 (by kernel_rfl)
theorem k420:FnOk Tryz.prog 70 s420:=fn_okS (C:=c420) (hs:=h420) (ps:=P420) (rs:=R420) (specs:=[]) (dyns:=[]) (codes:=[]) rfl hm hT trivial trivial (by kernel_rfl) Tryz.func70 (by kernel_rfl)
theorem k445:FnOk Tryz.prog 19 s445:=fn_okS (C:=c445) (hs:=h445) (ps:=P445) (rs:=R445) (specs:=[(68,s34),(70,s420),(69,s469)]) (dyns:=[]) (codes:=[]) rfl hm hT ⟨k34,k420,k469,trivial⟩ trivial (by kernel_rfl) Tryz.func19 (by kernel_rfl)
theorem k442:FnOk Tryz.prog 3 s442:=fn_okS (C:=c442) (hs:=h442) (ps:=P442) (rs:=R442) (specs:=[(11,s4),(10,s7),(16,s13),(9,s443),(12,s444),(19,s445),(13,s459),(15,s463),(18,s464),(14,s467),(17,s470)]) (dyns:=[]) (codes:=[]) rfl hm hT ⟨k4,k7,k13,k443,k444,k445,k459,k463,k464,k467,k470,trivial⟩ trivial (by kernel_rfl) Tryz.func3 (by kernel_rfl)
end Sx
end
