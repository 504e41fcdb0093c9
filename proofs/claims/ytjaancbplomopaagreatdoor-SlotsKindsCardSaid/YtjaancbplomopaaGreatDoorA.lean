/- What an evaluator of the program's code is, and the first laws by which what it computes is what the code does. No conditions. -/
import Derived.Orders
import Derived.Laws.Sem
import Derived.Laws.World
import Derived.Laws.Cells
import Derived.Laws.Append
import Derived.Lib.LaidTab
import Derived.Lib.ItoaNum
import Derived.Laws.StructEq
set_option linter.unusedVariables false
set_option linter.unusedSimpArgs false
set_option linter.unusedSectionVars false
set_option maxRecDepth 100000
section
noncomputable section
namespace Ev
open Go
inductive Ty where
 |i64|u8|u32|u64|bool|str|unit
 |sl (e:Ty)|pair (a b:Ty)|arr (n:Nat) (e:Ty)|op (e:Ty)
 deriving DecidableEq, Inhabited
@[reducible] def Val:Ty->Type
 | .i64=>Int| .u8=>UInt8| .u32=>UInt32| .u64=>UInt64| .bool=>Bool| .str=>List UInt8| .unit=>Unit
 | .sl e=>List (Val e)| .pair a b=>Val a×Val b| .arr n e=>Vector (Val e) n| .op e=>Option (Val e)
def Ty.zero:(t:Ty)->Val t
 | .i64=>(0:Int)| .u8=>(0:UInt8)| .u32=>(0:UInt32)| .u64=>(0:UInt64)| .bool=>false| .str=>([]:List UInt8)| .unit=>()
 | .sl e=>([]:List (Val e))| .pair a b=>(a.zero,b.zero)| .arr n e=>Vector.replicate n e.zero| .op e=>(none:Option (Val e))
@[reducible] def decV:(t:Ty)->DecidableEq (Val t)
 | .i64=>inferInstanceAs (DecidableEq Int)| .u8=>inferInstanceAs (DecidableEq UInt8)| .u32=>inferInstanceAs (DecidableEq UInt32)| .u64=>inferInstanceAs (DecidableEq UInt64)
 | .bool=>inferInstanceAs (DecidableEq Bool)| .str=>inferInstanceAs (DecidableEq (List UInt8))| .unit=>inferInstanceAs (DecidableEq Unit)
 | .sl e=> @instDecidableEqList (Val e) (decV e)| .pair a b=> @instDecidableEqProd (Val a) (Val b) (decV a) (decV b)| .arr n e=> @instDecidableEqVector (Val e) n (decV e)| .op e=> @Option.instDecidableEq (Val e) (decV e)
def Ty.size:Ty->Nat
 | .unit=>0| .pair a b=>a.size+b.size| .arr n e=>n*e.size|_=>1
def Ty.agg:Ty->Bool
 | .unit| .pair _ _| .arr _ _=>true
 |_=>false
def Ty.st:Ty->Bool
 | .unit| .pair _ _=>true
 |_=>false
def Ty.eqOk:Ty->Bool
 | .sl _| .op _=>false
 | .pair a b=>a.eqOk&&b.eqOk
 | .arr _ e=>e.eqOk
 |_=>true
def Ty.flat:Ty->Bool
 | .sl _| .op _=>false
 | .pair a b=>a.flat&&b.flat
 | .arr _ e=>e.flat
 |_=>true
theorem none_some{α:Type}{P:Prop}{r:α}(h:none=some r):P:=by cases h
def iterN{σ ω:Type}(step:σ->Option (σ ⊕ ω)):Nat->σ->Option ω
 |0=>fun _=>none
 |n+1=>fun s=>(step s).bind fun x=>match x with
  | .inl s'=>iterN step n s'
  | .inr o=>some o
def iter{σ ω:Type}(step:σ->Option (σ ⊕ ω))(s:σ):Option ω:=iterN step 4611686018427387904 s
theorem iterN_pc{σ ω:Type}(step:σ->Option (σ ⊕ ω))(motive:σ->ω->Prop)
 (h: ∀it:σ->Option ω,(∀s r,it s=some r->motive s r)-> ∀s r,((step s).bind fun x=>match x with| .inl s'=>it s'| .inr o=>some o)=some r->motive s r):
 ∀n s r,iterN step n s=some r->motive s r
 |0,_,_,e=>none_some e
 |n+1,s,r,e=>h (iterN step n) (fun s r=>iterN_pc step motive h n s r) s r e
theorem iter_pc{σ ω:Type}(step:σ->Option (σ ⊕ ω))(motive:σ->ω->Prop)
 (h: ∀it:σ->Option ω,(∀s r,it s=some r->motive s r)-> ∀s r,((step s).bind fun x=>match x with| .inl s'=>it s'| .inr o=>some o)=some r->motive s r) (s:σ) (r:ω) (e:iter step s=some r):motive s r:=
 iterN_pc step motive h _ s r e
inductive Stp|fld (i:Nat)|idx (i:Nat)
@[reducible] def Vals:List Ty->Type
 |[]=>Unit
 |[t]=>Val t
 |t::ts=>Val t×Vals ts
inductive DV where
 |v (t:Ty) (x:Val t)
 |own (b:Nat)
 |nils
 |ptr (b:Nat) (p:List Stp)
 |win (b:Nat) (p:List Stp) (off len:Nat)
 |winx (b n:Nat)
 |fp (t:Ty) (x:Val t)
 |fn (f:FuncId) (fs cs:List DV)
 |fnv (ins outs:List Ty) (g:Vals ins->Option (Vals outs))
 |fpf (x:DV)
 |tup (l:List DV)
 |agg (l:List DV)
 |mp (l:List (Int×FuncId))
 |nilp|nilf|skp|undef
 |ifc (T:TypeId) (x:DV)
inductive Stat|rw|ro|frz|dead
inductive Ent where
 |mem (s:Stat) (row:Bool) (t:Ty) (x:Val t)
 |cell (s:Stat) (x:DV)
 |cells (s:Stat) (sz:Nat) (l:List DV)
 |gone
abbrev Heap:=List Ent
def happ(k l:Heap):Heap:=List.rec (motive:=fun _=>Heap) k (fun _ _ _=>List.rec (motive:=fun _=>Heap) l (fun x _ ih=>x::ih) k) l
theorem happ_nil{l:Heap}:happ [] l=l:=by cases l<;>rfl
theorem happ_cons{x:Ent}{k l:Heap}:happ (x::k) l=x::happ k l:=by
 cases l with
 |nil=>rfl
 |cons y l=>rfl
def forceH{R:Type}(H:Heap):(Heap->Option R)->Option R:=List.rec (motive:=fun _=>(Heap->Option R)->Option R) (fun k=>k []) (fun x _ ih k=>ih fun l=>k (x::l)) H
abbrev Env:=Nat->DV
def hget(H:Heap)(n:Nat):Ent:=List.rec (motive:=fun _=>Nat->Ent) (fun _=> .gone) (fun x _ ih n=>Nat.rec (motive:=fun _=>Ent) x (fun m _=>ih m) n) H n
theorem hget_nil{n:Nat}:hget [] n= .gone:=rfl
theorem hget_zero{x:Ent}{l:Heap}:hget (x::l) 0=x:=rfl
theorem hget_succ{x:Ent}{l:Heap}{n:Nat}:hget (x::l) (n+1)=hget l n:=rfl
def hset(H:Heap):Nat->Ent->Heap:=List.rec (motive:=fun _=>Nat->Ent->Heap) (fun _ _=>[]) (fun x l ih n y=>Nat.rec (motive:=fun _=>Heap) (y::l) (fun m _=>x::ih m y) n) H
theorem hset_nil{n:Nat}{y:Ent}:hset [] n y=[]:=rfl
theorem hset_zero{x y:Ent}{l:Heap}:hset (x::l) 0 y=y::l:=rfl
theorem hset_succ{x y:Ent}{l:Heap}{n:Nat}:hset (x::l) (n+1) y=x::hset l n y:=rfl
def Ent.kill:Ent->Ent
 | .mem _ row t x=> .mem .dead row t x
 | .cell _ x=> .cell .dead x
 | .cells _ sz l=> .cells .dead sz l
 | .gone=> .gone
def hkill(H:Heap)(b:Nat):Heap:=hset H b (hget H b).kill
def put(ρ:Env)(d:Option Tmp)(x:DV):Env:=fun k=>Option.rec (motive:=fun _=>DV) (ρ k) (fun d=>Bool.rec (motive:=fun _=>DV) (ρ k) x (Nat.beq k d)) d
inductive PK|v (t:Ty)|inp (t:Ty)|io (t:Ty)|fn (ins outs:List Ty)|fnp (ins outs:List Ty)
inductive RK|v (t:Ty)|own (t:Ty)|new (t:Ty)|mp (l:List (Int×FuncId))
@[reducible] def PK.T:PK->Type
 | .v t| .inp t| .io t=>Val t
 | .fn ins outs| .fnp ins outs=>Vals ins->Option (Vals outs)
@[reducible] def RK.T:RK->Type
 | .v t| .new t=>Val t
 | .own t=>List (Val t)
 | .mp _=>Unit
def RK.flat:RK->Bool
 | .v t| .new t| .own t=>t.flat
 | .mp _=>false
@[reducible] def InT:List PK->Type
 |[]=>Unit
 |p::ps=>p.T×InT ps
def ioTy:List PK->List Ty
 |[]=>[]
 | .io t::ps=>t::ioTy ps
 |_::ps=>ioTy ps
@[reducible] def OutT:List RK->List Ty->Type
 |[],ts=>Vals ts
 |[r],[]=>r.T
 |r::rs,ts=>r.T×OutT rs ts
structure Spec where
 params:List PK
 results:List RK
 run:InT params->Option (OutT results (ioTy params))
structure Ctx where
 ty:TypeId->Option Ty
 spec:FuncId->Option Spec
 cell:TypeId->Bool
 dyn:TypeId->Bool
 mapT:TypeId->Bool
 code:FuncId->Option Func
 ptrT:TypeId->Bool
 con:TypeId->Bool
 meth:TypeId->String->Option (FuncId×Option TypeId)
 tiny:FuncId->TypeId->Bool
def constV:Value->DV
 | .int .i64 n=> .v .i64 n
 | .int .u8 n=>cond (decide (0<=n∧n<256)) (.v .u8 (UInt8.ofNat n.toNat)) .undef
 | .int .u32 n=>cond (decide (0<=n∧n<4294967296)) (.v .u32 (UInt32.ofNat n.toNat)) .undef
 | .int .u64 n=>cond (decide (0<=n∧n<18446744073709551616)) (.v .u64 (UInt64.ofNat n.toNat)) .undef
 | .bool b=> .v .bool b
 | .string s=> .v .str s.data.toList
 | .slice none 0 0=> .nils
 | .pointer none=> .nilp
 | .nilFunc=> .nilf
 |_=> .undef
def ev(ρ:Env):Operand->DV
 | .tmp t=>ρ t
 | .const v=>constV v
 | .global _=> .undef
 | .func f=> .fn f [] []
def w64(n:Int):Int:=IntKind.i64.wrap n
def addI(a b:Int):Int:=w64 (a+b)
def subI(a b:Int):Int:=w64 (a-b)
def mulI(a b:Int):Int:=w64 (a*b)
def andI(a b:Int):Int:=w64 (BitVec.ofInt 64 a&&&BitVec.ofInt 64 b).toNat
def orI(a b:Int):Int:=w64 (BitVec.ofInt 64 a|||BitVec.ofInt 64 b).toNat
def xorI(a b:Int):Int:=w64 (BitVec.ofInt 64 a^^^BitVec.ofInt 64 b).toNat
def shlI(a:Int)(n:Nat):Int:=w64 (a*2^(min n 64))
def shrI(a:Int)(n:Nat):Int:=a.fdiv (2^(min n 64))
def quoI(a b:Int):Option Int:=if b=0 then none else some (w64 (a.tdiv b))
def remI(a b:Int):Option Int:=if b=0 then none else some (a.tmod b)
def shl8(a:UInt8)(n:Nat):UInt8:=UInt8.ofNat (a.toNat*2^(min n 8))
def shr8(a:UInt8)(n:Nat):UInt8:=UInt8.ofNat (a.toNat/2^(min n 8))
def shl32(a:UInt32)(n:Nat):UInt32:=UInt32.ofNat (a.toNat*2^(min n 32))
def shr32(a:UInt32)(n:Nat):UInt32:=UInt32.ofNat (a.toNat/2^(min n 32))
def shl64(a:UInt64)(n:Nat):UInt64:=UInt64.ofNat (a.toNat*2^(min n 64))
def shr64(a:UInt64)(n:Nat):UInt64:=UInt64.ofNat (a.toNat/2^(min n 64))
def minI(a b:Int):Int:=if b<a then b else a
def maxI(a b:Int):Int:=if b>a then b else a
def at?{α:Type}(l:List α)(i:Int):Option α:=if 0<=i then l[i.toNat]? else none
def lput{α:Type}(l:List α)(off:Nat)(ys:List α):List α:=l.take off++ys++l.drop (off+ys.length)
def vput{α:Type}{n:Nat}(v:Vector α n)(off:Nat)(ys:List α):Vector α n:=if h:(lput v.toList off ys).length=n then⟨(lput v.toList off ys).toArray,by simpa using h⟩else v
def toArr{α:Type}(n:Nat)(l:List α):Option (Vector α n):=if h:(l.take n).length=n then some ⟨(l.take n).toArray,by simpa using h⟩else none
def takeW{α:Type}(l:List α)(n:Nat):List α:=Bool.rec (motive:=fun _=>List α) (l.take n) l (Nat.beq l.length n)
theorem takeW_eq{α:Type}(l:List α)(n:Nat):takeW l n=l.take n:=by
 unfold takeW
 cases h:Nat.beq l.length n with
 |false=>rfl
 |true=>rw[←Nat.eq_of_beq_eq_true h,List.take_length]
def cut?{α:Type}(l:List α)(lo hi:Int):Option (List α):=if 0<=lo∧lo<=hi∧hi<=l.length then some (takeW (l.drop lo.toNat) (hi.toNat-lo.toNat))else none
def app?{α:Type}(xs ys:List α):Option (List α):=if xs.length+ys.length<=4294967296 then some (xs++ys)else none
def fits?{α:Type}(xs:List α):Option (List α):=if xs.length<=4294967296 then some xs else none
def zeros?{α:Type}(n:Int)(x:α):Option (List α):=if 0<=n∧n<=4294967296 then some (List.replicate n.toNat x)else none
def vecOf{α:Type}(n:Nat)(l:List α)(d:α):Vector α n:=if h:l.length=n then⟨l.toArray,by simpa using h⟩else Vector.replicate n d
section
variable {R : Type}
def cnt(x:DV)(k:Nat->Option R):Option R:=match x with
 | .v .u64 n=>k n.toNat
 | .v .i64 n=>if n<0 then none else k n.toNat
 | .v .u8 n=>k n.toNat
 | .v .u32 n=>k n.toNat
 |_=>none
def binI(op:BinOp)(a b:Int)(k:DV->Option R):Option R:=match op with
 | .add=>k (.v .i64 (addI a b))| .sub=>k (.v .i64 (subI a b))| .mul=>k (.v .i64 (mulI a b))
 | .quo=>(quoI a b).bind fun c=>k (.v .i64 c)| .rem=>(remI a b).bind fun c=>k (.v .i64 c)
 | .and=>k (.v .i64 (andI a b))| .or=>k (.v .i64 (orI a b))| .xor=>k (.v .i64 (xorI a b))
 | .eql=>k (.v .bool (decide (a=b)))| .neq=>k (.v .bool (decide (a≠b)))
 | .lss=>k (.v .bool (decide (a<b)))| .leq=>k (.v .bool (decide (a<=b)))| .gtr=>k (.v .bool (decide (b<a)))| .geq=>k (.v .bool (decide (b<=a)))
 |_=>none
def bin8(op:BinOp)(a b:UInt8)(k:DV->Option R):Option R:=match op with
 | .add=>k (.v .u8 (a+b))| .sub=>k (.v .u8 (a-b))| .mul=>k (.v .u8 (a*b))
 | .and=>k (.v .u8 (a&&&b))| .or=>k (.v .u8 (a|||b))| .xor=>k (.v .u8 (a^^^b))
 | .eql=>k (.v .bool (decide (a=b)))| .neq=>k (.v .bool (decide (a≠b)))
 | .lss=>k (.v .bool (decide (a<b)))| .leq=>k (.v .bool (decide (a<=b)))| .gtr=>k (.v .bool (decide (b<a)))| .geq=>k (.v .bool (decide (b<=a)))
 |_=>none
def bin32(op:BinOp)(a b:UInt32)(k:DV->Option R):Option R:=match op with
 | .add=>k (.v .u32 (a+b))| .sub=>k (.v .u32 (a-b))| .mul=>k (.v .u32 (a*b))
 | .and=>k (.v .u32 (a&&&b))| .or=>k (.v .u32 (a|||b))| .xor=>k (.v .u32 (a^^^b))
 | .eql=>k (.v .bool (decide (a=b)))| .neq=>k (.v .bool (decide (a≠b)))
 | .lss=>k (.v .bool (decide (a<b)))| .leq=>k (.v .bool (decide (a<=b)))| .gtr=>k (.v .bool (decide (b<a)))| .geq=>k (.v .bool (decide (b<=a)))
 |_=>none
def bin64(op:BinOp)(a b:UInt64)(k:DV->Option R):Option R:=match op with
 | .add=>k (.v .u64 (a+b))| .sub=>k (.v .u64 (a-b))| .mul=>k (.v .u64 (a*b))
 | .and=>k (.v .u64 (a&&&b))| .or=>k (.v .u64 (a|||b))| .xor=>k (.v .u64 (a^^^b))
 | .eql=>k (.v .bool (decide (a=b)))| .neq=>k (.v .bool (decide (a≠b)))
 | .lss=>k (.v .bool (decide (a<b)))| .leq=>k (.v .bool (decide (a<=b)))| .gtr=>k (.v .bool (decide (b<a)))| .geq=>k (.v .bool (decide (b<=a)))
 |_=>none
def shift(op:BinOp)(x:DV)(n:Nat)(k:DV->Option R):Option R:=match op,x with
 | .shl, .v .i64 a=>k (.v .i64 (shlI a n))| .shr, .v .i64 a=>k (.v .i64 (shrI a n))
 | .shl, .v .u8 a=>k (.v .u8 (shl8 a n))| .shr, .v .u8 a=>k (.v .u8 (shr8 a n))
 | .shl, .v .u32 a=>k (.v .u32 (shl32 a n))| .shr, .v .u32 a=>k (.v .u32 (shr32 a n))
 | .shl, .v .u64 a=>k (.v .u64 (shl64 a n))| .shr, .v .u64 a=>k (.v .u64 (shr64 a n))
 |_,_=>none
def isShift:BinOp->Bool
 | .shl| .shr=>true
 |_=>false
def castV{t t':Ty}(h:t=t')(x:Val t):Val t':=h▸x
def asV(t:Ty)(x:DV)(k:Val t->Option R):Option R:=match x with
 | .v t' y=>if h:t'=t then k (castV h y)else none
 | .nils=>match t with
  | .sl _=>k []
  |_=>none
 | .nilp=>match t with
  | .op _=>k none
  |_=>none
 | .fp e y=>match t with
  | .op t'=>if h:e=t' then k (some (castV h y))else none
  |_=>none
 |_=>none
def binA(ty:Option Ty)(op:BinOp)(x y:DV)(k:DV->Option R):Option R:=
 cond (isShift op) (cnt y fun n=>shift op x n k)<|
 match x,y with
 | .v .i64 a, .v .i64 b=>binI op a b k
 | .v .u8 a, .v .u8 b=>bin8 op a b k
 | .v .u32 a, .v .u32 b=>bin32 op a b k
 | .v .u64 a, .v .u64 b=>bin64 op a b k
 | .v .str a, .v .str b=>match op with
  | .add=>(app? (a:List UInt8) b).bind fun c=>k (.v .str c)
  | .eql=>k (.v .bool (decide ((a:List UInt8)=b)))
  | .neq=>k (.v .bool (decide ((a:List UInt8)≠b)))
  |_=>none
 | .v (.op e) a, .nilp=>cond (decide (ty=some (.op e))) (match op with
  | .eql=>k (.v .bool ((a:Option (Val e)).isNone))
  | .neq=>k (.v .bool ((a:Option (Val e)).isSome))
  |_=>none) none
 | .v t a,y=>cond (t.eqOk&&decide (ty=some t)) (asV t y fun b=>match op with
  | .eql=>k (.v .bool (@decide (a=b) (decV t a b)))
  | .neq=>k (.v .bool !(@decide (a=b) (decV t a b)))
  |_=>none) none
 | .nils, .nils=>match ty with
  |some (.sl _)=>match op with
   | .eql=>k (.v .bool true)
   | .neq=>k (.v .bool false)
   |_=>none
  |_=>none
 |_,_=>none
def unA(op:UnOp)(x:DV)(k:DV->Option R):Option R:=match op,x with
 | .neg, .v .i64 a=>k (.v .i64 (w64 (0-a)))
 | .not, .v .bool b=>k (.v .bool !b)
 | .xor, .v .u32 a=>k (.v .u32 (~~~ a))
 | .xor, .v .u8 a=>k (.v .u8 (~~~ a))
 |_,_=>none
def getV:(t:Ty)->Val t->List Stp->((t':Ty)->Val t'->Option R)->Option R
 |t,x,[],k=>k t x
 | .pair a _,x, .fld 0::p,k=>getV a x.1 p k
 | .pair _ b,x, .fld (i+1)::p,k=>getV b x.2 (.fld i::p) k
 | .arr _ e,x, .idx i::p,k=>getV e (x[i]?.getD e.zero) p k
 |_,_,_,_=>none
def setV:(t:Ty)->Val t->List Stp->(t':Ty)->Val t'->(Val t->Option R)->Option R
 |t,_,[],t',y,k=>if h:t'=t then k (castV h y)else none
 | .pair a _,x, .fld 0::p,t',y,k=>setV a x.1 p t' y fun z=>k (z,x.2)
 | .pair _ b,x, .fld (i+1)::p,t',y,k=>setV b x.2 (.fld i::p) t' y fun z=>k (x.1,z)
 | .arr _ e,x, .idx i::p,t',y,k=>setV e (x[i]?.getD e.zero) p t' y fun z=>k (x.setIfInBounds i z)
 |_,_,_,_,_,_=>none
def getM(row:Bool)(t:Ty)(x:Val t)(p:List Stp)(k:(t':Ty)->Val t'->Option R):Option R:=match row with
 |false=>getV t x p k
 |true=>match t,p with
  | .sl e, .idx i::p=>getV e ((x:List (Val e)).getD i e.zero) p k
  |_,_=>none
def setM(row:Bool)(t:Ty)(x:Val t)(p:List Stp)(t':Ty)(y:Val t')(k:Val t->Option R):Option R:=match row with
 |false=>setV t x p t' y k
 |true=>match t,p with
  | .sl e, .idx i::p=>setV e ((x:List (Val e)).getD i e.zero) p t' y fun z=>k ((x:List (Val e)).set i z)
  |_,_=>none
def tyAt:Ty->List Stp->Option Ty
 |t,[]=>some t
 | .pair a _, .fld 0::p=>tyAt a p
 | .pair _ b, .fld (i+1)::p=>tyAt b (.fld i::p)
 | .arr _ e, .idx _::p=>tyAt e p
 |_,_=>none
def tyM(row:Bool)(t:Ty)(p:List Stp):Option Ty:=match row with
 |false=>tyAt t p
 |true=>match t,p with
  | .sl e, .idx _::p=>tyAt e p
  |_,_=>none
def Stat.live:Stat->Bool
 | .dead=>false
 |_=>true
def getH(H:Heap)(b:Nat)(p:List Stp)(k:DV->Option R):Option R:=match hget H b with
 | .mem s row t x=>cond s.live (getM row t x p fun t' y=>k (.v t' y)) none
 | .cell s x=>match p with
  |[]=>cond s.live (k x) none
  |_=>none
 | .cells _ _ _=>none
 | .gone=>none
def tyH(H:Heap)(b:Nat)(p:List Stp):Option Ty:=match hget H b with
 | .mem _ row t _=>tyM row t p
 |_=>none
def isFrz(H:Heap)(b:Nat):Bool:=match hget H b with
 | .mem .frz _ _ _=>true
 | .cell .frz _=>true
 | .cells .frz _ _=>true
 |_=>false
def winOf(H:Heap)(b:Nat)(p:List Stp)(off len:Nat)(e:Ty)(k:List (Val e)->Option R):Option R:=match hget H b with
 | .mem s true (.sl e') l=>match p with
  |[]=>cond s.live (if h:e'=e then k ((((h▸l:List (Val e))).drop off).take len)else none) none
  |p=>cond s.live (getM true (.sl e') l p fun t' y=>match t',y with
   | .arr n e2,y=>if h:e2=e then k (((h▸y:Vector (Val e) n).toList.drop off).take len)else none
   |_,_=>none) none
 | .mem s false t x=>cond s.live (getV t x p fun t' y=>match t',y with
  | .arr n e',y=>if h:e'=e then k (((h▸y:Vector (Val e) n).toList.drop off).take len)else none
  |_,_=>none) none
 |_=>none
def rowOf(H:Heap)(b:Nat)(e:Ty)(k:List (Val e)->Option R):Option R:=match hget H b with
 | .mem s true (.sl e') l=>cond s.live (if h:e'=e then k (h▸l:List (Val e))else none) none
 |_=>none
def lendB(H:Heap)(bor:Bool)(b:Nat)(k:Heap->Option R):Option R:=cond bor (k H) (match hget H b with
 | .mem .frz _ _ _=>k H
 | .mem .rw row t x=>k (hset H b (.mem .frz row t x))
 | .cell .frz _=>k H
 | .cell .rw x=>k (hset H b (.cell .frz x))
 | .cells .frz _ _=>k H
 | .cells .rw sz l=>k (hset H b (.cells .frz sz l))
 |_=>none)
def asV0(H:Heap)(bor:Bool)(t:Ty)(x:DV)(k:Val t->Heap->Option R):Option R:=match x with
 | .own b=>match t with
  | .sl e=>lendB H bor b fun H'=>rowOf H b e fun y=>k y H'
  |_=>none
 | .win b p off len=>match t with
  | .sl e=>lendB H bor b fun H'=>winOf H b p off len e fun y=>k y H'
  |_=>none
 | .ptr b p=>match t with
  | .op e=>lendB H bor b fun H'=>getH H b p fun y=>asV e y fun z=>k (some z) H'
  |_=>none
 |x=>asV t x fun y=>k y H
def cellsV:(t:Ty)->Val t->List DV
 | .unit,_=>[]
 | .pair a b,x=>cellsV a x.1++cellsV b x.2
 | .arr n e,x=>(x:Vector (Val e) n).toList.flatMap fun y=>cellsV e y
 |t,x=>[.v t x]
def zeroC:Ty->List DV
 | .unit=>[]
 | .pair a b=>zeroC a++zeroC b
 | .arr n e=>(List.replicate n (zeroC e)).flatten
 | .sl _=>[.nils]
 |t=>[.v t t.zero]
def ofN{α:Type}(f: {R:Type}->Heap->List DV->(α->List DV->Heap->Option R)->Option R):Nat-> {R:Type}->Heap->List DV->(List α->List DV->Heap->Option R)->Option R
 |0,_,H,l,k=>k [] l H
 |n+1,_,H,l,k=>f H l fun x l H=>ofN f n H l fun xs l H=>k (x::xs) l H
def ofC(leaf: {R:Type}->Heap->(t:Ty)->DV->(Val t->Heap->Option R)->Option R):(t:Ty)-> {R:Type}->Heap->List DV->(Val t->List DV->Heap->Option R)->Option R
 | .unit,_,H,l,k=>k () l H
 | .pair a b,_,H,l,k=>ofC leaf a H l fun x l H=>ofC leaf b H l fun y l H=>k (x,y) l H
 | .arr n e,_,H,l,k=>ofN (fun H l k=>ofC leaf e H l k) n H l fun xs l H=>k (vecOf n xs e.zero) l H
 | .i64,_,H,x::l,k=>leaf H .i64 x fun y H=>k y l H
 | .u8,_,H,x::l,k=>leaf H .u8 x fun y H=>k y l H
 | .u32,_,H,x::l,k=>leaf H .u32 x fun y H=>k y l H
 | .u64,_,H,x::l,k=>leaf H .u64 x fun y H=>k y l H
 | .bool,_,H,x::l,k=>leaf H .bool x fun y H=>k y l H
 | .str,_,H,x::l,k=>leaf H .str x fun y H=>k y l H
 | .sl e,_,H,x::l,k=>leaf H (.sl e) x fun y H=>k y l H
 | .op e,_,H,x::l,k=>leaf H (.op e) x fun y H=>k y l H
 |_,_,_,[],_=>none
def asVD:Nat-> {R:Type}->Heap->Bool->(t:Ty)->DV->(Val t->Heap->Option R)->Option R
 |0,_,H,bor,t,x,k=>asV0 H bor t x k
 |n+1,_,H,bor,t,x,k=>match x with
  | .agg l=>cond (t.agg&&Nat.beq l.length t.size) (ofC (fun H t x k=>asVD n H bor t x k) t H l fun y _ H=>k y H) none
  | .own b=>match hget H b with
   | .cells s sz l=>match t with
    | .sl e=>cond (s.live&&Nat.beq sz e.size&&Nat.ble 1 sz&&Nat.beq (l.length/sz*sz) l.length) (lendB H bor b fun H=>ofN (fun H l k=>ofC (fun H t x k=>asVD n H bor t x k) e H l k) (l.length/sz) H l fun y _ H=>k y H) none
    |_=>none
   |_=>asV0 H bor t x k
  | .ptr b p=>match hget H b with
   | .cells s _ l=>match t,p with
    | .op e,[.idx o]=>cond (s.live&&Nat.ble (o+e.size) l.length) (lendB H bor b fun H=>ofC (fun H t x k=>asVD n H bor t x k) e H ((l.drop o).take e.size) fun y _ H=>k (some y) H) none
    |_,_=>none
   |_=>asV0 H bor t x k
  |x=>asV0 H bor t x k
def unx(x:DV):DV:=match x with
 | .winx b n=> .win b [] 0 n
 |x=>x
def asVH(H:Heap)(bor:Bool)(t:Ty)(x:DV)(k:Val t->Heap->Option R):Option R:=asVD 8 H bor t (unx x) k
def elemsOf(H:Heap)(x:DV)(e:Ty)(k:List (Val e)->Option R):Option R:=match x with
 | .own b=>rowOf H b e k
 | .win b p off len=>winOf H b p off len e k
 | .v .str s=>if h:Ty.u8=e then k (castV (congrArg Ty.sl h) (s:Val (.sl .u8)))else none
 |x=>asV (.sl e) x k
def load(H:Heap)(a:DV)(k:DV->Option R):Option R:=match a with
 | .ptr b p=>getH H b p k
 | .fp t x=>k (.v t x)
 | .fpf x=>k x
 |_=>none
def cellD:DV->Bool
 | .v t _=>match t with
  | .unit| .pair _ _| .arr _ _=>false
  |_=>true
 | .tup _| .agg _| .undef| .skp| .ifc _ _=>false
 |_=>true
def store(H:Heap)(a y:DV)(k:Heap->Option R):Option R:=match a with
 | .ptr b p=>match hget H b with
  | .mem .rw row t x=>match tyM row t p with
   |some t'=>asVH (hkill H b) false t' y fun z H'=>setM row t x p t' z fun z=>k (hset H' b (.mem .rw row t z))
   |none=>none
  | .cell .rw _=>match p with
   |[]=>cond (cellD y) (k (hset H b (.cell .rw y))) none
   |_=>none
  |_=>none
 |_=>none
def buildS(H:Heap):(t:Ty)->Val t->List (Nat×DV)->(Val t->Heap->Option R)->Option R
 |_,x,[],k=>k x H
 |t,x,(i,y)::ps,k=>match tyAt t [.fld i]with
  |some t'=>asVH H false t' y fun z H'=>setV t x [.fld i] t' z fun u=>buildS H' t u ps k
  |none=>none
def inOrder:Nat->List (Nat×DV)->Bool
 |_,[]=>true
 |n,(i,_)::l=>cond (Nat.beq i n) (inOrder (n+1) l) false
def buildL(H:Heap)(e:Ty):List (Nat×DV)->(List (Val e)->Heap->Option R)->Option R
 |[],k=>k [] H
 |(_,y)::ps,k=>asVH H false e y fun z H'=>buildL H' e ps fun l H'=>k (z::l) H'
def buildR(H:Heap)(n:Nat)(e:Ty):Vector (Val e) n->List (Nat×DV)->(Vector (Val e) n->Heap->Option R)->Option R
 |x,[],k=>k x H
 |x,(i,y)::ps,k=>if h:i<n then asVH H false e y fun z H'=>buildR H' n e (x.set i z h) ps k else none
def intD(x:DV)(k:Int->Option R):Option R:=match x with
 | .v .i64 n=>k n
 | .v .u8 n=>k n.toNat
 | .v .u32 n=>k n.toNat
 | .v .u64 n=>k n.toNat
 |_=>none
def indexAddr(H:Heap)(x:DV)(i:Int)(k:DV->Option R):Option R:=match x with
 | .v (.sl e) l=>(at? l i).bind fun y=>k (.fp e y)
 | .own b=>match hget H b with
  | .mem _ true (.sl e) l=>if 0<=i∧i<(l:List (Val e)).length then k (.ptr b [.idx i.toNat])else none
  |_=>none
 | .win b p off len=>if 0<=i∧i<len then k (.ptr b (p++[.idx (off+i.toNat)]))else none
 | .ptr b p=>match tyH H b p with
  |some (.arr n _)=>if 0<=i∧i<n then k (.ptr b (p++[.idx i.toNat]))else none
  |_=>none
 | .fp (.arr _ e) x=>(at? x.toList i).bind fun y=>k (.fp e y)
 |_=>none
def fieldAddr(H:Heap)(x:DV)(f:Nat)(k:DV->Option R):Option R:=match x with
 | .ptr b p=>match tyH H b (p++[.fld f])with
  |some _=>k (.ptr b (p++[.fld f]))
  |none=>none
 | .fp t x=>getV t x [.fld f] fun t' y=>k (.fp t' y)
 |_=>none
def optI(x:Option DV)(d:Int)(k:Int->Option R):Option R:=match x with
 |none=>k d
 |some y=>intD y k
def lenD(H:Heap)(x:DV)(k:Nat->Option R):Option R:=match x with
 | .v .str s=>k (s:List UInt8).length
 | .v (.sl e) l=>k (l:List (Val e)).length
 | .nils=>k 0
 | .own b=>match hget H b with
  | .mem _ true (.sl e) l=>k (l:List (Val e)).length
  |_=>none
 | .win _ _ _ n=>k n
 | .winx _ n=>k n
 |_=>none
def capD(H:Heap)(x:DV)(k:Nat->Option R):Option R:=match x with
 | .winx b _=>match hget H b with
  | .mem _ true (.sl e) l=>k (l:List (Val e)).length
  |_=>none
 |_=>none
def sliceOp(H:Heap)(x:DV)(lo hi:Option DV)(k:DV->Option R):Option R:=match x with
 | .v .str s=>optI lo 0 fun l=>optI hi (s:List UInt8).length fun h=>(cut? (s:List UInt8) l h).bind fun r=>k (.v .str r)
 | .v (.sl e) s=>optI lo 0 fun l=>optI hi (s:List (Val e)).length fun h=>(cut? (s:List (Val e)) l h).bind fun r=>k (.v (.sl e) r)
 | .nils=>optI lo 0 fun l=>optI hi 0 fun h=>if l=0∧h=0 then k .nils else none
 | .own b=>match hget H b with
  | .mem s true (.sl e) r=>optI lo 0 fun l=>optI hi (r:List (Val e)).length fun h=>match s with
   | .frz=>(cut? (r:List (Val e)) l h).bind fun r=>k (.v (.sl e) r)
   |_=>if 0<=l∧l<=h∧h<=(r:List (Val e)).length then k (.win b [] l.toNat (h.toNat-l.toNat))else none
  |_=>none
 | .win b p off len=>optI lo 0 fun l=>optI hi len fun h=>if 0<=l∧l<=h∧h<=len then k (.win b p (off+l.toNat) (h.toNat-l.toNat))else none
 | .winx b n=>match hget H b with
  | .mem _ true (.sl e) r=>optI lo 0 fun l=>optI hi n fun h=>if 0<=l∧l<=h∧h<=(r:List (Val e)).length then k (.win b [] l.toNat (h.toNat-l.toNat))else none
  |_=>none
 | .ptr b p=>match tyH H b p with
  |some (.arr n e)=>optI lo 0 fun l=>optI hi n fun h=>cond (isFrz H b)
   (getH H b p fun y=>asV (.arr n e) y fun a=>(cut? (a:Vector (Val e) n).toList l h).bind fun r=>k (.v (.sl e) r))
   (match hget H b with
    | .mem _ _ _ _=>if 0<=l∧l<=h∧h<=n then k (.win b p l.toNat (h.toNat-l.toNat))else none
    |_=>none)
  |_=>none
 | .fp (.arr n e) a=>optI lo 0 fun l=>optI hi n fun h=>(cut? (a:Vector (Val e) n).toList l h).bind fun r=>k (.v (.sl e) r)
 |_=>none
def slice3(C:Ctx)(T:TypeId)(x:DV)(lo hi:Option DV)(m:DV)(k:DV->Option R):Option R:=match x with
 | .nils=>match C.ty T with
  |some (.sl _)=>optI lo 0 fun a=>optI hi 1 fun b=>intD m fun c=>if a=0∧b=0∧c=0 then k .nils else none
  |_=>none
 |_=>none
def roomy(nm:Nat)(H:Heap)(e:Ty)(d:Bool)(l c:DV)(k:DV->Heap->Option R):Option R:=
 cond d none (asV .i64 l fun n=>asV .i64 c fun m=>if 0<=n∧n<=m∧1<=m then(zeros? m e.zero).bind fun r=>k (.winx nm n.toNat) (hset H nm (.mem .rw true (.sl e) r))else none)
def addRow(nm:Nat)(H:Heap)(e:Ty)(l:List (Val e))(k:DV->Heap->Option R):Option R:=k (.own nm) (hset H nm (.mem .rw true (.sl e) l))
def appendOp(nm:Nat)(H:Heap)(x y:DV)(e:Ty)(k:DV->Heap->Option R):Option R:=
 elemsOf H y e fun ys=>match x with
 | .nils=>(fits? ys).bind fun ys=>addRow nm H e ys k
 | .own b=>match hget H b with
  | .mem .rw true (.sl e') xs=>if h:e'=e then(app? (h▸xs:List (Val e)) ys).bind fun zs=>addRow nm (hkill H b) e zs k else none
  |_=>none
 |_=>none
def convert(C:Ctx)(nm:Nat)(H:Heap)(s d:TypeId)(x:DV)(k:DV->Heap->Option R):Option R:=match C.ty d with
 |some .i64=>intD x fun n=>k (.v .i64 (w64 n)) H
 |some .u8=>intD x fun n=>k (.v .u8 (UInt8.ofInt n)) H
 |some .u32=>intD x fun n=>k (.v .u32 (UInt32.ofInt n)) H
 |some .u64=>intD x fun n=>k (.v .u64 (UInt64.ofInt n)) H
 |some .str=>match C.ty s with
  |some .str=>asV .str x fun y=>k (.v .str y) H
  |some (.sl .u8)=>elemsOf H x .u8 fun l=>k (.v .str l) H
  |_=>none
 |some (.sl .u8)=>match C.ty s,x with
  |some .str, .v .str l=>(fits? (l:List UInt8)).bind fun l=>addRow nm H .u8 l k
  |some (.sl .u8), .own b=>cond (Nat.beq s d) (match hget H b with
   | .mem .rw true (.sl .u8) l=>cond (List.isEmpty (l:List UInt8)) none (k (.v (.sl .u8) l) (hset H b (.mem .frz true (.sl .u8) l)))
   |_=>none) none
  |_,_=>none
 |_=>none
def pickOp(c a b:DV)(k:DV->Option R):Option R:=match c with
 | .v .bool t=>match a,b with
  | .v ta x, .skp=>cond t (k (.v ta x)) none
  | .skp, .v tb y=>cond t none (k (.v tb y))
  | .v ta x,b=>asV ta b fun y=>k (.v ta (cond t x y))
  |_,_=>none
 |_=>none
def splice(H:Heap)(b:Nat)(p:List Stp)(off:Nat)(e:Ty)(ys:List (Val e))(k:Heap->Option R):Option R:=match hget H b with
 | .mem .rw true (.sl e') l=>match p with
  |[]=>if h:e=e' then k (hset H b (.mem .rw true (.sl e') (lput (l:List (Val e')) off (h▸ys))))else none
  |_=>none
 | .mem .rw false t x=>getV t x p fun t2 z=>match t2,z with
  | .arr n e2,z=>if h:e=e2 then setV t x p (.arr n e2) (vput (z:Vector (Val e2) n) off (h▸ys)) fun z=>k (hset H b (.mem .rw false t z))else none
  |_,_=>none
 |_=>none
def copyOp(H:Heap)(d x:DV)(e:Ty)(k:DV->Heap->Option R):Option R:=match d with
 | .win b p off len=>elemsOf H x e fun ys=>splice H b p off e (ys.take len) fun H'=>k (.v .i64 (min ys.length len:Nat)) H'
 | .own b=>rowOf H b e fun l=>elemsOf H x e fun ys=>splice H b [] 0 e (ys.take l.length) fun H'=>k (.v .i64 (min ys.length l.length:Nat)) H'
 |_=>none
def dvs:(ts:List Ty)->Vals ts->List DV
 |[],_=>[]
 |[t],x=>[.v t x]
 |t::u::ts,x=> .v t x.1::dvs (u::ts) x.2
def asVals(bor:Bool):(ts:List Ty)->List DV->Heap->(Vals ts->Heap->Option R)->Option R
 |[],[],H,k=>k () H
 |[t],[x],H,k=>asVH H bor t x k
 |t::u::ts,x::xs,H,k=>asVH H bor t x fun y H=>asVals bor (u::ts) xs H fun z H=>k (y,z) H
 |_,_,_,_=>none
def atC(H:Heap)(a:DV)(yes:Nat->Nat->Stat->Nat->List DV->Option R)(no:Option R):Option R:=match a with
 | .ptr b p=>match hget H b with
  | .cells s sz l=>match p with
   |[.idx o]=>cond s.live (yes b o s sz l) none
   |_=>none
  |_=>no
 |_=>no
def asInp(H:Heap)(t:Ty)(x:DV)(k:Val t->Option R):Option R:=match x with
 | .ptr b p=>getH H b p fun y=>asV t y k
 | .fp t' y=>asV t (.v t' y) k
 | .v (.op e) o=>Option.bind o fun y=>asV t (.v e y) k
 |_=>none
def asInpH(H:Heap)(bor:Bool)(t:Ty)(x:DV)(k:Val t->Heap->Option R):Option R:=atC H x
 (fun _ o _ _ l=>cond (Nat.ble (o+t.size) l.length) (ofC (fun H t x k=>asVD 8 H bor t x k) t H ((l.drop o).take t.size) fun y _ H=>k y H) none)
 (asInp H t x fun y=>k y H)
def asIo(H:Heap)(t:Ty)(x:DV)(k:Val t->Option R):Option R:=match x with
 | .ptr b p=>match p with
  |[]=>match hget H b with
   | .mem .rw false t' z=>asV t (.v t' z) k
   |_=>none
  |_=>none
 |_=>none
def asVals0:(ts:List Ty)->List DV->(Vals ts->Option R)->Option R
 |[],[],k=>k ()
 |[t],[x],k=>asV t x k
 |t::u::ts,x::xs,k=>asV t x fun y=>asVals0 (u::ts) xs fun z=>k (y,z)
 |_,_,_=>none
def toOuts:(outs:List Ty)->DV->(Vals outs->Option R)->Option R
 |[t],x,k=>asV t x k
 |ts, .tup l,k=>asVals0 ts l k
 |_,_,_=>none
def castF{a b c d:List Ty}(h:a=b)(h':c=d)(g:Vals a->Option (Vals c)):Vals b->Option (Vals d):=h▸h'▸g
def allFlatT:List Ty->Bool
 |[]=>true
 |t::ts=>t.flat&&allFlatT ts
def seeS(bor:Bool):Stat->Stat
 | .frz=> .frz
 | .dead=> .dead
 |_=>cond bor .ro .dead
def see(bor:Bool):Heap->Heap
 |[]=>[]
 | .mem s row t x::H=> .mem (seeS bor s) row t x::see bor H
 | .cell s x::H=> .cell (seeS bor s) x::see bor H
 | .cells s sz l::H=> .cells (seeS bor s) sz l::see bor H
 | .gone::H=> .gone::see bor H
def asFn(call: {R:Type}->FuncId->List DV->(DV->Option R)->Option R)(ins outs:List Ty)(x:DV)(k:(Vals ins->Option (Vals outs))->Option R):Option R:=match x with
 | .fn g fs cs=>k fun y=>call g (fs++dvs ins y++cs) fun r=>toOuts outs r some
 | .fnv ins' outs' g=>if h:ins'=ins∧outs'=outs then k (castF h.1 h.2 g)else none
 |_=>none
def asPK(call: {R:Type}->FuncId->List DV->(DV->Option R)->Option R)(H:Heap)(bor:Bool)(x:DV):(p:PK)->(p.T->Heap->Option R)->Option R
 | .v t,k=>asVH H bor t x k
 | .inp t,k=>asInpH H bor t x k
 | .io t,k=>asIo H t x fun y=>k y H
 | .fn ins outs,k=>asFn call ins outs x fun y=>k y H
 | .fnp ins outs,k=>match x with
  | .fpf y=>asFn call ins outs y fun y=>k y H
  | .ptr b []=>match hget H b with
   | .cell .frz y=>asFn call ins outs y fun y=>k y H
   | .cell s y=>cond (bor&&s.live) (asFn call ins outs y fun y=>k y H) none
   |_=>none
  |_=>none
def gather(call: {R:Type}->Heap->FuncId->List DV->(DV->Option R)->Option R)(bor:Bool):(ps:List PK)->List DV->Heap->(InT ps->Heap->Option R)->Option R
 |[],[],H,k=>k () H
 |p::ps,x::xs,H,k=>asPK (call H) H bor x p fun y H=>gather call bor ps xs H fun z H=>k (y,z) H
 |_,_,_,_=>none
def ioPtrs:List PK->List DV->List DV
 | .io _::ps,x::xs=>x::ioPtrs ps xs
 |_::ps,_::xs=>ioPtrs ps xs
 |_,_=>[]
def storeIo:(ts:List Ty)->Vals ts->List DV->Heap->(Heap->Option R)->Option R
 |[],_,_,H,k=>k H
 |[t],x,p::_,H,k=>store H p (.v t x) k
 |t::u::ts,x,p::ps,H,k=>store H p (.v t x.1) fun H=>storeIo (u::ts) x.2 ps H k
 |_,_,_,_,_=>none
def RK.allocs:RK->Bool
 | .v _| .mp _=>false
 |_=>true
def oneAlloc:List RK->Bool
 |[]=>true
 |r::rs=>cond r.allocs (!rs.any RK.allocs) (oneAlloc rs)
def give(nm:Nat)(r:RK)(x:r.T)(H:Heap):DV×Heap:=match r,x with
 | .v t,x=>(.v t x,H)
 | .own t,x=>(.own nm,hset H nm (.mem .rw true (.sl t) x))
 | .new t,x=>(.ptr nm [],hset H nm (.mem .rw false t x))
 | .mp l,_=>(.mp l,H)
def deliver(nm:Nat):(rs:List RK)->(ts:List Ty)->OutT rs ts->List DV->Heap->(List DV->Heap->Option R)->Option R
 |[],ts,x,ps,H,k=>storeIo ts x ps H fun H=>k [] H
 |[r],[],x,_,H,k=>let g:=give nm r x H;k [g.1] g.2
 |[r],t::ts,x,ps,H,k=>let g:=give nm r x.1 H;storeIo (t::ts) x.2 ps g.2 fun H=>k [g.1] H
 |r::q::rs,ts,x,ps,H,k=>let g:=give nm r x.1 H;deliver nm (q::rs) ts x.2 ps g.2 fun l H=>k (g.1::l) H
def objs:List PK->List DV->List (Bool×Nat)
 | .io _::ps, .ptr b _::xs=>(true,b)::objs ps xs
 | .inp _::ps, .ptr b _::xs=>(false,b)::objs ps xs
 |_::ps,_::xs=>objs ps xs
 |_,_=>[]
def meets(r:Bool)(b:Nat):List (Bool×Nat)->Bool
 |[]=>false
 |(q,c)::l=>(Nat.beq b c&&(r||q))||meets r b l
def alone:List (Bool×Nat)->Bool
 |[]=>true
 |(r,b)::l=> !meets r b l&&alone l
def noIo:List PK->Bool
 |[]=>true
 | .io _::_=>false
 |_::l=>noIo l
def oneOr:List DV->DV
 |[x]=>x
 |l=> .tup l
end
def allFlat:List RK->Bool
 |[]=>true
 |r::rs=>r.flat&&allFlat rs
def callS(C:Ctx):Nat-> {R:Type}->Nat->FuncId->List DV->Heap->(DV->Heap->Option R)->Option R
 |0,_,_,_,_,_,_=>none
 |n+1,_,nm,g,args,H,k=>match C.spec g with
  |some s=>cond (oneAlloc s.results&&alone (objs s.params args)) (gather (fun H g' args' k'=>callS C n 0 g' args' (see (allFlat s.results&&noIo s.params) H) fun r _=>k' r) (allFlat s.results&&noIo s.params) s.params args H fun x H=>(s.run x).bind fun r=>deliver nm s.results (ioTy s.params) r (ioPtrs s.params args) H fun l H'=>k (oneOr l) H') none
  |none=>none
def lendL:List DV->Heap->Heap
 |[],H=>H
 | .ptr b _::l,H| .own b::l,H| .win b _ _ _::l,H| .winx b _::l,H=>lendL l (match hget H b with
  | .mem .rw row t x=>hset H b (.mem .frz row t x)
  | .cell .rw x=>hset H b (.cell .frz x)
  |_=>H)
 |_::l,H=>lendL l H
section
variable {R : Type}
def tyIs(C:Ctx)(T:TypeId)(t:Ty):Bool:=decide (C.ty T=some t)
def tyD(C:Ctx)(T:TypeId):DV->Bool
 | .v t _=>tyIs C T t
 |_=>C.cell T
def elemH(H:Heap)(b:Nat)(p:List Stp):Option Ty:=match hget H b with
 | .mem _ true (.sl e) _=>match p with
  |[]=>some e
  |p=>match tyM true (.sl e) p with
   |some (.arr _ e)=>some e
   |_=>none
 | .mem _ false t _=>match tyAt t p with
  |some (.arr _ e)=>some e
  |_=>none
 |_=>none
def tyP(C:Ctx)(H:Heap)(T:TypeId):DV->Bool
 | .ptr b p=>match hget H b with
  | .mem _ row t _=>match tyM row t p with
   |some t'=>tyIs C T t'
   |none=>false
  | .cell _ _=>C.cell T
  | .cells _ _ _=>false
  | .gone=>false
 | .fp t _=>tyIs C T t
 | .fpf _=>C.cell T
 |_=>false
def tySl(C:Ctx)(H:Heap)(T:TypeId):DV->Bool
 | .v t _=>tyIs C T t
 | .nils=>match C.ty T with
  |some (.sl _)=>true
  |_=>false
 | .own b=>match elemH H b []with
  |some e=>tyIs C T (.sl e)
  |none=>false
 | .win b p _ _=>match elemH H b p with
  |some e=>tyIs C T (.sl e)
  |none=>false
 | .winx b _=>match elemH H b []with
  |some e=>tyIs C T (.sl e)
  |none=>false
 | .ptr b p=>tyP C H T (.ptr b p)
 | .fp t x=>tyP C H T (.fp t x)
 |_=>false
def fldOff:Ty->Nat->Option Nat
 | .pair _ _,0=>some 0
 | .pair a b,n+1=>match fldOff b n with
  |some d=>some (a.size+d)
  |none=>none
 |_,_=>none
def asC(t:Ty)(x:DV)(k:List DV->Option R):Option R:=match x with
 | .v t' y=>if t'=t then k (cellsV t' y)else none
 | .agg l=>cond (t.agg&&Nat.beq l.length t.size) (k l) none
 |x=>cond (!t.agg&&cellD x) (k [x]) none
def getC(t:Ty)(l:List DV)(k:DV->Option R):Option R:=cond t.agg (k (.agg (l.take t.size))) (match l with
 |x::_=>k x
 |[]=>none)
def loadC(C:Ctx)(T:TypeId)(l:List DV)(o:Nat)(k:DV->Option R):Option R:=match C.ty T with
 |some t=>cond (Nat.ble (o+t.size) l.length) (getC t (l.drop o) k) none
 |none=>cond (C.cell T) (match l.drop o with
  |x::_=>k x
  |[]=>none) none
def storeC(C:Ctx)(T:TypeId)(H:Heap)(b o:Nat)(s:Stat)(sz:Nat)(l:List DV)(y:DV)(k:Heap->Option R):Option R:=match s with
 | .rw=>match C.ty T with
  |some t=>asC t y fun ys=>cond (Nat.ble (o+t.size) l.length) (k (hset H b (.cells .rw sz (lput l o ys)))) none
  |none=>cond (C.cell T&&cellD y&&Nat.ble (o+1) l.length) (k (hset H b (.cells .rw sz (lput l o [y])))) none
 |_=>none
def fieldAddrC(C:Ctx)(T:TypeId)(b o:Nat)(l:List DV)(f:Nat)(k:DV->Option R):Option R:=match C.ty T with
 |some t=>match fldOff t f with
  |some d=>cond (Nat.ble (o+d) l.length) (k (.ptr b [.idx (o+d)])) none
  |none=>none
 |none=>none
def rowC(H:Heap)(x:DV)(yes:Nat->Stat->Nat->List DV->Option R)(no:Option R):Option R:=match x with
 | .own b=>match hget H b with
  | .cells s sz l=>cond s.live (yes b s sz l) none
  |_=>no
 |_=>no
def idxs:Nat->Nat->Int->(Nat->Option R)->Option R
 |0,_,_,_=>none
 |n+1,j,i,k=>if i=(j:Int)then k j else idxs n (j+1) i k
def indexC(C:Ctx)(T:TypeId)(b sz:Nat)(l:List DV)(i:Int)(k:DV->Option R):Option R:=match C.ty T with
 |some (.sl e)=>cond (Nat.beq sz e.size&&Nat.ble 1 sz) (idxs (l.length/sz) 0 i fun j=>k (.ptr b [.idx (j*sz)])) none
 |_=>none
def indexArrC(C:Ctx)(T:TypeId)(b o:Nat)(l:List DV)(i:Int)(k:DV->Option R):Option R:=match C.ty T with
 |some (.arr n e)=>cond (Nat.ble (o+n*e.size) l.length) (if 0<=i∧i<n then k (.ptr b [.idx (o+i.toNat*e.size)])else none) none
 |_=>none
def sizeC(C:Ctx)(T:TypeId)(sz:Nat)(k:Option R):Option R:=match C.ty T with
 |some (.sl e)=>cond (Nat.beq sz e.size&&Nat.ble 1 sz) k none
 |_=>none
def buildC(e:Ty):List (Nat×DV)->(List DV->Option R)->Option R
 |[],k=>k []
 |(_,y)::ps,k=>asC e y fun us=>buildC e ps fun l=>k (us++l)
def layC(t:Ty):List DV->List (Nat×DV)->(List DV->Option R)->Option R
 |l,[],k=>k l
 |l,(i,y)::ps,k=>match tyAt t [.fld i],fldOff t i with
  |some t',some d=>asC t' y fun us=>layC t (lput l d us) ps k
  |_,_=>none
def valL(b:Bool)(e:Ty)(y:DV)(yes:List DV->Option R)(no:Option R):Option R:=match y with
 | .v (.sl e') l=>cond (b&&decide (e'=e)) (yes ((l:List (Val e')).flatMap fun y=>cellsV e' y)) no
 |_=>no
def appendC(nm sz:Nat)(H:Heap)(x:DV)(ys:List DV)(k:DV->Heap->Option R):Option R:=match x with
 | .nils=>cond (Nat.beq (ys.length/sz*sz) ys.length&&Nat.ble ys.length 4294967296&&Nat.ble 1 ys.length) (k (.own nm) (hset H nm (.cells .rw sz ys))) none
 | .own b=>match hget H b with
  | .cells .rw sz' xs=>cond (Nat.beq sz' sz&&Nat.beq (xs.length/sz*sz) xs.length&&Nat.beq (ys.length/sz*sz) ys.length&&Nat.ble (xs.length+ys.length) 4294967296) (k (.own nm) (hset (hkill H b) nm (.cells .rw sz (xs++ys)))) none
  |_=>none
 |_=>none
def fieldC(C:Ctx)(T:TypeId)(l:List DV)(f:Nat)(k:DV->Option R):Option R:=match C.ty T with
 |some t=>match tyAt t [.fld f],fldOff t f with
  |some t',some d=>cond (Nat.beq l.length t.size) (getC t' (l.drop d) k) none
  |_,_=>none
 |none=>none
def lookD:List (Int×FuncId)->Int->Option DV
 |[],_=>none
 |(a,f)::l,n=>if n=a then some (.tup [.fn f [] [], .v .bool true])else lookD l n
def sameOpd:Operand->Operand->Bool
 | .tmp a, .tmp b=>Nat.beq a b
 | .const (.int .i64 a), .const (.int .i64 b)=>decide (a=b)
 |_,_=>false
def methC(C:Ctx)(H:Heap)(x:DV)(name:String)(k:FuncId->DV->Option R):Option R:=match x with
 | .ifc T y=>match C.meth T name with
  |some (f,none)=>k f y
  |some (f,some e)=>atC H y (fun _ o _ _ l=>loadC C e l o fun z=>k f z) (load H y fun z=>cond (tyD C e z) (k f z) none)
  |none=>none
 |_=>none
def emptyC(C:Ctx)(T:TypeId)(sz:Nat)(l:List DV)(lo hi:Option DV)(k:DV->Option R):Option R:=match C.ty T with
 |some (.sl e)=>cond (Nat.beq sz e.size&&Nat.ble 1 sz) (optI lo 0 fun a=>optI hi ((l.length/sz:Nat):Int) fun b=>if a=0∧b=0 then k (.v (.sl e) [])else none) none
 |_=>none
def nilNil:DV->DV->Bool
 | .nils, .nils=>true
 |_,_=>false
def isNP:DV->DV->Bool
 | .ptr _ _, .nilp=>true
 | .nilp, .nilp=>true
 |_,_=>false
def nilB:DV->Bool
 | .nilp=>true
 |_=>false
def eqNP(C:Ctx)(T:TypeId)(o:BinOp)(x:DV)(k:DV->Option R):Option R:=cond (C.ptrT T) (match o with
 | .eql=>k (.v .bool (nilB x))
 | .neq=>k (.v .bool !(nilB x))
 |_=>none) none
def tinyL(H:Heap)(e:Ty):DV->Bool
 | .nils=>true
 | .v (.sl _) l=>Nat.ble (l:List _).length 1
 | .own b=>match hget H b with
  | .cells s sz l=>s.live&&Nat.beq sz e.size&&Nat.ble 1 sz&&Nat.ble (l.length/sz) 1
  | .mem s true (.sl _) l=>s.live&&Nat.ble (l:List _).length 1
  |_=>false
 |_=>false
def isTiny(C:Ctx)(H:Heap)(g:FuncId)(fs:List DV)(args:List DV)(cs:List DV):Bool:=match fs,args,cs with
 |[],[.ifc T x, .fn _ _ _],[]=>C.tiny g T&&(match C.ty T with
  |some (.sl e)=>tinyL H e x
  |_=>false)
 |_,_,_=>false
def top(C:Ctx)(nm:Nat)(ρ:Env)(H:Heap)(op:Op)(k:DV->Heap->Option R):Option R:=match op with
 | .move x| .assign x=>k (ev ρ x) H
 | .pick c a b=>pickOp (ev ρ c) (ev ρ a) (ev ρ b) fun x=>k x H
 | .alloc T=>match C.ty T with
  |some t=>cond (C.dyn T) (k (.ptr nm [.idx 0]) (hset H nm (.cells .rw 0 (zeroC t)))) (k (.ptr nm []) (hset H nm (.mem .rw false t t.zero)))
  |none=>cond (C.cell T) (k (.ptr nm []) (hset H nm (.cell .rw .undef))) none
 | .box T x=>match C.ty T with
  |some t=>cond (C.dyn T) (asC t (ev ρ x) fun l=>k (.ptr nm [.idx 0]) (hset H nm (.cells .rw 0 l))) (asVH H false t (ev ρ x) fun y H=>k (.ptr nm []) (hset H nm (.mem .rw false t y)))
  |none=>cond (C.cell T&&cellD (ev ρ x)) (k (.ptr nm []) (hset H nm (.cell .rw (ev ρ x)))) none
 | .build T ps=>match C.ty T with
  |some (.arr n e)=>cond (inOrder 0 (ps.toList.map fun(i,x)=>(i,ev ρ x))&&Nat.beq ps.toList.length n)
   (buildL H e (ps.toList.map fun(i,x)=>(i,ev ρ x)) fun l H=>k (.v (.arr n e) (vecOf n l e.zero)) H)
   (buildR H n e (Vector.replicate n e.zero) (ps.toList.map fun(i,x)=>(i,ev ρ x)) fun x H=>k (.v (.arr n e) x) H)
  |some t=>cond t.st (cond (C.dyn T) (layC t (zeroC t) (ps.toList.map fun(i,x)=>(i,ev ρ x)) fun l=>k (.agg l) H) (buildS H t t.zero (ps.toList.map fun(i,x)=>(i,ev ρ x)) fun x H=>k (.v t x) H)) none
  |none=>none
 | .buildSlice T n ps=>match C.ty T with
  |some (.sl e)=>cond (Nat.ble (n*e.size) 16777216) (cond (C.dyn T) (cond (inOrder 0 (ps.toList.map fun(i,x)=>(i,ev ρ x))&&Nat.beq ps.toList.length n&&Nat.ble 1 e.size)
   (buildC e (ps.toList.map fun(i,x)=>(i,ev ρ x)) fun l=>k (.own nm) (hset H nm (.cells .rw e.size l))) none)<|cond (inOrder 0 (ps.toList.map fun(i,x)=>(i,ev ρ x))&&Nat.beq ps.toList.length n)
   (buildL H e (ps.toList.map fun(i,x)=>(i,ev ρ x)) fun l H=>addRow nm H e l k)
   (buildR H n e (Vector.replicate n e.zero) (ps.toList.map fun(i,x)=>(i,ev ρ x)) fun x H=>addRow nm H e x.toList k)) none
  |_=>none
 | .load T x=>atC H (ev ρ x) (fun _ o _ _ l=>loadC C T l o fun y=>k y H) (load H (ev ρ x) fun y=>cond (tyD C T y) (k y H) none)
 | .store T a x=>atC H (ev ρ a) (fun b o s sz l=>storeC C T H b o s sz l (ev ρ x) fun H'=>k .undef H') (cond (tyP C H T (ev ρ a)) (store H (ev ρ a) (ev ρ x) fun H'=>k .undef H') none)
 | .nilCheck x=>match ev ρ x with
  | .ptr b p=>k (.ptr b p) H
  | .fp t x=>k (.fp t x) H
  | .v (.op e) o=>Option.bind o fun y=>k (.fp e y) H
  |_=>none
 | .binOp o T x y _=>cond (isNP (ev ρ x) (ev ρ y)) (eqNP C T o (ev ρ x) fun z=>k z H) (binA (C.ty T) o (ev ρ x) (ev ρ y) fun z=>k z H)
 | .unOp o _ x=>unA o (ev ρ x) fun z=>k z H
 | .convert s d x=>cond (tySl C H s (ev ρ x)) (convert C nm H s d (ev ρ x) k) none
 | .makeFunc (.func f) fs cs=>k (.fn f (fs.toList.map (ev ρ)) (cs.toList.map (ev ρ))) (lendL (cs.toList.map (ev ρ)) (lendL (fs.toList.map (ev ρ)) H))
 | .makeSlice T l c=>match C.ty T with
  |some (.sl e)=>cond (sameOpd l c) (asV .i64 (ev ρ l) fun n=>cond (C.dyn T) (if 0<=n∧n<=4294967296∧1<=e.size then k (.own nm) (hset H nm (.cells .rw e.size (List.replicate n.toNat (zeroC e)).flatten))else none) ((zeros? n e.zero).bind fun r=>addRow nm H e r k)) (roomy nm H e (C.dyn T) (ev ρ l) (ev ρ c) k)
  |_=>none
 | .slice T x lo hi none=>rowC H (ev ρ x) (fun _ _ sz l=>emptyC C T sz l (lo.map (ev ρ)) (hi.map (ev ρ)) fun y=>k y H)<|cond (tySl C H T (ev ρ x)) (sliceOp H (ev ρ x) (lo.map (ev ρ)) (hi.map (ev ρ)) fun y=>k y H) none
 | .slice T x lo hi (some m)=>slice3 C T (ev ρ x) (lo.map (ev ρ)) (hi.map (ev ρ)) (ev ρ m) fun y=>k y H
 | .fieldAddr T x f=>atC H (ev ρ x) (fun b o _ _ l=>fieldAddrC C T b o l f fun y=>k y H) (cond (tyP C H T (ev ρ x)) (fieldAddr H (ev ρ x) f fun y=>k y H) none)
 | .field T x f=>match ev ρ x with
  | .v t x=>cond (tyIs C T t) (getV t x [.fld f] fun t' y=>k (.v t' y) H) none
  | .agg l=>fieldC C T l f fun y=>k y H
  |_=>none
 | .indexAddr T x i=>rowC H (ev ρ x) (fun b _ sz l=>intD (ev ρ i) fun i=>indexC C T b sz l i fun y=>k y H) (atC H (ev ρ x) (fun b o _ _ l=>intD (ev ρ i) fun i=>indexArrC C T b o l i fun y=>k y H) (cond (tySl C H T (ev ρ x)) (intD (ev ρ i) fun i=>indexAddr H (ev ρ x) i fun y=>k y H) none))
 | .index T x i=>intD (ev ρ i) fun i=>match ev ρ x with
  | .v .str s=>cond (tyIs C T .str) ((at? (s:List UInt8) i).bind fun y=>k (.v .u8 y) H) none
  | .v (.arr n e) a=>cond (tyIs C T (.arr n e)) ((at? (a:Vector (Val e) n).toList i).bind fun y=>k (.v e y) H) none
  |_=>none
 | .sliceToArrayPointer T x=>match C.ty T with
  |some (.arr n e)=>cond (Nat.beq n 0) none (asVH H false (.sl e) (ev ρ x) fun l H=>(toArr n l).bind fun a=>k (.fp (.arr n e) a) H)
  |_=>none
 | .makeInterface T x=>cond (C.con T) (k (.ifc T (ev ρ x)) H) none
 | .typeAssert x _ T ok=>match ev ρ x with
  | .ifc T' y=>cond (C.con T&&Nat.beq T' T) (k (cond ok (.tup [y, .v .bool true]) y) H) none
  |_=>none
 | .lookup T x i true=>match ev ρ x with
  | .mp l=>cond (C.mapT T) (asV .i64 (ev ρ i) fun n=>(lookD l n).bind fun y=>k y H) none
  |_=>none
 | .extract x i=>match ev ρ x with
  | .tup l=>match l[i]? with
   |some y=>k y H
   |none=>none
  |_=>none
 | .call {callee:= .builtin b,args,argTypes}=>match b,args.toList,argTypes.toList with
  | .append,[x,y],[T,T']=>match C.ty T with
   |some (.sl e)=>cond (C.dyn T&&Nat.beq T T'&&nilNil (ev ρ x) (ev ρ y)) (k .nils H)<|rowC H (ev ρ y) (fun _ _ sz ys=>cond (Nat.beq sz e.size&&Nat.ble 1 sz&&Nat.beq T T') (appendC nm sz H (ev ρ x) ys k) none) (valL (C.dyn T&&Nat.ble 1 e.size&&Nat.beq T T') e (ev ρ y) (fun ys=>appendC nm e.size H (ev ρ x) ys k) (cond (tySl C H T' (ev ρ y)) (appendOp nm H (ev ρ x) (ev ρ y) e k) none))
   |_=>none
  | .len,[x],[T]=>match C.ty T with
   |some (.arr n _)=>k (.v .i64 (n:Int)) H
   |_=>rowC H (ev ρ x) (fun _ _ sz l=>sizeC C T sz (k (.v .i64 ((l.length/sz:Nat):Int)) H)) (cond (tySl C H T (ev ρ x)) (lenD H (ev ρ x) fun n=>k (.v .i64 (n:Int)) H) none)
  | .min,[x,y],_=>asV .i64 (ev ρ x) fun a=>asV .i64 (ev ρ y) fun b=>k (.v .i64 (minI a b)) H
  | .max,[x,y],_=>asV .i64 (ev ρ x) fun a=>asV .i64 (ev ρ y) fun b=>k (.v .i64 (maxI a b)) H
  | .min,[x,y,z],_=>asV .i64 (ev ρ x) fun a=>asV .i64 (ev ρ y) fun b=>asV .i64 (ev ρ z) fun c=>k (.v .i64 (minI (minI a b) c)) H
  | .max,[x,y,z],_=>asV .i64 (ev ρ x) fun a=>asV .i64 (ev ρ y) fun b=>asV .i64 (ev ρ z) fun c=>k (.v .i64 (maxI (maxI a b) c)) H
  | .copy,[x,y],[T,T']=>match C.ty T with
   |some (.sl e)=>cond (tySl C H T' (ev ρ y)) (copyOp H (unx (ev ρ x)) (ev ρ y) e k) none
   |_=>none
  | .cap,[x],[T]=>cond (tySl C H T (ev ρ x)) (capD H (ev ρ x) fun n=>k (.v .i64 (n:Int)) H) none
  |_,_,_=>none
 | .call {callee:= .value f,args, .. }=>match ev ρ f with
  | .fn g fs cs=>cond (isTiny C H g fs (args.toList.map (ev ρ)) cs) (k (.tup []) H) (callS C 4 nm g (fs++args.toList.map (ev ρ)++cs) H k)
  | .fnv ins outs g=>asVals (allFlatT outs) ins (args.toList.map (ev ρ)) H fun x H=>(g x).bind fun r=>k (oneOr (dvs outs r)) H
  |_=>none
 | .call {callee:= .invoke r m,args, .. }=>methC C H (ev ρ r) m fun g y=>callS C 4 nm g (y::args.toList.map (ev ρ)) H k
 |_=>none
def allocs(C:Ctx):Op->Bool
 | .alloc _| .box .. | .makeSlice .. | .buildSlice .. =>true
 | .convert _ d _=>match C.ty d with
  |some (.sl _)=>true
  |_=>false
 | .call {callee:= .builtin .append, .. }=>true
 | .call {callee:= .value _, .. }=>true
 | .call {callee:= .invoke .., .. }=>true
 |_=>false
def nAllocs(C:Ctx):List Oper->Nat
 |[]=>0
 |o::l=>cond (allocs C o.op) (nAllocs C l+1) (nAllocs C l)
def goneL:Nat->Heap
 |0=>[]
 |n+1=> .gone::goneL n
def isGone(x:Ent):Bool:=Ent.rec (motive:=fun _=>Bool) (fun _ _ _ _=>false) (fun _ _=>false) (fun _ _ _=>false) true x
def freshAt(H:Heap):Nat->Bool:=List.rec (motive:=fun _=>Nat->Bool) (fun _=>false) (fun x _ ih n=>Nat.rec (motive:=fun _=>Bool) (isGone x) (fun m _=>ih m) n) H
theorem freshAt_zero{x:Ent}{l:Heap}:freshAt (x::l) 0=isGone x:=rfl
theorem freshAt_succ{x:Ent}{l:Heap}{n:Nat}:freshAt (x::l) (n+1)=freshAt l n:=rfl
def nthO{α:Type}(l:List α):Nat->Option α:=List.rec (motive:=fun _=>Nat->Option α) (fun _=>none) (fun x _ ih n=>Nat.rec (motive:=fun _=>Option α) (some x) (fun m _=>ih m) n) l
theorem nthO_list{α:Type}: ∀(l:List α) (n:Nat),nthO l n=l[n]?
 |[],_=>rfl
 |x::_,0=>rfl
 |_::l,n+1=>by rw[List.getElem?_cons_succ];exact nthO_list l n
theorem nthO_eq{α:Type}(l:Array α)(n:Nat):nthO l.toList n=l[n]?:=by rw[nthO_list,Array.getElem?_toList]
def freshFor(C:Ctx)(nm:Nat)(H:Heap)(op:Op):Bool:=cond (allocs C op) (freshAt H nm) true
def guardE(all:Array Oper)(ρ:Env)(o:Oper)(yes no:Env->Option R):Option R:=match o.guard with
 |none=>yes ρ
 |some (j,want)=>match(nthO all.toList j).bind (·.dst)with
  |some d=>match ρ d with
   | .v .bool b=>cond want
    (cond b (yes (put ρ (some d) (.v .bool true))) (no (put ρ (some d) (.v .bool false))))
    (cond b (no (put ρ (some d) (.v .bool true))) (yes (put ρ (some d) (.v .bool false))))
   | .skp=>no ρ
   |_=>none
  |none=>none
def quietOp:Op->Bool
 | .load .. | .fieldAddr .. | .indexAddr .. | .slice .. | .makeInterface .. | .typeAssert .. | .move _| .assign _| .pick .. | .binOp .. | .unOp .. | .extract .. | .field .. | .nilCheck _| .index .. =>true
 |_=>false
def forceC{R:Type}(o:Op)(H:Heap)(k:Heap->Option R):Option R:=Bool.rec (motive:=fun _=>Option R) (forceH H k) (k H) (quietOp o)
def evOps(C:Ctx)(all:Array Oper):Nat->List Oper->Env->Heap->(Env->Heap->Option R)->Option R
 |_,[],ρ,H,k=>k ρ H
 |nm,o::rest,ρ,H,k=>forceC o.op H fun H=>guardE all ρ o
  (fun ρ=>cond (freshFor C nm H o.op) (top C nm ρ H o.op fun x H'=>evOps C all (cond (allocs C o.op) (nm+1) nm) rest (put ρ o.dst x) H' k) none)
  (fun ρ=>evOps C all (cond (allocs C o.op) (nm+1) nm) rest (put ρ o.dst .skp) H k)
def memN(n:Nat)(l:List Nat):Bool:=List.rec (motive:=fun _=>Bool) false (fun m _ ih=>Bool.rec (motive:=fun _=>Bool) ih true (Nat.beq n m)) l
def ltAll(n:Nat)(l:List Nat):Bool:=List.rec (motive:=fun _=>Bool) true (fun x _ ih=>Bool.rec (motive:=fun _=>Bool) false ih (Nat.ble (x+1) n)) l
theorem ltAll_cons{n x:Nat}{l:List Nat}:ltAll n (x::l)=cond (Nat.ble (x+1) n) (ltAll n l) false:=by
 show(Bool.rec (motive:=fun _=>Bool) false (ltAll n l) (Nat.ble (x+1) n):Bool)=_
 cases Nat.ble (x+1) n<;>rfl
def refsD:DV->List Nat
 | .own b| .ptr b _| .win b _ _ _| .winx b _=>[b]
 | .ifc _ x=>refsD x
 | .fn _ fs cs=>refsL fs++refsL cs
 | .fpf x=>refsD x
 | .tup l=>refsL l
 | .agg l=>refsL l
 |_=>[]
where refsL:List DV->List Nat
 |[]=>[]
 |x::l=>refsD x++refsL l
def opnds:Op->List Operand
 | .alloc _| .ready _| .waits _=>[]
 | .move x| .assign x| .box _ x| .load _ x| .nilCheck x| .unOp _ _ x| .convert _ _ x| .sliceToArrayPointer _ x| .makeInterface _ x
 | .makeChan _ x| .fieldAddr _ x _| .field _ x _| .range _ x| .next x _| .entry x| .typeAssert x _ _ _| .extract x _| .panic x| .recv _ x _=>[x]
 | .pick c a b=>[c,a,b]
 | .build _ ps| .buildSlice _ _ ps=>ps.toList.map Prod.snd
 | .store _ a v| .binOp _ _ a v _| .makeSlice _ a v| .indexAddr _ a v| .index _ a v| .lookup _ a v _| .mapEntry _ a v| .send a v=>[a,v]
 | .makeFunc _ first captured=>first.toList++captured.toList
 | .makeMap _ r=>r.toList
 | .slice _ x l h m=>x::(l.toList++h.toList++m.toList)
 | .mapUpdate _ m k v| .entryStore _ m k v| .insert _ m k v=>[m,k,v]
 | .call c| .go c| .defer c=>(match c.callee with| .value f=>[f]| .invoke r _=>[r]| .builtin _=>[])++c.args.toList
 | .select cs _=>cs.toList.flatMap fun c=>c.chan::c.send.toList
def tmpsOf:List Operand->List Nat
 |[]=>[]
 | .tmp t::l=>t::tmpsOf l
 |_::l=>tmpsOf l
def looks(all:Array Oper)(o:Oper):List Nat:=tmpsOf (opnds o.op)++(match o.guard with
 |some (g,_)=>match(all[g]?).bind (·.dst)with
  |some d=>[d]
  |none=>[]
 |none=>[])
def refsO(ρ:Env)(l:List Operand):List Nat:=refsD.refsL (l.map (ev ρ))
def rwL(H:Heap):List Nat->List Nat
 |[]=>[]
 |b::l=>match hget H b with
  | .mem .frz _ _ _| .cell .frz _| .cells .frz _ _=>rwL H l
  | .mem .ro _ _ _| .cell .ro _| .cells .ro _ _=>rwL H l
  |_=>b::rwL H l
def cellRefs(H:Heap):List Nat->List Nat
 |[]=>[]
 |b::l=>match hget H b with
  | .cell _ x=>refsD x++cellRefs H l
  | .cells _ _ xs=>refsD.refsL xs++cellRefs H l
  |_=>cellRefs H l
def subN:List Nat->List Nat->Bool
 |[],_=>true
 |x::l,F=>cond (memN x F) (subN l F) false
def footN(H:Heap):Nat->List Nat->List Nat
 |0,l=>l
 |_,[]=>[]
 |n+1,l=>l++footN H n (cellRefs H l)
def footF(ρ:Env)(H:Heap)(op:Op):List Nat:=footN H 9 (refsO ρ (opnds op))
def bytesB(C:Ctx)(T:TypeId):Bool:=match C.ty T with
 |some (.sl .u8)=>true
 |_=>false
def layB(C:Ctx)(T:TypeId):Bool:=match C.ty T with
 |some (.arr _ _)=>false
 |some _=>C.dyn T
 |none=>false
def footT(C:Ctx)(ρ:Env)(H:Heap)(op:Op)(F:List Nat):List Nat:=match op with
 | .load .. | .fieldAddr .. | .indexAddr .. | .slice .. | .alloc _| .makeSlice .. =>[]
 | .convert s d _=>cond (bytesB C s&&bytesB C d) (rwL H F) []
 | .buildSlice T _ _=>cond (C.dyn T) [] (rwL H F)
 | .build T _=>cond (layB C T) [] (rwL H F)
 | .call {callee:= .builtin b,args, .. }=>match b,args.toList with
  | .len,_| .min,_| .max,_=>[]
  | .append,x::_=>refsD (ev ρ x)
  | .copy,x::_=>refsD (ev ρ x)
  |_,_=>rwL H F
 | .call {callee:= .value f, .. }=>match ev ρ f with
  | .fn g _ _=>match C.spec g with
   |some s=>cond (allFlat s.results&&noIo s.params) [] (rwL H F)
   |none=>rwL H F
  | .fnv ins outs _=>cond (allFlatT outs) [] (rwL H F)
  |_=>rwL H F
 |_=>rwL H F
def footW(C:Ctx)(nm:Nat)(ρ:Env)(H:Heap)(op:Op)(F:List Nat):List Nat:=cond (allocs C op) (nm::footT C ρ H op F) (footT C ρ H op F)
def noHeap:Op->Bool
 | .makeInterface .. | .typeAssert .. | .move _| .assign _| .pick .. | .binOp .. | .unOp .. | .extract .. | .field .. | .nilCheck _| .index .. =>true
 |_=>false
def only(l:List Nat)(ρ:Env):Env:=fun k=>Bool.rec (motive:=fun _=>DV) .undef (ρ k) (memN k l)
def maskH(F:List Nat):Nat->Heap->Heap
 |_,[]=>[]
 |n,x::H=>cond (memN n F) x .gone::maskH F (n+1) H
def overH(W:List Nat):Nat->Heap->Heap->Heap
 |n,y::G,x::H=>cond (memN n W) y x::overH W (n+1) G H
 |_,_,H=>H
def isDeadE:Ent->Bool
 | .mem .dead _ _ _| .cell .dead _| .cells .dead _ _=>true
 |_=>false
def isFrzE:Ent->Bool
 | .mem .frz _ _ _| .cell .frz _| .cells .frz _ _=>true
 |_=>false
def isRwE:Ent->Bool
 | .mem .rw _ _ _| .cell .rw _| .cells .rw _ _=>true
 |_=>false
def bits:List Nat->Nat
 |[]=>0
 |x::l=>Nat.lor (Nat.shiftLeft 1 x) (bits l)
def tb(m n:Nat):Bool:=Nat.beq (Nat.land (Nat.shiftRight m n) 1) 1
def maskB(m:Nat)(n:Nat)(H:Heap):Heap:=List.rec (motive:=fun _=>Nat->Heap) (fun _=>[]) (fun x _ ih n=>Bool.rec (motive:=fun _=>Ent) .gone x (tb m n)::ih (n+1)) H n
def overB(m:Nat)(n:Nat)(G H:Heap):Heap:=List.rec (motive:=fun _=>Nat->Heap->Heap) (fun _ H=>H) (fun y _ ih n H=>List.rec (motive:=fun _=>Heap) [] (fun x H _=>Bool.rec (motive:=fun _=>Ent) x y (tb m n)::ih (n+1) H) H) G n H
def subB(m:Nat):List Nat->Bool
 |[]=>true
 |x::l=>cond (tb m x) (subB m l) false
def chkH(F W:List Nat):Nat->Heap->Heap->Bool
 |_,[],[]=>true
 |_,[],_::_=>false
 |_,_::_,[]=>false
 |n,g::G,x::H=>cond (cond (memN n W)
  (cond (isGone x) (isGone g||(isRwE g||isFrzE g)) (cond (memN n F) (cond (isDeadE x) (isDeadE g) true) false))
  (cond (memN n F) (cond (isGone x) (isGone g) true) (isGone g))) (chkH F W (n+1) G H) false
def chkB(f w:Nat)(n:Nat)(G H:Heap):Bool:=List.rec (motive:=fun _=>Nat->Heap->Bool) (fun _ H=>List.rec (motive:=fun _=>Bool) true (fun _ _ _=>false) H)
 (fun g _ ih n H=>List.rec (motive:=fun _=>Bool) false (fun x H _=>Bool.rec (motive:=fun _=>Bool) false (ih (n+1) H) (Bool.rec (motive:=fun _=>Bool)
  (Bool.rec (motive:=fun _=>Bool) (isGone g) (cond (isGone x) (isGone g) true) (tb f n))
  (cond (isGone x) (isGone g||(isRwE g||isFrzE g)) (cond (tb f n) (cond (isDeadE x) (isDeadE g) true) false)) (tb w n))) H) G n H
def forceN(l:List Nat):(List Nat->Option R)->Option R:=List.rec (motive:=fun _=>(List Nat->Option R)->Option R) (fun k=>k []) (fun x _ ih k=>ih fun l=>k (x::l)) l
def takeH:Nat->Heap->Heap
 |0,_=>[]
 |_,[]=>[]
 |n+1,x::H=>x::takeH n H
def rangeN:Nat->Nat->List Nat
 |_,0=>[]
 |a,n+1=>a::rangeN (a+1) n
def cheapK(C:Ctx):Op->Option (Operand×(Nat->Nat->List DV->Option DV))
 | .load T x=>some (x,fun _ o l=>loadC C T l o some)
 | .fieldAddr T x f=>some (x,fun b o l=>fieldAddrC C T b o l f some)
 |_=>none
def cheap(C:Ctx)(ρ:Env)(H:Heap)(op:Op):Option (Nat×DV):=match cheapK C op with
 |some r=>atC H (ev ρ r.1) (fun b o _ _ l=>(r.2 b o l).bind fun y=>some (b,y)) none
 |none=>none
def stepD(C:Ctx)(inl:Bool)(room:Nat)(tp:Env->Heap->(DV->Heap->Option R)->Option R)(nm:Nat)(ρ:Env)(H:Heap)(op:Op)(k:DV->Heap->List Nat->List Nat->Option R):Option R:=
 cond (noHeap op) (top C nm (only (tmpsOf (opnds op)) ρ) [] op fun x _=>k x H [] [])
  (match cheap C (only (tmpsOf (opnds op)) ρ) H op with
  |some r=>k r.2 H [r.1] []
  |none=>forceN (footF (only (tmpsOf (opnds op)) ρ) H op) fun F=>forceN (cond inl (nm::(rangeN (H.length-room) room++rwL H F)) (footW C nm (only (tmpsOf (opnds op)) ρ) H op F)) fun W=>
   cond (subB (bits F) (cellRefs H F)&&freshFor C nm H op) (tp (only (tmpsOf (opnds op)) ρ) (maskB (bits F) 0 H) fun x G=>cond (chkB (bits F) (bits W) 0 G H) (k x (overB (bits W) 0 G H) F W) none) none)
def shpE:Ent->Ent->Bool
 | .mem _ r t _, .mem _ r' t' _=>cond r r' (!r')&&decide (t=t')
 | .gone, .gone=>true
 |_,_=>false
def shpH:Heap->Heap->Bool
 |[],[]=>true
 |x::H,y::G=>shpE x y&&shpH H G
 |_,_=>false
structure Foot where
 i:Nat
 o:Oper
 R:List Nat
 W:List Nat
 v:Bool
def disj(a b:List Nat):Bool:=match a with
 |[]=>true
 |x::l=> !memN x b&&disj l b
def waitsFor(o:Oper)(i:Nat):Bool:=o.after.toList.any fun e=>Region.binds .any e&&Nat.beq e.on i
def apartL(all:Array Oper)(x y:Oper):Bool:=
 (match x.dst with
  |some d=> !memN d (looks all y)&&(match y.dst with|some e=> !Nat.beq e d|none=>true)
  |none=>true)&&
 (match y.dst with
  |some d=> !memN d (looks all x)
  |none=>true)
def reach(all:Array Oper)(i:Nat):Nat->List Edge->Bool
 |0,_=>false
 |n+1,es=>es.any fun e=>cond (Region.binds .any e) (cond (Nat.beq e.on i) true (cond (Nat.ble e.on i) false (match all[e.on]? with
  |some o=>reach all i n o.after.toList
  |none=>false))) false
def isFA:Op->Bool
 | .fieldAddr .. =>true
 |_=>false
def meetOk(all:Array Oper)(a b:Foot):Bool:=cond (waitsFor b.o a.i) true (cond (apartL all a.o b.o&&disj a.W b.R&&disj a.W b.W&&disj a.R b.W) true (cond (apartL all a.o b.o&&isFA b.o.op&&disj b.W b.W&&a.v) true (reach all a.i 12 b.o.after.toList)))
def footOk(all:Array Oper):List Foot->Bool
 |[]=>true
 |b::l=>(l.all fun a=>meetOk all a b)&&footOk all l
def statOk(all:Array Oper)(o:Oper):List Oper->Bool
 |[]=>true
 |x::r=>cond (waitsFor o r.length) true (apartL all x o)&&statOk all o r
def waitL(o:Oper):List Oper->List Nat
 |[]=>[]
 |_::r=>cond (waitsFor o r.length) (r.length::waitL o r) (waitL o r)
def nilN:List Nat->Bool
 |[]=>true
 |_=>false
def footQ(all:Array Oper):List Oper->List Foot->Bool
 |_,[]=>true
 |[],_::_=>false
 |o::ops,b::l=>cond (statOk all o ops) (cond (nilN b.R&&nilN b.W) true (l.all fun a=>cond (tb (bits (waitL o ops)) a.i) true (cond (disj a.W b.R&&disj a.W b.W&&disj a.R b.W) true (meetOk all a b)))) (l.all fun a=>meetOk all a b)&&footQ all ops l
def backOk(all:Array Oper):Nat->List Oper->Bool
 |_,[]=>true
 |i,o::l=>(o.after.toList.all fun e=>cond (Region.binds .any e) (Nat.ble (e.on+1) i) true)&&backOk all (i+1) l
def evOpsD(C:Ctx)(all:Array Oper)(ii:Nat->Bool)(room:Nat)(run:Nat->Oper->Env->Heap->(DV->Heap->Option R)->Option R):Nat->Nat->List Oper->Env->Heap->List Foot->(Env->Heap->Option R)->Option R
 |_,_,[],ρ,H,fs,k=>cond (footQ all all.toList.reverse fs) (k ρ H) none
 |i,nm,o::rest,ρ,H,fs,k=>forceC o.op H fun H=>guardE all ρ o
  (fun ρ=>stepD C (ii i) room (fun ρ H k=>cond (ii i) (run i o ρ H k) (top C nm ρ H o.op k)) nm ρ H o.op fun x H' F W=>evOpsD C all ii room run (i+1) (cond (allocs C o.op) (nm+1) nm) rest (put ρ o.dst x) H' (⟨i,o,F,W,shpH H H'⟩::fs) k)
  (fun ρ=>evOpsD C all ii room run (i+1) (cond (allocs C o.op) (nm+1) nm) rest (put ρ o.dst .skp) H (⟨i,o,[],[],false⟩::fs) k)
inductive STy|v (t:Ty)|own (e:Ty)
inductive BTy|obj (t:Ty)|row (e:Ty)
@[reducible] def STy.T:STy->Type
 | .v t=>Val t
 | .own t=>List (Val t)
@[reducible] def BTy.T:BTy->Type
 | .obj t=>Val t
 | .row t=>List (Val t)
structure Sig where
 slots:List (Nat×STy)
 blks:List (Nat×BTy)
@[reducible] def BT:List (Nat×BTy)->Type
 |[]=>Unit
 |[(_,t)]=>t.T
 |(_,t)::l=>t.T×BT l
@[reducible] def ST:List (Nat×STy)->List (Nat×BTy)->Type
 |[],b=>BT b
 |[(_,s)],[]=>s.T
 |(_,s)::l,b=>s.T×ST l b
@[reducible] def Sig.T(s:Sig):Type:=ST s.slots s.blks
def asB(H:Heap)(b:Nat):(t:BTy)->(t.T->Option R)->Option R
 | .obj t,k=>match hget H b with
  | .mem .rw false t' x=>if h:t'=t then k (castV h x)else none
  |_=>none
 | .row e,k=>match hget H b with
  | .mem .rw true (.sl e') x=>if h:e'=e then k (h▸x:List (Val e))else none
  |_=>none
def asS(ρ:Env)(H:Heap)(n:Nat):(s:STy)->(s.T->Heap->Option R)->Option R
 | .v t,k=>asVH H false t (ρ n) k
 | .own t,k=>match ρ n with
  | .nils=>k [] H
  | .own b=>asB H b (.row t) fun l=>k l (hkill H b)
  |_=>none
def collB(H:Heap):(b:List (Nat×BTy))->(BT b->Option R)->Option R
 |[],k=>k ()
 |[(b,t)],k=>asB H b t k
 |(b,t)::c::l,k=>asB H b t fun x=>collB H (c::l) fun y=>k (x,y)
def collS(ρ:Env)(H:Heap):(s:List (Nat×STy))->(b:List (Nat×BTy))->(ST s b->Heap->Option R)->Option R
 |[],b,k=>collB H b fun y=>k y H
 |[(n,s)],[],k=>asS ρ H n s fun x H=>k x H
 |[(n,s)],b::bs,k=>asS ρ H n s fun x H=>collB H (b::bs) fun y=>k (x,y) H
 |(n,s)::s2::ss,b,k=>asS ρ H n s fun x H=>collS ρ H (s2::ss) b fun y H=>k (x,y) H
def entB(t:BTy)(x:t.T):Ent:=match t,x with
 | .obj t,x=> .mem .rw false t x
 | .row e,x=> .mem .rw true (.sl e) x
def fillB:(b:List (Nat×BTy))->BT b->Heap->Heap
 |[],_,H=>H
 |[(b,t)],x,H=>hset H b (entB t x)
 |(b,t)::c::l,x,H=>fillB (c::l) x.2 (hset H b (entB t x.1))
def fill1(n:Nat):(s:STy)->s.T->Env->Heap->(Env×Heap)
 | .v t,x,ρ,H=>(put ρ (some n) (.v t x),H)
 | .own t,x,ρ,H=>(put ρ (some n) (.own H.length),happ H [.mem .rw true (.sl t) x])
def fillS:(s:List (Nat×STy))->(b:List (Nat×BTy))->ST s b->Env->Heap->(Env×Heap)
 |[],b,x,ρ,H=>(ρ,fillB b x H)
 |[(n,s)],[],x,ρ,H=>fill1 n s x ρ H
 |[(n,s)],b::bs,x,ρ,H=>let r:=fill1 n s x.1 ρ H;(r.1,fillB (b::bs) x.2 r.2)
 |(n,s)::s2::ss,b,x,ρ,H=>let r:=fill1 n s x.1 ρ H;fillS (s2::ss) b x.2 r.1 r.2
abbrev Outs:=List (Exit×Sig)
@[reducible] def OT:Outs->Type
 |[]=>Empty
 |[(_,s)]=>s.T
 |(_,s)::l=>s.T ⊕ OT l
def exitEq:Exit->Exit->Bool
 | .normal, .normal=>true
 | .exit a, .exit b=>Nat.beq a b
 | .ret, .ret=>true
 |_,_=>false
def pack:(o:Outs)->Exit->Env->Heap->(OT o->Option R)->Option R
 |[],_,_,_,_=>none
 |[(e',s)],e,ρ,H,k=>cond (exitEq e e') (collS ρ H s.slots s.blks fun x _=>k x) none
 |(e',s)::o2::os,e,ρ,H,k=>cond (exitEq e e') (collS ρ H s.slots s.blks fun x _=>k (.inl x)) (pack (o2::os) e ρ H fun x=>k (.inr x))
def sumE{α β:Type}(x:α ⊕ β)(f:α->Option R)(g:β->Option R):Option R:=match x with
 | .inl a=>f a
 | .inr b=>g b
def unpack:(o:Outs)->OT o->Env->Heap->(Exit->Env->Heap->Option R)->Option R
 |[],_,_,_,_=>none
 |[(e,s)],x,ρ,H,k=>let r:=fillS s.slots s.blks x ρ H;k e r.1 r.2
 |(e,s)::o2::os,x,ρ,H,k=>sumE x (fun x=>let r:=fillS s.slots s.blks x ρ H;k e r.1 r.2) (fun x=>unpack (o2::os) x ρ H k)
end
inductive Ann where
 |leaf
 |seq (a b:Ann)
 |cond (a b:Ann)
 |block (a:Ann)
 |loop (sig:Sig) (outs:Outs) (a:Ann)
 |join (outs:Outs) (a:Ann)
 |freeze (b:Nat) (a:Ann)
 |pick (s n:Nat) (a:Ann)
 |more (a b:Ann)
 |must (t:Bool) (a:Ann)
 |fresh (l:List Nat) (a:Ann)
 |only (l:List Nat) (a:Ann)
 |trim (a:Ann)
 |inl (i room:Nat) (a:Ann)
 |inls (room i j k l:Nat) (a b c d:Ann)
def Ann.round:Ann->Bool
 | .loop .. | .more .. =>true
 |_=>false
def freezeB(H:Heap)(b:Nat):Heap:=match hget H b with
 | .mem .rw row t x=>hset H b (.mem .frz row t x)
 | .cell .rw x=>hset H b (.cell .frz x)
 | .cells .rw sz l=>hset H b (.cells .frz sz l)
 |_=>H
def opsWr:List Oper->List Nat
 |[]=>[]
 |o::l=>match o.dst with
  |some d=>d::opsWr l
  |none=>opsWr l
def wr:Code->List Nat
 | .region _ ops _=>opsWr ops.toList
 | .seq x y=>wr x++wr y
 | .cond _ x y=>wr x++wr y
 | .block _ x=>wr x
 | .loop x=>wr x
 |_=>[]
def clear(l:List Nat)(ρ:Env):Env:=fun k=>cond (memN k l) .undef (ρ k)
def owns(ρ:Env):List (Nat×STy)->List Nat
 |[]=>[]
 |(n, .own _)::l=>match ρ n with
  | .own j=>j::owns ρ l
  |_=>owns ρ l
 |_::l=>owns ρ l
def ownsO(ρ:Env):Outs->List Nat
 |[]=>[]
 |(_,s)::l=>owns ρ s.slots++ownsO ρ l
def dropL:List Nat->Heap->Heap
 |[],H=>H
 |j::l,H=>dropL l (hkill H j)
def protS(b:Bool):Stat->Stat
 | .rw=>cond b .rw .ro
 |s=>s
def protect(bs:List Nat):Nat->Heap->Heap
 |_,[]=>[]
 |n, .mem s row t x::H=> .mem (protS (memN n bs) s) row t x::protect bs (n+1) H
 |n, .cell s x::H=> .cell (protS false s) x::protect bs (n+1) H
 |n, .cells s sz l::H=> .cells (protS false s) sz l::protect bs (n+1) H
 |n, .gone::H=> .gone::protect bs (n+1) H
def blksO:Outs->List Nat
 |[]=>[]
 |(_,s)::l=>s.blks.map Prod.fst++blksO l
def nodupN:List Nat->Bool
 |[]=>true
 |x::l=>cond (memN x l) false (nodupN l)
def sigOk(n:Nat)(b:List (Nat×BTy)):Bool:=nodupN (b.map Prod.fst)&&ltAll n (b.map Prod.fst)
def outsOk(n:Nat):Outs->Bool
 |[]=>true
 |(_,s)::l=>cond (sigOk n s.blks) (outsOk n l) false
def outsIn(bs:List Nat):Outs->Bool
 |[]=>true
 |(_,s)::l=>cond (subN (s.blks.map Prod.fst) bs) (outsIn bs l) false
section
variable {R : Type}
def resV(C:Ctx)(H:Heap)(ρ:Env)(r:ResultVar)(k:DV->Option R):Option R:=match r with
 | .tmp n=>k (ρ n)
 | .cell a T=>atC H (ρ a) (fun _ o _ _ l=>loadC C T l o fun y=>k y) (load H (ρ a) fun y=>cond (tyD C T y) (k y) none)
def resL(C:Ctx)(H:Heap)(ρ:Env):List ResultVar->(List DV->Option R)->Option R
 |[],k=>k []
 |v::vs,k=>resV C H ρ v fun x=>resL C H ρ vs fun l=>k (x::l)
end
def env0:List DV->Env
 |[],_=> .undef
 |x::_,0=>x
 |_::l,n+1=>env0 l n
def codeOk(N:Nat):Code->Bool
 | .region _ ops _=>ops.toList.all fun o=>match o.dst with|some t=>decide (t<N)|none=>true
 | .seq x y=>codeOk N x&&codeOk N y
 | .cond _ x y=>codeOk N x&&codeOk N y
 | .block _ b=>codeOk N b
 | .loop b=>codeOk N b
 |_=>true
def oldL(n0 n:Nat)(G:Heap):List Nat:=List.rec (motive:=fun _=>Nat->List Nat) (fun _=>[]) (fun x _ ih n=>Bool.rec (motive:=fun _=>List Nat) [] (Bool.rec (motive:=fun _=>List Nat) (n::ih (n+1)) (ih (n+1)) (isGone x)) (Nat.ble (n+1) n0)) G n
theorem oldL_cons{n0 n:Nat}{x:Ent}{G:Heap}:oldL n0 n (x::G)=cond (Nat.ble (n+1) n0) (cond (isGone x) (oldL n0 (n+1) G) (n::oldL n0 (n+1) G)) []:=by
 show Bool.rec (motive:=fun _=>List Nat) [] (Bool.rec (motive:=fun _=>List Nat) (n::oldL n0 (n+1) G) (oldL n0 (n+1) G) (isGone x)) (Nat.ble (n+1) n0)=_
 cases Nat.ble (n+1) n0<;>cases isGone x<;>rfl
def tailB:Nat->Heap->Bool
 |_,[]=>true
 |0,x::H=>isGone x&&tailB 0 H
 |n+1,_::H=>tailB n H
def fitH:Nat->Heap->Heap
 |0,_=>[]
 |n+1,[]=> .gone::fitH n []
 |n+1,x::G=>x::fitH n G
def cutN{R:Type}(n n0:Nat)(x:DV)(G:Heap)(k:DV->Heap->Option R):Option R:=
 forceN (footN G 9 (oldL n0 0 G++refsD x)) fun F=>_root_.cond (ltAll n F&&subB (bits F) (cellRefs G F)) (k x (fitH n (maskB (bits F) 0 G))) none
def trimH(n:Nat)(H:Heap):Heap:=List.rec (motive:=fun _=>Nat->Heap) (fun _=>[]) (fun x _ ih n=>Nat.rec (motive:=fun _=>Heap) (List.rec (motive:=fun _=>Heap) (Bool.rec (motive:=fun _=>Heap) [x] [] (isGone x)) (fun y l _=>x::y::l) (ih 0)) (fun m _=>x::ih m) n) H n
theorem trimH_succ{n:Nat}{x:Ent}{H:Heap}:trimH (n+1) (x::H)=x::trimH n H:=rfl
theorem trimH_zero{x:Ent}{H:Heap}:trimH 0 (x::H)=match trimH 0 H with|[]=>_root_.cond (isGone x) [] [x]|y::l=>x::y::l:=by
 show List.rec (motive:=fun _=>Heap) (Bool.rec (motive:=fun _=>Heap) [x] [] (isGone x)) (fun y l _=>x::y::l) (trimH 0 H)=_
 cases trimH 0 H with
 |nil=>cases isGone x<;>rfl
 |cons y l=>rfl
def cutG{R:Type}(n0:Nat)(x:DV)(G:Heap)(k:DV->Heap->Option R):Option R:=
 forceN (footN G 9 (oldL n0 0 G++refsD x)) fun F=>_root_.cond (subB (bits F) (cellRefs G F)) (k x (trimH n0 (maskB (bits F) 0 G))) none
def inlB{R:Type}(C:Ctx)(g:FuncId)(xs:List DV)(run:Code->(Exit->Env->Heap->Option R)->Env->Heap->Option R)(H:Heap)(k:DV->Heap->Option R):Option R:=match C.code g with
 |some fn=>match fn.body with
  |some b=>_root_.cond (Nat.ble xs.length fn.ntmps&&codeOk fn.ntmps b) (run b (fun e ρ H=>match e with| .ret=>resL C H ρ fn.results.toList fun l=>k (oneOr l) H| .normal=>resL C H ρ fn.results.toList fun l=>k (oneOr l) H|_=>none) (env0 xs) H) none
  |none=>none
 |none=>none
def inlC{R:Type}(C:Ctx)(o:Oper)(run:Code->(Exit->Env->Heap->Option R)->Env->Heap->Option R)(ρ:Env)(H:Heap)(k:DV->Heap->Option R):Option R:=match o.op with
 | .call {callee:= .value f,args, .. }=>match ev ρ f with
  | .fn g fs cs=>inlB C g (fs++args.toList.map (ev ρ)++cs) run H k
  |_=>none
 | .call {callee:= .invoke r m,args, .. }=>methC C H (ev ρ r) m fun g y=>inlB C g (y::args.toList.map (ev ρ)) run H k
 |_=>none
def inlG{R:Type}(C:Ctx)(all:Array Oper)(i:Nat)(o:Oper)(run:Code->(Exit->Env->Heap->Option R)->Env->Heap->Option R)(ρ:Env)(H:Heap)(k:Env->Heap->Option R):Option R:=
 guardE all ρ o (fun ρ=>inlC C o run ρ H fun x G=>cutG H.length x G fun x G=>k (put ρ o.dst x) G) (fun ρ=>k (put ρ o.dst .skp) H)
def evSegs{R:Type}(C:Ctx)(ops:Array Oper):Nat->List (Nat×(Code->(Exit->Env->Heap->Option R)->Env->Heap->Option R))->Env->Heap->(Env->Heap->Option R)->Option R
 |n,[],ρ,H,k=>evOps C ops H.length (ops.toList.drop n) ρ (happ H (goneL (nAllocs C (ops.toList.drop n)))) k
 |n,(i,run)::l,ρ,H,k=>match ops[i]? with
  |some o=>_root_.cond (Nat.ble n i) (evOps C ops H.length ((ops.toList.drop n).take (i-n)) ρ (happ H (goneL (nAllocs C ((ops.toList.drop n).take (i-n))))) fun ρ H=>inlG C ops i o run ρ H fun ρ H=>evSegs C ops (i+1) l ρ H k) none
  |none=>evSegs C ops n l ρ H k
def pick4{α:Type}(i j k n:Nat)(a b c d:α):α:=_root_.cond (Nat.beq n i) a (_root_.cond (Nat.beq n j) b (_root_.cond (Nat.beq n k) c d))
def refresh(ρ0:Env):List Nat->Env->Env
 |[],ρ=>ρ
 |t::l,ρ=>put (refresh ρ0 l ρ) (some t) (ρ0 t)
def envL(l:List (Nat×DV)):Env:=List.rec (motive:=fun _=>Env) (fun _=> .undef) (fun x _ ih k=>Bool.rec (motive:=fun _=>DV) (ih k) x.2 (Nat.beq k x.1)) l
def onlyL(l:List Nat)(ρ:Env):Env:=envL (l.map fun t=>(t,ρ t))
def evC(C:Ctx)(c:Code):Ann-> {R:Type}->(Exit->Env->Heap->Option R)->Env->Heap->Option R
 | .join outs a,_,K,ρ,H=>_root_.cond (outsOk H.length outs) ((evC C c a (fun e ρ H=>pack outs e ρ H some) ρ (protect (blksO outs++ownsO ρ outs) 0 H)).bind fun x=>unpack outs x (clear (wr c) ρ) (dropL (blksO outs++ownsO ρ outs) H) K) none
 | .freeze b a,_,K,ρ,H=>evC C c a K ρ (freezeB H b)
 | .pick s n a,_,K,ρ,H=>match ρ s with
  | .v .i64 i=>idxs n 0 i fun j=>evC C c a K (put ρ (some s) (.v .i64 (j:Int))) H
  |_=>none
 | .leaf,_,K,ρ,H=>match c with
  | .skip=>K .normal ρ H
  | .region _ ops draw=>_root_.cond draw
   (_root_.cond (backOk ops 0 ops.toList) (evOpsD C ops (fun _=>false) 0 (fun _ _ _ _ _=>none) 0 H.length ops.toList ρ (happ H (goneL (nAllocs C ops.toList))) [] fun ρ H=>K .normal ρ H) none)
   (evOps C ops H.length ops.toList ρ (happ H (goneL (nAllocs C ops.toList))) fun ρ H=>K .normal ρ H)
  | .exit i=>K (.exit i) ρ H
  | .ret=>K .ret ρ H
  |_=>none
 | .seq a b,_,K,ρ,H=>match c with
  | .seq x y=>evC C x a (fun e ρ H=>match e with| .normal=>evC C y b K ρ H|e=>K e ρ H) ρ H
  |_=>none
 | .cond a b,_,K,ρ,H=>match c with
  | .cond t x y=>match ev ρ t with
   | .v .bool t=>_root_.cond t (evC C x a K ρ H) (evC C y b K ρ H)
   |_=>none
  |_=>none
 | .block a,_,K,ρ,H=>match c with
  | .block id b=>evC C b a (fun e ρ H=>match e with| .exit i=>_root_.cond (Nat.beq i id) (K .normal ρ H) (K (.exit i) ρ H)|e=>K e ρ H) ρ H
  |_=>none
 | .loop sig outs a,_,K,ρ,H=>match c with
  | .loop b=>_root_.cond (sigOk H.length sig.blks&&outsOk H.length outs&&outsIn (sig.blks.map Prod.fst) outs) (collS ρ H sig.slots sig.blks fun x0 H=>
   (iter (fun x=>let r:=fillS sig.slots sig.blks x (clear (wr b) ρ) (protect (sig.blks.map Prod.fst) 0 H)
    evC C b a (fun e ρ H=>match e with| .normal=>collS ρ H sig.slots sig.blks (fun y _=>some (.inl y))|e=>pack outs e ρ H fun y=>some (.inr y)) r.1 r.2) x0).bind fun y=>
    unpack outs y (clear (wr b) ρ) (dropL (sig.blks.map Prod.fst) H) K) none
  |_=>none
 | .more a b,_,K,ρ,H=>match c with
  | .loop x=>evC C x a (fun e ρ H=>match e with| .normal=>_root_.cond b.round (evC C (.loop x) b K ρ H) none|e=>K e ρ H) ρ H
  |_=>none
 | .fresh l a,_,K,ρ,H=>evC C c a K (refresh ρ l ρ) H
 | .only l a,_,K,ρ,H=>evC C c a K (onlyL l ρ) H
 | .trim a,_,K,ρ,H=>evC C c a (fun e ρ H'=>K e ρ (trimH H.length H')) ρ H
 | .must t a,_,K,ρ,H=>match c with
  | .cond x y z=>match ev ρ x with
   | .v .bool u=>_root_.cond t (_root_.cond u (evC C y a K ρ H) none) (_root_.cond u none (evC C z a K ρ H))
   |_=>none
  |_=>none
 | .inls room i j k l a1 a2 a3 a4,_,K,ρ,H=>match c with
  | .region _ ops draw=>_root_.cond draw
   (_root_.cond (backOk ops 0 ops.toList)
    (evOpsD C ops (fun n=>Nat.beq n i||Nat.beq n j||Nat.beq n k||Nat.beq n l) room (fun n o ρ H kk=>_root_.cond (tailB (H.length-room) H) (inlC C o (pick4 i j k n (fun b K ρ H=>evC C b a1 K ρ H) (fun b K ρ H=>evC C b a2 K ρ H) (fun b K ρ H=>evC C b a3 K ρ H) (fun b K ρ H=>evC C b a4 K ρ H)) ρ (takeH (H.length-room) H) fun x G=>cutN H.length (H.length-room) x G kk) none) 0 H.length ops.toList ρ (happ H (goneL (nAllocs C ops.toList+room))) [] fun ρ H'=>K .normal ρ (trimH H.length H')) none)
   (evSegs C ops 0 [(i,fun b K ρ H=>evC C b a1 K ρ H),(j,fun b K ρ H=>evC C b a2 K ρ H),(k,fun b K ρ H=>evC C b a3 K ρ H),(l,fun b K ρ H=>evC C b a4 K ρ H)] ρ H fun ρ H=>K .normal ρ H)
  |_=>none
 | .inl i room a,_,K,ρ,H=>match c with
  | .region _ ops draw=>match ops[i]? with
   |some o=>
    _root_.cond draw
     (_root_.cond (backOk ops 0 ops.toList)
      (evOpsD C ops (fun n=>Nat.beq n i) room (fun _ o ρ H k=>_root_.cond (tailB (H.length-room) H) (inlC C o (fun b K ρ H=>evC C b a K ρ H) ρ (takeH (H.length-room) H) fun x G=>cutN H.length (H.length-room) x G k) none) 0 H.length ops.toList ρ (happ H (goneL (nAllocs C ops.toList+room))) [] fun ρ H'=>K .normal ρ (trimH H.length H')) none)
     (evOps C ops H.length (ops.toList.take i) ρ (happ H (goneL (nAllocs C (ops.toList.take i)))) fun ρ H=>inlG C ops i o (fun b K ρ H=>evC C b a K ρ H) ρ H fun ρ H=>
      evOps C ops H.length (ops.toList.drop (i+1)) ρ (happ H (goneL (nAllocs C (ops.toList.drop (i+1))))) fun ρ H=>K .normal ρ H)
   |none=>none
  |_=>none
section
variable {R : Type}
def asRK(n0:Nat)(H:Heap)(x:DV):(r:RK)->(r.T->Heap->Option R)->Option R
 | .v t,k=>asVH H false t x k
 | .mp _,_=>none
 | .own t,k=>match x with
  | .nils=>k [] H
  | .own b=>cond (Nat.ble n0 b) (match hget H b with
   | .cells .rw sz l=>cond (Nat.beq sz t.size&&Nat.ble 1 sz&&Nat.beq (l.length/sz*sz) l.length) (ofN (fun H l k=>ofC (fun H t x k=>asVD 8 H false t x k) t H l k) (l.length/sz) (hkill H b) l fun y _ H=>k y H) none
   |_=>asB H b (.row t) fun l=>k l (hkill H b)) none
  |_=>none
 | .new t,k=>match x with
  | .ptr b []=>cond (Nat.ble n0 b) (asB H b (.obj t) fun y=>k y (hkill H b)) none
  | .ptr b [.idx 0]=>cond (Nat.ble n0 b) (match hget H b with
   | .cells .rw sz l=>cond (Nat.beq sz 0&&Nat.beq l.length t.size) (ofC (fun H t x k=>asVD 8 H false t x k) t (hkill H b) l fun y _ H=>k y H) none
   |_=>none) none
  |_=>none
def ioAt(H:Heap):List PK->Nat->(ts:List Ty)->(Vals ts->Option R)->Option R
 |[],_,[],k=>k ()
 | .io _::ps,n,[t],k=>asB H n (.obj t) fun x=>k x
 | .io _::ps,n,t::u::ts,k=>asB H n (.obj t) fun x=>ioAt H ps (n+1) (u::ts) fun y=>k (x,y)
 | .inp _::ps,n,ts,k=>ioAt H ps (n+1) ts k
 |_::ps,n,ts,k=>ioAt H ps n ts k
 |_,_,_,_=>none
def collR(C:Ctx)(n0:Nat)(H:Heap)(ρ:Env)(ps:List PK):List ResultVar->(rs:List RK)->(ts:List Ty)->(OutT rs ts->Option R)->Option R
 |[],[],ts,k=>ioAt H ps 0 ts k
 |[v],[r],[],k=>resV C H ρ v fun x=>asRK n0 H x r fun y _=>k y
 |[v],[r],t::ts,k=>resV C H ρ v fun x=>asRK n0 H x r fun y H=>ioAt H ps 0 (t::ts) fun z=>k (y,z)
 |v::vs,r::q::rs,ts,k=>resV C H ρ v fun x=>asRK n0 H x r fun y H=>collR C n0 H ρ ps vs (q::rs) ts fun z=>k (y,z)
 |_,_,_,_=>none
end
def startS:(ps:List PK)->InT ps->Heap->List DV×Heap
 |[],_,H=>([],H)
 |p::ps,x,H=>
  let a:DV×Heap:=match p,x.1 with
   | .v t,y=>(.v t y,H)
   | .inp t,y=>(.ptr H.length [],happ H [.mem .ro false t y])
   | .io t,y=>(.ptr H.length [],happ H [.mem .rw false t y])
   | .fn ins outs,g=>(.fnv ins outs g,H)
   | .fnp ins outs,g=>(.fpf (.fnv ins outs g),H)
  let r:=startS ps x.2 a.2
  (a.1::r.1,r.2)
inductive Hint where
 |loop (sig:Sig) (outs:Outs)
 |join (outs:Outs)
 |freeze (b:Nat)
 |pick (s n:Nat)
 |must (b:Bool)
 |fresh (l:List Nat)
 |only (l:List Nat)
 |trim
 |rounds (l:List (List (Nat×Hint)))
 |inl (i:Nat) (g:FuncId) (l:List (Nat×Hint))
 |inr (i room:Nat) (g:FuncId) (l:List (Nat×Hint))
def hintsAt(n:Nat):List (Nat×Hint)->List Hint
 |[]=>[]
 |(m,h)::l=>cond (Nat.beq m n) (h::hintsAt n l) (hintsAt n l)
def wrapA:List Hint->Ann->Ann
 |[],a=>a
 | .join o::l,a=> .join o (wrapA l a)
 | .freeze b::l,a=> .freeze b (wrapA l a)
 | .pick s n::l,a=> .pick s n (wrapA l a)
 | .fresh q::l,a=> .fresh q (wrapA l a)
 | .only q::l,a=> .only q (wrapA l a)
 | .trim::l,a=> .trim (wrapA l a)
 |_::l,a=>wrapA l a
def roundsA(f:List (Nat×Hint)->Ann)(z:Ann):List (List (Nat×Hint))->Ann
 |[]=>z
 |h::l=> .more (f h) (roundsA f z l)
def tailA:List Hint->Ann->Ann
 | .loop s o::_,a=> .loop s o a
 |_::l,a=>tailA l a
 |[],_=> .leaf
def loopA(f:List (Nat×Hint)->Ann):List Hint->Ann->Ann
 | .loop s o::_,a=> .loop s o a
 | .rounds r::l,a=>roundsA f (tailA l a) r
 |_::l,a=>loopA f l a
 |[],a=>a
def condA:List Hint->Ann->Ann->Ann
 | .must true::_,a,_=> .must true a
 | .must false::_,_,b=> .must false b
 |_::l,a,b=>condA l a b
 |[],a,b=> .cond a b
def inlsL(inl:FuncId->List (Nat×Hint)->Ann):List Hint->List (Nat×Ann)
 | .inl i g l::hs=>(i,inl g l)::inlsL inl hs
 | .inr i _ g l::hs=>(i,inl g l)::inlsL inl hs
 |_::hs=>inlsL inl hs
 |[]=>[]
def roomL:List Hint->Nat
 | .inr _ n _ _::hs=>n+roomL hs
 |_::hs=>roomL hs
 |[]=>0
def inlsA(room:Nat)(z:Ann):List (Nat×Ann)->Ann
 |[(i,a),(j,b)]=> .inls room i j 65536 65536 a b .leaf .leaf
 |[(i,a),(j,b),(k,c)]=> .inls room i j k 65536 a b c .leaf
 |[(i,a),(j,b),(k,c),(l,d)]=> .inls room i j k l a b c d
 |_=>z
def leafA(inl:FuncId->List (Nat×Hint)->Ann):List Hint->Ann
 | .inl i g l::_=> .inl i 0 (inl g l)
 | .inr i n g l::_=> .inl i n (inl g l)
 |_::l=>leafA inl l
 |[]=> .leaf
def mkAnn(inl:FuncId->List (Nat×Hint)->Ann):Code->List (Nat×Hint)->Nat->Ann×Nat
 | .seq x y,hs,n=>
  let a:=mkAnn inl x hs (n+1)
  let b:=mkAnn inl y hs a.2
  (wrapA (hintsAt n hs) (.seq a.1 b.1),b.2)
 | .cond _ x y,hs,n=>
  let a:=mkAnn inl x hs (n+1)
  let b:=mkAnn inl y hs a.2
  (wrapA (hintsAt n hs) (condA (hintsAt n hs) a.1 b.1),b.2)
 | .block _ x,hs,n=>
  let a:=mkAnn inl x hs (n+1)
  (wrapA (hintsAt n hs) (.block a.1),a.2)
 | .loop x,hs,n=>
  let a:=mkAnn inl x hs (n+1)
  (wrapA (hintsAt n hs) (loopA (fun hs=>(mkAnn inl x hs (n+1)).1) (hintsAt n hs) a.1),a.2)
 | .region ..,hs,n=>(wrapA (hintsAt n hs) (inlsA (roomL (hintsAt n hs)) (leafA inl (hintsAt n hs)) (inlsL inl (hintsAt n hs))),n+1)
 |_,hs,n=>(wrapA (hintsAt n hs) .leaf,n+1)
def inlN(code:FuncId->Option Func):Nat->FuncId->List (Nat×Hint)->Ann
 |0,_,_=> .leaf
 |n+1,g,hs=>match code g with
  |some fn=>match fn.body with
   |some c=>(mkAnn (inlN code n) c hs 0).1
   |none=> .leaf
  |none=> .leaf
def evA(C:Ctx)(f:Func)(mk:Code->Ann)(ps:List PK)(rs:List RK)(x:InT ps):Option (OutT rs (ioTy ps)):=match f.body with
 |some c=>
  let a:=startS ps x []
  evC C c (mk c) (fun e ρ H=>match e with| .ret| .normal=>collR C a.2.length H ρ ps f.results.toList rs (ioTy ps) some|_=>none) (env0 a.1) a.2
 |none=>none
def evF(C:Ctx)(f:Func)(hs:List (Nat×Hint))(ps:List PK)(rs:List RK)(x:InT ps):Option (OutT rs (ioTy ps)):=evA C f (fun c=>(mkAnn (inlN C.code 24) c hs 0).1) ps rs x
end Ev
end
end
section
namespace Ev
open Go
def one1:Value->Bool
 | .agg _| .tuple _=>false
 |_=>true
inductive RowR {α:Type} (R:α->List Value->Prop):List α->List Value->Prop
 |nil:RowR R [] []
 |cons {x u l us}:R x u->RowR R l us->RowR R (x::l) (u++us)
theorem RowR.mono{α:Type}{R R':α->List Value->Prop}(h: ∀x u,R x u->R' x u){l:List α}{us:List Value}(r:RowR R l us):RowR R' l us:=by
 induction r with
 |nil=>exact .nil
 |cons a _ ih=>exact .cons (h _ _ a) ih
theorem RowR.app{α:Type}{R:α->List Value->Prop}{l k:List α}{us vs:List Value}(r:RowR R l us)(q:RowR R k vs):RowR R (l++k) (us++vs):=by
 induction r with
 |nil=>exact q
 |cons a _ ih=>rw[List.append_assoc];exact .cons a ih
theorem RowR.length{α:Type}{R:α->List Value->Prop}{s:Nat}(hs: ∀x u,R x u->u.length=s){l:List α}{us:List Value}(r:RowR R l us):us.length=l.length*s:=by
 induction r with
 |nil=>simp
 |cons a _ ih=>rw[List.length_append,hs _ _ a,ih,List.length_cons,Nat.succ_mul,Nat.add_comm]
theorem RowR.take{α:Type}{R:α->List Value->Prop}{s:Nat}(hs: ∀x u,R x u->u.length=s){l:List α}{us:List Value}(r:RowR R l us)(n:Nat):RowR R (l.take n) (us.take (n*s)):=by
 induction r generalizing n with
 |nil=>simp;exact .nil
 | @cons x u l us a _ ih=>
  cases n with
  |zero=>simp;exact .nil
  |succ n=>
   have hu:=hs _ _ a
   rw[List.take_succ_cons,List.take_append,List.take_of_length_le (show u.length<=(n+1)*s by rw[hu,Nat.succ_mul];omega),show(n+1)*s-u.length=n*s by rw[hu,Nat.succ_mul];omega]
   exact .cons a (ih n)
theorem RowR.drop{α:Type}{R:α->List Value->Prop}{s:Nat}(hs: ∀x u,R x u->u.length=s){l:List α}{us:List Value}(r:RowR R l us)(n:Nat):RowR R (l.drop n) (us.drop (n*s)):=by
 induction r generalizing n with
 |nil=>simp;exact .nil
 | @cons x u l us a r ih=>
  cases n with
  |zero=>simp;exact .cons a r
  |succ n=>
   have hu:=hs _ _ a
   rw[List.drop_succ_cons,List.drop_append,List.drop_of_length_le (show u.length<=(n+1)*s by rw[hu,Nat.succ_mul];omega),show(n+1)*s-u.length=n*s by rw[hu,Nat.succ_mul];omega,List.nil_append]
   exact ih n
theorem RowR.get{α:Type}{R:α->List Value->Prop}{s:Nat}(hs: ∀x u,R x u->u.length=s){l:List α}{us:List Value}(r:RowR R l us){i:Nat}{x:α}(hx:l[i]?=some x):R x ((us.drop (i*s)).take s):=by
 induction r generalizing i with
 |nil=>simp at hx
 | @cons y u l us a _ ih=>
  have hu:=hs _ _ a
  cases i with
  |zero=>
   simp only[List.getElem?_cons_zero,Option.some.injEq]at hx
   subst hx
   simp only[Nat.zero_mul,List.drop_zero]
   rw[List.take_append_of_le_length (by omega),List.take_of_length_le (by omega)]
   exact a
  |succ i=>
   simp only[List.getElem?_cons_succ]at hx
   rw[List.drop_append,List.drop_of_length_le (by rw[hu,Nat.succ_mul];omega),show(i+1)*s-u.length=i*s by rw[hu,Nat.succ_mul];omega,List.nil_append]
   exact ih hx
theorem RowR.set{α:Type}{R:α->List Value->Prop}{s:Nat}(hs: ∀x u,R x u->u.length=s){l:List α}{us:List Value}(r:RowR R l us){i:Nat}{x:α}{u:List Value}(hx:R x u)(hi:i<l.length):RowR R (l.set i x) (us.take (i*s)++u++us.drop (i*s+s)):=by
 induction r generalizing i with
 |nil=>simp at hi
 | @cons y v l us a r ih=>
  have hv:=hs _ _ a
  cases i with
  |zero=>
   simp only[Nat.zero_mul,List.take_zero,List.nil_append,Nat.zero_add,List.set_cons_zero]
   rw[List.drop_append,List.drop_of_length_le (by omega),hv,Nat.sub_self,List.drop_zero,List.nil_append]
   exact .cons hx r
  |succ i=>
   rw[List.set_cons_succ,List.take_append,List.take_of_length_le (by rw[hv,Nat.succ_mul];omega),List.drop_append,List.drop_of_length_le (by rw[hv,Nat.succ_mul];omega),
    show(i+1)*s-v.length=i*s by rw[hv,Nat.succ_mul];omega,show(i+1)*s+s-v.length=i*s+s by rw[hv,Nat.succ_mul];omega,List.nil_append,List.append_assoc v,List.append_assoc v]
   exact .cons a (ih (by simpa using hi))
theorem RowR.replicate{α:Type}{R:α->List Value->Prop}{x:α}{u:List Value}(h:R x u)(n:Nat):RowR R (List.replicate n x) (List.replicate n u).flatten:=by
 induction n with
 |zero=>exact .nil
 |succ n ih=>rw[List.replicate_succ,List.replicate_succ,List.flatten_cons];exact .cons h ih
theorem RowR.all{α:Type}{R:α->List Value->Prop}{p:Value->Prop}(h: ∀x u,R x u-> ∀v∈u,p v){l:List α}{us:List Value}(r:RowR R l us): ∀v∈us,p v:=by
 induction r with
 |nil=>intro v hv;cases hv
 |cons a _ ih=>intro v hv;rcases List.mem_append.1 hv with hv|hv;exact h _ _ a v hv;exact ih v hv
def CellsAt(w:World)(B off:Nat)(us:List Value):Prop:= ∀(i:Nat) v,us[i]?=some v->w.cell? ⟨B,off+i,none⟩=some v
def RelC(w:World)(M:Nat->Prop):(t:Ty)->Val t->List Value->Prop
 | .i64,x,us=>us=[.int .i64 x]
 | .u8,x,us=>us=[.int .u8 (x:UInt8).toNat]
 | .u32,x,us=>us=[.int .u32 (x:UInt32).toNat]
 | .u64,x,us=>us=[.int .u64 (x:UInt64).toNat]
 | .bool,x,us=>us=[.bool x]
 | .str,x,us=>us=[.string ⟨(x:List UInt8).toArray⟩]
 | .unit,_,us=>us=[]
 | .pair a b,x,us=> ∃u v,us=u++v∧RelC w M a x.1 u∧RelC w M b x.2 v
 | .arr n e,x,us=>RowR (fun y u=>RelC w M e y u) (x:Vector (Val e) n).toList us
 | .sl e,l,us=>((l:List (Val e))=[]∧ ∃a c,us=[.slice a 0 c])∨
  ((l:List (Val e))≠[]∧ ∃B off cap vs,us=[.slice (some ⟨B,off,none⟩) (l:List (Val e)).length cap]∧(l:List (Val e)).length<=cap∧B<w.heap.size∧ ¬M B∧CellsAt w B off vs∧RowR (fun y u=>RelC w M e y u) l vs)
 | .op e,o,us=>((o:Option (Val e))=none∧us=[.pointer none])∨
  ∃y B off vs,(o:Option (Val e))=some y∧us=[.pointer (some ⟨B,off,none⟩)]∧B<w.heap.size∧ ¬M B∧CellsAt w B off vs∧RelC w M e y vs
theorem RelC.length{w:World}{M:Nat->Prop}: ∀ {t:Ty} {x:Val t} {us:List Value},RelC w M t x us->us.length=t.size
 | .i64,_,_,h| .u8,_,_,h| .u32,_,_,h| .u64,_,_,h| .bool,_,_,h| .str,_,_,h| .unit,_,_,h=>by
  simp only[RelC]at h;subst h;rfl
 | .pair a b,x,us,h=>by
  simp only[RelC]at h
  obtain⟨u,v,rfl,h1,h2⟩:=h
  rw[List.length_append,RelC.length h1,RelC.length h2];rfl
 | .arr n e,x,us,h=>by
  simp only[RelC]at h
  rw[RowR.length (fun _ _ k=>RelC.length k) h]
  simp[Ty.size]
 | .sl e,l,us,h=>by
  simp only[RelC]at h
  rcases h with⟨_,a,c,rfl⟩|⟨_,_,_,_,_,rfl,_⟩<;>rfl
 | .op e,o,us,h=>by
  simp only[RelC]at h
  rcases h with⟨_,rfl⟩|⟨_,_,_,_,_,rfl,_⟩<;>rfl
theorem RelC.one{w:World}{M:Nat->Prop}: ∀ {t:Ty} {x:Val t} {us:List Value},RelC w M t x us-> ∀v∈us,one1 v=true
 | .i64,_,_,h| .u8,_,_,h| .u32,_,_,h| .u64,_,_,h| .bool,_,_,h| .str,_,_,h| .unit,_,_,h=>by
  simp only[RelC]at h;subst h;simp[one1]
 | .pair a b,x,us,h=>by
  simp only[RelC]at h
  obtain⟨u,v,rfl,h1,h2⟩:=h
  intro y hy
  rcases List.mem_append.1 hy with hy|hy
  ·exact RelC.one h1 y hy
  ·exact RelC.one h2 y hy
 | .arr n e,x,us,h=>by
  simp only[RelC]at h
  exact RowR.all (fun _ _ k=>RelC.one k) h
 | .sl e,l,us,h=>by
  simp only[RelC]at h
  rcases h with⟨_,a,c,rfl⟩|⟨_,_,_,_,_,rfl,_⟩<;>simp[one1]
 | .op e,o,us,h=>by
  simp only[RelC]at h
  rcases h with⟨_,rfl⟩|⟨_,_,_,_,_,rfl,_⟩<;>simp[one1]
theorem cell?_cells{w:World}{B:Nat}{vs:Array Value}{e:TypeId}{fz:Nat×Nat}(h:w.heap[B]?=some (.cells vs e fz))(o:Nat):w.cell? ⟨B,o,none⟩=vs[o]?:=by
 simp[World.cell?,h]
theorem frozen?_cells{w:World}{B:Nat}{vs:Array Value}{e:TypeId}{fz:Nat×Nat}(h:w.heap[B]?=some (.cells vs e fz))(o:Nat):w.frozen? ⟨B,o,none⟩=(decide (fz.1<=o)&&decide (o<fz.2)):=by
 obtain⟨lo,hi⟩:=fz
 simp[World.frozen?,h]
theorem cell?_same{w w':World}{B:Nat}(h:w'.heap[B]?=w.heap[B]?)(o:Nat):w'.cell? ⟨B,o,none⟩=w.cell? ⟨B,o,none⟩:=by simp[World.cell?,h]
theorem alloc_old{w:World}{o:Obj}{B:Nat}(h:B<w.heap.size):(w.alloc o).heap[B]?=w.heap[B]?:=by
 show(w.heap.push o)[B]?=_
 rw[Array.getElem?_push,if_neg (by omega)]
theorem alloc_new{w:World}{o:Obj}:(w.alloc o).heap[w.heap.size]?=some o:=by
 show(w.heap.push o)[w.heap.size]?=_
 simp
theorem alloc_size{w:World}{o:Obj}:(w.alloc o).heap.size=w.heap.size+1:=by
 show(w.heap.push o).size=_
 simp
structure Keep (M:Nat->Prop) (w w':World):Prop where
 size:w.heap.size<=w'.heap.size
 blk: ∀B,B<w.heap.size-> ¬M B->w'.heap[B]?=w.heap[B]?
theorem Keep.refl(M:Nat->Prop)(w:World):Keep M w w:=⟨Nat.le_refl _,fun _ _ _=>rfl⟩
theorem CellsAt.keep{M:Nat->Prop}{w w':World}(k:Keep M w w'){B off:Nat}{us:List Value}(hB:B<w.heap.size)(hM: ¬M B)(h:CellsAt w B off us):CellsAt w' B off us:=
 fun i v hv=>by rw[cell?_same (k.blk B hB hM)];exact h i v hv
theorem CellsAt.take{w:World}{B off:Nat}{us:List Value}(h:CellsAt w B off us)(n:Nat):CellsAt w B off (us.take n):=by
 intro i v hv
 rw[List.getElem?_take]at hv
 split at hv
 ·exact h i v hv
 ·cases hv
theorem CellsAt.drop{w:World}{B off:Nat}{us:List Value}(h:CellsAt w B off us)(n:Nat):CellsAt w B (off+n) (us.drop n):=by
 intro i v hv
 rw[List.getElem?_drop]at hv
 have:=h _ v hv
 rwa[show off+n+i=off+(n+i)by omega]
theorem RelC.mono{M M':Nat->Prop}{w w':World}(k:Keep M w w')(hM: ∀B,B<w.heap.size->M' B->M B): ∀ {t:Ty} {x:Val t} {us:List Value},RelC w M t x us->RelC w' M' t x us
 | .i64,_,_,h| .u8,_,_,h| .u32,_,_,h| .u64,_,_,h| .bool,_,_,h| .str,_,_,h| .unit,_,_,h=>by
  simp only[RelC]at h⊢;exact h
 | .pair a b,x,us,h=>by
  simp only[RelC]at h⊢
  obtain⟨u,v,rfl,h1,h2⟩:=h
  exact⟨u,v,rfl,RelC.mono k hM h1,RelC.mono k hM h2⟩
 | .arr n e,x,us,h=>by
  simp only[RelC]at h⊢
  exact RowR.mono (fun _ _ q=>RelC.mono k hM q) h
 | .sl e,l,us,h=>by
  simp only[RelC]at h⊢
  rcases h with h|⟨h0,B,off,cap,vs,h1,h2,h3,h4,h5,h6⟩
  ·exact .inl h
  ·exact .inr ⟨h0,B,off,cap,vs,h1,h2,Nat.lt_of_lt_of_le h3 k.size,fun hc=>h4 (hM B h3 hc),h5.keep k h3 h4,RowR.mono (fun _ _ q=>RelC.mono k hM q) h6⟩
 | .op e,o,us,h=>by
  simp only[RelC]at h⊢
  rcases h with h|⟨y,B,off,vs,h0,h1,h3,h4,h5,h6⟩
  ·exact .inl h
  ·exact .inr ⟨y,B,off,vs,h0,h1,Nat.lt_of_lt_of_le h3 k.size,fun hc=>h4 (hM B h3 hc),h5.keep k h3 h4,RelC.mono k hM h6⟩
def RelV(w:World)(M:Nat->Prop)(t:Ty)(x:Val t)(v:Value):Prop:=match t.agg with
 |true=> ∃vs:Array Value,v= .agg vs∧RelC w M t x vs.toList
 |false=>RelC w M t x [v]
theorem RelV.mono{M M':Nat->Prop}{w w':World}(k:Keep M w w')(hM: ∀B,B<w.heap.size->M' B->M B){t:Ty}{x:Val t}{v:Value}(h:RelV w M t x v):RelV w' M' t x v:=by
 unfold RelV at h⊢
 split at h
 ·obtain⟨vs,rfl,h⟩:=h;exact⟨vs,rfl,h.mono k hM⟩
 ·exact h.mono k hM
theorem RelV.cells{w:World}{M:Nat->Prop}{t:Ty}{x:Val t}{v:Value}(h:RelV w M t x v):RelC w M t x v.cells.toList:=by
 unfold RelV at h
 split at h
 ·obtain⟨vs,rfl,h⟩:=h;exact h
 ·rename_i ha
  have h1:=h.one v (by simp)
  cases v<;>simp_all[Value.cells,one1]
end Ev
end
section
namespace Ev
open Go
theorem nbeq{a b:Nat}:(Nat.beq a b=true)↔a=b:=by rw[Nat.beq_eq]
theorem nble{a b:Nat}:(Nat.ble a b=true)↔a<=b:=by rw[Nat.ble_eq]
def tsz(P:Program)(t:TypeId):Option Nat:=(P.info? t).map (·.size)
def tby(P:Program)(t:TypeId):Option Nat:=(P.info? t).map (·.bytes)
def aggD:TypeDesc->Bool
 | .struct _| .array _ _=>true
 |_=>false
def isAggT(P:Program)(t:TypeId):Option Bool:=(P.underlying t).map aggD
def zeroT(P:Program)(t:TypeId):Option (List Value):=((P.info? t).bind (·.zero)).map fun v=>v.cells.toList
def Ty.zeroC:Ty->List Value
 | .i64=>[.int .i64 0]| .u8=>[.int .u8 0]| .u32=>[.int .u32 0]| .u64=>[.int .u64 0]| .bool=>[.bool false]| .str=>[.string ⟨#[]⟩]| .unit=>[]
 | .sl _=>[.slice none 0 0]| .pair a b=>a.zeroC++b.zeroC| .arr n e=>(List.replicate n e.zeroC).flatten| .op _=>[.pointer none]
theorem zero_rel(w:World)(M:Nat->Prop): ∀t:Ty,RelC w M t t.zero t.zeroC
 | .i64| .u8| .u32| .u64| .bool| .str| .unit=>by simp only[RelC,Ty.zero,Ty.zeroC];try rfl
 | .sl e=>by simp only[RelC];exact .inl ⟨rfl,none,0,rfl⟩
 | .op e=>by simp only[RelC];exact .inl ⟨rfl,rfl⟩
 | .pair a b=>by simp only[RelC];exact⟨_,_,rfl,zero_rel w M a,zero_rel w M b⟩
 | .arr n e=>by
  simp only[RelC,Ty.zero,Ty.zeroC,Vector.toList_replicate]
  exact RowR.replicate (zero_rel w M e) n
structure Base (P:Program) (T:TypeId) (t:Ty):Prop where
 sz:tsz P T=some t.size
 by_: ∃b,tby P T=some b∧b<=16384∧(t.size=0∨0<b)
 zero:zeroT P T=some t.zeroC
 grd:t.eqOk=true->t.agg=true->P.eqGuardType P.depth T=false
 held:t.eqOk=true->t.agg=true->P.stoodInHeld T=false
def TyR(P:Program):Ty->(TypeId->Prop)×(List Field->Nat->Prop)
 | .i64=>(fun T=>Base P T .i64∧P.underlying T=some (.int .i64),fun _ _=>False)
 | .u8=>(fun T=>Base P T .u8∧P.underlying T=some (.int .u8),fun _ _=>False)
 | .u32=>(fun T=>Base P T .u32∧P.underlying T=some (.int .u32),fun _ _=>False)
 | .u64=>(fun T=>Base P T .u64∧P.underlying T=some (.int .u64),fun _ _=>False)
 | .bool=>(fun T=>Base P T .bool∧P.underlying T=some .bool,fun _ _=>False)
 | .str=>(fun T=>Base P T .str∧P.underlying T=some .string,fun _ _=>False)
 | .sl e=>(fun T=>Base P T (.sl e)∧ ∃E,P.underlying T=some (.slice E)∧(TyR P e).1 E∧0<e.size,fun _ _=>False)
 | .op e=>(fun T=>Base P T (.op e)∧ ∃E,P.underlying T=some (.pointer E),fun _ _=>False)
 | .arr n e=>(fun T=>Base P T (.arr n e)∧ ∃E,P.underlying T=some (.array n E)∧(TyR P e).1 E∧0<e.size,fun _ _=>False)
 | .unit=>(fun T=>Base P T .unit∧ ∃fs:Array Field,P.underlying T=some (.struct fs)∧fs.toList=[],fun fs _=>fs=[])
 | .pair a b=>(fun T=>Base P T (.pair a b)∧ ∃fs:Array Field,P.underlying T=some (.struct fs)∧ ∃f r,fs.toList=f::r∧f.offset=0∧f.name≠ "_" ∧(TyR P a).1 f.type∧0<a.size∧(TyR P b).2 r a.size,
  fun fs off=> ∃f r,fs=f::r∧f.offset=off∧f.name≠ "_" ∧(TyR P a).1 f.type∧0<a.size∧(TyR P b).2 r (off+a.size))
def TyOk(P:Program)(T:TypeId)(t:Ty):Prop:=(TyR P t).1 T
def valEq:Value->Value->Bool
 | .int k a, .int k' b=>decide (k=k')&&decide (a=b)
 | .bool a, .bool b=>decide (a=b)
 | .string a, .string b=>decide (a.data.toList=b.data.toList)
 | .slice none 0 0, .slice none 0 0=>true
 | .pointer none, .pointer none=>true
 |_,_=>false
theorem valEq_eq{a b:Value}(h:valEq a b=true):a=b:=by
 unfold valEq at h
 split at h<;>try (first|rfl|cases h;done)
 ·simp only[Bool.and_eq_true,decide_eq_true_eq]at h;rw[h.1,h.2]
 ·simp only[decide_eq_true_eq]at h;rw[h]
 ·rename_i a b
  simp only[decide_eq_true_eq]at h
  cases a;cases b;simp only at h
  congr 2;exact Array.toList_inj.1 h
def valsEq:List Value->List Value->Bool
 |[],[]=>true
 |a::l,b::k=>valEq a b&&valsEq l k
 |_,_=>false
theorem valsEq_eq: ∀ {l k:List Value},valsEq l k=true->l=k
 |[],[],_=>rfl
 |a::l,b::k,h=>by
  simp only[valsEq,Bool.and_eq_true]at h
  rw[valEq_eq h.1,valsEq_eq h.2]
 |[],_::_,h=>by cases h
 |_::_,[],h=>by cases h
def baseB(P:Program)(T:TypeId)(t:Ty):Bool:=match P.info? T with
 |some i=>Nat.beq i.size t.size&&Nat.ble i.bytes 16384&&(Nat.beq t.size 0||Nat.ble 1 i.bytes)&&(match i.zero with|some v=>valsEq v.cells.toList t.zeroC|none=>false)&&(!t.eqOk|| !t.agg||(!P.eqGuardType P.depth T&& !P.stoodInHeld T))
 |none=>false
theorem baseB_ok{P:Program}{T:TypeId}{t:Ty}(h:baseB P T t=true):Base P T t:=by
 unfold baseB at h
 split at h
 ·rename_i i hi
  simp only[Bool.and_eq_true,Bool.or_eq_true,nbeq,nble]at h
  obtain⟨⟨⟨⟨h1,h2⟩,h3⟩,h4⟩,h5⟩:=h
  refine⟨by simp[tsz,hi,h1],⟨i.bytes,by simp[tby,hi],h2,h3.imp id (fun h=>h)⟩,?_,fun q1 q2=>by simp[q1,q2]at h5;exact h5.1,fun q1 q2=>by simp[q1,q2]at h5;exact h5.2⟩
  split at h4
  ·rename_i v hv
   simp[zeroT,hi,hv,valsEq_eq h4]
  ·cases h4
 ·cases h
def TyB(P:Program):Ty->(TypeId->Bool)×(List Field->Nat->Bool)
 | .i64=>(fun T=>baseB P T .i64&&(match P.underlying T with|some (.int .i64)=>true|_=>false),fun _ _=>false)
 | .u8=>(fun T=>baseB P T .u8&&(match P.underlying T with|some (.int .u8)=>true|_=>false),fun _ _=>false)
 | .u32=>(fun T=>baseB P T .u32&&(match P.underlying T with|some (.int .u32)=>true|_=>false),fun _ _=>false)
 | .u64=>(fun T=>baseB P T .u64&&(match P.underlying T with|some (.int .u64)=>true|_=>false),fun _ _=>false)
 | .bool=>(fun T=>baseB P T .bool&&(match P.underlying T with|some .bool=>true|_=>false),fun _ _=>false)
 | .str=>(fun T=>baseB P T .str&&(match P.underlying T with|some .string=>true|_=>false),fun _ _=>false)
 | .sl e=>(fun T=>baseB P T (.sl e)&&(match P.underlying T with|some (.slice E)=>(TyB P e).1 E&&Nat.ble 1 e.size|_=>false),fun _ _=>false)
 | .op e=>(fun T=>baseB P T (.op e)&&(match P.underlying T with|some (.pointer _)=>true|_=>false),fun _ _=>false)
 | .arr n e=>(fun T=>baseB P T (.arr n e)&&(match P.underlying T with|some (.array m E)=>Nat.beq m n&&(TyB P e).1 E&&Nat.ble 1 e.size|_=>false),fun _ _=>false)
 | .unit=>(fun T=>baseB P T .unit&&(match P.underlying T with|some (.struct fs)=>fs.toList.isEmpty|_=>false),fun fs _=>fs.isEmpty)
 | .pair a b=>(fun T=>baseB P T (.pair a b)&&(match P.underlying T with
  |some (.struct fs)=>(match fs.toList with|f::r=>Nat.beq f.offset 0&& !(f.name== "_")&&(TyB P a).1 f.type&&Nat.ble 1 a.size&&(TyB P b).2 r a.size|[]=>false)
  |_=>false),
  fun fs off=>match fs with|f::r=>Nat.beq f.offset off&& !(f.name== "_")&&(TyB P a).1 f.type&&Nat.ble 1 a.size&&(TyB P b).2 r (off+a.size)|[]=>false)
theorem TyB_ok(P:Program): ∀t:Ty,(∀T,(TyB P t).1 T=true->(TyR P t).1 T)∧(∀fs off,(TyB P t).2 fs off=true->(TyR P t).2 fs off)
 | .i64| .u8| .u32| .u64| .bool| .str=>by
  refine⟨fun T h=> ?_,fun fs off h=>by cases h⟩
  simp only[TyB,Bool.and_eq_true]at h
  refine⟨baseB_ok h.1,?_⟩
  have h2:=h.2
  split at h2
  ·assumption
  ·cases h2
 | .sl e=>by
  refine⟨fun T h=> ?_,fun fs off h=>by cases h⟩
  simp only[TyB,Bool.and_eq_true]at h
  refine⟨baseB_ok h.1,?_⟩
  have h2:=h.2
  split at h2
  ·rename_i E hE
   simp only[Bool.and_eq_true,nble]at h2
   exact⟨E,hE,(TyB_ok P e).1 E h2.1,h2.2⟩
  ·cases h2
 | .op e=>by
  refine⟨fun T h=> ?_,fun fs off h=>by cases h⟩
  simp only[TyB,Bool.and_eq_true]at h
  refine⟨baseB_ok h.1,?_⟩
  have h2:=h.2
  split at h2
  ·rename_i E hE;exact⟨E,hE⟩
  ·cases h2
 | .arr n e=>by
  refine⟨fun T h=> ?_,fun fs off h=>by cases h⟩
  simp only[TyB,Bool.and_eq_true]at h
  refine⟨baseB_ok h.1,?_⟩
  have h2:=h.2
  split at h2
  ·rename_i m E hE
   simp only[Bool.and_eq_true,nble,nbeq]at h2
   obtain⟨⟨h3,h4⟩,h5⟩:=h2
   subst h3
   exact⟨E,hE,(TyB_ok P e).1 E h4,h5⟩
  ·cases h2
 | .unit=>by
  refine⟨fun T h=> ?_,fun fs off h=>by simpa[TyB,TyR]using h⟩
  simp only[TyB,Bool.and_eq_true]at h
  refine⟨baseB_ok h.1,?_⟩
  have h2:=h.2
  split at h2
  ·rename_i fs hE;exact⟨fs,hE,by simpa using h2⟩
  ·cases h2
 | .pair a b=>by
  refine⟨fun T h=> ?_,fun fs off h=> ?_⟩
  ·simp only[TyB,Bool.and_eq_true]at h
   refine⟨baseB_ok h.1,?_⟩
   have h2:=h.2
   split at h2
   ·rename_i fs hE
    refine⟨fs,hE,?_⟩
    split at h2
    ·rename_i f r hf
     simp only[Bool.and_eq_true,nble,nbeq,Bool.not_eq_true',beq_eq_false_iff_ne]at h2
     obtain⟨⟨⟨⟨h3,h4⟩,h5⟩,h6⟩,h7⟩:=h2
     exact⟨f,r,hf,h3,h4,(TyB_ok P a).1 _ h5,h6,(TyB_ok P b).2 _ _ h7⟩
    ·cases h2
   ·cases h2
  ·simp only[TyB]at h
   split at h
   ·rename_i f r
    simp only[Bool.and_eq_true,nble,nbeq,Bool.not_eq_true',beq_eq_false_iff_ne]at h
    obtain⟨⟨⟨⟨h3,h4⟩,h5⟩,h6⟩,h7⟩:=h
    exact⟨f,r,rfl,h3,h4,(TyB_ok P a).1 _ h5,h6,(TyB_ok P b).2 _ _ h7⟩
   ·cases h
def tyOkB(P:Program)(T:TypeId)(t:Ty):Bool:=(TyB P t).1 T
theorem tyOkB_ok{P:Program}{T:TypeId}{t:Ty}(h:tyOkB P T t=true):TyOk P T t:=(TyB_ok P t).1 T h
theorem TyOk.base{P:Program}{T:TypeId}: ∀ {t:Ty},TyOk P T t->Base P T t
 | .i64,h| .u8,h| .u32,h| .u64,h| .bool,h| .str,h| .sl _,h| .op _,h| .arr _ _,h| .unit,h| .pair _ _,h=>h.1
theorem TyOk.isAgg{P:Program}{T:TypeId}: ∀ {t:Ty},TyOk P T t->isAggT P T=some t.agg
 | .i64,h| .u8,h| .u32,h| .u64,h| .bool,h| .str,h=>by
  have h2:=h.2;unfold isAggT;rw[h2];rfl
 | .sl _,h=>by obtain⟨_,E,h2,_⟩:=h;unfold isAggT;rw[h2];rfl
 | .op _,h=>by obtain⟨_,E,h2⟩:=h;unfold isAggT;rw[h2];rfl
 | .arr _ _,h=>by obtain⟨_,E,h2,_⟩:=h;unfold isAggT;rw[h2];rfl
 | .unit,h=>by obtain⟨_,E,h2,_⟩:=h;unfold isAggT;rw[h2];rfl
 | .pair _ _,h=>by obtain⟨_,E,h2,_⟩:=h;unfold isAggT;rw[h2];rfl
structure CellOk (P:Program) (T:TypeId):Prop where
 sz:tsz P T=some 1
 agg:isAggT P T=some false
 zero: ∃z,zeroT P T=some [z]∧one1 z=true
def MapOk(P:Program)(T:TypeId):Prop:= ∃key elem kk,P.underlying T=some (.map key elem)∧P.underlying key=some (.int kk)∧zeroT P elem=some [.nilFunc]
def mapB(P:Program)(T:TypeId):Bool:=match P.underlying T with
 |some (.map key elem)=>(match P.underlying key with|some (.int _)=>true|_=>false)&&(match zeroT P elem with|some [.nilFunc]=>true|_=>false)
 |_=>false
theorem mapB_ok{P:Program}{T:TypeId}(h:mapB P T=true):MapOk P T:=by
 unfold mapB at h
 split at h
 ·rename_i key elem hu
  rw[Bool.and_eq_true]at h
  obtain⟨h1,h2⟩:=h
  split at h1
  ·rename_i kk hk
   split at h2
   ·rename_i hz;exact⟨key,elem,kk,hu,hk,hz⟩
   ·cases h2
  ·cases h1
 ·cases h
def cellB(P:Program)(T:TypeId):Bool:=match P.info? T,P.underlying T with
 |some i,some d=>Nat.beq i.size 1&& !(aggD d)&&(match i.zero with|some v=>(match v.cells.toList with|[z]=>one1 z|_=>false)|none=>false)
 |_,_=>false
theorem cellB_ok{P:Program}{T:TypeId}(h:cellB P T=true):CellOk P T:=by
 unfold cellB at h
 split at h
 ·rename_i i d hi hd
  simp only[Bool.and_eq_true,nbeq,Bool.not_eq_true']at h
  obtain⟨⟨h1,h2⟩,h3⟩:=h
  refine⟨by simp[tsz,hi,h1],by simp[isAggT,hd,h2],?_⟩
  split at h3
  ·rename_i v hv
   split at h3
   ·rename_i z hz
    exact⟨z,by simp[zeroT,hi,hv,hz],h3⟩
   ·cases h3
  ·cases h3
 ·cases h
end Ev
end
section
namespace Ev
open Go
structure Loc where
 blk:Nat
 off:Nat
 sz:Nat
 nil:Bool
def offV:(t:Ty)->List Stp->Option (Nat×Ty)
 |t,[]=>some (0,t)
 | .pair a _, .fld 0::p=>offV a p
 | .pair a b, .fld (i+1)::p=>(offV b (.fld i::p)).map fun r=>(a.size+r.1,r.2)
 | .arr n e, .idx i::p=>if i<n then(offV e p).map fun r=>(i*e.size+r.1,r.2)else none
 |_,_=>none
def offE(x:Ent)(p:List Stp):Option (Nat×Ty):=match x with
 | .mem _ false t _=>offV t p
 | .mem _ true (.sl e) l=>match p with
  | .idx i::p=>if i<(l:List (Val e)).length then(offV e p).map fun r=>(i*e.size+r.1,r.2)else none
  |_=>none
 |_=>none
def arrE(x:Ent)(p:List Stp):Option (Nat×Nat×Ty):=match x with
 | .mem _ false t _=>match offV t p with
  |some (o, .arr n e)=>some (n,o,e)
  |_=>none
 | .mem _ true (.sl e) l=>match p with
  |[]=>some ((l:List (Val e)).length,0,e)
  |p=>match offE x p with
   |some (o, .arr n e)=>some (n,o,e)
   |_=>none
 |_=>none
def tabs:List (String×List Value):=[("internal/strconv.uint64pow10",Lib.pow10Tab.map fun z=>Value.int .u64 z)]
def Glob(P:Program)(M:Nat->Prop)(w:World):Prop:= ∀name vs,(name,vs)∈tabs-> ∀gid,P.globalNamed name=some gid->w.var? P name=some vs.toArray∧gid<w.heap.size∧ ¬M gid
theorem Glob.mono{P:Program}{M M':Nat->Prop}{w w':World}(h:Glob P M w)(k:Keep M w w')(hM: ∀B,B<w.heap.size->M' B->M B):Glob P M' w':=by
 intro name vs hm gid hg
 obtain⟨h1,h2,h3⟩:=h name vs hm gid hg
 refine⟨?_,Nat.lt_of_lt_of_le h2 k.size,fun hc=>h3 (hM gid h2 hc)⟩
 unfold World.var? at h1⊢
 rw[hg]at h1⊢
 simp only[Option.bind_some]at h1⊢
 rw[k.blk gid h2 h3]
 exact h1
structure Pure (w w':World):Prop where
 size:w.heap.size<=w'.heap.size
 blk: ∀B,B<w.heap.size->w'.heap[B]?=w.heap[B]?
 os:w'.os=w.os
 tape:w'.tape=w.tape
 output:w'.output=w.output
theorem Pure.keep{w w':World}(h:Pure w w')(M:Nat->Prop):Keep M w w':=⟨h.size,fun B hB _=>h.blk B hB⟩
theorem Keep.trans{M M':Nat->Prop}{a b c:World}(h:Keep M a b)(k:Keep M' b c)(hM: ∀B,B<a.heap.size->M' B->M B):Keep M a c:=
 ⟨Nat.le_trans h.size k.size,fun B hB hn=>(k.blk B (Nat.lt_of_lt_of_le hB h.size) (fun hc=>hn (hM B hB hc))).trans (h.blk B hB hn)⟩
def callOk(P:Program)(f:FuncId):Bool:=match P.funcs[f]? with
 |some fn=>fn.body.isSome&& !(fn.name== "runtime.NumGoroutine")
 |none=>false
def ValsR(w:World)(M:Nat->Prop):(ts:List Ty)->Vals ts->List Value->Prop
 |[],_,us=>us=[]
 |[t],x,us=> ∃u,us=[u]∧RelV w M t x u
 |t::s::ts,x,us=> ∃u vs,us=u::vs∧RelV w M t x.1 u∧ValsR w M (s::ts) x.2 vs
def OutsR(w:World)(M:Nat->Prop)(ts:List Ty)(x:Vals ts)(v:Value):Prop:= ∃us,ValsR w M ts x us∧v=(match us with|[u]=>u|us=> .tuple us.toArray)
def FnvOk(P:Program)(w:World)(M:Nat->Prop)(f:FuncId)(fv cv:List Value)(ins outs:List Ty)(g:Vals ins->Option (Vals outs)):Prop:=
 ∀(w1:World) (M1:Nat->Prop),Keep M w w1->(∀B,B<w.heap.size->M1 B->M B)->(∀B,M1 B->B<w1.heap.size)->Glob P M1 w1->
  ∀(y:Vals ins) (vs:List Value),ValsR w1 M1 ins y vs-> ∀r,g y=some r->
   callOk P f=true∧Calls P f (fv++vs++cv).toArray w1 (fun e w2=> ∃v,e= .returned v∧OutsR w2 M1 outs r v∧Pure w1 w2)
theorem FnvOk.mono{P:Program}{M M':Nat->Prop}{w w':World}(k:Keep M w w')(hM: ∀B,B<w.heap.size->M' B->M B){f:FuncId}{fv cv:List Value}{ins outs:List Ty}{g:Vals ins->Option (Vals outs)}
 (h:FnvOk P w M f fv cv ins outs g):FnvOk P w' M' f fv cv ins outs g:=
 fun w1 M1 k1 hM1 hlt hg y vs hy r hr=>h w1 M1 (k.trans k1 hM) (fun B hB hc=>hM B hB (hM1 B (Nat.lt_of_lt_of_le hB k.size) hc)) hlt hg y vs hy r hr
def OwnV(l:Loc)(e:Ty)(n:Nat)(v:Value):Prop:=
 (l.nil=true∧n=0∧v= .slice none 0 0)∨(l.nil=false∧l.off=0∧ ∃cap,v= .slice (some ⟨l.blk,0,none⟩) n cap∧n<=cap∧cap*e.size<=l.sz)
def OwnC(l:Loc)(sz n:Nat)(v:Value):Prop:=l.nil=false∧l.off=0∧ ∃cap,v= .slice (some ⟨l.blk,0,none⟩) n cap∧n<=cap∧cap*sz<=l.sz
inductive RelD (P:Program) (H:Heap) (L:Nat->Loc) (w:World) (M:Nat->Prop):DV->Value->Prop
 |v {t x v} (h:RelV w M t x v):RelD P H L w M (.v t x) v
 |own {b s e} {l:Val (.sl e)} {v} (h:hget H b= .mem s true (.sl e) l) (k:OwnV (L b) e (l:List (Val e)).length v):RelD P H L w M (.own b) v
 |ownc {b s sz l v} (h:hget H b= .cells s sz l) (k:OwnC (L b) sz (l.length/sz) v):RelD P H L w M (.own b) v
 |agg {l} {cs:Array Value} (hl:l.length=cs.size) (ho: ∀u∈cs.toList,one1 u=true) (h: ∀(i:Nat) x v,l[i]?=some x->cs[i]?=some v->RelD P H L w M x v):RelD P H L w M (.agg l) (.agg cs)
 |mp {l r es ck} (h1:r<w.heap.size) (h2: ¬M r) (h3:w.heap[r]?=some (.map es ck)) (h4:(es.toList.map fun e=>(e.key,e.val))=l.map fun q=>(Value.int .i64 q.1,Value.func (.func q.2) #[] #[])):RelD P H L w M (.mp l) (.map (some r))
 |nils:RelD P H L w M .nils (.slice none 0 0)
 |ptr {b p o t} (h:offE (hget H b) p=some (o,t)):RelD P H L w M (.ptr b p) (.pointer (some ⟨(L b).blk,(L b).off+o,none⟩))
 |ptrc {b s x} (h:hget H b= .cell s x):RelD P H L w M (.ptr b []) (.pointer (some ⟨(L b).blk,(L b).off,none⟩))
 |ptrx {b o s sz l} (h:hget H b= .cells s sz l) (ho:o<=l.length):RelD P H L w M (.ptr b [.idx o]) (.pointer (some ⟨(L b).blk,(L b).off+o,none⟩))
 |win {b p off len a cap n o e} (h:arrE (hget H b) p=some (n,o,e)) (h1:off+len<=n) (h2:len<=cap) (h3:len=0∨a=some ⟨(L b).blk,(L b).off+o+off*e.size,none⟩):RelD P H L w M (.win b p off len) (.slice a len cap)
 |winx {b n s e} {l:Val (.sl e)} (h:hget H b= .mem s true (.sl e) l) (hn:(L b).nil=false) (ho:(L b).off=0) (h1:n<=(l:List (Val e)).length):RelD P H L w M (.winx b n) (.slice (some ⟨(L b).blk,0,none⟩) n (l:List (Val e)).length)
 |fp {t x B off us} (h1:B<w.heap.size) (h2: ¬M B) (h3:CellsAt w B off us) (h4:RelC w M t x us):RelD P H L w M (.fp t x) (.pointer (some ⟨B,off,none⟩))
 |fpf {x B off u} (h1:B<w.heap.size) (h2: ¬M B) (h3:w.cell? ⟨B,off,none⟩=some u) (h4:one1 u=true) (h5:RelD P H L w M x u):RelD P H L w M (.fpf x) (.pointer (some ⟨B,off,none⟩))
 |fn {f fs cs} {fv cv:Array Value} (hl:fs.length=fv.size) (hf: ∀(i:Nat) x v,fs[i]?=some x->fv[i]?=some v->RelD P H L w M x v) (kl:cs.length=cv.size) (hc: ∀(i:Nat) x v,cs[i]?=some x->cv[i]?=some v->RelD P H L w M x v):RelD P H L w M (.fn f fs cs) (.func (.func f) fv cv)
 |fnv {f ins outs g} {fv cv:Array Value} (h:FnvOk P w M f fv.toList cv.toList ins outs g):RelD P H L w M (.fnv ins outs g) (.func (.func f) fv cv)
 |tup {l} {vs:Array Value} (hl:l.length=vs.size) (h: ∀(i:Nat) x v,l[i]?=some x->vs[i]?=some v->RelD P H L w M x v):RelD P H L w M (.tup l) (.tuple vs)
 |ifc {T x v} (h:RelD P H L w M x v):RelD P H L w M (.ifc T x) (.iface T v)
 |nilp:RelD P H L w M .nilp (.pointer none)
 |nilf:RelD P H L w M .nilf .nilFunc
 |skp:RelD P H L w M .skp undef
 |undef {v}:RelD P H L w M .undef v
def RelL(P:Program)(H:Heap)(L:Nat->Loc)(w:World)(M:Nat->Prop)(xs:List DV)(vs:List Value):Prop:=
 xs.length=vs.length∧ ∀(i:Nat) x v,xs[i]?=some x->vs[i]?=some v->RelD P H L w M x v
def ExtE:Ent->Ent->Prop
 | .mem _ false t _,y=> ∃s x,y= .mem s false t x
 | .mem _ true (.sl e) l,y=> ∃s,∃k:Val (.sl e),y= .mem s true (.sl e) k∧(k:List (Val e)).length=(l:List (Val e)).length
 | .mem s true t x,y=>y= .mem s true t x
 | .cell _ _,y=> ∃s x,y= .cell s x
 | .cells _ sz l,y=> ∃s,∃k:List DV,y= .cells s sz k∧k.length=l.length
 | .gone,_=>True
theorem ExtE.refl(x:Ent):ExtE x x:=by
 unfold ExtE;split<;>first|exact⟨_,_,rfl⟩|exact⟨_,_,rfl,rfl⟩|rfl|trivial
theorem ExtE.trans{x y z:Ent}(h:ExtE x y)(k:ExtE y z):ExtE x z:=by
 unfold ExtE at h
 split at h
 ·obtain⟨s,x,rfl⟩:=h;exact k
 ·obtain⟨s,l,rfl,h⟩:=h
  simp only[ExtE]at k⊢
  obtain⟨s',l',h1,h2⟩:=k
  exact⟨s',l',h1,h2.trans h⟩
 ·subst h;exact k
 ·obtain⟨s,x,rfl⟩:=h;exact k
 ·obtain⟨s,l,rfl,h⟩:=h
  simp only[ExtE]at k⊢
  obtain⟨s',l',h1,h2⟩:=k
  exact⟨s',l',h1,h2.trans h⟩
 ·trivial
theorem ExtE.off{x y:Ent}(h:ExtE x y){p:List Stp}{r:Nat×Ty}(k:offE x p=some r):offE y p=some r:=by
 unfold ExtE at h
 split at h
 ·obtain⟨s,x,rfl⟩:=h;exact k
 ·obtain⟨s,l,rfl,h⟩:=h
  simp only[offE]at k⊢
  rw[h];exact k
 ·subst h;exact k
 ·cases k
 ·cases k
 ·cases k
theorem ExtE.arr{x y:Ent}(h:ExtE x y){p:List Stp}{r:Nat×Nat×Ty}(k:arrE x p=some r):arrE y p=some r:=by
 unfold ExtE at h
 split at h
 ·obtain⟨s,x,rfl⟩:=h;exact k
 ·obtain⟨s,l,rfl,h⟩:=h
  cases p with
  |nil=>simp only[arrE]at k⊢;rw[h];exact k
  |cons q p=>simp only[arrE,offE]at k⊢;rw[h];exact k
 ·subst h;exact k
 ·cases k
 ·cases k
 ·cases k
structure Ext (H:Heap) (L:Nat->Loc) (H':Heap) (L':Nat->Loc):Prop where
 len:H.length<=H'.length
 ent: ∀b,ExtE (hget H b) (hget H' b)
 loc: ∀b,hget H b≠ .gone->L' b=L b
theorem Ext.refl(H:Heap)(L:Nat->Loc):Ext H L H L:=⟨Nat.le_refl _,fun _=>ExtE.refl _,fun _ _=>rfl⟩
theorem ExtE.live{x y:Ent}(h:ExtE x y)(hx:x≠ .gone):y≠ .gone:=by
 unfold ExtE at h
 split at h
 ·obtain⟨s,x,rfl⟩:=h;simp
 ·obtain⟨s,l,rfl,h⟩:=h;simp
 ·subst h;simp
 ·obtain⟨s,x,rfl⟩:=h;simp
 ·obtain⟨s,x,rfl,h⟩:=h;simp
 ·exact absurd rfl hx
theorem Ext.trans{H1 H2 H3:Heap}{L1 L2 L3:Nat->Loc}(h:Ext H1 L1 H2 L2)(k:Ext H2 L2 H3 L3):Ext H1 L1 H3 L3:=
 ⟨Nat.le_trans h.len k.len,fun b=>(h.ent b).trans (k.ent b),fun b hb=>(k.loc b ((h.ent b).live hb)).trans (h.loc b hb)⟩
theorem RelD.mono{P:Program}{H H':Heap}{L L':Nat->Loc}{w w':World}{M M':Nat->Prop}(k:Keep M w w')(hM: ∀B,B<w.heap.size->M' B->M B)(he:Ext H L H' L'){x:DV}{v:Value}(h:RelD P H L w M x v):RelD P H' L' w' M' x v:=by
 induction h with
 |v h=>exact .v (h.mono k hM)
 | @own b s e l v h q=>
  have:=he.ent b
  rw[h]at this
  simp only[ExtE]at this
  obtain⟨s',l',h1,h2⟩:=this
  refine .own h1 ?_
  rw[he.loc b (by rw[h];simp),h2];exact q
 | @ownc b s sz l v h q=>
  have:=he.ent b
  rw[h]at this
  simp only[ExtE]at this
  obtain⟨s',l',h1,h2⟩:=this
  refine .ownc h1 ?_
  rw[he.loc b (by rw[h];simp),h2];exact q
 |agg hl ho _ ih=>exact .agg hl ho ih
 |mp h1 h2 h3 h4=>exact .mp (Nat.lt_of_lt_of_le h1 k.size) (fun hc=>h2 (hM _ h1 hc)) (by rw[k.blk _ h1 h2];exact h3) h4
 |nils=>exact .nils
 | @ptr b p o t h=>
  rw[←he.loc b (by intro hc;rw[hc]at h;cases h)]
  exact .ptr ((he.ent b).off h)
 | @ptrc b s x h=>
  have:=he.ent b
  rw[h]at this
  simp only[ExtE]at this
  obtain⟨s',x',h1⟩:=this
  rw[←he.loc b (by rw[h];simp)]
  exact .ptrc h1
 | @ptrx b o s sz l h ho=>
  have:=he.ent b
  rw[h]at this
  simp only[ExtE]at this
  obtain⟨s',l',h1,h2⟩:=this
  rw[←he.loc b (by rw[h];simp)]
  exact .ptrx h1 (by omega)
 | @win b p off len a cap n o e h h1 h2 h3=>
  refine .win ((he.ent b).arr h) h1 h2 ?_
  rw[he.loc b (by intro hc;rw[hc]at h;cases h)];exact h3
 | @winx b n s e l h hn ho h1=>
  have:=he.ent b
  rw[h]at this
  simp only[ExtE]at this
  obtain⟨s',l',q1,q2⟩:=this
  have hl:=he.loc b (by rw[h];simp)
  rw[←q2,←hl]
  rw[←hl]at hn ho
  exact .winx q1 hn ho (by rw[q2];exact h1)
 |fp h1 h2 h3 h4=>exact .fp (Nat.lt_of_lt_of_le h1 k.size) (fun hc=>h2 (hM _ h1 hc)) (h3.keep k h1 h2) (h4.mono k hM)
 |fpf h1 h2 h3 h4 _ ih=>exact .fpf (Nat.lt_of_lt_of_le h1 k.size) (fun hc=>h2 (hM _ h1 hc)) (by rw[cell?_same (k.blk _ h1 h2)];exact h3) h4 ih
 |fn hl _ kl _ ih ih2=>exact .fn hl ih kl ih2
 |fnv h=>exact .fnv (h.mono k hM)
 |tup hl _ ih=>exact .tup hl ih
 |ifc _ ih=>exact .ifc ih
 |nilp=>exact .nilp
 |nilf=>exact .nilf
 |skp=>exact .skp
 |undef=>exact .undef
theorem RelL.mono{P:Program}{H H':Heap}{L L':Nat->Loc}{w w':World}{M M':Nat->Prop}(k:Keep M w w')(hM: ∀B,B<w.heap.size->M' B->M B)(he:Ext H L H' L'){xs:List DV}{vs:List Value}(h:RelL P H L w M xs vs):RelL P H' L' w' M' xs vs:=
 ⟨h.1,fun i x v hx hv=>(h.2 i x v hx hv).mono k hM he⟩
def Ent.stat:Ent->Stat
 | .mem s _ _ _| .cell s _| .cells s _ _=>s
 | .gone=> .dead
def Ent.rw(x:Ent):Prop:=match x.stat with| .rw=>True|_=>False
def Ent.live(x:Ent):Prop:=match x.stat with| .dead=>False|_=>True
def Ent.frz(x:Ent):Prop:=match x.stat with| .frz=>True|_=>False
def EntR(P:Program)(H:Heap)(L:Nat->Loc)(w:World)(M:Nat->Prop)(l:Loc):Ent->Prop
 | .mem _ false t x=>l.nil=false∧l.blk<w.heap.size∧l.sz=t.size∧ ∃us,CellsAt w l.blk l.off us∧RelC w M t x us
 | .mem _ true (.sl e) x=>(l.nil=true∧(x:List (Val e))=[])∨(l.nil=false∧l.blk<w.heap.size∧l.off=0∧(x:List (Val e)).length*e.size<=l.sz∧ ∃us,CellsAt w l.blk 0 us∧RowR (fun y u=>RelC w M e y u) x us)
 | .mem _ true _ _=>False
 | .cell _ x=>l.nil=false∧l.blk<w.heap.size∧l.sz=1∧ ∃u,w.cell? ⟨l.blk,l.off,none⟩=some u∧one1 u=true∧RelD P H L w M x u
 | .cells _ sz xs=>l.nil=false∧l.blk<w.heap.size∧l.off=0∧xs.length<=l.sz∧(sz=0->xs.length=l.sz)∧ ∃us:List Value,CellsAt w l.blk 0 us∧(∀u∈us,one1 u=true)∧RelL P H L w M xs us
 | .gone=>True
def OwnB(w:World)(M:Nat->Prop)(l:Loc):Prop:=M l.blk∧l.off=0∧ ∃vs el fz,w.heap[l.blk]?=some (.cells vs el fz)∧vs.size=l.sz∧(∀o,o<l.sz->(decide (fz.1<=o)&&decide (o<fz.2))=false)∧ ∀v∈vs.toList,one1 v=true
structure HRel (P:Program) (H:Heap) (L:Nat->Loc) (w:World) (M:Nat->Prop):Prop where
 ent: ∀b,(hget H b).live->EntR P H L w M (L b) (hget H b)
 own: ∀b,(hget H b).rw->(L b).nil=false->OwnB w M (L b)
 frz: ∀b,(hget H b).frz->(L b).nil=false-> ¬M (L b).blk
 apart: ∀b c,b≠c->(hget H b).rw->(hget H c).live->(L b).nil=false->(L c).nil=false->(L b).blk≠(L c).blk
 mlt: ∀B,M B->B<w.heap.size
structure Step (H:Heap) (L:Nat->Loc) (w:World) (M:Nat->Prop) (H':Heap) (L':Nat->Loc) (w':World) (M':Nat->Prop):Prop where
 size:w.heap.size<=w'.heap.size
 os:w'.os=w.os
 tape:w'.tape=w.tape
 output:w'.output=w.output
 frame: ∀B,B<w.heap.size->(∀b,(hget H b).rw->(L b).nil=false->(L b).blk≠B)->w'.heap[B]?=w.heap[B]?∧(M' B↔M B)
 m: ∀B,B<w.heap.size->M' B->M B
 ext:Ext H L H' L'
 rw: ∀b,(hget H' b).rw->(L' b).nil=false->(L' b).blk<w.heap.size-> ∃c,(hget H c).rw∧(L c).nil=false∧(L c).blk=(L' b).blk
theorem Step.refl(H:Heap)(L:Nat->Loc)(w:World)(M:Nat->Prop):Step H L w M H L w M:=
 ⟨Nat.le_refl _,rfl,rfl,rfl,fun _ _ _=>⟨rfl,Iff.rfl⟩,fun _ _ h=>h,Ext.refl _ _,fun b h1 h2 _=>⟨b,h1,h2,rfl⟩⟩
theorem Step.trans{H1 H2 H3:Heap}{L1 L2 L3:Nat->Loc}{w1 w2 w3:World}{M1 M2 M3:Nat->Prop}(h:Step H1 L1 w1 M1 H2 L2 w2 M2)(k:Step H2 L2 w2 M2 H3 L3 w3 M3):Step H1 L1 w1 M1 H3 L3 w3 M3 where
 size:=Nat.le_trans h.size k.size
 os:=k.os.trans h.os
 tape:=k.tape.trans h.tape
 output:=k.output.trans h.output
 frame B hB hn:=by
  obtain⟨a,b⟩:=h.frame B hB hn
  obtain⟨c,d⟩:=k.frame B (Nat.lt_of_lt_of_le hB h.size) (fun b h1 h2 h3=>by
   obtain⟨c,c1,c2,c3⟩:=h.rw b h1 h2 (by omega)
   exact hn c c1 c2 (c3.trans h3))
  exact⟨c.trans a,d.trans b⟩
 m B hB hc:=h.m B hB (k.m B (Nat.lt_of_lt_of_le hB h.size) hc)
 ext:=h.ext.trans k.ext
 rw b h1 h2 h3:=by
  obtain⟨c,c1,c2,c3⟩:=k.rw b h1 h2 (Nat.lt_of_lt_of_le h3 h.size)
  obtain⟨d,d1,d2,d3⟩:=h.rw c c1 c2 (by omega)
  exact⟨d,d1,d2,d3.trans c3⟩
theorem HRel.keep{P:Program}{H H':Heap}{L L':Nat->Loc}{w w':World}{M M':Nat->Prop}(h:HRel P H L w M)(k:Step H L w M H' L' w' M'):Keep M w w':=
 ⟨k.size,fun B hB hn=>(k.frame B hB (fun b h1 h2 h3=>hn (h3▸(h.own b h1 h2).1))).1⟩
theorem RelD.step{P:Program}{H H':Heap}{L L':Nat->Loc}{w w':World}{M M':Nat->Prop}(h:HRel P H L w M)(k:Step H L w M H' L' w' M'){x:DV}{v:Value}(r:RelD P H L w M x v):RelD P H' L' w' M' x v:=
 r.mono (h.keep k) k.m k.ext
structure St (P:Program) (N:Nat) (H:Heap) (L:Nat->Loc) (w:World) (M:Nat->Prop) (ρ:Env) (a:Act):Prop where
 heap:HRel P H L w M
 size:a.tmps.size=N
 env: ∀t,RelD P H L w M (ρ t) (a.tmps.getD t undef)
 defers:a.defers=[]
 glob:Glob P M w
end Ev
end
section
namespace Ev
open Go
theorem hget_hset(H:Heap)(b:Nat)(e:Ent)(c:Nat):hget (hset H b e) c=if c=b∧b<H.length then e else hget H c:=by
 induction H generalizing b c with
 |nil=>simp[hset_nil,hset_zero,hset_succ,hget_nil,hget_zero,hget_succ]
 |cons x l ih=>
  cases b with
  |zero=>cases c with
   |zero=>simp[hset_nil,hset_zero,hset_succ,hget_nil,hget_zero,hget_succ]
   |succ c=>simp[hset_nil,hset_zero,hset_succ,hget_nil,hget_zero,hget_succ]
  |succ b=>cases c with
   |zero=>simp[hset_nil,hset_zero,hset_succ,hget_nil,hget_zero,hget_succ]
   |succ c=>simp only[hset_nil,hset_zero,hset_succ,hget_nil,hget_zero,hget_succ,ih,List.length_cons,Nat.add_right_cancel_iff,Nat.add_lt_add_iff_right]
theorem hset_length(H:Heap)(b:Nat)(e:Ent):(hset H b e).length=H.length:=by
 induction H generalizing b with
 |nil=>rfl
 |cons x l ih=>cases b<;>simp[hset_nil,hset_zero,hset_succ,ih]
theorem hget_lt{H:Heap}{b:Nat}(h:hget H b≠ .gone):b<H.length:=by
 induction H generalizing b with
 |nil=>exact absurd rfl h
 |cons x l ih=>cases b with
  |zero=>simp
  |succ b=>simp only[hget_nil,hget_zero,hget_succ]at h;have:=ih h;simp;omega
theorem hget_happ(H K:Heap)(c:Nat):hget (happ H K) c=if c<H.length then hget H c else hget K (c-H.length):=by
 induction H generalizing c with
 |nil=>simp[happ_nil,happ_cons]
 |cons x l ih=>cases c with
  |zero=>simp[happ_nil,happ_cons,hget_nil,hget_zero,hget_succ]
  |succ c=>simp only[happ_nil,happ_cons,hget_nil,hget_zero,hget_succ,ih,List.length_cons];congr 1<;>simp
theorem happ_length(H K:Heap):(happ H K).length=H.length+K.length:=by
 induction H with
 |nil=>simp[happ_nil,happ_cons]
 |cons x l ih=>simp[happ_nil,happ_cons,ih];omega
theorem forceH_eq{R:Type}(H:Heap)(k:Heap->Option R):forceH H k=k H:=by
 induction H generalizing k with
 |nil=>rfl
 |cons x l ih=>exact ih fun l=>k (x::l)
theorem forceC_eq{R:Type}(o:Op)(H:Heap)(k:Heap->Option R):forceC o H k=k H:=by
 unfold forceC;cases quietOp o
 ·exact forceH_eq H k
 ·rfl
theorem live_ne{x:Ent}(h:x.live):x≠ .gone:=by rintro rfl;exact h
theorem rw_live{x:Ent}(h:x.rw):x.live:=by
 unfold Ent.rw at h;unfold Ent.live
 split at h
 ·rename_i hs;rw[hs];trivial
 ·exact h.elim
theorem EntR.mono{P:Program}{H H':Heap}{L L':Nat->Loc}{w w':World}{M M':Nat->Prop}(k:Keep M w w')(hM: ∀B,B<w.heap.size->M' B->M B)(he:Ext H L H' L'){l:Loc}(hl:l.nil=false->w'.heap[l.blk]?=w.heap[l.blk]?){x:Ent}(h:EntR P H L w M l x):EntR P H' L' w' M' l x:=by
 unfold EntR at h⊢
 split at h
 ·obtain⟨h0,h1,h2,us,h3,h4⟩:=h
  exact⟨h0,Nat.lt_of_lt_of_le h1 k.size,h2,us,fun i v hv=>by rw[cell?_same (hl h0)];exact h3 i v hv,h4.mono k hM⟩
 ·rcases h with h|⟨h0,h1,h2,h3,us,h4,h5⟩
  ·exact .inl h
  ·exact .inr ⟨h0,Nat.lt_of_lt_of_le h1 k.size,h2,h3,us,fun i v hv=>by rw[cell?_same (hl h0)];exact h4 i v hv,RowR.mono (fun _ _ q=>q.mono k hM) h5⟩
 ·exact h.elim
 ·obtain⟨h0,h1,h2,u,h3,h4,h5⟩:=h
  exact⟨h0,Nat.lt_of_lt_of_le h1 k.size,h2,u,by rw[cell?_same (hl h0)];exact h3,h4,h5.mono k hM he⟩
 ·obtain⟨h0,h1,h2,h3,h4,us,h5,h6,h7⟩:=h
  exact⟨h0,Nat.lt_of_lt_of_le h1 k.size,h2,h3,h4,us,fun i v hv=>by rw[cell?_same (hl h0)];exact h5 i v hv,h6,h7.mono k hM he⟩
 ·trivial
def updL(L:Nat->Loc)(b:Nat)(l:Loc):Nat->Loc:=fun c=>if c=b then l else L c
theorem updL_same(L:Nat->Loc)(b:Nat)(l:Loc):updL L b l b=l:=by simp[updL]
theorem updL_ne(L:Nat->Loc){b c:Nat}(l:Loc)(h:c≠b):updL L b l c=L c:=by simp[updL,h]
theorem ext_upd{H:Heap}{L:Nat->Loc}{b:Nat}{e:Ent}{l:Loc}(hb:b<H.length)(he:ExtE (hget H b) e)(hl:hget H b≠ .gone->l=L b):Ext H L (hset H b e) (updL L b l):=by
 refine⟨by rw[hset_length];exact Nat.le_refl _,fun c=> ?_,fun c hc=> ?_⟩
 ·rw[hget_hset];split
  ·rename_i h;rw[h.1];exact he
  ·exact ExtE.refl _
 ·unfold updL;split
  ·rename_i h;subst h;exact hl hc
  ·rfl
theorem HRel.upd{P:Program}{H:Heap}{L:Nat->Loc}{w w':World}{M M':Nat->Prop}(h:HRel P H L w M){b:Nat}{e:Ent}{l:Loc}(hb:b<H.length)(hx:ExtE (hget H b) e)(hl:hget H b≠ .gone->l=L b)
 (k:Keep M w w') (hM: ∀B,B<w.heap.size->M' B->M B) (hmlt: ∀B,M' B->B<w'.heap.size)
 (hoth: ∀c,c≠b->(hget H c).live->(L c).nil=false->w'.heap[(L c).blk]?=w.heap[(L c).blk]?∧((hget H c).rw->M' (L c).blk))
 (hent:e.live->EntR P (hset H b e) (updL L b l) w' M' l e)
 (hown:e.rw->l.nil=false->OwnB w' M' l) (hfrz:e.frz->l.nil=false-> ¬M' l.blk)
 (hap1:e.rw->l.nil=false-> ∀c,c≠b->(hget H c).live->(L c).nil=false->l.blk≠(L c).blk)
 (hap2:e.live->l.nil=false-> ∀c,c≠b->(hget H c).rw->(L c).nil=false->(L c).blk≠l.blk):HRel P (hset H b e) (updL L b l) w' M':=by
 have hext:=ext_upd hb hx hl
 have hgb:hget (hset H b e) b=e:=by rw[hget_hset,if_pos ⟨rfl,hb⟩]
 have hgc: ∀c,c≠b->hget (hset H b e) c=hget H c:=fun c hc=>by rw[hget_hset,if_neg (fun q=>hc q.1)]
 refine⟨fun c hc=> ?_,fun c hc hn=> ?_,fun c hc hn=> ?_,fun c d hcd hc hd hn hn'=> ?_,hmlt⟩
 ·by_cases hcb:c=b
  ·subst hcb;rw[hgb]at hc⊢;rw[updL_same];exact hent hc
  ·rw[hgc c hcb]at hc⊢
   rw[updL_ne _ _ hcb]
   exact(h.ent c hc).mono k hM hext (fun hn=>(hoth c hcb hc hn).1)
 ·by_cases hcb:c=b
  ·subst hcb;rw[hgb]at hc;rw[updL_same]at hn⊢;exact hown hc hn
  ·rw[hgc c hcb]at hc
   rw[updL_ne _ _ hcb]at hn⊢
   obtain⟨_,h2,vs,el,fz,h3,h4⟩:=h.own c hc hn
   obtain⟨q1,q2⟩:=hoth c hcb (rw_live hc) hn
   exact⟨q2 hc,h2,vs,el,fz,by rw[q1];exact h3,h4⟩
 ·by_cases hcb:c=b
  ·subst hcb;rw[hgb]at hc;rw[updL_same]at hn⊢;exact hfrz hc hn
  ·rw[hgc c hcb]at hc
   rw[updL_ne _ _ hcb]at hn⊢
   have hlt:(L c).blk<w.heap.size:=by
    have hlv:(hget H c).live:=by
     unfold Ent.frz at hc;unfold Ent.live
     split at hc
     ·rename_i hs;rw[hs];trivial
     ·exact hc.elim
    have:=h.ent c hlv
    unfold EntR at this
    split at this
    ·exact this.2.1
    ·rcases this with⟨h1,_⟩|⟨_,h1,_⟩
     ·rw[h1]at hn;cases hn
     ·exact h1
    ·exact this.elim
    ·exact this.2.1
    ·exact this.2.1
    ·rename_i hg;rw[hg]at hlv;exact hlv.elim
   exact fun hm=>h.frz c hc hn (hM _ hlt hm)
 ·by_cases hcb:c=b
  ·subst hcb
   rw[hgb]at hc
   rw[updL_same]at hn⊢
   have hd':d≠c:=fun q=>hcd q.symm
   rw[hgc d hd']at hd
   rw[updL_ne _ _ hd']at hn'⊢
   exact hap1 hc hn d hd' hd hn'
  ·rw[hgc c hcb]at hc
   rw[updL_ne _ _ hcb]at hn⊢
   by_cases hdb:d=b
   ·subst hdb
    rw[hgb]at hd
    rw[updL_same]at hn'⊢
    exact hap2 hd hn' c hcb hc hn
   ·rw[hgc d hdb]at hd
    rw[updL_ne _ _ hdb]at hn'⊢
    exact h.apart c d hcd hc hd hn hn'
theorem HRel.lt{P:Program}{H:Heap}{L:Nat->Loc}{w:World}{M:Nat->Prop}(h:HRel P H L w M){c:Nat}(hc:(hget H c).live)(hn:(L c).nil=false):(L c).blk<w.heap.size:=by
 have:=h.ent c hc
 unfold EntR at this
 split at this
 ·exact this.2.1
 ·rcases this with⟨h1,_⟩|⟨_,h1,_⟩
  ·rw[h1]at hn;cases hn
  ·exact h1
 ·exact this.elim
 ·exact this.2.1
 ·exact this.2.1
 ·rename_i hg;rw[hg]at hc;exact hc.elim
theorem HRel.new{P:Program}{H:Heap}{L:Nat->Loc}{w:World}{M:Nat->Prop}(h:HRel P H L w M){b:Nat}(hb:b<H.length)(hg:hget H b= .gone){e:Ent}(hrw:e.rw){vs:Array Value}(el:TypeId)(fz:Nat×Nat){n:Nat}(hn:vs.size=n)(hfz: ∀o,o<n->(decide (fz.1<=o)&&decide (o<fz.2))=false)
 (ho: ∀v∈vs.toList,one1 v=true)
 (hent: ∀w' M' H' L',Keep M w w'->(∀B,B<w.heap.size->M' B->M B)->Ext H L H' L'->w'.heap[w.heap.size]?=some (.cells vs el fz)->EntR P H' L' w' M' ⟨w.heap.size,0,n,false⟩ e):
 HRel P (hset H b e) (updL L b ⟨w.heap.size,0,n,false⟩) (w.alloc (.cells vs el fz)) (fun B=>M B∨B=w.heap.size)∧
 Step H L w M (hset H b e) (updL L b ⟨w.heap.size,0,n,false⟩) (w.alloc (.cells vs el fz)) (fun B=>M B∨B=w.heap.size):=by
 have hx:ExtE (hget H b) e:=by rw[hg];trivial
 have hl:hget H b≠ .gone->(⟨w.heap.size,0,n,false⟩:Loc)=L b:=fun q=>absurd hg q
 have hk:Keep M w (w.alloc (.cells vs el fz)):=⟨by rw[alloc_size];omega,fun B hB _=>alloc_old hB⟩
 have hM: ∀B,B<w.heap.size->(M B∨B=w.heap.size)->M B:=fun B hB q=>q.elim id (fun q=>by omega)
 refine⟨h.upd hb hx hl hk hM (fun B q=> ?_) (fun c hc hlv hnl=>⟨alloc_old (h.lt hlv hnl),fun hr=> .inl (h.own c hr hnl).1⟩) (fun _=>hent _ _ _ _ hk hM (ext_upd hb hx hl) alloc_new)
  (fun _ _=>⟨.inr rfl,rfl,vs,el,fz,alloc_new,hn,hfz,ho⟩) (fun hf=> ?_) (fun _ _ c hc hlv hnl=> ?_) (fun _ _ c hc hr hnl=> ?_),?_⟩
 ·rw[alloc_size];rcases q with q|q
  ·have:=h.mlt B q;omega
  ·omega
 ·unfold Ent.frz at hf;unfold Ent.rw at hrw
  split at hrw
  ·rename_i hs;rw[hs]at hf;exact hf.elim
  ·exact hrw.elim
 ·have:=h.lt hlv hnl
  show w.heap.size≠_
  omega
 ·have:=h.lt (rw_live hr) hnl
  show _≠w.heap.size
  omega
 ·refine⟨by rw[alloc_size];omega,rfl,rfl,rfl,fun B hB _=>⟨alloc_old hB,⟨fun q=>hM B hB q, .inl⟩⟩,hM,ext_upd hb hx hl,fun c hc hnl hlt=> ?_⟩
  by_cases hcb:c=b
  ·subst hcb;rw[updL_same]at hlt;exact absurd hlt (Nat.lt_irrefl _)
  ·rw[hget_hset,if_neg (fun q=>hcb q.1)]at hc
   rw[updL_ne _ _ hcb]at hnl hlt⊢
   exact⟨c,hc,hnl,rfl⟩
theorem HRel.write{P:Program}{H:Heap}{L:Nat->Loc}{w w':World}{M:Nat->Prop}(h:HRel P H L w M){b:Nat}(hr:(hget H b).rw)(hnil:(L b).nil=false){e:Ent}(hx:ExtE (hget H b) e)(hre:e.rw)
 (hsz:w'.heap.size=w.heap.size) (hos:w'.os=w.os) (hta:w'.tape=w.tape) (hou:w'.output=w.output) (hoth: ∀B,B≠(L b).blk->w'.heap[B]?=w.heap[B]?)
 {vs:Array Value} {el:TypeId} {fz:Nat×Nat} (hnew:w'.heap[(L b).blk]?=some (.cells vs el fz)) (hvs:vs.size=(L b).sz) (hfz: ∀o,o<(L b).sz->(decide (fz.1<=o)&&decide (o<fz.2))=false) (ho: ∀v∈vs.toList,one1 v=true)
 (hent: ∀H' L',Keep M w w'->Ext H L H' L'->EntR P H' L' w' M (L b) e):
 HRel P (hset H b e) L w' M∧Step H L w M (hset H b e) L w' M:=by
 have hb:b<H.length:=hget_lt (live_ne (rw_live hr))
 have hbM:=(h.own b hr hnil).1
 have hk:Keep M w w':=⟨by omega,fun B _ hn=>hoth B (fun q=>hn (q▸hbM))⟩
 have hM: ∀B,B<w.heap.size->M B->M B:=fun _ _ q=>q
 have hLL:updL L b (L b)=L:=by funext c;unfold updL;split<;>simp_all
 have hext:=ext_upd (L:=L) (l:=L b) hb hx (fun _=>rfl)
 rw[hLL]at hext
 constructor
 ·have:=h.upd (l:=L b) hb hx (fun _=>rfl) hk hM (fun B q=>by have:=h.mlt B q;omega) (fun c hc hlv hnl=>⟨hoth _ (fun q=>h.apart b c (fun q=>hc q.symm) hr hlv hnil hnl q.symm),fun hr'=>(h.own c hr' hnl).1⟩)
   (fun _=>by rw[hLL];exact hent _ _ hk hext) (fun _ _=>⟨hbM,(h.own b hr hnil).2.1,vs,el,fz,hnew,hvs,hfz,ho⟩) (fun hf=>by
    unfold Ent.frz at hf;unfold Ent.rw at hre
    split at hre
    ·rename_i hs;rw[hs]at hf;exact hf.elim
    ·exact hre.elim)
   (fun _ _ c hc hlv hnl=>h.apart b c (fun q=>hc q.symm) hr hlv hnil hnl) (fun _ _ c hc hr' hnl=>h.apart c b hc hr' (rw_live hr) hnl hnil)
  rwa[hLL]at this
 ·refine⟨by omega,hos,hta,hou,fun B hB hn=>⟨hoth B (fun q=>hn b hr hnil q.symm),Iff.rfl⟩,hM,hext,fun c hc hnl _=> ?_⟩
  rw[hget_hset]at hc
  split at hc
  ·rename_i q;exact⟨b,hr,hnil,by rw[q.1]⟩
  ·exact⟨c,hc,hnl,rfl⟩
def Ent.setS(s:Stat):Ent->Ent
 | .mem _ row t x=> .mem s row t x
 | .cell _ x=> .cell s x
 | .cells _ sz l=> .cells s sz l
 | .gone=> .gone
theorem setS_ext(s:Stat)(x:Ent)(hx: ∀t y,(∀e,t≠ .sl e)->x≠ .mem x.stat true t y):ExtE x (x.setS s):=by
 cases x with
 |mem q row t x=>
  cases row with
  |false=>exact⟨s,x,rfl⟩
  |true=>
   cases t with
   |sl e=>exact⟨s,x,rfl,rfl⟩
   |_=>exact absurd rfl (hx _ _ (by intro e;simp))
 |cell q x=>exact⟨s,x,rfl⟩
 |cells q sz l=>exact⟨s,l,rfl,rfl⟩
 |gone=>trivial
theorem setS_entR{P:Program}{H:Heap}{L:Nat->Loc}{w:World}{M:Nat->Prop}{l:Loc}{s:Stat}{x:Ent}(h:EntR P H L w M l x):EntR P H L w M l (x.setS s):=by
 cases x with
 |mem q row t x=>cases row with
  |false=>exact h
  |true=>cases t<;>exact h
 |cell q x=>exact h
 |cells q sz l=>exact h
 |gone=>exact h
theorem entR_row{P:Program}{H:Heap}{L:Nat->Loc}{w:World}{M:Nat->Prop}{l:Loc}{x:Ent}(h:EntR P H L w M l x): ∀t y,(∀e,t≠ .sl e)->x≠ .mem x.stat true t y:=by
 rintro t y ht hx
 rw[hx]at h
 cases t with
 |sl e=>exact ht e rfl
 |_=>exact h.elim
theorem HRel.freeze{P:Program}{H:Heap}{L:Nat->Loc}{w:World}{M:Nat->Prop}(h:HRel P H L w M){b:Nat}(hr:(hget H b).rw):
 ∃M',HRel P (hset H b ((hget H b).setS .frz)) L w M'∧Step H L w M (hset H b ((hget H b).setS .frz)) L w M':=by
 have hb:b<H.length:=hget_lt (live_ne (rw_live hr))
 have hx:=setS_ext .frz _ (entR_row (h.ent b (rw_live hr)))
 have hLL:updL L b (L b)=L:=by funext c;unfold updL;split<;>simp_all
 have hext:=ext_upd (L:=L) (l:=L b) hb hx (fun _=>rfl)
 rw[hLL]at hext
 have hk:Keep M w w:=Keep.refl _ _
 have nrw: ¬((hget H b).setS .frz).rw:=by
  intro q
  cases hg:hget H b with
  |mem s row t x=>rw[hg]at q;exact q
  |cell s x=>rw[hg]at q;exact q
  |cells s sz l=>rw[hg]at q;exact q
  |gone=>rw[hg]at q;exact q
 have hap2:((hget H b).setS .frz).live->(L b).nil=false-> ∀c,c≠b->(hget H c).rw->(L c).nil=false->(L c).blk≠(L b).blk:=fun _ hn c hc hr' hnl=>h.apart c b hc hr' (rw_live hr) hnl hn
 have rwold: ∀c,(hget (hset H b ((hget H b).setS .frz)) c).rw->(hget H c).rw:=by
  intro c hc
  rw[hget_hset]at hc
  split at hc
  ·exact absurd hc nrw
  ·exact hc
 cases hnil:(L b).nil with
 |true=>
  refine⟨M,?_,⟨Nat.le_refl _,rfl,rfl,rfl,fun _ _ _=>⟨rfl,Iff.rfl⟩,fun _ _ q=>q,hext,fun c hc hnl _=>⟨c,rwold c hc,hnl,rfl⟩⟩⟩
  have:=h.upd (l:=L b) (M':=M) hb hx (fun _=>rfl) hk (fun _ _ q=>q) h.mlt (fun c hc hlv hnl=>⟨rfl,fun hr'=>(h.own c hr' hnl).1⟩)
   (fun _=>by rw[hLL];exact setS_entR ((h.ent b (rw_live hr)).mono hk (fun _ _ q=>q) hext (fun _=>rfl))) (fun q=>absurd q nrw) (fun _ q=>by rw[hnil]at q;cases q) (fun q=>absurd q nrw) hap2
  rwa[hLL]at this
 |false=>
  have hM: ∀B,B<w.heap.size->(M B∧B≠(L b).blk)->M B:=fun _ _ q=>q.1
  refine⟨fun B=>M B∧B≠(L b).blk,?_,⟨Nat.le_refl _,rfl,rfl,rfl,fun B _ hn=>⟨rfl,⟨fun q=>q.1,fun q=>⟨q,fun he=>hn b hr hnil he.symm⟩⟩⟩,hM,hext,fun c hc hnl _=>⟨c,rwold c hc,hnl,rfl⟩⟩⟩
  have:=h.upd (l:=L b) (M':=fun B=>M B∧B≠(L b).blk) hb hx (fun _=>rfl) hk hM (fun B q=>h.mlt B q.1) (fun c hc hlv hnl=>⟨rfl,fun hr'=>⟨(h.own c hr' hnl).1,h.apart c b hc hr' (rw_live hr) hnl hnil⟩⟩)
   (fun _=>by rw[hLL];exact setS_entR ((h.ent b (rw_live hr)).mono hk hM hext (fun _=>rfl))) (fun q=>absurd q nrw) (fun _ _ q=>q.2 rfl) (fun q=>absurd q nrw) hap2
  rwa[hLL]at this
theorem kill_ext{x:Ent}(hx: ∀t y,(∀e,t≠ .sl e)->x≠ .mem x.stat true t y):ExtE x x.kill:=by
 have:=setS_ext .dead x hx
 cases x<;>exact this
theorem HRel.kill{P:Program}{H:Heap}{L:Nat->Loc}{w:World}{M:Nat->Prop}(h:HRel P H L w M){b:Nat}(hr:(hget H b).live):
 HRel P (hkill H b) L w M∧Step H L w M (hkill H b) L w M:=by
 have hb:b<H.length:=hget_lt (live_ne hr)
 have hx:=kill_ext (entR_row (h.ent b hr))
 have hLL:updL L b (L b)=L:=by funext c;unfold updL;split<;>simp_all
 have hext:=ext_upd (L:=L) (l:=L b) hb hx (fun _=>rfl)
 rw[hLL]at hext
 have hk:Keep M w w:=Keep.refl _ _
 have nlv: ¬((hget H b).kill).live:=by
  intro q
  cases hg:hget H b with
  |mem s row t x=>rw[hg]at q;exact q
  |cell s x=>rw[hg]at q;exact q
  |cells s sz l=>rw[hg]at q;exact q
  |gone=>rw[hg]at q;exact q
 have nfz: ¬((hget H b).kill).frz:=by
  intro q
  cases hg:hget H b with
  |mem s row t x=>rw[hg]at q;exact q
  |cell s x=>rw[hg]at q;exact q
  |cells s sz l=>rw[hg]at q;exact q
  |gone=>rw[hg]at q;exact q
 have rwold: ∀c,(hget (hkill H b) c).rw->(hget H c).rw:=by
  intro c hc
  unfold hkill at hc
  rw[hget_hset]at hc
  split at hc
  ·exact absurd (rw_live hc) nlv
  ·exact hc
 refine⟨?_,⟨Nat.le_refl _,rfl,rfl,rfl,fun _ _ _=>⟨rfl,Iff.rfl⟩,fun _ _ q=>q,hext,fun c hc hnl _=>⟨c,rwold c hc,hnl,rfl⟩⟩⟩
 have:=h.upd (l:=L b) (M':=M) hb hx (fun _=>rfl) hk (fun _ _ q=>q) h.mlt (fun c hc hlv hnl=>⟨rfl,fun hr'=>(h.own c hr' hnl).1⟩)
  (fun q=>absurd q nlv) (fun q=>absurd (rw_live q) nlv) (fun q=>absurd q nfz) (fun q=>absurd (rw_live q) nlv) (fun q=>absurd q nlv)
 rwa[hLL]at this
end Ev
end
section
namespace Ev
open Go
section
variable {R : Type}
theorem bind_some{α:Type}{x:α}{k:α->Option R}:(some x).bind k=k x:=rfl
theorem bind_bind{α β:Type}{o:Option α}{f:α->Option β}{k:β->Option R}:(o.bind f).bind k=o.bind fun x=>(f x).bind k:=by cases o<;>rfl
theorem bind_ite{α:Type}{c:Prop}[Decidable c]{a b:Option α}{k:α->Option R}:(if c then a else b).bind k=if c then a.bind k else b.bind k:=by split<;>rfl
theorem bind_dite{α:Type}{c:Prop}[Decidable c]{a:c->Option α}{b: ¬c->Option α}{k:α->Option R}:(if h:c then a h else b h).bind k=if h:c then(a h).bind k else(b h).bind k:=by split<;>rfl
theorem bind_cond{α:Type}{c:Bool}{a b:Option α}{k:α->Option R}:(cond c a b).bind k=cond c (a.bind k) (b.bind k):=by cases c<;>rfl
theorem cond_no{α:Type}{c:Bool}{a:Option α}{r:α}(h:cond c none a=some r):c=false∧a=some r:=by cases c<;>first|exact⟨rfl,h⟩|cases h
theorem cond_some{α:Type}{c:Bool}{a:Option α}{r:α}(h:cond c a none=some r):c=true∧a=some r:=by cases c<;>first|exact⟨rfl,h⟩|cases h
theorem n_asV{t:Ty}{x:DV}{k:Val t->Option R}:asV t x k=(asV t x some).bind k:=by
 unfold asV
 cases x
 case v=>dsimp only;split<;>rfl
 case nils=>cases t<;>rfl
 case nilp=>cases t<;>rfl
 case fp=>cases t<;>first|rfl|(dsimp only;split<;>rfl)
 all_goals rfl
theorem n_cnt{x:DV}{k:Nat->Option R}:cnt x k=(cnt x some).bind k:=by
 unfold cnt;split<;>first|rfl|(split<;>rfl)
theorem n_intD{x:DV}{k:Int->Option R}:intD x k=(intD x some).bind k:=by
 unfold intD;split<;>rfl
theorem n_binI{op:BinOp}{a b:Int}{k:DV->Option R}:binI op a b k=(binI op a b some).bind k:=by
 unfold binI;split<;>first|rfl|(rw[bind_bind];rfl)
theorem n_bin8{op:BinOp}{a b:UInt8}{k:DV->Option R}:bin8 op a b k=(bin8 op a b some).bind k:=by
 unfold bin8;split<;>rfl
theorem n_bin32{op:BinOp}{a b:UInt32}{k:DV->Option R}:bin32 op a b k=(bin32 op a b some).bind k:=by
 unfold bin32;split<;>rfl
theorem n_bin64{op:BinOp}{a b:UInt64}{k:DV->Option R}:bin64 op a b k=(bin64 op a b some).bind k:=by
 unfold bin64;split<;>rfl
theorem n_shift{op:BinOp}{x:DV}{n:Nat}{k:DV->Option R}:shift op x n k=(shift op x n some).bind k:=by
 unfold shift;split<;>rfl
theorem n_binA{ty:Option Ty}{op:BinOp}{x y:DV}{k:DV->Option R}:binA ty op x y k=(binA ty op x y some).bind k:=by
 unfold binA
 rw[bind_cond]
 congr 1
 ·rw[n_cnt,n_cnt (k:=fun n=>shift op x n some),bind_bind]
  congr 1;funext n;exact n_shift
 ·split
  ·exact n_binI
  ·exact n_bin8
  ·exact n_bin32
  ·exact n_bin64
  ·split<;>first|rfl|(rw[bind_bind];rfl)
  ·rw[bind_cond];congr 1
   split<;>rfl
  ·rw[bind_cond]
   congr 1
   rw[n_asV]
   conv=>rhs;rw[n_asV]
   rw[bind_bind];congr 1;funext b
   split<;>rfl
  ·split<;>first|rfl|(split<;>rfl)
  ·rfl
theorem n_unA{op:UnOp}{x:DV}{k:DV->Option R}:unA op x k=(unA op x some).bind k:=by
 unfold unA;split<;>rfl
theorem n_getV: ∀ {t:Ty} {R:Type} {x:Val t} {p:List Stp} {k:(t':Ty)->Val t'->Option R},getV t x p k=(getV t x p fun t' y=>some (⟨t',y⟩:Sigma Val)).bind fun y=>k y.1 y.2:=by
 intro t
 induction t with
 |pair a b iha ihb=>
  intro R x p k
  cases p with
  |nil=>simp only[getV];rfl
  |cons s p=>cases s with
   |fld i=>cases i with
    |zero=>simp only[getV];exact iha
    |succ i=>simp only[getV];exact ihb
   |idx i=>simp only[getV];rfl
 |arr n e ih=>
  intro R x p k
  cases p with
  |nil=>simp only[getV];rfl
  |cons s p=>cases s with
   |fld i=>simp only[getV];rfl
   |idx i=>simp only[getV];exact ih
 |_=>intro R x p k;cases p<;>simp only[getV]<;>rfl
theorem n_setV: ∀ {t:Ty} {R:Type} {x:Val t} {p:List Stp} {t':Ty} {y:Val t'} {k:Val t->Option R},setV t x p t' y k=(setV t x p t' y some).bind k:=by
 intro t
 induction t with
 |pair a b iha ihb=>
  intro R x p t' y k
  cases p with
  |nil=>simp only[setV];split<;>rfl
  |cons s p=>cases s with
   |fld i=>cases i with
    |zero=>simp only[setV];rw[iha];conv=>rhs;rw[iha]
           rw[bind_bind];rfl
    |succ i=>simp only[setV];rw[ihb];conv=>rhs;rw[ihb]
             rw[bind_bind];rfl
   |idx i=>simp only[setV];rfl
 |arr n e ih=>
  intro R x p t' y k
  cases p with
  |nil=>simp only[setV];split<;>rfl
  |cons s p=>cases s with
   |fld i=>simp only[setV];rfl
   |idx i=>simp only[setV];rw[ih];conv=>rhs;rw[ih]
           rw[bind_bind];rfl
 |_=>intro R x p t' y k;cases p with
  |nil=>simp only[setV];split<;>rfl
  |cons s p=>simp only[setV];rfl
theorem n_getM{row:Bool}{t:Ty}{x:Val t}{p:List Stp}{k:(t':Ty)->Val t'->Option R}:getM row t x p k=(getM row t x p fun t' y=>some (⟨t',y⟩:Sigma Val)).bind fun y=>k y.1 y.2:=by
 unfold getM
 split
 ·exact n_getV
 ·split
  ·exact n_getV
  ·rfl
theorem n_setM{row:Bool}{t:Ty}{x:Val t}{p:List Stp}{t':Ty}{y:Val t'}{k:Val t->Option R}:setM row t x p t' y k=(setM row t x p t' y some).bind k:=by
 cases row with
 |false=>exact n_setV
 |true=>
  cases t with
  |sl e=>cases p with
   |nil=>rfl
   |cons s p=>cases s with
    |fld i=>rfl
    |idx i=>
     show setV e _ p t' y _=_
     rw[n_setV];conv=>rhs;unfold setM;dsimp only;rw[n_setV]
     rw[bind_bind];rfl
  |_=>rfl
theorem n_getH{H:Heap}{b:Nat}{p:List Stp}{k:DV->Option R}:getH H b p k=(getH H b p some).bind k:=by
 unfold getH
 split
 ·rw[bind_cond];congr 1
  rw[n_getM];conv=>rhs;rw[n_getM]
  rw[bind_bind];rfl
 ·split
  ·rw[bind_cond];rfl
  ·rfl
 ·rfl
 ·rfl
theorem n_winOf{H:Heap}{b:Nat}{p:List Stp}{off len:Nat}{e:Ty}{k:List (Val e)->Option R}:winOf H b p off len e k=(winOf H b p off len e some).bind k:=by
 unfold winOf
 split
 ·split
  ·rw[bind_cond,bind_dite];rfl
  ·rw[bind_cond];congr 1
   rw[n_getM];conv=>rhs;rw[n_getM]
   rw[bind_bind];congr 1;funext y
   split
   ·rw[bind_dite];rfl
   ·rfl
 ·rw[bind_cond];congr 1
  rw[n_getV];conv=>rhs;rw[n_getV]
  rw[bind_bind];congr 1;funext y
  split
  ·rw[bind_dite];rfl
  ·rfl
 ·rfl
theorem n_rowOf{H:Heap}{b:Nat}{e:Ty}{k:List (Val e)->Option R}:rowOf H b e k=(rowOf H b e some).bind k:=by
 unfold rowOf
 split
 ·rw[bind_cond,bind_dite];rfl
 ·rfl
theorem n_lendB{H:Heap}{bor:Bool}{b:Nat}{k:Heap->Option R}:lendB H bor b k=(lendB H bor b some).bind k:=by
 unfold lendB
 rw[bind_cond];congr 1
 split<;>rfl
theorem n_asV0{H:Heap}{bor:Bool}{t:Ty}{x:DV}{k:Val t->Heap->Option R}:asV0 H bor t x k=(asV0 H bor t x fun y H=>some (y,H)).bind fun r=>k r.1 r.2:=by
 have gen: ∀ {x:DV},asV t x (fun y=>k y H)=(asV t x fun y=>some (y,H)).bind fun r=>k r.1 r.2:=fun {x}=>by
  rw[n_asV];conv=>rhs;rw[n_asV]
  rw[bind_bind];rfl
 cases x with
 |own b=>cases t with
  |sl e=>
   simp only[asV0]
   rw[n_lendB];conv=>rhs;rw[n_lendB]
   rw[bind_bind];congr 1;funext H'
   rw[n_rowOf];conv=>rhs;rw[n_rowOf]
   rw[bind_bind];rfl
  |_=>rfl
 |win b p off len=>cases t with
  |sl e=>
   simp only[asV0]
   rw[n_lendB];conv=>rhs;rw[n_lendB]
   rw[bind_bind];congr 1;funext H'
   rw[n_winOf];conv=>rhs;rw[n_winOf]
   rw[bind_bind];rfl
  |_=>rfl
 |ptr b p=>cases t with
  |op e=>
   simp only[asV0]
   rw[n_lendB];conv=>rhs;rw[n_lendB]
   rw[bind_bind];congr 1;funext H'
   rw[n_getH];conv=>rhs;rw[n_getH]
   rw[bind_bind];congr 1;funext y
   rw[n_asV];conv=>rhs;rw[n_asV]
   rw[bind_bind];rfl
  |_=>rfl
 |_=>simp only[asV0];exact gen
theorem n_ofN{α:Type}{f: {R:Type}->Heap->List DV->(α->List DV->Heap->Option R)->Option R}(hf: ∀ {R:Type} (H:Heap) (l:List DV) (k:α->List DV->Heap->Option R),f H l k=(f H l fun y l H=>some (y,l,H)).bind fun r=>k r.1 r.2.1 r.2.2): ∀ {n:Nat} {R:Type} {H:Heap} {l:List DV} {k:List α->List DV->Heap->Option R},ofN f n H l k=(ofN f n H l fun y l H=>some (y,l,H)).bind fun r=>k r.1 r.2.1 r.2.2
 |0,R,H,l,k=>rfl
 |n+1,R,H,l,k=>by
  simp only[ofN]
  rw[hf];conv=>rhs;rw[hf]
  rw[bind_bind];congr 1;funext r
  rw[n_ofN hf];conv=>rhs;rw[n_ofN hf]
  rw[bind_bind];rfl
theorem n_ofC{leaf: {R:Type}->Heap->(t:Ty)->DV->(Val t->Heap->Option R)->Option R}(hf: ∀ {R:Type} (H:Heap) (t:Ty) (x:DV) (k:Val t->Heap->Option R),leaf H t x k=(leaf H t x fun y H=>some (y,H)).bind fun r=>k r.1 r.2): ∀ {t:Ty} {R:Type} {H:Heap} {l:List DV} {k:Val t->List DV->Heap->Option R},ofC leaf t H l k=(ofC leaf t H l fun y l H=>some (y,l,H)).bind fun r=>k r.1 r.2.1 r.2.2
 | .unit,R,H,l,k=>by simp only[ofC];rfl
 | .pair a b,R,H,l,k=>by
  simp only[ofC]
  rw[n_ofC hf];conv=>rhs;rw[n_ofC hf]
  rw[bind_bind];congr 1;funext r
  rw[n_ofC hf];conv=>rhs;rw[n_ofC hf]
  rw[bind_bind];rfl
 | .arr n e,R,H,l,k=>by
  simp only[ofC]
  rw[n_ofN (fun H l k=>n_ofC hf)];conv=>rhs;rw[n_ofN (fun H l k=>n_ofC hf)]
  rw[bind_bind];rfl
 | .i64,R,H,[],k| .u8,R,H,[],k| .u32,R,H,[],k| .u64,R,H,[],k| .bool,R,H,[],k| .str,R,H,[],k| .sl _,R,H,[],k| .op _,R,H,[],k=>by simp only[ofC];rfl
 | .i64,R,H,x::l,k| .u8,R,H,x::l,k| .u32,R,H,x::l,k| .u64,R,H,x::l,k| .bool,R,H,x::l,k| .str,R,H,x::l,k| .sl _,R,H,x::l,k| .op _,R,H,x::l,k=>by
  simp only[ofC]
  rw[hf];conv=>rhs;rw[hf]
  rw[bind_bind];rfl
theorem n_asVD: ∀ {n:Nat} {R:Type} {H:Heap} {bor:Bool} {t:Ty} {x:DV} {k:Val t->Heap->Option R},asVD n H bor t x k=(asVD n H bor t x fun y H=>some (y,H)).bind fun r=>k r.1 r.2
 |0,R,H,bor,t,x,k=>by simp only[asVD];exact n_asV0
 |n+1,R,H,bor,t,x,k=>by
  have nC: ∀ {bor:Bool} {t:Ty} {R:Type} {H:Heap} {l:List DV} {k:Val t->List DV->Heap->Option R},ofC (fun H t x k=>asVD n H bor t x k) t H l k=(ofC (fun H t x k=>asVD n H bor t x k) t H l fun y l H=>some (y,l,H)).bind fun r=>k r.1 r.2.1 r.2.2:=fun {bor}=>n_ofC (fun H t x k=>n_asVD)
  cases x with
  |agg l=>
   simp only[asVD]
   rw[bind_cond];congr 1
   rw[nC];conv=>rhs;rw[nC]
   rw[bind_bind];rfl
  |own b=>
   simp only[asVD]
   split
   ·cases t
    case sl e=>
     dsimp only
     rw[bind_cond];congr 1
     rw[n_lendB];conv=>rhs;rw[n_lendB]
     rw[bind_bind];congr 1;funext H1
     rw[n_ofN (fun H l k=>nC)];conv=>rhs;rw[n_ofN (fun H l k=>nC)]
     rw[bind_bind];rfl
    all_goals rfl
   ·exact n_asV0
  |ptr b p=>
   simp only[asVD]
   split
   ·have nope: ∀ {α:Type} {k:α->Option R},none=(none:Option α).bind k:=fun {α k}=>rfl
    cases t
    case op e=>
     rcases p with _|⟨q,_|⟨q2,p⟩⟩
     ·exact nope
     ·cases q
      ·exact nope
      dsimp only
      rw[bind_cond];congr 1
      rw[n_lendB];conv=>rhs;rw[n_lendB]
      rw[bind_bind];congr 1;funext H1
      rw[nC];conv=>rhs;rw[nC]
      rw[bind_bind];rfl
     ·cases q<;>exact nope
    all_goals exact nope
   ·exact n_asV0
  |_=>simp only[asVD];exact n_asV0
theorem n_asVH{H:Heap}{bor:Bool}{t:Ty}{x:DV}{k:Val t->Heap->Option R}:asVH H bor t x k=(asVH H bor t x fun y H=>some (y,H)).bind fun r=>k r.1 r.2:=n_asVD
theorem n_asC{t:Ty}{x:DV}{k:List DV->Option R}:asC t x k=(asC t x some).bind k:=by
 unfold asC;cases x<;>first|(dsimp only;split<;>rfl)|(dsimp only;rw[bind_cond];rfl)
theorem n_getC{t:Ty}{l:List DV}{k:DV->Option R}:getC t l k=(getC t l some).bind k:=by
 unfold getC;rw[bind_cond];congr 1;cases l<;>rfl
theorem n_loadC{C:Ctx}{T:TypeId}{l:List DV}{o:Nat}{k:DV->Option R}:loadC C T l o k=(loadC C T l o some).bind k:=by
 unfold loadC;split
 ·rw[bind_cond,n_getC];rfl
 ·rw[bind_cond];congr 1;split<;>rfl
theorem n_storeC{C:Ctx}{T:TypeId}{H:Heap}{b o sz:Nat}{s:Stat}{l:List DV}{y:DV}{k:Heap->Option R}:storeC C T H b o s sz l y k=(storeC C T H b o s sz l y some).bind k:=by
 unfold storeC;split
 ·split
  ·rw[n_asC];conv=>rhs;rw[n_asC]
   rw[bind_bind];congr 1;funext ys;rw[bind_cond];rfl
  ·rw[bind_cond];rfl
 ·rfl
theorem n_fieldAddrC{C:Ctx}{T:TypeId}{b o:Nat}{l:List DV}{f:Nat}{k:DV->Option R}:fieldAddrC C T b o l f k=(fieldAddrC C T b o l f some).bind k:=by
 unfold fieldAddrC;split
 ·split
  ·rw[bind_cond];rfl
  ·rfl
 ·rfl
theorem n_idxs: ∀ {n j:Nat} {i:Int} {R:Type} {k:Nat->Option R},idxs n j i k=(idxs n j i some).bind k
 |0,j,i,R,k=>rfl
 |n+1,j,i,R,k=>by
  simp only[idxs]
  split
  ·rfl
  ·exact n_idxs
theorem n_valL{b:Bool}{e:Ty}{y:DV}{S:Type}{yes:List DV->Option S}{no:Option S}{k:S->Option R}:(valL b e y yes no).bind k=valL b e y (fun ys=>(yes ys).bind k) (no.bind k):=by
 unfold valL;split
 ·rw[bind_cond]
 ·rfl
theorem n_indexC{C:Ctx}{T:TypeId}{b sz:Nat}{l:List DV}{i:Int}{k:DV->Option R}:indexC C T b sz l i k=(indexC C T b sz l i some).bind k:=by
 unfold indexC;split
 ·rw[bind_cond];congr 1
  rw[n_idxs];conv=>rhs;rw[n_idxs]
  rw[bind_bind];rfl
 ·rfl
theorem n_indexArrC{C:Ctx}{T:TypeId}{b o:Nat}{l:List DV}{i:Int}{k:DV->Option R}:indexArrC C T b o l i k=(indexArrC C T b o l i some).bind k:=by
 unfold indexArrC;split
 ·rw[bind_cond];congr 1;split<;>rfl
 ·rfl
theorem n_buildC{e:Ty}: ∀ {ps:List (Nat×DV)} {R:Type} {k:List DV->Option R},buildC e ps k=(buildC e ps some).bind k
 |[],R,k=>rfl
 |(i,y)::ps,R,k=>by
  simp only[buildC]
  rw[n_asC];conv=>rhs;rw[n_asC]
  rw[bind_bind];congr 1;funext us
  rw[n_buildC];conv=>rhs;rw[n_buildC]
  rw[bind_bind];rfl
theorem n_layC{t:Ty}: ∀ {ps:List (Nat×DV)} {R:Type} {l:List DV} {k:List DV->Option R},layC t l ps k=(layC t l ps some).bind k
 |[],R,l,k=>rfl
 |(i,y)::ps,R,l,k=>by
  simp only[layC]
  split
  ·rw[n_asC];conv=>rhs;rw[n_asC]
   rw[bind_bind];congr 1;funext us
   exact n_layC
  ·rfl
theorem n_appendC{nm sz:Nat}{H:Heap}{x:DV}{ys:List DV}{k:DV->Heap->Option R}:appendC nm sz H x ys k=(appendC nm sz H x ys fun y H=>some (y,H)).bind fun r=>k r.1 r.2:=by
 unfold appendC;split
 ·rw[bind_cond];rfl
 ·split
  ·rw[bind_cond];rfl
  ·rfl
 ·rfl
theorem n_fieldC{C:Ctx}{T:TypeId}{l:List DV}{f:Nat}{k:DV->Option R}:fieldC C T l f k=(fieldC C T l f some).bind k:=by
 unfold fieldC;split
 ·split
  ·rw[bind_cond,n_getC];rfl
  ·rfl
 ·rfl
theorem n_atC{α:Type}{H:Heap}{a:DV}{yes:Nat->Nat->Stat->Nat->List DV->Option α}{no:Option α}{k:α->Option R}:(atC H a yes no).bind k=atC H a (fun b o s sz l=>(yes b o s sz l).bind k) (no.bind k):=by
 unfold atC;split
 ·split
  ·split
   ·rw[bind_cond];rfl
   ·rfl
  ·rfl
 ·rfl
theorem n_rowC{α:Type}{H:Heap}{a:DV}{yes:Nat->Stat->Nat->List DV->Option α}{no:Option α}{k:α->Option R}:(rowC H a yes no).bind k=rowC H a (fun b s sz l=>(yes b s sz l).bind k) (no.bind k):=by
 unfold rowC;split
 ·split
  ·rw[bind_cond];rfl
  ·rfl
 ·rfl
theorem n_sizeC{α:Type}{C:Ctx}{T:TypeId}{sz:Nat}{a:Option α}{k:α->Option R}:(sizeC C T sz a).bind k=sizeC C T sz (a.bind k):=by
 unfold sizeC;split
 ·rw[bind_cond];rfl
 ·rfl
theorem n_elemsOf{H:Heap}{x:DV}{e:Ty}{k:List (Val e)->Option R}:elemsOf H x e k=(elemsOf H x e some).bind k:=by
 unfold elemsOf
 split
 ·exact n_rowOf
 ·exact n_winOf
 ·rw[bind_dite];rfl
 ·exact n_asV
theorem n_load{H:Heap}{a:DV}{k:DV->Option R}:load H a k=(load H a some).bind k:=by
 unfold load;split
 ·exact n_getH
 all_goals rfl
theorem n_store{H:Heap}{a y:DV}{k:Heap->Option R}:store H a y k=(store H a y some).bind k:=by
 unfold store
 split
 ·split
  ·split
   ·rw[n_asVH];conv=>rhs;rw[n_asVH]
    rw[bind_bind];congr 1;funext z
    rw[n_setM];conv=>rhs;rw[n_setM]
    rw[bind_bind];rfl
   ·rfl
  ·split<;>first|rfl|(rw[bind_cond];rfl)
  ·rfl
 ·rfl
theorem n_buildS{t:Ty}{ps:List (Nat×DV)}: ∀ {H:Heap} {x:Val t} {k:Val t->Heap->Option R},buildS H t x ps k=(buildS H t x ps fun y H=>some (y,H)).bind fun r=>k r.1 r.2:=by
 induction ps with
 |nil=>intro H x k;rfl
 |cons p ps ih=>
  obtain⟨i,y⟩:=p
  intro H x k
  simp only[buildS]
  split
  ·rw[n_asVH];conv=>rhs;rw[n_asVH]
   rw[bind_bind];congr 1;funext z
   rw[n_setV];conv=>rhs;rw[n_setV]
   rw[bind_bind];congr 1;funext u
   exact ih
  ·rfl
theorem n_buildL{e:Ty}{ps:List (Nat×DV)}: ∀ {R:Type} {H:Heap} {k:List (Val e)->Heap->Option R},buildL H e ps k=(buildL H e ps fun y H=>some (y,H)).bind fun r=>k r.1 r.2:=by
 induction ps with
 |nil=>intro R H k;rfl
 |cons p ps ih=>
  obtain⟨i,y⟩:=p
  intro R H k
  simp only[buildL]
  rw[n_asVH];conv=>rhs;rw[n_asVH]
  rw[bind_bind];congr 1;funext z
  rw[ih];conv=>rhs;rw[ih]
  rw[bind_bind];rfl
theorem n_buildR{n:Nat}{e:Ty}{ps:List (Nat×DV)}: ∀ {H:Heap} {x:Vector (Val e) n} {k:Vector (Val e) n->Heap->Option R},buildR H n e x ps k=(buildR H n e x ps fun y H=>some (y,H)).bind fun r=>k r.1 r.2:=by
 induction ps with
 |nil=>intro H x k;rfl
 |cons p ps ih=>
  obtain⟨i,y⟩:=p
  intro H x k
  simp only[buildR]
  rw[bind_dite]
  split
  ·rw[n_asVH];conv=>rhs;rw[n_asVH]
   rw[bind_bind];congr 1;funext z
   exact ih
  ·rfl
theorem n_indexAddr{H:Heap}{x:DV}{i:Int}{k:DV->Option R}:indexAddr H x i k=(indexAddr H x i some).bind k:=by
 unfold indexAddr
 split
 ·rw[bind_bind];rfl
 ·split
  ·rw[bind_ite];rfl
  ·rfl
 ·rw[bind_ite];rfl
 ·split
  ·rw[bind_ite];rfl
  ·rfl
 ·rw[bind_bind];rfl
 ·rfl
theorem n_fieldAddr{H:Heap}{x:DV}{f:Nat}{k:DV->Option R}:fieldAddr H x f k=(fieldAddr H x f some).bind k:=by
 unfold fieldAddr
 split
 ·split<;>rfl
 ·rw[n_getV];conv=>rhs;rw[n_getV]
  rw[bind_bind];rfl
 ·rfl
theorem n_optI{x:Option DV}{d:Int}{k:Int->Option R}:optI x d k=(optI x d some).bind k:=by
 unfold optI;split
 ·rfl
 ·exact n_intD
theorem n_lenD{H:Heap}{x:DV}{k:Nat->Option R}:lenD H x k=(lenD H x some).bind k:=by
 unfold lenD;split<;>first|rfl|(split<;>rfl)
theorem n_optI2{lo hi:Option DV}{a b:Int}{α:Type}{f:Int->Int->Option α}{k:α->Option R}{g:Int->Int->Option R}(h: ∀l h,g l h=(f l h).bind k):
 (optI lo a fun l=>optI hi b fun h=>g l h)=(optI lo a fun l=>optI hi b fun h=>f l h).bind k:=by
 rw[n_optI];conv=>rhs;rw[n_optI]
 rw[bind_bind];congr 1;funext l
 rw[n_optI];conv=>rhs;rw[n_optI]
 rw[bind_bind];congr 1;funext q
 exact h l q
theorem n_capD{H:Heap}{x:DV}{k:Nat->Option R}:capD H x k=(capD H x some).bind k:=by
 unfold capD;split
 ·split<;>rfl
 ·rfl
theorem n_roomy{nm:Nat}{H:Heap}{e:Ty}{d:Bool}{l c:DV}{k:DV->Heap->Option R}:roomy nm H e d l c k=(roomy nm H e d l c fun y H=>some (y,H)).bind fun r=>k r.1 r.2:=by
 unfold roomy
 rw[bind_cond];congr 1
 rw[n_asV];conv=>rhs;rw[n_asV]
 rw[bind_bind];congr 1;funext n
 rw[n_asV];conv=>rhs;rw[n_asV]
 rw[bind_bind];congr 1;funext m
 rw[bind_ite];congr 1
 rw[bind_bind];rfl
theorem n_slice3{C:Ctx}{T:TypeId}{x m:DV}{lo hi:Option DV}{k:DV->Option R}:slice3 C T x lo hi m k=(slice3 C T x lo hi m some).bind k:=by
 unfold slice3
 split
 ·split
  ·exact n_optI2 fun l h=>by
    rw[n_intD];conv=>rhs;rw[n_intD]
    rw[bind_bind];congr 1;funext q
    rw[bind_ite];rfl
  ·rfl
 ·rfl
theorem n_sliceOp{H:Heap}{x:DV}{lo hi:Option DV}{k:DV->Option R}:sliceOp H x lo hi k=(sliceOp H x lo hi some).bind k:=by
 unfold sliceOp
 split
 ·exact n_optI2 fun l h=>by rw[bind_bind];rfl
 ·exact n_optI2 fun l h=>by rw[bind_bind];rfl
 ·exact n_optI2 fun l h=>by rw[bind_ite];rfl
 ·split
  ·exact n_optI2 fun l h=>by
    split
    ·rw[bind_bind];rfl
    ·rw[bind_ite];rfl
  ·rfl
 ·exact n_optI2 fun l h=>by rw[bind_ite];rfl
 ·split
  ·exact n_optI2 fun l h=>by rw[bind_ite];rfl
  ·rfl
 ·split
  ·exact n_optI2 fun l h=>by
    rw[bind_cond];congr 1
    ·rw[n_getH];conv=>rhs;rw[n_getH]
     rw[bind_bind];congr 1;funext y
     rw[n_asV];conv=>rhs;rw[n_asV]
     rw[bind_bind];congr 1;funext z
     rw[bind_bind];rfl
    ·split
     ·rw[bind_ite];rfl
     ·rfl
  ·rfl
 ·exact n_optI2 fun l h=>by rw[bind_bind];rfl
 ·rfl
theorem n_appendOp{nm:Nat}{H:Heap}{x y:DV}{e:Ty}{k:DV->Heap->Option R}:appendOp nm H x y e k=(appendOp nm H x y e fun y H=>some (y,H)).bind fun r=>k r.1 r.2:=by
 unfold appendOp
 rw[n_elemsOf];conv=>rhs;rw[n_elemsOf]
 rw[bind_bind];congr 1;funext ys
 split
 ·rw[bind_bind];rfl
 ·split
  ·rw[bind_dite]
   split
   ·rw[bind_bind];rfl
   ·rfl
  ·rfl
 ·rfl
theorem n_convert{C:Ctx}{nm:Nat}{H:Heap}{s d:TypeId}{x:DV}{k:DV->Heap->Option R}:convert C nm H s d x k=(convert C nm H s d x fun y H=>some (y,H)).bind fun r=>k r.1 r.2:=by
 unfold convert
 split
 ·rw[n_intD];conv=>rhs;rw[n_intD]
  rw[bind_bind];rfl
 ·rw[n_intD];conv=>rhs;rw[n_intD]
  rw[bind_bind];rfl
 ·rw[n_intD];conv=>rhs;rw[n_intD]
  rw[bind_bind];rfl
 ·rw[n_intD];conv=>rhs;rw[n_intD]
  rw[bind_bind];rfl
 ·split
  ·rw[n_asV];conv=>rhs;rw[n_asV]
   rw[bind_bind];rfl
  ·rw[n_elemsOf];conv=>rhs;rw[n_elemsOf]
   rw[bind_bind];rfl
  ·rfl
 ·split
  ·rw[bind_bind];rfl
  ·cases Nat.beq s d with
   |false=>rfl
   |true=>
    simp only[cond_true]
    split
    ·rename_i l _
     cases(List.isEmpty (l:List UInt8))<;>rfl
    ·rfl
  ·rfl
 ·rfl
theorem n_pickOp{c a b:DV}{k:DV->Option R}:pickOp c a b k=(pickOp c a b some).bind k:=by
 unfold pickOp
 split
 ·split
  ·rw[bind_cond];rfl
  ·rw[bind_cond];rfl
  ·rw[n_asV];conv=>rhs;rw[n_asV]
   rw[bind_bind];rfl
  ·rfl
 ·rfl
theorem n_splice{H:Heap}{b:Nat}{p:List Stp}{off:Nat}{e:Ty}{ys:List (Val e)}{k:Heap->Option R}:splice H b p off e ys k=(splice H b p off e ys some).bind k:=by
 unfold splice
 split
 ·split
  ·rw[bind_dite];rfl
  ·rfl
 ·rw[n_getV];conv=>rhs;rw[n_getV]
  rw[bind_bind];congr 1;funext z
  split
  ·rw[bind_dite]
   split
   ·rw[n_setV];conv=>rhs;rw[n_setV]
    rw[bind_bind];rfl
   ·rfl
  ·rfl
 ·rfl
theorem n_copyOp{H:Heap}{d x:DV}{e:Ty}{k:DV->Heap->Option R}:copyOp H d x e k=(copyOp H d x e fun y H=>some (y,H)).bind fun r=>k r.1 r.2:=by
 unfold copyOp
 split
 ·rw[n_elemsOf];conv=>rhs;rw[n_elemsOf]
  rw[bind_bind];congr 1;funext ys
  rw[n_splice];conv=>rhs;rw[n_splice]
  rw[bind_bind];rfl
 ·rw[n_rowOf];conv=>rhs;rw[n_rowOf]
  rw[bind_bind];congr 1;funext l
  rw[n_elemsOf];conv=>rhs;rw[n_elemsOf]
  rw[bind_bind];congr 1;funext ys
  rw[n_splice];conv=>rhs;rw[n_splice]
  rw[bind_bind];rfl
 ·rfl
theorem n_asVals{bor:Bool}: ∀ {ts:List Ty} {xs:List DV} {R:Type} {H:Heap} {k:Vals ts->Heap->Option R},asVals bor ts xs H k=(asVals bor ts xs H fun y H=>some (y,H)).bind fun r=>k r.1 r.2
 |[],[],R,H,k=>rfl
 |[],_::_,R,H,k=>rfl
 |[t],[],R,H,k=>rfl
 |[t],[x],R,H,k=>by simp only[asVals];rw[n_asVH]
 |[t],_::_::_,R,H,k=>rfl
 |t::u::ts,[],R,H,k=>rfl
 |t::u::ts,x::xs,R,H,k=>by
  simp only[asVals]
  rw[n_asVH];conv=>rhs;rw[n_asVH]
  rw[bind_bind];congr 1;funext y
  rw[n_asVals];conv=>rhs;rw[n_asVals]
  rw[bind_bind];rfl
theorem n_asInp{H:Heap}{t:Ty}{x:DV}{k:Val t->Option R}:asInp H t x k=(asInp H t x some).bind k:=by
 unfold asInp
 split
 ·rw[n_getH];conv=>rhs;rw[n_getH]
  rw[bind_bind];congr 1;funext y;exact n_asV
 ·exact n_asV
 ·rw[bind_bind];congr 1;funext y;exact n_asV
 ·rfl
theorem n_asInpH{H:Heap}{bor:Bool}{t:Ty}{x:DV}{k:Val t->Heap->Option R}:asInpH H bor t x k=(asInpH H bor t x fun y H=>some (y,H)).bind fun r=>k r.1 r.2:=by
 unfold asInpH
 rw[n_atC]
 congr 1
 ·funext b o s sz l
  rw[bind_cond];congr 1
  rw[n_ofC (fun H t x k=>n_asVD)];conv=>rhs;rw[n_ofC (fun H t x k=>n_asVD)]
  rw[bind_bind];rfl
 ·rw[n_asInp];conv=>rhs;rw[n_asInp]
  rw[bind_bind];rfl
theorem n_asIo{H:Heap}{t:Ty}{x:DV}{k:Val t->Option R}:asIo H t x k=(asIo H t x some).bind k:=by
 unfold asIo
 split
 ·split
  ·split
   ·exact n_asV
   ·rfl
  ·rfl
 ·rfl
theorem n_asFn{call: {R:Type}->FuncId->List DV->(DV->Option R)->Option R}{ins outs:List Ty}{x:DV}{k:(Vals ins->Option (Vals outs))->Option R}:asFn call ins outs x k=(asFn call ins outs x some).bind k:=by
 unfold asFn
 split
 ·rfl
 ·rw[bind_dite];rfl
 ·rfl
theorem n_asPK{call: {R:Type}->FuncId->List DV->(DV->Option R)->Option R}{H:Heap}{bor:Bool}{x:DV}{p:PK}{k:p.T->Heap->Option R}:asPK call H bor x p k=(asPK call H bor x p fun y H=>some (y,H)).bind fun r=>k r.1 r.2:=by
 cases p with
 |v t=>exact n_asVH
 |inp t=>exact n_asInpH
 |io t=>simp only[asPK];rw[n_asIo];conv=>rhs;rw[n_asIo]
        rw[bind_bind];rfl
 |fn ins outs=>simp only[asPK];rw[n_asFn];conv=>rhs;rw[n_asFn]
               rw[bind_bind];rfl
 |fnp ins outs=>
  simp only[asPK]
  split
  ·rw[n_asFn];conv=>rhs;rw[n_asFn]
   rw[bind_bind];rfl
  ·split
   ·rw[n_asFn];conv=>rhs;rw[n_asFn]
    rw[bind_bind];rfl
   ·rw[bind_cond];congr 1
    rw[n_asFn];conv=>rhs;rw[n_asFn]
    rw[bind_bind];rfl
   ·rfl
  ·rfl
theorem n_gather{call: {R:Type}->Heap->FuncId->List DV->(DV->Option R)->Option R}{bor:Bool}: ∀ {ps:List PK} {xs:List DV} {R:Type} {H:Heap} {k:InT ps->Heap->Option R},gather call bor ps xs H k=(gather call bor ps xs H fun y H=>some (y,H)).bind fun r=>k r.1 r.2
 |[],[],R,H,k=>rfl
 |[],_::_,R,H,k=>rfl
 |p::ps,[],R,H,k=>rfl
 |p::ps,x::xs,R,H,k=>by
  simp only[gather]
  rw[n_asPK];conv=>rhs;rw[n_asPK]
  rw[bind_bind];congr 1;funext y
  rw[n_gather];conv=>rhs;rw[n_gather]
  rw[bind_bind];rfl
theorem n_storeIo: ∀ {ts:List Ty} {x:Vals ts} {ps:List DV} {H:Heap} {k:Heap->Option R},storeIo ts x ps H k=(storeIo ts x ps H some).bind k
 |[],x,ps,H,k=>rfl
 |[t],x,[],H,k=>rfl
 |[t],x,p::ps,H,k=>n_store
 |t::u::ts,x,[],H,k=>rfl
 |t::u::ts,x,p::ps,H,k=>by
  simp only[storeIo]
  rw[n_store];conv=>rhs;rw[n_store]
  rw[bind_bind];congr 1;funext H'
  exact n_storeIo
theorem n_deliver{nm:Nat}: ∀ {rs:List RK} {ts:List Ty} {x:OutT rs ts} {ps:List DV} {R:Type} {H:Heap} {k:List DV->Heap->Option R},deliver nm rs ts x ps H k=(deliver nm rs ts x ps H fun y H=>some (y,H)).bind fun r=>k r.1 r.2
 |[],ts,x,ps,R,H,k=>by
  simp only[deliver]
  rw[n_storeIo];conv=>rhs;rw[n_storeIo]
  rw[bind_bind];rfl
 |[r],[],x,ps,R,H,k=>by simp only[deliver];rfl
 |[r],t::ts,x,ps,R,H,k=>by
  simp only[deliver]
  rw[n_storeIo];conv=>rhs;rw[n_storeIo]
  rw[bind_bind];rfl
 |r::q::rs,[],x,ps,R,H,k=>by
  simp only[deliver]
  rw[n_deliver];conv=>rhs;rw[n_deliver]
  rw[bind_bind];rfl
 |r::q::rs,t::ts,x,ps,R,H,k=>by
  simp only[deliver]
  rw[n_deliver];conv=>rhs;rw[n_deliver]
  rw[bind_bind];rfl
theorem n_callS{C:Ctx}{n nm:Nat}{g:FuncId}{args:List DV}{H:Heap}{k:DV->Heap->Option R}:callS C n nm g args H k=(callS C n nm g args H fun y H=>some (y,H)).bind fun r=>k r.1 r.2:=by
 cases n with
 |zero=>rfl
 |succ n=>
  simp only[callS]
  split
  ·rw[bind_cond];congr 1
   rw[n_gather];conv=>rhs;rw[n_gather]
   rw[bind_bind];congr 1;funext x
   rw[bind_bind];congr 1;funext r
   rw[n_deliver];conv=>rhs;rw[n_deliver]
   rw[bind_bind];rfl
  ·rfl
end
end Ev
end
section
namespace Ev
open Go
abbrev pr(x:DV)(H:Heap):Option (DV×Heap):=some (x,H)
noncomputable def topD(C:Ctx)(nm:Nat)(ρ:Env)(H:Heap)(op:Op):Option (DV×Heap):=top C nm ρ H op pr
theorem n_methC{R:Type}{C:Ctx}{H:Heap}{x:DV}{name:String}{k:FuncId->DV->Option R}:methC C H x name k=(methC C H x name fun f y=>some (f,y)).bind fun r=>k r.1 r.2:=by
 unfold methC
 split
 ·split
  ·rfl
  ·rw[n_atC];congr 1
   ·funext b o _ _ l
    rw[n_loadC];conv=>rhs;rw[n_loadC]
    rw[bind_bind];rfl
   ·rw[n_load];conv=>rhs;rw[n_load]
    rw[bind_bind];congr 1;funext z
    rw[bind_cond];rfl
  ·rfl
 ·rfl
theorem n_emptyC{R:Type}{C:Ctx}{T:TypeId}{sz:Nat}{l:List DV}{lo hi:Option DV}{k:DV->Option R}:emptyC C T sz l lo hi k=(emptyC C T sz l lo hi some).bind k:=by
 unfold emptyC
 split
 ·rw[bind_cond];congr 1
  rw[n_optI];conv=>rhs;rw[n_optI]
  rw[bind_bind];congr 1;funext a
  rw[n_optI];conv=>rhs;rw[n_optI]
  rw[bind_bind];congr 1;funext b
  rw[bind_ite];rfl
 ·rfl
theorem n_eqNP{R:Type}{C:Ctx}{T:TypeId}{o:BinOp}{x:DV}{k:DV->Option R}:eqNP C T o x k=(eqNP C T o x some).bind k:=by
 unfold eqNP;rw[bind_cond];congr 1;cases o<;>rfl
theorem n_top{R:Type}{C:Ctx}{nm:Nat}{ρ:Env}{H:Heap}{op:Op}{k:DV->Heap->Option R}:top C nm ρ H op k=(topD C nm ρ H op).bind fun r=>k r.1 r.2:=by
 unfold topD
 cases op
 case move x=>rfl
 case assign x=>rfl
 case pick c a b=>simp only[top];rw[n_pickOp];conv=>rhs;rw[n_pickOp]
                  rw[bind_bind];rfl
 case alloc T=>simp only[top];split<;>first|rfl|(rw[bind_cond];rfl)
 case box T x=>
  simp only[top];split
  ·rw[bind_cond];congr 1
   ·rw[n_asC];conv=>rhs;rw[n_asC]
    rw[bind_bind];rfl
   ·rw[n_asVH];conv=>rhs;rw[n_asVH]
    rw[bind_bind];rfl
  ·rw[bind_cond];rfl
 case build T ps=>
  simp only[top];split
  ·rw[bind_cond];congr 1
   ·rw[n_buildL];conv=>rhs;rw[n_buildL]
    rw[bind_bind];rfl
   ·rw[n_buildR];conv=>rhs;rw[n_buildR]
    rw[bind_bind];rfl
  ·rw[bind_cond];congr 1
   rw[bind_cond];congr 1
   ·rw[n_layC];conv=>rhs;rw[n_layC]
    rw[bind_bind];rfl
   ·rw[n_buildS];conv=>rhs;rw[n_buildS]
    rw[bind_bind];rfl
  ·rfl
 case buildSlice T n ps=>
  simp only[top];split
  ·rw[bind_cond];congr 1
   rw[bind_cond];congr 1
   ·rw[bind_cond];congr 1
    rw[n_buildC];conv=>rhs;rw[n_buildC]
    rw[bind_bind];rfl
   rw[bind_cond];congr 1
   ·rw[n_buildL];conv=>rhs;rw[n_buildL]
    rw[bind_bind];rfl
   ·rw[n_buildR];conv=>rhs;rw[n_buildR]
    rw[bind_bind];rfl
  ·rfl
 case load T x=>
  simp only[top];rw[n_atC];congr 1
  ·funext _ o _ _ l
   rw[n_loadC];conv=>rhs;rw[n_loadC]
   rw[bind_bind];rfl
  ·rw[n_load];conv=>rhs;rw[n_load]
   rw[bind_bind];congr 1;funext y;rw[bind_cond];rfl
 case store T a x=>
  simp only[top];rw[n_atC];congr 1
  ·funext b o s sz l
   rw[n_storeC];conv=>rhs;rw[n_storeC]
   rw[bind_bind];rfl
  ·rw[bind_cond];congr 1;rw[n_store];conv=>rhs;rw[n_store]
   rw[bind_bind];rfl
 case nilCheck x=>simp only[top];split<;>first|rfl|(rw[bind_bind];rfl)
 case binOp o t x y yt=>
  simp only[top];rw[bind_cond];congr 1
  ·rw[n_eqNP];conv=>rhs;rw[n_eqNP]
   rw[bind_bind];rfl
  ·rw[n_binA];conv=>rhs;rw[n_binA]
   rw[bind_bind];rfl
 case makeInterface T x=>simp only[top];rw[bind_cond];rfl
 case typeAssert x T' T ok=>
  simp only[top];split
  ·rw[bind_cond];rfl
  ·rfl
 case unOp o t x=>simp only[top];rw[n_unA];conv=>rhs;rw[n_unA]
                  rw[bind_bind];rfl
 case convert s d x=>simp only[top];rw[bind_cond];congr 1;exact n_convert
 case sliceToArrayPointer T x=>
  simp only[top];split
  ·rw[bind_cond];congr 1
   rw[n_asVH];conv=>rhs;rw[n_asVH]
   rw[bind_bind];congr 1;funext l
   rw[bind_bind];rfl
  ·rfl
 case makeFunc fn fs cs=>cases fn<;>rfl
 case makeSlice T l c=>
  simp only[top];split
  ·rw[bind_cond];congr 1
   ·rw[n_asV];conv=>rhs;rw[n_asV]
    rw[bind_bind];congr 1;funext n
    rw[bind_cond];congr 1
    ·rw[bind_ite];rfl
    ·rw[bind_bind];rfl
   ·exact n_roomy
  ·rfl
 case slice T x lo hi mx=>
  cases mx with
  |none=>
   simp only[top];rw[n_rowC];congr 1
   ·funext _ _ sz l
    rw[n_emptyC];conv=>rhs;rw[n_emptyC]
    rw[bind_bind];rfl
   rw[bind_cond];congr 1;rw[n_sliceOp];conv=>rhs;rw[n_sliceOp]
   rw[bind_bind];rfl
  |some m=>
   simp only[top];rw[n_slice3];conv=>rhs;rw[n_slice3]
   rw[bind_bind];rfl
 case fieldAddr T x f=>
  simp only[top];rw[n_atC];congr 1
  ·funext b o _ _ l
   rw[n_fieldAddrC];conv=>rhs;rw[n_fieldAddrC]
   rw[bind_bind];rfl
  ·rw[bind_cond];congr 1;rw[n_fieldAddr];conv=>rhs;rw[n_fieldAddr]
   rw[bind_bind];rfl
 case field T x f=>
  simp only[top];split
  ·rw[bind_cond];congr 1;rw[n_getV];conv=>rhs;rw[n_getV]
   rw[bind_bind];rfl
  ·rw[n_fieldC];conv=>rhs;rw[n_fieldC]
   rw[bind_bind];rfl
  ·rfl
 case indexAddr T x i=>
  simp only[top]
  rw[n_rowC];congr 1
  ·funext b _ sz l
   rw[n_intD];conv=>rhs;rw[n_intD]
   rw[bind_bind];congr 1;funext i
   rw[n_indexC];conv=>rhs;rw[n_indexC]
   rw[bind_bind];rfl
  rw[n_atC];congr 1
  ·funext b o _ _ l
   rw[n_intD];conv=>rhs;rw[n_intD]
   rw[bind_bind];congr 1;funext i
   rw[n_indexArrC];conv=>rhs;rw[n_indexArrC]
   rw[bind_bind];rfl
  rw[bind_cond];congr 1
  rw[n_intD];conv=>rhs;rw[n_intD]
  rw[bind_bind];congr 1;funext i
  rw[n_indexAddr];conv=>rhs;rw[n_indexAddr]
  rw[bind_bind];rfl
 case index T x i=>
  simp only[top]
  rw[n_intD];conv=>rhs;rw[n_intD]
  rw[bind_bind];congr 1;funext i
  split
  ·rw[bind_cond];congr 1;rw[bind_bind];rfl
  ·rw[bind_cond];congr 1;rw[bind_bind];rfl
  ·rfl
 case lookup T x i ok=>
  cases ok with
  |false=>rfl
  |true=>
   simp only[top];split
   ·rw[bind_cond];congr 1
    rw[n_asV];conv=>rhs;rw[n_asV]
    rw[bind_bind];congr 1;funext n
    rw[bind_bind];rfl
   ·rfl
 case extract x i=>
  simp only[top];split
  ·split<;>rfl
  ·rfl
 case call c=>
  obtain⟨callee,args,ts⟩:=c
  cases callee with
  |builtin b=>
   simp only[top]
   split
   ·split
    ·rw[bind_cond];congr 1
     rw[n_rowC];congr 1
     ·funext _ _ sz ys
      rw[bind_cond];congr 1;exact n_appendC
     ·rw[n_valL];congr 1
      ·funext ys;exact n_appendC
      ·rw[bind_cond];congr 1;exact n_appendOp
    ·rfl
   ·split
    ·rfl
    ·rw[n_rowC];congr 1
     ·funext _ _ sz l
      rw[n_sizeC];rfl
     rw[bind_cond];congr 1;rw[n_lenD];conv=>rhs;rw[n_lenD]
     rw[bind_bind];rfl
   ·rw[n_asV];conv=>rhs;rw[n_asV]
    rw[bind_bind];congr 1;funext a
    rw[n_asV];conv=>rhs;rw[n_asV]
    rw[bind_bind];rfl
   ·rw[n_asV];conv=>rhs;rw[n_asV]
    rw[bind_bind];congr 1;funext a
    rw[n_asV];conv=>rhs;rw[n_asV]
    rw[bind_bind];rfl
   ·rw[n_asV];conv=>rhs;rw[n_asV]
    rw[bind_bind];congr 1;funext a
    rw[n_asV];conv=>rhs;rw[n_asV]
    rw[bind_bind];congr 1;funext b
    rw[n_asV];conv=>rhs;rw[n_asV]
    rw[bind_bind];rfl
   ·rw[n_asV];conv=>rhs;rw[n_asV]
    rw[bind_bind];congr 1;funext a
    rw[n_asV];conv=>rhs;rw[n_asV]
    rw[bind_bind];congr 1;funext b
    rw[n_asV];conv=>rhs;rw[n_asV]
    rw[bind_bind];rfl
   ·split
    ·rw[bind_cond];congr 1;exact n_copyOp
    ·rfl
   ·rw[bind_cond];congr 1;rw[n_capD];conv=>rhs;rw[n_capD]
    rw[bind_bind];rfl
   ·rfl
  |value f=>
   simp only[top]
   split
   ·rw[bind_cond];congr 1;exact n_callS
   ·rw[n_asVals];conv=>rhs;rw[n_asVals]
    rw[bind_bind];congr 1;funext x
    rw[bind_bind];rfl
   ·rfl
  |invoke r m=>
   simp only[top];rw[n_methC];conv=>rhs;rw[n_methC]
   rw[bind_bind];congr 1;funext q;exact n_callS
 all_goals rfl
theorem top_D{R:Type}{C:Ctx}{nm:Nat}{ρ:Env}{H:Heap}{op:Op}{k:DV->Heap->Option R}{r:R}(h:top C nm ρ H op k=some r): ∃x H',topD C nm ρ H op=some (x,H')∧k x H'=some r:=by
 rw[n_top,Option.bind_eq_some_iff]at h
 obtain⟨⟨x,H'⟩,h1,h2⟩:=h
 exact⟨x,H',h1,h2⟩
end Ev
end
section
namespace Ev
open Go
section
variable {P : Program} {H : Heap} {L : Nat -> Loc} {w : World} {M : Nat -> Prop}
theorem relV_i64{n:Int}:RelV w M .i64 n (.int .i64 n):=by simp only[RelV,Ty.agg,RelC]
theorem relV_u8{n:UInt8}:RelV w M .u8 n (.int .u8 n.toNat):=by simp only[RelV,Ty.agg,RelC]
theorem relV_u32{n:UInt32}:RelV w M .u32 n (.int .u32 n.toNat):=by simp only[RelV,Ty.agg,RelC]
theorem relV_u64{n:UInt64}:RelV w M .u64 n (.int .u64 n.toNat):=by simp only[RelV,Ty.agg,RelC]
theorem relV_bool{b:Bool}:RelV w M .bool b (.bool b):=by simp only[RelV,Ty.agg,RelC]
theorem relV_str{s:List UInt8}:RelV w M .str s (.string ⟨s.toArray⟩):=by simp only[RelV,Ty.agg,RelC]
theorem inv_i64{n:Int}{v:Value}(h:RelV w M .i64 n v):v= .int .i64 n:=by simpa[RelV,Ty.agg,RelC]using h
theorem inv_u8{n:UInt8}{v:Value}(h:RelV w M .u8 n v):v= .int .u8 n.toNat:=by simpa[RelV,Ty.agg,RelC]using h
theorem inv_u32{n:UInt32}{v:Value}(h:RelV w M .u32 n v):v= .int .u32 n.toNat:=by simpa[RelV,Ty.agg,RelC]using h
theorem inv_u64{n:UInt64}{v:Value}(h:RelV w M .u64 n v):v= .int .u64 n.toNat:=by simpa[RelV,Ty.agg,RelC]using h
theorem inv_bool{b:Bool}{v:Value}(h:RelV w M .bool b v):v= .bool b:=by simpa[RelV,Ty.agg,RelC]using h
theorem inv_str{s:List UInt8}{v:Value}(h:RelV w M .str s v):v= .string ⟨s.toArray⟩:=by simpa[RelV,Ty.agg,RelC]using h
theorem relV_sl{e:Ty}{l:List (Val e)}{v:Value}:RelV w M (.sl e) l v↔RelC w M (.sl e) l [v]:=Iff.rfl
theorem relV_op{e:Ty}{l:Option (Val e)}{v:Value}:RelV w M (.op e) l v↔RelC w M (.op e) l [v]:=Iff.rfl
theorem RelD.vinv{t:Ty}{x:Val t}{v:Value}(h:RelD P H L w M (.v t x) v):RelV w M t x v:=by cases h;assumption
theorem const_ok(v:Value):RelD P H L w M (constV v) v:=by
 unfold constV
 split
 ·exact .v relV_i64
 ·rename_i n
  by_cases h:0<=n∧n<256
  ·rw[decide_eq_true h]
   have:RelV w M .u8 (UInt8.ofNat n.toNat) (.int .u8 n):=by
    have e:((UInt8.ofNat n.toNat).toNat:Int)=n:=by rw[UInt8.toNat_ofNat_of_lt' (show n.toNat<256 by omega)];omega
    have:=relV_u8 (w:=w) (M:=M) (n:=UInt8.ofNat n.toNat)
    rwa[e]at this
   exact .v this
  ·rw[decide_eq_false h];exact .undef
 ·rename_i n
  by_cases h:0<=n∧n<4294967296
  ·rw[decide_eq_true h]
   have:RelV w M .u32 (UInt32.ofNat n.toNat) (.int .u32 n):=by
    have e:((UInt32.ofNat n.toNat).toNat:Int)=n:=by rw[UInt32.toNat_ofNat_of_lt' (show n.toNat<4294967296 by omega)];omega
    have:=relV_u32 (w:=w) (M:=M) (n:=UInt32.ofNat n.toNat)
    rwa[e]at this
   exact .v this
  ·rw[decide_eq_false h];exact .undef
 ·rename_i n
  by_cases h:0<=n∧n<18446744073709551616
  ·rw[decide_eq_true h]
   have:RelV w M .u64 (UInt64.ofNat n.toNat) (.int .u64 n):=by
    have e:((UInt64.ofNat n.toNat).toNat:Int)=n:=by rw[UInt64.toNat_ofNat_of_lt' (show n.toNat<18446744073709551616 by omega)];omega
    have:=relV_u64 (w:=w) (M:=M) (n:=UInt64.ofNat n.toNat)
    rwa[e]at this
   exact .v this
  ·rw[decide_eq_false h];exact .undef
 ·exact .v relV_bool
 ·rename_i s
  have:=relV_str (w:=w) (M:=M) (s:=s.data.toList)
  rw[show(⟨s.data.toList.toArray⟩:ByteArray)=s from by simp]at this
  exact .v this
 ·exact .nils
 ·exact .nilp
 ·exact .nilf
 ·exact .undef
theorem castV_rfl{t:Ty}(h:t=t)(x:Val t):castV h x=x:=rfl
theorem asV_ok{t:Ty}{x:DV}{y:Val t}{v:Value}(h:asV t x some=some y)(r:RelD P H L w M x v):RelV w M t y v:=by
 cases x with
 |v t' z=>
  simp only[asV]at h
  split at h
  ·rename_i he;subst he;injection h with h;subst h;exact r.vinv
  ·cases h
 |nils=>
  cases t<;>simp only[asV,reduceCtorEq]at h
  injection h with h;subst h
  cases r
  exact relV_sl.2 (.inl ⟨rfl,none,0,rfl⟩)
 |nilp=>
  cases t<;>simp only[asV,reduceCtorEq]at h
  injection h with h;subst h
  cases r
  exact relV_op.2 (.inl ⟨rfl,rfl⟩)
 |fp e z=>
  cases t<;>simp only[asV,reduceCtorEq]at h
  split at h
  ·rename_i he;subst he;injection h with h;subst h
   cases r with
   |fp h1 h2 h3 h4=>exact relV_op.2 (by simp only[RelC];exact .inr ⟨z,_,_,_,rfl,rfl,h1,h2,h3,h4⟩)
  ·cases h
 |_=>simp only[asV,reduceCtorEq]at h
theorem getV_ok: ∀ {t:Ty} {x:Val t} {p:List Stp} {us:List Value} {y:Sigma Val} {o:Nat} {t':Ty},RelC w M t x us->getV t x p (fun t y=>some ⟨t,y⟩)=some y->offV t p=some (o,t')->
 y.1=t'∧RelC w M y.1 y.2 ((us.drop o).take y.1.size)∧o+y.1.size<=us.length:=by
 intro t
 have nil: ∀ {t:Ty} {x:Val t} {us:List Value} {y:Sigma Val} {o:Nat} {t':Ty},RelC w M t x us->getV t x [] (fun t y=>some ⟨t,y⟩)=some y->offV t []=some (o,t')->
  y.1=t'∧RelC w M y.1 y.2 ((us.drop o).take y.1.size)∧o+y.1.size<=us.length:=by
  intro t x us y o t' hr hg ho
  simp only[getV,Option.some.injEq]at hg
  simp only[offV,Option.some.injEq,Prod.mk.injEq]at ho
  subst hg
  obtain⟨rfl,rfl⟩:=ho
  have hl:=hr.length
  refine⟨rfl,?_,by simp;omega⟩
  rw[List.drop_zero,List.take_of_length_le (by dsimp only;omega)];exact hr
 induction t with
 |pair a b iha ihb=>
  intro x p us y o t' hr hg ho
  cases p with
  |nil=>exact nil hr hg ho
  |cons s p=>
   simp only[RelC]at hr
   obtain⟨u,v,rfl,h1,h2⟩:=hr
   have hl1:=h1.length
   cases s with
   |fld i=>cases i with
    |zero=>
     simp only[getV,offV]at hg ho
     obtain⟨k1,k2,k3⟩:=iha h1 hg ho
     refine⟨k1,?_,by rw[List.length_append];omega⟩
     rwa[List.drop_append_of_le_length (by omega),List.take_append_of_le_length (by rw[List.length_drop];omega)]
    |succ i=>
     simp only[getV,offV,Option.map_eq_some_iff]at hg ho
     obtain⟨⟨o',t2⟩,ho,he⟩:=ho
     injection he with he1 he2
     dsimp only at he1 he2
     subst he1 he2
     obtain⟨k1,k2,k3⟩:=ihb h2 hg ho
     refine⟨k1,?_,by rw[List.length_append];omega⟩
     rwa[List.drop_append,List.drop_of_length_le (show u.length<=a.size+o' by omega),List.nil_append,show a.size+o'-u.length=o' by omega]
   |idx i=>simp only[getV,reduceCtorEq]at hg
 |arr n e ih=>
  intro x p us y o t' hr hg ho
  cases p with
  |nil=>exact nil hr hg ho
  |cons s p=>
   simp only[RelC]at hr
   cases s with
   |fld i=>simp only[getV,reduceCtorEq]at hg
   |idx i=>
    simp only[getV,offV]at hg ho
    split at ho
    ·rename_i hi
     simp only[Option.map_eq_some_iff]at ho
     obtain⟨⟨o',t2⟩,ho,he⟩:=ho
     injection he with he1 he2
     dsimp only at he1 he2
     subst he1 he2
     have hx:(x:Vector (Val e) n)[i]?.getD e.zero=(x:Vector (Val e) n)[i]:=by simp[hi]
     rw[hx]at hg
     have hrow:=RowR.get (fun _ _ k=>RelC.length k) hr (i:=i) (x:=(x:Vector (Val e) n)[i]) (by simp[hi])
     obtain⟨k1,k2,k3⟩:=ih hrow hg ho
     have hlen:=RowR.length (fun _ _ k=>RelC.length k) hr
     simp only[Vector.length_toList]at hlen
     have hle:i*e.size+e.size<=us.length:=by rw[hlen,←Nat.succ_mul];exact Nat.mul_le_mul_right _ hi
     rw[List.length_take,List.length_drop,Nat.min_eq_left (by omega)]at k3
     refine⟨k1,?_,by omega⟩
     rw[List.drop_take,List.take_take,List.drop_drop]at k2
     rwa[Nat.min_eq_left (by omega)]at k2
    ·cases ho
 |_=>
  intro x p us y o t' hr hg ho
  cases p with
  |nil=>exact nil hr hg ho
  |cons s p=>simp only[getV,reduceCtorEq]at hg
theorem off_of_get: ∀ {t:Ty} {x:Val t} {p:List Stp} {o:Nat} {t':Ty},offV t p=some (o,t')-> ∃y:Val t',getV t x p (fun t y=>some ⟨t,y⟩)=some (⟨t',y⟩:Sigma Val):=by
 intro t
 induction t with
 |pair a b iha ihb=>
  intro x p o t' ho
  cases p with
  |nil=>simp only[offV,Option.some.injEq,Prod.mk.injEq]at ho;obtain⟨rfl,rfl⟩:=ho;exact⟨x,rfl⟩
  |cons s p=>cases s with
   |fld i=>cases i with
    |zero=>simp only[offV]at ho;exact iha ho
    |succ i=>
     simp only[offV,Option.map_eq_some_iff]at ho
     obtain⟨⟨o',t2⟩,ho,he⟩:=ho
     injection he with he1 he2
     dsimp only at he1 he2
     subst he2
     exact ihb ho
   |idx i=>simp only[offV,reduceCtorEq]at ho
 |arr n e ih=>
  intro x p o t' ho
  cases p with
  |nil=>simp only[offV,Option.some.injEq,Prod.mk.injEq]at ho;obtain⟨rfl,rfl⟩:=ho;exact⟨x,rfl⟩
  |cons s p=>cases s with
   |fld i=>simp only[offV,reduceCtorEq]at ho
   |idx i=>
    simp only[offV]at ho
    split at ho
    ·simp only[Option.map_eq_some_iff]at ho
     obtain⟨⟨o',t2⟩,ho,he⟩:=ho
     injection he with he1 he2
     dsimp only at he1 he2
     subst he2
     exact ih ho
    ·cases ho
 |_=>
  intro x p o t' ho
  cases p with
  |nil=>simp only[offV,Option.some.injEq,Prod.mk.injEq]at ho;obtain⟨rfl,rfl⟩:=ho;exact⟨x,rfl⟩
  |cons s p=>simp only[offV,reduceCtorEq]at ho
theorem getM_ok{b:Nat}{s:Stat}{row:Bool}{t:Ty}{x:Val t}{p:List Stp}{y:Sigma Val}{o:Nat}{t':Ty}(hs:HRel P H L w M)(hb:hget H b= .mem s row t x)(hlv:s.live=true)
 (hg:getM row t x p (fun t y=>some ⟨t,y⟩)=some y) (ho:offE (.mem s row t x) p=some (o,t')):
 y.1=t'∧(L b).nil=false∧(L b).blk<w.heap.size∧ ∃us,CellsAt w (L b).blk ((L b).off+o) us∧RelC w M y.1 y.2 us:=by
 have hent:=hs.ent b (by rw[hb];cases s<;>first|trivial|cases hlv)
 rw[hb]at hent
 cases row with
 |false=>
  simp only[EntR]at hent
  obtain⟨h0,h1,h2,us,h3,h4⟩:=hent
  simp only[offE]at ho
  simp only[getM]at hg
  obtain⟨k1,k2,k3⟩:=getV_ok h4 hg ho
  exact⟨k1,h0,h1,_,(h3.drop o).take _,k2⟩
 |true=>
  cases t with
  |sl e=>
   cases p with
   |nil=>simp only[offE,reduceCtorEq]at ho
   |cons q p=>
    cases q with
    |fld i=>simp only[offE,reduceCtorEq]at ho
    |idx i=>
     simp only[offE]at ho
     split at ho
     ·rename_i hi
      simp only[Option.map_eq_some_iff]at ho
      obtain⟨⟨o',t2⟩,ho,he⟩:=ho
      injection he with he1 he2
      dsimp only at he1 he2
      subst he1 he2
      simp only[EntR]at hent
      rcases hent with⟨_,h1⟩|⟨h0,h1,h2,h3,us,h4,h5⟩
      ·rw[h1]at hi;cases hi
      ·simp only[getM]at hg
       have hx:List.getD (x:List (Val e)) i e.zero=(x:List (Val e))[i]:=by simp[List.getD,hi]
       rw[hx]at hg
       have hrow:=RowR.get (fun _ _ k=>RelC.length k) h5 (i:=i) (x:=(x:List (Val e))[i]) (by simp[hi])
       obtain⟨k1,k2,k3⟩:=getV_ok hrow hg ho
       refine⟨k1,h0,h1,_,?_,k2⟩
       rw[h2,Nat.zero_add]
       have:=(((h4.drop (i*e.size)).take e.size).drop o').take y.1.size
       rwa[Nat.zero_add]at this
     ·cases ho
  |_=>exact hent.elim
end
end Ev
end
section
namespace Ev
open Go
section
variable {P : Program} {H : Heap} {L : Nat -> Loc} {w : World} {M : Nat -> Prop}
theorem run_und{t:TypeId}{d:TypeDesc}(h:P.underlying t=some d):(underlying t).run P w= .ok d w:=by simp[underlying,h]
theorem run_tinfo{t:TypeId}{i:TypeInfo}(h:P.info? t=some i):(typeInfo t).run P w= .ok i w:=by simp[typeInfo,h]
theorem run_sizeOf{t:TypeId}{n:Nat}(h:tsz P t=some n):(Go.sizeOf t).run P w= .ok n w:=by
 simp only[tsz,Option.map_eq_some_iff]at h
 obtain⟨i,hi,rfl⟩:=h
 simp[Go.sizeOf,run_tinfo hi]
theorem run_bytes{t:TypeId}{n:Nat}(h:tby P t=some n): ∃i,P.info? t=some i∧i.bytes=n:=by
 simpa[tby,Option.map_eq_some_iff]using h
theorem run_isAgg{t:TypeId}{b:Bool}(h:isAggT P t=some b):(isAgg t).run P w= .ok b w:=by
 simp only[isAggT,Option.map_eq_some_iff]at h
 obtain⟨d,hd,rfl⟩:=h
 simp only[isAgg,Sem.run_bind,run_und hd,Result.andThen_ok]
 cases d<;>rfl
theorem run_zeroValue{t:TypeId}{z:List Value}(h:zeroT P t=some z): ∃v,(zeroValue t).run P w= .ok v w∧v.cells.toList=z:=by
 simp only[zeroT,Option.map_eq_some_iff,Option.bind_eq_some_iff]at h
 obtain⟨v,⟨i,hi,hv⟩,rfl⟩:=h
 exact⟨v,by simp[zeroValue,run_tinfo hi,hv],rfl⟩
theorem run_load_cell{a:Addr}{v:Value}(h:w.cell? a=some v):(Go.load a).run P w= .ok v w:=by simp[Go.load,Sem.run,h]
theorem add_none(B o n:Nat):(⟨B,o,none⟩:Addr).add n=⟨B,o+n,none⟩:=by
 unfold Addr.add;split
 ·rename_i h;subst h;rfl
 ·rfl
theorem extract_list(vs:Array Value)(off n:Nat):(vs.extract off (off+n)).toList=(vs.toList.drop off).take n:=by
 simp[Array.toList_extract,List.extract_eq_take_drop]
theorem relV_agg{t:Ty}{x:Val t}{us:Array Value}(ha:t.agg=true)(h:RelC w M t x us.toList):RelV w M t x (.agg us):=by
 unfold RelV;rw[ha];exact⟨us,rfl,h⟩
theorem relV_leaf{t:Ty}{x:Val t}{u:Value}(ha:t.agg=false)(h:RelC w M t x [u]):RelV w M t x u:=by
 unfold RelV;rw[ha];exact h
theorem size_leaf{t:Ty}(ha:t.agg=false):t.size=1:=by cases t<;>simp_all[Ty.agg,Ty.size]
theorem part_ok{T:TypeId}{t:Ty}{x:Val t}{vs:Array Value}{off:Nat}(ht:TyOk P T t)(h:RelC w M t x ((vs.toList.drop off).take t.size)): ∃v,(part T vs off).run P w= .ok v w∧RelV w M t x v:=by
 cases ha:t.agg with
 |true=>exact⟨.agg (vs.extract off (off+t.size)),by simp[part,run_isAgg ht.isAgg,ha,run_sizeOf ht.base.sz],relV_agg ha (by rw[extract_list];exact h)⟩
 |false=>
  rw[size_leaf ha]at h
  have hl:=h.length
  rw[size_leaf ha]at hl
  cases hd:vs.toList.drop off with
  |nil=>rw[hd]at hl;simp at hl
  |cons v r=>
   rw[hd]at h
   simp at h
   have hv:vs[off]?=some v:=by
    have:(vs.toList.drop off)[0]?=some v:=by rw[hd];rfl
    simpa using this
   exact⟨v,by simp[part,run_isAgg ht.isAgg,ha,hv],relV_leaf ha h⟩
theorem loadVar_ok{T:TypeId}{t:Ty}{x:Val t}{us:List Value}{B off:Nat}(ht:TyOk P T t)(hc:CellsAt w B off us)(h:RelC w M t x us): ∃v,(loadVar T ⟨B,off,none⟩).run P w= .ok v w∧RelV w M t x v:=by
 have hl:=h.length
 cases ha:t.agg with
 |true=>
  have:=run_loadCells_list (P:=P) (w:=w) ⟨B,off,none⟩ us (fun j v hj=>by rw[add_none];exact hc j v hj)
  rw[hl]at this
  exact⟨.agg us.toArray,by simp[loadVar,run_isAgg ht.isAgg,ha,run_sizeOf ht.base.sz,this],relV_agg ha (by simpa using h)⟩
 |false=>
  rw[size_leaf ha]at hl
  match us,hl with
  |[v],_=>
   have:=hc 0 v rfl
   rw[Nat.add_zero]at this
   exact⟨v,by simp only[loadVar,Sem.run_bind,run_isAgg ht.isAgg,ha,Result.andThen_ok,Bool.false_eq_true,if_false,run_load_cell this],relV_leaf ha h⟩
def eqItems(e:TypeId)(d n:Nat)(xs ys:Array Value):Nat->Nat->Sem Bool
 |_,0=>pure true
 |i,k+1=>do
  let a←part e xs (i*n)
  let b←part e ys (i*n)
  let r←Op.equalIn d e a b
  if(!r)=true then pure false else eqItems e d n xs ys (i+1) k
theorem run_equalIn_array(d:Nat)(t e:TypeId)(len n:Nat)(xs ys:Array Value)(ht:P.underlying t=some (.array len e))(hn:tsz P e=some n):
 (Op.equalIn (d+1) t (.agg xs) (.agg ys)).run P w=(eqItems e d n xs ys 0 len).run P w:=by
 simp only[Op.equalIn,Sem.run_bind,run_und ht,Result.andThen_ok,run_sizeOf hn]
 rw[Std.Legacy.Range.forIn_eq_forIn_range']
 simp only[Std.Legacy.Range.size,Nat.sub_zero,Nat.add_sub_cancel,Nat.div_one]
 generalize 0=i
 clear ht
 induction len generalizing i w with
 |zero=>simp[eqItems]
 |succ k ih=>
  simp only[List.range'_succ,List.forIn_cons,eqItems,Sem.run_bind,Sem.run_ite]
  generalize (part e xs (i*n)).run P w=r1
  cases r1 with
  |halt x w1=>simp[Result.andThen]
  |ok a w1=>
   simp only[Result.andThen_ok]
   generalize (part e ys (i*n)).run P w1=r2
   cases r2 with
   |halt x w2=>simp[Result.andThen]
   |ok b w2=>
    simp only[Result.andThen_ok]
    generalize (Op.equalIn d e a b).run P w2=r3
    cases r3 with
    |halt x w3=>simp[Result.andThen]
    |ok r w3=>
     cases r
     ·simp only[Result.andThen_ok,Bool.not_false,if_true,Sem.run_pure]
     ·simp only[Result.andThen_ok,Bool.not_true,Bool.false_eq_true,if_false,Sem.run_pure]
      exact ih (i+1)
def Ty.depth:Ty->Nat
 | .pair a b=>a.depth+b.depth+1
 | .arr _ e=>e.depth+1
 |_=>0
theorem ofNat_inj'{a b:UInt8}:((a.toNat:Int)==b.toNat)=decide (a=b):=by rw[Bool.eq_iff_iff];simp[←UInt8.toNat_inj];omega
theorem ofNat_inj32{a b:UInt32}:((a.toNat:Int)==b.toNat)=decide (a=b):=by rw[Bool.eq_iff_iff];simp[←UInt32.toNat_inj];omega
theorem ofNat_inj64{a b:UInt64}:((a.toNat:Int)==b.toNat)=decide (a=b):=by rw[Bool.eq_iff_iff];simp[←UInt64.toNat_inj];omega
theorem bytes_eq(a b:List UInt8):((⟨a.toArray⟩:ByteArray).toList==(⟨b.toArray⟩:ByteArray).toList)=decide (a=b):=by
 rw[ByteArray.toList_eq,ByteArray.toList_eq,Bool.eq_iff_iff];simp
def eqB(t:Ty)(x y:Val t):Bool:= @decide (x=y) (decV t x y)
theorem eqB_iff{t:Ty}{x y:Val t}:eqB t x y=true↔x=y:=by unfold eqB;simp
theorem eqB_of{t:Ty}{x y:Val t}{b:Bool}(h:b=true↔x=y):eqB t x y=b:=by
 rw[Bool.eq_iff_iff,eqB_iff];exact h.symm
theorem items_ok{E:TypeId}{e:Ty}(he:TyOk P E e){M':Nat->Prop}(heq: ∀x y u v,RelV w M e x u->RelV w M' e y v-> ∀k,e.depth<k->(Op.equalIn k E u v).run P w= .ok (eqB e x y) w)(xs ys:Array Value)(k:Nat)(hk:e.depth<k):
 ∀(l m:List (Val e)) (i:Nat),l.length=m.length->RowR (fun y u=>RelC w M e y u) l (xs.toList.drop (i*e.size))->RowR (fun y u=>RelC w M' e y u) m (ys.toList.drop (i*e.size))->
  ∃b,(eqItems E k e.size xs ys i l.length).run P w= .ok b w∧(b=true↔l=m):=by
 intro l
 induction l with
 |nil=>
  intro m i hl _ _
  have:m=[]:=List.length_eq_zero_iff.1 hl.symm
  subst this
  exact⟨true,rfl,by simp⟩
 |cons x l ih=>
  intro m i hl hx hy
  cases m with
  |nil=>simp at hl
  |cons y m=>
   have lx:=RowR.get (fun _ _ k=>RelC.length k) hx (i:=0) rfl
   have ly:=RowR.get (fun _ _ k=>RelC.length k) hy (i:=0) rfl
   simp only[Nat.zero_mul,List.drop_zero]at lx ly
   obtain⟨u,p1,p2⟩:=part_ok (P:=P) he lx
   obtain⟨v,q1,q2⟩:=part_ok (P:=P) he ly
   have hr:=heq x y u v p2 q2 k hk
   have dx:=RowR.drop (fun _ _ k=>RelC.length k) hx 1
   have dy:=RowR.drop (fun _ _ k=>RelC.length k) hy 1
   simp only[List.drop_succ_cons,List.drop_zero,Nat.one_mul,List.drop_drop]at dx dy
   rw[show i*e.size+e.size=(i+1)*e.size by rw[Nat.succ_mul]]at dx dy
   obtain⟨b,h1,h2⟩:=ih m (i+1) (by simpa using hl) dx dy
   simp only[List.length_cons,eqItems,Sem.run_bind,p1,q1,Result.andThen_ok,hr,Sem.run_ite]
   cases hb:eqB e x y with
   |false=>
    refine⟨false,by simp,?_⟩
    have: ¬x=y:=fun q=>by rw[eqB_iff.2 q]at hb;cases hb
    simp[this]
   |true=>
    refine⟨b,by simpa using h1,?_⟩
    rw[h2];simp[eqB_iff.1 hb]
theorem eqV_ok{M':Nat->Prop}: ∀(t:Ty),t.eqOk=true->
 (∀T,TyOk P T t-> ∀x y u v,RelV w M t x u->RelV w M' t y v-> ∀k,t.depth<k->(Op.equalIn k T u v).run P w= .ok (eqB t x y) w)∧
 (∀fs off (xs ys:Array Value) x y k,t.depth<k->(TyR P t).2 fs off->RelC w M t x (xs.toList.drop off)->RelC w M' t y (ys.toList.drop off)->(Op.eqFields k xs ys fs).run P w= .ok (eqB t x y) w)
 | .i64,_=>by
  refine⟨fun T hT x y u v hx hy k hk=> ?_,fun fs off xs ys x y k _ h=>h.elim⟩
  obtain⟨k,rfl⟩: ∃j,k=j+1:=⟨k-1,by omega⟩
  rw[inv_i64 hx,inv_i64 hy,run_equalIn_int w k T _ _ _ _ hT.2]
  first|rfl|(congr 1;exact(eqB_of (t:= .i64) (by simp)).symm)
 | .u8,_=>by
  refine⟨fun T hT x y u v hx hy k hk=> ?_,fun fs off xs ys x y k _ h=>h.elim⟩
  obtain⟨k,rfl⟩: ∃j,k=j+1:=⟨k-1,by omega⟩
  rw[inv_u8 hx,inv_u8 hy,run_equalIn_int w k T _ _ _ _ hT.2,ofNat_inj']
  first|rfl|(congr 1;exact(eqB_of (t:= .u8) (by simp)).symm)
 | .u32,_=>by
  refine⟨fun T hT x y u v hx hy k hk=> ?_,fun fs off xs ys x y k _ h=>h.elim⟩
  obtain⟨k,rfl⟩: ∃j,k=j+1:=⟨k-1,by omega⟩
  rw[inv_u32 hx,inv_u32 hy,run_equalIn_int w k T _ _ _ _ hT.2,ofNat_inj32]
  first|rfl|(congr 1;exact(eqB_of (t:= .u32) (by simp)).symm)
 | .u64,_=>by
  refine⟨fun T hT x y u v hx hy k hk=> ?_,fun fs off xs ys x y k _ h=>h.elim⟩
  obtain⟨k,rfl⟩: ∃j,k=j+1:=⟨k-1,by omega⟩
  rw[inv_u64 hx,inv_u64 hy,run_equalIn_int w k T _ _ _ _ hT.2,ofNat_inj64]
  first|rfl|(congr 1;exact(eqB_of (t:= .u64) (by simp)).symm)
 | .bool,_=>by
  refine⟨fun T hT x y u v hx hy k hk=> ?_,fun fs off xs ys x y k _ h=>h.elim⟩
  obtain⟨k,rfl⟩: ∃j,k=j+1:=⟨k-1,by omega⟩
  rw[inv_bool hx,inv_bool hy,run_equalIn_bool' w k T _ _ hT.2]
  first|rfl|(congr 1;exact(eqB_of (t:= .bool) (by simp)).symm)
 | .str,_=>by
  refine⟨fun T hT x y u v hx hy k hk=> ?_,fun fs off xs ys x y k _ h=>h.elim⟩
  obtain⟨k,rfl⟩: ∃j,k=j+1:=⟨k-1,by omega⟩
  rw[inv_str hx,inv_str hy,run_equalIn_string w k T _ _ hT.2,bytes_eq]
  first|rfl|(congr 1;exact(eqB_of (t:= .str) (by simp)).symm)
 | .unit,_=>by
  have hfs: ∀(fs:List Field) (off:Nat) (xs ys:Array Value) (x y:Val .unit) (k:Nat),fs=[]->(Op.eqFields k xs ys fs).run P w= .ok (eqB .unit x y) w:=by
   intro fs off xs ys x y k h
   subst h
   exact(rfl:Result.ok true w=Result.ok (eqB .unit x y) w)
  refine⟨fun T hT x y u v hx hy k hk=> ?_,fun fs off xs ys x y k _ h _ _=>hfs fs off xs ys x y k h⟩
  obtain⟨k,rfl⟩: ∃j,k=j+1:=⟨k-1,by omega⟩
  obtain⟨hb,fs,hu,hf⟩:=hT
  obtain⟨us,rfl,_⟩:=hx
  obtain⟨vs,rfl,_⟩:=hy
  have hfo:P.fieldsOf T=fs:=by simp[Program.fieldsOf,hu]
  rw[run_equalIn_struct w k T us vs (by rw[hfo];exact hu) (hb.held rfl rfl),hfo,hf]
  exact hfs [] 0 us vs x y k rfl
 | .pair a b,he=>by
  simp only[Ty.eqOk,Bool.and_eq_true]at he
  have iha:=eqV_ok (M':=M') a he.1
  have ihb:=eqV_ok (M':=M') b he.2
  have hfs: ∀(fs:List Field) off (xs ys:Array Value) (x y:Val (.pair a b)) k,(Ty.pair a b).depth<=k->(∃f r,fs=f::r∧f.offset=off∧f.name≠ "_" ∧(TyR P a).1 f.type∧0<a.size∧(TyR P b).2 r (off+a.size))->RelC w M (.pair a b) x (xs.toList.drop off)->RelC w M' (.pair a b) y (ys.toList.drop off)->
   (Op.eqFields k xs ys fs).run P w= .ok (eqB (.pair a b) x y) w:=by
   rintro fs off xs ys x y k hk ⟨f,r,rfl,hoff,hname,hfa,_,hfb⟩ hx hy
   simp only[Ty.depth]at hk
   simp only[RelC]at hx hy
   obtain⟨u1,u2,hu,hx1,hx2⟩:=hx
   obtain⟨v1,v2,hv,hy1,hy2⟩:=hy
   have lu:=hx1.length
   have lv:=hy1.length
   obtain⟨p,p1,p2⟩:=part_ok (P:=P) (vs:=xs) (off:=off) hfa (by rw[hu,List.take_append_of_le_length (by omega),List.take_of_length_le (by omega)];exact hx1)
   obtain⟨q,q1,q2⟩:=part_ok (P:=P) (vs:=ys) (off:=off) hfa (by rw[hv,List.take_append_of_le_length (by omega),List.take_of_length_le (by omega)];exact hy1)
   have hr:=iha.1 f.type hfa x.1 y.1 p q p2 q2 k (by omega)
   have dx:xs.toList.drop (off+a.size)=u2:=by rw[←List.drop_drop,hu,List.drop_append,List.drop_of_length_le (by omega),lu,Nat.sub_self];rfl
   have dy:ys.toList.drop (off+a.size)=v2:=by rw[←List.drop_drop,hv,List.drop_append,List.drop_of_length_le (by omega),lv,Nat.sub_self];rfl
   have hs:=ihb.2 r (off+a.size) xs ys x.2 y.2 k (by omega) hfb (by rw[dx];exact hx2) (by rw[dy];exact hy2)
   simp only[Op.eqFields,ne_eq,hname,not_false_eq_true,if_true,Sem.run_bind,hoff,p1,q1,Result.andThen_ok,hr,Sem.run_ite]
   cases hb:eqB a x.1 y.1 with
   |false=>
    have: ¬x.1=y.1:=fun q=>by rw[eqB_iff.2 q]at hb;cases hb
    simp only[Bool.not_false,if_true,Sem.run_pure]
    congr 1
    exact(eqB_of (t:= .pair a b) (b:=false) (by
     constructor
     ·intro q;cases q
     ·intro q;exact absurd (congrArg Prod.fst q) this)).symm
   |true=>
    simp only[Bool.not_true,Bool.false_eq_true,if_false,hs]
    congr 1
    exact(eqB_of (t:= .pair a b) (b:=eqB b x.2 y.2) (by
     rw[eqB_iff]
     constructor
     ·intro q;exact Prod.ext (eqB_iff.1 hb) q
     ·intro q;exact congrArg Prod.snd q)).symm
  refine⟨fun T hT x y u v hx hy k hk=> ?_,fun fs off xs ys x y k hk h h1 h2=>hfs fs off xs ys x y k (by omega) h h1 h2⟩
  obtain⟨k,rfl⟩: ∃j,k=j+1:=⟨k-1,by omega⟩
  obtain⟨hb,fs,hu,f,r,hf,h1,h2,h3,h4,h5⟩:=hT
  obtain⟨us,rfl,hx⟩:=hx
  obtain⟨vs,rfl,hy⟩:=hy
  have hfo:P.fieldsOf T=fs:=by simp[Program.fieldsOf,hu]
  rw[run_equalIn_struct w k T us vs (by rw[hfo];exact hu) (hb.held (by simp[Ty.eqOk,he]) rfl),hfo]
  exact hfs fs.toList 0 us vs x y k (by omega) ⟨f,r,hf,h1,h2,h3,h4,by rwa[Nat.zero_add]⟩ (by simpa using hx) (by simpa using hy)
 | .arr n e,he=>by
  have ih:=eqV_ok (M':=M') e he
  refine⟨fun T hT x y u v hx hy k hk=> ?_,fun fs off xs ys x y k _ h=>h.elim⟩
  obtain⟨k,rfl⟩: ∃j,k=j+1:=⟨k-1,by omega⟩
  obtain⟨hb,E,hu,hE,_⟩:=hT
  obtain⟨us,rfl,hx⟩:=hx
  obtain⟨vs,rfl,hy⟩:=hy
  simp only[RelC]at hx hy
  simp only[Ty.depth]at hk
  rw[run_equalIn_array k T E n e.size us vs hu (TyOk.base (t:=e) hE).sz]
  obtain⟨q,h1,h2⟩:=items_ok (P:=P) (M':=M') (e:=e) hE (fun x y u v h h' k hk=>ih.1 E hE x y u v h h' k hk) us vs k (by omega) (x:Vector (Val e) n).toList (y:Vector (Val e) n).toList 0 (by simp) (by simpa using hx) (by simpa using hy)
  simp only[Vector.length_toList]at h1
  rw[h1]
  congr 1
  refine(eqB_of (t:= .arr n e) ?_).symm
  rw[h2];exact Vector.toList_inj
 | .sl e,h| .op e,h=>by cases h
end
end Ev
end
