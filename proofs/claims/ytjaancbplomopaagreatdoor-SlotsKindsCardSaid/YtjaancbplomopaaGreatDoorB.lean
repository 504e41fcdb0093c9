/- Laws by which the evaluator's operations, stores and rows agree with the code's steps. No conditions. -/
import Derived.Test.YtjaancbplomopaaGreatDoorA
import Derived.Laws.AppendOwn
import Derived.Lib.ConvBytes
set_option linter.unusedVariables false
set_option linter.unusedSimpArgs false
set_option linter.unusedSectionVars false
set_option maxRecDepth 100000
section
namespace Ev
open Go
section
variable {P : Program} {H : Heap} {L : Nat -> Loc} {w : World} {M : Nat -> Prop}
def Pur(P:Program)(H:Heap)(L:Nat->Loc)(w:World)(M:Nat->Prop)(s:Sem Value)(x:DV):Prop:= ∃v,s.run P w= .ok v w∧RelD P H L w M x v
def Done(P:Program)(s:Sem Next)(H:Heap)(L:Nat->Loc)(w:World)(M:Nat->Prop)(H':Heap)(x:DV):Prop:=
 ∃nx w' L' M' v,s.run P w= .ok nx w'∧(nx= .value v∨(nx= .skip∧v=undef))∧RelD P H' L' w' M' x v∧HRel P H' L' w' M'∧Step H L w M H' L' w' M'
theorem Pur.done{s:Sem Value}{x:DV}(hs:HRel P H L w M)(h:Pur P H L w M s x):Done P (do pure (.value (←s))) H L w M H x:=by
 obtain⟨v,h1,h2⟩:=h
 exact⟨.value v,w,L,M,v,by simp only[Sem.run_bind,h1,Result.andThen_ok,Sem.run_pure], .inl rfl,h2,hs,Step.refl _ _ _ _⟩
theorem wrap_u8(n:Int):IntKind.u8.wrap n=n%256:=by simp[IntKind.wrap,IntKind.bits,IntKind.signed]
theorem wrap_u32(n:Int):IntKind.u32.wrap n=n%4294967296:=by simp[IntKind.wrap,IntKind.bits,IntKind.signed]
theorem wrap_u64(n:Int):IntKind.u64.wrap n=n%18446744073709551616:=by simp[IntKind.wrap,IntKind.bits,IntKind.signed]
theorem ofInt8(a:UInt8):BitVec.ofInt 8 (a.toNat:Int)=a.toBitVec:=by
 show BitVec.ofInt 8 (a.toBitVec.toNat:Int)=_
 simp
theorem ofInt32(a:UInt32):BitVec.ofInt 32 (a.toNat:Int)=a.toBitVec:=by
 show BitVec.ofInt 32 (a.toBitVec.toNat:Int)=_
 simp
theorem ofInt64(a:UInt64):BitVec.ofInt 64 (a.toNat:Int)=a.toBitVec:=by
 show BitVec.ofInt 64 (a.toBitVec.toNat:Int)=_
 simp
theorem mod8(x:BitVec 8):(x.toNat:Int)%256=x.toNat:=by have:=x.isLt;omega
theorem mod32(x:BitVec 32):(x.toNat:Int)%4294967296=x.toNat:=by have:=x.isLt;omega
theorem mod64(x:BitVec 64):(x.toNat:Int)%18446744073709551616=x.toNat:=by have:=x.isLt;omega
theorem bin8_ok{op:BinOp}{a b:UInt8}{z:DV}(h:bin8 op a b some=some z)(t:TypeId):Pur P H L w M (binOp op t (.int .u8 a.toNat) (.int .u8 b.toNat)) z:=by
 have ha:=a.toNat_lt;have hb:=b.toNat_lt
 cases op<;>simp only[bin8,reduceCtorEq,Option.some.injEq]at h<;>subst h
 case add=>exact⟨.int .u8 ((a.toNat+b.toNat:Int)%256),by simp only[binOp,Op.intArith,wrap_u8];rfl, .v (by
  have:=relV_u8 (w:=w) (M:=M) (n:=a+b);rw[UInt8.toNat_add]at this
  rwa[show((a.toNat+b.toNat:Int)%256)=(((a.toNat+b.toNat)%2^8:Nat):Int)by omega])⟩
 case sub=>exact⟨.int .u8 ((a.toNat-b.toNat:Int)%256),by simp only[binOp,Op.intArith,wrap_u8];rfl, .v (by
  have:=relV_u8 (w:=w) (M:=M) (n:=a-b);rw[UInt8.toNat_sub]at this
  rwa[show((a.toNat-b.toNat:Int)%256)=(((2^8-b.toNat+a.toNat)%2^8:Nat):Int)by omega])⟩
 case mul=>exact⟨.int .u8 ((a.toNat*b.toNat:Int)%256),by simp only[binOp,Op.intArith,wrap_u8];rfl, .v (by
  have:=relV_u8 (w:=w) (M:=M) (n:=a*b);rw[UInt8.toNat_mul]at this
  rwa[show((a.toNat*b.toNat:Int)%256)=(((a.toNat*b.toNat)%2^8:Nat):Int)by rw[Int.natCast_emod,Int.natCast_mul];rfl])⟩
 case and=>exact⟨.int .u8 (a&&&b).toNat,by simp only[binOp,Op.intBits,IntKind.bits,ofInt8,wrap_u8];rw[mod8];rfl, .v relV_u8⟩
 case or=>exact⟨.int .u8 (a|||b).toNat,by simp only[binOp,Op.intBits,IntKind.bits,ofInt8,wrap_u8];rw[mod8];rfl, .v relV_u8⟩
 case xor=>exact⟨.int .u8 (a^^^b).toNat,by simp only[binOp,Op.intBits,IntKind.bits,ofInt8,wrap_u8];rw[mod8];rfl, .v relV_u8⟩
 case eql=>exact⟨.bool (decide (a=b)),by simp only[binOp,Op.intCmp];rw[←ofNat_inj'];simp, .v relV_bool⟩
 case neq=>exact⟨.bool (decide (a≠b)),by
  have:((a.toNat:Int) !=b.toNat)=decide (a≠b):=by rw[bne,ofNat_inj',decide_not]
  simp only[binOp,Op.intCmp];rw[←this];simp, .v relV_bool⟩
 case lss=>exact⟨.bool (decide (a<b)),by simp[binOp,Op.intCmp,UInt8.lt_iff_toNat_lt], .v relV_bool⟩
 case leq=>exact⟨.bool (decide (a<=b)),by simp[binOp,Op.intCmp,UInt8.le_iff_toNat_le], .v relV_bool⟩
 case gtr=>exact⟨.bool (decide (b<a)),by simp[binOp,Op.intCmp,UInt8.lt_iff_toNat_lt], .v relV_bool⟩
 case geq=>exact⟨.bool (decide (b<=a)),by simp[binOp,Op.intCmp,UInt8.le_iff_toNat_le], .v relV_bool⟩
theorem bin32_ok{op:BinOp}{a b:UInt32}{z:DV}(h:bin32 op a b some=some z)(t:TypeId):Pur P H L w M (binOp op t (.int .u32 a.toNat) (.int .u32 b.toNat)) z:=by
 have ha:=a.toNat_lt;have hb:=b.toNat_lt
 cases op<;>simp only[bin32,reduceCtorEq,Option.some.injEq]at h<;>subst h
 case add=>exact⟨.int .u32 ((a.toNat+b.toNat:Int)%4294967296),by simp only[binOp,Op.intArith,wrap_u32];rfl, .v (by
  have:=relV_u32 (w:=w) (M:=M) (n:=a+b);rw[UInt32.toNat_add]at this
  rwa[show((a.toNat+b.toNat:Int)%4294967296)=(((a.toNat+b.toNat)%2^32:Nat):Int)by omega])⟩
 case sub=>exact⟨.int .u32 ((a.toNat-b.toNat:Int)%4294967296),by simp only[binOp,Op.intArith,wrap_u32];rfl, .v (by
  have:=relV_u32 (w:=w) (M:=M) (n:=a-b);rw[UInt32.toNat_sub]at this
  rwa[show((a.toNat-b.toNat:Int)%4294967296)=(((2^32-b.toNat+a.toNat)%2^32:Nat):Int)by omega])⟩
 case mul=>exact⟨.int .u32 ((a.toNat*b.toNat:Int)%4294967296),by simp only[binOp,Op.intArith,wrap_u32];rfl, .v (by
  have:=relV_u32 (w:=w) (M:=M) (n:=a*b);rw[UInt32.toNat_mul]at this
  rwa[show((a.toNat*b.toNat:Int)%4294967296)=(((a.toNat*b.toNat)%2^32:Nat):Int)by rw[Int.natCast_emod,Int.natCast_mul];rfl])⟩
 case and=>exact⟨.int .u32 (a&&&b).toNat,by simp only[binOp,Op.intBits,IntKind.bits,ofInt32,wrap_u32];rw[mod32];rfl, .v relV_u32⟩
 case or=>exact⟨.int .u32 (a|||b).toNat,by simp only[binOp,Op.intBits,IntKind.bits,ofInt32,wrap_u32];rw[mod32];rfl, .v relV_u32⟩
 case xor=>exact⟨.int .u32 (a^^^b).toNat,by simp only[binOp,Op.intBits,IntKind.bits,ofInt32,wrap_u32];rw[mod32];rfl, .v relV_u32⟩
 case eql=>exact⟨.bool (decide (a=b)),by simp only[binOp,Op.intCmp];rw[←ofNat_inj32];simp, .v relV_bool⟩
 case neq=>exact⟨.bool (decide (a≠b)),by
  have:((a.toNat:Int) !=b.toNat)=decide (a≠b):=by rw[bne,ofNat_inj32,decide_not]
  simp only[binOp,Op.intCmp];rw[←this];simp, .v relV_bool⟩
 case lss=>exact⟨.bool (decide (a<b)),by simp[binOp,Op.intCmp,UInt32.lt_iff_toNat_lt], .v relV_bool⟩
 case leq=>exact⟨.bool (decide (a<=b)),by simp[binOp,Op.intCmp,UInt32.le_iff_toNat_le], .v relV_bool⟩
 case gtr=>exact⟨.bool (decide (b<a)),by simp[binOp,Op.intCmp,UInt32.lt_iff_toNat_lt], .v relV_bool⟩
 case geq=>exact⟨.bool (decide (b<=a)),by simp[binOp,Op.intCmp,UInt32.le_iff_toNat_le], .v relV_bool⟩
theorem bin64_ok{op:BinOp}{a b:UInt64}{z:DV}(h:bin64 op a b some=some z)(t:TypeId):Pur P H L w M (binOp op t (.int .u64 a.toNat) (.int .u64 b.toNat)) z:=by
 have ha:=a.toNat_lt;have hb:=b.toNat_lt
 cases op<;>simp only[bin64,reduceCtorEq,Option.some.injEq]at h<;>subst h
 case add=>exact⟨.int .u64 ((a.toNat+b.toNat:Int)%18446744073709551616),by simp only[binOp,Op.intArith,wrap_u64];rfl, .v (by
  have:=relV_u64 (w:=w) (M:=M) (n:=a+b);rw[UInt64.toNat_add]at this
  rwa[show((a.toNat+b.toNat:Int)%18446744073709551616)=(((a.toNat+b.toNat)%2^64:Nat):Int)by omega])⟩
 case sub=>exact⟨.int .u64 ((a.toNat-b.toNat:Int)%18446744073709551616),by simp only[binOp,Op.intArith,wrap_u64];rfl, .v (by
  have:=relV_u64 (w:=w) (M:=M) (n:=a-b);rw[UInt64.toNat_sub]at this
  rwa[show((a.toNat-b.toNat:Int)%18446744073709551616)=(((2^64-b.toNat+a.toNat)%2^64:Nat):Int)by omega])⟩
 case mul=>exact⟨.int .u64 ((a.toNat*b.toNat:Int)%18446744073709551616),by simp only[binOp,Op.intArith,wrap_u64];rfl, .v (by
  have:=relV_u64 (w:=w) (M:=M) (n:=a*b);rw[UInt64.toNat_mul]at this
  rwa[show((a.toNat*b.toNat:Int)%18446744073709551616)=(((a.toNat*b.toNat)%2^64:Nat):Int)by rw[Int.natCast_emod,Int.natCast_mul];rfl])⟩
 case and=>exact⟨.int .u64 (a&&&b).toNat,by simp only[binOp,Op.intBits,IntKind.bits,ofInt64,wrap_u64];rw[mod64];rfl, .v relV_u64⟩
 case or=>exact⟨.int .u64 (a|||b).toNat,by simp only[binOp,Op.intBits,IntKind.bits,ofInt64,wrap_u64];rw[mod64];rfl, .v relV_u64⟩
 case xor=>exact⟨.int .u64 (a^^^b).toNat,by simp only[binOp,Op.intBits,IntKind.bits,ofInt64,wrap_u64];rw[mod64];rfl, .v relV_u64⟩
 case eql=>exact⟨.bool (decide (a=b)),by simp only[binOp,Op.intCmp];rw[←ofNat_inj64];simp, .v relV_bool⟩
 case neq=>exact⟨.bool (decide (a≠b)),by
  have:((a.toNat:Int) !=b.toNat)=decide (a≠b):=by rw[bne,ofNat_inj64,decide_not]
  simp only[binOp,Op.intCmp];rw[←this];simp, .v relV_bool⟩
 case lss=>exact⟨.bool (decide (a<b)),by simp[binOp,Op.intCmp,UInt64.lt_iff_toNat_lt], .v relV_bool⟩
 case leq=>exact⟨.bool (decide (a<=b)),by simp[binOp,Op.intCmp,UInt64.le_iff_toNat_le], .v relV_bool⟩
 case gtr=>exact⟨.bool (decide (b<a)),by simp[binOp,Op.intCmp,UInt64.lt_iff_toNat_lt], .v relV_bool⟩
 case geq=>exact⟨.bool (decide (b<=a)),by simp[binOp,Op.intCmp,UInt64.le_iff_toNat_le], .v relV_bool⟩
theorem binI_ok{op:BinOp}{a b:Int}{z:DV}(h:binI op a b some=some z)(t:TypeId):Pur P H L w M (binOp op t (.int .i64 a) (.int .i64 b)) z:=by
 cases op<;>simp only[binI,reduceCtorEq,Option.some.injEq]at h
 case add=>subst h;exact⟨_,by simp only[binOp,Op.intArith];rfl, .v relV_i64⟩
 case sub=>subst h;exact⟨_,by simp only[binOp,Op.intArith];rfl, .v relV_i64⟩
 case mul=>subst h;exact⟨_,by simp only[binOp,Op.intArith];rfl, .v relV_i64⟩
 case quo=>
  simp only[quoI,Option.bind_eq_some_iff]at h
  obtain⟨c,hc,h⟩:=h
  split at hc
  ·cases hc
  ·rename_i hb
   injection hc with hc;injection h with h;subst hc h
   exact⟨_,by simp only[binOp,Op.intDiv,if_neg hb];rfl, .v relV_i64⟩
 case rem=>
  simp only[remI,Option.bind_eq_some_iff]at h
  obtain⟨c,hc,h⟩:=h
  split at hc
  ·cases hc
  ·rename_i hb
   injection hc with hc;injection h with h;subst hc h
   exact⟨_,by simp[binOp,Op.intDiv,hb], .v relV_i64⟩
 case and=>subst h;exact⟨_,by simp only[binOp,Op.intBits];rfl, .v relV_i64⟩
 case or=>subst h;exact⟨_,by simp only[binOp,Op.intBits];rfl, .v relV_i64⟩
 case xor=>subst h;exact⟨_,by simp only[binOp,Op.intBits];rfl, .v relV_i64⟩
 case eql=>subst h;exact⟨.bool (decide (a=b)),by simp[binOp,Op.intCmp,BEq.beq], .v relV_bool⟩
 case neq=>subst h;exact⟨.bool (decide (a≠b)),by simp[binOp,Op.intCmp,bne,BEq.beq], .v relV_bool⟩
 case lss=>subst h;exact⟨.bool (decide (a<b)),by simp[binOp,Op.intCmp], .v relV_bool⟩
 case leq=>subst h;exact⟨.bool (decide (a<=b)),by simp[binOp,Op.intCmp], .v relV_bool⟩
 case gtr=>subst h;exact⟨.bool (decide (b<a)),by simp[binOp,Op.intCmp], .v relV_bool⟩
 case geq=>subst h;exact⟨.bool (decide (b<=a)),by simp[binOp,Op.intCmp], .v relV_bool⟩
end
end Ev
end
section
namespace Ev
open Go
section
variable {P : Program} {H : Heap} {L : Nat -> Loc} {w : World} {M : Nat -> Prop}
theorem cnt_i64{a:Int}{n:Nat}(h:(if a<0 then none else some a.toNat)=some n):a=n:=by
 split at h
 ·cases h
 ·injection h with h;omega
theorem cnt_ok{x:DV}{n:Nat}{v:Value}(h:cnt x some=some n)(r:RelD P H L w M x v): ∃k,v= .int k (n:Int):=by
 cases x with
 |v t a=>
  have hr:=r.vinv
  cases t<;>simp only[cnt,reduceCtorEq]at h
  ·have ha:v= .int .i64 (a:Int):=inv_i64 hr
   exact⟨.i64,by rw[ha];congr 1;exact cnt_i64 h⟩
  ·injection h with h;subst h;exact⟨_,inv_u8 hr⟩
  ·injection h with h;subst h;exact⟨_,inv_u32 hr⟩
  ·injection h with h;subst h;exact⟨_,inv_u64 hr⟩
 |_=>simp only[cnt,reduceCtorEq]at h
theorem fdiv_pow(a n:Nat):((a:Int)).fdiv (2^n)=((a/2^n:Nat):Int):=by
 rw[Int.fdiv_eq_ediv_of_nonneg _ (Int.pow_nonneg (by omega))];simp
theorem shift_ok{op:BinOp}{x z:DV}{n:Nat}{v:Value}{k:IntKind}(h:shift op x n some=some z)(r:RelD P H L w M x v)(t:TypeId):Pur P H L w M (binOp op t v (.int k (n:Int))) z:=by
 have h0: ¬((n:Int)<0):=by omega
 unfold shift at h
 split at h<;>first|(cases h;done)|(injection h with h;subst h)
 ·rw[inv_i64 r.vinv];exact⟨_,by simp only[binOp,Op.shift,if_neg h0,Int.toNat_natCast];rfl, .v relV_i64⟩
 ·rw[inv_i64 r.vinv];exact⟨_,by simp only[binOp,Op.shift,if_neg h0,Int.toNat_natCast];rfl, .v relV_i64⟩
 ·rename_i a;rw[inv_u8 r.vinv]
  refine⟨.int .u8 (((a.toNat:Int)*2^(min n 8))%256),by simp only[binOp,Op.shift,if_neg h0,Int.toNat_natCast,wrap_u8];rfl, .v ?_⟩
  have:=relV_u8 (w:=w) (M:=M) (n:=shl8 a n)
  unfold shl8 at this
  rw[UInt8.toNat_ofNat']at this
  rwa[show((a.toNat:Int)*2^(min n 8))%256=((a.toNat*2^(min n 8)%2^8:Nat):Int)by rw[Int.natCast_emod,Int.natCast_mul,Int.natCast_pow];rfl]
 ·rename_i a;rw[inv_u8 r.vinv]
  refine⟨.int .u8 ((a.toNat/2^(min n 8):Nat):Int),by simp only[binOp,Op.shift,if_neg h0,Int.toNat_natCast];rw[←fdiv_pow];rfl, .v ?_⟩
  have:=relV_u8 (w:=w) (M:=M) (n:=shr8 a n)
  unfold shr8 at this
  rw[UInt8.toNat_ofNat_of_lt' (Nat.lt_of_le_of_lt (Nat.div_le_self _ _) a.toNat_lt)]at this
  exact this
 ·rename_i a;rw[inv_u32 r.vinv]
  refine⟨.int .u32 (((a.toNat:Int)*2^(min n 32))%4294967296),by simp only[binOp,Op.shift,if_neg h0,Int.toNat_natCast,wrap_u32];rfl, .v ?_⟩
  have:=relV_u32 (w:=w) (M:=M) (n:=shl32 a n)
  unfold shl32 at this
  rw[UInt32.toNat_ofNat']at this
  rwa[show((a.toNat:Int)*2^(min n 32))%4294967296=((a.toNat*2^(min n 32)%2^32:Nat):Int)by rw[Int.natCast_emod,Int.natCast_mul,Int.natCast_pow];rfl]
 ·rename_i a;rw[inv_u32 r.vinv]
  refine⟨.int .u32 ((a.toNat/2^(min n 32):Nat):Int),by simp only[binOp,Op.shift,if_neg h0,Int.toNat_natCast];rw[←fdiv_pow];rfl, .v ?_⟩
  have:=relV_u32 (w:=w) (M:=M) (n:=shr32 a n)
  unfold shr32 at this
  rw[UInt32.toNat_ofNat_of_lt' (Nat.lt_of_le_of_lt (Nat.div_le_self _ _) a.toNat_lt)]at this
  exact this
 ·rename_i a;rw[inv_u64 r.vinv]
  refine⟨.int .u64 (((a.toNat:Int)*2^(min n 64))%18446744073709551616),by simp only[binOp,Op.shift,if_neg h0,Int.toNat_natCast,wrap_u64];rfl, .v ?_⟩
  have:=relV_u64 (w:=w) (M:=M) (n:=shl64 a n)
  unfold shl64 at this
  rw[UInt64.toNat_ofNat']at this
  rwa[show((a.toNat:Int)*2^(min n 64))%18446744073709551616=((a.toNat*2^(min n 64)%2^64:Nat):Int)by rw[Int.natCast_emod,Int.natCast_mul,Int.natCast_pow];rfl]
 ·rename_i a;rw[inv_u64 r.vinv]
  refine⟨.int .u64 ((a.toNat/2^(min n 64):Nat):Int),by simp only[binOp,Op.shift,if_neg h0,Int.toNat_natCast];rw[←fdiv_pow];rfl, .v ?_⟩
  have:=relV_u64 (w:=w) (M:=M) (n:=shr64 a n)
  unfold shr64 at this
  rw[UInt64.toNat_ofNat_of_lt' (Nat.lt_of_le_of_lt (Nat.div_le_self _ _) a.toNat_lt)]at this
  exact this
theorem str_add(a b:List UInt8):(⟨a.toArray⟩:ByteArray)++⟨b.toArray⟩=⟨(a++b).toArray⟩:=by
 apply ByteArray.ext;simp
theorem eqop_ok{T:TypeId}{t:Ty}(hT:TyOk P T t)(he:t.eqOk=true)(hd:t.depth<10000){x y:Val t}{u v:Value}(hx:RelV w M t x u)(hy:RelV w M t y v)(ox oy:Operand):
 (∀op,(eqGuard op T ox oy u v).run P w= .ok () w)∧(binOp .eql T u v).run P w= .ok (.bool (eqB t x y)) w∧(binOp .neq T u v).run P w= .ok (.bool (!eqB t x y)) w:=by
 have hr:=(eqV_ok (P:=P) (M:=M) (M':=M) t he).1 T hT x y u v hx hy Op.maxDepth hd
 cases ha:t.agg with
 |true=>
  unfold RelV at hx hy
  rw[ha]at hx hy
  obtain⟨us,rfl,_⟩:=hx
  obtain⟨vs,rfl,_⟩:=hy
  refine⟨fun op=>run_eqGuard_agg w op T ox oy us vs (hT.base.grd he ha),?_,?_⟩
  ·show(do pure (.bool (←Op.equal T (.agg us) (.agg vs))):Sem Value).run P w=_
   simp only[Op.equal,Sem.run_bind,hr,Result.andThen_ok,Sem.run_pure]
  ·show(do pure (.bool (!(←Op.equal T (.agg us) (.agg vs)))):Sem Value).run P w=_
   simp only[Op.equal,Sem.run_bind,hr,Result.andThen_ok,Sem.run_pure]
 |false=>
  cases t with
  |i64=>rw[inv_i64 hx,inv_i64 hy]at hr⊢
        refine⟨fun op=>by cases op<;>rfl,?_,?_⟩
        ·simp only[binOp,Op.intCmp]
         congr 2<;>exact(eqB_of (t:= .i64) (by simp)).symm
        ·simp only[binOp,Op.intCmp,bne]
         congr 3<;>exact(eqB_of (t:= .i64) (by simp)).symm
  |u8=>rw[inv_u8 hx,inv_u8 hy]at hr⊢
       refine⟨fun op=>by cases op<;>rfl,?_,?_⟩
       ·simp only[binOp,Op.intCmp,ofNat_inj']
        congr 2<;>exact(eqB_of (t:= .u8) (by simp)).symm
       ·simp only[binOp,Op.intCmp,bne,ofNat_inj']
        congr 3<;>exact(eqB_of (t:= .u8) (by simp)).symm
  |u32=>rw[inv_u32 hx,inv_u32 hy]at hr⊢
        refine⟨fun op=>by cases op<;>rfl,?_,?_⟩
        ·simp only[binOp,Op.intCmp,ofNat_inj32]
         congr 2<;>exact(eqB_of (t:= .u32) (by simp)).symm
        ·simp only[binOp,Op.intCmp,bne,ofNat_inj32]
         congr 3<;>exact(eqB_of (t:= .u32) (by simp)).symm
  |u64=>rw[inv_u64 hx,inv_u64 hy]at hr⊢
        refine⟨fun op=>by cases op<;>rfl,?_,?_⟩
        ·simp only[binOp,Op.intCmp,ofNat_inj64]
         congr 2<;>exact(eqB_of (t:= .u64) (by simp)).symm
        ·simp only[binOp,Op.intCmp,bne,ofNat_inj64]
         congr 3<;>exact(eqB_of (t:= .u64) (by simp)).symm
  |bool=>
   rw[inv_bool hx,inv_bool hy]at hr⊢
   refine⟨fun op=>by cases op<;>rfl,?_,?_⟩
   ·show(do pure (.bool (←Op.equal T (.bool x) (.bool y))):Sem Value).run P w=_
    simp only[Op.equal,Sem.run_bind,hr,Result.andThen_ok,Sem.run_pure]
   ·show(do pure (.bool (!(←Op.equal T (.bool x) (.bool y)))):Sem Value).run P w=_
    simp only[Op.equal,Sem.run_bind,hr,Result.andThen_ok,Sem.run_pure]
  |str=>
   rw[inv_str hx,inv_str hy]at hr⊢
   refine⟨fun op=>by cases op<;>rfl,?_,?_⟩
   ·simp only[binOp,Op.stringOp]
    rw[bytes_eq]
    congr 2<;>exact(eqB_of (t:= .str) (by simp)).symm
   ·simp only[binOp,Op.stringOp]
    rw[bytes_eq]
    congr 3<;>exact(eqB_of (t:= .str) (by simp)).symm
  |sl e=>cases he
  |op e=>cases he
  |_=>cases ha
theorem binA_ok{C:Ctx}(hC: ∀T t,C.ty T=some t->TyOk P T t∧t.depth<10000){op:BinOp}{T:TypeId}{x y z:DV}{ox oy:Operand}{a b:Value}(h:binA (C.ty T) op x y some=some z)(ra:RelD P H L w M x a)(rb:RelD P H L w M y b):
 Pur P H L w M (do eqGuard op T ox oy a b;binOp op T a b) z:=by
 unfold binA at h
 cases hsh:isShift op with
 |true=>
  rw[hsh]at h
  simp only[cond_true]at h
  rw[n_cnt,Option.bind_eq_some_iff]at h
  obtain⟨n,hn,h⟩:=h
  obtain⟨k,rfl⟩:=cnt_ok hn rb
  obtain⟨v,h1,h2⟩:=shift_ok (k:=k) h ra T
  have hg:(eqGuard op T ox oy a (.int k n)).run P w= .ok () w:=by
   cases op<;>simp only[isShift,reduceCtorEq]at hsh<;>rfl
  exact⟨v,by simp only[Sem.run_bind,hg,Result.andThen_ok,h1],h2⟩
 |false=>
  rw[hsh]at h
  simp only[cond_false]at h
  have fin: ∀(u v:Value),a=u->b=v->(∀op:BinOp,(eqGuard op T ox oy u v).run P w= .ok () w)->Pur P H L w M (binOp op T u v) z->Pur P H L w M (do eqGuard op T ox oy a b;binOp op T a b) z:=by
   rintro u v rfl rfl hg ⟨r,h1,h2⟩
   exact⟨r,by simp only[Sem.run_bind,hg,Result.andThen_ok,h1],h2⟩
  split at h
  ·exact fin _ _ (inv_i64 ra.vinv) (inv_i64 rb.vinv) (fun op=>by cases op<;>rfl) (binI_ok h T)
  ·exact fin _ _ (inv_u8 ra.vinv) (inv_u8 rb.vinv) (fun op=>by cases op<;>rfl) (bin8_ok h T)
  ·exact fin _ _ (inv_u32 ra.vinv) (inv_u32 rb.vinv) (fun op=>by cases op<;>rfl) (bin32_ok h T)
  ·exact fin _ _ (inv_u64 ra.vinv) (inv_u64 rb.vinv) (fun op=>by cases op<;>rfl) (bin64_ok h T)
  ·rename_i s1 s2
   refine fin _ _ (inv_str ra.vinv) (inv_str rb.vinv) (fun op=>by cases op<;>rfl) ?_
   split at h
   ·simp only[Option.bind_eq_some_iff]at h
    obtain⟨c,hc,h⟩:=h
    unfold app? at hc
    split at hc
    ·rename_i hle
     injection hc with hc;injection h with h;subst hc h
     refine⟨.string ⟨((s1:List UInt8)++s2).toArray⟩,?_, .v relV_str⟩
     have e1:(IntKind.i64.max:Int)=9223372036854775807:=by decide
     have: ¬((((⟨(s1:List UInt8).toArray⟩:ByteArray).size+(⟨(s2:List UInt8).toArray⟩:ByteArray).size:Nat):Int)>IntKind.i64.max):=by
      rw[e1]
      simp only[ByteArray.size,List.size_toArray]
      omega
     simp only[binOp,Op.stringOp,if_neg this,str_add]
     rfl
    ·cases hc
   ·injection h with h;subst h
    refine⟨.bool (decide (s1=s2)),?_, .v relV_bool⟩
    simp only[binOp,Op.stringOp];rw[bytes_eq];rfl
   ·injection h with h;subst h
    refine⟨.bool (decide (s1≠s2)),?_, .v relV_bool⟩
    simp only[binOp,Op.stringOp];rw[bytes_eq,decide_not];rfl
   ·cases h
  ·rename_i e o
   cases hd:decide (C.ty T=some (.op e))with
   |false=>rw[hd]at h;cases h
   |true=>
    rw[hd]at h
    simp only[cond_true]at h
    obtain⟨hT,_⟩:=hC T _ (of_decide_eq_true hd)
    obtain⟨_,E,hu⟩:=hT
    have hr:=relV_op.1 ra.vinv
    have hb:b= .pointer none:=by cases rb;rfl
    simp only[RelC]at hr
    have key: ∀q:Bool,(o:Option (Val e)).isNone=q->(∀op,(eqGuard op T ox oy a b).run P w= .ok () w)∧(binOp .eql T a b).run P w= .ok (.bool q) w∧(binOp .neq T a b).run P w= .ok (.bool (!q)) w:=by
     intro q hq
     have hp: ∀(d:Nat) (p:Option Addr),(Op.equalIn (d+1) T (.pointer p) (.pointer none)).run P w= .ok (p.isNone) w:=by
      intro d p;cases p<;>simp[Op.equalIn,run_und hu]
     have ptr: ∀ {p:Option Addr},(∀op,(eqGuard op T ox oy (.pointer p) (.pointer none)).run P w= .ok () w)∧(binOp .eql T (.pointer p) (.pointer none)).run P w= .ok (.bool p.isNone) w∧(binOp .neq T (.pointer p) (.pointer none)).run P w= .ok (.bool (!p.isNone)) w:=by
      intro p
      have he:=hp 9999 p
      refine⟨fun op=>by cases op<;>simp[eqGuard],?_,?_⟩
      ·show(do pure (.bool (←Op.equalIn (9999+1) T (.pointer p) (.pointer none))):Sem Value).run P w=_
       simp only[Sem.run_bind,he,Result.andThen_ok,Sem.run_pure]
      ·show(do pure (.bool (!(←Op.equalIn (9999+1) T (.pointer p) (.pointer none)))):Sem Value).run P w=_
       simp only[Sem.run_bind,he,Result.andThen_ok,Sem.run_pure]
     rcases hr with⟨h0,h1⟩|⟨y,B,off,us,h0,h1,_⟩
     ·injection h1 with h1 _;subst h1 hb
      rw[h0]at hq;simp at hq;subst hq
      exact ptr
     ·injection h1 with h1 _;subst h1 hb
      rw[h0]at hq;simp at hq;subst hq
      exact ptr
    obtain⟨k1,k2,k3⟩:=key _ rfl
    split at h
    ·injection h with h;subst h
     exact fin a b rfl rfl k1 ⟨_,k2, .v relV_bool⟩
    ·injection h with h;subst h
     refine fin a b rfl rfl k1 ⟨_,k3, .v ?_⟩
     have:(!(o:Option (Val e)).isNone)=(o:Option (Val e)).isSome:=by cases(o:Option (Val e))<;>rfl
     rw[this];exact relV_bool
    ·cases h
  ·rename_i t x _ _ _ _ _ _
   cases hc:t.eqOk&&decide (C.ty T=some t)with
   |false=>rw[hc]at h;cases h
   |true=>
    rw[hc]at h
    simp only[cond_true]at h
    simp only[Bool.and_eq_true,decide_eq_true_eq]at hc
    obtain⟨hT,hdep⟩:=hC T _ hc.2
    rw[n_asV,Option.bind_eq_some_iff]at h
    obtain⟨c,hy,h⟩:=h
    obtain⟨k1,k2,k3⟩:=eqop_ok hT hc.1 hdep ra.vinv (asV_ok hy rb) ox oy
    split at h
    ·injection h with h;subst h
     exact fin a b rfl rfl k1 ⟨_,k2, .v relV_bool⟩
    ·injection h with h;subst h
     exact fin a b rfl rfl k1 ⟨_,k3, .v relV_bool⟩
    ·cases h
  ·split at h
   ·rename_i e hT
    obtain⟨⟨_,E,hu,_⟩,_⟩:=hC T _ hT
    have ha:a= .slice none 0 0:=by cases ra;rfl
    have hb:b= .slice none 0 0:=by cases rb;rfl
    have he': ∀d:Nat,(Op.equalIn (d+1) T (.slice none 0 0) (.slice none 0 0)).run P w= .ok true w:=by intro d;simp[Op.equalIn,run_und hu]
    have he:=he' 9999
    have k1: ∀op,(eqGuard op T ox oy (.slice none 0 0) (.slice none 0 0)).run P w= .ok () w:=fun op=>by cases op<;>simp[eqGuard]
    split at h
    ·injection h with h;subst h
     refine fin _ _ ha hb k1 ⟨.bool true,?_, .v relV_bool⟩
     show(do pure (.bool (←Op.equalIn (9999+1) T (.slice none 0 0) (.slice none 0 0))):Sem Value).run P w=_
     simp only[Sem.run_bind,he,Result.andThen_ok,Sem.run_pure]
    ·injection h with h;subst h
     refine fin _ _ ha hb k1 ⟨.bool false,?_, .v relV_bool⟩
     show(do pure (.bool (!(←Op.equalIn (9999+1) T (.slice none 0 0) (.slice none 0 0)))):Sem Value).run P w=_
     simp only[Sem.run_bind,he,Result.andThen_ok,Sem.run_pure]
     rfl
    ·cases h
   ·cases h
  ·cases h
theorem unA_ok{op:UnOp}{x y:DV}{v:Value}(h:unA op x some=some y)(r:RelD P H L w M x v):Pur P H L w M (Op.unary op v) y:=by
 unfold unA at h
 split at h
 ·injection h with h;subst h;rw[inv_i64 r.vinv];exact⟨_,by simp only[Op.unary,Op.intArith];rfl, .v relV_i64⟩
 ·injection h with h;subst h;rw[inv_bool r.vinv];exact⟨_,by simp only[Op.unary];rfl, .v relV_bool⟩
 ·rename_i a
  injection h with h;subst h;rw[inv_u32 r.vinv]
  refine⟨.int .u32 (~~~ (a:UInt32)).toNat,?_, .v relV_u32⟩
  have:BitVec.ofInt 32 IntKind.u32.max^^^(a:UInt32).toBitVec= ~~~ (a:UInt32).toBitVec:=by
   have e:BitVec.ofInt 32 IntKind.u32.max=BitVec.allOnes 32:=by decide
   rw[e,BitVec.allOnes_xor]
  simp only[Op.unary,Op.intBits,IntKind.bits,IntKind.signed,Bool.false_eq_true,if_false,ofInt32,wrap_u32,this]
  rw[mod32];rfl
 ·rename_i a
  injection h with h;subst h;rw[inv_u8 r.vinv]
  refine⟨.int .u8 (~~~ (a:UInt8)).toNat,?_, .v relV_u8⟩
  have:BitVec.ofInt 8 IntKind.u8.max^^^(a:UInt8).toBitVec= ~~~ (a:UInt8).toBitVec:=by
   have e:BitVec.ofInt 8 IntKind.u8.max=BitVec.allOnes 8:=by decide
   rw[e,BitVec.allOnes_xor]
  simp only[Op.unary,Op.intBits,IntKind.bits,IntKind.signed,Bool.false_eq_true,if_false,ofInt8,wrap_u8,this]
  rw[mod8];rfl
 ·cases h
end
end Ev
end
section
namespace Ev
open Go
def MethOk(P:Program)(T:TypeId)(n:String)(f:FuncId):Option TypeId->Prop
 |none=> ∀(k:Nat) (v:Value) (w:World),(method (k+1) T v n).run P w= .ok (f,v) w
 |some e=> ∀(k:Nat) (a:Addr) (v:Value) (w:World),(loadVar e a).run P w= .ok v w->(method (k+1) T (.pointer (some a)) n).run P w= .ok (f,v) w
def TinyOk(P:Program)(g:FuncId)(T:TypeId):Prop:=callOk P g=true∧ ∀(p:Option Addr) (n c:Nat) (lf:Fn) (la lb:Array Value) (w:World),n<=1->Calls P g #[.iface T (.slice p n c), .func lf la lb] w fun e w'=>e= .returned (.tuple #[])∧Pure w w'
structure CtxTy (P:Program) (C:Ctx):Prop where
 ty: ∀T t,C.ty T=some t->TyOk P T t∧t.depth<10000
 cell: ∀T,C.cell T=true->CellOk P T
 map: ∀T,C.mapT T=true->MapOk P T
 ptr: ∀T,C.ptrT T=true-> ∃E,P.underlying T=some (.pointer E)
 con: ∀T,C.con T=true-> ∃d,P.underlying T=some d∧ ∀m,d≠ .interface m
 meth: ∀T n f r,C.meth T n=some (f,r)->MethOk P T n f r
 tiny: ∀g T,C.tiny g T=true->TinyOk P g T
section
variable {P : Program} {H : Heap} {L : Nat -> Loc} {w : World} {M : Nat -> Prop}
theorem offV_nil{t:Ty}:offV t []=some (0,t):=by cases t<;>rfl
theorem tyAt_nil{t:Ty}:tyAt t []=some t:=by cases t<;>rfl
theorem offV_app{t:Ty}: ∀ {p:List Stp} {o:Nat} {t':Ty} (q:List Stp),offV t p=some (o,t')->offV t (p++q)=(offV t' q).map fun s=>(o+s.1,s.2):=by
 have nil: ∀ {t:Ty} {o:Nat} {t':Ty} (q:List Stp),offV t []=some (o,t')->offV t ([]++q)=(offV t' q).map fun s=>(o+s.1,s.2):=by
  intro t o t' q h
  rw[offV_nil]at h;injection h with h;injection h with h1 h2;subst h1 h2
  simp
 induction t with
 |pair a b iha ihb=>
  intro p o t' q h
  cases p with
  |nil=>exact nil q h
  |cons s p=>cases s with
   |fld i=>cases i with
    |zero=>simp only[offV,List.cons_append]at h⊢;exact iha q h
    |succ i=>
     simp only[offV,Option.map_eq_some_iff,List.cons_append]at h⊢
     obtain⟨⟨o',t2⟩,h,he⟩:=h
     injection he with he1 he2
     dsimp only at he1 he2
     subst he1 he2
     rw[show(Stp.fld i::(p++q))=(Stp.fld i::p)++q from rfl,ihb q h]
     cases offV t2 q<;>simp[Nat.add_assoc]
   |idx i=>simp only[offV,reduceCtorEq]at h
 |arr n e ih=>
  intro p o t' q h
  cases p with
  |nil=>exact nil q h
  |cons s p=>cases s with
   |fld i=>simp only[offV,reduceCtorEq]at h
   |idx i=>
    simp only[offV,List.cons_append]at h⊢
    split at h
    ·rename_i hi
     rw[if_pos hi]
     simp only[Option.map_eq_some_iff]at h
     obtain⟨⟨o',t2⟩,h,he⟩:=h
     injection he with he1 he2
     dsimp only at he1 he2
     subst he1 he2
     rw[ih q h]
     cases offV t2 q<;>simp[Nat.add_assoc]
    ·cases h
 |_=>
  intro p o t' q h
  cases p with
  |nil=>exact nil q h
  |cons s p=>simp only[offV,reduceCtorEq]at h
theorem tyAt_app{t:Ty}: ∀ {p:List Stp} {o:Nat} {t':Ty} (q:List Stp),offV t p=some (o,t')->tyAt t (p++q)=tyAt t' q:=by
 have nil: ∀ {t:Ty} {o:Nat} {t':Ty} (q:List Stp),offV t []=some (o,t')->tyAt t ([]++q)=tyAt t' q:=by
  intro t o t' q h
  rw[offV_nil]at h;injection h with h;injection h with h1 h2;subst h1 h2
  rfl
 induction t with
 |pair a b iha ihb=>
  intro p o t' q h
  cases p with
  |nil=>exact nil q h
  |cons s p=>cases s with
   |fld i=>cases i with
    |zero=>simp only[offV,tyAt,List.cons_append]at h⊢;exact iha q h
    |succ i=>
     simp only[offV,tyAt,Option.map_eq_some_iff,List.cons_append]at h⊢
     obtain⟨⟨o',t2⟩,h,he⟩:=h
     injection he with he1 he2
     dsimp only at he1 he2
     subst he1 he2
     rw[show(Stp.fld i::(p++q))=(Stp.fld i::p)++q from rfl,ihb q h]
   |idx i=>simp only[offV,reduceCtorEq]at h
 |arr n e ih=>
  intro p o t' q h
  cases p with
  |nil=>exact nil q h
  |cons s p=>cases s with
   |fld i=>simp only[offV,reduceCtorEq]at h
   |idx i=>
    simp only[offV,tyAt,List.cons_append]at h⊢
    split at h
    ·simp only[Option.map_eq_some_iff]at h
     obtain⟨⟨o',t2⟩,h,he⟩:=h
     injection he with he1 he2
     dsimp only at he1 he2
     subst he1 he2
     exact ih q h
    ·cases h
 |_=>
  intro p o t' q h
  cases p with
  |nil=>exact nil q h
  |cons s p=>simp only[offV,reduceCtorEq]at h
theorem tyAt_off{t:Ty}{p:List Stp}{o:Nat}{t':Ty}(h:offV t p=some (o,t')):tyAt t p=some t':=by
 have:=tyAt_app [] h
 rwa[List.append_nil,tyAt_nil]at this
theorem offE_app{x:Ent}{p:List Stp}{o:Nat}{t':Ty}(q:List Stp)(h:offE x p=some (o,t')):offE x (p++q)=(offV t' q).map fun s=>(o+s.1,s.2):=by
 cases x with
 |mem s row t x=>cases row with
  |false=>exact offV_app q h
  |true=>cases t with
   |sl e=>cases p with
    |nil=>simp only[offE,reduceCtorEq]at h
    |cons st p=>cases st with
     |fld i=>simp only[offE,reduceCtorEq]at h
     |idx i=>
      simp only[offE,List.cons_append]at h⊢
      split at h
      ·rename_i hi
       rw[if_pos hi]
       simp only[Option.map_eq_some_iff]at h
       obtain⟨⟨o',t2⟩,h,he⟩:=h
       injection he with he1 he2
       dsimp only at he1 he2
       subst he1 he2
       rw[offV_app q h]
       cases offV t2 q<;>simp[Nat.add_assoc]
      ·cases h
   |_=>simp only[offE,reduceCtorEq]at h
 |cell s x=>simp only[offE,reduceCtorEq]at h
 |cells s z x=>simp only[offE,reduceCtorEq]at h
 |gone=>simp only[offE,reduceCtorEq]at h
theorem arr_off{x:Ent}{p:List Stp}{n o k:Nat}{e:Ty}(h:arrE x p=some (n,o,e))(hk:k<n):offE x (p++[.idx k])=some (o+k*e.size,e):=by
 unfold arrE at h
 split at h
 ·split at h
  ·rename_i o' n' e' ho
   injection h with h;injection h with h1 h;injection h with h2 h3;subst h1 h2 h3
   have:=offE_app (x:= .mem .rw false _ (by assumption)) [.idx k] ho
   simp only[offE]at this⊢
   rw[this]
   simp[offV,hk]
  ·cases h
 ·rename_i l
  split at h
  ·injection h with h;injection h with h1 h;injection h with h2 h3;subst h1 h2 h3
   simp[offE,offV_nil,hk]
  ·split at h
   ·rename_i o' n' e' ho
    injection h with h;injection h with h1 h;injection h with h2 h3;subst h1 h2 h3
    rw[offE_app [.idx k] ho]
    simp[offV,hk]
   ·cases h
 ·cases h
theorem tyH_app{b:Nat}{p:List Stp}{o:Nat}{t':Ty}(q:List Stp)(h:offE (hget H b) p=some (o,t')):tyH H b (p++q)=tyAt t' q:=by
 unfold tyH
 cases hx:hget H b with
 |mem s row t x=>
  rw[hx]at h
  cases row with
  |false=>exact tyAt_app q h
  |true=>cases t with
   |sl e=>cases p with
    |nil=>simp only[offE,reduceCtorEq]at h
    |cons st p=>cases st with
     |fld i=>simp only[offE,reduceCtorEq]at h
     |idx i=>
      simp only[offE]at h
      split at h
      ·simp only[Option.map_eq_some_iff]at h
       obtain⟨⟨o',t2⟩,h,he⟩:=h
       injection he with he1 he2
       dsimp only at he1 he2
       subst he1 he2
       exact tyAt_app q h
      ·cases h
   |_=>simp only[offE,reduceCtorEq]at h
 |cell s x=>rw[hx]at h;simp only[offE,reduceCtorEq]at h
 |cells s z x=>rw[hx]at h;simp only[offE,reduceCtorEq]at h
 |gone=>rw[hx]at h;simp only[offE,reduceCtorEq]at h
theorem tyH_off{b:Nat}{p:List Stp}{o:Nat}{t':Ty}(h:offE (hget H b) p=some (o,t')):tyH H b p=some t':=by
 have:=tyH_app [] h
 rwa[List.append_nil,tyAt_nil]at this
theorem tyP_ptr{C:Ctx}{T:TypeId}{b:Nat}{p:List Stp}{o:Nat}{t:Ty}(h:tyP C H T (.ptr b p)=true)(ho:offE (hget H b) p=some (o,t)):C.ty T=some t:=by
 have:=tyH_off ho
 unfold tyH at this
 unfold tyP at h
 simp only at h
 cases hx:hget H b with
 |mem s row t x=>
  rw[hx]at h this
  simp only at h this
  rw[this]at h
  exact of_decide_eq_true h
 |cell s x=>rw[hx]at ho;simp only[offE,reduceCtorEq]at ho
 |cells s z x=>rw[hx]at ho;simp only[offE,reduceCtorEq]at ho
 |gone=>rw[hx]at ho;simp only[offE,reduceCtorEq]at ho
theorem tyP_ptrc{C:Ctx}{T:TypeId}{b:Nat}{p:List Stp}{s:Stat}{x:DV}(h:tyP C H T (.ptr b p)=true)(hc:hget H b= .cell s x):C.cell T=true:=by
 unfold tyP at h
 simp only[hc]at h
 exact h
theorem elem_arr{b:Nat}{p:List Stp}{n o:Nat}{e:Ty}(h:arrE (hget H b) p=some (n,o,e)):elemH H b p=some e:=by
 unfold arrE at h
 unfold elemH
 split at h
 ·rename_i s t x hx
  simp only[hx]
  split at h
  ·rename_i o' n' e' ho
   injection h with h;injection h with h1 h;injection h with h2 h3;subst h1 h2 h3
   simp only[tyAt_off ho]
  ·cases h
 ·rename_i s e' l hx
  simp only[hx]
  split at h
  ·injection h with h;injection h with h1 h;injection h with h2 h3;subst h1 h2 h3
   rfl
  ·rename_i q0 hp
   split at h
   ·rename_i o' n' e2 ho
    injection h with h;injection h with h1 h;injection h with h2 h3;subst h1 h2 h3
    have q:=tyH_app (H:=H) (b:=b) [] ho
    rw[List.append_nil,tyAt_nil]at q
    unfold tyH at q
    rw[hx]at q
    dsimp only at q
    cases p with
    |nil=>simp only[offE,reduceCtorEq,hx]at ho
    |cons u p=>first|(dsimp only;rw[q])|rw[q]
   ·cases h
 ·cases h
theorem fld_of_ty: ∀ {t:Ty} {i:Nat} {t':Ty},tyAt t [.fld i]=some t'-> ∃o,offV t [.fld i]=some (o,t')
 | .pair a b,0,t',h=>by simp only[tyAt,tyAt_nil,Option.some.injEq]at h;subst h;exact⟨0,by simp only[offV,offV_nil]⟩
 | .pair a b,i+1,t',h=>by
  simp only[tyAt]at h
  obtain⟨o,ho⟩:=fld_of_ty h
  exact⟨a.size+o,by simp only[offV,ho,Option.map_some]⟩
 | .i64,_,_,h| .u8,_,_,h| .u32,_,_,h| .u64,_,_,h| .bool,_,_,h| .str,_,_,h| .unit,_,_,h| .sl _,_,_,h| .arr _ _,_,_,h| .op _,_,_,h=>by simp only[tyAt,reduceCtorEq]at h
theorem fld_of_get: ∀ {t:Ty} {x:Val t} {i:Nat} {y:Sigma Val},getV t x [.fld i] (fun t y=>some ⟨t,y⟩)=some y-> ∃o,offV t [.fld i]=some (o,y.1)
 | .pair a b,x,0,y,h=>by
  simp only[getV,Option.some.injEq]at h
  subst h;exact⟨0,by simp only[offV,offV_nil]⟩
 | .pair a b,x,i+1,y,h=>by
  simp only[getV]at h
  obtain⟨o,ho⟩:=fld_of_get h
  exact⟨a.size+o,by simp only[offV,ho,Option.map_some]⟩
 | .i64,_,_,_,h| .u8,_,_,_,h| .u32,_,_,_,h| .u64,_,_,_,h| .bool,_,_,_,h| .str,_,_,_,h| .unit,_,_,_,h| .sl _,_,_,_,h| .arr _ _,_,_,_,h| .op _,_,_,_,h=>by simp only[getV,reduceCtorEq]at h
theorem fields_ok: ∀ {b:Ty} {fs:List Field} {off i o:Nat} {t':Ty},(TyR P b).2 fs off->offV b [.fld i]=some (o,t')-> ∃fl,fs[i]?=some fl∧fl.offset=off+o∧TyOk P fl.type t'∧0<t'.size
 | .pair a b,fs,off,0,o,t',h,ho=>by
  simp only[offV,offV_nil,Option.some.injEq,Prod.mk.injEq]at ho
  obtain⟨rfl,rfl⟩:=ho
  obtain⟨f,r,rfl,h1,h2,h3,h4,h5⟩:=h
  exact⟨f,rfl,h1,h3,h4⟩
 | .pair a b,fs,off,i+1,o,t',h,ho=>by
  simp only[offV,Option.map_eq_some_iff]at ho
  obtain⟨⟨o',t2⟩,ho,he⟩:=ho
  injection he with he1 he2
  dsimp only at he1 he2
  subst he1 he2
  obtain⟨f,r,rfl,h1,h2,h3,h4,h5⟩:=h
  obtain⟨fl,k1,k2,k3,k4⟩:=fields_ok h5 ho
  exact⟨fl,by simpa using k1,by omega,k3,k4⟩
 | .i64,_,_,_,_,_,_,h| .u8,_,_,_,_,_,_,h| .u32,_,_,_,_,_,_,h| .u64,_,_,_,_,_,_,h| .bool,_,_,_,_,_,_,h| .str,_,_,_,_,_,_,h| .unit,_,_,_,_,_,_,h| .sl _,_,_,_,_,_,_,h| .arr _ _,_,_,_,_,_,_,h| .op _,_,_,_,_,_,_,h=>by simp only[offV,reduceCtorEq]at h
theorem struct_ok{T:TypeId}{t:Ty}{i o:Nat}{t':Ty}(hT:TyOk P T t)(ho:offV t [.fld i]=some (o,t')): ∃fs fl,P.underlying T=some (.struct fs)∧fs[i]?=some fl∧fl.offset=o∧TyOk P fl.type t'∧0<t'.size:=by
 cases t with
 |pair a b=>
  obtain⟨_,fs,hu,f,r,hf,h1,h2,h3,h4,h5⟩:=hT
  obtain⟨fl,k1,k2,k3,k4⟩:=fields_ok (P:=P) (b:= .pair a b) (fs:=fs.toList) (off:=0) ⟨f,r,hf,h1,h2,h3,h4,by rwa[Nat.zero_add]⟩ ho
  exact⟨fs,fl,hu,by simpa using k1,by omega,k3,k4⟩
 |_=>simp only[offV,reduceCtorEq]at ho
theorem intD_ok{x:DV}{n:Int}{v:Value}(h:intD x some=some n)(r:RelD P H L w M x v): ∃k,v= .int k n:=by
 cases x with
 |v t a=>
  have hr:=r.vinv
  cases t<;>simp only[intD,reduceCtorEq,Option.some.injEq]at h
  ·subst h;exact⟨_,inv_i64 hr⟩
  ·subst h;exact⟨_,inv_u8 hr⟩
  ·subst h;exact⟨_,inv_u32 hr⟩
  ·subst h;exact⟨_,inv_u64 hr⟩
 |_=>simp only[intD,reduceCtorEq]at h
theorem run_fieldAt{T:TypeId}{fs:Array Field}{fl:Field}{f B off n:Nat}(hu:P.underlying T=some (.struct fs))(hf:fs[f]?=some fl)(hn:tsz P fl.type=some n)(h0:0<n):
 (Instr.fieldAt T (.pointer (some ⟨B,off,none⟩)) f).run P w= .ok (.pointer (some ⟨B,off+fl.offset,none⟩)) w:=by
 simp only[Instr.fieldAt,Sem.run_bind,run_und hu,Result.andThen_ok,hf,Instr.sureAddr,Sem.run_pure,fieldPlace,run_sizeOf hn,if_neg (show¬n=0 by omega),add_none]
theorem fieldAddr_ok{C:Ctx}(hC:CtxTy P C){T:TypeId}{f:Nat}{x y:DV}{v:Value}(ht:tyP C H T x=true)(h:fieldAddr H x f some=some y)(r:RelD P H L w M x v):Pur P H L w M (Instr.fieldAt T v f) y:=by
 unfold fieldAddr at h
 split at h
 ·rename_i b p
  split at h
  ·rename_i t'' hty
   injection h with h;subst h
   cases r with
   | @ptr _ _ o t ho=>
    obtain⟨hT,_⟩:=hC.ty _ _ (tyP_ptr ht ho)
    rw[tyH_app _ ho]at hty
    obtain⟨o',ho'⟩:=fld_of_ty hty
    obtain⟨fs,fl,k1,k2,k3,k4,k5⟩:=struct_ok hT ho'
    refine⟨_,run_fieldAt k1 k2 k4.base.sz k5,?_⟩
    have:=offE_app [.fld f] ho
    rw[ho']at this
    rw[k3,Nat.add_assoc]
    exact .ptr this
   |ptrc hc=>unfold tyH at hty;rw[hc]at hty;cases hty
   |ptrx hc=>unfold tyH at hty;rw[hc]at hty;cases hty
  ·cases h
 ·rename_i t x
  rw[n_getV,Option.bind_eq_some_iff]at h
  obtain⟨z,hz,h⟩:=h
  injection h with h;subst h
  obtain⟨o,ho⟩:=fld_of_get hz
  cases r with
  | @fp _ _ B off us h1 h2 h3 h4=>
   obtain⟨hT,_⟩:=hC.ty T _ (of_decide_eq_true ht)
   obtain⟨fs,fl,k1,k2,k3,k4,k5⟩:=struct_ok hT ho
   obtain⟨_,q2,q3⟩:=getV_ok h4 hz ho
   refine⟨_,run_fieldAt k1 k2 k4.base.sz k5,?_⟩
   rw[k3]
   exact .fp h1 h2 ((h3.drop o).take _) q2
 ·cases h
theorem field_ok{C:Ctx}(hC:CtxTy P C){T:TypeId}{f:Nat}{t:Ty}{x:Val t}{y:DV}{v:Value}(ht:tyIs C T t=true)(h:getV t x [.fld f] (fun t' y=>some (DV.v t' y))=some y)(r:RelD P H L w M (.v t x) v):Pur P H L w M (Instr.field T v f) y:=by
 rw[n_getV,Option.bind_eq_some_iff]at h
 obtain⟨z,hz,h⟩:=h
 injection h with h;subst h
 obtain⟨o,ho⟩:=fld_of_get hz
 obtain⟨hT,_⟩:=hC.ty T _ (of_decide_eq_true ht)
 obtain⟨fs,fl,k1,k2,k3,k4,k5⟩:=struct_ok hT ho
 have hr:=r.vinv
 have ha:t.agg=true:=by cases t<;>first|rfl|(simp only[offV,reduceCtorEq]at ho;done)
 unfold RelV at hr
 rw[ha]at hr
 obtain⟨us,rfl,hr⟩:=hr
 obtain⟨_,q2,q3⟩:=getV_ok hr hz ho
 obtain⟨u,p1,p2⟩:=part_ok (P:=P) (vs:=us) (off:=o) k4 q2
 exact⟨u,by simp only[Instr.field,Sem.run_bind,run_und k1,Result.andThen_ok,k2,asAgg,Sem.run_pure,k3,p1], .v p2⟩
theorem run_indexAt_sl{T E:TypeId}{e:Ty}{k:IntKind}{i:Int}{B off n c:Nat}(hu:P.underlying T=some (.slice E))(hn:tsz P E=some e.size)(hi:0<=i∧i<(n:Int)):
 (Instr.indexAt T (.slice (some ⟨B,off,none⟩) n c) (.int k i)).run P w= .ok (.pointer (some ⟨B,off+i.toNat*e.size,none⟩)) w:=by
 simp only[Instr.indexAt,asIntOf,Sem.run_bind,Sem.run_pure,run_und hu,Result.andThen_ok,if_pos hi,run_sizeOf hn,add_none]
theorem run_indexAt_arr{T E:TypeId}{e:Ty}{k:IntKind}{i:Int}{B off n:Nat}(hu:P.underlying T=some (.array n E))(hn:tsz P E=some e.size)(hi:0<=i∧i<(n:Int)):
 (Instr.indexAt T (.pointer (some ⟨B,off,none⟩)) (.int k i)).run P w= .ok (.pointer (some ⟨B,off+i.toNat*e.size,none⟩)) w:=by
 simp only[Instr.indexAt,asIntOf,Sem.run_bind,Sem.run_pure,run_und hu,Result.andThen_ok,Instr.sureAddr,if_pos hi,run_sizeOf hn,add_none]
theorem at_some{α:Type}{l:List α}{i:Int}{x:α}(h:at? l i=some x):0<=i∧l[i.toNat]?=some x∧i<(l.length:Int):=by
 unfold at? at h
 split at h
 ·rename_i h0
  have:i.toNat<l.length:=by
   rcases Nat.lt_or_ge i.toNat l.length with q|q
   ·exact q
   ·rw[List.getElem?_eq_none q]at h;cases h
  exact⟨h0,h,by omega⟩
 ·cases h
theorem indexAddr_ok{C:Ctx}(hC:CtxTy P C){T:TypeId}{i:Int}{x y:DV}{v:Value}{k:IntKind}(ht:tySl C H T x=true)(h:indexAddr H x i some=some y)(r:RelD P H L w M x v):Pur P H L w M (Instr.indexAt T v (.int k i)) y:=by
 unfold indexAddr at h
 split at h
 ·rename_i e l
  rw[Option.bind_eq_some_iff]at h
  obtain⟨z,hz,h⟩:=h
  injection h with h;subst h
  obtain⟨a1,a2,a3⟩:=at_some hz
  obtain⟨⟨_,E,hu,hE,_⟩,_⟩:=hC.ty T _ (of_decide_eq_true ht)
  have hr:=relV_sl.1 r.vinv
  simp only[RelC]at hr
  rcases hr with⟨h0,_⟩|⟨h0,B,off,cap,vs,h1,h2,h3,h4,h5,h6⟩
  ·rw[h0]at a3;simp at a3;omega
  ·injection h1 with h1 _;subst h1
   refine⟨_,run_indexAt_sl hu (TyOk.base hE).sz ⟨a1,a3⟩,?_⟩
   exact .fp h3 h4 ((h5.drop _).take _) (RowR.get (fun _ _ k=>RelC.length k) h6 a2)
 ·rename_i b
  split at h
  ·rename_i s e l hb
   split at h
   ·rename_i hc
    injection h with h;subst h
    cases r with
    | @own _ s' e' l' _ hb' q=>
     rw[hb]at hb'
     injection hb' with _ _ he hl
     injection he with he
     subst he
     have hl:=eq_of_heq hl
     subst hl
     rcases q with⟨_,q2,_⟩|⟨q1,q2,cap,rfl,q4,q5⟩
     ·omega
     ·have hel:elemH H b []=some e:=by unfold elemH;rw[hb]
      unfold tySl at ht
      simp only[hel]at ht
      obtain⟨⟨_,E,hu,hE,_⟩,_⟩:=hC.ty T _ (of_decide_eq_true ht)
      refine⟨_,run_indexAt_sl hu (TyOk.base hE).sz hc,?_⟩
      have:offE (hget H b) [.idx i.toNat]=some (i.toNat*e.size,e):=by
       rw[hb];simp only[offE,offV_nil,Option.map_some];rw[if_pos (by omega)];rfl
      have:=RelD.ptr (P:=P) (L:=L) (w:=w) (M:=M) this
      rwa[q2]at this
    |ownc hb' _=>rw[hb]at hb';cases hb'
   ·cases h
  ·cases h
 ·rename_i b p off len
  split at h
  ·rename_i hc
   injection h with h;subst h
   cases r with
   | @win _ _ _ _ a cap n o e ha h1 h2 h3=>
    rcases h3 with h3|h3
    ·omega
    ·subst h3
     have hel:=elem_arr ha
     unfold tySl at ht
     simp only[hel]at ht
     obtain⟨⟨_,E,hu,hE,_⟩,_⟩:=hC.ty T _ (of_decide_eq_true ht)
     refine⟨_,run_indexAt_sl hu (TyOk.base hE).sz hc,?_⟩
     have:=RelD.ptr (P:=P) (L:=L) (w:=w) (M:=M) (arr_off (k:=off+i.toNat) ha (by omega))
     rwa[show(L b).off+o+off*e.size+i.toNat*e.size=(L b).off+(o+(off+i.toNat)*e.size)by rw[Nat.add_mul];omega]
  ·cases h
 ·rename_i b p
  split at h
  ·rename_i n e hty
   split at h
   ·rename_i hc
    injection h with h;subst h
    cases r with
    | @ptr _ _ o t ho=>
     rw[tyH_off ho]at hty
     injection hty with hty;subst hty
     obtain⟨⟨_,E,hu,hE,_⟩,_⟩:=hC.ty T _ (tyP_ptr ht ho)
     refine⟨_,run_indexAt_arr hu (TyOk.base hE).sz hc,?_⟩
     have:=offE_app [.idx i.toNat] ho
     simp only[offV,offV_nil,Option.map_some]at this
     rw[if_pos (by omega)]at this
     have:=RelD.ptr (P:=P) (L:=L) (w:=w) (M:=M) this
     rwa[show(L b).off+o+i.toNat*e.size=(L b).off+(o+(i.toNat*e.size+0))by omega]
    |ptrc hc'=>unfold tyH at hty;rw[hc']at hty;cases hty
    |ptrx hc'=>unfold tyH at hty;rw[hc']at hty;cases hty
   ·cases h
  ·cases h
 ·rename_i n e x
  rw[Option.bind_eq_some_iff]at h
  obtain⟨z,hz,h⟩:=h
  injection h with h;subst h
  obtain⟨a1,a2,a3⟩:=at_some hz
  obtain⟨⟨_,E,hu,hE,_⟩,_⟩:=hC.ty T _ (of_decide_eq_true ht)
  cases r with
  | @fp _ _ B off us h1 h2 h3 h4=>
   simp only[RelC]at h4
   refine⟨_,run_indexAt_arr hu (TyOk.base hE).sz ⟨a1,by simpa using a3⟩,?_⟩
   exact .fp h1 h2 ((h3.drop _).take _) (RowR.get (fun _ _ k=>RelC.length k) h4 a2)
 ·cases h
theorem index_str{C:Ctx}(hC:CtxTy P C){T:TypeId}{i:Int}{s:List UInt8}{b:UInt8}{v:Value}{k:IntKind}(ht:tyIs C T .str=true)(h:at? s i=some b)(r:RelD P H L w M (.v .str s) v):Pur P H L w M (Instr.index T v (.int k i)) (.v .u8 b):=by
 obtain⟨a1,a2,a3⟩:=at_some h
 obtain⟨⟨_,hu⟩,_⟩:=hC.ty T _ (of_decide_eq_true ht)
 rw[inv_str r.vinv]
 have hb:(⟨s.toArray⟩:ByteArray)[i.toNat]?=some b:=by
  have hlt:i.toNat<s.length:=by omega
  rw[List.getElem?_eq_getElem hlt]at a2
  rw[getElem?_pos (⟨s.toArray⟩:ByteArray) i.toNat (show i.toNat<(⟨s.toArray⟩:ByteArray).size from by simpa[ByteArray.size]using hlt)]
  injection a2 with a2
  exact congrArg some a2
 exact⟨_,by simp only[Instr.index,asIntOf,Sem.run_bind,Sem.run_pure,run_und hu,Result.andThen_ok,if_pos a1,hb], .v relV_u8⟩
theorem index_arr{C:Ctx}(hC:CtxTy P C){T:TypeId}{i:Int}{n:Nat}{e:Ty}{a:Vector (Val e) n}{b:Val e}{v:Value}{k:IntKind}(ht:tyIs C T (.arr n e)=true)(h:at? a.toList i=some b)(r:RelD P H L w M (.v (.arr n e) a) v):Pur P H L w M (Instr.index T v (.int k i)) (.v e b):=by
 obtain⟨a1,a2,a3⟩:=at_some h
 obtain⟨⟨_,E,hu,hE,_⟩,_⟩:=hC.ty T _ (of_decide_eq_true ht)
 obtain⟨us,rfl,hr⟩:=r.vinv
 simp only[RelC]at hr
 obtain⟨u,p1,p2⟩:=part_ok (P:=P) (vs:=us) (off:=i.toNat*e.size) hE (RowR.get (fun _ _ k=>RelC.length k) hr a2)
 have hi:0<=i∧i<(n:Int):=⟨a1,by simpa using a3⟩
 exact⟨u,by simp only[Instr.index,asIntOf,Sem.run_bind,Sem.run_pure,run_und hu,Result.andThen_ok,if_pos hi,run_sizeOf (TyOk.base hE).sz,p1], .v p2⟩
theorem load_cellT{T:TypeId}{B off:Nat}{u:Value}(hT:CellOk P T)(hu:w.cell? ⟨B,off,none⟩=some u):(loadVar T ⟨B,off,none⟩).run P w= .ok u w:=by
 simp only[loadVar,Sem.run_bind,run_isAgg hT.agg,Result.andThen_ok,Bool.false_eq_true,if_false,run_load_cell hu]
theorem run_loadAt{T:TypeId}{a:Addr}{v:Value}(h:(loadVar T a).run P w= .ok v w):(Instr.loadAt T (.pointer (some a))).run P w= .ok v w:=by
 simp only[Instr.loadAt,Instr.sureAddr,Sem.run_bind,Sem.run_pure,Result.andThen_ok,h]
theorem load_cellD{C:Ctx}(hC:CtxTy P C){T:TypeId}{B off:Nat}{u:Value}{y:DV}(ht:tyD C T y=true)(hu:w.cell? ⟨B,off,none⟩=some u)(ho:one1 u=true)(r:RelD P H L w M y u):(loadVar T ⟨B,off,none⟩).run P w= .ok u w:=by
 have leaf:isAggT P T=some false->(loadVar T ⟨B,off,none⟩).run P w= .ok u w:=fun hT=>by
  simp only[loadVar,Sem.run_bind,run_isAgg hT,Result.andThen_ok,Bool.false_eq_true,if_false,run_load_cell hu]
 cases y with
 |v t z=>
  obtain⟨hT,_⟩:=hC.ty T _ (of_decide_eq_true ht)
  have hr:=r.vinv
  unfold RelV at hr
  split at hr
  ·obtain⟨us,rfl,_⟩:=hr;cases ho
  ·rename_i ha;have:=hT.isAgg;rw[ha]at this;exact leaf this
 |_=>exact leaf (hC.cell T ht).agg
theorem load_ok{C:Ctx}(hC:CtxTy P C){T:TypeId}{x y:DV}{v:Value}(hs:HRel P H L w M)(ht:tyD C T y=true)(h:load H x some=some y)(r:RelD P H L w M x v):Pur P H L w M (Instr.loadAt T v) y:=by
 unfold load at h
 split at h
 ·rename_i b p
  unfold getH at h
  cases hx:hget H b with
  |mem s row t z=>
   rw[hx]at h
   simp only at h
   cases hlv:s.live with
   |false=>rw[hlv]at h;cases h
   |true=>
    rw[hlv]at h
    simp only[cond_true]at h
    rw[n_getM,Option.bind_eq_some_iff]at h
    obtain⟨q,hq,h⟩:=h
    injection h with h;subst h
    cases r with
    | @ptr _ _ o t' ho=>
     rw[hx]at ho
     obtain⟨k1,k2,k3,us,k4,k5⟩:=getM_ok hs hx hlv hq ho
     obtain⟨hT,_⟩:=hC.ty T _ (of_decide_eq_true ht)
     obtain⟨u,p1,p2⟩:=loadVar_ok hT k4 k5
     exact⟨u,run_loadAt p1, .v p2⟩
    |ptrc hc=>rw[hx]at hc;cases hc
    |ptrx hc=>rw[hx]at hc;cases hc
  |cell s z=>
   rw[hx]at h
   simp only at h
   split at h
   ·cases hlv:s.live with
    |false=>rw[hlv]at h;cases h
    |true=>
     rw[hlv]at h
     simp only[cond_true,Option.some.injEq]at h
     subst h
     have hent:=hs.ent b (by rw[hx];cases s<;>first|trivial|cases hlv)
     rw[hx]at hent
     obtain⟨e0,e1,e2,u,e3,e4,e5⟩:=hent
     cases r with
     |ptr ho=>rw[hx]at ho;simp only[offE,reduceCtorEq]at ho
     |ptrc hc=>
      exact⟨u,run_loadAt (load_cellD hC ht e3 e4 e5),e5⟩
   ·cases h
  |cells s z x=>rw[hx]at h;cases h
  |gone=>rw[hx]at h;cases h
 ·injection h with h;subst h
  cases r with
  | @fp _ _ B off us h1 h2 h3 h4=>
   obtain⟨hT,_⟩:=hC.ty T _ (of_decide_eq_true ht)
   obtain⟨u,p1,p2⟩:=loadVar_ok hT h3 h4
   exact⟨u,run_loadAt p1, .v p2⟩
 ·rename_i z
  injection h with h;subst h
  cases r with
  | @fpf _ B off u h1 h2 h3 h4 h5=>
   exact⟨u,run_loadAt (load_cellD hC ht h3 h4 h5),h5⟩
 ·cases h
theorem lenD_ok{C:Ctx}(hC:CtxTy P C){T ty:TypeId}{x:DV}{v:Value}{n:Nat}(ht:tySl C H T x=true)(h:lenD H x some=some n)(r:RelD P H L w M x v):(Builtin.len_ #[T] ty #[v]).run P w= .ok (.int .i64 n) w:=by
 have sl: ∀ {e:Ty} {a:Option Addr} {m c:Nat},C.ty T=some (.sl e)->(Builtin.len_ #[T] ty #[.slice a m c]).run P w= .ok (.int .i64 m) w:=by
  intro e a m c hT
  obtain⟨⟨_,E,hu,hE,_⟩,_⟩:=hC.ty T _ hT
  simp only[Builtin.len_,List.getElem?_toArray,List.getElem?_cons_zero,Sem.run_bind,run_und hu,Result.andThen_ok]
  rfl
 unfold lenD at h
 split at h
 ·rename_i s
  injection h with h;subst h
  obtain⟨⟨_,hu⟩,_⟩:=hC.ty T _ (of_decide_eq_true ht)
  rw[inv_str r.vinv]
  simp only[Builtin.len_,List.getElem?_toArray,List.getElem?_cons_zero,Sem.run_bind,run_und hu,Result.andThen_ok]
  simp only[ByteArray.size,List.size_toArray]
  rfl
 ·rename_i e l
  injection h with h;subst h
  have hr:=relV_sl.1 r.vinv
  simp only[RelC]at hr
  rcases hr with⟨h0,a,c,h1⟩|⟨h0,B,off,cap,vs,h1,_⟩
  ·injection h1 with h1 _;subst h1
   rw[h0];exact sl (of_decide_eq_true ht)
  ·injection h1 with h1 _;subst h1
   exact sl (of_decide_eq_true ht)
 ·injection h with h;subst h
  cases r
  unfold tySl at ht
  simp only at ht
  split at ht
  ·rename_i e hT;exact sl hT
  ·cases ht
 ·rename_i b
  split at h
  ·rename_i s e l hb
   injection h with h;subst h
   have hel:elemH H b []=some e:=by unfold elemH;rw[hb]
   unfold tySl at ht
   simp only[hel]at ht
   cases r with
   | @own _ s' e' l' _ hb' q=>
    rw[hb]at hb'
    injection hb' with _ _ he hl
    injection he with he
    subst he
    have hl:=eq_of_heq hl
    subst hl
    rcases q with⟨_,q2,q3⟩|⟨q1,q2,cap,rfl,q4,q5⟩
    ·subst q3;rw[q2];exact sl (of_decide_eq_true ht)
    ·exact sl (of_decide_eq_true ht)
   |ownc hb' _=>rw[hb]at hb';cases hb'
  ·cases h
 ·rename_i b p off
  injection h with h;subst h
  cases r with
  | @win _ _ _ _ a cap n o e ha h1 h2 h3=>
   have hel:=elem_arr ha
   unfold tySl at ht
   simp only[hel]at ht
   exact sl (of_decide_eq_true ht)
 ·rename_i b m
  injection h with h;subst h
  cases r with
  | @winx _ _ s e l hb hn ho h1=>
   have hel:elemH H b []=some e:=by unfold elemH;rw[hb]
   unfold tySl at ht
   simp only[hel]at ht
   exact sl (of_decide_eq_true ht)
 ·cases h
theorem capD_ok{C:Ctx}(hC:CtxTy P C){T ty:TypeId}{x:DV}{v:Value}{n:Nat}(ht:tySl C H T x=true)(h:capD H x some=some n)(r:RelD P H L w M x v):(Builtin.cap_ #[T] ty #[v]).run P w= .ok (.int .i64 n) w:=by
 unfold capD at h
 split at h
 ·rename_i b m
  split at h
  ·rename_i s e l hb
   injection h with h;subst h
   cases r with
   | @winx _ _ s' e' l' hb' hn ho h1=>
    rw[hb]at hb'
    injection hb' with _ _ he hl
    injection he with he
    subst he
    have hl:=eq_of_heq hl
    subst hl
    have hel:elemH H b []=some e:=by unfold elemH;rw[hb]
    unfold tySl at ht
    simp only[hel]at ht
    obtain⟨⟨_,E,hu,hE,_⟩,_⟩:=hC.ty T _ (of_decide_eq_true ht)
    simp only[Builtin.cap_,List.getElem?_toArray,List.getElem?_cons_zero,Sem.run_bind,run_und hu,Result.andThen_ok]
    rfl
  ·cases h
 ·cases h
theorem len_arr{C:Ctx}(hC:CtxTy P C){T ty:TypeId}{n:Nat}{e:Ty}{v:Value}(hT:C.ty T=some (.arr n e)):(Builtin.len_ #[T] ty #[v]).run P w= .ok (.int .i64 n) w:=by
 obtain⟨⟨_,E,hu,hE,_⟩,_⟩:=hC.ty T _ hT
 simp only[Builtin.len_,List.getElem?_toArray,List.getElem?_cons_zero,Sem.run_bind,run_und hu,Result.andThen_ok]
 rfl
end
end Ev
end
section
namespace Ev
open Go
section
variable {P : Program} {H : Heap} {L : Nat -> Loc} {w : World} {M : Nat -> Prop}
theorem live_of{s:Stat}{row:Bool}{t:Ty}{x:Val t}(h:s.live=true):(Ent.mem s row t x).live:=by cases s<;>first|trivial|cases h
theorem live_ofx{s:Stat}{sz:Nat}{x:List DV}(h:s.live=true):(Ent.cells s sz x).live:=by cases s<;>first|trivial|cases h
theorem live_ofc{s:Stat}{x:DV}(h:s.live=true):(Ent.cell s x).live:=by cases s<;>first|trivial|cases h
theorem relV_nil{e:Ty}{a:Option Addr}{c:Nat}:RelV w M (.sl e) ([]:List (Val e)) (.slice a 0 c):=by
 refine relV_sl.2 ?_
 unfold RelC
 exact .inl ⟨rfl,a,c,rfl⟩
theorem relC_sub{e:Ty}{l:List (Val e)}{B off:Nat}{vs:List Value}(hB:B<w.heap.size)(hM: ¬M B)(hc:CellsAt w B off vs)(hr:RowR (fun y u=>RelC w M e y u) l vs)(a n cap:Nat)(ad:Option Addr)
 (hn:a+n<=l.length) (hcap:n<=cap) (had:n=0∨ad=some ⟨B,off+a*e.size,none⟩):RelC w M (.sl e) ((l.drop a).take n) [.slice ad n cap]:=by
 simp only[RelC]
 rcases Nat.eq_zero_or_pos n with h0|h0
 ·subst h0;exact .inl ⟨by simp,ad,cap,rfl⟩
 ·rcases had with had|had
  ·omega
  ·subst had
   have hl:((l.drop a).take n).length=n:=by rw[List.length_take,List.length_drop];omega
   refine .inr ⟨fun hc=>by rw[hc]at hl;simp at hl;omega,B,off+a*e.size,cap,_,by rw[hl],by omega,hB,hM,(hc.drop (a*e.size)).take (n*e.size),RowR.take (fun _ _ k=>RelC.length k) (RowR.drop (fun _ _ k=>RelC.length k) hr a) n⟩
theorem own_cells{b:Nat}{s:Stat}{e:Ty}{l:Val (.sl e)}{v:Value}(hs:HRel P H L w M)(hb:hget H b= .mem s true (.sl e) l)(hlv:s.live=true)(r:RelD P H L w M (.own b) v):
 ((L b).nil=true∧(l:List (Val e))=[]∧v= .slice none 0 0)∨
 ((L b).nil=false∧(L b).blk<w.heap.size∧(L b).off=0∧ ∃us cap,v= .slice (some ⟨(L b).blk,0,none⟩) (l:List (Val e)).length cap∧(l:List (Val e)).length<=cap∧cap*e.size<=(L b).sz∧CellsAt w (L b).blk 0 us∧RowR (fun y u=>RelC w M e y u) l us):=by
 have hent:=hs.ent b (by rw[hb];exact live_of hlv)
 rw[hb]at hent
 simp only[EntR]at hent
 cases r with
 | @own _ s' e' l' _ hb' q=>
  rw[hb]at hb'
  injection hb' with _ _ he hl
  injection he with he
  subst he
  have hl:=eq_of_heq hl
  subst hl
  rcases q with⟨q1,q2,q3⟩|⟨q1,q2,cap,q3,q4,q5⟩
  ·exact .inl ⟨q1,List.length_eq_zero_iff.1 q2,q3⟩
  ·rcases hent with⟨h1,_⟩|⟨h0,h1,h2,h3,us,h4,h5⟩
   ·rw[h1]at q1;cases q1
   ·exact .inr ⟨q1,h1,q2,us,cap,q3,q4,q5,h4,h5⟩
 |ownc hb' _=>rw[hb]at hb';cases hb'
theorem win_cells{b:Nat}{p:List Stp}{off len:Nat}{e:Ty}{y:List (Val e)}{v:Value}(hs:HRel P H L w M)(h:winOf H b p off len e some=some y)(r:RelD P H L w M (.win b p off len) v):
 ∃a cap,v= .slice a len cap∧y.length=len∧len<=cap∧(len=0∨((L b).nil=false∧(L b).blk<w.heap.size∧ ∃o us,a=some ⟨(L b).blk,o,none⟩∧CellsAt w (L b).blk o us∧RowR (fun y u=>RelC w M e y u) y us)):=by
 cases r with
 | @win _ _ _ _ a cap n o e' ha h1 h2 h3=>
  unfold winOf at h
  split at h
  ·rename_i s e2 l hb
   split at h
   ·cases hlv:s.live with
    |false=>rw[hlv]at h;cases h
    |true=>
     rw[hlv]at h
     simp only[cond_true]at h
     split at h
     ·rename_i he;subst he
      injection h with h;subst h
      have hent:=hs.ent b (by rw[hb];exact live_of hlv)
      rw[hb]at hent ha
      simp only[EntR]at hent
      simp only[arrE,Option.some.injEq,Prod.mk.injEq]at ha
      obtain⟨rfl,rfl,rfl⟩:=ha
      have hl:((List.drop off (l:List (Val e2))).take len).length=len:=by rw[List.length_take,List.length_drop];omega
      refine⟨a,cap,rfl,hl,h2,?_⟩
      rcases Nat.eq_zero_or_pos len with h0|h0
      ·exact .inl h0
      ·refine .inr ?_
       rcases hent with⟨_,q⟩|⟨q0,q1,q2,q3,us,q4,q5⟩
       ·rw[q]at h1;simp at h1;omega
       ·rcases h3 with h3|h3
        ·omega
        ·refine⟨q0,q1,off*e2.size,_,by rw[h3,q2];simp,?_,RowR.take (fun _ _ k=>RelC.length k) (RowR.drop (fun _ _ k=>RelC.length k) q5 off) len⟩
         have:=(q4.drop (off*e2.size)).take (len*e2.size)
         rwa[Nat.zero_add]at this
     ·cases h
   ·rename_i q0 hp
    cases hlv:s.live with
    |false=>rw[hlv]at h;cases h
    |true=>
     rw[hlv]at h
     simp only[cond_true]at h
     rw[n_getM,Option.bind_eq_some_iff]at h
     obtain⟨⟨t2,z⟩,hz,h⟩:=h
     rw[hb]at ha
     have ha':(match offE (.mem s true (.sl e2) l) p with
      |some (o, .arr n e)=>some (n,o,e)
      |_=>none)=some (n,o,e'):=by
      rw[←ha]
      cases p with
      |nil=>exact absurd rfl hp
      |cons q p=>rfl
     split at ha'
     ·rename_i o' n' e3 ho
      injection ha' with ha';injection ha' with ha1 ha';injection ha' with ha2 ha3
      subst ha1 ha2 ha3
      obtain⟨g1,g2,g3,us,g4,g5⟩:=getM_ok (row:=true) hs hb hlv hz ho
      dsimp only at g1
      subst g1
      simp only at h
      split at h
      ·rename_i he;subst he
       injection h with h;subst h
       simp only[RelC]at g5
       have hl:((List.drop off (z:Vector (Val e3) n').toList).take len).length=len:=by rw[List.length_take,List.length_drop,Vector.length_toList];omega
       refine⟨a,cap,rfl,hl,h2,?_⟩
       rcases h3 with h3|h3
       ·exact .inl h3
       ·refine .inr ⟨g2,g3,_,_,h3,(g4.drop (off*e3.size)).take (len*e3.size),RowR.take (fun _ _ k=>RelC.length k) (RowR.drop (fun _ _ k=>RelC.length k) g5 off) len⟩
      ·cases h
     ·cases ha'
  ·rename_i s t x hb
   cases hlv:s.live with
   |false=>rw[hlv]at h;cases h
   |true=>
    rw[hlv]at h
    simp only[cond_true]at h
    rw[n_getV,Option.bind_eq_some_iff]at h
    obtain⟨⟨t2,z⟩,hz,h⟩:=h
    rw[hb]at ha
    simp only[arrE]at ha
    split at ha
    ·rename_i o' n' e2 ho
     injection ha with ha;injection ha with ha1 ha;injection ha with ha2 ha3
     subst ha1 ha2 ha3
     obtain⟨g1,g2,g3,us,g4,g5⟩:=getM_ok (row:=false) hs hb hlv hz ho
     dsimp only at g1
     subst g1
     simp only at h
     split at h
     ·rename_i he;subst he
      injection h with h;subst h
      simp only[RelC]at g5
      have hl:((List.drop off (z:Vector (Val e2) n').toList).take len).length=len:=by rw[List.length_take,List.length_drop,Vector.length_toList];omega
      refine⟨a,cap,rfl,hl,h2,?_⟩
      rcases h3 with h3|h3
      ·exact .inl h3
      ·refine .inr ⟨g2,g3,_,_,h3,(g4.drop (off*e2.size)).take (len*e2.size),RowR.take (fun _ _ k=>RelC.length k) (RowR.drop (fun _ _ k=>RelC.length k) g5 off) len⟩
     ·cases h
    ·cases ha
  ·cases h
theorem rowOf_inv{b:Nat}{e:Ty}{l:List (Val e)}(h:rowOf H b e some=some l): ∃s,hget H b= .mem s true (.sl e) l∧s.live=true:=by
 unfold rowOf at h
 split at h
 ·rename_i s e' l' hb
  cases hlv:s.live with
  |false=>rw[hlv]at h;cases h
  |true=>
   rw[hlv]at h
   simp only[cond_true]at h
   split at h
   ·rename_i he;subst he
    injection h with h;subst h
    exact⟨s,hb,hlv⟩
   ·cases h
 ·cases h
theorem getH_ok{b:Nat}{p:List Stp}{y:DV}{v:Value}(hs:HRel P H L w M)(h:getH H b p some=some y)(r:RelD P H L w M (.ptr b p) v):
 ∃o us,v= .pointer (some ⟨(L b).blk,o,none⟩)∧(L b).nil=false∧(L b).blk<w.heap.size∧CellsAt w (L b).blk o us∧ ∀e z,asV e y some=some z->RelC w M e z us:=by
 unfold getH at h
 cases hx:hget H b with
 |mem s row t z=>
  rw[hx]at h
  simp only at h
  cases hlv:s.live with
  |false=>rw[hlv]at h;cases h
  |true=>
   rw[hlv]at h
   simp only[cond_true]at h
   rw[n_getM,Option.bind_eq_some_iff]at h
   obtain⟨q,hq,h⟩:=h
   injection h with h;subst h
   cases r with
   | @ptr _ _ o t' ho=>
    rw[hx]at ho
    obtain⟨k1,k2,k3,us,k4,k5⟩:=getM_ok hs hx hlv hq ho
    refine⟨_,us,rfl,k2,k3,k4,fun e z hz=> ?_⟩
    simp only[asV]at hz
    split at hz
    ·rename_i he;subst he
     injection hz with hz;subst hz
     exact k5
    ·cases hz
   |ptrc hc=>rw[hx]at hc;cases hc
   |ptrx hc=>rw[hx]at hc;cases hc
 |cell s z=>
  rw[hx]at h
  simp only at h
  split at h
  ·cases hlv:s.live with
   |false=>rw[hlv]at h;cases h
   |true=>
    rw[hlv]at h
    simp only[cond_true,Option.some.injEq]at h
    subst h
    have hent:=hs.ent b (by rw[hx];exact live_ofc hlv)
    rw[hx]at hent
    obtain⟨e0,e1,e2,u,e3,e4,e5⟩:=hent
    cases r with
    |ptr ho=>rw[hx]at ho;simp only[offE,reduceCtorEq]at ho
    |ptrc hc=>
     refine⟨_,[u],rfl,e0,e1,fun i q hq=> ?_,fun e y hy=> ?_⟩
     ·cases i with
      |zero=>simp at hq;subst hq;simpa using e3
      |succ i=>simp at hq
     ·have hr:=asV_ok hy e5
      unfold RelV at hr
      split at hr
      ·obtain⟨us,rfl,_⟩:=hr;cases e4
      ·exact hr
  ·cases h
 |cells s z x=>rw[hx]at h;cases h
 |gone=>rw[hx]at h;cases h
def Lent(H H':Heap):Prop:=H'.length=H.length∧ ∀c,hget H' c=hget H c∨((hget H c).rw∧hget H' c=(hget H c).setS .frz)
theorem Lent.refl(H:Heap):Lent H H:=⟨rfl,fun _=> .inl rfl⟩
theorem setS_live{s:Stat}{x:Ent}(h:x.rw): ¬(x.setS .frz).rw∧x.live:=by
 refine⟨fun q=> ?_,rw_live h⟩
 cases x<;>exact q
theorem Lent.one{H:Heap}{b:Nat}(hr:(hget H b).rw):Lent H (hset H b ((hget H b).setS .frz)):=by
 refine⟨by rw[hset_length],fun c=> ?_⟩
 rw[hget_hset]
 split
 ·rename_i q;rw[q.1];exact .inr ⟨hr,rfl⟩
 ·exact .inl rfl
theorem Lent.rw{H H':Heap}(h:Lent H H'){c:Nat}(hc:(hget H' c).rw):(hget H c).rw:=by
 rcases h.2 c with q|⟨q,_⟩
 ·rw[←q];exact hc
 ·exact q
theorem Lent.keepRw{H H':Heap}(h:Lent H H'){c:Nat}(hc:(hget H' c).rw):hget H' c=hget H c:=by
 rcases h.2 c with q|⟨q,q2⟩
 ·exact q
 ·rw[q2]at hc;exact absurd hc (setS_live (s:= .frz) q).1
theorem Lent.live{H H':Heap}(h:Lent H H'){c:Nat}(hc:(hget H' c).live):(hget H c).live:=by
 rcases h.2 c with q|⟨q,_⟩
 ·rw[←q];exact hc
 ·exact rw_live q
theorem Lent.same{H H':Heap}(h:Lent H H'){c:Nat}(hc: ¬(hget H c).rw):hget H' c=hget H c:=by
 rcases h.2 c with q|⟨q,_⟩
 ·exact q
 ·exact absurd q hc
theorem Lent.len{H H':Heap}(h:Lent H H'):H'.length=H.length:=h.1
theorem Lent.trans{H1 H2 H3:Heap}(h:Lent H1 H2)(k:Lent H2 H3):Lent H1 H3:=by
 refine⟨k.1.trans h.1,fun c=> ?_⟩
 rcases h.2 c with q|⟨q,q2⟩
 ·rcases k.2 c with p|⟨p,p2⟩
  ·exact .inl (p.trans q)
  ·exact .inr ⟨by rw[←q];exact p,by rw[p2,q]⟩
 ·exact .inr ⟨q,by rw[k.same (by rw[q2];exact(setS_live (s:= .frz) q).1),q2]⟩
theorem lendB_ok{bor:Bool}{b:Nat}{H':Heap}(hs:HRel P H L w M)(h:lendB H bor b some=some H'):
 ∃M',HRel P H' L w M'∧Step H L w M H' L w M'∧Lent H H'∧(bor=false->(L b).nil=false-> ¬M' (L b).blk):=by
 unfold lendB at h
 cases bor with
 |true=>simp only[cond_true,Option.some.injEq]at h;subst h;exact⟨M,hs,Step.refl _ _ _ _, .refl _,fun q=>by cases q⟩
 |false=>
  simp only[cond_false]at h
  have fz: ∀ {H'},(hget H b).frz->H=H'-> ∃M',HRel P H' L w M'∧Step H L w M H' L w M'∧Lent H H'∧(false=false->(L b).nil=false-> ¬M' (L b).blk):=by
   rintro H' hf rfl
   exact⟨M,hs,Step.refl _ _ _ _, .refl _,fun _ hn=>hs.frz b hf hn⟩
  have rw: ∀ {H'},(hget H b).rw->hset H b ((hget H b).setS .frz)=H'-> ∃M',HRel P H' L w M'∧Step H L w M H' L w M'∧Lent H H'∧(false=false->(L b).nil=false-> ¬M' (L b).blk):=by
   rintro H' hr rfl
   obtain⟨M',h1,h2⟩:=hs.freeze hr
   refine⟨M',h1,h2, .one hr,fun _ hn=>h1.frz b ?_ hn⟩
   rw[hget_hset,if_pos ⟨rfl,hget_lt (live_ne (rw_live hr))⟩]
   cases hg:hget H b with
   |mem s row t x=>trivial
   |cell s x=>trivial
   |cells s z x=>trivial
   |gone=>rw[hg]at hr;exact hr.elim
  split at h
  ·rename_i hb;injection h with h;exact fz (by rw[hb];trivial) h
  ·rename_i hb;injection h with h;exact rw (by rw[hb];trivial) (by rw[hb];exact h)
  ·rename_i hb;injection h with h;exact fz (by rw[hb];trivial) h
  ·rename_i hb;injection h with h;exact rw (by rw[hb];trivial) (by rw[hb];exact h)
  ·rename_i hb;injection h with h;exact fz (by rw[hb];trivial) h
  ·rename_i hb;injection h with h;exact rw (by rw[hb];trivial) (by rw[hb];exact h)
  ·cases h
def outM(bor:Bool)(M:Nat->Prop):Nat->Prop:=fun B=>bor=false∧M B
theorem asV0_ok{bor:Bool}{t:Ty}{x:DV}{y:Val t}{H':Heap}{v:Value}(hs:HRel P H L w M)(h:asV0 H bor t x (fun y H=>some (y,H))=some (y,H'))(r:RelD P H L w M x v):
 ∃M',HRel P H' L w M'∧Step H L w M H' L w M'∧Lent H H'∧RelV w (outM bor M') t y v:=by
 have gen:asV t x (fun y=>some (y,H))=some (y,H')-> ∃M',HRel P H' L w M'∧Step H L w M H' L w M'∧Lent H H'∧RelV w (outM bor M') t y v:=by
  intro h
  rw[n_asV,Option.bind_eq_some_iff]at h
  obtain⟨z,hz,h⟩:=h
  injection h with h;injection h with h1 h2;subst h1 h2
  exact⟨M,hs,Step.refl _ _ _ _, .refl _,(asV_ok hz r).mono (Keep.refl M w) (fun _ _ q=>q.2)⟩
 have nope: ∀ {M':Nat->Prop} {B:Nat},(bor=false-> ¬M' B)-> ¬outM bor M' B:=fun h q=>h q.1 q.2
 cases x with
 |own b=>cases t with
  |sl e=>
   simp only[asV0]at h
   rw[n_lendB,Option.bind_eq_some_iff]at h
   obtain⟨H1,h1,h⟩:=h
   rw[n_rowOf,Option.bind_eq_some_iff]at h
   obtain⟨l,hl,h⟩:=h
   injection h with h;injection h with h2 h3;subst h2 h3
   obtain⟨M',k1,k2,k3,k4⟩:=lendB_ok hs h1
   refine⟨M',k1,k2,k3,?_⟩
   obtain⟨s,hb,hlv⟩:=rowOf_inv hl
   rcases own_cells hs hb hlv r with⟨_,q2,q3⟩|⟨q0,q1,q2,us,cap,q3,q4,q5,q6,q7⟩
   ·rw[q3,q2];exact relV_nil
   ·rw[q3]
    have:=relC_sub (M:=outM bor M') q1 (nope fun hb=>k4 hb q0) q6 (RowR.mono (fun _ _ q=>q.mono (Keep.refl M w) (fun B hB q=>k2.m B hB q.2)) q7) 0 (l:List (Val e)).length cap (some ⟨(L b).blk,0,none⟩) (by omega) q4 (.inr (by simp))
    rw[List.drop_zero,List.take_length]at this
    exact relV_sl.2 this
  |_=>exact gen h
 |win b p off len=>cases t with
  |sl e=>
   simp only[asV0]at h
   rw[n_lendB,Option.bind_eq_some_iff]at h
   obtain⟨H1,h1,h⟩:=h
   rw[n_winOf,Option.bind_eq_some_iff]at h
   obtain⟨l,hl,h⟩:=h
   injection h with h;injection h with h2 h3;subst h2 h3
   obtain⟨M',k1,k2,k3,k4⟩:=lendB_ok hs h1
   refine⟨M',k1,k2,k3,?_⟩
   obtain⟨a,cap,q1,q2,q3,q4⟩:=win_cells hs hl r
   subst q1
   rcases q4 with q4|⟨q4,q5,o,us,q6,q7,q8⟩
   ·subst q4
    have:l=[]:=List.length_eq_zero_iff.1 q2
    subst this
    exact relV_nil
   ·subst q6
    have:=relC_sub (M:=outM bor M') q5 (nope fun hb=>k4 hb q4) q7 (RowR.mono (fun _ _ q=>q.mono (Keep.refl M w) (fun B hB q=>k2.m B hB q.2)) q8) 0 l.length cap (some ⟨(L b).blk,o,none⟩) (by omega) (by omega) (.inr (by simp))
    rw[List.drop_zero,List.take_length,q2]at this
    exact relV_sl.2 this
  |_=>exact gen h
 |ptr b p=>cases t with
  |op e=>
   simp only[asV0]at h
   rw[n_lendB,Option.bind_eq_some_iff]at h
   obtain⟨H1,h1,h⟩:=h
   rw[n_getH,Option.bind_eq_some_iff]at h
   obtain⟨q,hq,h⟩:=h
   rw[n_asV,Option.bind_eq_some_iff]at h
   obtain⟨z,hz,h⟩:=h
   injection h with h;injection h with h2 h3;subst h2 h3
   obtain⟨M',k1,k2,k3,k4⟩:=lendB_ok hs h1
   refine⟨M',k1,k2,k3,?_⟩
   obtain⟨o,us,q1,q2,q3,q4,q5⟩:=getH_ok hs hq r
   subst q1
   exact relV_op.2 (by simp only[RelC];exact .inr ⟨z,_,o,us,rfl,rfl,q3,nope fun hb=>k4 hb q2,q4,(q5 e z hz).mono (Keep.refl M w) (fun B hB q=>k2.m B hB q.2)⟩)
  |_=>exact gen h
 |_=>simp only[asV0]at h;exact gen h
theorem CellsAt.pre{B off:Nat}{us vs:List Value}(h:CellsAt w B off (us++vs)):CellsAt w B off us:=fun i v hv=>h i v (by rw[List.getElem?_append_left (List.getElem?_eq_some_iff.1 hv).1];exact hv)
theorem RelL.tailC{x:DV}{l:List DV}{u:Value}{us:List Value}(h:RelL P H L w M (x::l) (u::us)):RelD P H L w M x u∧RelL P H L w M l us:=
 ⟨h.2 0 x u rfl rfl,by simpa using h.1,fun i y v hy hv=>h.2 (i+1) y v (by simpa using hy) (by simpa using hv)⟩
theorem RelL.app{l m:List DV}{us vs:List Value}(h:RelL P H L w M l us)(k:RelL P H L w M m vs):RelL P H L w M (l++m) (us++vs):=by
 refine⟨by simp[h.1,k.1],fun i x v hx hv=> ?_⟩
 by_cases hi:i<l.length
 ·rw[List.getElem?_append_left hi]at hx
  rw[List.getElem?_append_left (by rw[←h.1];exact hi)]at hv
  exact h.2 i x v hx hv
 ·rw[List.getElem?_append_right (by omega)]at hx
  rw[List.getElem?_append_right (by rw[←h.1];omega),←h.1]at hv
  exact k.2 _ x v hx hv
theorem RelL.drop{l:List DV}{us:List Value}(h:RelL P H L w M l us)(n:Nat):RelL P H L w M (l.drop n) (us.drop n):=
 ⟨by simp[h.1],fun i x v hx hv=>h.2 (n+i) x v (by simpa using hx) (by simpa using hv)⟩
theorem RelL.take{l:List DV}{us:List Value}(h:RelL P H L w M l us)(n:Nat):RelL P H L w M (l.take n) (us.take n):=by
 refine⟨by simp[h.1],fun i x v hx hv=> ?_⟩
 rw[List.getElem?_take]at hx hv
 split at hx
 ·rename_i hi;rw[if_pos hi]at hv;exact h.2 i x v hx hv
 ·cases hx
theorem relV_one{t:Ty}(ha:t.agg=false){y:Val t}{v:Value}:RelV w M t y v↔RelC w M t y [v]:=by
 unfold RelV;rw[ha]
abbrev Lends(P:Program)(H:Heap)(L:Nat->Loc)(w:World)(M:Nat->Prop)(H':Heap)(Q:(Nat->Prop)->Prop):Prop:= ∃M',HRel P H' L w M'∧Step H L w M H' L w M'∧Lent H H'∧Q M'
theorem ofN_ok{α:Type}{bor:Bool}{f: {R:Type}->Heap->List DV->(α->List DV->Heap->Option R)->Option R}{Rl:(Nat->Prop)->α->List Value->Prop}(hn: ∀ {R:Type} (H:Heap) (l:List DV) (k:α->List DV->Heap->Option R),f H l k=(f H l fun y l H=>some (y,l,H)).bind fun r=>k r.1 r.2.1 r.2.2)
 (hm: ∀ {M M':Nat->Prop} {x us},(∀B,B<w.heap.size->M' B->M B)->Rl M x us->Rl M' x us)
 (hf: ∀ {H H':Heap} {M:Nat->Prop} {l l':List DV} {us:List Value} {y:α},HRel P H L w M->f H l (fun y l H=>some (y,l,H))=some (y,l',H')->RelL P H L w M l us->(∀u∈us,one1 u=true)->Lends P H L w M H' fun M'=> ∃us1 us2,us=us1++us2∧Rl M' y us1∧RelL P H' L w M' l' us2):
 ∀ {n:Nat} {H H':Heap} {M:Nat->Prop} {l l':List DV} {us:List Value} {ys:List α},HRel P H L w M->ofN f n H l (fun y l H=>some (y,l,H))=some (ys,l',H')->RelL P H L w M l us->(∀u∈us,one1 u=true)->Lends P H L w M H' fun M'=>ys.length=n∧ ∃us1 us2,us=us1++us2∧RowR (Rl M') ys us1∧RelL P H' L w M' l' us2
 |0,H,H',M,l,l',us,ys,hs,h,hr,ho=>by
  simp only[ofN,Option.some.injEq,Prod.mk.injEq]at h
  obtain⟨rfl,rfl,rfl⟩:=h
  exact⟨M,hs,Step.refl _ _ _ _, .refl _,rfl,[],us,rfl, .nil,hr⟩
 |n+1,H,H',M,l,l',us,ys,hs,h,hr,ho=>by
  simp only[ofN]at h
  rw[hn,Option.bind_eq_some_iff]at h
  obtain⟨⟨y,l1,H1⟩,h1,h⟩:=h
  rw[n_ofN hn,Option.bind_eq_some_iff]at h
  obtain⟨⟨zs,l2,H2⟩,h2,h⟩:=h
  simp only[Option.some.injEq,Prod.mk.injEq]at h
  obtain⟨rfl,rfl,rfl⟩:=h
  obtain⟨M1,a1,a2,a3,us1,us2,rfl,a4,a5⟩:=hf hs h1 hr ho
  obtain⟨M2,b1,b2,b3,b4,us3,us4,rfl,b5,b6⟩:=ofN_ok (bor:=bor) hn @hm @hf a1 h2 a5 (fun u hu=>ho u (by simp[hu]))
  exact⟨M2,b1,a2.trans b2,a3.trans b3,by simp[b4],us1++us3,us4,by simp, .cons (hm (fun B hB q=>b2.m B hB q) a4) b5,b6⟩
theorem ofC_ok{bor:Bool}{leaf: {R:Type}->Heap->(t:Ty)->DV->(Val t->Heap->Option R)->Option R}(hn: ∀ {R:Type} (H:Heap) (t:Ty) (x:DV) (k:Val t->Heap->Option R),leaf H t x k=(leaf H t x fun y H=>some (y,H)).bind fun r=>k r.1 r.2)
 (hf: ∀ {H H':Heap} {M:Nat->Prop} {t:Ty} {x:DV} {v:Value} {y:Val t},HRel P H L w M->leaf H t x (fun y H=>some (y,H))=some (y,H')->RelD P H L w M x v->Lends P H L w M H' fun M'=>RelV w (outM bor M') t y v):
 ∀ {t:Ty} {H H':Heap} {M:Nat->Prop} {l l':List DV} {us:List Value} {y:Val t},HRel P H L w M->ofC leaf t H l (fun y l H=>some (y,l,H))=some (y,l',H')->RelL P H L w M l us->(∀u∈us,one1 u=true)->Lends P H L w M H' fun M'=> ∃us1 us2,us=us1++us2∧RelC w (outM bor M') t y us1∧RelL P H' L w M' l' us2:=by
 have mo: ∀ {M M':Nat->Prop} {t:Ty} {x:Val t} {us},(∀B,B<w.heap.size->M' B->M B)->RelC w (outM bor M) t x us->RelC w (outM bor M') t x us:=fun hm q=>q.mono (Keep.refl _ w) (fun B hB p=>⟨p.1,hm B hB p.2⟩)
 intro t
 induction t with
 |unit=>
  intro H H' M l l' us y hs h hr ho
  simp only[ofC]at h
  injection h with h;injection h with _ h;injection h with h2 h3;subst h2 h3
  exact⟨M,hs,Step.refl _ _ _ _, .refl _,[],us,rfl,by simp only[RelC],hr⟩
 |pair a b iha ihb=>
  intro H H' M l l' us y hs h hr ho
  simp only[ofC]at h
  rw[n_ofC hn,Option.bind_eq_some_iff]at h
  obtain⟨⟨x1,l1,H1⟩,h1,h⟩:=h
  rw[n_ofC hn,Option.bind_eq_some_iff]at h
  obtain⟨⟨x2,l2,H2⟩,h2,h⟩:=h
  simp only[Option.some.injEq,Prod.mk.injEq]at h
  obtain⟨rfl,rfl,rfl⟩:=h
  obtain⟨M1,a1,a2,a3,us1,us2,rfl,a4,a5⟩:=iha hs h1 hr ho
  obtain⟨M2,b1,b2,b3,us3,us4,rfl,b5,b6⟩:=ihb a1 h2 a5 (fun u hu=>ho u (by simp[hu]))
  refine⟨M2,b1,a2.trans b2,a3.trans b3,us1++us3,us4,by simp,?_,b6⟩
  simp only[RelC]
  exact⟨us1,us3,rfl,mo (fun B hB q=>b2.m B hB q) a4,b5⟩
 |arr n e ih=>
  intro H H' M l l' us y hs h hr ho
  simp only[ofC]at h
  rw[n_ofN (fun H l k=>n_ofC hn),Option.bind_eq_some_iff]at h
  obtain⟨⟨xs,l1,H1⟩,h1,h⟩:=h
  simp only[Option.some.injEq,Prod.mk.injEq]at h
  obtain⟨rfl,rfl,rfl⟩:=h
  obtain⟨M1,a1,a2,a3,a4,us1,us2,rfl,a5,a6⟩:=ofN_ok (bor:=bor) (Rl:=fun M x us=>RelC w (outM bor M) e x us) (fun H l k=>n_ofC hn) (fun hm q=>mo hm q) (fun hs h hr ho=>ih hs h hr ho) hs h1 hr ho
  refine⟨M1,a1,a2,a3,us1,us2,rfl,?_,a6⟩
  simp only[RelC]
  unfold vecOf
  rw[dif_pos a4]
  simpa using a5
 |_=>
  intro H H' M l l' us y hs h hr ho
  cases l with
  |nil=>simp only[ofC,reduceCtorEq]at h
  |cons x l=>
   cases us with
   |nil=>have:=hr.1;simp at this
   |cons u us=>
    simp only[ofC]at h
    rw[hn,Option.bind_eq_some_iff]at h
    obtain⟨⟨z,H1⟩,h1,h⟩:=h
    simp only[Option.some.injEq,Prod.mk.injEq]at h
    obtain⟨rfl,rfl,rfl⟩:=h
    obtain⟨q1,q2⟩:=hr.tailC
    obtain⟨M1,a1,a2,a3,a4⟩:=hf hs h1 q1
    exact⟨M1,a1,a2,a3,[u],us,rfl,(relV_one rfl).1 a4,q2.1,fun i y v hy hv=>(q2.2 i y v hy hv).step hs a2⟩
theorem cells_at{b:Nat}{s:Stat}{sz:Nat}{l:List DV}(hs:HRel P H L w M)(hb:hget H b= .cells s sz l)(hlv:s.live=true):
 (L b).nil=false∧(L b).blk<w.heap.size∧(L b).off=0∧l.length<=(L b).sz∧(sz=0->l.length=(L b).sz)∧ ∃us:List Value,CellsAt w (L b).blk 0 us∧(∀u∈us,one1 u=true)∧RelL P H L w M l us:=by
 have hent:=hs.ent b (by rw[hb];exact live_ofx hlv)
 rw[hb]at hent
 exact hent
theorem asVD_ok: ∀ {n:Nat} {bor:Bool} {t:Ty} {x:DV} {y:Val t} {H H':Heap} {M:Nat->Prop} {v:Value},HRel P H L w M->asVD n H bor t x (fun y H=>some (y,H))=some (y,H')->RelD P H L w M x v->Lends P H L w M H' fun M'=>RelV w (outM bor M') t y v:=by
 intro n
 induction n with
 |zero=>intro bor t x y H H' M v hs h r;exact asV0_ok hs h r
 |succ n ih=>
  intro bor t x y H H' M v hs h r
  have nope: ∀ {M':Nat->Prop} {B:Nat},(bor=false-> ¬M' B)-> ¬outM bor M' B:=fun h q=>h q.1 q.2
  have oc: ∀ {bor:Bool} {t:Ty} {H H':Heap} {M:Nat->Prop} {l l':List DV} {us:List Value} {y:Val t},HRel P H L w M->ofC (fun H t x k=>asVD n H bor t x k) t H l (fun y l H=>some (y,l,H))=some (y,l',H')->RelL P H L w M l us->(∀u∈us,one1 u=true)->Lends P H L w M H' fun M'=> ∃us1 us2,us=us1++us2∧RelC w (outM bor M') t y us1∧RelL P H' L w M' l' us2:=
   fun {bor}=>ofC_ok (fun H t x k=>n_asVD) (fun hs h r=>ih hs h r)
  have mo: ∀ {bor:Bool} {M M':Nat->Prop} {t:Ty} {x:Val t} {us},(∀B,B<w.heap.size->M' B->M B)->RelC w (outM bor M) t x us->RelC w (outM bor M') t x us:=fun hm q=>q.mono (Keep.refl _ w) (fun B hB p=>⟨p.1,hm B hB p.2⟩)
  cases x with
  |agg l=>
   simp only[asVD]at h
   obtain⟨hc,h⟩:=cond_some h
   rw[n_ofC (fun H t x k=>n_asVD),Option.bind_eq_some_iff]at h
   obtain⟨⟨z,l1,H1⟩,h1,h⟩:=h
   simp only[Option.some.injEq,Prod.mk.injEq]at h
   obtain⟨rfl,rfl⟩:=h
   rw[Bool.and_eq_true]at hc
   cases r with
   | @agg _ cs hl ho hr=>
    obtain⟨M1,a1,a2,a3,us1,us2,e,a4,a5⟩:=oc hs h1 ⟨by simpa using hl,fun i x v hx hv=>hr i x v hx (by simpa using hv)⟩ ho
    have l1':us1.length=t.size:=a4.length
    have:us2=[]:=by
     have h0:=congrArg List.length e
     have:=Nat.eq_of_beq_eq_true hc.2
     simp at h0
     exact List.length_eq_zero_iff.1 (by omega)
    rw[this,List.append_nil]at e
    exact⟨M1,a1,a2,a3,relV_agg hc.1 (by rw[e];exact a4)⟩
  |own b=>
   simp only[asVD]at h
   split at h
   ·rename_i s sz l hb
    cases t with
    |sl e=>
     simp only at h
     obtain⟨hc,h⟩:=cond_some h
     simp only[Bool.and_eq_true]at hc
     obtain⟨⟨⟨c1,c2⟩,c3⟩,c4⟩:=hc
     have c2:=Nat.eq_of_beq_eq_true c2
     rw[n_lendB,Option.bind_eq_some_iff]at h
     obtain⟨H1,h1,h⟩:=h
     rw[n_ofN (fun H l k=>n_ofC (fun H t x k=>n_asVD)),Option.bind_eq_some_iff]at h
     obtain⟨⟨zs,l1,H2⟩,h2,h⟩:=h
     simp only[Option.some.injEq,Prod.mk.injEq]at h
     obtain⟨rfl,rfl⟩:=h
     obtain⟨M1,k1,k2,k3,k4⟩:=lendB_ok hs h1
     obtain⟨q0,q1,q2,q3,_,us,q4,q5,q6⟩:=cells_at hs hb c1
     obtain⟨M2,a1,a2,a3,a4,us1,us2,rfl,a5,a6⟩:=ofN_ok (bor:=bor) (Rl:=fun M x us=>RelC w (outM bor M) e x us) (fun H l k=>n_ofC (fun H t x k=>n_asVD)) (fun hm q=>mo hm q) (fun hs h hr ho=>oc hs h hr ho) k1 h2 ⟨q6.1,fun i x v hx hv=>(q6.2 i x v hx hv).step hs k2⟩ q5
     refine⟨M2,a1,k2.trans a2,k3.trans a3,?_⟩
     cases r with
     |own hb' _=>rw[hb]at hb';cases hb'
     | @ownc _ s' sz' l' _ hb' q=>
      rw[hb]at hb'
      injection hb' with e1 e2 e3;subst e1 e2 e3
      obtain⟨_,_,cap,rfl,g1,g2⟩:=q
      have:=relC_sub (M:=outM bor M2) q1 (nope fun hb hm=>k4 hb q0 (a2.m _ q1 hm)) q4.pre a5 0 zs.length cap (some ⟨(L b).blk,0,none⟩) (by omega) (by omega) (.inr (by simp))
      rw[List.drop_zero,List.take_length,a4]at this
      exact relV_sl.2 this
    |_=>simp only[reduceCtorEq]at h
   ·exact asV0_ok hs h r
  |ptr b p=>
   simp only[asVD]at h
   split at h
   ·rename_i s sz l hb
    cases t with
    |op e=>
     rcases p with _|⟨q,_|⟨q',p⟩⟩
     ·cases h
     ·cases q with
      |fld i=>cases h
      |idx o=>
       simp only at h
       obtain⟨hc,h⟩:=cond_some h
       rw[Bool.and_eq_true]at hc
       have c2:=Nat.le_of_ble_eq_true hc.2
       rw[n_lendB,Option.bind_eq_some_iff]at h
       obtain⟨H1,h1,h⟩:=h
       rw[n_ofC (fun H t x k=>n_asVD),Option.bind_eq_some_iff]at h
       obtain⟨⟨z,l1,H2⟩,h2,h⟩:=h
       simp only[Option.some.injEq,Prod.mk.injEq]at h
       obtain⟨rfl,rfl⟩:=h
       obtain⟨M1,k1,k2,k3,k4⟩:=lendB_ok hs h1
       obtain⟨q0,q1,q2,q3,_,us,q4,q5,q6⟩:=cells_at hs hb hc.1
       obtain⟨M2,a1,a2,a3,us1,us2,e0,a5,a6⟩:=oc k1 h2 (us:=(us.drop o).take e.size) ⟨((q6.drop o).take e.size).1,fun i x v hx hv=>(((q6.drop o).take e.size).2 i x v hx hv).step hs k2⟩ (fun u hu=>q5 u (List.mem_of_mem_drop (List.mem_of_mem_take hu)))
       refine⟨M2,a1,k2.trans a2,k3.trans a3,?_⟩
       cases r with
       |ptr ho=>rw[hb]at ho;simp only[offE,reduceCtorEq]at ho
       | @ptrx _ _ s' sz' l' hb' ho=>
        refine relV_op.2 ?_
        simp only[RelC]
        refine .inr ⟨z,_,_,us1,rfl,rfl,q1,nope fun hb hm=>k4 hb q0 (a2.m _ q1 hm),?_,a5⟩
        have:=(q4.drop o).take e.size
        rw[e0,Nat.zero_add]at this
        rw[q2,Nat.zero_add]
        exact this.pre
     ·cases q<;>cases h
    |_=>simp only[reduceCtorEq]at h
   ·exact asV0_ok hs h r
  |_=>simp only[asVD]at h;exact asV0_ok hs h r
theorem RelD.unx{x:DV}{v:Value}(r:RelD P H L w M x v):RelD P H L w M (unx x) v:=by
 unfold Ev.unx
 split
 ·cases r with
  | @winx b n s e l h hn ho h1=>
   refine .win (n:=(l:List (Val e)).length) (o:=0) (e:=e) (by rw[h];rfl) (by omega) h1 (.inr ?_)
   simp[ho]
 ·exact r
theorem asVH_ok{bor:Bool}{t:Ty}{x:DV}{y:Val t}{H':Heap}{v:Value}(hs:HRel P H L w M)(h:asVH H bor t x (fun y H=>some (y,H))=some (y,H'))(r:RelD P H L w M x v):
 ∃M',HRel P H' L w M'∧Step H L w M H' L w M'∧Lent H H'∧RelV w (outM bor M') t y v:=asVD_ok hs h r.unx
theorem atC_inv{α:Type}{a:DV}{yes:Nat->Nat->Stat->Nat->List DV->Option α}{no:Option α}{r:α}(h:atC H a yes no=some r):
 (∃b o s sz l,a= .ptr b [.idx o]∧hget H b= .cells s sz l∧s.live=true∧yes b o s sz l=some r)∨no=some r:=by
 unfold atC at h
 split at h
 ·rename_i b p
  split at h
  ·rename_i s sz l hb
   split at h
   ·rename_i o
    obtain⟨h1,h2⟩:=cond_some h
    exact .inl ⟨b,o,s,sz,l,rfl,hb,h1,h2⟩
   ·cases h
  ·exact .inr h
 ·exact .inr h
theorem valL_inv{α:Type}{b:Bool}{e:Ty}{y:DV}{yes:List DV->Option α}{no:Option α}{r:α}(h:valL b e y yes no=some r):
 (∃l:List (Val e),y= .v (.sl e) l∧b=true∧yes (l.flatMap fun y=>cellsV e y)=some r)∨no=some r:=by
 unfold valL at h
 split at h
 ·rename_i e' l
  cases hc:b&&decide (e'=e)with
  |true=>
   rw[hc]at h
   simp only[Bool.and_eq_true,decide_eq_true_eq]at hc
   obtain⟨hb,rfl⟩:=hc
   exact .inl ⟨l,rfl,hb,h⟩
  |false=>rw[hc]at h;exact .inr h
 ·exact .inr h
theorem rowC_inv{α:Type}{a:DV}{yes:Nat->Stat->Nat->List DV->Option α}{no:Option α}{r:α}(h:rowC H a yes no=some r):
 (∃b s sz l,a= .own b∧hget H b= .cells s sz l∧s.live=true∧yes b s sz l=some r)∨no=some r:=by
 unfold rowC at h
 split at h
 ·rename_i b
  split at h
  ·rename_i s sz l hb
   obtain⟨h1,h2⟩:=cond_some h
   exact .inl ⟨b,s,sz,l,rfl,hb,h1,h2⟩
  ·exact .inr h
 ·exact .inr h
theorem ptr_cells{b o sz:Nat}{s:Stat}{l:List DV}{v:Value}(hs:HRel P H L w M)(hb:hget H b= .cells s sz l)(hlv:s.live=true)(r:RelD P H L w M (.ptr b [.idx o]) v):v= .pointer (some ⟨(L b).blk,o,none⟩)∧o<=l.length:=by
 obtain⟨q0,q1,q2,_⟩:=cells_at hs hb hlv
 cases r with
 |ptr ho=>rw[hb]at ho;simp only[offE,reduceCtorEq]at ho
 | @ptrx _ _ s' sz' l' hb' ho=>
  rw[hb]at hb'
  injection hb' with e1 e2 e3;subst e1 e2 e3
  rw[q2,Nat.zero_add]
  exact⟨rfl,ho⟩
theorem own_cellsC{b sz:Nat}{s:Stat}{l:List DV}{v:Value}(hb:hget H b= .cells s sz l)(r:RelD P H L w M (.own b) v): ∃cap,v= .slice (some ⟨(L b).blk,0,none⟩) (l.length/sz) cap∧l.length/sz<=cap∧cap*sz<=(L b).sz:=by
 cases r with
 |own hb' _=>rw[hb]at hb';cases hb'
 | @ownc _ s' sz' l' _ hb' q=>
  rw[hb]at hb'
  injection hb' with e1 e2 e3;subst e1 e2 e3
  exact q.2.2
theorem elemsOf_ok{e:Ty}{x:DV}{ys:List (Val e)}{v:Value}(hs:HRel P H L w M)(h:elemsOf H x e some=some ys)(r:RelD P H L w M x v):
 (∃s:List UInt8,∃he:Ty.u8=e,v= .string ⟨s.toArray⟩∧ys=castV (congrArg Ty.sl he) (s:Val (.sl .u8)))∨
 (∃a cap,v= .slice a ys.length cap∧ys.length<=cap∧(ys=[]∨ ∃B o us,B<w.heap.size∧a=some ⟨B,o,none⟩∧CellsAt w B o us∧RowR (fun y u=>RelC w M e y u) ys us)):=by
 have sl: ∀ {v},RelV w M (.sl e) ys v-> ∃a cap,v= .slice a ys.length cap∧ys.length<=cap∧(ys=[]∨ ∃B o us,B<w.heap.size∧a=some ⟨B,o,none⟩∧CellsAt w B o us∧RowR (fun y u=>RelC w M e y u) ys us):=by
  intro v hr
  have hr:=relV_sl.1 hr
  simp only[RelC]at hr
  rcases hr with⟨h0,a,c,h1⟩|⟨h0,B,off,cap,vs,h1,h2,h3,h4,h5,h6⟩
  ·injection h1 with h1 _;subst h1
   exact⟨a,c,by rw[h0];rfl,by rw[h0];simp, .inl h0⟩
  ·injection h1 with h1 _;subst h1
   exact⟨_,cap,rfl,h2, .inr ⟨B,off,vs,h3,rfl,h5,h6⟩⟩
 unfold elemsOf at h
 split at h
 ·obtain⟨s,hb,hlv⟩:=rowOf_inv h
  rcases own_cells hs hb hlv r with⟨_,q2,q3⟩|⟨q0,q1,q2,us,cap,q3,q4,q5,q6,q7⟩
  ·refine .inr ⟨none,0,by rw[q3,q2];rfl,by rw[q2];simp, .inl q2⟩
  ·exact .inr ⟨_,cap,q3,q4, .inr ⟨_,0,us,q1,rfl,q6,q7⟩⟩
 ·obtain⟨a,cap,q1,q2,q3,q4⟩:=win_cells hs h r
  subst q2
  refine .inr ⟨a,cap,q1,q3,?_⟩
  rcases q4 with q4|⟨q4,q5,o,us,q6,q7,q8⟩
  ·exact .inl (List.length_eq_zero_iff.1 q4)
  ·exact .inr ⟨_,o,us,q5,q6,q7,q8⟩
 ·rename_i s
  split at h
  ·rename_i he
   injection h with h;subst h
   exact .inl ⟨s,he,inv_str r.vinv,rfl⟩
  ·cases h
 ·exact .inr (sl (asV_ok h r))
def RelO(P:Program)(H:Heap)(L:Nat->Loc)(w:World)(M:Nat->Prop):Option DV->Option Value->Prop
 |none,none=>True
 |some x,some v=>RelD P H L w M x v
 |_,_=>False
theorem bound1_ok{x:DV}{v:Value}{n:Int}{top:Nat}(h:intD x some=some n)(r:RelD P H L w M x v)(h0:0<=n)(h1:n<=top)(c:BoundsCode):(Instr.sliceBound v top c).run P w= .ok n.toNat w:=by
 obtain⟨k,rfl⟩:=intD_ok h r
 simp only[Instr.sliceBound,asIntOf,Sem.run_bind,Sem.run_pure,Result.andThen_ok,if_pos (show 0<=n∧n<=(top:Int)from⟨h0,h1⟩)]
theorem bounds_ok{lo hi:Option DV}{lov hiv:Option Value}{l h:Int}{len cap:Nat}(b:Bool)(rl:RelO P H L w M lo lov)(rh:RelO P H L w M hi hiv)(hl:optI lo 0 some=some l)(hh:optI hi len some=some h)(h1:0<=l)(h2:l<=h)(h3:h<=cap):
 (Instr.sliceBounds b len cap lov hiv none).run P w= .ok (l.toNat,h.toNat,cap) w:=by
 unfold Instr.sliceBounds
 cases hi with
 |none=>
  cases hiv with
  |some _=>exact rh.elim
  |none=>
   simp only[optI,Option.some.injEq]at hh
   subst hh
   cases lo with
   |none=>cases lov with
    |some _=>exact rl.elim
    |none=>simp only[optI,Option.some.injEq]at hl;subst hl;rfl
   |some lx=>cases lov with
    |none=>exact rl.elim
    |some lv=>
     have:=bound1_ok (top:=len) hl rl h1 h2
     simp only[Sem.run_bind,Sem.run_pure,Result.andThen_ok,this,Option.isSome_none,Bool.false_eq_true,if_false,Int.toNat_natCast]
 |some hx=>
  cases hiv with
  |none=>exact rh.elim
  |some hv=>
   have hb:=bound1_ok (top:=cap) hh rh (by omega) h3
   cases lo with
   |none=>cases lov with
    |some _=>exact rl.elim
    |none=>simp only[optI,Option.some.injEq]at hl;subst hl;simp only[Sem.run_bind,Sem.run_pure,Result.andThen_ok,hb];rfl
   |some lx=>cases lov with
    |none=>exact rl.elim
    |some lv=>
     have:=bound1_ok (top:=h.toNat) hl rl h1 (by omega)
     simp only[Sem.run_bind,Sem.run_pure,Result.andThen_ok,hb,Option.isSome_none,Bool.false_eq_true,if_false,this]
theorem run_slice_sl{T E:TypeId}{sz:Nat}{a:Option Addr}{len cap l h:Nat}{lov hiv:Option Value}(hu:P.underlying T=some (.slice E))(hn:tsz P E=some sz)(hb:(Instr.sliceBounds true len cap lov hiv none).run P w= .ok (l,h,cap) w):
 (Instr.sliceAt T (.slice a len cap) lov hiv none).run P w= .ok (.slice (if cap=l then a else a.map (·.add (l*sz))) (h-l) (cap-l)) w:=by
 simp only[Instr.sliceAt,Instr.slice,Sem.run_bind,run_und hu,Result.andThen_ok,hb,Sem.run_pure,run_sizeOf hn]
theorem run_slice_arr{T E:TypeId}{sz n:Nat}{B off l h:Nat}{lov hiv:Option Value}(hu:P.underlying T=some (.array n E))(hn:tsz P E=some sz)(hb:(Instr.sliceBounds false n n lov hiv none).run P w= .ok (l,h,n) w):
 (Instr.sliceAt T (.pointer (some ⟨B,off,none⟩)) lov hiv none).run P w= .ok (.slice (some (if n=l then⟨B,off,none⟩else⟨B,off+l*sz,none⟩)) (h-l) (n-l)) w:=by
 simp only[Instr.sliceAt,Sem.run_bind,run_und hu,Result.andThen_ok,Instr.sureAddr,hb,Sem.run_pure,run_sizeOf hn,add_none]
theorem cut_inv{α:Type}{l:List α}{lo hi:Int}{r:List α}(h:cut? l lo hi=some r):0<=lo∧lo<=hi∧hi<=l.length∧r=(l.drop lo.toNat).take (hi.toNat-lo.toNat):=by
 unfold cut? at h
 simp only[takeW_eq]at h
 split at h
 ·rename_i q;injection h with h;exact⟨q.1,q.2.1,q.2.2,h.symm⟩
 ·cases h
theorem sub_addr{B o sz cap l n:Nat}{a:Option Addr}(ha:a=some ⟨B,o,none⟩)(h:n<=cap-l):n=0∨(if cap=l then a else a.map (·.add (l*sz)))=some ⟨B,o+l*sz,none⟩:=by
 rcases Nat.eq_zero_or_pos n with h0|h0
 ·exact .inl h0
 ·rw[if_neg (by omega),ha]
  right
  simp only[Option.map_some,add_none]
theorem sub_addr'{B o sz cap l n:Nat}(h:n<=cap-l):n=0∨(some (if cap=l then(⟨B,o,none⟩:Addr)else⟨B,o+l*sz,none⟩))=some ⟨B,o+l*sz,none⟩:=by
 rcases Nat.eq_zero_or_pos n with h0|h0
 ·exact .inl h0
 ·rw[if_neg (by omega)]
  exact .inr rfl
end
end Ev
end
section
namespace Ev
open Go
section
variable {P : Program} {H : Heap} {L : Nat -> Loc} {w : World} {M : Nat -> Prop}
theorem n_opt2{lo hi:Option DV}{a b:Int}{f:Int->Int->Option DV}{y:DV}(h:(optI lo a fun l=>optI hi b fun h=>f l h)=some y): ∃l h,optI lo a some=some l∧optI hi b some=some h∧f l h=some y:=by
 rw[n_optI,Option.bind_eq_some_iff]at h
 obtain⟨l,hl,h⟩:=h
 rw[n_optI,Option.bind_eq_some_iff]at h
 obtain⟨k,hk,h⟩:=h
 exact⟨l,k,hl,hk,h⟩
theorem n_cut{α:Type}{l:List α}{lo hi:Int}{f:List α->Option DV}{y:DV}(h:((cut? l lo hi).bind f)=some y): ∃r,0<=lo∧lo<=hi∧hi<=l.length∧r=(l.drop lo.toNat).take (hi.toNat-lo.toNat)∧f r=some y:=by
 rw[Option.bind_eq_some_iff]at h
 obtain⟨r,hr,h⟩:=h
 obtain⟨h1,h2,h3,h4⟩:=cut_inv hr
 exact⟨r,h1,h2,h3,h4,h⟩
theorem bytes_extract(s:List UInt8)(l h:Nat):(⟨s.toArray⟩:ByteArray).extract l h=⟨((s.drop l).take (h-l)).toArray⟩:=by
 apply ByteArray.ext
 simp[ByteArray.data_extract,List.extract_eq_take_drop]
theorem off_arr{x:Ent}{p:List Stp}{n o:Nat}{e:Ty}(ho:offE x p=some (o, .arr n e)):arrE x p=some (n,o,e):=by
 cases x with
 |mem s row t x=>
  cases row with
  |false=>simp only[offE]at ho;simp only[arrE,ho]
  |true=>
   cases t with
   |sl e2=>
    cases p with
    |nil=>simp only[offE,reduceCtorEq]at ho
    |cons q p=>simp only[arrE,ho]
   |_=>simp only[offE,reduceCtorEq]at ho
 |_=>simp only[offE,reduceCtorEq]at ho
theorem isFrz_ok{b:Nat}(h:isFrz H b=true):(hget H b).frz:=by
 unfold isFrz at h
 split at h
 ·rename_i hb;rw[hb];trivial
 ·rename_i hb;rw[hb];trivial
 ·rename_i hb;rw[hb];trivial
 ·cases h
theorem slice3_ok{C:Ctx}(hC:CtxTy P C){T:TypeId}{x y m:DV}{lo hi:Option DV}{v mv:Value}{lov hiv:Option Value}(h:slice3 C T x lo hi m some=some y)(r:RelD P H L w M x v)(rl:RelO P H L w M lo lov)(rh:RelO P H L w M hi hiv)(rm:RelD P H L w M m mv):
 Pur P H L w M (Instr.sliceAt T v lov hiv (some mv)) y:=by
 unfold slice3 at h
 split at h
 ·split at h
  ·rename_i e hT
   obtain⟨l,k,hl,hk,h⟩:=n_opt2 h
   rw[n_intD,Option.bind_eq_some_iff]at h
   obtain⟨c,hc,h⟩:=h
   split at h
   ·rename_i h0
    obtain⟨rfl,rfl,rfl⟩:=h0
    injection h with h;subst h
    cases r
    obtain⟨⟨_,E,hu,hE,_⟩,_⟩:=hC.ty T _ hT
    have bm:(Instr.sliceBound mv 0 .slice3Acap).run P w= .ok 0 w:=bound1_ok (top:=0) hc rm (by omega) (by omega) .slice3Acap
    cases hi with
    |none=>simp[optI]at hk
    |some hx=>
     cases hiv with
     |none=>exact rh.elim
     |some hv=>
      have bh:(Instr.sliceBound hv 0 .slice3B).run P w= .ok 0 w:=bound1_ok (top:=0) hk rh (by omega) (by omega) .slice3B
      have hb:(Instr.sliceBounds true 0 0 lov (some hv) (some mv)).run P w= .ok (0,0,0) w:=by
       unfold Instr.sliceBounds
       cases lo with
       |none=>
        cases lov with
        |some _=>exact rl.elim
        |none=>simp only[Sem.run_bind,Sem.run_pure,Result.andThen_ok,bm,bh,if_true]
       |some lx=>
        cases lov with
        |none=>exact rl.elim
        |some lv=>
         have bl:(Instr.sliceBound lv 0 .slice3C).run P w= .ok 0 w:=bound1_ok (top:=0) hl rl (by omega) (by omega) .slice3C
         simp only[Sem.run_bind,Sem.run_pure,Result.andThen_ok,bm,bh,if_true,Option.isSome_some,bl]
      refine⟨.slice none 0 0,?_, .nils⟩
      simp only[Instr.sliceAt,Instr.slice,Sem.run_bind,run_und hu,Result.andThen_ok,hb,Sem.run_pure,run_sizeOf (TyOk.base hE).sz]
      rfl
   ·cases h
  ·cases h
 ·cases h
theorem sliceOp_ok{C:Ctx}(hC:CtxTy P C){T:TypeId}{x y:DV}{lo hi:Option DV}{v:Value}{lov hiv:Option Value}(hs:HRel P H L w M)(ht:tySl C H T x=true)(h:sliceOp H x lo hi some=some y)(r:RelD P H L w M x v)(rl:RelO P H L w M lo lov)(rh:RelO P H L w M hi hiv):
 Pur P H L w M (Instr.sliceAt T v lov hiv none) y:=by
 unfold sliceOp at h
 split at h
 ·rename_i s
  obtain⟨l,k,hl,hk,h⟩:=n_opt2 h
  obtain⟨q,h1,h2,h3,rfl,h⟩:=n_cut h
  injection h with h;subst h
  obtain⟨⟨_,hu⟩,_⟩:=hC.ty T _ (of_decide_eq_true ht)
  rw[inv_str r.vinv]
  have hb:=bounds_ok (P:=P) (len:=(s:List UInt8).length) (cap:=(s:List UInt8).length) false rl rh hl hk h1 h2 h3
  refine⟨_,?_, .v relV_str⟩
  simp only[Instr.sliceAt,Instr.slice,Sem.run_bind,run_und hu,Result.andThen_ok,Option.isSome_none,Bool.false_eq_true,if_false]
  rw[show(⟨(s:List UInt8).toArray⟩:ByteArray).size=(s:List UInt8).length by simp[ByteArray.size],hb]
  simp only[Result.andThen_ok,Sem.run_pure,bytes_extract]
 ·rename_i e s
  obtain⟨l,k,hl,hk,h⟩:=n_opt2 h
  obtain⟨q,h1,h2,h3,rfl,h⟩:=n_cut h
  injection h with h;subst h
  obtain⟨⟨_,E,hu,hE,_⟩,_⟩:=hC.ty T _ (of_decide_eq_true ht)
  have hr:=relV_sl.1 r.vinv
  simp only[RelC]at hr
  rcases hr with⟨h0,a,c,e1⟩|⟨h0,B,off,cap,vs,e1,e2,e3,e4,e5,e6⟩
  ·injection e1 with e1 _;subst e1
   rw[h0]at h3 hk⊢
   simp at h3
   have hb:=bounds_ok (P:=P) (len:=0) (cap:=c) true rl rh hl hk h1 h2 (by omega)
   have:=run_slice_sl (w:=w) (a:=a) hu (TyOk.base hE).sz hb
   refine⟨_,this, .v ?_⟩
   rw[show k.toNat-l.toNat=0 by omega]
   simp only[List.take_zero]
   exact relV_nil
  ·injection e1 with e1 _;subst e1
   have hb:=bounds_ok (P:=P) (len:=(s:List (Val e)).length) (cap:=cap) true rl rh hl hk h1 h2 (by omega)
   have:=run_slice_sl (w:=w) (a:=some ⟨B,off,none⟩) hu (TyOk.base hE).sz hb
   exact⟨_,this, .v (relV_sl.2 (relC_sub e3 e4 e5 e6 l.toNat (k.toNat-l.toNat) (cap-l.toNat) _ (by omega) (by omega) (sub_addr rfl (by omega))))⟩
 ·obtain⟨l,k,hl,hk,h⟩:=n_opt2 h
  split at h
  ·rename_i hc
   obtain⟨rfl,rfl⟩:=hc
   injection h with h;subst h
   cases r
   unfold tySl at ht
   simp only at ht
   split at ht
   ·rename_i e hT
    obtain⟨⟨_,E,hu,hE,_⟩,_⟩:=hC.ty T _ hT
    have hb:=bounds_ok (P:=P) (len:=0) (cap:=0) true rl rh hl hk (by omega) (by omega) (by omega)
    exact⟨_,run_slice_sl (w:=w) (a:=none) hu (TyOk.base hE).sz hb, .nils⟩
   ·cases ht
  ·cases h
 ·rename_i b
  split at h
  ·rename_i st e row hb
   obtain⟨l,k,hl,hk,h⟩:=n_opt2 h
   have hel:elemH H b []=some e:=by unfold elemH;rw[hb]
   unfold tySl at ht
   simp only[hel]at ht
   obtain⟨⟨_,E,hu,hE,_⟩,_⟩:=hC.ty T _ (of_decide_eq_true ht)
   split at h
   ·obtain⟨q,h1,h2,h3,rfl,h⟩:=n_cut h
    injection h with h;subst h
    rcases own_cells hs hb rfl r with⟨_,q2,q3⟩|⟨q0,q1,q2,us,cap,q3,q4,q5,q6,q7⟩
    ·subst q3
     rw[q2]at h3 hk⊢
     simp at h3
     have hbd:=bounds_ok (P:=P) (len:=0) (cap:=0) true rl rh hl hk h1 h2 (by omega)
     refine⟨_,run_slice_sl (w:=w) (a:=none) hu (TyOk.base hE).sz hbd, .v ?_⟩
     rw[show k.toNat-l.toNat=0 by omega]
     simp only[List.take_zero]
     exact relV_nil
    ·subst q3
     have hbd:=bounds_ok (P:=P) (len:=(row:List (Val e)).length) (cap:=cap) true rl rh hl hk h1 h2 (by omega)
     have hf: ¬M (L b).blk:=hs.frz b (by rw[hb];trivial) q0
     exact⟨_,run_slice_sl (w:=w) hu (TyOk.base hE).sz hbd, .v (relV_sl.2 (relC_sub q1 hf q6 q7 l.toNat (k.toNat-l.toNat) (cap-l.toNat) _ (by omega) (by omega) (sub_addr rfl (by omega))))⟩
   ·split at h
    ·rename_i hc
     obtain⟨h1,h2,h3⟩:=hc
     injection h with h;subst h
     cases r with
     | @own _ s' e' l' _ hb' q=>
      rw[hb]at hb'
      injection hb' with _ _ he hl'
      injection he with he
      subst he
      have hl':=eq_of_heq hl'
      subst hl'
      have har:arrE (hget H b) []=some ((row:List (Val e)).length,0,e):=by rw[hb];rfl
      rcases q with⟨q1,q2,q3⟩|⟨q1,q2,cap,q3,q4,q5⟩
      ·subst q3
       have hbd:=bounds_ok (P:=P) (len:=0) (cap:=0) true rl rh hl (by rw[q2]at hk;exact hk) h1 h2 (by omega)
       exact⟨_,run_slice_sl (w:=w) (a:=none) hu (TyOk.base hE).sz hbd, .win har (by omega) (by omega) (.inl (by omega))⟩
      ·subst q3
       have hbd:=bounds_ok (P:=P) (len:=(row:List (Val e)).length) (cap:=cap) true rl rh hl hk h1 h2 (by omega)
       refine⟨_,run_slice_sl (w:=w) hu (TyOk.base hE).sz hbd, .win har (by omega) (by omega) ?_⟩
       have:=sub_addr (B:=(L b).blk) (o:=0) (sz:=e.size) (cap:=cap) (l:=l.toNat) (n:=k.toNat-l.toNat) rfl (by omega)
       rwa[q2]
     |ownc hb' _=>rw[hb]at hb';cases hb'
    ·cases h
  ·cases h
 ·rename_i b p off len
  obtain⟨l,k,hl,hk,h⟩:=n_opt2 h
  split at h
  ·rename_i hc
   obtain⟨h1,h2,h3⟩:=hc
   injection h with h;subst h
   cases r with
   | @win _ _ _ _ a cap n o e ha g1 g2 g3=>
    have hel:=elem_arr ha
    unfold tySl at ht
    simp only[hel]at ht
    obtain⟨⟨_,E,hu,hE,_⟩,_⟩:=hC.ty T _ (of_decide_eq_true ht)
    have hbd:=bounds_ok (P:=P) (len:=len) (cap:=cap) true rl rh hl hk h1 h2 (by omega)
    refine⟨_,run_slice_sl (w:=w) hu (TyOk.base hE).sz hbd, .win ha (by omega) (by omega) ?_⟩
    rcases g3 with g3|g3
    ·exact .inl (by omega)
    ·have:=sub_addr (sz:=e.size) (cap:=cap) (l:=l.toNat) (n:=k.toNat-l.toNat) g3 (by omega)
     rwa[show(L b).off+o+(off+l.toNat)*e.size=(L b).off+o+off*e.size+l.toNat*e.size by rw[Nat.add_mul];omega]
  ·cases h
 ·rename_i b m
  split at h
  ·rename_i s e r' hb
   obtain⟨l,k,hl,hk,h⟩:=n_opt2 h
   split at h
   ·rename_i hc
    obtain⟨h1,h2,h3⟩:=hc
    injection h with h;subst h
    have hel:elemH H b []=some e:=by unfold elemH;rw[hb]
    unfold tySl at ht
    simp only[hel]at ht
    obtain⟨⟨_,E,hu,hE,_⟩,_⟩:=hC.ty T _ (of_decide_eq_true ht)
    cases r with
    | @winx _ _ s' e' l' hb' hn ho q1=>
     rw[hb]at hb'
     injection hb' with _ _ he hll
     injection he with he
     subst he
     have hll:=eq_of_heq hll
     subst hll
     have hbd:=bounds_ok (P:=P) (len:=m) (cap:=(r':List (Val e)).length) true rl rh hl hk h1 h2 (by omega)
     refine⟨_,run_slice_sl (w:=w) hu (TyOk.base hE).sz hbd, .win (n:=(r':List (Val e)).length) (o:=0) (e:=e) (by rw[hb];rfl) (by omega) (by omega) ?_⟩
     have:=sub_addr (sz:=e.size) (cap:=(r':List (Val e)).length) (l:=l.toNat) (n:=k.toNat-l.toNat) (a:=some ⟨(L b).blk,0,none⟩) rfl (by omega)
     rw[ho];simpa using this
   ·cases h
  ·cases h
 ·rename_i b p
  split at h
  ·rename_i n e hty
   obtain⟨l,k,hl,hk,h⟩:=n_opt2 h
   cases r with
   | @ptr _ _ o t ho=>
    rw[tyH_off ho]at hty
    injection hty with hty;subst hty
    obtain⟨⟨_,E,hu,hE,_⟩,_⟩:=hC.ty T _ (tyP_ptr ht ho)
    cases hf:isFrz H b with
    |true=>
     rw[hf]at h
     simp only[cond_true]at h
     rw[n_getH,Option.bind_eq_some_iff]at h
     obtain⟨z,hz,h⟩:=h
     rw[n_asV,Option.bind_eq_some_iff]at h
     obtain⟨a,ha,h⟩:=h
     obtain⟨q,h1,h2,h3,rfl,h⟩:=n_cut h
     injection h with h;subst h
     obtain⟨o',us,k1,k2,k3,k4,k5⟩:=getH_ok hs hz (.ptr ho)
     have hr:=k5 _ _ ha
     simp only[RelC]at hr
     injection k1 with k1;injection k1 with k1;injection k1 with _ k1
     subst k1
     simp only[Vector.length_toList]at h3
     have hbd:=bounds_ok (P:=P) (len:=n) (cap:=n) false rl rh hl hk h1 h2 h3
     have hm: ¬M (L b).blk:=hs.frz b (isFrz_ok hf) k2
     exact⟨_,run_slice_arr (w:=w) hu (TyOk.base hE).sz hbd, .v (relV_sl.2 (relC_sub k3 hm k4 hr l.toNat (k.toNat-l.toNat) (n-l.toNat) _ (by rw[Vector.length_toList];omega) (by omega) (sub_addr' (by omega))))⟩
    |false=>
     rw[hf]at h
     simp only[cond_false]at h
     split at h
     ·rename_i st t' x' hb
      split at h
      ·rename_i hc
       obtain⟨h1,h2,h3⟩:=hc
       injection h with h;subst h
       have hbd:=bounds_ok (P:=P) (len:=n) (cap:=n) false rl rh hl hk h1 h2 h3
       have har:arrE (hget H b) p=some (n,o,e):=off_arr ho
       exact⟨_,run_slice_arr (w:=w) hu (TyOk.base hE).sz hbd, .win har (by omega) (by omega) (sub_addr' (by omega))⟩
      ·cases h
     ·cases h
   |ptrc hc=>unfold tyH at hty;rw[hc]at hty;cases hty
   |ptrx hc=>unfold tyH at hty;rw[hc]at hty;cases hty
  ·cases h
 ·rename_i n e a
  obtain⟨l,k,hl,hk,h⟩:=n_opt2 h
  obtain⟨q,h1,h2,h3,rfl,h⟩:=n_cut h
  injection h with h;subst h
  obtain⟨⟨_,E,hu,hE,_⟩,_⟩:=hC.ty T _ (of_decide_eq_true ht)
  simp only[Vector.length_toList]at h3
  have hbd:=bounds_ok (P:=P) (len:=n) (cap:=n) false rl rh hl hk h1 h2 h3
  cases r with
  | @fp _ _ B off us g1 g2 g3 g4=>
   simp only[RelC]at g4
   exact⟨_,run_slice_arr (w:=w) hu (TyOk.base hE).sz hbd, .v (relV_sl.2 (relC_sub g1 g2 g3 g4 l.toNat (k.toNat-l.toNat) (n-l.toNat) _ (by rw[Vector.length_toList];omega) (by omega) (sub_addr' (by omega))))⟩
 ·cases h
theorem pick_ok{c a b y:DV}{vc va vb:Value}(h:pickOp c a b some=some y)(rc:RelD P H L w M c vc)(ra:RelD P H L w M a va)(rb:RelD P H L w M b vb):
 ∃v,(do pure (.value (if←asBool vc then va else vb)):Sem Next).run P w= .ok (.value v) w∧RelD P H L w M y v:=by
 unfold pickOp at h
 split at h
 ·rename_i t
  rw[inv_bool rc.vinv]
  have hrun:(do pure (.value (if←asBool (.bool t)then va else vb)):Sem Next).run P w= .ok (.value (if t then va else vb)) w:=by
   simp only[asBool,Sem.run_bind,Sem.run_pure,Result.andThen_ok]
  refine⟨_,hrun,?_⟩
  split at h
  ·cases t with
   |true=>injection h with h;subst h;exact ra
   |false=>cases h
  ·cases t with
   |true=>cases h
   |false=>injection h with h;subst h;exact rb
  ·rename_i ta x _
   rw[n_asV,Option.bind_eq_some_iff]at h
   obtain⟨z,hz,h⟩:=h
   injection h with h;subst h
   cases t with
   |true=>exact ra
   |false=>exact .v (asV_ok hz rb)
  ·cases h
 ·cases h
theorem extract_ok{l:List DV}{i:Nat}{y:DV}{v:Value}(h:l[i]?=some y)(r:RelD P H L w M (.tup l) v):Pur P H L w M (Instr.extract v i) y:=by
 cases r with
 | @tup _ vs hl hr=>
  have:i<vs.size:=by
   rw[←hl]
   rcases Nat.lt_or_ge i l.length with q|q
   ·exact q
   ·rw[List.getElem?_eq_none q]at h;cases h
  exact⟨vs[i],by simp[Instr.extract,this],hr i y _ h (by simp[this])⟩
theorem nilCheck_ok{x y:DV}{v:Value}(h:(match x with
 | .ptr b p=>some (DV.ptr b p)
 | .fp t x=>some (.fp t x)
 | .v (.op e) o=>Option.bind o fun y=>some (.fp e y)
 |_=>none)=some y) (r:RelD P H L w M x v): ∃a,v= .pointer (some a)∧RelD P H L w M y v:=by
 split at h
 ·injection h with h;subst h
  cases r with
  |ptr ho=>exact⟨_,rfl, .ptr ho⟩
  |ptrc hc=>exact⟨_,rfl, .ptrc hc⟩
  |ptrx hc ho=>exact⟨_,rfl, .ptrx hc ho⟩
 ·injection h with h;subst h
  cases r with
  |fp h1 h2 h3 h4=>exact⟨_,rfl, .fp h1 h2 h3 h4⟩
 ·rename_i e o
  rw[Option.bind_eq_some_iff]at h
  obtain⟨z,hz,h⟩:=h
  injection h with h;subst h
  have hr:=relV_op.1 r.vinv
  simp only[RelC]at hr
  rcases hr with⟨h0,_⟩|⟨y,B,off,us,h0,h1,h2,h3,h4,h5⟩
  ·rw[h0]at hz;cases hz
  ·rw[hz]at h0;injection h0 with h0;subst h0
   injection h1 with h1 _;subst h1
   exact⟨_,rfl, .fp h2 h3 h4 h5⟩
 ·cases h
theorem min_ok{ts:Array TypeId}{ty:TypeId}{a b:Int}{va vb:Value}(ha:RelV w M .i64 a va)(hb:RelV w M .i64 b vb):(Builtin.min_ ts ty #[va,vb]).run P w= .ok (.int .i64 (minI a b)) w:=by
 rw[inv_i64 ha,inv_i64 hb]
 simp only[Builtin.min_,List.foldlM_cons,List.foldlM_nil,Builtin.min2,Sem.run_bind,Sem.run_pure,Result.andThen_ok]
 rfl
theorem max_ok{ts:Array TypeId}{ty:TypeId}{a b:Int}{va vb:Value}(ha:RelV w M .i64 a va)(hb:RelV w M .i64 b vb):(Builtin.max_ ts ty #[va,vb]).run P w= .ok (.int .i64 (maxI a b)) w:=by
 rw[inv_i64 ha,inv_i64 hb]
 simp only[Builtin.max_,List.foldlM_cons,List.foldlM_nil,Builtin.max2,Sem.run_bind,Sem.run_pure,Result.andThen_ok]
 rfl
theorem min_ok3{ts:Array TypeId}{ty:TypeId}{a b c:Int}{va vb vc:Value}(ha:RelV w M .i64 a va)(hb:RelV w M .i64 b vb)(hc:RelV w M .i64 c vc):(Builtin.min_ ts ty #[va,vb,vc]).run P w= .ok (.int .i64 (minI (minI a b) c)) w:=by
 rw[inv_i64 ha,inv_i64 hb,inv_i64 hc]
 simp only[Builtin.min_,List.foldlM_cons,List.foldlM_nil,Builtin.min2,Sem.run_bind,Sem.run_pure,Result.andThen_ok]
 rfl
theorem max_ok3{ts:Array TypeId}{ty:TypeId}{a b c:Int}{va vb vc:Value}(ha:RelV w M .i64 a va)(hb:RelV w M .i64 b vb)(hc:RelV w M .i64 c vc):(Builtin.max_ ts ty #[va,vb,vc]).run P w= .ok (.int .i64 (maxI (maxI a b) c)) w:=by
 rw[inv_i64 ha,inv_i64 hb,inv_i64 hc]
 simp only[Builtin.max_,List.foldlM_cons,List.foldlM_nil,Builtin.max2,Sem.run_bind,Sem.run_pure,Result.andThen_ok]
 rfl
theorem lendL_ok: ∀ {l:List DV} {H:Heap} {M:Nat->Prop},HRel P H L w M-> ∃M',HRel P (lendL l H) L w M'∧Step H L w M (lendL l H) L w M':=by
 have one: ∀ {H:Heap} {M:Nat->Prop} (b:Nat),HRel P H L w M-> ∃M',HRel P (match hget H b with
  | .mem .rw row t x=>hset H b (.mem .frz row t x)
  | .cell .rw x=>hset H b (.cell .frz x)
  |_=>H) L w M'∧Step H L w M (match hget H b with
  | .mem .rw row t x=>hset H b (.mem .frz row t x)
  | .cell .rw x=>hset H b (.cell .frz x)
  |_=>H) L w M':=by
  intro H M b hs
  split
  ·rename_i row t x hb
   have:=hs.freeze (b:=b) (by rw[hb];trivial)
   rw[hb]at this;exact this
  ·rename_i x hb
   have:=hs.freeze (b:=b) (by rw[hb];trivial)
   rw[hb]at this;exact this
  ·exact⟨M,hs,Step.refl _ _ _ _⟩
 intro l
 induction l with
 |nil=>intro H M hs;exact⟨M,hs,Step.refl _ _ _ _⟩
 |cons x l ih=>
  intro H M hs
  have go: ∀b:Nat,∃M',HRel P (lendL l (match hget H b with
   | .mem .rw row t x=>hset H b (.mem .frz row t x)
   | .cell .rw x=>hset H b (.cell .frz x)
   |_=>H)) L w M'∧Step H L w M (lendL l (match hget H b with
   | .mem .rw row t x=>hset H b (.mem .frz row t x)
   | .cell .rw x=>hset H b (.cell .frz x)
   |_=>H)) L w M':=by
   intro b
   obtain⟨M1,h1,h2⟩:=one b hs
   obtain⟨M2,h3,h4⟩:=ih h1
   exact⟨M2,h3,h2.trans h4⟩
  cases x with
  |ptr b p=>exact go b
  |own b=>exact go b
  |win b p off len=>exact go b
  |winx b n=>exact go b
  |_=>exact ih hs
end
end Ev
end
section
namespace Ev
open Go
structure Wrote (B:Nat) (w w':World):Prop where
 other: ∀k,k≠B->w'.heap[k]?=w.heap[k]?
 size:w'.heap.size=w.heap.size
 os:w'.os=w.os
 tape:w'.tape=w.tape
 output:w'.output=w.output
theorem Wrote.refl(B:Nat)(w:World):Wrote B w w:=⟨fun _ _=>rfl,rfl,rfl,rfl,rfl⟩
theorem Wrote.trans{B:Nat}{a b c:World}(h:Wrote B a b)(k:Wrote B b c):Wrote B a c:=
 ⟨fun i hi=>(k.other i hi).trans (h.other i hi),k.size.trans h.size,k.os.trans h.os,k.tape.trans h.tape,k.output.trans h.output⟩
section
variable {P : Program} {H : Heap} {L : Nat -> Loc} {w : World} {M : Nat -> Prop}
theorem wrote_setCell(w:World)(B o:Nat)(v:Value):Wrote B w (w.setCell ⟨B,o,none⟩ v):=by
 refine⟨fun k hk=> ?_,by simp[World.setCell],rfl,rfl,rfl⟩
 simp only[World.setCell,Array.getElem?_modify]
 rw[if_neg (by omega)]
theorem heap_setCell{B o:Nat}{v:Value}{c:Array Value}{e:TypeId}{fz:Nat×Nat}(h:w.heap[B]?=some (.cells c e fz)):
 (w.setCell ⟨B,o,none⟩ v).heap[B]?=some (.cells (c.setIfInBounds o v) e fz):=by
 simp[World.setCell,Array.getElem?_modify,h]
theorem run_store_one{a:Addr}{v u:Value}(h1:one1 v=true)(hc:w.cell? a=some u)(hf:w.frozen? a=false):(Go.store a v).run P w= .ok () (w.setCell a v):=by
 cases v<;>first|(cases h1;done)|simp[Go.store,Sem.run,hc,hf]
theorem storeCells_ok(B off:Nat)(e:TypeId)(fz:Nat×Nat): ∀(vs:List Value) (i:Nat) (c:Array Value) (w:World),w.heap[B]?=some (.cells c e fz)->off+i+vs.length<=c.size->(∀v∈vs,one1 v=true)->
 (∀o,o<c.size->(decide (fz.1<=o)&&decide (o<fz.2))=false)->
 ∃w' c',(storeCells ⟨B,off,none⟩ vs i).run P w= .ok () w'∧w'.heap[B]?=some (.cells c' e fz)∧c'.toList=c.toList.take (off+i)++vs++c.toList.drop (off+i+vs.length)∧Wrote B w w':=by
 intro vs
 induction vs with
 |nil=>intro i c w h _ _ _;exact⟨w,c,rfl,h,by simp,Wrote.refl _ _⟩
 |cons v vs ih=>
  intro i c w h hle h1 hf
  simp only[List.length_cons]at hle hf
  have hcell:w.cell? ⟨B,off+i,none⟩=some (c[off+i]'(by omega)):=by rw[cell?_cells h];exact Array.getElem?_eq_getElem _
  have hfz:w.frozen? ⟨B,off+i,none⟩=false:=by rw[frozen?_cells h];exact hf _ (by omega)
  obtain⟨w',c',h2,h3,h4,h5⟩:=ih (i+1) (c.setIfInBounds (off+i) v) (w.setCell ⟨B,off+i,none⟩ v) (heap_setCell h) (by simp;omega) (fun u hu=>h1 u (by simp[hu])) (fun o a=>hf o (by simpa using a))
  refine⟨w',c',?_,h3,?_,(wrote_setCell w B _ v).trans h5⟩
  ·simp only[storeCells,Sem.run_bind,add_none]
   rw[run_store_one (h1 v (by simp)) hcell hfz]
   exact h2
  ·rw[h4]
   simp only[Array.toList_setIfInBounds,List.length_cons]
   rw[List.take_set,List.drop_set_of_lt (by omega),show off+(i+1)=off+i+1 from by omega,List.take_add_one,List.set_append_right _ _ (by simp;omega)]
   have:(List.take (off+i) c.toList).length=off+i:=by simp;omega
   rw[this,Nat.sub_self]
   have hget:c.toList[off+i]?=some (c.toList[off+i]'(by simp;omega)):=List.getElem?_eq_getElem _
   rw[hget]
   simp[Nat.add_assoc,Nat.add_comm 1]
theorem cells_prefix{B:Nat}{vs:Array Value}{el:TypeId}{fz:Nat×Nat}{us:List Value}(hb:w.heap[B]?=some (.cells vs el fz))(hc:CellsAt w B 0 us): ∃rest,vs.toList=us++rest:=by
 refine⟨vs.toList.drop us.length,?_⟩
 have:vs.toList.take us.length=us:=by
  apply List.ext_getElem?
  intro i
  rw[List.getElem?_take]
  split
  ·rename_i hi
   have:=hc i us[i] (List.getElem?_eq_getElem hi)
   rw[cell?_cells hb,Nat.zero_add]at this
   rw[List.getElem?_eq_getElem hi]
   simpa using this
  ·rename_i hi;rw[List.getElem?_eq_none (by omega)]
 conv=>lhs;rw[←List.take_append_drop us.length vs.toList,this]
theorem cells_of{B:Nat}{vs:Array Value}{el:TypeId}{fz:Nat×Nat}{us rest:List Value}(hb:w.heap[B]?=some (.cells vs el fz))(h:vs.toList=us++rest):CellsAt w B 0 us:=by
 intro i v hv
 rw[cell?_cells hb,Nat.zero_add,←Array.getElem?_toList,h]
 have:=(List.getElem?_eq_some_iff.1 hv).1
 rw[List.getElem?_append_left this];exact hv
theorem splice_pre{α:Type}{us rest ys:List α}{o:Nat}(h:o+ys.length<=us.length):(us++rest).take o++ys++(us++rest).drop (o+ys.length)=(us.take o++ys++us.drop (o+ys.length))++rest:=by
 rw[List.take_append_of_le_length (by omega),List.drop_append_of_le_length h]
 simp[List.append_assoc]
theorem splice_in{α:Type}{us ys:List α}{a s o:Nat}(h1:o+ys.length<=s)(h2:a+s<=us.length):
 us.take a++(((us.drop a).take s).take o++ys++((us.drop a).take s).drop (o+ys.length))++us.drop (a+s)=us.take (a+o)++ys++us.drop (a+o+ys.length):=by
 rw[List.take_take,Nat.min_eq_left (by omega),List.drop_take,List.drop_drop]
 have e1:us.take a++(us.drop a).take o=us.take (a+o):=(List.take_add).symm
 have e2:List.take (s-(o+ys.length)) (us.drop (a+(o+ys.length)))++us.drop (a+s)=us.drop (a+o+ys.length):=by
  have:us.drop (a+s)=(us.drop (a+(o+ys.length))).drop (s-(o+ys.length)):=by rw[List.drop_drop];congr 1;omega
  rw[this,List.take_append_drop,Nat.add_assoc]
 rw[←e1,←e2]
 simp[List.append_assoc]
theorem offV_le: ∀ {t:Ty} {p:List Stp} {o:Nat} {t':Ty},offV t p=some (o,t')->o+t'.size<=t.size:=by
 intro t
 have nil: ∀ {t:Ty} {o:Nat} {t':Ty},offV t []=some (o,t')->o+t'.size<=t.size:=by
  intro t o t' h
  rw[offV_nil]at h;injection h with h;injection h with h1 h2;subst h1 h2;omega
 induction t with
 |pair a b iha ihb=>
  intro p o t' h
  cases p with
  |nil=>exact nil h
  |cons s p=>cases s with
   |fld i=>cases i with
    |zero=>simp only[offV]at h;have:=iha h;simp only[Ty.size];omega
    |succ i=>
     simp only[offV,Option.map_eq_some_iff]at h
     obtain⟨⟨o',t2⟩,h,he⟩:=h
     injection he with he1 he2
     dsimp only at he1 he2
     subst he1 he2
     have:=ihb h;simp only[Ty.size];omega
   |idx i=>simp only[offV,reduceCtorEq]at h
 |arr n e ih=>
  intro p o t' h
  cases p with
  |nil=>exact nil h
  |cons s p=>cases s with
   |fld i=>simp only[offV,reduceCtorEq]at h
   |idx i=>
    simp only[offV]at h
    split at h
    ·rename_i hi
     simp only[Option.map_eq_some_iff]at h
     obtain⟨⟨o',t2⟩,h,he⟩:=h
     injection he with he1 he2
     dsimp only at he1 he2
     subst he1 he2
     have:=ih h
     have hle:i*e.size+e.size<=n*e.size:=by rw[←Nat.succ_mul];exact Nat.mul_le_mul_right _ hi
     simp only[Ty.size];omega
    ·cases h
 |_=>
  intro p o t' h
  cases p with
  |nil=>exact nil h
  |cons s p=>simp only[offV,reduceCtorEq]at h
theorem setV_ok: ∀ {t:Ty} {x:Val t} {p:List Stp} {us:List Value} {t':Ty} {y:Val t'} {z:Val t} {o:Nat} {t2:Ty} {ys:List Value},RelC w M t x us->setV t x p t' y some=some z->offV t p=some (o,t2)->RelC w M t' y ys->
 t2=t'∧RelC w M t z (us.take o++ys++us.drop (o+ys.length)):=by
 intro t
 have nil: ∀ {t:Ty} {x:Val t} {us:List Value} {t':Ty} {y:Val t'} {z:Val t} {o:Nat} {t2:Ty} {ys:List Value},RelC w M t x us->setV t x [] t' y some=some z->offV t []=some (o,t2)->RelC w M t' y ys->
  t2=t'∧RelC w M t z (us.take o++ys++us.drop (o+ys.length)):=by
  intro t x us t' y z o t2 ys hr hg ho hy
  rw[offV_nil]at ho;injection ho with ho;injection ho with h1 h2;subst h1 h2
  have hg':(if h:t'=t then some (castV h y)else none)=some z:=by cases t<;>simpa only[setV]using hg
  split at hg'
  ·rename_i he;subst he
   injection hg' with hg';subst hg'
   have l1:=hr.length
   have l2:=hy.length
   refine⟨rfl,?_⟩
   rw[List.take_zero,Nat.zero_add,List.drop_of_length_le (by omega),List.append_nil,List.nil_append]
   exact hy
  ·cases hg'
 induction t with
 |pair a b iha ihb=>
  intro x p us t' y z o t2 ys hr hg ho hy
  cases p with
  |nil=>exact nil hr hg ho hy
  |cons s p=>
   simp only[RelC]at hr⊢
   obtain⟨u,v,rfl,h1,h2⟩:=hr
   have hl1:=h1.length
   have hl2:=h2.length
   have hly:=hy.length
   cases s with
   |fld i=>cases i with
    |zero=>
     simp only[setV,offV]at hg ho
     rw[n_setV,Option.bind_eq_some_iff]at hg
     obtain⟨q,hq,hg⟩:=hg
     injection hg with hg;subst hg
     obtain⟨k1,k2⟩:=iha h1 hq ho hy
     have:=offV_le ho
     rw[k1,←hly,←hl1]at this
     refine⟨k1,u.take o++ys++u.drop (o+ys.length),v,splice_pre this,k2,h2⟩
    |succ i=>
     simp only[setV,offV,Option.map_eq_some_iff]at hg ho
     rw[n_setV,Option.bind_eq_some_iff]at hg
     obtain⟨q,hq,hg⟩:=hg
     injection hg with hg;subst hg
     obtain⟨⟨o',t3⟩,ho,he⟩:=ho
     injection he with he1 he2
     dsimp only at he1 he2
     subst he1 he2
     obtain⟨k1,k2⟩:=ihb h2 hq ho hy
     refine⟨k1,u,v.take o'++ys++v.drop (o'+ys.length),?_,h1,k2⟩
     rw[List.take_append,List.take_of_length_le (by omega),List.drop_append,List.drop_of_length_le (by omega),show a.size+o'-u.length=o' by omega,show a.size+o'+ys.length-u.length=o'+ys.length by omega]
     simp[List.append_assoc]
   |idx i=>simp only[setV,reduceCtorEq]at hg
 |arr n e ih=>
  intro x p us t' y z o t2 ys hr hg ho hy
  cases p with
  |nil=>exact nil hr hg ho hy
  |cons s p=>
   cases s with
   |fld i=>simp only[setV,reduceCtorEq]at hg
   |idx i=>
    simp only[setV,offV]at hg ho
    rw[n_setV,Option.bind_eq_some_iff]at hg
    obtain⟨q,hq,hg⟩:=hg
    injection hg with hg;subst hg
    split at ho
    ·rename_i hi
     simp only[Option.map_eq_some_iff]at ho
     obtain⟨⟨o',t3⟩,ho,he⟩:=ho
     injection he with he1 he2
     dsimp only at he1 he2
     subst he1 he2
     simp only[RelC]at hr⊢
     have hx:(x:Vector (Val e) n)[i]?.getD e.zero=(x:Vector (Val e) n)[i]:=by simp[hi]
     rw[hx]at hq
     have hrow:=RowR.get (fun _ _ k=>RelC.length k) hr (i:=i) (x:=(x:Vector (Val e) n)[i]) (by simp[hi])
     obtain⟨k1,k2⟩:=ih hrow hq ho hy
     have hlen:=RowR.length (fun _ _ k=>RelC.length k) hr
     simp only[Vector.length_toList]at hlen
     have hle:i*e.size+e.size<=us.length:=by rw[hlen,←Nat.succ_mul];exact Nat.mul_le_mul_right _ hi
     have hoe:=offV_le ho
     rw[k1,←hy.length]at hoe
     refine⟨k1,?_⟩
     have:=RowR.set (fun _ _ k=>RelC.length k) hr k2 (i:=i) (by simpa using hi)
     rw[splice_in hoe hle]at this
     rw[show i*e.size+o'+ys.length=i*e.size+o'+ys.length from rfl]
     simpa using this
    ·cases ho
 |_=>
  intro x p us t' y z o t2 ys hr hg ho hy
  cases p with
  |nil=>exact nil hr hg ho hy
  |cons s p=>simp only[setV,reduceCtorEq]at hg
theorem kill_mem{s s':Stat}{t:Ty}{x z:Val t}:ExtE (Ent.mem s false t x).kill (.mem s' false t z):=⟨s',z,rfl⟩
theorem kill_row{s s':Stat}{e:Ty}{x z:Val (.sl e)}(h:(z:List (Val e)).length=(x:List (Val e)).length):ExtE (Ent.mem s true (.sl e) x).kill (.mem s' true (.sl e) z):=⟨s',z,rfl,h⟩
theorem Keep.of_wrote{B:Nat}{M:Nat->Prop}{w w':World}(hw:Wrote B w w')(hB:M B):Keep M w w':=⟨by rw[hw.size];exact Nat.le_refl _,fun C _ hn=>hw.other C (fun q=>hn (q▸hB))⟩
theorem HRel.putE{b:Nat}{e:Ent}(hs:HRel P H L w M)(hr:(hget H b).rw)(hnil:(L b).nil=false){H':Heap}{M':Nat->Prop}(hl:Lent (hkill H b) H')(hs':HRel P H' L w M')(st:Step (hkill H b) L w M H' L w M')
 (hx:ExtE (hget H b).kill e) (hre:e.rw) {w':World} (hw:Wrote (L b).blk w w') {vs:Array Value} {el:TypeId} {fz:Nat×Nat} (hnew:w'.heap[(L b).blk]?=some (.cells vs el fz)) (hvs:vs.size=(L b).sz)
 (hfz: ∀o,o<(L b).sz->(decide (fz.1<=o)&&decide (o<fz.2))=false) (ho: ∀v∈vs.toList,one1 v=true)
 (hent:M' (L b).blk-> ∀H'' L'',Keep M' w w'->Ext H' L H'' L''->EntR P H'' L'' w' M' (L b) e):HRel P (hset H' b e) L w' M'∧Step H L w M (hset H' b e) L w' M':=by
 have hb:b<H.length:=hget_lt (live_ne (rw_live hr))
 obtain⟨ks,kst⟩:=hs.kill (rw_live hr)
 have hkl:(hkill H b).length=H.length:=by unfold hkill;rw[hset_length]
 have hb':b<H'.length:=by rw[hl.len,hkl];exact hb
 have hgk:hget (hkill H b) b=(hget H b).kill:=by unfold hkill;rw[hget_hset,if_pos ⟨rfl,hb⟩]
 have nrw: ¬(hget (hkill H b) b).rw:=by
  rw[hgk];intro q
  cases hg:hget H b with
  |mem s row t x=>rw[hg]at q;exact q
  |cell s x=>rw[hg]at q;exact q
  |cells s z x=>rw[hg]at q;exact q
  |gone=>rw[hg]at q;exact q
 have nlv: ¬(hget (hkill H b) b).live:=by
  rw[hgk];intro q
  cases hg:hget H b with
  |mem s row t x=>rw[hg]at q;exact q
  |cell s x=>rw[hg]at q;exact q
  |cells s z x=>rw[hg]at q;exact q
  |gone=>rw[hg]at q;exact q
 have hgb:hget H' b=(hget H b).kill:=by rw[hl.same nrw,hgk]
 have oldlive: ∀c,(hget H' c).live->c≠b∧(hget H c).live:=by
  intro c hc
  have h1:=hl.live hc
  have hcb:c≠b:=fun q=>nlv (q▸h1)
  refine⟨hcb,?_⟩
  unfold hkill at h1
  rwa[hget_hset,if_neg (fun q=>hcb q.1)]at h1
 have oldrw: ∀c,(hget H' c).rw->c≠b∧(hget H c).rw:=by
  intro c hc
  have h1:=hl.rw hc
  have hcb:c≠b:=fun q=>nrw (q▸h1)
  refine⟨hcb,?_⟩
  unfold hkill at h1
  rwa[hget_hset,if_neg (fun q=>hcb q.1)]at h1
 have own:=hs.own b hr hnil
 have hblt:(L b).blk<w.heap.size:=hs.mlt _ own.1
 have hM':M' (L b).blk:=by
  refine((st.frame _ hblt (fun c hc hn he=> ?_)).2).2 own.1
  have hcb:c≠b:=fun q=>nrw (q▸hc)
  unfold hkill at hc
  rw[hget_hset,if_neg (fun q=>hcb q.1)]at hc
  exact hs.apart b c hcb.symm hr (rw_live hc) hnil hn he.symm
 have hk:Keep M' w w':=Keep.of_wrote hw hM'
 have hLL:updL L b (L b)=L:=by funext c;unfold updL;split<;>simp_all
 have hext:=ext_upd (L:=L) (l:=L b) hb' (hgb▸hx) (fun _=>rfl)
 rw[hLL]at hext
 constructor
 ·have:=hs'.upd (l:=L b) (M':=M') hb' (hgb▸hx) (fun _=>rfl) hk (fun _ _ q=>q) (fun B q=>by rw[hw.size];exact hs'.mlt B q)
   (fun c hc hlv hnl=>⟨hw.other _ (fun q=>by
    obtain⟨_,h2⟩:=oldlive c hlv
    exact hs.apart b c hc.symm hr h2 hnil hnl q.symm),fun hr'=>(hs'.own c hr' hnl).1⟩)
   (fun _=>by rw[hLL];exact hent hM' _ _ hk hext) (fun _ _=>⟨hM',own.2.1,vs,el,fz,hnew,hvs,hfz,ho⟩) (fun hf=>by
    unfold Ent.frz at hf;unfold Ent.rw at hre
    split at hre
    ·rename_i hs;rw[hs]at hf;exact hf.elim
    ·exact hre.elim)
   (fun _ _ c hc hlv hnl=>hs.apart b c hc.symm hr (oldlive c hlv).2 hnil hnl) (fun _ _ c hc hr' hnl=>hs.apart c b hc (oldrw c hr').2 (rw_live hr) hnl hnil)
  rwa[hLL]at this
 ·refine⟨by rw[hw.size];exact Nat.le_refl _,hw.os,hw.tape,hw.output,fun B hB hn=> ?_,fun B hB q=>st.m B hB q,kst.ext.trans (st.ext.trans hext),fun c hc hnl _=> ?_⟩
  ·refine⟨hw.other B (fun q=>hn b hr hnil q.symm),(st.frame B hB (fun c hc hcn he=> ?_)).2⟩
   have hcb:c≠b:=fun q=>nrw (q▸hc)
   unfold hkill at hc
   rw[hget_hset,if_neg (fun q=>hcb q.1)]at hc
   exact hn c hc hcn he
  ·rw[hget_hset]at hc
   split at hc
   ·rename_i q;exact⟨b,hr,hnil,by rw[q.1]⟩
   ·exact⟨c,(oldrw c hc).2,hnl,rfl⟩
theorem cells_one{v:Value}(h:one1 v=true):v.cells.toList=[v]:=by cases v<;>first|rfl|cases h
theorem set_ent{b:Nat}{row:Bool}{t t':Ty}{x z:Val t}{p:List Stp}{y:Val t'}{o:Nat}(hs:HRel P H L w M)(hb:hget H b= .mem .rw row t x)(ho:offE (.mem .rw row t x) p=some (o,t'))(hset:setM row t x p t' y some=some z):
 (L b).nil=false∧ExtE (Ent.mem .rw row t x).kill (.mem .rw row t z)∧ ∃us,CellsAt w (L b).blk 0 us∧o+t'.size<=us.length∧us.length<=(L b).sz∧
  ∀(w0:World) (M0:Nat->Prop),Keep M w w0->(∀B,B<w.heap.size->M0 B->M B)-> ∀ys,RelC w0 M0 t' y ys->CellsAt w0 (L b).blk 0 (us.take o++ys++us.drop (o+ys.length))-> ∀H'' L'',EntR P H'' L'' w0 M0 (L b) (.mem .rw row t z):=by
 have hrw:(hget H b).rw:=by rw[hb];trivial
 have hent:=hs.ent b (rw_live hrw)
 rw[hb]at hent
 cases row with
 |false=>
  simp only[EntR]at hent
  obtain⟨h0,h1,h2,us,h3,h4⟩:=hent
  have hoff:=(hs.own b hrw h0).2.1
  rw[hoff]at h3
  simp only[offE]at ho
  simp only[setM]at hset
  have hle:=offV_le ho
  have hl:=h4.length
  refine⟨h0,kill_mem,us,h3,by omega,by omega,fun w0 M0 hk hM ys hy hc H'' L''=> ?_⟩
  obtain⟨_,k⟩:=setV_ok (h4.mono hk hM) hset ho hy
  exact⟨h0,Nat.lt_of_lt_of_le h1 hk.size,h2,_,by rw[hoff];exact hc,k⟩
 |true=>
  cases t with
  |sl e=>
   cases p with
   |nil=>simp only[offE,reduceCtorEq]at ho
   |cons q p=>
    cases q with
    |fld i=>simp only[offE,reduceCtorEq]at ho
    |idx i=>
     simp only[offE]at ho
     split at ho
     ·rename_i hi
      simp only[Option.map_eq_some_iff]at ho
      obtain⟨⟨o',t2⟩,ho,he⟩:=ho
      injection he with he1 he2
      dsimp only at he1 he2
      subst he1 he2
      simp only[EntR]at hent
      rcases hent with⟨_,h1⟩|⟨h0,h1,h2,h3,us,h4,h5⟩
      ·rw[h1]at hi;cases hi
      ·simp only[setM]at hset
       have hx:List.getD (x:List (Val e)) i e.zero=(x:List (Val e))[i]:=by simp[List.getD,hi]
       rw[hx,n_setV,Option.bind_eq_some_iff]at hset
       obtain⟨q,hq,hset⟩:=hset
       injection hset with hset;subst hset
       have hlen:=RowR.length (fun _ _ k=>RelC.length k) h5
       have hle:i*e.size+e.size<=us.length:=by rw[hlen,←Nat.succ_mul];exact Nat.mul_le_mul_right _ hi
       have hoe:=offV_le ho
       refine⟨h0,kill_row (by simp),us,h4,by omega,by omega,fun w0 M0 hk hM ys hy hc H'' L''=> ?_⟩
       have h5':=RowR.mono (fun _ _ q=>RelC.mono hk hM q) h5
       have hrow:=RowR.get (fun _ _ k=>RelC.length k) h5' (i:=i) (x:=(x:List (Val e))[i]) (by simp[hi])
       obtain⟨_,k⟩:=setV_ok hrow hq ho hy
       rw[←hy.length]at hoe
       have:=RowR.set (fun _ _ k=>RelC.length k) h5' k (i:=i) hi
       rw[splice_in hoe hle]at this
       refine .inr ⟨h0,Nat.lt_of_lt_of_le h1 hk.size,h2,by rw[List.length_set];exact h3,_,hc,this⟩
     ·cases ho
  |_=>exact hent.elim
theorem cellD_ok{y:DV}{v:Value}(h:cellD y=true)(r:RelD P H L w M y v):one1 v=true:=by
 cases r with
 | @v t x v hr=>
  cases t with
  |unit=>cases h
  |pair=>cases h
  |arr=>cases h
  |_=>exact RelC.one (us:=[v]) hr v (by simp)
 |own h1 q=>rcases q with⟨_,_,rfl⟩|⟨_,_,_,rfl,_⟩<;>rfl
 |ownc h1 q=>obtain⟨_,_,_,rfl,_⟩:=q;rfl
 |agg=>cases h
 |tup=>cases h
 |undef=>cases h
 |skp=>cases h
 |_=>rfl
theorem run_storeAt{T:TypeId}{B o:Nat}{v:Value}{w':World}{ys:List Value}(hy:v.cells.toList=ys)(hn:tsz P T=some ys.length)(hr:(storeCells ⟨B,o,none⟩ ys).run P w= .ok () w'):(Instr.storeAt T (.pointer (some ⟨B,o,none⟩)) v).run P w= .ok () w':=by
 have hsz: ¬(v.cells.size≠ys.length):=by rw[←hy];simp
 simp only[Instr.storeAt,Instr.sureAddr,Sem.run_bind,Sem.run_pure,Result.andThen_ok,storeVar,run_sizeOf hn,if_neg hsz,hy,hr]
theorem store_ok{C:Ctx}(hC:CtxTy P C){T:TypeId}{a y:DV}{H2:Heap}{va vy:Value}(hs:HRel P H L w M)(ht:tyP C H T a=true)(h:store H a y some=some H2)(ra:RelD P H L w M a va)(ry:RelD P H L w M y vy):
 ∃w' M',(Instr.storeAt T va vy).run P w= .ok () w'∧HRel P H2 L w' M'∧Step H L w M H2 L w' M':=by
 unfold store at h
 split at h
 case h_2=>cases h
 rename_i b p
 split at h
 ·rename_i row t x hb
  split at h
  case h_2=>cases h
  rename_i t' hty
  rw[n_asVH,Option.bind_eq_some_iff]at h
  obtain⟨⟨z0,H'⟩,hz,h⟩:=h
  rw[n_setM,Option.bind_eq_some_iff]at h
  obtain⟨z,hset,h⟩:=h
  injection h with h;subst h
  have hrw:(hget H b).rw:=by rw[hb];trivial
  cases ra with
  |ptrc hc=>rw[hb]at hc;cases hc
  |ptrx hc=>rw[hb]at hc;cases hc
  | @ptr _ _ o t2 ho=>
   have hT:=tyP_ptr ht ho
   have hty':=tyH_off ho
   unfold tyH at hty'
   rw[hb]at hty'
   simp only at hty'
   rw[hty]at hty'
   injection hty' with hty';subst hty'
   obtain⟨ks,kst⟩:=hs.kill (rw_live hrw)
   obtain⟨M',hs',st,hl,hr⟩:=asVH_ok ks hz (ry.step hs kst)
   have hr:RelC w M' t' z0 vy.cells.toList:=(hr.mono (Keep.refl _ _) (fun B _ q=>⟨rfl,q⟩)).cells
   rw[hb]at ho
   obtain⟨hnil,hx,us,c1,c2,c3,c4⟩:=set_ent hs hb ho hset
   obtain⟨hbM,hoff,vs,el,fz,hblk,hsz,hfz,hone⟩:=hs.own b hrw hnil
   have hyl:=hr.length
   obtain⟨w',c',d1,d2,d3,d4⟩:=storeCells_ok (P:=P) (L b).blk o el fz vy.cells.toList 0 vs w hblk (by omega) (hr.one) (fun i hi=>hfz i (by omega))
   rw[Nat.add_zero]at d3
   have hcs:c'.size=vs.size:=by have:=congrArg List.length d3;simp at this;simp at hyl;omega
   obtain⟨rest,hrest⟩:=cells_prefix hblk c1
   obtain⟨m1,m2⟩:=hs.putE hrw hnil hl hs' st (e:= .mem .rw row t z) (by rw[hb];exact hx) trivial d4 d2 (by omega) hfz (fun v hv=>by
    rw[d3]at hv
    simp only[List.mem_append]at hv
    rcases hv with(hv|hv)|hv
    ·exact hone v (List.mem_of_mem_take hv)
    ·exact hr.one v hv
    ·exact hone v (List.mem_of_mem_drop hv)) (fun hM' H'' L'' hk _=>c4 w' M' (Keep.of_wrote d4 hbM) st.m vy.cells.toList (hr.mono hk (fun _ _ q=>q)) (cells_of (rest:=rest) d2 (by rw[d3,hrest,splice_pre (by omega)])) H'' L'')
   refine⟨w',M',?_,m1,m2⟩
   rw[hoff,Nat.zero_add]
   exact run_storeAt rfl (by rw[hyl];exact(hC.ty T _ hT).1.base.sz) d1
 ·rename_i x hb
  split at h
  case h_2=>cases h
  cases hcd:cellD y with
  |false=>rw[hcd]at h;cases h
  |true=>
   rw[hcd]at h
   simp only[cond_true,Option.some.injEq]at h
   subst h
   have hrw:(hget H b).rw:=by rw[hb];trivial
   cases ra with
   |ptr ho=>rw[hb]at ho;simp only[offE,reduceCtorEq]at ho
   |ptrc hc=>
    have hT:=hC.cell T (tyP_ptrc ht hb)
    have ho:=cellD_ok hcd ry
    have hent:=hs.ent b (rw_live hrw)
    rw[hb]at hent
    obtain⟨e0,e1,e2,u,e3,e4,e5⟩:=hent
    obtain⟨hbM,hoff,vs,el,fz,hblk,hsz,hfz,hone⟩:=hs.own b hrw e0
    obtain⟨w',c',d1,d2,d3,d4⟩:=storeCells_ok (P:=P) (L b).blk 0 el fz [vy] 0 vs w hblk (by simp;omega) (by simpa using ho) (fun i hi=>hfz i (by omega))
    simp only[Nat.zero_add,List.take_zero,List.nil_append,List.length_singleton]at d3
    have hcs:c'.size=vs.size:=by have:=congrArg List.length d3;simp at this;omega
    obtain⟨m1,m2⟩:=hs.write hrw e0 (e:= .cell .rw y) (by rw[hb];exact⟨_,_,rfl⟩) trivial d4.size d4.os d4.tape d4.output d4.other d2 (by omega) hfz (fun v hv=>by
     rw[d3]at hv
     simp only[List.singleton_append,List.mem_cons]at hv
     rcases hv with hv|hv
     ·rw[hv];exact ho
     ·exact hone v (List.mem_of_mem_drop hv)) (fun H'' L'' hk hext=>⟨e0,by rw[d4.size];exact e1,e2,vy,by
      rw[hoff,cell?_cells d2,←Array.getElem?_toList,d3];rfl,ho,ry.mono hk (fun _ _ q=>q) hext⟩)
    refine⟨w',M,?_,m1,m2⟩
    rw[hoff]
    exact run_storeAt (cells_one ho) hT.sz d1
 ·cases h
end
end Ev
end
section
namespace Ev
open Go
section
variable {P : Program} {H : Heap} {L : Nat -> Loc} {w : World} {M : Nat -> Prop}
def DoneV(P:Program)(s:Sem Value)(H:Heap)(L:Nat->Loc)(w:World)(M:Nat->Prop)(H':Heap)(x:DV):Prop:=
 ∃v w' L' M',s.run P w= .ok v w'∧RelD P H' L' w' M' x v∧HRel P H' L' w' M'∧Step H L w M H' L' w' M'
theorem DoneV.done{s:Sem Value}{H':Heap}{x:DV}(h:DoneV P s H L w M H' x):Done P (do pure (.value (←s))) H L w M H' x:=by
 obtain⟨v,w',L',M',h1,h2,h3,h4⟩:=h
 exact⟨.value v,w',L',M',v,by simp only[Sem.run_bind,h1,Result.andThen_ok,Sem.run_pure], .inl rfl,h2,h3,h4⟩
theorem Step.same{w':World}(hh:w'.heap=w.heap)(ho:w'.os=w.os)(ht:w'.tape=w.tape)(hu:w'.output=w.output):Step H L w M H L w' M:=
 ⟨by rw[hh];exact Nat.le_refl _,ho,ht,hu,fun B _ _=>⟨by rw[hh],Iff.rfl⟩,fun _ _ q=>q,Ext.refl _ _,fun b h1 h2 _=>⟨b,h1,h2,rfl⟩⟩
theorem HRel.same{w':World}(hs:HRel P H L w M)(hh:w'.heap=w.heap):HRel P H L w' M:=by
 have hk:Keep M w w':=⟨by rw[hh];exact Nat.le_refl _,fun B _ _=>by rw[hh]⟩
 refine⟨fun b hb=>(hs.ent b hb).mono hk (fun _ _ q=>q) (Ext.refl _ _) (fun _=>by rw[hh]),fun b hb hn=> ?_,hs.frz,hs.apart,fun B q=>by rw[hh];exact hs.mlt B q⟩
 obtain⟨h1,h2,vs,el,fz,h3⟩:=hs.own b hb hn
 exact⟨h1,h2,vs,el,fz,by rw[hh];exact h3⟩
theorem lt_of_block{B:Nat}{o:Obj}(h:w.heap[B]?=some o):B<w.heap.size:=by
 rcases Nat.lt_or_ge B w.heap.size with q|q
 ·exact q
 ·rw[Array.getElem?_eq_none q]at h;cases h
theorem new_obj{nm:Nat}{t:Ty}{x:Val t}{vs:Array Value}(hs:HRel P H L w M)(hn:nm<H.length)(hg:hget H nm= .gone)(el:TypeId)(hr:RelC w M t x vs.toList):
 ∃L' M',RelD P (hset H nm (.mem .rw false t x)) L' (w.alloc (.cells vs el)) M' (.ptr nm []) (.pointer (some ⟨w.heap.size,0,none⟩))∧HRel P (hset H nm (.mem .rw false t x)) L' (w.alloc (.cells vs el)) M'∧Step H L w M (hset H nm (.mem .rw false t x)) L' (w.alloc (.cells vs el)) M':=by
 have hl:=hr.length
 simp only[Array.length_toList]at hl
 obtain⟨h1,h2⟩:=hs.new (e:= .mem .rw false t x) hn hg trivial el (0,0) (n:=t.size) hl (fun o _=>by simp) hr.one (fun w' M' H' L' hk hM hext hb=>⟨rfl,lt_of_block hb,rfl,vs.toList,cells_of (rest:=[]) hb (by simp),hr.mono hk hM⟩)
 refine⟨_,_,?_,h1,h2⟩
 have hge:hget (hset H nm (.mem .rw false t x)) nm= .mem .rw false t x:=by rw[hget_hset,if_pos ⟨rfl,hn⟩]
 have:=RelD.ptr (P:=P) (L:=updL L nm ⟨w.heap.size,0,t.size,false⟩) (w:=w.alloc (.cells vs el)) (M:=fun B=>M B∨B=w.heap.size) (H:=hset H nm (.mem .rw false t x)) (b:=nm) (p:=[]) (o:=0) (t:=t) (by rw[hge];exact offV_nil)
 rw[updL_same]at this
 exact this
theorem new_cell{nm:Nat}{x:DV}{v:Value}{vs:Array Value}(hs:HRel P H L w M)(hn:nm<H.length)(hg:hget H nm= .gone)(el:TypeId)(hv:vs.toList=[v])(ho:one1 v=true)(hr:RelD P H L w M x v):
 ∃L' M',RelD P (hset H nm (.cell .rw x)) L' (w.alloc (.cells vs el)) M' (.ptr nm []) (.pointer (some ⟨w.heap.size,0,none⟩))∧HRel P (hset H nm (.cell .rw x)) L' (w.alloc (.cells vs el)) M'∧Step H L w M (hset H nm (.cell .rw x)) L' (w.alloc (.cells vs el)) M':=by
 have hl:vs.size=1:=by have:=congrArg List.length hv;simpa using this
 obtain⟨h1,h2⟩:=hs.new (e:= .cell .rw x) hn hg trivial el (0,0) (n:=1) hl (fun o _=>by simp) (by rw[hv];simpa using ho) (fun w' M' H' L' hk hM hext hb=>⟨rfl,lt_of_block hb,rfl,v,by
  show w'.cell? ⟨w.heap.size,0,none⟩=_
  rw[cell?_cells hb,←Array.getElem?_toList,hv];rfl,ho,hr.mono hk hM hext⟩)
 refine⟨_,_,?_,h1,h2⟩
 have hge:hget (hset H nm (.cell .rw x)) nm= .cell .rw x:=by rw[hget_hset,if_pos ⟨rfl,hn⟩]
 have:=RelD.ptrc (P:=P) (L:=updL L nm ⟨w.heap.size,0,1,false⟩) (w:=w.alloc (.cells vs el)) (M:=fun B=>M B∨B=w.heap.size) (H:=hset H nm (.cell .rw x)) (b:=nm) hge
 rw[updL_same]at this
 exact this
theorem new_row{nm:Nat}{e:Ty}{l:List (Val e)}{vs:Array Value}{us rest:List Value}{cap:Nat}(hs:HRel P H L w M)(hn:nm<H.length)(hg:hget H nm= .gone)(el:TypeId)(fz:Nat×Nat)(hfz: ∀o,o<vs.size->(decide (fz.1<=o)&&decide (o<fz.2))=false)
 (hv:vs.toList=us++rest) (hr:RowR (fun y u=>RelC w M e y u) l us) (ho: ∀v∈vs.toList,one1 v=true) (hc:l.length<=cap) (hsz:cap*e.size<=vs.size):
 ∃L' M',RelD P (hset H nm (.mem .rw true (.sl e) l)) L' (w.alloc (.cells vs el fz)) M' (.own nm) (.slice (some ⟨w.heap.size,0,none⟩) l.length cap)∧HRel P (hset H nm (.mem .rw true (.sl e) l)) L' (w.alloc (.cells vs el fz)) M'∧Step H L w M (hset H nm (.mem .rw true (.sl e) l)) L' (w.alloc (.cells vs el fz)) M':=by
 have hle:l.length*e.size<=cap*e.size:=Nat.mul_le_mul_right _ hc
 obtain⟨h1,h2⟩:=hs.new (e:= .mem .rw true (.sl e) l) hn hg trivial el fz (n:=vs.size) rfl hfz ho (fun w' M' H' L' hk hM hext hb=> .inr ⟨rfl,lt_of_block hb,rfl,Nat.le_trans hle hsz,us,cells_of (rest:=rest) hb hv,RowR.mono (fun _ _ q=>RelC.mono hk hM q) hr⟩)
 refine⟨_,_,?_,h1,h2⟩
 have hge:hget (hset H nm (.mem .rw true (.sl e) l)) nm= .mem .rw true (.sl e) l:=by rw[hget_hset,if_pos ⟨rfl,hn⟩]
 refine .own hge ?_
 rw[updL_same]
 exact .inr ⟨rfl,rfl,cap,rfl,hc,hsz⟩
theorem new_rowx{nm n:Nat}{e:Ty}{l:List (Val e)}{vs:Array Value}{us:List Value}(hs:HRel P H L w M)(hn:nm<H.length)(hg:hget H nm= .gone)(el:TypeId)(fz:Nat×Nat)(hfz: ∀o,o<vs.size->(decide (fz.1<=o)&&decide (o<fz.2))=false)
 (hv:vs.toList=us++[]) (hr:RowR (fun y u=>RelC w M e y u) l us) (ho: ∀v∈vs.toList,one1 v=true) (hc:n<=l.length) (hsz:l.length*e.size<=vs.size):
 ∃L' M',RelD P (hset H nm (.mem .rw true (.sl e) l)) L' (w.alloc (.cells vs el fz)) M' (.winx nm n) (.slice (some ⟨w.heap.size,0,none⟩) n l.length)∧HRel P (hset H nm (.mem .rw true (.sl e) l)) L' (w.alloc (.cells vs el fz)) M'∧Step H L w M (hset H nm (.mem .rw true (.sl e) l)) L' (w.alloc (.cells vs el fz)) M':=by
 obtain⟨L',M',g1,g2,g3⟩:=new_row (cap:=l.length) hs hn hg el fz hfz hv hr ho (Nat.le_refl _) hsz
 refine⟨L',M',?_,g2,g3⟩
 cases g1 with
 | @own _ s e' l' _ hb q=>
  have hge:hget (hset H nm (.mem .rw true (.sl e) l)) nm= .mem .rw true (.sl e) l:=by rw[hget_hset,if_pos ⟨rfl,hn⟩]
  rcases q with⟨_,_,q3⟩|⟨q1,q2,cap,q3,q4,q5⟩
  ·cases q3
  ·injection q3 with q3 _
   injection q3 with q3
   rw[q3]
   exact .winx (l:=l) hge q1 q2 hc
 |ownc hb _=>rw[hget_hset,if_pos ⟨rfl,hn⟩]at hb;cases hb
theorem new_nil{nm:Nat}{e:Ty}(hs:HRel P H L w M)(hn:nm<H.length)(hg:hget H nm= .gone):
 ∃L' M',RelD P (hset H nm (.mem .rw true (.sl e) ([]:List (Val e)))) L' w M' (.own nm) (.slice none 0 0)∧HRel P (hset H nm (.mem .rw true (.sl e) ([]:List (Val e)))) L' w M'∧Step H L w M (hset H nm (.mem .rw true (.sl e) ([]:List (Val e)))) L' w M':=by
 have hx:ExtE (hget H nm) (.mem .rw true (.sl e) ([]:List (Val e))):=by rw[hg];trivial
 have hl:hget H nm≠ .gone->(⟨0,0,0,true⟩:Loc)=L nm:=fun q=>absurd hg q
 have hge:hget (hset H nm (.mem .rw true (.sl e) ([]:List (Val e)))) nm= .mem .rw true (.sl e) ([]:List (Val e)):=by rw[hget_hset,if_pos ⟨rfl,hn⟩]
 refine⟨updL L nm ⟨0,0,0,true⟩,M,?_,?_,?_⟩
 ·refine .own hge ?_
  rw[updL_same]
  exact .inl ⟨rfl,rfl,rfl⟩
 ·exact hs.upd hn hx hl (Keep.refl _ _) (fun _ _ q=>q) hs.mlt (fun c _ _ hnl=>⟨rfl,fun hr=>(hs.own c hr hnl).1⟩) (fun _=> .inl ⟨rfl,rfl⟩) (fun _ q=>by cases q) (fun q=>q.elim) (fun _ q=>by cases q) (fun _ q=>by cases q)
 ·refine⟨Nat.le_refl _,rfl,rfl,rfl,fun _ _ _=>⟨rfl,Iff.rfl⟩,fun _ _ q=>q,ext_upd hn hx hl,fun c hc hnl _=> ?_⟩
  by_cases hcb:c=nm
  ·subst hcb;rw[updL_same]at hnl;cases hnl
  ·rw[hget_hset,if_neg (fun q=>hcb q.1)]at hc
   rw[updL_ne _ _ hcb]at hnl⊢
   exact⟨c,hc,hnl,rfl⟩
theorem run_newVar{T:TypeId}{v:Value}:(newVar T v).run P w= .ok ⟨w.heap.size,0,none⟩ (w.alloc (.cells v.cells T)):=by simp[newVar,newRow]
theorem run_newRow{T:TypeId}{vs:Array Value}:(newRow T vs).run P w= .ok ⟨w.heap.size,0,none⟩ (w.alloc (.cells vs T)):=by simp[newRow]
theorem alloc_ok{C:Ctx}(hC:CtxTy P C){T:TypeId}{nm:Nat}(hs:HRel P H L w M)(hn:nm<H.length)(hg:hget H nm= .gone){t:Ty}(hT:C.ty T=some t):
 DoneV P (Instr.alloc T true (.tuple #[])) H L w M (hset H nm (.mem .rw false t t.zero)) (.ptr nm []):=by
 obtain⟨z,hz,hzc⟩:=run_zeroValue (P:=P) (w:=w) (hC.ty T t hT).1.base.zero
 obtain⟨L',M',h1,h2,h3⟩:=new_obj (x:=t.zero) (vs:=z.cells) hs hn hg T (by rw[hzc];exact zero_rel w M t)
 exact⟨_,_,L',M',by simp only[Instr.alloc,Sem.run_bind,hz,Result.andThen_ok,run_newVar,Sem.run_pure],h1,h2,h3⟩
theorem alloc_cell{C:Ctx}(hC:CtxTy P C){T:TypeId}{nm:Nat}(hs:HRel P H L w M)(hn:nm<H.length)(hg:hget H nm= .gone)(hT:C.cell T=true):
 DoneV P (Instr.alloc T true (.tuple #[])) H L w M (hset H nm (.cell .rw .undef)) (.ptr nm []):=by
 obtain⟨z,hz,ho⟩:=(hC.cell T hT).zero
 obtain⟨zv,hzv,hzc⟩:=run_zeroValue (P:=P) (w:=w) hz
 obtain⟨L',M',h1,h2,h3⟩:=new_cell (x:= .undef) (vs:=zv.cells) hs hn hg T hzc ho .undef
 exact⟨_,_,L',M',by simp only[Instr.alloc,Sem.run_bind,hzv,Result.andThen_ok,run_newVar,Sem.run_pure],h1,h2,h3⟩
theorem box_ok{T:TypeId}{nm:Nat}{t:Ty}{x:DV}{y:Val t}{H1:Heap}{v:Value}(hs:HRel P H L w M)(hn:nm<H.length)(hg:hget H nm= .gone)(h:asVH H false t x (fun y H=>some (y,H))=some (y,H1))(r:RelD P H L w M x v):
 DoneV P (Instr.box T v) H L w M (hset H1 nm (.mem .rw false t y)) (.ptr nm []):=by
 obtain⟨M1,hs1,st,hl,hr⟩:=asVH_ok hs h r
 have hr:RelC w M1 t y v.cells.toList:=(hr.mono (Keep.refl _ _) (fun B _ q=>⟨rfl,q⟩)).cells
 have hg1:hget H1 nm= .gone:=by rw[hl.same (by rw[hg];exact id),hg]
 obtain⟨L',M',h1,h2,h3⟩:=new_obj (vs:=v.cells) hs1 (by rw[hl.len];exact hn) hg1 T hr
 exact⟨_,_,L',M',by simp only[Instr.box,Sem.run_bind,Result.andThen_ok,run_newVar,Sem.run_pure],h1,h2,st.trans h3⟩
theorem box_cell{T:TypeId}{nm:Nat}{x:DV}{v:Value}(hs:HRel P H L w M)(hn:nm<H.length)(hg:hget H nm= .gone)(hx:cellD x=true)(r:RelD P H L w M x v):
 DoneV P (Instr.box T v) H L w M (hset H nm (.cell .rw x)) (.ptr nm []):=by
 have ho:=cellD_ok hx r
 obtain⟨L',M',h1,h2,h3⟩:=new_cell (vs:=v.cells) hs hn hg T (cells_one ho) ho r
 exact⟨_,_,L',M',by simp only[Instr.box,Sem.run_bind,Result.andThen_ok,run_newVar,Sem.run_pure],h1,h2,h3⟩
def PartsR(P:Program)(H:Heap)(L:Nat->Loc)(w:World)(M:Nat->Prop):List (Nat×DV)->List (Nat×Value)->Prop
 |[],[]=>True
 |p::ps,q::qs=>p.1=q.1∧RelD P H L w M p.2 q.2∧PartsR P H L w M ps qs
 |_,_=>False
theorem PartsR.step{H1:Heap}{L1:Nat->Loc}{w1:World}{M1:Nat->Prop}(hs:HRel P H L w M)(st:Step H L w M H1 L1 w1 M1): ∀ {ps:List (Nat×DV)} {qs:List (Nat×Value)},PartsR P H L w M ps qs->PartsR P H1 L1 w1 M1 ps qs
 |[],[],_=>trivial
 |p::ps,q::qs,⟨h1,h2,h3⟩=>⟨h1,h2.step hs st,h3.step hs st⟩
 |[],_::_,h=>h.elim
 |_::_,[],h=>h.elim
theorem foldl_set(vs:List Value): ∀(off k:Nat) (cells:Array Value),off+k+vs.length<=cells.size->
 ((vs.zipIdx k).foldl (fun(cs:Array Value) (c,j)=>cs.setIfInBounds (off+j) c) cells).toList=cells.toList.take (off+k)++vs++cells.toList.drop (off+k+vs.length):=by
 induction vs with
 |nil=>intro off k cells _;simp
 |cons v vs ih=>
  intro off k cells hle
  simp only[List.length_cons]at hle
  simp only[List.zipIdx_cons,List.foldl_cons]
  rw[ih off (k+1) _ (by simp;omega)]
  simp only[Array.toList_setIfInBounds,List.length_cons]
  rw[List.take_set,List.drop_set_of_lt (by omega)]
  have h1:off+(k+1)=off+k+1:=by omega
  rw[h1,List.take_add_one,List.set_append_right _ _ (by simp;omega)]
  have:(List.take (off+k) cells.toList).length=off+k:=by simp;omega
  rw[this,Nat.sub_self]
  have hget:cells.toList[off+k]?=some (cells.toList[off+k]'(by simp;omega)):=List.getElem?_eq_getElem _
  rw[hget]
  simp[Nat.add_assoc,Nat.add_comm 1]
theorem fill_step(place:Nat->Option (Nat×Nat)){i off size:Nat}{v:Value}{qs:List (Nat×Value)}{cv:Array Value}(hp:place i=some (off,size))(hv:v.cells.toList.length=size)(hle:off+size<=cv.size):
 ∃cv':Array Value,Instr.fill place cv ((i,v)::qs)=Instr.fill place cv' qs∧cv'.toList=cv.toList.take off++v.cells.toList++cv.toList.drop (off+v.cells.toList.length)∧cv'.size=cv.size:=by
 have hvs:v.cells.size=size:=by simpa using hv
 have hfold:=foldl_set v.cells.toList off 0 cv (by simp;omega)
 have hz:v.cells.zipIdx=(v.cells.toList.zipIdx 0).toArray:=by apply Array.ext';simp
 refine⟨v.cells.zipIdx.foldl (fun cs (c,j)=>cs.setIfInBounds (off+j) c) cv,?_,?_,?_⟩
 ·simp only[Instr.fill,hp]
  rw[if_neg (by simp;omega)]
 ·rw[hz,List.foldl_toArray,hfold];rfl
 ·have:=congrArg List.length hfold
  rw[hz,List.foldl_toArray,←Array.length_toList,this]
  simp;omega
theorem buildS_ok(place:Nat->Option (Nat×Nat)){t:Ty}(hp: ∀i o t',offV t [.fld i]=some (o,t')->place i=some (o,t'.size)): ∀(ps:List (Nat×DV)) (qs:List (Nat×Value)) {H:Heap} {M:Nat->Prop} {x z:Val t} {cv:Array Value} {H':Heap},
 HRel P H L w M->RelC w M t x cv.toList->PartsR P H L w M ps qs->buildS H t x ps (fun y H=>some (y,H))=some (z,H')-> ∃cv' M',Instr.fill place cv qs=some cv'∧RelC w M' t z cv'.toList∧HRel P H' L w M'∧Step H L w M H' L w M':=by
 intro ps
 induction ps with
 |nil=>
  intro qs H M x z cv H' hs hr hq h
  cases qs with
  |cons=>exact hq.elim
  |nil=>
   simp only[buildS,Option.some.injEq,Prod.mk.injEq]at h
   obtain⟨rfl,rfl⟩:=h
   exact⟨cv,M,rfl,hr,hs,Step.refl _ _ _ _⟩
 |cons p ps ih=>
  intro qs H M x z cv H' hs hr hq h
  cases qs with
  |nil=>exact hq.elim
  |cons q qs=>
   obtain⟨i,y⟩:=p
   obtain⟨j,v⟩:=q
   obtain⟨q1,q2,q3⟩:=hq
   dsimp only at q1 q2
   subst q1
   simp only[buildS]at h
   split at h
   ·rename_i t' hty
    obtain⟨o,ho⟩:=fld_of_ty hty
    rw[n_asVH,Option.bind_eq_some_iff]at h
    obtain⟨⟨u,H1⟩,hu,h⟩:=h
    rw[n_setV,Option.bind_eq_some_iff]at h
    obtain⟨x1,hx1,h⟩:=h
    obtain⟨M1,hs1,st,_,hv⟩:=asVH_ok hs hu q2
    have hv:RelC w M1 t' u v.cells.toList:=(hv.mono (Keep.refl _ _) (fun B _ q=>⟨rfl,q⟩)).cells
    obtain⟨_,hr1⟩:=setV_ok (hr.mono (Keep.refl _ _) st.m) hx1 ho hv
    have hle:=offV_le ho
    rw[←hr.length]at hle
    obtain⟨cv1,f1,f2,f3⟩:=fill_step place (qs:=qs) (cv:=cv) (hp i o t' ho) hv.length (by simpa using hle)
    obtain⟨cv',M',g1,g2,g3,g4⟩:=ih qs hs1 (by rw[f2];exact hr1) (q3.step hs st) h
    exact⟨cv',M',by rw[f1];exact g1,g2,g3,st.trans g4⟩
   ·cases h
def Lents(H H':Heap):Prop:=H'.length=H.length∧ ∀c,hget H c= .gone->hget H' c= .gone
theorem Lent.lents{H H':Heap}(h:Lent H H'):Lents H H':=⟨h.len,fun c hc=>by rw[h.same (by rw[hc];exact id),hc]⟩
theorem Lents.trans{A B D:Heap}(h:Lents A B)(k:Lents B D):Lents A D:=⟨k.1.trans h.1,fun c hc=>k.2 c (h.2 c hc)⟩
theorem buildL_ok{e:Ty}: ∀(ps:List (Nat×DV)) (qs:List (Nat×Value)) (k:Nat) {H:Heap} {M:Nat->Prop} {done l:List (Val e)} {us rest:List Value} {cv:Array Value} {H':Heap},
 HRel P H L w M->inOrder k ps=true->cv.toList=us++rest->RowR (fun y u=>RelC w M e y u) done us->done.length=k->rest.length=ps.length*e.size->PartsR P H L w M ps qs->buildL H e ps (fun y H=>some (y,H))=some (l,H')->
 ∃cv' M',Instr.fill (fun i=>some (i*e.size,e.size)) cv qs=some cv'∧RowR (fun y u=>RelC w M' e y u) (done++l) cv'.toList∧HRel P H' L w M'∧Step H L w M H' L w M'∧Lents H H':=by
 intro ps
 induction ps with
 |nil=>
  intro qs k H M done l us rest cv H' hs _ hcv hr _ hl hq h
  cases qs with
  |cons=>exact hq.elim
  |nil=>
   simp only[buildL,Option.some.injEq,Prod.mk.injEq]at h
   obtain⟨rfl,rfl⟩:=h
   have:rest=[]:=List.length_eq_zero_iff.1 (by simpa using hl)
   subst this
   rw[List.append_nil]at hcv
   exact⟨cv,M,rfl,by rw[List.append_nil,hcv];exact hr,hs,Step.refl _ _ _ _,rfl,fun _ q=>q⟩
 |cons p ps ih=>
  intro qs k H M done l us rest cv H' hs hio hcv hr hk hl hq h
  cases qs with
  |nil=>exact hq.elim
  |cons q qs=>
   obtain⟨i,y⟩:=p
   obtain⟨j,v⟩:=q
   obtain⟨q1,q2,q3⟩:=hq
   dsimp only at q1 q2
   subst q1
   simp only[inOrder]at hio
   cases hik:Nat.beq i k with
   |false=>rw[hik]at hio;cases hio
   |true=>
    rw[hik]at hio
    simp only[cond_true]at hio
    have hik:=nbeq.1 hik
    subst hik
    simp only[buildL]at h
    rw[n_asVH,Option.bind_eq_some_iff]at h
    obtain⟨⟨u,H1⟩,hu,h⟩:=h
    rw[n_buildL,Option.bind_eq_some_iff]at h
    obtain⟨⟨l1,H2⟩,hl1,h⟩:=h
    injection h with h;injection h with h1 h2;subst h1 h2
    obtain⟨M1,hs1,st,hl',hv⟩:=asVH_ok hs hu q2
    have hv:RelC w M1 e u v.cells.toList:=(hv.mono (Keep.refl _ _) (fun B _ q=>⟨rfl,q⟩)).cells
    have hr1:=RowR.mono (fun _ _ q=>RelC.mono (Keep.refl _ _) st.m q) hr
    have hul:=RowR.length (fun _ _ k=>RelC.length k) hr
    have hsz:cv.size=us.length+rest.length:=by have:=congrArg List.length hcv;simpa using this
    simp only[List.length_cons]at hl
    rw[Nat.succ_mul]at hl
    rw[hk]at hul
    obtain⟨cv1,f1,f2,f3⟩:=fill_step (fun i=>some (i*e.size,e.size)) (i:=i) (off:=i*e.size) (size:=e.size) (v:=v) (qs:=qs) (cv:=cv) rfl hv.length (by omega)
    have hvl:=hv.length
    have hcv1:cv1.toList=(us++v.cells.toList)++rest.drop e.size:=by
     rw[f2,hcv,List.take_append_of_le_length (by omega),List.take_of_length_le (by omega),List.drop_append,List.drop_of_length_le (by omega),hvl,show i*e.size+e.size-us.length=e.size by omega,List.nil_append]
    obtain⟨cv',M',g1,g2,g3,g4,g5⟩:=ih qs (i+1) hs1 hio hcv1 (hr1.app (k:=[u]) (by have:=RowR.cons hv RowR.nil;rwa[List.append_nil]at this)) (by simp[hk]) (show(rest.drop e.size).length=ps.length*e.size by rw[List.length_drop];omega) (q3.step hs st) hl1
    refine⟨cv',M',by rw[f1];exact g1,?_,g3,st.trans g4,hl'.lents.trans g5⟩
    rw[List.append_assoc]at g2
    exact g2
theorem buildR_ok{e:Ty}{n:Nat}: ∀(ps:List (Nat×DV)) (qs:List (Nat×Value)) {H:Heap} {M:Nat->Prop} {x z:Vector (Val e) n} {cv:Array Value} {H':Heap},
 HRel P H L w M->RowR (fun y u=>RelC w M e y u) x.toList cv.toList->PartsR P H L w M ps qs->buildR H n e x ps (fun y H=>some (y,H))=some (z,H')->
 ∃cv' M',Instr.fill (fun i=>some (i*e.size,e.size)) cv qs=some cv'∧RowR (fun y u=>RelC w M' e y u) z.toList cv'.toList∧HRel P H' L w M'∧Step H L w M H' L w M'∧Lents H H':=by
 intro ps
 induction ps with
 |nil=>
  intro qs H M x z cv H' hs hr hq h
  cases qs with
  |cons=>exact hq.elim
  |nil=>
   simp only[buildR,Option.some.injEq,Prod.mk.injEq]at h
   obtain⟨rfl,rfl⟩:=h
   exact⟨cv,M,rfl,hr,hs,Step.refl _ _ _ _,rfl,fun _ q=>q⟩
 |cons p ps ih=>
  intro qs H M x z cv H' hs hr hq h
  cases qs with
  |nil=>exact hq.elim
  |cons q qs=>
   obtain⟨i,y⟩:=p
   obtain⟨j,v⟩:=q
   obtain⟨q1,q2,q3⟩:=hq
   dsimp only at q1 q2
   subst q1
   simp only[buildR]at h
   split at h
   ·rename_i hi
    rw[n_asVH,Option.bind_eq_some_iff]at h
    obtain⟨⟨u,H1⟩,hu,h⟩:=h
    obtain⟨M1,hs1,st,hl',hv⟩:=asVH_ok hs hu q2
    have hv:RelC w M1 e u v.cells.toList:=(hv.mono (Keep.refl _ _) (fun B _ q=>⟨rfl,q⟩)).cells
    have hr1:=RowR.mono (fun _ _ q=>RelC.mono (Keep.refl _ _) st.m q) hr
    have hlen:=RowR.length (fun _ _ k=>RelC.length k) hr
    simp only[Vector.length_toList,Array.length_toList]at hlen
    have hle:i*e.size+e.size<=cv.size:=by rw[hlen,←Nat.succ_mul];exact Nat.mul_le_mul_right _ hi
    obtain⟨cv1,f1,f2,f3⟩:=fill_step (fun i=>some (i*e.size,e.size)) (i:=i) (off:=i*e.size) (size:=e.size) (v:=v) (qs:=qs) (cv:=cv) rfl hv.length hle
    have:=RowR.set (fun _ _ k=>RelC.length k) hr1 hv (i:=i) (by simpa using hi)
    rw[show e.size=v.cells.toList.length from hv.length.symm]at this
    obtain⟨cv',M',g1,g2,g3,g4,g5⟩:=ih qs (x:=x.set i u hi) hs1 (by rw[f2,Vector.toList_set];rw[←hv.length];exact this) (q3.step hs st) h
    exact⟨cv',M',by rw[f1];exact g1,g2,g3,st.trans g4,hl'.lents.trans g5⟩
   ·cases h
end
end Ev
end
section
namespace Ev
open Go
section
variable {P : Program} {H : Heap} {L : Nat -> Loc} {w : World} {M : Nat -> Prop}
theorem fields_all: ∀ {b:Ty} {fs:List Field} {off:Nat},(TyR P b).2 fs off-> ∀f∈fs,∃n,tsz P f.type=some n
 | .pair a b,fs,off,h=>by
  obtain⟨f,r,rfl,h1,h2,h3,h4,h5⟩:=h
  intro g hg
  rcases List.mem_cons.1 hg with rfl|hg
  ·exact⟨_,(TyOk.base h3).sz⟩
  ·exact fields_all h5 g hg
 | .unit,fs,off,h=>by intro g hg;have h:fs=[]:=h;subst h;cases hg
 | .i64,_,_,h| .u8,_,_,h| .u32,_,_,h| .u64,_,_,h| .bool,_,_,h| .str,_,_,h| .sl _,_,_,h| .arr _ _,_,_,h| .op _,_,_,h=>h.elim
theorem st_fields{T:TypeId}{t:Ty}(hT:TyOk P T t)(h:t.st=true): ∃fs,P.underlying T=some (.struct fs)∧ ∀f∈fs.toList,∃n,tsz P f.type=some n:=by
 cases t with
 |unit=>
  obtain⟨_,fs,hu,hf⟩:=hT
  exact⟨fs,hu,by rw[hf];intro f hf;cases hf⟩
 |pair a b=>
  obtain⟨_,fs,hu,f,r,hf,h1,h2,h3,h4,h5⟩:=hT
  exact⟨fs,hu,fields_all (b:= .pair a b) (off:=0) ⟨f,r,hf,h1,h2,h3,h4,by rwa[Nat.zero_add]⟩⟩
 |_=>cases h
theorem fields_run: ∀(l:List Field),(∀f∈l,∃n,tsz P f.type=some n)-> ∃pl:List (Nat×Nat),(l.mapM fun f=>(do pure (f.offset,←Go.sizeOf f.type):Sem (Nat×Nat))).run P w= .ok pl w∧ ∀(i:Nat) f n,l[i]?=some f->tsz P f.type=some n->pl[i]?=some (f.offset,n):=by
 intro l
 induction l with
 |nil=>intro _;exact⟨[],rfl,fun i f n h=>by simp at h⟩
 |cons f l ih=>
  intro h
  obtain⟨n,hn⟩:=h f (by simp)
  obtain⟨pl,h1,h2⟩:=ih fun g hg=>h g (by simp[hg])
  refine⟨(f.offset,n)::pl,?_,fun i g m hi hm=> ?_⟩
  ·simp only[List.mapM_cons,Sem.run_bind,run_sizeOf hn,Result.andThen_ok,Sem.run_pure,h1]
  ·cases i with
   |zero=>simp at hi;subst hi;rw[hn]at hm;injection hm with hm;subst hm;rfl
   |succ i=>simp only[List.getElem?_cons_succ]at hi⊢;exact h2 i g m hi hm
theorem build_st{C:Ctx}(hC:CtxTy P C){T:TypeId}{t:Ty}{ps:List (Nat×DV)}{qs:Array (Nat×Value)}{z:Val t}{H':Heap}(hs:HRel P H L w M)(hT:C.ty T=some t)(hst:t.st=true)(hq:PartsR P H L w M ps qs.toList)
 (h:buildS H t t.zero ps (fun y H=>some (y,H))=some (z,H')):DoneV P (Instr.build T qs) H L w M H' (.v t z):=by
 obtain⟨hok,_⟩:=hC.ty T t hT
 obtain⟨fs,hu,hall⟩:=st_fields hok hst
 obtain⟨pl,hpl,hpi⟩:=fields_run (P:=P) (w:=w) fs.toList hall
 obtain⟨zv,hzv,hzc⟩:=run_zeroValue (P:=P) (w:=w) hok.base.zero
 obtain⟨cv,M',f1,f2,f3,f4⟩:=buildS_ok (P:=P) (fun i=>pl.toArray[i]?) (t:=t) (fun i o t' ho=>by
  obtain⟨fs',fl,k1,k2,k3,k4,k5⟩:=struct_ok hok ho
  rw[hu]at k1;injection k1 with k1;injection k1 with k1;subst k1
  have:=hpi i fl _ (by simpa using k2) k4.base.sz
  rw[k3]at this
  simpa using this) ps qs.toList (cv:=zv.cells) hs (by rw[hzc];exact zero_rel w M t) hq h
 have ha:t.agg=true:=by cases t<;>first|rfl|cases hst
 have hm:(fs.mapM fun f=>(do pure (f.offset,←Go.sizeOf f.type):Sem (Nat×Nat))).run P w= .ok pl.toArray w:=by
  rw[Array.mapM_eq_mapM_toList]
  simp only[Sem.run_map,hpl,Result.andThen_ok]
 exact⟨.agg cv,w,L,M',by simp only[Instr.build,Sem.run_bind,hzv,Result.andThen_ok,run_und hu,hm,f1,Sem.run_pure], .v (relV_agg ha f2),f3,f4⟩
theorem buildL_len{e:Ty}: ∀ {ps:List (Nat×DV)} {H H':Heap} {l:List (Val e)},buildL H e ps (fun y H=>some (y,H))=some (l,H')->l.length=ps.length:=by
 intro ps
 induction ps with
 |nil=>intro H H' l h;simp only[buildL,Option.some.injEq,Prod.mk.injEq]at h;rw[←h.1];rfl
 |cons p ps ih=>
  intro H H' l h
  obtain⟨i,y⟩:=p
  simp only[buildL]at h
  rw[n_asVH,Option.bind_eq_some_iff]at h
  obtain⟨⟨u,H1⟩,hu,h⟩:=h
  rw[n_buildL,Option.bind_eq_some_iff]at h
  obtain⟨⟨l1,H2⟩,hl1,h⟩:=h
  injection h with h;injection h with h1 h2;subst h1 h2
  simp[ih hl1]
theorem vecOf_toList{α:Type}{n:Nat}{l:List α}{d:α}(h:l.length=n):(vecOf n l d).toList=l:=by
 unfold vecOf;rw[dif_pos h];rfl
theorem build_arrL{C:Ctx}(hC:CtxTy P C){T:TypeId}{n:Nat}{e:Ty}{ps:List (Nat×DV)}{qs:Array (Nat×Value)}{l:List (Val e)}{H':Heap}(hs:HRel P H L w M)(hT:C.ty T=some (.arr n e))(hio:inOrder 0 ps=true)(hn:ps.length=n)(hq:PartsR P H L w M ps qs.toList)
 (h:buildL H e ps (fun y H=>some (y,H))=some (l,H')):DoneV P (Instr.build T qs) H L w M H' (.v (.arr n e) (vecOf n l e.zero)):=by
 obtain⟨hok,_⟩:=hC.ty T _ hT
 obtain⟨hb,E,hu,hE,_⟩:=hok
 obtain⟨zv,hzv,hzc⟩:=run_zeroValue (P:=P) (w:=w) hb.zero
 have hzl:zv.cells.toList.length=n*e.size:=by rw[hzc];exact(zero_rel w M (.arr n e)).length
 obtain⟨cv,M',f1,f2,f3,f4,hlen,hgone⟩:=buildL_ok (P:=P) ps qs.toList 0 (done:=[]) (us:=[]) (rest:=zv.cells.toList) (cv:=zv.cells) hs hio rfl .nil rfl (by rw[hn];exact hzl) hq h
 have hll:=buildL_len h
 refine⟨.agg cv,w,L,M',by simp only[Instr.build,Sem.run_bind,hzv,Result.andThen_ok,run_und hu,run_sizeOf (TyOk.base hE).sz,f1,Sem.run_pure], .v (relV_agg rfl ?_),f3,f4⟩
 simp only[RelC]
 rw[vecOf_toList (by omega)]
 exact f2
theorem build_arrR{C:Ctx}(hC:CtxTy P C){T:TypeId}{n:Nat}{e:Ty}{ps:List (Nat×DV)}{qs:Array (Nat×Value)}{z:Vector (Val e) n}{H':Heap}(hs:HRel P H L w M)(hT:C.ty T=some (.arr n e))(hq:PartsR P H L w M ps qs.toList)
 (h:buildR H n e (Vector.replicate n e.zero) ps (fun y H=>some (y,H))=some (z,H')):DoneV P (Instr.build T qs) H L w M H' (.v (.arr n e) z):=by
 obtain⟨hok,_⟩:=hC.ty T _ hT
 obtain⟨hb,E,hu,hE,_⟩:=hok
 obtain⟨zv,hzv,hzc⟩:=run_zeroValue (P:=P) (w:=w) hb.zero
 have hz:=zero_rel w M (.arr n e)
 simp only[RelC]at hz
 obtain⟨cv,M',f1,f2,f3,f4,hlen,hgone⟩:=buildR_ok (P:=P) ps qs.toList (cv:=zv.cells) hs (by rw[hzc];exact hz) hq h
 refine⟨.agg cv,w,L,M',by simp only[Instr.build,Sem.run_bind,hzv,Result.andThen_ok,run_und hu,run_sizeOf (TyOk.base hE).sz,f1,Sem.run_pure], .v (relV_agg rfl ?_),f3,f4⟩
 simp only[RelC]
 exact f2
theorem flat_get{z:List Value}: ∀ {n i:Nat},i<n*z.length->(List.replicate n z).flatten[i]?=z[i%z.length]?
 |0,i,h=>by simp at h
 |n+1,i,h=>by
  rw[List.replicate_succ,List.flatten_cons]
  rcases Nat.lt_or_ge i z.length with q|q
  ·rw[List.getElem?_append_left q,Nat.mod_eq_of_lt q]
  ·rw[List.getElem?_append_right q,flat_get (by rw[Nat.succ_mul]at h;omega),Nat.mod_eq_sub_mod q]
theorem flat_len{z:List Value}{n:Nat}:(List.replicate n z).flatten.length=n*z.length:=by
 induction n with
 |zero=>simp
 |succ n ih=>rw[List.replicate_succ,List.flatten_cons,List.length_append,ih,Nat.succ_mul,Nat.add_comm]
theorem zeros_flat{z:Array Value}{n:Nat}:((Array.range (n*z.size)).map fun i=>z[i%z.size]!).toList=(List.replicate n z.toList).flatten:=by
 apply List.ext_getElem?
 intro i
 rcases Nat.lt_or_ge i (n*z.size)with hi|hi
 ·rw[flat_get (by simpa using hi)]
  have hz:0<z.size:=by
   rcases Nat.eq_zero_or_pos z.size with h|h
   ·rw[h]at hi;simp at hi
   ·exact h
  have hm:i%z.size<z.size:=Nat.mod_lt _ hz
  simp[hi,hm]
 ·rw[List.getElem?_eq_none (by simpa using hi),List.getElem?_eq_none (by rw[flat_len];simpa using hi)]
theorem buildSlice_run{T E:TypeId}{e:Ty}{len:Nat}{qs:Array (Nat×Value)}{zv:Value}{cv:Array Value}(hu:P.underlying T=some (.slice E))(hn:tsz P E=some e.size)(hle:len*e.size<=16777216)(hzv:(zeroValue E).run P w= .ok zv w)(hzs:zv.cells.size=e.size)
 (hf:Instr.fill (fun i=>some (i*e.size,e.size)) ((Array.range (len*zv.cells.size)).map fun i=>zv.cells[i%zv.cells.size]!) qs.toList=some cv):
 (Instr.buildSlice T len qs).run P w= .ok (.slice (some ⟨w.heap.size,0,none⟩) len len) (w.alloc (.cells cv E)):=by
 have hb: ¬(len*e.size>2^24):=by
  have:(2:Nat)^24=16777216:=by decide
  omega
 simp only[Instr.buildSlice,Sem.run_bind,run_und hu,Result.andThen_ok,run_sizeOf hn,if_neg hb]
 by_cases h0':len*e.size=0
 ·simp only[h0',if_true,Sem.run_bind,Sem.run_pure,Result.andThen_ok]
  have:((Array.range 0).map (fun i=>(#[]:Array Value)[i%(#[]:Array Value).size]!))=((Array.range (len*zv.cells.size)).map (fun i=>zv.cells[i%zv.cells.size]!)):=by rw[hzs,h0'];simp[Array.range]
  rw[this,hf]
  simp only[Sem.run_bind,run_newRow,Result.andThen_ok,Sem.run_pure]
 ·simp only[h0',if_false,Sem.run_bind,hzv,Sem.run_pure,Result.andThen_ok]
  rw[←hzs]at hf⊢
  rw[hf]
  simp only[Sem.run_bind,run_newRow,Result.andThen_ok,Sem.run_pure]
theorem buildSliceL{C:Ctx}(hC:CtxTy P C){T:TypeId}{n nm:Nat}{e:Ty}{ps:List (Nat×DV)}{qs:Array (Nat×Value)}{l:List (Val e)}{H1:Heap}(hs:HRel P H L w M)(hnm:nm<H.length)(hg:hget H nm= .gone)(hT:C.ty T=some (.sl e))(hle:n*e.size<=16777216)(hio:inOrder 0 ps=true)(hn:ps.length=n)
 (hq:PartsR P H L w M ps qs.toList) (h:buildL H e ps (fun y H=>some (y,H))=some (l,H1)):DoneV P (Instr.buildSlice T n qs) H L w M (hset H1 nm (.mem .rw true (.sl e) l)) (.own nm):=by
 obtain⟨⟨hb,E,hu,hE,_⟩,_⟩:=hC.ty T _ hT
 have hEb:=TyOk.base hE
 obtain⟨zv,hzv,hzc⟩:=run_zeroValue (P:=P) (w:=w) hEb.zero
 have hzs:zv.cells.size=e.size:=by have:=(zero_rel w M e).length;rw[←hzc]at this;simpa using this
 obtain⟨cv,M',f1,f2,f3,f4,hlen,hgone⟩:=buildL_ok (P:=P) ps qs.toList 0 (done:=[]) (us:=[]) (rest:=((Array.range (n*zv.cells.size)).map fun i=>zv.cells[i%zv.cells.size]!).toList) (cv:=(Array.range (n*zv.cells.size)).map fun i=>zv.cells[i%zv.cells.size]!) hs hio rfl .nil rfl (by rw[hn];simp[hzs]) hq h
 have hll:=buildL_len h
 have hcl:=RowR.length (fun _ _ k=>RelC.length k) f2
 rw[List.nil_append]at f2 hcl
 obtain⟨L',M2,g1,g2,g3⟩:=new_row (cap:=n) (us:=cv.toList) (rest:=[]) f3 (by omega) (hgone _ hg) E (0,0) (fun o _=>by simp) (by simp) f2 (RowR.all (fun _ _ q=>RelC.one q) f2) (by omega) (by rw[hll,hn]at hcl;simp at hcl;omega)
 have hl:l.length=n:=by omega
 rw[hl]at g1
 exact⟨_,_,L',M2,buildSlice_run hu hEb.sz hle hzv hzs f1,g1,g2,f4.trans g3⟩
theorem buildSliceR{C:Ctx}(hC:CtxTy P C){T:TypeId}{n nm:Nat}{e:Ty}{ps:List (Nat×DV)}{qs:Array (Nat×Value)}{z:Vector (Val e) n}{H1:Heap}(hs:HRel P H L w M)(hnm:nm<H.length)(hg:hget H nm= .gone)(hT:C.ty T=some (.sl e))(hle:n*e.size<=16777216)
 (hq:PartsR P H L w M ps qs.toList) (h:buildR H n e (Vector.replicate n e.zero) ps (fun y H=>some (y,H))=some (z,H1)):DoneV P (Instr.buildSlice T n qs) H L w M (hset H1 nm (.mem .rw true (.sl e) z.toList)) (.own nm):=by
 obtain⟨⟨hb,E,hu,hE,_⟩,_⟩:=hC.ty T _ hT
 have hEb:=TyOk.base hE
 obtain⟨zv,hzv,hzc⟩:=run_zeroValue (P:=P) (w:=w) hEb.zero
 have hzs:zv.cells.size=e.size:=by have:=(zero_rel w M e).length;rw[←hzc]at this;simpa using this
 obtain⟨cv,M',f1,f2,f3,f4,hlen,hgone⟩:=buildR_ok (P:=P) ps qs.toList (cv:=(Array.range (n*zv.cells.size)).map fun i=>zv.cells[i%zv.cells.size]!) hs (by
  rw[zeros_flat,Vector.toList_replicate,hzc]
  exact RowR.replicate (zero_rel w M e) n) hq h
 have hcl:=RowR.length (fun _ _ k=>RelC.length k) f2
 simp only[Vector.length_toList,Array.length_toList]at hcl
 obtain⟨L',M2,g1,g2,g3⟩:=new_row (cap:=n) (l:=z.toList) (us:=cv.toList) (rest:=[]) f3 (by omega) (hgone _ hg) E (0,0) (fun o _=>by simp) (by simp) f2 (RowR.all (fun _ _ q=>RelC.one q) f2) (by simp) (by omega)
 have hl:z.toList.length=n:=by simp
 rw[hl]at g1
 exact⟨_,_,L',M2,buildSlice_run hu hEb.sz hle hzv hzs f1,g1,g2,f4.trans g3⟩
theorem wrap64_id{x:Int}(h1: -9223372036854775808<=x)(h2:x<9223372036854775808):IntKind.i64.wrap x=x:=by
 have e1:(2:Int)^64=18446744073709551616:=by decide
 have e2:(2:Int)^63=9223372036854775808:=by decide
 simp only[IntKind.wrap,IntKind.bits,IntKind.signed,Nat.reduceSub,Bool.true_and,e1,e2]
 split
 ·rename_i h;simp at h;omega
 ·rename_i h;simp at h;omega
theorem makeSlice_ok{C:Ctx}(hC:CtxTy P C){T:TypeId}{nm:Nat}{e:Ty}{c:Int}{r:List (Val e)}(hs:HRel P H L w M)(hnm:nm<H.length)(hg:hget H nm= .gone)(hT:C.ty T=some (.sl e))(h:zeros? c e.zero=some r):
 DoneV P (Instr.makeSlice T (.int .i64 c) (.int .i64 c)) H L w M (hset H nm (.mem .rw true (.sl e) r)) (.own nm):=by
 unfold zeros? at h
 split at h
 ·rename_i hc
  injection h with h;subst h
  obtain⟨⟨hb,E,hu,hE,_⟩,_⟩:=hC.ty T _ hT
  have hEb:=TyOk.base hE
  obtain⟨zv,hzv,hzc⟩:=run_zeroValue (P:=P) (w:=w) hEb.zero
  have hzs:zv.cells.size=e.size:=by have:=(zero_rel w M e).length;rw[←hzc]at this;simpa using this
  obtain⟨by_,hby,hbl,_⟩:=hEb.by_
  obtain⟨zi,hzi,hbz⟩:=run_bytes hby
  have hcw:IntKind.i64.wrap c=c:=wrap64_id (by omega) (by omega)
  obtain⟨L',M2,g1,g2,g3⟩:=new_row (cap:=c.toNat) (l:=List.replicate c.toNat e.zero) (vs:=(Array.range (c.toNat*zv.cells.size)).map fun i=>zv.cells[i%zv.cells.size]!) (us:=(List.replicate c.toNat e.zeroC).flatten) (rest:=[]) hs hnm hg E (0,0) (fun o _=>by simp) (by rw[zeros_flat,hzc];simp)
   (RowR.replicate (zero_rel w M e) _) (by rw[zeros_flat,hzc];exact RowR.all (fun _ _ q=>RelC.one q) (RowR.replicate (zero_rel w M e) c.toNat)) (by simp) (by simp[hzs])
  simp only[List.length_replicate]at g1
  refine⟨_,_,L',M2,?_,g1,g2,g3⟩
  have hc2: ¬(c<0):=by omega
  have hlc: ¬(c>c):=by omega
  have hb2: ¬((zi.bytes:Int)*c>2^48):=by
   have e1:(2:Int)^48=281474976710656:=by decide
   have:(zi.bytes:Int)*c<=16384*4294967296:=Int.mul_le_mul (by omega) (by omega) (by omega) (by omega)
   rw[e1];omega
  simp only[Instr.makeSlice,Sem.run_bind,run_und hu,Result.andThen_ok,asInt,asIntOf,Sem.run_pure,run_tinfo hzi,hcw,decide_eq_false hc2,decide_eq_false hlc,decide_eq_false hb2,Bool.or_false,Bool.false_or,
   Bool.false_eq_true,if_false,run_askRoom,run_sizeOf hEb.sz]
  by_cases h0':c.toNat*e.size=0
  ·have:((Array.range 0).map (fun i=>(#[]:Array Value)[i%(#[]:Array Value).size]!))=((Array.range (c.toNat*zv.cells.size)).map (fun i=>zv.cells[i%zv.cells.size]!)):=by rw[hzs,h0'];simp[Array.range]
   simp only[h0',if_true,Sem.run_bind,Sem.run_pure,Result.andThen_ok]
   rw[this]
   simp only[run_newRow,Result.andThen_ok]
  ·simp only[h0',if_false,Sem.run_bind,Sem.run_pure,Result.andThen_ok,hzv]
   rw[←hzs]
   simp only[run_newRow,Result.andThen_ok]
 ·cases h
theorem roomy_ok{C:Ctx}(hC:CtxTy P C){T:TypeId}{nm:Nat}{e:Ty}{n c:Int}{r:List (Val e)}(hs:HRel P H L w M)(hnm:nm<H.length)(hg:hget H nm= .gone)(hT:C.ty T=some (.sl e))(hn0:0<=n)(hnc:n<=c)(h:zeros? c e.zero=some r):
 DoneV P (Instr.makeSlice T (.int .i64 n) (.int .i64 c)) H L w M (hset H nm (.mem .rw true (.sl e) r)) (.winx nm n.toNat):=by
 unfold zeros? at h
 split at h
 ·rename_i hc
  injection h with h;subst h
  obtain⟨⟨hb,E,hu,hE,_⟩,_⟩:=hC.ty T _ hT
  have hEb:=TyOk.base hE
  obtain⟨zv,hzv,hzc⟩:=run_zeroValue (P:=P) (w:=w) hEb.zero
  have hzs:zv.cells.size=e.size:=by have:=(zero_rel w M e).length;rw[←hzc]at this;simpa using this
  obtain⟨by_,hby,hbl,_⟩:=hEb.by_
  obtain⟨zi,hzi,hbz⟩:=run_bytes hby
  have hcw:IntKind.i64.wrap c=c:=wrap64_id (by omega) (by omega)
  obtain⟨L',M2,g1,g2,g3⟩:=new_rowx (n:=n.toNat) (l:=List.replicate c.toNat e.zero) (vs:=(Array.range (c.toNat*zv.cells.size)).map fun i=>zv.cells[i%zv.cells.size]!) (us:=(List.replicate c.toNat e.zeroC).flatten) hs hnm hg E (0,0) (fun o _=>by simp) (by rw[zeros_flat,hzc];simp)
   (RowR.replicate (zero_rel w M e) _) (by rw[zeros_flat,hzc];exact RowR.all (fun _ _ q=>RelC.one q) (RowR.replicate (zero_rel w M e) c.toNat)) (by rw[List.length_replicate];omega) (by simp[hzs])
  simp only[List.length_replicate]at g1
  refine⟨_,_,L',M2,?_,g1,g2,g3⟩
  have hc2: ¬(c<0):=by omega
  have hlc: ¬(n>c):=by omega
  have hn2: ¬(n<0):=by omega
  have hnw:IntKind.i64.wrap n=n:=wrap64_id (by omega) (by omega)
  have hb2: ¬((zi.bytes:Int)*c>2^48):=by
   have e1:(2:Int)^48=281474976710656:=by decide
   have:(zi.bytes:Int)*c<=16384*4294967296:=Int.mul_le_mul (by omega) (by omega) (by omega) (by omega)
   rw[e1];omega
  simp only[Instr.makeSlice,Sem.run_bind,run_und hu,Result.andThen_ok,asInt,asIntOf,Sem.run_pure,run_tinfo hzi,hcw,hnw,decide_eq_false hc2,decide_eq_false hn2,decide_eq_false hlc,decide_eq_false hb2,Bool.or_false,Bool.false_or,
   Bool.false_eq_true,if_false,run_askRoom,run_sizeOf hEb.sz]
  by_cases h0':c.toNat*e.size=0
  ·have:((Array.range 0).map (fun i=>(#[]:Array Value)[i%(#[]:Array Value).size]!))=((Array.range (c.toNat*zv.cells.size)).map (fun i=>zv.cells[i%zv.cells.size]!)):=by rw[hzs,h0'];simp[Array.range]
   simp only[h0',if_true,Sem.run_bind,Sem.run_pure,Result.andThen_ok]
   rw[this]
   simp only[run_newRow,Result.andThen_ok]
  ·simp only[h0',if_false,Sem.run_bind,Sem.run_pure,Result.andThen_ok,hzv]
   rw[←hzs]
   simp only[run_newRow,Result.andThen_ok]
 ·cases h
theorem arrayAt_ok{C:Ctx}(hC:CtxTy P C){T:TypeId}{n:Nat}{e:Ty}{x:DV}{l:List (Val e)}{a:Vector (Val e) n}{H1:Heap}{v:Value}(hs:HRel P H L w M)(hT:C.ty T=some (.arr n e))(hn:n≠0)(h:asVH H false (.sl e) x (fun y H=>some (y,H))=some (l,H1))(ha:toArr n l=some a)(r:RelD P H L w M x v):
 DoneV P (Instr.arrayAt T v) H L w M H1 (.fp (.arr n e) a):=by
 obtain⟨⟨hb,E,hu,hE,_⟩,_⟩:=hC.ty T _ hT
 obtain⟨M1,hs1,st,_,hr⟩:=asVH_ok hs h r
 unfold toArr at ha
 split at ha
 ·rename_i hl
  injection ha with ha;subst ha
  have hr:=relV_sl.1 hr
  simp only[RelC]at hr
  rw[List.length_take]at hl
  rcases hr with⟨h0,_⟩|⟨h0,B,off,cap,vs,h1,h2,h3,h4,h5,h6⟩
  ·rw[h0]at hl;simp at hl;omega
  ·injection h1 with h1 _;subst h1
   have hm: ¬M1 B:=fun q=>h4 ⟨rfl,q⟩
   refine⟨.pointer (some ⟨B,off,none⟩),w,L,M1,?_, .fp h3 hm (h5.take (n*e.size)) ?_,hs1,st⟩
   ·simp only[Instr.arrayAt,Sem.run_bind,run_und hu,Result.andThen_ok]
    rw[if_neg (by omega)]
    rfl
   ·simp only[RelC]
    have:=RowR.take (fun _ _ k=>RelC.length k) h6 n
    exact RowR.mono (fun _ _ q=>RelC.mono (Keep.refl _ _) (fun B _ q=>⟨rfl,q⟩) q) this
 ·cases ha
end
end Ev
end
section
namespace Ev
open Go
section
variable {P : Program} {H : Heap} {L : Nat -> Loc} {w : World} {M : Nat -> Prop}
theorem freeze_new(w:World)(c:Array Value)(e:TypeId):(w.alloc (.cells c e)).freeze ⟨w.heap.size,c.size,none⟩ 1=w.alloc (.cells c e (c.size,c.size+1)):=by
 have:((w.alloc (.cells c e)).freeze ⟨w.heap.size,c.size,none⟩ 1).heap=(w.alloc (.cells c e (c.size,c.size+1))).heap:=by
  apply Array.ext_getElem?
  intro i
  simp only[World.freeze,Nat.one_ne_zero,if_false,Array.getElem?_modify,World.alloc,Array.getElem?_push]
  by_cases h:i=w.heap.size
  ·subst h;simp
  ·rw[if_neg h,if_neg h];simp[Ne.symm h]
 show World.mk _ _ _ _ _=World.mk _ _ _ _ _
 simp only[World.freeze,Nat.one_ne_zero,if_false]at this⊢
 rw[this]
 rfl
theorem bytesLoop(f:Value->ByteArray->Sem (ForInStep ByteArray))(hf: ∀n r,f (.int .u8 n) r=Pure.pure (ForInStep.yield (r.push (UInt8.ofNat n.toNat))))(ns:List UInt8):
 ∀(s:ByteArray) (w:World),(forIn (ns.map fun b=>Value.int .u8 b.toNat) s f).run P w= .ok ⟨s.data++ns.toArray⟩ w:=by
 induction ns with
 |nil=>intro s w;simp
 |cons n ns ih=>
  intro s w
  simp only[List.map_cons,List.forIn_cons,Sem.run_bind,hf,Sem.run_pure,Result.andThen_ok,ih]
  congr 2
  apply Array.ext'
  simp[ByteArray.push]
theorem bytes_row{l:List UInt8}{us:List Value}(h:RowR (fun(y:Val .u8) u=>RelC w M .u8 y u) l us):us=l.map fun b=>Value.int .u8 b.toNat:=by
 induction h with
 |nil=>rfl
 |cons a _ ih=>simp only[RelC]at a;rw[a,ih];rfl
theorem row_bytes(l:List UInt8):RowR (fun(y:Val .u8) u=>RelC w M .u8 y u) l (l.map fun b=>Value.int .u8 b.toNat):=by
 induction l with
 |nil=>exact .nil
 |cons b l ih=>
  have:RelC w M .u8 b [.int .u8 b.toNat]:=by simp only[RelC]
  exact .cons this ih
theorem und_some{T:TypeId}{t:Ty}(h:TyOk P T t): ∃d,P.underlying T=some d:=by
 have:=h.isAgg
 unfold isAggT at this
 cases hu:P.underlying T with
 |none=>rw[hu]at this;cases this
 |some d=>exact⟨d,rfl⟩
theorem strBytes_ok{s d:TypeId}{sd:TypeDesc}{E:TypeId}{l:List UInt8}{nm:Nat}(hs:HRel P H L w M)(hnm:nm<H.length)(hg:hget H nm= .gone)(hsd:P.underlying s=some sd)(hd:P.underlying d=some (.slice E))(hE:P.underlying E=some (.int .u8)):
 DoneV P (Go.convert s d (.string ⟨l.toArray⟩)) H L w M (hset H nm (.mem .rw true (.sl .u8) l)) (.own nm):=by
 have hge:=grownCap_ge w l.length 0 E
 have hq:(Question.appendCap l.length 0 E).forced=false:=rfl
 have hh:w.drew.heap=w.heap:=rfl
 have hs1:HRel P H L w.drew M:=hs.same hh
 have st1:Step H L w M H L w.drew M:=Step.same hh rfl rfl rfl
 have hbs:(⟨l.toArray⟩:ByteArray).size=l.length:=by simp[ByteArray.size]
 have harr:((⟨l.toArray⟩:ByteArray).data.map fun(b:UInt8)=>Value.int .u8 b.toNat)++Array.replicate (grownCap w l.length 0 E-l.length) (Value.int .u8 0)=((l.map fun(b:UInt8)=>Value.int .u8 b.toNat)++List.replicate (grownCap w l.length 0 E-l.length) (Value.int .u8 0)).toArray:=by
  apply Array.ext';simp
 have hsz2:((l.map fun(b:UInt8)=>Value.int .u8 b.toNat)++List.replicate (grownCap w l.length 0 E-l.length) (Value.int .u8 0)).toArray.size=grownCap w l.length 0 E:=by simp;omega
 obtain⟨L',M',g1,g2,g3⟩:=new_row (nm:=nm) (e:= .u8) (l:=l) (vs:=((l.map fun(b:UInt8)=>Value.int .u8 b.toNat)++List.replicate (grownCap w l.length 0 E-l.length) (Value.int .u8 0)).toArray) (us:=l.map fun b=>Value.int .u8 b.toNat)
  (rest:=List.replicate (grownCap w l.length 0 E-l.length) (Value.int .u8 0)) (cap:=grownCap w l.length 0 E) hs1 hnm hg E (grownCap w l.length 0 E,grownCap w l.length 0 E+1) (fun o ho=>by rw[hsz2]at ho;simp;omega) rfl (row_bytes l) (by
   intro v hv
   rcases List.mem_append.1 hv with hv|hv
   ·obtain⟨b,_,rfl⟩:=List.mem_map.1 hv;rfl
   ·rw[List.eq_of_mem_replicate hv];rfl) hge (by rw[hsz2];simp[Ty.size])
 refine⟨_,_,L',M',?_,g1,g2,st1.trans g3⟩
 have hshape:(w.drew.alloc (.cells ((l.map fun(b:UInt8)=>Value.int .u8 b.toNat)++List.replicate (grownCap w l.length 0 E-l.length) (Value.int .u8 0)).toArray E)).shape? w.drew.heap.size=some (E,grownCap w l.length 0 E):=by
  simp only[World.shape?,alloc_new,hsz2]
 have hfz:=freeze_new w.drew ((l.map fun(b:UInt8)=>Value.int .u8 b.toNat)++List.replicate (grownCap w l.length 0 E-l.length) (Value.int .u8 0)).toArray E
 rw[hsz2]at hfz
 have hcut:(Question.appendCap l.length 0 E).cut (w.tape w.drawn (.appendCap l.length 0 E))=grownCap w l.length 0 E:=rfl
 simp only[Go.convert,Sem.run_bind,run_und hsd,run_und hd,Result.andThen_ok,run_und hE,Conv.stringToBytes,hbs,run_choose,hq,Bool.false_eq_true,if_false,World.drew_eq,run_newRow,Sem.run_pure,hcut,harr]
 simp only[markStringish,Sem.run_bind,run_shape,hshape,Result.andThen_ok,run_freeze,hfz]
theorem bytesStr_ok{s d E:TypeId}{l:List UInt8}{a:Option Addr}{cap:Nat}(hsd:P.underlying s=some (.slice E))(hd:P.underlying d=some .string)(hE:P.underlying E=some (.int .u8))
 (h:l=[]∨ ∃B o us,B<w.heap.size∧a=some ⟨B,o,none⟩∧CellsAt w B o us∧RowR (fun(y:Val .u8) u=>RelC w M .u8 y u) l us):
 (Go.convert s d (.slice a l.length cap)).run P w= .ok (.string ⟨l.toArray⟩) w:=by
 simp only[Go.convert,Sem.run_bind,run_und hsd,run_und hd,Result.andThen_ok,run_und hE]
 cases a with
 |none=>
  rcases h with h|⟨_,_,_,_,h,_⟩
  ·subst h;rfl
  ·cases h
 |some a=>
  have hload:(loadCells a l.length).run P w= .ok ((l.map fun b=>Value.int .u8 b.toNat).toArray) w:=by
   have: ∀us:List Value,us=(l.map fun b=>Value.int .u8 b.toNat)->(∀j v,us[j]?=some v->w.cell? (a.add j)=some v)->(loadCells a l.length).run P w= .ok ((l.map fun b=>Value.int .u8 b.toNat).toArray) w:=by
    intro us hu hc
    have:=run_loadCells_list (P:=P) (w:=w) a us hc
    rw[hu]at this
    simpa using this
   rcases h with h|⟨B,o,us,h1,h2,h3,h4⟩
   ·subst h;exact this [] rfl (fun j v hv=>by simp at hv)
   ·injection h2 with h2;subst h2
    exact this us (bytes_row h4) (fun j v hv=>by rw[add_none];exact h3 j v hv)
  simp only[Conv.bytesToString,Sem.run_bind,hload,Result.andThen_ok]
  rw[List.forIn_toArray]
  rw[bytesLoop _ (fun _ _=>rfl)]
  simp only[Result.andThen_ok,Sem.run_pure]
  congr 3
  have he0:ByteArray.empty.data= #[]:=rfl
  rw[he0]
  simp
theorem ofInt_u8(n:Int):RelV w M .u8 (UInt8.ofInt n) (.int .u8 (n%256)):=by
 have:=relV_u8 (w:=w) (M:=M) (n:=UInt8.ofInt n)
 have e:((UInt8.ofInt n).toNat:Int)=n%256:=by
  unfold UInt8.ofInt
  rw[show(2:Int)^8=256 from rfl,UInt8.toNat_ofNat_of_lt' (show(n%256).toNat<256 by omega)];omega
 rwa[e]at this
theorem ofInt_u32(n:Int):RelV w M .u32 (UInt32.ofInt n) (.int .u32 (n%4294967296)):=by
 have:=relV_u32 (w:=w) (M:=M) (n:=UInt32.ofInt n)
 have e:((UInt32.ofInt n).toNat:Int)=n%4294967296:=by
  unfold UInt32.ofInt
  rw[show(2:Int)^32=4294967296 from rfl,UInt32.toNat_ofNat_of_lt' (show(n%4294967296).toNat<4294967296 by omega)];omega
 rwa[e]at this
theorem ofInt_u64(n:Int):RelV w M .u64 (UInt64.ofInt n) (.int .u64 (n%18446744073709551616)):=by
 have:=relV_u64 (w:=w) (M:=M) (n:=UInt64.ofInt n)
 have e:((UInt64.ofInt n).toNat:Int)=n%18446744073709551616:=by
  unfold UInt64.ofInt
  rw[show(2:Int)^64=18446744073709551616 from rfl,UInt64.toNat_ofNat_of_lt' (show(n%18446744073709551616).toNat<18446744073709551616 by omega)];omega
 rwa[e]at this
theorem int_und{C:Ctx}(hC:CtxTy P C){s:TypeId}{x:DV}{n:Int}(ht:tySl C H s x=true)(h:intD x some=some n): ∃d,P.underlying s=some d:=by
 cases x with
 |v t a=>exact und_some (hC.ty s t (of_decide_eq_true ht)).1
 |_=>simp only[intD,reduceCtorEq]at h
theorem HRel.freezeW(h:HRel P H L w M){b:Nat}{l:List UInt8}(hb:hget H b= .mem .rw true (.sl .u8) l)(hnil:(L b).nil=false){w':World}(hsz:w'.heap.size=w.heap.size)(hos:w'.os=w.os)(htp:w'.tape=w.tape)(hou:w'.output=w.output)
 (hout: ∀B,B≠(L b).blk->w'.heap[B]?=w.heap[B]?) (hc: ∀o,w'.cell? ⟨(L b).blk,o,none⟩=w.cell? ⟨(L b).blk,o,none⟩):
 ∃M':Nat->Prop,¬M' (L b).blk∧HRel P (hset H b (.mem .frz true (.sl .u8) l)) L w' M'∧Step H L w M (hset H b (.mem .frz true (.sl .u8) l)) L w' M':=by
 have hr:(hget H b).rw:=by rw[hb];trivial
 have hbl:b<H.length:=hget_lt (live_ne (rw_live hr))
 have hse:(hget H b).setS .frz= .mem .frz true (.sl .u8) l:=by rw[hb];rfl
 have hx:=setS_ext .frz _ (entR_row (h.ent b (rw_live hr)))
 rw[hse]at hx
 have hLL:updL L b (L b)=L:=by funext c;unfold updL;split<;>simp_all
 have hext:=ext_upd (L:=L) (l:=L b) hbl hx (fun _=>rfl)
 rw[hLL]at hext
 have hk:Keep M w w':=⟨by omega,fun B _ hn=>hout B (fun q=>hn (q▸(h.own b hr hnil).1))⟩
 have rwold: ∀c,(hget (hset H b (.mem .frz true (.sl .u8) l)) c).rw->(hget H c).rw:=by
  intro c hc
  rw[hget_hset]at hc
  split at hc
  ·exact hc.elim
  ·exact hc
 have hap2:(Ent.mem .frz true (.sl .u8) l).live->(L b).nil=false-> ∀c,c≠b->(hget H c).rw->(L c).nil=false->(L c).blk≠(L b).blk:=fun _ hn c hc hr' hnl=>h.apart c b hc hr' (rw_live hr) hnl hn
 have hM: ∀B,B<w.heap.size->(M B∧B≠(L b).blk)->M B:=fun _ _ q=>q.1
 refine⟨fun B=>M B∧B≠(L b).blk,fun q=>q.2 rfl,?_,⟨by omega,hos,htp,hou,fun B _ hn=>⟨hout B (fun q=>hn b hr hnil q.symm),⟨fun q=>q.1,fun q=>⟨q,fun he=>hn b hr hnil he.symm⟩⟩⟩,hM,hext,fun c hc hnl _=>⟨c,rwold c hc,hnl,rfl⟩⟩⟩
 have hent0:=h.ent b (rw_live hr)
 rw[hb]at hent0
 have:=h.upd (l:=L b) (w':=w') (M':=fun B=>M B∧B≠(L b).blk) hbl hx (fun _=>rfl) hk hM (fun B q=>by rw[hsz];exact h.mlt B q.1)
  (fun c hcb hlv hnl=>⟨hout _ (fun q=>h.apart b c (fun e=>hcb e.symm) hr hlv hnil hnl q.symm),fun hr'=>⟨(h.own c hr' hnl).1,h.apart c b hcb hr' (rw_live hr) hnl hnil⟩⟩)
  (fun _=>by
   rcases hent0 with⟨q,_⟩|⟨h1,h2,h3,h4,us,h5,h6⟩
   ·rw[hnil]at q;cases q
   ·refine .inr ⟨h1,by omega,h3,h4,us,fun i v hv=> ?_,?_⟩
    ·rw[hc];exact h5 i v hv
    ·rw[bytes_row h6];exact row_bytes l)
  (fun q=>q.elim) (fun _ _ q=>q.2 rfl) (fun q=>q.elim) hap2
 rwa[hLL]at this
theorem freeze_cell(w:World)(a:Addr)(n:Nat)(B o:Nat):(w.freeze a n).cell? ⟨B,o,none⟩=w.cell? ⟨B,o,none⟩:=by
 unfold World.freeze
 split
 ·rfl
 ·simp only[World.cell?,Array.getElem?_modify]
  by_cases hB:a.block=B
  ·rw[if_pos hB]
   cases w.heap[B]? with
   |none=>rfl
   |some x=>cases x<;>rfl
  ·rw[if_neg hB]
theorem convert_ok{C:Ctx}(hC:CtxTy P C){s d:TypeId}{nm:Nat}{x y:DV}{H':Heap}{v:Value}(hs:HRel P H L w M)(hnm:(∃e,C.ty d=some (.sl e))->nm<H.length∧hget H nm= .gone)(ht:tySl C H s x=true)(h:Ev.convert C nm H s d x (fun y H=>some (y,H))=some (y,H'))(r:RelD P H L w M x v):
 DoneV P (Go.convert s d v) H L w M H' y:=by
 have ints: ∀ {k:IntKind} {t:Ty} {n:Int} {z:Val t},P.underlying d=some (.int k)->intD x some=some n->RelV w M t z (.int k (k.wrap n))->y= .v t z->H'=H->DoneV P (Go.convert s d v) H L w M H' y:=by
  rintro k t n z hu hi hr rfl rfl
  obtain⟨k',rfl⟩:=intD_ok hi r
  obtain⟨sd,hsd⟩:=int_und hC ht hi
  exact⟨_,w,L,M,by simp only[Go.convert,Sem.run_bind,run_und hsd,run_und hu,Result.andThen_ok,Conv.intToInt,Sem.run_pure], .v hr,hs,Step.refl _ _ _ _⟩
 unfold Ev.convert at h
 split at h
 ·rename_i hd
  rw[n_intD,Option.bind_eq_some_iff]at h
  obtain⟨n,hn,h⟩:=h
  injection h with h;injection h with h1 h2
  exact ints (t:= .i64) (hC.ty d _ hd).1.2 hn relV_i64 h1.symm h2.symm
 ·rename_i hd
  rw[n_intD,Option.bind_eq_some_iff]at h
  obtain⟨n,hn,h⟩:=h
  injection h with h;injection h with h1 h2
  exact ints (t:= .u8) (hC.ty d _ hd).1.2 hn (by rw[wrap_u8];exact ofInt_u8 n) h1.symm h2.symm
 ·rename_i hd
  rw[n_intD,Option.bind_eq_some_iff]at h
  obtain⟨n,hn,h⟩:=h
  injection h with h;injection h with h1 h2
  exact ints (t:= .u32) (hC.ty d _ hd).1.2 hn (by rw[wrap_u32];exact ofInt_u32 n) h1.symm h2.symm
 ·rename_i hd
  rw[n_intD,Option.bind_eq_some_iff]at h
  obtain⟨n,hn,h⟩:=h
  injection h with h;injection h with h1 h2
  exact ints (t:= .u64) (hC.ty d _ hd).1.2 hn (by rw[wrap_u64];exact ofInt_u64 n) h1.symm h2.symm
 ·rename_i hd
  have hud:=(hC.ty d _ hd).1.2
  split at h
  ·rename_i hsd
   rw[n_asV,Option.bind_eq_some_iff]at h
   obtain⟨n,hn,h⟩:=h
   injection h with h;injection h with h1 h2;subst h1 h2
   have hr:=asV_ok hn r
   rw[inv_str hr]
   exact⟨_,w,L,M,by simp only[Go.convert,Sem.run_bind,run_und (hC.ty s _ hsd).1.2,run_und hud,Result.andThen_ok,Sem.run_pure], .v relV_str,hs,Step.refl _ _ _ _⟩
  ·rename_i hsd
   rw[n_elemsOf,Option.bind_eq_some_iff]at h
   obtain⟨l,hl,h⟩:=h
   injection h with h;injection h with h1 h2;subst h1 h2
   obtain⟨⟨_,E,hu,hE,_⟩,_⟩:=hC.ty s _ hsd
   rcases elemsOf_ok hs hl r with⟨q,he,hv,_⟩|⟨a,cap,hv,hcap,hr⟩
   ·exfalso
    subst hv
    cases x with
    |v t z=>
     have:=of_decide_eq_true ht
     rw[hsd]at this
     injection this with this;subst this
     have hr:=relV_sl.1 r.vinv
     simp only[RelC]at hr
     rcases hr with⟨_,a,c,h1⟩|⟨_,B,off,cap,vs,h1,_⟩<;>cases h1
    |own b=>
     cases r with
     |own h1 q=>rcases q with⟨_,_,q⟩|⟨_,_,_,q,_⟩<;>cases q
     |ownc h1 q=>obtain⟨_,_,_,q,_⟩:=q;cases q
    |win b p off len=>cases r
    |winx b n=>cases r
    |nils=>cases r
    |ptr b p=>cases r
    |fp t x=>cases r
    |_=>cases ht
   ·subst hv
    exact⟨_,w,L,M,bytesStr_ok hu hud hE.2 hr, .v relV_str,hs,Step.refl _ _ _ _⟩
  ·cases h
 ·rename_i hd
  split at h
  ·rename_i l hsd
   rw[Option.bind_eq_some_iff]at h
   obtain⟨l',hl,h⟩:=h
   unfold fits? at hl
   split at hl
   ·injection hl with hl;subst hl
    injection h with h;injection h with h1 h2;subst h1 h2
    obtain⟨⟨_,E,hu,hE,_⟩,_⟩:=hC.ty d _ hd
    obtain⟨n1,n2⟩:=hnm ⟨_,hd⟩
    rw[inv_str r.vinv]
    exact strBytes_ok hs n1 n2 (hC.ty s _ hsd).1.2 hu hE.2
   ·cases hl
  ·rename_i b hsd
   replace h:=cond_some h
   obtain⟨hbeq,h⟩:=h
   obtain rfl:=Nat.eq_of_beq_eq_true hbeq
   split at h
   ·rename_i l hb
    cases hemp:List.isEmpty (l:List UInt8)with
    |true=>rw[hemp]at h;cases h
    |false=>
     rw[hemp,cond_false]at h
     injection h with h;injection h with h1 h2;subst h1 h2
     have hne:(l:List UInt8)≠[]:=by intro q;rw[q]at hemp;cases hemp
     obtain⟨⟨_,E,hu,hE,_⟩,_⟩:=hC.ty s _ hd
     have hr:(hget H b).rw:=by rw[hb];trivial
     cases r with
     |ownc h1 _=>rw[hb]at h1;cases h1
     |own h1 q=>
      rw[hb]at h1;injection h1 with _ _ h1 h2
      injection h1 with h1;subst h1
      have h2:=eq_of_heq h2
      subst h2
      rcases q with⟨_,q,_⟩|⟨hnil,hoff,cap,rfl,hle,hcap⟩
      ·exact absurd (List.length_eq_zero_iff.1 q) hne
      ·obtain⟨_,_,vs,el,fz,hw,hsz,_⟩:=hs.own b hr hnil
       have hsh:w.shape? (L b).blk=some (el,vs.size):=by simp only[World.shape?,hw]
       have hrun:(Go.convert s s (.slice (some ⟨(L b).blk,0,none⟩) (List.length (l:List UInt8)) cap)).run P w= .ok (.slice (some ⟨(L b).blk,0,none⟩) (List.length (l:List UInt8)) cap) (w.freeze ⟨(L b).blk,vs.size,none⟩ 1):=by
        simp only[Go.convert,Sem.run_bind,run_und hu,Result.andThen_ok,run_und hE.2,beq_self_eq_true,markStringish,run_shape,hsh,run_freeze,Sem.run_pure]
       obtain⟨M',g1,g2,g3⟩:=hs.freezeW hb hnil (w':=w.freeze ⟨(L b).blk,vs.size,none⟩ 1) (by simp[World.freeze]) rfl rfl rfl
        (fun B hB=>by simp only[World.freeze,Nat.one_ne_zero,if_false,Array.getElem?_modify];rw[if_neg (fun q=>hB q.symm)])
        (fun o=>freeze_cell _ _ _ _ _)
       refine⟨_,_,L,M',hrun, .v (relV_sl.2 ?_),g2,g3⟩
       have hen:=g2.ent b (by rw[hget_hset,if_pos ⟨rfl,hget_lt (live_ne (rw_live hr))⟩];trivial)
       rw[hget_hset,if_pos ⟨rfl,hget_lt (live_ne (rw_live hr))⟩]at hen
       rcases hen with⟨q,_⟩|⟨_,e2,_,_,us,e5,e6⟩
       ·rw[hnil]at q;cases q
       ·simp only[RelC]
        exact .inr ⟨hne,_,0,cap,us,rfl,hle,e2,g1,by simpa using e5,e6⟩
   ·cases h
  ·cases h
 ·cases h
end
end Ev
end
section
namespace Ev
open Go
section
variable {P : Program} {H : Heap} {L : Nat -> Loc} {w : World} {M : Nat -> Prop}
theorem HRel.move{b nm:Nat}{e:Ty}{xs zs:List (Val e)}(hs:HRel P H L w M)(hb:hget H b= .mem .rw true (.sl e) xs)(hnil:(L b).nil=false)(hn:nm<H.length)(hg:hget H nm= .gone){w':World}(hw:Wrote (L b).blk w w')
 {vs:Array Value} {el:TypeId} {fz:Nat×Nat} (hnew:w'.heap[(L b).blk]?=some (.cells vs el fz)) (hvs:vs.size=(L b).sz) (hfz: ∀o,o<(L b).sz->(decide (fz.1<=o)&&decide (o<fz.2))=false) (ho: ∀v∈vs.toList,one1 v=true)
 {us rest:List Value} (hcells:vs.toList=us++rest) (hrow:RowR (fun y u=>RelC w M e y u) zs us) {cap:Nat} (hc:zs.length<=cap) (hsz:cap*e.size<=(L b).sz):
 ∃L',RelD P (hset (hkill H b) nm (.mem .rw true (.sl e) zs)) L' w' M (.own nm) (.slice (some ⟨(L b).blk,0,none⟩) zs.length cap)∧HRel P (hset (hkill H b) nm (.mem .rw true (.sl e) zs)) L' w' M∧Step H L w M (hset (hkill H b) nm (.mem .rw true (.sl e) zs)) L' w' M:=by
 have hr:(hget H b).rw:=by rw[hb];trivial
 obtain⟨ks,kst⟩:=hs.kill (rw_live hr)
 have hbl:b<H.length:=hget_lt (live_ne (rw_live hr))
 have hnb:nm≠b:=fun q=>by rw[q,hb]at hg;cases hg
 have hkl:(hkill H b).length=H.length:=by unfold hkill;rw[hset_length]
 have hgk:hget (hkill H b) nm= .gone:=by unfold hkill;rw[hget_hset,if_neg (fun q=>hnb q.1),hg]
 have old: ∀c,(hget (hkill H b) c).live->c≠b∧hget (hkill H b) c=hget H c:=by
  intro c hc
  have hcb:c≠b:=by
   intro q
   subst q
   unfold hkill at hc
   rw[hget_hset,if_pos ⟨rfl,hbl⟩,hb]at hc
   exact hc
  refine⟨hcb,?_⟩
  unfold hkill
  rw[hget_hset,if_neg (fun q=>hcb q.1)]
 obtain⟨hbM,hoff,_⟩:=hs.own b hr hnil
 have hk:Keep M w w':=Keep.of_wrote hw hbM
 have hx:ExtE (hget (hkill H b) nm) (.mem .rw true (.sl e) zs):=by rw[hgk];trivial
 have hl:hget (hkill H b) nm≠ .gone->L b=L nm:=fun q=>absurd hgk q
 have hn':nm<(hkill H b).length:=by omega
 have hext:=ext_upd (L:=L) hn' hx hl
 have hle:zs.length*e.size<=(L b).sz:=Nat.le_trans (Nat.mul_le_mul_right _ hc) hsz
 have hge:hget (hset (hkill H b) nm (.mem .rw true (.sl e) zs)) nm= .mem .rw true (.sl e) zs:=by rw[hget_hset,if_pos ⟨rfl,hn'⟩]
 refine⟨updL L nm (L b),?_,?_,?_⟩
 ·refine .own hge ?_
  rw[updL_same]
  exact .inr ⟨hnil,hoff,cap,rfl,hc,hsz⟩
 ·exact ks.upd (l:=L b) hn' hx hl hk (fun _ _ q=>q) (fun B q=>by rw[hw.size];exact hs.mlt B q)
   (fun c hc hlv hnl=>by
    obtain⟨h1,h2⟩:=old c hlv
    rw[h2]at hlv
    exact⟨hw.other _ (fun q=>hs.apart b c h1.symm hr hlv hnil hnl q.symm),fun hr'=>(ks.own c hr' hnl).1⟩)
   (fun _=> .inr ⟨hnil,by rw[hw.size];exact hs.mlt _ hbM,hoff,hle,us,cells_of hnew hcells,RowR.mono (fun _ _ q=>RelC.mono hk (fun _ _ q=>q) q) hrow⟩)
   (fun _ _=>⟨hbM,hoff,vs,el,fz,hnew,hvs,hfz,ho⟩) (fun q=>q.elim)
   (fun _ _ c hc hlv hnl=>by
    obtain⟨h1,h2⟩:=old c hlv
    rw[h2]at hlv
    exact hs.apart b c h1.symm hr hlv hnil hnl)
   (fun _ _ c hc hr' hnl=>by
    obtain⟨h1,h2⟩:=old c (rw_live hr')
    rw[h2]at hr'
    exact hs.apart c b h1 hr' (rw_live hr) hnl hnil)
 ·refine⟨by rw[hw.size];exact Nat.le_refl _,hw.os,hw.tape,hw.output,fun B hB hno=>⟨hw.other B (fun q=>hno b hr hnil q.symm),Iff.rfl⟩,fun _ _ q=>q,kst.ext.trans hext,fun c hc hnl _=> ?_⟩
  by_cases hcn:c=nm
  ·subst hcn;exact⟨b,hr,hnil,by rw[updL_same]⟩
  ·rw[hget_hset,if_neg (fun q=>hcn q.1)]at hc
   rw[updL_ne _ _ hcn]at hnl⊢
   obtain⟨h1,h2⟩:=old c (rw_live hc)
   rw[h2]at hc
   exact⟨c,hc,hnl,rfl⟩
theorem source_ok{e:Ty}{x:DV}{ys:List (Val e)}{v:Value}(hs:HRel P H L w M)(h:elemsOf H x e some=some ys)(r:RelD P H L w M x v):
 ∃news,RowR (fun y u=>RelC w M e y u) ys news∧(∀w':World,(Builtin.lenOf v).run P w'= .ok ys.length w')∧
  (∀(w':World),w'.heap=w.heap-> ∀k,k<=ys.length->(Builtin.firstCells e.size k v).run P w'= .ok (news.take (k*e.size)).toArray w'):=by
 rcases elemsOf_ok hs h r with⟨s,he,rfl,hys⟩|⟨a,cap,rfl,hcap,hr⟩
 ·subst he
  rw[castV_rfl]at hys
  subst hys
  refine⟨_,row_bytes ys,fun w'=> ?_,fun w' _ k hk=> ?_⟩
  ·show Result.ok _ _=_
   simp[ByteArray.size]
  ·show(Builtin.firstCells 1 k _).run P w'=_
   simp only[Builtin.firstCells,Sem.run_pure]
   congr 1
   apply Array.ext'
   simp only[Array.toList_map,←List.map_take]
   show((⟨List.toArray ys⟩:ByteArray).extract 0 k).data.toList.map _=_
   rw[ByteArray.data_extract]
   simp[Array.toList_extract,List.extract_eq_take_drop,Ty.size]
 ·rcases hr with hr|⟨B,o,us,h1,rfl,h3,h4⟩
  ·subst hr
   refine⟨[], .nil,fun w'=>rfl,fun w' _ k hk=> ?_⟩
   have:k=0:=by simpa using hk
   subst this
   cases a with
   |none=>simp[Builtin.firstCells]
   |some a=>
    have:=run_firstCells_some (P:=P) w' e.size 0 a (([]:List (Val e)).length) cap [] (by simp) (fun j v hj=>by simp at hj)
    simpa using this
  ·refine⟨us,h4,fun w'=>rfl,fun w' hw' k hk=> ?_⟩
   have hl:=RowR.length (fun _ _ k=>RelC.length k) h4
   have hle:k*e.size<=ys.length*e.size:=Nat.mul_le_mul_right _ hk
   exact run_firstCells_some (P:=P) w' e.size k _ _ _ (us.take (k*e.size)) (by rw[List.length_take];omega) fun j v hj=>by
    rw[add_none,cell?_same (w:=w) (by rw[hw'])]
    exact(h3.take (k*e.size)) j v hj
theorem src_und{C:Ctx}(hC:CtxTy P C){T:TypeId}{e:Ty}{x:DV}{ys:List (Val e)}(ht:tySl C H T x=true)(h:elemsOf H x e some=some ys): ∃xd,P.underlying T=some xd∧ ∀k,xd≠ .int k:=by
 have sl: ∀ {e:Ty},C.ty T=some (.sl e)-> ∃xd,P.underlying T=some xd∧ ∀k,xd≠ .int k:=by
  intro e hT
  obtain⟨⟨_,E,hu,_⟩,_⟩:=hC.ty T _ hT
  exact⟨_,hu,fun k q=>by cases q⟩
 cases x with
 |v t z=>
  have hT:=of_decide_eq_true ht
  cases t with
  |str=>
   exact⟨_,(hC.ty T _ hT).1.2,fun k q=>by cases q⟩
  |sl e'=>exact sl hT
  |_=>
   exfalso
   simp only[elemsOf,asV]at h
   split at h
   ·rename_i q;cases q
   ·cases h
 |nils=>
  unfold tySl at ht
  simp only at ht
  split at ht
  ·rename_i hT;exact sl hT
  ·cases ht
 |own b=>
  unfold tySl at ht
  simp only at ht
  split at ht
  ·exact sl (of_decide_eq_true ht)
  ·cases ht
 |win b p off len=>
  unfold tySl at ht
  simp only at ht
  split at ht
  ·exact sl (of_decide_eq_true ht)
  ·cases ht
 |_=>simp only[elemsOf,asV,reduceCtorEq]at h
theorem append_room{sT xT ty E:TypeId}{xd:TypeDesc}{n m:Nat}
 (hu:P.underlying sT=some (.slice E)) (hx:P.underlying xT=some xd) (hxi: ∀k,xd≠ .int k) (hn:tsz P E=some n)
 {base:Option Addr} {sLen sCap:Nat} {xv:Value} {news:List Value}
 (hlen:(Builtin.lenOf xv).run P w= .ok m w) (f2:(Builtin.firstCells n m xv).run P w= .ok news.toArray w) (hg:sLen+m<=sCap):
 (Builtin.append_ #[sT,xT] ty #[.slice base sLen sCap,xv]).run P w=
  match base with
  |some a=>((storeCells (a.add (sLen*n)) news).run P w).andThen fun _ w'=> .ok (.slice base (sLen+m) sCap) w'
  |none=> .ok (.slice base (sLen+m) sCap) w:=by
 have hxi': ∀(k:IntKind),xd= .int k->False:=fun k hk=>hxi k hk
 simp only[Builtin.append_,List.getElem?_toArray,List.getElem?_cons_succ,List.getElem?_cons_zero,Sem.run_bind,run_und hu,Result.andThen_ok,run_sizeOf hn,run_und hx,Sem.run_pure,Bool.false_eq_true,if_false,hlen,if_pos hg,
  Bool.not_false,if_true,f2]
 cases base
 ·rfl
 ·simp only[Sem.run_bind,Sem.run_pure]
theorem zeroCells_len(z:Array Value)(n:Nat):(Builtin.zeroCells z n).toList.length=n*z.size:=by simp[Builtin.zeroCells]
theorem append_grow{sT xT ty E:TypeId}{xd:TypeDesc}{n by_ m:Nat}{zv:Value}
 (hu:P.underlying sT=some (.slice E)) (hx:P.underlying xT=some xd) (hxi: ∀k,xd≠ .int k) (hn:tsz P E=some n) (hb:tby P E=some by_) (hzv:(zeroValue E).run P w.drew= .ok zv w.drew)
 {base:Option Addr} {sLen sCap:Nat} {xv:Value} {olds news:List Value}
 (f1:(Builtin.firstCells n sLen (.slice base sLen sCap)).run P w.drew= .ok olds.toArray w.drew)
 (hlen:(Builtin.lenOf xv).run P w= .ok m w) (f2:(Builtin.firstCells n m xv).run P w.drew= .ok news.toArray w.drew)
 (hg:sCap<sLen+m) (hfit:(sLen+m)*by_<=70368744177664) (hby:0<by_):
 (Builtin.append_ #[sT,xT] ty #[.slice base sLen sCap,xv]).run P w= .ok (.slice (some ⟨w.heap.size,0,none⟩) (sLen+m) (grownCap w (sLen+m) sCap E))
  (w.drew.alloc (.cells (olds++news++(Builtin.zeroCells zv.cells (grownCap w (sLen+m) sCap E-(sLen+m))).toList).toArray E)):=by
 obtain⟨zi,hzi,hbz⟩:=run_bytes hb
 have hnn: ¬(sLen+m<=sCap):=by omega
 have hneed:sLen+m<=70368744177664:=Nat.le_trans (Nat.le_mul_of_pos_right _ hby) hfit
 have hmax:IntKind.i64.max=9223372036854775807:=by decide
 have h48: ¬(Builtin.nextslicecap (sLen+m) sCap*zi.bytes>2^48):=by
  have e1:(2:Nat)^48=281474976710656:=by decide
  have:=growslice_fits (bytes:=zi.bytes) hg (by rw[hbz];omega)
  omega
 have hq:(Question.appendCap (sLen+m) sCap E).forced=false:=rfl
 have hxi': ∀(k:IntKind),xd= .int k->False:=fun k hk=>hxi k hk
 simp only[Builtin.append_,List.getElem?_toArray,List.getElem?_cons_succ,List.getElem?_cons_zero,Sem.run_bind,run_und hu,Result.andThen_ok,run_sizeOf hn,run_und hx,Sem.run_pure,Bool.false_eq_true,if_false,hlen,if_neg hnn,
  run_tinfo hzi,false_or]
 rw[if_neg (by rw[hmax];omega)]
 simp only[Sem.run_bind,Result.andThen_ok,run_tinfo hzi,if_neg h48,run_choose,hq,Bool.false_eq_true,if_false,World.drew_eq,run_askRoom,Bool.not_false,if_true,f1,f2,hzv,run_newRow,Sem.run_pure]
 simp only[grownCap]
 congr 3
 apply Array.ext'
 simp[List.append_assoc]
theorem append_ok{C:Ctx}(hC:CtxTy P C){T T' ty:TypeId}{e:Ty}{nm:Nat}{x y z:DV}{H':Heap}{va vb:Value}(hs:HRel P H L w M)(hn:nm<H.length)(hg:hget H nm= .gone)(hT:C.ty T=some (.sl e))(ht:tySl C H T' y=true)
 (h:appendOp nm H x y e (fun y H=>some (y,H))=some (z,H')) (ra:RelD P H L w M x va) (rb:RelD P H L w M y vb):DoneV P (Builtin.append_ #[T,T'] ty #[va,vb]) H L w M H' z:=by
 unfold appendOp at h
 rw[n_elemsOf,Option.bind_eq_some_iff]at h
 obtain⟨ys,hys,h⟩:=h
 obtain⟨xd,hxu,hxi⟩:=src_und hC ht hys
 obtain⟨news,s1,s2,s3⟩:=source_ok hs hys rb
 have hnl:=RowR.length (fun _ _ k=>RelC.length k) s1
 have s3': ∀(w':World),w'.heap=w.heap->(Builtin.firstCells e.size ys.length vb).run P w'= .ok news.toArray w':=fun w' hw'=>by
  have:=s3 w' hw' ys.length (Nat.le_refl _)
  rwa[List.take_of_length_le (by omega)]at this
 obtain⟨⟨_,E,hu,hE,hpos⟩,_⟩:=hC.ty T _ hT
 have hEb:=TyOk.base hE
 obtain⟨by_,hby,hbl,hb0⟩:=hEb.by_
 have hbp:0<by_:=by omega
 obtain⟨zv,hzv,hzc⟩:=run_zeroValue (P:=P) (w:=w.drew) hEb.zero
 have hzs:zv.cells.size=e.size:=by have:=(zero_rel w M e).length;rw[←hzc]at this;simpa using this
 have grow: ∀ {H1:Heap} (hs1:HRel P H1 L w M) (st1:Step H L w M H1 L w M) (n1:nm<H1.length) (g1:hget H1 nm= .gone) {xs:List (Val e)} {olds:List Value} {base:Option Addr} {sCap:Nat},RowR (fun y u=>RelC w M e y u) xs olds->
  (Builtin.firstCells e.size xs.length (.slice base xs.length sCap)).run P w.drew= .ok olds.toArray w.drew->sCap<xs.length+ys.length->xs.length+ys.length<=4294967296->
  DoneV P (Builtin.append_ #[T,T'] ty #[.slice base xs.length sCap,vb]) H L w M (hset H1 nm (.mem .rw true (.sl e) (xs++ys))) (.own nm):=by
  intro H1 hs1 st1 n1 g1 xs olds base sCap hr hf hlt hle
  have hfit:(xs.length+ys.length)*by_<=70368744177664:=Nat.le_trans (Nat.mul_le_mul hle hbl) (by decide)
  have hol:=RowR.length (fun _ _ k=>RelC.length k) hr
  have hcap:=grownCap_ge w (xs.length+ys.length) sCap E
  have st2:Step H1 L w M H1 L w.drew M:=Step.same rfl rfl rfl rfl
  obtain⟨L',M',g1,g2,g3⟩:=new_row (e:=e) (l:=xs++ys) (vs:=(olds++news++(Builtin.zeroCells zv.cells (grownCap w (xs.length+ys.length) sCap E-(xs.length+ys.length))).toList).toArray) (us:=olds++news)
   (rest:=(Builtin.zeroCells zv.cells (grownCap w (xs.length+ys.length) sCap E-(xs.length+ys.length))).toList) (cap:=grownCap w (xs.length+ys.length) sCap E) (hs1.same (w':=w.drew) rfl) n1 g1 E (0,0) (fun o _=>by simp) rfl
   (RowR.mono (fun _ _ q=>RelC.mono (show Keep M w w.drew from⟨Nat.le_refl _,fun _ _ _=>rfl⟩) (fun _ _ q=>q) q) (hr.app s1)) (by
    intro v hv
    rcases List.mem_append.1 hv with hv|hv
    ·rcases List.mem_append.1 hv with hv|hv
     ·exact RowR.all (fun _ _ q=>RelC.one q) hr v hv
     ·exact RowR.all (fun _ _ q=>RelC.one q) s1 v hv
    ·unfold Builtin.zeroCells at hv
     rw[zeros_flat,hzc]at hv
     exact RowR.all (fun _ _ q=>RelC.one q) (RowR.replicate (zero_rel w M e) _) v hv) (by simpa using hcap) (by
    simp only[List.size_toArray,List.length_append,zeroCells_len,hzs,hol,hnl]
    rw[←Nat.add_mul,←Nat.add_mul]
    exact Nat.mul_le_mul_right _ (by omega))
  rw[List.length_append]at g1
  exact⟨_,_,L',M',append_grow hu hxu hxi hEb.sz hby hzv hf (s2 w) (s3' _ rfl) hlt hfit hbp,g1,g2,st1.trans (st2.trans g3)⟩
 have none_ok: ∀ {H1:Heap} (hs1:HRel P H1 L w M) (st1:Step H L w M H1 L w M) (n1:nm<H1.length) (g1:hget H1 nm= .gone),ys.length<=4294967296->
  DoneV P (Builtin.append_ #[T,T'] ty #[.slice none 0 0,vb]) H L w M (hset H1 nm (.mem .rw true (.sl e) ys)) (.own nm):=by
  intro H1 hs1 st1 n1 g1 hle
  cases hy:ys with
  |nil=>
   rw[hy]at s2 s3'
   obtain⟨L',M',k1,k2,k3⟩:=new_nil (e:=e) hs1 n1 g1
   refine⟨_,w,L',M',?_,k1,k2,st1.trans k3⟩
   exact append_room (m:=0) hu hxu hxi hEb.sz (s2 w) (s3' w rfl) (by omega)
  |cons y0 ys0=>
   have:=grow hs1 st1 n1 g1 (xs:=[]) (olds:=[]) (base:=none) (sCap:=0) .nil (by simp[Builtin.firstCells]) (by rw[hy];simp) (by simpa using hle)
   rw[hy]at this
   exact this
 split at h
 ·rw[Option.bind_eq_some_iff]at h
  obtain⟨q,hq,h⟩:=h
  unfold fits? at hq
  split at hq
  ·rename_i hle
   injection hq with hq;subst hq
   injection h with h;injection h with h1 h2;subst h1 h2
   cases ra
   exact none_ok hs (Step.refl _ _ _ _) hn hg hle
  ·cases hq
 ·rename_i b
  split at h
  ·rename_i e' xs hb
   split at h
   ·rename_i he;subst he
    rw[Option.bind_eq_some_iff]at h
    obtain⟨q,hq,h⟩:=h
    unfold app? at hq
    split at hq
    ·rename_i hle
     injection hq with hq;subst hq
     injection h with h;injection h with h1 h2;subst h1 h2
     have hr:(hget H b).rw:=by rw[hb];trivial
     obtain⟨ks,kst⟩:=hs.kill (rw_live hr)
     have hnb:nm≠b:=fun q=>by rw[q,hb]at hg;cases hg
     have hkl:nm<(hkill H b).length:=by unfold hkill;rw[hset_length];exact hn
     have hgk:hget (hkill H b) nm= .gone:=by unfold hkill;rw[hget_hset,if_neg (fun q=>hnb q.1),hg]
     rcases own_cells hs hb rfl ra with⟨_,q2,q3⟩|⟨q0,q1,q2,us,cap,q3,q4,q5,q6,q7⟩
     ·subst q3
      have q2':xs=[]:=q2
      subst q2'
      have:=none_ok ks kst hkl hgk (by simpa using hle)
      exact this
     ·subst q3
      have hul:=RowR.length (fun _ _ k=>RelC.length k) q7
      rcases Nat.lt_or_ge cap ((xs:List (Val e')).length+ys.length)with hc|hc
      ·exact grow ks kst hkl hgk q7 (run_firstCells_some (P:=P) w.drew e'.size _ _ _ _ us hul fun j v hj=>by
        rw[add_none,cell?_same (w:=w) (w':=w.drew) rfl];exact q6 j v hj) hc hle
      ·obtain⟨hbM,hoff,vs,el,fz,hblk,hsz,hfz,hone⟩:=hs.own b hr q0
       have hcs:((xs:List (Val e')).length+ys.length)*e'.size<=(L b).sz:=Nat.le_trans (Nat.mul_le_mul_right _ hc) q5
       rw[Nat.add_mul]at hcs
       obtain⟨w',c',d1,d2,d3,d4⟩:=storeCells_ok (P:=P) (L b).blk ((xs:List (Val e')).length*e'.size) el fz news 0 vs w hblk (by omega) (RowR.all (fun _ _ q=>RelC.one q) s1) (fun i hi=>hfz i (by omega))
       rw[Nat.add_zero]at d3
       have hcsz:c'.size=vs.size:=by have:=congrArg List.length d3;simp at this;omega
       obtain⟨rest,hrest⟩:=cells_prefix hblk q6
       obtain⟨L',g1,g2,g3⟩:=hs.move (nm:=nm) (zs:=(xs:List (Val e'))++ys) (cap:=cap) hb q0 hn hg d4 d2 (by omega) hfz (fun v hv=>by
        rw[d3]at hv
        simp only[List.mem_append]at hv
        rcases hv with(hv|hv)|hv
        ·exact hone v (List.mem_of_mem_take hv)
        ·exact RowR.all (fun _ _ q=>RelC.one q) s1 v hv
        ·exact hone v (List.mem_of_mem_drop hv)) (us:=us++news) (rest:=vs.toList.drop ((xs:List (Val e')).length*e'.size+news.length)) (by
        rw[d3,hrest,List.take_append_of_le_length (by omega),List.take_of_length_le (by omega)]) (q7.app s1) (by simpa using hc) q5
       rw[List.length_append]at g1
       refine⟨_,w',L',M,?_,g1,g2,g3⟩
       rw[append_room (m:=ys.length) hu hxu hxi hEb.sz (s2 w) (s3' w rfl) hc]
       simp only[add_none,Nat.zero_add,d1,Result.andThen_ok]
    ·cases hq
   ·cases h
  ·cases h
 ·cases h
end
end Ev
end
section
namespace Ev
open Go
section
variable {P : Program} {H : Heap} {L : Nat -> Loc} {w : World} {M : Nat -> Prop}
theorem hset_same(H:Heap)(b:Nat):hset H b (hget H b)=H:=by
 induction H generalizing b with
 |nil=>rfl
 |cons x l ih=>cases b with
  |zero=>rfl
  |succ b=>simp only[hset_nil,hset_zero,hset_succ,hget_nil,hget_zero,hget_succ,ih]
theorem lput_row{e:Ty}{l ys:List (Val e)}{us vs:List Value}{off:Nat}(hl:RowR (fun y u=>RelC w M e y u) l us)(hy:RowR (fun y u=>RelC w M e y u) ys vs):RowR (fun y u=>RelC w M e y u) (lput l off ys) (us.take (off*e.size)++vs++us.drop (off*e.size+vs.length)):=by
 have hv:=RowR.length (fun _ _ k=>RelC.length k) hy
 have:=((RowR.take (fun _ _ k=>RelC.length k) hl off).app hy).app (RowR.drop (fun _ _ k=>RelC.length k) hl (off+ys.length))
 rw[Nat.add_mul,←hv]at this
 exact this
theorem lput_len{α:Type}{l ys:List α}{off:Nat}(h:off+ys.length<=l.length):(lput l off ys).length=l.length:=by
 unfold lput;simp;omega
theorem vput_toList{α:Type}{n off:Nat}{v:Vector α n}{ys:List α}(h:off+ys.length<=n):(vput v off ys).toList=lput v.toList off ys:=by
 unfold vput
 rw[dif_pos (by rw[lput_len (by simpa using h)];simp)]
 rfl
theorem splice_ok{b:Nat}{p:List Stp}{off n o:Nat}{e:Ty}{ys:List (Val e)}{news:List Value}{H':Heap}(hs:HRel P H L w M)(ha:arrE (hget H b) p=some (n,o,e))(hle:off+ys.length<=n)(hy:RowR (fun y u=>RelC w M e y u) ys news)
 (h:splice H b p off e ys some=some H'):
 ((L b).nil=true∧news=[]∧H'=H)∨((L b).nil=false∧ ∃w',(storeCells ⟨(L b).blk,(L b).off+o+off*e.size,none⟩ news).run P w= .ok () w'∧HRel P H' L w' M∧Step H L w M H' L w' M):=by
 have hnl:=RowR.length (fun _ _ k=>RelC.length k) hy
 have fin: ∀ {e2:Ent} {us:List Value},(hget H b).rw->(L b).nil=false->ExtE (hget H b) e2->e2.rw->CellsAt w (L b).blk 0 us->o+off*e.size+news.length<=us.length->
  (∀w':World,Keep M w w'->(L b).blk<w'.heap.size->CellsAt w' (L b).blk 0 (us.take (o+off*e.size)++news++us.drop (o+off*e.size+news.length))-> ∀H'' L'',EntR P H'' L'' w' M (L b) e2)->
  ∃w',(storeCells ⟨(L b).blk,(L b).off+o+off*e.size,none⟩ news).run P w= .ok () w'∧HRel P (hset H b e2) L w' M∧Step H L w M (hset H b e2) L w' M:=by
  intro e2 us hr hnil hx hre hc hlen hent
  obtain⟨hbM,hoff,vs,el,fz,hblk,hsz,hfz,hone⟩:=hs.own b hr hnil
  obtain⟨rest,hrest⟩:=cells_prefix hblk hc
  have hvl:us.length<=vs.size:=by have:=congrArg List.length hrest;simp at this;omega
  obtain⟨w',c',d1,d2,d3,d4⟩:=storeCells_ok (P:=P) (L b).blk (o+off*e.size) el fz news 0 vs w hblk (by omega) (RowR.all (fun _ _ q=>RelC.one q) hy) (fun i hi=>hfz i (by omega))
  rw[Nat.add_zero]at d3
  have hcsz:c'.size=vs.size:=by have:=congrArg List.length d3;simp at this;omega
  obtain⟨m1,m2⟩:=hs.write hr hnil hx hre d4.size d4.os d4.tape d4.output d4.other d2 (by omega) hfz (fun v hv=>by
   rw[d3]at hv
   simp only[List.mem_append]at hv
   rcases hv with(hv|hv)|hv
   ·exact hone v (List.mem_of_mem_take hv)
   ·exact RowR.all (fun _ _ q=>RelC.one q) hy v hv
   ·exact hone v (List.mem_of_mem_drop hv)) (fun H'' L'' hk _=>hent w' hk (by rw[d4.size];exact hs.mlt _ hbM) (cells_of (rest:=rest) d2 (by rw[d3,hrest,splice_pre hlen])) H'' L'')
  refine⟨w',?_,m1,m2⟩
  rw[hoff,Nat.zero_add];exact d1
 unfold splice at h
 split at h
 ·rename_i e' l hb
  split at h
  ·split at h
   ·rename_i he;subst he
    injection h with h;subst h
    rw[hb]at ha
    simp only[arrE,Option.some.injEq,Prod.mk.injEq]at ha
    obtain⟨rfl,rfl,_⟩:=ha
    have hr:(hget H b).rw:=by rw[hb];trivial
    have hent:=hs.ent b (rw_live hr)
    rw[hb]at hent
    simp only[EntR]at hent
    rcases hent with⟨h0,h1⟩|⟨h0,h1,h2,h3,us,h4,h5⟩
    ·have hl0:(l:List (Val e)).length=0:=by rw[h1];rfl
     have:ys=[]:=List.length_eq_zero_iff.1 (by omega)
     subst this
     refine .inl ⟨h0,?_,?_⟩
     ·exact List.length_eq_zero_iff.1 (by simpa using hnl)
     ·skip
      have:lput (l:List (Val e)) off []=l:=by rw[h1];unfold lput;simp
      show hset H b (.mem .rw true (.sl e) (lput (l:List (Val e)) off []))=H
      rw[this,←hb,hset_same]
    ·refine .inr ⟨h0,?_⟩
     have hul:=RowR.length (fun _ _ k=>RelC.length k) h5
     refine fin hr h0 (by rw[hb];exact⟨_,_,rfl,lput_len hle⟩) trivial h4 ?_ (fun w' hk hlt hc H'' L''=> .inr ⟨h0,hlt,h2,?_,us.take (0+off*e.size)++news++us.drop (0+off*e.size+news.length),hc,?_⟩)
     ·rw[hnl,hul,Nat.zero_add,←Nat.add_mul];exact Nat.mul_le_mul_right _ hle
     ·show(lput (l:List (Val e)) off ys).length*e.size<=_
      rw[lput_len hle];exact h3
     ·rw[Nat.zero_add]
      exact RowR.mono (fun _ _ q=>RelC.mono hk (fun _ _ q=>q) q) (lput_row h5 hy)
   ·cases h
  ·cases h
 ·rename_i t x hb
  rw[n_getV,Option.bind_eq_some_iff]at h
  obtain⟨⟨t2,z⟩,hz,h⟩:=h
  rw[hb]at ha
  simp only[arrE]at ha
  split at ha
  ·rename_i o' n' e2 ho
   injection ha with ha;injection ha with ha1 ha;injection ha with ha2 ha3
   subst ha1 ha2 ha3
   have hr:(hget H b).rw:=by rw[hb];trivial
   have hent:=hs.ent b (rw_live hr)
   rw[hb]at hent
   simp only[EntR]at hent
   obtain⟨h0,h1,h2,us,h3,h4⟩:=hent
   have hoff:=(hs.own b hr h0).2.1
   rw[hoff]at h3
   obtain⟨g1,g2,g3⟩:=getV_ok h4 hz ho
   dsimp only at g1
   subst g1
   simp only at h
   split at h
   ·rename_i q
    rw[n_setV,Option.bind_eq_some_iff]at h
    obtain⟨z2,hz2,h⟩:=h
    injection h with h;subst h
    refine .inr ⟨h0,?_⟩
    simp only[RelC,Ty.size]at g2 g3
    have hul:=h4.length
    have hol:=offV_le ho
    simp only[Ty.size]at hol
    have hzl:((us.drop o').take (n'*e2.size)).length=n'*e2.size:=by rw[List.length_take,List.length_drop];omega
    have hm:off*e2.size+news.length<=n'*e2.size:=by rw[hnl,←Nat.add_mul];exact Nat.mul_le_mul_right _ hle
    have harr:RelC w M (.arr n' e2) (vput (z:Vector (Val e2) n') off ys) (((us.drop o').take (n'*e2.size)).take (off*e2.size)++news++((us.drop o').take (n'*e2.size)).drop (off*e2.size+news.length)):=by
     simp only[RelC]
     rw[vput_toList hle]
     exact lput_row g2 hy
    obtain⟨_,k⟩:=setV_ok h4 hz2 ho harr
    have hal:=harr.length
    simp only[Ty.size]at hal
    rw[hal,splice_in hm (by omega)]at k
    refine fin hr h0 (by rw[hb];exact⟨_,_,rfl⟩) trivial h3 (by omega) (fun w' hk hlt hc H'' L''=>⟨h0,hlt,h2,_,by rw[hoff];exact hc,k.mono hk (fun _ _ q=>q)⟩)
   ·cases h
  ·cases ha
 ·cases h
theorem run_copy{T T' ty E:TypeId}{n m dLen dCap:Nat}{base:Option Addr}{xv:Value}{cells:List Value}{w':World}(hu:P.underlying T=some (.slice E))(hn:tsz P E=some n)(hlen:(Builtin.lenOf xv).run P w= .ok m w)(hf:(Builtin.firstCells n (Nat.min m dLen) xv).run P w= .ok cells.toArray w)
 (hst:match base with|some a=>(storeCells a cells).run P w= .ok () w'|none=>w'=w):(Builtin.copy_ #[T,T'] ty #[.slice base dLen dCap,xv]).run P w= .ok (.int .i64 (Nat.min m dLen:Nat)) w':=by
 simp only[Builtin.copy_,List.getElem?_toArray,List.getElem?_cons_succ,List.getElem?_cons_zero,Sem.run_bind,run_und hu,Result.andThen_ok,hlen,run_sizeOf hn,hf]
 cases base with
 |none=>subst hst;rfl
 |some a=>
  simp only at hst
  simp only[Sem.run_bind,hst,Result.andThen_ok]
  rfl
theorem copy_ok{C:Ctx}(hC:CtxTy P C){T T' ty:TypeId}{e:Ty}{x y z:DV}{H':Heap}{va vb:Value}(hs:HRel P H L w M)(hT:C.ty T=some (.sl e))
 (h:copyOp H x y e (fun y H=>some (y,H))=some (z,H')) (ra:RelD P H L w M x va) (rb:RelD P H L w M y vb):DoneV P (Builtin.copy_ #[T,T'] ty #[va,vb]) H L w M H' z:=by
 obtain⟨⟨_,E,hu,hE,hpos⟩,_⟩:=hC.ty T _ hT
 have hEb:=TyOk.base hE
 unfold copyOp at h
 split at h
 ·rename_i b p off len
  rw[n_elemsOf,Option.bind_eq_some_iff]at h
  obtain⟨ys,hys,h⟩:=h
  rw[n_splice,Option.bind_eq_some_iff]at h
  obtain⟨H1,hsp,h⟩:=h
  injection h with h;injection h with h1 h2;subst h1 h2
  obtain⟨news,s1,s2,s3⟩:=source_ok hs hys rb
  have s3:=s3 w rfl (Nat.min ys.length len) (Nat.min_le_left _ _)
  have hrow:RowR (fun y u=>RelC w M e y u) (ys.take len) (news.take (Nat.min ys.length len*e.size)):=by
   have:=RowR.take (fun _ _ k=>RelC.length k) s1 (Nat.min ys.length len)
   have e1:ys.take (Nat.min ys.length len)=ys.take len:=by
    rw[show Nat.min ys.length len=min len ys.length from Nat.min_comm _ _,←List.take_take,List.take_length]
   rwa[e1]at this
  cases ra with
  | @win _ _ _ _ a cap n o e' ha g1 g2 g3=>
   have hee:e'=e:=by
    unfold splice at hsp
    split at hsp
    ·rename_i hb
     rw[hb]at ha
     split at hsp
     ·split at hsp
      ·rename_i q;subst q
       simp only[arrE,Option.some.injEq,Prod.mk.injEq]at ha;exact ha.2.2.symm
      ·cases hsp
     ·cases hsp
    ·rename_i t0 x0 hb
     rw[n_getV,Option.bind_eq_some_iff]at hsp
     obtain⟨⟨t2,z⟩,hz,hsp⟩:=hsp
     rw[hb]at ha
     simp only[arrE]at ha
     split at ha
     ·rename_i o' n' e2 ho
      injection ha with ha;injection ha with ha1 ha;injection ha with ha2 ha3
      obtain⟨q1,q2⟩:=off_of_get (x:=x0) ho
      rw[hz]at q2
      injection q2 with q2;injection q2 with q3 q4
      subst q3
      simp only at hsp
      split at hsp
      ·rename_i q;rw[←ha3,q]
      ·cases hsp
     ·cases ha
    ·cases hsp
   subst hee
   rcases splice_ok hs ha (by rw[List.length_take];omega) hrow hsp with⟨k1,k2,k3⟩|⟨k1,w',k2,k3,k4⟩
   ·subst k3
    rw[k2]at s3
    refine⟨_,w,L,M,run_copy hu hEb.sz (s2 w) s3 ?_, .v relV_i64,hs,Step.refl _ _ _ _⟩
    cases a<;>rfl
   ·refine⟨_,w',L,M,run_copy hu hEb.sz (s2 w) s3 ?_, .v relV_i64,k3,k4⟩
    rcases g3 with g3|g3
    ·subst g3
     have:news.take (Nat.min ys.length 0*e'.size)=[]:=by rw[show Nat.min ys.length 0=0 from Nat.min_zero _];simp
     rw[this]at k2⊢
     have hw:w'=w:=by injection k2 with _ k2;exact k2.symm
     subst hw
     cases a<;>rfl
    ·subst g3;exact k2
 ·rename_i b
  rw[n_rowOf,Option.bind_eq_some_iff]at h
  obtain⟨l,hl,h⟩:=h
  rw[n_elemsOf,Option.bind_eq_some_iff]at h
  obtain⟨ys,hys,h⟩:=h
  rw[n_splice,Option.bind_eq_some_iff]at h
  obtain⟨H1,hsp,h⟩:=h
  injection h with h;injection h with h1 h2;subst h1 h2
  obtain⟨news,s1,s2,s3⟩:=source_ok hs hys rb
  have s3:=s3 w rfl (Nat.min ys.length l.length) (Nat.min_le_left _ _)
  have hrow:RowR (fun y u=>RelC w M e y u) (ys.take l.length) (news.take (Nat.min ys.length l.length*e.size)):=by
   have:=RowR.take (fun _ _ k=>RelC.length k) s1 (Nat.min ys.length l.length)
   have e1:ys.take (Nat.min ys.length l.length)=ys.take l.length:=by
    rw[show Nat.min ys.length l.length=min l.length ys.length from Nat.min_comm _ _,←List.take_take,List.take_length]
   rwa[e1]at this
  obtain⟨s,hb,hlv⟩:=rowOf_inv hl
  have ha:arrE (hget H b) []=some (l.length,0,e):=by rw[hb];rfl
  rcases splice_ok hs ha (by rw[List.length_take];omega) hrow hsp with⟨k1,k2,k3⟩|⟨k1,w',k2,k3,k4⟩
  ·subst k3
   rw[k2]at s3
   rcases own_cells hs hb hlv ra with⟨q1,q2,q3⟩|⟨q0,_⟩
   ·subst q3
    have q2':l=[]:=q2
    rw[q2']at s3⊢
    exact⟨_,w,L,M,run_copy hu hEb.sz (s2 w) s3 rfl, .v relV_i64,hs,Step.refl _ _ _ _⟩
   ·rw[k1]at q0;cases q0
  ·rcases own_cells hs hb hlv ra with⟨q1,q2,q3⟩|⟨q0,q1,q2,us,cap,q3,_⟩
   ·rw[k1]at q1;cases q1
   ·subst q3
    refine⟨_,w',L,M,run_copy hu hEb.sz (s2 w) s3 ?_, .v relV_i64,k3,k4⟩
    rw[q2]at k2
    simpa using k2
 ·cases h
end
end Ev
end
section
namespace Ev
open Go
section
variable {P : Program} {H : Heap} {L : Nat -> Loc} {w : World} {M : Nat -> Prop}
theorem RelL.nil:RelL P H L w M [] []:=⟨rfl,fun i x v hx=>by simp at hx⟩
theorem RelL.one1{x:DV}{v:Value}(h:RelD P H L w M x v):RelL P H L w M [x] [v]:=by
 refine⟨rfl,fun i y u hy hu=> ?_⟩
 cases i with
 |zero=>simp at hy hu;subst hy hu;exact h
 |succ i=>simp at hy
theorem cellsV_ok: ∀ {t:Ty} {x:Val t} {us:List Value},RelC w M t x us->RelL P H L w M (cellsV t x) us:=by
 intro t
 induction t with
 |unit=>intro x us h;simp only[RelC]at h;subst h;exact .nil
 |pair a b iha ihb=>
  intro x us h
  simp only[RelC]at h
  obtain⟨u,v,rfl,h1,h2⟩:=h
  simp only[cellsV]
  exact(iha h1).app (ihb h2)
 |arr n e ih=>
  intro x us h
  simp only[RelC]at h
  simp only[cellsV]
  generalize (x:Vector (Val e) n).toList=l at h
  induction h with
  |nil=>exact .nil
  |cons a _ ihr=>rw[List.flatMap_cons];exact(ih a).app ihr
 |_=>intro x us h
     have hl:=h.length
     simp only[cellsV]
     obtain⟨u,rfl⟩:=List.length_eq_one_iff.1 (hl.trans (by rfl))
     exact .one1 (.v (relV_leaf rfl h))
theorem zeroC_ok: ∀t:Ty,RelL P H L w M (zeroC t) t.zeroC:=by
 intro t
 induction t with
 |unit=>exact .nil
 |pair a b iha ihb=>exact iha.app ihb
 |arr n e ih=>
  simp only[zeroC,Ty.zeroC]
  induction n with
  |zero=>exact .nil
  |succ n ihn=>rw[List.replicate_succ,List.replicate_succ,List.flatten_cons,List.flatten_cons];exact ih.app ihn
 |sl e=>exact .one1 .nils
 |_=>exact .one1 (.v (relV_leaf rfl (zero_rel w M _)))
theorem zeroC_one(t:Ty): ∀u∈t.zeroC,one1 u=true:=fun u hu=>(zero_rel (default:World) (fun _=>False) t).one u hu
theorem zeroC_len(t:Ty):t.zeroC.length=t.size:=(zero_rel (default:World) (fun _=>False) t).length
theorem asC_ok{t:Ty}{x:DV}{ys:List DV}{v:Value}(h:asC t x some=some ys)(r:RelD P H L w M x v):RelL P H L w M ys v.cells.toList∧(∀u∈v.cells.toList,one1 u=true)∧v.cells.toList.length=t.size:=by
 have leaf: ∀ {x:DV},RelD P H L w M x v->cond (!t.agg&&cellD x) (some [x]) none=some ys->RelL P H L w M ys v.cells.toList∧(∀u∈v.cells.toList,one1 u=true)∧v.cells.toList.length=t.size:=by
  intro x r h
  obtain⟨hc,h⟩:=cond_some h
  injection h with h;subst h
  simp only[Bool.and_eq_true,Bool.not_eq_true']at hc
  have ho:=cellD_ok hc.2 r
  rw[cells_one ho]
  exact⟨.one1 r,by simpa using ho,(size_leaf hc.1).symm⟩
 unfold asC at h
 split at h
 ·rename_i t' y
  split at h
  ·rename_i he;subst he
   injection h with h;subst h
   have hr:=r.vinv.cells
   exact⟨cellsV_ok hr,hr.one,hr.length⟩
  ·cases h
 ·rename_i l
  obtain⟨hc,h⟩:=cond_some h
  injection h with h;subst h
  simp only[Bool.and_eq_true]at hc
  cases r with
  | @agg _ cs hl ho hr=>
   refine⟨⟨by simpa[Value.cells]using hl,fun i x v hx hv=>hr i x v hx (by simpa[Value.cells]using hv)⟩,by simpa[Value.cells]using ho,?_⟩
   have:=nbeq.1 hc.2
   simp[Value.cells];omega
 ·exact leaf r h
theorem new_cells{nm sz:Nat}{l:List DV}{vs:Array Value}{us rest:List Value}(hs:HRel P H L w M)(hn:nm<H.length)(hg:hget H nm= .gone)(el:TypeId)(fz:Nat×Nat)(hfz: ∀o,o<vs.size->(decide (fz.1<=o)&&decide (o<fz.2))=false)
 (hv:vs.toList=us++rest) (hr:RelL P H L w M l us) (ho: ∀v∈vs.toList,one1 v=true) (h0:sz=0->rest=[]):
 ∃L' M',L' nm=⟨w.heap.size,0,vs.size,false⟩∧hget (hset H nm (.cells .rw sz l)) nm= .cells .rw sz l∧HRel P (hset H nm (.cells .rw sz l)) L' (w.alloc (.cells vs el fz)) M'∧Step H L w M (hset H nm (.cells .rw sz l)) L' (w.alloc (.cells vs el fz)) M':=by
 have hlen:vs.size=us.length+rest.length:=by have:=congrArg List.length hv;simpa using this
 obtain⟨h1,h2⟩:=hs.new (e:= .cells .rw sz l) hn hg trivial el fz (n:=vs.size) rfl hfz ho (fun w' M' H' L' hk hM hext hb=>⟨rfl,lt_of_block hb,rfl,by show l.length<=vs.size;rw[hr.1];omega,fun q=>by show l.length=vs.size;rw[hr.1,hlen,h0 q];simp,us,cells_of (rest:=rest) hb hv,fun u hu=>ho u (by rw[hv];simp[hu]),hr.mono hk hM hext⟩)
 exact⟨_,_,updL_same _ _ _,by rw[hget_hset,if_pos ⟨rfl,hn⟩],h1,h2⟩
theorem new_objC{nm:Nat}{l:List DV}{vs:Array Value}(hs:HRel P H L w M)(hn:nm<H.length)(hg:hget H nm= .gone)(el:TypeId)(hr:RelL P H L w M l vs.toList)(ho: ∀v∈vs.toList,one1 v=true):
 ∃L' M',RelD P (hset H nm (.cells .rw 0 l)) L' (w.alloc (.cells vs el)) M' (.ptr nm [.idx 0]) (.pointer (some ⟨w.heap.size,0,none⟩))∧HRel P (hset H nm (.cells .rw 0 l)) L' (w.alloc (.cells vs el)) M'∧Step H L w M (hset H nm (.cells .rw 0 l)) L' (w.alloc (.cells vs el)) M':=by
 obtain⟨L',M',h1,h2,h3,h4⟩:=new_cells (sz:=0) (us:=vs.toList) (rest:=[]) hs hn hg el (0,0) (fun o _=>by simp) (by simp) hr ho (fun _=>rfl)
 refine⟨L',M',?_,h3,h4⟩
 have:=RelD.ptrx (P:=P) (L:=L') (w:=w.alloc (.cells vs el)) (M:=M') (o:=0) h2 (by omega)
 rw[h1]at this
 exact this
theorem new_rowC{nm sz cap:Nat}{l:List DV}{vs:Array Value}{us rest:List Value}(hs:HRel P H L w M)(hn:nm<H.length)(hg:hget H nm= .gone)(el:TypeId)(fz:Nat×Nat)(hfz: ∀o,o<vs.size->(decide (fz.1<=o)&&decide (o<fz.2))=false)
 (hv:vs.toList=us++rest) (hr:RelL P H L w M l us) (ho: ∀v∈vs.toList,one1 v=true) (h0:1<=sz) (hc:l.length/sz<=cap) (hsz:cap*sz<=vs.size):
 ∃L' M',RelD P (hset H nm (.cells .rw sz l)) L' (w.alloc (.cells vs el fz)) M' (.own nm) (.slice (some ⟨w.heap.size,0,none⟩) (l.length/sz) cap)∧HRel P (hset H nm (.cells .rw sz l)) L' (w.alloc (.cells vs el fz)) M'∧Step H L w M (hset H nm (.cells .rw sz l)) L' (w.alloc (.cells vs el fz)) M':=by
 obtain⟨L',M',h1,h2,h3,h4⟩:=new_cells (sz:=sz) hs hn hg el fz hfz hv hr ho (fun q=>by omega)
 refine⟨L',M', .ownc h2 ?_,h3,h4⟩
 rw[h1]
 exact⟨rfl,rfl,cap,rfl,hc,hsz⟩
theorem alloc_C{C:Ctx}(hC:CtxTy P C){T:TypeId}{nm:Nat}(hs:HRel P H L w M)(hn:nm<H.length)(hg:hget H nm= .gone){t:Ty}(hT:C.ty T=some t):
 DoneV P (Instr.alloc T true (.tuple #[])) H L w M (hset H nm (.cells .rw 0 (zeroC t))) (.ptr nm [.idx 0]):=by
 obtain⟨z,hz,hzc⟩:=run_zeroValue (P:=P) (w:=w) (hC.ty T t hT).1.base.zero
 obtain⟨L',M',h1,h2,h3⟩:=new_objC (l:=zeroC t) (vs:=z.cells) hs hn hg T (by rw[hzc];exact zeroC_ok t) (by rw[hzc];exact zeroC_one t)
 exact⟨_,_,L',M',by simp only[Instr.alloc,Sem.run_bind,hz,Result.andThen_ok,run_newVar,Sem.run_pure],h1,h2,h3⟩
theorem box_C{T:TypeId}{nm:Nat}{t:Ty}{x:DV}{l:List DV}{v:Value}(hs:HRel P H L w M)(hn:nm<H.length)(hg:hget H nm= .gone)(h:asC t x some=some l)(r:RelD P H L w M x v):
 DoneV P (Instr.box T v) H L w M (hset H nm (.cells .rw 0 l)) (.ptr nm [.idx 0]):=by
 obtain⟨h1,h2,h3⟩:=asC_ok h r
 obtain⟨L',M',k1,k2,k3⟩:=new_objC (vs:=v.cells) hs hn hg T h1 h2
 exact⟨_,_,L',M',by simp only[Instr.box,Sem.run_bind,Result.andThen_ok,run_newVar,Sem.run_pure],k1,k2,k3⟩
theorem RelL.lput{l ys:List DV}{us vs:List Value}(h:RelL P H L w M l us)(k:RelL P H L w M ys vs)(o:Nat):RelL P H L w M (lput l o ys) (us.take o++vs++us.drop (o+vs.length)):=by
 unfold Ev.lput
 rw[k.1]
 exact((h.take o).app k).app (h.drop _)
theorem fldOff_ok: ∀ {t:Ty} {i d:Nat},fldOff t i=some d-> ∃t',offV t [.fld i]=some (d,t')
 | .pair a b,0,d,h=>by simp only[fldOff,Option.some.injEq]at h;subst h;exact⟨a,by simp only[offV,offV_nil]⟩
 | .pair a b,i+1,d,h=>by
  simp only[fldOff]at h
  split at h
  ·rename_i d' hd
   injection h with h;subst h
   obtain⟨t',ho⟩:=fldOff_ok hd
   exact⟨t',by simp only[offV,ho,Option.map_some]⟩
  ·cases h
 | .i64,_,_,h| .u8,_,_,h| .u32,_,_,h| .u64,_,_,h| .bool,_,_,h| .str,_,_,h| .unit,_,_,h| .sl _,_,_,h| .arr _ _,_,_,h| .op _,_,_,h=>by simp only[fldOff,reduceCtorEq]at h
theorem fld_both{t t':Ty}{i d:Nat}(h1:tyAt t [.fld i]=some t')(h2:fldOff t i=some d):offV t [.fld i]=some (d,t'):=by
 obtain⟨o,k1⟩:=fld_of_ty h1
 obtain⟨t2,k2⟩:=fldOff_ok h2
 rw[k1]at k2
 injection k2 with k2;injection k2 with e1 e2
 rw[k1,e1]
theorem layC_ok(place:Nat->Option (Nat×Nat)){t:Ty}(hp: ∀i o t',offV t [.fld i]=some (o,t')->place i=some (o,t'.size)): ∀(ps:List (Nat×DV)) (qs:List (Nat×Value)) {l z:List DV} {cv:Array Value},
 RelL P H L w M l cv.toList->(∀u∈cv.toList,one1 u=true)->cv.size=t.size->PartsR P H L w M ps qs->layC t l ps some=some z-> ∃cv':Array Value,Instr.fill place cv qs=some cv'∧RelL P H L w M z cv'.toList∧(∀u∈cv'.toList,one1 u=true):=by
 intro ps
 induction ps with
 |nil=>
  intro qs l z cv hr ho hsz hq h
  cases qs with
  |cons=>exact hq.elim
  |nil=>simp only[layC,Option.some.injEq]at h;subst h;exact⟨cv,rfl,hr,ho⟩
 |cons p ps ih=>
  intro qs l z cv hr ho hsz hq h
  cases qs with
  |nil=>exact hq.elim
  |cons q qs=>
   obtain⟨i,y⟩:=p
   obtain⟨j,v⟩:=q
   obtain⟨q1,q2,q3⟩:=hq
   dsimp only at q1 q2
   subst q1
   simp only[layC]at h
   split at h
   ·rename_i t' d h1 h2
    have hoff:=fld_both h1 h2
    rw[n_asC,Option.bind_eq_some_iff]at h
    obtain⟨us,hus,h⟩:=h
    obtain⟨k1,k2,k3⟩:=asC_ok hus q2
    have hle:=offV_le hoff
    obtain⟨cv1,f1,f2,f3⟩:=fill_step place (qs:=qs) (cv:=cv) (hp i d t' hoff) k3 (by omega)
    obtain⟨cv',g1,g2,g3⟩:=ih qs (cv:=cv1) (by rw[f2];exact hr.lput k1 d) (by
     rw[f2]
     intro u hu
     simp only[List.mem_append]at hu
     rcases hu with(hu|hu)|hu
     ·exact ho u (List.mem_of_mem_take hu)
     ·exact k2 u hu
     ·exact ho u (List.mem_of_mem_drop hu)) (by omega) q3 h
    exact⟨cv',by rw[f1];exact g1,g2,g3⟩
   ·cases h
theorem build_C{C:Ctx}(hC:CtxTy P C){T:TypeId}{t:Ty}{ps:List (Nat×DV)}{qs:Array (Nat×Value)}{z:List DV}(hs:HRel P H L w M)(hT:C.ty T=some t)(hst:t.st=true)(hq:PartsR P H L w M ps qs.toList)
 (h:layC t (zeroC t) ps some=some z):DoneV P (Instr.build T qs) H L w M H (.agg z):=by
 obtain⟨hok,_⟩:=hC.ty T t hT
 obtain⟨fs,hu,hall⟩:=st_fields hok hst
 obtain⟨pl,hpl,hpi⟩:=fields_run (P:=P) (w:=w) fs.toList hall
 obtain⟨zv,hzv,hzc⟩:=run_zeroValue (P:=P) (w:=w) hok.base.zero
 obtain⟨cv,f1,f2,f3⟩:=layC_ok (P:=P) (fun i=>pl.toArray[i]?) (t:=t) (fun i o t' ho=>by
  obtain⟨fs',fl,k1,k2,k3,k4,k5⟩:=struct_ok hok ho
  rw[hu]at k1;injection k1 with k1;injection k1 with k1;subst k1
  have:=hpi i fl _ (by simpa using k2) k4.base.sz
  rw[k3]at this
  simpa using this) ps qs.toList (cv:=zv.cells) (by rw[hzc];exact zeroC_ok t) (by rw[hzc];exact zeroC_one t) (by rw[←Array.length_toList,hzc];exact zeroC_len t) hq h
 have hm:(fs.mapM fun f=>(do pure (f.offset,←Go.sizeOf f.type):Sem (Nat×Nat))).run P w= .ok pl.toArray w:=by
  rw[Array.mapM_eq_mapM_toList]
  simp only[Sem.run_map,hpl,Result.andThen_ok]
 exact⟨.agg cv,w,L,M,by simp only[Instr.build,Sem.run_bind,hzv,Result.andThen_ok,run_und hu,hm,f1,Sem.run_pure], .agg (by simpa using f2.1) f3 (fun i x v hx hv=>f2.2 i x v hx (by simpa using hv)),hs,Step.refl _ _ _ _⟩
theorem buildC_ok{e:Ty}: ∀(ps:List (Nat×DV)) (qs:List (Nat×Value)) (k:Nat) {done l:List DV} {us rest:List Value} {cv:Array Value},
 inOrder k ps=true->cv.toList=us++rest->RelL P H L w M done us->(∀u∈us,one1 u=true)->us.length=k*e.size->rest.length=ps.length*e.size->PartsR P H L w M ps qs->buildC e ps some=some l->
 ∃cv':Array Value,Instr.fill (fun i=>some (i*e.size,e.size)) cv qs=some cv'∧RelL P H L w M (done++l) cv'.toList∧(∀u∈cv'.toList,one1 u=true)∧cv'.size=cv.size:=by
 intro ps
 induction ps with
 |nil=>
  intro qs k done l us rest cv _ hcv hr ho _ hl hq h
  cases qs with
  |cons=>exact hq.elim
  |nil=>
   simp only[buildC,Option.some.injEq]at h
   subst h
   have:rest=[]:=List.length_eq_zero_iff.1 (by simpa using hl)
   subst this
   rw[List.append_nil]at hcv
   exact⟨cv,rfl,by rw[List.append_nil,hcv];exact hr,by rw[hcv];exact ho,rfl⟩
 |cons p ps ih=>
  intro qs k done l us rest cv hio hcv hr ho hul hl hq h
  cases qs with
  |nil=>exact hq.elim
  |cons q qs=>
   obtain⟨i,y⟩:=p
   obtain⟨j,v⟩:=q
   obtain⟨q1,q2,q3⟩:=hq
   dsimp only at q1 q2
   subst q1
   simp only[inOrder]at hio
   cases hik:Nat.beq i k with
   |false=>rw[hik]at hio;cases hio
   |true=>
    rw[hik]at hio
    simp only[cond_true]at hio
    have hik:=nbeq.1 hik
    subst hik
    simp only[buildC]at h
    rw[n_asC,Option.bind_eq_some_iff]at h
    obtain⟨u,hu,h⟩:=h
    rw[n_buildC,Option.bind_eq_some_iff]at h
    obtain⟨l1,hl1,h⟩:=h
    injection h with h;subst h
    obtain⟨k1,k2,k3⟩:=asC_ok hu q2
    have hsz:cv.size=us.length+rest.length:=by have:=congrArg List.length hcv;simpa using this
    simp only[List.length_cons]at hl
    rw[Nat.succ_mul]at hl
    obtain⟨cv1,f1,f2,f3⟩:=fill_step (fun i=>some (i*e.size,e.size)) (i:=i) (off:=i*e.size) (size:=e.size) (v:=v) (qs:=qs) (cv:=cv) rfl k3 (by omega)
    have hcv1:cv1.toList=(us++v.cells.toList)++rest.drop e.size:=by
     rw[f2,hcv,List.take_append_of_le_length (by omega),List.take_of_length_le (by omega),List.drop_append,List.drop_of_length_le (by omega),k3,show i*e.size+e.size-us.length=e.size by omega,List.nil_append]
    obtain⟨cv',g1,g2,g3,g4⟩:=ih qs (i+1) hio hcv1 (hr.app k1) (by
     intro x hx
     rcases List.mem_append.1 hx with hx|hx
     ·exact ho x hx
     ·exact k2 x hx) (by rw[List.length_append,k3,hul,Nat.succ_mul]) (show(rest.drop e.size).length=ps.length*e.size by rw[List.length_drop];omega) q3 hl1
    refine⟨cv',by rw[f1];exact g1,?_,g3,by omega⟩
    rw[List.append_assoc]at g2
    exact g2
theorem buildSlice_C{C:Ctx}(hC:CtxTy P C){T:TypeId}{n nm:Nat}{e:Ty}{ps:List (Nat×DV)}{qs:Array (Nat×Value)}{l:List DV}(hs:HRel P H L w M)(hnm:nm<H.length)(hg:hget H nm= .gone)(hT:C.ty T=some (.sl e))(hle:n*e.size<=16777216)(hio:inOrder 0 ps=true)(hn:ps.length=n)(h1:1<=e.size)
 (hq:PartsR P H L w M ps qs.toList) (h:buildC e ps some=some l):DoneV P (Instr.buildSlice T n qs) H L w M (hset H nm (.cells .rw e.size l)) (.own nm):=by
 obtain⟨⟨hb,E,hu,hE,_⟩,_⟩:=hC.ty T _ hT
 have hEb:=TyOk.base hE
 obtain⟨zv,hzv,hzc⟩:=run_zeroValue (P:=P) (w:=w) hEb.zero
 have hzs:zv.cells.size=e.size:=by have:=zeroC_len e;rw[←hzc]at this;simpa using this
 obtain⟨cv,f1,f2,f3,f4⟩:=buildC_ok (P:=P) ps qs.toList 0 (done:=[]) (us:=[]) (rest:=((Array.range (n*zv.cells.size)).map fun i=>zv.cells[i%zv.cells.size]!).toList) (cv:=(Array.range (n*zv.cells.size)).map fun i=>zv.cells[i%zv.cells.size]!) hio rfl .nil (by simp) (by simp) (by rw[hn];simp[hzs]) hq h
 rw[List.nil_append]at f2
 have hcs:cv.size=n*e.size:=by rw[f4];simp[hzs]
 have hll:l.length=n*e.size:=by rw[f2.1];simpa using hcs
 have hdiv:l.length/e.size=n:=by rw[hll];exact Nat.mul_div_cancel _ h1
 obtain⟨L',M2,g1,g2,g3⟩:=new_rowC (cap:=n) (us:=cv.toList) (rest:=[]) hs hnm hg E (0,0) (fun o _=>by simp) (by simp) f2 f3 h1 (by omega) (by omega)
 rw[hdiv]at g1
 exact⟨_,_,L',M2,buildSlice_run hu hEb.sz hle hzv hzs f1,g1,g2,g3⟩
theorem zerosC_rel(e:Ty): ∀n:Nat,RelL P H L w M (List.replicate n (zeroC e)).flatten (List.replicate n e.zeroC).flatten
 |0=> .nil
 |n+1=>by rw[List.replicate_succ,List.replicate_succ,List.flatten_cons,List.flatten_cons];exact(zeroC_ok e).app (zerosC_rel e n)
theorem makeSlice_C{C:Ctx}(hC:CtxTy P C){T:TypeId}{nm:Nat}{e:Ty}{c:Int}(hs:HRel P H L w M)(hnm:nm<H.length)(hg:hget H nm= .gone)(hT:C.ty T=some (.sl e))(hc:0<=c∧c<=4294967296∧1<=e.size):
 DoneV P (Instr.makeSlice T (.int .i64 c) (.int .i64 c)) H L w M (hset H nm (.cells .rw e.size (List.replicate c.toNat (zeroC e)).flatten)) (.own nm):=by
 obtain⟨⟨hb,E,hu,hE,_⟩,_⟩:=hC.ty T _ hT
 have hEb:=TyOk.base hE
 obtain⟨zv,hzv,hzc⟩:=run_zeroValue (P:=P) (w:=w) hEb.zero
 have hzs:zv.cells.size=e.size:=by have:=zeroC_len e;rw[←hzc]at this;simpa using this
 obtain⟨by_,hby,hbl,_⟩:=hEb.by_
 obtain⟨zi,hzi,hbz⟩:=run_bytes hby
 have hcw:IntKind.i64.wrap c=c:=wrap64_id (by omega) (by omega)
 have hrl:=zerosC_rel (P:=P) (H:=H) (L:=L) (w:=w) (M:=M) e c.toNat
 have hln:(List.replicate c.toNat (zeroC e)).flatten.length=c.toNat*e.size:=by rw[hrl.1,flat_len,zeroC_len]
 have hdiv:(List.replicate c.toNat (zeroC e)).flatten.length/e.size=c.toNat:=by rw[hln];exact Nat.mul_div_cancel _ hc.2.2
 have hone: ∀v∈(List.replicate c.toNat e.zeroC).flatten,one1 v=true:=by
  intro v hv
  obtain⟨l,hl,hv⟩:=List.mem_flatten.1 hv
  rw[List.eq_of_mem_replicate hl]at hv
  exact zeroC_one e v hv
 obtain⟨L',M2,g1,g2,g3⟩:=new_rowC (cap:=c.toNat) (l:=(List.replicate c.toNat (zeroC e)).flatten) (vs:=(Array.range (c.toNat*zv.cells.size)).map fun i=>zv.cells[i%zv.cells.size]!) (us:=(List.replicate c.toNat e.zeroC).flatten) (rest:=[]) hs hnm hg E (0,0) (fun o _=>by simp) (by rw[zeros_flat,hzc];simp)
  hrl (by rw[zeros_flat,hzc];exact hone) hc.2.2 (by omega) (by simp[hzs])
 rw[hdiv]at g1
 refine⟨_,_,L',M2,?_,g1,g2,g3⟩
 have hc2: ¬(c<0):=by omega
 have hlc: ¬(c>c):=by omega
 have hb2: ¬((zi.bytes:Int)*c>2^48):=by
  have e1:(2:Int)^48=281474976710656:=by decide
  have:(zi.bytes:Int)*c<=16384*4294967296:=Int.mul_le_mul (by omega) (by omega) (by omega) (by omega)
  rw[e1];omega
 simp only[Instr.makeSlice,Sem.run_bind,run_und hu,Result.andThen_ok,asInt,asIntOf,Sem.run_pure,run_tinfo hzi,hcw,decide_eq_false hc2,decide_eq_false hlc,decide_eq_false hb2,Bool.or_false,Bool.false_or,
  Bool.false_eq_true,if_false,run_askRoom,run_sizeOf hEb.sz]
 by_cases h0':c.toNat*e.size=0
 ·have:((Array.range 0).map (fun i=>(#[]:Array Value)[i%(#[]:Array Value).size]!))=((Array.range (c.toNat*zv.cells.size)).map (fun i=>zv.cells[i%zv.cells.size]!)):=by rw[hzs,h0'];simp[Array.range]
  simp only[h0',if_true,Sem.run_bind,Sem.run_pure,Result.andThen_ok]
  rw[this]
  simp only[run_newRow,Result.andThen_ok]
 ·simp only[h0',if_false,Sem.run_bind,Sem.run_pure,Result.andThen_ok,hzv]
  rw[←hzs]
  simp only[run_newRow,Result.andThen_ok]
end
end Ev
end
section
namespace Ev
open Go
section
variable {P : Program} {H : Heap} {L : Nat -> Loc} {w : World} {M : Nat -> Prop}
theorem getC_ok{T:TypeId}{t:Ty}{l:List DV}{y:DV}{B o:Nat}{us:List Value}(hT:TyOk P T t)(hc:CellsAt w B o us)(ho: ∀u∈us,one1 u=true)(hr:RelL P H L w M l us)(hle:t.size<=l.length)(h:getC t l some=some y):
 ∃v,(loadVar T ⟨B,o,none⟩).run P w= .ok v w∧RelD P H L w M y v:=by
 unfold getC at h
 cases ha:t.agg with
 |true=>
  rw[ha,cond_true]at h
  injection h with h;subst h
  have hl:(us.take t.size).length=t.size:=by rw[List.length_take,←hr.1];omega
  have:=run_loadCells_list (P:=P) (w:=w) ⟨B,o,none⟩ (us.take t.size) (fun j v hj=>by
   rw[add_none]
   refine hc j v ?_
   rw[List.getElem?_take]at hj
   split at hj
   ·exact hj
   ·cases hj)
  rw[hl]at this
  have hr':=hr.take t.size
  exact⟨.agg (us.take t.size).toArray,by simp[loadVar,run_isAgg hT.isAgg,ha,run_sizeOf hT.base.sz,this], .agg (by simpa using hr'.1) (fun u hu=>ho u (List.mem_of_mem_take (by simpa using hu))) (fun i x v hx hv=>hr'.2 i x v hx (by simpa using hv))⟩
 |false=>
  rw[ha,cond_false]at h
  cases l with
  |nil=>cases h
  |cons x l=>
   injection h with h;subst h
   cases us with
   |nil=>have:=hr.1;simp at this
   |cons u us=>
    have hu:=hc 0 u rfl
    rw[Nat.add_zero]at hu
    exact⟨u,by simp only[loadVar,Sem.run_bind,run_isAgg hT.isAgg,ha,Result.andThen_ok,Bool.false_eq_true,if_false,run_load_cell hu],hr.tailC.1⟩
theorem load_C{C:Ctx}(hC:CtxTy P C){T:TypeId}{b o sz:Nat}{s:Stat}{l:List DV}{y:DV}{v:Value}(hs:HRel P H L w M)(hb:hget H b= .cells s sz l)(hlv:s.live=true)(h:loadC C T l o some=some y)(r:RelD P H L w M (.ptr b [.idx o]) v):Pur P H L w M (Instr.loadAt T v) y:=by
 obtain⟨q0,q1,q2,q3,_,us,q4,q5,q6⟩:=cells_at hs hb hlv
 obtain⟨rfl,ho⟩:=ptr_cells hs hb hlv r
 have hc:CellsAt w (L b).blk o (us.drop o):=by have:=q4.drop o;rwa[Nat.zero_add]at this
 unfold loadC at h
 split at h
 ·rename_i t hT
  obtain⟨hle,h⟩:=cond_some h
  have hle:=nble.1 hle
  obtain⟨u,k1,k2⟩:=getC_ok (hC.ty T t hT).1 hc (fun u hu=>q5 u (List.mem_of_mem_drop hu)) (q6.drop o) (by rw[List.length_drop];omega) h
  exact⟨u,run_loadAt k1,k2⟩
 ·obtain⟨hcell,h⟩:=cond_some h
  have hr:=q6.drop o
  cases hd:l.drop o with
  |nil=>rw[hd]at h;cases h
  |cons x l'=>
   rw[hd]at h hr
   injection h with h;subst h
   cases hu:us.drop o with
   |nil=>rw[hu]at hr;have:=hr.1;simp at this
   |cons u us'=>
    rw[hu]at hr hc
    have:=hc 0 u rfl
    rw[Nat.add_zero]at this
    exact⟨u,run_loadAt (load_cellT (hC.cell T hcell) this),hr.tailC.1⟩
theorem store_C{C:Ctx}(hC:CtxTy P C){T:TypeId}{b o sz:Nat}{s:Stat}{l:List DV}{y:DV}{H2:Heap}{va vy:Value}(hs:HRel P H L w M)(hb:hget H b= .cells s sz l)(hlv:s.live=true)(h:storeC C T H b o s sz l y some=some H2)(ra:RelD P H L w M (.ptr b [.idx o]) va)(ry:RelD P H L w M y vy):
 ∃w' M',(Instr.storeAt T va vy).run P w= .ok () w'∧HRel P H2 L w' M'∧Step H L w M H2 L w' M':=by
 obtain⟨q0,q1,q2,q3,q3',us,q4,q5,q6⟩:=cells_at hs hb hlv
 obtain⟨rfl,ho⟩:=ptr_cells hs hb hlv ra
 have key: ∀ {ys:List DV},s= .rw->RelL P H L w M ys vy.cells.toList->(∀u∈vy.cells.toList,one1 u=true)->tsz P T=some vy.cells.toList.length->o+vy.cells.toList.length<=l.length->hset H b (.cells .rw sz (lput l o ys))=H2->
  ∃w' M',(Instr.storeAt T (.pointer (some ⟨(L b).blk,o,none⟩)) vy).run P w= .ok () w'∧HRel P H2 L w' M'∧Step H L w M H2 L w' M':=by
  rintro ys rfl hys hone hsz hle rfl
  have hrw:(hget H b).rw:=by rw[hb];trivial
  obtain⟨hbM,hoff,vs,el,fz,hblk,hvs,hfz,hones⟩:=hs.own b hrw q0
  obtain⟨w',c',d1,d2,d3,d4⟩:=storeCells_ok (P:=P) (L b).blk o el fz vy.cells.toList 0 vs w hblk (by omega) hone (fun i hi=>hfz i (by omega))
  rw[Nat.add_zero]at d3
  have hcs:c'.size=vs.size:=by have:=congrArg List.length d3;simp at this hle;omega
  obtain⟨rest,hrest⟩:=cells_prefix hblk q4
  have hll:(lput l o ys).length=l.length:=by
   unfold lput
   have:=hys.1
   simp only[List.length_append,List.length_take,List.length_drop];omega
  obtain⟨m1,m2⟩:=hs.write hrw q0 (e:= .cells .rw sz (lput l o ys)) (by rw[hb];exact⟨_,_,rfl,hll⟩) trivial d4.size d4.os d4.tape d4.output d4.other d2 (by omega) hfz (fun v hv=>by
   rw[d3]at hv
   simp only[List.mem_append]at hv
   rcases hv with(hv|hv)|hv
   ·exact hones v (List.mem_of_mem_take hv)
   ·exact hone v hv
   ·exact hones v (List.mem_of_mem_drop hv)) (fun H'' L'' hk hext=>⟨q0,by rw[d4.size];exact q1,q2,by rw[hll];exact q3,fun q=>by rw[hll];exact q3' q,_,cells_of (rest:=rest) d2 (by rw[d3,hrest,splice_pre (by rw[←q6.1];exact hle)]),fun u hu=>by
    simp only[List.mem_append]at hu
    rcases hu with(hu|hu)|hu
    ·exact q5 u (List.mem_of_mem_take hu)
    ·exact hone u hu
    ·exact q5 u (List.mem_of_mem_drop hu),(q6.lput hys o).mono hk (fun _ _ q=>q) hext⟩)
  exact⟨w',M,run_storeAt rfl hsz d1,m1,m2⟩
 unfold storeC at h
 split at h
 ·split at h
  ·rename_i t hT
   rw[n_asC,Option.bind_eq_some_iff]at h
   obtain⟨ys,hys,h⟩:=h
   obtain⟨hle,h⟩:=cond_some h
   injection h with h
   obtain⟨k1,k2,k3⟩:=asC_ok hys ry
   exact key rfl k1 k2 (by rw[k3];exact(hC.ty T t hT).1.base.sz) (by rw[k3];exact nble.1 hle) h
  ·obtain⟨hc,h⟩:=cond_some h
   injection h with h
   simp only[Bool.and_eq_true]at hc
   have h1:=cellD_ok hc.1.2 ry
   have e:=cells_one h1
   exact key rfl (by rw[e];exact .one1 ry) (by rw[e];simpa using h1) (by rw[e];exact(hC.cell T hc.1.1).sz) (by rw[e];exact nble.1 hc.2) h
 ·cases h
theorem fieldAddr_C{C:Ctx}(hC:CtxTy P C){T:TypeId}{b o sz f:Nat}{s:Stat}{l:List DV}{y:DV}{v:Value}(hs:HRel P H L w M)(hb:hget H b= .cells s sz l)(hlv:s.live=true)(h:fieldAddrC C T b o l f some=some y)(r:RelD P H L w M (.ptr b [.idx o]) v):Pur P H L w M (Instr.fieldAt T v f) y:=by
 obtain⟨q0,q1,q2,_⟩:=cells_at hs hb hlv
 obtain⟨rfl,ho⟩:=ptr_cells hs hb hlv r
 unfold fieldAddrC at h
 split at h
 ·rename_i t hT
  split at h
  ·rename_i d hd
   obtain⟨hle,h⟩:=cond_some h
   injection h with h;subst h
   obtain⟨t',hoff⟩:=fldOff_ok hd
   obtain⟨fs,fl,k1,k2,k3,k4,k5⟩:=struct_ok (hC.ty T t hT).1 hoff
   refine⟨_,run_fieldAt k1 k2 k4.base.sz k5,?_⟩
   have:=RelD.ptrx (P:=P) (L:=L) (w:=w) (M:=M) (o:=o+d) hb (nble.1 hle)
   rw[q2,Nat.zero_add]at this
   rw[k3];exact this
  ·cases h
 ·cases h
theorem idxs_inv: ∀ {n j:Nat} {i:Int} {m:Nat},idxs n j i some=some m->i=(m:Int)∧j<=m∧m<j+n
 |n+1,j,i,m,h=>by
  simp only[idxs]at h
  split at h
  ·rename_i e
   injection h with h;subst h
   exact⟨e,by omega,by omega⟩
  ·obtain⟨h1,h2,h3⟩:=idxs_inv h
   exact⟨h1,by omega,by omega⟩
theorem index_C{C:Ctx}(hC:CtxTy P C){T:TypeId}{b sz:Nat}{s:Stat}{l:List DV}{i:Int}{y:DV}{v:Value}{k:IntKind}(hs:HRel P H L w M)(hb:hget H b= .cells s sz l)(hlv:s.live=true)(h:indexC C T b sz l i some=some y)(r:RelD P H L w M (.own b) v):Pur P H L w M (Instr.indexAt T v (.int k i)) y:=by
 obtain⟨q0,q1,q2,_⟩:=cells_at hs hb hlv
 obtain⟨cap,rfl,g1,g2⟩:=own_cellsC hb r
 unfold indexC at h
 split at h
 ·rename_i e hT
  obtain⟨hc,h⟩:=cond_some h
  simp only[Bool.and_eq_true]at hc
  have c1:=nbeq.1 hc.1
  have c2:=nble.1 hc.2
  subst c1
  rw[n_idxs,Option.bind_eq_some_iff]at h
  obtain⟨m,hm,hy⟩:=h
  obtain⟨rfl,_,hlt⟩:=idxs_inv hm
  injection hy with hy;subst hy
  obtain⟨⟨_,E,hu,hE,_⟩,_⟩:=hC.ty T _ hT
  have hr:=run_indexAt_sl (P:=P) (w:=w) (i:=(m:Int)) (k:=k) (c:=cap) (n:=l.length/e.size) (B:=(L b).blk) (off:=0) hu (TyOk.base hE).sz ⟨by omega,by omega⟩
  refine⟨_,hr,?_⟩
  have hle:m*e.size<=l.length:=Nat.le_trans (Nat.mul_le_mul_right _ (by omega)) (Nat.div_mul_le_self _ _)
  have:=RelD.ptrx (P:=P) (L:=L) (w:=w) (M:=M) (o:=m*e.size) hb hle
  rw[q2]at this
  exact this
 ·cases h
theorem indexArr_C{C:Ctx}(hC:CtxTy P C){T:TypeId}{b o sz:Nat}{s:Stat}{l:List DV}{i:Int}{y:DV}{v:Value}{k:IntKind}(hs:HRel P H L w M)(hb:hget H b= .cells s sz l)(hlv:s.live=true)(h:indexArrC C T b o l i some=some y)(r:RelD P H L w M (.ptr b [.idx o]) v):Pur P H L w M (Instr.indexAt T v (.int k i)) y:=by
 obtain⟨q0,q1,q2,_⟩:=cells_at hs hb hlv
 obtain⟨rfl,ho⟩:=ptr_cells hs hb hlv r
 unfold indexArrC at h
 split at h
 ·rename_i n e hT
  obtain⟨hc,h⟩:=cond_some h
  have hc:=nble.1 hc
  split at h
  ·rename_i hi
   injection h with h;subst h
   obtain⟨⟨_,E,hu,hE,_⟩,_⟩:=hC.ty T _ hT
   refine⟨_,run_indexAt_arr hu (TyOk.base hE).sz ⟨hi.1,hi.2⟩,?_⟩
   have hle:o+i.toNat*e.size<=l.length:=by
    have h1:i.toNat<=n:=by omega
    have:=Nat.mul_le_mul_right e.size h1
    omega
   have:=RelD.ptrx (P:=P) (L:=L) (w:=w) (M:=M) (o:=o+i.toNat*e.size) hb hle
   rw[q2,Nat.zero_add]at this
   exact this
  ·cases h
 ·cases h
theorem len_C{C:Ctx}(hC:CtxTy P C){T ty:TypeId}{e:Ty}{b sz:Nat}{s:Stat}{l:List DV}{v:Value}(hb:hget H b= .cells s sz l)(hT:C.ty T=some (.sl e))(r:RelD P H L w M (.own b) v):(Builtin.len_ #[T] ty #[v]).run P w= .ok (.int .i64 (l.length/sz:Nat)) w:=by
 obtain⟨cap,rfl,g1,g2⟩:=own_cellsC hb r
 obtain⟨⟨_,E,hu,hE,_⟩,_⟩:=hC.ty T _ hT
 simp only[Builtin.len_,List.getElem?_toArray,List.getElem?_cons_zero,Sem.run_bind,run_und hu,Result.andThen_ok]
 rfl
theorem findNow_ok{kk:IntKind}{n:Int}{y:DV}: ∀ {es:List MapEntry} {l:List (Int×FuncId)} (i:Nat),(es.map fun e=>(e.key,e.val))=(l.map fun q=>(Value.int .i64 q.1,Value.func (.func q.2) #[] #[]))->lookD l n=some y->
 ∃j f,Instr.findNow (.int kk) (.int .i64 n) es i=some (some (j, .func (.func f) #[] #[]))∧y= .tup [.fn f [] [], .v .bool true]
 |[],[],i,h,hy=>by cases hy
 |e::es,(a,f)::l,i,h,hy=>by
  simp only[List.map_cons,List.cons.injEq,Prod.mk.injEq]at h
  obtain⟨⟨h1,h2⟩,h3⟩:=h
  simp only[Instr.findNow,Instr.sameNow,h1,if_pos]
  unfold lookD at hy
  split at hy
  ·rename_i hn
   subst hn
   injection hy with hy
   simp only[BEq.rfl,h2]
   exact⟨i,f,rfl,hy.symm⟩
  ·rename_i hn
   have:(n==a)=false:=by simpa using hn
   simp only[this]
   exact findNow_ok (i+1) h3 hy
 |[],_::_,_,h,_=>by simp at h
 |_::_,[],_,h,_=>by simp at h
theorem lookup_ok{T:TypeId}{l:List (Int×FuncId)}{n:Int}{v:Value}{y:DV}(hT:MapOk P T)(h:lookD l n=some y)(r:RelD P H L w M (.mp l) v):Pur P H L w M (Instr.lookup T v (.int .i64 n) true) y:=by
 obtain⟨key,elem,kk,hu,hk,hz⟩:=hT
 cases r with
 | @mp _ r es ck h1 h2 h3 h4=>
  have hget:(getObj r).run P w= .ok (.map es ck) w:=by
   show(Sem.getObj r .pure).run P w=_
   simp only[Sem.run,h3]
  have hck:(Instr.checkKey es.isEmpty 10000 key (.int .i64 n)).run P w= .ok () w:=by
   show(Instr.checkKey es.isEmpty (9999+1) key (.int .i64 n)).run P w= .ok () w
   generalize 9999=m
   simp only[Instr.checkKey,Sem.run_bind,run_und hk,Result.andThen_ok,Sem.run_pure]
  obtain⟨j,f,g1,rfl⟩:=findNow_ok (kk:=kk) 0 h4 h
  refine⟨.tuple #[.func (.func f) #[] #[], .bool true],?_, .tup rfl fun i x v hx hv=> ?_⟩
  ·simp only[Instr.lookup,Sem.run_bind,run_und hu,Result.andThen_ok,hget,Sem.run_pure,hck,Instr.findKey,run_und hk,g1,if_true]
  ·match i with
   |0=>simp at hx hv;subst hx hv;exact .fn rfl (fun i x v hx=>by simp at hx) rfl (fun i x v hx=>by simp at hx)
   |1=>simp at hx hv;subst hx hv;exact .v relV_bool
   |i+2=>simp at hx
theorem field_C{C:Ctx}(hC:CtxTy P C){T:TypeId}{f:Nat}{l:List DV}{y:DV}{v:Value}(h:fieldC C T l f some=some y)(r:RelD P H L w M (.agg l) v):Pur P H L w M (Instr.field T v f) y:=by
 unfold fieldC at h
 split at h
 ·rename_i t hT
  split at h
  ·rename_i t' d h1 h2
   obtain⟨hl,h⟩:=cond_some h
   have hl:=nbeq.1 hl
   have hoff:=fld_both h1 h2
   obtain⟨fs,fl,k1,k2,k3,k4,k5⟩:=struct_ok (hC.ty T t hT).1 hoff
   have hle:=offV_le hoff
   cases r with
   | @agg _ cs hcs ho hr=>
    have hpart: ∃u,(part fl.type cs d).run P w= .ok u w∧RelD P H L w M y u:=by
     unfold getC at h
     cases ha:t'.agg with
     |true=>
      rw[ha,cond_true]at h
      injection h with h;subst h
      refine⟨.agg (cs.extract d (d+t'.size)),by simp[part,run_isAgg k4.isAgg,ha,run_sizeOf k4.base.sz], .agg ?_ ?_ ?_⟩
      ·simp only[List.length_take,List.length_drop,Array.size_extract];omega
      ·intro u hu
       rw[extract_list]at hu
       exact ho u (List.mem_of_mem_drop (List.mem_of_mem_take hu))
      ·intro i x u hx hu
       rw[←Array.getElem?_toList,extract_list]at hu
       rw[List.getElem?_take]at hx hu
       split at hx
       ·rename_i hi
        rw[if_pos hi]at hu
        rw[List.getElem?_drop]at hx hu
        exact hr _ x u hx (by simpa using hu)
       ·cases hx
     |false=>
      rw[ha,cond_false]at h
      cases hd:l.drop d with
      |nil=>rw[hd]at h;cases h
      |cons x l'=>
       rw[hd]at h
       injection h with h;subst h
       have hx:l[d]?=some x:=by
        have:(l.drop d)[0]?=some x:=by rw[hd];rfl
        simpa using this
       have hlt:d<cs.size:=by rw[←hcs];exact(List.getElem?_eq_some_iff.1 hx).1
       exact⟨cs[d],by simp[part,run_isAgg k4.isAgg,ha,hlt],hr d x _ hx (by simp[hlt])⟩
    obtain⟨u,p1,p2⟩:=hpart
    exact⟨u,by simp only[Instr.field,Sem.run_bind,run_und k1,Result.andThen_ok,k2,asAgg,Sem.run_pure,k3,p1],p2⟩
  ·cases h
 ·cases h
end
end Ev
end
section
namespace Ev
open Go
section
variable {P : Program} {H : Heap} {L : Nat -> Loc} {w : World} {M : Nat -> Prop}
theorem HRel.moveC{b nm sz:Nat}{xs zs:List DV}(hs:HRel P H L w M)(hb:hget H b= .cells .rw sz xs)(hn:nm<H.length)(hg:hget H nm= .gone){w':World}(hw:Wrote (L b).blk w w')(h1:1<=sz)
 {vs:Array Value} {el:TypeId} {fz:Nat×Nat} (hnew:w'.heap[(L b).blk]?=some (.cells vs el fz)) (hvs:vs.size=(L b).sz) (hfz: ∀o,o<(L b).sz->(decide (fz.1<=o)&&decide (o<fz.2))=false) (ho: ∀v∈vs.toList,one1 v=true)
 {us rest:List Value} (hcells:vs.toList=us++rest) (hrow:RelL P H L w M zs us) {cap:Nat} (hc:zs.length/sz<=cap) (hsz:cap*sz<=(L b).sz):
 ∃L',RelD P (hset (hkill H b) nm (.cells .rw sz zs)) L' w' M (.own nm) (.slice (some ⟨(L b).blk,0,none⟩) (zs.length/sz) cap)∧HRel P (hset (hkill H b) nm (.cells .rw sz zs)) L' w' M∧Step H L w M (hset (hkill H b) nm (.cells .rw sz zs)) L' w' M:=by
 have hr:(hget H b).rw:=by rw[hb];trivial
 obtain⟨hnil,hblt,hoff,_⟩:=cells_at hs hb rfl
 obtain⟨ks,kst⟩:=hs.kill (rw_live hr)
 have hbl:b<H.length:=hget_lt (live_ne (rw_live hr))
 have hnb:nm≠b:=fun q=>by rw[q,hb]at hg;cases hg
 have hkl:(hkill H b).length=H.length:=by unfold hkill;rw[hset_length]
 have hgk:hget (hkill H b) nm= .gone:=by unfold hkill;rw[hget_hset,if_neg (fun q=>hnb q.1),hg]
 have old: ∀c,(hget (hkill H b) c).live->c≠b∧hget (hkill H b) c=hget H c:=by
  intro c hc
  have hcb:c≠b:=by
   intro q
   subst q
   unfold hkill at hc
   rw[hget_hset,if_pos ⟨rfl,hbl⟩,hb]at hc
   exact hc
  refine⟨hcb,?_⟩
  unfold hkill
  rw[hget_hset,if_neg (fun q=>hcb q.1)]
 obtain⟨hbM,_,_⟩:=hs.own b hr hnil
 have hk:Keep M w w':=Keep.of_wrote hw hbM
 have hx:ExtE (hget (hkill H b) nm) (.cells .rw sz zs):=by rw[hgk];trivial
 have hl:hget (hkill H b) nm≠ .gone->L b=L nm:=fun q=>absurd hgk q
 have hn':nm<(hkill H b).length:=by omega
 have hext:=ext_upd (L:=L) hn' hx hl
 have hle:zs.length<=(L b).sz:=by
  have:=congrArg List.length hcells
  rw[hrow.1];simp at this;omega
 have hge:hget (hset (hkill H b) nm (.cells .rw sz zs)) nm= .cells .rw sz zs:=by rw[hget_hset,if_pos ⟨rfl,hn'⟩]
 refine⟨updL L nm (L b),?_,?_,?_⟩
 ·refine .ownc hge ?_
  rw[updL_same]
  exact⟨hnil,hoff,cap,rfl,hc,hsz⟩
 ·exact ks.upd (l:=L b) hn' hx hl hk (fun _ _ q=>q) (fun B q=>by rw[hw.size];exact hs.mlt B q)
   (fun c hc hlv hnl=>by
    obtain⟨h1,h2⟩:=old c hlv
    rw[h2]at hlv
    exact⟨hw.other _ (fun q=>hs.apart b c h1.symm hr hlv hnil hnl q.symm),fun hr'=>(ks.own c hr' hnl).1⟩)
   (fun _=>⟨hnil,by rw[hw.size];exact hblt,hoff,hle,fun q=>by omega,us,cells_of hnew hcells,fun u hu=>ho u (by rw[hcells];simp[hu]),hrow.mono hk (fun _ _ q=>q) (kst.ext.trans hext)⟩)
   (fun _ _=>⟨hbM,hoff,vs,el,fz,hnew,hvs,hfz,ho⟩) (fun q=>q.elim)
   (fun _ _ c hc hlv hnl=>by
    obtain⟨h1,h2⟩:=old c hlv
    rw[h2]at hlv
    exact hs.apart b c h1.symm hr hlv hnil hnl)
   (fun _ _ c hc hr' hnl=>by
    obtain⟨h1,h2⟩:=old c (rw_live hr')
    rw[h2]at hr'
    exact hs.apart c b h1 hr' (rw_live hr) hnl hnil)
 ·refine⟨by rw[hw.size];exact Nat.le_refl _,hw.os,hw.tape,hw.output,fun B hB hno=>⟨hw.other B (fun q=>hno b hr hnil q.symm),Iff.rfl⟩,fun _ _ q=>q,kst.ext.trans hext,fun c hc hnl _=> ?_⟩
  by_cases hcn:c=nm
  ·subst hcn;exact⟨b,hr,hnil,by rw[updL_same]⟩
  ·rw[hget_hset,if_neg (fun q=>hcn q.1)]at hc
   rw[updL_ne _ _ hcn]at hnl⊢
   obtain⟨h1,h2⟩:=old c (rw_live hc)
   rw[h2]at hc
   exact⟨c,hc,hnl,rfl⟩
theorem source_C{b sz:Nat}{s:Stat}{ys:List DV}{v:Value}(hs:HRel P H L w M)(hb:hget H b= .cells s sz ys)(hlv:s.live=true)(hd:ys.length/sz*sz=ys.length)(r:RelD P H L w M (.own b) v):
 ∃news,RelL P H L w M ys news∧(∀u∈news,one1 u=true)∧(∀w':World,(Builtin.lenOf v).run P w'= .ok (ys.length/sz) w')∧
  (∀(w':World),w'.heap=w.heap->(Builtin.firstCells sz (ys.length/sz) v).run P w'= .ok news.toArray w'):=by
 obtain⟨q0,q1,q2,q3,_,us,q4,q5,q6⟩:=cells_at hs hb hlv
 obtain⟨cap,rfl,g1,g2⟩:=own_cellsC hb r
 refine⟨us,q6,q5,fun w'=>rfl,fun w' hw'=> ?_⟩
 exact run_firstCells_some (P:=P) w' sz _ _ _ _ us (by rw[←q6.1];exact hd.symm) fun j v hj=>by
  rw[add_none,cell?_same (w:=w) (by rw[hw'])]
  exact q4 j v hj
theorem rows_cells{e:Ty}{l:List (Val e)}{us:List Value}(r:RowR (fun y u=>RelC w M e y u) l us):RelL P H L w M (l.flatMap fun y=>cellsV e y) us∧(∀u∈us,one1 u=true)∧us.length=l.length*e.size:=by
 refine⟨?_,RowR.all (fun _ _ k=>RelC.one k) r,RowR.length (fun _ _ k=>RelC.length k) r⟩
 induction r with
 |nil=>exact .nil
 |cons a _ ih=>rw[List.flatMap_cons];exact(cellsV_ok a).app ih
theorem source_V{e:Ty}{l:List (Val e)}{v:Value}(h1:1<=e.size)(r:RelD P H L w M (.v (.sl e) l) v)(hd:((l.flatMap fun y=>cellsV e y).length)/e.size*e.size=(l.flatMap fun y=>cellsV e y).length):
 ∃news,RelL P H L w M (l.flatMap fun y=>cellsV e y) news∧(∀u∈news,one1 u=true)∧(∀w':World,(Builtin.lenOf v).run P w'= .ok ((l.flatMap fun y=>cellsV e y).length/e.size) w')∧
  (∀(w':World),w'.heap=w.heap->(Builtin.firstCells e.size ((l.flatMap fun y=>cellsV e y).length/e.size) v).run P w'= .ok news.toArray w'):=by
 cases r with
 |v h=>
  have h:RelC w M (.sl e) l [v]:=h
  simp only[RelC]at h
  rcases h with⟨rfl,a,c,hv⟩|⟨_,B,off,cap,vs,hv,h2,h3,h4,h5,h6⟩
  ·injection hv with hv;subst hv
   exact⟨[], .nil,by simp,fun w'=>by simp only[List.flatMap_nil,List.length_nil,Nat.zero_div];rfl,fun w' _=>by
    cases a with
    |none=>simp[Builtin.firstCells]
    |some ad=>simpa using run_firstCells_some (P:=P) w' e.size 0 ad 0 c [] (by simp) (fun j v hj=>by simp at hj)⟩
  ·injection hv with hv;subst hv
   obtain⟨k1,k2,k3⟩:=rows_cells (P:=P) (H:=H) (L:=L) h6
   have hl:(l.flatMap fun y=>cellsV e y).length/e.size=l.length:=by rw[k1.1,k3];exact Nat.mul_div_cancel _ h1
   rw[hl]
   refine⟨vs,k1,k2,fun w'=>rfl,fun w' hw'=> ?_⟩
   exact run_firstCells_some (P:=P) w' e.size _ _ _ _ vs k3 fun j v hj=>by
    rw[add_none,cell?_same (w:=w) (by rw[hw'])]
    exact h5 j v hj
theorem append_C{C:Ctx}(hC:CtxTy P C){T ty:TypeId}{e:Ty}{nm sz:Nat}{ys:List DV}{x z:DV}{H':Heap}{va vb:Value}(hs:HRel P H L w M)(hn:nm<H.length)(hg:hget H nm= .gone)(hT:C.ty T=some (.sl e))(hsz:sz=e.size)(h1:1<=sz)
 (src:ys.length/sz*sz=ys.length-> ∃news,RelL P H L w M ys news∧(∀u∈news,one1 u=true)∧(∀w':World,(Builtin.lenOf vb).run P w'= .ok (ys.length/sz) w')∧(∀(w':World),w'.heap=w.heap->(Builtin.firstCells sz (ys.length/sz) vb).run P w'= .ok news.toArray w'))
 (h:appendC nm sz H x ys (fun y H=>some (y,H))=some (z,H')) (ra:RelD P H L w M x va):DoneV P (Builtin.append_ #[T,T] ty #[va,vb]) H L w M H' z:=by
 obtain⟨⟨_,E,hu,hE,hpos⟩,_⟩:=hC.ty T _ hT
 have hxi: ∀k,TypeDesc.slice E≠ .int k:=fun k q=>by cases q
 have hEb:=TyOk.base hE
 obtain⟨by_,hby,hbl,hb0⟩:=hEb.by_
 have hbp:0<by_:=by omega
 obtain⟨zv,hzv,hzc⟩:=run_zeroValue (P:=P) (w:=w.drew) hEb.zero
 have hzs:zv.cells.size=e.size:=by have:=zeroC_len e;rw[←hzc]at this;simpa using this
 have hEsz:=hEb.sz
 rw[←hsz]at hEsz
 have grow: ∀ {H1:Heap} (hs1:HRel P H1 L w M) (st1:Step H L w M H1 L w M) (n1:nm<H1.length) (g1:hget H1 nm= .gone) {xs:List DV} {olds news:List Value} {base:Option Addr} {sCap:Nat},RelL P H1 L w M xs olds->(∀u∈olds,one1 u=true)->xs.length/sz*sz=xs.length->
  RelL P H1 L w M ys news->(∀u∈news,one1 u=true)->ys.length/sz*sz=ys.length->(∀w':World,(Builtin.lenOf vb).run P w'= .ok (ys.length/sz) w')->(∀(w':World),w'.heap=w.heap->(Builtin.firstCells sz (ys.length/sz) vb).run P w'= .ok news.toArray w')->
  (Builtin.firstCells sz (xs.length/sz) (.slice base (xs.length/sz) sCap)).run P w.drew= .ok olds.toArray w.drew->sCap<xs.length/sz+ys.length/sz->xs.length+ys.length<=4294967296->
  DoneV P (Builtin.append_ #[T,T] ty #[.slice base (xs.length/sz) sCap,vb]) H L w M (hset H1 nm (.cells .rw sz (xs++ys))) (.own nm):=by
  intro H1 hs1 st1 n1 g1 xs olds news base sCap hr ho hxd hr2 ho2 hyd s2 s3 hf hlt hle
  have hdiv:(xs++ys).length/sz=xs.length/sz+ys.length/sz:=by
   rw[List.length_append]
   have e1:xs.length+ys.length=(xs.length/sz+ys.length/sz)*sz:=by rw[Nat.add_mul];omega
   rw[e1];exact Nat.mul_div_cancel _ h1
  have hfit:(xs.length/sz+ys.length/sz)*by_<=70368744177664:=by
   have e1:xs.length/sz<=xs.length:=Nat.div_le_self _ _
   have e2:ys.length/sz<=ys.length:=Nat.div_le_self _ _
   exact Nat.le_trans (Nat.mul_le_mul (show _<=4294967296 by omega) hbl) (by decide)
  have hcap:=grownCap_ge w (xs.length/sz+ys.length/sz) sCap E
  have st2:Step H1 L w M H1 L w.drew M:=Step.same rfl rfl rfl rfl
  have kd:Keep M w w.drew:=⟨Nat.le_refl _,fun _ _ _=>rfl⟩
  obtain⟨L',M',k1,k2,k3⟩:=new_rowC (sz:=sz) (l:=xs++ys) (vs:=(olds++news++(Builtin.zeroCells zv.cells (grownCap w (xs.length/sz+ys.length/sz) sCap E-(xs.length/sz+ys.length/sz))).toList).toArray) (us:=olds++news)
   (rest:=(Builtin.zeroCells zv.cells (grownCap w (xs.length/sz+ys.length/sz) sCap E-(xs.length/sz+ys.length/sz))).toList) (cap:=grownCap w (xs.length/sz+ys.length/sz) sCap E) (hs1.same (w':=w.drew) rfl) n1 g1 E (0,0) (fun o _=>by simp) rfl
   ((hr.app hr2).mono kd (fun _ _ q=>q) (Ext.refl _ _)) (by
    intro v hv
    rcases List.mem_append.1 hv with hv|hv
    ·rcases List.mem_append.1 hv with hv|hv
     ·exact ho v hv
     ·exact ho2 v hv
    ·unfold Builtin.zeroCells at hv
     rw[zeros_flat,hzc]at hv
     obtain⟨l,hl,hv⟩:=List.mem_flatten.1 hv
     rw[List.eq_of_mem_replicate hl]at hv
     exact zeroC_one e v hv) h1 (by rw[hdiv];exact hcap) (by
    simp only[List.size_toArray,List.length_append,zeroCells_len,hzs,←hsz]
    rw[←hr.1,←hr2.1,←hxd,←hyd,←Nat.add_mul,←Nat.add_mul]
    have e1:xs.length/sz*sz/sz=xs.length/sz:=Nat.mul_div_cancel _ h1
    have e2:ys.length/sz*sz/sz=ys.length/sz:=Nat.mul_div_cancel _ h1
    rw[e1,e2]
    exact Nat.mul_le_mul_right _ (by omega))
  rw[hdiv]at k1
  exact⟨_,_,L',M',append_grow hu hu hxi hEsz hby hzv hf (s2 w) (s3 _ rfl) hlt hfit hbp,k1,k2,st1.trans (st2.trans k3)⟩
 unfold appendC at h
 split at h
 ·obtain⟨hc,h⟩:=cond_some h
  injection h with h;injection h with e1 e2;subst e1 e2
  simp only[Bool.and_eq_true]at hc
  have c1:=nbeq.1 hc.1.1
  have c2:=nble.1 hc.1.2
  have c3:=nble.1 hc.2
  obtain⟨news,n1,n2,n3,n4⟩:=src c1
  cases ra
  have hpos:0<ys.length/sz:=by
   rcases Nat.eq_zero_or_pos (ys.length/sz)with q|q
   ·rw[q]at c1;simp at c1;omega
   ·exact q
  have:=grow hs (Step.refl _ _ _ _) hn hg (xs:=[]) (olds:=[]) (news:=news) (base:=none) (sCap:=0) .nil (by simp) (by simp) n1 n2 c1 n3 n4 (by simp[Builtin.firstCells]) (by simp only[List.length_nil,Nat.zero_div];omega) (by simpa using c2)
  simpa using this
 ·rename_i b
  split at h
  ·rename_i sz' xs hb
   obtain⟨hc,h⟩:=cond_some h
   injection h with h;injection h with e1 e2;subst e1 e2
   simp only[Bool.and_eq_true]at hc
   have c0:=nbeq.1 hc.1.1.1
   have c1:=nbeq.1 hc.1.1.2
   have c2:=nbeq.1 hc.1.2
   have c3:=nble.1 hc.2
   subst c0
   have hr:(hget H b).rw:=by rw[hb];trivial
   obtain⟨news,n1,n2,n3,n4⟩:=src c2
   obtain⟨ks,kst⟩:=hs.kill (rw_live hr)
   have hnb:nm≠b:=fun q=>by rw[q,hb]at hg;cases hg
   have hkl:nm<(hkill H b).length:=by unfold hkill;rw[hset_length];exact hn
   have hgk:hget (hkill H b) nm= .gone:=by unfold hkill;rw[hget_hset,if_neg (fun q=>hnb q.1),hg]
   obtain⟨q0,q1,q2,q3,_,us,q4,q5,q6⟩:=cells_at hs hb rfl
   obtain⟨cap,rfl,g1,g2⟩:=own_cellsC hb ra
   have mv: ∀ {l:List DV} {us:List Value},RelL P H L w M l us->RelL P (hkill H b) L w M l us:=fun hr=>⟨hr.1,fun i x v hx hv=>(hr.2 i x v hx hv).step hs kst⟩
   have hul:us.length=xs.length:=q6.1.symm
   have hnl:news.length=ys.length:=n1.1.symm
   have hdiv:(xs++ys).length/sz'=xs.length/sz'+ys.length/sz':=by
    rw[List.length_append]
    have e1:xs.length+ys.length=(xs.length/sz'+ys.length/sz')*sz':=by rw[Nat.add_mul];omega
    rw[e1];exact Nat.mul_div_cancel _ h1
   rcases Nat.lt_or_ge cap (xs.length/sz'+ys.length/sz')with hcp|hcp
   ·exact grow ks kst hkl hgk (mv q6) q5 c1 (mv n1) n2 c2 n3 n4 (run_firstCells_some (P:=P) w.drew sz' _ _ _ _ us (by omega) fun j v hj=>by
     rw[add_none,cell?_same (w:=w) (w':=w.drew) rfl];exact q4 j v hj) hcp c3
   ·obtain⟨hbM,hoff,vs,el,fz,hblk,hvs,hfz,hone⟩:=hs.own b hr q0
    have hcs:(xs.length/sz'+ys.length/sz')*sz'<=(L b).sz:=Nat.le_trans (Nat.mul_le_mul_right _ hcp) g2
    rw[Nat.add_mul,c1,c2]at hcs
    obtain⟨w',c',d1,d2,d3,d4⟩:=storeCells_ok (P:=P) (L b).blk (xs.length/sz'*sz') el fz news 0 vs w hblk (by omega) n2 (fun i hi=>hfz i (by omega))
    rw[Nat.add_zero,c1]at d3
    have hcsz:c'.size=vs.size:=by have:=congrArg List.length d3;simp at this;omega
    obtain⟨rest,hrest⟩:=cells_prefix hblk q4
    obtain⟨L',k1,k2,k3⟩:=hs.moveC (nm:=nm) (zs:=xs++ys) (cap:=cap) hb hn hg d4 h1 d2 (by omega) hfz (fun v hv=>by
     rw[d3]at hv
     simp only[List.mem_append]at hv
     rcases hv with(hv|hv)|hv
     ·exact hone v (List.mem_of_mem_take hv)
     ·exact n2 v hv
     ·exact hone v (List.mem_of_mem_drop hv)) (us:=us++news) (rest:=vs.toList.drop (xs.length+news.length)) (by
     rw[d3,hrest,List.take_append_of_le_length (by omega),List.take_of_length_le (by omega)]) (q6.app n1) (by rw[hdiv];exact hcp) g2
    rw[hdiv]at k1
    refine⟨_,w',L',M,?_,k1,k2,k3⟩
    rw[append_room (m:=ys.length/sz') hu hu hxi hEsz (n3 w) (n4 w rfl) hcp]
    simp only[add_none,Nat.zero_add,d1,Result.andThen_ok]
  ·cases h
 ·cases h
end
end Ev
end
section
namespace Ev
open Go
section
variable {P : Program} {H : Heap} {L : Nat -> Loc} {w : World} {M : Nat -> Prop} {C : Ctx} {ρ : Env} {ρc : Operand -> Value}
theorem parts_map(hρ: ∀x,RelD P H L w M (ev ρ x) (ρc x)): ∀l:List (Nat×Operand),PartsR P H L w M (l.map fun(i,x)=>(i,ev ρ x)) (l.map fun(i,x)=>(i,ρc x))
 |[]=>trivial
 |(i,x)::l=>⟨rfl,hρ x,parts_map hρ l⟩
theorem parts_arr(ps:Array (Nat×Operand)):(ps.map fun(i,x)=>(i,ρc x)).toList=ps.toList.map fun(i,x)=>(i,ρc x):=by simp
theorem relO_map(hρ: ∀x,RelD P H L w M (ev ρ x) (ρc x))(o:Option Operand):RelO P H L w M (o.map (ev ρ)) (o.map ρc):=by
 cases o with
 |none=>trivial
 |some x=>exact hρ x
theorem relF(hρ: ∀x,RelD P H L w M (ev ρ x) (ρc x))(l:Array Operand):(l.toList.map (ev ρ)).length=(l.map ρc).size∧ ∀(i:Nat) x v,(l.toList.map (ev ρ))[i]?=some x->(l.map ρc)[i]?=some v->RelD P H L w M x v:=by
 refine⟨by simp,fun i x v hx hv=> ?_⟩
 simp only[List.getElem?_map,Option.map_eq_some_iff,Array.getElem?_map,Array.getElem?_toList]at hx hv
 obtain⟨o,ho,rfl⟩:=hx
 obtain⟨o',ho',rfl⟩:=hv
 rw[ho]at ho';injection ho' with ho';subst ho'
 exact hρ o
theorem sameOpd_ok{x y:Operand}(h:sameOpd x y=true):x=y:=by
 unfold sameOpd at h
 split at h
 ·rw[nbeq.1 h]
 ·rw[of_decide_eq_true h]
 ·cases h
theorem idxOk{x:DV}{f:Int->Option (DV×Heap)}{r:DV×Heap}(h:intD x f=some r): ∃i,intD x some=some i∧f i=some r:=by
 rw[n_intD,Option.bind_eq_some_iff]at h;exact h
theorem append_nn{C:Ctx}(hC:CtxTy P C)(hs:HRel P H L w M){T ty:TypeId}{e:Ty}{x y:DV}{v u:Value}(hT:C.ty T=some (.sl e))(hn:nilNil x y=true)(r:RelD P H L w M x v)(ru:RelD P H L w M y u):DoneV P (Builtin.append_ #[T,T] ty #[v,u]) H L w M H .nils:=by
 unfold nilNil at hn
 split at hn
 ·cases r;cases ru
  obtain⟨⟨_,E,hu,hE,hpos⟩,_⟩:=hC.ty T _ hT
  have:=append_room (P:=P) (w:=w) (ty:=ty) (m:=0) (base:=none) (sLen:=0) (sCap:=0) (xv:= .slice none 0 0) (news:=[]) hu hu (fun k q=>by cases q) (TyOk.base hE).sz rfl (by simp[Builtin.firstCells]) (by omega)
  exact⟨_,w,L,M,this, .nils,hs,Step.refl _ _ _ _⟩
 ·cases hn
theorem emptyC_ok{C:Ctx}(hC:CtxTy P C){T:TypeId}{b sz:Nat}{s:Stat}{l:List DV}{z:DV}{lo hi:Option DV}{v:Value}{lov hiv:Option Value}(hb:hget H b= .cells s sz l)(h:emptyC C T sz l lo hi some=some z)(r:RelD P H L w M (.own b) v)(rl:RelO P H L w M lo lov)(rh:RelO P H L w M hi hiv):
 Pur P H L w M (Instr.sliceAt T v lov hiv none) z:=by
 unfold emptyC at h
 split at h
 ·rename_i e hT
  obtain⟨hc,h⟩:=cond_some h
  obtain⟨i,k,hl,hk,h⟩:=n_opt2 h
  split at h
  ·rename_i hz
   obtain⟨rfl,rfl⟩:=hz
   injection h with h;subst h
   cases r with
   |own hb' _=>rw[hb]at hb';cases hb'
   |ownc hb' q=>
    rw[hb]at hb';cases hb'
    obtain⟨_,_,cap,rfl,hcap,_⟩:=q
    obtain⟨⟨_,E,hu,hE,_⟩,_⟩:=hC.ty T _ hT
    have hbd:=bounds_ok (P:=P) (len:=l.length/sz) (cap:=cap) true rl rh hl hk (by omega) (by omega) (by omega)
    exact⟨_,run_slice_sl (w:=w) hu (TyOk.base hE).sz hbd, .v (by rw[show(0:Int).toNat-(0:Int).toNat=0 by omega];exact relV_nil)⟩
  ·cases h
 ·cases h
theorem eqNP_ok{C:Ctx}(hC:CtxTy P C){T:TypeId}{o:BinOp}{x y z:DV}{ox oy:Operand}{v u:Value}(hp:isNP x y=true)(h:eqNP C T o x some=some z)(r:RelD P H L w M x v)(ru:RelD P H L w M y u):
 Pur P H L w M (do eqGuard o T ox oy v u;binOp o T v u) z:=by
 have key: ∃a,v= .pointer a∧a.isNone=nilB x∧u= .pointer none:=by
  unfold isNP at hp
  split at hp
  ·cases ru;cases r<;>exact⟨_,rfl,rfl,rfl⟩
  ·cases ru;cases r;exact⟨_,rfl,rfl,rfl⟩
  ·cases hp
 obtain⟨a,rfl,ha,rfl⟩:=key
 unfold eqNP at h
 obtain⟨hT,h⟩:=cond_some h
 obtain⟨E,hu⟩:=hC.ptr T hT
 have hp': ∀d:Nat,(Op.equalIn (d+1) T (.pointer a) (.pointer none)).run P w= .ok (a.isNone) w:=by
  intro d;cases a<;>simp[Op.equalIn,run_und hu]
 have hp:=hp' 9999
 have hg: ∀op,(eqGuard op T ox oy (.pointer a) (.pointer none)).run P w= .ok () w:=by
  intro op;cases op<;>simp[eqGuard]
 split at h
 ·injection h with h;subst h
  refine⟨.bool (a.isNone),?_, .v (by rw[←ha];exact relV_bool)⟩
  have:(binOp .eql T (.pointer a) (.pointer none)).run P w= .ok (.bool a.isNone) w:=by
   show(do pure (.bool (←Op.equalIn (9999+1) T (.pointer a) (.pointer none))):Sem Value).run P w=_
   simp only[Sem.run_bind,hp,Result.andThen_ok,Sem.run_pure]
  simp only[Sem.run_bind,hg,Result.andThen_ok,this]
 ·injection h with h;subst h
  refine⟨.bool (!a.isNone),?_, .v (by rw[←ha];exact relV_bool)⟩
  have:(binOp .neq T (.pointer a) (.pointer none)).run P w= .ok (.bool !a.isNone) w:=by
   show(do pure (.bool (!(←Op.equalIn (9999+1) T (.pointer a) (.pointer none)))):Sem Value).run P w=_
   simp only[Sem.run_bind,hp,Result.andThen_ok,Sem.run_pure]
  simp only[Sem.run_bind,hg,Result.andThen_ok,this]
 ·cases h
theorem op_ok(hC:CtxTy P C)(hρ: ∀x,RelD P H L w M (ev ρ x) (ρc x))(hs:HRel P H L w M){nm:Nat}{o:Oper}{x:DV}{H':Heap}(hnm:allocs C o.op=true->nm<H.length∧hget H nm= .gone)(hnc: ∀c f,o.op= .call c->c.callee≠ .value f)(hni: ∀c r m,o.op= .call c->c.callee≠ .invoke r m)
 (h:topD C nm ρ H o.op=some (x,H')):Done P (execOp ρc o) H L w M H' x:=by
 have val: ∀ {v:Value} {s:Sem Next},s.run P w= .ok (.value v) w->RelD P H L w M x v->H'=H->Done P s H L w M H' x:=by
  rintro v s h1 h2 rfl
  exact⟨.value v,w,L,M,v,h1, .inl rfl,h2,hs,Step.refl _ _ _ _⟩
 have pur: ∀ {s:Sem Value} {z:DV},some (z,H)=some (x,H')->Pur P H L w M s z->Done P (do pure (.value (←s))) H L w M H' x:=by
  intro s z hz hp
  injection hz with hz;injection hz with h1 h2;subst h1 h2
  exact hp.done hs
 obtain⟨dst,op,ty0,pos,af,gd⟩:=o
 unfold topD at h
 dsimp only at h hnm hnc
 cases op with
 |move y=>simp only[top]at h;injection h with h;injection h with h1 h2;subst h1;exact val rfl (hρ y) h2.symm
 |assign y=>simp only[top]at h;injection h with h;injection h with h1 h2;subst h1;exact val rfl (hρ y) h2.symm
 |pick c a b=>
  simp only[top]at h
  rw[n_pickOp,Option.bind_eq_some_iff]at h
  obtain⟨z,hz,h⟩:=h
  injection h with h;injection h with h1 h2;subst h1
  obtain⟨v,h3,h4⟩:=pick_ok hz (hρ c) (hρ a) (hρ b)
  exact val h3 h4 h2.symm
 |alloc T=>
  obtain⟨n1,n2⟩:=hnm rfl
  simp only[top]at h
  split at h
  ·rename_i t hT
   cases hd:C.dyn T with
   |true=>
    rw[hd]at h
    injection h with h;injection h with h1 h2;subst h1 h2
    exact(alloc_C hC hs n1 n2 hT).done
   |false=>
    rw[hd]at h
    injection h with h;injection h with h1 h2;subst h1 h2
    exact(alloc_ok hC hs n1 n2 hT).done
  ·obtain⟨hT,h⟩:=cond_some h
   injection h with h;injection h with h1 h2;subst h1 h2
   exact(alloc_cell hC hs n1 n2 hT).done
 |box T y=>
  obtain⟨n1,n2⟩:=hnm rfl
  simp only[top]at h
  split at h
  ·cases hd:C.dyn T with
   |true=>
    rw[hd,cond_true,n_asC,Option.bind_eq_some_iff]at h
    obtain⟨l,hz,h⟩:=h
    injection h with h;injection h with h1 h2;subst h1 h2
    exact(box_C hs n1 n2 hz (hρ y)).done
   |false=>
    rw[hd,cond_false,n_asVH,Option.bind_eq_some_iff]at h
    obtain⟨⟨z,H1⟩,hz,h⟩:=h
    injection h with h;injection h with h1 h2;subst h1 h2
    exact(box_ok hs n1 n2 hz (hρ y)).done
  ·obtain⟨hT,h⟩:=cond_some h
   simp only[Bool.and_eq_true]at hT
   injection h with h;injection h with h1 h2;subst h1 h2
   exact(box_cell hs n1 n2 hT.2 (hρ y)).done
 |build T ps=>
  have hq:=parts_map hρ ps.toList
  rw[←parts_arr]at hq
  simp only[top]at h
  split at h
  ·rename_i n e hT
   cases hc:(inOrder 0 (ps.toList.map fun(i,x)=>(i,ev ρ x))&&Nat.beq ps.toList.length n)with
   |true=>
    rw[hc]at h
    simp only[cond_true]at h
    simp only[Bool.and_eq_true]at hc
    rw[n_buildL,Option.bind_eq_some_iff]at h
    obtain⟨⟨z,H1⟩,hz,h⟩:=h
    injection h with h;injection h with h1 h2;subst h1 h2
    exact(build_arrL hC hs hT hc.1 (by rw[List.length_map];exact nbeq.1 hc.2) hq hz).done
   |false=>
    rw[hc]at h
    simp only[cond_false]at h
    rw[n_buildR,Option.bind_eq_some_iff]at h
    obtain⟨⟨z,H1⟩,hz,h⟩:=h
    injection h with h;injection h with h1 h2;subst h1 h2
    exact(build_arrR hC hs hT hq hz).done
  ·rename_i t _ hT
   obtain⟨hst,h⟩:=cond_some h
   cases hd:C.dyn T with
   |true=>
    rw[hd,cond_true,n_layC,Option.bind_eq_some_iff]at h
    obtain⟨l,hz,h⟩:=h
    injection h with h;injection h with h1 h2;subst h1 h2
    exact(build_C hC hs hT hst hq hz).done
   |false=>
    rw[hd,cond_false,n_buildS,Option.bind_eq_some_iff]at h
    obtain⟨⟨z,H1⟩,hz,h⟩:=h
    injection h with h;injection h with h1 h2;subst h1 h2
    exact(build_st hC hs hT hst hq hz).done
  ·cases h
 |buildSlice T n ps=>
  obtain⟨n1,n2⟩:=hnm rfl
  have hq:=parts_map hρ ps.toList
  rw[←parts_arr]at hq
  simp only[top]at h
  split at h
  ·rename_i e hT
   obtain⟨hle,h⟩:=cond_some h
   have hle:=nble.1 hle
   cases hd:C.dyn T with
   |true=>
    rw[hd,cond_true]at h
    obtain⟨hc,h⟩:=cond_some h
    simp only[Bool.and_eq_true]at hc
    rw[n_buildC,Option.bind_eq_some_iff]at h
    obtain⟨l,hz,h⟩:=h
    injection h with h;injection h with h1 h2;subst h1 h2
    exact(buildSlice_C hC hs n1 n2 hT hle hc.1.1 (by rw[List.length_map];exact nbeq.1 hc.1.2) (nble.1 hc.2) hq hz).done
   |false=>
   rw[hd,cond_false]at h
   cases hc:(inOrder 0 (ps.toList.map fun(i,x)=>(i,ev ρ x))&&Nat.beq ps.toList.length n)with
   |true=>
    rw[hc]at h
    simp only[cond_true]at h
    simp only[Bool.and_eq_true]at hc
    rw[n_buildL,Option.bind_eq_some_iff]at h
    obtain⟨⟨z,H1⟩,hz,h⟩:=h
    injection h with h;injection h with h1 h2;subst h1 h2
    exact(buildSliceL hC hs n1 n2 hT hle hc.1 (by rw[List.length_map];exact nbeq.1 hc.2) hq hz).done
   |false=>
    rw[hc]at h
    simp only[cond_false]at h
    rw[n_buildR,Option.bind_eq_some_iff]at h
    obtain⟨⟨z,H1⟩,hz,h⟩:=h
    injection h with h;injection h with h1 h2;subst h1 h2
    exact(buildSliceR hC hs n1 n2 hT hle hq hz).done
  ·cases h
 |load T y=>
  simp only[top]at h
  rcases atC_inv h with⟨b,o,s,sz,l,hy,hb,hlv,h⟩|h
  ·rw[n_loadC,Option.bind_eq_some_iff]at h
   obtain⟨z,hz,h⟩:=h
   exact pur h (load_C hC hs hb hlv hz (hy▸hρ y))
  rw[n_load,Option.bind_eq_some_iff]at h
  obtain⟨z,hz,h⟩:=h
  obtain⟨ht,h⟩:=cond_some h
  exact pur h (load_ok hC hs ht hz (hρ y))
 |store T a y=>
  simp only[top]at h
  rcases atC_inv h with⟨b,o,s,sz,l,hy,hb,hlv,h⟩|h
  ·rw[n_storeC,Option.bind_eq_some_iff]at h
   obtain⟨H1,hz,h⟩:=h
   injection h with h;injection h with h1 h2;subst h1 h2
   obtain⟨w',M',k1,k2,k3⟩:=store_C hC hs hb hlv hz (hy▸hρ a) (hρ y)
   exact⟨.skip,w',L,M',undef,by simp only[execOp,Sem.run_bind,k1,Result.andThen_ok,Sem.run_pure], .inr ⟨rfl,rfl⟩, .undef,k2,k3⟩
  obtain⟨ht,h⟩:=cond_some h
  rw[n_store,Option.bind_eq_some_iff]at h
  obtain⟨H1,hz,h⟩:=h
  injection h with h;injection h with h1 h2;subst h1 h2
  obtain⟨w',M',k1,k2,k3⟩:=store_ok hC hs ht hz (hρ a) (hρ y)
  exact⟨.skip,w',L,M',undef,by simp only[execOp,Sem.run_bind,k1,Result.andThen_ok,Sem.run_pure], .inr ⟨rfl,rfl⟩, .undef,k2,k3⟩
 |nilCheck y=>
  have h2:(match ev ρ y with
   | .ptr b p=>some (DV.ptr b p)
   | .fp t x=>some (.fp t x)
   | .v (.op e) o=>Option.bind o fun y=>some (.fp e y)
   |_=>none)=some x∧H'=H:=by
   simp only[top]at h
   split at h
   ·rename_i hy;rw[hy];injection h with h;injection h with h1 h2;exact⟨by subst h1;rfl,h2.symm⟩
   ·rename_i hy;rw[hy];injection h with h;injection h with h1 h2;exact⟨by subst h1;rfl,h2.symm⟩
   ·rename_i hy;rw[hy]
    rw[Option.bind_eq_some_iff]at h
    obtain⟨z,hz,h⟩:=h
    injection h with h;injection h with h1 h2
    exact⟨by simp only[hz,Option.bind_some,h1],h2.symm⟩
   ·cases h
  obtain⟨a,ha,hr⟩:=nilCheck_ok h2.1 (hρ y)
  refine val (v:= .pointer (some a)) ?_ (ha▸hr) h2.2
  simp only[execOp,ha]
  rfl
 |binOp op T a b bt=>
  simp only[top]at h
  cases hp:isNP (ev ρ a) (ev ρ b)with
  |true=>
   rw[hp,cond_true,n_eqNP,Option.bind_eq_some_iff]at h
   obtain⟨z,hz,h⟩:=h
   exact pur h (eqNP_ok hC hp hz (hρ a) (hρ b))
  |false=>
  rw[hp,cond_false,n_binA,Option.bind_eq_some_iff]at h
  obtain⟨z,hz,h⟩:=h
  exact pur h (binA_ok hC.ty hz (hρ a) (hρ b))
 |makeInterface T a=>
  simp only[top]at h
  obtain⟨hT,h⟩:=cond_some h
  obtain⟨d,hd,hni⟩:=hC.con T hT
  refine pur h ⟨.iface T (ρc a),?_, .ifc (hρ a)⟩
  unfold Instr.makeInterface
  rw[Sem.run_bind,run_und hd,Result.andThen_ok]
  split
  ·exact absurd rfl (hni _)
  ·rfl
 |typeAssert a T' T ok=>
  simp only[top]at h
  split at h
  ·rename_i T2 y hy
   obtain⟨hT,h3⟩:=cond_some h
   clear h
   have h:=h3
   clear h3
   rw[Bool.and_eq_true]at hT
   obtain⟨d,hd,hni⟩:=hC.con T hT.1
   have hr:=hρ a
   rw[hy]at hr
   generalize hva:ρc a=va at hr
   cases hr with
   | @ifc _ _ v hv=>
    have e:=nbeq.1 hT.2
    subst e
    refine pur h ⟨cond ok (.tuple #[v, .bool true]) v,?_,?_⟩
    ·rw[hva]
     unfold Instr.typeAssert
     simp only[Sem.run_bind,run_und hd,Result.andThen_ok]
     cases d<;>first|exact absurd rfl (hni _)|(cases ok<;>simp)
    ·cases ok with
     |false=>exact hv
     |true=>
      refine .tup rfl fun i x u hx hu=> ?_
      rcases i with _|_|i
      ·simp at hx hu;subst hx hu;exact hv
      ·simp at hx hu;subst hx hu;exact .v relV_bool
      ·simp at hx
  ·cases h
 |unOp op T a=>
  simp only[top]at h
  rw[n_unA,Option.bind_eq_some_iff]at h
  obtain⟨z,hz,h⟩:=h
  exact pur h (unA_ok hz (hρ a))
 |convert s d y=>
  simp only[top]at h
  obtain⟨ht,h⟩:=cond_some h
  exact(convert_ok hC hs (fun⟨e,he⟩=>hnm (by simp only[allocs,he])) ht h (hρ y)).done
 |sliceToArrayPointer T y=>
  simp only[top]at h
  split at h
  ·rename_i n e hT
   cases hn0:Nat.beq n 0 with
   |true=>rw[hn0]at h;cases h
   |false=>
    rw[hn0]at h
    simp only[cond_false]at h
    rw[n_asVH,Option.bind_eq_some_iff]at h
    obtain⟨⟨l,H1⟩,hz,h⟩:=h
    rw[Option.bind_eq_some_iff]at h
    obtain⟨a,ha,h⟩:=h
    injection h with h;injection h with h1 h2;subst h1 h2
    exact(arrayAt_ok hC hs hT (fun q=>by rw[nbeq.2 q]at hn0;cases hn0) hz ha (hρ y)).done
  ·cases h
 |makeFunc fn fs cs=>
  cases fn with
  |func f=>
   simp only[top]at h
   injection h with h;injection h with h1 h2;subst h1 h2
   obtain⟨M1,a1,a2⟩:=lendL_ok (l:=fs.toList.map (ev ρ)) hs
   obtain⟨M2,b1,b2⟩:=lendL_ok (l:=cs.toList.map (ev ρ)) a1
   obtain⟨f1,f2⟩:=relF hρ fs
   obtain⟨c1,c2⟩:=relF hρ cs
   have st:=a2.trans b2
   exact⟨.value (.func (.func f) (fs.map ρc) (cs.map ρc)),w,L,M2,_,rfl, .inl rfl, .fn f1 (fun i x v hx hv=>(f2 i x v hx hv).step hs st) c1 (fun i x v hx hv=>(c2 i x v hx hv).step hs st),b1,st⟩
  |_=>simp only[top,reduceCtorEq]at h
 |makeSlice T l c=>
  obtain⟨n1,n2⟩:=hnm rfl
  simp only[top]at h
  split at h
  ·rename_i e hT
   cases hlc:sameOpd l c with
   |false=>
    rw[hlc,cond_false]at h
    unfold roomy at h
    obtain⟨hd,h⟩:=cond_no h
    rw[n_asV,Option.bind_eq_some_iff]at h
    obtain⟨n,hn,h⟩:=h
    rw[n_asV,Option.bind_eq_some_iff]at h
    obtain⟨m,hm,h⟩:=h
    split at h
    ·rename_i hc
     rw[Option.bind_eq_some_iff]at h
     obtain⟨r,hr,h⟩:=h
     injection h with h;injection h with h1 h2;subst h1 h2
     have:=(roomy_ok hC hs n1 n2 hT hc.1 hc.2.1 hr).done
     rw[←(inv_i64 (asV_ok hn (hρ l)):ρc l= .int .i64 n),←(inv_i64 (asV_ok hm (hρ c)):ρc c= .int .i64 m)]at this
     exact this
    ·cases h
   |true=>
   rw[hlc,cond_true]at h
   have:=sameOpd_ok hlc
   subst this
   rw[n_asV,Option.bind_eq_some_iff]at h
   obtain⟨n,hn,h⟩:=h
   have hv:ρc l= .int .i64 n:=inv_i64 (asV_ok hn (hρ l))
   cases hd:C.dyn T with
   |true=>
    rw[hd,cond_true]at h
    split at h
    ·rename_i hc
     injection h with h;injection h with h1 h2;subst h1 h2
     have:=(makeSlice_C hC hs n1 n2 hT hc).done
     rw[←hv]at this
     exact this
    ·cases h
   |false=>
    rw[hd,cond_false,Option.bind_eq_some_iff]at h
    obtain⟨r,hr,h⟩:=h
    injection h with h;injection h with h1 h2;subst h1 h2
    have:=(makeSlice_ok hC hs n1 n2 hT hr).done
    rw[←hv]at this
    exact this
  ·cases h
 |slice T y lo hi mx=>
  cases mx with
  |some m=>
   simp only[top]at h
   rw[n_slice3,Option.bind_eq_some_iff]at h
   obtain⟨z,hz,h⟩:=h
   exact pur h (slice3_ok hC hz (hρ y) (relO_map hρ lo) (relO_map hρ hi) (hρ m))
  |none=>
   simp only[top]at h
   rcases rowC_inv h with⟨b,s,sz,l,hy,hb,hlv,h⟩|h
   ·rw[n_emptyC,Option.bind_eq_some_iff]at h
    obtain⟨z,hz,h⟩:=h
    exact pur h (emptyC_ok hC hb hz (hy▸hρ y) (relO_map hρ lo) (relO_map hρ hi))
   obtain⟨ht,h⟩:=cond_some h
   rw[n_sliceOp,Option.bind_eq_some_iff]at h
   obtain⟨z,hz,h⟩:=h
   exact pur h (sliceOp_ok hC hs ht hz (hρ y) (relO_map hρ lo) (relO_map hρ hi))
 |fieldAddr T y f=>
  simp only[top]at h
  rcases atC_inv h with⟨b,o,s,sz,l,hy,hb,hlv,h⟩|h
  ·rw[n_fieldAddrC,Option.bind_eq_some_iff]at h
   obtain⟨z,hz,h⟩:=h
   exact pur h (fieldAddr_C hC hs hb hlv hz (hy▸hρ y))
  obtain⟨ht,h⟩:=cond_some h
  rw[n_fieldAddr,Option.bind_eq_some_iff]at h
  obtain⟨z,hz,h⟩:=h
  exact pur h (fieldAddr_ok hC ht hz (hρ y))
 |field T y f=>
  simp only[top]at h
  split at h
  ·rename_i t z hy
   obtain⟨ht,h⟩:=cond_some h
   rw[n_getV,Option.bind_eq_some_iff]at h
   obtain⟨q,hq,h⟩:=h
   exact pur h (field_ok hC ht (by rw[n_getV,hq];rfl) (hy▸hρ y))
  ·rename_i l hy
   rw[n_fieldC,Option.bind_eq_some_iff]at h
   obtain⟨q,hq,h⟩:=h
   exact pur h (field_C hC hq (hy▸hρ y))
  ·cases h
 |indexAddr T y i=>
  simp only[top]at h
  rcases rowC_inv h with⟨b,s,sz,l,hy,hb,hlv,h⟩|h
  ·obtain⟨n,hn,h⟩:=idxOk h
   rw[n_indexC,Option.bind_eq_some_iff]at h
   obtain⟨z,hz,h⟩:=h
   obtain⟨k,hk⟩:=intD_ok hn (hρ i)
   have:=index_C (k:=k) hC hs hb hlv hz (hy▸hρ y)
   rw[←hk]at this
   exact pur h this
  rcases atC_inv h with⟨b,o,s,sz,l,hy,hb,hlv,h⟩|h
  ·obtain⟨n,hn,h⟩:=idxOk h
   rw[n_indexArrC,Option.bind_eq_some_iff]at h
   obtain⟨z,hz,h⟩:=h
   obtain⟨k,hk⟩:=intD_ok hn (hρ i)
   have:=indexArr_C (k:=k) hC hs hb hlv hz (hy▸hρ y)
   rw[←hk]at this
   exact pur h this
  obtain⟨ht,h⟩:=cond_some h
  obtain⟨n,hn,h⟩:=idxOk h
  rw[n_indexAddr,Option.bind_eq_some_iff]at h
  obtain⟨z,hz,h⟩:=h
  obtain⟨k,hk⟩:=intD_ok hn (hρ i)
  have:=indexAddr_ok (k:=k) hC ht hz (hρ y)
  rw[←hk]at this
  exact pur h this
 |index T y i=>
  simp only[top]at h
  obtain⟨n,hn,h⟩:=idxOk h
  obtain⟨k,hk⟩:=intD_ok hn (hρ i)
  split at h
  ·rename_i s hy
   obtain⟨ht,h⟩:=cond_some h
   rw[Option.bind_eq_some_iff]at h
   obtain⟨z,hz,h⟩:=h
   have:=index_str (k:=k) hC ht hz (hy▸hρ y)
   rw[←hk]at this
   exact pur h this
  ·rename_i m e a hy
   obtain⟨ht,h⟩:=cond_some h
   rw[Option.bind_eq_some_iff]at h
   obtain⟨z,hz,h⟩:=h
   have:=index_arr (k:=k) hC ht hz (hy▸hρ y)
   rw[←hk]at this
   exact pur h this
  ·cases h
 |extract y i=>
  simp only[top]at h
  split at h
  ·rename_i l hy
   split at h
   ·rename_i z hz
    exact pur h (extract_ok hz (hy▸hρ y))
   ·cases h
  ·cases h
 |call c=>
  obtain⟨callee,args,ts⟩:=c
  have arr: ∀ {l:List Value},(args.map ρc).toList=l->args.map ρc=l.toArray:=fun h=>by rw[←h]
  cases callee with
  |invoke r m=>exact absurd rfl (hni _ r m rfl)
  |value f=>exact absurd rfl (hnc _ f rfl)
  |builtin b=>
   simp only[top]at h
   split at h
   ·rename_i y z T T' ha hts
    obtain⟨n1,n2⟩:=hnm rfl
    have hargs:args.map ρc= #[ρc y,ρc z]:=arr (by simp[ha])
    have htsa:ts= #[T,T']:=by rw[←Array.toList_inj,hts]
    split at h
    ·rename_i e hT
     cases hnn:(C.dyn T&&Nat.beq T T'&&nilNil (ev ρ y) (ev ρ z))with
     |true=>
      rw[hnn,cond_true]at h
      injection h with h;injection h with e1 e2;subst e1 e2
      simp only[Bool.and_eq_true]at hnn
      have hTT:=nbeq.1 hnn.1.2
      subst hTT
      have:=(append_nn (ty:=ty0) hC hs hT hnn.2 (hρ y) (hρ z)).done
      simp only[execOp,resolve,Sem.run_bind,Sem.run_pure,Result.andThen_ok,invoke,builtin,hargs,htsa,Done]at this⊢
      exact this
     |false=>
     rw[hnn,cond_false]at h
     rcases rowC_inv h with⟨b1,s,sz,l,hz,hb,hlv,hq⟩|h
     ·obtain⟨hc,hap⟩:=cond_some hq
      simp only[Bool.and_eq_true]at hc
      have hTT:=nbeq.1 hc.2
      subst hTT
      have:=(append_C (ty:=ty0) (vb:=ρc z) hC hs n1 n2 hT (nbeq.1 hc.1.1) (nble.1 hc.1.2) (fun c=>source_C hs hb hlv c (hz▸hρ z)) hap (hρ y)).done
      simp only[execOp,resolve,Sem.run_bind,Sem.run_pure,Result.andThen_ok,invoke,builtin,hargs,htsa,Done]at this⊢
      exact this
     rcases valL_inv h with⟨l,hz,hc,hap⟩|h
     ·simp only[Bool.and_eq_true]at hc
      have hTT:=nbeq.1 hc.2
      subst hTT
      have:=(append_C (ty:=ty0) (vb:=ρc z) hC hs n1 n2 hT rfl (nble.1 hc.1.2) (fun c=>source_V (nble.1 hc.1.2) (hz▸hρ z) c) hap (hρ y)).done
      simp only[execOp,resolve,Sem.run_bind,Sem.run_pure,Result.andThen_ok,invoke,builtin,hargs,htsa,Done]at this⊢
      exact this
     obtain⟨ht,h⟩:=cond_some h
     have:=(append_ok (ty:=ty0) hC hs n1 n2 hT ht h (hρ y) (hρ z)).done
     simp only[execOp,resolve,Sem.run_bind,Sem.run_pure,Result.andThen_ok,invoke,builtin,hargs,htsa,Done]at this⊢
     exact this
    ·cases h
   ·rename_i y T ha hts
    have hargs:args.map ρc= #[ρc y]:=arr (by simp[ha])
    have htsa:ts= #[T]:=by rw[←Array.toList_inj,hts]
    split at h
    ·rename_i n e hT
     injection h with h;injection h with h1 h2;subst h1
     refine val (v:= .int .i64 n) ?_ (.v relV_i64) h2.symm
     have:=len_arr (P:=P) (w:=w) (ty:=ty0) (v:=ρc y) hC hT
     simp only[execOp,resolve,Sem.run_bind,Sem.run_pure,Result.andThen_ok,invoke,builtin,hargs,htsa,this]
    ·rcases rowC_inv h with⟨b1,s,sz,l,hz,hb,hlv,h⟩|h
     ·unfold sizeC at h
      split at h
      ·rename_i e hT
       obtain⟨hc,h⟩:=cond_some h
       injection h with h;injection h with h1 h2;subst h1
       refine val (v:= .int .i64 (l.length/sz:Nat)) ?_ (.v relV_i64) h2.symm
       have:=len_C (P:=P) (w:=w) (ty:=ty0) hC hb hT (hz▸hρ y)
       simp only[execOp,resolve,Sem.run_bind,Sem.run_pure,Result.andThen_ok,invoke,builtin,hargs,htsa,this]
      ·cases h
     obtain⟨ht,h⟩:=cond_some h
     rw[n_lenD,Option.bind_eq_some_iff]at h
     obtain⟨n,hn,h⟩:=h
     injection h with h;injection h with h1 h2;subst h1
     refine val (v:= .int .i64 n) ?_ (.v relV_i64) h2.symm
     have:=lenD_ok (P:=P) (w:=w) (ty:=ty0) hC ht hn (hρ y)
     simp only[execOp,resolve,Sem.run_bind,Sem.run_pure,Result.andThen_ok,invoke,builtin,hargs,htsa,this]
   ·rename_i y z ha
    have hargs:args.map ρc= #[ρc y,ρc z]:=arr (by simp[ha])
    rw[n_asV,Option.bind_eq_some_iff]at h
    obtain⟨a,hA,h⟩:=h
    rw[n_asV,Option.bind_eq_some_iff]at h
    obtain⟨b,hB,h⟩:=h
    injection h with h;injection h with h1 h2;subst h1
    refine val (v:= .int .i64 (minI a b)) ?_ (.v relV_i64) h2.symm
    have:=min_ok (P:=P) (w:=w) (ts:=ts) (ty:=ty0) (asV_ok hA (hρ y)) (asV_ok hB (hρ z))
    simp only[execOp,resolve,Sem.run_bind,Sem.run_pure,Result.andThen_ok,invoke,builtin,hargs,this]
   ·rename_i y z ha
    have hargs:args.map ρc= #[ρc y,ρc z]:=arr (by simp[ha])
    rw[n_asV,Option.bind_eq_some_iff]at h
    obtain⟨a,hA,h⟩:=h
    rw[n_asV,Option.bind_eq_some_iff]at h
    obtain⟨b,hB,h⟩:=h
    injection h with h;injection h with h1 h2;subst h1
    refine val (v:= .int .i64 (maxI a b)) ?_ (.v relV_i64) h2.symm
    have:=max_ok (P:=P) (w:=w) (ts:=ts) (ty:=ty0) (asV_ok hA (hρ y)) (asV_ok hB (hρ z))
    simp only[execOp,resolve,Sem.run_bind,Sem.run_pure,Result.andThen_ok,invoke,builtin,hargs,this]
   ·rename_i y z u ha
    have hargs:args.map ρc= #[ρc y,ρc z,ρc u]:=arr (by simp[ha])
    rw[n_asV,Option.bind_eq_some_iff]at h
    obtain⟨a,hA,h⟩:=h
    rw[n_asV,Option.bind_eq_some_iff]at h
    obtain⟨b,hB,h⟩:=h
    rw[n_asV,Option.bind_eq_some_iff]at h
    obtain⟨c,hD,h⟩:=h
    injection h with h;injection h with h1 h2;subst h1
    refine val (v:= .int .i64 (minI (minI a b) c)) ?_ (.v relV_i64) h2.symm
    have:=min_ok3 (P:=P) (w:=w) (ts:=ts) (ty:=ty0) (asV_ok hA (hρ y)) (asV_ok hB (hρ z)) (asV_ok hD (hρ u))
    simp only[execOp,resolve,Sem.run_bind,Sem.run_pure,Result.andThen_ok,invoke,builtin,hargs,this]
   ·rename_i y z u ha
    have hargs:args.map ρc= #[ρc y,ρc z,ρc u]:=arr (by simp[ha])
    rw[n_asV,Option.bind_eq_some_iff]at h
    obtain⟨a,hA,h⟩:=h
    rw[n_asV,Option.bind_eq_some_iff]at h
    obtain⟨b,hB,h⟩:=h
    rw[n_asV,Option.bind_eq_some_iff]at h
    obtain⟨c,hD,h⟩:=h
    injection h with h;injection h with h1 h2;subst h1
    refine val (v:= .int .i64 (maxI (maxI a b) c)) ?_ (.v relV_i64) h2.symm
    have:=max_ok3 (P:=P) (w:=w) (ts:=ts) (ty:=ty0) (asV_ok hA (hρ y)) (asV_ok hB (hρ z)) (asV_ok hD (hρ u))
    simp only[execOp,resolve,Sem.run_bind,Sem.run_pure,Result.andThen_ok,invoke,builtin,hargs,this]
   ·rename_i y z T T' ha hts
    have hargs:args.map ρc= #[ρc y,ρc z]:=arr (by simp[ha])
    have htsa:ts= #[T,T']:=by rw[←Array.toList_inj,hts]
    split at h
    ·rename_i e hT
     obtain⟨ht,h⟩:=cond_some h
     have:=(copy_ok (T':=T') (ty:=ty0) hC hs hT h (hρ y).unx (hρ z)).done
     simp only[execOp,resolve,Sem.run_bind,Sem.run_pure,Result.andThen_ok,invoke,builtin,hargs,htsa,Done]at this⊢
     exact this
    ·cases h
   ·rename_i y T ha hts
    have hargs:args.map ρc= #[ρc y]:=arr (by simp[ha])
    have htsa:ts= #[T]:=by rw[←Array.toList_inj,hts]
    obtain⟨ht,h⟩:=cond_some h
    rw[n_capD,Option.bind_eq_some_iff]at h
    obtain⟨n,hn,h⟩:=h
    injection h with h;injection h with h1 h2;subst h1
    refine val (v:= .int .i64 n) ?_ (.v relV_i64) h2.symm
    have:=capD_ok (P:=P) (w:=w) (ty:=ty0) hC ht hn (hρ y)
    simp only[execOp,resolve,Sem.run_bind,Sem.run_pure,Result.andThen_ok,invoke,builtin,hargs,htsa,this]
   ·cases h
 |lookup T y i ok=>
  cases ok with
  |false=>simp only[top,reduceCtorEq]at h
  |true=>
   simp only[top]at h
   split at h
   ·rename_i l hy
    obtain⟨hT,h⟩:=cond_some h
    rw[n_asV,Option.bind_eq_some_iff]at h
    obtain⟨n,hn,h⟩:=h
    rw[Option.bind_eq_some_iff]at h
    obtain⟨z,hz,h⟩:=h
    have hv:ρc i= .int .i64 n:=inv_i64 (asV_ok hn (hρ i))
    have:=lookup_ok (hC.map T hT) hz (hy▸hρ y)
    rw[←hv]at this
    exact pur h this
   ·cases h
 |_=>simp only[top,reduceCtorEq]at h
end
end Ev
end
