/- The functional readings of the functions as plain Lean terms, second part. No conditions. -/
import Derived.Test.YtbdhdandljfkfaaGreatDoorF
set_option linter.unusedVariables false
set_option linter.unusedSimpArgs false
set_option linter.unusedSectionVars false
set_option maxRecDepth 100000
section
open Go Go.Proofs Ev Sx
namespace Mx
def hadd(v:Vector UInt32 8)(i:Nat)(a:UInt32):Vector UInt32 8:=v.setIfInBounds i (v[i]?.getD (0:UInt32)+a)
noncomputable def t82(y42:T42)(y118:T118)(y119:T119)(x0:List UInt8):Option (Vector UInt8 32):=(y118).bind fun(r:Vector UInt32 64)=>(fits? x0).bind fun(ys:List UInt8)=>(app? ys [(128:UInt8)]).bind fun(zs:List UInt8)=>(iter (fun(x:List UInt8)=>(remI (↑x.length:Int) (64:Int)).bind fun(c:Int)=>bif decide (c≠(56:Int))then(app? x [(0:UInt8)]).bind fun(zs:List UInt8)=>some (Sum.inl zs)else some (Sum.inr x)) zs).bind fun(y:List UInt8)=>(y42 (mulI (8:Int) (↑x0.length:Int)) (8:Int)).bind fun(r_1:List UInt8)=>(app? y r_1).bind fun(zs:List UInt8)=>(iter (fun(x:Int×Vector UInt32 8)=>bif decide (x.1<(↑zs.length:Int))then(iter (fun(x_1:Int×Vector UInt32 64)=>bif decide (x_1.1<(16:Int))then if(0:Int)<=addI x.1 (mulI (4:Int) x_1.1)∧addI x.1 (mulI (4:Int) x_1.1)<=(↑zs.length:Int)∧(↑zs.length:Int)<=(↑zs.length:Int)then if(0:Int)<=(0:Int)∧(0:Int)<(↑((↑zs.length:Int).toNat-(addI x.1 (mulI (4:Int) x_1.1)).toNat):Int)then if(0:Int)<=(1:Int)∧(1:Int)<(↑((↑zs.length:Int).toNat-(addI x.1 (mulI (4:Int) x_1.1)).toNat):Int)then if(0:Int)<=(2:Int)∧(2:Int)<(↑((↑zs.length:Int).toNat-(addI x.1 (mulI (4:Int) x_1.1)).toNat):Int)then if(0:Int)<=(3:Int)∧(3:Int)<(↑((↑zs.length:Int).toNat-(addI x.1 (mulI (4:Int) x_1.1)).toNat):Int)then if(0:Int)<=x_1.1∧x_1.1<(64:Int)then some (Sum.inl (addI x_1.1 (1:Int),x_1.2.setIfInBounds x_1.1.toNat (shl32 (UInt32.ofInt (↑(zs.getD ((addI x.1 (mulI (4:Int) x_1.1)).toNat+(0:Nat)) (0:UInt8)).toNat:Int)) (24:Nat)|||shl32 (UInt32.ofInt (↑(zs.getD ((addI x.1 (mulI (4:Int) x_1.1)).toNat+(1:Nat)) (0:UInt8)).toNat:Int)) 16|||shl32 (UInt32.ofInt (↑(zs.getD ((addI x.1 (mulI (4:Int) x_1.1)).toNat+2) (0:UInt8)).toNat:Int)) 8|||UInt32.ofInt (↑(zs.getD ((addI x.1 (mulI (4:Int) x_1.1)).toNat+(3:Nat)) (0:UInt8)).toNat:Int))))else none else none else none else none else none else none else some (Sum.inr x_1.2)) ((0:Int),Vector.replicate 64 (0:UInt32))).bind fun(y:Vector UInt32 64)=>(iter (fun(x:Int×Vector UInt32 64)=>bif decide (x.1<(64:Int))then if(0:Int)<=subI x.1 (15:Int)∧subI x.1 (15:Int)<(64:Int)then if(0:Int)<=subI x.1 (2:Int)∧subI x.1 (2:Int)<(64:Int)then if(0:Int)<=subI x.1 (16:Int)∧subI x.1 (16:Int)<(64:Int)then(y119 (x.2[(subI x.1 (15:Int)).toNat]?.getD (0:UInt32)) (7:UInt64)).bind fun(r:UInt32)=>(y119 (x.2[(subI x.1 (15:Int)).toNat]?.getD (0:UInt32)) (18:UInt64)).bind fun(r_2:UInt32)=>if(0:Int)<=subI x.1 (7:Int)∧subI x.1 (7:Int)<(64:Int)then(y119 (x.2[(subI x.1 (2:Int)).toNat]?.getD (0:UInt32)) (17:UInt64)).bind fun(r_3:UInt32)=>(y119 (x.2[(subI x.1 (2:Int)).toNat]?.getD (0:UInt32)) (19:UInt64)).bind fun(r_4:UInt32)=>if(0:Int)<=x.1∧x.1<(64:Int)then some (Sum.inl (addI x.1 (1:Int),x.2.setIfInBounds x.1.toNat (x.2[(subI x.1 (16:Int)).toNat]?.getD (0:UInt32)+(r^^^r_2^^^shr32 (x.2[(subI x.1 (15:Int)).toNat]?.getD (0:UInt32)) (3:Nat))+x.2[(subI x.1 (7:Int)).toNat]?.getD (0:UInt32)+(r_3^^^r_4^^^shr32 (x.2[(subI x.1 (2:Int)).toNat]?.getD (0:UInt32)) (10:Nat)))))else none else none else none else none else none else some (Sum.inr x.2)) ((16:Int),y)).bind fun(y:Vector UInt32 64)=>(iter (fun(x:UInt32×UInt32×UInt32×UInt32×UInt32×UInt32×UInt32×UInt32×Int)=>bif decide (x.2.2.2.2.2.2.2.2<(64:Int))then(y119 x.2.2.2.2.1 (6:UInt64)).bind fun(r_2:UInt32)=>(y119 x.2.2.2.2.1 (11:UInt64)).bind fun(r_3:UInt32)=>(y119 x.2.2.2.2.1 (25:UInt64)).bind fun(r_4:UInt32)=>if(0:Int)<=x.2.2.2.2.2.2.2.2∧x.2.2.2.2.2.2.2.2<(64:Int)then if(0:Int)<=x.2.2.2.2.2.2.2.2∧x.2.2.2.2.2.2.2.2<(64:Int)then(y119 x.1 (2:UInt64)).bind fun(r_5:UInt32)=>(y119 x.1 (13:UInt64)).bind fun(r_6:UInt32)=>(y119 x.1 (22:UInt64)).bind fun(r_7:UInt32)=>some (Sum.inl (x.2.2.2.2.2.2.2.1+(r_2^^^r_3^^^r_4)+(x.2.2.2.2.1&&&x.2.2.2.2.2.1^^^ ~~~x.2.2.2.2.1&&&x.2.2.2.2.2.2.1)+r[x.2.2.2.2.2.2.2.2.toNat]?.getD (0:UInt32)+y[x.2.2.2.2.2.2.2.2.toNat]?.getD (0:UInt32)+((r_5^^^r_6^^^r_7)+(x.1&&&x.2.1^^^x.1&&&x.2.2.1^^^x.2.1&&&x.2.2.1)),x.1,x.2.1,x.2.2.1,x.2.2.2.1+(x.2.2.2.2.2.2.2.1+(r_2^^^r_3^^^r_4)+(x.2.2.2.2.1&&&x.2.2.2.2.2.1^^^ ~~~x.2.2.2.2.1&&&x.2.2.2.2.2.2.1)+r[x.2.2.2.2.2.2.2.2.toNat]?.getD (0:UInt32)+y[x.2.2.2.2.2.2.2.2.toNat]?.getD (0:UInt32)),x.2.2.2.2.1,x.2.2.2.2.2.1,x.2.2.2.2.2.2.1,addI x.2.2.2.2.2.2.2.2 (1:Int)))else none else none else some (Sum.inr (x.1,x.2.1,x.2.2.1,x.2.2.2.1,x.2.2.2.2.1,x.2.2.2.2.2.1,x.2.2.2.2.2.2.1,x.2.2.2.2.2.2.2.1))) (x.2[(0:Nat)]?.getD (0:UInt32),x.2[(1:Nat)]?.getD (0:UInt32),x.2[2]?.getD (0:UInt32),x.2[(3:Nat)]?.getD (0:UInt32),x.2[4]?.getD (0:UInt32),x.2[(5:Nat)]?.getD (0:UInt32),x.2[(6:Nat)]?.getD (0:UInt32),x.2[(7:Nat)]?.getD (0:UInt32),(0:Int))).bind fun(y:UInt32×UInt32×UInt32×UInt32×UInt32×UInt32×UInt32×UInt32)=>some (Sum.inl (addI x.1 (64:Int),hadd (hadd (hadd (hadd (hadd (hadd (hadd (hadd x.2 0 y.1) 1 y.2.1) 2 y.2.2.1) 3 y.2.2.2.1) 4 y.2.2.2.2.1) 5 y.2.2.2.2.2.1) 6 y.2.2.2.2.2.2.1) 7 y.2.2.2.2.2.2.2))else some (Sum.inr x.2)) ((0:Int),vecOf 8 [(1779033703:UInt32),(3144134277:UInt32),(1013904242:UInt32),(2773480762:UInt32),(1359893119:UInt32),(2600822924:UInt32),(528734635:UInt32),(1541459225:UInt32)] (0:UInt32))).bind fun(y:Vector UInt32 8)=>(iter (fun(x:Int×Vector UInt8 32)=>bif decide (x.1<(8:Int))then if(0:Int)<=x.1∧x.1<(8:Int)then if(0:Int)<=x.1∧x.1<(8:Int)then if(0:Int)<=x.1∧x.1<(8:Int)then if(0:Int)<=x.1∧x.1<(8:Int)then if(0:Int)<=mulI (4:Int) x.1∧mulI (4:Int) x.1<(32:Int)then if(0:Int)<=addI (mulI (4:Int) x.1) (1:Int)∧addI (mulI (4:Int) x.1) (1:Int)<(32:Int)then if(0:Int)<=addI (mulI (4:Int) x.1) (2:Int)∧addI (mulI (4:Int) x.1) (2:Int)<(32:Int)then if(0:Int)<=addI (mulI (4:Int) x.1) (3:Int)∧addI (mulI (4:Int) x.1) (3:Int)<(32:Int)then some (Sum.inl (addI x.1 (1:Int),(((x.2.setIfInBounds (mulI (4:Int) x.1).toNat (UInt8.ofInt (↑(shr32 (y[x.1.toNat]?.getD (0:UInt32)) (24:Nat)).toNat:Int))).setIfInBounds (addI (mulI (4:Int) x.1) (1:Int)).toNat (UInt8.ofInt (↑(shr32 (y[x.1.toNat]?.getD (0:UInt32)) 16).toNat:Int))).setIfInBounds (addI (mulI (4:Int) x.1) (2:Int)).toNat (UInt8.ofInt (↑(shr32 (y[x.1.toNat]?.getD (0:UInt32)) 8).toNat:Int))).setIfInBounds (addI (mulI (4:Int) x.1) (3:Int)).toNat (UInt8.ofInt (↑(y[x.1.toNat]?.getD (0:UInt32)).toNat:Int))))else none else none else none else none else none else none else none else none else some (Sum.inr x.2)) ((0:Int),Vector.replicate 32 (0:UInt8))).bind fun(y:Vector UInt8 32)=>some y
noncomputable def K82(y42:T42)(y118:T118)(y119:T119):Ctx:=mkC tys cells maps [(i42,⟨P42,R42,fun x=>y42 x.1 x.2.1⟩),(i118,⟨P118,R118,fun _=>y118⟩),(i119,⟨P119,R119,fun x=>y119 x.1 x.2.1⟩)] [] []
theorem a82(y42:T42)(y118:T118)(y119:T119)(x0:List UInt8):evF (K82 y42 y118 y119) F82 h82 P82 R82 (x0,())=t82 y42 y118 y119 x0:=by kernel_rfl
theorem e82(x0:List UInt8):f82 x0=t82 f42 f118 f119 x0:=Eq.trans (b:=evF (K82 f42 f118 f119) F82 h82 P82 R82 (x0,())) (by kernel_rfl) (a82 f42 f118 f119 x0)
end Mx
end
section
open Go Go.Proofs Ev Sx
namespace Mx
noncomputable def t96_1(y90:T90)(a:Vector UInt8 32):Option (List (List (Vector UInt8 32))):=(y90 [(112:UInt8),(97:UInt8),(100:UInt8)] []).bind fun p=>some [[a]]
noncomputable def K96_1(y90:T90):Ctx:=mkC tys cells maps [(i90,⟨P90,R90,fun x=>y90 x.1 x.2.1⟩),(i128,s128),(i129,s129)] [] []
theorem a96_1(y90:T90)(a:Vector UInt8 32):evF (K96_1 y90) F96 h96 P96 R96 ([a],())=t96_1 y90 a:=by kernel_rfl
theorem e96_1(a:Vector UInt8 32):f96 [a]=t96_1 f90 a:=Eq.trans (b:=evF (K96_1 f90) F96 h96 P96 R96 ([a],())) (by kernel_rfl) (a96_1 f90 a)
noncomputable def t96_2(y90:T90)(y129:T129)(a b:Vector UInt8 32):Option (List (List (Vector UInt8 32))):=(y90 [(112:UInt8),(97:UInt8),(100:UInt8)] []).bind fun p=>(y129 a b).bind fun x=>some [[a,b],[x]]
noncomputable def K96_2(y90:T90)(y129:T129):Ctx:=mkC tys cells maps [(i90,⟨P90,R90,fun x=>y90 x.1 x.2.1⟩),(i128,s128),(i129,⟨P129,R129,fun x=>y129 x.1 x.2.1⟩)] [] []
theorem a96_2(y90:T90)(y129:T129)(a b:Vector UInt8 32):evF (K96_2 y90 y129) F96 h96 P96 R96 ([a,b],())=t96_2 y90 y129 a b:=by kernel_rfl
theorem e96_2(a b:Vector UInt8 32):f96 [a,b]=t96_2 f90 f129 a b:=Eq.trans (b:=evF (K96_2 f90 f129) F96 h96 P96 R96 ([a,b],())) (by kernel_rfl) (a96_2 f90 f129 a b)
noncomputable def t96_3(y90:T90)(y129:T129)(a b c:Vector UInt8 32):Option (List (List (Vector UInt8 32))):=(y90 [(112:UInt8),(97:UInt8),(100:UInt8)] []).bind fun p=>(y129 a b).bind fun x=>(y129 c p).bind fun y=>(y129 x y).bind fun z=>some [[a,b,c,p],[x,y],[z]]
noncomputable def K96_3(y90:T90)(y129:T129):Ctx:=mkC tys cells maps [(i90,⟨P90,R90,fun x=>y90 x.1 x.2.1⟩),(i128,s128),(i129,⟨P129,R129,fun x=>y129 x.1 x.2.1⟩)] [] []
theorem a96_3(y90:T90)(y129:T129)(a b c:Vector UInt8 32):evF (K96_3 y90 y129) F96 h96 P96 R96 ([a,b,c],())=t96_3 y90 y129 a b c:=by kernel_rfl
theorem e96_3(a b c:Vector UInt8 32):f96 [a,b,c]=t96_3 f90 f129 a b c:=Eq.trans (b:=evF (K96_3 f90 f129) F96 h96 P96 R96 ([a,b,c],())) (by kernel_rfl) (a96_3 f90 f129 a b c)
noncomputable def t96_4(y90:T90)(y129:T129)(a b c d:Vector UInt8 32):Option (List (List (Vector UInt8 32))):=(y90 [(112:UInt8),(97:UInt8),(100:UInt8)] []).bind fun p=>(y129 a b).bind fun x=>(y129 c d).bind fun y=>(y129 x y).bind fun z=>some [[a,b,c,d],[x,y],[z]]
noncomputable def K96_4(y90:T90)(y129:T129):Ctx:=mkC tys cells maps [(i90,⟨P90,R90,fun x=>y90 x.1 x.2.1⟩),(i128,s128),(i129,⟨P129,R129,fun x=>y129 x.1 x.2.1⟩)] [] []
theorem a96_4(y90:T90)(y129:T129)(a b c d:Vector UInt8 32):evF (K96_4 y90 y129) F96 h96 P96 R96 ([a,b,c,d],())=t96_4 y90 y129 a b c d:=by kernel_rfl
theorem e96_4(a b c d:Vector UInt8 32):f96 [a,b,c,d]=t96_4 f90 f129 a b c d:=Eq.trans (b:=evF (K96_4 f90 f129) F96 h96 P96 R96 ([a,b,c,d],())) (by kernel_rfl) (a96_4 f90 f129 a b c d)
noncomputable def t96_5(y90:T90)(y129:T129)(a0 a1 a2 a3 a4:Vector UInt8 32):Option (List (List (Vector UInt8 32))):=(y90 [(112:UInt8),(97:UInt8),(100:UInt8)] []).bind fun p=>(y129 a0 a1).bind fun x0=>(y129 a2 a3).bind fun x1=>(y129 a4 p).bind fun x2=>(y129 p p).bind fun x3=>(y129 x0 x1).bind fun x4=>(y129 x2 x3).bind fun x5=>(y129 x4 x5).bind fun x6=>some [[a0,a1,a2,a3,a4,p,p,p],[x0,x1,x2,x3],[x4,x5],[x6]]
theorem a96_5(y90:T90)(y129:T129)(a0 a1 a2 a3 a4:Vector UInt8 32):evF (K96_4 y90 y129) F96 h96 P96 R96 ([a0,a1,a2,a3,a4],())=t96_5 y90 y129 a0 a1 a2 a3 a4:=by kernel_rfl
theorem e96_5(a0 a1 a2 a3 a4:Vector UInt8 32):f96 [a0,a1,a2,a3,a4]=t96_5 f90 f129 a0 a1 a2 a3 a4:=Eq.trans (b:=evF (K96_4 f90 f129) F96 h96 P96 R96 ([a0,a1,a2,a3,a4],())) (by kernel_rfl) (a96_5 f90 f129 a0 a1 a2 a3 a4)
noncomputable def t96_6(y90:T90)(y129:T129)(a0 a1 a2 a3 a4 a5:Vector UInt8 32):Option (List (List (Vector UInt8 32))):=(y90 [(112:UInt8),(97:UInt8),(100:UInt8)] []).bind fun p=>(y129 a0 a1).bind fun x0=>(y129 a2 a3).bind fun x1=>(y129 a4 a5).bind fun x2=>(y129 p p).bind fun x3=>(y129 x0 x1).bind fun x4=>(y129 x2 x3).bind fun x5=>(y129 x4 x5).bind fun x6=>some [[a0,a1,a2,a3,a4,a5,p,p],[x0,x1,x2,x3],[x4,x5],[x6]]
theorem a96_6(y90:T90)(y129:T129)(a0 a1 a2 a3 a4 a5:Vector UInt8 32):evF (K96_4 y90 y129) F96 h96 P96 R96 ([a0,a1,a2,a3,a4,a5],())=t96_6 y90 y129 a0 a1 a2 a3 a4 a5:=by kernel_rfl
theorem e96_6(a0 a1 a2 a3 a4 a5:Vector UInt8 32):f96 [a0,a1,a2,a3,a4,a5]=t96_6 f90 f129 a0 a1 a2 a3 a4 a5:=Eq.trans (b:=evF (K96_4 f90 f129) F96 h96 P96 R96 ([a0,a1,a2,a3,a4,a5],())) (by kernel_rfl) (a96_6 f90 f129 a0 a1 a2 a3 a4 a5)
noncomputable def t96_7(y90:T90)(y129:T129)(a0 a1 a2 a3 a4 a5 a6:Vector UInt8 32):Option (List (List (Vector UInt8 32))):=(y90 [(112:UInt8),(97:UInt8),(100:UInt8)] []).bind fun p=>(y129 a0 a1).bind fun x0=>(y129 a2 a3).bind fun x1=>(y129 a4 a5).bind fun x2=>(y129 a6 p).bind fun x3=>(y129 x0 x1).bind fun x4=>(y129 x2 x3).bind fun x5=>(y129 x4 x5).bind fun x6=>some [[a0,a1,a2,a3,a4,a5,a6,p],[x0,x1,x2,x3],[x4,x5],[x6]]
theorem a96_7(y90:T90)(y129:T129)(a0 a1 a2 a3 a4 a5 a6:Vector UInt8 32):evF (K96_4 y90 y129) F96 h96 P96 R96 ([a0,a1,a2,a3,a4,a5,a6],())=t96_7 y90 y129 a0 a1 a2 a3 a4 a5 a6:=by kernel_rfl
theorem e96_7(a0 a1 a2 a3 a4 a5 a6:Vector UInt8 32):f96 [a0,a1,a2,a3,a4,a5,a6]=t96_7 f90 f129 a0 a1 a2 a3 a4 a5 a6:=Eq.trans (b:=evF (K96_4 f90 f129) F96 h96 P96 R96 ([a0,a1,a2,a3,a4,a5,a6],())) (by kernel_rfl) (a96_7 f90 f129 a0 a1 a2 a3 a4 a5 a6)
noncomputable def t96_8(y90:T90)(y129:T129)(a0 a1 a2 a3 a4 a5 a6 a7:Vector UInt8 32):Option (List (List (Vector UInt8 32))):=(y90 [(112:UInt8),(97:UInt8),(100:UInt8)] []).bind fun p=>(y129 a0 a1).bind fun x0=>(y129 a2 a3).bind fun x1=>(y129 a4 a5).bind fun x2=>(y129 a6 a7).bind fun x3=>(y129 x0 x1).bind fun x4=>(y129 x2 x3).bind fun x5=>(y129 x4 x5).bind fun x6=>some [[a0,a1,a2,a3,a4,a5,a6,a7],[x0,x1,x2,x3],[x4,x5],[x6]]
theorem a96_8(y90:T90)(y129:T129)(a0 a1 a2 a3 a4 a5 a6 a7:Vector UInt8 32):evF (K96_4 y90 y129) F96 h96 P96 R96 ([a0,a1,a2,a3,a4,a5,a6,a7],())=t96_8 y90 y129 a0 a1 a2 a3 a4 a5 a6 a7:=by kernel_rfl
theorem e96_8(a0 a1 a2 a3 a4 a5 a6 a7:Vector UInt8 32):f96 [a0,a1,a2,a3,a4,a5,a6,a7]=t96_8 f90 f129 a0 a1 a2 a3 a4 a5 a6 a7:=Eq.trans (b:=evF (K96_4 f90 f129) F96 h96 P96 R96 ([a0,a1,a2,a3,a4,a5,a6,a7],())) (by kernel_rfl) (a96_8 f90 f129 a0 a1 a2 a3 a4 a5 a6 a7)
noncomputable def t96_16(y90:T90)(y129:T129)(a0 a1 a2 a3 a4 a5 a6 a7 a8 a9 a10 a11 a12 a13 a14 a15:Vector UInt8 32):Option (List (List (Vector UInt8 32))):=(y90 [(112:UInt8),(97:UInt8),(100:UInt8)] []).bind fun p=>(y129 a0 a1).bind fun x0=>(y129 a2 a3).bind fun x1=>(y129 a4 a5).bind fun x2=>(y129 a6 a7).bind fun x3=>(y129 a8 a9).bind fun x4=>(y129 a10 a11).bind fun x5=>(y129 a12 a13).bind fun x6=>(y129 a14 a15).bind fun x7=>(y129 x0 x1).bind fun x8=>(y129 x2 x3).bind fun x9=>(y129 x4 x5).bind fun x10=>(y129 x6 x7).bind fun x11=>(y129 x8 x9).bind fun x12=>(y129 x10 x11).bind fun x13=>(y129 x12 x13).bind fun x14=>some [[a0,a1,a2,a3,a4,a5,a6,a7,a8,a9,a10,a11,a12,a13,a14,a15],[x0,x1,x2,x3,x4,x5,x6,x7],[x8,x9,x10,x11],[x12,x13],[x14]]
theorem a96_16(y90:T90)(y129:T129)(a0 a1 a2 a3 a4 a5 a6 a7 a8 a9 a10 a11 a12 a13 a14 a15:Vector UInt8 32):evF (K96_4 y90 y129) F96 h96 P96 R96 ([a0,a1,a2,a3,a4,a5,a6,a7,a8,a9,a10,a11,a12,a13,a14,a15],())=t96_16 y90 y129 a0 a1 a2 a3 a4 a5 a6 a7 a8 a9 a10 a11 a12 a13 a14 a15:=by kernel_rfl
theorem e96_16(a0 a1 a2 a3 a4 a5 a6 a7 a8 a9 a10 a11 a12 a13 a14 a15:Vector UInt8 32):f96 [a0,a1,a2,a3,a4,a5,a6,a7,a8,a9,a10,a11,a12,a13,a14,a15]=t96_16 f90 f129 a0 a1 a2 a3 a4 a5 a6 a7 a8 a9 a10 a11 a12 a13 a14 a15:=Eq.trans (b:=evF (K96_4 f90 f129) F96 h96 P96 R96 ([a0,a1,a2,a3,a4,a5,a6,a7,a8,a9,a10,a11,a12,a13,a14,a15],())) (by kernel_rfl) (a96_16 f90 f129 a0 a1 a2 a3 a4 a5 a6 a7 a8 a9 a10 a11 a12 a13 a14 a15)
noncomputable def t86(y96:T96)(x0:Int)(x1:List (Vector UInt8 32)):Option (List (Vector UInt8 32)×Int):=(bif decide (x0<(0:Int))then some true else some (decide ((↑x1.length:Int)<=x0))).bind fun(x:Bool)=>bif x then some ([],(1:Int))else(y96 x1).bind fun(r:List (List (Vector UInt8 32)))=>(cut? r (0:Int) (subI (↑r.length:Int) (1:Int))).bind fun(r:List (List (Vector UInt8 32)))=>(iter (fun(x:Int×List (Vector UInt8 32)×Int)=>bif decide (x.2.2<(↑r.length:Int))then(at? r x.2.2).bind fun(y:List (Vector UInt8 32))=>(at? y (xorI x.1 (1:Int))).bind fun(y:Vector UInt8 32)=>(app? x.2.1 [y]).bind fun(zs:List (Vector UInt8 32))=>(quoI x.1 (2:Int)).bind fun(c:Int)=>some (Sum.inl (c,zs,addI x.2.2 (1:Int)))else some (Sum.inr x.2.1)) (x0,[],(0:Int))).bind fun(y:List (Vector UInt8 32))=>some (y,(0:Int))
noncomputable def K86(y96:T96):Ctx:=mkC tys cells maps [(i96,⟨P96,R96,fun x=>y96 x.1⟩)] [] []
theorem a86(y96:T96)(x0:Int)(x1:List (Vector UInt8 32)):evF (K86 y96) F86 h86 P86 R86 (x0,x1,())=t86 y96 x0 x1:=by kernel_rfl
theorem e86(x0:Int)(x1:List (Vector UInt8 32)):f86 x0 x1=t86 f96 x0 x1:=Eq.trans (b:=evF (K86 f96) F86 h86 P86 R86 (x0,x1,())) (by kernel_rfl) (a86 f96 x0 x1)
end Mx
end
section
open Go Go.Proofs Ev Sx
namespace Mx
noncomputable def t59(y98:T98)(y99:T99):Option (Vector UInt8 256):=(iter (fun(x:UInt8×UInt8×Vector UInt8 256)=>(y98 x.1).bind fun(r:UInt8)=>(bif decide ((x.2.1^^^shl8 x.2.1 (1:Nat)^^^shl8 (x.2.1^^^shl8 x.2.1 (1:Nat)) 2^^^shl8 (x.2.1^^^shl8 x.2.1 (1:Nat)^^^shl8 (x.2.1^^^shl8 x.2.1 (1:Nat)) 2) 4)&&&(128:UInt8)≠(0:UInt8))then some (x.2.1^^^shl8 x.2.1 (1:Nat)^^^shl8 (x.2.1^^^shl8 x.2.1 (1:Nat)) 2^^^shl8 (x.2.1^^^shl8 x.2.1 (1:Nat)^^^shl8 (x.2.1^^^shl8 x.2.1 (1:Nat)) 2) 4^^^(9:UInt8))else some (x.2.1^^^shl8 x.2.1 (1:Nat)^^^shl8 (x.2.1^^^shl8 x.2.1 (1:Nat)) 2^^^shl8 (x.2.1^^^shl8 x.2.1 (1:Nat)^^^shl8 (x.2.1^^^shl8 x.2.1 (1:Nat)) 2) 4)).bind fun(x_1:UInt8)=>(y99 x_1 (1:Int)).bind fun(r_1:UInt8)=>(y99 x_1 (2:Int)).bind fun(r_2:UInt8)=>(y99 x_1 (3:Int)).bind fun(r_3:UInt8)=>(y99 x_1 (4:Int)).bind fun(r_4:UInt8)=>if(0:Int)<=(↑(x.1^^^r).toNat:Int)∧(↑(x.1^^^r).toNat:Int)<(256:Int)then bif decide (x.1^^^r=(1:UInt8))then some (Sum.inr (x.2.2.setIfInBounds (↑(x.1^^^r).toNat:Int).toNat (x_1^^^r_1^^^r_2^^^r_3^^^r_4^^^(99:UInt8))))else some (Sum.inl (x.1^^^r,x_1,x.2.2.setIfInBounds (↑(x.1^^^r).toNat:Int).toNat (x_1^^^r_1^^^r_2^^^r_3^^^r_4^^^(99:UInt8))))else none) ((1:UInt8),(1:UInt8),Vector.replicate 256 (0:UInt8))).bind fun(y:Vector UInt8 256)=>some (y.setIfInBounds (0:Nat) (99:UInt8))
noncomputable def K59(y98:T98)(y99:T99):Ctx:=mkC tys cells maps [(i98,⟨P98,R98,fun x=>y98 x.1⟩),(i99,⟨P99,R99,fun x=>y99 x.1 x.2.1⟩)] [] []
theorem a59(y98:T98)(y99:T99):evF (K59 y98 y99) F59 h59 P59 R59 ()=t59 y98 y99:=by kernel_rfl
theorem e59:f59=t59 f98 f99:=Eq.trans (b:=evF (K59 f98 f99) F59 h59 P59 R59 ()) (by kernel_rfl) (a59 f98 f99)
noncomputable def t40(y81:T81):Option (Vector UInt8 256):=(iter (fun(x:UInt8×Int×Vector UInt8 256×Vector UInt8 256)=>bif decide (x.2.1<(255:Int))then if(0:Int)<=x.2.1∧x.2.1<(256:Int)then if(0:Int)<=(↑x.1.toNat:Int)∧(↑x.1.toNat:Int)<(256:Int)then(y81 x.1).bind fun(r:UInt8)=>some (Sum.inl (x.1^^^r,addI x.2.1 (1:Int),x.2.2.1.setIfInBounds x.2.1.toNat x.1,x.2.2.2.setIfInBounds (↑x.1.toNat:Int).toNat (UInt8.ofInt x.2.1)))else none else none else some (Sum.inr (x.2.2.1,x.2.2.2))) ((1:UInt8),(0:Int),Vector.replicate 256 (0:UInt8),Vector.replicate 256 (0:UInt8))).bind fun(y:Vector UInt8 256×Vector UInt8 256)=>(iter (fun(x:Int×Vector UInt8 256)=>bif decide (x.1<(256:Int))then(bif decide ((0:Int)<x.1)then if(0:Int)<=x.1∧x.1<(256:Int)then(remI (subI (255:Int) (w64 (↑(y.2[x.1.toNat]?.getD (0:UInt8)).toNat:Int))) (255:Int)).bind fun(c:Int)=>if(0:Int)<=c∧c<(256:Int)then some (y.1[c.toNat]?.getD (0:UInt8))else none else none else some (0:UInt8)).bind fun(x_1:UInt8)=>(iter (fun(x:UInt8×Int)=>bif decide (x.2<(5:Int))then some (Sum.inl (x.1^^^(shl8 x_1 (UInt64.ofInt x.2).toNat|||shr8 x_1 (UInt64.ofInt (subI (8:Int) x.2)).toNat),addI x.2 (1:Int)))else some (Sum.inr x.1)) ((99:UInt8),(0:Int))).bind fun(y:UInt8)=>if(0:Int)<=x.1∧x.1<(256:Int)then some (Sum.inl (addI x.1 (1:Int),x.2.setIfInBounds x.1.toNat y))else none else some (Sum.inr x.2)) ((0:Int),Vector.replicate 256 (0:UInt8))).bind fun(y:Vector UInt8 256)=>some y
noncomputable def K40(y81:T81):Ctx:=mkC tys cells maps [(i81,⟨P81,R81,fun x=>y81 x.1⟩)] [] []
theorem a40(y81:T81):evF (K40 y81) F40 h40 P40 R40 ()=t40 y81:=by kernel_rfl
theorem e40:f40=t40 f81:=Eq.trans (b:=evF (K40 f81) F40 h40 P40 R40 ()) (by kernel_rfl) (a40 f81)
noncomputable def t99(x0:UInt8)(x1:Int):Option UInt8:=some (shl8 x0 (UInt64.ofInt x1&&&7).toNat|||shr8 x0 (8-(UInt64.ofInt x1&&&7)).toNat)
theorem e99(x0:UInt8)(x1:Int):f99 x0 x1=t99 x0 x1:=by kernel_rfl
end Mx
end
section
open Go Go.Proofs Ev Sx
namespace Mx
noncomputable def t153(y185: ∀(x0:UInt8),Option UInt8):Option (Option (Vector UInt8 510×Vector Int 256×Unit)):=(iter
 (fun(x:UInt8×Int×Vector UInt8 (510:Nat)×Vector Int (256:Nat)×Unit)=>
  bif decide (x.2.1<(255:Int))then
   if(0:Int)<=x.2.1∧x.2.1<(510:Int)then
    if(0:Int)<=addI x.2.1 (255:Int)∧addI x.2.1 (255:Int)<(510:Int)then
     if(0:Int)<=(↑x.1.toNat:Int)∧(↑x.1.toNat:Int)<(256:Int)then
      (y185 x.1).bind fun(r:UInt8)=>
       some
        (Sum.inl
         (r,addI x.2.1 (1:Int),(x.2.2.1.setIfInBounds x.2.1.toNat x.1).setIfInBounds (addI x.2.1 (255:Int)).toNat x.1,
          x.2.2.2.1.setIfInBounds (↑x.1.toNat:Int).toNat x.2.1,x.2.2.2.2))
     else none
    else none
   else none
  else some (Sum.inr x.2.2))
 ((1:UInt8),(0:Int),Vector.replicate (510:Nat) (0:UInt8),Vector.replicate (256:Nat) (0:Int),())).bind
 fun(y:Vector UInt8 (510:Nat)×Vector Int (256:Nat)×Unit)=>some (some y)
theorem a153(y185: ∀(x0:UInt8),Option UInt8):evF (mkC tys cells maps [(i185,⟨[.v .u8],[.v .u8],fun x=>y185 x.1⟩)] [] []) F153 h153 [] [.v (.op (.pair (.arr 510 .u8) (.pair (.arr 256 .i64) .unit)))] ()=t153 y185:=by kernel_rfl
theorem e153:f153=t153 f185:=Eq.trans (b:=evF (mkC tys cells maps [(i185,⟨[.v .u8],[.v .u8],fun x=>f185 x.1⟩)] [] []) F153 h153 [] [.v (.op (.pair (.arr 510 .u8) (.pair (.arr 256 .i64) .unit)))] ()) (by kernel_rfl) (a153 f185)
end Mx
end
section
open Go Go.Proofs Ev Sx
namespace Mx
abbrev H32:=Vector UInt8 32
abbrev ShT:=Int×List UInt8×List (Vector UInt8 32)×List (List UInt8)×Unit
abbrev UT:=Int×Int×Int×Int×Vector UInt8 32×Vector UInt8 32×Unit
abbrev GF:=Vector UInt8 510×Vector Int 256×Unit
def wrow{R:Type}(y164:GF->List UInt8->List UInt8->Option UInt8)(y167:List (List UInt8)->Int->Option (List UInt8))(r:Option GF)(x1:List (List UInt8))(m:List UInt8)(k:List UInt8->Option R):Option R:=
 (at? x1 (0:Int)).bind fun y_1=>(zeros? (y_1.length:Int) (0:UInt8)).bind fun r_1=>
  (iter (fun(x:Int×List UInt8)=>
   bif decide (x.1<(r_1.length:Int))then
    (y167 x1 x.1).bind fun r_2=>r.bind fun y_2=>(y164 y_2 m r_2).bind fun z=>
     if(0:Int)<=x.1∧x.1<(x.2.length:Int)then some (Sum.inl (addI x.1 (1:Int),x.2.set x.1.toNat z))else none
   else some (Sum.inr x.2)) ((0:Int),r_1)).bind k
def workG{R:Type}(y164:GF->List UInt8->List UInt8->Option UInt8)(y167:List (List UInt8)->Int->Option (List UInt8))(r:Option GF)(x1:List (List UInt8)):List (List UInt8)->(List (List UInt8)->Option R)->Option R
 |[],k=>k []
 |m::ms,k=>wrow y164 y167 r x1 m fun a=>workG y164 y167 r x1 ms fun l=>k (a::l)
def stepsI{R:Type}(e:List (List UInt8)):Nat->Nat->(List (List UInt8)->Option R)->Option R
 |0,i,k=>cond (decide ((i:Int)<(e.length:Int))) none (k [])
 |m+1,i,k=>cond (decide ((i:Int)<(e.length:Int))) ((at? e (i:Int)).bind fun b=>stepsI e m (i+1) fun l=>k (b::l)) none
def stepsR{R:Type}(e:List (List UInt8)):Nat->Nat->(List (List UInt8)->Option R)->Option R
 |0,i,k=>k []
 |m+1,i,k=>(at? e (i:Int)).bind fun b=>stepsR e m (i+1) fun l=>k (b::l)
def segsI{R:Type}(st:List (List UInt8)->(List (List UInt8)->Option R)->Option R)(enc:List UInt8->(List (List UInt8)->Option R)->Option R)(ss:List (List UInt8)):Nat->Nat->(List (List (List UInt8))->Option R)->Option R
 |0,j,k=>cond (decide ((j:Int)<(ss.length:Int))) none (k [])
 |q+1,j,k=>cond (decide ((j:Int)<(ss.length:Int))) ((at? ss (j:Int)).bind fun s=>enc s fun e=>st e fun bs=>segsI st enc ss q (j+1) fun l=>k (bs::l)) none
def blkOf(rows:List (List (List UInt8)))(i:Nat):List (List UInt8):=rows.map fun r=>r.getD i []
def numOf(rows:List (List (List UInt8)))(i:Nat):Int:=match rows with
 |[]=>0
 |_::_=>(i:Int)
def leafS{R:Type}(y:ShT->Option H32)(rows:List (List (List UInt8))):Nat->Nat->(List H32->Option R)->Option R
 |0,_,k=>k []
 |m+1,i,k=>(y (numOf rows i,[],[],blkOf rows i,())).bind fun h=>leafS y rows m (i+1) fun l=>k (h::l)
def endI{R:Type}(y86:Int->List H32->Option (List H32×Int))(ls:List H32)(rows:List (List (List UInt8))):Nat->Nat->(List ShT->Option R)->Option R
 |0,_,k=>k []
 |m+1,i,k=>(y86 (i:Int) ls).bind fun p=>endI y86 ls rows m (i+1) fun l=>k ((numOf rows i,[],p.1,blkOf rows i,())::l)
def endR{R:Type}(y27:UT->Option (List UInt8))(y39:Int->List H32->Option (List H32))(u:UT)(ls:List H32)(rows:List (List (List UInt8))):Nat->Nat->(List ShT->Option R)->Option R
 |0,_,k=>k []
 |m+1,i,k=>(y27 u).bind fun b=>(y39 (i:Int) ls).bind fun p=>endR y27 y39 u ls rows m (i+1) fun l=>k ((numOf rows i,b,p,blkOf rows i,())::l)
noncomputable def t124(y153:Option (Option GF))(y164:GF->List UInt8->List UInt8->Option UInt8)(y167:List (List UInt8)->Int->Option (List UInt8))(m x1:List (List UInt8)):Option (List (List UInt8)):=
 y153.bind fun r=>workG y164 y167 r x1 m fun l=>some l
noncomputable def t46(y55:List UInt8->Option (List (List UInt8)))(y83:Int->Int->Option (Option (Int×Int×List (List UInt8)×Unit)×Int))(y84:Int×Int×List (List UInt8)×Unit->List UInt8->Option (List (List UInt8)))(y85:ShT->Option H32)(y86:Int->List H32->Option (List H32×Int))(y87:List H32->Option H32)(x0:List UInt8)(x1:Int)(n q:Nat):Option (List ShT×H32):=
 (y83 x1 (n:Int)).bind fun r=>(y55 x0).bind fun ss=>
  segsI (fun e k=>stepsI e n 0 k) (fun s k=>r.1.bind fun c=>(y84 c s).bind k) ss q 0 fun rows=>
   leafS y85 rows n 0 fun ls=>endI y86 ls rows n 0 fun l=>(y87 ls).bind fun h=>some (l,h)
noncomputable def t16(y27:UT->Option (List UInt8))(y28:List UInt8->Option H32)(y30:List UInt8->Option (List (List UInt8)))(y36:List UInt8->Int->Int->Option (List (List UInt8)))(y37:ShT->Option H32)(y38:List H32->Option H32)(y39:Int->List H32->Option (List H32))(x0:List UInt8)(x1:Int)(n q:Nat):Option (List ShT×UT):=
 (y30 x0).bind fun ss=>
  segsI (fun e k=>stepsR e n 0 k) (fun s k=>(y36 s x1 (n:Int)).bind k) ss q 0 fun rows=>
   leafS y37 rows n 0 fun ls=>(y28 x0).bind fun cr=>(y38 ls).bind fun rt=>
    endR y27 y39 (x1,(n:Int),(x0.length:Int),(64:Int),cr,rt,()) ls rows n 0 fun l=>some (l,(x1,(n:Int),(x0.length:Int),(64:Int),cr,rt,()))
noncomputable def K124(y153:T153)(y164:T164)(y167:T167):Ctx:=mkC tys cells maps [(i153,⟨P153,R153,fun _=>y153⟩),(i164,⟨P164,R164,fun x=>y164 x.1 x.2.1 x.2.2.1⟩),(i167,⟨P167,R167,fun x=>y167 x.1 x.2.1⟩)] [tyBB] []
theorem a124_1(y153:T153)(y164:T164)(y167:T167)(m0:List UInt8)(x1:List (List UInt8)):evF (K124 y153 y164 y167) F124 h124 P124 R124 ([m0],x1,())=t124 y153 y164 y167 [m0] x1:=by kernel_rfl
theorem e124_1(m0:List UInt8)(x1:List (List UInt8)):f124 [m0] x1=t124 f153 f164 f167 [m0] x1:=Eq.trans (b:=evF (K124 f153 f164 f167) F124 h124 P124 R124 ([m0],x1,())) (by kernel_rfl) (a124_1 f153 f164 f167 m0 x1)
theorem a124_2(y153:T153)(y164:T164)(y167:T167)(m0 m1:List UInt8)(x1:List (List UInt8)):evF (K124 y153 y164 y167) F124 h124 P124 R124 ([m0,m1],x1,())=t124 y153 y164 y167 [m0,m1] x1:=by kernel_rfl
theorem e124_2(m0 m1:List UInt8)(x1:List (List UInt8)):f124 [m0,m1] x1=t124 f153 f164 f167 [m0,m1] x1:=Eq.trans (b:=evF (K124 f153 f164 f167) F124 h124 P124 R124 ([m0,m1],x1,())) (by kernel_rfl) (a124_2 f153 f164 f167 m0 m1 x1)
theorem a124_3(y153:T153)(y164:T164)(y167:T167)(m0 m1 m2:List UInt8)(x1:List (List UInt8)):evF (K124 y153 y164 y167) F124 h124 P124 R124 ([m0,m1,m2],x1,())=t124 y153 y164 y167 [m0,m1,m2] x1:=by kernel_rfl
theorem e124_3(m0 m1 m2:List UInt8)(x1:List (List UInt8)):f124 [m0,m1,m2] x1=t124 f153 f164 f167 [m0,m1,m2] x1:=Eq.trans (b:=evF (K124 f153 f164 f167) F124 h124 P124 R124 ([m0,m1,m2],x1,())) (by kernel_rfl) (a124_3 f153 f164 f167 m0 m1 m2 x1)
theorem a124_4(y153:T153)(y164:T164)(y167:T167)(m0 m1 m2 m3:List UInt8)(x1:List (List UInt8)):evF (K124 y153 y164 y167) F124 h124 P124 R124 ([m0,m1,m2,m3],x1,())=t124 y153 y164 y167 [m0,m1,m2,m3] x1:=by kernel_rfl
theorem e124_4(m0 m1 m2 m3:List UInt8)(x1:List (List UInt8)):f124 [m0,m1,m2,m3] x1=t124 f153 f164 f167 [m0,m1,m2,m3] x1:=Eq.trans (b:=evF (K124 f153 f164 f167) F124 h124 P124 R124 ([m0,m1,m2,m3],x1,())) (by kernel_rfl) (a124_4 f153 f164 f167 m0 m1 m2 m3 x1)
theorem a124_5(y153:T153)(y164:T164)(y167:T167)(m0 m1 m2 m3 m4:List UInt8)(x1:List (List UInt8)):evF (K124 y153 y164 y167) F124 h124 P124 R124 ([m0,m1,m2,m3,m4],x1,())=t124 y153 y164 y167 [m0,m1,m2,m3,m4] x1:=by kernel_rfl
theorem e124_5(m0 m1 m2 m3 m4:List UInt8)(x1:List (List UInt8)):f124 [m0,m1,m2,m3,m4] x1=t124 f153 f164 f167 [m0,m1,m2,m3,m4] x1:=Eq.trans (b:=evF (K124 f153 f164 f167) F124 h124 P124 R124 ([m0,m1,m2,m3,m4],x1,())) (by kernel_rfl) (a124_5 f153 f164 f167 m0 m1 m2 m3 m4 x1)
theorem a124_6(y153:T153)(y164:T164)(y167:T167)(m0 m1 m2 m3 m4 m5:List UInt8)(x1:List (List UInt8)):evF (K124 y153 y164 y167) F124 h124 P124 R124 ([m0,m1,m2,m3,m4,m5],x1,())=t124 y153 y164 y167 [m0,m1,m2,m3,m4,m5] x1:=by kernel_rfl
theorem e124_6(m0 m1 m2 m3 m4 m5:List UInt8)(x1:List (List UInt8)):f124 [m0,m1,m2,m3,m4,m5] x1=t124 f153 f164 f167 [m0,m1,m2,m3,m4,m5] x1:=Eq.trans (b:=evF (K124 f153 f164 f167) F124 h124 P124 R124 ([m0,m1,m2,m3,m4,m5],x1,())) (by kernel_rfl) (a124_6 f153 f164 f167 m0 m1 m2 m3 m4 m5 x1)
theorem a124_7(y153:T153)(y164:T164)(y167:T167)(m0 m1 m2 m3 m4 m5 m6:List UInt8)(x1:List (List UInt8)):evF (K124 y153 y164 y167) F124 h124 P124 R124 ([m0,m1,m2,m3,m4,m5,m6],x1,())=t124 y153 y164 y167 [m0,m1,m2,m3,m4,m5,m6] x1:=by kernel_rfl
theorem e124_7(m0 m1 m2 m3 m4 m5 m6:List UInt8)(x1:List (List UInt8)):f124 [m0,m1,m2,m3,m4,m5,m6] x1=t124 f153 f164 f167 [m0,m1,m2,m3,m4,m5,m6] x1:=Eq.trans (b:=evF (K124 f153 f164 f167) F124 h124 P124 R124 ([m0,m1,m2,m3,m4,m5,m6],x1,())) (by kernel_rfl) (a124_7 f153 f164 f167 m0 m1 m2 m3 m4 m5 m6 x1)
end Mx
end
section
open Go Go.Proofs Ev Sx
namespace Mx
noncomputable def K46(y55:T55)(y83:T83)(y84:T84)(y85:T85)(y86:T86)(y87:T87):Ctx:=mkC tys cells maps [(i55,⟨P55,R55,fun x=>y55 x.1⟩),(i83,⟨P83,R83,fun x=>y83 x.1 x.2.1⟩),(i84,⟨P84,R84,fun x=>y84 x.1 x.2.1⟩),(i85,⟨P85,R85,fun x=>y85 x.1⟩),(i86,⟨P86,R86,fun x=>y86 x.1 x.2.1⟩),(i87,⟨P87,R87,fun x=>y87 x.1⟩)] [tySH] []
noncomputable abbrev EV46(y55:T55)(y83:T83)(y84:T84)(y85:T85)(y86:T86)(y87:T87)(x0:List UInt8)(x1:Int)(n q:Nat):=evF (K46 y55 y83 y84 y85 y86 y87) F46 ((h46 (x0,x1,(n:Int),())).getD q []) P46 R46 (x0,x1,(n:Int),())
theorem a46_10(y55:T55)(y83:T83)(y84:T84)(y85:T85)(y86:T86)(y87:T87)(x0:List UInt8)(x1:Int):EV46 y55 y83 y84 y85 y86 y87 x0 x1 1 0=t46 y55 y83 y84 y85 y86 y87 x0 x1 1 0:=by kernel_rfl
theorem a46_11(y55:T55)(y83:T83)(y84:T84)(y85:T85)(y86:T86)(y87:T87)(x0:List UInt8)(x1:Int):EV46 y55 y83 y84 y85 y86 y87 x0 x1 1 1=t46 y55 y83 y84 y85 y86 y87 x0 x1 1 1:=by kernel_rfl
theorem a46_12(y55:T55)(y83:T83)(y84:T84)(y85:T85)(y86:T86)(y87:T87)(x0:List UInt8)(x1:Int):EV46 y55 y83 y84 y85 y86 y87 x0 x1 1 2=t46 y55 y83 y84 y85 y86 y87 x0 x1 1 2:=by kernel_rfl
theorem a46_13(y55:T55)(y83:T83)(y84:T84)(y85:T85)(y86:T86)(y87:T87)(x0:List UInt8)(x1:Int):EV46 y55 y83 y84 y85 y86 y87 x0 x1 1 3=t46 y55 y83 y84 y85 y86 y87 x0 x1 1 3:=by kernel_rfl
theorem a46_14(y55:T55)(y83:T83)(y84:T84)(y85:T85)(y86:T86)(y87:T87)(x0:List UInt8)(x1:Int):EV46 y55 y83 y84 y85 y86 y87 x0 x1 1 4=t46 y55 y83 y84 y85 y86 y87 x0 x1 1 4:=by kernel_rfl
theorem e46_1(x0:List UInt8)(x1:Int):f46 x0 x1 (1:Nat)=orAll [t46 f55 f83 f84 f85 f86 f87 x0 x1 1 0,t46 f55 f83 f84 f85 f86 f87 x0 x1 1 1,t46 f55 f83 f84 f85 f86 f87 x0 x1 1 2,t46 f55 f83 f84 f85 f86 f87 x0 x1 1 3,t46 f55 f83 f84 f85 f86 f87 x0 x1 1 4]:=Eq.trans (b:=orAll [EV46 f55 f83 f84 f85 f86 f87 x0 x1 1 0,EV46 f55 f83 f84 f85 f86 f87 x0 x1 1 1,EV46 f55 f83 f84 f85 f86 f87 x0 x1 1 2,EV46 f55 f83 f84 f85 f86 f87 x0 x1 1 3,EV46 f55 f83 f84 f85 f86 f87 x0 x1 1 4]) (by kernel_rfl) (by rw[a46_10 f55 f83 f84 f85 f86 f87,a46_11 f55 f83 f84 f85 f86 f87,a46_12 f55 f83 f84 f85 f86 f87,a46_13 f55 f83 f84 f85 f86 f87,a46_14 f55 f83 f84 f85 f86 f87];rfl)
theorem a46_20(y55:T55)(y83:T83)(y84:T84)(y85:T85)(y86:T86)(y87:T87)(x0:List UInt8)(x1:Int):EV46 y55 y83 y84 y85 y86 y87 x0 x1 2 0=t46 y55 y83 y84 y85 y86 y87 x0 x1 2 0:=by kernel_rfl
theorem a46_21(y55:T55)(y83:T83)(y84:T84)(y85:T85)(y86:T86)(y87:T87)(x0:List UInt8)(x1:Int):EV46 y55 y83 y84 y85 y86 y87 x0 x1 2 1=t46 y55 y83 y84 y85 y86 y87 x0 x1 2 1:=by kernel_rfl
theorem a46_22(y55:T55)(y83:T83)(y84:T84)(y85:T85)(y86:T86)(y87:T87)(x0:List UInt8)(x1:Int):EV46 y55 y83 y84 y85 y86 y87 x0 x1 2 2=t46 y55 y83 y84 y85 y86 y87 x0 x1 2 2:=by kernel_rfl
theorem a46_23(y55:T55)(y83:T83)(y84:T84)(y85:T85)(y86:T86)(y87:T87)(x0:List UInt8)(x1:Int):EV46 y55 y83 y84 y85 y86 y87 x0 x1 2 3=t46 y55 y83 y84 y85 y86 y87 x0 x1 2 3:=by kernel_rfl
theorem a46_24(y55:T55)(y83:T83)(y84:T84)(y85:T85)(y86:T86)(y87:T87)(x0:List UInt8)(x1:Int):EV46 y55 y83 y84 y85 y86 y87 x0 x1 2 4=t46 y55 y83 y84 y85 y86 y87 x0 x1 2 4:=by kernel_rfl
theorem e46_2(x0:List UInt8)(x1:Int):f46 x0 x1 (2:Nat)=orAll [t46 f55 f83 f84 f85 f86 f87 x0 x1 2 0,t46 f55 f83 f84 f85 f86 f87 x0 x1 2 1,t46 f55 f83 f84 f85 f86 f87 x0 x1 2 2,t46 f55 f83 f84 f85 f86 f87 x0 x1 2 3,t46 f55 f83 f84 f85 f86 f87 x0 x1 2 4]:=Eq.trans (b:=orAll [EV46 f55 f83 f84 f85 f86 f87 x0 x1 2 0,EV46 f55 f83 f84 f85 f86 f87 x0 x1 2 1,EV46 f55 f83 f84 f85 f86 f87 x0 x1 2 2,EV46 f55 f83 f84 f85 f86 f87 x0 x1 2 3,EV46 f55 f83 f84 f85 f86 f87 x0 x1 2 4]) (by kernel_rfl) (by rw[a46_20 f55 f83 f84 f85 f86 f87,a46_21 f55 f83 f84 f85 f86 f87,a46_22 f55 f83 f84 f85 f86 f87,a46_23 f55 f83 f84 f85 f86 f87,a46_24 f55 f83 f84 f85 f86 f87];rfl)
theorem a46_30(y55:T55)(y83:T83)(y84:T84)(y85:T85)(y86:T86)(y87:T87)(x0:List UInt8)(x1:Int):EV46 y55 y83 y84 y85 y86 y87 x0 x1 3 0=t46 y55 y83 y84 y85 y86 y87 x0 x1 3 0:=by kernel_rfl
theorem a46_31(y55:T55)(y83:T83)(y84:T84)(y85:T85)(y86:T86)(y87:T87)(x0:List UInt8)(x1:Int):EV46 y55 y83 y84 y85 y86 y87 x0 x1 3 1=t46 y55 y83 y84 y85 y86 y87 x0 x1 3 1:=by kernel_rfl
theorem a46_32(y55:T55)(y83:T83)(y84:T84)(y85:T85)(y86:T86)(y87:T87)(x0:List UInt8)(x1:Int):EV46 y55 y83 y84 y85 y86 y87 x0 x1 3 2=t46 y55 y83 y84 y85 y86 y87 x0 x1 3 2:=by kernel_rfl
theorem a46_33(y55:T55)(y83:T83)(y84:T84)(y85:T85)(y86:T86)(y87:T87)(x0:List UInt8)(x1:Int):EV46 y55 y83 y84 y85 y86 y87 x0 x1 3 3=t46 y55 y83 y84 y85 y86 y87 x0 x1 3 3:=by kernel_rfl
theorem a46_34(y55:T55)(y83:T83)(y84:T84)(y85:T85)(y86:T86)(y87:T87)(x0:List UInt8)(x1:Int):EV46 y55 y83 y84 y85 y86 y87 x0 x1 3 4=t46 y55 y83 y84 y85 y86 y87 x0 x1 3 4:=by kernel_rfl
theorem a46_316(y55:T55)(y83:T83)(y84:T84)(y85:T85)(y86:T86)(y87:T87)(x0:List UInt8)(x1:Int):EV46 y55 y83 y84 y85 y86 y87 x0 x1 3 5=t46 y55 y83 y84 y85 y86 y87 x0 x1 3 16:=by kernel_rfl
theorem e46_3(x0:List UInt8)(x1:Int):f46 x0 x1 (3:Nat)=orAll [t46 f55 f83 f84 f85 f86 f87 x0 x1 3 0,t46 f55 f83 f84 f85 f86 f87 x0 x1 3 1,t46 f55 f83 f84 f85 f86 f87 x0 x1 3 2,t46 f55 f83 f84 f85 f86 f87 x0 x1 3 3,t46 f55 f83 f84 f85 f86 f87 x0 x1 3 4,t46 f55 f83 f84 f85 f86 f87 x0 x1 3 16]:=Eq.trans (b:=orAll [EV46 f55 f83 f84 f85 f86 f87 x0 x1 3 0,EV46 f55 f83 f84 f85 f86 f87 x0 x1 3 1,EV46 f55 f83 f84 f85 f86 f87 x0 x1 3 2,EV46 f55 f83 f84 f85 f86 f87 x0 x1 3 3,EV46 f55 f83 f84 f85 f86 f87 x0 x1 3 4,EV46 f55 f83 f84 f85 f86 f87 x0 x1 3 5]) (by kernel_rfl) (by rw[a46_30 f55 f83 f84 f85 f86 f87,a46_31 f55 f83 f84 f85 f86 f87,a46_32 f55 f83 f84 f85 f86 f87,a46_33 f55 f83 f84 f85 f86 f87,a46_34 f55 f83 f84 f85 f86 f87,a46_316 f55 f83 f84 f85 f86 f87];rfl)
theorem a46_40(y55:T55)(y83:T83)(y84:T84)(y85:T85)(y86:T86)(y87:T87)(x0:List UInt8)(x1:Int):EV46 y55 y83 y84 y85 y86 y87 x0 x1 4 0=t46 y55 y83 y84 y85 y86 y87 x0 x1 4 0:=by kernel_rfl
theorem a46_41(y55:T55)(y83:T83)(y84:T84)(y85:T85)(y86:T86)(y87:T87)(x0:List UInt8)(x1:Int):EV46 y55 y83 y84 y85 y86 y87 x0 x1 4 1=t46 y55 y83 y84 y85 y86 y87 x0 x1 4 1:=by kernel_rfl
theorem a46_42(y55:T55)(y83:T83)(y84:T84)(y85:T85)(y86:T86)(y87:T87)(x0:List UInt8)(x1:Int):EV46 y55 y83 y84 y85 y86 y87 x0 x1 4 2=t46 y55 y83 y84 y85 y86 y87 x0 x1 4 2:=by kernel_rfl
theorem a46_43(y55:T55)(y83:T83)(y84:T84)(y85:T85)(y86:T86)(y87:T87)(x0:List UInt8)(x1:Int):EV46 y55 y83 y84 y85 y86 y87 x0 x1 4 3=t46 y55 y83 y84 y85 y86 y87 x0 x1 4 3:=by kernel_rfl
theorem a46_44(y55:T55)(y83:T83)(y84:T84)(y85:T85)(y86:T86)(y87:T87)(x0:List UInt8)(x1:Int):EV46 y55 y83 y84 y85 y86 y87 x0 x1 4 4=t46 y55 y83 y84 y85 y86 y87 x0 x1 4 4:=by kernel_rfl
theorem e46_4(x0:List UInt8)(x1:Int):f46 x0 x1 (4:Nat)=orAll [t46 f55 f83 f84 f85 f86 f87 x0 x1 4 0,t46 f55 f83 f84 f85 f86 f87 x0 x1 4 1,t46 f55 f83 f84 f85 f86 f87 x0 x1 4 2,t46 f55 f83 f84 f85 f86 f87 x0 x1 4 3,t46 f55 f83 f84 f85 f86 f87 x0 x1 4 4]:=Eq.trans (b:=orAll [EV46 f55 f83 f84 f85 f86 f87 x0 x1 4 0,EV46 f55 f83 f84 f85 f86 f87 x0 x1 4 1,EV46 f55 f83 f84 f85 f86 f87 x0 x1 4 2,EV46 f55 f83 f84 f85 f86 f87 x0 x1 4 3,EV46 f55 f83 f84 f85 f86 f87 x0 x1 4 4]) (by kernel_rfl) (by rw[a46_40 f55 f83 f84 f85 f86 f87,a46_41 f55 f83 f84 f85 f86 f87,a46_42 f55 f83 f84 f85 f86 f87,a46_43 f55 f83 f84 f85 f86 f87,a46_44 f55 f83 f84 f85 f86 f87];rfl)
theorem a46_50(y55:T55)(y83:T83)(y84:T84)(y85:T85)(y86:T86)(y87:T87)(x0:List UInt8)(x1:Int):EV46 y55 y83 y84 y85 y86 y87 x0 x1 5 0=t46 y55 y83 y84 y85 y86 y87 x0 x1 5 0:=by kernel_rfl
theorem a46_51(y55:T55)(y83:T83)(y84:T84)(y85:T85)(y86:T86)(y87:T87)(x0:List UInt8)(x1:Int):EV46 y55 y83 y84 y85 y86 y87 x0 x1 5 1=t46 y55 y83 y84 y85 y86 y87 x0 x1 5 1:=by kernel_rfl
theorem a46_52(y55:T55)(y83:T83)(y84:T84)(y85:T85)(y86:T86)(y87:T87)(x0:List UInt8)(x1:Int):EV46 y55 y83 y84 y85 y86 y87 x0 x1 5 2=t46 y55 y83 y84 y85 y86 y87 x0 x1 5 2:=by kernel_rfl
theorem a46_53(y55:T55)(y83:T83)(y84:T84)(y85:T85)(y86:T86)(y87:T87)(x0:List UInt8)(x1:Int):EV46 y55 y83 y84 y85 y86 y87 x0 x1 5 3=t46 y55 y83 y84 y85 y86 y87 x0 x1 5 3:=by kernel_rfl
theorem a46_54(y55:T55)(y83:T83)(y84:T84)(y85:T85)(y86:T86)(y87:T87)(x0:List UInt8)(x1:Int):EV46 y55 y83 y84 y85 y86 y87 x0 x1 5 4=t46 y55 y83 y84 y85 y86 y87 x0 x1 5 4:=by kernel_rfl
theorem e46_5(x0:List UInt8)(x1:Int):f46 x0 x1 (5:Nat)=orAll [t46 f55 f83 f84 f85 f86 f87 x0 x1 5 0,t46 f55 f83 f84 f85 f86 f87 x0 x1 5 1,t46 f55 f83 f84 f85 f86 f87 x0 x1 5 2,t46 f55 f83 f84 f85 f86 f87 x0 x1 5 3,t46 f55 f83 f84 f85 f86 f87 x0 x1 5 4]:=Eq.trans (b:=orAll [EV46 f55 f83 f84 f85 f86 f87 x0 x1 5 0,EV46 f55 f83 f84 f85 f86 f87 x0 x1 5 1,EV46 f55 f83 f84 f85 f86 f87 x0 x1 5 2,EV46 f55 f83 f84 f85 f86 f87 x0 x1 5 3,EV46 f55 f83 f84 f85 f86 f87 x0 x1 5 4]) (by kernel_rfl) (by rw[a46_50 f55 f83 f84 f85 f86 f87,a46_51 f55 f83 f84 f85 f86 f87,a46_52 f55 f83 f84 f85 f86 f87,a46_53 f55 f83 f84 f85 f86 f87,a46_54 f55 f83 f84 f85 f86 f87];rfl)
theorem a46_60(y55:T55)(y83:T83)(y84:T84)(y85:T85)(y86:T86)(y87:T87)(x0:List UInt8)(x1:Int):EV46 y55 y83 y84 y85 y86 y87 x0 x1 6 0=t46 y55 y83 y84 y85 y86 y87 x0 x1 6 0:=by kernel_rfl
theorem a46_61(y55:T55)(y83:T83)(y84:T84)(y85:T85)(y86:T86)(y87:T87)(x0:List UInt8)(x1:Int):EV46 y55 y83 y84 y85 y86 y87 x0 x1 6 1=t46 y55 y83 y84 y85 y86 y87 x0 x1 6 1:=by kernel_rfl
theorem a46_62(y55:T55)(y83:T83)(y84:T84)(y85:T85)(y86:T86)(y87:T87)(x0:List UInt8)(x1:Int):EV46 y55 y83 y84 y85 y86 y87 x0 x1 6 2=t46 y55 y83 y84 y85 y86 y87 x0 x1 6 2:=by kernel_rfl
theorem a46_63(y55:T55)(y83:T83)(y84:T84)(y85:T85)(y86:T86)(y87:T87)(x0:List UInt8)(x1:Int):EV46 y55 y83 y84 y85 y86 y87 x0 x1 6 3=t46 y55 y83 y84 y85 y86 y87 x0 x1 6 3:=by kernel_rfl
theorem a46_64(y55:T55)(y83:T83)(y84:T84)(y85:T85)(y86:T86)(y87:T87)(x0:List UInt8)(x1:Int):EV46 y55 y83 y84 y85 y86 y87 x0 x1 6 4=t46 y55 y83 y84 y85 y86 y87 x0 x1 6 4:=by kernel_rfl
theorem e46_6(x0:List UInt8)(x1:Int):f46 x0 x1 (6:Nat)=orAll [t46 f55 f83 f84 f85 f86 f87 x0 x1 6 0,t46 f55 f83 f84 f85 f86 f87 x0 x1 6 1,t46 f55 f83 f84 f85 f86 f87 x0 x1 6 2,t46 f55 f83 f84 f85 f86 f87 x0 x1 6 3,t46 f55 f83 f84 f85 f86 f87 x0 x1 6 4]:=Eq.trans (b:=orAll [EV46 f55 f83 f84 f85 f86 f87 x0 x1 6 0,EV46 f55 f83 f84 f85 f86 f87 x0 x1 6 1,EV46 f55 f83 f84 f85 f86 f87 x0 x1 6 2,EV46 f55 f83 f84 f85 f86 f87 x0 x1 6 3,EV46 f55 f83 f84 f85 f86 f87 x0 x1 6 4]) (by kernel_rfl) (by rw[a46_60 f55 f83 f84 f85 f86 f87,a46_61 f55 f83 f84 f85 f86 f87,a46_62 f55 f83 f84 f85 f86 f87,a46_63 f55 f83 f84 f85 f86 f87,a46_64 f55 f83 f84 f85 f86 f87];rfl)
theorem a46_70(y55:T55)(y83:T83)(y84:T84)(y85:T85)(y86:T86)(y87:T87)(x0:List UInt8)(x1:Int):EV46 y55 y83 y84 y85 y86 y87 x0 x1 7 0=t46 y55 y83 y84 y85 y86 y87 x0 x1 7 0:=by kernel_rfl
theorem a46_71(y55:T55)(y83:T83)(y84:T84)(y85:T85)(y86:T86)(y87:T87)(x0:List UInt8)(x1:Int):EV46 y55 y83 y84 y85 y86 y87 x0 x1 7 1=t46 y55 y83 y84 y85 y86 y87 x0 x1 7 1:=by kernel_rfl
theorem a46_72(y55:T55)(y83:T83)(y84:T84)(y85:T85)(y86:T86)(y87:T87)(x0:List UInt8)(x1:Int):EV46 y55 y83 y84 y85 y86 y87 x0 x1 7 2=t46 y55 y83 y84 y85 y86 y87 x0 x1 7 2:=by kernel_rfl
theorem a46_73(y55:T55)(y83:T83)(y84:T84)(y85:T85)(y86:T86)(y87:T87)(x0:List UInt8)(x1:Int):EV46 y55 y83 y84 y85 y86 y87 x0 x1 7 3=t46 y55 y83 y84 y85 y86 y87 x0 x1 7 3:=by kernel_rfl
theorem a46_74(y55:T55)(y83:T83)(y84:T84)(y85:T85)(y86:T86)(y87:T87)(x0:List UInt8)(x1:Int):EV46 y55 y83 y84 y85 y86 y87 x0 x1 7 4=t46 y55 y83 y84 y85 y86 y87 x0 x1 7 4:=by kernel_rfl
theorem e46_7(x0:List UInt8)(x1:Int):f46 x0 x1 (7:Nat)=orAll [t46 f55 f83 f84 f85 f86 f87 x0 x1 7 0,t46 f55 f83 f84 f85 f86 f87 x0 x1 7 1,t46 f55 f83 f84 f85 f86 f87 x0 x1 7 2,t46 f55 f83 f84 f85 f86 f87 x0 x1 7 3,t46 f55 f83 f84 f85 f86 f87 x0 x1 7 4]:=Eq.trans (b:=orAll [EV46 f55 f83 f84 f85 f86 f87 x0 x1 7 0,EV46 f55 f83 f84 f85 f86 f87 x0 x1 7 1,EV46 f55 f83 f84 f85 f86 f87 x0 x1 7 2,EV46 f55 f83 f84 f85 f86 f87 x0 x1 7 3,EV46 f55 f83 f84 f85 f86 f87 x0 x1 7 4]) (by kernel_rfl) (by rw[a46_70 f55 f83 f84 f85 f86 f87,a46_71 f55 f83 f84 f85 f86 f87,a46_72 f55 f83 f84 f85 f86 f87,a46_73 f55 f83 f84 f85 f86 f87,a46_74 f55 f83 f84 f85 f86 f87];rfl)
noncomputable def K16(y27:T27)(y28:T28)(y30:T30)(y36:T36)(y37:T37)(y38:T38)(y39:T39):Ctx:=mkC tys cells maps [(i27,⟨P27,R27,fun x=>y27 x.1⟩),(i28,⟨P28,R28,fun x=>y28 x.1⟩),(i30,⟨P30,R30,fun x=>y30 x.1⟩),(i36,⟨P36,R36,fun x=>y36 x.1 x.2.1 x.2.2.1⟩),(i37,⟨P37,R37,fun x=>y37 x.1⟩),(i38,⟨P38,R38,fun x=>y38 x.1⟩),(i39,⟨P39,R39,fun x=>y39 x.1 x.2.1⟩)] [tySH] []
noncomputable abbrev EV16(y27:T27)(y28:T28)(y30:T30)(y36:T36)(y37:T37)(y38:T38)(y39:T39)(x0:List UInt8)(x1:Int)(n q:Nat):=evF (K16 y27 y28 y30 y36 y37 y38 y39) F16 ((h16 (x0,x1,(n:Int),())).getD q []) P16 R16 (x0,x1,(n:Int),())
theorem a16_10(y27:T27)(y28:T28)(y30:T30)(y36:T36)(y37:T37)(y38:T38)(y39:T39)(x0:List UInt8)(x1:Int):EV16 y27 y28 y30 y36 y37 y38 y39 x0 x1 1 0=t16 y27 y28 y30 y36 y37 y38 y39 x0 x1 1 0:=by kernel_rfl
theorem a16_11(y27:T27)(y28:T28)(y30:T30)(y36:T36)(y37:T37)(y38:T38)(y39:T39)(x0:List UInt8)(x1:Int):EV16 y27 y28 y30 y36 y37 y38 y39 x0 x1 1 1=t16 y27 y28 y30 y36 y37 y38 y39 x0 x1 1 1:=by kernel_rfl
theorem a16_12(y27:T27)(y28:T28)(y30:T30)(y36:T36)(y37:T37)(y38:T38)(y39:T39)(x0:List UInt8)(x1:Int):EV16 y27 y28 y30 y36 y37 y38 y39 x0 x1 1 2=t16 y27 y28 y30 y36 y37 y38 y39 x0 x1 1 2:=by kernel_rfl
theorem a16_13(y27:T27)(y28:T28)(y30:T30)(y36:T36)(y37:T37)(y38:T38)(y39:T39)(x0:List UInt8)(x1:Int):EV16 y27 y28 y30 y36 y37 y38 y39 x0 x1 1 3=t16 y27 y28 y30 y36 y37 y38 y39 x0 x1 1 3:=by kernel_rfl
theorem a16_14(y27:T27)(y28:T28)(y30:T30)(y36:T36)(y37:T37)(y38:T38)(y39:T39)(x0:List UInt8)(x1:Int):EV16 y27 y28 y30 y36 y37 y38 y39 x0 x1 1 4=t16 y27 y28 y30 y36 y37 y38 y39 x0 x1 1 4:=by kernel_rfl
theorem e16_1(x0:List UInt8)(x1:Int):f16 x0 x1 (1:Nat)=orAll [t16 f27 f28 f30 f36 f37 f38 f39 x0 x1 1 0,t16 f27 f28 f30 f36 f37 f38 f39 x0 x1 1 1,t16 f27 f28 f30 f36 f37 f38 f39 x0 x1 1 2,t16 f27 f28 f30 f36 f37 f38 f39 x0 x1 1 3,t16 f27 f28 f30 f36 f37 f38 f39 x0 x1 1 4]:=Eq.trans (b:=orAll [EV16 f27 f28 f30 f36 f37 f38 f39 x0 x1 1 0,EV16 f27 f28 f30 f36 f37 f38 f39 x0 x1 1 1,EV16 f27 f28 f30 f36 f37 f38 f39 x0 x1 1 2,EV16 f27 f28 f30 f36 f37 f38 f39 x0 x1 1 3,EV16 f27 f28 f30 f36 f37 f38 f39 x0 x1 1 4]) (by kernel_rfl) (by rw[a16_10 f27 f28 f30 f36 f37 f38 f39,a16_11 f27 f28 f30 f36 f37 f38 f39,a16_12 f27 f28 f30 f36 f37 f38 f39,a16_13 f27 f28 f30 f36 f37 f38 f39,a16_14 f27 f28 f30 f36 f37 f38 f39];rfl)
theorem a16_20(y27:T27)(y28:T28)(y30:T30)(y36:T36)(y37:T37)(y38:T38)(y39:T39)(x0:List UInt8)(x1:Int):EV16 y27 y28 y30 y36 y37 y38 y39 x0 x1 2 0=t16 y27 y28 y30 y36 y37 y38 y39 x0 x1 2 0:=by kernel_rfl
theorem a16_21(y27:T27)(y28:T28)(y30:T30)(y36:T36)(y37:T37)(y38:T38)(y39:T39)(x0:List UInt8)(x1:Int):EV16 y27 y28 y30 y36 y37 y38 y39 x0 x1 2 1=t16 y27 y28 y30 y36 y37 y38 y39 x0 x1 2 1:=by kernel_rfl
theorem a16_22(y27:T27)(y28:T28)(y30:T30)(y36:T36)(y37:T37)(y38:T38)(y39:T39)(x0:List UInt8)(x1:Int):EV16 y27 y28 y30 y36 y37 y38 y39 x0 x1 2 2=t16 y27 y28 y30 y36 y37 y38 y39 x0 x1 2 2:=by kernel_rfl
theorem a16_23(y27:T27)(y28:T28)(y30:T30)(y36:T36)(y37:T37)(y38:T38)(y39:T39)(x0:List UInt8)(x1:Int):EV16 y27 y28 y30 y36 y37 y38 y39 x0 x1 2 3=t16 y27 y28 y30 y36 y37 y38 y39 x0 x1 2 3:=by kernel_rfl
theorem a16_24(y27:T27)(y28:T28)(y30:T30)(y36:T36)(y37:T37)(y38:T38)(y39:T39)(x0:List UInt8)(x1:Int):EV16 y27 y28 y30 y36 y37 y38 y39 x0 x1 2 4=t16 y27 y28 y30 y36 y37 y38 y39 x0 x1 2 4:=by kernel_rfl
theorem e16_2(x0:List UInt8)(x1:Int):f16 x0 x1 (2:Nat)=orAll [t16 f27 f28 f30 f36 f37 f38 f39 x0 x1 2 0,t16 f27 f28 f30 f36 f37 f38 f39 x0 x1 2 1,t16 f27 f28 f30 f36 f37 f38 f39 x0 x1 2 2,t16 f27 f28 f30 f36 f37 f38 f39 x0 x1 2 3,t16 f27 f28 f30 f36 f37 f38 f39 x0 x1 2 4]:=Eq.trans (b:=orAll [EV16 f27 f28 f30 f36 f37 f38 f39 x0 x1 2 0,EV16 f27 f28 f30 f36 f37 f38 f39 x0 x1 2 1,EV16 f27 f28 f30 f36 f37 f38 f39 x0 x1 2 2,EV16 f27 f28 f30 f36 f37 f38 f39 x0 x1 2 3,EV16 f27 f28 f30 f36 f37 f38 f39 x0 x1 2 4]) (by kernel_rfl) (by rw[a16_20 f27 f28 f30 f36 f37 f38 f39,a16_21 f27 f28 f30 f36 f37 f38 f39,a16_22 f27 f28 f30 f36 f37 f38 f39,a16_23 f27 f28 f30 f36 f37 f38 f39,a16_24 f27 f28 f30 f36 f37 f38 f39];rfl)
theorem a16_30(y27:T27)(y28:T28)(y30:T30)(y36:T36)(y37:T37)(y38:T38)(y39:T39)(x0:List UInt8)(x1:Int):EV16 y27 y28 y30 y36 y37 y38 y39 x0 x1 3 0=t16 y27 y28 y30 y36 y37 y38 y39 x0 x1 3 0:=by kernel_rfl
theorem a16_31(y27:T27)(y28:T28)(y30:T30)(y36:T36)(y37:T37)(y38:T38)(y39:T39)(x0:List UInt8)(x1:Int):EV16 y27 y28 y30 y36 y37 y38 y39 x0 x1 3 1=t16 y27 y28 y30 y36 y37 y38 y39 x0 x1 3 1:=by kernel_rfl
theorem a16_32(y27:T27)(y28:T28)(y30:T30)(y36:T36)(y37:T37)(y38:T38)(y39:T39)(x0:List UInt8)(x1:Int):EV16 y27 y28 y30 y36 y37 y38 y39 x0 x1 3 2=t16 y27 y28 y30 y36 y37 y38 y39 x0 x1 3 2:=by kernel_rfl
theorem a16_33(y27:T27)(y28:T28)(y30:T30)(y36:T36)(y37:T37)(y38:T38)(y39:T39)(x0:List UInt8)(x1:Int):EV16 y27 y28 y30 y36 y37 y38 y39 x0 x1 3 3=t16 y27 y28 y30 y36 y37 y38 y39 x0 x1 3 3:=by kernel_rfl
theorem a16_34(y27:T27)(y28:T28)(y30:T30)(y36:T36)(y37:T37)(y38:T38)(y39:T39)(x0:List UInt8)(x1:Int):EV16 y27 y28 y30 y36 y37 y38 y39 x0 x1 3 4=t16 y27 y28 y30 y36 y37 y38 y39 x0 x1 3 4:=by kernel_rfl
theorem a16_316(y27:T27)(y28:T28)(y30:T30)(y36:T36)(y37:T37)(y38:T38)(y39:T39)(x0:List UInt8)(x1:Int):EV16 y27 y28 y30 y36 y37 y38 y39 x0 x1 3 5=t16 y27 y28 y30 y36 y37 y38 y39 x0 x1 3 16:=by kernel_rfl
theorem e16_3(x0:List UInt8)(x1:Int):f16 x0 x1 (3:Nat)=orAll [t16 f27 f28 f30 f36 f37 f38 f39 x0 x1 3 0,t16 f27 f28 f30 f36 f37 f38 f39 x0 x1 3 1,t16 f27 f28 f30 f36 f37 f38 f39 x0 x1 3 2,t16 f27 f28 f30 f36 f37 f38 f39 x0 x1 3 3,t16 f27 f28 f30 f36 f37 f38 f39 x0 x1 3 4,t16 f27 f28 f30 f36 f37 f38 f39 x0 x1 3 16]:=Eq.trans (b:=orAll [EV16 f27 f28 f30 f36 f37 f38 f39 x0 x1 3 0,EV16 f27 f28 f30 f36 f37 f38 f39 x0 x1 3 1,EV16 f27 f28 f30 f36 f37 f38 f39 x0 x1 3 2,EV16 f27 f28 f30 f36 f37 f38 f39 x0 x1 3 3,EV16 f27 f28 f30 f36 f37 f38 f39 x0 x1 3 4,EV16 f27 f28 f30 f36 f37 f38 f39 x0 x1 3 5]) (by kernel_rfl) (by rw[a16_30 f27 f28 f30 f36 f37 f38 f39,a16_31 f27 f28 f30 f36 f37 f38 f39,a16_32 f27 f28 f30 f36 f37 f38 f39,a16_33 f27 f28 f30 f36 f37 f38 f39,a16_34 f27 f28 f30 f36 f37 f38 f39,a16_316 f27 f28 f30 f36 f37 f38 f39];rfl)
theorem a16_40(y27:T27)(y28:T28)(y30:T30)(y36:T36)(y37:T37)(y38:T38)(y39:T39)(x0:List UInt8)(x1:Int):EV16 y27 y28 y30 y36 y37 y38 y39 x0 x1 4 0=t16 y27 y28 y30 y36 y37 y38 y39 x0 x1 4 0:=by kernel_rfl
theorem a16_41(y27:T27)(y28:T28)(y30:T30)(y36:T36)(y37:T37)(y38:T38)(y39:T39)(x0:List UInt8)(x1:Int):EV16 y27 y28 y30 y36 y37 y38 y39 x0 x1 4 1=t16 y27 y28 y30 y36 y37 y38 y39 x0 x1 4 1:=by kernel_rfl
theorem a16_42(y27:T27)(y28:T28)(y30:T30)(y36:T36)(y37:T37)(y38:T38)(y39:T39)(x0:List UInt8)(x1:Int):EV16 y27 y28 y30 y36 y37 y38 y39 x0 x1 4 2=t16 y27 y28 y30 y36 y37 y38 y39 x0 x1 4 2:=by kernel_rfl
theorem a16_43(y27:T27)(y28:T28)(y30:T30)(y36:T36)(y37:T37)(y38:T38)(y39:T39)(x0:List UInt8)(x1:Int):EV16 y27 y28 y30 y36 y37 y38 y39 x0 x1 4 3=t16 y27 y28 y30 y36 y37 y38 y39 x0 x1 4 3:=by kernel_rfl
theorem a16_44(y27:T27)(y28:T28)(y30:T30)(y36:T36)(y37:T37)(y38:T38)(y39:T39)(x0:List UInt8)(x1:Int):EV16 y27 y28 y30 y36 y37 y38 y39 x0 x1 4 4=t16 y27 y28 y30 y36 y37 y38 y39 x0 x1 4 4:=by kernel_rfl
theorem e16_4(x0:List UInt8)(x1:Int):f16 x0 x1 (4:Nat)=orAll [t16 f27 f28 f30 f36 f37 f38 f39 x0 x1 4 0,t16 f27 f28 f30 f36 f37 f38 f39 x0 x1 4 1,t16 f27 f28 f30 f36 f37 f38 f39 x0 x1 4 2,t16 f27 f28 f30 f36 f37 f38 f39 x0 x1 4 3,t16 f27 f28 f30 f36 f37 f38 f39 x0 x1 4 4]:=Eq.trans (b:=orAll [EV16 f27 f28 f30 f36 f37 f38 f39 x0 x1 4 0,EV16 f27 f28 f30 f36 f37 f38 f39 x0 x1 4 1,EV16 f27 f28 f30 f36 f37 f38 f39 x0 x1 4 2,EV16 f27 f28 f30 f36 f37 f38 f39 x0 x1 4 3,EV16 f27 f28 f30 f36 f37 f38 f39 x0 x1 4 4]) (by kernel_rfl) (by rw[a16_40 f27 f28 f30 f36 f37 f38 f39,a16_41 f27 f28 f30 f36 f37 f38 f39,a16_42 f27 f28 f30 f36 f37 f38 f39,a16_43 f27 f28 f30 f36 f37 f38 f39,a16_44 f27 f28 f30 f36 f37 f38 f39];rfl)
theorem a16_50(y27:T27)(y28:T28)(y30:T30)(y36:T36)(y37:T37)(y38:T38)(y39:T39)(x0:List UInt8)(x1:Int):EV16 y27 y28 y30 y36 y37 y38 y39 x0 x1 5 0=t16 y27 y28 y30 y36 y37 y38 y39 x0 x1 5 0:=by kernel_rfl
theorem a16_51(y27:T27)(y28:T28)(y30:T30)(y36:T36)(y37:T37)(y38:T38)(y39:T39)(x0:List UInt8)(x1:Int):EV16 y27 y28 y30 y36 y37 y38 y39 x0 x1 5 1=t16 y27 y28 y30 y36 y37 y38 y39 x0 x1 5 1:=by kernel_rfl
theorem a16_52(y27:T27)(y28:T28)(y30:T30)(y36:T36)(y37:T37)(y38:T38)(y39:T39)(x0:List UInt8)(x1:Int):EV16 y27 y28 y30 y36 y37 y38 y39 x0 x1 5 2=t16 y27 y28 y30 y36 y37 y38 y39 x0 x1 5 2:=by kernel_rfl
theorem a16_53(y27:T27)(y28:T28)(y30:T30)(y36:T36)(y37:T37)(y38:T38)(y39:T39)(x0:List UInt8)(x1:Int):EV16 y27 y28 y30 y36 y37 y38 y39 x0 x1 5 3=t16 y27 y28 y30 y36 y37 y38 y39 x0 x1 5 3:=by kernel_rfl
theorem a16_54(y27:T27)(y28:T28)(y30:T30)(y36:T36)(y37:T37)(y38:T38)(y39:T39)(x0:List UInt8)(x1:Int):EV16 y27 y28 y30 y36 y37 y38 y39 x0 x1 5 4=t16 y27 y28 y30 y36 y37 y38 y39 x0 x1 5 4:=by kernel_rfl
theorem e16_5(x0:List UInt8)(x1:Int):f16 x0 x1 (5:Nat)=orAll [t16 f27 f28 f30 f36 f37 f38 f39 x0 x1 5 0,t16 f27 f28 f30 f36 f37 f38 f39 x0 x1 5 1,t16 f27 f28 f30 f36 f37 f38 f39 x0 x1 5 2,t16 f27 f28 f30 f36 f37 f38 f39 x0 x1 5 3,t16 f27 f28 f30 f36 f37 f38 f39 x0 x1 5 4]:=Eq.trans (b:=orAll [EV16 f27 f28 f30 f36 f37 f38 f39 x0 x1 5 0,EV16 f27 f28 f30 f36 f37 f38 f39 x0 x1 5 1,EV16 f27 f28 f30 f36 f37 f38 f39 x0 x1 5 2,EV16 f27 f28 f30 f36 f37 f38 f39 x0 x1 5 3,EV16 f27 f28 f30 f36 f37 f38 f39 x0 x1 5 4]) (by kernel_rfl) (by rw[a16_50 f27 f28 f30 f36 f37 f38 f39,a16_51 f27 f28 f30 f36 f37 f38 f39,a16_52 f27 f28 f30 f36 f37 f38 f39,a16_53 f27 f28 f30 f36 f37 f38 f39,a16_54 f27 f28 f30 f36 f37 f38 f39];rfl)
theorem a16_60(y27:T27)(y28:T28)(y30:T30)(y36:T36)(y37:T37)(y38:T38)(y39:T39)(x0:List UInt8)(x1:Int):EV16 y27 y28 y30 y36 y37 y38 y39 x0 x1 6 0=t16 y27 y28 y30 y36 y37 y38 y39 x0 x1 6 0:=by kernel_rfl
theorem a16_61(y27:T27)(y28:T28)(y30:T30)(y36:T36)(y37:T37)(y38:T38)(y39:T39)(x0:List UInt8)(x1:Int):EV16 y27 y28 y30 y36 y37 y38 y39 x0 x1 6 1=t16 y27 y28 y30 y36 y37 y38 y39 x0 x1 6 1:=by kernel_rfl
theorem a16_62(y27:T27)(y28:T28)(y30:T30)(y36:T36)(y37:T37)(y38:T38)(y39:T39)(x0:List UInt8)(x1:Int):EV16 y27 y28 y30 y36 y37 y38 y39 x0 x1 6 2=t16 y27 y28 y30 y36 y37 y38 y39 x0 x1 6 2:=by kernel_rfl
theorem a16_63(y27:T27)(y28:T28)(y30:T30)(y36:T36)(y37:T37)(y38:T38)(y39:T39)(x0:List UInt8)(x1:Int):EV16 y27 y28 y30 y36 y37 y38 y39 x0 x1 6 3=t16 y27 y28 y30 y36 y37 y38 y39 x0 x1 6 3:=by kernel_rfl
theorem a16_64(y27:T27)(y28:T28)(y30:T30)(y36:T36)(y37:T37)(y38:T38)(y39:T39)(x0:List UInt8)(x1:Int):EV16 y27 y28 y30 y36 y37 y38 y39 x0 x1 6 4=t16 y27 y28 y30 y36 y37 y38 y39 x0 x1 6 4:=by kernel_rfl
theorem e16_6(x0:List UInt8)(x1:Int):f16 x0 x1 (6:Nat)=orAll [t16 f27 f28 f30 f36 f37 f38 f39 x0 x1 6 0,t16 f27 f28 f30 f36 f37 f38 f39 x0 x1 6 1,t16 f27 f28 f30 f36 f37 f38 f39 x0 x1 6 2,t16 f27 f28 f30 f36 f37 f38 f39 x0 x1 6 3,t16 f27 f28 f30 f36 f37 f38 f39 x0 x1 6 4]:=Eq.trans (b:=orAll [EV16 f27 f28 f30 f36 f37 f38 f39 x0 x1 6 0,EV16 f27 f28 f30 f36 f37 f38 f39 x0 x1 6 1,EV16 f27 f28 f30 f36 f37 f38 f39 x0 x1 6 2,EV16 f27 f28 f30 f36 f37 f38 f39 x0 x1 6 3,EV16 f27 f28 f30 f36 f37 f38 f39 x0 x1 6 4]) (by kernel_rfl) (by rw[a16_60 f27 f28 f30 f36 f37 f38 f39,a16_61 f27 f28 f30 f36 f37 f38 f39,a16_62 f27 f28 f30 f36 f37 f38 f39,a16_63 f27 f28 f30 f36 f37 f38 f39,a16_64 f27 f28 f30 f36 f37 f38 f39];rfl)
theorem a16_70(y27:T27)(y28:T28)(y30:T30)(y36:T36)(y37:T37)(y38:T38)(y39:T39)(x0:List UInt8)(x1:Int):EV16 y27 y28 y30 y36 y37 y38 y39 x0 x1 7 0=t16 y27 y28 y30 y36 y37 y38 y39 x0 x1 7 0:=by kernel_rfl
theorem a16_71(y27:T27)(y28:T28)(y30:T30)(y36:T36)(y37:T37)(y38:T38)(y39:T39)(x0:List UInt8)(x1:Int):EV16 y27 y28 y30 y36 y37 y38 y39 x0 x1 7 1=t16 y27 y28 y30 y36 y37 y38 y39 x0 x1 7 1:=by kernel_rfl
theorem a16_72(y27:T27)(y28:T28)(y30:T30)(y36:T36)(y37:T37)(y38:T38)(y39:T39)(x0:List UInt8)(x1:Int):EV16 y27 y28 y30 y36 y37 y38 y39 x0 x1 7 2=t16 y27 y28 y30 y36 y37 y38 y39 x0 x1 7 2:=by kernel_rfl
theorem a16_73(y27:T27)(y28:T28)(y30:T30)(y36:T36)(y37:T37)(y38:T38)(y39:T39)(x0:List UInt8)(x1:Int):EV16 y27 y28 y30 y36 y37 y38 y39 x0 x1 7 3=t16 y27 y28 y30 y36 y37 y38 y39 x0 x1 7 3:=by kernel_rfl
theorem a16_74(y27:T27)(y28:T28)(y30:T30)(y36:T36)(y37:T37)(y38:T38)(y39:T39)(x0:List UInt8)(x1:Int):EV16 y27 y28 y30 y36 y37 y38 y39 x0 x1 7 4=t16 y27 y28 y30 y36 y37 y38 y39 x0 x1 7 4:=by kernel_rfl
theorem e16_7(x0:List UInt8)(x1:Int):f16 x0 x1 (7:Nat)=orAll [t16 f27 f28 f30 f36 f37 f38 f39 x0 x1 7 0,t16 f27 f28 f30 f36 f37 f38 f39 x0 x1 7 1,t16 f27 f28 f30 f36 f37 f38 f39 x0 x1 7 2,t16 f27 f28 f30 f36 f37 f38 f39 x0 x1 7 3,t16 f27 f28 f30 f36 f37 f38 f39 x0 x1 7 4]:=Eq.trans (b:=orAll [EV16 f27 f28 f30 f36 f37 f38 f39 x0 x1 7 0,EV16 f27 f28 f30 f36 f37 f38 f39 x0 x1 7 1,EV16 f27 f28 f30 f36 f37 f38 f39 x0 x1 7 2,EV16 f27 f28 f30 f36 f37 f38 f39 x0 x1 7 3,EV16 f27 f28 f30 f36 f37 f38 f39 x0 x1 7 4]) (by kernel_rfl) (by rw[a16_70 f27 f28 f30 f36 f37 f38 f39,a16_71 f27 f28 f30 f36 f37 f38 f39,a16_72 f27 f28 f30 f36 f37 f38 f39,a16_73 f27 f28 f30 f36 f37 f38 f39,a16_74 f27 f28 f30 f36 f37 f38 f39];rfl)
end Mx
end
section
open Go Go.Proofs Ev Sx
namespace Mx
noncomputable def f162(x0:Vector UInt8 (510:Nat)×Vector Int (256:Nat)×Unit)(x1:UInt8):Option UInt8:=Sx.r162 (x0,x1,())
noncomputable def t162(x0:Vector UInt8 (510:Nat)×Vector Int (256:Nat)×Unit)(x1:UInt8):Option UInt8:=bif decide (x1=(0:UInt8))then some (0:UInt8)else if(0:Int)<=(↑x1.toNat:Int)∧(↑x1.toNat:Int)<(256:Int)then if(0:Int)<=subI (255:Int) (x0.2.1[(↑x1.toNat:Int).toNat]?.getD (0:Int))∧subI (255:Int) (x0.2.1[(↑x1.toNat:Int).toNat]?.getD (0:Int))<(510:Int)then some (x0.1[(subI (255:Int) (x0.2.1[(↑x1.toNat:Int).toNat]?.getD (0:Int))).toNat]?.getD (0:UInt8))else none else none
theorem e162(x0:Vector UInt8 (510:Nat)×Vector Int (256:Nat)×Unit)(x1:UInt8):f162 x0 x1=t162 x0 x1:=by kernel_rfl
noncomputable def f154(x0:Vector UInt8 (510:Nat)×Vector Int (256:Nat)×Unit)(x1:UInt8)(x2:Int):Option UInt8:=Sx.r154 (x0,x1,x2,())
noncomputable def t154(x0:Vector UInt8 (510:Nat)×Vector Int (256:Nat)×Unit)(x1:UInt8)(x2:Int):Option UInt8:=bif decide (x2<=(0:Int))then some (1:UInt8)else bif decide (x1=(0:UInt8))then some (0:UInt8)else if(0:Int)<=(↑x1.toNat:Int)∧(↑x1.toNat:Int)<(256:Int)then(remI x2 (255:Int)).bind fun(c:Int)=>(remI (mulI (x0.2.1[(↑x1.toNat:Int).toNat]?.getD (0:Int)) c) (255:Int)).bind fun(c:Int)=>if(0:Int)<=c∧c<(510:Int)then some (x0.1[c.toNat]?.getD (0:UInt8))else none else none
theorem e154(x0:Vector UInt8 (510:Nat)×Vector Int (256:Nat)×Unit)(x1:UInt8)(x2:Int):f154 x0 x1 x2=t154 x0 x1 x2:=by kernel_rfl
end Mx
end
section
open Go Go.Proofs Ev Sx
namespace Mx
abbrev T115:Type:= ∀(x0 x1:Int),Option (List (List UInt8))
noncomputable def f115(x0 x1:Int):Option (List (List UInt8)):=Sx.r115 (x0,x1,())
abbrev T116:Type:= ∀(x0:List (List UInt8)),Option (List (List UInt8)×Bool)
noncomputable def f116(x0:List (List UInt8)):Option (List (List UInt8)×Bool):=Sx.r116 (x0,())
abbrev T117:Type:= ∀(x0 x1:List (List UInt8)),Option (List (List UInt8))
noncomputable def f117(x0 x1:List (List UInt8)):Option (List (List UInt8)):=Sx.r117 (x0,x1,())
abbrev T120:Type:= ∀(x0 x1:Int),Option (List (List UInt8))
noncomputable def f120(x0 x1:Int):Option (List (List UInt8)):=Sx.r120 (x0,x1,())
abbrev T121:Type:= ∀(x0:List (List UInt8)),Option (List (List UInt8)×Int)
noncomputable def f121(x0:List (List UInt8)):Option (List (List UInt8)×Int):=Sx.r121 (x0,())
abbrev T122:Type:= ∀(x0 x1:List (List UInt8)),Option (List (List UInt8)×Int)
noncomputable def f122(x0 x1:List (List UInt8)):Option (List (List UInt8)×Int):=Sx.r122 (x0,x1,())
noncomputable def f147(x0:UInt8)(x1:Int):Option UInt8:=Sx.r147 (x0,x1,())
noncomputable def f149(x0:UInt8):Option UInt8:=Sx.r149 (x0,())
noncomputable def f150(x0 x1:List UInt8):Option UInt8:=Sx.r150 (x0,x1,())
noncomputable def f151(x0:List (List UInt8))(x1:Int):Option (List UInt8):=Sx.r151 (x0,x1,())
noncomputable def t83(y120:T120)(y121:T121)(y122:T122)(x0 x1:Int):Option (Option (Int×Int×List (List UInt8)×Unit)×Int):=(bif decide (x0<(1:Int))then some true else bif decide (x1<x0)then some true else some (decide ((16:Int)<x1))).bind fun(x:Bool)=>bif x then some (none,(1:Int))else(y120 x1 x0).bind fun(r:List (List UInt8))=>(cut? r (0:Int) x0).bind fun(r_1:List (List UInt8))=>(y121 r_1).bind fun(r_2:List (List UInt8)×Int)=>(y122 r r_2.1).bind fun(r:List (List UInt8)×Int)=>some (some (x0,x1,r.1,()),(0:Int))
noncomputable def K83(y120:T120)(y121:T121)(y122:T122):Ctx:=mkC tys cells maps [(i120,⟨P120,R120,fun x=>y120 x.1 x.2.1⟩),(i121,⟨P121,R121,fun x=>y121 x.1⟩),(i122,⟨P122,R122,fun x=>y122 x.1 x.2.1⟩)] [] []
theorem a83(y120:T120)(y121:T121)(y122:T122)(x0 x1:Int):evF (K83 y120 y121 y122) F83 h83 P83 R83 (x0,x1,())=t83 y120 y121 y122 x0 x1:=by kernel_rfl
theorem e83(x0 x1:Int):f83 x0 x1=t83 f120 f121 f122 x0 x1:=Eq.trans (b:=evF (K83 f120 f121 f122) F83 h83 P83 R83 (x0,x1,())) (by kernel_rfl) (a83 f120 f121 f122 x0 x1)
noncomputable def t79(y115:T115)(y116:T116)(y117:T117)(x0 x1:Int):Option (List (List UInt8)):=(y115 x1 x0).bind fun(r:List (List UInt8))=>(cut? r (0:Int) x0).bind fun(r_1:List (List UInt8))=>(y116 r_1).bind fun(r_2:List (List UInt8)×Bool)=>(y117 r r_2.1).bind fun(r:List (List UInt8))=>some r
noncomputable def K79(y115:T115)(y116:T116)(y117:T117):Ctx:=mkC tys cells maps [(i115,⟨P115,R115,fun x=>y115 x.1 x.2.1⟩),(i116,⟨P116,R116,fun x=>y116 x.1⟩),(i117,⟨P117,R117,fun x=>y117 x.1 x.2.1⟩)] [] []
theorem a79(y115:T115)(y116:T116)(y117:T117)(x0 x1:Int):evF (K79 y115 y116 y117) F79 h79 P79 R79 (x0,x1,())=t79 y115 y116 y117 x0 x1:=by kernel_rfl
theorem e79(x0 x1:Int):f79 x0 x1=t79 f115 f116 f117 x0 x1:=Eq.trans (b:=evF (K79 f115 f116 f117) F79 h79 P79 R79 (x0,x1,())) (by kernel_rfl) (a79 f115 f116 f117 x0 x1)
noncomputable def t147(y80:T80)(x0:UInt8)(x1:Int):Option UInt8:=(bif decide ((255:Int)<x1)then(remI x1 (255:Int)).bind fun(c:Int)=>some (addI (255:Int) c)else some x1).bind fun(x:Int)=>(iter (fun(x_1:UInt8×Int)=>bif decide (x_1.2<x)then(y80 x_1.1 x0).bind fun(r:UInt8)=>some (Sum.inl (r,addI x_1.2 (1:Int)))else some (Sum.inr x_1.1)) ((1:UInt8),(0:Int))).bind fun(y:UInt8)=>some y
noncomputable def K147(y80:T80):Ctx:=mkC tys cells maps [(i80,⟨P80,R80,fun x=>y80 x.1 x.2.1⟩)] [] []
theorem a147(y80:T80)(x0:UInt8)(x1:Int):evF (K147 y80) F147 h147 P147 R147 (x0,x1,())=t147 y80 x0 x1:=by kernel_rfl
theorem e147(x0:UInt8)(x1:Int):f147 x0 x1=t147 f80 x0 x1:=Eq.trans (b:=evF (K147 f80) F147 h147 P147 R147 (x0,x1,())) (by kernel_rfl) (a147 f80 x0 x1)
noncomputable def t149(y80:T80)(x0:UInt8):Option UInt8:=(iter (fun(x:Int)=>bif decide (x<(256:Int))then(y80 x0 (UInt8.ofInt x)).bind fun(r:UInt8)=>bif decide (r=(1:UInt8))then some (Sum.inr (Sum.inr (UInt8.ofInt x)))else some (Sum.inl (addI x (1:Int)))else some (Sum.inr (Sum.inl ()))) (1:Int)).bind fun(y:Unit ⊕ UInt8)=>sumE y (fun(x:Unit)=>some (0:UInt8)) fun(x:UInt8)=>some x
noncomputable def K149(y80:T80):Ctx:=mkC tys cells maps [(i80,⟨P80,R80,fun x=>y80 x.1 x.2.1⟩)] [] []
theorem a149(y80:T80)(x0:UInt8):evF (K149 y80) F149 h149 P149 R149 (x0,())=t149 y80 x0:=by kernel_rfl
theorem e149(x0:UInt8):f149 x0=t149 f80 x0:=Eq.trans (b:=evF (K149 f80) F149 h149 P149 R149 (x0,())) (by kernel_rfl) (a149 f80 x0)
noncomputable def t150(y80:T80)(x0 x1:List UInt8):Option UInt8:=(iter (fun(x:UInt8×Int)=>(bif decide (x.2<(↑x0.length:Int))then some (decide (x.2<(↑x1.length:Int)))else some false).bind fun(x_1:Bool)=>bif x_1 then(at? x0 x.2).bind fun(y:UInt8)=>(at? x1 x.2).bind fun(y_1:UInt8)=>(y80 y y_1).bind fun(r:UInt8)=>some (Sum.inl (x.1^^^r,addI x.2 (1:Int)))else some (Sum.inr x.1)) ((0:UInt8),(0:Int))).bind fun(y:UInt8)=>some y
noncomputable def K150(y80:T80):Ctx:=mkC tys cells maps [(i80,⟨P80,R80,fun x=>y80 x.1 x.2.1⟩)] [] []
theorem a150(y80:T80)(x0 x1:List UInt8):evF (K150 y80) F150 h150 P150 R150 (x0,x1,())=t150 y80 x0 x1:=by kernel_rfl
theorem e150(x0 x1:List UInt8):f150 x0 x1=t150 f80 x0 x1:=Eq.trans (b:=evF (K150 f80) F150 h150 P150 R150 (x0,x1,())) (by kernel_rfl) (a150 f80 x0 x1)
noncomputable def t151(x0:List (List UInt8))(x1:Int):Option (List UInt8):=(iter (fun(x:List UInt8×Int)=>bif decide (x.2<(↑x0.length:Int))then(at? x0 x.2).bind fun(y:List UInt8)=>(at? y x1).bind fun(y:UInt8)=>(app? x.1 [y]).bind fun(zs:List UInt8)=>some (Sum.inl (zs,addI x.2 (1:Int)))else some (Sum.inr x.1)) ([],(0:Int))).bind fun(y:List UInt8)=>some y
theorem e151(x0:List (List UInt8))(x1:Int):f151 x0 x1=t151 x0 x1:=by kernel_rfl
end Mx
end
section
open Go Go.Proofs Ev Sx
namespace Mx
end Mx
end
section
open Go Go.Proofs Ev Sx
namespace Mx
end Mx
end
section
open Go Go.Proofs Ev Sx
namespace Mx
instance:DecidableEq (Int×Int×Int×Int×Vector UInt8 32×Vector UInt8 32×Unit):=fun a b=>Ev.decV (.pair .i64 (.pair .i64 (.pair .i64 (.pair .i64 (.pair (.arr 32 .u8) (.pair (.arr 32 .u8) .unit)))))) a b
abbrev T136:Type:= ∀(x0:Int×Vector UInt8 16×Vector UInt8 32×Int×Int×Int×List UInt8×Unit),Option Bool
noncomputable def f136:T136:=fun x0=>Sx.r136 (x0,())
abbrev T182:Type:= ∀(x0:Int×Vector UInt8 16×Vector UInt8 32×Int×Int×Int×List UInt8×Unit),Option Bool
noncomputable def f182:T182:=fun x0=>Sx.r182 (x0,())
abbrev T202:Type:= ∀(x0:Int×Int×List (List UInt8)×Unit) (x1:Int),Option Int
noncomputable def f202:T202:=fun x0 x1=>Sx.r202 (x0,x1,())
abbrev T183:Type:= ∀(x0 x1:Int),Option Int
noncomputable def f183:T183:=fun x0 x1=>Sx.r183 (x0,x1,())
abbrev T203:Type:= ∀(x0 x1:Int) (x2:Vector UInt8 32) (x3:List (Vector UInt8 32)),Option (Vector UInt8 32×Bool)
noncomputable def f203:T203:=fun x0 x1 x2 x3=>Sx.r203 (x0,x1,x2,x3,())
abbrev T244:Type:= ∀(x0:Int),Option Int
noncomputable def f244:T244:=fun x0=>Sx.r244 (x0,())
abbrev T146:Type:= ∀(x0:Int×Vector UInt8 16×Vector UInt8 32×Int×Int×Int×List UInt8×Unit) (x1:Int×List UInt8×List (Vector UInt8 32)×List (List UInt8)×Unit),Option ((Int×Int×Int×Int×Vector UInt8 32×Vector UInt8 32×Unit)×Bool)
noncomputable def f146:T146:=fun x0 x1=>Sx.r146 (x0,x1,())
abbrev T446:Type:= ∀(x0:List UInt8) (x1:List (List UInt8)),Option (Vector UInt8 16)
noncomputable def f446:T446:=fun x0 x1=>Sx.r446 (x0,x1,())
noncomputable def t446(y44:T44)(x0:List UInt8)(x1:List (List UInt8)):Option (Vector UInt8 16):=(y44 x0 x1).bind fun(r:Vector UInt8 32)=>(iter (fun(x:Int×Vector UInt8 16)=>bif decide (x.1<(16:Int))then if(0:Int)<=x.1∧x.1<(32:Int)then if(0:Int)<=x.1∧x.1<(16:Int)then some (Sum.inl (addI x.1 (1:Int),x.2.setIfInBounds x.1.toNat (r[x.1.toNat]?.getD (0:UInt8))))else none else none else some (Sum.inr x.2)) ((0:Int),Vector.replicate 16 (0:UInt8))).bind fun(y:Vector UInt8 16)=>some y
noncomputable def K446(y44:T44):Ctx:=mkC tys cells maps [(i44,⟨P44,R44,fun x=>y44 x.1 x.2.1⟩)] [] []
theorem a446(y44:T44)(x0)(x1):t446 y44 x0 x1=evF (K446 y44) F446 h446 P446 R446 (x0,x1,()):=by kernel_rfl
theorem e446(x0)(x1):f446 x0 x1=t446 f44 x0 x1:=Eq.trans (b:=evF (K446 f44) F446 h446 P446 R446 (x0,x1,())) (by kernel_rfl) (a446 f44 x0 x1).symm
end Mx
end
section
open Go Go.Proofs Ev Sx
namespace Mx
abbrev T439:Type:=Option Bool
noncomputable def f439:Option Bool:=Sx.r439 ()
abbrev T176:Type:= ∀(x0:List UInt8) (x1:List (List UInt8)),Option (Vector UInt8 16)
noncomputable def f176:T176:=fun x0 x1=>Sx.r176 (x0,x1,())
abbrev T485:Type:= ∀(x0:List UInt8) (x1 x2:Int),Option (Vector UInt8 16)
noncomputable def f485:T485:=fun x0 x1 x2=>Sx.r485 (x0,x1,x2,())
abbrev T462:Type:= ∀(x0:List UInt8) (x1 x2:Int),Option (Vector UInt8 16)
noncomputable def f462:T462:=fun x0 x1 x2=>Sx.r462 (x0,x1,x2,())
abbrev T427:Type:= ∀(x0 x1:Int×Vector UInt8 16×Vector UInt8 32×Int×Int×Int×List UInt8×Unit),Option Bool
noncomputable def f427:T427:=fun x0 x1=>Sx.r427 (x0,x1,())
abbrev T433:Type:= ∀(x0 x1:List (Vector UInt8 32)),Option Bool
noncomputable def f433:T433:=fun x0 x1=>Sx.r433 (x0,x1,())
abbrev T432:Type:= ∀(x0 x1:List (List UInt8)),Option Bool
noncomputable def f432:T432:=fun x0 x1=>Sx.r432 (x0,x1,())
abbrev T434:Type:= ∀(x0 x1:Int×List UInt8×List (Vector UInt8 32)×List (List UInt8)×Unit),Option Bool
noncomputable def f434:T434:=fun x0 x1=>Sx.r434 (x0,x1,())
abbrev T435:Type:= ∀(x0 x1:List (Int×List UInt8×List (Vector UInt8 32)×List (List UInt8)×Unit)),Option Bool
noncomputable def f435:T435:=fun x0 x1=>Sx.r435 (x0,x1,())
noncomputable def t176(y90:T90)(x0:List UInt8)(x1:List (List UInt8)):Option (Vector UInt8 16):=(y90 x0 x1).bind fun(r:Vector UInt8 32)=>(toArr 16 (List.take 16 (List.drop (0:Nat) r.toList))).bind fun(a:Vector UInt8 16)=>some a
noncomputable def K176(y90:T90):Ctx:=mkC tys cells maps [(i90,⟨P90,R90,fun x=>y90 x.1 x.2.1⟩)] [] []
theorem a176(y90:T90)(x0)(x1):t176 y90 x0 x1=evF (K176 y90) F176 h176 P176 R176 (x0,x1,()):=by kernel_rfl
theorem e176(x0)(x1):f176 x0 x1=t176 f90 x0 x1:=Eq.trans (b:=evF (K176 f90) F176 h176 P176 R176 (x0,x1,())) (by kernel_rfl) (a176 f90 x0 x1).symm
noncomputable def t485(y89:T89)(y176:T176)(x0:List UInt8)(x1 x2:Int):Option (Vector UInt8 16):=(y89 x1 (1:Int)).bind fun(r:List UInt8)=>(y89 x2 (1:Int)).bind fun(r_1:List UInt8)=>(y176 [(99:UInt8),(111:UInt8),(110:UInt8),(118:UInt8),(101:UInt8),(114:UInt8),(103:UInt8),(101:UInt8),(110:UInt8),(116:UInt8)] [x0,r,r_1]).bind fun(r:Vector UInt8 16)=>some r
noncomputable def K485(y89:T89)(y176:T176):Ctx:=mkC tys cells maps [(i89,⟨P89,R89,fun x=>y89 x.1 x.2.1⟩),(i176,⟨P176,R176,fun x=>y176 x.1 x.2.1⟩)] [] []
theorem a485(y89:T89)(y176:T176)(x0)(x1)(x2):t485 y89 y176 x0 x1 x2=evF (K485 y89 y176) F485 h485 P485 R485 (x0,x1,x2,()):=by kernel_rfl
theorem e485(x0)(x1)(x2):f485 x0 x1 x2=t485 f89 f176 x0 x1 x2:=Eq.trans (b:=evF (K485 f89 f176) F485 h485 P485 R485 (x0,x1,x2,())) (by kernel_rfl) (a485 f89 f176 x0 x1 x2).symm
noncomputable def t462(y42:T42)(y446:T446)(x0:List UInt8)(x1 x2:Int):Option (Vector UInt8 16):=(y42 x1 (1:Int)).bind fun(r:List UInt8)=>(y42 x2 (1:Int)).bind fun(r_1:List UInt8)=>(y446 [(99:UInt8),(111:UInt8),(110:UInt8),(118:UInt8),(101:UInt8),(114:UInt8),(103:UInt8),(101:UInt8),(110:UInt8),(116:UInt8)] [x0,r,r_1]).bind fun(r:Vector UInt8 16)=>some r
noncomputable def K462(y42:T42)(y446:T446):Ctx:=mkC tys cells maps [(i42,⟨P42,R42,fun x=>y42 x.1 x.2.1⟩),(i446,⟨P446,R446,fun x=>y446 x.1 x.2.1⟩)] [] []
theorem a462(y42:T42)(y446:T446)(x0)(x1)(x2):t462 y42 y446 x0 x1 x2=evF (K462 y42 y446) F462 h462 P462 R462 (x0,x1,x2,()):=by kernel_rfl
theorem e462(x0)(x1)(x2):f462 x0 x1 x2=t462 f42 f446 x0 x1 x2:=Eq.trans (b:=evF (K462 f42 f446) F462 h462 P462 R462 (x0,x1,x2,())) (by kernel_rfl) (a462 f42 f446 x0 x1 x2).symm
noncomputable def t427(y13:T13)(x0 x1:Int×Vector UInt8 16×Vector UInt8 32×Int×Int×Int×List UInt8×Unit):Option Bool:=(bif decide (x0.1=x1.1)then bif decide (x0.2.1=x1.2.1)then bif decide (x0.2.2.1=x1.2.2.1)then bif decide (x0.2.2.2.1=x1.2.2.2.1)then bif decide (x0.2.2.2.2.1=x1.2.2.2.2.1)then bif decide (x0.2.2.2.2.2.1=x1.2.2.2.2.2.1)then(y13 x0.2.2.2.2.2.2.1 x1.2.2.2.2.2.2.1).bind fun(r:Bool)=>some r else some false else some false else some false else some false else some false else some false).bind fun(x:Bool)=>some x
noncomputable def K427(y13:T13):Ctx:=mkC tys cells maps [(i13,⟨P13,R13,fun x=>y13 x.1 x.2.1⟩)] [] []
theorem a427(y13:T13)(x0)(x1):t427 y13 x0 x1=evF (K427 y13) F427 h427 P427 R427 (x0,x1,()):=by kernel_rfl
theorem e427(x0)(x1):f427 x0 x1=t427 f13 x0 x1:=Eq.trans (b:=evF (K427 f13) F427 h427 P427 R427 (x0,x1,())) (by kernel_rfl) (a427 f13 x0 x1).symm
noncomputable def t433(x0 x1:List (Vector UInt8 32)):Option Bool:=bif decide ((↑x0.length:Int)≠(↑x1.length:Int))then some false else(iter (fun(x:Int)=>bif decide (x<(↑x0.length:Int))then(at? x0 x).bind fun(y:Vector UInt8 32)=>(at? x1 x).bind fun(y_1:Vector UInt8 32)=>bif !decide (y=y_1)then some (Sum.inr (Sum.inr false))else some (Sum.inl (addI x (1:Int)))else some (Sum.inr (Sum.inl ()))) (0:Int)).bind fun(y:Unit ⊕ Bool)=>sumE y (fun(x:Unit)=>some true) fun(x:Bool)=>some x
theorem e433(x0)(x1):f433 x0 x1=t433 x0 x1:=by kernel_rfl
noncomputable def t432(y13:T13)(x0 x1:List (List UInt8)):Option Bool:=bif decide ((↑x0.length:Int)≠(↑x1.length:Int))then some false else(iter (fun(x:Int)=>bif decide (x<(↑x0.length:Int))then(at? x0 x).bind fun(y:List UInt8)=>(at? x1 x).bind fun(y_1:List UInt8)=>(y13 y y_1).bind fun(r:Bool)=>bif !r then some (Sum.inr (Sum.inr false))else some (Sum.inl (addI x (1:Int)))else some (Sum.inr (Sum.inl ()))) (0:Int)).bind fun(y:Unit ⊕ Bool)=>sumE y (fun(x:Unit)=>some true) fun(x:Bool)=>some x
noncomputable def K432(y13:T13):Ctx:=mkC tys cells maps [(i13,⟨P13,R13,fun x=>y13 x.1 x.2.1⟩)] [] []
theorem a432(y13:T13)(x0)(x1):t432 y13 x0 x1=evF (K432 y13) F432 h432 P432 R432 (x0,x1,()):=by kernel_rfl
theorem e432(x0)(x1):f432 x0 x1=t432 f13 x0 x1:=Eq.trans (b:=evF (K432 f13) F432 h432 P432 R432 (x0,x1,())) (by kernel_rfl) (a432 f13 x0 x1).symm
noncomputable def t434(y13:T13)(y432:T432)(y433:T433)(x0 x1:Int×List UInt8×List (Vector UInt8 32)×List (List UInt8)×Unit):Option Bool:=(bif decide (x0.1=x1.1)then(y13 x0.2.1 x1.2.1).bind fun(r:Bool)=>bif r then(y433 x0.2.2.1 x1.2.2.1).bind fun(r:Bool)=>bif r then(y432 x0.2.2.2.1 x1.2.2.2.1).bind fun(r:Bool)=>some r else some false else some false else some false).bind fun(x:Bool)=>some x
noncomputable def K434(y13:T13)(y432:T432)(y433:T433):Ctx:=mkC tys cells maps [(i13,⟨P13,R13,fun x=>y13 x.1 x.2.1⟩),(i432,⟨P432,R432,fun x=>y432 x.1 x.2.1⟩),(i433,⟨P433,R433,fun x=>y433 x.1 x.2.1⟩)] [] []
theorem a434(y13:T13)(y432:T432)(y433:T433)(x0)(x1):t434 y13 y432 y433 x0 x1=evF (K434 y13 y432 y433) F434 h434 P434 R434 (x0,x1,()):=by kernel_rfl
theorem e434(x0)(x1):f434 x0 x1=t434 f13 f432 f433 x0 x1:=Eq.trans (b:=evF (K434 f13 f432 f433) F434 h434 P434 R434 (x0,x1,())) (by kernel_rfl) (a434 f13 f432 f433 x0 x1).symm
noncomputable def t435(y434:T434)(x0 x1:List (Int×List UInt8×List (Vector UInt8 32)×List (List UInt8)×Unit)):Option Bool:=bif decide ((↑x0.length:Int)≠(↑x1.length:Int))then some false else(iter (fun(x:Int)=>bif decide (x<(↑x0.length:Int))then(at? x0 x).bind fun(y:Int×List UInt8×List (Vector UInt8 32)×List (List UInt8)×Unit)=>(at? x1 x).bind fun(y_1:Int×List UInt8×List (Vector UInt8 32)×List (List UInt8)×Unit)=>(y434 y y_1).bind fun(r:Bool)=>bif !r then some (Sum.inr (Sum.inr false))else some (Sum.inl (addI x (1:Int)))else some (Sum.inr (Sum.inl ()))) (0:Int)).bind fun(y:Unit ⊕ Bool)=>sumE y (fun(x:Unit)=>some true) fun(x:Bool)=>some x
noncomputable def K435(y434:T434):Ctx:=mkC tys cells maps [(i434,⟨P434,R434,fun x=>y434 x.1 x.2.1⟩)] [] []
theorem a435(y434:T434)(x0)(x1):t435 y434 x0 x1=evF (K435 y434) F435 h435 P435 R435 (x0,x1,()):=by kernel_rfl
theorem e435(x0)(x1):f435 x0 x1=t435 f434 x0 x1:=Eq.trans (b:=evF (K435 f434) F435 h435 P435 R435 (x0,x1,())) (by kernel_rfl) (a435 f434 x0 x1).symm
abbrev T436:Type:= ∀(x0:Vector UInt8 16) (x1:List UInt8) (x2 x3:Int) (x4:Bool),Option Bool
noncomputable def f436:T436:=fun x0 x1 x2 x3 x4=>Sx.r436 (x0,x1,x2,x3,x4,())
noncomputable def t436(y5:T5)(y7:T7)(y19:T19)(y427:T427)(y435:T435)(y439:T439)(y462:T462)(y485:T485)(x0:Vector UInt8 16)(x1:List UInt8)(x2 x3:Int)(x4:Bool):Option Bool:=(y5 x1 (200:Int)).bind fun(r:List UInt8)=>(bif x4 then some []else some r).bind fun(d:List UInt8)=>(bif decide ((0:Int)<x2)then bif decide (x2<=x3)then bif decide (x3<=(16:Int))then some (decide ((6:Int)<x3))else some false else some false else some false).bind fun(g:Bool)=>(bif g then(remI x3 (6:Int)).bind fun(c:Int)=>(remI x2 (addI (1:Int) c)).bind fun(e:Int)=>some (addI (1:Int) e,addI (1:Int) c)else some (x2,x3)).bind fun(kn:Int×Int)=>if(0:Int)<=(↑d.length:Int)∧(↑d.length:Int)<=addI (↑d.length:Int) (3:Int)∧(1:Int)<=addI (↑d.length:Int) (3:Int)then(zeros? (addI (↑d.length:Int) (3:Int)) (0:UInt8)).bind fun(r0:List UInt8)=>if(0:Int)<=(0:Int)∧(0:Int)<=addI (↑d.length:Int) (3:Int)∧addI (↑d.length:Int) (3:Int)<=(↑(lput r0 (0:Nat) (List.take (↑d.length:Int).toNat d)).length:Int)then(iter (fun(x:Int×List UInt8)=>bif decide (x.1<(↑((addI (↑d.length:Int) (3:Int)).toNat-(0:Int).toNat):Int))then if(0:Int)<=x.1∧x.1<(↑((addI (↑d.length:Int) (3:Int)).toNat-(0:Int).toNat):Int)then some (Sum.inl (addI x.1 (1:Int),x.2.set ((0:Int).toNat+x.1.toNat) (85:UInt8)))else none else some (Sum.inr x.2)) ((↑d.length:Int),(lput r0 (0:Nat) (List.take (↑d.length:Int).toNat d)))).bind fun(row:List UInt8)=>(y19 x0 (List.take (↑d.length:Int).toNat (List.drop (0:Nat) row)) kn.1 kn.2).bind fun(r1:(Int×Vector UInt8 16×Vector UInt8 32×Int×Int×Int×List UInt8×Unit)×List (Int×List UInt8×List (Vector UInt8 32)×List (List UInt8)×Unit)×Int)=>(y7 x0 d kn.1 kn.2).bind fun(r2:(Int×Vector UInt8 16×Vector UInt8 32×Int×Int×Int×List UInt8×Unit)×List (Int×List UInt8×List (Vector UInt8 32)×List (List UInt8)×Unit)×Int)=>(bif decide (r1.2.2=r2.2.2)then(y427 r1.1 r2.1).bind fun(a:Bool)=>bif a then(y435 r1.2.1 r2.2.1).bind fun(b:Bool)=>bif b then(bif decide ((↑(↑d.length:Int).toNat:Int)≠(↑d.length:Int))then some true else some (decide ((↑row.length:Int)≠addI (↑d.length:Int) (3:Int)))).bind fun(x:Bool)=>bif x then some false else if(0:Int)<=(0:Int)∧(0:Int)<=addI (↑d.length:Int) (3:Int)∧addI (↑d.length:Int) (3:Int)<=(↑row.length:Int)then(iter (fun(x:Int)=>bif decide (x<(↑((addI (↑d.length:Int) (3:Int)).toNat-(0:Int).toNat):Int))then(bif decide (x<(↑d.length:Int))then if(0:Int)<=x∧x<(↑((addI (↑d.length:Int) (3:Int)).toNat-(0:Int).toNat):Int)then(at? d x).bind fun(b:UInt8)=>bif decide ((row.getD ((0:Int).toNat+x.toNat) (0:UInt8))≠b)then some true else bif decide ((↑d.length:Int)<=x)then if(0:Int)<=x∧x<(↑((addI (↑d.length:Int) (3:Int)).toNat-(0:Int).toNat):Int)then some (decide ((row.getD ((0:Int).toNat+x.toNat) (0:UInt8))≠(85:UInt8)))else none else some false else none else bif decide ((↑d.length:Int)<=x)then if(0:Int)<=x∧x<(↑((addI (↑d.length:Int) (3:Int)).toNat-(0:Int).toNat):Int)then some (decide ((row.getD ((0:Int).toNat+x.toNat) (0:UInt8))≠(85:UInt8)))else none else some false).bind fun(y:Bool)=>bif y then some (Sum.inr (Sum.inr false))else some (Sum.inl (addI x (1:Int)))else some (Sum.inr (Sum.inl ()))) (0:Int)).bind fun(z:Unit ⊕ Bool)=>sumE z (fun(x:Unit)=>(y485 d kn.1 kn.2).bind fun(a:Vector UInt8 16)=>(y462 d kn.1 kn.2).bind fun(b:Vector UInt8 16)=>bif decide (a=b)then(y439).bind fun(r:Bool)=>some r else some false) fun(x:Bool)=>(bif x then(y485 d kn.1 kn.2).bind fun(a:Vector UInt8 16)=>(y462 d kn.1 kn.2).bind fun(b:Vector UInt8 16)=>bif decide (a=b)then(y439).bind fun(r:Bool)=>some r else some false else some false)else none else some false else some false else some false).bind fun(x:Bool)=>some x else none else none
noncomputable def K436(y5:T5)(y7:T7)(y19:T19)(y427:T427)(y435:T435)(y439:T439)(y462:T462)(y485:T485):Ctx:=mkC tys cells maps [(i5,⟨P5,R5,fun x=>y5 x.1 x.2.1⟩),(i7,⟨P7,R7,fun x=>y7 x.1 x.2.1 x.2.2.1 x.2.2.2.1⟩),(i19,⟨P19,R19,fun x=>y19 x.1 x.2.1 x.2.2.1 x.2.2.2.1⟩),(i427,⟨P427,R427,fun x=>y427 x.1 x.2.1⟩),(i430,s430),(i431,s431),(i435,⟨P435,R435,fun x=>y435 x.1 x.2.1⟩),(i439,⟨P439,R439,fun _=>y439⟩),(i462,⟨P462,R462,fun x=>y462 x.1 x.2.1 x.2.2.1⟩),(i485,⟨P485,R485,fun x=>y485 x.1 x.2.1 x.2.2.1⟩)] [] [(i431,F431),(i430,F430)]
theorem a436(y5:T5)(y7:T7)(y19:T19)(y427:T427)(y435:T435)(y439:T439)(y462:T462)(y485:T485)(x0)(x1)(x2)(x3)(x4):t436 y5 y7 y19 y427 y435 y439 y462 y485 x0 x1 x2 x3 x4=evF (K436 y5 y7 y19 y427 y435 y439 y462 y485) F436 h436 P436 R436 (x0,x1,x2,x3,x4,()):=by kernel_rfl
theorem e436(x0)(x1)(x2)(x3)(x4):f436 x0 x1 x2 x3 x4=t436 f5 f7 f19 f427 f435 f439 f462 f485 x0 x1 x2 x3 x4:=Eq.trans (b:=evF (K436 f5 f7 f19 f427 f435 f439 f462 f485) F436 h436 P436 R436 (x0,x1,x2,x3,x4,())) (by kernel_rfl) (a436 f5 f7 f19 f427 f435 f439 f462 f485 x0 x1 x2 x3 x4).symm
end Mx
end
