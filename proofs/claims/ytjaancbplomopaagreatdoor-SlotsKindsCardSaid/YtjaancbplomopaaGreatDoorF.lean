/- The functional readings of the functions as plain Lean terms, first part. No conditions. -/
import Derived.Test.YtjaancbplomopaaGreatDoorE
import Derived.KernelRfl
set_option linter.unusedVariables false
set_option linter.unusedSimpArgs false
set_option linter.unusedSectionVars false
set_option maxRecDepth 100000
section
open Go Go.Proofs Ev
namespace Mx
noncomputable def f6(x0 x1:Int):Option Int:=Sx.r6 (x0,x1,())
abbrev T42:Type:= ∀(x0 x1:Int),Option (List UInt8)
noncomputable def f42(x0 x1:Int):Option (List UInt8):=Sx.r42 (x0,x1,())
abbrev T64:Type:= ∀(x0:List UInt8),Option (List UInt8)
noncomputable def f64(x0:List UInt8):Option (List UInt8):=Sx.r64 (x0,())
abbrev T63:Type:= ∀(x0:List (List UInt8)),Option (List UInt8)
noncomputable def f63(x0:List (List UInt8)):Option (List UInt8):=Sx.r63 (x0,())
abbrev T29:Type:= ∀(x0:List UInt8) (x1:List (List UInt8)),Option (List UInt8)
noncomputable def f29(x0:List UInt8)(x1:List (List UInt8)):Option (List UInt8):=Sx.r29 (x0,x1,())
abbrev T118:Type:=Option (Vector UInt32 64)
noncomputable def f118:Option (Vector UInt32 64):=Sx.r118 ()
abbrev T119:Type:= ∀(x0:UInt32) (x1:UInt64),Option UInt32
noncomputable def f119(x0:UInt32)(x1:UInt64):Option UInt32:=Sx.r119 (x0,x1,())
abbrev T44:Type:= ∀(x0:List UInt8) (x1:List (List UInt8)),Option (Vector UInt8 32)
noncomputable def f44(x0:List UInt8)(x1:List (List UInt8)):Option (Vector UInt8 32):=Sx.r44 (x0,x1,())
abbrev T103:Type:= ∀(x0:Int),Option Int
noncomputable def f103(x0:Int):Option Int:=Sx.r103 (x0,())
noncomputable def f66(x0:List (Vector UInt8 32)):Option (List (Vector UInt8 32)):=Sx.r66 (x0,())
noncomputable def f68(x0 x1:Vector UInt8 32):Option (List UInt8):=Sx.r68 (x0,x1,())
abbrev T104:Type:= ∀(x0 x1:Vector UInt8 32),Option (Vector UInt8 32)
noncomputable def f104(x0 x1:Vector UInt8 32):Option (Vector UInt8 32):=Sx.r104 (x0,x1,())
noncomputable def f67(x0:List (Vector UInt8 32)):Option (List (Vector UInt8 32)):=Sx.r67 (x0,())
noncomputable def f38(x0:List (Vector UInt8 32)):Option (Vector UInt8 32):=Sx.r38 (x0,())
abbrev T60:Type:= ∀(x0:Vector UInt8 16) (x1:Vector UInt8 256),Option (Vector (Vector UInt8 16) 11)
noncomputable def f60(x0:Vector UInt8 16)(x1:Vector UInt8 256):Option (Vector (Vector UInt8 16) 11):=Sx.r60 (x0,x1,())
abbrev T100:Type:= ∀(x0 x1:Vector UInt8 16),Option (Vector UInt8 16)
noncomputable def f100(x0 x1:Vector UInt8 16):Option (Vector UInt8 16):=Sx.r100 (x0,x1,())
abbrev T101:Type:= ∀(x0:Vector UInt8 16),Option (Vector UInt8 16)
noncomputable def f101(x0:Vector UInt8 16):Option (Vector UInt8 16):=Sx.r101 (x0,())
abbrev T61:Type:= ∀(x0:Vector (Vector UInt8 16) 11) (x1:Vector UInt8 256) (x2:Vector UInt8 16),Option (Vector UInt8 16)
noncomputable def f61(x0:Vector (Vector UInt8 16) 11)(x1:Vector UInt8 256)(x2:Vector UInt8 16):Option (Vector UInt8 16):=Sx.r61 (x0,x1,x2,())
noncomputable def f23(x0:Vector UInt8 16)(x1:Int)(x2:List UInt8):Option (List UInt8):=Sx.r23 (x0,x1,x2,())
noncomputable def f185(x0:UInt8):Option UInt8:=Sx.r185 (x0,())
noncomputable def f161(x0:Vector UInt8 510×Vector Int 256×Unit)(x1 x2:UInt8):Option UInt8:=Sx.r161 (x0,x1,x2,())
noncomputable def f187(x0 x1:UInt8):Option UInt8:=Sx.r187 (x0,x1,())
noncomputable def f188(x0:UInt8×UInt8->Option UInt8)(x1 x2:List UInt8):Option UInt8:=Sx.r188 (x0,x1,x2,())
noncomputable def f164(x0:Vector UInt8 510×Vector Int 256×Unit)(x1 x2:List UInt8):Option UInt8:=Sx.r164 (x0,x1,x2,())
noncomputable def f123(x0:List UInt8)(x1:Int):Option (List UInt8):=Sx.r123 (x0,x1,())
noncomputable def f167(x0:List (List UInt8))(x1:Int):Option (List UInt8):=Sx.r167 (x0,x1,())
noncomputable def f84(x0:Int×Int×List (List UInt8)×Unit)(x1:List UInt8):Option (List (List UInt8)):=Sx.r84 (x0,x1,())
abbrev T95:Type:= ∀(x0:List UInt8),Option (List UInt8)
noncomputable def f95(x0:List UInt8):Option (List UInt8):=Sx.r95 (x0,())
abbrev T88:Type:= ∀(x0:List (List UInt8)),Option (List UInt8)
noncomputable def f88(x0:List (List UInt8)):Option (List UInt8):=Sx.r88 (x0,())
abbrev T54:Type:= ∀(x0:List UInt8) (x1:List (List UInt8)),Option (List UInt8)
noncomputable def f54(x0:List UInt8)(x1:List (List UInt8)):Option (List UInt8):=Sx.r54 (x0,x1,())
abbrev T189:Type:=Option (Vector UInt32 8)
noncomputable def f189:Option (Vector UInt32 8):=Sx.r189 ()
abbrev T190:Type:=Option (Vector UInt32 64)
noncomputable def f190:Option (Vector UInt32 64):=Sx.r190 ()
abbrev T168:Type:=Option (Vector UInt32 8×Vector UInt32 64×List UInt8×Int×Unit)
noncomputable def f168:Option (Vector UInt32 8×Vector UInt32 64×List UInt8×Int×Unit):=Sx.r168 ()
abbrev T204:Type:= ∀(x0:UInt32) (x1:Int),Option UInt32
noncomputable def f204(x0:UInt32)(x1:Int):Option UInt32:=Sx.r204 (x0,x1,())
abbrev T191:Type:= ∀(x0:Vector UInt32 8) (x1:Vector UInt32 64) (x2:List UInt8),Option (Vector UInt32 8)
noncomputable def f191(x0:Vector UInt32 8)(x1:Vector UInt32 64)(x2:List UInt8):Option (Vector UInt32 8):=Sx.r191 (x0,x1,x2,())
abbrev T169:Type:= ∀(x0:Vector UInt32 8×Vector UInt32 64×List UInt8×Int×Unit) (x1:List UInt8),Option (Int×Vector UInt32 8×Vector UInt32 64×List UInt8×Int×Unit)
noncomputable def f169(x0:Vector UInt32 8×Vector UInt32 64×List UInt8×Int×Unit)(x1:List UInt8):Option (Int×Vector UInt32 8×Vector UInt32 64×List UInt8×Int×Unit):=Sx.r169 (x0,x1,())
abbrev T89:Type:= ∀(x0 x1:Int),Option (List UInt8)
noncomputable def f89(x0 x1:Int):Option (List UInt8):=Sx.r89 (x0,x1,())
abbrev T170:Type:= ∀(x0:Vector UInt32 8×Vector UInt32 64×List UInt8×Int×Unit),Option (Vector UInt8 32)
noncomputable def f170(x0:Vector UInt32 8×Vector UInt32 64×List UInt8×Int×Unit):Option (Vector UInt8 32):=Sx.r170 (x0,())
abbrev T125:Type:= ∀(x0:List UInt8),Option (Vector UInt8 32)
noncomputable def f125(x0:List UInt8):Option (Vector UInt8 32):=Sx.r125 (x0,())
noncomputable def f90(x0:List UInt8)(x1:List (List UInt8)):Option (Vector UInt8 32):=Sx.r90 (x0,x1,())
noncomputable def f56(x0:List UInt8):Option (Vector UInt8 32):=Sx.r56 (x0,())
noncomputable def f128(x0:Int):Option Int:=Sx.r128 (x0,())
noncomputable def f130(x0 x1:Vector UInt8 32):Option (List UInt8):=Sx.r130 (x0,x1,())
noncomputable def f129(x0 x1:Vector UInt8 32):Option (Vector UInt8 32):=Sx.r129 (x0,x1,())
noncomputable def f87(x0:List (Vector UInt8 32)):Option (Vector UInt8 32):=Sx.r87 (x0,())
noncomputable def f21(x0 x1:List UInt8):Option Bool:=Sx.r21 (x0,x1,())
noncomputable def f126(x0:List UInt8):Option (Int×Int):=Sx.r126 (x0,())
abbrev T92:Type:= ∀(x0:List UInt8),Option (List UInt8×List UInt8×Bool)
noncomputable def f92(x0:List UInt8):Option (List UInt8×List UInt8×Bool):=Sx.r92 (x0,())
noncomputable def f51(x0:List UInt8)(x1:Int):Option (List (List UInt8)×Bool):=Sx.r51 (x0,x1,())
noncomputable def f93(x0:List UInt8):Option (Int×Bool):=Sx.r93 (x0,())
noncomputable def f52(x0:List (List UInt8))(x1:List Int):Option (List Int×Bool):=Sx.r52 (x0,x1,())
noncomputable def f94(x0 x1:Int):Option Bool:=Sx.r94 (x0,x1,())
abbrev T99:Type:= ∀(x0:UInt8) (x1:Int),Option UInt8
noncomputable def f99(x0:UInt8)(x1:Int):Option UInt8:=Sx.r99 (x0,x1,())
abbrev T102:Type:= ∀(x0:Int),Option (List UInt8)
noncomputable def f102(x0:Int):Option (List UInt8):=Sx.r102 (x0,())
abbrev T127:Type:= ∀(x0:Int),Option (List UInt8)
noncomputable def f127(x0:Int):Option (List UInt8):=Sx.r127 (x0,())
abbrev T82:Type:= ∀(x0:List UInt8),Option (Vector UInt8 32)
noncomputable def f82(x0:List UInt8):Option (Vector UInt8 32):=Sx.r82 (x0,())
abbrev T98:Type:= ∀(x0:UInt8),Option UInt8
noncomputable def f98(x0:UInt8):Option UInt8:=Sx.r98 (x0,())
abbrev T59:Type:=Option (Vector UInt8 256)
noncomputable def f59:Option (Vector UInt8 256):=Sx.r59 ()
noncomputable def f153:Option (Option (Vector UInt8 510×Vector Int 256×Unit)):=Sx.r153 ()
noncomputable def f124(x0 x1:List (List UInt8)):Option (List (List UInt8)):=Sx.r124 (x0,x1,())
noncomputable def f96(x0:List (Vector UInt8 32)):Option (List (List (Vector UInt8 32))):=Sx.r96 (x0,())
noncomputable def f86(x0:Int)(x1:List (Vector UInt8 32)):Option (List (Vector UInt8 32)×Int):=Sx.r86 (x0,x1,())
end Mx
end
section
open Go Go.Proofs Ev Sx
namespace Mx
noncomputable def t42(x0 x1:Int):Option (List UInt8):=(bif decide (x0<(0:Int))then some (0:Int)else some x0).bind fun(x:Int)=>(zeros? (minI (maxI x1 (0:Int)) (8:Int)) (0:UInt8)).bind fun(r:List UInt8)=>(iter (fun(x:Int×Int×List UInt8)=>bif decide ((0:Int)<=x.2.1)then(remI x.1 (256:Int)).bind fun(c:Int)=>if(0:Int)<=x.2.1∧x.2.1<(↑x.2.2.length:Int)then(quoI x.1 (256:Int)).bind fun(c_1:Int)=>some (Sum.inl (c_1,subI x.2.1 (1:Int),x.2.2.set x.2.1.toNat (UInt8.ofInt c)))else none else some (Sum.inr x.2.2)) (x,subI (minI (maxI x1 (0:Int)) (8:Int)) (1:Int),r)).bind fun(y:List UInt8)=>some y
theorem e42(x0 x1:Int):f42 x0 x1=t42 x0 x1:=by kernel_rfl
noncomputable def t44(y29:T29)(y82:T82)(x0:List UInt8)(x1:List (List UInt8)):Option (Vector UInt8 32):=(y29 x0 x1).bind fun(r:List UInt8)=>(y82 r).bind fun(r:Vector UInt8 32)=>some r
noncomputable def K44(y29:T29)(y82:T82):Ctx:=mkC tys cells maps [(i29,⟨P29,R29,fun x=>y29 x.1 x.2.1⟩),(i82,⟨P82,R82,fun x=>y82 x.1⟩)] [] []
theorem a44(y29:T29)(y82:T82)(x0:List UInt8)(x1:List (List UInt8)):evF (K44 y29 y82) F44 h44 P44 R44 (x0,x1,())=t44 y29 y82 x0 x1:=by kernel_rfl
theorem e44(x0:List UInt8)(x1:List (List UInt8)):f44 x0 x1=t44 f29 f82 x0 x1:=Eq.trans (b:=evF (K44 f29 f82) F44 h44 P44 R44 (x0,x1,())) (by kernel_rfl) (a44 f29 f82 x0 x1)
noncomputable def t67(y104:T104)(x0:List (Vector UInt8 32)):Option (List (Vector UInt8 32)):=(iter (fun(x:List (Vector UInt8 32)×Int)=>bif decide (addI x.2 (1:Int)<(↑x0.length:Int))then(at? x0 x.2).bind fun(y:Vector UInt8 32)=>(at? x0 (addI x.2 (1:Int))).bind fun(y_1:Vector UInt8 32)=>(y104 y y_1).bind fun(r:Vector UInt8 32)=>(app? x.1 [r]).bind fun(zs:List (Vector UInt8 32))=>some (Sum.inl (zs,addI x.2 (2:Int)))else some (Sum.inr x.1)) ([],(0:Int))).bind fun(y:List (Vector UInt8 32))=>some y
noncomputable def K67(y104:T104):Ctx:=mkC tys cells maps [(i104,⟨P104,R104,fun x=>y104 x.1 x.2.1⟩)] [] []
theorem a67(y104:T104)(x0:List (Vector UInt8 32)):evF (K67 y104) F67 h67 P67 R67 (x0,())=t67 y104 x0:=by kernel_rfl
noncomputable def t101(y98:T98)(x0:Vector UInt8 16):Option (Vector UInt8 16):=(iter (fun(x:Int×Vector UInt8 16)=>bif decide (x.1<(16:Int))then(iter (fun(x_1:Int×Vector UInt8 16)=>bif decide (x_1.1<(4:Int))then if(0:Int)<=addI x.1 x_1.1∧addI x.1 x_1.1<(16:Int)then(remI (addI x_1.1 (1:Int)) (4:Int)).bind fun(c:Int)=>if(0:Int)<=addI x.1 c∧addI x.1 c<(16:Int)then(remI (addI x_1.1 (2:Int)) (4:Int)).bind fun(c_1:Int)=>if(0:Int)<=addI x.1 c_1∧addI x.1 c_1<(16:Int)then(remI (addI x_1.1 (3:Int)) (4:Int)).bind fun(c_2:Int)=>if(0:Int)<=addI x.1 c_2∧addI x.1 c_2<(16:Int)then(y98 (x0[(addI x.1 x_1.1).toNat]?.getD (0:UInt8))).bind fun(r:UInt8)=>(y98 (x0[(addI x.1 c).toNat]?.getD (0:UInt8))).bind fun(r_1:UInt8)=>if(0:Int)<=addI x.1 x_1.1∧addI x.1 x_1.1<(16:Int)then some (Sum.inl (addI x_1.1 (1:Int),x_1.2.setIfInBounds (addI x.1 x_1.1).toNat (r^^^r_1^^^x0[(addI x.1 c).toNat]?.getD (0:UInt8)^^^x0[(addI x.1 c_1).toNat]?.getD (0:UInt8)^^^x0[(addI x.1 c_2).toNat]?.getD (0:UInt8))))else none else none else none else none else none else some (Sum.inr x_1.2)) ((0:Int),x.2)).bind fun(y:Vector UInt8 16)=>some (Sum.inl (addI x.1 (4:Int),y))else some (Sum.inr x.2)) ((0:Int),Vector.replicate 16 (0:UInt8))).bind fun(y:Vector UInt8 16)=>some y
noncomputable def K101(y98:T98):Ctx:=mkC tys cells maps [(i98,⟨P98,R98,fun x=>y98 x.1⟩)] [] []
theorem a101(y98:T98)(x0:Vector UInt8 16):evF (K101 y98) F101 h101 P101 R101 (x0,())=t101 y98 x0:=by kernel_rfl
theorem e101(x0:Vector UInt8 16):f101 x0=t101 f98 x0:=Eq.trans (b:=evF (K101 f98) F101 h101 P101 R101 (x0,())) (by kernel_rfl) (a101 f98 x0)
noncomputable def t189:Option (Vector UInt32 8):=some (vecOf 8 [(1779033703:UInt32),(3144134277:UInt32),(1013904242:UInt32),(2773480762:UInt32),(1359893119:UInt32),(2600822924:UInt32),(528734635:UInt32),(1541459225:UInt32)] (0:UInt32))
theorem e189:f189=t189:=by kernel_rfl
noncomputable def t191(y204:T204)(x0:Vector UInt32 8)(x1:Vector UInt32 64)(x2:List UInt8):Option (Vector UInt32 8):=(iter (fun(x:Int×Vector UInt32 64)=>bif decide (x.1<(16:Int))then(at? x2 (mulI (4:Int) x.1)).bind fun(y:UInt8)=>(at? x2 (addI (mulI (4:Int) x.1) (1:Int))).bind fun(y_1:UInt8)=>(at? x2 (addI (mulI (4:Int) x.1) (2:Int))).bind fun(y_2:UInt8)=>(at? x2 (addI (mulI (4:Int) x.1) (3:Int))).bind fun(y_3:UInt8)=>if(0:Int)<=x.1∧x.1<(64:Int)then some (Sum.inl (addI x.1 (1:Int),x.2.setIfInBounds x.1.toNat (shl32 (UInt32.ofInt (↑y.toNat:Int)) (24:Nat)|||shl32 (UInt32.ofInt (↑y_1.toNat:Int)) 16|||shl32 (UInt32.ofInt (↑y_2.toNat:Int)) 8|||UInt32.ofInt (↑y_3.toNat:Int))))else none else some (Sum.inr x.2)) ((0:Int),Vector.replicate 64 (0:UInt32))).bind fun(y:Vector UInt32 64)=>(iter (fun(x:Int×Vector UInt32 64)=>bif decide (x.1<(64:Int))then if(0:Int)<=subI x.1 (15:Int)∧subI x.1 (15:Int)<(64:Int)then if(0:Int)<=subI x.1 (2:Int)∧subI x.1 (2:Int)<(64:Int)then(y204 (x.2[(subI x.1 (15:Int)).toNat]?.getD (0:UInt32)) (-7:Int)).bind fun(r:UInt32)=>(y204 (x.2[(subI x.1 (15:Int)).toNat]?.getD (0:UInt32)) (-18:Int)).bind fun(r_1:UInt32)=>(y204 (x.2[(subI x.1 (2:Int)).toNat]?.getD (0:UInt32)) (-17:Int)).bind fun(r_2:UInt32)=>(y204 (x.2[(subI x.1 (2:Int)).toNat]?.getD (0:UInt32)) (-19:Int)).bind fun(r_3:UInt32)=>if(0:Int)<=subI x.1 (16:Int)∧subI x.1 (16:Int)<(64:Int)then if(0:Int)<=subI x.1 (7:Int)∧subI x.1 (7:Int)<(64:Int)then if(0:Int)<=x.1∧x.1<(64:Int)then some (Sum.inl (addI x.1 (1:Int),x.2.setIfInBounds x.1.toNat (x.2[(subI x.1 (16:Int)).toNat]?.getD (0:UInt32)+(r^^^r_1^^^shr32 (x.2[(subI x.1 (15:Int)).toNat]?.getD (0:UInt32)) (3:Nat))+x.2[(subI x.1 (7:Int)).toNat]?.getD (0:UInt32)+(r_2^^^r_3^^^shr32 (x.2[(subI x.1 (2:Int)).toNat]?.getD (0:UInt32)) (10:Nat)))))else none else none else none else none else none else some (Sum.inr x.2)) ((16:Int),y)).bind fun(y:Vector UInt32 64)=>(iter (fun(x:Int×Vector UInt32 8)=>bif decide (x.1<(64:Int))then(y204 (x.2[4]?.getD (0:UInt32)) (-6:Int)).bind fun(r:UInt32)=>(y204 (x.2[4]?.getD (0:UInt32)) (-11:Int)).bind fun(r_1:UInt32)=>(y204 (x.2[4]?.getD (0:UInt32)) (-25:Int)).bind fun(r_2:UInt32)=>if(0:Int)<=x.1∧x.1<(64:Int)then if(0:Int)<=x.1∧x.1<(64:Int)then(y204 (x.2[(0:Nat)]?.getD (0:UInt32)) (-2:Int)).bind fun(r_3:UInt32)=>(y204 (x.2[(0:Nat)]?.getD (0:UInt32)) (-13:Int)).bind fun(r_4:UInt32)=>(y204 (x.2[(0:Nat)]?.getD (0:UInt32)) (-22:Int)).bind fun(r_5:UInt32)=>some (Sum.inl (addI x.1 (1:Int),vecOf 8 [x.2[(7:Nat)]?.getD (0:UInt32)+(r^^^r_1^^^r_2)+(x.2[4]?.getD (0:UInt32)&&&x.2[(5:Nat)]?.getD (0:UInt32)^^^ ~~~x.2[4]?.getD (0:UInt32)&&&x.2[(6:Nat)]?.getD (0:UInt32))+x1[x.1.toNat]?.getD (0:UInt32)+y[x.1.toNat]?.getD (0:UInt32)+(r_3^^^r_4^^^r_5)+(x.2[(0:Nat)]?.getD (0:UInt32)&&&x.2[(1:Nat)]?.getD (0:UInt32)^^^x.2[(0:Nat)]?.getD (0:UInt32)&&&x.2[2]?.getD (0:UInt32)^^^x.2[(1:Nat)]?.getD (0:UInt32)&&&x.2[2]?.getD (0:UInt32)),x.2[(0:Nat)]?.getD (0:UInt32),x.2[(1:Nat)]?.getD (0:UInt32),x.2[2]?.getD (0:UInt32),x.2[(3:Nat)]?.getD (0:UInt32)+(x.2[(7:Nat)]?.getD (0:UInt32)+(r^^^r_1^^^r_2)+(x.2[4]?.getD (0:UInt32)&&&x.2[(5:Nat)]?.getD (0:UInt32)^^^ ~~~x.2[4]?.getD (0:UInt32)&&&x.2[(6:Nat)]?.getD (0:UInt32))+x1[x.1.toNat]?.getD (0:UInt32)+y[x.1.toNat]?.getD (0:UInt32)),x.2[4]?.getD (0:UInt32),x.2[(5:Nat)]?.getD (0:UInt32),x.2[(6:Nat)]?.getD (0:UInt32)] (0:UInt32)))else none else none else some (Sum.inr x.2)) ((0:Int),x0)).bind fun(y:Vector UInt32 8)=>(iter (fun(x:Int×Vector UInt32 8)=>bif decide (x.1<(8:Int))then if(0:Int)<=x.1∧x.1<(8:Int)then if(0:Int)<=x.1∧x.1<(8:Int)then if(0:Int)<=x.1∧x.1<(8:Int)then some (Sum.inl (addI x.1 (1:Int),x.2.setIfInBounds x.1.toNat (x.2[x.1.toNat]?.getD (0:UInt32)+y[x.1.toNat]?.getD (0:UInt32))))else none else none else none else some (Sum.inr x.2)) ((0:Int),x0)).bind fun(y:Vector UInt32 8)=>some y
noncomputable def K191(y204:T204):Ctx:=mkC tys cells maps [(i204,⟨P204,R204,fun x=>y204 x.1 x.2.1⟩)] [] []
theorem a191(y204:T204)(x0:Vector UInt32 8)(x1:Vector UInt32 64)(x2:List UInt8):evF (K191 y204) F191 h191 P191 R191 (x0,x1,x2,())=t191 y204 x0 x1 x2:=by kernel_rfl
theorem e191(x0:Vector UInt32 8)(x1:Vector UInt32 64)(x2:List UInt8):f191 x0 x1 x2=t191 f204 x0 x1 x2:=Eq.trans (b:=evF (K191 f204) F191 h191 P191 R191 (x0,x1,x2,())) (by kernel_rfl) (a191 f204 x0 x1 x2)
noncomputable def t125(y168:T168)(y169:T169)(y170:T170)(x0:List UInt8):Option (Vector UInt8 32):=(y168).bind fun(r:Vector UInt32 8×Vector UInt32 64×List UInt8×Int×Unit)=>(y169 r x0).bind fun(r:Int×Vector UInt32 8×Vector UInt32 64×List UInt8×Int×Unit)=>(y170 r.2).bind fun(r:Vector UInt8 32)=>some r
noncomputable def K125(y168:T168)(y169:T169)(y170:T170):Ctx:=mkC tys cells maps [(i168,⟨P168,R168,fun _=>y168⟩),(i169,⟨P169,R169,fun x=>y169 x.1 x.2.1⟩),(i170,⟨P170,R170,fun x=>y170 x.1⟩)] [] []
theorem a125(y168:T168)(y169:T169)(y170:T170)(x0:List UInt8):evF (K125 y168 y169 y170) F125 h125 P125 R125 (x0,())=t125 y168 y169 y170 x0:=by kernel_rfl
theorem e125(x0:List UInt8):f125 x0=t125 f168 f169 f170 x0:=Eq.trans (b:=evF (K125 f168 f169 f170) F125 h125 P125 R125 (x0,())) (by kernel_rfl) (a125 f168 f169 f170 x0)
end Mx
end
section
open Go Go.Proofs Ev Sx
namespace Mx
noncomputable def t64(y102:T102)(x0:List UInt8):Option (List UInt8):=(y102 (↑x0.length:Int)).bind fun(r:List UInt8)=>(fits? r).bind fun(l:List UInt8)=>(app? l [(58:UInt8)]).bind fun(zs:List UInt8)=>(app? zs x0).bind fun(zs:List UInt8)=>(app? zs [(44:UInt8)]).bind fun(zs:List UInt8)=>some zs
noncomputable def K64(y102:T102):Ctx:=mkC tys cells maps [(i102,⟨P102,R102,fun x=>y102 x.1⟩)] [] []
theorem a64(y102:T102)(x0:List UInt8):evF (K64 y102) F64 h64 P64 R64 (x0,())=t64 y102 x0:=by kernel_rfl
theorem e64(x0:List UInt8):f64 x0=t64 f102 x0:=Eq.trans (b:=evF (K64 f102) F64 h64 P64 R64 (x0,())) (by kernel_rfl) (a64 f102 x0)
noncomputable def t29(y63:T63)(y64:T64)(x0:List UInt8)(x1:List (List UInt8)):Option (List UInt8):=(fits? x0).bind fun(l:List UInt8)=>(y64 l).bind fun(r:List UInt8)=>(y63 x1).bind fun(r_1:List UInt8)=>(app? r r_1).bind fun(zs:List UInt8)=>some zs
noncomputable def K29(y63:T63)(y64:T64):Ctx:=mkC tys cells maps [(i63,⟨P63,R63,fun x=>y63 x.1⟩),(i64,⟨P64,R64,fun x=>y64 x.1⟩)] [] []
theorem a29(y63:T63)(y64:T64)(x0:List UInt8)(x1:List (List UInt8)):evF (K29 y63 y64) F29 h29 P29 R29 (x0,x1,())=t29 y63 y64 x0 x1:=by kernel_rfl
theorem e29(x0:List UInt8)(x1:List (List UInt8)):f29 x0 x1=t29 f63 f64 x0 x1:=Eq.trans (b:=evF (K29 f63 f64) F29 h29 P29 R29 (x0,x1,())) (by kernel_rfl) (a29 f63 f64 x0 x1)
noncomputable def t66(y44:T44)(y103:T103)(x0:List (Vector UInt8 32)):Option (List (Vector UInt8 32)):=(fits? x0).bind fun(ys:List (Vector UInt8 32))=>(iter (fun(x:List (Vector UInt8 32))=>(y103 (↑x0.length:Int)).bind fun(r:Int)=>bif decide ((↑x.length:Int)<r)then(y44 [(112:UInt8),(97:UInt8),(100:UInt8)] []).bind fun(r:Vector UInt8 32)=>(app? x [r]).bind fun(zs:List (Vector UInt8 32))=>some (Sum.inl zs)else some (Sum.inr x)) ys).bind fun(y:List (Vector UInt8 32))=>some y
noncomputable def K66(y44:T44)(y103:T103):Ctx:=mkC tys cells maps [(i44,⟨P44,R44,fun x=>y44 x.1 x.2.1⟩),(i103,⟨P103,R103,fun x=>y103 x.1⟩)] [] []
theorem a66(y44:T44)(y103:T103)(x0:List (Vector UInt8 32)):evF (K66 y44 y103) F66 h66 P66 R66 (x0,())=t66 y44 y103 x0:=by kernel_rfl
noncomputable def t61(y100:T100)(y101:T101)(x0:Vector (Vector UInt8 16) 11)(x1:Vector UInt8 256)(x2:Vector UInt8 16):Option (Vector UInt8 16):=(y100 x2 (x0[(0:Nat)]?.getD (Vector.replicate 16 (0:UInt8)))).bind fun(r:Vector UInt8 16)=>(iter (fun(x:Int×Vector UInt8 16)=>bif decide (x.1<(11:Int))then(iter (fun(x_1:Int×Vector UInt8 16)=>bif decide (x_1.1<(16:Int))then(remI x_1.1 (4:Int)).bind fun(c:Int)=>(remI (addI x_1.1 (mulI (4:Int) c)) (16:Int)).bind fun(c:Int)=>if(0:Int)<=c∧c<(16:Int)then if(0:Int)<=(↑(x.2[c.toNat]?.getD (0:UInt8)).toNat:Int)∧(↑(x.2[c.toNat]?.getD (0:UInt8)).toNat:Int)<(256:Int)then if(0:Int)<=x_1.1∧x_1.1<(16:Int)then some (Sum.inl (addI x_1.1 (1:Int),x_1.2.setIfInBounds x_1.1.toNat (x1[(↑(x.2[c.toNat]?.getD (0:UInt8)).toNat:Int).toNat]?.getD (0:UInt8))))else none else none else none else some (Sum.inr x_1.2)) ((0:Int),Vector.replicate 16 (0:UInt8))).bind fun(y:Vector UInt8 16)=>(bif decide (x.1<(10:Int))then(y101 y).bind fun(r:Vector UInt8 16)=>some r else some y).bind fun(x_1:Vector UInt8 16)=>if(0:Int)<=x.1∧x.1<(11:Int)then(y100 x_1 (x0[x.1.toNat]?.getD (Vector.replicate 16 (0:UInt8)))).bind fun(r:Vector UInt8 16)=>some (Sum.inl (addI x.1 (1:Int),r))else none else some (Sum.inr x.2)) ((1:Int),r)).bind fun(y:Vector UInt8 16)=>some y
noncomputable def K61(y100:T100)(y101:T101):Ctx:=mkC tys cells maps [(i100,⟨P100,R100,fun x=>y100 x.1 x.2.1⟩),(i101,⟨P101,R101,fun x=>y101 x.1⟩)] [] []
theorem a61(y100:T100)(y101:T101)(x0:Vector (Vector UInt8 16) 11)(x1:Vector UInt8 256)(x2:Vector UInt8 16):evF (K61 y100 y101) F61 h61 P61 R61 (x0,x1,x2,())=t61 y100 y101 x0 x1 x2:=by kernel_rfl
theorem e61(x0:Vector (Vector UInt8 16) 11)(x1:Vector UInt8 256)(x2:Vector UInt8 16):f61 x0 x1 x2=t61 f100 f101 x0 x1 x2:=Eq.trans (b:=evF (K61 f100 f101) F61 h61 P61 R61 (x0,x1,x2,())) (by kernel_rfl) (a61 f100 f101 x0 x1 x2)
noncomputable def t95(y127:T127)(x0:List UInt8):Option (List UInt8):=(y127 (↑x0.length:Int)).bind fun(r:List UInt8)=>(fits? r).bind fun(l:List UInt8)=>(app? l [(58:UInt8)]).bind fun(zs:List UInt8)=>(app? zs x0).bind fun(zs:List UInt8)=>(app? zs [(44:UInt8)]).bind fun(zs:List UInt8)=>some zs
noncomputable def K95(y127:T127):Ctx:=mkC tys cells maps [(i127,⟨P127,R127,fun x=>y127 x.1⟩)] [] []
theorem a95(y127:T127)(x0:List UInt8):evF (K95 y127) F95 h95 P95 R95 (x0,())=t95 y127 x0:=by kernel_rfl
theorem e95(x0:List UInt8):f95 x0=t95 f127 x0:=Eq.trans (b:=evF (K95 f127) F95 h95 P95 R95 (x0,())) (by kernel_rfl) (a95 f127 x0)
noncomputable def t190:Option (Vector UInt32 64):=some (vecOf 64 [(1116352408:UInt32),(1899447441:UInt32),(3049323471:UInt32),(3921009573:UInt32),(961987163:UInt32),(1508970993:UInt32),(2453635748:UInt32),(2870763221:UInt32),(3624381080:UInt32),(310598401:UInt32),(607225278:UInt32),(1426881987:UInt32),(1925078388:UInt32),(2162078206:UInt32),(2614888103:UInt32),(3248222580:UInt32),(3835390401:UInt32),(4022224774:UInt32),(264347078:UInt32),(604807628:UInt32),(770255983:UInt32),(1249150122:UInt32),(1555081692:UInt32),(1996064986:UInt32),(2554220882:UInt32),(2821834349:UInt32),(2952996808:UInt32),(3210313671:UInt32),(3336571891:UInt32),(3584528711:UInt32),(113926993:UInt32),(338241895:UInt32),(666307205:UInt32),(773529912:UInt32),(1294757372:UInt32),(1396182291:UInt32),(1695183700:UInt32),(1986661051:UInt32),(2177026350:UInt32),(2456956037:UInt32),(2730485921:UInt32),(2820302411:UInt32),(3259730800:UInt32),(3345764771:UInt32),(3516065817:UInt32),(3600352804:UInt32),(4094571909:UInt32),(275423344:UInt32),(430227734:UInt32),(506948616:UInt32),(659060556:UInt32),(883997877:UInt32),(958139571:UInt32),(1322822218:UInt32),(1537002063:UInt32),(1747873779:UInt32),(1955562222:UInt32),(2024104815:UInt32),(2227730452:UInt32),(2361852424:UInt32),(2428436474:UInt32),(2756734187:UInt32),(3204031479:UInt32),(3329325298:UInt32)] (0:UInt32))
theorem e190:f190=t190:=by kernel_rfl
noncomputable def t169(y191:T191)(x0:Vector UInt32 8×Vector UInt32 64×List UInt8×Int×Unit)(x1:List UInt8):Option (Int×Vector UInt32 8×Vector UInt32 64×List UInt8×Int×Unit):=(fits? x0.2.2.1).bind fun(ys:List UInt8)=>(app? ys x1).bind fun(zs:List UInt8)=>(iter (fun(x:List UInt8×Vector UInt32 8×Vector UInt32 64×List UInt8×Int×Unit)=>bif decide ((64:Int)<=(↑x.1.length:Int))then(cut? x.1 (0:Int) (64:Int)).bind fun(r:List UInt8)=>(y191 x.2.1 x.2.2.1 r).bind fun(r:Vector UInt32 8)=>(cut? x.1 (64:Int) (↑x.1.length:Int)).bind fun(r_1:List UInt8)=>some (Sum.inl (r_1,r,x.2.2))else some (Sum.inr (x.1,x.2))) (zs,x0.1,x0.2.1,x0.2.2.1,addI x0.2.2.2.1 (↑x1.length:Int),x0.2.2.2.2)).bind fun(y:List UInt8×Vector UInt32 8×Vector UInt32 64×List UInt8×Int×Unit)=>some (y.2.2.2.2.1,y.2.1,y.2.2.1,y.1,y.2.2.2.2)
noncomputable def K169(y191:T191):Ctx:=mkC tys cells maps [(i191,⟨P191,R191,fun x=>y191 x.1 x.2.1 x.2.2.1⟩)] [] []
theorem a169(y191:T191)(x0:Vector UInt32 8×Vector UInt32 64×List UInt8×Int×Unit)(x1:List UInt8):evF (K169 y191) F169 h169 P169 R169 (x0,x1,())=t169 y191 x0 x1:=by kernel_rfl
theorem e169(x0:Vector UInt32 8×Vector UInt32 64×List UInt8×Int×Unit)(x1:List UInt8):f169 x0 x1=t169 f191 x0 x1:=Eq.trans (b:=evF (K169 f191) F169 h169 P169 R169 (x0,x1,())) (by kernel_rfl) (a169 f191 x0 x1)
noncomputable def t90(y54:T54)(y125:T125)(x0:List UInt8)(x1:List (List UInt8)):Option (Vector UInt8 32):=(y54 x0 x1).bind fun(r:List UInt8)=>(y125 r).bind fun(r:Vector UInt8 32)=>some r
noncomputable def K90(y54:T54)(y125:T125):Ctx:=mkC tys cells maps [(i54,⟨P54,R54,fun x=>y54 x.1 x.2.1⟩),(i125,⟨P125,R125,fun x=>y125 x.1⟩)] [] []
theorem a90(y54:T54)(y125:T125)(x0:List UInt8)(x1:List (List UInt8)):evF (K90 y54 y125) F90 h90 P90 R90 (x0,x1,())=t90 y54 y125 x0 x1:=by kernel_rfl
theorem e90(x0:List UInt8)(x1:List (List UInt8)):f90 x0 x1=t90 f54 f125 x0 x1:=Eq.trans (b:=evF (K90 f54 f125) F90 h90 P90 R90 (x0,x1,())) (by kernel_rfl) (a90 f54 f125 x0 x1)
end Mx
end
section
open Go Go.Proofs Ev Sx
namespace Mx
noncomputable def t6(x0 x1:Int):Option Int:=bif decide (x1<(1:Int))then some (0:Int)else(remI x0 x1).bind fun(c:Int)=>(bif decide (c<(0:Int))then some (addI c x1)else some c).bind fun(x:Int)=>some x
theorem e6(x0 x1:Int):f6 x0 x1=t6 x0 x1:=by kernel_rfl
noncomputable def t63(y64:T64)(x0:List (List UInt8)):Option (List UInt8):=(iter (fun(x:List UInt8×Int)=>bif decide (x.2<(↑x0.length:Int))then(at? x0 x.2).bind fun(y:List UInt8)=>(y64 y).bind fun(r:List UInt8)=>(app? x.1 r).bind fun(zs:List UInt8)=>some (Sum.inl (zs,addI x.2 (1:Int)))else some (Sum.inr x.1)) ([],(0:Int))).bind fun(y:List UInt8)=>some y
noncomputable def K63(y64:T64):Ctx:=mkC tys cells maps [(i64,⟨P64,R64,fun x=>y64 x.1⟩)] [] []
theorem a63(y64:T64)(x0:List (List UInt8)):evF (K63 y64) F63 h63 P63 R63 (x0,())=t63 y64 x0:=by kernel_rfl
theorem e63(x0:List (List UInt8)):f63 x0=t63 f64 x0:=Eq.trans (b:=evF (K63 f64) F63 h63 P63 R63 (x0,())) (by kernel_rfl) (a63 f64 x0)
noncomputable def t118:Option (Vector UInt32 64):=some (vecOf 64 [(1116352408:UInt32),(1899447441:UInt32),(3049323471:UInt32),(3921009573:UInt32),(961987163:UInt32),(1508970993:UInt32),(2453635748:UInt32),(2870763221:UInt32),(3624381080:UInt32),(310598401:UInt32),(607225278:UInt32),(1426881987:UInt32),(1925078388:UInt32),(2162078206:UInt32),(2614888103:UInt32),(3248222580:UInt32),(3835390401:UInt32),(4022224774:UInt32),(264347078:UInt32),(604807628:UInt32),(770255983:UInt32),(1249150122:UInt32),(1555081692:UInt32),(1996064986:UInt32),(2554220882:UInt32),(2821834349:UInt32),(2952996808:UInt32),(3210313671:UInt32),(3336571891:UInt32),(3584528711:UInt32),(113926993:UInt32),(338241895:UInt32),(666307205:UInt32),(773529912:UInt32),(1294757372:UInt32),(1396182291:UInt32),(1695183700:UInt32),(1986661051:UInt32),(2177026350:UInt32),(2456956037:UInt32),(2730485921:UInt32),(2820302411:UInt32),(3259730800:UInt32),(3345764771:UInt32),(3516065817:UInt32),(3600352804:UInt32),(4094571909:UInt32),(275423344:UInt32),(430227734:UInt32),(506948616:UInt32),(659060556:UInt32),(883997877:UInt32),(958139571:UInt32),(1322822218:UInt32),(1537002063:UInt32),(1747873779:UInt32),(1955562222:UInt32),(2024104815:UInt32),(2227730452:UInt32),(2361852424:UInt32),(2428436474:UInt32),(2756734187:UInt32),(3204031479:UInt32),(3329325298:UInt32)] (0:UInt32))
theorem e118:f118=t118:=by kernel_rfl
noncomputable def t60(y98:T98)(x0:Vector UInt8 16)(x1:Vector UInt8 256):Option (Vector (Vector UInt8 16) 11):=(iter (fun(x:UInt8×Int×Vector (Vector UInt8 16) 11)=>bif decide (x.2.1<(11:Int))then if(0:Int)<=subI x.2.1 (1:Int)∧subI x.2.1 (1:Int)<(11:Int)then if(0:Int)<=(↑((x.2.2[(subI x.2.1 (1:Int)).toNat]?.getD (Vector.replicate 16 (0:UInt8)))[(13:Nat)]?.getD (0:UInt8)).toNat:Int)∧(↑((x.2.2[(subI x.2.1 (1:Int)).toNat]?.getD (Vector.replicate 16 (0:UInt8)))[(13:Nat)]?.getD (0:UInt8)).toNat:Int)<(256:Int)then if(0:Int)<=(↑((x.2.2[(subI x.2.1 (1:Int)).toNat]?.getD (Vector.replicate 16 (0:UInt8)))[(14:Nat)]?.getD (0:UInt8)).toNat:Int)∧(↑((x.2.2[(subI x.2.1 (1:Int)).toNat]?.getD (Vector.replicate 16 (0:UInt8)))[(14:Nat)]?.getD (0:UInt8)).toNat:Int)<(256:Int)then if(0:Int)<=(↑((x.2.2[(subI x.2.1 (1:Int)).toNat]?.getD (Vector.replicate 16 (0:UInt8)))[(15:Nat)]?.getD (0:UInt8)).toNat:Int)∧(↑((x.2.2[(subI x.2.1 (1:Int)).toNat]?.getD (Vector.replicate 16 (0:UInt8)))[(15:Nat)]?.getD (0:UInt8)).toNat:Int)<(256:Int)then if(0:Int)<=(↑((x.2.2[(subI x.2.1 (1:Int)).toNat]?.getD (Vector.replicate 16 (0:UInt8)))[(12:Nat)]?.getD (0:UInt8)).toNat:Int)∧(↑((x.2.2[(subI x.2.1 (1:Int)).toNat]?.getD (Vector.replicate 16 (0:UInt8)))[(12:Nat)]?.getD (0:UInt8)).toNat:Int)<(256:Int)then(iter (fun(x_1:Int×Vector (Vector UInt8 16) 11)=>bif decide (x_1.1<(16:Int))then(bif decide (x_1.1<(4:Int))then if(0:Int)<=x_1.1∧x_1.1<(16:Int)then if(0:Int)<=x_1.1∧x_1.1<(4:Int)then if(0:Int)<=x.2.1∧x.2.1<(11:Int)then if(0:Int)<=x_1.1∧x_1.1<(16:Int)then some (x_1.2.setIfInBounds x.2.1.toNat ((x_1.2[x.2.1.toNat]?.getD (Vector.replicate 16 (0:UInt8))).setIfInBounds x_1.1.toNat ((x.2.2[(subI x.2.1 (1:Int)).toNat]?.getD (Vector.replicate 16 (0:UInt8)))[x_1.1.toNat]?.getD (0:UInt8)^^^(vecOf 4 [x1[(↑((x.2.2[(subI x.2.1 (1:Int)).toNat]?.getD (Vector.replicate 16 (0:UInt8)))[(13:Nat)]?.getD (0:UInt8)).toNat:Int).toNat]?.getD (0:UInt8)^^^x.1,x1[(↑((x.2.2[(subI x.2.1 (1:Int)).toNat]?.getD (Vector.replicate 16 (0:UInt8)))[(14:Nat)]?.getD (0:UInt8)).toNat:Int).toNat]?.getD (0:UInt8),x1[(↑((x.2.2[(subI x.2.1 (1:Int)).toNat]?.getD (Vector.replicate 16 (0:UInt8)))[(15:Nat)]?.getD (0:UInt8)).toNat:Int).toNat]?.getD (0:UInt8),x1[(↑((x.2.2[(subI x.2.1 (1:Int)).toNat]?.getD (Vector.replicate 16 (0:UInt8)))[(12:Nat)]?.getD (0:UInt8)).toNat:Int).toNat]?.getD (0:UInt8)] (0:UInt8))[x_1.1.toNat]?.getD (0:UInt8))))else none else none else none else none else if(0:Int)<=x_1.1∧x_1.1<(16:Int)then if(0:Int)<=x.2.1∧x.2.1<(11:Int)then if(0:Int)<=subI x_1.1 (4:Int)∧subI x_1.1 (4:Int)<(16:Int)then if(0:Int)<=x.2.1∧x.2.1<(11:Int)then if(0:Int)<=x_1.1∧x_1.1<(16:Int)then some (x_1.2.setIfInBounds x.2.1.toNat ((x_1.2[x.2.1.toNat]?.getD (Vector.replicate 16 (0:UInt8))).setIfInBounds x_1.1.toNat ((x.2.2[(subI x.2.1 (1:Int)).toNat]?.getD (Vector.replicate 16 (0:UInt8)))[x_1.1.toNat]?.getD (0:UInt8)^^^(x_1.2[x.2.1.toNat]?.getD (Vector.replicate 16 (0:UInt8)))[(subI x_1.1 (4:Int)).toNat]?.getD (0:UInt8))))else none else none else none else none else none).bind fun(x:Vector (Vector UInt8 16) 11)=>some (Sum.inl (addI x_1.1 (1:Int),x))else some (Sum.inr x_1.2)) ((0:Int),x.2.2)).bind fun(y:Vector (Vector UInt8 16) 11)=>(y98 x.1).bind fun(r:UInt8)=>some (Sum.inl (r,addI x.2.1 (1:Int),y))else none else none else none else none else none else some (Sum.inr x.2.2)) ((1:UInt8),(1:Int),(Vector.replicate 11 (Vector.replicate 16 (0:UInt8))).setIfInBounds (0:Nat) x0)).bind fun(y:Vector (Vector UInt8 16) 11)=>some y
noncomputable def K60(y98:T98):Ctx:=mkC tys cells maps [(i98,⟨P98,R98,fun x=>y98 x.1⟩)] [] []
theorem a60(y98:T98)(x0:Vector UInt8 16)(x1:Vector UInt8 256):evF (K60 y98) F60 h60 P60 R60 (x0,x1,())=t60 y98 x0 x1:=by kernel_rfl
theorem e60(x0:Vector UInt8 16)(x1:Vector UInt8 256):f60 x0 x1=t60 f98 x0 x1:=Eq.trans (b:=evF (K60 f98) F60 h60 P60 R60 (x0,x1,())) (by kernel_rfl) (a60 f98 x0 x1)
noncomputable def t23(y59:T59)(y60:T60)(y61:T61)(x0:Vector UInt8 16)(x1:Int)(x2:List UInt8):Option (List UInt8):=(y59).bind fun(r:Vector UInt8 256)=>(y60 x0 r).bind fun(r_1:Vector (Vector UInt8 16) 11)=>(zeros? (↑x2.length:Int) (0:UInt8)).bind fun(r_2:List UInt8)=>(iter (fun(x:Int×Int×List UInt8×Vector UInt8 16)=>bif decide (x.2.1<(↑x2.length:Int))then(at? x2 x.2.1).bind fun(y:UInt8)=>(quoI (addI (maxI (0:Int) (minI x1 (1073741824:Int))) x.2.1) (16:Int)).bind fun(c:Int)=>(bif decide (c≠x.1)then(iter (fun(x:Int×Int×Vector UInt8 16)=>bif decide ((0:Int)<=x.1)then if(0:Int)<=x.1∧x.1<(16:Int)then some (Sum.inl (subI x.1 (1:Int),shrI x.2.1 8,x.2.2.setIfInBounds x.1.toNat (UInt8.ofInt x.2.1)))else none else some (Sum.inr x.2.2)) ((15:Int),c,Vector.replicate 16 (0:UInt8))).bind fun(y:Vector UInt8 16)=>(y61 r_1 r y).bind fun(r:Vector UInt8 16)=>some (c,r)else some (x.1,x.2.2.2)).bind fun(x_1:Int×Vector UInt8 16)=>(remI (addI (maxI (0:Int) (minI x1 (1073741824:Int))) x.2.1) (16:Int)).bind fun(c:Int)=>if(0:Int)<=c∧c<(16:Int)then if(0:Int)<=x.2.1∧x.2.1<(↑x.2.2.1.length:Int)then some (Sum.inl (x_1.1,addI x.2.1 (1:Int),x.2.2.1.set x.2.1.toNat (y^^^x_1.2[c.toNat]?.getD (0:UInt8)),x_1.2))else none else none else some (Sum.inr (x.2.2.1,x.2.2.2))) ((-1:Int),(0:Int),r_2,Vector.replicate 16 (0:UInt8))).bind fun(y:List UInt8×Vector UInt8 16)=>some y.1
noncomputable def K23(y59:T59)(y60:T60)(y61:T61):Ctx:=mkC tys cells maps [(i59,⟨P59,R59,fun _=>y59⟩),(i60,⟨P60,R60,fun x=>y60 x.1 x.2.1⟩),(i61,⟨P61,R61,fun x=>y61 x.1 x.2.1 x.2.2.1⟩)] [] []
theorem a23(y59:T59)(y60:T60)(y61:T61)(x0:Vector UInt8 16)(x1:Int)(x2:List UInt8):evF (K23 y59 y60 y61) F23 h23 P23 R23 (x0,x1,x2,())=t23 y59 y60 y61 x0 x1 x2:=by kernel_rfl
theorem e23(x0:Vector UInt8 16)(x1:Int)(x2:List UInt8):f23 x0 x1 x2=t23 f59 f60 f61 x0 x1 x2:=Eq.trans (b:=evF (K23 f59 f60 f61) F23 h23 P23 R23 (x0,x1,x2,())) (by kernel_rfl) (a23 f59 f60 f61 x0 x1 x2)
noncomputable def t88(y95:T95)(x0:List (List UInt8)):Option (List UInt8):=(iter (fun(x:List UInt8×Int)=>bif decide (x.2<(↑x0.length:Int))then(at? x0 x.2).bind fun(y:List UInt8)=>(y95 y).bind fun(r:List UInt8)=>(app? x.1 r).bind fun(zs:List UInt8)=>some (Sum.inl (zs,addI x.2 (1:Int)))else some (Sum.inr x.1)) ([],(0:Int))).bind fun(y:List UInt8)=>some y
noncomputable def K88(y95:T95):Ctx:=mkC tys cells maps [(i95,⟨P95,R95,fun x=>y95 x.1⟩)] [] []
theorem a88(y95:T95)(x0:List (List UInt8)):evF (K88 y95) F88 h88 P88 R88 (x0,())=t88 y95 x0:=by kernel_rfl
theorem e88(x0:List (List UInt8)):f88 x0=t88 f95 x0:=Eq.trans (b:=evF (K88 f95) F88 h88 P88 R88 (x0,())) (by kernel_rfl) (a88 f95 x0)
noncomputable def t168(y189:T189)(y190:T190):Option (Vector UInt32 8×Vector UInt32 64×List UInt8×Int×Unit):=(y189).bind fun(r:Vector UInt32 8)=>(y190).bind fun(r_1:Vector UInt32 64)=>some (r,r_1,[],(0:Int),())
noncomputable def K168(y189:T189)(y190:T190):Ctx:=mkC tys cells maps [(i189,⟨P189,R189,fun _=>y189⟩),(i190,⟨P190,R190,fun _=>y190⟩)] [] []
theorem a168(y189:T189)(y190:T190):evF (K168 y189 y190) F168 h168 P168 R168 ()=t168 y189 y190:=by kernel_rfl
theorem e168:f168=t168 f189 f190:=Eq.trans (b:=evF (K168 f189 f190) F168 h168 P168 R168 ()) (by kernel_rfl) (a168 f189 f190)
noncomputable def t89(x0 x1:Int):Option (List UInt8):=(zeros? (maxI (0:Int) (minI x1 (8:Int))) (0:UInt8)).bind fun(r:List UInt8)=>(iter (fun(x:UInt64×Int×List UInt8)=>bif decide ((0:Int)<=x.2.1)then if(0:Int)<=x.2.1∧x.2.1<(↑x.2.2.length:Int)then some (Sum.inl (shr64 x.1 8,subI x.2.1 (1:Int),x.2.2.set x.2.1.toNat (UInt8.ofInt (↑x.1.toNat:Int))))else none else some (Sum.inr x.2.2)) (UInt64.ofInt (maxI (0:Int) x0),subI (↑r.length:Int) (1:Int),r)).bind fun(y:List UInt8)=>some y
theorem e89(x0 x1:Int):f89 x0 x1=t89 x0 x1:=by kernel_rfl
end Mx
end
section
open Go Go.Proofs Ev Sx
namespace Mx
noncomputable def t119(x0:UInt32)(x1:UInt64):Option UInt32:=some (shr32 x0 x1.toNat|||shl32 x0 ((32:UInt64)-x1).toNat)
theorem e119(x0:UInt32)(x1:UInt64):f119 x0 x1=t119 x0 x1:=by kernel_rfl
noncomputable def t100(x0 x1:Vector UInt8 16):Option (Vector UInt8 16):=(iter (fun(x:Int×Vector UInt8 16)=>bif decide (x.1<(16:Int))then if(0:Int)<=x.1∧x.1<(16:Int)then if(0:Int)<=x.1∧x.1<(16:Int)then if(0:Int)<=x.1∧x.1<(16:Int)then some (Sum.inl (addI x.1 (1:Int),x.2.setIfInBounds x.1.toNat (x.2[x.1.toNat]?.getD (0:UInt8)^^^x1[x.1.toNat]?.getD (0:UInt8))))else none else none else none else some (Sum.inr x.2)) ((0:Int),x0)).bind fun(y:Vector UInt8 16)=>some y
theorem e100(x0 x1:Vector UInt8 16):f100 x0 x1=t100 x0 x1:=by kernel_rfl
noncomputable def t54(y88:T88)(y95:T95)(x0:List UInt8)(x1:List (List UInt8)):Option (List UInt8):=(fits? x0).bind fun(l:List UInt8)=>(y95 l).bind fun(r:List UInt8)=>(y88 x1).bind fun(r_1:List UInt8)=>(app? r r_1).bind fun(zs:List UInt8)=>some zs
noncomputable def K54(y88:T88)(y95:T95):Ctx:=mkC tys cells maps [(i88,⟨P88,R88,fun x=>y88 x.1⟩),(i95,⟨P95,R95,fun x=>y95 x.1⟩)] [] []
theorem a54(y88:T88)(y95:T95)(x0:List UInt8)(x1:List (List UInt8)):evF (K54 y88 y95) F54 h54 P54 R54 (x0,x1,())=t54 y88 y95 x0 x1:=by kernel_rfl
theorem e54(x0:List UInt8)(x1:List (List UInt8)):f54 x0 x1=t54 f88 f95 x0 x1:=Eq.trans (b:=evF (K54 f88 f95) F54 h54 P54 R54 (x0,x1,())) (by kernel_rfl) (a54 f88 f95 x0 x1)
noncomputable def t204(x0:UInt32)(x1:Int):Option UInt32:=some (shl32 x0 (UInt64.ofInt x1&&&(31:UInt64)).toNat|||shr32 x0 ((32:UInt64)-(UInt64.ofInt x1&&&(31:UInt64))).toNat)
theorem e204(x0:UInt32)(x1:Int):f204 x0 x1=t204 x0 x1:=by kernel_rfl
noncomputable def t170(y89:T89)(y191:T191)(x0:Vector UInt32 8×Vector UInt32 64×List UInt8×Int×Unit):Option (Vector UInt8 32):=(fits? x0.2.2.1).bind fun(ys:List UInt8)=>(app? ys [(128:UInt8)]).bind fun(zs:List UInt8)=>(iter (fun(x:List UInt8)=>(remI (↑x.length:Int) (64:Int)).bind fun(c:Int)=>bif decide (c≠(56:Int))then(app? x [(0:UInt8)]).bind fun(zs:List UInt8)=>some (Sum.inl zs)else some (Sum.inr x)) zs).bind fun(y:List UInt8)=>(y89 (mulI (8:Int) x0.2.2.2.1) (8:Int)).bind fun(r:List UInt8)=>(app? y r).bind fun(zs:List UInt8)=>(iter (fun(x:List UInt8×Vector UInt32 8)=>bif decide ((0:Int)<(↑x.1.length:Int))then(cut? x.1 (0:Int) (64:Int)).bind fun(r:List UInt8)=>(y191 x.2 x0.2.1 r).bind fun(r:Vector UInt32 8)=>(cut? x.1 (64:Int) (↑x.1.length:Int)).bind fun(r_1:List UInt8)=>some (Sum.inl (r_1,r))else some (Sum.inr x.2)) (zs,x0.1)).bind fun(y:Vector UInt32 8)=>(iter (fun(x:Int×Vector UInt8 32)=>bif decide (x.1<(8:Int))then(at? y.toList x.1).bind fun(y:UInt32)=>if(0:Int)<=mulI (4:Int) x.1∧mulI (4:Int) x.1<=(32:Int)∧(32:Int)<=(32:Int)then(y89 (w64 (↑y.toNat:Int)) (4:Int)).bind fun(r:List UInt8)=>some (Sum.inl (addI x.1 (1:Int),vput x.2 (mulI (4:Int) x.1).toNat (List.take (32-(mulI (4:Int) x.1).toNat) r)))else none else some (Sum.inr x.2)) ((0:Int),Vector.replicate 32 (0:UInt8))).bind fun(y:Vector UInt8 32)=>some y
noncomputable def K170(y89:T89)(y191:T191):Ctx:=mkC tys cells maps [(i89,⟨P89,R89,fun x=>y89 x.1 x.2.1⟩),(i191,⟨P191,R191,fun x=>y191 x.1 x.2.1 x.2.2.1⟩)] [] []
theorem a170(y89:T89)(y191:T191)(x0:Vector UInt32 8×Vector UInt32 64×List UInt8×Int×Unit):evF (K170 y89 y191) F170 h170 P170 R170 (x0,())=t170 y89 y191 x0:=by kernel_rfl
theorem e170(x0:Vector UInt32 8×Vector UInt32 64×List UInt8×Int×Unit):f170 x0=t170 f89 f191 x0:=Eq.trans (b:=evF (K170 f89 f191) F170 h170 P170 R170 (x0,())) (by kernel_rfl) (a170 f89 f191 x0)
noncomputable def t51(y92:T92)(x0:List UInt8)(x1:Int):Option (List (List UInt8)×Bool):=bif decide (x1<(0:Int))then some ([],false)else(iter (fun(x:List UInt8×List (List UInt8)×Int)=>bif decide (x.2.2<x1)then(y92 x.1).bind fun(r:List UInt8×List UInt8×Bool)=>bif !r.2.2 then some (Sum.inr (Sum.inr ([],false)))else(app? x.2.1 [r.1]).bind fun(zs:List (List UInt8))=>some (Sum.inl (r.2.1,zs,addI x.2.2 (1:Int)))else some (Sum.inr (Sum.inl (x.1,x.2.1)))) (x0,[],(0:Int))).bind fun(y:List UInt8×List (List UInt8) ⊕ List (List UInt8)×Bool)=>sumE y (fun(x:List UInt8×List (List UInt8))=>bif decide ((0:Int)<(↑x.1.length:Int))then some ([],false)else some (x.2,true)) fun(x:List (List UInt8)×Bool)=>some (x.1,x.2)
noncomputable def K51(y92:T92):Ctx:=mkC tys cells maps [(i92,⟨P92,R92,fun x=>y92 x.1⟩)] [] []
theorem a51(y92:T92)(x0:List UInt8)(x1:Int):evF (K51 y92) F51 h51 P51 R51 (x0,x1,())=t51 y92 x0 x1:=by kernel_rfl
end Mx
end
