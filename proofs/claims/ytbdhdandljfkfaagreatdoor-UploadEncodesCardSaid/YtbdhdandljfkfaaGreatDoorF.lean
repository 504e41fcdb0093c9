/- The functional readings of the functions as plain Lean terms, first part. No conditions. -/
import Derived.Test.YtbdhdandljfkfaaGreatDoorE
import Derived.KernelRfl
set_option linter.unusedVariables false
set_option linter.unusedSimpArgs false
set_option linter.unusedSectionVars false
set_option maxRecDepth 100000
section
open Go Go.Proofs Ev
namespace Mx
abbrev T5:Type:= ∀(x0:List UInt8) (x1:Int),Option (List UInt8)
noncomputable def f5(x0:List UInt8)(x1:Int):Option (List UInt8):=Sx.r5 (x0,x1,())
abbrev T15:Type:= ∀(x0 x1 x2:Int),Option Bool
noncomputable def f15(x0 x1 x2:Int):Option Bool:=Sx.r15 (x0,x1,x2,())
abbrev T42:Type:= ∀(x0 x1:Int),Option (List UInt8)
noncomputable def f42(x0 x1:Int):Option (List UInt8):=Sx.r42 (x0,x1,())
abbrev T64:Type:= ∀(x0:List UInt8),Option (List UInt8)
noncomputable def f64(x0:List UInt8):Option (List UInt8):=Sx.r64 (x0,())
abbrev T63:Type:= ∀(x0:List (List UInt8)),Option (List UInt8)
noncomputable def f63(x0:List (List UInt8)):Option (List UInt8):=Sx.r63 (x0,())
abbrev T27:Type:= ∀(x0:Int×Int×Int×Int×Vector UInt8 32×Vector UInt8 32×Unit),Option (List UInt8)
noncomputable def f27(x0:Int×Int×Int×Int×Vector UInt8 32×Vector UInt8 32×Unit):Option (List UInt8):=Sx.r27 (x0,())
abbrev T30:Type:= ∀(x0:List UInt8),Option (List (List UInt8))
noncomputable def f30(x0:List UInt8):Option (List (List UInt8)):=Sx.r30 (x0,())
abbrev T29:Type:= ∀(x0:List UInt8) (x1:List (List UInt8)),Option (List UInt8)
noncomputable def f29(x0:List UInt8)(x1:List (List UInt8)):Option (List UInt8):=Sx.r29 (x0,x1,())
abbrev T118:Type:=Option (Vector UInt32 64)
noncomputable def f118:Option (Vector UInt32 64):=Sx.r118 ()
abbrev T119:Type:= ∀(x0:UInt32) (x1:UInt64),Option UInt32
noncomputable def f119(x0:UInt32)(x1:UInt64):Option UInt32:=Sx.r119 (x0,x1,())
abbrev T44:Type:= ∀(x0:List UInt8) (x1:List (List UInt8)),Option (Vector UInt8 32)
noncomputable def f44(x0:List UInt8)(x1:List (List UInt8)):Option (Vector UInt8 32):=Sx.r44 (x0,x1,())
abbrev T31:Type:= ∀(x0:List UInt8),Option (Vector UInt8 32)
noncomputable def f31(x0:List UInt8):Option (Vector UInt8 32):=Sx.r31 (x0,())
abbrev T70:Type:= ∀(x0:List (List UInt8)),Option (List (Vector UInt8 32))
noncomputable def f70(x0:List (List UInt8)):Option (List (Vector UInt8 32)):=Sx.r70 (x0,())
abbrev T33:Type:= ∀(x0:List (List UInt8)),Option (List (Vector UInt8 32))
noncomputable def f33(x0:List (List UInt8)):Option (List (Vector UInt8 32)):=Sx.r33 (x0,())
abbrev T103:Type:= ∀(x0:Int),Option Int
noncomputable def f103(x0:Int):Option Int:=Sx.r103 (x0,())
abbrev T66:Type:= ∀(x0:List (Vector UInt8 32)),Option (List (Vector UInt8 32))
noncomputable def f66(x0:List (Vector UInt8 32)):Option (List (Vector UInt8 32)):=Sx.r66 (x0,())
abbrev T68:Type:= ∀(x0 x1:Vector UInt8 32),Option (List UInt8)
noncomputable def f68(x0 x1:Vector UInt8 32):Option (List UInt8):=Sx.r68 (x0,x1,())
abbrev T104:Type:= ∀(x0 x1:Vector UInt8 32),Option (Vector UInt8 32)
noncomputable def f104(x0 x1:Vector UInt8 32):Option (Vector UInt8 32):=Sx.r104 (x0,x1,())
abbrev T67:Type:= ∀(x0:List (Vector UInt8 32)),Option (List (Vector UInt8 32))
noncomputable def f67(x0:List (Vector UInt8 32)):Option (List (Vector UInt8 32)):=Sx.r67 (x0,())
abbrev T38:Type:= ∀(x0:List (Vector UInt8 32)),Option (Vector UInt8 32)
noncomputable def f38(x0:List (Vector UInt8 32)):Option (Vector UInt8 32):=Sx.r38 (x0,())
abbrev T28:Type:= ∀(x0:List UInt8),Option (Vector UInt8 32)
noncomputable def f28(x0:List UInt8):Option (Vector UInt8 32):=Sx.r28 (x0,())
abbrev T78:Type:= ∀(x0:List UInt8) (x1:Int),Option (List UInt8)
noncomputable def f78(x0:List UInt8)(x1:Int):Option (List UInt8):=Sx.r78 (x0,x1,())
abbrev T80:Type:= ∀(x0 x1:UInt8),Option UInt8
noncomputable def f80(x0 x1:UInt8):Option UInt8:=Sx.r80 (x0,x1,())
abbrev T36:Type:= ∀(x0:List UInt8) (x1 x2:Int),Option (List (List UInt8))
noncomputable def f36(x0:List UInt8)(x1 x2:Int):Option (List (List UInt8)):=Sx.r36 (x0,x1,x2,())
abbrev T37:Type:= ∀(x0:Int×List UInt8×List (Vector UInt8 32)×List (List UInt8)×Unit),Option (Vector UInt8 32)
noncomputable def f37(x0:Int×List UInt8×List (Vector UInt8 32)×List (List UInt8)×Unit):Option (Vector UInt8 32):=Sx.r37 (x0,())
abbrev T39:Type:= ∀(x0:Int) (x1:List (Vector UInt8 32)),Option (List (Vector UInt8 32))
noncomputable def f39(x0:Int)(x1:List (Vector UInt8 32)):Option (List (Vector UInt8 32)):=Sx.r39 (x0,x1,())
abbrev T41:Type:= ∀(x0:Vector UInt8 256) (x1:Vector UInt8 16),Option (Vector (Vector UInt8 16) 11)
noncomputable def f41(x0:Vector UInt8 256)(x1:Vector UInt8 16):Option (Vector (Vector UInt8 16) 11):=Sx.r41 (x0,x1,())
abbrev T43:Type:= ∀(x0:Vector UInt8 256) (x1:Vector (Vector UInt8 16) 11) (x2:Vector UInt8 16),Option (Vector UInt8 16)
noncomputable def f43(x0:Vector UInt8 256)(x1:Vector (Vector UInt8 16) 11)(x2:Vector UInt8 16):Option (Vector UInt8 16):=Sx.r43 (x0,x1,x2,())
abbrev T17:Type:= ∀(x0:Vector UInt8 16) (x1:Int) (x2:List UInt8),Option (List UInt8)
noncomputable def f17(x0:Vector UInt8 16)(x1:Int)(x2:List UInt8):Option (List UInt8):=Sx.r17 (x0,x1,x2,())
abbrev T18:Type:= ∀(x0:List UInt8),Option (Vector UInt8 32)
noncomputable def f18(x0:List UInt8):Option (Vector UInt8 32):=Sx.r18 (x0,())
abbrev T7:Type:= ∀(x0:Vector UInt8 16) (x1:List UInt8) (x2 x3:Int),Option ((Int×Vector UInt8 16×Vector UInt8 32×Int×Int×Int×List UInt8×Unit)×List (Int×List UInt8×List (Vector UInt8 32)×List (List UInt8)×Unit)×Int)
noncomputable def f7(x0:Vector UInt8 16)(x1:List UInt8)(x2 x3:Int):Option ((Int×Vector UInt8 16×Vector UInt8 32×Int×Int×Int×List UInt8×Unit)×List (Int×List UInt8×List (Vector UInt8 32)×List (List UInt8)×Unit)×Int):=Sx.r7 (x0,x1,x2,x3,())
abbrev T60:Type:= ∀(x0:Vector UInt8 16) (x1:Vector UInt8 256),Option (Vector (Vector UInt8 16) 11)
noncomputable def f60(x0:Vector UInt8 16)(x1:Vector UInt8 256):Option (Vector (Vector UInt8 16) 11):=Sx.r60 (x0,x1,())
abbrev T100:Type:= ∀(x0 x1:Vector UInt8 16),Option (Vector UInt8 16)
noncomputable def f100(x0 x1:Vector UInt8 16):Option (Vector UInt8 16):=Sx.r100 (x0,x1,())
abbrev T101:Type:= ∀(x0:Vector UInt8 16),Option (Vector UInt8 16)
noncomputable def f101(x0:Vector UInt8 16):Option (Vector UInt8 16):=Sx.r101 (x0,())
abbrev T61:Type:= ∀(x0:Vector (Vector UInt8 16) 11) (x1:Vector UInt8 256) (x2:Vector UInt8 16),Option (Vector UInt8 16)
noncomputable def f61(x0:Vector (Vector UInt8 16) 11)(x1:Vector UInt8 256)(x2:Vector UInt8 16):Option (Vector UInt8 16):=Sx.r61 (x0,x1,x2,())
abbrev T23:Type:= ∀(x0:Vector UInt8 16) (x1:Int) (x2:List UInt8),Option (List UInt8)
noncomputable def f23(x0:Vector UInt8 16)(x1:Int)(x2:List UInt8):Option (List UInt8):=Sx.r23 (x0,x1,x2,())
abbrev T45:Type:= ∀(x0:List UInt8) (x1 x2:Int),Option Bool
noncomputable def f45(x0:List UInt8)(x1 x2:Int):Option Bool:=Sx.r45 (x0,x1,x2,())
abbrev T55:Type:= ∀(x0:List UInt8),Option (List (List UInt8))
noncomputable def f55(x0:List UInt8):Option (List (List UInt8)):=Sx.r55 (x0,())
noncomputable def f185(x0:UInt8):Option UInt8:=Sx.r185 (x0,())
abbrev T161:Type:= ∀(x0:Vector UInt8 510×Vector Int 256×Unit) (x1 x2:UInt8),Option UInt8
noncomputable def f161(x0:Vector UInt8 510×Vector Int 256×Unit)(x1 x2:UInt8):Option UInt8:=Sx.r161 (x0,x1,x2,())
abbrev T187:Type:= ∀(x0 x1:UInt8),Option UInt8
noncomputable def f187(x0 x1:UInt8):Option UInt8:=Sx.r187 (x0,x1,())
abbrev T188:Type:= ∀(x0:UInt8×UInt8->Option UInt8) (x1 x2:List UInt8),Option UInt8
noncomputable def f188(x0:UInt8×UInt8->Option UInt8)(x1 x2:List UInt8):Option UInt8:=Sx.r188 (x0,x1,x2,())
abbrev T164:Type:= ∀(x0:Vector UInt8 510×Vector Int 256×Unit) (x1 x2:List UInt8),Option UInt8
noncomputable def f164(x0:Vector UInt8 510×Vector Int 256×Unit)(x1 x2:List UInt8):Option UInt8:=Sx.r164 (x0,x1,x2,())
abbrev T123:Type:= ∀(x0:List UInt8) (x1:Int),Option (List UInt8)
noncomputable def f123(x0:List UInt8)(x1:Int):Option (List UInt8):=Sx.r123 (x0,x1,())
abbrev T167:Type:= ∀(x0:List (List UInt8)) (x1:Int),Option (List UInt8)
noncomputable def f167(x0:List (List UInt8))(x1:Int):Option (List UInt8):=Sx.r167 (x0,x1,())
abbrev T84:Type:= ∀(x0:Int×Int×List (List UInt8)×Unit) (x1:List UInt8),Option (List (List UInt8))
noncomputable def f84(x0:Int×Int×List (List UInt8)×Unit)(x1:List UInt8):Option (List (List UInt8)):=Sx.r84 (x0,x1,())
abbrev T95:Type:= ∀(x0:List UInt8),Option (List UInt8)
noncomputable def f95(x0:List UInt8):Option (List UInt8):=Sx.r95 (x0,())
abbrev T88:Type:= ∀(x0:List (List UInt8)),Option (List UInt8)
noncomputable def f88(x0:List (List UInt8)):Option (List UInt8):=Sx.r88 (x0,())
abbrev T54:Type:= ∀(x0:List UInt8) (x1:List (List UInt8)),Option (List UInt8)
noncomputable def f54(x0:List UInt8)(x1:List (List UInt8)):Option (List UInt8):=Sx.r54 (x0,x1,())
abbrev T189:Type:=Option (Vector UInt32 8)
noncomputable def f189:Option (Vector UInt32 8):=Sx.r189 ()
abbrev T190:Type:=Option (Vector UInt32 64)
noncomputable def f190:Option (Vector UInt32 64):=Sx.r190 ()
abbrev T168:Type:=Option (Vector UInt32 8×Vector UInt32 64×List UInt8×Int×Unit)
noncomputable def f168:Option (Vector UInt32 8×Vector UInt32 64×List UInt8×Int×Unit):=Sx.r168 ()
abbrev T204:Type:= ∀(x0:UInt32) (x1:Int),Option UInt32
noncomputable def f204(x0:UInt32)(x1:Int):Option UInt32:=Sx.r204 (x0,x1,())
abbrev T191:Type:= ∀(x0:Vector UInt32 8) (x1:Vector UInt32 64) (x2:List UInt8),Option (Vector UInt32 8)
noncomputable def f191(x0:Vector UInt32 8)(x1:Vector UInt32 64)(x2:List UInt8):Option (Vector UInt32 8):=Sx.r191 (x0,x1,x2,())
abbrev T169:Type:= ∀(x0:Vector UInt32 8×Vector UInt32 64×List UInt8×Int×Unit) (x1:List UInt8),Option (Int×Vector UInt32 8×Vector UInt32 64×List UInt8×Int×Unit)
noncomputable def f169(x0:Vector UInt32 8×Vector UInt32 64×List UInt8×Int×Unit)(x1:List UInt8):Option (Int×Vector UInt32 8×Vector UInt32 64×List UInt8×Int×Unit):=Sx.r169 (x0,x1,())
abbrev T89:Type:= ∀(x0 x1:Int),Option (List UInt8)
noncomputable def f89(x0 x1:Int):Option (List UInt8):=Sx.r89 (x0,x1,())
abbrev T170:Type:= ∀(x0:Vector UInt32 8×Vector UInt32 64×List UInt8×Int×Unit),Option (Vector UInt8 32)
noncomputable def f170(x0:Vector UInt32 8×Vector UInt32 64×List UInt8×Int×Unit):Option (Vector UInt8 32):=Sx.r170 (x0,())
abbrev T125:Type:= ∀(x0:List UInt8),Option (Vector UInt8 32)
noncomputable def f125(x0:List UInt8):Option (Vector UInt8 32):=Sx.r125 (x0,())
abbrev T90:Type:= ∀(x0:List UInt8) (x1:List (List UInt8)),Option (Vector UInt8 32)
noncomputable def f90(x0:List UInt8)(x1:List (List UInt8)):Option (Vector UInt8 32):=Sx.r90 (x0,x1,())
abbrev T56:Type:= ∀(x0:List UInt8),Option (Vector UInt8 32)
noncomputable def f56(x0:List UInt8):Option (Vector UInt8 32):=Sx.r56 (x0,())
noncomputable def f128(x0:Int):Option Int:=Sx.r128 (x0,())
abbrev T130:Type:= ∀(x0 x1:Vector UInt8 32),Option (List UInt8)
noncomputable def f130(x0 x1:Vector UInt8 32):Option (List UInt8):=Sx.r130 (x0,x1,())
abbrev T129:Type:= ∀(x0 x1:Vector UInt8 32),Option (Vector UInt8 32)
noncomputable def f129(x0 x1:Vector UInt8 32):Option (Vector UInt8 32):=Sx.r129 (x0,x1,())
abbrev T87:Type:= ∀(x0:List (Vector UInt8 32)),Option (Vector UInt8 32)
noncomputable def f87(x0:List (Vector UInt8 32)):Option (Vector UInt8 32):=Sx.r87 (x0,())
abbrev T85:Type:= ∀(x0:Int×List UInt8×List (Vector UInt8 32)×List (List UInt8)×Unit),Option (Vector UInt8 32)
noncomputable def f85(x0:Int×List UInt8×List (Vector UInt8 32)×List (List UInt8)×Unit):Option (Vector UInt8 32):=Sx.r85 (x0,())
abbrev T47:Type:= ∀(x0:Int×Int×Int×Int×Vector UInt8 32×Vector UInt8 32×Unit),Option (List UInt8)
noncomputable def f47(x0:Int×Int×Int×Int×Vector UInt8 32×Vector UInt8 32×Unit):Option (List UInt8):=Sx.r47 (x0,())
abbrev T48:Type:= ∀(x0:List UInt8),Option (Vector UInt8 32)
noncomputable def f48(x0:List UInt8):Option (Vector UInt8 32):=Sx.r48 (x0,())
abbrev T49:Type:= ∀(x0:List UInt8),Option (Vector UInt8 32)
noncomputable def f49(x0:List UInt8):Option (Vector UInt8 32):=Sx.r49 (x0,())
abbrev T19:Type:= ∀(x0:Vector UInt8 16) (x1:List UInt8) (x2 x3:Int),Option ((Int×Vector UInt8 16×Vector UInt8 32×Int×Int×Int×List UInt8×Unit)×List (Int×List UInt8×List (Vector UInt8 32)×List (List UInt8)×Unit)×Int)
noncomputable def f19(x0:Vector UInt8 16)(x1:List UInt8)(x2 x3:Int):Option ((Int×Vector UInt8 16×Vector UInt8 32×Int×Int×Int×List UInt8×Unit)×List (Int×List UInt8×List (Vector UInt8 32)×List (List UInt8)×Unit)×Int):=Sx.r19 (x0,x1,x2,x3,())
abbrev T21:Type:= ∀(x0 x1:List UInt8),Option Bool
noncomputable def f21(x0 x1:List UInt8):Option Bool:=Sx.r21 (x0,x1,())
noncomputable def f126(x0:List UInt8):Option (Int×Int):=Sx.r126 (x0,())
abbrev T92:Type:= ∀(x0:List UInt8),Option (List UInt8×List UInt8×Bool)
noncomputable def f92(x0:List UInt8):Option (List UInt8×List UInt8×Bool):=Sx.r92 (x0,())
abbrev T51:Type:= ∀(x0:List UInt8) (x1:Int),Option (List (List UInt8)×Bool)
noncomputable def f51(x0:List UInt8)(x1:Int):Option (List (List UInt8)×Bool):=Sx.r51 (x0,x1,())
noncomputable def f93(x0:List UInt8):Option (Int×Bool):=Sx.r93 (x0,())
abbrev T52:Type:= ∀(x0:List (List UInt8)) (x1:List Int),Option (List Int×Bool)
noncomputable def f52(x0:List (List UInt8))(x1:List Int):Option (List Int×Bool):=Sx.r52 (x0,x1,())
abbrev T94:Type:= ∀(x0 x1:Int),Option Bool
noncomputable def f94(x0 x1:Int):Option Bool:=Sx.r94 (x0,x1,())
abbrev T53:Type:= ∀(x0:Int×Int×Int×Int×Vector UInt8 32×Vector UInt8 32×Unit),Option Bool
noncomputable def f53(x0:Int×Int×Int×Int×Vector UInt8 32×Vector UInt8 32×Unit):Option Bool:=Sx.r53 (x0,())
noncomputable def f20(x0:List UInt8):Option ((Int×Int×Int×Int×Vector UInt8 32×Vector UInt8 32×Unit)×Bool):=Sx.r20 (x0,())
abbrev T13:Type:= ∀(x0 x1:List UInt8),Option Bool
noncomputable def f13(x0 x1:List UInt8):Option Bool:=Sx.r13 (x0,x1,())
abbrev T99:Type:= ∀(x0:UInt8) (x1:Int),Option UInt8
noncomputable def f99(x0:UInt8)(x1:Int):Option UInt8:=Sx.r99 (x0,x1,())
abbrev T102:Type:= ∀(x0:Int),Option (List UInt8)
noncomputable def f102(x0:Int):Option (List UInt8):=Sx.r102 (x0,())
abbrev T127:Type:= ∀(x0:Int),Option (List UInt8)
noncomputable def f127(x0:Int):Option (List UInt8):=Sx.r127 (x0,())
abbrev T91:Type:= ∀(x0:List UInt8),Option (List UInt8)
noncomputable def f91(x0:List UInt8):Option (List UInt8):=Sx.r91 (x0,())
abbrev T82:Type:= ∀(x0:List UInt8),Option (Vector UInt8 32)
noncomputable def f82(x0:List UInt8):Option (Vector UInt8 32):=Sx.r82 (x0,())
abbrev T79:Type:= ∀(x0 x1:Int),Option (List (List UInt8))
noncomputable def f79(x0 x1:Int):Option (List (List UInt8)):=Sx.r79 (x0,x1,())
abbrev T81:Type:= ∀(x0:UInt8),Option UInt8
noncomputable def f81(x0:UInt8):Option UInt8:=Sx.r81 (x0,())
abbrev T98:Type:= ∀(x0:UInt8),Option UInt8
noncomputable def f98(x0:UInt8):Option UInt8:=Sx.r98 (x0,())
abbrev T40:Type:=Option (Vector UInt8 256)
noncomputable def f40:Option (Vector UInt8 256):=Sx.r40 ()
abbrev T59:Type:=Option (Vector UInt8 256)
noncomputable def f59:Option (Vector UInt8 256):=Sx.r59 ()
abbrev T153:Type:=Option (Option (Vector UInt8 510×Vector Int 256×Unit))
noncomputable def f153:Option (Option (Vector UInt8 510×Vector Int 256×Unit)):=Sx.r153 ()
abbrev T83:Type:= ∀(x0 x1:Int),Option (Option (Int×Int×List (List UInt8)×Unit)×Int)
noncomputable def f83(x0 x1:Int):Option (Option (Int×Int×List (List UInt8)×Unit)×Int):=Sx.r83 (x0,x1,())
abbrev T124:Type:= ∀(x0 x1:List (List UInt8)),Option (List (List UInt8))
noncomputable def f124(x0 x1:List (List UInt8)):Option (List (List UInt8)):=Sx.r124 (x0,x1,())
abbrev T96:Type:= ∀(x0:List (Vector UInt8 32)),Option (List (List (Vector UInt8 32)))
noncomputable def f96(x0:List (Vector UInt8 32)):Option (List (List (Vector UInt8 32))):=Sx.r96 (x0,())
abbrev T86:Type:= ∀(x0:Int) (x1:List (Vector UInt8 32)),Option (List (Vector UInt8 32)×Int)
noncomputable def f86(x0:Int)(x1:List (Vector UInt8 32)):Option (List (Vector UInt8 32)×Int):=Sx.r86 (x0,x1,())
abbrev T16:Type:= ∀(x0:List UInt8) (x1 x2:Int),Option (List (Int×List UInt8×List (Vector UInt8 32)×List (List UInt8)×Unit)×Int×Int×Int×Int×Vector UInt8 32×Vector UInt8 32×Unit)
noncomputable def f16(x0:List UInt8)(x1 x2:Int):Option (List (Int×List UInt8×List (Vector UInt8 32)×List (List UInt8)×Unit)×Int×Int×Int×Int×Vector UInt8 32×Vector UInt8 32×Unit):=Sx.r16 (x0,x1,x2,())
abbrev T46:Type:= ∀(x0:List UInt8) (x1 x2:Int),Option (List (Int×List UInt8×List (Vector UInt8 32)×List (List UInt8)×Unit)×Vector UInt8 32)
noncomputable def f46(x0:List UInt8)(x1 x2:Int):Option (List (Int×List UInt8×List (Vector UInt8 32)×List (List UInt8)×Unit)×Vector UInt8 32):=Sx.r46 (x0,x1,x2,())
end Mx
end
section
open Go Go.Proofs Ev Sx
namespace Mx
noncomputable def t5(x0:List UInt8)(x1:Int):Option (List UInt8):=(cut? x0 (0:Int) (minI (↑x0.length:Int) x1)).bind fun(r:List UInt8)=>some r
theorem e5(x0:List UInt8)(x1:Int):f5 x0 x1=t5 x0 x1:=by kernel_rfl
noncomputable def t42(x0 x1:Int):Option (List UInt8):=(bif decide (x0<(0:Int))then some (0:Int)else some x0).bind fun(x:Int)=>(zeros? (minI (maxI x1 (0:Int)) (8:Int)) (0:UInt8)).bind fun(r:List UInt8)=>(iter (fun(x:Int×Int×List UInt8)=>bif decide ((0:Int)<=x.2.1)then(remI x.1 (256:Int)).bind fun(c:Int)=>if(0:Int)<=x.2.1∧x.2.1<(↑x.2.2.length:Int)then(quoI x.1 (256:Int)).bind fun(c_1:Int)=>some (Sum.inl (c_1,subI x.2.1 (1:Int),x.2.2.set x.2.1.toNat (UInt8.ofInt c)))else none else some (Sum.inr x.2.2)) (x,subI (minI (maxI x1 (0:Int)) (8:Int)) (1:Int),r)).bind fun(y:List UInt8)=>some y
theorem e42(x0 x1:Int):f42 x0 x1=t42 x0 x1:=by kernel_rfl
noncomputable def t30(x0:List UInt8):Option (List (List UInt8)):=(iter (fun(x:List (List UInt8)×Int)=>bif decide (x.2<(↑x0.length:Int))then(cut? x0 x.2 (minI (↑x0.length:Int) (addI x.2 (64:Int)))).bind fun(r:List UInt8)=>(app? x.1 [r]).bind fun(zs:List (List UInt8))=>some (Sum.inl (zs,addI x.2 (64:Int)))else some (Sum.inr x.1)) ([],(0:Int))).bind fun(y:List (List UInt8))=>some y
theorem e30(x0:List UInt8):f30 x0=t30 x0:=by kernel_rfl
noncomputable def t44(y29:T29)(y82:T82)(x0:List UInt8)(x1:List (List UInt8)):Option (Vector UInt8 32):=(y29 x0 x1).bind fun(r:List UInt8)=>(y82 r).bind fun(r:Vector UInt8 32)=>some r
noncomputable def K44(y29:T29)(y82:T82):Ctx:=mkC tys cells maps [(i29,⟨P29,R29,fun x=>y29 x.1 x.2.1⟩),(i82,⟨P82,R82,fun x=>y82 x.1⟩)] [] []
theorem a44(y29:T29)(y82:T82)(x0:List UInt8)(x1:List (List UInt8)):evF (K44 y29 y82) F44 h44 P44 R44 (x0,x1,())=t44 y29 y82 x0 x1:=by kernel_rfl
theorem e44(x0:List UInt8)(x1:List (List UInt8)):f44 x0 x1=t44 f29 f82 x0 x1:=Eq.trans (b:=evF (K44 f29 f82) F44 h44 P44 R44 (x0,x1,())) (by kernel_rfl) (a44 f29 f82 x0 x1)
noncomputable def t103(x0:Int):Option Int:=(iter (fun(x:Int)=>(bif decide (x<x0)then some (decide (x<(2305843009213693952:Int)))else some false).bind fun(x_1:Bool)=>bif x_1 then some (Sum.inl (mulI (2:Int) x))else some (Sum.inr x)) (1:Int)).bind fun(y:Int)=>some y
theorem e103(x0:Int):f103 x0=t103 x0:=by kernel_rfl
noncomputable def t67(y104:T104)(x0:List (Vector UInt8 32)):Option (List (Vector UInt8 32)):=(iter (fun(x:List (Vector UInt8 32)×Int)=>bif decide (addI x.2 (1:Int)<(↑x0.length:Int))then(at? x0 x.2).bind fun(y:Vector UInt8 32)=>(at? x0 (addI x.2 (1:Int))).bind fun(y_1:Vector UInt8 32)=>(y104 y y_1).bind fun(r:Vector UInt8 32)=>(app? x.1 [r]).bind fun(zs:List (Vector UInt8 32))=>some (Sum.inl (zs,addI x.2 (2:Int)))else some (Sum.inr x.1)) ([],(0:Int))).bind fun(y:List (Vector UInt8 32))=>some y
noncomputable def K67(y104:T104):Ctx:=mkC tys cells maps [(i104,⟨P104,R104,fun x=>y104 x.1 x.2.1⟩)] [] []
theorem a67(y104:T104)(x0:List (Vector UInt8 32)):evF (K67 y104) F67 h67 P67 R67 (x0,())=t67 y104 x0:=by kernel_rfl
theorem e67(x0:List (Vector UInt8 32)):f67 x0=t67 f104 x0:=Eq.trans (b:=evF (K67 f104) F67 h67 P67 R67 (x0,())) (by kernel_rfl) (a67 f104 x0)
noncomputable def t80(x0 x1:UInt8):Option UInt8:=(iter (fun(x:Int×Int×Int)=>bif decide (x.2.2<(8:Int))then(bif decide (shr8 x1 (UInt64.ofInt x.2.2).toNat&&&(1:UInt8)=(1:UInt8))then some (xorI x.2.1 x.1)else some x.2.1).bind fun(x_1:Int)=>(bif decide ((256:Int)<=shlI x.1 (1:Nat))then some (xorI (shlI x.1 (1:Nat)) (285:Int))else some (shlI x.1 (1:Nat))).bind fun(x_2:Int)=>some (Sum.inl (x_2,x_1,addI x.2.2 (1:Int)))else some (Sum.inr x.2.1)) (w64 (↑x0.toNat:Int),(0:Int),(0:Int))).bind fun(y:Int)=>some (UInt8.ofInt y)
theorem e80(x0 x1:UInt8):f80 x0 x1=t80 x0 x1:=by kernel_rfl
noncomputable def t41(y81:T81)(x0:Vector UInt8 256)(x1:Vector UInt8 16):Option (Vector (Vector UInt8 16) 11):=(iter (fun(x:UInt8×Int×Vector (Vector UInt8 16) 11)=>bif decide (x.2.1<(11:Int))then if(0:Int)<=subI x.2.1 (1:Int)∧subI x.2.1 (1:Int)<(11:Int)then if(0:Int)<=(↑((x.2.2[(subI x.2.1 (1:Int)).toNat]?.getD (Vector.replicate 16 (0:UInt8)))[(13:Nat)]?.getD (0:UInt8)).toNat:Int)∧(↑((x.2.2[(subI x.2.1 (1:Int)).toNat]?.getD (Vector.replicate 16 (0:UInt8)))[(13:Nat)]?.getD (0:UInt8)).toNat:Int)<(256:Int)then if(0:Int)<=(↑((x.2.2[(subI x.2.1 (1:Int)).toNat]?.getD (Vector.replicate 16 (0:UInt8)))[(14:Nat)]?.getD (0:UInt8)).toNat:Int)∧(↑((x.2.2[(subI x.2.1 (1:Int)).toNat]?.getD (Vector.replicate 16 (0:UInt8)))[(14:Nat)]?.getD (0:UInt8)).toNat:Int)<(256:Int)then if(0:Int)<=(↑((x.2.2[(subI x.2.1 (1:Int)).toNat]?.getD (Vector.replicate 16 (0:UInt8)))[(15:Nat)]?.getD (0:UInt8)).toNat:Int)∧(↑((x.2.2[(subI x.2.1 (1:Int)).toNat]?.getD (Vector.replicate 16 (0:UInt8)))[(15:Nat)]?.getD (0:UInt8)).toNat:Int)<(256:Int)then if(0:Int)<=(↑((x.2.2[(subI x.2.1 (1:Int)).toNat]?.getD (Vector.replicate 16 (0:UInt8)))[(12:Nat)]?.getD (0:UInt8)).toNat:Int)∧(↑((x.2.2[(subI x.2.1 (1:Int)).toNat]?.getD (Vector.replicate 16 (0:UInt8)))[(12:Nat)]?.getD (0:UInt8)).toNat:Int)<(256:Int)then(y81 x.1).bind fun(r:UInt8)=>(iter (fun(x_1:Int×Vector (Vector UInt8 16) 11×Vector UInt8 4)=>bif decide (x_1.1<(16:Int))then if(0:Int)<=x_1.1∧x_1.1<(16:Int)then(remI x_1.1 (4:Int)).bind fun(c:Int)=>if(0:Int)<=c∧c<(4:Int)then if(0:Int)<=x.2.1∧x.2.1<(11:Int)then if(0:Int)<=x_1.1∧x_1.1<(16:Int)then(remI x_1.1 (4:Int)).bind fun(c_1:Int)=>if(0:Int)<=x.2.1∧x.2.1<(11:Int)then if(0:Int)<=x_1.1∧x_1.1<(16:Int)then if(0:Int)<=c_1∧c_1<(4:Int)then some (Sum.inl (addI x_1.1 (1:Int),x_1.2.1.setIfInBounds x.2.1.toNat ((x_1.2.1[x.2.1.toNat]?.getD (Vector.replicate 16 (0:UInt8))).setIfInBounds x_1.1.toNat ((x.2.2[(subI x.2.1 (1:Int)).toNat]?.getD (Vector.replicate 16 (0:UInt8)))[x_1.1.toNat]?.getD (0:UInt8)^^^x_1.2.2[c.toNat]?.getD (0:UInt8))),x_1.2.2.setIfInBounds c_1.toNat (((x_1.2.1.setIfInBounds x.2.1.toNat ((x_1.2.1[x.2.1.toNat]?.getD (Vector.replicate 16 (0:UInt8))).setIfInBounds x_1.1.toNat ((x.2.2[(subI x.2.1 (1:Int)).toNat]?.getD (Vector.replicate 16 (0:UInt8)))[x_1.1.toNat]?.getD (0:UInt8)^^^x_1.2.2[c.toNat]?.getD (0:UInt8))))[x.2.1.toNat]?.getD (Vector.replicate 16 (0:UInt8)))[x_1.1.toNat]?.getD (0:UInt8))))else none else none else none else none else none else none else none else some (Sum.inr (x_1.2.1,x_1.2.2))) ((0:Int),x.2.2,vecOf 4 [x0[(↑((x.2.2[(subI x.2.1 (1:Int)).toNat]?.getD (Vector.replicate 16 (0:UInt8)))[(13:Nat)]?.getD (0:UInt8)).toNat:Int).toNat]?.getD (0:UInt8)^^^x.1,x0[(↑((x.2.2[(subI x.2.1 (1:Int)).toNat]?.getD (Vector.replicate 16 (0:UInt8)))[(14:Nat)]?.getD (0:UInt8)).toNat:Int).toNat]?.getD (0:UInt8),x0[(↑((x.2.2[(subI x.2.1 (1:Int)).toNat]?.getD (Vector.replicate 16 (0:UInt8)))[(15:Nat)]?.getD (0:UInt8)).toNat:Int).toNat]?.getD (0:UInt8),x0[(↑((x.2.2[(subI x.2.1 (1:Int)).toNat]?.getD (Vector.replicate 16 (0:UInt8)))[(12:Nat)]?.getD (0:UInt8)).toNat:Int).toNat]?.getD (0:UInt8)] (0:UInt8))).bind fun(y:Vector (Vector UInt8 16) 11×Vector UInt8 4)=>some (Sum.inl (r,addI x.2.1 (1:Int),y.1))else none else none else none else none else none else some (Sum.inr x.2.2)) ((1:UInt8),(1:Int),(Vector.replicate 11 (Vector.replicate 16 (0:UInt8))).setIfInBounds (0:Nat) x1)).bind fun(y:Vector (Vector UInt8 16) 11)=>some y
noncomputable def K41(y81:T81):Ctx:=mkC tys cells maps [(i81,⟨P81,R81,fun x=>y81 x.1⟩)] [] []
theorem a41(y81:T81)(x0:Vector UInt8 256)(x1:Vector UInt8 16):evF (K41 y81) F41 h41 P41 R41 (x0,x1,())=t41 y81 x0 x1:=by kernel_rfl
theorem e41(x0:Vector UInt8 256)(x1:Vector UInt8 16):f41 x0 x1=t41 f81 x0 x1:=Eq.trans (b:=evF (K41 f81) F41 h41 P41 R41 (x0,x1,())) (by kernel_rfl) (a41 f81 x0 x1)
noncomputable def t7(y15:T15)(y16:T16)(y17:T17)(y18:T18)(x0:Vector UInt8 16)(x1:List UInt8)(x2 x3:Int):Option ((Int×Vector UInt8 16×Vector UInt8 32×Int×Int×Int×List UInt8×Unit)×List (Int×List UInt8×List (Vector UInt8 32)×List (List UInt8)×Unit)×Int):=(y15 (↑x1.length:Int) x2 x3).bind fun(r:Bool)=>bif !r then some (((0:Int),Vector.replicate 16 (0:UInt8),Vector.replicate 32 (0:UInt8),(0:Int),(0:Int),(0:Int),[],()),[],(1:Int))else(y17 x0 (0:Int) x1).bind fun(r:List UInt8)=>(y16 r x2 x3).bind fun(r:List (Int×List UInt8×List (Vector UInt8 32)×List (List UInt8)×Unit)×Int×Int×Int×Int×Vector UInt8 32×Vector UInt8 32×Unit)=>(at? r.1 (0:Int)).bind fun(y:Int×List UInt8×List (Vector UInt8 32)×List (List UInt8)×Unit)=>(y18 y.2.1).bind fun(r_1:Vector UInt8 32)=>some (((1:Int),x0,r_1,x2,x3,(↑x1.length:Int),[],()),r.1,(0:Int))
noncomputable def K7(y15:T15)(y16:T16)(y17:T17)(y18:T18):Ctx:=mkC tys cells maps [(i15,⟨P15,R15,fun x=>y15 x.1 x.2.1 x.2.2.1⟩),(i16,⟨P16,R16,fun x=>y16 x.1 x.2.1 x.2.2.1⟩),(i17,⟨P17,R17,fun x=>y17 x.1 x.2.1 x.2.2.1⟩),(i18,⟨P18,R18,fun x=>y18 x.1⟩)] [] []
theorem a7(y15:T15)(y16:T16)(y17:T17)(y18:T18)(x0:Vector UInt8 16)(x1:List UInt8)(x2 x3:Int):evF (K7 y15 y16 y17 y18) F7 h7 P7 R7 (x0,x1,x2,x3,())=t7 y15 y16 y17 y18 x0 x1 x2 x3:=by kernel_rfl
theorem e7(x0:Vector UInt8 16)(x1:List UInt8)(x2 x3:Int):f7 x0 x1 x2 x3=t7 f15 f16 f17 f18 x0 x1 x2 x3:=Eq.trans (b:=evF (K7 f15 f16 f17 f18) F7 h7 P7 R7 (x0,x1,x2,x3,())) (by kernel_rfl) (a7 f15 f16 f17 f18 x0 x1 x2 x3)
noncomputable def t101(y98:T98)(x0:Vector UInt8 16):Option (Vector UInt8 16):=(iter (fun(x:Int×Vector UInt8 16)=>bif decide (x.1<(16:Int))then(iter (fun(x_1:Int×Vector UInt8 16)=>bif decide (x_1.1<(4:Int))then if(0:Int)<=addI x.1 x_1.1∧addI x.1 x_1.1<(16:Int)then(remI (addI x_1.1 (1:Int)) (4:Int)).bind fun(c:Int)=>if(0:Int)<=addI x.1 c∧addI x.1 c<(16:Int)then(remI (addI x_1.1 (2:Int)) (4:Int)).bind fun(c_1:Int)=>if(0:Int)<=addI x.1 c_1∧addI x.1 c_1<(16:Int)then(remI (addI x_1.1 (3:Int)) (4:Int)).bind fun(c_2:Int)=>if(0:Int)<=addI x.1 c_2∧addI x.1 c_2<(16:Int)then(y98 (x0[(addI x.1 x_1.1).toNat]?.getD (0:UInt8))).bind fun(r:UInt8)=>(y98 (x0[(addI x.1 c).toNat]?.getD (0:UInt8))).bind fun(r_1:UInt8)=>if(0:Int)<=addI x.1 x_1.1∧addI x.1 x_1.1<(16:Int)then some (Sum.inl (addI x_1.1 (1:Int),x_1.2.setIfInBounds (addI x.1 x_1.1).toNat (r^^^r_1^^^x0[(addI x.1 c).toNat]?.getD (0:UInt8)^^^x0[(addI x.1 c_1).toNat]?.getD (0:UInt8)^^^x0[(addI x.1 c_2).toNat]?.getD (0:UInt8))))else none else none else none else none else none else some (Sum.inr x_1.2)) ((0:Int),x.2)).bind fun(y:Vector UInt8 16)=>some (Sum.inl (addI x.1 (4:Int),y))else some (Sum.inr x.2)) ((0:Int),Vector.replicate 16 (0:UInt8))).bind fun(y:Vector UInt8 16)=>some y
noncomputable def K101(y98:T98):Ctx:=mkC tys cells maps [(i98,⟨P98,R98,fun x=>y98 x.1⟩)] [] []
theorem a101(y98:T98)(x0:Vector UInt8 16):evF (K101 y98) F101 h101 P101 R101 (x0,())=t101 y98 x0:=by kernel_rfl
theorem e101(x0:Vector UInt8 16):f101 x0=t101 f98 x0:=Eq.trans (b:=evF (K101 f98) F101 h101 P101 R101 (x0,())) (by kernel_rfl) (a101 f98 x0)
noncomputable def t55(x0:List UInt8):Option (List (List UInt8)):=(iter (fun(x:List UInt8×List (List UInt8))=>bif decide ((0:Int)<(↑x.1.length:Int))then(cut? x.1 (0:Int) (minI (↑x.1.length:Int) (64:Int))).bind fun(r:List UInt8)=>(app? x.2 [r]).bind fun(zs:List (List UInt8))=>(cut? x.1 (minI (↑x.1.length:Int) (64:Int)) (↑x.1.length:Int)).bind fun(r:List UInt8)=>some (Sum.inl (r,zs))else some (Sum.inr x.2)) (x0,[])).bind fun(y:List (List UInt8))=>some y
theorem e55(x0:List UInt8):f55 x0=t55 x0:=by kernel_rfl
noncomputable def t188(y187:T187)(x0:UInt8×UInt8->Option UInt8)(x1 x2:List UInt8):Option UInt8:=(iter (fun(x:UInt8×Int)=>bif decide (x.2<minI (↑x1.length:Int) (↑x2.length:Int))then(at? x1 x.2).bind fun(y:UInt8)=>(at? x2 x.2).bind fun(y_1:UInt8)=>(x0 (y,y_1)).bind fun(r:UInt8)=>(y187 x.1 r).bind fun(r:UInt8)=>some (Sum.inl (r,addI x.2 (1:Int)))else some (Sum.inr x.1)) ((0:UInt8),(0:Int))).bind fun(y:UInt8)=>some y
noncomputable def K188(y187:T187):Ctx:=mkC tys cells maps [(i187,⟨P187,R187,fun x=>y187 x.1 x.2.1⟩)] [] []
theorem a188(y187:T187)(x0:UInt8×UInt8->Option UInt8)(x1 x2:List UInt8):evF (K188 y187) F188 h188 P188 R188 (x0,x1,x2,())=t188 y187 x0 x1 x2:=by kernel_rfl
theorem e188(x0:UInt8×UInt8->Option UInt8)(x1 x2:List UInt8):f188 x0 x1 x2=t188 f187 x0 x1 x2:=Eq.trans (b:=evF (K188 f187) F188 h188 P188 R188 (x0,x1,x2,())) (by kernel_rfl) (a188 f187 x0 x1 x2)
noncomputable def t84(y123:T123)(y124:T124)(x0:Int×Int×List (List UInt8)×Unit)(x1:List UInt8):Option (List (List UInt8)):=(y123 x1 x0.1).bind fun(r:List UInt8)=>(quoI (↑r.length:Int) x0.1).bind fun(c:Int)=>(iter (fun(x:List (List UInt8)×Int)=>bif decide (x.2<x0.1)then(cut? r (mulI c x.2) (mulI c (addI x.2 (1:Int)))).bind fun(r:List UInt8)=>(app? x.1 [r]).bind fun(zs:List (List UInt8))=>some (Sum.inl (zs,addI x.2 (1:Int)))else some (Sum.inr x.1)) ([],(0:Int))).bind fun(y:List (List UInt8))=>(y124 x0.2.2.1 y).bind fun(r:List (List UInt8))=>some r
noncomputable def K84(y123:T123)(y124:T124):Ctx:=mkC tys cells maps [(i123,⟨P123,R123,fun x=>y123 x.1 x.2.1⟩),(i124,⟨P124,R124,fun x=>y124 x.1 x.2.1⟩)] [] []
theorem a84(y123:T123)(y124:T124)(x0:Int×Int×List (List UInt8)×Unit)(x1:List UInt8):evF (K84 y123 y124) F84 h84 P84 R84 (x0,x1,())=t84 y123 y124 x0 x1:=by kernel_rfl
theorem e84(x0:Int×Int×List (List UInt8)×Unit)(x1:List UInt8):f84 x0 x1=t84 f123 f124 x0 x1:=Eq.trans (b:=evF (K84 f123 f124) F84 h84 P84 R84 (x0,x1,())) (by kernel_rfl) (a84 f123 f124 x0 x1)
noncomputable def t189:Option (Vector UInt32 8):=some (vecOf 8 [(1779033703:UInt32),(3144134277:UInt32),(1013904242:UInt32),(2773480762:UInt32),(1359893119:UInt32),(2600822924:UInt32),(528734635:UInt32),(1541459225:UInt32)] (0:UInt32))
theorem e189:f189=t189:=by kernel_rfl
noncomputable def t191(y204:T204)(x0:Vector UInt32 8)(x1:Vector UInt32 64)(x2:List UInt8):Option (Vector UInt32 8):=(iter (fun(x:Int×Vector UInt32 64)=>bif decide (x.1<(16:Int))then(at? x2 (mulI (4:Int) x.1)).bind fun(y:UInt8)=>(at? x2 (addI (mulI (4:Int) x.1) (1:Int))).bind fun(y_1:UInt8)=>(at? x2 (addI (mulI (4:Int) x.1) (2:Int))).bind fun(y_2:UInt8)=>(at? x2 (addI (mulI (4:Int) x.1) (3:Int))).bind fun(y_3:UInt8)=>if(0:Int)<=x.1∧x.1<(64:Int)then some (Sum.inl (addI x.1 (1:Int),x.2.setIfInBounds x.1.toNat (shl32 (UInt32.ofInt (↑y.toNat:Int)) (24:Nat)|||shl32 (UInt32.ofInt (↑y_1.toNat:Int)) 16|||shl32 (UInt32.ofInt (↑y_2.toNat:Int)) 8|||UInt32.ofInt (↑y_3.toNat:Int))))else none else some (Sum.inr x.2)) ((0:Int),Vector.replicate 64 (0:UInt32))).bind fun(y:Vector UInt32 64)=>(iter (fun(x:Int×Vector UInt32 64)=>bif decide (x.1<(64:Int))then if(0:Int)<=subI x.1 (15:Int)∧subI x.1 (15:Int)<(64:Int)then if(0:Int)<=subI x.1 (2:Int)∧subI x.1 (2:Int)<(64:Int)then(y204 (x.2[(subI x.1 (15:Int)).toNat]?.getD (0:UInt32)) (-7:Int)).bind fun(r:UInt32)=>(y204 (x.2[(subI x.1 (15:Int)).toNat]?.getD (0:UInt32)) (-18:Int)).bind fun(r_1:UInt32)=>(y204 (x.2[(subI x.1 (2:Int)).toNat]?.getD (0:UInt32)) (-17:Int)).bind fun(r_2:UInt32)=>(y204 (x.2[(subI x.1 (2:Int)).toNat]?.getD (0:UInt32)) (-19:Int)).bind fun(r_3:UInt32)=>if(0:Int)<=subI x.1 (16:Int)∧subI x.1 (16:Int)<(64:Int)then if(0:Int)<=subI x.1 (7:Int)∧subI x.1 (7:Int)<(64:Int)then if(0:Int)<=x.1∧x.1<(64:Int)then some (Sum.inl (addI x.1 (1:Int),x.2.setIfInBounds x.1.toNat (x.2[(subI x.1 (16:Int)).toNat]?.getD (0:UInt32)+(r^^^r_1^^^shr32 (x.2[(subI x.1 (15:Int)).toNat]?.getD (0:UInt32)) (3:Nat))+x.2[(subI x.1 (7:Int)).toNat]?.getD (0:UInt32)+(r_2^^^r_3^^^shr32 (x.2[(subI x.1 (2:Int)).toNat]?.getD (0:UInt32)) (10:Nat)))))else none else none else none else none else none else some (Sum.inr x.2)) ((16:Int),y)).bind fun(y:Vector UInt32 64)=>(iter (fun(x:Int×Vector UInt32 8)=>bif decide (x.1<(64:Int))then(y204 (x.2[4]?.getD (0:UInt32)) (-6:Int)).bind fun(r:UInt32)=>(y204 (x.2[4]?.getD (0:UInt32)) (-11:Int)).bind fun(r_1:UInt32)=>(y204 (x.2[4]?.getD (0:UInt32)) (-25:Int)).bind fun(r_2:UInt32)=>if(0:Int)<=x.1∧x.1<(64:Int)then if(0:Int)<=x.1∧x.1<(64:Int)then(y204 (x.2[(0:Nat)]?.getD (0:UInt32)) (-2:Int)).bind fun(r_3:UInt32)=>(y204 (x.2[(0:Nat)]?.getD (0:UInt32)) (-13:Int)).bind fun(r_4:UInt32)=>(y204 (x.2[(0:Nat)]?.getD (0:UInt32)) (-22:Int)).bind fun(r_5:UInt32)=>some (Sum.inl (addI x.1 (1:Int),vecOf 8 [x.2[(7:Nat)]?.getD (0:UInt32)+(r^^^r_1^^^r_2)+(x.2[4]?.getD (0:UInt32)&&&x.2[(5:Nat)]?.getD (0:UInt32)^^^ ~~~x.2[4]?.getD (0:UInt32)&&&x.2[(6:Nat)]?.getD (0:UInt32))+x1[x.1.toNat]?.getD (0:UInt32)+y[x.1.toNat]?.getD (0:UInt32)+(r_3^^^r_4^^^r_5)+(x.2[(0:Nat)]?.getD (0:UInt32)&&&x.2[(1:Nat)]?.getD (0:UInt32)^^^x.2[(0:Nat)]?.getD (0:UInt32)&&&x.2[2]?.getD (0:UInt32)^^^x.2[(1:Nat)]?.getD (0:UInt32)&&&x.2[2]?.getD (0:UInt32)),x.2[(0:Nat)]?.getD (0:UInt32),x.2[(1:Nat)]?.getD (0:UInt32),x.2[2]?.getD (0:UInt32),x.2[(3:Nat)]?.getD (0:UInt32)+(x.2[(7:Nat)]?.getD (0:UInt32)+(r^^^r_1^^^r_2)+(x.2[4]?.getD (0:UInt32)&&&x.2[(5:Nat)]?.getD (0:UInt32)^^^ ~~~x.2[4]?.getD (0:UInt32)&&&x.2[(6:Nat)]?.getD (0:UInt32))+x1[x.1.toNat]?.getD (0:UInt32)+y[x.1.toNat]?.getD (0:UInt32)),x.2[4]?.getD (0:UInt32),x.2[(5:Nat)]?.getD (0:UInt32),x.2[(6:Nat)]?.getD (0:UInt32)] (0:UInt32)))else none else none else some (Sum.inr x.2)) ((0:Int),x0)).bind fun(y:Vector UInt32 8)=>(iter (fun(x:Int×Vector UInt32 8)=>bif decide (x.1<(8:Int))then if(0:Int)<=x.1∧x.1<(8:Int)then if(0:Int)<=x.1∧x.1<(8:Int)then if(0:Int)<=x.1∧x.1<(8:Int)then some (Sum.inl (addI x.1 (1:Int),x.2.setIfInBounds x.1.toNat (x.2[x.1.toNat]?.getD (0:UInt32)+y[x.1.toNat]?.getD (0:UInt32))))else none else none else none else some (Sum.inr x.2)) ((0:Int),x0)).bind fun(y:Vector UInt32 8)=>some y
noncomputable def K191(y204:T204):Ctx:=mkC tys cells maps [(i204,⟨P204,R204,fun x=>y204 x.1 x.2.1⟩)] [] []
theorem a191(y204:T204)(x0:Vector UInt32 8)(x1:Vector UInt32 64)(x2:List UInt8):evF (K191 y204) F191 h191 P191 R191 (x0,x1,x2,())=t191 y204 x0 x1 x2:=by kernel_rfl
theorem e191(x0:Vector UInt32 8)(x1:Vector UInt32 64)(x2:List UInt8):f191 x0 x1 x2=t191 f204 x0 x1 x2:=Eq.trans (b:=evF (K191 f204) F191 h191 P191 R191 (x0,x1,x2,())) (by kernel_rfl) (a191 f204 x0 x1 x2)
noncomputable def t125(y168:T168)(y169:T169)(y170:T170)(x0:List UInt8):Option (Vector UInt8 32):=(y168).bind fun(r:Vector UInt32 8×Vector UInt32 64×List UInt8×Int×Unit)=>(y169 r x0).bind fun(r:Int×Vector UInt32 8×Vector UInt32 64×List UInt8×Int×Unit)=>(y170 r.2).bind fun(r:Vector UInt8 32)=>some r
noncomputable def K125(y168:T168)(y169:T169)(y170:T170):Ctx:=mkC tys cells maps [(i168,⟨P168,R168,fun _=>y168⟩),(i169,⟨P169,R169,fun x=>y169 x.1 x.2.1⟩),(i170,⟨P170,R170,fun x=>y170 x.1⟩)] [] []
theorem a125(y168:T168)(y169:T169)(y170:T170)(x0:List UInt8):evF (K125 y168 y169 y170) F125 h125 P125 R125 (x0,())=t125 y168 y169 y170 x0:=by kernel_rfl
theorem e125(x0:List UInt8):f125 x0=t125 f168 f169 f170 x0:=Eq.trans (b:=evF (K125 f168 f169 f170) F125 h125 P125 R125 (x0,())) (by kernel_rfl) (a125 f168 f169 f170 x0)
noncomputable def t130(y54:T54)(x0 x1:Vector UInt8 32):Option (List UInt8):=(y54 [(110:UInt8),(111:UInt8),(100:UInt8),(101:UInt8)] [List.take 32 (List.drop (0:Nat) x0.toList),List.take 32 (List.drop (0:Nat) x1.toList)]).bind fun(r:List UInt8)=>some r
noncomputable def K130(y54:T54):Ctx:=mkC tys cells maps [(i54,⟨P54,R54,fun x=>y54 x.1 x.2.1⟩)] [] []
theorem a130(y54:T54)(x0 x1:Vector UInt8 32):evF (K130 y54) F130 h130 P130 R130 (x0,x1,())=t130 y54 x0 x1:=by kernel_rfl
theorem e130(x0 x1:Vector UInt8 32):f130 x0 x1=t130 f54 x0 x1:=Eq.trans (b:=evF (K130 f54) F130 h130 P130 R130 (x0,x1,())) (by kernel_rfl) (a130 f54 x0 x1)
noncomputable def t47(y88:T88)(y89:T89)(x0:Int×Int×Int×Int×Vector UInt8 32×Vector UInt8 32×Unit):Option (List UInt8):=(y89 x0.1 (1:Int)).bind fun(r:List UInt8)=>(y89 x0.2.1 (1:Int)).bind fun(r_1:List UInt8)=>(y89 x0.2.2.1 (4:Int)).bind fun(r_2:List UInt8)=>(y89 x0.2.2.2.1 (4:Int)).bind fun(r_3:List UInt8)=>(y88 [r,r_1,r_2,r_3,List.take 32 (List.drop (0:Nat) x0.2.2.2.2.1.toList),List.take 32 (List.drop (0:Nat) x0.2.2.2.2.2.1.toList)]).bind fun(r:List UInt8)=>some r
noncomputable def K47(y88:T88)(y89:T89):Ctx:=mkC tys cells maps [(i88,⟨P88,R88,fun x=>y88 x.1⟩),(i89,⟨P89,R89,fun x=>y89 x.1 x.2.1⟩)] [] []
theorem a47(y88:T88)(y89:T89)(x0:Int×Int×Int×Int×Vector UInt8 32×Vector UInt8 32×Unit):evF (K47 y88 y89) F47 h47 P47 R47 (x0,())=t47 y88 y89 x0:=by kernel_rfl
theorem e47(x0:Int×Int×Int×Int×Vector UInt8 32×Vector UInt8 32×Unit):f47 x0=t47 f88 f89 x0:=Eq.trans (b:=evF (K47 f88 f89) F47 h47 P47 R47 (x0,())) (by kernel_rfl) (a47 f88 f89 x0)
noncomputable def t20(y21:T21)(y47:T47)(y51:T51)(y52:T52)(y53:T53)(x0:List UInt8):Option ((Int×Int×Int×Int×Vector UInt8 32×Vector UInt8 32×Unit)×Bool):=(y51 x0 (6:Int)).bind fun(r:List (List UInt8)×Bool)=>(bif !r.2 then some true else(at? r.1 (4:Int)).bind fun(y:List UInt8)=>bif decide ((↑y.length:Int)≠(32:Int))then some true else(at? r.1 (5:Int)).bind fun(y:List UInt8)=>some (decide ((↑y.length:Int)≠(32:Int)))).bind fun(x:Bool)=>bif x then some (((0:Int),(0:Int),(0:Int),(0:Int),Vector.replicate 32 (0:UInt8),Vector.replicate 32 (0:UInt8),()),false)else(y52 r.1 [(1:Int),(1:Int),(4:Int),(4:Int)]).bind fun(r_1:List Int×Bool)=>bif !r_1.2 then some (((0:Int),(0:Int),(0:Int),(0:Int),Vector.replicate 32 (0:UInt8),Vector.replicate 32 (0:UInt8),()),false)else(at? r_1.1 (0:Int)).bind fun(y:Int)=>(at? r_1.1 (1:Int)).bind fun(y_1:Int)=>(at? r_1.1 (2:Int)).bind fun(y_2:Int)=>(at? r_1.1 (3:Int)).bind fun(y_3:Int)=>(at? r.1 (4:Int)).bind fun(y_4:List UInt8)=>(toArr 32 y_4).bind fun(a:Vector UInt8 32)=>(at? r.1 (5:Int)).bind fun(y_5:List UInt8)=>(toArr 32 y_5).bind fun(a_1:Vector UInt8 32)=>((y53 (y,y_1,y_2,y_3,a,a_1,())).bind fun(r:Bool)=>bif !r then some true else(y47 (y,y_1,y_2,y_3,a,a_1,())).bind fun(r:List UInt8)=>(y21 r x0).bind fun(r:Bool)=>some !r).bind fun(x:Bool)=>bif x then some (((0:Int),(0:Int),(0:Int),(0:Int),Vector.replicate 32 (0:UInt8),Vector.replicate 32 (0:UInt8),()),false)else some ((y,y_1,y_2,y_3,a,a_1,()),true)
noncomputable def K20(y21:T21)(y47:T47)(y51:T51)(y52:T52)(y53:T53):Ctx:=mkC tys cells maps [(i21,⟨P21,R21,fun x=>y21 x.1 x.2.1⟩),(i47,⟨P47,R47,fun x=>y47 x.1⟩),(i51,⟨P51,R51,fun x=>y51 x.1 x.2.1⟩),(i52,⟨P52,R52,fun x=>y52 x.1 x.2.1⟩),(i53,⟨P53,R53,fun x=>y53 x.1⟩)] [] []
theorem a20(y21:T21)(y47:T47)(y51:T51)(y52:T52)(y53:T53)(x0:List UInt8):evF (K20 y21 y47 y51 y52 y53) F20 h20 P20 R20 (x0,())=t20 y21 y47 y51 y52 y53 x0:=by kernel_rfl
noncomputable def t13(x0 x1:List UInt8):Option Bool:=bif decide ((↑x0.length:Int)≠(↑x1.length:Int))then some false else(iter (fun(x:Int)=>bif decide (x<(↑x0.length:Int))then(at? x0 x).bind fun(y:UInt8)=>(at? x1 x).bind fun(y_1:UInt8)=>bif decide (y≠y_1)then some (Sum.inr (Sum.inr false))else some (Sum.inl (addI x (1:Int)))else some (Sum.inr (Sum.inl ()))) (0:Int)).bind fun(y:Unit ⊕ Bool)=>sumE y (fun(x:Unit)=>some true) fun(x:Bool)=>some x
theorem e13(x0 x1:List UInt8):f13 x0 x1=t13 x0 x1:=by kernel_rfl
end Mx
end
section
open Go Go.Proofs Ev Sx
namespace Mx
noncomputable def t64(y102:T102)(x0:List UInt8):Option (List UInt8):=(y102 (↑x0.length:Int)).bind fun(r:List UInt8)=>(fits? r).bind fun(l:List UInt8)=>(app? l [(58:UInt8)]).bind fun(zs:List UInt8)=>(app? zs x0).bind fun(zs:List UInt8)=>(app? zs [(44:UInt8)]).bind fun(zs:List UInt8)=>some zs
noncomputable def K64(y102:T102):Ctx:=mkC tys cells maps [(i102,⟨P102,R102,fun x=>y102 x.1⟩)] [] []
theorem a64(y102:T102)(x0:List UInt8):evF (K64 y102) F64 h64 P64 R64 (x0,())=t64 y102 x0:=by kernel_rfl
theorem e64(x0:List UInt8):f64 x0=t64 f102 x0:=Eq.trans (b:=evF (K64 f102) F64 h64 P64 R64 (x0,())) (by kernel_rfl) (a64 f102 x0)
noncomputable def t29(y63:T63)(y64:T64)(x0:List UInt8)(x1:List (List UInt8)):Option (List UInt8):=(fits? x0).bind fun(l:List UInt8)=>(y64 l).bind fun(r:List UInt8)=>(y63 x1).bind fun(r_1:List UInt8)=>(app? r r_1).bind fun(zs:List UInt8)=>some zs
noncomputable def K29(y63:T63)(y64:T64):Ctx:=mkC tys cells maps [(i63,⟨P63,R63,fun x=>y63 x.1⟩),(i64,⟨P64,R64,fun x=>y64 x.1⟩)] [] []
theorem a29(y63:T63)(y64:T64)(x0:List UInt8)(x1:List (List UInt8)):evF (K29 y63 y64) F29 h29 P29 R29 (x0,x1,())=t29 y63 y64 x0 x1:=by kernel_rfl
theorem e29(x0:List UInt8)(x1:List (List UInt8)):f29 x0 x1=t29 f63 f64 x0 x1:=Eq.trans (b:=evF (K29 f63 f64) F29 h29 P29 R29 (x0,x1,())) (by kernel_rfl) (a29 f63 f64 x0 x1)
noncomputable def t31(y44:T44)(x0:List UInt8):Option (Vector UInt8 32):=(y44 [(108:UInt8),(101:UInt8),(97:UInt8),(102:UInt8)] [x0]).bind fun(r:Vector UInt8 32)=>some r
noncomputable def K31(y44:T44):Ctx:=mkC tys cells maps [(i44,⟨P44,R44,fun x=>y44 x.1 x.2.1⟩)] [] []
theorem a31(y44:T44)(x0:List UInt8):evF (K31 y44) F31 h31 P31 R31 (x0,())=t31 y44 x0:=by kernel_rfl
theorem e31(x0:List UInt8):f31 x0=t31 f44 x0:=Eq.trans (b:=evF (K31 f44) F31 h31 P31 R31 (x0,())) (by kernel_rfl) (a31 f44 x0)
noncomputable def t66(y44:T44)(y103:T103)(x0:List (Vector UInt8 32)):Option (List (Vector UInt8 32)):=(fits? x0).bind fun(ys:List (Vector UInt8 32))=>(iter (fun(x:List (Vector UInt8 32))=>(y103 (↑x0.length:Int)).bind fun(r:Int)=>bif decide ((↑x.length:Int)<r)then(y44 [(112:UInt8),(97:UInt8),(100:UInt8)] []).bind fun(r:Vector UInt8 32)=>(app? x [r]).bind fun(zs:List (Vector UInt8 32))=>some (Sum.inl zs)else some (Sum.inr x)) ys).bind fun(y:List (Vector UInt8 32))=>some y
noncomputable def K66(y44:T44)(y103:T103):Ctx:=mkC tys cells maps [(i44,⟨P44,R44,fun x=>y44 x.1 x.2.1⟩),(i103,⟨P103,R103,fun x=>y103 x.1⟩)] [] []
theorem a66(y44:T44)(y103:T103)(x0:List (Vector UInt8 32)):evF (K66 y44 y103) F66 h66 P66 R66 (x0,())=t66 y44 y103 x0:=by kernel_rfl
theorem e66(x0:List (Vector UInt8 32)):f66 x0=t66 f44 f103 x0:=Eq.trans (b:=evF (K66 f44 f103) F66 h66 P66 R66 (x0,())) (by kernel_rfl) (a66 f44 f103 x0)
noncomputable def t38(y66:T66)(y67:T67)(x0:List (Vector UInt8 32)):Option (Vector UInt8 32):=(y66 x0).bind fun(r:List (Vector UInt8 32))=>(iter (fun(x:List (Vector UInt8 32))=>bif decide ((1:Int)<(↑x.length:Int))then(y67 x).bind fun(r:List (Vector UInt8 32))=>some (Sum.inl r)else some (Sum.inr x)) r).bind fun(y:List (Vector UInt8 32))=>(at? y (0:Int)).bind fun(y:Vector UInt8 32)=>some y
noncomputable def K38(y66:T66)(y67:T67):Ctx:=mkC tys cells maps [(i66,⟨P66,R66,fun x=>y66 x.1⟩),(i67,⟨P67,R67,fun x=>y67 x.1⟩)] [] []
theorem a38(y66:T66)(y67:T67)(x0:List (Vector UInt8 32)):evF (K38 y66 y67) F38 h38 P38 R38 (x0,())=t38 y66 y67 x0:=by kernel_rfl
theorem e38(x0:List (Vector UInt8 32)):f38 x0=t38 f66 f67 x0:=Eq.trans (b:=evF (K38 f66 f67) F38 h38 P38 R38 (x0,())) (by kernel_rfl) (a38 f66 f67 x0)
noncomputable def t36(y78:T78)(y79:T79)(y80:T80)(x0:List UInt8)(x1 x2:Int):Option (List (List UInt8)):=(y78 x0 x1).bind fun(r:List UInt8)=>(quoI (↑r.length:Int) x1).bind fun(c:Int)=>(y79 x1 x2).bind fun(r_1:List (List UInt8))=>(iter (fun(x:List (List UInt8)×Int)=>bif decide (x.2<x2)then(zeros? c (0:UInt8)).bind fun(r_2:List UInt8)=>(iter (fun(x_1:Int×List UInt8)=>bif decide (x_1.1<x1)then(iter (fun(x_2:Int×List UInt8)=>bif decide (x_2.1<c)then if(0:Int)<=x_2.1∧x_2.1<(↑x_2.2.length:Int)then(at? r_1 x.2).bind fun(y:List UInt8)=>(at? y x_1.1).bind fun(y:UInt8)=>(at? r (addI (mulI x_1.1 c) x_2.1)).bind fun(y_1:UInt8)=>(y80 y y_1).bind fun(r:UInt8)=>if(0:Int)<=x_2.1∧x_2.1<(↑x_2.2.length:Int)then some (Sum.inl (addI x_2.1 (1:Int),x_2.2.set x_2.1.toNat (x_2.2.getD x_2.1.toNat (0:UInt8)^^^r)))else none else none else some (Sum.inr x_2.2)) ((0:Int),x_1.2)).bind fun(y:List UInt8)=>some (Sum.inl (addI x_1.1 (1:Int),y))else some (Sum.inr x_1.2)) ((0:Int),r_2)).bind fun(y:List UInt8)=>(app? x.1 [y]).bind fun(zs:List (List UInt8))=>some (Sum.inl (zs,addI x.2 (1:Int)))else some (Sum.inr x.1)) ([],(0:Int))).bind fun(y:List (List UInt8))=>some y
noncomputable def K36(y78:T78)(y79:T79)(y80:T80):Ctx:=mkC tys cells maps [(i78,⟨P78,R78,fun x=>y78 x.1 x.2.1⟩),(i79,⟨P79,R79,fun x=>y79 x.1 x.2.1⟩),(i80,⟨P80,R80,fun x=>y80 x.1 x.2.1⟩)] [] []
theorem a36(y78:T78)(y79:T79)(y80:T80)(x0:List UInt8)(x1 x2:Int):evF (K36 y78 y79 y80) F36 h36 P36 R36 (x0,x1,x2,())=t36 y78 y79 y80 x0 x1 x2:=by kernel_rfl
theorem e36(x0:List UInt8)(x1 x2:Int):f36 x0 x1 x2=t36 f78 f79 f80 x0 x1 x2:=Eq.trans (b:=evF (K36 f78 f79 f80) F36 h36 P36 R36 (x0,x1,x2,())) (by kernel_rfl) (a36 f78 f79 f80 x0 x1 x2)
noncomputable def t43(y81:T81)(x0:Vector UInt8 256)(x1:Vector (Vector UInt8 16) 11)(x2:Vector UInt8 16):Option (Vector UInt8 16):=(iter (fun(x:Int×Vector UInt8 16)=>bif decide (x.1<(16:Int))then if(0:Int)<=x.1∧x.1<(16:Int)then if(0:Int)<=x.1∧x.1<(16:Int)then if(0:Int)<=x.1∧x.1<(16:Int)then some (Sum.inl (addI x.1 (1:Int),x.2.setIfInBounds x.1.toNat (x.2[x.1.toNat]?.getD (0:UInt8)^^^(x1[(0:Nat)]?.getD (Vector.replicate 16 (0:UInt8)))[x.1.toNat]?.getD (0:UInt8))))else none else none else none else some (Sum.inr x.2)) ((0:Int),x2)).bind fun(y:Vector UInt8 16)=>(iter (fun(x:Int×Vector UInt8 16)=>bif decide (x.1<(11:Int))then(iter (fun(x_1:Int×Vector UInt8 16)=>bif decide (x_1.1<(4:Int))then(iter (fun(x_2:Int×Vector UInt8 16)=>bif decide (x_2.1<(4:Int))then(remI (addI (mulI (4:Int) (addI x_1.1 x_2.1)) x_2.1) (16:Int)).bind fun(c:Int)=>if(0:Int)<=c∧c<(16:Int)then if(0:Int)<=(↑(x.2[c.toNat]?.getD (0:UInt8)).toNat:Int)∧(↑(x.2[c.toNat]?.getD (0:UInt8)).toNat:Int)<(256:Int)then if(0:Int)<=addI (mulI (4:Int) x_1.1) x_2.1∧addI (mulI (4:Int) x_1.1) x_2.1<(16:Int)then some (Sum.inl (addI x_2.1 (1:Int),x_2.2.setIfInBounds (addI (mulI (4:Int) x_1.1) x_2.1).toNat (x0[(↑(x.2[c.toNat]?.getD (0:UInt8)).toNat:Int).toNat]?.getD (0:UInt8))))else none else none else none else some (Sum.inr x_2.2)) ((0:Int),x_1.2)).bind fun(y:Vector UInt8 16)=>some (Sum.inl (addI x_1.1 (1:Int),y))else some (Sum.inr x_1.2)) ((0:Int),Vector.replicate 16 (0:UInt8))).bind fun(y:Vector UInt8 16)=>(bif decide (x.1<(10:Int))then(iter (fun(x:Int×Vector UInt8 16)=>bif decide (x.1<(4:Int))then if(0:Int)<=mulI (4:Int) x.1∧mulI (4:Int) x.1<(16:Int)then if(0:Int)<=addI (mulI (4:Int) x.1) (1:Int)∧addI (mulI (4:Int) x.1) (1:Int)<(16:Int)then if(0:Int)<=addI (mulI (4:Int) x.1) (2:Int)∧addI (mulI (4:Int) x.1) (2:Int)<(16:Int)then if(0:Int)<=addI (mulI (4:Int) x.1) (3:Int)∧addI (mulI (4:Int) x.1) (3:Int)<(16:Int)then(iter (fun(x_1:Int×Vector UInt8 16)=>bif decide (x_1.1<(4:Int))then if(0:Int)<=x_1.1∧x_1.1<(4:Int)then(y81 ((vecOf 4 [x.2[(mulI (4:Int) x.1).toNat]?.getD (0:UInt8),x.2[(addI (mulI (4:Int) x.1) (1:Int)).toNat]?.getD (0:UInt8),x.2[(addI (mulI (4:Int) x.1) (2:Int)).toNat]?.getD (0:UInt8),x.2[(addI (mulI (4:Int) x.1) (3:Int)).toNat]?.getD (0:UInt8)] (0:UInt8))[x_1.1.toNat]?.getD (0:UInt8))).bind fun(r:UInt8)=>(remI (addI x_1.1 (1:Int)) (4:Int)).bind fun(c:Int)=>if(0:Int)<=c∧c<(4:Int)then(y81 ((vecOf 4 [x.2[(mulI (4:Int) x.1).toNat]?.getD (0:UInt8),x.2[(addI (mulI (4:Int) x.1) (1:Int)).toNat]?.getD (0:UInt8),x.2[(addI (mulI (4:Int) x.1) (2:Int)).toNat]?.getD (0:UInt8),x.2[(addI (mulI (4:Int) x.1) (3:Int)).toNat]?.getD (0:UInt8)] (0:UInt8))[c.toNat]?.getD (0:UInt8))).bind fun(r_1:UInt8)=>(remI (addI x_1.1 (1:Int)) (4:Int)).bind fun(c:Int)=>if(0:Int)<=c∧c<(4:Int)then(remI (addI x_1.1 (2:Int)) (4:Int)).bind fun(c_1:Int)=>if(0:Int)<=c_1∧c_1<(4:Int)then(remI (addI x_1.1 (3:Int)) (4:Int)).bind fun(c_2:Int)=>if(0:Int)<=c_2∧c_2<(4:Int)then if(0:Int)<=addI (mulI (4:Int) x.1) x_1.1∧addI (mulI (4:Int) x.1) x_1.1<(16:Int)then some (Sum.inl (addI x_1.1 (1:Int),x_1.2.setIfInBounds (addI (mulI (4:Int) x.1) x_1.1).toNat (r^^^r_1^^^(vecOf 4 [x.2[(mulI (4:Int) x.1).toNat]?.getD (0:UInt8),x.2[(addI (mulI (4:Int) x.1) (1:Int)).toNat]?.getD (0:UInt8),x.2[(addI (mulI (4:Int) x.1) (2:Int)).toNat]?.getD (0:UInt8),x.2[(addI (mulI (4:Int) x.1) (3:Int)).toNat]?.getD (0:UInt8)] (0:UInt8))[c.toNat]?.getD (0:UInt8)^^^(vecOf 4 [x.2[(mulI (4:Int) x.1).toNat]?.getD (0:UInt8),x.2[(addI (mulI (4:Int) x.1) (1:Int)).toNat]?.getD (0:UInt8),x.2[(addI (mulI (4:Int) x.1) (2:Int)).toNat]?.getD (0:UInt8),x.2[(addI (mulI (4:Int) x.1) (3:Int)).toNat]?.getD (0:UInt8)] (0:UInt8))[c_1.toNat]?.getD (0:UInt8)^^^(vecOf 4 [x.2[(mulI (4:Int) x.1).toNat]?.getD (0:UInt8),x.2[(addI (mulI (4:Int) x.1) (1:Int)).toNat]?.getD (0:UInt8),x.2[(addI (mulI (4:Int) x.1) (2:Int)).toNat]?.getD (0:UInt8),x.2[(addI (mulI (4:Int) x.1) (3:Int)).toNat]?.getD (0:UInt8)] (0:UInt8))[c_2.toNat]?.getD (0:UInt8))))else none else none else none else none else none else none else some (Sum.inr x_1.2)) ((0:Int),x.2)).bind fun(y:Vector UInt8 16)=>some (Sum.inl (addI x.1 (1:Int),y))else none else none else none else none else some (Sum.inr x.2)) ((0:Int),y)).bind fun(y:Vector UInt8 16)=>some y else some y).bind fun(x_1:Vector UInt8 16)=>(iter (fun(x_2:Int×Vector UInt8 16)=>bif decide (x_2.1<(16:Int))then if(0:Int)<=x_2.1∧x_2.1<(16:Int)then if(0:Int)<=x.1∧x.1<(11:Int)then if(0:Int)<=x_2.1∧x_2.1<(16:Int)then if(0:Int)<=x_2.1∧x_2.1<(16:Int)then some (Sum.inl (addI x_2.1 (1:Int),x_2.2.setIfInBounds x_2.1.toNat (x_1[x_2.1.toNat]?.getD (0:UInt8)^^^(x1[x.1.toNat]?.getD (Vector.replicate 16 (0:UInt8)))[x_2.1.toNat]?.getD (0:UInt8))))else none else none else none else none else some (Sum.inr x_2.2)) ((0:Int),x.2)).bind fun(y:Vector UInt8 16)=>some (Sum.inl (addI x.1 (1:Int),y))else some (Sum.inr x.2)) ((1:Int),y)).bind fun(y:Vector UInt8 16)=>some y
noncomputable def K43(y81:T81):Ctx:=mkC tys cells maps [(i81,⟨P81,R81,fun x=>y81 x.1⟩)] [] []
theorem a43(y81:T81)(x0:Vector UInt8 256)(x1:Vector (Vector UInt8 16) 11)(x2:Vector UInt8 16):evF (K43 y81) F43 h43 P43 R43 (x0,x1,x2,())=t43 y81 x0 x1 x2:=by kernel_rfl
theorem e43(x0:Vector UInt8 256)(x1:Vector (Vector UInt8 16) 11)(x2:Vector UInt8 16):f43 x0 x1 x2=t43 f81 x0 x1 x2:=Eq.trans (b:=evF (K43 f81) F43 h43 P43 R43 (x0,x1,x2,())) (by kernel_rfl) (a43 f81 x0 x1 x2)
noncomputable def t61(y100:T100)(y101:T101)(x0:Vector (Vector UInt8 16) 11)(x1:Vector UInt8 256)(x2:Vector UInt8 16):Option (Vector UInt8 16):=(y100 x2 (x0[(0:Nat)]?.getD (Vector.replicate 16 (0:UInt8)))).bind fun(r:Vector UInt8 16)=>(iter (fun(x:Int×Vector UInt8 16)=>bif decide (x.1<(11:Int))then(iter (fun(x_1:Int×Vector UInt8 16)=>bif decide (x_1.1<(16:Int))then(remI x_1.1 (4:Int)).bind fun(c:Int)=>(remI (addI x_1.1 (mulI (4:Int) c)) (16:Int)).bind fun(c:Int)=>if(0:Int)<=c∧c<(16:Int)then if(0:Int)<=(↑(x.2[c.toNat]?.getD (0:UInt8)).toNat:Int)∧(↑(x.2[c.toNat]?.getD (0:UInt8)).toNat:Int)<(256:Int)then if(0:Int)<=x_1.1∧x_1.1<(16:Int)then some (Sum.inl (addI x_1.1 (1:Int),x_1.2.setIfInBounds x_1.1.toNat (x1[(↑(x.2[c.toNat]?.getD (0:UInt8)).toNat:Int).toNat]?.getD (0:UInt8))))else none else none else none else some (Sum.inr x_1.2)) ((0:Int),Vector.replicate 16 (0:UInt8))).bind fun(y:Vector UInt8 16)=>(bif decide (x.1<(10:Int))then(y101 y).bind fun(r:Vector UInt8 16)=>some r else some y).bind fun(x_1:Vector UInt8 16)=>if(0:Int)<=x.1∧x.1<(11:Int)then(y100 x_1 (x0[x.1.toNat]?.getD (Vector.replicate 16 (0:UInt8)))).bind fun(r:Vector UInt8 16)=>some (Sum.inl (addI x.1 (1:Int),r))else none else some (Sum.inr x.2)) ((1:Int),r)).bind fun(y:Vector UInt8 16)=>some y
noncomputable def K61(y100:T100)(y101:T101):Ctx:=mkC tys cells maps [(i100,⟨P100,R100,fun x=>y100 x.1 x.2.1⟩),(i101,⟨P101,R101,fun x=>y101 x.1⟩)] [] []
theorem a61(y100:T100)(y101:T101)(x0:Vector (Vector UInt8 16) 11)(x1:Vector UInt8 256)(x2:Vector UInt8 16):evF (K61 y100 y101) F61 h61 P61 R61 (x0,x1,x2,())=t61 y100 y101 x0 x1 x2:=by kernel_rfl
theorem e61(x0:Vector (Vector UInt8 16) 11)(x1:Vector UInt8 256)(x2:Vector UInt8 16):f61 x0 x1 x2=t61 f100 f101 x0 x1 x2:=Eq.trans (b:=evF (K61 f100 f101) F61 h61 P61 R61 (x0,x1,x2,())) (by kernel_rfl) (a61 f100 f101 x0 x1 x2)
noncomputable def t185(x0:UInt8):Option UInt8:=bif decide (x0&&&(128:UInt8)≠(0:UInt8))then some (shl8 x0 (1:Nat)^^^(29:UInt8))else some (shl8 x0 (1:Nat))
theorem e185(x0:UInt8):f185 x0=t185 x0:=by kernel_rfl
noncomputable def t164(y161:T161)(y188:T188)(x0:Vector UInt8 510×Vector Int 256×Unit)(x1 x2:List UInt8):Option UInt8:=(y188 (fun(y:UInt8×UInt8)=>(y161 x0 y.1 y.2).bind fun(r:UInt8)=>some r) x1 x2).bind fun(r:UInt8)=>some r
noncomputable def K164(y161:T161)(y188:T188):Ctx:=mkC tys cells maps [(i161,⟨P161,R161,fun x=>y161 x.1 x.2.1 x.2.2.1⟩),(i188,⟨P188,R188,fun x=>y188 x.1 x.2.1 x.2.2.1⟩)] [] []
theorem a164(y161:T161)(y188:T188)(x0:Vector UInt8 510×Vector Int 256×Unit)(x1 x2:List UInt8):evF (K164 y161 y188) F164 h164 P164 R164 (x0,x1,x2,())=t164 y161 y188 x0 x1 x2:=by kernel_rfl
theorem e164(x0:Vector UInt8 510×Vector Int 256×Unit)(x1 x2:List UInt8):f164 x0 x1 x2=t164 f161 f188 x0 x1 x2:=Eq.trans (b:=evF (K164 f161 f188) F164 h164 P164 R164 (x0,x1,x2,())) (by kernel_rfl) (a164 f161 f188 x0 x1 x2)
noncomputable def t95(y127:T127)(x0:List UInt8):Option (List UInt8):=(y127 (↑x0.length:Int)).bind fun(r:List UInt8)=>(fits? r).bind fun(l:List UInt8)=>(app? l [(58:UInt8)]).bind fun(zs:List UInt8)=>(app? zs x0).bind fun(zs:List UInt8)=>(app? zs [(44:UInt8)]).bind fun(zs:List UInt8)=>some zs
noncomputable def K95(y127:T127):Ctx:=mkC tys cells maps [(i127,⟨P127,R127,fun x=>y127 x.1⟩)] [] []
theorem a95(y127:T127)(x0:List UInt8):evF (K95 y127) F95 h95 P95 R95 (x0,())=t95 y127 x0:=by kernel_rfl
theorem e95(x0:List UInt8):f95 x0=t95 f127 x0:=Eq.trans (b:=evF (K95 f127) F95 h95 P95 R95 (x0,())) (by kernel_rfl) (a95 f127 x0)
noncomputable def t190:Option (Vector UInt32 64):=some (vecOf 64 [(1116352408:UInt32),(1899447441:UInt32),(3049323471:UInt32),(3921009573:UInt32),(961987163:UInt32),(1508970993:UInt32),(2453635748:UInt32),(2870763221:UInt32),(3624381080:UInt32),(310598401:UInt32),(607225278:UInt32),(1426881987:UInt32),(1925078388:UInt32),(2162078206:UInt32),(2614888103:UInt32),(3248222580:UInt32),(3835390401:UInt32),(4022224774:UInt32),(264347078:UInt32),(604807628:UInt32),(770255983:UInt32),(1249150122:UInt32),(1555081692:UInt32),(1996064986:UInt32),(2554220882:UInt32),(2821834349:UInt32),(2952996808:UInt32),(3210313671:UInt32),(3336571891:UInt32),(3584528711:UInt32),(113926993:UInt32),(338241895:UInt32),(666307205:UInt32),(773529912:UInt32),(1294757372:UInt32),(1396182291:UInt32),(1695183700:UInt32),(1986661051:UInt32),(2177026350:UInt32),(2456956037:UInt32),(2730485921:UInt32),(2820302411:UInt32),(3259730800:UInt32),(3345764771:UInt32),(3516065817:UInt32),(3600352804:UInt32),(4094571909:UInt32),(275423344:UInt32),(430227734:UInt32),(506948616:UInt32),(659060556:UInt32),(883997877:UInt32),(958139571:UInt32),(1322822218:UInt32),(1537002063:UInt32),(1747873779:UInt32),(1955562222:UInt32),(2024104815:UInt32),(2227730452:UInt32),(2361852424:UInt32),(2428436474:UInt32),(2756734187:UInt32),(3204031479:UInt32),(3329325298:UInt32)] (0:UInt32))
theorem e190:f190=t190:=by kernel_rfl
noncomputable def t169(y191:T191)(x0:Vector UInt32 8×Vector UInt32 64×List UInt8×Int×Unit)(x1:List UInt8):Option (Int×Vector UInt32 8×Vector UInt32 64×List UInt8×Int×Unit):=(fits? x0.2.2.1).bind fun(ys:List UInt8)=>(app? ys x1).bind fun(zs:List UInt8)=>(iter (fun(x:List UInt8×Vector UInt32 8×Vector UInt32 64×List UInt8×Int×Unit)=>bif decide ((64:Int)<=(↑x.1.length:Int))then(cut? x.1 (0:Int) (64:Int)).bind fun(r:List UInt8)=>(y191 x.2.1 x.2.2.1 r).bind fun(r:Vector UInt32 8)=>(cut? x.1 (64:Int) (↑x.1.length:Int)).bind fun(r_1:List UInt8)=>some (Sum.inl (r_1,r,x.2.2))else some (Sum.inr (x.1,x.2))) (zs,x0.1,x0.2.1,x0.2.2.1,addI x0.2.2.2.1 (↑x1.length:Int),x0.2.2.2.2)).bind fun(y:List UInt8×Vector UInt32 8×Vector UInt32 64×List UInt8×Int×Unit)=>some (y.2.2.2.2.1,y.2.1,y.2.2.1,y.1,y.2.2.2.2)
noncomputable def K169(y191:T191):Ctx:=mkC tys cells maps [(i191,⟨P191,R191,fun x=>y191 x.1 x.2.1 x.2.2.1⟩)] [] []
theorem a169(y191:T191)(x0:Vector UInt32 8×Vector UInt32 64×List UInt8×Int×Unit)(x1:List UInt8):evF (K169 y191) F169 h169 P169 R169 (x0,x1,())=t169 y191 x0 x1:=by kernel_rfl
theorem e169(x0:Vector UInt32 8×Vector UInt32 64×List UInt8×Int×Unit)(x1:List UInt8):f169 x0 x1=t169 f191 x0 x1:=Eq.trans (b:=evF (K169 f191) F169 h169 P169 R169 (x0,x1,())) (by kernel_rfl) (a169 f191 x0 x1)
noncomputable def t90(y54:T54)(y125:T125)(x0:List UInt8)(x1:List (List UInt8)):Option (Vector UInt8 32):=(y54 x0 x1).bind fun(r:List UInt8)=>(y125 r).bind fun(r:Vector UInt8 32)=>some r
noncomputable def K90(y54:T54)(y125:T125):Ctx:=mkC tys cells maps [(i54,⟨P54,R54,fun x=>y54 x.1 x.2.1⟩),(i125,⟨P125,R125,fun x=>y125 x.1⟩)] [] []
theorem a90(y54:T54)(y125:T125)(x0:List UInt8)(x1:List (List UInt8)):evF (K90 y54 y125) F90 h90 P90 R90 (x0,x1,())=t90 y54 y125 x0 x1:=by kernel_rfl
theorem e90(x0:List UInt8)(x1:List (List UInt8)):f90 x0 x1=t90 f54 f125 x0 x1:=Eq.trans (b:=evF (K90 f54 f125) F90 h90 P90 R90 (x0,x1,())) (by kernel_rfl) (a90 f54 f125 x0 x1)
noncomputable def t129(y125:T125)(y130:T130)(x0 x1:Vector UInt8 32):Option (Vector UInt8 32):=(y130 x0 x1).bind fun(r:List UInt8)=>(y125 r).bind fun(r:Vector UInt8 32)=>some r
noncomputable def K129(y125:T125)(y130:T130):Ctx:=mkC tys cells maps [(i125,⟨P125,R125,fun x=>y125 x.1⟩),(i130,⟨P130,R130,fun x=>y130 x.1 x.2.1⟩)] [] []
theorem a129(y125:T125)(y130:T130)(x0 x1:Vector UInt8 32):evF (K129 y125 y130) F129 h129 P129 R129 (x0,x1,())=t129 y125 y130 x0 x1:=by kernel_rfl
theorem e129(x0 x1:Vector UInt8 32):f129 x0 x1=t129 f125 f130 x0 x1:=Eq.trans (b:=evF (K129 f125 f130) F129 h129 P129 R129 (x0,x1,())) (by kernel_rfl) (a129 f125 f130 x0 x1)
noncomputable def t48(y55:T55)(y56:T56)(y87:T87)(x0:List UInt8):Option (Vector UInt8 32):=(y55 x0).bind fun(r:List (List UInt8))=>(iter (fun(x:List (Vector UInt8 32)×Int)=>bif decide (x.2<(↑r.length:Int))then(at? r x.2).bind fun(y:List UInt8)=>(y56 y).bind fun(r:Vector UInt8 32)=>(app? x.1 [r]).bind fun(zs:List (Vector UInt8 32))=>some (Sum.inl (zs,addI x.2 (1:Int)))else some (Sum.inr x.1)) ([],(0:Int))).bind fun(y:List (Vector UInt8 32))=>(y87 y).bind fun(r:Vector UInt8 32)=>some r
noncomputable def K48(y55:T55)(y56:T56)(y87:T87):Ctx:=mkC tys cells maps [(i55,⟨P55,R55,fun x=>y55 x.1⟩),(i56,⟨P56,R56,fun x=>y56 x.1⟩),(i87,⟨P87,R87,fun x=>y87 x.1⟩)] [] []
theorem a48(y55:T55)(y56:T56)(y87:T87)(x0:List UInt8):evF (K48 y55 y56 y87) F48 h48 P48 R48 (x0,())=t48 y55 y56 y87 x0:=by kernel_rfl
theorem e48(x0:List UInt8):f48 x0=t48 f55 f56 f87 x0:=Eq.trans (b:=evF (K48 f55 f56 f87) F48 h48 P48 R48 (x0,())) (by kernel_rfl) (a48 f55 f56 f87 x0)
end Mx
end
section
open Go Go.Proofs Ev Sx
namespace Mx
noncomputable def t63(y64:T64)(x0:List (List UInt8)):Option (List UInt8):=(iter (fun(x:List UInt8×Int)=>bif decide (x.2<(↑x0.length:Int))then(at? x0 x.2).bind fun(y:List UInt8)=>(y64 y).bind fun(r:List UInt8)=>(app? x.1 r).bind fun(zs:List UInt8)=>some (Sum.inl (zs,addI x.2 (1:Int)))else some (Sum.inr x.1)) ([],(0:Int))).bind fun(y:List UInt8)=>some y
noncomputable def K63(y64:T64):Ctx:=mkC tys cells maps [(i64,⟨P64,R64,fun x=>y64 x.1⟩)] [] []
theorem a63(y64:T64)(x0:List (List UInt8)):evF (K63 y64) F63 h63 P63 R63 (x0,())=t63 y64 x0:=by kernel_rfl
theorem e63(x0:List (List UInt8)):f63 x0=t63 f64 x0:=Eq.trans (b:=evF (K63 f64) F63 h63 P63 R63 (x0,())) (by kernel_rfl) (a63 f64 x0)
noncomputable def t118:Option (Vector UInt32 64):=some (vecOf 64 [(1116352408:UInt32),(1899447441:UInt32),(3049323471:UInt32),(3921009573:UInt32),(961987163:UInt32),(1508970993:UInt32),(2453635748:UInt32),(2870763221:UInt32),(3624381080:UInt32),(310598401:UInt32),(607225278:UInt32),(1426881987:UInt32),(1925078388:UInt32),(2162078206:UInt32),(2614888103:UInt32),(3248222580:UInt32),(3835390401:UInt32),(4022224774:UInt32),(264347078:UInt32),(604807628:UInt32),(770255983:UInt32),(1249150122:UInt32),(1555081692:UInt32),(1996064986:UInt32),(2554220882:UInt32),(2821834349:UInt32),(2952996808:UInt32),(3210313671:UInt32),(3336571891:UInt32),(3584528711:UInt32),(113926993:UInt32),(338241895:UInt32),(666307205:UInt32),(773529912:UInt32),(1294757372:UInt32),(1396182291:UInt32),(1695183700:UInt32),(1986661051:UInt32),(2177026350:UInt32),(2456956037:UInt32),(2730485921:UInt32),(2820302411:UInt32),(3259730800:UInt32),(3345764771:UInt32),(3516065817:UInt32),(3600352804:UInt32),(4094571909:UInt32),(275423344:UInt32),(430227734:UInt32),(506948616:UInt32),(659060556:UInt32),(883997877:UInt32),(958139571:UInt32),(1322822218:UInt32),(1537002063:UInt32),(1747873779:UInt32),(1955562222:UInt32),(2024104815:UInt32),(2227730452:UInt32),(2361852424:UInt32),(2428436474:UInt32),(2756734187:UInt32),(3204031479:UInt32),(3329325298:UInt32)] (0:UInt32))
theorem e118:f118=t118:=by kernel_rfl
noncomputable def t70(y31:T31)(x0:List (List UInt8)):Option (List (Vector UInt8 32)):=(iter (fun(x:List (Vector UInt8 32)×Int)=>bif decide (x.2<(↑x0.length:Int))then(at? x0 x.2).bind fun(y:List UInt8)=>(y31 y).bind fun(r:Vector UInt8 32)=>(app? x.1 [r]).bind fun(zs:List (Vector UInt8 32))=>some (Sum.inl (zs,addI x.2 (1:Int)))else some (Sum.inr x.1)) ([],(0:Int))).bind fun(y:List (Vector UInt8 32))=>some y
noncomputable def K70(y31:T31):Ctx:=mkC tys cells maps [(i31,⟨P31,R31,fun x=>y31 x.1⟩)] [] []
theorem a70(y31:T31)(x0:List (List UInt8)):evF (K70 y31) F70 h70 P70 R70 (x0,())=t70 y31 x0:=by kernel_rfl
theorem e70(x0:List (List UInt8)):f70 x0=t70 f31 x0:=Eq.trans (b:=evF (K70 f31) F70 h70 P70 R70 (x0,())) (by kernel_rfl) (a70 f31 x0)
noncomputable def t68(y29:T29)(x0 x1:Vector UInt8 32):Option (List UInt8):=(y29 [(110:UInt8),(111:UInt8),(100:UInt8),(101:UInt8)] [List.take 32 (List.drop (0:Nat) x0.toList),List.take 32 (List.drop (0:Nat) x1.toList)]).bind fun(r:List UInt8)=>some r
noncomputable def K68(y29:T29):Ctx:=mkC tys cells maps [(i29,⟨P29,R29,fun x=>y29 x.1 x.2.1⟩)] [] []
theorem a68(y29:T29)(x0 x1:Vector UInt8 32):evF (K68 y29) F68 h68 P68 R68 (x0,x1,())=t68 y29 x0 x1:=by kernel_rfl
theorem e68(x0 x1:Vector UInt8 32):f68 x0 x1=t68 f29 x0 x1:=Eq.trans (b:=evF (K68 f29) F68 h68 P68 R68 (x0,x1,())) (by kernel_rfl) (a68 f29 x0 x1)
noncomputable def t28(y30:T30)(y33:T33)(y38:T38)(x0:List UInt8):Option (Vector UInt8 32):=(y30 x0).bind fun(r:List (List UInt8))=>(y33 r).bind fun(r:List (Vector UInt8 32))=>(y38 r).bind fun(r:Vector UInt8 32)=>some r
noncomputable def K28(y30:T30)(y33:T33)(y38:T38):Ctx:=mkC tys cells maps [(i30,⟨P30,R30,fun x=>y30 x.1⟩),(i33,⟨P33,R33,fun x=>y33 x.1⟩),(i38,⟨P38,R38,fun x=>y38 x.1⟩)] [] []
theorem a28(y30:T30)(y33:T33)(y38:T38)(x0:List UInt8):evF (K28 y30 y33 y38) F28 h28 P28 R28 (x0,())=t28 y30 y33 y38 x0:=by kernel_rfl
theorem e28(x0:List UInt8):f28 x0=t28 f30 f33 f38 x0:=Eq.trans (b:=evF (K28 f30 f33 f38) F28 h28 P28 R28 (x0,())) (by kernel_rfl) (a28 f30 f33 f38 x0)
noncomputable def t37(y38:T38)(y70:T70)(x0:Int×List UInt8×List (Vector UInt8 32)×List (List UInt8)×Unit):Option (Vector UInt8 32):=(y70 x0.2.2.2.1).bind fun(r:List (Vector UInt8 32))=>(y38 r).bind fun(r:Vector UInt8 32)=>some r
noncomputable def K37(y38:T38)(y70:T70):Ctx:=mkC tys cells maps [(i38,⟨P38,R38,fun x=>y38 x.1⟩),(i70,⟨P70,R70,fun x=>y70 x.1⟩)] [] []
theorem a37(y38:T38)(y70:T70)(x0:Int×List UInt8×List (Vector UInt8 32)×List (List UInt8)×Unit):evF (K37 y38 y70) F37 h37 P37 R37 (x0,())=t37 y38 y70 x0:=by kernel_rfl
theorem e37(x0:Int×List UInt8×List (Vector UInt8 32)×List (List UInt8)×Unit):f37 x0=t37 f38 f70 x0:=Eq.trans (b:=evF (K37 f38 f70) F37 h37 P37 R37 (x0,())) (by kernel_rfl) (a37 f38 f70 x0)
noncomputable def t17(y40:T40)(y41:T41)(y42:T42)(y43:T43)(x0:Vector UInt8 16)(x1:Int)(x2:List UInt8):Option (List UInt8):=(y40).bind fun(r:Vector UInt8 256)=>(y41 r x0).bind fun(r_1:Vector (Vector UInt8 16) 11)=>(fits? x2).bind fun(ys:List UInt8)=>(iter (fun(x:Int×Int×List UInt8×Vector UInt8 16)=>bif decide (x.2.1<(↑ys.length:Int))then(quoI (addI (minI (maxI x1 (0:Int)) (1073741824:Int)) x.2.1) (16:Int)).bind fun(c:Int)=>(bif decide (c≠x.1)then(quoI (addI (minI (maxI x1 (0:Int)) (1073741824:Int)) x.2.1) (16:Int)).bind fun(c:Int)=>(y42 c (8:Int)).bind fun(r_2:List UInt8)=>(iter (fun(x:Int×Vector UInt8 16)=>bif decide (x.1<(↑r_2.length:Int))then if(0:Int)<=x.1∧x.1<(↑r_2.length:Int)then if(0:Int)<=addI (8:Int) x.1∧addI (8:Int) x.1<(16:Int)then some (Sum.inl (addI x.1 (1:Int),x.2.setIfInBounds (addI (8:Int) x.1).toNat (r_2.getD x.1.toNat (0:UInt8))))else none else none else some (Sum.inr x.2)) ((0:Int),Vector.replicate 16 (0:UInt8))).bind fun(y:Vector UInt8 16)=>(y43 r r_1 y).bind fun(r:Vector UInt8 16)=>some (c,r)else some (x.1,x.2.2.2)).bind fun(x_1:Int×Vector UInt8 16)=>if(0:Int)<=x.2.1∧x.2.1<(↑x.2.2.1.length:Int)then(remI (addI (minI (maxI x1 (0:Int)) (1073741824:Int)) x.2.1) (16:Int)).bind fun(c:Int)=>if(0:Int)<=c∧c<(16:Int)then if(0:Int)<=x.2.1∧x.2.1<(↑x.2.2.1.length:Int)then some (Sum.inl (x_1.1,addI x.2.1 (1:Int),x.2.2.1.set x.2.1.toNat (x.2.2.1.getD x.2.1.toNat (0:UInt8)^^^x_1.2[c.toNat]?.getD (0:UInt8)),x_1.2))else none else none else none else some (Sum.inr (x.2.2.1,x.2.2.2))) ((-1:Int),(0:Int),ys,Vector.replicate 16 (0:UInt8))).bind fun(y:List UInt8×Vector UInt8 16)=>some y.1
noncomputable def K17(y40:T40)(y41:T41)(y42:T42)(y43:T43):Ctx:=mkC tys cells maps [(i40,⟨P40,R40,fun _=>y40⟩),(i41,⟨P41,R41,fun x=>y41 x.1 x.2.1⟩),(i42,⟨P42,R42,fun x=>y42 x.1 x.2.1⟩),(i43,⟨P43,R43,fun x=>y43 x.1 x.2.1 x.2.2.1⟩)] [] []
theorem a17(y40:T40)(y41:T41)(y42:T42)(y43:T43)(x0:Vector UInt8 16)(x1:Int)(x2:List UInt8):evF (K17 y40 y41 y42 y43) F17 h17 P17 R17 (x0,x1,x2,())=t17 y40 y41 y42 y43 x0 x1 x2:=by kernel_rfl
theorem e17(x0:Vector UInt8 16)(x1:Int)(x2:List UInt8):f17 x0 x1 x2=t17 f40 f41 f42 f43 x0 x1 x2:=Eq.trans (b:=evF (K17 f40 f41 f42 f43) F17 h17 P17 R17 (x0,x1,x2,())) (by kernel_rfl) (a17 f40 f41 f42 f43 x0 x1 x2)
noncomputable def t60(y98:T98)(x0:Vector UInt8 16)(x1:Vector UInt8 256):Option (Vector (Vector UInt8 16) 11):=(iter (fun(x:UInt8×Int×Vector (Vector UInt8 16) 11)=>bif decide (x.2.1<(11:Int))then if(0:Int)<=subI x.2.1 (1:Int)∧subI x.2.1 (1:Int)<(11:Int)then if(0:Int)<=(↑((x.2.2[(subI x.2.1 (1:Int)).toNat]?.getD (Vector.replicate 16 (0:UInt8)))[(13:Nat)]?.getD (0:UInt8)).toNat:Int)∧(↑((x.2.2[(subI x.2.1 (1:Int)).toNat]?.getD (Vector.replicate 16 (0:UInt8)))[(13:Nat)]?.getD (0:UInt8)).toNat:Int)<(256:Int)then if(0:Int)<=(↑((x.2.2[(subI x.2.1 (1:Int)).toNat]?.getD (Vector.replicate 16 (0:UInt8)))[(14:Nat)]?.getD (0:UInt8)).toNat:Int)∧(↑((x.2.2[(subI x.2.1 (1:Int)).toNat]?.getD (Vector.replicate 16 (0:UInt8)))[(14:Nat)]?.getD (0:UInt8)).toNat:Int)<(256:Int)then if(0:Int)<=(↑((x.2.2[(subI x.2.1 (1:Int)).toNat]?.getD (Vector.replicate 16 (0:UInt8)))[(15:Nat)]?.getD (0:UInt8)).toNat:Int)∧(↑((x.2.2[(subI x.2.1 (1:Int)).toNat]?.getD (Vector.replicate 16 (0:UInt8)))[(15:Nat)]?.getD (0:UInt8)).toNat:Int)<(256:Int)then if(0:Int)<=(↑((x.2.2[(subI x.2.1 (1:Int)).toNat]?.getD (Vector.replicate 16 (0:UInt8)))[(12:Nat)]?.getD (0:UInt8)).toNat:Int)∧(↑((x.2.2[(subI x.2.1 (1:Int)).toNat]?.getD (Vector.replicate 16 (0:UInt8)))[(12:Nat)]?.getD (0:UInt8)).toNat:Int)<(256:Int)then(iter (fun(x_1:Int×Vector (Vector UInt8 16) 11)=>bif decide (x_1.1<(16:Int))then(bif decide (x_1.1<(4:Int))then if(0:Int)<=x_1.1∧x_1.1<(16:Int)then if(0:Int)<=x_1.1∧x_1.1<(4:Int)then if(0:Int)<=x.2.1∧x.2.1<(11:Int)then if(0:Int)<=x_1.1∧x_1.1<(16:Int)then some (x_1.2.setIfInBounds x.2.1.toNat ((x_1.2[x.2.1.toNat]?.getD (Vector.replicate 16 (0:UInt8))).setIfInBounds x_1.1.toNat ((x.2.2[(subI x.2.1 (1:Int)).toNat]?.getD (Vector.replicate 16 (0:UInt8)))[x_1.1.toNat]?.getD (0:UInt8)^^^(vecOf 4 [x1[(↑((x.2.2[(subI x.2.1 (1:Int)).toNat]?.getD (Vector.replicate 16 (0:UInt8)))[(13:Nat)]?.getD (0:UInt8)).toNat:Int).toNat]?.getD (0:UInt8)^^^x.1,x1[(↑((x.2.2[(subI x.2.1 (1:Int)).toNat]?.getD (Vector.replicate 16 (0:UInt8)))[(14:Nat)]?.getD (0:UInt8)).toNat:Int).toNat]?.getD (0:UInt8),x1[(↑((x.2.2[(subI x.2.1 (1:Int)).toNat]?.getD (Vector.replicate 16 (0:UInt8)))[(15:Nat)]?.getD (0:UInt8)).toNat:Int).toNat]?.getD (0:UInt8),x1[(↑((x.2.2[(subI x.2.1 (1:Int)).toNat]?.getD (Vector.replicate 16 (0:UInt8)))[(12:Nat)]?.getD (0:UInt8)).toNat:Int).toNat]?.getD (0:UInt8)] (0:UInt8))[x_1.1.toNat]?.getD (0:UInt8))))else none else none else none else none else if(0:Int)<=x_1.1∧x_1.1<(16:Int)then if(0:Int)<=x.2.1∧x.2.1<(11:Int)then if(0:Int)<=subI x_1.1 (4:Int)∧subI x_1.1 (4:Int)<(16:Int)then if(0:Int)<=x.2.1∧x.2.1<(11:Int)then if(0:Int)<=x_1.1∧x_1.1<(16:Int)then some (x_1.2.setIfInBounds x.2.1.toNat ((x_1.2[x.2.1.toNat]?.getD (Vector.replicate 16 (0:UInt8))).setIfInBounds x_1.1.toNat ((x.2.2[(subI x.2.1 (1:Int)).toNat]?.getD (Vector.replicate 16 (0:UInt8)))[x_1.1.toNat]?.getD (0:UInt8)^^^(x_1.2[x.2.1.toNat]?.getD (Vector.replicate 16 (0:UInt8)))[(subI x_1.1 (4:Int)).toNat]?.getD (0:UInt8))))else none else none else none else none else none).bind fun(x:Vector (Vector UInt8 16) 11)=>some (Sum.inl (addI x_1.1 (1:Int),x))else some (Sum.inr x_1.2)) ((0:Int),x.2.2)).bind fun(y:Vector (Vector UInt8 16) 11)=>(y98 x.1).bind fun(r:UInt8)=>some (Sum.inl (r,addI x.2.1 (1:Int),y))else none else none else none else none else none else some (Sum.inr x.2.2)) ((1:UInt8),(1:Int),(Vector.replicate 11 (Vector.replicate 16 (0:UInt8))).setIfInBounds (0:Nat) x0)).bind fun(y:Vector (Vector UInt8 16) 11)=>some y
noncomputable def K60(y98:T98):Ctx:=mkC tys cells maps [(i98,⟨P98,R98,fun x=>y98 x.1⟩)] [] []
theorem a60(y98:T98)(x0:Vector UInt8 16)(x1:Vector UInt8 256):evF (K60 y98) F60 h60 P60 R60 (x0,x1,())=t60 y98 x0 x1:=by kernel_rfl
theorem e60(x0:Vector UInt8 16)(x1:Vector UInt8 256):f60 x0 x1=t60 f98 x0 x1:=Eq.trans (b:=evF (K60 f98) F60 h60 P60 R60 (x0,x1,())) (by kernel_rfl) (a60 f98 x0 x1)
noncomputable def t23(y59:T59)(y60:T60)(y61:T61)(x0:Vector UInt8 16)(x1:Int)(x2:List UInt8):Option (List UInt8):=(y59).bind fun(r:Vector UInt8 256)=>(y60 x0 r).bind fun(r_1:Vector (Vector UInt8 16) 11)=>(zeros? (↑x2.length:Int) (0:UInt8)).bind fun(r_2:List UInt8)=>(iter (fun(x:Int×Int×List UInt8×Vector UInt8 16)=>bif decide (x.2.1<(↑x2.length:Int))then(at? x2 x.2.1).bind fun(y:UInt8)=>(quoI (addI (maxI (0:Int) (minI x1 (1073741824:Int))) x.2.1) (16:Int)).bind fun(c:Int)=>(bif decide (c≠x.1)then(iter (fun(x:Int×Int×Vector UInt8 16)=>bif decide ((0:Int)<=x.1)then if(0:Int)<=x.1∧x.1<(16:Int)then some (Sum.inl (subI x.1 (1:Int),shrI x.2.1 8,x.2.2.setIfInBounds x.1.toNat (UInt8.ofInt x.2.1)))else none else some (Sum.inr x.2.2)) ((15:Int),c,Vector.replicate 16 (0:UInt8))).bind fun(y:Vector UInt8 16)=>(y61 r_1 r y).bind fun(r:Vector UInt8 16)=>some (c,r)else some (x.1,x.2.2.2)).bind fun(x_1:Int×Vector UInt8 16)=>(remI (addI (maxI (0:Int) (minI x1 (1073741824:Int))) x.2.1) (16:Int)).bind fun(c:Int)=>if(0:Int)<=c∧c<(16:Int)then if(0:Int)<=x.2.1∧x.2.1<(↑x.2.2.1.length:Int)then some (Sum.inl (x_1.1,addI x.2.1 (1:Int),x.2.2.1.set x.2.1.toNat (y^^^x_1.2[c.toNat]?.getD (0:UInt8)),x_1.2))else none else none else some (Sum.inr (x.2.2.1,x.2.2.2))) ((-1:Int),(0:Int),r_2,Vector.replicate 16 (0:UInt8))).bind fun(y:List UInt8×Vector UInt8 16)=>some y.1
noncomputable def K23(y59:T59)(y60:T60)(y61:T61):Ctx:=mkC tys cells maps [(i59,⟨P59,R59,fun _=>y59⟩),(i60,⟨P60,R60,fun x=>y60 x.1 x.2.1⟩),(i61,⟨P61,R61,fun x=>y61 x.1 x.2.1 x.2.2.1⟩)] [] []
theorem a23(y59:T59)(y60:T60)(y61:T61)(x0:Vector UInt8 16)(x1:Int)(x2:List UInt8):evF (K23 y59 y60 y61) F23 h23 P23 R23 (x0,x1,x2,())=t23 y59 y60 y61 x0 x1 x2:=by kernel_rfl
theorem e23(x0:Vector UInt8 16)(x1:Int)(x2:List UInt8):f23 x0 x1 x2=t23 f59 f60 f61 x0 x1 x2:=Eq.trans (b:=evF (K23 f59 f60 f61) F23 h23 P23 R23 (x0,x1,x2,())) (by kernel_rfl) (a23 f59 f60 f61 x0 x1 x2)
noncomputable def t161(x0:Vector UInt8 510×Vector Int 256×Unit)(x1 x2:UInt8):Option UInt8:=(bif decide (x1=(0:UInt8))then some true else some (decide (x2=(0:UInt8)))).bind fun(x:Bool)=>bif x then some (0:UInt8)else if(0:Int)<=(↑x1.toNat:Int)∧(↑x1.toNat:Int)<(256:Int)then if(0:Int)<=(↑x2.toNat:Int)∧(↑x2.toNat:Int)<(256:Int)then if(0:Int)<=addI (x0.2.1[(↑x1.toNat:Int).toNat]?.getD (0:Int)) (x0.2.1[(↑x2.toNat:Int).toNat]?.getD (0:Int))∧addI (x0.2.1[(↑x1.toNat:Int).toNat]?.getD (0:Int)) (x0.2.1[(↑x2.toNat:Int).toNat]?.getD (0:Int))<(510:Int)then some (x0.1[(addI (x0.2.1[(↑x1.toNat:Int).toNat]?.getD (0:Int)) (x0.2.1[(↑x2.toNat:Int).toNat]?.getD (0:Int))).toNat]?.getD (0:UInt8))else none else none else none
theorem e161(x0:Vector UInt8 510×Vector Int 256×Unit)(x1 x2:UInt8):f161 x0 x1 x2=t161 x0 x1 x2:=by kernel_rfl
noncomputable def t123(x0:List UInt8)(x1:Int):Option (List UInt8):=(fits? x0).bind fun(ys:List UInt8)=>(iter (fun(x:List UInt8)=>(remI (↑x.length:Int) (maxI x1 (1:Int))).bind fun(c:Int)=>bif decide (c≠(0:Int))then(app? x [(0:UInt8)]).bind fun(zs:List UInt8)=>some (Sum.inl zs)else some (Sum.inr x)) ys).bind fun(y:List UInt8)=>some y
theorem e123(x0:List UInt8)(x1:Int):f123 x0 x1=t123 x0 x1:=by kernel_rfl
noncomputable def t88(y95:T95)(x0:List (List UInt8)):Option (List UInt8):=(iter (fun(x:List UInt8×Int)=>bif decide (x.2<(↑x0.length:Int))then(at? x0 x.2).bind fun(y:List UInt8)=>(y95 y).bind fun(r:List UInt8)=>(app? x.1 r).bind fun(zs:List UInt8)=>some (Sum.inl (zs,addI x.2 (1:Int)))else some (Sum.inr x.1)) ([],(0:Int))).bind fun(y:List UInt8)=>some y
noncomputable def K88(y95:T95):Ctx:=mkC tys cells maps [(i95,⟨P95,R95,fun x=>y95 x.1⟩)] [] []
theorem a88(y95:T95)(x0:List (List UInt8)):evF (K88 y95) F88 h88 P88 R88 (x0,())=t88 y95 x0:=by kernel_rfl
theorem e88(x0:List (List UInt8)):f88 x0=t88 f95 x0:=Eq.trans (b:=evF (K88 f95) F88 h88 P88 R88 (x0,())) (by kernel_rfl) (a88 f95 x0)
noncomputable def t168(y189:T189)(y190:T190):Option (Vector UInt32 8×Vector UInt32 64×List UInt8×Int×Unit):=(y189).bind fun(r:Vector UInt32 8)=>(y190).bind fun(r_1:Vector UInt32 64)=>some (r,r_1,[],(0:Int),())
noncomputable def K168(y189:T189)(y190:T190):Ctx:=mkC tys cells maps [(i189,⟨P189,R189,fun _=>y189⟩),(i190,⟨P190,R190,fun _=>y190⟩)] [] []
theorem a168(y189:T189)(y190:T190):evF (K168 y189 y190) F168 h168 P168 R168 ()=t168 y189 y190:=by kernel_rfl
theorem e168:f168=t168 f189 f190:=Eq.trans (b:=evF (K168 f189 f190) F168 h168 P168 R168 ()) (by kernel_rfl) (a168 f189 f190)
noncomputable def t89(x0 x1:Int):Option (List UInt8):=(zeros? (maxI (0:Int) (minI x1 (8:Int))) (0:UInt8)).bind fun(r:List UInt8)=>(iter (fun(x:UInt64×Int×List UInt8)=>bif decide ((0:Int)<=x.2.1)then if(0:Int)<=x.2.1∧x.2.1<(↑x.2.2.length:Int)then some (Sum.inl (shr64 x.1 8,subI x.2.1 (1:Int),x.2.2.set x.2.1.toNat (UInt8.ofInt (↑x.1.toNat:Int))))else none else some (Sum.inr x.2.2)) (UInt64.ofInt (maxI (0:Int) x0),subI (↑r.length:Int) (1:Int),r)).bind fun(y:List UInt8)=>some y
theorem e89(x0 x1:Int):f89 x0 x1=t89 x0 x1:=by kernel_rfl
noncomputable def t56(y90:T90)(x0:List UInt8):Option (Vector UInt8 32):=(y90 [(108:UInt8),(101:UInt8),(97:UInt8),(102:UInt8)] [x0]).bind fun(r:Vector UInt8 32)=>some r
noncomputable def K56(y90:T90):Ctx:=mkC tys cells maps [(i90,⟨P90,R90,fun x=>y90 x.1 x.2.1⟩)] [] []
theorem a56(y90:T90)(x0:List UInt8):evF (K56 y90) F56 h56 P56 R56 (x0,())=t56 y90 x0:=by kernel_rfl
theorem e56(x0:List UInt8):f56 x0=t56 f90 x0:=Eq.trans (b:=evF (K56 f90) F56 h56 P56 R56 (x0,())) (by kernel_rfl) (a56 f90 x0)
noncomputable def t87(y96:T96)(x0:List (Vector UInt8 32)):Option (Vector UInt8 32):=(y96 x0).bind fun(r:List (List (Vector UInt8 32)))=>(at? r (subI (↑r.length:Int) (1:Int))).bind fun(y:List (Vector UInt8 32))=>(at? y (0:Int)).bind fun(y:Vector UInt8 32)=>some y
noncomputable def K87(y96:T96):Ctx:=mkC tys cells maps [(i96,⟨P96,R96,fun x=>y96 x.1⟩)] [] []
theorem a87(y96:T96)(x0:List (Vector UInt8 32)):evF (K87 y96) F87 h87 P87 R87 (x0,())=t87 y96 x0:=by kernel_rfl
theorem e87(x0:List (Vector UInt8 32)):f87 x0=t87 f96 x0:=Eq.trans (b:=evF (K87 f96) F87 h87 P87 R87 (x0,())) (by kernel_rfl) (a87 f96 x0)
noncomputable def t49(y90:T90)(x0:List UInt8):Option (Vector UInt8 32):=(y90 [(117:UInt8),(101:UInt8),(98:UInt8)] [x0]).bind fun(r:Vector UInt8 32)=>some r
noncomputable def K49(y90:T90):Ctx:=mkC tys cells maps [(i90,⟨P90,R90,fun x=>y90 x.1 x.2.1⟩)] [] []
theorem a49(y90:T90)(x0:List UInt8):evF (K49 y90) F49 h49 P49 R49 (x0,())=t49 y90 x0:=by kernel_rfl
theorem e49(x0:List UInt8):f49 x0=t49 f90 x0:=Eq.trans (b:=evF (K49 f90) F49 h49 P49 R49 (x0,())) (by kernel_rfl) (a49 f90 x0)
end Mx
end
section
open Go Go.Proofs Ev Sx
namespace Mx
noncomputable def t15(x0 x1 x2:Int):Option Bool:=(bif decide ((1:Int)<=x0)then bif decide (x0<=(1024:Int))then bif decide ((1:Int)<=x1)then bif decide (x1<=x2)then some (decide (x2<=(16:Int)))else some false else some false else some false else some false).bind fun(x:Bool)=>some x
theorem e15(x0 x1 x2:Int):f15 x0 x1 x2=t15 x0 x1 x2:=by kernel_rfl
noncomputable def t27(y42:T42)(y63:T63)(x0:Int×Int×Int×Int×Vector UInt8 32×Vector UInt8 32×Unit):Option (List UInt8):=(y42 x0.1 (1:Int)).bind fun(r:List UInt8)=>(y42 x0.2.1 (1:Int)).bind fun(r_1:List UInt8)=>(y42 x0.2.2.1 (4:Int)).bind fun(r_2:List UInt8)=>(y42 x0.2.2.2.1 (4:Int)).bind fun(r_3:List UInt8)=>(y63 [r,r_1,r_2,r_3,List.take 32 (List.drop (0:Nat) x0.2.2.2.2.1.toList),List.take 32 (List.drop (0:Nat) x0.2.2.2.2.2.1.toList)]).bind fun(r:List UInt8)=>some r
noncomputable def K27(y42:T42)(y63:T63):Ctx:=mkC tys cells maps [(i42,⟨P42,R42,fun x=>y42 x.1 x.2.1⟩),(i63,⟨P63,R63,fun x=>y63 x.1⟩)] [] []
theorem a27(y42:T42)(y63:T63)(x0:Int×Int×Int×Int×Vector UInt8 32×Vector UInt8 32×Unit):evF (K27 y42 y63) F27 h27 P27 R27 (x0,())=t27 y42 y63 x0:=by kernel_rfl
theorem e27(x0:Int×Int×Int×Int×Vector UInt8 32×Vector UInt8 32×Unit):f27 x0=t27 f42 f63 x0:=Eq.trans (b:=evF (K27 f42 f63) F27 h27 P27 R27 (x0,())) (by kernel_rfl) (a27 f42 f63 x0)
noncomputable def t119(x0:UInt32)(x1:UInt64):Option UInt32:=some (shr32 x0 x1.toNat|||shl32 x0 ((32:UInt64)-x1).toNat)
theorem e119(x0:UInt32)(x1:UInt64):f119 x0 x1=t119 x0 x1:=by kernel_rfl
noncomputable def t33(y70:T70)(x0:List (List UInt8)):Option (List (Vector UInt8 32)):=(y70 x0).bind fun(r:List (Vector UInt8 32))=>some r
noncomputable def K33(y70:T70):Ctx:=mkC tys cells maps [(i70,⟨P70,R70,fun x=>y70 x.1⟩)] [] []
theorem a33(y70:T70)(x0:List (List UInt8)):evF (K33 y70) F33 h33 P33 R33 (x0,())=t33 y70 x0:=by kernel_rfl
theorem e33(x0:List (List UInt8)):f33 x0=t33 f70 x0:=Eq.trans (b:=evF (K33 f70) F33 h33 P33 R33 (x0,())) (by kernel_rfl) (a33 f70 x0)
noncomputable def t104(y68:T68)(y82:T82)(x0 x1:Vector UInt8 32):Option (Vector UInt8 32):=(y68 x0 x1).bind fun(r:List UInt8)=>(y82 r).bind fun(r:Vector UInt8 32)=>some r
noncomputable def K104(y68:T68)(y82:T82):Ctx:=mkC tys cells maps [(i68,⟨P68,R68,fun x=>y68 x.1 x.2.1⟩),(i82,⟨P82,R82,fun x=>y82 x.1⟩)] [] []
theorem a104(y68:T68)(y82:T82)(x0 x1:Vector UInt8 32):evF (K104 y68 y82) F104 h104 P104 R104 (x0,x1,())=t104 y68 y82 x0 x1:=by kernel_rfl
theorem e104(x0 x1:Vector UInt8 32):f104 x0 x1=t104 f68 f82 x0 x1:=Eq.trans (b:=evF (K104 f68 f82) F104 h104 P104 R104 (x0,x1,())) (by kernel_rfl) (a104 f68 f82 x0 x1)
noncomputable def t78(x0:List UInt8)(x1:Int):Option (List UInt8):=(fits? x0).bind fun(ys:List UInt8)=>(iter (fun(x:List UInt8)=>(remI (↑x.length:Int) (maxI x1 (1:Int))).bind fun(c:Int)=>bif decide (c≠(0:Int))then(app? x [(0:UInt8)]).bind fun(zs:List UInt8)=>some (Sum.inl zs)else some (Sum.inr x)) ys).bind fun(y:List UInt8)=>some y
theorem e78(x0:List UInt8)(x1:Int):f78 x0 x1=t78 x0 x1:=by kernel_rfl
noncomputable def t39(y66:T66)(y67:T67)(x0:Int)(x1:List (Vector UInt8 32)):Option (List (Vector UInt8 32)):=(y66 x1).bind fun(r:List (Vector UInt8 32))=>(iter (fun(x:Int×List (Vector UInt8 32)×List (Vector UInt8 32))=>bif decide ((1:Int)<(↑x.2.2.length:Int))then(at? x.2.2 (xorI x.1 (1:Int))).bind fun(y:Vector UInt8 32)=>(app? x.2.1 [y]).bind fun(zs:List (Vector UInt8 32))=>(quoI x.1 (2:Int)).bind fun(c:Int)=>(y67 x.2.2).bind fun(r:List (Vector UInt8 32))=>some (Sum.inl (c,zs,r))else some (Sum.inr x.2.1)) (x0,[],r)).bind fun(y:List (Vector UInt8 32))=>some y
noncomputable def K39(y66:T66)(y67:T67):Ctx:=mkC tys cells maps [(i66,⟨P66,R66,fun x=>y66 x.1⟩),(i67,⟨P67,R67,fun x=>y67 x.1⟩)] [] []
theorem a39(y66:T66)(y67:T67)(x0:Int)(x1:List (Vector UInt8 32)):evF (K39 y66 y67) F39 h39 P39 R39 (x0,x1,())=t39 y66 y67 x0 x1:=by kernel_rfl
theorem e39(x0:Int)(x1:List (Vector UInt8 32)):f39 x0 x1=t39 f66 f67 x0 x1:=Eq.trans (b:=evF (K39 f66 f67) F39 h39 P39 R39 (x0,x1,())) (by kernel_rfl) (a39 f66 f67 x0 x1)
noncomputable def t18(y44:T44)(x0:List UInt8):Option (Vector UInt8 32):=(y44 [(117:UInt8),(101:UInt8),(98:UInt8)] [x0]).bind fun(r:Vector UInt8 32)=>some r
noncomputable def K18(y44:T44):Ctx:=mkC tys cells maps [(i44,⟨P44,R44,fun x=>y44 x.1 x.2.1⟩)] [] []
theorem a18(y44:T44)(x0:List UInt8):evF (K18 y44) F18 h18 P18 R18 (x0,())=t18 y44 x0:=by kernel_rfl
theorem e18(x0:List UInt8):f18 x0=t18 f44 x0:=Eq.trans (b:=evF (K18 f44) F18 h18 P18 R18 (x0,())) (by kernel_rfl) (a18 f44 x0)
noncomputable def t100(x0 x1:Vector UInt8 16):Option (Vector UInt8 16):=(iter (fun(x:Int×Vector UInt8 16)=>bif decide (x.1<(16:Int))then if(0:Int)<=x.1∧x.1<(16:Int)then if(0:Int)<=x.1∧x.1<(16:Int)then if(0:Int)<=x.1∧x.1<(16:Int)then some (Sum.inl (addI x.1 (1:Int),x.2.setIfInBounds x.1.toNat (x.2[x.1.toNat]?.getD (0:UInt8)^^^x1[x.1.toNat]?.getD (0:UInt8))))else none else none else none else some (Sum.inr x.2)) ((0:Int),x0)).bind fun(y:Vector UInt8 16)=>some y
theorem e100(x0 x1:Vector UInt8 16):f100 x0 x1=t100 x0 x1:=by kernel_rfl
noncomputable def t45(x0:List UInt8)(x1 x2:Int):Option Bool:=(bif decide ((1:Int)<=(↑x0.length:Int))then bif decide ((↑x0.length:Int)<=(1024:Int))then bif decide ((1:Int)<=x1)then bif decide (x1<=x2)then some (decide (x2<=(16:Int)))else some false else some false else some false else some false).bind fun(x:Bool)=>some x
theorem e45(x0:List UInt8)(x1 x2:Int):f45 x0 x1 x2=t45 x0 x1 x2:=by kernel_rfl
noncomputable def t187(x0 x1:UInt8):Option UInt8:=some (x0^^^x1)
theorem e187(x0 x1:UInt8):f187 x0 x1=t187 x0 x1:=by kernel_rfl
noncomputable def t167(x0:List (List UInt8))(x1:Int):Option (List UInt8):=(zeros? (↑x0.length:Int) (0:UInt8)).bind fun(r:List UInt8)=>(iter (fun(x:Int×List UInt8)=>bif decide (x.1<(↑x0.length:Int))then(at? x0 x.1).bind fun(y:List UInt8)=>(at? y x1).bind fun(y:UInt8)=>if(0:Int)<=x.1∧x.1<(↑x.2.length:Int)then some (Sum.inl (addI x.1 (1:Int),x.2.set x.1.toNat y))else none else some (Sum.inr x.2)) ((0:Int),r)).bind fun(y:List UInt8)=>some y
theorem e167(x0:List (List UInt8))(x1:Int):f167 x0 x1=t167 x0 x1:=by kernel_rfl
noncomputable def t54(y88:T88)(y95:T95)(x0:List UInt8)(x1:List (List UInt8)):Option (List UInt8):=(fits? x0).bind fun(l:List UInt8)=>(y95 l).bind fun(r:List UInt8)=>(y88 x1).bind fun(r_1:List UInt8)=>(app? r r_1).bind fun(zs:List UInt8)=>some zs
noncomputable def K54(y88:T88)(y95:T95):Ctx:=mkC tys cells maps [(i88,⟨P88,R88,fun x=>y88 x.1⟩),(i95,⟨P95,R95,fun x=>y95 x.1⟩)] [] []
theorem a54(y88:T88)(y95:T95)(x0:List UInt8)(x1:List (List UInt8)):evF (K54 y88 y95) F54 h54 P54 R54 (x0,x1,())=t54 y88 y95 x0 x1:=by kernel_rfl
theorem e54(x0:List UInt8)(x1:List (List UInt8)):f54 x0 x1=t54 f88 f95 x0 x1:=Eq.trans (b:=evF (K54 f88 f95) F54 h54 P54 R54 (x0,x1,())) (by kernel_rfl) (a54 f88 f95 x0 x1)
noncomputable def t204(x0:UInt32)(x1:Int):Option UInt32:=some (shl32 x0 (UInt64.ofInt x1&&&(31:UInt64)).toNat|||shr32 x0 ((32:UInt64)-(UInt64.ofInt x1&&&(31:UInt64))).toNat)
theorem e204(x0:UInt32)(x1:Int):f204 x0 x1=t204 x0 x1:=by kernel_rfl
noncomputable def t170(y89:T89)(y191:T191)(x0:Vector UInt32 8×Vector UInt32 64×List UInt8×Int×Unit):Option (Vector UInt8 32):=(fits? x0.2.2.1).bind fun(ys:List UInt8)=>(app? ys [(128:UInt8)]).bind fun(zs:List UInt8)=>(iter (fun(x:List UInt8)=>(remI (↑x.length:Int) (64:Int)).bind fun(c:Int)=>bif decide (c≠(56:Int))then(app? x [(0:UInt8)]).bind fun(zs:List UInt8)=>some (Sum.inl zs)else some (Sum.inr x)) zs).bind fun(y:List UInt8)=>(y89 (mulI (8:Int) x0.2.2.2.1) (8:Int)).bind fun(r:List UInt8)=>(app? y r).bind fun(zs:List UInt8)=>(iter (fun(x:List UInt8×Vector UInt32 8)=>bif decide ((0:Int)<(↑x.1.length:Int))then(cut? x.1 (0:Int) (64:Int)).bind fun(r:List UInt8)=>(y191 x.2 x0.2.1 r).bind fun(r:Vector UInt32 8)=>(cut? x.1 (64:Int) (↑x.1.length:Int)).bind fun(r_1:List UInt8)=>some (Sum.inl (r_1,r))else some (Sum.inr x.2)) (zs,x0.1)).bind fun(y:Vector UInt32 8)=>(iter (fun(x:Int×Vector UInt8 32)=>bif decide (x.1<(8:Int))then(at? y.toList x.1).bind fun(y:UInt32)=>if(0:Int)<=mulI (4:Int) x.1∧mulI (4:Int) x.1<=(32:Int)∧(32:Int)<=(32:Int)then(y89 (w64 (↑y.toNat:Int)) (4:Int)).bind fun(r:List UInt8)=>some (Sum.inl (addI x.1 (1:Int),vput x.2 (mulI (4:Int) x.1).toNat (List.take (32-(mulI (4:Int) x.1).toNat) r)))else none else some (Sum.inr x.2)) ((0:Int),Vector.replicate 32 (0:UInt8))).bind fun(y:Vector UInt8 32)=>some y
noncomputable def K170(y89:T89)(y191:T191):Ctx:=mkC tys cells maps [(i89,⟨P89,R89,fun x=>y89 x.1 x.2.1⟩),(i191,⟨P191,R191,fun x=>y191 x.1 x.2.1 x.2.2.1⟩)] [] []
theorem a170(y89:T89)(y191:T191)(x0:Vector UInt32 8×Vector UInt32 64×List UInt8×Int×Unit):evF (K170 y89 y191) F170 h170 P170 R170 (x0,())=t170 y89 y191 x0:=by kernel_rfl
theorem e170(x0:Vector UInt32 8×Vector UInt32 64×List UInt8×Int×Unit):f170 x0=t170 f89 f191 x0:=Eq.trans (b:=evF (K170 f89 f191) F170 h170 P170 R170 (x0,())) (by kernel_rfl) (a170 f89 f191 x0)
noncomputable def t85(y56:T56)(y87:T87)(x0:Int×List UInt8×List (Vector UInt8 32)×List (List UInt8)×Unit):Option (Vector UInt8 32):=(iter (fun(x:List (Vector UInt8 32)×Int)=>bif decide (x.2<(↑x0.2.2.2.1.length:Int))then(at? x0.2.2.2.1 x.2).bind fun(y:List UInt8)=>(y56 y).bind fun(r:Vector UInt8 32)=>(app? x.1 [r]).bind fun(zs:List (Vector UInt8 32))=>some (Sum.inl (zs,addI x.2 (1:Int)))else some (Sum.inr x.1)) ([],(0:Int))).bind fun(y:List (Vector UInt8 32))=>(y87 y).bind fun(r:Vector UInt8 32)=>some r
noncomputable def K85(y56:T56)(y87:T87):Ctx:=mkC tys cells maps [(i56,⟨P56,R56,fun x=>y56 x.1⟩),(i87,⟨P87,R87,fun x=>y87 x.1⟩)] [] []
theorem a85(y56:T56)(y87:T87)(x0:Int×List UInt8×List (Vector UInt8 32)×List (List UInt8)×Unit):evF (K85 y56 y87) F85 h85 P85 R85 (x0,())=t85 y56 y87 x0:=by kernel_rfl
theorem e85(x0:Int×List UInt8×List (Vector UInt8 32)×List (List UInt8)×Unit):f85 x0=t85 f56 f87 x0:=Eq.trans (b:=evF (K85 f56 f87) F85 h85 P85 R85 (x0,())) (by kernel_rfl) (a85 f56 f87 x0)
noncomputable def t19(y23:T23)(y45:T45)(y46:T46)(y47:T47)(y48:T48)(y49:T49)(y91:T91)(x0:Vector UInt8 16)(x1:List UInt8)(x2 x3:Int):Option ((Int×Vector UInt8 16×Vector UInt8 32×Int×Int×Int×List UInt8×Unit)×List (Int×List UInt8×List (Vector UInt8 32)×List (List UInt8)×Unit)×Int):=(y45 x1 x2 x3).bind fun(r:Bool)=>bif !r then some (((0:Int),Vector.replicate 16 (0:UInt8),Vector.replicate 32 (0:UInt8),(0:Int),(0:Int),(0:Int),[],()),[],(1:Int))else(y23 x0 (0:Int) x1).bind fun(r:List UInt8)=>(y46 r x2 x3).bind fun(r_1:List (Int×List UInt8×List (Vector UInt8 32)×List (List UInt8)×Unit)×Vector UInt8 32)=>(y48 r).bind fun(r:Vector UInt8 32)=>(y47 (x2,x3,(↑x1.length:Int),(64:Int),r,r_1.2,())).bind fun(r:List UInt8)=>(y49 r).bind fun(r_2:Vector UInt8 32)=>(iter (fun(x:Int×List (Int×List UInt8×List (Vector UInt8 32)×List (List UInt8)×Unit))=>bif decide (x.1<(↑r_1.1.length:Int))then(y91 r).bind fun(r:List UInt8)=>if(0:Int)<=x.1∧x.1<(↑x.2.length:Int)then some (Sum.inl (addI x.1 (1:Int),x.2.set x.1.toNat ((x.2.getD x.1.toNat ((0:Int),[],[],[],())).1,r,(x.2.getD x.1.toNat ((0:Int),[],[],[],())).2.2)))else none else some (Sum.inr x.2)) ((0:Int),r_1.1)).bind fun(y:List (Int×List UInt8×List (Vector UInt8 32)×List (List UInt8)×Unit))=>some (((1:Int),x0,r_2,x2,x3,(↑x1.length:Int),[],()),y,(0:Int))
noncomputable def K19(y23:T23)(y45:T45)(y46:T46)(y47:T47)(y48:T48)(y49:T49)(y91:T91):Ctx:=mkC tys cells maps [(i23,⟨P23,R23,fun x=>y23 x.1 x.2.1 x.2.2.1⟩),(i45,⟨P45,R45,fun x=>y45 x.1 x.2.1 x.2.2.1⟩),(i46,⟨P46,R46,fun x=>y46 x.1 x.2.1 x.2.2.1⟩),(i47,⟨P47,R47,fun x=>y47 x.1⟩),(i48,⟨P48,R48,fun x=>y48 x.1⟩),(i49,⟨P49,R49,fun x=>y49 x.1⟩),(i50,s50),(i91,⟨P91,R91,fun x=>y91 x.1⟩)] [] [(i50,F50)]
theorem a19(y23:T23)(y45:T45)(y46:T46)(y47:T47)(y48:T48)(y49:T49)(y91:T91)(x0:Vector UInt8 16)(x1:List UInt8)(x2 x3:Int):evF (K19 y23 y45 y46 y47 y48 y49 y91) F19 h19 P19 R19 (x0,x1,x2,x3,())=t19 y23 y45 y46 y47 y48 y49 y91 x0 x1 x2 x3:=by kernel_rfl
theorem e19(x0:Vector UInt8 16)(x1:List UInt8)(x2 x3:Int):f19 x0 x1 x2 x3=t19 f23 f45 f46 f47 f48 f49 f91 x0 x1 x2 x3:=Eq.trans (b:=evF (K19 f23 f45 f46 f47 f48 f49 f91) F19 h19 P19 R19 (x0,x1,x2,x3,())) (by kernel_rfl) (a19 f23 f45 f46 f47 f48 f49 f91 x0 x1 x2 x3)
noncomputable def t51(y92:T92)(x0:List UInt8)(x1:Int):Option (List (List UInt8)×Bool):=bif decide (x1<(0:Int))then some ([],false)else(iter (fun(x:List UInt8×List (List UInt8)×Int)=>bif decide (x.2.2<x1)then(y92 x.1).bind fun(r:List UInt8×List UInt8×Bool)=>bif !r.2.2 then some (Sum.inr (Sum.inr ([],false)))else(app? x.2.1 [r.1]).bind fun(zs:List (List UInt8))=>some (Sum.inl (r.2.1,zs,addI x.2.2 (1:Int)))else some (Sum.inr (Sum.inl (x.1,x.2.1)))) (x0,[],(0:Int))).bind fun(y:List UInt8×List (List UInt8) ⊕ List (List UInt8)×Bool)=>sumE y (fun(x:List UInt8×List (List UInt8))=>bif decide ((0:Int)<(↑x.1.length:Int))then some ([],false)else some (x.2,true)) fun(x:List (List UInt8)×Bool)=>some (x.1,x.2)
noncomputable def K51(y92:T92):Ctx:=mkC tys cells maps [(i92,⟨P92,R92,fun x=>y92 x.1⟩)] [] []
theorem a51(y92:T92)(x0:List UInt8)(x1:Int):evF (K51 y92) F51 h51 P51 R51 (x0,x1,())=t51 y92 x0 x1:=by kernel_rfl
noncomputable def t53(y94:T94)(x0:Int×Int×Int×Int×Vector UInt8 32×Vector UInt8 32×Unit):Option Bool:=((y94 x0.1 x0.2.1).bind fun(r:Bool)=>bif r then bif decide ((1:Int)<=x0.2.2.1)then bif decide (x0.2.2.1<=(1024:Int))then some (decide (x0.2.2.2.1=(64:Int)))else some false else some false else some false).bind fun(x:Bool)=>some x
noncomputable def K53(y94:T94):Ctx:=mkC tys cells maps [(i94,⟨P94,R94,fun x=>y94 x.1 x.2.1⟩)] [] []
theorem a53(y94:T94)(x0:Int×Int×Int×Int×Vector UInt8 32×Vector UInt8 32×Unit):evF (K53 y94) F53 h53 P53 R53 (x0,())=t53 y94 x0:=by kernel_rfl
end Mx
end
