/- DownloadJoins as a functional reading: it answers true for all arguments. No conditions. -/
import Derived.Test.YtbjffoahpbedjaaGreatDoorF
import Derived.KernelRfl
import Derived.Test.YtbjffoahpbedjaaGreatDoorT
set_option linter.unusedVariables false
set_option linter.unusedSimpArgs false
set_option linter.unusedSectionVars false
set_option maxRecDepth 100000
section
open Go Go.Proofs Ev Sx
namespace Mx
abbrev T6':Type:= ∀(x0 x1:Int),Option Int
noncomputable def K444b(y6:T6'):Ctx:=mkC tys cells maps [(i6,⟨P6,R6,fun x=>y6 x.1 x.2.1⟩),(i428,s428),(i429,s429)] [tySH,tyBB] [(i429,F429),(i428,F428),(i8,F8)]
abbrev b444(y6:T6')(n w x:Int)(R:Int->Option (List (Int×List UInt8×List (Vector UInt8 32)×List (List UInt8)×Unit))):Option (List (Int×List UInt8×List (Vector UInt8 32)×List (List UInt8)×Unit)):=(y6 x n).bind fun(i:Int)=>(y6 w 6).bind fun(m:Int)=>bif decide (m=1)then none else bif decide (m=2)then none else bif decide (m=3)then none else bif decide (m=4)then R i else none
theorem tb_1_1_0(y6:T6')(a0 w x:Int)(u0:List UInt8)(p0:List (Vector UInt8 32))(b00:List UInt8):
 evF (K444b y6) F444 (h444b 0) P444 R444 ([(a0,u0,p0,[b00],())],w,x,())=b444 y6 1 w x fun(i:Int)=>if i=0 then none else if i=1 then none else if i=2 then none else if i=3 then none else none:=by kernel_rfl
theorem tb_1_1_1(y6:T6')(a0 w x:Int)(u0:List UInt8)(p0:List (Vector UInt8 32))(b00:List UInt8):
 evF (K444b y6) F444 (h444b 1) P444 R444 ([(a0,u0,p0,[b00],())],w,x,())=b444 y6 1 w x fun(i:Int)=>if i=0 then(fits? b00).bind fun(r0:List UInt8)=>(if(0:Int)<=0∧(0:Int)<(r0.length:Int)then(if(0:Int)<=0∧(0:Int)<(r0.length:Int)then some [(a0,u0,p0,[r0.set 0 (r0.getD 0 (0:UInt8)^^^(1:UInt8))],())]else none)else none)else if i=1 then none else if i=2 then none else if i=3 then none else none:=by kernel_rfl
theorem tb_1_2_0(y6:T6')(a0 w x:Int)(u0:List UInt8)(p0:List (Vector UInt8 32))(b00 b01:List UInt8):
 evF (K444b y6) F444 (h444b 0) P444 R444 ([(a0,u0,p0,[b00,b01],())],w,x,())=b444 y6 1 w x fun(i:Int)=>if i=0 then none else if i=1 then none else if i=2 then none else if i=3 then none else none:=by kernel_rfl
theorem tb_1_2_1(y6:T6')(a0 w x:Int)(u0:List UInt8)(p0:List (Vector UInt8 32))(b00 b01:List UInt8):
 evF (K444b y6) F444 (h444b 1) P444 R444 ([(a0,u0,p0,[b00,b01],())],w,x,())=b444 y6 1 w x fun(i:Int)=>if i=0 then(fits? b00).bind fun(r0:List UInt8)=>none else if i=1 then none else if i=2 then none else if i=3 then none else none:=by kernel_rfl
theorem tb_1_2_2(y6:T6')(a0 w x:Int)(u0:List UInt8)(p0:List (Vector UInt8 32))(b00 b01:List UInt8):
 evF (K444b y6) F444 (h444b 2) P444 R444 ([(a0,u0,p0,[b00,b01],())],w,x,())=b444 y6 1 w x fun(i:Int)=>if i=0 then(fits? b00).bind fun(r0:List UInt8)=>(fits? b01).bind fun(r1:List UInt8)=>(if(0:Int)<=0∧(0:Int)<(r0.length:Int)then(if(0:Int)<=0∧(0:Int)<(r0.length:Int)then some [(a0,u0,p0,[r0.set 0 (r0.getD 0 (0:UInt8)^^^(1:UInt8)),r1],())]else none)else none)else if i=1 then none else if i=2 then none else if i=3 then none else none:=by kernel_rfl
theorem tb_1_3_0(y6:T6')(a0 w x:Int)(u0:List UInt8)(p0:List (Vector UInt8 32))(b00 b01 b02:List UInt8):
 evF (K444b y6) F444 (h444b 0) P444 R444 ([(a0,u0,p0,[b00,b01,b02],())],w,x,())=b444 y6 1 w x fun(i:Int)=>if i=0 then none else if i=1 then none else if i=2 then none else if i=3 then none else none:=by kernel_rfl
theorem tb_1_3_1(y6:T6')(a0 w x:Int)(u0:List UInt8)(p0:List (Vector UInt8 32))(b00 b01 b02:List UInt8):
 evF (K444b y6) F444 (h444b 1) P444 R444 ([(a0,u0,p0,[b00,b01,b02],())],w,x,())=b444 y6 1 w x fun(i:Int)=>if i=0 then(fits? b00).bind fun(r0:List UInt8)=>none else if i=1 then none else if i=2 then none else if i=3 then none else none:=by kernel_rfl
theorem tb_1_3_2(y6:T6')(a0 w x:Int)(u0:List UInt8)(p0:List (Vector UInt8 32))(b00 b01 b02:List UInt8):
 evF (K444b y6) F444 (h444b 2) P444 R444 ([(a0,u0,p0,[b00,b01,b02],())],w,x,())=b444 y6 1 w x fun(i:Int)=>if i=0 then(fits? b00).bind fun(r0:List UInt8)=>(fits? b01).bind fun(r1:List UInt8)=>none else if i=1 then none else if i=2 then none else if i=3 then none else none:=by kernel_rfl
theorem tb_1_3_3(y6:T6')(a0 w x:Int)(u0:List UInt8)(p0:List (Vector UInt8 32))(b00 b01 b02:List UInt8):
 evF (K444b y6) F444 (h444b 3) P444 R444 ([(a0,u0,p0,[b00,b01,b02],())],w,x,())=b444 y6 1 w x fun(i:Int)=>if i=0 then(fits? b00).bind fun(r0:List UInt8)=>(fits? b01).bind fun(r1:List UInt8)=>(fits? b02).bind fun(r2:List UInt8)=>(if(0:Int)<=0∧(0:Int)<(r0.length:Int)then(if(0:Int)<=0∧(0:Int)<(r0.length:Int)then some [(a0,u0,p0,[r0.set 0 (r0.getD 0 (0:UInt8)^^^(1:UInt8)),r1,r2],())]else none)else none)else if i=1 then none else if i=2 then none else if i=3 then none else none:=by kernel_rfl
theorem tb_2_1_0(y6:T6')(a0 a1 w x:Int)(u0 u1:List UInt8)(p0 p1:List (Vector UInt8 32))(b00 b10:List UInt8):
 evF (K444b y6) F444 (h444b 0) P444 R444 ([(a0,u0,p0,[b00],()),(a1,u1,p1,[b10],())],w,x,())=b444 y6 2 w x fun(i:Int)=>if i=0 then none else if i=1 then none else if i=2 then none else if i=3 then none else none:=by kernel_rfl
theorem tb_2_1_1(y6:T6')(a0 a1 w x:Int)(u0 u1:List UInt8)(p0 p1:List (Vector UInt8 32))(b00 b10:List UInt8):
 evF (K444b y6) F444 (h444b 1) P444 R444 ([(a0,u0,p0,[b00],()),(a1,u1,p1,[b10],())],w,x,())=b444 y6 2 w x fun(i:Int)=>if i=0 then(fits? b00).bind fun(r0:List UInt8)=>(if(0:Int)<=0∧(0:Int)<(r0.length:Int)then(if(0:Int)<=0∧(0:Int)<(r0.length:Int)then some [(a0,u0,p0,[r0.set 0 (r0.getD 0 (0:UInt8)^^^(1:UInt8))],()),(a1,u1,p1,[b10],())]else none)else none)else if i=1 then(fits? b10).bind fun(r0:List UInt8)=>(if(0:Int)<=0∧(0:Int)<(r0.length:Int)then(if(0:Int)<=0∧(0:Int)<(r0.length:Int)then some [(a0,u0,p0,[b00],()),(a1,u1,p1,[r0.set 0 (r0.getD 0 (0:UInt8)^^^(1:UInt8))],())]else none)else none)else if i=2 then none else if i=3 then none else none:=by kernel_rfl
theorem tb_2_2_0(y6:T6')(a0 a1 w x:Int)(u0 u1:List UInt8)(p0 p1:List (Vector UInt8 32))(b00 b01 b10 b11:List UInt8):
 evF (K444b y6) F444 (h444b 0) P444 R444 ([(a0,u0,p0,[b00,b01],()),(a1,u1,p1,[b10,b11],())],w,x,())=b444 y6 2 w x fun(i:Int)=>if i=0 then none else if i=1 then none else if i=2 then none else if i=3 then none else none:=by kernel_rfl
theorem tb_2_2_1(y6:T6')(a0 a1 w x:Int)(u0 u1:List UInt8)(p0 p1:List (Vector UInt8 32))(b00 b01 b10 b11:List UInt8):
 evF (K444b y6) F444 (h444b 1) P444 R444 ([(a0,u0,p0,[b00,b01],()),(a1,u1,p1,[b10,b11],())],w,x,())=b444 y6 2 w x fun(i:Int)=>if i=0 then(fits? b00).bind fun(r0:List UInt8)=>none else if i=1 then(fits? b10).bind fun(r0:List UInt8)=>none else if i=2 then none else if i=3 then none else none:=by kernel_rfl
theorem tb_2_2_2(y6:T6')(a0 a1 w x:Int)(u0 u1:List UInt8)(p0 p1:List (Vector UInt8 32))(b00 b01 b10 b11:List UInt8):
 evF (K444b y6) F444 (h444b 2) P444 R444 ([(a0,u0,p0,[b00,b01],()),(a1,u1,p1,[b10,b11],())],w,x,())=b444 y6 2 w x fun(i:Int)=>if i=0 then(fits? b00).bind fun(r0:List UInt8)=>(fits? b01).bind fun(r1:List UInt8)=>(if(0:Int)<=0∧(0:Int)<(r0.length:Int)then(if(0:Int)<=0∧(0:Int)<(r0.length:Int)then some [(a0,u0,p0,[r0.set 0 (r0.getD 0 (0:UInt8)^^^(1:UInt8)),r1],()),(a1,u1,p1,[b10,b11],())]else none)else none)else if i=1 then(fits? b10).bind fun(r0:List UInt8)=>(fits? b11).bind fun(r1:List UInt8)=>(if(0:Int)<=0∧(0:Int)<(r0.length:Int)then(if(0:Int)<=0∧(0:Int)<(r0.length:Int)then some [(a0,u0,p0,[b00,b01],()),(a1,u1,p1,[r0.set 0 (r0.getD 0 (0:UInt8)^^^(1:UInt8)),r1],())]else none)else none)else if i=2 then none else if i=3 then none else none:=by kernel_rfl
theorem tb_2_3_0(y6:T6')(a0 a1 w x:Int)(u0 u1:List UInt8)(p0 p1:List (Vector UInt8 32))(b00 b01 b02 b10 b11 b12:List UInt8):
 evF (K444b y6) F444 (h444b 0) P444 R444 ([(a0,u0,p0,[b00,b01,b02],()),(a1,u1,p1,[b10,b11,b12],())],w,x,())=b444 y6 2 w x fun(i:Int)=>if i=0 then none else if i=1 then none else if i=2 then none else if i=3 then none else none:=by kernel_rfl
theorem tb_2_3_1(y6:T6')(a0 a1 w x:Int)(u0 u1:List UInt8)(p0 p1:List (Vector UInt8 32))(b00 b01 b02 b10 b11 b12:List UInt8):
 evF (K444b y6) F444 (h444b 1) P444 R444 ([(a0,u0,p0,[b00,b01,b02],()),(a1,u1,p1,[b10,b11,b12],())],w,x,())=b444 y6 2 w x fun(i:Int)=>if i=0 then(fits? b00).bind fun(r0:List UInt8)=>none else if i=1 then(fits? b10).bind fun(r0:List UInt8)=>none else if i=2 then none else if i=3 then none else none:=by kernel_rfl
theorem tb_2_3_2(y6:T6')(a0 a1 w x:Int)(u0 u1:List UInt8)(p0 p1:List (Vector UInt8 32))(b00 b01 b02 b10 b11 b12:List UInt8):
 evF (K444b y6) F444 (h444b 2) P444 R444 ([(a0,u0,p0,[b00,b01,b02],()),(a1,u1,p1,[b10,b11,b12],())],w,x,())=b444 y6 2 w x fun(i:Int)=>if i=0 then(fits? b00).bind fun(r0:List UInt8)=>(fits? b01).bind fun(r1:List UInt8)=>none else if i=1 then(fits? b10).bind fun(r0:List UInt8)=>(fits? b11).bind fun(r1:List UInt8)=>none else if i=2 then none else if i=3 then none else none:=by kernel_rfl
theorem tb_2_3_3(y6:T6')(a0 a1 w x:Int)(u0 u1:List UInt8)(p0 p1:List (Vector UInt8 32))(b00 b01 b02 b10 b11 b12:List UInt8):
 evF (K444b y6) F444 (h444b 3) P444 R444 ([(a0,u0,p0,[b00,b01,b02],()),(a1,u1,p1,[b10,b11,b12],())],w,x,())=b444 y6 2 w x fun(i:Int)=>if i=0 then(fits? b00).bind fun(r0:List UInt8)=>(fits? b01).bind fun(r1:List UInt8)=>(fits? b02).bind fun(r2:List UInt8)=>(if(0:Int)<=0∧(0:Int)<(r0.length:Int)then(if(0:Int)<=0∧(0:Int)<(r0.length:Int)then some [(a0,u0,p0,[r0.set 0 (r0.getD 0 (0:UInt8)^^^(1:UInt8)),r1,r2],()),(a1,u1,p1,[b10,b11,b12],())]else none)else none)else if i=1 then(fits? b10).bind fun(r0:List UInt8)=>(fits? b11).bind fun(r1:List UInt8)=>(fits? b12).bind fun(r2:List UInt8)=>(if(0:Int)<=0∧(0:Int)<(r0.length:Int)then(if(0:Int)<=0∧(0:Int)<(r0.length:Int)then some [(a0,u0,p0,[b00,b01,b02],()),(a1,u1,p1,[r0.set 0 (r0.getD 0 (0:UInt8)^^^(1:UInt8)),r1,r2],())]else none)else none)else if i=2 then none else if i=3 then none else none:=by kernel_rfl
theorem tb_3_1_0(y6:T6')(a0 a1 a2 w x:Int)(u0 u1 u2:List UInt8)(p0 p1 p2:List (Vector UInt8 32))(b00 b10 b20:List UInt8):
 evF (K444b y6) F444 (h444b 0) P444 R444 ([(a0,u0,p0,[b00],()),(a1,u1,p1,[b10],()),(a2,u2,p2,[b20],())],w,x,())=b444 y6 3 w x fun(i:Int)=>if i=0 then none else if i=1 then none else if i=2 then none else if i=3 then none else none:=by kernel_rfl
theorem tb_3_1_1(y6:T6')(a0 a1 a2 w x:Int)(u0 u1 u2:List UInt8)(p0 p1 p2:List (Vector UInt8 32))(b00 b10 b20:List UInt8):
 evF (K444b y6) F444 (h444b 1) P444 R444 ([(a0,u0,p0,[b00],()),(a1,u1,p1,[b10],()),(a2,u2,p2,[b20],())],w,x,())=b444 y6 3 w x fun(i:Int)=>if i=0 then(fits? b00).bind fun(r0:List UInt8)=>(if(0:Int)<=0∧(0:Int)<(r0.length:Int)then(if(0:Int)<=0∧(0:Int)<(r0.length:Int)then some [(a0,u0,p0,[r0.set 0 (r0.getD 0 (0:UInt8)^^^(1:UInt8))],()),(a1,u1,p1,[b10],()),(a2,u2,p2,[b20],())]else none)else none)else if i=1 then(fits? b10).bind fun(r0:List UInt8)=>(if(0:Int)<=0∧(0:Int)<(r0.length:Int)then(if(0:Int)<=0∧(0:Int)<(r0.length:Int)then some [(a0,u0,p0,[b00],()),(a1,u1,p1,[r0.set 0 (r0.getD 0 (0:UInt8)^^^(1:UInt8))],()),(a2,u2,p2,[b20],())]else none)else none)else if i=2 then(fits? b20).bind fun(r0:List UInt8)=>(if(0:Int)<=0∧(0:Int)<(r0.length:Int)then(if(0:Int)<=0∧(0:Int)<(r0.length:Int)then some [(a0,u0,p0,[b00],()),(a1,u1,p1,[b10],()),(a2,u2,p2,[r0.set 0 (r0.getD 0 (0:UInt8)^^^(1:UInt8))],())]else none)else none)else if i=3 then none else none:=by kernel_rfl
theorem tb_3_2_0(y6:T6')(a0 a1 a2 w x:Int)(u0 u1 u2:List UInt8)(p0 p1 p2:List (Vector UInt8 32))(b00 b01 b10 b11 b20 b21:List UInt8):
 evF (K444b y6) F444 (h444b 0) P444 R444 ([(a0,u0,p0,[b00,b01],()),(a1,u1,p1,[b10,b11],()),(a2,u2,p2,[b20,b21],())],w,x,())=b444 y6 3 w x fun(i:Int)=>if i=0 then none else if i=1 then none else if i=2 then none else if i=3 then none else none:=by kernel_rfl
theorem tb_3_2_1(y6:T6')(a0 a1 a2 w x:Int)(u0 u1 u2:List UInt8)(p0 p1 p2:List (Vector UInt8 32))(b00 b01 b10 b11 b20 b21:List UInt8):
 evF (K444b y6) F444 (h444b 1) P444 R444 ([(a0,u0,p0,[b00,b01],()),(a1,u1,p1,[b10,b11],()),(a2,u2,p2,[b20,b21],())],w,x,())=b444 y6 3 w x fun(i:Int)=>if i=0 then(fits? b00).bind fun(r0:List UInt8)=>none else if i=1 then(fits? b10).bind fun(r0:List UInt8)=>none else if i=2 then(fits? b20).bind fun(r0:List UInt8)=>none else if i=3 then none else none:=by kernel_rfl
theorem tb_3_2_2(y6:T6')(a0 a1 a2 w x:Int)(u0 u1 u2:List UInt8)(p0 p1 p2:List (Vector UInt8 32))(b00 b01 b10 b11 b20 b21:List UInt8):
 evF (K444b y6) F444 (h444b 2) P444 R444 ([(a0,u0,p0,[b00,b01],()),(a1,u1,p1,[b10,b11],()),(a2,u2,p2,[b20,b21],())],w,x,())=b444 y6 3 w x fun(i:Int)=>if i=0 then(fits? b00).bind fun(r0:List UInt8)=>(fits? b01).bind fun(r1:List UInt8)=>(if(0:Int)<=0∧(0:Int)<(r0.length:Int)then(if(0:Int)<=0∧(0:Int)<(r0.length:Int)then some [(a0,u0,p0,[r0.set 0 (r0.getD 0 (0:UInt8)^^^(1:UInt8)),r1],()),(a1,u1,p1,[b10,b11],()),(a2,u2,p2,[b20,b21],())]else none)else none)else if i=1 then(fits? b10).bind fun(r0:List UInt8)=>(fits? b11).bind fun(r1:List UInt8)=>(if(0:Int)<=0∧(0:Int)<(r0.length:Int)then(if(0:Int)<=0∧(0:Int)<(r0.length:Int)then some [(a0,u0,p0,[b00,b01],()),(a1,u1,p1,[r0.set 0 (r0.getD 0 (0:UInt8)^^^(1:UInt8)),r1],()),(a2,u2,p2,[b20,b21],())]else none)else none)else if i=2 then(fits? b20).bind fun(r0:List UInt8)=>(fits? b21).bind fun(r1:List UInt8)=>(if(0:Int)<=0∧(0:Int)<(r0.length:Int)then(if(0:Int)<=0∧(0:Int)<(r0.length:Int)then some [(a0,u0,p0,[b00,b01],()),(a1,u1,p1,[b10,b11],()),(a2,u2,p2,[r0.set 0 (r0.getD 0 (0:UInt8)^^^(1:UInt8)),r1],())]else none)else none)else if i=3 then none else none:=by kernel_rfl
theorem tb_3_3_0(y6:T6')(a0 a1 a2 w x:Int)(u0 u1 u2:List UInt8)(p0 p1 p2:List (Vector UInt8 32))(b00 b01 b02 b10 b11 b12 b20 b21 b22:List UInt8):
 evF (K444b y6) F444 (h444b 0) P444 R444 ([(a0,u0,p0,[b00,b01,b02],()),(a1,u1,p1,[b10,b11,b12],()),(a2,u2,p2,[b20,b21,b22],())],w,x,())=b444 y6 3 w x fun(i:Int)=>if i=0 then none else if i=1 then none else if i=2 then none else if i=3 then none else none:=by kernel_rfl
theorem tb_3_3_1(y6:T6')(a0 a1 a2 w x:Int)(u0 u1 u2:List UInt8)(p0 p1 p2:List (Vector UInt8 32))(b00 b01 b02 b10 b11 b12 b20 b21 b22:List UInt8):
 evF (K444b y6) F444 (h444b 1) P444 R444 ([(a0,u0,p0,[b00,b01,b02],()),(a1,u1,p1,[b10,b11,b12],()),(a2,u2,p2,[b20,b21,b22],())],w,x,())=b444 y6 3 w x fun(i:Int)=>if i=0 then(fits? b00).bind fun(r0:List UInt8)=>none else if i=1 then(fits? b10).bind fun(r0:List UInt8)=>none else if i=2 then(fits? b20).bind fun(r0:List UInt8)=>none else if i=3 then none else none:=by kernel_rfl
theorem tb_3_3_2(y6:T6')(a0 a1 a2 w x:Int)(u0 u1 u2:List UInt8)(p0 p1 p2:List (Vector UInt8 32))(b00 b01 b02 b10 b11 b12 b20 b21 b22:List UInt8):
 evF (K444b y6) F444 (h444b 2) P444 R444 ([(a0,u0,p0,[b00,b01,b02],()),(a1,u1,p1,[b10,b11,b12],()),(a2,u2,p2,[b20,b21,b22],())],w,x,())=b444 y6 3 w x fun(i:Int)=>if i=0 then(fits? b00).bind fun(r0:List UInt8)=>(fits? b01).bind fun(r1:List UInt8)=>none else if i=1 then(fits? b10).bind fun(r0:List UInt8)=>(fits? b11).bind fun(r1:List UInt8)=>none else if i=2 then(fits? b20).bind fun(r0:List UInt8)=>(fits? b21).bind fun(r1:List UInt8)=>none else if i=3 then none else none:=by kernel_rfl
theorem tb_3_3_3(y6:T6')(a0 a1 a2 w x:Int)(u0 u1 u2:List UInt8)(p0 p1 p2:List (Vector UInt8 32))(b00 b01 b02 b10 b11 b12 b20 b21 b22:List UInt8):
 evF (K444b y6) F444 (h444b 3) P444 R444 ([(a0,u0,p0,[b00,b01,b02],()),(a1,u1,p1,[b10,b11,b12],()),(a2,u2,p2,[b20,b21,b22],())],w,x,())=b444 y6 3 w x fun(i:Int)=>if i=0 then(fits? b00).bind fun(r0:List UInt8)=>(fits? b01).bind fun(r1:List UInt8)=>(fits? b02).bind fun(r2:List UInt8)=>(if(0:Int)<=0∧(0:Int)<(r0.length:Int)then(if(0:Int)<=0∧(0:Int)<(r0.length:Int)then some [(a0,u0,p0,[r0.set 0 (r0.getD 0 (0:UInt8)^^^(1:UInt8)),r1,r2],()),(a1,u1,p1,[b10,b11,b12],()),(a2,u2,p2,[b20,b21,b22],())]else none)else none)else if i=1 then(fits? b10).bind fun(r0:List UInt8)=>(fits? b11).bind fun(r1:List UInt8)=>(fits? b12).bind fun(r2:List UInt8)=>(if(0:Int)<=0∧(0:Int)<(r0.length:Int)then(if(0:Int)<=0∧(0:Int)<(r0.length:Int)then some [(a0,u0,p0,[b00,b01,b02],()),(a1,u1,p1,[r0.set 0 (r0.getD 0 (0:UInt8)^^^(1:UInt8)),r1,r2],()),(a2,u2,p2,[b20,b21,b22],())]else none)else none)else if i=2 then(fits? b20).bind fun(r0:List UInt8)=>(fits? b21).bind fun(r1:List UInt8)=>(fits? b22).bind fun(r2:List UInt8)=>(if(0:Int)<=0∧(0:Int)<(r0.length:Int)then(if(0:Int)<=0∧(0:Int)<(r0.length:Int)then some [(a0,u0,p0,[b00,b01,b02],()),(a1,u1,p1,[b10,b11,b12],()),(a2,u2,p2,[r0.set 0 (r0.getD 0 (0:UInt8)^^^(1:UInt8)),r1,r2],())]else none)else none)else if i=3 then none else none:=by kernel_rfl
theorem tb_4_1_0(y6:T6')(a0 a1 a2 a3 w x:Int)(u0 u1 u2 u3:List UInt8)(p0 p1 p2 p3:List (Vector UInt8 32))(b00 b10 b20 b30:List UInt8):
 evF (K444b y6) F444 (h444b 0) P444 R444 ([(a0,u0,p0,[b00],()),(a1,u1,p1,[b10],()),(a2,u2,p2,[b20],()),(a3,u3,p3,[b30],())],w,x,())=b444 y6 4 w x fun(i:Int)=>if i=0 then none else if i=1 then none else if i=2 then none else if i=3 then none else none:=by kernel_rfl
theorem tb_4_1_1(y6:T6')(a0 a1 a2 a3 w x:Int)(u0 u1 u2 u3:List UInt8)(p0 p1 p2 p3:List (Vector UInt8 32))(b00 b10 b20 b30:List UInt8):
 evF (K444b y6) F444 (h444b 1) P444 R444 ([(a0,u0,p0,[b00],()),(a1,u1,p1,[b10],()),(a2,u2,p2,[b20],()),(a3,u3,p3,[b30],())],w,x,())=b444 y6 4 w x fun(i:Int)=>if i=0 then(fits? b00).bind fun(r0:List UInt8)=>(if(0:Int)<=0∧(0:Int)<(r0.length:Int)then(if(0:Int)<=0∧(0:Int)<(r0.length:Int)then some [(a0,u0,p0,[r0.set 0 (r0.getD 0 (0:UInt8)^^^(1:UInt8))],()),(a1,u1,p1,[b10],()),(a2,u2,p2,[b20],()),(a3,u3,p3,[b30],())]else none)else none)else if i=1 then(fits? b10).bind fun(r0:List UInt8)=>(if(0:Int)<=0∧(0:Int)<(r0.length:Int)then(if(0:Int)<=0∧(0:Int)<(r0.length:Int)then some [(a0,u0,p0,[b00],()),(a1,u1,p1,[r0.set 0 (r0.getD 0 (0:UInt8)^^^(1:UInt8))],()),(a2,u2,p2,[b20],()),(a3,u3,p3,[b30],())]else none)else none)else if i=2 then(fits? b20).bind fun(r0:List UInt8)=>(if(0:Int)<=0∧(0:Int)<(r0.length:Int)then(if(0:Int)<=0∧(0:Int)<(r0.length:Int)then some [(a0,u0,p0,[b00],()),(a1,u1,p1,[b10],()),(a2,u2,p2,[r0.set 0 (r0.getD 0 (0:UInt8)^^^(1:UInt8))],()),(a3,u3,p3,[b30],())]else none)else none)else if i=3 then(fits? b30).bind fun(r0:List UInt8)=>(if(0:Int)<=0∧(0:Int)<(r0.length:Int)then(if(0:Int)<=0∧(0:Int)<(r0.length:Int)then some [(a0,u0,p0,[b00],()),(a1,u1,p1,[b10],()),(a2,u2,p2,[b20],()),(a3,u3,p3,[r0.set 0 (r0.getD 0 (0:UInt8)^^^(1:UInt8))],())]else none)else none)else none:=by kernel_rfl
theorem tb_4_2_0(y6:T6')(a0 a1 a2 a3 w x:Int)(u0 u1 u2 u3:List UInt8)(p0 p1 p2 p3:List (Vector UInt8 32))(b00 b01 b10 b11 b20 b21 b30 b31:List UInt8):
 evF (K444b y6) F444 (h444b 0) P444 R444 ([(a0,u0,p0,[b00,b01],()),(a1,u1,p1,[b10,b11],()),(a2,u2,p2,[b20,b21],()),(a3,u3,p3,[b30,b31],())],w,x,())=b444 y6 4 w x fun(i:Int)=>if i=0 then none else if i=1 then none else if i=2 then none else if i=3 then none else none:=by kernel_rfl
theorem tb_4_2_1(y6:T6')(a0 a1 a2 a3 w x:Int)(u0 u1 u2 u3:List UInt8)(p0 p1 p2 p3:List (Vector UInt8 32))(b00 b01 b10 b11 b20 b21 b30 b31:List UInt8):
 evF (K444b y6) F444 (h444b 1) P444 R444 ([(a0,u0,p0,[b00,b01],()),(a1,u1,p1,[b10,b11],()),(a2,u2,p2,[b20,b21],()),(a3,u3,p3,[b30,b31],())],w,x,())=b444 y6 4 w x fun(i:Int)=>if i=0 then(fits? b00).bind fun(r0:List UInt8)=>none else if i=1 then(fits? b10).bind fun(r0:List UInt8)=>none else if i=2 then(fits? b20).bind fun(r0:List UInt8)=>none else if i=3 then(fits? b30).bind fun(r0:List UInt8)=>none else none:=by kernel_rfl
theorem tb_4_2_2(y6:T6')(a0 a1 a2 a3 w x:Int)(u0 u1 u2 u3:List UInt8)(p0 p1 p2 p3:List (Vector UInt8 32))(b00 b01 b10 b11 b20 b21 b30 b31:List UInt8):
 evF (K444b y6) F444 (h444b 2) P444 R444 ([(a0,u0,p0,[b00,b01],()),(a1,u1,p1,[b10,b11],()),(a2,u2,p2,[b20,b21],()),(a3,u3,p3,[b30,b31],())],w,x,())=b444 y6 4 w x fun(i:Int)=>if i=0 then(fits? b00).bind fun(r0:List UInt8)=>(fits? b01).bind fun(r1:List UInt8)=>(if(0:Int)<=0∧(0:Int)<(r0.length:Int)then(if(0:Int)<=0∧(0:Int)<(r0.length:Int)then some [(a0,u0,p0,[r0.set 0 (r0.getD 0 (0:UInt8)^^^(1:UInt8)),r1],()),(a1,u1,p1,[b10,b11],()),(a2,u2,p2,[b20,b21],()),(a3,u3,p3,[b30,b31],())]else none)else none)else if i=1 then(fits? b10).bind fun(r0:List UInt8)=>(fits? b11).bind fun(r1:List UInt8)=>(if(0:Int)<=0∧(0:Int)<(r0.length:Int)then(if(0:Int)<=0∧(0:Int)<(r0.length:Int)then some [(a0,u0,p0,[b00,b01],()),(a1,u1,p1,[r0.set 0 (r0.getD 0 (0:UInt8)^^^(1:UInt8)),r1],()),(a2,u2,p2,[b20,b21],()),(a3,u3,p3,[b30,b31],())]else none)else none)else if i=2 then(fits? b20).bind fun(r0:List UInt8)=>(fits? b21).bind fun(r1:List UInt8)=>(if(0:Int)<=0∧(0:Int)<(r0.length:Int)then(if(0:Int)<=0∧(0:Int)<(r0.length:Int)then some [(a0,u0,p0,[b00,b01],()),(a1,u1,p1,[b10,b11],()),(a2,u2,p2,[r0.set 0 (r0.getD 0 (0:UInt8)^^^(1:UInt8)),r1],()),(a3,u3,p3,[b30,b31],())]else none)else none)else if i=3 then(fits? b30).bind fun(r0:List UInt8)=>(fits? b31).bind fun(r1:List UInt8)=>(if(0:Int)<=0∧(0:Int)<(r0.length:Int)then(if(0:Int)<=0∧(0:Int)<(r0.length:Int)then some [(a0,u0,p0,[b00,b01],()),(a1,u1,p1,[b10,b11],()),(a2,u2,p2,[b20,b21],()),(a3,u3,p3,[r0.set 0 (r0.getD 0 (0:UInt8)^^^(1:UInt8)),r1],())]else none)else none)else none:=by kernel_rfl
theorem tb_4_3_0(y6:T6')(a0 a1 a2 a3 w x:Int)(u0 u1 u2 u3:List UInt8)(p0 p1 p2 p3:List (Vector UInt8 32))(b00 b01 b02 b10 b11 b12 b20 b21 b22 b30 b31 b32:List UInt8):
 evF (K444b y6) F444 (h444b 0) P444 R444 ([(a0,u0,p0,[b00,b01,b02],()),(a1,u1,p1,[b10,b11,b12],()),(a2,u2,p2,[b20,b21,b22],()),(a3,u3,p3,[b30,b31,b32],())],w,x,())=b444 y6 4 w x fun(i:Int)=>if i=0 then none else if i=1 then none else if i=2 then none else if i=3 then none else none:=by kernel_rfl
theorem tb_4_3_1(y6:T6')(a0 a1 a2 a3 w x:Int)(u0 u1 u2 u3:List UInt8)(p0 p1 p2 p3:List (Vector UInt8 32))(b00 b01 b02 b10 b11 b12 b20 b21 b22 b30 b31 b32:List UInt8):
 evF (K444b y6) F444 (h444b 1) P444 R444 ([(a0,u0,p0,[b00,b01,b02],()),(a1,u1,p1,[b10,b11,b12],()),(a2,u2,p2,[b20,b21,b22],()),(a3,u3,p3,[b30,b31,b32],())],w,x,())=b444 y6 4 w x fun(i:Int)=>if i=0 then(fits? b00).bind fun(r0:List UInt8)=>none else if i=1 then(fits? b10).bind fun(r0:List UInt8)=>none else if i=2 then(fits? b20).bind fun(r0:List UInt8)=>none else if i=3 then(fits? b30).bind fun(r0:List UInt8)=>none else none:=by kernel_rfl
theorem tb_4_3_2(y6:T6')(a0 a1 a2 a3 w x:Int)(u0 u1 u2 u3:List UInt8)(p0 p1 p2 p3:List (Vector UInt8 32))(b00 b01 b02 b10 b11 b12 b20 b21 b22 b30 b31 b32:List UInt8):
 evF (K444b y6) F444 (h444b 2) P444 R444 ([(a0,u0,p0,[b00,b01,b02],()),(a1,u1,p1,[b10,b11,b12],()),(a2,u2,p2,[b20,b21,b22],()),(a3,u3,p3,[b30,b31,b32],())],w,x,())=b444 y6 4 w x fun(i:Int)=>if i=0 then(fits? b00).bind fun(r0:List UInt8)=>(fits? b01).bind fun(r1:List UInt8)=>none else if i=1 then(fits? b10).bind fun(r0:List UInt8)=>(fits? b11).bind fun(r1:List UInt8)=>none else if i=2 then(fits? b20).bind fun(r0:List UInt8)=>(fits? b21).bind fun(r1:List UInt8)=>none else if i=3 then(fits? b30).bind fun(r0:List UInt8)=>(fits? b31).bind fun(r1:List UInt8)=>none else none:=by kernel_rfl
theorem tb_4_3_3(y6:T6')(a0 a1 a2 a3 w x:Int)(u0 u1 u2 u3:List UInt8)(p0 p1 p2 p3:List (Vector UInt8 32))(b00 b01 b02 b10 b11 b12 b20 b21 b22 b30 b31 b32:List UInt8):
 evF (K444b y6) F444 (h444b 3) P444 R444 ([(a0,u0,p0,[b00,b01,b02],()),(a1,u1,p1,[b10,b11,b12],()),(a2,u2,p2,[b20,b21,b22],()),(a3,u3,p3,[b30,b31,b32],())],w,x,())=b444 y6 4 w x fun(i:Int)=>if i=0 then(fits? b00).bind fun(r0:List UInt8)=>(fits? b01).bind fun(r1:List UInt8)=>(fits? b02).bind fun(r2:List UInt8)=>(if(0:Int)<=0∧(0:Int)<(r0.length:Int)then(if(0:Int)<=0∧(0:Int)<(r0.length:Int)then some [(a0,u0,p0,[r0.set 0 (r0.getD 0 (0:UInt8)^^^(1:UInt8)),r1,r2],()),(a1,u1,p1,[b10,b11,b12],()),(a2,u2,p2,[b20,b21,b22],()),(a3,u3,p3,[b30,b31,b32],())]else none)else none)else if i=1 then(fits? b10).bind fun(r0:List UInt8)=>(fits? b11).bind fun(r1:List UInt8)=>(fits? b12).bind fun(r2:List UInt8)=>(if(0:Int)<=0∧(0:Int)<(r0.length:Int)then(if(0:Int)<=0∧(0:Int)<(r0.length:Int)then some [(a0,u0,p0,[b00,b01,b02],()),(a1,u1,p1,[r0.set 0 (r0.getD 0 (0:UInt8)^^^(1:UInt8)),r1,r2],()),(a2,u2,p2,[b20,b21,b22],()),(a3,u3,p3,[b30,b31,b32],())]else none)else none)else if i=2 then(fits? b20).bind fun(r0:List UInt8)=>(fits? b21).bind fun(r1:List UInt8)=>(fits? b22).bind fun(r2:List UInt8)=>(if(0:Int)<=0∧(0:Int)<(r0.length:Int)then(if(0:Int)<=0∧(0:Int)<(r0.length:Int)then some [(a0,u0,p0,[b00,b01,b02],()),(a1,u1,p1,[b10,b11,b12],()),(a2,u2,p2,[r0.set 0 (r0.getD 0 (0:UInt8)^^^(1:UInt8)),r1,r2],()),(a3,u3,p3,[b30,b31,b32],())]else none)else none)else if i=3 then(fits? b30).bind fun(r0:List UInt8)=>(fits? b31).bind fun(r1:List UInt8)=>(fits? b32).bind fun(r2:List UInt8)=>(if(0:Int)<=0∧(0:Int)<(r0.length:Int)then(if(0:Int)<=0∧(0:Int)<(r0.length:Int)then some [(a0,u0,p0,[b00,b01,b02],()),(a1,u1,p1,[b10,b11,b12],()),(a2,u2,p2,[b20,b21,b22],()),(a3,u3,p3,[r0.set 0 (r0.getD 0 (0:UInt8)^^^(1:UInt8)),r1,r2],())]else none)else none)else none:=by kernel_rfl
theorem e444b(q:Nat)(l:List (Int×List UInt8×List (Vector UInt8 32)×List (List UInt8)×Unit))(w x:Int):evF c444b F444 (h444b q) P444 R444 (l,w,x,())=evF (K444b f6) F444 (h444b q) P444 R444 (l,w,x,()):=by kernel_rfl
end Mx
end
section
open Go Go.Proofs Ev Sx
namespace Mx
def GoodT(k n z:Nat)(T:TS):Prop:= ∀t∈T,t.1<n∧t.2.1.length=lg n∧BlOk k z t.2.2
theorem b444_eq{n w x i:Int}{R:Int->Option (List ShT)}(h6:f6 x n=some i)(hw:f6 w 6=some 4):b444 f6 n w x R=R i:=by
 unfold b444
 rw[bs h6,bs hw];rfl
theorem orAll5{α:Type}{a b c d e:Option α}:orAll [a,b,c,d,e]=match a with|some x=>some x|none=>match b with|some x=>some x|none=>match c with|some x=>some x|none=>match d with|some x=>some x|none=>e:=by
 cases a<;>cases b<;>cases c<;>cases d<;>cases e<;>rfl
theorem BlOk.turn{k z:Nat}{b:B}{l:List B}(h:BlOk k z (b::l))(c:B)(hc:c.length=b.length):BlOk k z (c::l):=by
 obtain⟨h1,h2⟩:=h
 refine⟨by simpa using h1,fun j hj=> ?_⟩
 have:=h2 j (by simpa using hj)
 cases j with
 |zero=>simpa[hc]using this
 |succ j=>simpa using this
theorem f444_or(l:List ShT)(w x:Int):f444 l w x=orAll [evF c444 F444 h444 P444 R444 (l,w,x,()),evF (K444b f6) F444 (h444b 0) P444 R444 (l,w,x,()),evF (K444b f6) F444 (h444b 1) P444 R444 (l,w,x,()),evF (K444b f6) F444 (h444b 2) P444 R444 (l,w,x,()),evF (K444b f6) F444 (h444b 3) P444 R444 (l,w,x,())]:=by
 rw[←e444b 0 l w x,←e444b 1 l w x,←e444b 2 l w x,←e444b 3 l w x];rfl
theorem plain_none(l:List ShT)(w x i:Int)(hl:l.length<=1000)(h6:f6 x (l.length:Int)=some i)(hw:f6 w 6=some 4):evF c444 F444 h444 P444 R444 (l,w,x,())=none:=by
 have h429:f429 l=some l:=by rw[e429,t429,bs (fits_ok (by omega))]
 rw[e444a,t444a,bs h429,bs h6,bs hw]
 rw[cd_neg (by omega),cd_neg (by omega),cd_neg (by omega),cd_pos rfl]
 split
 ·cases f428 _ with
  |none=>rfl
  |some r3=>
   rw[Option.bind_some]
   split
   ·cases at? _ _ with
    |none=>rfl
    |some y=>
     rw[Option.bind_some]
     cases at? y 0 with
     |none=>rfl
     |some y1=>rfl
   ·rfl
 ·rfl
theorem p444_1_1{k n z:Nat}(hk:1<=k)(hz:z<=192)(u:B)(w x:Int)(a0:Nat)(p0:List H)(b00:B)(hg:GoodT k n z [(a0,p0,[b00])])(i:Nat)(hi:i<1)(h6:f6 x 1=some (i:Int))(hw:f6 w 6=some 4):
 ∃T',GoodT k n z T'∧T'.length<=5∧f444 (List.map (shT u) [(a0,p0,[b00])]) w x=some (T'.map (shT u)):=by
 have ha:=plain_none (List.map (shT u) [(a0,p0,[b00])]) w x i (by simp) h6 hw
 rw[f444_or,orAll5,ha]
 simp only[List.map_cons,List.map_nil]
 rw[tb_1_1_0,b444_eq h6 hw]
 rw[tb_1_1_1,b444_eq h6 hw]
 have hi2:i=0:=by omega
 rcases hi2 with rfl
 ·have hb:=hg (a0,p0,[b00]) (by simp)
  have l0:=hb.2.2.2 0 (by simp)
  have hl: ∀j,shLen k (segLen z j)<=64:=fun j=>shLen_le k _ (by unfold segLen;omega)
  have m0:=hl 0
  simp only[List.getElem_cons_zero,List.getElem_cons_succ]at l0
  have hpos:0<b00.length:=by rw[l0];exact Nat.succ_pos _
  refine⟨[(a0,p0,[b00.set 0 (b00.getD 0 0^^^1)])],?_,by simp,?_⟩
  ·intro t ht
   simp only[List.mem_cons,List.mem_nil_iff,or_false]at ht
   rcases ht with rfl
   ·exact⟨hb.1,hb.2.1,hb.2.2.turn _ (by simp)⟩
  ·first|(simp[fits_ok (xs:=b00) (by omega),hpos];done)|(simp[fits_ok (xs:=b00) (by omega),hpos];rfl)
theorem p444_1_2{k n z:Nat}(hk:1<=k)(hz:z<=192)(u:B)(w x:Int)(a0:Nat)(p0:List H)(b00 b01:B)(hg:GoodT k n z [(a0,p0,[b00,b01])])(i:Nat)(hi:i<1)(h6:f6 x 1=some (i:Int))(hw:f6 w 6=some 4):
 ∃T',GoodT k n z T'∧T'.length<=5∧f444 (List.map (shT u) [(a0,p0,[b00,b01])]) w x=some (T'.map (shT u)):=by
 have ha:=plain_none (List.map (shT u) [(a0,p0,[b00,b01])]) w x i (by simp) h6 hw
 rw[f444_or,orAll5,ha]
 simp only[List.map_cons,List.map_nil]
 rw[tb_1_2_0,b444_eq h6 hw]
 rw[tb_1_2_1,b444_eq h6 hw]
 rw[tb_1_2_2,b444_eq h6 hw]
 have hi2:i=0:=by omega
 rcases hi2 with rfl
 ·have hb:=hg (a0,p0,[b00,b01]) (by simp)
  have l0:=hb.2.2.2 0 (by simp)
  have l1:=hb.2.2.2 1 (by simp)
  have hl: ∀j,shLen k (segLen z j)<=64:=fun j=>shLen_le k _ (by unfold segLen;omega)
  have m0:=hl 0
  have m1:=hl 1
  simp only[List.getElem_cons_zero,List.getElem_cons_succ]at l0 l1
  have hpos:0<b00.length:=by rw[l0];exact Nat.succ_pos _
  refine⟨[(a0,p0,[b00.set 0 (b00.getD 0 0^^^1),b01])],?_,by simp,?_⟩
  ·intro t ht
   simp only[List.mem_cons,List.mem_nil_iff,or_false]at ht
   rcases ht with rfl
   ·exact⟨hb.1,hb.2.1,hb.2.2.turn _ (by simp)⟩
  ·first|(simp[fits_ok (xs:=b00) (by omega),fits_ok (xs:=b01) (by omega),hpos];done)|(simp[fits_ok (xs:=b00) (by omega),fits_ok (xs:=b01) (by omega),hpos];rfl)
theorem p444_1_3{k n z:Nat}(hk:1<=k)(hz:z<=192)(u:B)(w x:Int)(a0:Nat)(p0:List H)(b00 b01 b02:B)(hg:GoodT k n z [(a0,p0,[b00,b01,b02])])(i:Nat)(hi:i<1)(h6:f6 x 1=some (i:Int))(hw:f6 w 6=some 4):
 ∃T',GoodT k n z T'∧T'.length<=5∧f444 (List.map (shT u) [(a0,p0,[b00,b01,b02])]) w x=some (T'.map (shT u)):=by
 have ha:=plain_none (List.map (shT u) [(a0,p0,[b00,b01,b02])]) w x i (by simp) h6 hw
 rw[f444_or,orAll5,ha]
 simp only[List.map_cons,List.map_nil]
 rw[tb_1_3_0,b444_eq h6 hw]
 rw[tb_1_3_1,b444_eq h6 hw]
 rw[tb_1_3_2,b444_eq h6 hw]
 rw[tb_1_3_3,b444_eq h6 hw]
 have hi2:i=0:=by omega
 rcases hi2 with rfl
 ·have hb:=hg (a0,p0,[b00,b01,b02]) (by simp)
  have l0:=hb.2.2.2 0 (by simp)
  have l1:=hb.2.2.2 1 (by simp)
  have l2:=hb.2.2.2 2 (by simp)
  have hl: ∀j,shLen k (segLen z j)<=64:=fun j=>shLen_le k _ (by unfold segLen;omega)
  have m0:=hl 0
  have m1:=hl 1
  have m2:=hl 2
  simp only[List.getElem_cons_zero,List.getElem_cons_succ]at l0 l1 l2
  have hpos:0<b00.length:=by rw[l0];exact Nat.succ_pos _
  refine⟨[(a0,p0,[b00.set 0 (b00.getD 0 0^^^1),b01,b02])],?_,by simp,?_⟩
  ·intro t ht
   simp only[List.mem_cons,List.mem_nil_iff,or_false]at ht
   rcases ht with rfl
   ·exact⟨hb.1,hb.2.1,hb.2.2.turn _ (by simp)⟩
  ·first|(simp[fits_ok (xs:=b00) (by omega),fits_ok (xs:=b01) (by omega),fits_ok (xs:=b02) (by omega),hpos];done)|(simp[fits_ok (xs:=b00) (by omega),fits_ok (xs:=b01) (by omega),fits_ok (xs:=b02) (by omega),hpos];rfl)
theorem p444_2_1{k n z:Nat}(hk:1<=k)(hz:z<=192)(u:B)(w x:Int)(a0 a1:Nat)(p0 p1:List H)(b00 b10:B)(hg:GoodT k n z [(a0,p0,[b00]),(a1,p1,[b10])])(i:Nat)(hi:i<2)(h6:f6 x 2=some (i:Int))(hw:f6 w 6=some 4):
 ∃T',GoodT k n z T'∧T'.length<=5∧f444 (List.map (shT u) [(a0,p0,[b00]),(a1,p1,[b10])]) w x=some (T'.map (shT u)):=by
 have ha:=plain_none (List.map (shT u) [(a0,p0,[b00]),(a1,p1,[b10])]) w x i (by simp) h6 hw
 rw[f444_or,orAll5,ha]
 simp only[List.map_cons,List.map_nil]
 rw[tb_2_1_0,b444_eq h6 hw]
 rw[tb_2_1_1,b444_eq h6 hw]
 have hi2:i=0∨i=1:=by omega
 rcases hi2 with rfl|rfl
 ·have hb:=hg (a0,p0,[b00]) (by simp)
  have l0:=hb.2.2.2 0 (by simp)
  have hl: ∀j,shLen k (segLen z j)<=64:=fun j=>shLen_le k _ (by unfold segLen;omega)
  have m0:=hl 0
  simp only[List.getElem_cons_zero,List.getElem_cons_succ]at l0
  have hpos:0<b00.length:=by rw[l0];exact Nat.succ_pos _
  refine⟨[(a0,p0,[b00.set 0 (b00.getD 0 0^^^1)]),(a1,p1,[b10])],?_,by simp,?_⟩
  ·intro t ht
   simp only[List.mem_cons,List.mem_nil_iff,or_false]at ht
   rcases ht with rfl|rfl
   ·exact⟨hb.1,hb.2.1,hb.2.2.turn _ (by simp)⟩
   ·exact hg _ (by simp)
  ·first|(simp[fits_ok (xs:=b00) (by omega),hpos];done)|(simp[fits_ok (xs:=b00) (by omega),hpos];rfl)
 ·have hb:=hg (a1,p1,[b10]) (by simp)
  have l0:=hb.2.2.2 0 (by simp)
  have hl: ∀j,shLen k (segLen z j)<=64:=fun j=>shLen_le k _ (by unfold segLen;omega)
  have m0:=hl 0
  simp only[List.getElem_cons_zero,List.getElem_cons_succ]at l0
  have hpos:0<b10.length:=by rw[l0];exact Nat.succ_pos _
  refine⟨[(a0,p0,[b00]),(a1,p1,[b10.set 0 (b10.getD 0 0^^^1)])],?_,by simp,?_⟩
  ·intro t ht
   simp only[List.mem_cons,List.mem_nil_iff,or_false]at ht
   rcases ht with rfl|rfl
   ·exact hg _ (by simp)
   ·exact⟨hb.1,hb.2.1,hb.2.2.turn _ (by simp)⟩
  ·first|(simp[fits_ok (xs:=b10) (by omega),hpos];done)|(simp[fits_ok (xs:=b10) (by omega),hpos];rfl)
theorem p444_2_2{k n z:Nat}(hk:1<=k)(hz:z<=192)(u:B)(w x:Int)(a0 a1:Nat)(p0 p1:List H)(b00 b01 b10 b11:B)(hg:GoodT k n z [(a0,p0,[b00,b01]),(a1,p1,[b10,b11])])(i:Nat)(hi:i<2)(h6:f6 x 2=some (i:Int))(hw:f6 w 6=some 4):
 ∃T',GoodT k n z T'∧T'.length<=5∧f444 (List.map (shT u) [(a0,p0,[b00,b01]),(a1,p1,[b10,b11])]) w x=some (T'.map (shT u)):=by
 have ha:=plain_none (List.map (shT u) [(a0,p0,[b00,b01]),(a1,p1,[b10,b11])]) w x i (by simp) h6 hw
 rw[f444_or,orAll5,ha]
 simp only[List.map_cons,List.map_nil]
 rw[tb_2_2_0,b444_eq h6 hw]
 rw[tb_2_2_1,b444_eq h6 hw]
 rw[tb_2_2_2,b444_eq h6 hw]
 have hi2:i=0∨i=1:=by omega
 rcases hi2 with rfl|rfl
 ·have hb:=hg (a0,p0,[b00,b01]) (by simp)
  have l0:=hb.2.2.2 0 (by simp)
  have l1:=hb.2.2.2 1 (by simp)
  have hl: ∀j,shLen k (segLen z j)<=64:=fun j=>shLen_le k _ (by unfold segLen;omega)
  have m0:=hl 0
  have m1:=hl 1
  simp only[List.getElem_cons_zero,List.getElem_cons_succ]at l0 l1
  have hpos:0<b00.length:=by rw[l0];exact Nat.succ_pos _
  refine⟨[(a0,p0,[b00.set 0 (b00.getD 0 0^^^1),b01]),(a1,p1,[b10,b11])],?_,by simp,?_⟩
  ·intro t ht
   simp only[List.mem_cons,List.mem_nil_iff,or_false]at ht
   rcases ht with rfl|rfl
   ·exact⟨hb.1,hb.2.1,hb.2.2.turn _ (by simp)⟩
   ·exact hg _ (by simp)
  ·first|(simp[fits_ok (xs:=b00) (by omega),fits_ok (xs:=b01) (by omega),hpos];done)|(simp[fits_ok (xs:=b00) (by omega),fits_ok (xs:=b01) (by omega),hpos];rfl)
 ·have hb:=hg (a1,p1,[b10,b11]) (by simp)
  have l0:=hb.2.2.2 0 (by simp)
  have l1:=hb.2.2.2 1 (by simp)
  have hl: ∀j,shLen k (segLen z j)<=64:=fun j=>shLen_le k _ (by unfold segLen;omega)
  have m0:=hl 0
  have m1:=hl 1
  simp only[List.getElem_cons_zero,List.getElem_cons_succ]at l0 l1
  have hpos:0<b10.length:=by rw[l0];exact Nat.succ_pos _
  refine⟨[(a0,p0,[b00,b01]),(a1,p1,[b10.set 0 (b10.getD 0 0^^^1),b11])],?_,by simp,?_⟩
  ·intro t ht
   simp only[List.mem_cons,List.mem_nil_iff,or_false]at ht
   rcases ht with rfl|rfl
   ·exact hg _ (by simp)
   ·exact⟨hb.1,hb.2.1,hb.2.2.turn _ (by simp)⟩
  ·first|(simp[fits_ok (xs:=b10) (by omega),fits_ok (xs:=b11) (by omega),hpos];done)|(simp[fits_ok (xs:=b10) (by omega),fits_ok (xs:=b11) (by omega),hpos];rfl)
theorem p444_2_3{k n z:Nat}(hk:1<=k)(hz:z<=192)(u:B)(w x:Int)(a0 a1:Nat)(p0 p1:List H)(b00 b01 b02 b10 b11 b12:B)(hg:GoodT k n z [(a0,p0,[b00,b01,b02]),(a1,p1,[b10,b11,b12])])(i:Nat)(hi:i<2)(h6:f6 x 2=some (i:Int))(hw:f6 w 6=some 4):
 ∃T',GoodT k n z T'∧T'.length<=5∧f444 (List.map (shT u) [(a0,p0,[b00,b01,b02]),(a1,p1,[b10,b11,b12])]) w x=some (T'.map (shT u)):=by
 have ha:=plain_none (List.map (shT u) [(a0,p0,[b00,b01,b02]),(a1,p1,[b10,b11,b12])]) w x i (by simp) h6 hw
 rw[f444_or,orAll5,ha]
 simp only[List.map_cons,List.map_nil]
 rw[tb_2_3_0,b444_eq h6 hw]
 rw[tb_2_3_1,b444_eq h6 hw]
 rw[tb_2_3_2,b444_eq h6 hw]
 rw[tb_2_3_3,b444_eq h6 hw]
 have hi2:i=0∨i=1:=by omega
 rcases hi2 with rfl|rfl
 ·have hb:=hg (a0,p0,[b00,b01,b02]) (by simp)
  have l0:=hb.2.2.2 0 (by simp)
  have l1:=hb.2.2.2 1 (by simp)
  have l2:=hb.2.2.2 2 (by simp)
  have hl: ∀j,shLen k (segLen z j)<=64:=fun j=>shLen_le k _ (by unfold segLen;omega)
  have m0:=hl 0
  have m1:=hl 1
  have m2:=hl 2
  simp only[List.getElem_cons_zero,List.getElem_cons_succ]at l0 l1 l2
  have hpos:0<b00.length:=by rw[l0];exact Nat.succ_pos _
  refine⟨[(a0,p0,[b00.set 0 (b00.getD 0 0^^^1),b01,b02]),(a1,p1,[b10,b11,b12])],?_,by simp,?_⟩
  ·intro t ht
   simp only[List.mem_cons,List.mem_nil_iff,or_false]at ht
   rcases ht with rfl|rfl
   ·exact⟨hb.1,hb.2.1,hb.2.2.turn _ (by simp)⟩
   ·exact hg _ (by simp)
  ·first|(simp[fits_ok (xs:=b00) (by omega),fits_ok (xs:=b01) (by omega),fits_ok (xs:=b02) (by omega),hpos];done)|(simp[fits_ok (xs:=b00) (by omega),fits_ok (xs:=b01) (by omega),fits_ok (xs:=b02) (by omega),hpos];rfl)
 ·have hb:=hg (a1,p1,[b10,b11,b12]) (by simp)
  have l0:=hb.2.2.2 0 (by simp)
  have l1:=hb.2.2.2 1 (by simp)
  have l2:=hb.2.2.2 2 (by simp)
  have hl: ∀j,shLen k (segLen z j)<=64:=fun j=>shLen_le k _ (by unfold segLen;omega)
  have m0:=hl 0
  have m1:=hl 1
  have m2:=hl 2
  simp only[List.getElem_cons_zero,List.getElem_cons_succ]at l0 l1 l2
  have hpos:0<b10.length:=by rw[l0];exact Nat.succ_pos _
  refine⟨[(a0,p0,[b00,b01,b02]),(a1,p1,[b10.set 0 (b10.getD 0 0^^^1),b11,b12])],?_,by simp,?_⟩
  ·intro t ht
   simp only[List.mem_cons,List.mem_nil_iff,or_false]at ht
   rcases ht with rfl|rfl
   ·exact hg _ (by simp)
   ·exact⟨hb.1,hb.2.1,hb.2.2.turn _ (by simp)⟩
  ·first|(simp[fits_ok (xs:=b10) (by omega),fits_ok (xs:=b11) (by omega),fits_ok (xs:=b12) (by omega),hpos];done)|(simp[fits_ok (xs:=b10) (by omega),fits_ok (xs:=b11) (by omega),fits_ok (xs:=b12) (by omega),hpos];rfl)
theorem p444_3_1{k n z:Nat}(hk:1<=k)(hz:z<=192)(u:B)(w x:Int)(a0 a1 a2:Nat)(p0 p1 p2:List H)(b00 b10 b20:B)(hg:GoodT k n z [(a0,p0,[b00]),(a1,p1,[b10]),(a2,p2,[b20])])(i:Nat)(hi:i<3)(h6:f6 x 3=some (i:Int))(hw:f6 w 6=some 4):
 ∃T',GoodT k n z T'∧T'.length<=5∧f444 (List.map (shT u) [(a0,p0,[b00]),(a1,p1,[b10]),(a2,p2,[b20])]) w x=some (T'.map (shT u)):=by
 have ha:=plain_none (List.map (shT u) [(a0,p0,[b00]),(a1,p1,[b10]),(a2,p2,[b20])]) w x i (by simp) h6 hw
 rw[f444_or,orAll5,ha]
 simp only[List.map_cons,List.map_nil]
 rw[tb_3_1_0,b444_eq h6 hw]
 rw[tb_3_1_1,b444_eq h6 hw]
 have hi2:i=0∨i=1∨i=2:=by omega
 rcases hi2 with rfl|rfl|rfl
 ·have hb:=hg (a0,p0,[b00]) (by simp)
  have l0:=hb.2.2.2 0 (by simp)
  have hl: ∀j,shLen k (segLen z j)<=64:=fun j=>shLen_le k _ (by unfold segLen;omega)
  have m0:=hl 0
  simp only[List.getElem_cons_zero,List.getElem_cons_succ]at l0
  have hpos:0<b00.length:=by rw[l0];exact Nat.succ_pos _
  refine⟨[(a0,p0,[b00.set 0 (b00.getD 0 0^^^1)]),(a1,p1,[b10]),(a2,p2,[b20])],?_,by simp,?_⟩
  ·intro t ht
   simp only[List.mem_cons,List.mem_nil_iff,or_false]at ht
   rcases ht with rfl|rfl|rfl
   ·exact⟨hb.1,hb.2.1,hb.2.2.turn _ (by simp)⟩
   ·exact hg _ (by simp)
   ·exact hg _ (by simp)
  ·first|(simp[fits_ok (xs:=b00) (by omega),hpos];done)|(simp[fits_ok (xs:=b00) (by omega),hpos];rfl)
 ·have hb:=hg (a1,p1,[b10]) (by simp)
  have l0:=hb.2.2.2 0 (by simp)
  have hl: ∀j,shLen k (segLen z j)<=64:=fun j=>shLen_le k _ (by unfold segLen;omega)
  have m0:=hl 0
  simp only[List.getElem_cons_zero,List.getElem_cons_succ]at l0
  have hpos:0<b10.length:=by rw[l0];exact Nat.succ_pos _
  refine⟨[(a0,p0,[b00]),(a1,p1,[b10.set 0 (b10.getD 0 0^^^1)]),(a2,p2,[b20])],?_,by simp,?_⟩
  ·intro t ht
   simp only[List.mem_cons,List.mem_nil_iff,or_false]at ht
   rcases ht with rfl|rfl|rfl
   ·exact hg _ (by simp)
   ·exact⟨hb.1,hb.2.1,hb.2.2.turn _ (by simp)⟩
   ·exact hg _ (by simp)
  ·first|(simp[fits_ok (xs:=b10) (by omega),hpos];done)|(simp[fits_ok (xs:=b10) (by omega),hpos];rfl)
 ·have hb:=hg (a2,p2,[b20]) (by simp)
  have l0:=hb.2.2.2 0 (by simp)
  have hl: ∀j,shLen k (segLen z j)<=64:=fun j=>shLen_le k _ (by unfold segLen;omega)
  have m0:=hl 0
  simp only[List.getElem_cons_zero,List.getElem_cons_succ]at l0
  have hpos:0<b20.length:=by rw[l0];exact Nat.succ_pos _
  refine⟨[(a0,p0,[b00]),(a1,p1,[b10]),(a2,p2,[b20.set 0 (b20.getD 0 0^^^1)])],?_,by simp,?_⟩
  ·intro t ht
   simp only[List.mem_cons,List.mem_nil_iff,or_false]at ht
   rcases ht with rfl|rfl|rfl
   ·exact hg _ (by simp)
   ·exact hg _ (by simp)
   ·exact⟨hb.1,hb.2.1,hb.2.2.turn _ (by simp)⟩
  ·first|(simp[fits_ok (xs:=b20) (by omega),hpos];done)|(simp[fits_ok (xs:=b20) (by omega),hpos];rfl)
theorem p444_3_2{k n z:Nat}(hk:1<=k)(hz:z<=192)(u:B)(w x:Int)(a0 a1 a2:Nat)(p0 p1 p2:List H)(b00 b01 b10 b11 b20 b21:B)(hg:GoodT k n z [(a0,p0,[b00,b01]),(a1,p1,[b10,b11]),(a2,p2,[b20,b21])])(i:Nat)(hi:i<3)(h6:f6 x 3=some (i:Int))(hw:f6 w 6=some 4):
 ∃T',GoodT k n z T'∧T'.length<=5∧f444 (List.map (shT u) [(a0,p0,[b00,b01]),(a1,p1,[b10,b11]),(a2,p2,[b20,b21])]) w x=some (T'.map (shT u)):=by
 have ha:=plain_none (List.map (shT u) [(a0,p0,[b00,b01]),(a1,p1,[b10,b11]),(a2,p2,[b20,b21])]) w x i (by simp) h6 hw
 rw[f444_or,orAll5,ha]
 simp only[List.map_cons,List.map_nil]
 rw[tb_3_2_0,b444_eq h6 hw]
 rw[tb_3_2_1,b444_eq h6 hw]
 rw[tb_3_2_2,b444_eq h6 hw]
 have hi2:i=0∨i=1∨i=2:=by omega
 rcases hi2 with rfl|rfl|rfl
 ·have hb:=hg (a0,p0,[b00,b01]) (by simp)
  have l0:=hb.2.2.2 0 (by simp)
  have l1:=hb.2.2.2 1 (by simp)
  have hl: ∀j,shLen k (segLen z j)<=64:=fun j=>shLen_le k _ (by unfold segLen;omega)
  have m0:=hl 0
  have m1:=hl 1
  simp only[List.getElem_cons_zero,List.getElem_cons_succ]at l0 l1
  have hpos:0<b00.length:=by rw[l0];exact Nat.succ_pos _
  refine⟨[(a0,p0,[b00.set 0 (b00.getD 0 0^^^1),b01]),(a1,p1,[b10,b11]),(a2,p2,[b20,b21])],?_,by simp,?_⟩
  ·intro t ht
   simp only[List.mem_cons,List.mem_nil_iff,or_false]at ht
   rcases ht with rfl|rfl|rfl
   ·exact⟨hb.1,hb.2.1,hb.2.2.turn _ (by simp)⟩
   ·exact hg _ (by simp)
   ·exact hg _ (by simp)
  ·first|(simp[fits_ok (xs:=b00) (by omega),fits_ok (xs:=b01) (by omega),hpos];done)|(simp[fits_ok (xs:=b00) (by omega),fits_ok (xs:=b01) (by omega),hpos];rfl)
 ·have hb:=hg (a1,p1,[b10,b11]) (by simp)
  have l0:=hb.2.2.2 0 (by simp)
  have l1:=hb.2.2.2 1 (by simp)
  have hl: ∀j,shLen k (segLen z j)<=64:=fun j=>shLen_le k _ (by unfold segLen;omega)
  have m0:=hl 0
  have m1:=hl 1
  simp only[List.getElem_cons_zero,List.getElem_cons_succ]at l0 l1
  have hpos:0<b10.length:=by rw[l0];exact Nat.succ_pos _
  refine⟨[(a0,p0,[b00,b01]),(a1,p1,[b10.set 0 (b10.getD 0 0^^^1),b11]),(a2,p2,[b20,b21])],?_,by simp,?_⟩
  ·intro t ht
   simp only[List.mem_cons,List.mem_nil_iff,or_false]at ht
   rcases ht with rfl|rfl|rfl
   ·exact hg _ (by simp)
   ·exact⟨hb.1,hb.2.1,hb.2.2.turn _ (by simp)⟩
   ·exact hg _ (by simp)
  ·first|(simp[fits_ok (xs:=b10) (by omega),fits_ok (xs:=b11) (by omega),hpos];done)|(simp[fits_ok (xs:=b10) (by omega),fits_ok (xs:=b11) (by omega),hpos];rfl)
 ·have hb:=hg (a2,p2,[b20,b21]) (by simp)
  have l0:=hb.2.2.2 0 (by simp)
  have l1:=hb.2.2.2 1 (by simp)
  have hl: ∀j,shLen k (segLen z j)<=64:=fun j=>shLen_le k _ (by unfold segLen;omega)
  have m0:=hl 0
  have m1:=hl 1
  simp only[List.getElem_cons_zero,List.getElem_cons_succ]at l0 l1
  have hpos:0<b20.length:=by rw[l0];exact Nat.succ_pos _
  refine⟨[(a0,p0,[b00,b01]),(a1,p1,[b10,b11]),(a2,p2,[b20.set 0 (b20.getD 0 0^^^1),b21])],?_,by simp,?_⟩
  ·intro t ht
   simp only[List.mem_cons,List.mem_nil_iff,or_false]at ht
   rcases ht with rfl|rfl|rfl
   ·exact hg _ (by simp)
   ·exact hg _ (by simp)
   ·exact⟨hb.1,hb.2.1,hb.2.2.turn _ (by simp)⟩
  ·first|(simp[fits_ok (xs:=b20) (by omega),fits_ok (xs:=b21) (by omega),hpos];done)|(simp[fits_ok (xs:=b20) (by omega),fits_ok (xs:=b21) (by omega),hpos];rfl)
theorem p444_3_3{k n z:Nat}(hk:1<=k)(hz:z<=192)(u:B)(w x:Int)(a0 a1 a2:Nat)(p0 p1 p2:List H)(b00 b01 b02 b10 b11 b12 b20 b21 b22:B)(hg:GoodT k n z [(a0,p0,[b00,b01,b02]),(a1,p1,[b10,b11,b12]),(a2,p2,[b20,b21,b22])])(i:Nat)(hi:i<3)(h6:f6 x 3=some (i:Int))(hw:f6 w 6=some 4):
 ∃T',GoodT k n z T'∧T'.length<=5∧f444 (List.map (shT u) [(a0,p0,[b00,b01,b02]),(a1,p1,[b10,b11,b12]),(a2,p2,[b20,b21,b22])]) w x=some (T'.map (shT u)):=by
 have ha:=plain_none (List.map (shT u) [(a0,p0,[b00,b01,b02]),(a1,p1,[b10,b11,b12]),(a2,p2,[b20,b21,b22])]) w x i (by simp) h6 hw
 rw[f444_or,orAll5,ha]
 simp only[List.map_cons,List.map_nil]
 rw[tb_3_3_0,b444_eq h6 hw]
 rw[tb_3_3_1,b444_eq h6 hw]
 rw[tb_3_3_2,b444_eq h6 hw]
 rw[tb_3_3_3,b444_eq h6 hw]
 have hi2:i=0∨i=1∨i=2:=by omega
 rcases hi2 with rfl|rfl|rfl
 ·have hb:=hg (a0,p0,[b00,b01,b02]) (by simp)
  have l0:=hb.2.2.2 0 (by simp)
  have l1:=hb.2.2.2 1 (by simp)
  have l2:=hb.2.2.2 2 (by simp)
  have hl: ∀j,shLen k (segLen z j)<=64:=fun j=>shLen_le k _ (by unfold segLen;omega)
  have m0:=hl 0
  have m1:=hl 1
  have m2:=hl 2
  simp only[List.getElem_cons_zero,List.getElem_cons_succ]at l0 l1 l2
  have hpos:0<b00.length:=by rw[l0];exact Nat.succ_pos _
  refine⟨[(a0,p0,[b00.set 0 (b00.getD 0 0^^^1),b01,b02]),(a1,p1,[b10,b11,b12]),(a2,p2,[b20,b21,b22])],?_,by simp,?_⟩
  ·intro t ht
   simp only[List.mem_cons,List.mem_nil_iff,or_false]at ht
   rcases ht with rfl|rfl|rfl
   ·exact⟨hb.1,hb.2.1,hb.2.2.turn _ (by simp)⟩
   ·exact hg _ (by simp)
   ·exact hg _ (by simp)
  ·first|(simp[fits_ok (xs:=b00) (by omega),fits_ok (xs:=b01) (by omega),fits_ok (xs:=b02) (by omega),hpos];done)|(simp[fits_ok (xs:=b00) (by omega),fits_ok (xs:=b01) (by omega),fits_ok (xs:=b02) (by omega),hpos];rfl)
 ·have hb:=hg (a1,p1,[b10,b11,b12]) (by simp)
  have l0:=hb.2.2.2 0 (by simp)
  have l1:=hb.2.2.2 1 (by simp)
  have l2:=hb.2.2.2 2 (by simp)
  have hl: ∀j,shLen k (segLen z j)<=64:=fun j=>shLen_le k _ (by unfold segLen;omega)
  have m0:=hl 0
  have m1:=hl 1
  have m2:=hl 2
  simp only[List.getElem_cons_zero,List.getElem_cons_succ]at l0 l1 l2
  have hpos:0<b10.length:=by rw[l0];exact Nat.succ_pos _
  refine⟨[(a0,p0,[b00,b01,b02]),(a1,p1,[b10.set 0 (b10.getD 0 0^^^1),b11,b12]),(a2,p2,[b20,b21,b22])],?_,by simp,?_⟩
  ·intro t ht
   simp only[List.mem_cons,List.mem_nil_iff,or_false]at ht
   rcases ht with rfl|rfl|rfl
   ·exact hg _ (by simp)
   ·exact⟨hb.1,hb.2.1,hb.2.2.turn _ (by simp)⟩
   ·exact hg _ (by simp)
  ·first|(simp[fits_ok (xs:=b10) (by omega),fits_ok (xs:=b11) (by omega),fits_ok (xs:=b12) (by omega),hpos];done)|(simp[fits_ok (xs:=b10) (by omega),fits_ok (xs:=b11) (by omega),fits_ok (xs:=b12) (by omega),hpos];rfl)
 ·have hb:=hg (a2,p2,[b20,b21,b22]) (by simp)
  have l0:=hb.2.2.2 0 (by simp)
  have l1:=hb.2.2.2 1 (by simp)
  have l2:=hb.2.2.2 2 (by simp)
  have hl: ∀j,shLen k (segLen z j)<=64:=fun j=>shLen_le k _ (by unfold segLen;omega)
  have m0:=hl 0
  have m1:=hl 1
  have m2:=hl 2
  simp only[List.getElem_cons_zero,List.getElem_cons_succ]at l0 l1 l2
  have hpos:0<b20.length:=by rw[l0];exact Nat.succ_pos _
  refine⟨[(a0,p0,[b00,b01,b02]),(a1,p1,[b10,b11,b12]),(a2,p2,[b20.set 0 (b20.getD 0 0^^^1),b21,b22])],?_,by simp,?_⟩
  ·intro t ht
   simp only[List.mem_cons,List.mem_nil_iff,or_false]at ht
   rcases ht with rfl|rfl|rfl
   ·exact hg _ (by simp)
   ·exact hg _ (by simp)
   ·exact⟨hb.1,hb.2.1,hb.2.2.turn _ (by simp)⟩
  ·first|(simp[fits_ok (xs:=b20) (by omega),fits_ok (xs:=b21) (by omega),fits_ok (xs:=b22) (by omega),hpos];done)|(simp[fits_ok (xs:=b20) (by omega),fits_ok (xs:=b21) (by omega),fits_ok (xs:=b22) (by omega),hpos];rfl)
theorem p444_4_1{k n z:Nat}(hk:1<=k)(hz:z<=192)(u:B)(w x:Int)(a0 a1 a2 a3:Nat)(p0 p1 p2 p3:List H)(b00 b10 b20 b30:B)(hg:GoodT k n z [(a0,p0,[b00]),(a1,p1,[b10]),(a2,p2,[b20]),(a3,p3,[b30])])(i:Nat)(hi:i<4)(h6:f6 x 4=some (i:Int))(hw:f6 w 6=some 4):
 ∃T',GoodT k n z T'∧T'.length<=5∧f444 (List.map (shT u) [(a0,p0,[b00]),(a1,p1,[b10]),(a2,p2,[b20]),(a3,p3,[b30])]) w x=some (T'.map (shT u)):=by
 have ha:=plain_none (List.map (shT u) [(a0,p0,[b00]),(a1,p1,[b10]),(a2,p2,[b20]),(a3,p3,[b30])]) w x i (by simp) h6 hw
 rw[f444_or,orAll5,ha]
 simp only[List.map_cons,List.map_nil]
 rw[tb_4_1_0,b444_eq h6 hw]
 rw[tb_4_1_1,b444_eq h6 hw]
 have hi2:i=0∨i=1∨i=2∨i=3:=by omega
 rcases hi2 with rfl|rfl|rfl|rfl
 ·have hb:=hg (a0,p0,[b00]) (by simp)
  have l0:=hb.2.2.2 0 (by simp)
  have hl: ∀j,shLen k (segLen z j)<=64:=fun j=>shLen_le k _ (by unfold segLen;omega)
  have m0:=hl 0
  simp only[List.getElem_cons_zero,List.getElem_cons_succ]at l0
  have hpos:0<b00.length:=by rw[l0];exact Nat.succ_pos _
  refine⟨[(a0,p0,[b00.set 0 (b00.getD 0 0^^^1)]),(a1,p1,[b10]),(a2,p2,[b20]),(a3,p3,[b30])],?_,by simp,?_⟩
  ·intro t ht
   simp only[List.mem_cons,List.mem_nil_iff,or_false]at ht
   rcases ht with rfl|rfl|rfl|rfl
   ·exact⟨hb.1,hb.2.1,hb.2.2.turn _ (by simp)⟩
   ·exact hg _ (by simp)
   ·exact hg _ (by simp)
   ·exact hg _ (by simp)
  ·first|(simp[fits_ok (xs:=b00) (by omega),hpos];done)|(simp[fits_ok (xs:=b00) (by omega),hpos];rfl)
 ·have hb:=hg (a1,p1,[b10]) (by simp)
  have l0:=hb.2.2.2 0 (by simp)
  have hl: ∀j,shLen k (segLen z j)<=64:=fun j=>shLen_le k _ (by unfold segLen;omega)
  have m0:=hl 0
  simp only[List.getElem_cons_zero,List.getElem_cons_succ]at l0
  have hpos:0<b10.length:=by rw[l0];exact Nat.succ_pos _
  refine⟨[(a0,p0,[b00]),(a1,p1,[b10.set 0 (b10.getD 0 0^^^1)]),(a2,p2,[b20]),(a3,p3,[b30])],?_,by simp,?_⟩
  ·intro t ht
   simp only[List.mem_cons,List.mem_nil_iff,or_false]at ht
   rcases ht with rfl|rfl|rfl|rfl
   ·exact hg _ (by simp)
   ·exact⟨hb.1,hb.2.1,hb.2.2.turn _ (by simp)⟩
   ·exact hg _ (by simp)
   ·exact hg _ (by simp)
  ·first|(simp[fits_ok (xs:=b10) (by omega),hpos];done)|(simp[fits_ok (xs:=b10) (by omega),hpos];rfl)
 ·have hb:=hg (a2,p2,[b20]) (by simp)
  have l0:=hb.2.2.2 0 (by simp)
  have hl: ∀j,shLen k (segLen z j)<=64:=fun j=>shLen_le k _ (by unfold segLen;omega)
  have m0:=hl 0
  simp only[List.getElem_cons_zero,List.getElem_cons_succ]at l0
  have hpos:0<b20.length:=by rw[l0];exact Nat.succ_pos _
  refine⟨[(a0,p0,[b00]),(a1,p1,[b10]),(a2,p2,[b20.set 0 (b20.getD 0 0^^^1)]),(a3,p3,[b30])],?_,by simp,?_⟩
  ·intro t ht
   simp only[List.mem_cons,List.mem_nil_iff,or_false]at ht
   rcases ht with rfl|rfl|rfl|rfl
   ·exact hg _ (by simp)
   ·exact hg _ (by simp)
   ·exact⟨hb.1,hb.2.1,hb.2.2.turn _ (by simp)⟩
   ·exact hg _ (by simp)
  ·first|(simp[fits_ok (xs:=b20) (by omega),hpos];done)|(simp[fits_ok (xs:=b20) (by omega),hpos];rfl)
 ·have hb:=hg (a3,p3,[b30]) (by simp)
  have l0:=hb.2.2.2 0 (by simp)
  have hl: ∀j,shLen k (segLen z j)<=64:=fun j=>shLen_le k _ (by unfold segLen;omega)
  have m0:=hl 0
  simp only[List.getElem_cons_zero,List.getElem_cons_succ]at l0
  have hpos:0<b30.length:=by rw[l0];exact Nat.succ_pos _
  refine⟨[(a0,p0,[b00]),(a1,p1,[b10]),(a2,p2,[b20]),(a3,p3,[b30.set 0 (b30.getD 0 0^^^1)])],?_,by simp,?_⟩
  ·intro t ht
   simp only[List.mem_cons,List.mem_nil_iff,or_false]at ht
   rcases ht with rfl|rfl|rfl|rfl
   ·exact hg _ (by simp)
   ·exact hg _ (by simp)
   ·exact hg _ (by simp)
   ·exact⟨hb.1,hb.2.1,hb.2.2.turn _ (by simp)⟩
  ·first|(simp[fits_ok (xs:=b30) (by omega),hpos];done)|(simp[fits_ok (xs:=b30) (by omega),hpos];rfl)
theorem p444_4_2{k n z:Nat}(hk:1<=k)(hz:z<=192)(u:B)(w x:Int)(a0 a1 a2 a3:Nat)(p0 p1 p2 p3:List H)(b00 b01 b10 b11 b20 b21 b30 b31:B)(hg:GoodT k n z [(a0,p0,[b00,b01]),(a1,p1,[b10,b11]),(a2,p2,[b20,b21]),(a3,p3,[b30,b31])])(i:Nat)(hi:i<4)(h6:f6 x 4=some (i:Int))(hw:f6 w 6=some 4):
 ∃T',GoodT k n z T'∧T'.length<=5∧f444 (List.map (shT u) [(a0,p0,[b00,b01]),(a1,p1,[b10,b11]),(a2,p2,[b20,b21]),(a3,p3,[b30,b31])]) w x=some (T'.map (shT u)):=by
 have ha:=plain_none (List.map (shT u) [(a0,p0,[b00,b01]),(a1,p1,[b10,b11]),(a2,p2,[b20,b21]),(a3,p3,[b30,b31])]) w x i (by simp) h6 hw
 rw[f444_or,orAll5,ha]
 simp only[List.map_cons,List.map_nil]
 rw[tb_4_2_0,b444_eq h6 hw]
 rw[tb_4_2_1,b444_eq h6 hw]
 rw[tb_4_2_2,b444_eq h6 hw]
 have hi2:i=0∨i=1∨i=2∨i=3:=by omega
 rcases hi2 with rfl|rfl|rfl|rfl
 ·have hb:=hg (a0,p0,[b00,b01]) (by simp)
  have l0:=hb.2.2.2 0 (by simp)
  have l1:=hb.2.2.2 1 (by simp)
  have hl: ∀j,shLen k (segLen z j)<=64:=fun j=>shLen_le k _ (by unfold segLen;omega)
  have m0:=hl 0
  have m1:=hl 1
  simp only[List.getElem_cons_zero,List.getElem_cons_succ]at l0 l1
  have hpos:0<b00.length:=by rw[l0];exact Nat.succ_pos _
  refine⟨[(a0,p0,[b00.set 0 (b00.getD 0 0^^^1),b01]),(a1,p1,[b10,b11]),(a2,p2,[b20,b21]),(a3,p3,[b30,b31])],?_,by simp,?_⟩
  ·intro t ht
   simp only[List.mem_cons,List.mem_nil_iff,or_false]at ht
   rcases ht with rfl|rfl|rfl|rfl
   ·exact⟨hb.1,hb.2.1,hb.2.2.turn _ (by simp)⟩
   ·exact hg _ (by simp)
   ·exact hg _ (by simp)
   ·exact hg _ (by simp)
  ·first|(simp[fits_ok (xs:=b00) (by omega),fits_ok (xs:=b01) (by omega),hpos];done)|(simp[fits_ok (xs:=b00) (by omega),fits_ok (xs:=b01) (by omega),hpos];rfl)
 ·have hb:=hg (a1,p1,[b10,b11]) (by simp)
  have l0:=hb.2.2.2 0 (by simp)
  have l1:=hb.2.2.2 1 (by simp)
  have hl: ∀j,shLen k (segLen z j)<=64:=fun j=>shLen_le k _ (by unfold segLen;omega)
  have m0:=hl 0
  have m1:=hl 1
  simp only[List.getElem_cons_zero,List.getElem_cons_succ]at l0 l1
  have hpos:0<b10.length:=by rw[l0];exact Nat.succ_pos _
  refine⟨[(a0,p0,[b00,b01]),(a1,p1,[b10.set 0 (b10.getD 0 0^^^1),b11]),(a2,p2,[b20,b21]),(a3,p3,[b30,b31])],?_,by simp,?_⟩
  ·intro t ht
   simp only[List.mem_cons,List.mem_nil_iff,or_false]at ht
   rcases ht with rfl|rfl|rfl|rfl
   ·exact hg _ (by simp)
   ·exact⟨hb.1,hb.2.1,hb.2.2.turn _ (by simp)⟩
   ·exact hg _ (by simp)
   ·exact hg _ (by simp)
  ·first|(simp[fits_ok (xs:=b10) (by omega),fits_ok (xs:=b11) (by omega),hpos];done)|(simp[fits_ok (xs:=b10) (by omega),fits_ok (xs:=b11) (by omega),hpos];rfl)
 ·have hb:=hg (a2,p2,[b20,b21]) (by simp)
  have l0:=hb.2.2.2 0 (by simp)
  have l1:=hb.2.2.2 1 (by simp)
  have hl: ∀j,shLen k (segLen z j)<=64:=fun j=>shLen_le k _ (by unfold segLen;omega)
  have m0:=hl 0
  have m1:=hl 1
  simp only[List.getElem_cons_zero,List.getElem_cons_succ]at l0 l1
  have hpos:0<b20.length:=by rw[l0];exact Nat.succ_pos _
  refine⟨[(a0,p0,[b00,b01]),(a1,p1,[b10,b11]),(a2,p2,[b20.set 0 (b20.getD 0 0^^^1),b21]),(a3,p3,[b30,b31])],?_,by simp,?_⟩
  ·intro t ht
   simp only[List.mem_cons,List.mem_nil_iff,or_false]at ht
   rcases ht with rfl|rfl|rfl|rfl
   ·exact hg _ (by simp)
   ·exact hg _ (by simp)
   ·exact⟨hb.1,hb.2.1,hb.2.2.turn _ (by simp)⟩
   ·exact hg _ (by simp)
  ·first|(simp[fits_ok (xs:=b20) (by omega),fits_ok (xs:=b21) (by omega),hpos];done)|(simp[fits_ok (xs:=b20) (by omega),fits_ok (xs:=b21) (by omega),hpos];rfl)
 ·have hb:=hg (a3,p3,[b30,b31]) (by simp)
  have l0:=hb.2.2.2 0 (by simp)
  have l1:=hb.2.2.2 1 (by simp)
  have hl: ∀j,shLen k (segLen z j)<=64:=fun j=>shLen_le k _ (by unfold segLen;omega)
  have m0:=hl 0
  have m1:=hl 1
  simp only[List.getElem_cons_zero,List.getElem_cons_succ]at l0 l1
  have hpos:0<b30.length:=by rw[l0];exact Nat.succ_pos _
  refine⟨[(a0,p0,[b00,b01]),(a1,p1,[b10,b11]),(a2,p2,[b20,b21]),(a3,p3,[b30.set 0 (b30.getD 0 0^^^1),b31])],?_,by simp,?_⟩
  ·intro t ht
   simp only[List.mem_cons,List.mem_nil_iff,or_false]at ht
   rcases ht with rfl|rfl|rfl|rfl
   ·exact hg _ (by simp)
   ·exact hg _ (by simp)
   ·exact hg _ (by simp)
   ·exact⟨hb.1,hb.2.1,hb.2.2.turn _ (by simp)⟩
  ·first|(simp[fits_ok (xs:=b30) (by omega),fits_ok (xs:=b31) (by omega),hpos];done)|(simp[fits_ok (xs:=b30) (by omega),fits_ok (xs:=b31) (by omega),hpos];rfl)
theorem p444_4_3{k n z:Nat}(hk:1<=k)(hz:z<=192)(u:B)(w x:Int)(a0 a1 a2 a3:Nat)(p0 p1 p2 p3:List H)(b00 b01 b02 b10 b11 b12 b20 b21 b22 b30 b31 b32:B)(hg:GoodT k n z [(a0,p0,[b00,b01,b02]),(a1,p1,[b10,b11,b12]),(a2,p2,[b20,b21,b22]),(a3,p3,[b30,b31,b32])])(i:Nat)(hi:i<4)(h6:f6 x 4=some (i:Int))(hw:f6 w 6=some 4):
 ∃T',GoodT k n z T'∧T'.length<=5∧f444 (List.map (shT u) [(a0,p0,[b00,b01,b02]),(a1,p1,[b10,b11,b12]),(a2,p2,[b20,b21,b22]),(a3,p3,[b30,b31,b32])]) w x=some (T'.map (shT u)):=by
 have ha:=plain_none (List.map (shT u) [(a0,p0,[b00,b01,b02]),(a1,p1,[b10,b11,b12]),(a2,p2,[b20,b21,b22]),(a3,p3,[b30,b31,b32])]) w x i (by simp) h6 hw
 rw[f444_or,orAll5,ha]
 simp only[List.map_cons,List.map_nil]
 rw[tb_4_3_0,b444_eq h6 hw]
 rw[tb_4_3_1,b444_eq h6 hw]
 rw[tb_4_3_2,b444_eq h6 hw]
 rw[tb_4_3_3,b444_eq h6 hw]
 have hi2:i=0∨i=1∨i=2∨i=3:=by omega
 rcases hi2 with rfl|rfl|rfl|rfl
 ·have hb:=hg (a0,p0,[b00,b01,b02]) (by simp)
  have l0:=hb.2.2.2 0 (by simp)
  have l1:=hb.2.2.2 1 (by simp)
  have l2:=hb.2.2.2 2 (by simp)
  have hl: ∀j,shLen k (segLen z j)<=64:=fun j=>shLen_le k _ (by unfold segLen;omega)
  have m0:=hl 0
  have m1:=hl 1
  have m2:=hl 2
  simp only[List.getElem_cons_zero,List.getElem_cons_succ]at l0 l1 l2
  have hpos:0<b00.length:=by rw[l0];exact Nat.succ_pos _
  refine⟨[(a0,p0,[b00.set 0 (b00.getD 0 0^^^1),b01,b02]),(a1,p1,[b10,b11,b12]),(a2,p2,[b20,b21,b22]),(a3,p3,[b30,b31,b32])],?_,by simp,?_⟩
  ·intro t ht
   simp only[List.mem_cons,List.mem_nil_iff,or_false]at ht
   rcases ht with rfl|rfl|rfl|rfl
   ·exact⟨hb.1,hb.2.1,hb.2.2.turn _ (by simp)⟩
   ·exact hg _ (by simp)
   ·exact hg _ (by simp)
   ·exact hg _ (by simp)
  ·first|(simp[fits_ok (xs:=b00) (by omega),fits_ok (xs:=b01) (by omega),fits_ok (xs:=b02) (by omega),hpos];done)|(simp[fits_ok (xs:=b00) (by omega),fits_ok (xs:=b01) (by omega),fits_ok (xs:=b02) (by omega),hpos];rfl)
 ·have hb:=hg (a1,p1,[b10,b11,b12]) (by simp)
  have l0:=hb.2.2.2 0 (by simp)
  have l1:=hb.2.2.2 1 (by simp)
  have l2:=hb.2.2.2 2 (by simp)
  have hl: ∀j,shLen k (segLen z j)<=64:=fun j=>shLen_le k _ (by unfold segLen;omega)
  have m0:=hl 0
  have m1:=hl 1
  have m2:=hl 2
  simp only[List.getElem_cons_zero,List.getElem_cons_succ]at l0 l1 l2
  have hpos:0<b10.length:=by rw[l0];exact Nat.succ_pos _
  refine⟨[(a0,p0,[b00,b01,b02]),(a1,p1,[b10.set 0 (b10.getD 0 0^^^1),b11,b12]),(a2,p2,[b20,b21,b22]),(a3,p3,[b30,b31,b32])],?_,by simp,?_⟩
  ·intro t ht
   simp only[List.mem_cons,List.mem_nil_iff,or_false]at ht
   rcases ht with rfl|rfl|rfl|rfl
   ·exact hg _ (by simp)
   ·exact⟨hb.1,hb.2.1,hb.2.2.turn _ (by simp)⟩
   ·exact hg _ (by simp)
   ·exact hg _ (by simp)
  ·first|(simp[fits_ok (xs:=b10) (by omega),fits_ok (xs:=b11) (by omega),fits_ok (xs:=b12) (by omega),hpos];done)|(simp[fits_ok (xs:=b10) (by omega),fits_ok (xs:=b11) (by omega),fits_ok (xs:=b12) (by omega),hpos];rfl)
 ·have hb:=hg (a2,p2,[b20,b21,b22]) (by simp)
  have l0:=hb.2.2.2 0 (by simp)
  have l1:=hb.2.2.2 1 (by simp)
  have l2:=hb.2.2.2 2 (by simp)
  have hl: ∀j,shLen k (segLen z j)<=64:=fun j=>shLen_le k _ (by unfold segLen;omega)
  have m0:=hl 0
  have m1:=hl 1
  have m2:=hl 2
  simp only[List.getElem_cons_zero,List.getElem_cons_succ]at l0 l1 l2
  have hpos:0<b20.length:=by rw[l0];exact Nat.succ_pos _
  refine⟨[(a0,p0,[b00,b01,b02]),(a1,p1,[b10,b11,b12]),(a2,p2,[b20.set 0 (b20.getD 0 0^^^1),b21,b22]),(a3,p3,[b30,b31,b32])],?_,by simp,?_⟩
  ·intro t ht
   simp only[List.mem_cons,List.mem_nil_iff,or_false]at ht
   rcases ht with rfl|rfl|rfl|rfl
   ·exact hg _ (by simp)
   ·exact hg _ (by simp)
   ·exact⟨hb.1,hb.2.1,hb.2.2.turn _ (by simp)⟩
   ·exact hg _ (by simp)
  ·first|(simp[fits_ok (xs:=b20) (by omega),fits_ok (xs:=b21) (by omega),fits_ok (xs:=b22) (by omega),hpos];done)|(simp[fits_ok (xs:=b20) (by omega),fits_ok (xs:=b21) (by omega),fits_ok (xs:=b22) (by omega),hpos];rfl)
 ·have hb:=hg (a3,p3,[b30,b31,b32]) (by simp)
  have l0:=hb.2.2.2 0 (by simp)
  have l1:=hb.2.2.2 1 (by simp)
  have l2:=hb.2.2.2 2 (by simp)
  have hl: ∀j,shLen k (segLen z j)<=64:=fun j=>shLen_le k _ (by unfold segLen;omega)
  have m0:=hl 0
  have m1:=hl 1
  have m2:=hl 2
  simp only[List.getElem_cons_zero,List.getElem_cons_succ]at l0 l1 l2
  have hpos:0<b30.length:=by rw[l0];exact Nat.succ_pos _
  refine⟨[(a0,p0,[b00,b01,b02]),(a1,p1,[b10,b11,b12]),(a2,p2,[b20,b21,b22]),(a3,p3,[b30.set 0 (b30.getD 0 0^^^1),b31,b32])],?_,by simp,?_⟩
  ·intro t ht
   simp only[List.mem_cons,List.mem_nil_iff,or_false]at ht
   rcases ht with rfl|rfl|rfl|rfl
   ·exact hg _ (by simp)
   ·exact hg _ (by simp)
   ·exact hg _ (by simp)
   ·exact⟨hb.1,hb.2.1,hb.2.2.turn _ (by simp)⟩
  ·first|(simp[fits_ok (xs:=b30) (by omega),fits_ok (xs:=b31) (by omega),fits_ok (xs:=b32) (by omega),hpos];done)|(simp[fits_ok (xs:=b30) (by omega),fits_ok (xs:=b31) (by omega),fits_ok (xs:=b32) (by omega),hpos];rfl)
theorem len2{α:Type}{l:List α}(h:l.length=2): ∃a b,l=[a,b]:=by
 match l,h with
 |[a,b],_=>exact⟨a,b,rfl⟩
theorem len3{α:Type}{l:List α}(h:l.length=3): ∃a b c,l=[a,b,c]:=by
 match l,h with
 |[a,b,c],_=>exact⟨a,b,c,rfl⟩
theorem len4{α:Type}{l:List α}(h:l.length=4): ∃a b c d,l=[a,b,c,d]:=by
 match l,h with
 |[a,b,c,d],_=>exact⟨a,b,c,d,rfl⟩
theorem m444_1{k n z:Nat}(hk:1<=k)(hz1:1<=z)(hz:z<=192)(u:B)(w x:Int)(t0:Nat×List H×List B)(hg:GoodT k n z [t0])(i:Nat)(hi:i<1)(h6:f6 x 1=some (i:Int))(hw:f6 w 6=some 4):
 ∃T',GoodT k n z T'∧T'.length<=5∧f444 (List.map (shT u) [t0]) w x=some (T'.map (shT u)):=by
 have hns:nseg z=1∨nseg z=2∨nseg z=3:=by unfold nseg;omega
 obtain⟨a0,p0,l0⟩:=t0
 have q0:l0.length=nseg z:=(hg (a0,p0,l0) (by simp)).2.2.1
 rcases hns with hq|hq|hq
 ·rw[hq]at q0
  obtain⟨b00,rfl⟩:=List.length_eq_one_iff.1 q0
  exact p444_1_1 hk hz u w x a0 p0 b00 hg i hi h6 hw
 ·rw[hq]at q0
  obtain⟨b00,b01,rfl⟩:=len2 q0
  exact p444_1_2 hk hz u w x a0 p0 b00 b01 hg i hi h6 hw
 ·rw[hq]at q0
  obtain⟨b00,b01,b02,rfl⟩:=len3 q0
  exact p444_1_3 hk hz u w x a0 p0 b00 b01 b02 hg i hi h6 hw
theorem m444_2{k n z:Nat}(hk:1<=k)(hz1:1<=z)(hz:z<=192)(u:B)(w x:Int)(t0 t1:Nat×List H×List B)(hg:GoodT k n z [t0,t1])(i:Nat)(hi:i<2)(h6:f6 x 2=some (i:Int))(hw:f6 w 6=some 4):
 ∃T',GoodT k n z T'∧T'.length<=5∧f444 (List.map (shT u) [t0,t1]) w x=some (T'.map (shT u)):=by
 have hns:nseg z=1∨nseg z=2∨nseg z=3:=by unfold nseg;omega
 obtain⟨a0,p0,l0⟩:=t0
 obtain⟨a1,p1,l1⟩:=t1
 have q0:l0.length=nseg z:=(hg (a0,p0,l0) (by simp)).2.2.1
 have q1:l1.length=nseg z:=(hg (a1,p1,l1) (by simp)).2.2.1
 rcases hns with hq|hq|hq
 ·rw[hq]at q0 q1
  obtain⟨b00,rfl⟩:=List.length_eq_one_iff.1 q0
  obtain⟨b10,rfl⟩:=List.length_eq_one_iff.1 q1
  exact p444_2_1 hk hz u w x a0 a1 p0 p1 b00 b10 hg i hi h6 hw
 ·rw[hq]at q0 q1
  obtain⟨b00,b01,rfl⟩:=len2 q0
  obtain⟨b10,b11,rfl⟩:=len2 q1
  exact p444_2_2 hk hz u w x a0 a1 p0 p1 b00 b01 b10 b11 hg i hi h6 hw
 ·rw[hq]at q0 q1
  obtain⟨b00,b01,b02,rfl⟩:=len3 q0
  obtain⟨b10,b11,b12,rfl⟩:=len3 q1
  exact p444_2_3 hk hz u w x a0 a1 p0 p1 b00 b01 b02 b10 b11 b12 hg i hi h6 hw
theorem m444_3{k n z:Nat}(hk:1<=k)(hz1:1<=z)(hz:z<=192)(u:B)(w x:Int)(t0 t1 t2:Nat×List H×List B)(hg:GoodT k n z [t0,t1,t2])(i:Nat)(hi:i<3)(h6:f6 x 3=some (i:Int))(hw:f6 w 6=some 4):
 ∃T',GoodT k n z T'∧T'.length<=5∧f444 (List.map (shT u) [t0,t1,t2]) w x=some (T'.map (shT u)):=by
 have hns:nseg z=1∨nseg z=2∨nseg z=3:=by unfold nseg;omega
 obtain⟨a0,p0,l0⟩:=t0
 obtain⟨a1,p1,l1⟩:=t1
 obtain⟨a2,p2,l2⟩:=t2
 have q0:l0.length=nseg z:=(hg (a0,p0,l0) (by simp)).2.2.1
 have q1:l1.length=nseg z:=(hg (a1,p1,l1) (by simp)).2.2.1
 have q2:l2.length=nseg z:=(hg (a2,p2,l2) (by simp)).2.2.1
 rcases hns with hq|hq|hq
 ·rw[hq]at q0 q1 q2
  obtain⟨b00,rfl⟩:=List.length_eq_one_iff.1 q0
  obtain⟨b10,rfl⟩:=List.length_eq_one_iff.1 q1
  obtain⟨b20,rfl⟩:=List.length_eq_one_iff.1 q2
  exact p444_3_1 hk hz u w x a0 a1 a2 p0 p1 p2 b00 b10 b20 hg i hi h6 hw
 ·rw[hq]at q0 q1 q2
  obtain⟨b00,b01,rfl⟩:=len2 q0
  obtain⟨b10,b11,rfl⟩:=len2 q1
  obtain⟨b20,b21,rfl⟩:=len2 q2
  exact p444_3_2 hk hz u w x a0 a1 a2 p0 p1 p2 b00 b01 b10 b11 b20 b21 hg i hi h6 hw
 ·rw[hq]at q0 q1 q2
  obtain⟨b00,b01,b02,rfl⟩:=len3 q0
  obtain⟨b10,b11,b12,rfl⟩:=len3 q1
  obtain⟨b20,b21,b22,rfl⟩:=len3 q2
  exact p444_3_3 hk hz u w x a0 a1 a2 p0 p1 p2 b00 b01 b02 b10 b11 b12 b20 b21 b22 hg i hi h6 hw
theorem m444_4{k n z:Nat}(hk:1<=k)(hz1:1<=z)(hz:z<=192)(u:B)(w x:Int)(t0 t1 t2 t3:Nat×List H×List B)(hg:GoodT k n z [t0,t1,t2,t3])(i:Nat)(hi:i<4)(h6:f6 x 4=some (i:Int))(hw:f6 w 6=some 4):
 ∃T',GoodT k n z T'∧T'.length<=5∧f444 (List.map (shT u) [t0,t1,t2,t3]) w x=some (T'.map (shT u)):=by
 have hns:nseg z=1∨nseg z=2∨nseg z=3:=by unfold nseg;omega
 obtain⟨a0,p0,l0⟩:=t0
 obtain⟨a1,p1,l1⟩:=t1
 obtain⟨a2,p2,l2⟩:=t2
 obtain⟨a3,p3,l3⟩:=t3
 have q0:l0.length=nseg z:=(hg (a0,p0,l0) (by simp)).2.2.1
 have q1:l1.length=nseg z:=(hg (a1,p1,l1) (by simp)).2.2.1
 have q2:l2.length=nseg z:=(hg (a2,p2,l2) (by simp)).2.2.1
 have q3:l3.length=nseg z:=(hg (a3,p3,l3) (by simp)).2.2.1
 rcases hns with hq|hq|hq
 ·rw[hq]at q0 q1 q2 q3
  obtain⟨b00,rfl⟩:=List.length_eq_one_iff.1 q0
  obtain⟨b10,rfl⟩:=List.length_eq_one_iff.1 q1
  obtain⟨b20,rfl⟩:=List.length_eq_one_iff.1 q2
  obtain⟨b30,rfl⟩:=List.length_eq_one_iff.1 q3
  exact p444_4_1 hk hz u w x a0 a1 a2 a3 p0 p1 p2 p3 b00 b10 b20 b30 hg i hi h6 hw
 ·rw[hq]at q0 q1 q2 q3
  obtain⟨b00,b01,rfl⟩:=len2 q0
  obtain⟨b10,b11,rfl⟩:=len2 q1
  obtain⟨b20,b21,rfl⟩:=len2 q2
  obtain⟨b30,b31,rfl⟩:=len2 q3
  exact p444_4_2 hk hz u w x a0 a1 a2 a3 p0 p1 p2 p3 b00 b01 b10 b11 b20 b21 b30 b31 hg i hi h6 hw
 ·rw[hq]at q0 q1 q2 q3
  obtain⟨b00,b01,b02,rfl⟩:=len3 q0
  obtain⟨b10,b11,b12,rfl⟩:=len3 q1
  obtain⟨b20,b21,b22,rfl⟩:=len3 q2
  obtain⟨b30,b31,b32,rfl⟩:=len3 q3
  exact p444_4_3 hk hz u w x a0 a1 a2 a3 p0 p1 p2 p3 b00 b01 b02 b10 b11 b12 b20 b21 b22 b30 b31 b32 hg i hi h6 hw
end Mx
end
section
open Go Go.Proofs Ev Sx
namespace Mx
theorem getD_sh(u:B)(T:TS)(i:Nat)(hi:i<T.length):(T.map (shT u)).getD i (0,[],[],[],())=shT u (T.getD i (0,[],[])):=gd_map T (shT u) i (0,[],[]) _ hi
theorem p444{k n z:Nat}(hk:1<=k)(hz1:1<=z)(hz:z<=192)(u:B)(w x:Int)(T:TS)(hT1:1<=T.length)(hT:T.length<=4)(hg:GoodT k n z T):
 ∃T',GoodT k n z T'∧T'.length<=5∧f444 (T.map (shT u)) w x=some (T'.map (shT u)):=by
 obtain⟨i,hi,h6⟩:=p6 x T.length hT1 (by omega)
 obtain⟨m,hm,hw⟩:=p6 w 6 (by omega) (by omega)
 have hl:(T.map (shT u)).length=T.length:=List.length_map _
 have h429:f429 (T.map (shT u))=some (T.map (shT u)):=by rw[e429,t429,bs (fits_ok (by omega))]
 have hwm: ∀t,t∈T->t∈T:=fun _ h=>h
 have gd: ∀j,j<T.length->T.getD j (0,[],[])∈T:=fun j hj=>by
  rw[List.getD_eq_getElem?_getD,List.getElem?_eq_getElem hj];exact List.getElem_mem hj
 by_cases c4:m=4
 ·subst c4
  have hN:T.length=1∨T.length=2∨T.length=3∨T.length=4:=by omega
  rcases hN with hN|hN|hN|hN
  ·rw[hN]at h6 hi
   obtain⟨t0,rfl⟩:=List.length_eq_one_iff.1 hN
   exact m444_1 hk hz1 hz u w x t0 hg i hi h6 hw
  ·rw[hN]at h6 hi
   obtain⟨t0,t1,rfl⟩:=len2 hN
   exact m444_2 hk hz1 hz u w x t0 t1 hg i hi h6 hw
  ·rw[hN]at h6 hi
   obtain⟨t0,t1,t2,rfl⟩:=len3 hN
   exact m444_3 hk hz1 hz u w x t0 t1 t2 hg i hi h6 hw
  ·rw[hN]at h6 hi
   obtain⟨t0,t1,t2,t3,rfl⟩:=len4 hN
   exact m444_4 hk hz1 hz u w x t0 t1 t2 t3 hg i hi h6 hw
 ·have hw:f6 w 6=some (m:Int):=hw
  have pl: ∀v,evF c444 F444 h444 P444 R444 (T.map (shT u),w,x,())=some v->f444 (T.map (shT u)) w x=some v:=fun v h=>by rw[f444_or,h];rfl
  by_cases c1:m=1
  ·subst c1
   refine⟨T.drop 1,fun t ht=>hg t (List.mem_of_mem_drop ht),by simp;omega,pl _ ?_⟩
   rw[e444a,t444a,bs h429,hl,bs h6,bs hw,cd_pos (by omega),if_pos (by omega),List.map_drop,List.take_of_length_le (by simp)];rfl
  by_cases c2:m=2
  ·subst c2
   refine⟨T++[T.getD i (0,[],[])],?_,by simp;omega,pl _ ?_⟩
   ·intro t ht
    rcases List.mem_append.1 ht with h|h
    ·exact hg t h
    ·rw[List.mem_singleton.1 h];exact hg _ (gd i hi)
   ·rw[e444a,t444a,bs h429,hl,bs h6,bs hw,cd_neg (by omega),cd_pos (by omega),if_pos (by omega),Int.toNat_natCast,getD_sh u T i hi,bs (app_ok (by simp;omega)),List.map_append];rfl
  by_cases c3:m=3
  ·subst c3
   obtain⟨i2,hi2,h62⟩:=p6 (addI x 1) T.length hT1 (by omega)
   refine⟨(T.set i (T.getD i2 (0,[],[]))).set i2 (T.getD i (0,[],[])),?_,by simp;omega,pl _ ?_⟩
   ·intro t ht
    rcases List.mem_or_eq_of_mem_set ht with h|h
    ·rcases List.mem_or_eq_of_mem_set h with h|h
     ·exact hg t h
     ·rw[h];exact hg _ (gd i2 hi2)
    ·rw[h];exact hg _ (gd i hi)
   ·rw[e444a,t444a,bs h429,hl,bs h6,bs hw,cd_neg (by omega),cd_neg (by omega),cd_pos (by omega),bs h62,if_pos (by omega),if_pos (by omega),if_pos (by omega),Int.toNat_natCast,Int.toNat_natCast,getD_sh u T i hi,getD_sh u T i2 hi2,if_pos (by simp;omega),List.map_set,List.map_set];rfl
  ·refine⟨T,hg,by omega,pl _ ?_⟩
   rw[e444a,t444a,bs h429,hl,bs h6,bs hw,cd_neg (by omega),cd_neg (by omega),cd_neg (by omega),cd_neg (by omega)];rfl
end Mx
end
section
open Go Go.Proofs Ev Sx
namespace Mx
theorem crypt_same{k n z:Nat}(kd:Int)(ky:V16)(cr r:H)(h1:1<=k)(h2:k<=n)(h3:n<=4)(hz1:1<=z)(hz:z<=192)(T:TS)(hT:T.length<=5)(hg:GoodT k n z T):
 ∃q:B×U×Int,q.1.length<=1000∧f467 (cpOf kd ky (uebH (packC k n z 64 cr r)) k n z) (T.map (shT (packC k n z 64 cr r)))=some q∧f463 (cpOf kd ky (uebH (packC k n z 64 cr r)) k n z) (T.map (shT (packC k n z 64 cr r)))=some q:=by
 have hok:OkU k n z:=⟨h1,h2,by omega,hz1,by omega⟩
 by_cases hk:kd=1∨kd=2
 ·by_cases hl:T.length=k
  ·by_cases hb: ∃j,j<k∧badT r T j
   ·obtain⟨a,b⟩:=join_bad kd ky cr r hk h1 h2 h3 hz1 hz T hl hg hb
    exact⟨([],zU,1),by simp,a,b⟩
   ·exact join_ok kd ky cr r hk h1 h2 h3 hz1 hz T hl hg fun j hj hbj=>hb ⟨j,hj,hbj⟩
  ·refine⟨([],zU,1),by simp,?_,?_⟩
   ·rw[e467,t467,bs (p471c kd ky _ hk k n z hok),cn_t,List.length_map]
    dsimp only[cpOf]
    rw[cd_pos (by omega)];rfl
   ·rw[e463,t463,bs (p453t kd ky _ k n z hk hok),cn_t,List.length_map]
    dsimp only[cpOf]
    rw[cd_pos (by omega)];rfl
 ·refine⟨([],zU,11),by simp,?_,?_⟩
  ·rw[e467,t467,bs (p471n kd ky _ k n z hk h1),cn_f];rfl
  ·rw[e463,t463,bs (p453f kd ky _ k n z hk h1),cn_f];rfl
theorem short_ok(s:B)(l:List B)(h:Short l)(hs:s.length<100000): ∃v,f446 s l=some v:=by
 rw[e446,t446,bs (p44 s l h hs)]
 refine⟨fillV (fun i=>(tagged s l)[i]?.getD 0) z16 16,?_⟩
 refine it_bind (fun i=>((i:Int),fillV (fun i=>(tagged s l)[i]?.getD 0) z16 i)) 16 (fillV (fun i=>(tagged s l)[i]?.getD 0) z16 16) rfl ?_ ?_ (by omega) rfl
 ·intro i hi
  dsimp only
  rw[cd_pos (by omega),if_pos (by omega),if_pos (by omega),addI_1 (by omega),Int.toNat_natCast];rfl
 ·dsimp only;rw[cd_neg (by omega)]
theorem sh16(a:V16):Short [List.take 16 (List.drop 0 a.toList)]:=⟨fun c hc=>by simp at hc;subst hc;simp,by simp⟩
theorem p459(ky:V16)(fp:H)(k n z:Nat)(h:OkU k n z): ∃kv,f459 (cpOf 1 ky fp k n z)=some (cpOf 2 kv fp k n z,0):=by
 have h458:=p458t 1 ky fp k n z (.inl rfl) h
 have h451:f451 (cpOf 1 ky fp k n z)=some true:=by rw[e451,t451,bs h458];rfl
 have h452:f452 (cpOf 1 ky fp k n z)=some false:=by rw[e452,t452,bs h458];rfl
 have h454:f454 (cpOf 1 ky fp k n z)=some (cpOf 1 ky fp k n z,0):=by
  rw[e454,t454,bs h451,cn_t,bs h452,cb_f]
  exact bs (fits_ok (xs:=([]:B)) (by simp))
 obtain⟨kv,hkv⟩:=short_ok [105,110,100,101,120] [List.take 16 (List.drop 0 ky.toList)] (sh16 ky) (by simp)
 refine⟨kv,?_⟩
 rw[e459,t459,bs h458,cn_t]
 dsimp only[cpOf]
 rw[cd_neg (by omega)]
 refine bt h451 ?_
 rw[cn_t]
 refine bt h454 ?_
 exact bs hkv
theorem law442(x0:V16)(x1:B)(x2 x3:Int)(x4:List Int)(x5 x6 x7:Int):f442 x0 x1 x2 x3 x4 x5 x6 x7=some true:=by
 have hd1:1<=(9::x1.take 140:B).length:=by simp
 have hd2:(9::x1.take 140:B).length<=192:=by simp;omega
 obtain⟨k,n,h1,h2,h3,e⟩:=p443 x2 x3
 rw[e442,t442,bs e,bs (p4 x1)]
 generalize (9::x1.take 140:B)=d at*
 have hs1:1<=(stream x0 d).length:=by rw[stream_len];exact hd1
 have hs2:(stream x0 d).length<=192:=by rw[stream_len];exact hd2
 have hl:(stream x0 d).length=d.length:=stream_len _ _
 have hsh:shS (uebC x0 d k n) k n (stream x0 d)=(List.range n).map (shN k n (stream x0 d)):=by
  have:=shS_eq h1 h2 h3 hs1 hs2
  rw[←this];unfold uebC ueb;rw[hl]
 have hcap:capC x0 d k n=cpOf 1 x0 (uebH (ueb k n (stream x0 d))) k n (stream x0 d).length:=by
  unfold capC uebC ueb;rw[hl]
 have h7:=p7 x0 h1 h2 h3 hd1 hd2
 rw[hsh,hcap]at h7
 rw[bs h7]
 obtain⟨I,hI,hit⟩:=pick n k h2 (by omega) (shN k n (stream x0 d)) x4
 refine bt hit ?_
 have hok:OkU k n (stream x0 d).length:=⟨h1,h2,by omega,hs1,by omega⟩
 have hT:I.map (shN k n (stream x0 d))=(I.map fun i=>((i,prS k n (stream x0 d) i,blkOf (rowsS k n (stream x0 d)) i):Nat×List H×List B)).map (shT (ueb k n (stream x0 d))):=by
  rw[List.map_map];rfl
 have hg:GoodT k n (stream x0 d).length (I.map fun i=>((i,prS k n (stream x0 d) i,blkOf (rowsS k n (stream x0 d)) i):Nat×List H×List B)):=by
  intro t ht
  obtain⟨i,hi,rfl⟩:=List.mem_map.1 ht
  have:=hI.2.2 i hi
  exact⟨this,prS_len h1 h2 h3 hs1 hs2 i,blk_ok h1 h2 h3 hs1 hs2 i this⟩
 have hIl:=hI.1
 obtain⟨T',g',l',e4⟩:=p444 h1 hs1 hs2 (ueb k n (stream x0 d)) x5 x6 _ (by rw[List.length_map];omega) (by rw[List.length_map];omega) hg
 rw[←hT]at e4
 rw[bs e4]
 have hr:remI x7 4=some (x7.tmod 4):=by unfold remI;rw[if_neg (by omega)]
 have hc: ∃kd ky,(bif decide (x7.tmod 4=1)then(f459 (cpOf 1 x0 (uebH (ueb k n (stream x0 d))) k n (stream x0 d).length)).bind fun(r:Cp×Int)=>some r.1 else(remI x7 4).bind fun(c:Int)=>(bif decide (c=2)then some (x7,(cpOf 1 x0 (uebH (ueb k n (stream x0 d))) k n (stream x0 d).length).2)else some (cpOf 1 x0 (uebH (ueb k n (stream x0 d))) k n (stream x0 d).length)).bind fun(x:Cp)=>some x)=some (cpOf kd ky (uebH (ueb k n (stream x0 d))) k n (stream x0 d).length):=by
  by_cases c1:x7.tmod 4=1
  ·obtain⟨kv,e⟩:=p459 x0 (uebH (ueb k n (stream x0 d))) k n _ hok
   exact⟨2,kv,by rw[cd_pos c1,bs e]⟩
  ·rw[cd_neg c1,bs hr]
   by_cases c2:x7.tmod 4=2
   ·exact⟨x7,x0,by rw[cd_pos c2];rfl⟩
   ·exact⟨1,x0,by rw[cd_neg c2];rfl⟩
 obtain⟨kd,ky,hc⟩:=hc
 rw[bs hr]
 refine bt hc ?_
 obtain⟨q,ql,c1,c2⟩:=crypt_same kd ky (crypt (stream x0 d)) (rootS k n (stream x0 d)) h1 h2 h3 hs1 hs2 T' l' g'
 refine bt c1 ?_
 refine bt c2 ?_
 refine bt (a:=false) ?_ ?_
 ·rw[cd_neg (fun h=>h rfl),bs (p13 q.1 (by omega)),cn_t,decide_eq_true (rfl:q.2.1=q.2.1)];rfl
 rw[cb_f]
 obtain⟨o,o1,o2,o3⟩:=open_same kd ky (uebH (ueb k n (stream x0 d))) k n (stream x0 d).length hok q.1 (by omega)
 refine bt o1 ?_
 refine bt o2 ?_
 rw[decide_eq_true (rfl:o.2=o.2),cb_t,bs (p13 o.1 (by omega)),cb_t,bs p445];rfl
end Mx
end
