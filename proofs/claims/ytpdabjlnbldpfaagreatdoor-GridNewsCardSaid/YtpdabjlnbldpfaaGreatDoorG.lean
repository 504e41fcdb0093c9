/- The functional readings of the functions as plain Lean terms, second part. No conditions. -/
import Derived.Test.YtpdabjlnbldpfaaGreatDoorF
set_option linter.unusedVariables false
set_option linter.unusedSimpArgs false
set_option linter.unusedSectionVars false
set_option maxRecDepth 100000
section
open Go Go.Proofs Ev Sx
namespace Mx
end Mx
end
section
open Go Go.Proofs Ev Sx
namespace Mx
end Mx
end
section
open Go Go.Proofs Ev Sx
namespace Mx
noncomputable def t59(y98:T98)(y99:T99):Option (Vector UInt8 256):=(iter (fun(x:UInt8×UInt8×Vector UInt8 256)=>(y98 x.1).bind fun(r:UInt8)=>(bif decide ((x.2.1^^^shl8 x.2.1 (1:Nat)^^^shl8 (x.2.1^^^shl8 x.2.1 (1:Nat)) 2^^^shl8 (x.2.1^^^shl8 x.2.1 (1:Nat)^^^shl8 (x.2.1^^^shl8 x.2.1 (1:Nat)) 2) 4)&&&(128:UInt8)≠(0:UInt8))then some (x.2.1^^^shl8 x.2.1 (1:Nat)^^^shl8 (x.2.1^^^shl8 x.2.1 (1:Nat)) 2^^^shl8 (x.2.1^^^shl8 x.2.1 (1:Nat)^^^shl8 (x.2.1^^^shl8 x.2.1 (1:Nat)) 2) 4^^^(9:UInt8))else some (x.2.1^^^shl8 x.2.1 (1:Nat)^^^shl8 (x.2.1^^^shl8 x.2.1 (1:Nat)) 2^^^shl8 (x.2.1^^^shl8 x.2.1 (1:Nat)^^^shl8 (x.2.1^^^shl8 x.2.1 (1:Nat)) 2) 4)).bind fun(x_1:UInt8)=>(y99 x_1 (1:Int)).bind fun(r_1:UInt8)=>(y99 x_1 (2:Int)).bind fun(r_2:UInt8)=>(y99 x_1 (3:Int)).bind fun(r_3:UInt8)=>(y99 x_1 (4:Int)).bind fun(r_4:UInt8)=>if(0:Int)<=(↑(x.1^^^r).toNat:Int)∧(↑(x.1^^^r).toNat:Int)<(256:Int)then bif decide (x.1^^^r=(1:UInt8))then some (Sum.inr (x.2.2.setIfInBounds (↑(x.1^^^r).toNat:Int).toNat (x_1^^^r_1^^^r_2^^^r_3^^^r_4^^^(99:UInt8))))else some (Sum.inl (x.1^^^r,x_1,x.2.2.setIfInBounds (↑(x.1^^^r).toNat:Int).toNat (x_1^^^r_1^^^r_2^^^r_3^^^r_4^^^(99:UInt8))))else none) ((1:UInt8),(1:UInt8),Vector.replicate 256 (0:UInt8))).bind fun(y:Vector UInt8 256)=>some (y.setIfInBounds (0:Nat) (99:UInt8))
noncomputable def K59(y98:T98)(y99:T99):Ctx:=mkC tys cells maps [(i98,⟨P98,R98,fun x=>y98 x.1⟩),(i99,⟨P99,R99,fun x=>y99 x.1 x.2.1⟩)] [] []
theorem a59(y98:T98)(y99:T99):evF (K59 y98 y99) F59 h59 P59 R59 ()=t59 y98 y99:=by kernel_rfl
theorem e59:f59=t59 f98 f99:=Eq.trans (b:=evF (K59 f98 f99) F59 h59 P59 R59 ()) (by kernel_rfl) (a59 f98 f99)
noncomputable def t99(x0:UInt8)(x1:Int):Option UInt8:=some (shl8 x0 (UInt64.ofInt x1&&&7).toNat|||shr8 x0 (8-(UInt64.ofInt x1&&&7)).toNat)
theorem e99(x0:UInt8)(x1:Int):f99 x0 x1=t99 x0 x1:=by kernel_rfl
end Mx
end
