/- What the code makes of a world, its servers and its walk along a row kept apart. No conditions. -/
import Derived.Test.YtpdabjlnbldpfaaGreatDoorY1
set_option linter.unusedVariables false
set_option linter.unusedSimpArgs false
set_option linter.unusedSectionVars false
set_option maxRecDepth 100000
section
open Go Go.Proofs Ev
namespace Sx
abbrev KTC:=InT P71->Option (OutT R71 (ioTy P71))
abbrev KTS:=InT P72->Option (OutT R72 (ioTy P72))
abbrev WR:=Val (.op ((.pair (.sl (.op (.pair .i64 (.pair .i64 (.pair (.op (.pair (.sl (.arr 32 .u8)) (.pair .bool (.pair .bool (.pair .i64 (.pair .i64 (.pair .i64 .unit))))))) (.pair (.op (.pair (.op (.pair (.sl (.arr 32 .u8)) (.pair .bool (.pair .bool (.pair .i64 (.pair .i64 (.pair .i64 .unit))))))) (.pair .i64 (.pair (.sl (.pair .bool (.pair .str (.pair .i64 (.pair (.sl .u8) .unit))))) (.pair .bool .unit))))) (.pair (.op (.pair (.sl (.pair (.arr 16 .u8) (.pair (.pair (.arr 16 .u8) (.pair .i64 .unit)) .unit))) .unit)) (.pair .bool .unit)))))))) (.pair (.sl .bool) (.pair (.sl (.pair .i64 (.pair .i64 (.pair .i64 .unit)))) (.pair (.sl (.sl .u8)) (.pair .i64 (.pair .i64 .unit))))))))×Int
noncomputable def l1S(KC:KTC)(s:Int)(L:List Int)(x:Int):Option (Int ⊕ (Unit ⊕ WR)):=bif decide (x<(↑L.length:Int))then(at? L x).bind fun(n:Int)=>(bif decide (n<0)then some true else bif decide (s<=n)then some true else(cut? L 0 x).bind fun(l:List Int)=>(KC (l,n,())).bind fun b=>some b).bind fun(b:Bool)=>bif b then some (Sum.inr (Sum.inr (none,(1:Int))))else some (Sum.inl (addI x 1))else some (Sum.inr (Sum.inl ()))
noncomputable def w2T(KC:KTC)(KS:KTS)(a r:Int)(L:List Int)(s:Nat):Nat->Nat->Val (.sl (.op ((.pair .i64 (.pair .i64 (.pair (.op (.pair (.sl (.arr 32 .u8)) (.pair .bool (.pair .bool (.pair .i64 (.pair .i64 (.pair .i64 .unit))))))) (.pair (.op (.pair (.op (.pair (.sl (.arr 32 .u8)) (.pair .bool (.pair .bool (.pair .i64 (.pair .i64 (.pair .i64 .unit))))))) (.pair .i64 (.pair (.sl (.pair .bool (.pair .str (.pair .i64 (.pair (.sl .u8) .unit))))) (.pair .bool .unit))))) (.pair (.op (.pair (.sl (.pair (.arr 16 .u8) (.pair (.pair (.arr 16 .u8) (.pair .i64 .unit)) .unit))) .unit)) (.pair .bool .unit)))))))))->Option WR
 |0,_,row=>some (some (row,List.replicate s false,[],[],(0:Int),(0:Int),()),(0:Int))
 |f+1,i,row=>(KS (a,r,())).bind fun q=>bif neI q.2 0 then some (none,q.2)else(KC (L,(i:Int),())).bind fun b=>bif !b then w2T KC KS a r L s f (i+1) (List.set row i q.1)else w2T KC KS a r L s f (i+1) row
noncomputable def wlT(KC:KTC)(KS:KTS)(a r:Int)(L:List Int)(s:Nat):Option WR:=(iter (l1S KC (s:Int) L) 0).bind fun(y:Unit ⊕ WR)=>sumE y (fun _=>w2T KC KS a r L s s 0 (List.replicate s none)) fun p=>some p
theorem wl_1(KC KS)(a r:Int)(L:List Int):wlBQ KC KS ((1:Int),a,r,L,())=wlT KC KS a r L 1:=by kernel_rfl
theorem wl_2(KC KS)(a r:Int)(L:List Int):wlBQ KC KS ((2:Int),a,r,L,())=wlT KC KS a r L 2:=by kernel_rfl
theorem wl_3(KC KS)(a r:Int)(L:List Int):wlBQ KC KS ((3:Int),a,r,L,())=wlT KC KS a r L 3:=by kernel_rfl
theorem wl_4(KC KS)(a r:Int)(L:List Int):wlBQ KC KS ((4:Int),a,r,L,())=wlT KC KS a r L 4:=by kernel_rfl
theorem wl_5(KC KS)(a r:Int)(L:List Int):wlBQ KC KS ((5:Int),a,r,L,())=wlT KC KS a r L 5:=by kernel_rfl
theorem wl_6(KC KS)(a r:Int)(L:List Int):wlBQ KC KS ((6:Int),a,r,L,())=wlT KC KS a r L 6:=by kernel_rfl
end Sx
end
section
open Go Go.Proofs Ev
namespace Sx
theorem wl_7(KC KS)(a r:Int)(L:List Int):wlBQ KC KS ((7:Int),a,r,L,())=wlT KC KS a r L 7:=by kernel_rfl
theorem wl_8(KC KS)(a r:Int)(L:List Int):wlBQ KC KS ((8:Int),a,r,L,())=wlT KC KS a r L 8:=by kernel_rfl
end Sx
end
