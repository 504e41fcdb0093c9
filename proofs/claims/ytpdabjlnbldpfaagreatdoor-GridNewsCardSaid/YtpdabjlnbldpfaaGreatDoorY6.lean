/- What the document makes of a world, its servers and its walk along a row kept apart. No conditions. -/
import Derived.Test.YtpdabjlnbldpfaaGreatDoorY1
set_option linter.unusedVariables false
set_option linter.unusedSimpArgs false
set_option linter.unusedSectionVars false
set_option maxRecDepth 100000
section
open Go Go.Proofs Ev
namespace Sx
abbrev KTD:=InT P645->Option (OutT R645 (ioTy P645))
abbrev KTT:=InT P646->Option (OutT R646 (ioTy P646))
abbrev DR:=Val (.op ((.pair (.sl (.op (.pair .i64 (.pair .i64 (.pair (.op (.pair (.op (.pair (.sl .u8) (.pair .bool (.pair .bool (.pair .i64 (.pair .i64 (.pair .i64 .unit))))))) (.pair .i64 (.pair .i64 (.pair (.sl (.pair .str (.pair .i64 (.pair (.sl .u8) (.pair .i64 .unit))))) (.pair .bool .unit)))))) (.pair (.op (.pair (.sl .u8) (.pair .bool (.pair .bool (.pair .i64 (.pair .i64 (.pair .i64 .unit))))))) (.pair (.op (.pair (.sl (.pair (.arr 16 .u8) (.pair (.pair (.arr 16 .u8) (.pair .i64 .unit)) .unit))) .unit)) (.pair .bool .unit)))))))) (.pair (.sl .bool) (.pair (.sl (.pair .i64 (.pair .i64 (.pair .i64 .unit)))) (.pair (.sl (.sl .u8)) (.pair .i64 (.pair .i64 .unit))))))))×Int
noncomputable def l1D(KC:KTD)(s:Int)(L:List Int)(x:Int):Option (Int ⊕ (Unit ⊕ DR)):=bif decide (x<(↑L.length:Int))then((at? L x).bind fun(n:Int)=>(bif decide (n<0)then some true else(at? L x).bind fun(n1:Int)=>bif decide (s<=n1)then some true else(cut? L 0 x).bind fun(l:List Int)=>(at? L x).bind fun(n2:Int)=>(KC (l,n2,())).bind fun b=>some b)).bind fun(b:Bool)=>bif b then some (Sum.inr (Sum.inr (none,(1:Int))))else some (Sum.inl (addI x 1))else some (Sum.inr (Sum.inl ()))
noncomputable def d2T(KC:KTD)(KS:KTT)(a r:Int)(L:List Int)(s:Nat):Nat->Nat->Val (.sl (.op ((.pair .i64 (.pair .i64 (.pair (.op (.pair (.op (.pair (.sl .u8) (.pair .bool (.pair .bool (.pair .i64 (.pair .i64 (.pair .i64 .unit))))))) (.pair .i64 (.pair .i64 (.pair (.sl (.pair .str (.pair .i64 (.pair (.sl .u8) (.pair .i64 .unit))))) (.pair .bool .unit)))))) (.pair (.op (.pair (.sl .u8) (.pair .bool (.pair .bool (.pair .i64 (.pair .i64 (.pair .i64 .unit))))))) (.pair (.op (.pair (.sl (.pair (.arr 16 .u8) (.pair (.pair (.arr 16 .u8) (.pair .i64 .unit)) .unit))) .unit)) (.pair .bool .unit)))))))))->Option DR
 |0,_,row=>some (some (row,List.replicate s false,[],[],(0:Int),(0:Int),()),(0:Int))
 |f+1,i,row=>(KS (a,r,())).bind fun q=>bif neI q.2 0 then some (none,q.2)else(KC (L,(i:Int),())).bind fun b=>bif b then(app? row [none]).bind fun z=>d2T KC KS a r L s f (i+1) z else(app? row [q.1]).bind fun z=>d2T KC KS a r L s f (i+1) z
noncomputable def dlT(KC:KTD)(KS:KTT)(a r:Int)(L:List Int)(s:Nat):Option DR:=(iter (l1D KC (s:Int) L) 0).bind fun(y:Unit ⊕ DR)=>sumE y (fun _=>d2T KC KS a r L s s 0 []) fun p=>some p
theorem dl_1(KC KS)(a r:Int)(L:List Int):dwBQ KC KS ((1:Int),a,r,L,())=dlT KC KS a r L 1:=by kernel_rfl
theorem dl_2(KC KS)(a r:Int)(L:List Int):dwBQ KC KS ((2:Int),a,r,L,())=dlT KC KS a r L 2:=by kernel_rfl
theorem dl_3(KC KS)(a r:Int)(L:List Int):dwBQ KC KS ((3:Int),a,r,L,())=dlT KC KS a r L 3:=by kernel_rfl
theorem dl_4(KC KS)(a r:Int)(L:List Int):dwBQ KC KS ((4:Int),a,r,L,())=dlT KC KS a r L 4:=by kernel_rfl
theorem dl_5(KC KS)(a r:Int)(L:List Int):dwBQ KC KS ((5:Int),a,r,L,())=dlT KC KS a r L 5:=by kernel_rfl
theorem dl_6(KC KS)(a r:Int)(L:List Int):dwBQ KC KS ((6:Int),a,r,L,())=dlT KC KS a r L 6:=by kernel_rfl
end Sx
end
section
open Go Go.Proofs Ev
namespace Sx
theorem dl_7(KC KS)(a r:Int)(L:List Int):dwBQ KC KS ((7:Int),a,r,L,())=dlT KC KS a r L 7:=by kernel_rfl
theorem dl_8(KC KS)(a r:Int)(L:List Int):dwBQ KC KS ((8:Int),a,r,L,())=dlT KC KS a r L 8:=by kernel_rfl
end Sx
end
