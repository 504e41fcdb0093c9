/- The statement's card holds where its functional reading answers true for all arguments. -/
import Derived.Test.YtjaancbplomopaaGreatDoorI
import Derived.KernelRfl
set_option linter.unusedVariables false
set_option linter.unusedSimpArgs false
set_option linter.unusedSectionVars false
set_option maxRecDepth 100000
section
namespace Go.Proofs.YtjaancbplomopaaGreatDoor
open Go Go.ChangeShapes Go.WideShapes Go.ChangeAt Go.RowKit Ev Sx
theorem goesBy_no{P:Program}{c:OpenClaim}(h0:P.funcs.any Func.goes=false)(hs:c.start= .entering):false=c.goesBy P:=by
 have hn:=Array.any_eq_false.1 h0
 have h: ∀f,P.goes f=false:=fun f=>by
  unfold Program.goes
  rw[h0,Bool.and_false,Bool.or_false,List.any_eq_false]
  intro g _ hg
  cases hq:P.funcs[g]? with
  |none=>rw[hq]at hg;cases hg
  |some fn=>
   rw[hq]at hg
   obtain⟨hi,he⟩:=Array.getElem?_eq_some_iff.1 hq
   exact hn g hi (by rw[he];exact hg)
 unfold OpenClaim.goesBy Program.goesAt Program.goesFrom
 rw[hs]
 cases P.funcNamed c.func with
 |none=>rfl
 |some f=>simp only[Option.any_some,h,Bool.or_false]
theorem goes0:Tryz.pinned.checked.prog.funcs.any Func.goes=false:=by kernel_rfl
theorem goesB:false=Rows.slotsKindsRow.goesBy Tryz.pinned.checked.prog:=goesBy_no goes0 rfl
theorem wfB:Rows.slotsKindsRow.wfByText (OpenSpec.ofChange Rows.slotsKindsSpec)=true:=by kernel_rfl
theorem mainB:Tryz.pinned.checked.prog.mainIs=some (true, "d0019c5022db5cc5f48758a0e2378234f28bdeb0efe3a0795b43950e76d9557f".toList):=by kernel_rfl
theorem looksB:true=Tryz.pinned.checked.prog.looks []:=by kernel_rfl
theorem card_holds(hlaw: ∀x:InT (([(.arr 16 .u8), .i64, .i64]:List Ty).map PK.v),okA [(.arr 16 .u8), .i64, .i64] x->(r658 x:Option Bool)=some true):Rows.SlotsKindsCardSaid:=
 Claim7.holds_tied_plain_at .later [] [.data, .data, .data] true (true, "d0019c5022db5cc5f48758a0e2378234f28bdeb0efe3a0795b43950e76d9557f") true
  (row_holds hlaw) (fun _ h=>by cases h) wfB (fun _ h=>by cases h) slotsKinds_row_tie rfl ⟨rfl,rfl⟩ mainB rfl
  (fun f fn hf hfn=>by
   obtain rfl:f=3:=Option.some.inj ((show Tryz.prog.funcNamed "aumbry/aumbrylaw22.SlotsKinds" =some 3 by kernel_rfl).symm.trans hf)|>.symm
   obtain rfl:fn=Tryz.f3:=(Option.some.inj (Tryz.func3.symm.trans hfn)).symm
   refine⟨looksB,fun j t ht=> ?_⟩
   rw[Tryz.params3]at ht
   have h3:t=3∨t=23:=by
    rcases j with _|_|_|j<;>simp at ht<;>simp[←ht]
   rcases h3 with rfl|rfl
   ·exact(show Tryz.prog.wantsStandIn 3=false by kernel_rfl)
   ·exact(show Tryz.prog.wantsStandIn 23=false by kernel_rfl))
  goesB
end Go.Proofs.YtjaancbplomopaaGreatDoor
end
