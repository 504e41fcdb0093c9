/- Which servers the document makes, first part: by running. No conditions. -/
import Derived.Test.YtpdabjlnbldpfaaGreatDoorY
set_option linter.unusedVariables false
set_option linter.unusedSimpArgs false
set_option linter.unusedSectionVars false
set_option maxRecDepth 100000
section
open Go Go.Proofs Ev
namespace Sx
theorem bad4d{s r:Int}(h:s<1∨1024<s∨r<1∨1024<r):(bif decide (s<1)then some true else bif decide (1024<s)then some true else bif decide (r<1)then some true else some (decide (1024<r)))=some true:=by
 by_cases c1:s<1
 ·rw[decide_eq_true c1,cond_true]
 rw[decide_eq_false c1,cond_false]
 by_cases c2:1024<s
 ·rw[decide_eq_true c2,cond_true]
 rw[decide_eq_false c2,cond_false]
 by_cases c3:r<1
 ·rw[decide_eq_true c3,cond_true]
 rw[decide_eq_false c3,cond_false,decide_eq_true (by omega)]
theorem ds_bad{s r:Int}(h:(badB s||badB r)=true):dsAQ (s,r,())=some (none,(1:Int)):=by
 rw[dsA_t,bad4d (badB_iff h)];rfl
noncomputable def dsR(x:InT P646):Option (OutT R646 (ioTy P646)):=cond (badB x.1||badB x.2.1) (some (none,(1:Int))) (cond (okB x.1&&okB x.2.1) (s646.run x) none)
theorem kds:FnOk Tryz.prog 29 ⟨P646,R646,dsR⟩:=FnOk.two kdsA k646 dsR fun x r h=>by
 obtain⟨s,t,u⟩:=x
 cases u
 unfold dsR at h
 cases hb:(badB s||badB t)with
 |true=>left;exact(ds_bad hb).trans ((congrArg (fun b=>cond b _ _) hb).symm.trans h)
 |false=>
  right
  have h:=(congrArg (fun b=>cond b _ _) hb).symm.trans h
  exact(cond_some (show cond _ _ _=_ from h)).2
noncomputable def dsT(i j:Nat):Bool:=match s646.run ((i:Int),(j:Int),())with
 |some (some _,e)=>eqI e 0
 |_=>false
end Sx
end
section
open Go Go.Proofs Ev
namespace Sx
theorem dsRow_1:((List.range 13).all fun j=>j==0||dsT 1 j)=true:=by kernel_rfl
theorem dsRow_2:((List.range 13).all fun j=>j==0||dsT 2 j)=true:=by kernel_rfl
theorem dsRow_3:((List.range 13).all fun j=>j==0||dsT 3 j)=true:=by kernel_rfl
theorem dsRow_4:((List.range 13).all fun j=>j==0||dsT 4 j)=true:=by kernel_rfl
theorem dsRow_5:((List.range 13).all fun j=>j==0||dsT 5 j)=true:=by kernel_rfl
theorem dsRow_6:((List.range 13).all fun j=>j==0||dsT 6 j)=true:=by kernel_rfl
end Sx
end
