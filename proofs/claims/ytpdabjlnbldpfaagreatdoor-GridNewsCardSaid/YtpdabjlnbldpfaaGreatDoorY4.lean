/- Which servers the document makes, third part: by running. No conditions. -/
import Derived.Test.YtpdabjlnbldpfaaGreatDoorY2
import Derived.Test.YtpdabjlnbldpfaaGreatDoorY3
set_option linter.unusedVariables false
set_option linter.unusedSimpArgs false
set_option linter.unusedSectionVars false
set_option maxRecDepth 100000
section
open Go Go.Proofs Ev
namespace Sx
theorem dsRow_10:((List.range 13).all fun j=>j==0||dsT 10 j)=true:=by kernel_rfl
theorem dsRow_11:((List.range 13).all fun j=>j==0||dsT 11 j)=true:=by kernel_rfl
theorem dsRow_12:((List.range 13).all fun j=>j==0||dsT 12 j)=true:=by kernel_rfl
end Sx
end
section
open Go Go.Proofs Ev
namespace Sx
theorem dsT_of{i j:Nat}(hi:i<13)(hj:j<13)(hi0:i≠0)(hj0:j≠0):dsT i j=true:=by
 have e:((List.range 13).all fun j=>j==0||dsT i j)=true:=by
  match i,hi0,hi with
  |1,_,_=>exact dsRow_1
  |2,_,_=>exact dsRow_2
  |3,_,_=>exact dsRow_3
  |4,_,_=>exact dsRow_4
  |5,_,_=>exact dsRow_5
  |6,_,_=>exact dsRow_6
  |7,_,_=>exact dsRow_7
  |8,_,_=>exact dsRow_8
  |9,_,_=>exact dsRow_9
  |10,_,_=>exact dsRow_10
  |11,_,_=>exact dsRow_11
  |12,_,_=>exact dsRow_12
 have h:=List.all_eq_true.1 e j (List.mem_range.2 hj)
 simpa[hj0]using h
theorem sel2{α:Type}{a b:Bool}{x y z:α}(ha:a=false)(hb:b=true):cond a x (cond b y z)=y:=by subst ha;subst hb;rfl
theorem okT{o:Option (OutT R646 (ioTy P646))}(h:(match o with|some (some _,e)=>eqI e 0|_=>false)=true): ∃v,o=some (some v,(0:Int)):=by
 match o,h with
 |some (some v,e),h=>exact⟨v,congrArg (fun e=>some (some v,e)) (eqI_ok h)⟩
theorem ds_ok{s r:Int}(hs:okB s=true)(hr:okB r=true): ∃v,dsR (s,r,())=some (some v,(0:Int)):=by
 have e:dsR (s,r,())=s646.run (s,r,()):=by
  refine sel2 (x:=some (none,(1:Int))) (z:=none) ?_ ?_
  ·rw[badB_ok hs,badB_ok hr];rfl
  ·rw[hs,hr];rfl
 obtain⟨i,rfl,h1,h2⟩:=okB_nat hs
 obtain⟨j,rfl,h3,h4⟩:=okB_nat hr
 obtain⟨v,q⟩:=okT (o:=s646.run ((i:Int),(j:Int),())) (dsT_of h1 h3 h2 h4)
 exact⟨v,e.trans q⟩
theorem ds_no{s r:Int}(h:(badB s||badB r)=true):dsR (s,r,())=some (none,(1:Int)):=by
 unfold dsR
 rw[h];rfl
end Sx
end
