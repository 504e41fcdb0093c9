/- UploadLong as a functional reading: it answers true for all arguments. No conditions. -/
import Derived.Test.YtlphacnnifjnpaaGreatDoorG
import Derived.Test.YtlphacnnifjnpaaGreatDoorP
set_option linter.unusedVariables false
set_option linter.unusedSimpArgs false
set_option linter.unusedSectionVars false
set_option maxRecDepth 100000
section
open Go Go.Proofs Ev Sx
namespace Mx
theorem p439:f439=some true:=rfl
theorem p427(c:Cp)(h:c.2.2.2.2.2.2.1.length<1000000000):f427 c c=some true:=by
 rw[e427,t427,cd_pos (rfl:c.1=c.1),cd_pos (rfl:c.2.1=c.2.1),cd_pos (rfl:c.2.2.1=c.2.2.1),cd_pos (rfl:c.2.2.2.1=c.2.2.2.1),cd_pos (rfl:c.2.2.2.2.1=c.2.2.2.2.1),cd_pos (rfl:c.2.2.2.2.2.1=c.2.2.2.2.2.1),bs (p13 _ h)];rfl
theorem p433(a:List H)(h:a.length<=1000000):f433 a a=some true:=by
 rw[e433,t433,cd_neg (by omega)]
 refine it_bind (fun i=>(i:Int)) a.length (.inl ()) rfl ?_ ?_ (by omega) rfl
 ·intro i hi
  rw[cd_pos (by omega),bs (at_gd hi default),bs (at_gd hi default),decide_eq_true (rfl:a.getD i default=a.getD i default),cn_t,addI_1 (by omega)]
 ·rw[cd_neg (by omega)]
theorem p432(a:List B)(h:a.length<=1000000)(hb: ∀b∈a,b.length<1000000000):f432 a a=some true:=by
 rw[e432,t432,cd_neg (by omega)]
 refine it_bind (fun i=>(i:Int)) a.length (.inl ()) rfl ?_ ?_ (by omega) rfl
 ·intro i hi
  rw[cd_pos (by omega),bs (at_lt hi),bs (at_lt hi),bs (p13 _ (hb _ (List.getElem_mem hi))),cn_t,addI_1 (by omega)]
 ·rw[cd_neg (by omega)]
def okSh(s:ShT):Prop:=s.2.1.length<1000000000∧s.2.2.1.length<=1000000∧s.2.2.2.1.length<=1000000∧ ∀b∈s.2.2.2.1,b.length<1000000000
theorem p434(s:ShT)(h:okSh s):f434 s s=some true:=by
 obtain⟨h1,h2,h3,h4⟩:=h
 rw[e434,t434,cd_pos (rfl:s.1=s.1),bs (p13 _ h1),cb_t,bs (p433 _ h2),cb_t,bs (p432 _ h3 h4)];rfl
theorem p435(a:List ShT)(h:a.length<=1000000)(hb: ∀s∈a,okSh s):f435 a a=some true:=by
 rw[e435,t435,cd_neg (by omega)]
 refine it_bind (fun i=>(i:Int)) a.length (.inl ()) rfl ?_ ?_ (by omega) rfl
 ·intro i hi
  rw[cd_pos (by omega),bs (at_lt hi),bs (at_lt hi),bs (p434 _ (hb _ (List.getElem_mem hi))),cn_t,addI_1 (by omega)]
 ·rw[cd_neg (by omega)]
end Mx
end
section
open Go Go.Proofs Ev Sx
namespace Mx
theorem shS_okL{k:Nat}{b:B}(h1:1<=k)(h2:k<=3)(hb1:1<=b.length)(hb:960<b.length∧b.length<=1024)(u:B)(hu:u.length<=1000): ∀s∈shS u k 3 b,okSh s:=fun s hs=>by
 obtain⟨i,hi,rfl⟩:=List.mem_map.1 hs
 have hi':=List.mem_range.1 hi
 have hg:=lg_le 3
 have hB:b.length<=256∨960<b.length∧b.length<=1024∧(3:Nat)=3:= .inr ⟨hb.1,hb.2,rfl⟩
 have hns:=nseg13 (k:=k) (n:=3) h1 h2 ⟨by omega,by omega⟩ hb1 hB
 refine⟨by dsimp only[shC];omega,?_,?_,fun c hc=> ?_⟩
 ·dsimp only[shC,prS,proofC];simp;omega
 ·dsimp only[shC];rw[blk_len (k:=k) (n:=3) h1 h2 ⟨by omega,by omega⟩ hb1 hB];omega
 ·have:=blk_small (k:=k) (n:=3) h1 h2 ⟨by omega,by omega⟩ hb1 hB i hi' c hc;omega
theorem p45F(b:B)(k n:Int)(h:1024<b.length):f45 b k n=some false:=by
 rw[e45,t45,cd_pos (by omega),cd_neg (by omega)];rfl
theorem p15F(b k n:Int)(h:1024<b):f15 b k n=some false:=by
 rw[e15,t15,cd_pos (by omega),cd_neg (by omega)];rfl
theorem law532t(x0:V16)(x1 x2:Int):t532 f6 f7 f19 f427 f435 f439 x0 x1 x2=some true:=by
 obtain⟨w,hw,e1⟩:=p6 x1 6 (by omega) (by omega)
 obtain⟨v,hv,e2⟩:=p6 x2 3 (by omega) (by omega)
 have a1:addI 1021 (w:Int)=((1021+w:Nat):Int):=by rw[addI_ok (by omega) (by omega)];omega
 have a2:addI 1 (v:Int)=((v+1:Nat):Int):=by rw[addI_ok (by omega) (by omega)];omega
 unfold t532
 refine bt e1 ?_
 refine bt e2 ?_
 rw[a1,a2]
 have h1:1<=v+1:=by omega
 have h2:v+1<=3:=by omega
 generalize v+1=k at*
 rw[bs (zeros_ok (by omega))]
 have hl:(List.replicate (1021+w) (0:UInt8)).length=1021+w:=by simp
 by_cases c:1021+w<=1024
 ·have hB:(List.replicate (1021+w) (0:UInt8)).length<=256∨960<(List.replicate (1021+w) (0:UInt8)).length∧(List.replicate (1021+w) (0:UInt8)).length<=1024∧(3:Nat)=3:= .inr ⟨by omega,by omega,rfl⟩
  have h19:=p19 (k:=k) (n:=3) x0 h1 h2 ⟨by omega,by omega⟩ (by rw[hl];omega) hB
  have h7:=p7 (k:=k) (n:=3) x0 h1 h2 ⟨by omega,by omega⟩ (by rw[hl];omega) hB
  generalize List.replicate (1021+w) (0:UInt8)=b at*
  have hsl:(stream x0 b).length=b.length:=stream_len _ _
  have lu:(uebC x0 b k 3).length<=240:=packC_le _ _ _ _ _ _
  have hok:=shS_okL (b:=stream x0 b) h1 h2 (by omega) ⟨by omega,by omega⟩ (uebC x0 b k 3) (by omega)
  refine bt h19 ?_
  refine bt h7 ?_
  dsimp only
  rw[cd_pos (rfl:(0:Int)=0),bs (p427 _ (by simp[capC])),cb_t,bs (p435 _ (by rw[shS_len];omega) hok),cb_t,decide_eq_true (show((1021+w:Nat):Int)<=1024 by omega),p439];rfl
 ·have h19:f19 x0 (List.replicate (1021+w) (0:UInt8)) (k:Int) 3=some (((0:Int),Vector.replicate 16 (0:UInt8),Vector.replicate 32 (0:UInt8),(0:Int),(0:Int),(0:Int),[],()),[],(1:Int)):=by
   rw[e19,t19,bs (p45F _ _ _ (by rw[hl];omega))];rfl
  have h7:f7 x0 (List.replicate (1021+w) (0:UInt8)) (k:Int) 3=some (((0:Int),Vector.replicate 16 (0:UInt8),Vector.replicate 32 (0:UInt8),(0:Int),(0:Int),(0:Int),[],()),[],(1:Int)):=by
   rw[e7,t7,bs (p15F _ _ _ (by rw[hl];omega))];rfl
  rw[bs h19,bs h7]
  dsimp only
  rw[cd_pos (rfl:(1:Int)=1),bs (p427 _ (by simp)),cb_t,bs (p435 [] (by simp) (fun s hs=>by cases hs)),cb_t,decide_eq_false (show¬((1021+w:Nat):Int)<=1024 by omega),p439];rfl
end Mx
end
section
open Go Go.Proofs Ev Sx
namespace Mx
theorem law532(x0:V16)(x1 x2:Int):f532 x0 x1 x2=some true:=(e532 x0 x1 x2).trans (law532t x0 x1 x2)
end Mx
end
