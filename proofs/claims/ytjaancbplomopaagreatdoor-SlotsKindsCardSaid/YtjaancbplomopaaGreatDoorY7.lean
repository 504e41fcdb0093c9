/- The statement's contract, and its law. No conditions. -/
import Derived.Test.YtjaancbplomopaaGreatDoorY5
import Derived.Test.YtjaancbplomopaaGreatDoorY6
import Derived.Test.YtjaancbplomopaaGreatDoorZ
set_option linter.unusedVariables false
set_option linter.unusedSimpArgs false
set_option linter.unusedSectionVars false
set_option maxRecDepth 100000
section
open Go Go.Proofs Ev
namespace Sx
theorem kgA:FnOk Tryz.prog 3 ⟨P658,R658,gRunA (witF 4) (witF 30) slF crF cwF triF shC ixF printF rprF⟩:=fn_okSX (C:=cG (witF 4) (witF 30) slF crF cwF triF shC ixF printF rprF) (hs:=hGA) (ps:=P658) (rs:=R658) (specs:=gSP (witF 4) (witF 30) slF crF cwF triF shC ixF printF rprF) (dyns:=[62,115,121,118,192,58,119,123,190,97,92,152,90,110,103,48,353,141,107,81,45,46]) (codes:=[(13,Tryz.f13),(10,Tryz.f10),(12,Tryz.f12),(18,Tryz.f18),(103,Tryz.f103),(48,Tryz.f48),(19,Tryz.f19),(45,Tryz.f45),(17,Tryz.f17),(4,Tryz.f4),(101,Tryz.f101),(43,Tryz.f43),(20,Tryz.f20),(5,Tryz.f5),(82,Tryz.f82),(86,Tryz.f86),(37,Tryz.f37),(266,Tryz.f266),(197,Tryz.f197),(11,Tryz.f11),(14,Tryz.f14)]) (x:=cxA) rfl hm hT cxOk ⟨kgWit,k71,k73,kgIxx,k92,k93,k131,k132,k134,k135,kgcr,k140,k173,kgcw,k177,k178,k179,k193,k221,k304,k420,kgRvo,k478,k479,k480,kgOrd,kgRsl,kgPri,kgTri,k565,k567,kgsl,k624,k625,kgRpr,k661,trivial⟩ ⟨Tryz.func13,Tryz.func10,Tryz.func12,Tryz.func18,Tryz.func103,Tryz.func48,Tryz.func19,Tryz.func45,Tryz.func17,Tryz.func4,Tryz.func101,Tryz.func43,Tryz.func20,Tryz.func5,Tryz.func82,Tryz.func86,Tryz.func37,Tryz.func266,Tryz.func197,Tryz.func11,Tryz.func14,trivial⟩ (by kernel_rfl) Tryz.func3 (by kernel_rfl)
theorem kgB:FnOk Tryz.prog 3 ⟨P658,R658,gRunB (witF 4) (witF 30) slF crF cwF triF shC ixF printF rprF⟩:=fn_okSX (C:=cG (witF 4) (witF 30) slF crF cwF triF shC ixF printF rprF) (hs:=hGB) (ps:=P658) (rs:=R658) (specs:=gSP (witF 4) (witF 30) slF crF cwF triF shC ixF printF rprF) (dyns:=[62,115,121,118,192,58,119,123,190,97,92,152,90,110,103,48,353,141,107,81,45,46]) (codes:=[(13,Tryz.f13),(10,Tryz.f10),(12,Tryz.f12),(18,Tryz.f18),(103,Tryz.f103),(48,Tryz.f48),(19,Tryz.f19),(45,Tryz.f45),(17,Tryz.f17),(4,Tryz.f4),(101,Tryz.f101),(43,Tryz.f43),(20,Tryz.f20),(5,Tryz.f5),(82,Tryz.f82),(86,Tryz.f86),(37,Tryz.f37),(266,Tryz.f266),(197,Tryz.f197),(11,Tryz.f11),(14,Tryz.f14)]) (x:=cxA) rfl hm hT cxOk ⟨kgWit,k71,k73,kgIxx,k92,k93,k131,k132,k134,k135,kgcr,k140,k173,kgcw,k177,k178,k179,k193,k221,k304,k420,kgRvo,k478,k479,k480,kgOrd,kgRsl,kgPri,kgTri,k565,k567,kgsl,k624,k625,kgRpr,k661,trivial⟩ ⟨Tryz.func13,Tryz.func10,Tryz.func12,Tryz.func18,Tryz.func103,Tryz.func48,Tryz.func19,Tryz.func45,Tryz.func17,Tryz.func4,Tryz.func101,Tryz.func43,Tryz.func20,Tryz.func5,Tryz.func82,Tryz.func86,Tryz.func37,Tryz.func266,Tryz.func197,Tryz.func11,Tryz.func14,trivial⟩ (by kernel_rfl) Tryz.func3 (by kernel_rfl)
theorem FnOk.each{P:Program}{f:FuncId}{ps:List PK}{rs:List RK}{res:OutT rs (ioTy ps)}(h0:FnOk P f ⟨ps,rs,fun _=>none⟩)(h: ∀x:InT ps,∃run:InT ps->Option (OutT rs (ioTy ps)),FnOk P f ⟨ps,rs,run⟩∧run x=some res):FnOk P f ⟨ps,rs,fun _=>some res⟩:=⟨h0.1,fun w M x vs a b c d e r q=>by
 obtain⟨run,h1,h2⟩:=h x
 exact h1.2 w M x vs a b c d e r (h2.trans q)⟩
theorem bad_lt(kind:Int){i:Int}(h0:0<=i)(h4:i<4):(badC kind i).1<4:=by
 have hm:=Int.tmod_lt_of_pos kind (show(0:Int)<4 by decide)
 have:i=0∨i=1∨i=2∨i=3:=by omega
 rcases this with rfl|rfl|rfl|rfl
 ·show(1:Int)<4;decide
 ·show(3:Int)<4;decide
 ·show kind.tmod 4<4;exact hm
 ·show(0:Int)<4;decide
theorem TT_ok(cb:Bool)(x:Option Bool):TT false false cb x=x:=by cases cb<;>rfl
theorem runA_ok(s:Vector UInt8 16)(kind tries:Int)(ht:subI (witF 30 tries) 5<1∨16<subI (witF 30 tries) 5):gRunA (witF 4) (witF 30) slF crF cwF triF shC ixF printF rprF (s,kind,tries,())=some true:=by
 obtain⟨_,k4,hk4,e4⟩:=wit_ok 4 (by decide) (by decide) kind
 rw[←sp16_eq s,gTA,if_pos (by rw[show witF 4 kind=(k4:Int)from e4];omega),crF_6,slF_6]
 have hb:=bad_lt kind (i:=witF 4 kind) (by rw[show witF 4 kind=(k4:Int)from e4];omega) (by rw[show witF 4 kind=(k4:Int)from e4];omega)
 rw[slF_lt hb,cwF_lt hb,TT_ok]
 have htr:triF (subI (witF 30 tries) 5)=false:=by
  unfold triF
  rcases ht with h|h
  ·rw[decide_eq_false (by omega)];rfl
  ·rw[decide_eq_true (by omega),cond_true,decide_eq_false (by omega)]
 rw[htr]
 unfold TWA
 rcases ht with h|h
 ·rw[decide_eq_true h];rfl
 ·rw[decide_eq_true h];cases decide (subI (witF 30 tries) 5<1)<;>rfl
theorem nestB_ok(t:Int)(h1:1<=t)(h2:t<=16):TWB false true t=some true:=by
 have:t=1∨t=2∨t=3∨t=4∨t=5∨t=6∨t=7∨t=8∨t=9∨t=10∨t=11∨t=12∨t=13∨t=14∨t=15∨t=16:=by omega
 rcases this with rfl|rfl|rfl|rfl|rfl|rfl|rfl|rfl|rfl|rfl|rfl|rfl|rfl|rfl|rfl|rfl<;>rfl
theorem runB_ok(s:Vector UInt8 16)(kind tries:Int)(h1:1<=subI (witF 30 tries) 5)(h2:subI (witF 30 tries) 5<=16):gRunB (witF 4) (witF 30) slF crF cwF triF shC ixF printF rprF (s,kind,tries,())=some true:=by
 obtain⟨_,k4,hk4,e4⟩:=wit_ok 4 (by decide) (by decide) kind
 rw[←sp16_eq s,gTB,if_pos (by rw[show witF 4 kind=(k4:Int)from e4];omega),crF_6,slF_6]
 have hb:=bad_lt kind (i:=witF 4 kind) (by rw[show witF 4 kind=(k4:Int)from e4];omega) (by rw[show witF 4 kind=(k4:Int)from e4];omega)
 rw[slF_lt hb,cwF_lt hb,TT_ok,nestB_ok _ h1 h2]
noncomputable def s658:Ev.Spec:=⟨P658,R658,fun _=>some true⟩
noncomputable def r658:InT P658->Option Bool:=s658.run
theorem k658:FnOk Tryz.prog 3 s658:=FnOk.each ⟨(fnB_ok Tryz.func3 (by kernel_rfl)).1,fun _ _ _ _ _ _ _ _ _ _ h=>none_some h⟩ fun x=>by
 obtain⟨s,kind,tries,u⟩:=x
 cases u
 by_cases h1:subI (witF 30 tries) 5<1
 ·exact⟨_,kgA,runA_ok s kind tries (.inl h1)⟩
 ·by_cases h2:16<subI (witF 30 tries) 5
  ·exact⟨_,kgA,runA_ok s kind tries (.inr h2)⟩
  ·exact⟨_,kgB,runB_ok s kind tries (by omega) (by omega)⟩
theorem law658(x:InT P658):r658 x=some true:=rfl
end Sx
end
