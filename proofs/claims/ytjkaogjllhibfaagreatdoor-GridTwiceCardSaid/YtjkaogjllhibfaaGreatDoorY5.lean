/- GridTwice answers true for all arguments, as a functional reading. No conditions. -/
import Derived.Test.YtjkaogjllhibfaaGreatDoorY4
import Derived.Test.YtjkaogjllhibfaaGreatDoorX8
set_option linter.unusedVariables false
set_option linter.unusedSimpArgs false
set_option linter.unusedSectionVars false
set_option maxRecDepth 100000
section
open Go Go.Proofs Ev
namespace Sx
noncomputable def s533:Ev.Spec:=⟨P533,R533,gRun witC shC ixF printF⟩
noncomputable def r533:InT P533->Option Bool:=s533.run
theorem k533:FnOk Tryz.prog 3 s533:=fn_okSX (C:=cG witC shC ixF printF) (hs:=hGT) (ps:=P533) (rs:=R533) (specs:=gSP witC shC ixF printF) (dyns:=[88,153,99,95,221,250,83,97,101,173,219,188,143,216,141,55,68,52,122,53,115,253]) (codes:=[(53,Tryz.f53),(20,Tryz.f20),(7,Tryz.f7),(8,Tryz.f8),(9,Tryz.f9),(13,Tryz.f13),(22,Tryz.f22),(56,Tryz.f56),(26,Tryz.f26),(92,Tryz.f92),(24,Tryz.f24),(5,Tryz.f5),(16,Tryz.f16),(81,Tryz.f81),(44,Tryz.f44),(17,Tryz.f17),(80,Tryz.f80),(41,Tryz.f41),(15,Tryz.f15),(4,Tryz.f4)]) (x:=cxA) rfl hm hT cxOk ⟨kgWit,k71,kgIdx,k89,k93,kl106,kl107,k131,k132,k134,k135,k173,k175,k176,k193,k420,k535,kgRsl,k540,kgRix,kgPri,kgSlo,k545,kgNam,k548,k549,k553,k555,k556,k561,k562,trivial⟩ ⟨Tryz.func53,Tryz.func20,Tryz.func7,Tryz.func8,Tryz.func9,Tryz.func13,Tryz.func22,Tryz.func56,Tryz.func26,Tryz.func92,Tryz.func24,Tryz.func5,Tryz.func16,Tryz.func81,Tryz.func44,Tryz.func17,Tryz.func80,Tryz.func41,Tryz.func15,Tryz.func4,trivial⟩ (by kernel_rfl) Tryz.func3 (by kernel_rfl)
theorem D16_self(a:Vector UInt8 16):D16 a a=true:=by unfold D16;exact @decide_eq_true _ (decV (.arr 16 .u8) a a) rfl
theorem D16_eq{a b:Vector UInt8 16}(h:D16 a b=true):a=b:=by unfold D16 at h;exact @of_decide_eq_true _ (decV (.arr 16 .u8) a b) h
theorem TT_ok(a b s o:Vector UInt8 16):TT a b s o=some true:=by
 unfold TT
 rw[D16_self,cond_true,cond_true,cond_true]
 cases h1:D16 s o with
 |true=>rw[cond_true]
 |false=>
  rw[cond_false]
  cases h2:D16 b a with
  |true=>rw[cond_true]
  |false=>
   rw[cond_false]
   have h3:D16 a b=false:=by
    cases h3:D16 a b with
    |false=>rfl
    |true=>rw[D16_eq h3,D16_self]at h2;cases h2
   rw[h3,cond_false,cond_false]
theorem law533(x:InT P533):r533 x=some true:=by
 obtain⟨s,o,h,u⟩:=x
 cases u
 rw[←sp16_eq s,←sp16_eq o]
 refine(gT witC shC ixF printF _ _ h).trans ?_
 rcases(wit_ok h).2 with e|e
 ·rw[if_pos (by rw[e];rfl),TT_ok]
 ·rw[if_neg (by rw[e];decide),if_pos (by rw[e];rfl),TT_ok]
end Sx
end
