/- The law answers true for all arguments. No conditions. -/
import Derived.Test.YtpdabjlnbldpfaaGreatDoorY8
import Derived.Test.YtpdabjlnbldpfaaGreatDoorK
import Derived.Test.YtpdabjlnbldpfaaGreatDoorX8
set_option linter.unusedVariables false
set_option linter.unusedSimpArgs false
set_option linter.unusedSectionVars false
set_option maxRecDepth 100000
section
open Go Go.Proofs Ev
namespace Sx
theorem kctB:FnOk Tryz.prog 4 ⟨P640,R640,ctBQ⟩:=fn_okS (C:=ctBC) (hs:=ctBH) (ps:=P640) (rs:=R640) (specs:=[]) (dyns:=[]) (codes:=[]) rfl hm hT trivial trivial (by kernel_rfl) Tryz.func4 (by kernel_rfl)
theorem klaw:FnOk Tryz.prog 3 ⟨P639,R639,lawQ (ctBQ) s6.run (grBQ wlR sl106.run sl107.run) (dgBQ dwR s643.run s644.run)⟩:=fn_okSX (C:=lawC (ctBQ) s6.run (grBQ wlR sl106.run sl107.run) (dgBQ dwR s643.run s644.run)) (hs:=lawH) (ps:=P639) (rs:=R639) (specs:=[(5,⟨P6,R6,s6.run⟩),(10,s73),(11,s420),(6,⟨P534,R534,grBQ wlR sl106.run sl107.run⟩),(9,s535),(8,s540),(4,⟨P640,R640,ctBQ⟩),(7,⟨P641,R641,dgBQ dwR s643.run s644.run⟩)]) (dyns:=[]) (codes:=[]) (x:=cxA) rfl hm hT cxOk ⟨k6,k73,k420,kgrB,k535,k540,kctB,kdgB,trivial⟩ trivial (by kernel_rfl) Tryz.func3 (by kernel_rfl)
theorem ctB_t(L:List Int)(n:Int):ctBQ (L,n,())=(cut? L 0 (minI (L.length:Int) n)).bind fun r=>some r:=by kernel_rfl
theorem ct_ok(L:List Int):ctBQ (L,(10:Int),())=some (L.take (min L.length 10)):=by
 rw[ctB_t,show(10:Int)=((10:Nat):Int)from rfl,Mx.minI_nat,cutL (Nat.min_le_left ..)];rfl
theorem wi_ok(v:Int): ∃w:Nat,w<12∧s6.run (v,(12:Int),())=some (w:Int):=by
 obtain⟨w,h,e⟩:=Mx.p6 v 12 (by omega) (by omega)
 exact⟨w,h,e⟩
theorem pre_nat{w:Nat}(h:w<12):preB (w:Int)=true:=by
 unfold preB badB okB
 by_cases c:w=0
 ·subst c;rfl
 ·rw[decide_eq_true (show(1:Int)<=(w:Int)by omega),decide_eq_true (show(w:Int)<=12 by omega)];simp
theorem pre_of{v:Int}(h: ¬(12<v∧v<=1024)):preB v=true:=by
 unfold preB badB okB
 by_cases c1:v<1
 ·rw[decide_eq_true c1];rfl
 by_cases c2:1024<v
 ·rw[decide_eq_true c2,Bool.or_true];rfl
 rw[decide_eq_true (show(1:Int)<=v by omega),decide_eq_true (show v<=12 by omega)];simp
noncomputable def KGv:KGT:=grBQ wlR sl106.run sl107.run
noncomputable def KHv:KHT:=dgBQ dwR s643.run s644.run
theorem lawF_of(s k n:Int)(L:List Int)(a r:Int)(q p)(hq:KGv (s,a,r,k,n,L,())=some q)(hp:KHv (s,a,r,k,n,L,())=some p)(h:lawE s q p=some true):lawF KGv KHv s k n L a r=some true:=by
 refine(congrArg (fun o=>Option.bind o _) hq).trans ?_
 exact(congrArg (fun o=>Option.bind o _) hp).trans h
theorem lawF_ok(s k n:Int)(L:List Int)(hl:L.length<=1000)(a r:Int)(ha:preB a=true)(hr:preB r=true):lawF KGv KHv s k n L a r=some true:=by
 cases hk:knB k n with
 |true=>exact lawF_of s k n L a r _ _ ((grB_T _ _ _ s a r k n L).trans (grT_kn _ _ _ s a r k n L hk)) ((dgB_T _ _ _ s a r k n L).trans (dgT_kn _ _ _ s a r k n L hk)) (lawE_no s)
 |false=>
  cases hb:BAD s a r L with
  |true=>exact lawF_of s k n L a r _ _ ((grB_T _ _ _ s a r k n L).trans (grT_no _ _ _ s a r k n L hk (wl_no hl hb))) ((dgB_T _ _ _ s a r k n L).trans (dgT_no _ _ _ s a r k n L hk (dl_no hl hb))) (lawE_no s)
  |false=>
   obtain⟨row,dn,e1,e2⟩:=wl_ok hl ha hr hb
   obtain⟨w,e3⟩:=dl_ok hl ha hr hb
   obtain⟨d,t,e4,e5⟩:=cdisk
   obtain⟨d',t',e6,e7⟩:=rdisk_ex
   refine lawF_of s k n L a r _ _ ((grB_T _ _ _ s a r k n L).trans (grT_ok _ _ _ s a r k n L _ d t hk e2 e4 e5)) ((dgB_T _ _ _ s a r k n L).trans (dgT_ok _ _ _ s a r k n L w d' t' hk e3 e6 e7)) ?_
   refine(lawE_ok s k n row dn d t _).trans ?_
   rw[show eqI (List.length row) s=true from decide_eq_true e1];rfl
theorem lawR_ok(s k n:Int)(L:List Int)(hl:L.length<=1000)(a r:Int)(ha:preB a=true):lawR s6.run KGv KHv s k n L a r=some true:=by
 unfold lawR
 by_cases c1:12<r
 ·rw[decide_eq_true c1,cond_true]
  by_cases c2:r<=1024
  ·rw[decide_eq_true c2,cond_true]
   obtain⟨w,hw,e⟩:=wi_ok r
   refine(congrArg (fun o=>Option.bind o _) e).trans ?_
   exact lawF_ok s k n L hl a w ha (pre_nat hw)
  ·rw[decide_eq_false c2,cond_false]
   exact lawF_ok s k n L hl a r ha (pre_of fun h=>c2 h.2)
 ·rw[decide_eq_false c1,cond_false]
  exact lawF_ok s k n L hl a r ha (pre_of fun h=>c1 h.1)
theorem lawA_ok(s k n:Int)(L:List Int)(hl:L.length<=1000)(a r:Int):lawA s6.run KGv KHv s k n L a r=some true:=by
 unfold lawA
 by_cases c1:12<a
 ·rw[decide_eq_true c1,cond_true]
  by_cases c2:a<=1024
  ·rw[decide_eq_true c2,cond_true]
   obtain⟨w,hw,e⟩:=wi_ok a
   refine(congrArg (fun o=>Option.bind o _) e).trans ?_
   exact lawR_ok s k n L hl w r (pre_nat hw)
  ·rw[decide_eq_false c2,cond_false]
   exact lawR_ok s k n L hl a r (pre_of fun h=>c2 h.2)
 ·rw[decide_eq_false c1,cond_false]
  exact lawR_ok s k n L hl a r (pre_of fun h=>c1 h.1)
noncomputable def s639:Ev.Spec:=⟨P639,R639,lawQ ctBQ s6.run KGv KHv⟩
noncomputable def r639:InT P639->Option Bool:=s639.run
theorem k639:FnOk Tryz.prog 3 s639:=klaw
theorem law639(x:InT P639):r639 x=some true:=by
 obtain⟨s,a,r,k,n,L,u⟩:=x
 cases u
 refine(law_t ctBQ s6.run KGv KHv s a r k n L).trans ?_
 refine(congrArg (fun o=>Option.bind o _) (ct_ok L)).trans ?_
 exact lawA_ok s k n _ (by rw[List.length_take];omega) a r
end Sx
end
