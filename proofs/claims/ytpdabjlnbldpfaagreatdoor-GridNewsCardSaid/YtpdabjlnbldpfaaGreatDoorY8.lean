/- What code and document make of a grid, their worlds kept apart; the law as plain text. No conditions. -/
import Derived.Test.YtpdabjlnbldpfaaGreatDoorY7
import Derived.Test.YtpdabjlnbldpfaaGreatDoorX2
import Derived.Test.YtpdabjlnbldpfaaGreatDoorX6
set_option linter.unusedVariables false
set_option linter.unusedSimpArgs false
set_option linter.unusedSectionVars false
set_option maxRecDepth 100000
section
open Go Go.Proofs Ev
namespace Sx
theorem kgrB:FnOk Tryz.prog 6 ⟨P534,R534,grBQ (wlR) (sl106.run) (sl107.run)⟩:=fn_okS (C:=grBC (wlR) (sl106.run) (sl107.run)) (hs:=grBH) (ps:=P534) (rs:=R534) (specs:=[(12,⟨P34,R34,wlR⟩),(13,⟨P106,R106,sl106.run⟩),(14,⟨P107,R107,sl107.run⟩)]) (dyns:=[44]) (codes:=[]) rfl hm hT ⟨kwl,kl106,kl107,trivial⟩ trivial (by kernel_rfl) Tryz.func6 (by kernel_rfl)
theorem kdgB:FnOk Tryz.prog 7 ⟨P641,R641,dgBQ (dwR) s643.run s644.run⟩:=fn_okS (C:=dgBC (dwR) s643.run s644.run) (hs:=dgBH) (ps:=P641) (rs:=R641) (specs:=[(15,⟨P642,R642,dwR⟩),(16,⟨P643,R643,s643.run⟩),(17,⟨P644,R644,s644.run⟩)]) (dyns:=[60]) (codes:=[]) rfl hm hT ⟨kdw,k643,k644,trivial⟩ trivial (by kernel_rfl) Tryz.func7 (by kernel_rfl)
noncomputable def knB(k n:Int):Bool:=decide (k<1)||(decide (n<k)||decide (16<n))
theorem kn_eq(k n:Int):(bif decide (k<1)then some true else bif decide (n<k)then some true else some (decide (16<n)))=some (knB k n):=by
 unfold knB
 cases decide (k<1)<;>cases decide (n<k)<;>rfl
theorem grB_t(KW KD KO)(s a r k n:Int)(L:List Int):grBQ KW KD KO (s,a,r,k,n,L,())=(bif decide (k<1)then some true else bif decide (n<k)then some true else some (decide (16<n))).bind fun x=>bif x then some (none,(1:Int))else(KW (s,a,r,L,())).bind fun q=>bif neI q.2 0 then some (none,q.2)else(KD ((320:Int),())).bind fun d=>(KO (d.1,(64:Int),(4:Int),())).bind fun t=>some (some (q.1,k,n,d.1,t.1,[],[],()),(0:Int)):=by kernel_rfl
theorem dgB_t(KW KD KO)(s a r k n:Int)(L:List Int):dgBQ KW KD KO (s,a,r,k,n,L,())=(bif decide (k<1)then some true else bif decide (n<k)then some true else some (decide (16<n))).bind fun x=>bif x then some (none,(1:Int))else(KW (s,a,r,L,())).bind fun q=>bif neI q.2 0 then some (none,q.2)else(KD ((320:Int),())).bind fun d=>(KO (d.1,(64:Int),(4:Int),())).bind fun t=>some (some (q.1,k,n,d.1,t.1,[],()),(0:Int)):=by kernel_rfl
noncomputable def grT(KW:InT P34->Option (OutT R34 (ioTy P34)))(KD:InT P106->Option (OutT R106 (ioTy P106)))(KO:InT P107->Option (OutT R107 (ioTy P107)))(s a r k n:Int)(L:List Int):Option (OutT R534 (ioTy P534)):=bif knB k n then some (none,(1:Int))else(KW (s,a,r,L,())).bind fun q=>bif neI q.2 0 then some (none,q.2)else(KD ((320:Int),())).bind fun d=>(KO (d.1,(64:Int),(4:Int),())).bind fun t=>some (some (q.1,k,n,d.1,t.1,[],[],()),(0:Int))
noncomputable def dgT(KW:InT P642->Option (OutT R642 (ioTy P642)))(KD:InT P643->Option (OutT R643 (ioTy P643)))(KO:InT P644->Option (OutT R644 (ioTy P644)))(s a r k n:Int)(L:List Int):Option (OutT R641 (ioTy P641)):=bif knB k n then some (none,(1:Int))else(KW (s,a,r,L,())).bind fun q=>bif neI q.2 0 then some (none,q.2)else(KD ((320:Int),())).bind fun d=>(KO (d.1,(64:Int),(4:Int),())).bind fun t=>some (some (q.1,k,n,d.1,t.1,[],()),(0:Int))
theorem grB_T(KW KD KO)(s a r k n:Int)(L:List Int):grBQ KW KD KO (s,a,r,k,n,L,())=grT KW KD KO s a r k n L:=(grB_t KW KD KO s a r k n L).trans ((congrArg (fun o=>Option.bind o _) (kn_eq k n)).trans rfl)
theorem dgB_T(KW KD KO)(s a r k n:Int)(L:List Int):dgBQ KW KD KO (s,a,r,k,n,L,())=dgT KW KD KO s a r k n L:=(dgB_t KW KD KO s a r k n L).trans ((congrArg (fun o=>Option.bind o _) (kn_eq k n)).trans rfl)
theorem grT_kn(KW KD KO)(s a r k n:Int)(L:List Int)(h:knB k n=true):grT KW KD KO s a r k n L=some (none,(1:Int)):=by unfold grT;rw[h];rfl
theorem dgT_kn(KW KD KO)(s a r k n:Int)(L:List Int)(h:knB k n=true):dgT KW KD KO s a r k n L=some (none,(1:Int)):=by unfold dgT;rw[h];rfl
theorem grT_no(KW KD KO)(s a r k n:Int)(L:List Int)(h:knB k n=false)(e:KW (s,a,r,L,())=some (none,(1:Int))):grT KW KD KO s a r k n L=some (none,(1:Int)):=by
 unfold grT;rw[h];exact(congrArg (fun o=>Option.bind o _) e).trans rfl
theorem dgT_no(KW KD KO)(s a r k n:Int)(L:List Int)(h:knB k n=false)(e:KW (s,a,r,L,())=some (none,(1:Int))):dgT KW KD KO s a r k n L=some (none,(1:Int)):=by
 unfold dgT;rw[h];exact(congrArg (fun o=>Option.bind o _) e).trans rfl
theorem grT_ok(KW KD KO)(s a r k n:Int)(L:List Int)(w d t)(h:knB k n=false)(e:KW (s,a,r,L,())=some (some w,(0:Int)))(ed:KD ((320:Int),())=some (d,(0:Int)))(et:KO (d,(64:Int),(4:Int),())=some (t,(0:Int))):grT KW KD KO s a r k n L=some (some (some w,k,n,d,t,[],[],()),(0:Int)):=by
 unfold grT;rw[h]
 refine(congrArg (fun o=>Option.bind o _) e).trans ?_
 refine(congrArg (fun o=>Option.bind o _) ed).trans ?_
 exact(congrArg (fun o=>Option.bind o _) et).trans rfl
theorem dgT_ok(KW KD KO)(s a r k n:Int)(L:List Int)(w d t)(h:knB k n=false)(e:KW (s,a,r,L,())=some (some w,(0:Int)))(ed:KD ((320:Int),())=some d)(et:KO (d.1,(64:Int),(4:Int),())=some t):dgT KW KD KO s a r k n L=some (some (some w,k,n,d.1,t.1,[],()),(0:Int)):=by
 unfold dgT;rw[h]
 refine(congrArg (fun o=>Option.bind o _) e).trans ?_
 refine(congrArg (fun o=>Option.bind o _) ed).trans ?_
 exact(congrArg (fun o=>Option.bind o _) et).trans rfl
theorem rdisk:((s643.run ((320:Int),())).bind fun q=>(s644.run (q.1,(64:Int),(4:Int),())).map fun _=>())=some ():=by kernel_rfl
theorem rdisk_ex: ∃d t,s643.run ((320:Int),())=some d∧s644.run (d.1,(64:Int),(4:Int),())=some t:=by
 have h:=rdisk
 revert h
 generalize s643.run ((320:Int),())=o
 generalize s644.run=p
 intro h
 cases o with
 |none=>cases h
 |some d=>
  cases e:p (d.1,(64:Int),(4:Int),())with
  |none=>
   have h:(p (d.1,(64:Int),(4:Int),())).map (fun _=>())=some ():=h
   rw[e]at h;cases h
  |some t=>exact⟨d,t,rfl,e⟩
theorem cdisk: ∃d t,sl106.run ((320:Int),())=some (d,(0:Int))∧sl107.run (d,(64:Int),(4:Int),())=some (t,(0:Int)):=⟨some dsk0,some sto0,by kernel_rfl,by kernel_rfl⟩
abbrev KGT:=InT P534->Option (OutT R534 (ioTy P534))
abbrev KHT:=InT P641->Option (OutT R641 (ioTy P641))
abbrev GV:=Val (.op ((.pair (.op (.pair (.sl (.op (.pair .i64 (.pair .i64 (.pair (.op (.pair (.sl (.arr 32 .u8)) (.pair .bool (.pair .bool (.pair .i64 (.pair .i64 (.pair .i64 .unit))))))) (.pair (.op (.pair (.op (.pair (.sl (.arr 32 .u8)) (.pair .bool (.pair .bool (.pair .i64 (.pair .i64 (.pair .i64 .unit))))))) (.pair .i64 (.pair (.sl (.pair .bool (.pair .str (.pair .i64 (.pair (.sl .u8) .unit))))) (.pair .bool .unit))))) (.pair (.op (.pair (.sl (.pair (.arr 16 .u8) (.pair (.pair (.arr 16 .u8) (.pair .i64 .unit)) .unit))) .unit)) (.pair .bool .unit)))))))) (.pair (.sl .bool) (.pair (.sl (.pair .i64 (.pair .i64 (.pair .i64 .unit)))) (.pair (.sl (.sl .u8)) (.pair .i64 (.pair .i64 .unit))))))) (.pair .i64 (.pair .i64 (.pair (.op (.pair (.sl (.arr 32 .u8)) (.pair .bool (.pair .bool (.pair .i64 (.pair .i64 (.pair .i64 .unit))))))) (.pair (.op (.pair (.op (.pair (.sl (.arr 32 .u8)) (.pair .bool (.pair .bool (.pair .i64 (.pair .i64 (.pair .i64 .unit))))))) (.pair .i64 (.pair (.sl (.pair .bool (.pair .str (.pair .i64 (.pair (.sl .u8) .unit))))) (.pair .bool .unit))))) (.pair (.sl (.pair (.arr 16 .u8) (.pair (.arr 16 .u8) (.pair .i64 (.pair (.op (.pair (.op (.pair (.op (.pair (.sl (.arr 32 .u8)) (.pair .bool (.pair .bool (.pair .i64 (.pair .i64 (.pair .i64 .unit))))))) (.pair .i64 (.pair (.sl (.pair .bool (.pair .str (.pair .i64 (.pair (.sl .u8) .unit))))) (.pair .bool .unit))))) (.pair .str (.pair (.arr 16 .u8) (.pair .i64 (.pair .i64 (.pair (.arr 32 .u8) .unit))))))) .unit))))) (.pair (.sl (.pair (.arr 16 .u8) (.pair .i64 .unit))) .unit)))))))))×Int
abbrev HV:=Val (.op ((.pair (.op (.pair (.sl (.op (.pair .i64 (.pair .i64 (.pair (.op (.pair (.op (.pair (.sl .u8) (.pair .bool (.pair .bool (.pair .i64 (.pair .i64 (.pair .i64 .unit))))))) (.pair .i64 (.pair .i64 (.pair (.sl (.pair .str (.pair .i64 (.pair (.sl .u8) (.pair .i64 .unit))))) (.pair .bool .unit)))))) (.pair (.op (.pair (.sl .u8) (.pair .bool (.pair .bool (.pair .i64 (.pair .i64 (.pair .i64 .unit))))))) (.pair (.op (.pair (.sl (.pair (.arr 16 .u8) (.pair (.pair (.arr 16 .u8) (.pair .i64 .unit)) .unit))) .unit)) (.pair .bool .unit)))))))) (.pair (.sl .bool) (.pair (.sl (.pair .i64 (.pair .i64 (.pair .i64 .unit)))) (.pair (.sl (.sl .u8)) (.pair .i64 (.pair .i64 .unit))))))) (.pair .i64 (.pair .i64 (.pair (.op (.pair (.sl .u8) (.pair .bool (.pair .bool (.pair .i64 (.pair .i64 (.pair .i64 .unit))))))) (.pair (.op (.pair (.op (.pair (.sl .u8) (.pair .bool (.pair .bool (.pair .i64 (.pair .i64 (.pair .i64 .unit))))))) (.pair .i64 (.pair .i64 (.pair (.sl (.pair .str (.pair .i64 (.pair (.sl .u8) (.pair .i64 .unit))))) (.pair .bool .unit)))))) (.pair (.sl (.pair (.arr 16 .u8) (.pair .i64 (.pair .bool (.pair (.arr 16 .u8) (.pair .i64 (.pair (.op (.pair (.op (.pair (.op (.pair (.sl .u8) (.pair .bool (.pair .bool (.pair .i64 (.pair .i64 (.pair .i64 .unit))))))) (.pair .i64 (.pair .i64 (.pair (.sl (.pair .str (.pair .i64 (.pair (.sl .u8) (.pair .i64 .unit))))) (.pair .bool .unit)))))) (.pair .str (.pair (.arr 16 .u8) (.pair .i64 (.pair .i64 .unit)))))) .unit))))))) .unit))))))))×Int
noncomputable def lawE(s:Int)(q:GV)(p:HV):Option Bool:=bif neI p.2 0 then bif eqI q.2 p.2 then bif Option.isNone q.1 then(s540.run ()).bind fun r=>some r else some false else some false else bif eqI q.2 0 then bif Option.isSome q.1 then(Option.bind q.1 fun y=>(s535.run (y,())).bind fun r=>bif Option.isSome r then Option.bind q.1 fun y=>(s535.run (y,())).bind fun r=>Option.bind r fun y=>(s73.run (y,())).bind fun r=>bif eqI r s then Option.bind q.1 fun y=>(s535.run (y,())).bind fun r=>Option.bind r fun y=>(s420.run (y,())).bind fun r=>bif eqI r 0 then(s540.run ()).bind fun r=>some r else some false else some false else some false)else some false else some false
noncomputable def lawF(KG:KGT)(KR:KHT)(s k n:Int)(L:List Int)(a r:Int):Option Bool:=(KG (s,a,r,k,n,L,())).bind fun q=>(KR (s,a,r,k,n,L,())).bind fun p=>lawE s q p
noncomputable def lawR(KW:InT P6->Option (OutT R6 (ioTy P6)))(KG:KGT)(KR:KHT)(s k n:Int)(L:List Int)(a r:Int):Option Bool:=bif decide (12<r)then bif decide (r<=1024)then(KW (r,(12:Int),())).bind fun r'=>lawF KG KR s k n L a r' else lawF KG KR s k n L a r else lawF KG KR s k n L a r
noncomputable def lawA(KW:InT P6->Option (OutT R6 (ioTy P6)))(KG:KGT)(KR:KHT)(s k n:Int)(L:List Int)(a r:Int):Option Bool:=bif decide (12<a)then bif decide (a<=1024)then(KW (a,(12:Int),())).bind fun a'=>lawR KW KG KR s k n L a' r else lawR KW KG KR s k n L a r else lawR KW KG KR s k n L a r
theorem law_t(KC KW KG KR)(s a r k n:Int)(L:List Int):lawQ KC KW KG KR (s,a,r,k,n,L,())=(KC (L,(10:Int),())).bind fun L'=>lawA KW KG KR s k n L' a r:=by kernel_rfl
theorem lawE_no(s:Int):lawE s (none,(1:Int)) (none,(1:Int))=some true:=by kernel_rfl
theorem lawE_ok(s k n:Int)(row dn d t o):lawE s (some (some (row,dn,[],[],(0:Int),(0:Int),()),k,n,d,t,[],[],()),(0:Int)) (some o,(0:Int))=bif eqI (List.length row) s then some true else some false:=by kernel_rfl
end Sx
end
