/- Servers: contracts of what makes one, disk and store kept apart; where there is none. No conditions. -/
import Derived.Test.YtpdabjlnbldpfaaGreatDoorE
import Derived.Test.YtpdabjlnbldpfaaGreatDoorH
import Derived.Test.YtpdabjlnbldpfaaGreatDoorK
set_option linter.unusedVariables false
set_option linter.unusedSimpArgs false
set_option linter.unusedSectionVars false
set_option maxRecDepth 100000
section
open Go Go.Proofs Ev
namespace Sx
noncomputable def srAH:List (Nat×Hint):=[(4, .join [(.normal,⟨[(22, .v .bool)],[]⟩)]),(5, .must true)]
noncomputable def srAC:Ctx:=mkC tys cells maps [(13,s106),(14,s107),(41,s108)] [] []
noncomputable def srAQ(x:InT P72):Option (OutT R72 (ioTy P72)):=evF (srAC) Tryz.f22 srAH P72 R72 x
noncomputable def dkBH:List (Nat×Hint):=[(4, .join [(.normal,⟨[(9, .v .bool)],[]⟩)])]
noncomputable def dkBC:Ctx:=mkC tys cells maps [] [] []
noncomputable def dkBQ(x:InT P106):Option (OutT R106 (ioTy P106)):=evF (dkBC) Tryz.f13 dkBH P106 R106 x
noncomputable def siBH:List (Nat×Hint):=[(3, .join [(.normal,⟨[(2, .v .bool)],[]⟩)])]
noncomputable def siBC:Ctx:=mkC tys cells maps [] [] []
noncomputable def siBQ(x:InT P131):Option (OutT R131 (ioTy P131)):=evF (siBC) Tryz.f23 siBH P131 R131 x
noncomputable def stAH:List (Nat×Hint):=[(4, .join [(.normal,⟨[(32, .v .bool)],[]⟩)]),(5, .must true)]
noncomputable def stAC(KSIN:InT P131->Option (OutT R131 (ioTy P131)))(KDLE:InT P132->Option (OutT R132 (ioTy P132))):Ctx:=mkC tys cells maps [(23,⟨P131,R131,KSIN⟩),(24,⟨P132,R132,KDLE⟩),(25,s133),(26,s134),(27,s135),(42,s172),(43,s173)] [89] [(25,Tryz.f25)]
noncomputable def stAQ(KSIN:InT P131->Option (OutT R131 (ioTy P131)))(KDLE:InT P132->Option (OutT R132 (ioTy P132)))(x:InT P107):Option (OutT R107 (ioTy P107)):=evF (stAC KSIN KDLE) Tryz.f14 stAH P107 R107 x
noncomputable def srBH:List (Nat×Hint):=[(4, .join [(.normal,⟨[(22, .v .bool)],[]⟩)])]
noncomputable def srBC(KDKN:InT P106->Option (OutT R106 (ioTy P106)))(KSTO:InT P107->Option (OutT R107 (ioTy P107))):Ctx:=mkC tys cells maps [(13,⟨P106,R106,KDKN⟩),(14,⟨P107,R107,KSTO⟩),(41,s108)] [] []
noncomputable def srBQ(KDKN:InT P106->Option (OutT R106 (ioTy P106)))(KSTO:InT P107->Option (OutT R107 (ioTy P107)))(x:InT P72):Option (OutT R72 (ioTy P72)):=evF (srBC KDKN KSTO) Tryz.f22 srBH P72 R72 x
noncomputable def stOH:List (Nat×Hint):=[(4, .join [(.normal,⟨[(32, .v .bool)],[]⟩)]),(5, .must false),(16, .rounds (List.replicate 13 [(28, .inl 2 25 [(6, .join [(.normal,⟨[(36, .v .bool)],[]⟩)]),(7, .must true)])])),(43, .rounds (List.replicate 13 []))]
noncomputable def stOC(KSIN:InT P131->Option (OutT R131 (ioTy P131)))(KDLE:InT P132->Option (OutT R132 (ioTy P132)))(KDRE:InT P172->Option (OutT R172 (ioTy P172))):Ctx:=mkC tys cells maps [(23,⟨P131,R131,KSIN⟩),(24,⟨P132,R132,KDLE⟩),(25,s133),(26,s134),(27,s135),(42,⟨P172,R172,KDRE⟩),(43,s173)] [89] [(25,Tryz.f25)]
noncomputable def stOQ(KSIN:InT P131->Option (OutT R131 (ioTy P131)))(KDLE:InT P132->Option (OutT R132 (ioTy P132)))(KDRE:InT P172->Option (OutT R172 (ioTy P172)))(x:InT P107):Option (OutT R107 (ioTy P107)):=evF (stOC KSIN KDLE KDRE) Tryz.f14 stOH P107 R107 x
noncomputable def diBH:List (Nat×Hint):=[]
noncomputable def diBC:Ctx:=mkC tys cells maps [] [] []
noncomputable def diBQ(x:InT P193):Option (OutT R193 (ioTy P193)):=evF (diBC) Tryz.f59 diBH P193 R193 x
noncomputable def dlBH:List (Nat×Hint):=[]
noncomputable def dlBC:Ctx:=mkC tys cells maps [] [] []
noncomputable def dlBQ(x:InT P132):Option (OutT R132 (ioTy P132)):=evF (dlBC) Tryz.f24 dlBH P132 R132 x
noncomputable def drBH:List (Nat×Hint):=[]
noncomputable def drBC(KDIN:InT P193->Option (OutT R193 (ioTy P193))):Ctx:=mkC tys cells maps [(59,⟨P193,R193,KDIN⟩)] [] []
noncomputable def drBQ(KDIN:InT P193->Option (OutT R193 (ioTy P193)))(x:InT P172):Option (OutT R172 (ioTy P172)):=evF (drBC KDIN) Tryz.f42 drBH P172 R172 x
noncomputable def srOH:List (Nat×Hint):=[(4, .join [(.normal,⟨[(22, .v .bool)],[]⟩)])]
noncomputable def srOC(KDKN:InT P106->Option (OutT R106 (ioTy P106)))(KSTO:InT P107->Option (OutT R107 (ioTy P107))):Ctx:=mkC tys cells maps [(13,⟨P106,R106,KDKN⟩),(14,⟨P107,R107,KSTO⟩),(41,s108)] [] []
noncomputable def srOQ(KDKN:InT P106->Option (OutT R106 (ioTy P106)))(KSTO:InT P107->Option (OutT R107 (ioTy P107)))(x:InT P72):Option (OutT R72 (ioTy P72)):=evF (srOC KDKN KSTO) Tryz.f22 srOH P72 R72 x
noncomputable def dsAH:List (Nat×Hint):=[(4, .join [(.normal,⟨[(23, .v .bool)],[]⟩)]),(5, .must true)]
noncomputable def dsAC:Ctx:=mkC tys cells maps [(16,s643),(17,s644)] [131] []
noncomputable def dsAQ(x:InT P646):Option (OutT R646 (ioTy P646)):=evF (dsAC) Tryz.f29 dsAH P646 R646 x
noncomputable def coBH:List (Nat×Hint):=[]
noncomputable def coBC(KIDX:InT P105->Option (OutT R105 (ioTy P105))):Ctx:=mkC tys cells maps [(40,⟨P105,R105,KIDX⟩)] [] []
noncomputable def coBQ(KIDX:InT P105->Option (OutT R105 (ioTy P105)))(x:InT P71):Option (OutT R71 (ioTy P71)):=evF (coBC KIDX) Tryz.f21 coBH P71 R71 x
noncomputable def ixBH:List (Nat×Hint):=[(6, .loop ⟨[(8, .v .i64)],[]⟩ [(.exit 0,⟨[],[]⟩),(.ret,⟨[(4, .v .i64)],[]⟩)])]
noncomputable def ixBC:Ctx:=mkC tys cells maps [] [] []
noncomputable def ixBQ(x:InT P105):Option (OutT R105 (ioTy P105)):=evF (ixBC) Tryz.f40 ixBH P105 R105 x
noncomputable def inBH:List (Nat×Hint):=[(6, .loop ⟨[(8, .v .i64)],[]⟩ [(.exit 0,⟨[],[]⟩),(.ret,⟨[(4, .v .bool)],[]⟩)])]
noncomputable def inBC:Ctx:=mkC tys cells maps [] [] []
noncomputable def inBQ(x:InT P645):Option (OutT R645 (ioTy P645)):=evF (inBC) Tryz.f28 inBH P645 R645 x
noncomputable def ctBH:List (Nat×Hint):=[]
noncomputable def ctBC:Ctx:=mkC tys cells maps [] [] []
noncomputable def ctBQ(x:InT P640):Option (OutT R640 (ioTy P640)):=evF (ctBC) Tryz.f4 ctBH P640 R640 x
noncomputable def wlAH:List (Nat×Hint):=[(4, .join [(.normal,⟨[(21, .v .bool)],[]⟩)]),(5, .must true)]
noncomputable def wlAC:Ctx:=mkC tys cells maps [(21,s71),(22,s72)] [78] []
noncomputable def wlAQ(x:InT P34):Option (OutT R34 (ioTy P34)):=evF (wlAC) Tryz.f12 wlAH P34 R34 x
noncomputable def wlBH:List (Nat×Hint):=[(14, .loop ⟨[(24, .v .i64)],[]⟩ [(.exit 0,⟨[],[]⟩),(.ret,⟨[(8, .v (.op (.pair (.sl (.op (.pair .i64 (.pair .i64 (.pair (.op (.pair (.sl (.arr 32 .u8)) (.pair .bool (.pair .bool (.pair .i64 (.pair .i64 (.pair .i64 .unit))))))) (.pair (.op (.pair (.op (.pair (.sl (.arr 32 .u8)) (.pair .bool (.pair .bool (.pair .i64 (.pair .i64 (.pair .i64 .unit))))))) (.pair .i64 (.pair (.sl (.pair .bool (.pair .str (.pair .i64 (.pair (.sl .u8) .unit))))) (.pair .bool .unit))))) (.pair (.op (.pair (.sl (.pair (.arr 16 .u8) (.pair (.pair (.arr 16 .u8) (.pair .i64 .unit)) .unit))) .unit)) (.pair .bool .unit)))))))) (.pair (.sl .bool) (.pair (.sl (.pair .i64 (.pair .i64 (.pair .i64 .unit)))) (.pair (.sl (.sl .u8)) (.pair .i64 (.pair .i64 .unit)))))))),(9, .v .i64)],[]⟩)]),(26, .join [(.normal,⟨[(42, .v .bool)],[]⟩)]),(39, .rounds (List.replicate 9 []))]
noncomputable def wlBC(KCON:InT P71->Option (OutT R71 (ioTy P71)))(KSRN:InT P72->Option (OutT R72 (ioTy P72))):Ctx:=mkC tys cells maps [(21,⟨P71,R71,KCON⟩),(22,⟨P72,R72,KSRN⟩)] [78] []
noncomputable def wlBQ(KCON:InT P71->Option (OutT R71 (ioTy P71)))(KSRN:InT P72->Option (OutT R72 (ioTy P72)))(x:InT P34):Option (OutT R34 (ioTy P34)):=evF (wlBC KCON KSRN) Tryz.f12 wlBH P34 R34 x
noncomputable def dwAH:List (Nat×Hint):=[(4, .join [(.normal,⟨[(20, .v .bool)],[]⟩)]),(5, .must true)]
noncomputable def dwAC:Ctx:=mkC tys cells maps [(28,s645),(29,s646)] [98] []
noncomputable def dwAQ(x:InT P642):Option (OutT R642 (ioTy P642)):=evF (dwAC) Tryz.f15 dwAH P642 R642 x
noncomputable def dwBH:List (Nat×Hint):=[(14, .loop ⟨[(23, .v .i64)],[]⟩ [(.exit 0,⟨[],[]⟩),(.ret,⟨[(8, .v (.op (.pair (.sl (.op (.pair .i64 (.pair .i64 (.pair (.op (.pair (.op (.pair (.sl .u8) (.pair .bool (.pair .bool (.pair .i64 (.pair .i64 (.pair .i64 .unit))))))) (.pair .i64 (.pair .i64 (.pair (.sl (.pair .str (.pair .i64 (.pair (.sl .u8) (.pair .i64 .unit))))) (.pair .bool .unit)))))) (.pair (.op (.pair (.sl .u8) (.pair .bool (.pair .bool (.pair .i64 (.pair .i64 (.pair .i64 .unit))))))) (.pair (.op (.pair (.sl (.pair (.arr 16 .u8) (.pair (.pair (.arr 16 .u8) (.pair .i64 .unit)) .unit))) .unit)) (.pair .bool .unit)))))))) (.pair (.sl .bool) (.pair (.sl (.pair .i64 (.pair .i64 (.pair .i64 .unit)))) (.pair (.sl (.sl .u8)) (.pair .i64 (.pair .i64 .unit)))))))),(9, .v .i64)],[]⟩)]),(26, .join [(.normal,⟨[(48, .v .bool)],[]⟩)]),(39, .rounds (List.replicate 9 []))]
noncomputable def dwBC(KRIN:InT P645->Option (OutT R645 (ioTy P645)))(KRSN:InT P646->Option (OutT R646 (ioTy P646))):Ctx:=mkC tys cells maps [(28,⟨P645,R645,KRIN⟩),(29,⟨P646,R646,KRSN⟩)] [98] []
noncomputable def dwBQ(KRIN:InT P645->Option (OutT R645 (ioTy P645)))(KRSN:InT P646->Option (OutT R646 (ioTy P646)))(x:InT P642):Option (OutT R642 (ioTy P642)):=evF (dwBC KRIN KRSN) Tryz.f15 dwBH P642 R642 x
noncomputable def grBH:List (Nat×Hint):=[(4, .join [(.normal,⟨[(27, .v .bool)],[]⟩)])]
noncomputable def grBC(KWLN:InT P34->Option (OutT R34 (ioTy P34)))(KDKN:InT P106->Option (OutT R106 (ioTy P106)))(KSTO:InT P107->Option (OutT R107 (ioTy P107))):Ctx:=mkC tys cells maps [(12,⟨P34,R34,KWLN⟩),(13,⟨P106,R106,KDKN⟩),(14,⟨P107,R107,KSTO⟩)] [44] []
noncomputable def grBQ(KWLN:InT P34->Option (OutT R34 (ioTy P34)))(KDKN:InT P106->Option (OutT R106 (ioTy P106)))(KSTO:InT P107->Option (OutT R107 (ioTy P107)))(x:InT P534):Option (OutT R534 (ioTy P534)):=evF (grBC KWLN KDKN KSTO) Tryz.f6 grBH P534 R534 x
noncomputable def dgBH:List (Nat×Hint):=[(4, .join [(.normal,⟨[(30, .v .bool)],[]⟩)])]
noncomputable def dgBC(KRWN:InT P642->Option (OutT R642 (ioTy P642)))(KRDN:InT P643->Option (OutT R643 (ioTy P643)))(KROP:InT P644->Option (OutT R644 (ioTy P644))):Ctx:=mkC tys cells maps [(15,⟨P642,R642,KRWN⟩),(16,⟨P643,R643,KRDN⟩),(17,⟨P644,R644,KROP⟩)] [60] []
noncomputable def dgBQ(KRWN:InT P642->Option (OutT R642 (ioTy P642)))(KRDN:InT P643->Option (OutT R643 (ioTy P643)))(KROP:InT P644->Option (OutT R644 (ioTy P644)))(x:InT P641):Option (OutT R641 (ioTy P641)):=evF (dgBC KRWN KRDN KROP) Tryz.f7 dgBH P641 R641 x
noncomputable def lawH:List (Nat×Hint):=[]
noncomputable def lawC(KCTI:InT P640->Option (OutT R640 (ioTy P640)))(KWIT:InT P6->Option (OutT R6 (ioTy P6)))(KGRN:InT P534->Option (OutT R534 (ioTy P534)))(KRGN:InT P641->Option (OutT R641 (ioTy P641))):Ctx:=mkC tys cells maps [(5,⟨P6,R6,KWIT⟩),(10,s73),(11,s420),(6,⟨P534,R534,KGRN⟩),(9,s535),(8,s540),(4,⟨P640,R640,KCTI⟩),(7,⟨P641,R641,KRGN⟩)] [] [] cxA
noncomputable def lawQ(KCTI:InT P640->Option (OutT R640 (ioTy P640)))(KWIT:InT P6->Option (OutT R6 (ioTy P6)))(KGRN:InT P534->Option (OutT R534 (ioTy P534)))(KRGN:InT P641->Option (OutT R641 (ioTy P641)))(x:InT P639):Option (OutT R639 (ioTy P639)):=evF (lawC KCTI KWIT KGRN KRGN) Tryz.f3 lawH P639 R639 x
end Sx
end
section
open Go Go.Proofs Ev
namespace Sx
theorem FnOk.two{P:Program}{f:FuncId}{ps:List PK}{rs:List RK}{r1 r2:InT ps->Option (OutT rs (ioTy ps))}(h1:FnOk P f ⟨ps,rs,r1⟩)(h2:FnOk P f ⟨ps,rs,r2⟩)(run':InT ps->Option (OutT rs (ioTy ps)))(h: ∀x r,run' x=some r->r1 x=some r∨r2 x=some r):FnOk P f ⟨ps,rs,run'⟩:=⟨h1.1,fun w M x vs a b c d e r q=>(h x r q).elim (fun q=>h1.2 w M x vs a b c d e r q) (fun q=>h2.2 w M x vs a b c d e r q)⟩
theorem kdkB:FnOk Tryz.prog 13 ⟨P106,R106,dkBQ⟩:=fn_okS (C:=dkBC) (hs:=dkBH) (ps:=P106) (rs:=R106) (specs:=[]) (dyns:=[]) (codes:=[]) rfl hm hT trivial trivial (by kernel_rfl) Tryz.func13 (by kernel_rfl)
theorem ksiB:FnOk Tryz.prog 23 ⟨P131,R131,siBQ⟩:=fn_okS (C:=siBC) (hs:=siBH) (ps:=P131) (rs:=R131) (specs:=[]) (dyns:=[]) (codes:=[]) rfl hm hT trivial trivial (by kernel_rfl) Tryz.func23 (by kernel_rfl)
theorem kstA:FnOk Tryz.prog 14 ⟨P107,R107,stAQ (siBQ) s132.run⟩:=fn_okS (C:=stAC (siBQ) s132.run) (hs:=stAH) (ps:=P107) (rs:=R107) (specs:=[(23,⟨P131,R131,siBQ⟩),(24,⟨P132,R132,s132.run⟩),(25,s133),(26,s134),(27,s135),(42,s172),(43,s173)]) (dyns:=[89]) (codes:=[(25,Tryz.f25)]) rfl hm hT ⟨ksiB,k132,k133,k134,k135,k172,k173,trivial⟩ ⟨Tryz.func25,trivial⟩ (by kernel_rfl) Tryz.func14 (by kernel_rfl)
theorem ksrA:FnOk Tryz.prog 22 ⟨P72,R72,srAQ⟩:=fn_okS (C:=srAC) (hs:=srAH) (ps:=P72) (rs:=R72) (specs:=[(13,s106),(14,s107),(41,s108)]) (dyns:=[]) (codes:=[]) rfl hm hT ⟨k106,k107,k108,trivial⟩ trivial (by kernel_rfl) Tryz.func22 (by kernel_rfl)
theorem ksrB:FnOk Tryz.prog 22 ⟨P72,R72,srBQ (dkBQ) (stAQ siBQ s132.run)⟩:=fn_okS (C:=srBC (dkBQ) (stAQ siBQ s132.run)) (hs:=srBH) (ps:=P72) (rs:=R72) (specs:=[(13,⟨P106,R106,dkBQ⟩),(14,⟨P107,R107,stAQ siBQ s132.run⟩),(41,s108)]) (dyns:=[]) (codes:=[]) rfl hm hT ⟨kdkB,kstA,k108,trivial⟩ trivial (by kernel_rfl) Tryz.func22 (by kernel_rfl)
theorem kdsA:FnOk Tryz.prog 29 ⟨P646,R646,dsAQ⟩:=fn_okS (C:=dsAC) (hs:=dsAH) (ps:=P646) (rs:=R646) (specs:=[(16,s643),(17,s644)]) (dyns:=[131]) (codes:=[]) rfl hm hT ⟨k643,k644,trivial⟩ trivial (by kernel_rfl) Tryz.func29 (by kernel_rfl)
theorem kdiB:FnOk Tryz.prog 59 ⟨P193,R193,diBQ⟩:=fn_okS (C:=diBC) (hs:=diBH) (ps:=P193) (rs:=R193) (specs:=[]) (dyns:=[]) (codes:=[]) rfl hm hT trivial trivial (by kernel_rfl) Tryz.func59 (by kernel_rfl)
theorem kdlB:FnOk Tryz.prog 24 ⟨P132,R132,dlBQ⟩:=fn_okS (C:=dlBC) (hs:=dlBH) (ps:=P132) (rs:=R132) (specs:=[]) (dyns:=[]) (codes:=[]) rfl hm hT trivial trivial (by kernel_rfl) Tryz.func24 (by kernel_rfl)
theorem kdrB:FnOk Tryz.prog 42 ⟨P172,R172,drBQ (diBQ)⟩:=fn_okS (C:=drBC (diBQ)) (hs:=drBH) (ps:=P172) (rs:=R172) (specs:=[(59,⟨P193,R193,diBQ⟩)]) (dyns:=[]) (codes:=[]) rfl hm hT ⟨kdiB,trivial⟩ trivial (by kernel_rfl) Tryz.func42 (by kernel_rfl)
theorem kstO:FnOk Tryz.prog 14 ⟨P107,R107,stOQ (siBQ) (dlBQ) (drBQ diBQ)⟩:=fn_okS (C:=stOC (siBQ) (dlBQ) (drBQ diBQ)) (hs:=stOH) (ps:=P107) (rs:=R107) (specs:=[(23,⟨P131,R131,siBQ⟩),(24,⟨P132,R132,dlBQ⟩),(25,s133),(26,s134),(27,s135),(42,⟨P172,R172,drBQ diBQ⟩),(43,s173)]) (dyns:=[89]) (codes:=[(25,Tryz.f25)]) rfl hm hT ⟨ksiB,kdlB,k133,k134,k135,kdrB,k173,trivial⟩ ⟨Tryz.func25,trivial⟩ (by kernel_rfl) Tryz.func14 (by kernel_rfl)
theorem ksrO:FnOk Tryz.prog 22 ⟨P72,R72,srOQ (dkBQ) (stOQ siBQ dlBQ (drBQ diBQ))⟩:=fn_okS (C:=srOC (dkBQ) (stOQ siBQ dlBQ (drBQ diBQ))) (hs:=srOH) (ps:=P72) (rs:=R72) (specs:=[(13,⟨P106,R106,dkBQ⟩),(14,⟨P107,R107,stOQ siBQ dlBQ (drBQ diBQ)⟩),(41,s108)]) (dyns:=[]) (codes:=[]) rfl hm hT ⟨kdkB,kstO,k108,trivial⟩ trivial (by kernel_rfl) Tryz.func22 (by kernel_rfl)
noncomputable def neI(a b:Int):Bool:=decide (a≠b)
noncomputable def eqI(a b:Int):Bool:=decide (a=b)
theorem eqI_ok{a b:Int}(h:eqI a b=true):a=b:=of_decide_eq_true h
noncomputable def badB(v:Int):Bool:=decide (v<1)||decide (1024<v)
noncomputable def okB(v:Int):Bool:=decide (1<=v)&&decide (v<=12)
theorem srA_t(s r:Int):srAQ (s,r,())=(bif decide (s<1)then some true else bif decide (r<1)then some true else bif decide (4096<s)then some true else some (decide (4096<r))).bind fun x=>bif x then some (none,(1:Int))else none:=by kernel_rfl
theorem srB_t(KD KO)(s r:Int):srBQ KD KO (s,r,())=(bif decide (s<1)then some true else bif decide (r<1)then some true else bif decide (4096<s)then some true else some (decide (4096<r))).bind fun x=>bif x then some (none,(1:Int))else(KD (mulI s (addI r 1),())).bind fun q=>bif neI q.2 0 then some (none,q.2)else(KO (q.1,s,r,())).bind fun w=>bif neI w.2 0 then some (none,w.2)else(s108.run ()).bind fun l=>some (some (s,r,q.1,w.1,l,false,()),(0:Int)):=by kernel_rfl
theorem dkB_t(n:Int):dkBQ (n,())=(bif decide (n<1)then some true else some (decide (4096<n))).bind fun x=>bif x then some (none,(1:Int))else(zeros? n (Vector.replicate 32 (0:UInt8))).bind fun r=>some (some (r,false,false,(0:Int),(0:Int),(0:Int),()),(0:Int)):=by kernel_rfl
theorem siB_t(n:Int):siBQ (n,())=(bif decide (1<=n)then some (decide (n<=1024))else some false).bind fun x=>some x:=by kernel_rfl
theorem stA_t(KI KL)(d)(s r:Int):stAQ KI KL (some d,s,r,())=((KI (s,())).bind fun a=>bif !a then some true else(KI (r,())).bind fun b=>bif !b then some true else(KL (d,())).bind fun c=>some (neI c (mulI s (addI r 1)))).bind fun x=>bif x then some (none,(1:Int))else none:=by kernel_rfl
theorem dsA_t(s r:Int):dsAQ (s,r,())=(bif decide (s<1)then some true else bif decide (1024<s)then some true else bif decide (r<1)then some true else some (decide (1024<r))).bind fun x=>bif x then some (none,(1:Int))else none:=by kernel_rfl
theorem siB_no{n:Int}(h:1024<n):siBQ (n,())=some false:=by
 rw[siB_t,decide_eq_true (show 1<=n by omega),cond_true,decide_eq_false (show¬n<=1024 by omega)];rfl
theorem siB_any(n:Int): ∃b,siBQ (n,())=some b:=by
 rw[siB_t]
 cases decide (1<=n)<;>exact⟨_,rfl⟩
theorem dk_big{n:Int}(h:4096<n):dkBQ (n,())=some (none,(1:Int)):=by
 rw[dkB_t,decide_eq_false (show¬n<1 by omega),cond_false,decide_eq_true h];rfl
theorem dk_some{n:Int}(h:1<=n)(h':n<=4096): ∃d,dkBQ (n,())=some (some d,(0:Int)):=by
 rw[dkB_t,decide_eq_false (show¬n<1 by omega),cond_false,decide_eq_false (show¬4096<n by omega),Option.bind_some,cond_false]
 obtain⟨k,rfl⟩: ∃k:Nat,n=(k:Int):=⟨n.toNat,by omega⟩
 rw[Mx.zeros_ok (by omega)]
 exact⟨_,rfl⟩
theorem bad4{s r:Int}(c:s<1∨r<1∨4096<s∨4096<r):(bif decide (s<1)then some true else bif decide (r<1)then some true else bif decide (4096<s)then some true else some (decide (4096<r)))=some true:=by
 by_cases c1:s<1
 ·rw[decide_eq_true c1,cond_true]
 rw[decide_eq_false c1,cond_false]
 by_cases c2:r<1
 ·rw[decide_eq_true c2,cond_true]
 rw[decide_eq_false c2,cond_false]
 by_cases c3:4096<s
 ·rw[decide_eq_true c3,cond_true]
 rw[decide_eq_false c3,cond_false,decide_eq_true (by omega)]
theorem good4{s r:Int}(c: ¬(s<1∨r<1∨4096<s∨4096<r)):(bif decide (s<1)then some true else bif decide (r<1)then some true else bif decide (4096<s)then some true else some (decide (4096<r)))=some false:=by
 rw[decide_eq_false (by omega),cond_false,decide_eq_false (by omega),cond_false,decide_eq_false (by omega),cond_false,decide_eq_false (by omega)]
theorem badB_iff{s r:Int}(h:(badB s||badB r)=true):s<1∨1024<s∨r<1∨1024<r:=by
 unfold badB at h
 simp only[Bool.or_eq_true,decide_eq_true_eq]at h
 omega
theorem sr_bad{s r:Int}(h:(badB s||badB r)=true):srAQ (s,r,())=some (none,(1:Int))∨srBQ dkBQ (stAQ siBQ s132.run) (s,r,())=some (none,(1:Int)):=by
 have h:=badB_iff h
 by_cases c:s<1∨r<1∨4096<s∨4096<r
 ·left
  rw[srA_t,bad4 c];rfl
 ·right
  have h1:(1:Int)*2<=s*(r+1):=Int.mul_le_mul (by omega) (by omega) (by omega) (by omega)
  have h2:s*(r+1)<=4096*4097:=Int.mul_le_mul (by omega) (by omega) (by omega) (by omega)
  rw[srB_t,good4 c,Option.bind_some,cond_false,Mx.addI_ok (by omega) (by omega),Mx.mulI_ok (by omega) (by omega)]
  by_cases c2:4096<s*(r+1)
  ·rw[dk_big c2];rfl
  ·obtain⟨d,e⟩:=dk_some (n:=s*(r+1)) (by omega) (by omega)
   rw[e]
   refine Eq.trans (b:=(stAQ siBQ s132.run (some d,s,r,())).bind fun w=>bif neI w.2 0 then some (none,w.2)else(s108.run ()).bind fun l=>some (some (s,r,some d,w.1,l,false,()),(0:Int))) rfl ?_
   have e2:stAQ siBQ s132.run (some d,s,r,())=some (none,(1:Int)):=by
    refine(stA_t siBQ s132.run d s r).trans ?_
    by_cases c3:1024<s
    ·rw[siB_no c3];rfl
    ·obtain⟨b,eb⟩:=siB_any s
     rw[eb,siB_no (show 1024<r by omega)]
     cases b<;>rfl
   refine(congrArg (fun o=>Option.bind o _) e2).trans ?_
   rfl
theorem okB_nat{v:Int}(h:okB v=true): ∃k:Nat,v=(k:Int)∧k<13∧k≠0:=by
 unfold okB at h
 simp only[Bool.and_eq_true,decide_eq_true_eq]at h
 exact⟨v.toNat,by omega,by omega,by omega⟩
theorem badB_ok{v:Int}(h:okB v=true):badB v=false:=by
 obtain⟨k,rfl,h1,h2⟩:=okB_nat h
 unfold badB
 rw[decide_eq_false (by omega),decide_eq_false (by omega)];rfl
end Sx
end
