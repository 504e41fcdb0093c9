/- The functions that make digests, their contracts over quick digests; literal values of the chapter's example. No conditions. -/
import Derived.Test.YtpdabjlnbldpfaaGreatDoorH
import Derived.Test.YtpdabjlnbldpfaaGreatDoorK
set_option linter.unusedVariables false
set_option linter.unusedSimpArgs false
set_option linter.unusedSectionVars false
set_option maxRecDepth 100000
section
open Go Go.Proofs Ev
namespace Sx
theorem FnOk.sub{P:Program}{f:FuncId}{ps:List PK}{rs:List RK}{run run':InT ps->Option (OutT rs (ioTy ps))}(h:FnOk P f ⟨ps,rs,run⟩)(hr: ∀x r,run' x=some r->run x=some r):FnOk P f ⟨ps,rs,run'⟩:=⟨h.1,fun w M x vs a b c d e r q=>h.2 w M x vs a b c d e r (hr x r q)⟩
theorem FnOk.tt{P:Program}{f:FuncId}{run:Unit->Option Bool}(h:FnOk P f ⟨[],[.v .bool],run⟩)(e:run ()=some true):FnOk P f ⟨[],[.v .bool],fun _=>some true⟩:=FnOk.sub h fun x r q=>by cases x;exact e.trans q
noncomputable def sx125:Ev.Spec:=⟨P125,R125,fun x=>cond (decide ((x.1:List UInt8).length<100000)) (some (Mx.sumN x.1)) none⟩
theorem kx125:FnOk Tryz.prog 110 sx125:=FnOk.sub (run:=s125.run) k125 fun x r h=>by
 obtain⟨hc,h⟩:=cond_some h
 simp only[decide_eq_true_eq]at hc
 rw[←Mx.sum_n]at h
 refine Eq.trans ?_ h
 have e:=Mx.p125 x.1 (by omega)
 unfold Mx.f125 r125 at e
 exact e
noncomputable def sx90:Ev.Spec:=⟨P90,R90,fun x=>cond (decide ((x.1:List UInt8).length<100000)&&(x.2.1:List (List UInt8)).all (fun b=>decide (b.length<100000))&&decide ((x.2.1:List (List UInt8)).length<=1000)) (some (Mx.sumN (Mx.text x.1 x.2.1))) none⟩
theorem kx90:FnOk Tryz.prog 77 sx90:=FnOk.sub (run:=s90.run) k90 fun x r h=>by
 obtain⟨hc,h⟩:=cond_some h
 simp only[Bool.and_eq_true,decide_eq_true_eq,List.all_eq_true]at hc
 rw[←Mx.sum_n]at h
 refine Eq.trans ?_ h
 have e:=Mx.p90 x.1 x.2.1 ⟨hc.1.2,hc.2⟩ hc.1.1
 unfold Mx.f90 r90 Mx.tagged at e
 exact e
theorem st23(x0:Vector UInt8 16)(x2:List UInt8)(h2:x2.length<=1000):s23.run (x0,(0:Int),x2,())=some (Mx.stream x0 x2):=by
 have e:=Mx.p23 x0 x2 (by omega)
 unfold Mx.f23 r23 at e
 exact e
noncomputable def cx129:Ctx:=mkC tys cells maps [(110,sx125),(223,s130)] [] []
noncomputable def sx129:Ev.Spec:=mkS cx129 Tryz.f185 h129 P129 R129
theorem kx129:FnOk Tryz.prog 185 sx129:=fn_okS (C:=cx129) (hs:=h129) (ps:=P129) (rs:=R129) (specs:=[(110,sx125),(223,s130)]) (dyns:=[]) (codes:=[]) rfl hm hT ⟨kx125,k130,trivial⟩ trivial (by kernel_rfl) Tryz.func185 (by kernel_rfl)
noncomputable def cx96:Ctx:=mkC tys cells maps [(77,sx90),(184,s128),(185,sx129)] [] []
noncomputable def sx96:Ev.Spec:=mkS cx96 Tryz.f133 h96 P96 R96
theorem kx96:FnOk Tryz.prog 133 sx96:=fn_okS (C:=cx96) (hs:=h96) (ps:=P96) (rs:=R96) (specs:=[(77,sx90),(184,s128),(185,sx129)]) (dyns:=[]) (codes:=[]) rfl hm hT ⟨kx90,k128,kx129,trivial⟩ trivial (by kernel_rfl) Tryz.func133 (by kernel_rfl)
noncomputable def cx87:Ctx:=mkC tys cells maps [(133,sx96)] [] []
noncomputable def sx87:Ev.Spec:=mkS cx87 Tryz.f92 h87 P87 R87
theorem kx87:FnOk Tryz.prog 92 sx87:=fn_okS (C:=cx87) (hs:=h87) (ps:=P87) (rs:=R87) (specs:=[(133,sx96)]) (dyns:=[]) (codes:=[]) rfl hm hT ⟨kx96,trivial⟩ trivial (by kernel_rfl) Tryz.func92 (by kernel_rfl)
noncomputable def cx56:Ctx:=mkC tys cells maps [(77,sx90)] [] []
noncomputable def sx56:Ev.Spec:=mkS cx56 Tryz.f94 h56 P56 R56
theorem kx56:FnOk Tryz.prog 94 sx56:=fn_okS (C:=cx56) (hs:=h56) (ps:=P56) (rs:=R56) (specs:=[(77,sx90)]) (dyns:=[]) (codes:=[]) rfl hm hT ⟨kx90,trivial⟩ trivial (by kernel_rfl) Tryz.func94 (by kernel_rfl)
noncomputable def cx85:Ctx:=mkC tys cells maps [(94,sx56),(92,sx87)] [] []
noncomputable def sx85:Ev.Spec:=mkS cx85 Tryz.f90 h85 P85 R85
theorem kx85:FnOk Tryz.prog 90 sx85:=fn_okS (C:=cx85) (hs:=h85) (ps:=P85) (rs:=R85) (specs:=[(94,sx56),(92,sx87)]) (dyns:=[]) (codes:=[]) rfl hm hT ⟨kx56,kx87,trivial⟩ trivial (by kernel_rfl) Tryz.func90 (by kernel_rfl)
noncomputable def cx86:Ctx:=mkC tys cells maps [(133,sx96)] [] []
noncomputable def sx86:Ev.Spec:=mkS cx86 Tryz.f91 h86 P86 R86
theorem kx86:FnOk Tryz.prog 91 sx86:=fn_okS (C:=cx86) (hs:=h86) (ps:=P86) (rs:=R86) (specs:=[(133,sx96)]) (dyns:=[]) (codes:=[]) rfl hm hT ⟨kx96,trivial⟩ trivial (by kernel_rfl) Tryz.func91 (by kernel_rfl)
noncomputable def cx46:Ctx:=mkC tys cells maps [(88,s55),(82,s83),(89,s84),(90,sx85),(91,sx86),(92,sx87)] [136] []
noncomputable def sx46:Ev.Spec:=⟨P46,R46,fun x=>orAll ((h46 x).map fun h=>evF cx46 Tryz.f64 h P46 R46 x)⟩
theorem kx46:FnOk Tryz.prog 64 sx46:=fn_ok hm hT (specs:=[(88,s55),(82,s83),(89,s84),(90,sx85),(91,sx86),(92,sx87)]) (dyns:=[136]) (codes:=[]) ⟨k55,k83,k84,kx85,kx86,kx87,trivial⟩ trivial (by kernel_rfl) Tryz.func64 (by kernel_rfl) (fun x r h=>by obtain⟨hs,_,e⟩:=List.mem_map.1 (orAll_mem h);exact⟨_,e⟩)
noncomputable def cx48:Ctx:=mkC tys cells maps [(88,s55),(94,sx56),(92,sx87)] [] []
noncomputable def sx48:Ev.Spec:=mkS cx48 Tryz.f66 h48 P48 R48
theorem kx48:FnOk Tryz.prog 66 sx48:=fn_okS (C:=cx48) (hs:=h48) (ps:=P48) (rs:=R48) (specs:=[(88,s55),(94,sx56),(92,sx87)]) (dyns:=[]) (codes:=[]) rfl hm hT ⟨k55,kx56,kx87,trivial⟩ trivial (by kernel_rfl) Tryz.func66 (by kernel_rfl)
noncomputable def cx49:Ctx:=mkC tys cells maps [(77,sx90)] [] []
noncomputable def sx49:Ev.Spec:=mkS cx49 Tryz.f67 h49 P49 R49
theorem kx49:FnOk Tryz.prog 67 sx49:=fn_okS (C:=cx49) (hs:=h49) (ps:=P49) (rs:=R49) (specs:=[(77,sx90)]) (dyns:=[]) (codes:=[]) rfl hm hT ⟨kx90,trivial⟩ trivial (by kernel_rfl) Tryz.func67 (by kernel_rfl)
noncomputable def cx176:Ctx:=mkC tys cells maps [(77,sx90)] [] []
noncomputable def sx176:Ev.Spec:=mkS cx176 Tryz.f52 h176 P176 R176
theorem kx176:FnOk Tryz.prog 52 sx176:=fn_okS (C:=cx176) (hs:=h176) (ps:=P176) (rs:=R176) (specs:=[(77,sx90)]) (dyns:=[]) (codes:=[]) rfl hm hT ⟨kx90,trivial⟩ trivial (by kernel_rfl) Tryz.func52 (by kernel_rfl)
noncomputable def cx139:Ctx:=mkC tys cells maps [(52,sx176)] [] []
noncomputable def sx139:Ev.Spec:=mkS cx139 Tryz.f97 h139 P139 R139
theorem kx139:FnOk Tryz.prog 97 sx139:=fn_okS (C:=cx139) (hs:=h139) (ps:=P139) (rs:=R139) (specs:=[(52,sx176)]) (dyns:=[]) (codes:=[]) rfl hm hT ⟨kx176,trivial⟩ trivial (by kernel_rfl) Tryz.func97 (by kernel_rfl)
noncomputable def cx138:Ctx:=mkC tys cells maps [(95,s137),(97,sx139),(135,s175)] [] []
noncomputable def sx138:Ev.Spec:=mkS cx138 Tryz.f96 h138 P138 R138
theorem kx138:FnOk Tryz.prog 96 sx138:=fn_okS (C:=cx138) (hs:=h138) (ps:=P138) (rs:=R138) (specs:=[(95,s137),(97,sx139),(135,s175)]) (dyns:=[]) (codes:=[]) rfl hm hT ⟨k137,kx139,k175,trivial⟩ trivial (by kernel_rfl) Tryz.func96 (by kernel_rfl)
noncomputable def cx109:Ctx:=mkC tys cells maps [(55,s136),(95,s137),(96,sx138),(97,sx139)] [] []
noncomputable def sx109:Ev.Spec:=mkS cx109 Tryz.f69 h109 P109 R109
theorem kx109:FnOk Tryz.prog 69 sx109:=fn_okS (C:=cx109) (hs:=h109) (ps:=P109) (rs:=R109) (specs:=[(55,s136),(95,s137),(96,sx138),(97,sx139)]) (dyns:=[]) (codes:=[]) rfl hm hT ⟨k136,k137,kx138,kx139,trivial⟩ trivial (by kernel_rfl) Tryz.func69 (by kernel_rfl)
noncomputable def cx74:Ctx:=mkC tys cells maps [(69,sx109)] [] []
noncomputable def sx74:Ev.Spec:=mkS cx74 Tryz.f48 h74 P74 R74
theorem kx74:FnOk Tryz.prog 48 sx74:=fn_okS (C:=cx74) (hs:=h74) (ps:=P74) (rs:=R74) (specs:=[(69,sx109)]) (dyns:=[]) (codes:=[]) rfl hm hT ⟨kx109,trivial⟩ trivial (by kernel_rfl) Tryz.func48 (by kernel_rfl)
noncomputable def cx483:Ctx:=mkC tys cells maps [(53,s89),(77,sx90),(99,s424)] [227] [(136,Tryz.f136),(98,Tryz.f98),(137,Tryz.f137),(346,Tryz.f346),(344,Tryz.f344),(100,Tryz.f100),(345,Tryz.f345)] cxA
noncomputable def sx483:Ev.Spec:=mkS cx483 Tryz.f71 h483 P483 R483
theorem kx483:FnOk Tryz.prog 71 sx483:=fn_okSX (C:=cx483) (hs:=h483) (ps:=P483) (rs:=R483) (specs:=[(53,s89),(77,sx90),(99,s424)]) (dyns:=[227]) (codes:=[(136,Tryz.f136),(98,Tryz.f98),(137,Tryz.f137),(346,Tryz.f346),(344,Tryz.f344),(100,Tryz.f100),(345,Tryz.f345)]) (x:=cxA) rfl hm hT cxOk ⟨k89,kx90,k424,trivial⟩ ⟨Tryz.func136,Tryz.func98,Tryz.func137,Tryz.func346,Tryz.func344,Tryz.func100,Tryz.func345,trivial⟩ (by kernel_rfl) Tryz.func71 (by kernel_rfl)
noncomputable def cx466:Ctx:=mkC tys cells maps [(53,s89),(52,sx176)] [] []
noncomputable def sx466:Ev.Spec:=mkS cx466 Tryz.f101 h466 P466 R466
theorem kx466:FnOk Tryz.prog 101 sx466:=fn_okS (C:=cx466) (hs:=h466) (ps:=P466) (rs:=R466) (specs:=[(53,s89),(52,sx176)]) (dyns:=[]) (codes:=[]) rfl hm hT ⟨k89,kx176,trivial⟩ trivial (by kernel_rfl) Tryz.func101 (by kernel_rfl)
noncomputable def cx224:Ctx:=mkC tys cells maps [(185,sx129),(231,s244)] [] []
noncomputable def sx224:Ev.Spec:=mkS cx224 Tryz.f198 h224 P224 R224
theorem kx224:FnOk Tryz.prog 198 sx224:=fn_okS (C:=cx224) (hs:=h224) (ps:=P224) (rs:=R224) (specs:=[(185,sx129),(231,s244)]) (dyns:=[]) (codes:=[]) rfl hm hT ⟨kx129,k244,trivial⟩ trivial (by kernel_rfl) Tryz.func198 (by kernel_rfl)
noncomputable def cx203:Ctx:=mkC tys cells maps [(198,sx224)] [] []
noncomputable def sx203:Ev.Spec:=mkS cx203 Tryz.f148 h203 P203 R203
theorem kx203:FnOk Tryz.prog 148 sx203:=fn_okS (C:=cx203) (hs:=h203) (ps:=P203) (rs:=R203) (specs:=[(198,sx224)]) (dyns:=[]) (codes:=[]) rfl hm hT ⟨kx224,trivial⟩ trivial (by kernel_rfl) Tryz.func148 (by kernel_rfl)
noncomputable def cx184:Ctx:=mkC tys cells maps [(148,sx203)] [] []
noncomputable def sx184:Ev.Spec:=mkS cx184 Tryz.f109 h184 P184 R184
theorem kx184:FnOk Tryz.prog 109 sx184:=fn_okS (C:=cx184) (hs:=h184) (ps:=P184) (rs:=R184) (specs:=[(148,sx203)]) (dyns:=[]) (codes:=[]) rfl hm hT ⟨kx203,trivial⟩ trivial (by kernel_rfl) Tryz.func109 (by kernel_rfl)
noncomputable def cx146:Ctx:=mkC tys cells maps [(106,s20),(67,sx49),(90,sx85),(107,s182),(108,s183),(109,sx184)] [] []
noncomputable def sx146:Ev.Spec:=mkS cx146 Tryz.f75 h146 P146 R146
theorem kx146:FnOk Tryz.prog 75 sx146:=fn_okS (C:=cx146) (hs:=h146) (ps:=P146) (rs:=R146) (specs:=[(106,s20),(67,sx49),(90,sx85),(107,s182),(108,s183),(109,sx184)]) (dyns:=[]) (codes:=[]) rfl hm hT ⟨k20,kx49,kx85,k182,k183,kx184,trivial⟩ trivial (by kernel_rfl) Tryz.func75 (by kernel_rfl)
noncomputable def cx485:Ctx:=mkC tys cells maps [(53,s89),(52,sx176)] [] []
noncomputable def sx485:Ev.Spec:=mkS cx485 Tryz.f37 h485 P485 R485
theorem kx485:FnOk Tryz.prog 37 sx485:=fn_okS (C:=cx485) (hs:=h485) (ps:=P485) (rs:=R485) (specs:=[(53,s89),(52,sx176)]) (dyns:=[]) (codes:=[]) rfl hm hT ⟨k89,kx176,trivial⟩ trivial (by kernel_rfl) Tryz.func37 (by kernel_rfl)
end Sx
end
section
open Go Go.Proofs Ev
namespace Sx
theorem FnOk.lit{P:Program}{f:FuncId}{s:Ev.Spec}(h:FnOk P f s)(arg:InT s.params)(res:OutT s.results (ioTy s.params))(hv:s.run arg=some res)(g:InT s.params->Bool)(hg: ∀x,g x=true->x=arg):FnOk P f ⟨s.params,s.results,fun x=>cond (g x) (some res) none⟩:=⟨h.1,fun w M x vs a b c d e r q=>by
 obtain⟨hc,q⟩:=cond_some q
 exact h.2 w M x vs a b c d e r ((congrArg s.run (hg x hc)).trans (hv.trans q))⟩
noncomputable def dat:List UInt8:=List.replicate 39 0++[3]
noncomputable def wKey:Vector UInt8 16:=(vecOf 16 [204,56,186,32,130,77,38,56,251,207,246,135,204,248,231,132] 0)
noncomputable def wIdx:Vector UInt8 16:=(vecOf 16 [177,175,46,108,133,236,233,170,128,146,13,231,98,81,11,35] 0)
noncomputable def wSec:Vector UInt8 16:=(vecOf 16 [126,120,218,249,165,40,167,251,85,168,226,19,35,170,66,196] 0)
noncomputable def wCry:List UInt8:=[23,221,42,240,152,29,186,1,26,38,238,0,206,201,153,138,54,235,158,195,33,211,133,70,253,183,165,127,64,252,33,83,180,114,87,214,174,144,41,246]
noncomputable def wCap:Val (.pair .i64 (.pair (.arr 16 .u8) (.pair (.arr 32 .u8) (.pair .i64 (.pair .i64 (.pair .i64 (.pair (.sl .u8) .unit))))))):=((1:Int),((vecOf 16 [204,56,186,32,130,77,38,56,251,207,246,135,204,248,231,132] 0),((vecOf 32 [218,91,4,80,164,90,116,136,205,105,44,53,197,107,153,138,117,215,169,2,74,27,214,56,15,210,103,7,27,23,71,119] 0),((1:Int),((1:Int),((40:Int),([],())))))))
noncomputable def wSh:Val (.pair .i64 (.pair (.sl .u8) (.pair (.sl (.arr 32 .u8)) (.pair (.sl (.sl .u8)) .unit)))):=((0:Int),([49,58,1,44,49,58,1,44,52,58,0,0,0,40,44,52,58,0,0,0,64,44,51,50,58,86,15,175,147,171,5,101,222,105,133,57,91,56,52,29,50,243,125,165,13,5,167,188,48,251,146,94,185,105,225,211,69,44,51,50,58,86,15,175,147,171,5,101,222,105,133,57,91,56,52,29,50,243,125,165,13,5,167,188,48,251,146,94,185,105,225,211,69,44],([],([[23,221,42,240,152,29,186,1,26,38,238,0,206,201,153,138,54,235,158,195,33,211,133,70,253,183,165,127,64,252,33,83,180,114,87,214,174,144,41,246]],()))))
noncomputable def wShs:Val (.sl (.pair .i64 (.pair (.sl .u8) (.pair (.sl (.arr 32 .u8)) (.pair (.sl (.sl .u8)) .unit))))):=[wSh]
noncomputable def wUeb:Val (.pair .i64 (.pair .i64 (.pair .i64 (.pair .i64 (.pair (.arr 32 .u8) (.pair (.arr 32 .u8) .unit)))))):=((1:Int),((1:Int),((40:Int),((64:Int),((vecOf 32 [86,15,175,147,171,5,101,222,105,133,57,91,56,52,29,50,243,125,165,13,5,167,188,48,251,146,94,185,105,225,211,69] 0),((vecOf 32 [86,15,175,147,171,5,101,222,105,133,57,91,56,52,29,50,243,125,165,13,5,167,188,48,251,146,94,185,105,225,211,69] 0),()))))))
noncomputable def dsk0:Val (.pair (.sl (.arr 32 .u8)) (.pair .bool (.pair .bool (.pair .i64 (.pair .i64 (.pair .i64 .unit)))))):=(List.replicate 320 (Vector.replicate 32 (0:UInt8)),false,false,(0:Int),(0:Int),(0:Int),())
noncomputable def sto0:Val (.pair (.op (.pair (.sl (.arr 32 .u8)) (.pair .bool (.pair .bool (.pair .i64 (.pair .i64 (.pair .i64 .unit))))))) (.pair .i64 (.pair (.sl (.pair .bool (.pair .str (.pair .i64 (.pair (.sl .u8) .unit))))) (.pair .bool .unit)))):=(some dsk0,(4:Int),List.replicate 64 (false,([]:List UInt8),(0:Int),([]:List UInt8),()),false,())
end Sx
end
