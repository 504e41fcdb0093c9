/- A walk along a chain is a look into the table; functions over quick digests; literal values of the example. No conditions. -/
import Derived.Test.YtjaancbplomopaaGreatDoorQ
import Derived.Test.YtjaancbplomopaaGreatDoorQ1
import Derived.Test.YtjaancbplomopaaGreatDoorQ2
import Derived.Test.YtjaancbplomopaaGreatDoorQ3
set_option linter.unusedVariables false
set_option linter.unusedSimpArgs false
set_option linter.unusedSectionVars false
set_option maxRecDepth 100000
section
open Go Go.Proofs Ev
namespace Sx
theorem wQ_ok: ∀q∈wQ,quadB q=true:=by
 intro q hq
 unfold wQ at hq
 simp only[List.mem_append]at hq
 rcases hq with hq|hq|hq|hq
 ·exact List.all_eq_true.1 wQ0_ok q hq
 ·exact List.all_eq_true.1 wQ1_ok q hq
 ·exact List.all_eq_true.1 wQ2_ok q hq
 ·exact List.all_eq_true.1 wQ3_ok q hq
noncomputable def sx584:Ev.Spec:=⟨ga584.params,ga584.results,fun x=>(lookQ (Vector.toList (α:=UInt8) (n:=32) x.1) x.2.1 wQ).map fun l=>vecOf 32 l 0⟩
theorem kx584:FnOk Tryz.prog 222 sx584:=FnOk.sb kga584 _ fun x r h=>by
 obtain⟨v,n,x2⟩:=x
 cases x2
 obtain⟨l,h1,h2⟩:=Option.map_eq_some_iff.1 h
 obtain⟨m,e1,e2,e3⟩:=lookQ_ok wQ wQ_ok v n l h1
 have e:ga584.run (v,(m:Int),())=some (alN m v):=gaal v m e2
 have h2':vecOf 32 l 0=r:=h2
 have e1':n=(m:Int):=e1
 subst e1'
 subst h2'
 rw[←e3]
 exact e
noncomputable def sx667:Ev.Spec:=⟨ra667.params,ra667.results,fun x=>(lookQ (Vector.toList (α:=UInt8) (n:=32) x.1) x.2.1 wQ).map fun l=>vecOf 32 l 0⟩
theorem kx667:FnOk Tryz.prog 163 sx667:=FnOk.sb kra667 _ fun x r h=>by
 obtain⟨v,n,x2⟩:=x
 cases x2
 obtain⟨l,h1,h2⟩:=Option.map_eq_some_iff.1 h
 obtain⟨m,e1,e2,e3⟩:=lookQ_ok wQ wQ_ok v n l h1
 have e:ra667.run (v,(m:Int),())=some (alN m v):=raal v m e2
 have h2':vecOf 32 l 0=r:=h2
 have e1':n=(m:Int):=e1
 subst e1'
 subst h2'
 rw[←e3]
 exact e
end Sx
end
section
open Go Go.Proofs Ev
namespace Sx
noncomputable def cx129:Ctx:=mkC tys cells maps [(107,sx125),(279,s130)] [] []
noncomputable def sx129:Ev.Spec:=mkS cx129 Tryz.f213 h129 P129 R129
theorem kx129:FnOk Tryz.prog 213 sx129:=fn_okS (C:=cx129) (hs:=h129) (ps:=P129) (rs:=R129) (specs:=[(107,sx125),(279,s130)]) (dyns:=[]) (codes:=[]) rfl hm hT ⟨kx125,k130,trivial⟩ trivial (by kernel_rfl) Tryz.func213 (by kernel_rfl)
noncomputable def cx96:Ctx:=mkC tys cells maps [(76,sx90),(212,s128),(213,sx129)] [] []
noncomputable def sx96:Ev.Spec:=mkS cx96 Tryz.f150 h96 P96 R96
theorem kx96:FnOk Tryz.prog 150 sx96:=fn_okS (C:=cx96) (hs:=h96) (ps:=P96) (rs:=R96) (specs:=[(76,sx90),(212,s128),(213,sx129)]) (dyns:=[]) (codes:=[]) rfl hm hT ⟨kx90,k128,kx129,trivial⟩ trivial (by kernel_rfl) Tryz.func150 (by kernel_rfl)
noncomputable def cx87:Ctx:=mkC tys cells maps [(150,sx96)] [] []
noncomputable def sx87:Ev.Spec:=mkS cx87 Tryz.f93 h87 P87 R87
theorem kx87:FnOk Tryz.prog 93 sx87:=fn_okS (C:=cx87) (hs:=h87) (ps:=P87) (rs:=R87) (specs:=[(150,sx96)]) (dyns:=[]) (codes:=[]) rfl hm hT ⟨kx96,trivial⟩ trivial (by kernel_rfl) Tryz.func93 (by kernel_rfl)
noncomputable def cx585:Ctx:=mkC tys cells maps [(77,s89),(76,sx90)] [] []
noncomputable def sx585:Ev.Spec:=mkS cx585 Tryz.f223 h585 P585 R585
theorem kx585:FnOk Tryz.prog 223 sx585:=fn_okS (C:=cx585) (hs:=h585) (ps:=P585) (rs:=R585) (specs:=[(77,s89),(76,sx90)]) (dyns:=[]) (codes:=[]) rfl hm hT ⟨k89,kx90,trivial⟩ trivial (by kernel_rfl) Tryz.func223 (by kernel_rfl)
noncomputable def cx586:Ctx:=mkC tys cells maps [(76,sx90)] [] []
noncomputable def sx586:Ev.Spec:=mkS cx586 Tryz.f224 h586 P586 R586
theorem kx586:FnOk Tryz.prog 224 sx586:=fn_okS (C:=cx586) (hs:=h586) (ps:=P586) (rs:=R586) (specs:=[(76,sx90)]) (dyns:=[]) (codes:=[]) rfl hm hT ⟨kx90,trivial⟩ trivial (by kernel_rfl) Tryz.func224 (by kernel_rfl)
noncomputable def cx573:Ctx:=mkC tys cells maps [(222,sx584),(223,sx585),(224,sx586)] [] []
noncomputable def sx573:Ev.Spec:=mkS cx573 Tryz.f160 h573 P573 R573
theorem kx573:FnOk Tryz.prog 160 sx573:=fn_okS (C:=cx573) (hs:=h573) (ps:=P573) (rs:=R573) (specs:=[(222,sx584),(223,sx585),(224,sx586)]) (dyns:=[]) (codes:=[]) rfl hm hT ⟨kx584,kx585,kx586,trivial⟩ trivial (by kernel_rfl) Tryz.func160 (by kernel_rfl)
noncomputable def cx560:Ctx:=mkC tys cells maps [(106,s558),(160,sx573)] [] []
noncomputable def sx560:Ev.Spec:=mkS cx560 Tryz.f109 h560 P560 R560
theorem kx560:FnOk Tryz.prog 109 sx560:=fn_okS (C:=cx560) (hs:=h560) (ps:=P560) (rs:=R560) (specs:=[(106,s558),(160,sx573)]) (dyns:=[]) (codes:=[]) rfl hm hT ⟨k558,kx573,trivial⟩ trivial (by kernel_rfl) Tryz.func109 (by kernel_rfl)
noncomputable def cx543:Ctx:=mkC tys cells maps [(93,sx87),(107,sx125),(106,s558),(108,s559),(109,sx560)] [] []
noncomputable def sx543:Ev.Spec:=mkS cx543 Tryz.f51 h543 P543 R543
theorem kx543:FnOk Tryz.prog 51 sx543:=fn_okS (C:=cx543) (hs:=h543) (ps:=P543) (rs:=R543) (specs:=[(93,sx87),(107,sx125),(106,s558),(108,s559),(109,sx560)]) (dyns:=[]) (codes:=[]) rfl hm hT ⟨kx87,kx125,k558,k559,kx560,trivial⟩ trivial (by kernel_rfl) Tryz.func51 (by kernel_rfl)
noncomputable def cx446:Ctx:=mkC tys cells maps [(52,sx44)] [] []
noncomputable def sx446:Ev.Spec:=mkS cx446 Tryz.f21 h446 P446 R446
theorem kx446:FnOk Tryz.prog 21 sx446:=fn_okS (C:=cx446) (hs:=h446) (ps:=P446) (rs:=R446) (specs:=[(52,sx44)]) (dyns:=[]) (codes:=[]) rfl hm hT ⟨kx44,trivial⟩ trivial (by kernel_rfl) Tryz.func21 (by kernel_rfl)
noncomputable def cx539:Ctx:=mkC tys cells maps [(21,sx446)] [] []
noncomputable def sx539:Ev.Spec:=mkS cx539 Tryz.f6 h539 P539 R539
theorem kx539:FnOk Tryz.prog 6 sx539:=fn_okS (C:=cx539) (hs:=h539) (ps:=P539) (rs:=R539) (specs:=[(21,sx446)]) (dyns:=[]) (codes:=[]) rfl hm hT ⟨kx446,trivial⟩ trivial (by kernel_rfl) Tryz.func6 (by kernel_rfl)
noncomputable def cx66:Ctx:=mkC tys cells maps [(52,sx44),(112,s103)] [] []
noncomputable def sx66:Ev.Spec:=mkS cx66 Tryz.f57 h66 P66 R66
theorem kx66:FnOk Tryz.prog 57 sx66:=fn_okS (C:=cx66) (hs:=h66) (ps:=P66) (rs:=R66) (specs:=[(52,sx44),(112,s103)]) (dyns:=[]) (codes:=[]) rfl hm hT ⟨kx44,k103,trivial⟩ trivial (by kernel_rfl) Tryz.func57 (by kernel_rfl)
noncomputable def cx104:Ctx:=mkC tys cells maps [(162,s68),(22,sx82)] [] []
noncomputable def sx104:Ev.Spec:=mkS cx104 Tryz.f113 h104 P104 R104
theorem kx104:FnOk Tryz.prog 113 sx104:=fn_okS (C:=cx104) (hs:=h104) (ps:=P104) (rs:=R104) (specs:=[(162,s68),(22,sx82)]) (dyns:=[]) (codes:=[]) rfl hm hT ⟨k68,kx82,trivial⟩ trivial (by kernel_rfl) Tryz.func113 (by kernel_rfl)
noncomputable def cx67:Ctx:=mkC tys cells maps [(113,sx104)] [] []
noncomputable def sx67:Ev.Spec:=mkS cx67 Tryz.f58 h67 P67 R67
theorem kx67:FnOk Tryz.prog 58 sx67:=fn_okS (C:=cx67) (hs:=h67) (ps:=P67) (rs:=R67) (specs:=[(113,sx104)]) (dyns:=[]) (codes:=[]) rfl hm hT ⟨kx104,trivial⟩ trivial (by kernel_rfl) Tryz.func58 (by kernel_rfl)
noncomputable def cx38:Ctx:=mkC tys cells maps [(57,sx66),(58,sx67)] [] []
noncomputable def sx38:Ev.Spec:=mkS cx38 Tryz.f24 h38 P38 R38
theorem kx38:FnOk Tryz.prog 24 sx38:=fn_okS (C:=cx38) (hs:=h38) (ps:=P38) (rs:=R38) (specs:=[(57,sx66),(58,sx67)]) (dyns:=[]) (codes:=[]) rfl hm hT ⟨kx66,kx67,trivial⟩ trivial (by kernel_rfl) Tryz.func24 (by kernel_rfl)
noncomputable def cx668:Ctx:=mkC tys cells maps [(54,s42),(52,sx44)] [] []
noncomputable def sx668:Ev.Spec:=mkS cx668 Tryz.f164 h668 P668 R668
theorem kx668:FnOk Tryz.prog 164 sx668:=fn_okS (C:=cx668) (hs:=h668) (ps:=P668) (rs:=R668) (specs:=[(54,s42),(52,sx44)]) (dyns:=[]) (codes:=[]) rfl hm hT ⟨k42,kx44,trivial⟩ trivial (by kernel_rfl) Tryz.func164 (by kernel_rfl)
noncomputable def cx666:Ctx:=mkC tys cells maps [(163,sx667),(164,sx668)] [] []
noncomputable def sx666:Ev.Spec:=mkS cx666 Tryz.f115 h666 P666 R666
theorem kx666:FnOk Tryz.prog 115 sx666:=fn_okS (C:=cx666) (hs:=h666) (ps:=P666) (rs:=R666) (specs:=[(163,sx667),(164,sx668)]) (dyns:=[]) (codes:=[]) rfl hm hT ⟨kx667,kx668,trivial⟩ trivial (by kernel_rfl) Tryz.func115 (by kernel_rfl)
noncomputable def cx664:Ctx:=mkC tys cells maps [(22,sx82),(114,s665),(115,sx666)] [] []
noncomputable def sx664:Ev.Spec:=mkS cx664 Tryz.f59 h664 P664 R664
theorem kx664:FnOk Tryz.prog 59 sx664:=fn_okS (C:=cx664) (hs:=h664) (ps:=P664) (rs:=R664) (specs:=[(22,sx82),(114,s665),(115,sx666)]) (dyns:=[]) (codes:=[]) rfl hm hT ⟨kx82,k665,kx666,trivial⟩ trivial (by kernel_rfl) Tryz.func59 (by kernel_rfl)
noncomputable def cx663:Ctx:=mkC tys cells maps [(59,sx664)] [] []
noncomputable def sx663:Ev.Spec:=mkS cx663 Tryz.f25 h663 P663 R663
theorem kx663:FnOk Tryz.prog 25 sx663:=fn_okS (C:=cx663) (hs:=h663) (ps:=P663) (rs:=R663) (specs:=[(59,sx664)]) (dyns:=[]) (codes:=[]) rfl hm hT ⟨kx664,trivial⟩ trivial (by kernel_rfl) Tryz.func25 (by kernel_rfl)
noncomputable def cx660:Ctx:=mkC tys cells maps [(24,sx38),(22,sx82),(23,s662),(25,sx663)] [] []
noncomputable def sx660:Ev.Spec:=mkS cx660 Tryz.f7 h660 P660 R660
theorem kx660:FnOk Tryz.prog 7 sx660:=fn_okS (C:=cx660) (hs:=h660) (ps:=P660) (rs:=R660) (specs:=[(24,sx38),(22,sx82),(23,s662),(25,sx663)]) (dyns:=[]) (codes:=[]) rfl hm hT ⟨kx38,kx82,k662,kx663,trivial⟩ trivial (by kernel_rfl) Tryz.func7 (by kernel_rfl)
noncomputable def cx176:Ctx:=mkC tys cells maps [(76,sx90)] [] []
noncomputable def sx176:Ev.Spec:=mkS cx176 Tryz.f132 h176 P176 R176
theorem kx176:FnOk Tryz.prog 132 sx176:=fn_okS (C:=cx176) (hs:=h176) (ps:=P176) (rs:=R176) (specs:=[(76,sx90)]) (dyns:=[]) (codes:=[]) rfl hm hT ⟨kx90,trivial⟩ trivial (by kernel_rfl) Tryz.func132 (by kernel_rfl)
noncomputable def cx139:Ctx:=mkC tys cells maps [(132,sx176)] [] []
noncomputable def sx139:Ev.Spec:=mkS cx139 Tryz.f130 h139 P139 R139
theorem kx139:FnOk Tryz.prog 130 sx139:=fn_okS (C:=cx139) (hs:=h139) (ps:=P139) (rs:=R139) (specs:=[(132,sx176)]) (dyns:=[]) (codes:=[]) rfl hm hT ⟨kx176,trivial⟩ trivial (by kernel_rfl) Tryz.func130 (by kernel_rfl)
noncomputable def cx138:Ctx:=mkC tys cells maps [(29,s137),(130,sx139),(38,s175)] [] []
noncomputable def sx138:Ev.Spec:=mkS cx138 Tryz.f72 h138 P138 R138
theorem kx138:FnOk Tryz.prog 72 sx138:=fn_okS (C:=cx138) (hs:=h138) (ps:=P138) (rs:=R138) (specs:=[(29,s137),(130,sx139),(38,s175)]) (dyns:=[]) (codes:=[]) rfl hm hT ⟨k137,kx139,k175,trivial⟩ trivial (by kernel_rfl) Tryz.func72 (by kernel_rfl)
noncomputable def cx109:Ctx:=mkC tys cells maps [(63,s136),(29,s137),(72,sx138),(130,sx139)] [] []
noncomputable def sx109:Ev.Spec:=mkS cx109 Tryz.f74 h109 P109 R109
theorem kx109:FnOk Tryz.prog 74 sx109:=fn_okS (C:=cx109) (hs:=h109) (ps:=P109) (rs:=R109) (specs:=[(63,s136),(29,s137),(72,sx138),(130,sx139)]) (dyns:=[]) (codes:=[]) rfl hm hT ⟨k136,k137,kx138,kx139,trivial⟩ trivial (by kernel_rfl) Tryz.func74 (by kernel_rfl)
noncomputable def cx74:Ctx:=mkC tys cells maps [(74,sx109)] [] []
noncomputable def sx74:Ev.Spec:=mkS cx74 Tryz.f34 h74 P74 R74
theorem kx74:FnOk Tryz.prog 34 sx74:=fn_okS (C:=cx74) (hs:=h74) (ps:=P74) (rs:=R74) (specs:=[(74,sx109)]) (dyns:=[]) (codes:=[]) rfl hm hT ⟨kx109,trivial⟩ trivial (by kernel_rfl) Tryz.func34 (by kernel_rfl)
noncomputable def cx483:Ctx:=mkC tys cells maps [(77,s89),(76,sx90),(78,s424)] [157] [(133,Tryz.f133),(75,Tryz.f75),(135,Tryz.f135),(351,Tryz.f351),(349,Tryz.f349),(79,Tryz.f79),(350,Tryz.f350)] cxA
noncomputable def sx483:Ev.Spec:=mkS cx483 Tryz.f36 h483 P483 R483
theorem kx483:FnOk Tryz.prog 36 sx483:=fn_okSX (C:=cx483) (hs:=h483) (ps:=P483) (rs:=R483) (specs:=[(77,s89),(76,sx90),(78,s424)]) (dyns:=[157]) (codes:=[(133,Tryz.f133),(75,Tryz.f75),(135,Tryz.f135),(351,Tryz.f351),(349,Tryz.f349),(79,Tryz.f79),(350,Tryz.f350)]) (x:=cxA) rfl hm hT cxOk ⟨k89,kx90,k424,trivial⟩ ⟨Tryz.func133,Tryz.func75,Tryz.func135,Tryz.func351,Tryz.func349,Tryz.func79,Tryz.func350,trivial⟩ (by kernel_rfl) Tryz.func36 (by kernel_rfl)
noncomputable def cx56:Ctx:=mkC tys cells maps [(76,sx90)] [] []
noncomputable def sx56:Ev.Spec:=mkS cx56 Tryz.f92 h56 P56 R56
theorem kx56:FnOk Tryz.prog 92 sx56:=fn_okS (C:=cx56) (hs:=h56) (ps:=P56) (rs:=R56) (specs:=[(76,sx90)]) (dyns:=[]) (codes:=[]) rfl hm hT ⟨kx90,trivial⟩ trivial (by kernel_rfl) Tryz.func92 (by kernel_rfl)
noncomputable def cx224:Ctx:=mkC tys cells maps [(213,sx129),(312,s244)] [] []
noncomputable def sx224:Ev.Spec:=mkS cx224 Tryz.f299 h224 P224 R224
theorem kx224:FnOk Tryz.prog 299 sx224:=fn_okS (C:=cx224) (hs:=h224) (ps:=P224) (rs:=R224) (specs:=[(213,sx129),(312,s244)]) (dyns:=[]) (codes:=[]) rfl hm hT ⟨kx129,k244,trivial⟩ trivial (by kernel_rfl) Tryz.func299 (by kernel_rfl)
noncomputable def cx203:Ctx:=mkC tys cells maps [(299,sx224)] [] []
noncomputable def sx203:Ev.Spec:=mkS cx203 Tryz.f286 h203 P203 R203
theorem kx203:FnOk Tryz.prog 286 sx203:=fn_okS (C:=cx203) (hs:=h203) (ps:=P203) (rs:=R203) (specs:=[(299,sx224)]) (dyns:=[]) (codes:=[]) rfl hm hT ⟨kx224,trivial⟩ trivial (by kernel_rfl) Tryz.func286 (by kernel_rfl)
noncomputable def cx600:Ctx:=mkC tys cells maps [(76,sx90)] [] []
noncomputable def sx600:Ev.Spec:=mkS cx600 Tryz.f280 h600 P600 R600
theorem kx600:FnOk Tryz.prog 280 sx600:=fn_okS (C:=cx600) (hs:=h600) (ps:=P600) (rs:=R600) (specs:=[(76,sx90)]) (dyns:=[]) (codes:=[]) rfl hm hT ⟨kx90,trivial⟩ trivial (by kernel_rfl) Tryz.func280 (by kernel_rfl)
noncomputable def cx607:Ctx:=mkC tys cells maps [(222,sx584),(280,sx600)] [] []
noncomputable def sx607:Ev.Spec:=mkS cx607 Tryz.f311 h607 P607 R607
theorem kx607:FnOk Tryz.prog 311 sx607:=fn_okS (C:=cx607) (hs:=h607) (ps:=P607) (rs:=R607) (specs:=[(222,sx584),(280,sx600)]) (dyns:=[]) (codes:=[]) rfl hm hT ⟨kx584,kx600,trivial⟩ trivial (by kernel_rfl) Tryz.func311 (by kernel_rfl)
noncomputable def cx184:Ctx:=mkC tys cells maps [(286,sx203)] [] []
noncomputable def sx184:Ev.Spec:=mkS cx184 Tryz.f230 h184 P184 R184
theorem kx184:FnOk Tryz.prog 230 sx184:=fn_okS (C:=cx184) (hs:=h184) (ps:=P184) (rs:=R184) (specs:=[(286,sx203)]) (dyns:=[]) (codes:=[]) rfl hm hT ⟨kx203,trivial⟩ trivial (by kernel_rfl) Tryz.func230 (by kernel_rfl)
noncomputable def cx86:Ctx:=mkC tys cells maps [(150,sx96)] [] []
noncomputable def sx86:Ev.Spec:=mkS cx86 Tryz.f95 h86 P86 R86
theorem kx86:FnOk Tryz.prog 95 sx86:=fn_okS (C:=cx86) (hs:=h86) (ps:=P86) (rs:=R86) (specs:=[(150,sx96)]) (dyns:=[]) (codes:=[]) rfl hm hT ⟨kx96,trivial⟩ trivial (by kernel_rfl) Tryz.func95 (by kernel_rfl)
noncomputable def cx596:Ctx:=mkC tys cells maps [(222,sx584),(223,sx585),(280,sx600)] [] []
noncomputable def sx596:Ev.Spec:=mkS cx596 Tryz.f217 h596 P596 R596
theorem kx596:FnOk Tryz.prog 217 sx596:=fn_okS (C:=cx596) (hs:=h596) (ps:=P596) (rs:=R596) (specs:=[(222,sx584),(223,sx585),(280,sx600)]) (dyns:=[]) (codes:=[]) rfl hm hT ⟨kx584,kx585,kx600,trivial⟩ trivial (by kernel_rfl) Tryz.func217 (by kernel_rfl)
noncomputable def cx589:Ctx:=mkC tys cells maps [(95,sx86),(106,s558),(109,sx560),(217,sx596)] [] []
noncomputable def sx589:Ev.Spec:=mkS cx589 Tryz.f152 h589 P589 R589
theorem kx589:FnOk Tryz.prog 152 sx589:=fn_okS (C:=cx589) (hs:=h589) (ps:=P589) (rs:=R589) (specs:=[(95,sx86),(106,s558),(109,sx560),(217,sx596)]) (dyns:=[]) (codes:=[]) rfl hm hT ⟨kx86,k558,kx560,kx596,trivial⟩ trivial (by kernel_rfl) Tryz.func152 (by kernel_rfl)
noncomputable def cx580:Ctx:=mkC tys cells maps [(77,s89),(38,s175),(132,sx176)] [] []
noncomputable def sx580:Ev.Spec:=mkS cx580 Tryz.f97 h580 P580 R580
theorem kx580:FnOk Tryz.prog 97 sx580:=fn_okS (C:=cx580) (hs:=h580) (ps:=P580) (rs:=R580) (specs:=[(77,s89),(38,s175),(132,sx176)]) (dyns:=[]) (codes:=[]) rfl hm hT ⟨k89,k175,kx176,trivial⟩ trivial (by kernel_rfl) Tryz.func97 (by kernel_rfl)
noncomputable def cx466:Ctx:=mkC tys cells maps [(77,s89),(132,sx176)] [] []
noncomputable def sx466:Ev.Spec:=mkS cx466 Tryz.f98 h466 P466 R466
theorem kx466:FnOk Tryz.prog 98 sx466:=fn_okS (C:=cx466) (hs:=h466) (ps:=P466) (rs:=R466) (specs:=[(77,s89),(132,sx176)]) (dyns:=[]) (codes:=[]) rfl hm hT ⟨k89,kx176,trivial⟩ trivial (by kernel_rfl) Tryz.func98 (by kernel_rfl)
noncomputable def cx581:Ctx:=mkC tys cells maps [(107,sx125)] [] []
noncomputable def sx581:Ev.Spec:=mkS cx581 Tryz.f99 h581 P581 R581
theorem kx581:FnOk Tryz.prog 99 sx581:=fn_okS (C:=cx581) (hs:=h581) (ps:=P581) (rs:=R581) (specs:=[(107,sx125)]) (dyns:=[]) (codes:=[]) rfl hm hT ⟨kx125,trivial⟩ trivial (by kernel_rfl) Tryz.func99 (by kernel_rfl)
noncomputable def cx218:Ctx:=mkC tys cells maps [(107,sx125),(294,s237)] [] []
noncomputable def sx218:Ev.Spec:=mkS cx218 Tryz.f267 h218 P218 R218
theorem kx218:FnOk Tryz.prog 267 sx218:=fn_okS (C:=cx218) (hs:=h218) (ps:=P218) (rs:=R218) (specs:=[(107,sx125),(294,s237)]) (dyns:=[]) (codes:=[]) rfl hm hT ⟨kx125,k237,trivial⟩ trivial (by kernel_rfl) Tryz.func267 (by kernel_rfl)
end Sx
end
section
open Go Go.Proofs Ev
namespace Sx
noncomputable def wFp:Vector UInt8 32:=(vecOf 32 [72,167,184,67,103,105,255,7,34,26,65,210,5,174,21,143,65,102,221,154,82,214,44,138,199,155,30,119,137,91,33,6] 0)
noncomputable def wIdx:Vector UInt8 16:=(vecOf 16 [97,149,56,120,82,138,10,181,131,99,213,252,124,179,80,128] 0)
noncomputable def wDk:Vector UInt8 16:=(vecOf 16 [74,11,119,203,166,180,181,104,156,108,79,113,44,212,24,123] 0)
noncomputable def wRk:Vector UInt8 16:=(vecOf 16 [167,155,214,214,152,12,226,144,107,192,8,74,93,0,100,74] 0)
noncomputable def wSec:Vector UInt8 16:=(vecOf 16 [32,46,184,33,135,206,74,22,5,36,97,129,180,253,246,143] 0)
noncomputable def wEnb:Vector UInt8 16:=(vecOf 16 [176,221,202,154,182,136,13,245,107,186,102,114,60,104,87,207] 0)
noncomputable def wCry:List UInt8:=[229,251]
noncomputable def wRoot:Vector UInt8 32:=(vecOf 32 [90,25,61,139,105,241,47,237,189,175,30,204,213,247,236,41,226,135,165,80,212,98,168,133,230,49,51,120,220,12,173,239] 0)
noncomputable def wVerB:List UInt8:=[52,58,0,0,0,1,44,49,58,1,44,49,58,1,44,52,58,0,0,0,2,44,49,54,58,0,0,0,0,0,0,0,0,0,0,0,0,0,0,0,0,44,51,50,58,90,25,61,139,105,241,47,237,189,175,30,204,213,247,236,41,226,135,165,80,212,98,168,133,230,49,51,120,220,12,173,239,44]
noncomputable def wPcB:List UInt8:=[49,58,0,44,55,56,58,52,58,0,0,0,1,44,49,58,1,44,49,58,1,44,52,58,0,0,0,2,44,49,54,58,0,0,0,0,0,0,0,0,0,0,0,0,0,0,0,0,44,51,50,58,90,25,61,139,105,241,47,237,189,175,30,204,213,247,236,41,226,135,165,80,212,98,168,133,230,49,51,120,220,12,173,239,44,44,50,49,52,55,58,0,0,0,74,11,247,36,8,179,128,198,0,141,87,21,242,118,102,98,1,253,55,222,214,115,171,185,109,139,21,188,237,58,81,17,152,80,135,229,248,46,85,66,79,252,121,89,2,210,114,132,191,255,82,122,164,102,44,152,149,171,61,253,113,2,124,87,41,168,123,23,118,81,105,26,95,136,0,71,92,15,134,143,165,228,94,140,168,124,29,205,6,112,197,161,187,31,211,180,3,107,24,141,99,180,71,129,153,164,163,87,190,193,201,142,156,48,186,93,238,135,60,111,200,223,234,213,175,128,254,130,60,81,64,15,90,233,132,65,147,138,118,124,183,214,227,127,172,222,230,94,197,13,172,102,41,211,160,126,43,213,71,179,87,2,53,101,64,198,39,63,53,35,160,30,2,213,35,17,176,84,131,242,167,235,149,81,141,129,95,17,90,58,66,2,120,63,128,191,92,79,3,249,110,120,253,83,22,110,25,52,214,152,146,29,150,123,231,45,163,165,170,211,79,209,130,175,119,66,223,134,36,186,242,110,12,59,241,250,118,46,75,89,228,205,103,245,23,178,93,4,75,198,188,251,182,43,60,113,126,28,31,186,226,122,123,74,30,227,135,161,78,160,151,145,171,228,132,58,249,134,91,17,232,202,159,146,182,75,133,251,237,163,183,135,139,0,116,156,198,193,67,226,34,80,199,153,149,152,200,228,147,25,2,88,249,77,28,84,234,79,224,111,187,127,231,40,128,160,40,243,48,158,219,155,231,87,16,13,79,95,11,95,247,32,49,25,86,225,211,72,105,79,184,162,87,161,59,199,198,167,33,174,66,221,238,65,211,110,245,245,58,116,17,73,150,219,111,110,153,118,149,37,131,145,244,36,10,7,227,130,135,56,168,38,32,234,110,187,127,9,90,88,142,237,61,135,58,71,244,8,53,119,125,194,183,231,127,255,222,31,31,173,206,52,115,53,167,189,31,247,202,146,220,226,242,227,27,123,10,68,26,76,128,182,218,93,133,57,250,32,108,145,65,149,30,71,57,208,71,46,46,166,172,221,45,50,210,226,51,47,180,120,42,213,232,5,29,129,90,54,17,45,35,2,109,240,229,216,77,218,168,111,132,127,241,221,3,228,223,29,29,185,127,127,37,209,60,167,31,139,255,39,78,81,173,195,159,164,0,53,200,34,209,175,28,71,50,30,152,44,100,25,48,213,84,174,80,237,66,16,205,48,171,88,36,203,152,28,72,155,10,240,207,9,86,0,187,11,92,26,229,172,11,89,177,204,128,83,120,166,223,171,171,85,157,33,115,88,159,94,169,97,75,229,211,26,227,179,219,152,206,133,82,65,117,36,105,20,15,82,34,201,241,175,15,6,233,5,74,167,74,40,252,29,146,156,139,156,168,119,70,240,123,118,225,202,83,220,7,74,230,28,36,35,98,205,231,32,147,106,234,158,13,21,65,222,51,134,73,231,156,33,0,225,10,106,28,20,123,163,160,130,161,37,163,95,211,232,112,156,136,244,74,67,14,134,231,231,223,3,68,158,182,214,193,204,93,115,28,226,245,146,24,130,238,125,245,62,83,47,122,146,52,131,255,92,24,238,127,35,223,119,216,169,80,114,247,61,8,49,120,231,252,7,161,164,194,181,24,53,240,40,29,204,231,63,222,232,52,78,128,70,200,15,255,151,145,171,214,21,213,80,215,188,80,2,68,0,215,43,61,132,7,238,240,240,4,62,53,47,53,241,236,29,214,114,136,15,79,95,244,53,22,7,18,104,7,214,9,153,131,34,123,175,151,26,107,183,51,112,59,249,246,253,191,214,253,113,8,236,169,77,201,206,120,157,71,115,184,213,28,95,81,166,162,165,71,181,20,181,197,83,15,234,233,188,178,131,15,85,71,119,188,136,254,36,44,81,253,130,231,249,251,33,228,236,206,218,83,219,167,128,249,35,115,38,94,136,88,219,109,174,35,53,231,177,94,182,26,30,200,32,153,6,207,64,2,220,139,248,195,64,6,255,254,86,81,254,17,246,47,3,71,185,74,242,93,226,33,16,171,192,24,65,134,133,93,116,255,52,210,39,153,255,53,132,63,58,237,41,191,86,92,52,5,227,3,153,28,198,174,63,100,135,36,114,53,216,150,245,44,71,173,166,213,123,115,203,131,33,223,254,51,151,168,224,155,40,83,160,161,119,15,149,34,84,217,52,86,235,37,98,70,20,149,131,211,137,248,218,155,87,233,101,98,80,43,115,2,157,104,8,153,152,61,199,232,158,105,101,101,167,192,83,10,131,150,164,187,76,157,40,190,5,93,191,232,200,169,23,36,141,26,205,16,199,128,100,73,215,86,4,34,188,152,104,87,71,88,164,153,209,82,16,190,200,178,17,159,108,62,13,232,47,241,34,120,122,155,208,22,14,67,200,60,132,67,152,178,98,96,86,5,67,72,55,201,102,192,164,100,4,157,59,12,174,36,205,58,152,228,249,217,94,62,214,7,10,86,217,141,192,148,26,120,216,167,231,85,131,240,178,78,46,94,198,222,249,12,59,235,37,152,118,42,183,24,36,219,100,105,11,38,184,101,27,2,50,41,182,37,145,85,62,154,132,110,252,115,21,62,80,21,168,128,66,1,36,248,146,133,81,41,137,25,227,243,187,250,53,124,103,129,0,226,185,232,246,146,250,133,194,203,160,142,111,249,153,160,180,53,247,39,118,118,156,154,216,73,1,1,125,190,197,103,174,123,84,52,198,189,136,81,6,88,118,0,158,152,51,227,221,156,37,116,197,125,191,58,181,188,164,8,136,209,226,228,65,31,154,196,169,189,198,135,167,165,109,146,174,178,21,19,8,47,151,219,164,70,172,32,148,136,152,229,195,181,119,222,22,252,125,130,102,223,173,46,62,10,249,134,134,97,183,174,231,207,223,187,90,15,126,248,55,178,160,97,64,46,145,177,235,88,50,23,59,70,158,178,61,159,82,216,239,89,237,248,36,96,18,55,171,137,197,82,61,168,106,113,132,134,104,136,232,146,242,25,215,119,90,171,231,226,166,196,24,31,15,96,34,10,248,5,141,39,149,150,50,17,22,209,108,95,52,216,11,213,81,81,23,47,111,129,64,130,217,66,213,99,15,231,134,157,116,8,221,35,11,232,181,67,67,107,49,6,238,197,162,239,209,40,67,34,151,149,150,4,198,46,101,75,248,3,253,134,130,192,87,114,149,67,72,15,27,236,46,231,19,93,3,243,148,76,69,94,215,203,177,243,123,166,66,178,33,151,72,242,151,76,96,28,188,231,137,175,147,197,210,174,71,180,111,83,243,27,163,62,103,158,179,47,80,28,15,12,176,60,240,119,24,240,242,231,56,252,116,236,49,176,185,157,180,94,9,67,168,45,183,231,212,252,62,194,161,25,90,148,62,40,68,230,184,13,227,102,42,139,47,238,77,94,85,246,23,19,74,237,248,241,48,131,167,36,98,81,195,15,187,49,118,64,243,13,26,72,232,240,177,44,203,200,73,243,6,38,11,248,217,183,42,231,193,12,221,241,143,147,79,201,219,155,63,3,231,113,232,137,124,54,141,182,21,227,15,222,150,185,196,25,4,100,251,71,90,103,242,121,178,59,9,217,90,91,40,243,199,97,89,38,196,69,234,50,117,130,170,200,19,162,248,131,206,175,32,80,83,12,210,122,120,96,15,88,252,251,253,131,228,108,7,124,37,124,82,32,38,53,183,160,80,102,87,248,82,155,227,182,22,215,40,25,27,36,34,94,230,102,58,85,80,56,246,198,88,214,144,78,190,165,56,80,76,39,138,122,55,147,78,136,201,226,178,45,216,241,206,81,181,213,116,112,236,47,201,42,28,27,9,79,86,43,6,45,123,230,192,169,145,57,126,78,226,60,65,44,91,38,140,145,17,98,156,233,80,96,198,205,189,53,204,33,219,229,186,57,223,187,134,82,245,113,2,76,94,106,169,23,150,152,171,127,160,88,87,135,214,130,29,0,40,8,4,249,102,80,40,98,106,162,4,10,95,17,145,247,145,31,116,102,16,49,33,234,67,84,155,241,244,12,128,87,88,148,20,21,215,219,195,52,254,79,146,36,139,215,203,201,15,174,80,70,223,81,92,216,53,171,160,95,254,49,162,24,135,161,10,101,219,226,147,167,162,145,139,152,133,230,39,203,180,5,154,59,95,141,193,185,123,40,188,170,163,146,186,226,66,168,39,92,85,249,255,45,240,143,82,126,106,45,132,40,192,136,232,180,170,245,13,224,100,227,133,28,137,28,101,142,168,251,27,63,67,200,123,192,149,125,171,125,121,9,50,6,228,237,76,58,53,53,212,41,0,227,203,50,40,251,174,104,173,149,92,138,19,140,239,227,155,226,241,173,56,75,90,243,156,234,11,13,232,252,16,33,251,129,151,215,149,41,108,240,130,120,121,182,204,134,200,253,129,164,93,137,185,101,174,145,10,112,174,35,250,149,180,67,152,64,137,32,163,224,255,115,63,67,186,92,201,29,232,70,30,57,149,47,236,59,206,10,218,112,51,243,205,58,28,131,67,31,210,239,41,6,158,141,121,103,223,15,172,161,250,122,72,67,111,55,226,53,205,189,226,233,64,153,178,136,29,125,209,48,14,49,56,220,245,159,150,136,92,116,35,95,70,129,16,142,22,167,150,72,216,76,148,32,27,154,179,48,196,127,234,133,68,164,45,89,73,36,215,200,91,251,101,222,223,20,38,235,143,118,16,154,209,233,63,237,5,164,63,164,1,97,9,221,207,147,251,69,16,70,57,123,209,141,14,233,220,105,161,25,215,45,136,209,213,44,48,58,44,50,58,229,251,44]
noncomputable def wCap:Val (.pair .i64 (.pair (.arr 16 .u8) (.pair (.arr 32 .u8) (.pair .i64 (.pair .i64 (.pair .i64 (.pair (.sl .u8) .unit))))))):=((4:Int),((vecOf 16 [149,36,57,34,41,25,90,153,154,174,127,125,160,137,208,15] 0),(wFp,((0:Int),((0:Int),((0:Int),([],())))))))
noncomputable def wRcap:Val (.pair .i64 (.pair (.arr 16 .u8) (.pair (.arr 32 .u8) (.pair .i64 (.pair .i64 (.pair .i64 (.pair (.sl .u8) .unit))))))):=((5:Int),((vecOf 16 [167,155,214,214,152,12,226,144,107,192,8,74,93,0,100,74] 0),(wFp,((0:Int),((0:Int),((0:Int),([],())))))))
noncomputable def wVer:Val (.pair .i64 (.pair .i64 (.pair .i64 (.pair .i64 (.pair (.arr 16 .u8) (.pair (.arr 32 .u8) .unit)))))):=((1:Int),((1:Int),((1:Int),((2:Int),(Vector.replicate 16 (0:UInt8),(wRoot,()))))))
noncomputable def eqLs{α:Type}(f:α->α->Bool)(a:List α):List α->Bool:=List.rec (motive:=fun _=>List α->Bool) (fun b=>List.rec (motive:=fun _=>Bool) true (fun _ _ _=>false) b) (fun x _ ih b=>List.rec (motive:=fun _=>Bool) false (fun y b _=>Bool.rec (motive:=fun _=>Bool) false (ih b) (f x y)) b) a
theorem eqLs_ok{α:Type}{f:α->α->Bool}(hf: ∀x y,f x y=true->x=y): ∀(a b:List α),eqLs f a b=true->a=b
 |[],[],_=>rfl
 |[],_::_,h=>by cases h
 |_::_,[],h=>by cases h
 |x::a,y::b,h=>by
  have h':Bool.rec (motive:=fun _=>Bool) false (eqLs f a b) (f x y)=true:=h
  cases e:f x y with
  |false=>rw[e]at h';cases h'
  |true=>
   rw[e]at h'
   rw[hf x y e,eqLs_ok hf a b h']
noncomputable def eqV:(t:Ty)->Val t->Val t->Bool
 | .u8,x,y=>Nat.beq (x:UInt8).toNat (y:UInt8).toNat
 | .sl e,l,k=>eqLs (eqV e) l k
 | .pair a b,x,y=>cond (eqV a x.1 y.1) (eqV b x.2 y.2) false
 | .arr _ e,v,w=>eqLs (eqV e) (Vector.toList v) (Vector.toList w)
 | .i64,x,y=> @decide (x=y) (decV .i64 x y)
 | .u32,x,y=> @decide (x=y) (decV .u32 x y)
 | .u64,x,y=> @decide (x=y) (decV .u64 x y)
 | .bool,x,y=> @decide (x=y) (decV .bool x y)
 | .str,x,y=>eqLs (fun a b=>Nat.beq (a:UInt8).toNat (b:UInt8).toNat) x y
 | .unit,_,_=>true
 | .op e,x,y=> @decide (x=y) (decV (.op e) x y)
theorem eqV_ok: ∀(t:Ty) (x y:Val t),eqV t x y=true->x=y
 | .u8,x,y,h=>UInt8.toNat_inj.1 (Nat.eq_of_beq_eq_true h)
 | .sl e,l,k,h=>eqLs_ok (eqV_ok e) l k h
 | .pair a b,x,y,h=>by
  obtain⟨x1,x2⟩:=x
  obtain⟨y1,y2⟩:=y
  have h':cond (eqV a x1 y1) (eqV b x2 y2) false=true:=h
  cases e:eqV a x1 y1 with
  |false=>rw[e]at h';cases h'
  |true=>
   rw[e]at h'
   rw[eqV_ok a _ _ e,eqV_ok b _ _ h']
 | .arr n e,v,w,h=>Vector.toList_inj.1 (eqLs_ok (eqV_ok e) _ _ h)
 | .i64,x,y,h=> @of_decide_eq_true (x=y) (decV .i64 x y) h
 | .u32,x,y,h=> @of_decide_eq_true (x=y) (decV .u32 x y) h
 | .u64,x,y,h=> @of_decide_eq_true (x=y) (decV .u64 x y) h
 | .bool,x,y,h=> @of_decide_eq_true (x=y) (decV .bool x y) h
 | .str,x,y,h=>eqLs_ok (fun a b q=>UInt8.toNat_inj.1 (Nat.eq_of_beq_eq_true q)) x y h
 | .unit,_,_,_=>rfl
 | .op e,x,y,h=> @of_decide_eq_true (x=y) (decV (.op e) x y) h
noncomputable def wSgV:List (Vector UInt8 32):=wQ.map fun q=>vecOf 32 q.2.2.1 0
noncomputable def wSig:Val (.pair .i64 (.pair .i64 (.pair (.sl (.arr 32 .u8)) (.pair (.sl (.arr 32 .u8)) .unit)))):=((0:Int),((0:Int),(wSgV,(([]:List (Vector UInt8 32)),()))))
noncomputable def wPc:Val (.pair .i64 (.pair (.pair .i64 (.pair .i64 (.pair .i64 (.pair .i64 (.pair (.arr 16 .u8) (.pair (.arr 32 .u8) .unit)))))) (.pair (.pair .i64 (.pair .i64 (.pair (.sl (.arr 32 .u8)) (.pair (.sl (.arr 32 .u8)) .unit)))) (.pair (.sl (.arr 32 .u8)) (.pair (.sl .u8) .unit))))):=((0:Int),(wVer,(wSig,(([]:List (Vector UInt8 32)),(wCry,())))))
noncomputable def wS0:Val (.pair (.sl .bool) (.pair (.sl (.sl (.pair .i64 (.pair (.sl .u8) .unit)))) .unit)):=([true],([[]],()))
noncomputable def wS1:Val (.pair (.sl .bool) (.pair (.sl (.sl (.pair .i64 (.pair (.sl .u8) .unit)))) .unit)):=([true],([[((0:Int),(wPcB,()))]],()))
noncomputable def dat:List UInt8:=[97,98]
noncomputable def z16:Vector UInt8 16:=Vector.replicate 16 (0:UInt8)
end Sx
end
