/- The chapter's example: hints and context, and the contract of its run. No conditions. -/
import Derived.Test.YtjkaogjllhibfaaGreatDoorX2
import Derived.Test.YtjkaogjllhibfaaGreatDoorX3
import Derived.Test.YtjkaogjllhibfaaGreatDoorX5
import Derived.Test.YtjkaogjllhibfaaGreatDoorX6
set_option linter.unusedVariables false
set_option linter.unusedSimpArgs false
set_option linter.unusedSectionVars false
set_option maxRecDepth 100000
section
open Go Go.Proofs Ev
namespace Sx
noncomputable def hI421:List (Nat×Hint):=[]
noncomputable def hI144(g:FuncId)(h:List (Nat×Hint)):List (Nat×Hint):=[(21, .inl 3 g h)]
noncomputable def hI419(g:FuncId)(h:List (Nat×Hint)):List (Nat×Hint):=[(13, .inl 1 161 hI421),(39, .inl 2 165 (hI144 g h)),(54, .inl 2 165 (hI144 g h)),(61, .inl 2 165 (hI144 g h))]
noncomputable def hI213:List (Nat×Hint):=[]
noncomputable def hI209:List (Nat×Hint):=[(8, .rounds (List.replicate 17 [(20, .inr 7 12 92 hI213)]))]
noncomputable def hI196:List (Nat×Hint):=[(3, .inl 3 301 hI209)]
noncomputable def hI468:List (Nat×Hint):=[(33, .rounds (List.replicate 17 [(45, .rounds (List.replicate 17 [(63, .inl 4 107 (hI419 258 hI196)),(69, .rounds (List.replicate 17 []))]))])),(106, .rounds (List.replicate 17 []))]
noncomputable def hI469:List (Nat×Hint):=[(18, .inl 3 100 hI468)]
noncomputable def hI552:List (Nat×Hint):=[(3, .inr 5 400 62 hI469)]
noncomputable def hI106:List (Nat×Hint):=[]
noncomputable def hI172:List (Nat×Hint):=[]
noncomputable def hI133:List (Nat×Hint):=[(3, .inr 11 12 81 hI172),(18, .rounds (List.replicate 3 [(30, .inr 14 12 81 hI172)]))]
noncomputable def hI107:List (Nat×Hint):=[(16, .rounds (List.replicate 9 [(28, .inl 2 44 hI133)])),(43, .rounds (List.replicate 9 []))]
noncomputable def hI108:List (Nat×Hint):=[]
noncomputable def hI72:List (Nat×Hint):=[(11, .inl 4 16 hI106),(21, .inl 3 17 hI107),(31, .inl 4 80 hI108)]
noncomputable def hI34:List (Nat×Hint):=[(14, .rounds (List.replicate 3 [])),(39, .rounds (List.replicate 3 [(51, .inl 2 41 hI72)]))]
noncomputable def hI534:List (Nat×Hint):=[(11, .inl 4 15 hI34)]
noncomputable def hI415:List (Nat×Hint):=[]
noncomputable def hI486:List (Nat×Hint):=[(8, .rounds (List.replicate 3 [(20, .inl 4 107 (hI419 258 hI196)),(24, .rounds (List.replicate 3 [(40, .inl 4 152 hI415)]))]))]
noncomputable def hI143:List (Nat×Hint):=[]
noncomputable def hI230:List (Nat×Hint):=[(15, .inr 8 12 117 (hI248 414))]
noncomputable def hI214:List (Nat×Hint):=[(3, .inl 4 312 hI143),(15, .inl 8 271 hI230)]
noncomputable def hI174:List (Nat×Hint):=[]
noncomputable def hI236:List (Nat×Hint):=[(3, .inl 6 83 hI174)]
noncomputable def hI215:List (Nat×Hint):=[(6, .rounds (List.replicate 16 [])),(52, .rounds (List.replicate 16 [(65, .inl 8 239 hI236)])),(77, .inl 3 239 hI236)]
noncomputable def hI223:List (Nat×Hint):=[(9, .inr 9 40 176 hI215)]
noncomputable def hI216:List (Nat×Hint):=[(3, .inl 4 312 hI143),(6, .inl 8 271 hI230),(13, .inl 4 313 hI223)]
noncomputable def hI197:List (Nat×Hint):=[(15, .inl 5 92 hI213),(18, .inl 6 305 hI214),(31, .inr 7 40 176 hI215),(41, .inl 2 306 hI216)]
noncomputable def hI416:List (Nat×Hint):=[(3, .inr 30 160 107 (hI419 259 hI197))]
noncomputable def hI417:List (Nat×Hint):=[]
noncomputable def hI488:List (Nat×Hint):=[(3, .inr 7 12 149 hI486),(12, .rounds (List.replicate 3 [(25, .inl 3 151 hI417),(32, .rounds (List.replicate 3 [(46, .inl 3 150 hI416),(49, .inl 4 152 hI415)]))]))]
noncomputable def hI487:List (Nat×Hint):=[(22, .inl 7 97 hI488)]
noncomputable def hI551:List (Nat×Hint):=[(11, .inr 30 400 60 hI487)]
noncomputable def hI540:List (Nat×Hint):=[(3, .inl 0 4 hI534),(17, .inl 2 28 hI551),(19, .inl 2 29 hI552)]
noncomputable def cx540:Ctx:=mkC tys cells maps [(30,s13),(96,sl19),(40,s71),(73,s73),(21,sl74),(59,s91),(16,sl106),(17,sl107),(157,s113),(98,se114),(42,s131),(43,s132),(45,s134),(46,s135),(57,s136),(160,s140),(82,s173),(163,s177),(206,s178),(207,s179),(125,s193),(302,s210),(303,s211),(304,s212),(352,s231),(237,s232),(214,s233),(272,s234),(238,s235),(270,s240),(273,s242),(315,s247),(409,s304),(195,s418),(121,sl466),(101,sl467),(102,sl470),(155,s471),(156,s472),(193,s473),(159,s478),(166,s479),(164,s480),(99,s482),(72,sl483),(61,sl485),(194,s495),(196,s497),(37,s555),(38,s556)] [88,153,99,95,221,250,83,97,101,173,219,188,143,216,141,55,68,52,122,53,115,253] [(161,Tryz.f161),(165,Tryz.f165),(107,Tryz.f107),(92,Tryz.f92),(301,Tryz.f301),(258,Tryz.f258),(100,Tryz.f100),(62,Tryz.f62),(29,Tryz.f29),(16,Tryz.f16),(81,Tryz.f81),(44,Tryz.f44),(17,Tryz.f17),(80,Tryz.f80),(41,Tryz.f41),(15,Tryz.f15),(4,Tryz.f4),(152,Tryz.f152),(149,Tryz.f149),(312,Tryz.f312),(178,Tryz.f178),(117,Tryz.f117),(414,Tryz.f414),(271,Tryz.f271),(305,Tryz.f305),(83,Tryz.f83),(239,Tryz.f239),(176,Tryz.f176),(313,Tryz.f313),(306,Tryz.f306),(259,Tryz.f259),(150,Tryz.f150),(151,Tryz.f151),(97,Tryz.f97),(60,Tryz.f60),(28,Tryz.f28)] cxA
noncomputable def run540:Unit->Option Bool:=fun x=>evF cx540 Tryz.f11 hI540 P540 R540 x
noncomputable def sx540:Ev.Spec:=⟨P540,R540,run540⟩
theorem kx540:FnOk Tryz.prog 11 sx540:=fn_okSX (C:=cx540) (hs:=hI540) (ps:=P540) (rs:=R540) (specs:=[(30,s13),(96,sl19),(40,s71),(73,s73),(21,sl74),(59,s91),(16,sl106),(17,sl107),(157,s113),(98,se114),(42,s131),(43,s132),(45,s134),(46,s135),(57,s136),(160,s140),(82,s173),(163,s177),(206,s178),(207,s179),(125,s193),(302,s210),(303,s211),(304,s212),(352,s231),(237,s232),(214,s233),(272,s234),(238,s235),(270,s240),(273,s242),(315,s247),(409,s304),(195,s418),(121,sl466),(101,sl467),(102,sl470),(155,s471),(156,s472),(193,s473),(159,s478),(166,s479),(164,s480),(99,s482),(72,sl483),(61,sl485),(194,s495),(196,s497),(37,s555),(38,s556)]) (dyns:=[88,153,99,95,221,250,83,97,101,173,219,188,143,216,141,55,68,52,122,53,115,253]) (codes:=[(161,Tryz.f161),(165,Tryz.f165),(107,Tryz.f107),(92,Tryz.f92),(301,Tryz.f301),(258,Tryz.f258),(100,Tryz.f100),(62,Tryz.f62),(29,Tryz.f29),(16,Tryz.f16),(81,Tryz.f81),(44,Tryz.f44),(17,Tryz.f17),(80,Tryz.f80),(41,Tryz.f41),(15,Tryz.f15),(4,Tryz.f4),(152,Tryz.f152),(149,Tryz.f149),(312,Tryz.f312),(178,Tryz.f178),(117,Tryz.f117),(414,Tryz.f414),(271,Tryz.f271),(305,Tryz.f305),(83,Tryz.f83),(239,Tryz.f239),(176,Tryz.f176),(313,Tryz.f313),(306,Tryz.f306),(259,Tryz.f259),(150,Tryz.f150),(151,Tryz.f151),(97,Tryz.f97),(60,Tryz.f60),(28,Tryz.f28)]) (x:=cxA) rfl hm hT cxOk ⟨k13,kl19,k71,k73,kl74,k91,kl106,kl107,k113,kse114,k131,k132,k134,k135,k136,k140,k173,k177,k178,k179,k193,k210,k211,k212,k231,k232,k233,k234,k235,k240,k242,k247,k304,k418,kl466,kl467,kl470,k471,k472,k473,k478,k479,k480,k482,kl483,kl485,k495,k497,k555,k556,trivial⟩ ⟨Tryz.func161,Tryz.func165,Tryz.func107,Tryz.func92,Tryz.func301,Tryz.func258,Tryz.func100,Tryz.func62,Tryz.func29,Tryz.func16,Tryz.func81,Tryz.func44,Tryz.func17,Tryz.func80,Tryz.func41,Tryz.func15,Tryz.func4,Tryz.func152,Tryz.func149,Tryz.func312,Tryz.func178,Tryz.func117,Tryz.func414,Tryz.func271,Tryz.func305,Tryz.func83,Tryz.func239,Tryz.func176,Tryz.func313,Tryz.func306,Tryz.func259,Tryz.func150,Tryz.func151,Tryz.func97,Tryz.func60,Tryz.func28,trivial⟩ (by kernel_rfl) Tryz.func11 (by kernel_rfl)
end Sx
end
