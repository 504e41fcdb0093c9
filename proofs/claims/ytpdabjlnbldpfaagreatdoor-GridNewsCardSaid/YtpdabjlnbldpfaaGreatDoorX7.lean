/- The chapter's example: hints and context, and the contract of its run. No conditions. -/
import Derived.Test.YtpdabjlnbldpfaaGreatDoorX2
import Derived.Test.YtpdabjlnbldpfaaGreatDoorX3
import Derived.Test.YtpdabjlnbldpfaaGreatDoorX5
import Derived.Test.YtpdabjlnbldpfaaGreatDoorX6
set_option linter.unusedVariables false
set_option linter.unusedSimpArgs false
set_option linter.unusedSectionVars false
set_option maxRecDepth 100000
section
open Go Go.Proofs Ev
namespace Sx
noncomputable def hI415:List (Nat×Hint):=[]
noncomputable def hI421:List (Nat×Hint):=[]
noncomputable def hI144(g:FuncId)(h:List (Nat×Hint)):List (Nat×Hint):=[(21, .inl 3 g h)]
noncomputable def hI419(g:FuncId)(h:List (Nat×Hint)):List (Nat×Hint):=[(13, .inl 1 114 hI421),(39, .inl 2 118 (hI144 g h)),(54, .inl 2 118 (hI144 g h)),(61, .inl 2 118 (hI144 g h))]
noncomputable def hI213:List (Nat×Hint):=[]
noncomputable def hI209:List (Nat×Hint):=[(8, .rounds (List.replicate 17 [(20, .inr 7 12 162 hI213)]))]
noncomputable def hI196:List (Nat×Hint):=[(3, .inl 3 233 hI209)]
noncomputable def hI486:List (Nat×Hint):=[(8, .rounds (List.replicate 3 [(20, .inl 4 80 (hI419 202 hI196)),(24, .rounds (List.replicate 3 [(40, .inl 4 74 hI415)]))]))]
noncomputable def hI143:List (Nat×Hint):=[]
noncomputable def hI230:List (Nat×Hint):=[(15, .inr 8 12 98 (hI248 348))]
noncomputable def hI214:List (Nat×Hint):=[(3, .inl 4 245 hI143),(15, .inl 8 215 hI230)]
noncomputable def hI174:List (Nat×Hint):=[]
noncomputable def hI236:List (Nat×Hint):=[(3, .inl 6 44 hI174)]
noncomputable def hI215:List (Nat×Hint):=[(6, .rounds (List.replicate 16 [])),(52, .rounds (List.replicate 16 [(65, .inl 8 260 hI236)])),(77, .inl 3 260 hI236)]
noncomputable def hI223:List (Nat×Hint):=[(9, .inr 9 40 238 hI215)]
noncomputable def hI216:List (Nat×Hint):=[(3, .inl 4 245 hI143),(6, .inl 8 215 hI230),(13, .inl 4 246 hI223)]
noncomputable def hI197:List (Nat×Hint):=[(15, .inl 5 162 hI213),(18, .inl 6 237 hI214),(31, .inr 7 40 238 hI215),(41, .inl 2 239 hI216)]
noncomputable def hI416:List (Nat×Hint):=[(3, .inr 30 160 80 (hI419 203 hI197))]
noncomputable def hI417:List (Nat×Hint):=[]
noncomputable def hI488:List (Nat×Hint):=[(3, .inr 7 12 70 hI486),(12, .rounds (List.replicate 3 [(25, .inl 3 73 hI417),(32, .rounds (List.replicate 3 [(46, .inl 3 72 hI416),(49, .inl 4 74 hI415)]))]))]
noncomputable def hI487:List (Nat×Hint):=[(22, .inl 7 49 hI488)]
noncomputable def hI551:List (Nat×Hint):=[(11, .inr 30 400 35 hI487)]
noncomputable def hI468:List (Nat×Hint):=[(33, .rounds (List.replicate 17 [(45, .rounds (List.replicate 17 [(63, .inl 4 80 (hI419 202 hI196)),(69, .rounds (List.replicate 17 []))]))])),(106, .rounds (List.replicate 17 []))]
noncomputable def hI469:List (Nat×Hint):=[(18, .inl 3 56 hI468)]
noncomputable def hI552:List (Nat×Hint):=[(3, .inr 5 400 39 hI469)]
noncomputable def hI108:List (Nat×Hint):=[]
noncomputable def hI106:List (Nat×Hint):=[]
noncomputable def hI172:List (Nat×Hint):=[]
noncomputable def hI133:List (Nat×Hint):=[(3, .inr 11 12 42 hI172),(18, .rounds (List.replicate 3 [(30, .inr 14 12 42 hI172)]))]
noncomputable def hI107:List (Nat×Hint):=[(16, .rounds (List.replicate 9 [(28, .inl 2 25 hI133)])),(43, .rounds (List.replicate 9 []))]
noncomputable def hI72:List (Nat×Hint):=[(11, .inl 4 13 hI106),(21, .inl 3 14 hI107),(31, .inl 4 41 hI108)]
noncomputable def hI34:List (Nat×Hint):=[(14, .rounds (List.replicate 3 [])),(39, .rounds (List.replicate 3 [(51, .inl 2 22 hI72)]))]
noncomputable def hI534:List (Nat×Hint):=[(11, .inl 4 12 hI34)]
noncomputable def hI540:List (Nat×Hint):=[(3, .inl 0 6 hI534),(17, .inl 2 18 hI551),(19, .inl 2 19 hI552)]
noncomputable def cx540:Ctx:=mkC tys cells maps [(20,s13),(47,sl19),(21,s71),(10,s73),(48,sl74),(34,s91),(13,sl106),(14,sl107),(81,s113),(50,se114),(23,s131),(24,s132),(26,s134),(27,s135),(55,s136),(113,s140),(43,s173),(116,s177),(155,s178),(156,s179),(59,s193),(234,s210),(235,s211),(236,s212),(257,s231),(258,s232),(163,s233),(216,s234),(259,s235),(214,s240),(217,s242),(248,s247),(340,s304),(104,s418),(101,sl466),(57,sl467),(58,sl470),(78,s471),(79,s472),(102,s473),(112,s478),(119,s479),(117,s480),(51,s482),(71,sl483),(37,sl485),(103,s495),(105,s497),(36,s555),(38,s556)] [78,122,89,85,159,172,73,87,91,141,157,200,195,202,193,44,461,41,463,42,474,177] [(74,Tryz.f74),(114,Tryz.f114),(118,Tryz.f118),(80,Tryz.f80),(162,Tryz.f162),(233,Tryz.f233),(202,Tryz.f202),(70,Tryz.f70),(245,Tryz.f245),(136,Tryz.f136),(98,Tryz.f98),(348,Tryz.f348),(215,Tryz.f215),(237,Tryz.f237),(44,Tryz.f44),(260,Tryz.f260),(238,Tryz.f238),(246,Tryz.f246),(239,Tryz.f239),(203,Tryz.f203),(72,Tryz.f72),(73,Tryz.f73),(49,Tryz.f49),(35,Tryz.f35),(18,Tryz.f18),(56,Tryz.f56),(39,Tryz.f39),(19,Tryz.f19),(41,Tryz.f41),(13,Tryz.f13),(42,Tryz.f42),(25,Tryz.f25),(14,Tryz.f14),(22,Tryz.f22),(12,Tryz.f12),(6,Tryz.f6)] cxA
noncomputable def run540:Unit->Option Bool:=fun x=>evF cx540 Tryz.f8 hI540 P540 R540 x
noncomputable def sx540:Ev.Spec:=⟨P540,R540,run540⟩
theorem kx540:FnOk Tryz.prog 8 sx540:=fn_okSX (C:=cx540) (hs:=hI540) (ps:=P540) (rs:=R540) (specs:=[(20,s13),(47,sl19),(21,s71),(10,s73),(48,sl74),(34,s91),(13,sl106),(14,sl107),(81,s113),(50,se114),(23,s131),(24,s132),(26,s134),(27,s135),(55,s136),(113,s140),(43,s173),(116,s177),(155,s178),(156,s179),(59,s193),(234,s210),(235,s211),(236,s212),(257,s231),(258,s232),(163,s233),(216,s234),(259,s235),(214,s240),(217,s242),(248,s247),(340,s304),(104,s418),(101,sl466),(57,sl467),(58,sl470),(78,s471),(79,s472),(102,s473),(112,s478),(119,s479),(117,s480),(51,s482),(71,sl483),(37,sl485),(103,s495),(105,s497),(36,s555),(38,s556)]) (dyns:=[78,122,89,85,159,172,73,87,91,141,157,200,195,202,193,44,461,41,463,42,474,177]) (codes:=[(74,Tryz.f74),(114,Tryz.f114),(118,Tryz.f118),(80,Tryz.f80),(162,Tryz.f162),(233,Tryz.f233),(202,Tryz.f202),(70,Tryz.f70),(245,Tryz.f245),(136,Tryz.f136),(98,Tryz.f98),(348,Tryz.f348),(215,Tryz.f215),(237,Tryz.f237),(44,Tryz.f44),(260,Tryz.f260),(238,Tryz.f238),(246,Tryz.f246),(239,Tryz.f239),(203,Tryz.f203),(72,Tryz.f72),(73,Tryz.f73),(49,Tryz.f49),(35,Tryz.f35),(18,Tryz.f18),(56,Tryz.f56),(39,Tryz.f39),(19,Tryz.f19),(41,Tryz.f41),(13,Tryz.f13),(42,Tryz.f42),(25,Tryz.f25),(14,Tryz.f14),(22,Tryz.f22),(12,Tryz.f12),(6,Tryz.f6)]) (x:=cxA) rfl hm hT cxOk ⟨k13,kl19,k71,k73,kl74,k91,kl106,kl107,k113,kse114,k131,k132,k134,k135,k136,k140,k173,k177,k178,k179,k193,k210,k211,k212,k231,k232,k233,k234,k235,k240,k242,k247,k304,k418,kl466,kl467,kl470,k471,k472,k473,k478,k479,k480,k482,kl483,kl485,k495,k497,k555,k556,trivial⟩ ⟨Tryz.func74,Tryz.func114,Tryz.func118,Tryz.func80,Tryz.func162,Tryz.func233,Tryz.func202,Tryz.func70,Tryz.func245,Tryz.func136,Tryz.func98,Tryz.func348,Tryz.func215,Tryz.func237,Tryz.func44,Tryz.func260,Tryz.func238,Tryz.func246,Tryz.func239,Tryz.func203,Tryz.func72,Tryz.func73,Tryz.func49,Tryz.func35,Tryz.func18,Tryz.func56,Tryz.func39,Tryz.func19,Tryz.func41,Tryz.func13,Tryz.func42,Tryz.func25,Tryz.func14,Tryz.func22,Tryz.func12,Tryz.func6,trivial⟩ (by kernel_rfl) Tryz.func8 (by kernel_rfl)
end Sx
end
