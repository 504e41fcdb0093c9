/- The chapter's example: hints and context, and the contract of its run. No conditions. -/
import Derived.Test.YtjaancbplomopaaGreatDoorV9
import Derived.Test.YtjaancbplomopaaGreatDoorV10
import Derived.Test.YtjaancbplomopaaGreatDoorV1
import Derived.Test.YtjaancbplomopaaGreatDoorV2
import Derived.Test.YtjaancbplomopaaGreatDoorV3
import Derived.Test.YtjaancbplomopaaGreatDoorV4
import Derived.Test.YtjaancbplomopaaGreatDoorV8
import Derived.Test.YtjaancbplomopaaGreatDoorV11
set_option linter.unusedVariables false
set_option linter.unusedSimpArgs false
set_option linter.unusedSectionVars false
set_option maxRecDepth 100000
section
open Go Go.Proofs Ev
namespace Sx
noncomputable def hI106:List (Nat×Hint):=[]
noncomputable def hI172:List (Nat×Hint):=[(5, .trim)]
noncomputable def hI133:List (Nat×Hint):=[(3, .inr 11 12 103 hI172),(3, .trim),(18, .rounds (List.replicate 3 [(30, .inr 14 12 103 hI172),(30, .trim)])),(42, .trim),(48, .trim)]
noncomputable def hI107:List (Nat×Hint):=[(4, .trim),(16, .rounds (List.replicate 9 [(28, .inl 2 48 hI133),(28, .trim)])),(43, .rounds (List.replicate 9 [(55, .trim),(60, .trim)]))]
noncomputable def hI108:List (Nat×Hint):=[]
noncomputable def hI72:List (Nat×Hint):=[(11, .inl 4 18 hI106),(11, .trim),(21, .inl 3 19 hI107),(21, .trim),(31, .inl 4 45 hI108),(31, .trim)]
noncomputable def hI34:List (Nat×Hint):=[(14, .rounds (List.replicate 3 [(26, .trim)])),(39, .rounds (List.replicate 3 [(51, .inl 2 17 hI72),(51, .trim),(61, .trim)]))]
noncomputable def hI213:List (Nat×Hint):=[(3, .trim)]
noncomputable def hI563:List (Nat×Hint):=[(1, .inr 8 12 101 hI213),(1, .trim),(9, .trim)]
noncomputable def hI546:List (Nat×Hint):=[(3, .trim),(15, .inl 1 43 hI563),(15, .trim)]
noncomputable def hI659:List (Nat×Hint):=[(3, .inl 0 18 hI106),(3, .trim),(13, .inl 1 19 hI107),(13, .trim),(23, .inl 3 20 hI546),(23, .trim)]
noncomputable def hI421:List (Nat×Hint):=[]
noncomputable def hI144(g:FuncId)(h:List (Nat×Hint)):List (Nat×Hint):=[(4, .trim),(7, .trim),(11, .trim),(17, .trim),(21, .inl 3 g h),(21, .trim)]
noncomputable def hI419(g:FuncId)(h:List (Nat×Hint)):List (Nat×Hint):=[(4, .trim),(6, .trim),(13, .inl 1 82 hI421),(13, .trim),(22, .trim),(25, .trim),(39, .inl 2 86 (hI144 g h)),(39, .trim),(49, .trim),(54, .inl 2 86 (hI144 g h)),(54, .trim),(59, .trim),(61, .inl 2 86 (hI144 g h)),(61, .trim),(62, .trim)]
noncomputable def hI217:List (Nat×Hint):=[(3, .inr 6 12 101 hI213),(3, .trim),(13, .trim),(26, .rounds (List.replicate 3 [(35, .trim),(37, .trim),(39, .trim)]))]
noncomputable def hI198:List (Nat×Hint):=[(3, .inl 3 266 hI217),(3, .trim)]
noncomputable def hI566:List (Nat×Hint):=[(5, .trim),(11, .trim),(18, .trim),(20, .trim),(22, .trim),(27, .rounds (List.replicate 3 [(39, .rounds (List.replicate 3 [(57, .inl 4 37 (hI419 197 hI198)),(57, .trim)]))]))]
noncomputable def hI618:List (Nat×Hint):=[(4, .trim),(11, .inl 3 11 hI566),(11, .trim),(21, .trim),(38, .trim)]
noncomputable def hI550:List (Nat×Hint):=[(3, .inl 1 43 hI563),(3, .trim)]
noncomputable def hI174:List (Nat×Hint):=[(5, .trim)]
noncomputable def hI236:List (Nat×Hint):=[(3, .inl 6 105 hI174),(3, .trim)]
noncomputable def hI215:List (Nat×Hint):=[(6, .rounds (List.replicate 130 [])),(24, .trim),(37, .trim),(45, .trim),(52, .rounds (List.replicate 130 [(55, .fresh [0,11]),(65, .inl 8 216 hI236),(65, .trim)])),(77, .inl 3 216 hI236),(77, .trim),(92, .trim)]
noncomputable def hI577:List (Nat×Hint):=[(4, .inl 1 14 hI550),(4, .trim),(14, .inr 11 12 151 hI215),(14, .trim),(25, .trim)]
noncomputable def hI568:List (Nat×Hint):=[(5, .trim),(11, .trim),(18, .trim),(20, .trim),(22, .trim),(29, .rounds (List.replicate 3 [(40, .trim)])),(43, .trim),(45, .inl 3 94 hI577),(45, .trim),(60, .rounds (List.replicate 3 [(72, .trim),(74, .trim)]))]
noncomputable def hI230:List (Nat×Hint):=[(3, .trim),(7, .trim),(15, .inr 8 12 75 (hI248 360)),(15, .trim),(18, .trim)]
noncomputable def hI143:List (Nat×Hint):=[]
noncomputable def hI214:List (Nat×Hint):=[(3, .inl 4 271 hI143),(3, .trim),(15, .inl 8 208 hI230),(15, .trim),(21, .trim)]
noncomputable def hI223:List (Nat×Hint):=[(6, .trim),(8, .trim),(9, .inr 9 40 151 hI215),(9, .trim)]
noncomputable def hI216:List (Nat×Hint):=[(3, .inl 4 271 hI143),(3, .trim),(6, .inl 8 208 hI230),(6, .trim),(13, .inl 4 272 hI223),(13, .trim)]
noncomputable def hI219:List (Nat×Hint):=[(16, .rounds (List.replicate 3 [(28, .trim)])),(36, .trim)]
noncomputable def hI199:List (Nat×Hint):=[(4, .trim),(7, .trim),(11, .inl 3 266 hI217),(11, .trim),(17, .trim),(24, .rounds (List.replicate 3 [(36, .trim),(39, .trim)])),(44, .inl 5 268 hI219),(44, .trim),(47, .inr 8 300 264 hI214),(47, .trim),(52, .trim),(57, .inr 8 300 151 hI215),(57, .trim),(62, .trim),(66, .inl 2 265 hI216),(66, .trim)]
noncomputable def hI569:List (Nat×Hint):=[(3, .trim),(5, .trim),(10, .rounds (List.replicate 3 [(22, .trim),(23, .trim)])),(26, .inl 4 37 (hI419 198 hI199)),(26, .trim)]
noncomputable def hI554:List (Nat×Hint):=[(5, .trim),(11, .inl 1 14 hI550),(11, .trim),(17, .trim),(24, .inl 3 11 hI566),(24, .trim),(34, .trim),(44, .inl 9 41 hI568),(44, .trim),(54, .trim),(58, .trim),(65, .rounds (List.replicate 3 [(82, .rounds (List.replicate 3 [])),(100, .inl 3 42 hI569),(100, .trim)]))]
noncomputable def hI661:List (Nat×Hint):=[(3, .inl 0 4 hI34),(3, .trim),(5, .inl 1 5 hI659),(5, .trim),(15, .trim),(17, .inl 7 12 hI554),(17, .trim),(19, .inl 2 10 hI618),(19, .trim)]
noncomputable def cx661:Ctx:=mkC tys cells maps [(92,sl56),(16,s71),(35,s73),(34,sl74),(69,sl83),(91,sl84),(95,sx86),(93,sx87),(77,s89),(156,s92),(102,s93),(46,s131),(47,s132),(49,s134),(50,s135),(29,s137),(72,sl138),(81,s140),(104,s173),(38,s175),(84,s177),(139,s178),(140,s179),(155,s193),(261,s210),(262,s211),(267,sx218),(269,s220),(270,s221),(293,s231),(214,s232),(147,s233),(209,s234),(215,s235),(294,s237),(207,s240),(210,s242),(274,s247),(352,s304),(98,sl466),(80,s478),(87,s479),(85,s480),(36,sl483),(6,sl539),(51,sl543),(33,s564),(39,s565),(40,sl567),(32,s574),(73,sl576),(68,s578),(96,s579),(97,sl580),(99,sx581),(100,sl582),(152,sl589),(30,sl624),(31,sl625),(7,sl660)] [62,115,121,118,192,58,119,123,190,97,92,152,90,110,103,48,353,141,107,81,45,46] [(18,Tryz.f18),(103,Tryz.f103),(48,Tryz.f48),(19,Tryz.f19),(45,Tryz.f45),(17,Tryz.f17),(4,Tryz.f4),(101,Tryz.f101),(43,Tryz.f43),(20,Tryz.f20),(5,Tryz.f5),(82,Tryz.f82),(86,Tryz.f86),(37,Tryz.f37),(266,Tryz.f266),(197,Tryz.f197),(11,Tryz.f11),(10,Tryz.f10),(14,Tryz.f14),(105,Tryz.f105),(216,Tryz.f216),(151,Tryz.f151),(94,Tryz.f94),(41,Tryz.f41),(133,Tryz.f133),(75,Tryz.f75),(360,Tryz.f360),(208,Tryz.f208),(271,Tryz.f271),(264,Tryz.f264),(272,Tryz.f272),(265,Tryz.f265),(268,Tryz.f268),(198,Tryz.f198),(42,Tryz.f42),(12,Tryz.f12)] cxA
noncomputable def run661:Unit->Option Bool:=fun x=>evF cx661 Tryz.f15 hI661 P661 R661 x
noncomputable def sx661:Ev.Spec:=⟨P661,R661,run661⟩
theorem kx661:FnOk Tryz.prog 15 sx661:=fn_okSX (C:=cx661) (hs:=hI661) (ps:=P661) (rs:=R661) (specs:=[(92,sl56),(16,s71),(35,s73),(34,sl74),(69,sl83),(91,sl84),(95,sx86),(93,sx87),(77,s89),(156,s92),(102,s93),(46,s131),(47,s132),(49,s134),(50,s135),(29,s137),(72,sl138),(81,s140),(104,s173),(38,s175),(84,s177),(139,s178),(140,s179),(155,s193),(261,s210),(262,s211),(267,sx218),(269,s220),(270,s221),(293,s231),(214,s232),(147,s233),(209,s234),(215,s235),(294,s237),(207,s240),(210,s242),(274,s247),(352,s304),(98,sl466),(80,s478),(87,s479),(85,s480),(36,sl483),(6,sl539),(51,sl543),(33,s564),(39,s565),(40,sl567),(32,s574),(73,sl576),(68,s578),(96,s579),(97,sl580),(99,sx581),(100,sl582),(152,sl589),(30,sl624),(31,sl625),(7,sl660)]) (dyns:=[62,115,121,118,192,58,119,123,190,97,92,152,90,110,103,48,353,141,107,81,45,46]) (codes:=[(18,Tryz.f18),(103,Tryz.f103),(48,Tryz.f48),(19,Tryz.f19),(45,Tryz.f45),(17,Tryz.f17),(4,Tryz.f4),(101,Tryz.f101),(43,Tryz.f43),(20,Tryz.f20),(5,Tryz.f5),(82,Tryz.f82),(86,Tryz.f86),(37,Tryz.f37),(266,Tryz.f266),(197,Tryz.f197),(11,Tryz.f11),(10,Tryz.f10),(14,Tryz.f14),(105,Tryz.f105),(216,Tryz.f216),(151,Tryz.f151),(94,Tryz.f94),(41,Tryz.f41),(133,Tryz.f133),(75,Tryz.f75),(360,Tryz.f360),(208,Tryz.f208),(271,Tryz.f271),(264,Tryz.f264),(272,Tryz.f272),(265,Tryz.f265),(268,Tryz.f268),(198,Tryz.f198),(42,Tryz.f42),(12,Tryz.f12)]) (x:=cxA) rfl hm hT cxOk ⟨kl56,k71,k73,kl74,kl83,kl84,kx86,kx87,k89,k92,k93,k131,k132,k134,k135,k137,kl138,k140,k173,k175,k177,k178,k179,k193,k210,k211,kx218,k220,k221,k231,k232,k233,k234,k235,k237,k240,k242,k247,k304,kl466,k478,k479,k480,kl483,kl539,kl543,k564,k565,kl567,k574,kl576,k578,k579,kl580,kx581,kl582,kl589,kl624,kl625,kl660,trivial⟩ ⟨Tryz.func18,Tryz.func103,Tryz.func48,Tryz.func19,Tryz.func45,Tryz.func17,Tryz.func4,Tryz.func101,Tryz.func43,Tryz.func20,Tryz.func5,Tryz.func82,Tryz.func86,Tryz.func37,Tryz.func266,Tryz.func197,Tryz.func11,Tryz.func10,Tryz.func14,Tryz.func105,Tryz.func216,Tryz.func151,Tryz.func94,Tryz.func41,Tryz.func133,Tryz.func75,Tryz.func360,Tryz.func208,Tryz.func271,Tryz.func264,Tryz.func272,Tryz.func265,Tryz.func268,Tryz.func198,Tryz.func42,Tryz.func12,trivial⟩ (by kernel_rfl) Tryz.func15 (by kernel_rfl)
end Sx
end
