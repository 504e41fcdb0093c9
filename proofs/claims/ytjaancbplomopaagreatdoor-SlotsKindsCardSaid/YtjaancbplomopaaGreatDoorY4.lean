/- The statement's own run: hints and context. No conditions. -/
import Derived.Test.YtjaancbplomopaaGreatDoorX
import Derived.Test.YtjaancbplomopaaGreatDoorY3
import Derived.Test.YtjaancbplomopaaGreatDoorY
set_option linter.unusedVariables false
set_option linter.unusedSimpArgs false
set_option linter.unusedSectionVars false
set_option maxRecDepth 100000
section
open Go Go.Proofs Ev
namespace Sx
noncomputable def hSB:List (Nat×Hint):=[(5, .trim),(11, .trim),(18, .trim),(20, .trim),(22, .trim),(27, .rounds (List.replicate 17 [(39, .rounds (List.replicate 3 [(57, .inl 4 37 (hI419 197 hI198)),(57, .trim)]))]))]
noncomputable def hG0:List (Nat×Hint):=[(3, .inl 0 4 hI34),(5, .inl 1 5 hI659),(23, .inl 2 10 [(5, .must true)]),(25, .inl 2 11 [(6, .must true)]),(27, .inl 2 10 [(11, .inl 3 11 [(6, .must true)]),(15, .must true)]),(29, .inl 5 12 [(6, .must true)]),(32, .inl 20 13 []),(32, .inl 25 14 hI550),(47, .inl 14 13 []),(51, .inl 4 13 [])]
noncomputable def hGA:List (Nat×Hint):=hG0++[(41, .inl 3 11 [(6, .must false),(12, .must true)]),(45, .must true)]
noncomputable def hGB:List (Nat×Hint):=hG0++[(41, .pick 2 17),(41, .inl 3 11 ([(6, .must false)]++hSB))]
noncomputable def gSP(W4:Int->Int)(W30:Int->Int)(VS:CapG->Bool)(CR:CapG->Bool)(CW:CapG->Bool)(TR:Int->Bool)(SH:Vector UInt8 16->Nat->UInt8)(IX:Vector UInt8 16->Nat->UInt8)(PC:Vector UInt8 16->Nat->UInt8)(PR:Vector UInt8 16->Nat->UInt8):List (FuncId×Ev.Spec):=[(9,(gWit W4 W30)),(16,s71),(35,s73),(34,gIxx),(156,s92),(102,s93),(46,s131),(47,s132),(49,s134),(50,s135),(29,(gcr CR)),(81,s140),(104,s173),(38,(gcw CW)),(84,s177),(139,s178),(140,s179),(155,s193),(270,s221),(352,s304),(13,s420),(8,(gRvo IX)),(80,s478),(87,s479),(85,s480),(36,gOrd),(6,(gRsl SH)),(51,(gPri PC)),(33,(gTri TR)),(39,s565),(40,s567),(32,(gsl VS)),(30,s624),(31,s625),(7,(gRpr PR)),(15,s661)]
noncomputable def cG(W4:Int->Int)(W30:Int->Int)(VS:CapG->Bool)(CR:CapG->Bool)(CW:CapG->Bool)(TR:Int->Bool)(SH:Vector UInt8 16->Nat->UInt8)(IX:Vector UInt8 16->Nat->UInt8)(PC:Vector UInt8 16->Nat->UInt8)(PR:Vector UInt8 16->Nat->UInt8):Ctx:=mkC tys cells maps (gSP W4 W30 VS CR CW TR SH IX PC PR) [62,115,121,118,192,58,119,123,190,97,92,152,90,110,103,48,353,141,107,81,45,46] [(13,Tryz.f13),(10,Tryz.f10),(12,Tryz.f12),(18,Tryz.f18),(103,Tryz.f103),(48,Tryz.f48),(19,Tryz.f19),(45,Tryz.f45),(17,Tryz.f17),(4,Tryz.f4),(101,Tryz.f101),(43,Tryz.f43),(20,Tryz.f20),(5,Tryz.f5),(82,Tryz.f82),(86,Tryz.f86),(37,Tryz.f37),(266,Tryz.f266),(197,Tryz.f197),(11,Tryz.f11),(14,Tryz.f14)] cxA
noncomputable def gRunA(W4:Int->Int)(W30:Int->Int)(VS:CapG->Bool)(CR:CapG->Bool)(CW:CapG->Bool)(TR:Int->Bool)(SH:Vector UInt8 16->Nat->UInt8)(IX:Vector UInt8 16->Nat->UInt8)(PC:Vector UInt8 16->Nat->UInt8)(PR:Vector UInt8 16->Nat->UInt8)(x:InT P658):Option Bool:=evF (cG W4 W30 VS CR CW TR SH IX PC PR) Tryz.f3 hGA P658 R658 x
noncomputable def gRunB(W4:Int->Int)(W30:Int->Int)(VS:CapG->Bool)(CR:CapG->Bool)(CW:CapG->Bool)(TR:Int->Bool)(SH:Vector UInt8 16->Nat->UInt8)(IX:Vector UInt8 16->Nat->UInt8)(PC:Vector UInt8 16->Nat->UInt8)(PR:Vector UInt8 16->Nat->UInt8)(x:InT P658):Option Bool:=evF (cG W4 W30 VS CR CW TR SH IX PC PR) Tryz.f3 hGB P658 R658 x
noncomputable def capZ:CapG:=(0,Vector.replicate 16 0,Vector.replicate 32 0,0,0,0,[],())
noncomputable def badC(kind i:Int):CapG:=List.getD [((1:Int),Vector.replicate 16 (0:UInt8),Vector.replicate 32 (0:UInt8),(1:Int),(1:Int),(1:Int),([]:List UInt8),()),(3,Vector.replicate 16 0,Vector.replicate 32 0,0,0,0,[],()),(kind.tmod 4,Vector.replicate 16 0,Vector.replicate 32 0,0,0,0,[],()),(0,Vector.replicate 16 0,Vector.replicate 32 0,0,0,0,[],())] i.toNat capZ
noncomputable def TWA(wb sv tr:Bool)(t:Int):Option Bool:=cond (!wb) (cond (!sv) none (cond (!tr) (cond (decide (t<1)) (some true) (cond (decide (16<t)) (some true) none)) none)) none
noncomputable def TWB(wb sv:Bool)(t:Int):Option Bool:=cond (!wb) (if t=((0:Nat):Int)then cond (!sv) none (some true)else if t=((1:Nat):Int)then cond (!sv) none (some true)else if t=((2:Nat):Int)then cond (!sv) none (some true)else if t=((3:Nat):Int)then cond (!sv) none (some true)else if t=((4:Nat):Int)then cond (!sv) none (some true)else if t=((5:Nat):Int)then cond (!sv) none (some true)else if t=((6:Nat):Int)then cond (!sv) none (some true)else if t=((7:Nat):Int)then cond (!sv) none (some true)else if t=((8:Nat):Int)then cond (!sv) none (some true)else if t=((9:Nat):Int)then cond (!sv) none (some true)else if t=((10:Nat):Int)then cond (!sv) none (some true)else if t=((11:Nat):Int)then cond (!sv) none (some true)else if t=((12:Nat):Int)then cond (!sv) none (some true)else if t=((13:Nat):Int)then cond (!sv) none (some true)else if t=((14:Nat):Int)then cond (!sv) none (some true)else if t=((15:Nat):Int)then cond (!sv) none (some true)else if t=((16:Nat):Int)then cond (!sv) none (some true)else none) none
noncomputable def TT(cr sb cb:Bool)(x:Option Bool):Option Bool:=cond (!cr) (cond (!sb) (cond (!cb) x (cond (!sb) x none)) none) none
end Sx
end
