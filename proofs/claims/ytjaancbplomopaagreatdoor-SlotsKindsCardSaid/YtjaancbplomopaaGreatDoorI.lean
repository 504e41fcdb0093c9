/- The statement's row holds where its functional reading answers true for all arguments. -/
import Derived.Test.YtjaancbplomopaaGreatDoorY7
import Derived.Test.YtjaancbplomopaaGreatDoorD
import Derived.Test.YtjaancbplomopaaGreatDoorRows
import Derived.Test.YtjaancbplomopaaGreatDoorTie
import Derived.Test.YtjaancbplomopaaGreatDoorCards
import Derived.SevenTiedAt
import Derived.ChangeCalls
set_option linter.unusedVariables false
set_option linter.unusedSimpArgs false
set_option linter.unusedSectionVars false
set_option maxRecDepth 100000
section
namespace Go.Proofs.YtjaancbplomopaaGreatDoor
open Go Go.ChangeShapes Go.WideShapes Go.ChangeAt Go.RowKit Ev Sx
theorem own:ownKnob Tryz.prog.godebug=none:=by kernel_rfl
theorem laidOut:laidOutB Tryz.prog=true:=by kernel_rfl
theorem gP:Tryz.prog.globalNamed "internal/strconv.uint64pow10" =some 1:=by kernel_rfl
theorem gPT:(Tryz.prog.globals[1]?).map (·.type)=some 407:=by kernel_rfl
def ints(k:IntKind)(d:DataW Unit):Array Value:=match d with
 | .agg l=>(l.map fun x=>match x with| .lit (.int _ z)=>Value.int k z|_=>undef).toArray
 |_=> #[]
def layAt(h:Array Obj)(i:Nat)(vs:Array Value):Array Obj:=h.modify i fun
 | .cells _ t frozen=> .cells vs t frozen
 |o=>o
noncomputable def laidWorld(os:Os):World:=
 {World.holding Tryz.prog os ⟨#[],#[],[]⟩with heap:=layAt (layAt (layAt ((World.holding Tryz.prog os ⟨#[],#[],[]⟩).heap) 1 (ints .u64 Rows.laid_internal_strconv_uint64pow10)) 2 (ints .u8 Rows.laid_math_bits_deBruijn32tab)) 3 (ints .u8 Rows.laid_math_bits_deBruijn64tab)}
noncomputable def args0:Array Value:= #[.agg (Array.replicate 16 (.int .u8 0)), .int .i64 0, .int .i64 0]
theorem laid_met(os:Os):laidMet Tryz.prog Rows.slotsKindsRow.laid ((laidWorld os).forCall (fun _ _=>0) ⟨#[],args0,[]⟩).memory:=
 laidMet_of_run' 8 (by kernel_rfl) (by kernel_rfl)
theorem witness_row(os:Os){H:Type}(enc:TypeId×Value->H):
 (OpenSpec.ofChange Rows.slotsKindsSpec).preRow enc Tryz.prog Tryz.f3 Rows.slotsKindsRow.domain false Rows.slotsKindsRow.laid ((laidWorld os).forCall (fun _ _=>0) ⟨#[],args0,[]⟩).memory args0:=by
 have hw:(DataW.whole enc Tryz.prog ((laidWorld os).forCall (fun _ _=>0) ⟨#[],args0,[]⟩).memory Tryz.f3.params.toList (OpenSpec.ofChange Rows.slotsKindsSpec).vars false args0.toList 8).map (fun x=>(x.1,x.2.1))=
  some ([.agg (List.replicate 16 (.lit (.int .u8 0))), .lit (.int .i64 0), .lit (.int .i64 0)],[]):=by kernel_rfl
 obtain⟨⟨x1,x2,x3⟩,hx,hx1⟩:=Option.map_eq_some_iff.1 hw
 simp only[Prod.mk.injEq]at hx1
 obtain⟨rfl,rfl⟩:=hx1
 exact OpenSpec.preRow_of_cond 8 hx (by kernel_rfl) (fun k hk=>by cases hk) (by kernel_rfl) (laid_met os)
theorem parOk:ParOk Tryz.prog [23,3,3] [(.arr 16 .u8), .i64, .i64]:=
 ⟨⟨tyOkB_ok (by kernel_rfl),rfl⟩,⟨tyOkB_ok (by kernel_rfl),rfl⟩,⟨tyOkB_ok (by kernel_rfl),rfl⟩,trivial⟩
theorem lifted(hlaw: ∀x:InT (([(.arr 16 .u8), .i64, .i64]:List Ty).map PK.v),okA [(.arr 16 .u8), .i64, .i64] x->(r658 x:Option Bool)=some true)(os:Os)(started:os.Started)(H:Type)(enc:TypeId×Value->H)(F:Stop.Interp):
 ReturnsInHanded {} Tryz.checked os 3 .any ((OpenSpec.ofChange Rows.slotsKindsSpec).preRow enc Tryz.prog Tryz.f3 Rows.slotsKindsRow.domain false Rows.slotsKindsRow.laid) (((OpenSpec.ofChange Rows.slotsKindsSpec).at F).post enc Tryz.prog Tryz.f3 false true false false):=by
 refine returnsInHanded_of_row (C:=Tryz.checked) (s:=OpenSpec.ofChange Rows.slotsKindsSpec) own started (by kernel_rfl) Tryz.func3
  (witness_row_at (enc:=enc) (C:=Tryz.checked) false (laidWorld os) args0 rfl (by kernel_rfl) (by kernel_rfl) (by kernel_rfl) (witness_row os enc)) ?_
 intro W base args ds gs before hval0 hW _ _ _ hL hsh _
 have hval: ∀(j:Nat) t v,Tryz.f3.params[j]?=some t->args[j]?=some v->Value.okWide Tryz.prog W .any base t v:=hval0
 have hW':=hW
 obtain⟨p,q,hA0,hV0,rfl,_,_⟩:=hW
 have hA:DataW.TrodAll enc Tryz.prog W 0 (fun _=>true) true Tryz.f3.params.toList args.toList ds p:=hA0
 have hV:DataW.TrodVars enc Tryz.prog W (fun _=>true) [] gs q:=hV0
 obtain⟨rfl,rfl⟩:gs=[]∧q=[]:=by
  cases gs with
  |nil=>exact⟨rfl,hV⟩
  |cons g r=>exact absurd hV (by intro h;cases h)
 rw[Tryz.params3]at hA hval
 have htab:Lib.TabIs Tryz.prog W "internal/strconv.uint64pow10" .u64 Lib.pow10Tab:=by
  have hL1:laidMetH Tryz.prog Rows.slotsKindsRow.laid W:=hL
  rw[Go.MakeChecks.laidMetH_plain _ _ _ (by kernel_rfl)]at hL1
  have hL2:=hL1.filter (fun x=>x.1== "internal/strconv.uint64pow10")
  have e:Rows.slotsKindsRow.laid.filter (fun x=>x.1== "internal/strconv.uint64pow10")=[("internal/strconv.uint64pow10",Lib.tabData .u64 Lib.pow10Tab)]:=by kernel_rfl
  rw[e]at hL2
  exact Lib.tabIs_of_head gP gPT (n:=20) (e:=225) (by kernel_rfl) (by kernel_rfl) (by kernel_rfl) (by kernel_rfl) hL2
 have hglob:Glob Tryz.prog noM W:=by
  intro name vs hm gid hg
  simp only[tabs,List.mem_singleton,Prod.mk.injEq]at hm
  obtain⟨rfl,rfl⟩:=hm
  obtain rfl:=Option.some.inj (gP.symm.trans hg)
  refine⟨htab,?_,fun h=>h⟩
  exact some_cell_lt (htab.cell gP 0 (by decide))
 obtain⟨x,hx,ix⟩:=args_rel (P:=Tryz.prog) (w:=W) _ _ args.toList ds p parOk (fun j t v h1 h2=>hval j t v (by simpa using h1) (by simpa using h2)) hA
 have hlt: ∀y∈p,y.block<W.heap.size:=fun y hy=>by simpa using hW'.lt y (by simp[hy])
 refine(law_calls (ts:=[(.arr 16 .u8), .i64, .i64]) (run:=r658) k658 hglob ⟨x,hx,ix⟩ true hlaw fun w' M' old us bs h=> ?_).mono ?_
 ·have h':OutR w' M' old [.v .bool] [] true us bs:=h
  obtain⟨v,rfl,hv,_⟩:=h'
  have hv':RelC w' M' .bool true [v]:=hv
  simp only[RelC]at hv'
  rw[hv']
 ·rintro e W' ⟨rfl,bel⟩
  have hlen:=(Go.trodAll_length hA).2
  rcases ds with _|⟨d1,_|⟨d2,_|⟨d3,_|⟨d4,r⟩⟩⟩⟩<;>simp at hlen
  have e1:((OpenSpec.ofChange Rows.slotsKindsSpec).at F).fn H ([d1,d2,d3]++[])= {results:=[.lit (.bool true)],args:=[d1,d2,d3]}:=rfl
  refine⟨_,rfl,_,_,_,[],p,[],hW',?_,?_,?_,bel.frame _,fun h=>by cases h⟩
  ·rw[e1];exact trodAll_mk1 (shut_bool Tryz.underlying4 true)
  ·rw[e1];exact args_stay laidOut bel _ _ _ _ (by kernel_rfl) hlt hA
  ·rw[e1];rfl
theorem j10:(Rows.slotsKindsRow.inPlace==Tryz.pinned.checked.prog.inPlace 3)=true:=by kernel_rfl
theorem j11:(Rows.slotsKindsRow.unfollowed==Tryz.pinned.checked.prog.unfollowed 3)=true:=by kernel_rfl
theorem j12:(Rows.slotsKindsRow.recurses==Tryz.pinned.checked.prog.recurses 3)=true:=by kernel_rfl
theorem j13:(Rows.slotsKindsRow.named==Tryz.pinned.checked.prog.varsNamed 3)=true:=by kernel_rfl
theorem jf:joinedFacts Tryz.pinned.checked.prog 3 Tryz.f3 (OpenSpec.ofChange Rows.slotsKindsSpec).bare Rows.slotsKindsRow=true:=by
 unfold joinedFacts
 rw[j10,j11,j12,j13]
 kernel_rfl
theorem row_holds(hlaw: ∀x:InT (([(.arr 16 .u8), .i64, .i64]:List Ty).map PK.v),okA [(.arr 16 .u8), .i64, .i64] x->(r658 x:Option Bool)=some true):Rows.SlotsKindsSaid:=
 OpenClaim.holds_of_cond 3 Tryz.f3 rfl rfl rfl rfl rfl rfl rfl ⟨rfl,rfl,rfl,rfl,rfl⟩ rfl rfl rfl rfl rfl (by kernel_rfl) Tryz.func3 jf
  (of_decide_eq_true (by kernel_rfl)) (by unfold Func.isWrapper;rw[if_neg (of_decide_eq_false (by kernel_rfl))];exact⟨rfl,rfl⟩)
  (fun os started H enc _ F0=>by rw[OpenClaim.pre_eq_preRow];exact lifted hlaw os started H enc F0)
end Go.Proofs.YtjaancbplomopaaGreatDoor
end
