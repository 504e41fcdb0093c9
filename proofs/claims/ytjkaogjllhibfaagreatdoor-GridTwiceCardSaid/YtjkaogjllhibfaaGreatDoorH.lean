/- Each function that the statement reaches keeps its contract. No conditions. -/
import Derived.Test.YtjkaogjllhibfaaGreatDoorProg
import Derived.Shelf.LaysM
import Derived.Ground.NamesProg
import Derived.Shelf.Strconv.Itoa3
import Derived.Ground.SlgnProg
import Derived.Shelf.SlicesE.Clone
import Derived.Shelf.GgSortFunc.Tiny
import Derived.Ground.GgsProg
import Derived.Test.YtjkaogjllhibfaaGreatDoorE
import Derived.Test.YtjkaogjllhibfaaGreatDoorD
set_option linter.unusedVariables false
set_option linter.unusedSimpArgs false
set_option linter.unusedSectionVars false
set_option maxRecDepth 100000
section
namespace Go.Proofs
open Go.Shelf
def Tryz.laysItoa_ren:Go.Shelf.Ren:=⟨fun|171=>184|243=>241|246=>288|283=>341|284=>342|285=>343|286=>344|129=>299|317=>364|318=>365|319=>366|320=>367|337=>380|338=>381|n=>n,fun|3=>3|9=>9|2=>2|4=>4|171=>452|0=>0|53=>123|37=>33|5=>5|173=>454|212=>473|51=>225|20=>20|213=>474|46=>39|232=>31|233=>490|n=>n,fun|17=>1|18=>2|19=>3|n=>n⟩
theorem Tryz.laysItoa:Go.Proofs.LaysM.n171 Tryz.prog Tryz.laysItoa_ren:={
 mixed:=by kernel_rfl
 f129:=Tryz.func299.trans (congrArg some (by kernel_rfl))
 f171:=Tryz.func184.trans (congrArg some (by kernel_rfl))
 f243:=Tryz.func241.trans (congrArg some (by kernel_rfl))
 f246:=Tryz.func288.trans (congrArg some (by kernel_rfl))
 f283:=Tryz.func341.trans (congrArg some (by kernel_rfl))
 f284:=Tryz.func342.trans (congrArg some (by kernel_rfl))
 f285:=Tryz.func343.trans (congrArg some (by kernel_rfl))
 f286:=Tryz.func344.trans (congrArg some (by kernel_rfl))
 f317:=Tryz.func364.trans (congrArg some (by kernel_rfl))
 f318:=Tryz.func365.trans (congrArg some (by kernel_rfl))
 f319:=Tryz.func366.trans (congrArg some (by kernel_rfl))
 f320:=Tryz.func367.trans (congrArg some (by kernel_rfl))
 f337:=Tryz.func380.trans (congrArg some (by kernel_rfl))
 f338:=Tryz.func381.trans (congrArg some (by kernel_rfl))
 t0:=Tryz.underlying0
 a0:=Tryz.isAgg0
 z0:=Tryz.sizeOf0
 v0:=Tryz.zeroValue0
 t2:=Tryz.underlying2
 a2:=Tryz.isAgg2
 z2:=Tryz.sizeOf2
 v2:=Tryz.zeroValue2
 t3:=Tryz.underlying3
 a3:=Tryz.isAgg3
 z3:=Tryz.sizeOf3
 v3:=Tryz.zeroValue3
 t4:=Tryz.underlying4
 a4:=Tryz.isAgg4
 z4:=Tryz.sizeOf4
 v4:=Tryz.zeroValue4
 t5:=Tryz.underlying5
 a5:=Tryz.isAgg5
 z5:=Tryz.sizeOf5
 v5:=Tryz.zeroValue5
 t9:=Tryz.underlying9
 a9:=Tryz.isAgg9
 z9:=Tryz.sizeOf9
 v9:=Tryz.zeroValue9
 t20:=Tryz.underlying20
 a20:=Tryz.isAgg20
 z20:=Tryz.sizeOf20
 v20:=Tryz.zeroValue20
 t37:=Tryz.underlying33
 a37:=Tryz.isAgg33
 z37:=Tryz.sizeOf33
 v37:=Tryz.zeroValue33
 t46:=Tryz.underlying39
 a46:=Tryz.isAgg39
 z46:=Tryz.sizeOf39
 v46:=Tryz.zeroValue39
 t51:=Tryz.underlying225
 a51:=Tryz.isAgg225
 z51:=Tryz.sizeOf225
 v51:=Tryz.zeroValue225
 t53:=Tryz.underlying123
 a53:=Tryz.isAgg123
 z53:=Tryz.sizeOf123
 v53:=Tryz.zeroValue123
 t171:=Tryz.underlying452
 a171:=Tryz.isAgg452
 z171:=Tryz.sizeOf452
 v171:=Tryz.zeroValue452
 t173:=Tryz.underlying454
 a173:=Tryz.isAgg454
 z173:=Tryz.sizeOf454
 v173:=Tryz.zeroValue454
 t212:=Tryz.underlying473
 a212:=Tryz.isAgg473
 z212:=Tryz.sizeOf473
 v212:=Tryz.zeroValue473
 t213:=Tryz.underlying474
 a213:=Tryz.isAgg474
 z213:=Tryz.sizeOf474
 t232:=Tryz.underlying31
 a232:=Tryz.isAgg31
 z232:=Tryz.sizeOf31
 v232:=Tryz.zeroValue31
 t233:=Tryz.underlying490
 a233:=Tryz.isAgg490
 z233:=Tryz.sizeOf490
 v233:=Tryz.zeroValue490
 g17:=by kernel_rfl
 g18:=by kernel_rfl
 g19:=by kernel_rfl
 i0:=by kernel_rfl
 i2:=by kernel_rfl
 i3:=by kernel_rfl
 i4:=by kernel_rfl
 i5:=by kernel_rfl
 i9:=by kernel_rfl
 i20:=by kernel_rfl
 i37:=by kernel_rfl
 i46:=by kernel_rfl
 i51:=by kernel_rfl
 i53:=by kernel_rfl
 i171:=by kernel_rfl
 i173:=by kernel_rfl
 i212:=by kernel_rfl
 i232:=by kernel_rfl
 i233:=by kernel_rfl
 m17:=by kernel_rfl
 m18:=by kernel_rfl
 m19:=by kernel_rfl}
def Tryz.laysClone_ren:Go.Shelf.Ren:=⟨fun|41=>59|n=>n,fun|22=>33|23=>5|4=>4|n=>n,fun|n=>n⟩
theorem Tryz.laysClone:Go.Proofs.SlLaysE0.n41 Tryz.prog Tryz.laysClone_ren:={
 mixed:=by kernel_rfl
 f41:=⟨Tryz.f59.name,by decide,Tryz.func59.trans (congrArg some (by kernel_rfl))⟩
 t4:=Tryz.underlying4
 a4:=Tryz.isAgg4
 z4:=Tryz.sizeOf4
 v4:=Tryz.zeroValue4
 t22:=Tryz.underlying33
 a22:=Tryz.isAgg33
 z22:=Tryz.sizeOf33
 v22:=Tryz.zeroValue33}
def Tryz.laysSort_ren:Go.Shelf.Ren:=⟨fun|6=>217|10=>276|11=>277|12=>278|13=>248|14=>279|24=>298|25=>299|26=>329|27=>330|28=>331|29=>332|30=>333|31=>334|32=>335|33=>336|34=>357|35=>358|36=>359|37=>360|38=>361|39=>378|n=>n,fun|20=>20|26=>337|35=>392|0=>0|37=>254|3=>3|41=>39|44=>397|49=>225|51=>123|4=>4|54=>442|53=>441|58=>168|5=>5|9=>9|60=>467|64=>460|66=>483|67=>298|17=>17|32=>389|33=>390|82=>505|12=>12|75=>498|76=>499|77=>500|78=>501|79=>502|80=>503|n=>n,fun|n=>n⟩
theorem Tryz.laysSort:Go.Proofs.LaysGg.n6 Tryz.prog Tryz.laysSort_ren:={
 mixed:=by kernel_rfl
 f6:=Tryz.func217.trans (congrArg some (by kernel_rfl))
 f10:=Tryz.func276.trans (congrArg some (by kernel_rfl))
 f11:=Tryz.func277.trans (congrArg some (by kernel_rfl))
 f12:=Tryz.func278.trans (congrArg some (by kernel_rfl))
 f13:=Tryz.func248.trans (congrArg some (by kernel_rfl))
 f14:=Tryz.func279.trans (congrArg some (by kernel_rfl))
 f24:=Tryz.func298.trans (congrArg some (by kernel_rfl))
 f25:=Tryz.func299.trans (congrArg some (by kernel_rfl))
 f26:=Tryz.func329.trans (congrArg some (by kernel_rfl))
 f27:=Tryz.func330.trans (congrArg some (by kernel_rfl))
 f28:=Tryz.func331.trans (congrArg some (by kernel_rfl))
 f29:=Tryz.func332.trans (congrArg some (by kernel_rfl))
 f30:=Tryz.func333.trans (congrArg some (by kernel_rfl))
 f31:=Tryz.func334.trans (congrArg some (by kernel_rfl))
 f32:=Tryz.func335.trans (congrArg some (by kernel_rfl))
 f33:=Tryz.func336.trans (congrArg some (by kernel_rfl))
 f34:=Tryz.func357.trans (congrArg some (by kernel_rfl))
 f35:=Tryz.func358.trans (congrArg some (by kernel_rfl))
 f36:=Tryz.func359.trans (congrArg some (by kernel_rfl))
 f37:=Tryz.func360.trans (congrArg some (by kernel_rfl))
 f38:=Tryz.func361.trans (congrArg some (by kernel_rfl))
 f39:=Tryz.func378.trans (congrArg some (by kernel_rfl))
 t0:=Tryz.underlying0
 a0:=Tryz.isAgg0
 z0:=Tryz.sizeOf0
 v0:=Tryz.zeroValue0
 i0:=by kernel_rfl
 t3:=Tryz.underlying3
 a3:=Tryz.isAgg3
 z3:=Tryz.sizeOf3
 v3:=Tryz.zeroValue3
 i3:=by kernel_rfl
 t4:=Tryz.underlying4
 a4:=Tryz.isAgg4
 z4:=Tryz.sizeOf4
 v4:=Tryz.zeroValue4
 i4:=by kernel_rfl
 t5:=Tryz.underlying5
 a5:=Tryz.isAgg5
 z5:=Tryz.sizeOf5
 v5:=Tryz.zeroValue5
 i5:=by kernel_rfl
 t9:=Tryz.underlying9
 a9:=Tryz.isAgg9
 z9:=Tryz.sizeOf9
 v9:=Tryz.zeroValue9
 i9:=by kernel_rfl
 t12:=Tryz.underlying12
 a12:=Tryz.isAgg12
 z12:=Tryz.sizeOf12
 v12:=Tryz.zeroValue12
 i12:=by kernel_rfl
 t17:=Tryz.underlying17
 a17:=Tryz.isAgg17
 z17:=Tryz.sizeOf17
 v17:=Tryz.zeroValue17
 i17:=by kernel_rfl
 t20:=Tryz.underlying20
 a20:=Tryz.isAgg20
 z20:=Tryz.sizeOf20
 v20:=Tryz.zeroValue20
 i20:=by kernel_rfl
 t26:=Tryz.underlying337
 a26:=Tryz.isAgg337
 z26:=Tryz.sizeOf337
 v26:=Tryz.zeroValue337
 i26:=by kernel_rfl
 t32:=Tryz.underlying389
 a32:=Tryz.isAgg389
 z32:=Tryz.sizeOf389
 v32:=Tryz.zeroValue389
 i32:=by kernel_rfl
 t33:=Tryz.underlying390
 a33:=Tryz.isAgg390
 z33:=Tryz.sizeOf390
 v33:=Tryz.zeroValue390
 i33:=by kernel_rfl
 t35:=Tryz.underlying392
 a35:=Tryz.isAgg392
 z35:=Tryz.sizeOf392
 v35:=Tryz.zeroValue392
 i35:=by kernel_rfl
 t37:=Tryz.underlying254
 a37:=Tryz.isAgg254
 z37:=Tryz.sizeOf254
 v37:=Tryz.zeroValue254
 i37:=by kernel_rfl
 t41:=Tryz.underlying39
 a41:=Tryz.isAgg39
 z41:=Tryz.sizeOf39
 v41:=Tryz.zeroValue39
 i41:=by kernel_rfl
 t44:=Tryz.underlying397
 a44:=Tryz.isAgg397
 z44:=Tryz.sizeOf397
 v44:=Tryz.zeroValue397
 i44:=by kernel_rfl
 t49:=Tryz.underlying225
 a49:=Tryz.isAgg225
 z49:=Tryz.sizeOf225
 v49:=Tryz.zeroValue225
 i49:=by kernel_rfl
 t51:=Tryz.underlying123
 a51:=Tryz.isAgg123
 z51:=Tryz.sizeOf123
 v51:=Tryz.zeroValue123
 i51:=by kernel_rfl
 t53:=Tryz.underlying441
 a53:=Tryz.isAgg441
 z53:=Tryz.sizeOf441
 v53:=Tryz.zeroValue441
 i53:=by kernel_rfl
 t54:=Tryz.underlying442
 a54:=Tryz.isAgg442
 z54:=Tryz.sizeOf442
 v54:=Tryz.zeroValue442
 i54:=by kernel_rfl
 t58:=Tryz.underlying168
 a58:=Tryz.isAgg168
 z58:=Tryz.sizeOf168
 v58:=Tryz.zeroValue168
 i58:=by kernel_rfl
 t60:=Tryz.underlying467
 a60:=Tryz.isAgg467
 z60:=Tryz.sizeOf467
 v60:=Tryz.zeroValue467
 i60:=by kernel_rfl
 t64:=Tryz.underlying460
 a64:=Tryz.isAgg460
 z64:=Tryz.sizeOf460
 v64:=Tryz.zeroValue460
 i64:=by kernel_rfl
 t66:=Tryz.underlying483
 a66:=Tryz.isAgg483
 z66:=Tryz.sizeOf483
 v66:=Tryz.zeroValue483
 i66:=by kernel_rfl
 t67:=Tryz.underlying298
 a67:=Tryz.isAgg298
 z67:=Tryz.sizeOf298
 v67:=Tryz.zeroValue298
 i67:=by kernel_rfl
 t75:=Tryz.underlying498
 a75:=Tryz.isAgg498
 z75:=Tryz.sizeOf498
 v75:=Tryz.zeroValue498
 i75:=by kernel_rfl
 t76:=Tryz.underlying499
 a76:=Tryz.isAgg499
 z76:=Tryz.sizeOf499
 v76:=Tryz.zeroValue499
 i76:=by kernel_rfl
 t77:=Tryz.underlying500
 a77:=Tryz.isAgg500
 z77:=Tryz.sizeOf500
 v77:=Tryz.zeroValue500
 i77:=by kernel_rfl
 t78:=Tryz.underlying501
 a78:=Tryz.isAgg501
 z78:=Tryz.sizeOf501
 v78:=Tryz.zeroValue501
 i78:=by kernel_rfl
 t79:=Tryz.underlying502
 a79:=Tryz.isAgg502
 z79:=Tryz.sizeOf502
 v79:=Tryz.zeroValue502
 i79:=by kernel_rfl
 t80:=Tryz.underlying503
 a80:=Tryz.isAgg503
 z80:=Tryz.sizeOf503
 v80:=Tryz.zeroValue503
 i80:=by kernel_rfl
 t82:=Tryz.underlying505
 a82:=Tryz.isAgg505
 z82:=Tryz.sizeOf505
 v82:=Tryz.zeroValue505
 i82:=by kernel_rfl}
end Go.Proofs
end
section
open Go Go.Proofs Go.Shelf Go.RowKit Go.Lib Ev
namespace Sx
theorem After.grow(w:World)(M:Nat->Prop)(hM: ∀B,M B->B<w.heap.size)(k:Nat)(os:Array Obj):After w M [] (Sort.grow (w.drewN k) os) M where
 size:=by simp[Sort.grow,World.drewN]
 blk B hB _:=by simp[Sort.grow,World.drewN,Array.getElem?_append_left hB]
 os:=rfl
 tape:=rfl
 output:=rfl
 m _ _:=Iff.rfl
 mlt B hB:=Nat.lt_of_lt_of_le (hM B hB) (by simp[Sort.grow,World.drewN])
theorem k127:FnOk Tryz.prog 184 s127:=by
 refine⟨(fnB_ok Tryz.func184 (by kernel_rfl)).1,fun w M x vs hM hg hx _ _ r hr=> ?_⟩
 obtain⟨v,l,rfl,hv,hl⟩:=hx
 have hl':l=[]:=hl
 subst hl'
 have hv':RelC w M .i64 x.1 [v]:=hv
 simp only[RelC,List.cons.injEq,and_true]at hv'
 subst hv'
 have hr':cond (decide (-9223372036854775808<=(x.1:Int))&&decide ((x.1:Int)<=9223372036854775807)) (some (Lib.itoa x.1)) none=(some r:Option (List UInt8)):=hr
 cases hc:decide (-9223372036854775808<=(x.1:Int))&&decide ((x.1:Int)<=9223372036854775807)with
 |false=>rw[hc]at hr';cases hr'
 |true=>
  rw[hc]at hr'
  simp only[cond_true]at hr'
  simp only[Bool.and_eq_true,decide_eq_true_eq]at hc
  refine(Any.strconv_Itoa Tryz.laysItoa x.1 hc.1 hc.2 w (hg _ _ (by simp[tabs]) 1 (by kernel_rfl)).1).mono ?_
  rintro e w' ⟨rfl,k,os,rfl⟩
  refine⟨[.string ⟨(Lib.itoa x.1).toArray⟩],M,rfl,?_,After.grow w M hM k os⟩
  refine⟨_,rfl,?_,rfl⟩
  have e:(Lib.itoa x.1:List UInt8)=r:=by injection hr'
  have:RelC (Sort.grow (w.drewN k) os) M .str (Lib.itoa x.1:List UInt8) [.string ⟨(Lib.itoa x.1).toArray⟩]:=by simp only[RelC]
  exact e▸this
theorem info5: ∃i0,Tryz.prog.info? 5=some i0∧i0.zero=some (.int .u8 0)∧i0.size=1∧i0.bytes=1:=by
 have h:(Tryz.prog.info? 5).map (fun i=>(i.zero,i.size,i.bytes))=some (some (.int .u8 0),1,1):=by kernel_rfl
 obtain⟨i0,h1,h2⟩:=Option.map_eq_some_iff.1 h
 simp only[Prod.mk.injEq]at h2
 exact⟨i0,h1,h2.1,h2.2.1,h2.2.2⟩
theorem clone_zero(a:Addr)(c:Nat)(w:World):
 Calls Tryz.prog 59 #[.slice (some a) 0 c] w fun e w'=> ∃v',e= .returned v'∧w'.ownsRow w.heap.size 5 1 v' 0 []∧Below w.heap.size w w':=by
 have q: ∀(w:World) (a:Option Addr) (n c n' c':Nat),(binOp .eql 33 (.slice a n c) (.slice none n' c')).run Tryz.prog w= .ok (.bool a.isNone) w:=fun w a n c n' c'=>Lib.run_eql_slice_nil w _ _ a n c n' c' Tryz.underlying33
 obtain⟨i0,hi,hz0,hz1,hz2⟩:=info5
 go_enter Tryz.func59,Tryz.ntmps59
 go_wp2_with (at_builtin;refine wpList_append_own _ rfl _ _ 33 rfl w.heap.size 5 i0 (.int .u8 0) 1 1 Tryz.underlying33 hi hz0 hz1 hz2 rfl (by decide) _ _ _ rfl (World.ownsRow_made w #[] 0 (Nat.le_refl _) (Nat.zero_le _) rfl) a 0 c [] rfl rfl (by intro j u hj;simp at hj) (by intro u hu;cases hu) (by unfold maxLen;omega) (by omega) (by simp) ?_)
 intro v' w1 hown hgrow hnil
 go_wp2
 go_ret
 exact⟨v',rfl,by simpa using hown,((Below.refl _ w).alloc (Nat.le_refl _) _).grown hgrow (by simp) (by intro k hk;simp[Value.ownBlock]at hk;omega)⟩
theorem After.ofBelow{w w':World}{M:Nat->Prop}(hM: ∀B,M B->B<w.heap.size)(h:Below w.heap.size w w'):After w M [] w' M:=
 ⟨h.size,fun B hB _=>h.block B hB,h.os,h.tape,h.output,fun _ _=>Iff.rfl,fun B hB=>Nat.lt_of_lt_of_le (hM B hB) h.size⟩
theorem bytesOne: ∀ {l:List UInt8} {vs:List Value} {w:World} {M:Nat->Prop},RowR (fun(y:Val .u8) u=>RelC w M .u8 y u) l vs-> ∀u∈vs,u.oneCell'=true:=by
 intro l vs w M h
 refine RowR.all (p:=fun u=>u.oneCell'=true) ?_ h
 intro x u hu v hv
 have hu':u=[.int .u8 (x:UInt8).toNat]:=hu
 subst hu'
 simp only[List.mem_singleton]at hv
 subst hv;rfl
theorem owns_rel{w w':World}{M:Nat->Prop}(hM: ∀B,M B->B<w.heap.size){l:List UInt8}{vs:List Value}{w0:World}{M0:Nat->Prop}(hr:RowR (fun(y:Val .u8) u=>RelC w0 M0 .u8 y u) l vs){v':Value}(h:w'.ownsRow w.heap.size 5 1 v' l.length vs):RelC w' M (.sl .u8) l [v']:=by
 obtain⟨h1,h2⟩:=h
 rcases h2 with⟨rfl,h2⟩|⟨g,cap,cur,rfl,hg,hc,hlc,_,hsz,ht⟩
 ·have:l=[]:=List.length_eq_zero_iff.1 h2
  subst this
  simp only[RelC]
  exact .inl ⟨trivial,none,0,rfl⟩
 ·by_cases hl:l=[]
  ·subst hl
   simp only[RelC]
   exact .inl ⟨trivial,_,_,rfl⟩
  ·simp only[RelC]
   have hlt:g<w'.heap.size:=(Array.getElem?_eq_some_iff.1 hc).1
   refine .inr ⟨hl,g,0,cap,vs,rfl,hlc,hlt,fun hm=>absurd (hM g hm) (by omega),fun i v hv=> ?_,hr.mono fun x u hu=>hu⟩
   have hi:i<vs.length:=(List.getElem?_eq_some_iff.1 hv).1
   rw[←ht]at hv
   rw[List.getElem?_take]at hv
   split at hv
   ·simp only[World.cell?,Nat.zero_add,hc]
    simpa using hv
   ·cases hv
theorem k91:FnOk Tryz.prog 59 s91:=by
 refine⟨(fnB_ok Tryz.func59 (by kernel_rfl)).1,fun w M x vs hM hg hx _ _ r hr=> ?_⟩
 obtain⟨v,l,rfl,hv,hl⟩:=hx
 have hl':l=[]:=hl
 subst hl'
 have hv':RelC w M (.sl .u8) x.1 [v]:=hv
 have hr':fits? (x.1:List UInt8)=(some r:Option (List UInt8)):=hr
 unfold fits? at hr'
 split at hr'
 ·rename_i hlen
  have e:(x.1:List UInt8)=r:=by injection hr'
  have fin: ∀(v':Value) (w':World),RelC w' M (.sl .u8) (x.1:List UInt8) [v']->Below w.heap.size w w'-> ∃us M',Ending.returned v'= .returned (match us with|[u]=>u|us=> .tuple us.toArray)∧OutR w' M' w.heap.size s91.results (ioTy s91.params) r us (ioBlks s91.params [v])∧After w M (ioBlks s91.params [v]) w' M':=by
   intro v' w' h1 h2
   refine⟨[v'],M,rfl,⟨v',rfl,?_,rfl⟩,After.ofBelow hM h2⟩
   have h1':RelC w' M (.sl .u8) r [v']:=e▸h1
   exact h1'
  simp only[RelC]at hv'
  rcases hv' with⟨h0,a,c,hv'⟩|⟨h0,B,off,cap,us,hv',h1,h2,h3,h4,h5⟩
  ·simp only[List.cons.injEq,and_true]at hv'
   subst hv'
   cases a with
   |none=>
    refine(AnyE.slices_Clone_nil Tryz.laysClone 0 c w).mono ?_
    rintro e' w' ⟨rfl,rfl⟩
    refine fin _ _ ?_ (Below.refl _ _)
    rw[h0];simp only[RelC];exact .inl ⟨trivial,none,0,rfl⟩
   |some a=>
    refine(clone_zero a c w).mono ?_
    rintro e' w' ⟨v',rfl,ho,hb⟩
    refine fin _ _ ?_ hb
    rw[h0]
    exact owns_rel (w0:=w) (M0:=M) hM (l:=[]) .nil ho
  ·simp only[List.cons.injEq,and_true]at hv'
   subst hv'
   obtain⟨i0,hi,hz0,hz1,hz2⟩:=info5
   have hln:=h5.length (s:=1) (fun x u hu=>by have hu':u=[.int .u8 (x:UInt8).toNat]:=hu;rw[hu'];rfl)
   refine(AnyE.slices_Clone Tryz.laysClone i0 (.int .u8 0) 1 1 hi hz0 hz1 hz2 rfl (by decide) (fun w=>by kernel_rfl) B off _ cap us w hln (by unfold maxLen;omega) (by omega) (fun j u hu=>h4 j u hu) (bytesOne (w:=w) (M:=M) h5)).mono ?_
   rintro e' w' ⟨v',rfl,ho,_,hb⟩
   exact fin _ _ (owns_rel (w0:=w) (M0:=M) hM h5 ho) hb
 ·cases hr'
end Sx
end
section
open Go Go.Proofs Go.Shelf Go.RowKit Go.Lib Ev
namespace Sx
theorem tinyW:TinyOk Tryz.prog 217 378:=by
 refine⟨by kernel_rfl,fun p n c lf la lb w hn=> ?_⟩
 have h0:(Tryz.prog.info? 378).map (fun i=>i.desc)=some (.slice 382):=by kernel_rfl
 obtain⟨i,hi,hd⟩:=Option.map_eq_some_iff.1 h0
 have hk: ∀w,(Extern.Rtype.kind 382).run Tryz.prog w= .ok 25 w:=fun _=>by kernel_rfl
 have he: ∃ie,Tryz.prog.info? 382=some ie:=by
  have h:(Tryz.prog.info? 382).isSome=true:=by kernel_rfl
  exact Option.isSome_iff_exists.1 h
 obtain⟨ie,hie⟩:=he
 have hs:Lib.swapperK n ie 25=n+1:=by
  rcases Nat.le_one_iff_eq_zero_or_eq_one.1 hn with rfl|rfl<;>simp[Lib.swapperK]
 have fin: ∀f,Tryz.prog.funcs.findIdx? (·.name== "internal/reflectlite" ++ ".Swapper$" ++toString (n+1))=some f->Calls Tryz.prog 217 #[.iface 378 (.slice p n c), .func lf la lb] w fun e w'=>e= .returned (.tuple #[])∧Pure w w':=by
  intro f hf
  have h:=Any.sort_Slice_tiny Tryz.laysSort 378 382 i ie hi hd (by kernel_rfl) hie 25 hk p n c hn f (by rw[hs];exact hf) lf la lb w
  change Calls Tryz.prog 217 _ _ _ at h
  refine h.mono ?_
  rintro e w' ⟨rfl,os,rfl⟩
  exact⟨rfl,by simp[Sort.grow],fun B hB=>by simp[Sort.grow,Array.getElem?_append_left hB],rfl,rfl,rfl⟩
 rcases Nat.le_one_iff_eq_zero_or_eq_one.1 hn with rfl|rfl
 ·exact fin 320 (by kernel_rfl)
 ·exact fin 321 (by kernel_rfl)
end Sx
end
section
open Go Go.Proofs Go.Shelf Go.RowKit Go.Lib Ev
namespace Sx
theorem findNow_new{kk:IntKind}{n:Int}: ∀ {es:List MapEntry} (i:Nat),(∀e∈es,∃m,e.key= .int .i64 m∧m≠n)->Instr.findNow (.int kk) (.int .i64 n) es i=some none
 |[],i,_=>rfl
 |e::es,i,h=>by
  obtain⟨m,h1,h2⟩:=h e (by simp)
  have:(n==m)=false:=by simpa using fun hc=>h2 hc.symm
  simp only[Instr.findNow,Instr.sameNow,h1,if_pos,this]
  exact findNow_new (i+1) fun e he=>h e (by simp[he])
def rowsT:Nat->List (Int×FuncId)->List MapEntry
 |_,[]=>[]
 |i,q::l=>{key:= .int .i64 q.1,val:= .func (.func q.2) #[] #[],born:=i}::rowsT (i+1) l
theorem rowsT_app: ∀(i:Nat) (l:List (Int×FuncId)) (q:Int×FuncId),rowsT i (l++[q])=rowsT i l++[{key:= .int .i64 q.1,val:= .func (.func q.2) #[] #[],born:=i+l.length}]
 |i,[],q=>rfl
 |i,p::l,q=>by
  simp only[List.cons_append,rowsT,rowsT_app (i+1) l q,List.length_cons]
  rw[show i+1+l.length=i+(l.length+1)by omega]
theorem rowsT_key: ∀(i:Nat) (l:List (Int×FuncId)),∀e∈rowsT i l,∃q∈l,e.key= .int .i64 q.1
 |i,[],e,h=>by cases h
 |i,p::l,e,h=>by
  rcases List.mem_cons.1 h with rfl|h
  ·exact⟨p,by simp,rfl⟩
  ·obtain⟨q,h1,h2⟩:=rowsT_key (i+1) l e h
   exact⟨q,by simp[h1],h2⟩
theorem rowsT_map: ∀(i:Nat) (l:List (Int×FuncId)),(rowsT i l).map (fun e=>(e.key,e.val))=l.map fun q=>(Value.int .i64 q.1,Value.func (.func q.2) #[] #[])
 |i,[]=>rfl
 |i,p::l=>by simp only[rowsT,List.map_cons,rowsT_map (i+1) l]
def tabW(w:World)(l:List (Int×FuncId)):World:=w.alloc (.map (rowsT 0 l).toArray l.length)
theorem tabW_heap(w:World)(l:List (Int×FuncId)):(tabW w l).heap=w.heap.push (.map (rowsT 0 l).toArray l.length):=rfl
theorem tabW_at(w:World)(l:List (Int×FuncId)):(tabW w l).heap[w.heap.size]?=some (.map (rowsT 0 l).toArray l.length):=by
 rw[tabW_heap,Array.getElem?_push,if_pos rfl]
theorem tabW_old(w:World)(l:List (Int×FuncId)){B:Nat}(h:B<w.heap.size):(tabW w l).heap[B]?=w.heap[B]?:=by
 rw[tabW_heap,Array.getElem?_push,if_neg (by omega)]
theorem tabW_size(w:World)(l:List (Int×FuncId)):(tabW w l).heap.size=w.heap.size+1:=by
 rw[tabW_heap,Array.size_push]
theorem set_push{α:Type}(a:Array α)(x y:α):(a.push x).setIfInBounds a.size y=a.push y:=by
 apply Array.ext_getElem?
 intro i
 rw[Array.getElem?_setIfInBounds,Array.getElem?_push,Array.getElem?_push,Array.size_push]
 by_cases h:a.size=i
 ·subst h;simp
 ·rw[if_neg h,if_neg (fun hc=>h hc.symm),if_neg (fun hc=>h hc.symm)]
theorem run_ins(w:World)(l:List (Int×FuncId))(n:Int)(f:FuncId)(hn:(l.all fun q=> !decide (q.1=n))=true):
 (Instr.mapUpdate 325 (.map (some w.heap.size)) (.int .i64 n) (.func (.func f) #[] #[])).run Tryz.prog (tabW w l)= .ok () (tabW w (l++[(n,f)])):=by
 have hu:Tryz.prog.underlying 325=some (.map 3 323):=by kernel_rfl
 have hk:Tryz.prog.underlying 3=some (.int .i64):=by kernel_rfl
 have hr:(tabW w l).heap[w.heap.size]?=some (.map (rowsT 0 l).toArray l.length):=tabW_at w l
 have hget:(getObj w.heap.size).run Tryz.prog (tabW w l)= .ok (.map (rowsT 0 l).toArray l.length) (tabW w l):=by
  show(Sem.getObj _ .pure).run Tryz.prog _=_
  simp only[Sem.run,hr]
 have hck:(Instr.checkKey false 10000 3 (.int .i64 n)).run Tryz.prog (tabW w l)= .ok () (tabW w l):=by
  show(Instr.checkKey false (9999+1) 3 (.int .i64 n)).run Tryz.prog (tabW w l)= .ok () (tabW w l)
  generalize 9999=m
  simp only[Instr.checkKey,Sem.run_bind,run_und hk,Result.andThen_ok,Sem.run_pure]
 have hf:Instr.findNow (.int .i64) (.int .i64 n) (rowsT 0 l) 0=some none:=findNow_new 0 fun e he=>by
  obtain⟨q,h1,h2⟩:=rowsT_key 0 l e he
  refine⟨q.1,h2,?_⟩
  simpa using List.all_eq_true.1 hn q h1
 have hset:(setObj w.heap.size (.map ((rowsT 0 l).toArray.push {key:= .int .i64 n,val:= .func (.func f) #[] #[],born:=l.length}) (l.length+1))).run Tryz.prog (tabW w l)= .ok () (tabW w (l++[(n,f)])):=by
  show(Sem.setObj _ _ (.pure ())).run Tryz.prog _=_
  simp only[Sem.run,hr]
  have e:(tabW w l).heap.setIfInBounds w.heap.size (.map ((rowsT 0 l).toArray.push {key:= .int .i64 n,val:= .func (.func f) #[] #[],born:=l.length}) (l.length+1))=(tabW w (l++[(n,f)])).heap:=by
   rw[tabW_heap,tabW_heap,set_push,rowsT_app]
   simp
  show Result.ok () {tabW w l with heap:=(tabW w l).heap.setIfInBounds _ _}=_
  rw[e];rfl
 simp only[Instr.mapUpdate,Sem.run_bind,run_und hu,Result.andThen_ok,hget,hck,Instr.findKey,run_und hk,hf,Sem.run_pure]
 exact hset
theorem k179:FnOk Tryz.prog 207 s179:=by
 refine⟨(fnB_ok Tryz.func207 (by kernel_rfl)).1,fun w M x vs hM hg hx _ _ r hr=> ?_⟩
 have hx':vs=[]:=hx
 subst hx'
 have key:Calls Tryz.prog 207 #[] w fun e w'=>e= .returned (.map (some w.heap.size))∧w'=tabW w mpL:=by
  clear hg hM hr hx
  have hmm: ∀w,(Instr.makeMap 325 none).run Tryz.prog w= .ok (.map (some w.heap.size)) (tabW w []):=fun w=>rfl
  have h1:=run_ins w [] 1 258 (by decide)
  have h2:=run_ins w [(1,258)] 2 259 (by decide)
  have h3:=run_ins w [(1,258),(2,259)] 3 260 (by decide)
  have h4:=run_ins w [(1,258),(2,259),(3,260)] 4 261 (by decide)
  have h5:=run_ins w [(1,258),(2,259),(3,260),(4,261)] 5 262 (by decide)
  have h6:=run_ins w [(1,258),(2,259),(3,260),(4,261),(5,262)] 6 263 (by decide)
  simp only[List.nil_append,List.cons_append]at h1 h2 h3 h4 h5 h6
  go_enter Tryz.func207,Tryz.ntmps207
  go_wp2
  go_ret
  exact⟨rfl,rfl⟩
 refine key.mono ?_
 rintro e w' ⟨rfl,rfl⟩
 refine⟨[.map (some w.heap.size)],M,rfl,⟨_,rfl,?_,rfl⟩,?_⟩
 ·refine⟨w.heap.size,(rowsT 0 mpL).toArray,mpL.length,rfl,by rw[tabW_size];omega,fun h=>absurd (hM _ h) (by omega),tabW_at w mpL,?_⟩
  exact rowsT_map 0 mpL
 ·exact⟨by rw[tabW_size];omega,fun B hB _=>tabW_old w mpL hB,rfl,rfl,rfl,fun _ _=>Iff.rfl,fun B hB=>by have:=hM B hB;rw[tabW_size];omega⟩
end Sx
end
section
open Go Go.Proofs Ev
namespace Sx
theorem hm:Tryz.prog.follows .mixedOrders=true:=by kernel_rfl
theorem hT:Tys Tryz.prog tys cells maps:=⟨by kernel_rfl,by kernel_rfl,by kernel_rfl⟩
theorem cxOk:CXOk Tryz.prog cxA:=⟨by kernel_rfl,by kernel_rfl,by kernel_rfl,fun q h=>by simp only[cxA,List.mem_singleton]at h;subst h;exact tinyW⟩
theorem k105:FnOk Tryz.prog 79 s105:=fn_okS (C:=c105) (hs:=h105) (ps:=P105) (rs:=R105) (specs:=[]) (dyns:=[]) (codes:=[]) rfl hm hT trivial trivial (by kernel_rfl) Tryz.func79 (by kernel_rfl)
theorem k71:FnOk Tryz.prog 40 s71:=fn_okS (C:=c71) (hs:=h71) (ps:=P71) (rs:=R71) (specs:=[(79,s105)]) (dyns:=[]) (codes:=[]) rfl hm hT ⟨k105,trivial⟩ trivial (by kernel_rfl) Tryz.func40 (by kernel_rfl)
theorem k106:FnOk Tryz.prog 16 s106:=fn_okS (C:=c106) (hs:=h106) (ps:=P106) (rs:=R106) (specs:=[]) (dyns:=[]) (codes:=[]) rfl hm hT trivial trivial (by kernel_rfl) Tryz.func16 (by kernel_rfl)
theorem k131:FnOk Tryz.prog 42 s131:=fn_okS (C:=c131) (hs:=h131) (ps:=P131) (rs:=R131) (specs:=[]) (dyns:=[]) (codes:=[]) rfl hm hT trivial trivial (by kernel_rfl) Tryz.func42 (by kernel_rfl)
theorem k132:FnOk Tryz.prog 43 s132:=fn_okS (C:=c132) (hs:=h132) (ps:=P132) (rs:=R132) (specs:=[]) (dyns:=[]) (codes:=[]) rfl hm hT trivial trivial (by kernel_rfl) Tryz.func43 (by kernel_rfl)
theorem k193:FnOk Tryz.prog 125 s193:=fn_okS (C:=c193) (hs:=h193) (ps:=P193) (rs:=R193) (specs:=[]) (dyns:=[]) (codes:=[]) rfl hm hT trivial trivial (by kernel_rfl) Tryz.func125 (by kernel_rfl)
theorem k135:FnOk Tryz.prog 46 s135:=⟨(fnB_ok Tryz.func46 (by kernel_rfl)).1,fun _ _ _ _ _ _ _ _ _ _ h=>none_some h⟩
theorem k172:FnOk Tryz.prog 81 s172:=fn_okS (C:=c172) (hs:=h172) (ps:=P172) (rs:=R172) (specs:=[(125,s193)]) (dyns:=[]) (codes:=[]) rfl hm hT ⟨k193,trivial⟩ trivial (by kernel_rfl) Tryz.func81 (by kernel_rfl)
theorem k93:FnOk Tryz.prog 93 s93:=fn_okS (C:=c93) (hs:=h93) (ps:=P93) (rs:=R93) (specs:=[]) (dyns:=[]) (codes:=[]) rfl hm hT trivial trivial (by kernel_rfl) Tryz.func93 (by kernel_rfl)
theorem k126:FnOk Tryz.prog 182 s126:=fn_okS (C:=c126) (hs:=h126) (ps:=P126) (rs:=R126) (specs:=[]) (dyns:=[]) (codes:=[]) rfl hm hT trivial trivial (by kernel_rfl) Tryz.func182 (by kernel_rfl)
theorem k92:FnOk Tryz.prog 126 s92:=fn_okS (C:=c92) (hs:=h92) (ps:=P92) (rs:=R92) (specs:=[(182,s126)]) (dyns:=[]) (codes:=[]) rfl hm hT ⟨k126,trivial⟩ trivial (by kernel_rfl) Tryz.func126 (by kernel_rfl)
theorem k173:FnOk Tryz.prog 82 s173:=fn_okS (C:=c173) (hs:=h173) (ps:=P173) (rs:=R173) (specs:=[(126,s92),(93,s93)]) (dyns:=[]) (codes:=[]) rfl hm hT ⟨k92,k93,trivial⟩ trivial (by kernel_rfl) Tryz.func82 (by kernel_rfl)
theorem k133:FnOk Tryz.prog 44 s133:=⟨(fnB_ok Tryz.func44 (by kernel_rfl)).1,fun _ _ _ _ _ _ _ _ _ _ h=>none_some h⟩
theorem k134:FnOk Tryz.prog 45 s134:=fn_okS (C:=c134) (hs:=h134) (ps:=P134) (rs:=R134) (specs:=[]) (dyns:=[]) (codes:=[]) rfl hm hT trivial trivial (by kernel_rfl) Tryz.func45 (by kernel_rfl)
theorem k535:FnOk Tryz.prog 5 s535:=fn_okS (C:=c535) (hs:=h535) (ps:=P535) (rs:=R535) (specs:=[]) (dyns:=[]) (codes:=[]) rfl hm hT trivial trivial (by kernel_rfl) Tryz.func5 (by kernel_rfl)
theorem k6:FnOk Tryz.prog 6 s6:=fn_okS (C:=c6) (hs:=h6) (ps:=P6) (rs:=R6) (specs:=[]) (dyns:=[]) (codes:=[]) rfl hm hT trivial trivial (by kernel_rfl) Tryz.func6 (by kernel_rfl)
theorem k558:FnOk Tryz.prog 47 s558:=fn_okS (C:=c558) (hs:=h558) (ps:=P558) (rs:=R558) (specs:=[]) (dyns:=[]) (codes:=[]) rfl hm hT trivial trivial (by kernel_rfl) Tryz.func47 (by kernel_rfl)
theorem k189:FnOk Tryz.prog 127 s189:=fn_okS (C:=c189) (hs:=h189) (ps:=P189) (rs:=R189) (specs:=[]) (dyns:=[]) (codes:=[]) rfl hm hT trivial trivial (by kernel_rfl) Tryz.func127 (by kernel_rfl)
theorem k190:FnOk Tryz.prog 128 s190:=fn_okS (C:=c190) (hs:=h190) (ps:=P190) (rs:=R190) (specs:=[]) (dyns:=[]) (codes:=[]) rfl hm hT trivial trivial (by kernel_rfl) Tryz.func128 (by kernel_rfl)
theorem k168:FnOk Tryz.prog 84 s168:=fn_okS (C:=c168) (hs:=h168) (ps:=P168) (rs:=R168) (specs:=[(127,s189),(128,s190)]) (dyns:=[]) (codes:=[]) rfl hm hT ⟨k189,k190,trivial⟩ trivial (by kernel_rfl) Tryz.func84 (by kernel_rfl)
theorem k204:FnOk Tryz.prog 183 s204:=fn_okS (C:=c204) (hs:=h204) (ps:=P204) (rs:=R204) (specs:=[]) (dyns:=[]) (codes:=[]) rfl hm hT trivial trivial (by kernel_rfl) Tryz.func183 (by kernel_rfl)
theorem k191:FnOk Tryz.prog 129 s191:=fn_okS (C:=c191) (hs:=h191) (ps:=P191) (rs:=R191) (specs:=[(183,s204)]) (dyns:=[]) (codes:=[]) rfl hm hT ⟨k204,trivial⟩ trivial (by kernel_rfl) Tryz.func129 (by kernel_rfl)
theorem k169:FnOk Tryz.prog 85 s169:=fn_okS (C:=c169) (hs:=h169) (ps:=P169) (rs:=R169) (specs:=[(129,s191)]) (dyns:=[]) (codes:=[]) rfl hm hT ⟨k191,trivial⟩ trivial (by kernel_rfl) Tryz.func85 (by kernel_rfl)
theorem k89:FnOk Tryz.prog 35 s89:=fn_okS (C:=c89) (hs:=h89) (ps:=P89) (rs:=R89) (specs:=[]) (dyns:=[]) (codes:=[]) rfl hm hT trivial trivial (by kernel_rfl) Tryz.func35 (by kernel_rfl)
theorem k170:FnOk Tryz.prog 86 s170:=fn_okS (C:=c170) (hs:=h170) (ps:=P170) (rs:=R170) (specs:=[(35,s89),(129,s191)]) (dyns:=[]) (codes:=[]) rfl hm hT ⟨k89,k191,trivial⟩ trivial (by kernel_rfl) Tryz.func86 (by kernel_rfl)
theorem k125:FnOk Tryz.prog 48 s125:=fn_okS (C:=c125) (hs:=h125) (ps:=P125) (rs:=R125) (specs:=[(84,s168),(85,s169),(86,s170)]) (dyns:=[]) (codes:=[]) rfl hm hT ⟨k168,k169,k170,trivial⟩ trivial (by kernel_rfl) Tryz.func48 (by kernel_rfl)
theorem k95:FnOk Tryz.prog 130 s95:=fn_okS (C:=c95) (hs:=h95) (ps:=P95) (rs:=R95) (specs:=[(184,s127)]) (dyns:=[]) (codes:=[]) rfl hm hT ⟨k127,trivial⟩ trivial (by kernel_rfl) Tryz.func130 (by kernel_rfl)
theorem k88:FnOk Tryz.prog 131 s88:=fn_okS (C:=c88) (hs:=h88) (ps:=P88) (rs:=R88) (specs:=[(130,s95)]) (dyns:=[]) (codes:=[]) rfl hm hT ⟨k95,trivial⟩ trivial (by kernel_rfl) Tryz.func131 (by kernel_rfl)
theorem k54:FnOk Tryz.prog 87 s54:=fn_okS (C:=c54) (hs:=h54) (ps:=P54) (rs:=R54) (specs:=[(131,s88),(130,s95)]) (dyns:=[]) (codes:=[]) rfl hm hT ⟨k88,k95,trivial⟩ trivial (by kernel_rfl) Tryz.func87 (by kernel_rfl)
theorem k559:FnOk Tryz.prog 49 s559:=fn_okS (C:=c559) (hs:=h559) (ps:=P559) (rs:=R559) (specs:=[(87,s54),(35,s89)]) (dyns:=[]) (codes:=[]) rfl hm hT ⟨k54,k89,trivial⟩ trivial (by kernel_rfl) Tryz.func49 (by kernel_rfl)
theorem k90:FnOk Tryz.prog 66 s90:=fn_okS (C:=c90) (hs:=h90) (ps:=P90) (rs:=R90) (specs:=[(87,s54),(48,s125)]) (dyns:=[]) (codes:=[]) rfl hm hT ⟨k54,k125,trivial⟩ trivial (by kernel_rfl) Tryz.func66 (by kernel_rfl)
theorem k128:FnOk Tryz.prog 132 s128:=fn_okS (C:=c128) (hs:=h128) (ps:=P128) (rs:=R128) (specs:=[]) (dyns:=[]) (codes:=[]) rfl hm hT trivial trivial (by kernel_rfl) Tryz.func132 (by kernel_rfl)
theorem k130:FnOk Tryz.prog 185 s130:=fn_okS (C:=c130) (hs:=h130) (ps:=P130) (rs:=R130) (specs:=[(87,s54)]) (dyns:=[]) (codes:=[]) rfl hm hT ⟨k54,trivial⟩ trivial (by kernel_rfl) Tryz.func185 (by kernel_rfl)
theorem k176:FnOk Tryz.prog 34 s176:=fn_okS (C:=c176) (hs:=h176) (ps:=P176) (rs:=R176) (specs:=[(66,s90)]) (dyns:=[]) (codes:=[]) rfl hm hT ⟨k90,trivial⟩ trivial (by kernel_rfl) Tryz.func34 (by kernel_rfl)
theorem k139:FnOk Tryz.prog 52 s139:=fn_okS (C:=c139) (hs:=h139) (ps:=P139) (rs:=R139) (specs:=[(34,s176)]) (dyns:=[]) (codes:=[]) rfl hm hT ⟨k176,trivial⟩ trivial (by kernel_rfl) Tryz.func52 (by kernel_rfl)
theorem k136:FnOk Tryz.prog 57 s136:=fn_okS (C:=c136) (hs:=h136) (ps:=P136) (rs:=R136) (specs:=[]) (dyns:=[]) (codes:=[]) rfl hm hT trivial trivial (by kernel_rfl) Tryz.func57 (by kernel_rfl)
theorem k137:FnOk Tryz.prog 90 s137:=fn_okS (C:=c137) (hs:=h137) (ps:=P137) (rs:=R137) (specs:=[(57,s136)]) (dyns:=[]) (codes:=[]) rfl hm hT ⟨k136,trivial⟩ trivial (by kernel_rfl) Tryz.func90 (by kernel_rfl)
theorem k175:FnOk Tryz.prog 32 s175:=fn_okS (C:=c175) (hs:=h175) (ps:=P175) (rs:=R175) (specs:=[(57,s136)]) (dyns:=[]) (codes:=[]) rfl hm hT ⟨k136,trivial⟩ trivial (by kernel_rfl) Tryz.func32 (by kernel_rfl)
theorem k138:FnOk Tryz.prog 91 s138:=fn_okS (C:=c138) (hs:=h138) (ps:=P138) (rs:=R138) (specs:=[(90,s137),(52,s139),(32,s175)]) (dyns:=[]) (codes:=[]) rfl hm hT ⟨k137,k139,k175,trivial⟩ trivial (by kernel_rfl) Tryz.func91 (by kernel_rfl)
theorem k109:FnOk Tryz.prog 55 s109:=fn_okS (C:=c109) (hs:=h109) (ps:=P109) (rs:=R109) (specs:=[(57,s136),(90,s137),(91,s138),(52,s139)]) (dyns:=[]) (codes:=[]) rfl hm hT ⟨k136,k137,k138,k139,trivial⟩ trivial (by kernel_rfl) Tryz.func55 (by kernel_rfl)
theorem k74:FnOk Tryz.prog 21 s74:=fn_okS (C:=c74) (hs:=h74) (ps:=P74) (rs:=R74) (specs:=[(55,s109)]) (dyns:=[]) (codes:=[]) rfl hm hT ⟨k109,trivial⟩ trivial (by kernel_rfl) Tryz.func21 (by kernel_rfl)
theorem k561:FnOk Tryz.prog 53 s561:=fn_okS (C:=c561) (hs:=h561) (ps:=P561) (rs:=R561) (specs:=[]) (dyns:=[]) (codes:=[]) rfl hm hT trivial trivial (by kernel_rfl) Tryz.func53 (by kernel_rfl)
theorem k562:FnOk Tryz.prog 54 s562:=fn_okS (C:=c562) (hs:=h562) (ps:=P562) (rs:=R562) (specs:=[]) (dyns:=[]) (codes:=[]) rfl hm hT trivial trivial (by kernel_rfl) Tryz.func54 (by kernel_rfl)
theorem k545:FnOk Tryz.prog 20 s545:=fn_okS (C:=c545) (hs:=h545) (ps:=P545) (rs:=R545) (specs:=[(21,s74),(53,s561),(54,s562)]) (dyns:=[]) (codes:=[]) rfl hm hT ⟨k74,k561,k562,trivial⟩ trivial (by kernel_rfl) Tryz.func20 (by kernel_rfl)
theorem k547:FnOk Tryz.prog 23 s547:=fn_okS (C:=c547) (hs:=h547) (ps:=P547) (rs:=R547) (specs:=[]) (dyns:=[]) (codes:=[]) rfl hm hT trivial trivial (by kernel_rfl) Tryz.func23 (by kernel_rfl)
theorem k548:FnOk Tryz.prog 24 s548:=fn_okS (C:=c548) (hs:=h548) (ps:=P548) (rs:=R548) (specs:=[]) (dyns:=[]) (codes:=[]) rfl hm hT trivial trivial (by kernel_rfl) Tryz.func24 (by kernel_rfl)
theorem k549:FnOk Tryz.prog 25 s549:=fn_okS (C:=c549) (hs:=h549) (ps:=P549) (rs:=R549) (specs:=[(57,s136)]) (dyns:=[]) (codes:=[]) rfl hm hT ⟨k136,trivial⟩ trivial (by kernel_rfl) Tryz.func25 (by kernel_rfl)
theorem k118:FnOk Tryz.prog 137 s118:=fn_okS (C:=c118) (hs:=h118) (ps:=P118) (rs:=R118) (specs:=[]) (dyns:=[]) (codes:=[]) rfl hm hT trivial trivial (by kernel_rfl) Tryz.func137 (by kernel_rfl)
theorem k42:FnOk Tryz.prog 138 s42:=fn_okS (C:=c42) (hs:=h42) (ps:=P42) (rs:=R42) (specs:=[]) (dyns:=[]) (codes:=[]) rfl hm hT trivial trivial (by kernel_rfl) Tryz.func138 (by kernel_rfl)
theorem k119:FnOk Tryz.prog 139 s119:=fn_okS (C:=c119) (hs:=h119) (ps:=P119) (rs:=R119) (specs:=[]) (dyns:=[]) (codes:=[]) rfl hm hT trivial trivial (by kernel_rfl) Tryz.func139 (by kernel_rfl)
theorem k82:FnOk Tryz.prog 94 s82:=fn_okS (C:=c82) (hs:=h82) (ps:=P82) (rs:=R82) (specs:=[(138,s42),(137,s118),(139,s119)]) (dyns:=[]) (codes:=[]) rfl hm hT ⟨k42,k118,k119,trivial⟩ trivial (by kernel_rfl) Tryz.func94 (by kernel_rfl)
theorem kN102: ∀n,FnOk Tryz.prog 187 (sN102 n)
 |0=>⟨(fnB_ok Tryz.func187 (by kernel_rfl)).1,fun _ _ _ _ _ _ _ _ _ _ h=>none_some h⟩
 |n+1=>fn_okS (C:=mkC tys cells maps [(187,sN102 n)] [] []) (hs:=[]) (ps:=P102) (rs:=R102) (specs:=[(187,sN102 n)]) (dyns:=[]) (codes:=[]) rfl hm hT ⟨kN102 n,trivial⟩ trivial rfl Tryz.func187 (by kernel_rfl)
theorem k102:FnOk Tryz.prog 187 s102:=kN102 6
theorem k64:FnOk Tryz.prog 140 s64:=fn_okS (C:=c64) (hs:=h64) (ps:=P64) (rs:=R64) (specs:=[(187,s102)]) (dyns:=[]) (codes:=[]) rfl hm hT ⟨k102,trivial⟩ trivial (by kernel_rfl) Tryz.func140 (by kernel_rfl)
theorem k63:FnOk Tryz.prog 141 s63:=fn_okS (C:=c63) (hs:=h63) (ps:=P63) (rs:=R63) (specs:=[(140,s64)]) (dyns:=[]) (codes:=[]) rfl hm hT ⟨k64,trivial⟩ trivial (by kernel_rfl) Tryz.func141 (by kernel_rfl)
theorem k29:FnOk Tryz.prog 95 s29:=fn_okS (C:=c29) (hs:=h29) (ps:=P29) (rs:=R29) (specs:=[(141,s63),(140,s64)]) (dyns:=[]) (codes:=[]) rfl hm hT ⟨k63,k64,trivial⟩ trivial (by kernel_rfl) Tryz.func95 (by kernel_rfl)
theorem k44:FnOk Tryz.prog 58 s44:=fn_okS (C:=c44) (hs:=h44) (ps:=P44) (rs:=R44) (specs:=[(95,s29),(94,s82)]) (dyns:=[]) (codes:=[]) rfl hm hT ⟨k29,k82,trivial⟩ trivial (by kernel_rfl) Tryz.func58 (by kernel_rfl)
theorem k446:FnOk Tryz.prog 27 s446:=fn_okS (C:=c446) (hs:=h446) (ps:=P446) (rs:=R446) (specs:=[(58,s44)]) (dyns:=[]) (codes:=[]) rfl hm hT ⟨k44,trivial⟩ trivial (by kernel_rfl) Tryz.func27 (by kernel_rfl)
theorem k555:FnOk Tryz.prog 37 s555:=fn_okS (C:=c555) (hs:=h555) (ps:=P555) (rs:=R555) (specs:=[]) (dyns:=[]) (codes:=[]) rfl hm hT trivial trivial (by kernel_rfl) Tryz.func37 (by kernel_rfl)
theorem k301:FnOk Tryz.prog 75 s301:=fn_okS (C:=c301) (hs:=h301) (ps:=P301) (rs:=R301) (specs:=[]) (dyns:=[]) (codes:=[]) rfl hm hT trivial trivial (by kernel_rfl) Tryz.func75 (by kernel_rfl)
theorem k556:FnOk Tryz.prog 38 s556:=fn_okS (C:=c556) (hs:=h556) (ps:=P556) (rs:=R556) (specs:=[(75,s301)]) (dyns:=[]) (codes:=[]) rfl hm hT ⟨k301,trivial⟩ trivial (by kernel_rfl) Tryz.func38 (by kernel_rfl)
theorem k45:FnOk Tryz.prog 142 s45:=fn_okS (C:=c45) (hs:=h45) (ps:=P45) (rs:=R45) (specs:=[]) (dyns:=[]) (codes:=[]) rfl hm hT trivial trivial (by kernel_rfl) Tryz.func142 (by kernel_rfl)
theorem k98:FnOk Tryz.prog 242 s98:=fn_okS (C:=c98) (hs:=h98) (ps:=P98) (rs:=R98) (specs:=[]) (dyns:=[]) (codes:=[]) rfl hm hT trivial trivial (by kernel_rfl) Tryz.func242 (by kernel_rfl)
theorem k99:FnOk Tryz.prog 243 s99:=fn_okS (C:=c99) (hs:=h99) (ps:=P99) (rs:=R99) (specs:=[]) (dyns:=[]) (codes:=[]) rfl hm hT trivial trivial (by kernel_rfl) Tryz.func243 (by kernel_rfl)
theorem k59:FnOk Tryz.prog 188 s59:=fn_okS (C:=c59) (hs:=h59) (ps:=P59) (rs:=R59) (specs:=[(242,s98),(243,s99)]) (dyns:=[]) (codes:=[]) rfl hm hT ⟨k98,k99,trivial⟩ trivial (by kernel_rfl) Tryz.func188 (by kernel_rfl)
theorem k60:FnOk Tryz.prog 189 s60:=fn_okS (C:=c60) (hs:=h60) (ps:=P60) (rs:=R60) (specs:=[(242,s98)]) (dyns:=[]) (codes:=[]) rfl hm hT ⟨k98,trivial⟩ trivial (by kernel_rfl) Tryz.func189 (by kernel_rfl)
theorem k100:FnOk Tryz.prog 244 s100:=fn_okS (C:=c100) (hs:=h100) (ps:=P100) (rs:=R100) (specs:=[]) (dyns:=[]) (codes:=[]) rfl hm hT trivial trivial (by kernel_rfl) Tryz.func244 (by kernel_rfl)
theorem k101:FnOk Tryz.prog 245 s101:=fn_okS (C:=c101) (hs:=h101) (ps:=P101) (rs:=R101) (specs:=[(242,s98)]) (dyns:=[]) (codes:=[]) rfl hm hT ⟨k98,trivial⟩ trivial (by kernel_rfl) Tryz.func245 (by kernel_rfl)
theorem k61:FnOk Tryz.prog 190 s61:=fn_okS (C:=c61) (hs:=h61) (ps:=P61) (rs:=R61) (specs:=[(244,s100),(245,s101)]) (dyns:=[]) (codes:=[]) rfl hm hT ⟨k100,k101,trivial⟩ trivial (by kernel_rfl) Tryz.func190 (by kernel_rfl)
theorem k23:FnOk Tryz.prog 143 s23:=fn_okS (C:=c23) (hs:=h23) (ps:=P23) (rs:=R23) (specs:=[(188,s59),(189,s60),(190,s61)]) (dyns:=[]) (codes:=[]) rfl hm hT ⟨k59,k60,k61,trivial⟩ trivial (by kernel_rfl) Tryz.func143 (by kernel_rfl)
theorem k152:FnOk Tryz.prog 221 s152:=fn_okS (C:=c152) (hs:=h152) (ps:=P152) (rs:=R152) (specs:=[]) (dyns:=[]) (codes:=[]) rfl hm hT trivial trivial (by kernel_rfl) Tryz.func221 (by kernel_rfl)
theorem k185:FnOk Tryz.prog 283 s185:=fn_okS (C:=c185) (hs:=h185) (ps:=P185) (rs:=R185) (specs:=[]) (dyns:=[]) (codes:=[]) rfl hm hT trivial trivial (by kernel_rfl) Tryz.func283 (by kernel_rfl)
theorem k153:FnOk Tryz.prog 222 s153:=fn_okS (C:=c153) (hs:=h153) (ps:=P153) (rs:=R153) (specs:=[(283,s185)]) (dyns:=[]) (codes:=[]) rfl hm hT ⟨k185,trivial⟩ trivial (by kernel_rfl) Tryz.func222 (by kernel_rfl)
theorem k154:FnOk Tryz.prog 223 s154:=fn_okS (C:=c154) (hs:=h154) (ps:=P154) (rs:=R154) (specs:=[]) (dyns:=[]) (codes:=[]) rfl hm hT trivial trivial (by kernel_rfl) Tryz.func223 (by kernel_rfl)
theorem k155:FnOk Tryz.prog 224 s155:=fn_okS (C:=c155) (hs:=h155) (ps:=P155) (rs:=R155) (specs:=[]) (dyns:=[86]) (codes:=[]) rfl hm hT trivial trivial (by kernel_rfl) Tryz.func224 (by kernel_rfl)
theorem k156:FnOk Tryz.prog 225 s156:=fn_okS (C:=c156) (hs:=h156) (ps:=P156) (rs:=R156) (specs:=[]) (dyns:=[]) (codes:=[]) rfl hm hT trivial trivial (by kernel_rfl) Tryz.func225 (by kernel_rfl)
theorem k120:FnOk Tryz.prog 171 s120:=fn_okS (C:=c120) (hs:=h120) (ps:=P120) (rs:=R120) (specs:=[(221,s152),(222,s153),(223,s154),(224,s155),(225,s156)]) (dyns:=[]) (codes:=[]) rfl hm hT ⟨k152,k153,k154,k155,k156,trivial⟩ trivial (by kernel_rfl) Tryz.func171 (by kernel_rfl)
theorem k157:FnOk Tryz.prog 226 s157:=fn_okS (C:=c157) (hs:=h157) (ps:=P157) (rs:=R157) (specs:=[]) (dyns:=[]) (codes:=[]) rfl hm hT trivial trivial (by kernel_rfl) Tryz.func226 (by kernel_rfl)
theorem k158:FnOk Tryz.prog 227 s158:=fn_okS (C:=c158) (hs:=h158) (ps:=P158) (rs:=R158) (specs:=[]) (dyns:=[]) (codes:=[]) rfl hm hT trivial trivial (by kernel_rfl) Tryz.func227 (by kernel_rfl)
theorem k186:FnOk Tryz.prog 284 s186:=fn_okS (C:=c186) (hs:=h186) (ps:=P186) (rs:=R186) (specs:=[]) (dyns:=[]) (codes:=[]) rfl hm hT trivial trivial (by kernel_rfl) Tryz.func284 (by kernel_rfl)
theorem k159:FnOk Tryz.prog 228 s159:=fn_okS (C:=c159) (hs:=h159) (ps:=P159) (rs:=R159) (specs:=[(221,s152),(224,s155),(284,s186)]) (dyns:=[]) (codes:=[]) rfl hm hT ⟨k152,k155,k186,trivial⟩ trivial (by kernel_rfl) Tryz.func228 (by kernel_rfl)
theorem k161:FnOk Tryz.prog 230 s161:=fn_okS (C:=c161) (hs:=h161) (ps:=P161) (rs:=R161) (specs:=[]) (dyns:=[]) (codes:=[]) rfl hm hT trivial trivial (by kernel_rfl) Tryz.func230 (by kernel_rfl)
theorem k162:FnOk Tryz.prog 231 s162:=fn_okS (C:=c162) (hs:=h162) (ps:=P162) (rs:=R162) (specs:=[]) (dyns:=[]) (codes:=[]) rfl hm hT trivial trivial (by kernel_rfl) Tryz.func231 (by kernel_rfl)
theorem k187:FnOk Tryz.prog 285 s187:=fn_okS (C:=c187) (hs:=h187) (ps:=P187) (rs:=R187) (specs:=[]) (dyns:=[]) (codes:=[]) rfl hm hT trivial trivial (by kernel_rfl) Tryz.func285 (by kernel_rfl)
theorem k121:FnOk Tryz.prog 172 s121:=fn_okS (C:=c121) (hs:=h121) (ps:=P121) (rs:=R121) (specs:=[(221,s152),(222,s153),(224,s155),(226,s157),(227,s158),(228,s159),(230,s161),(231,s162),(284,s186),(285,s187)]) (dyns:=[86]) (codes:=[(224,Tryz.f224),(228,Tryz.f228),(229,Tryz.f229),(232,Tryz.f232)]) rfl hm hT ⟨k152,k153,k155,k157,k158,k159,k161,k162,k186,k187,trivial⟩ ⟨Tryz.func224,Tryz.func228,Tryz.func229,Tryz.func232,trivial⟩ (by kernel_rfl) Tryz.func172 (by kernel_rfl)
theorem k188:FnOk Tryz.prog 286 s188:=fn_okS (C:=c188) (hs:=h188) (ps:=P188) (rs:=R188) (specs:=[(285,s187)]) (dyns:=[]) (codes:=[]) rfl hm hT ⟨k187,trivial⟩ trivial (by kernel_rfl) Tryz.func286 (by kernel_rfl)
theorem k164:FnOk Tryz.prog 233 s164:=fn_okS (C:=c164) (hs:=h164) (ps:=P164) (rs:=R164) (specs:=[(230,s161),(286,s188)]) (dyns:=[]) (codes:=[]) rfl hm hT ⟨k161,k188,trivial⟩ trivial (by kernel_rfl) Tryz.func233 (by kernel_rfl)
theorem k166:FnOk Tryz.prog 235 s166:=fn_okS (C:=c166) (hs:=h166) (ps:=P166) (rs:=R166) (specs:=[]) (dyns:=[]) (codes:=[]) rfl hm hT trivial trivial (by kernel_rfl) Tryz.func235 (by kernel_rfl)
theorem k165:FnOk Tryz.prog 234 s165:=fn_okS (C:=c165) (hs:=h165) (ps:=P165) (rs:=R165) (specs:=[(235,s166)]) (dyns:=[]) (codes:=[]) rfl hm hT ⟨k166,trivial⟩ trivial (by kernel_rfl) Tryz.func234 (by kernel_rfl)
theorem k122:FnOk Tryz.prog 173 s122:=fn_okS (C:=c122) (hs:=h122) (ps:=P122) (rs:=R122) (specs:=[(222,s153),(224,s155),(226,s157),(233,s164),(234,s165)]) (dyns:=[]) (codes:=[]) rfl hm hT ⟨k153,k155,k157,k164,k165,trivial⟩ trivial (by kernel_rfl) Tryz.func173 (by kernel_rfl)
theorem k83:FnOk Tryz.prog 109 s83:=fn_okS (C:=c83) (hs:=h83) (ps:=P83) (rs:=R83) (specs:=[(171,s120),(172,s121),(173,s122)]) (dyns:=[]) (codes:=[]) rfl hm hT ⟨k120,k121,k122,trivial⟩ trivial (by kernel_rfl) Tryz.func109 (by kernel_rfl)
theorem k123:FnOk Tryz.prog 174 s123:=fn_okS (C:=c123) (hs:=h123) (ps:=P123) (rs:=R123) (specs:=[]) (dyns:=[]) (codes:=[]) rfl hm hT trivial trivial (by kernel_rfl) Tryz.func174 (by kernel_rfl)
theorem k167:FnOk Tryz.prog 236 s167:=fn_okS (C:=c167) (hs:=h167) (ps:=P167) (rs:=R167) (specs:=[]) (dyns:=[]) (codes:=[]) rfl hm hT trivial trivial (by kernel_rfl) Tryz.func236 (by kernel_rfl)
theorem k124:FnOk Tryz.prog 175 s124:=fn_okS (C:=c124) (hs:=h124) (ps:=P124) (rs:=R124) (specs:=[(222,s153),(233,s164),(236,s167)]) (dyns:=[86]) (codes:=[]) rfl hm hT ⟨k153,k164,k167,trivial⟩ trivial (by kernel_rfl) Tryz.func175 (by kernel_rfl)
theorem k84:FnOk Tryz.prog 110 s84:=fn_okS (C:=c84) (hs:=h84) (ps:=P84) (rs:=R84) (specs:=[(174,s123),(175,s124)]) (dyns:=[]) (codes:=[]) rfl hm hT ⟨k123,k124,trivial⟩ trivial (by kernel_rfl) Tryz.func110 (by kernel_rfl)
theorem k55:FnOk Tryz.prog 191 s55:=fn_okS (C:=c55) (hs:=h55) (ps:=P55) (rs:=R55) (specs:=[]) (dyns:=[]) (codes:=[]) rfl hm hT trivial trivial (by kernel_rfl) Tryz.func191 (by kernel_rfl)
theorem k47:FnOk Tryz.prog 145 s47:=fn_okS (C:=c47) (hs:=h47) (ps:=P47) (rs:=R47) (specs:=[(131,s88),(35,s89)]) (dyns:=[]) (codes:=[]) rfl hm hT ⟨k88,k89,trivial⟩ trivial (by kernel_rfl) Tryz.func145 (by kernel_rfl)
theorem k50:FnOk Tryz.prog 148 s50:=⟨(fnB_ok Tryz.func148 (by kernel_rfl)).1,fun _ _ _ _ _ _ _ _ _ _ h=>none_some h⟩
theorem k424:FnOk Tryz.prog 118 s424:=fn_okS (C:=c424) (hs:=h424) (ps:=P424) (rs:=R424) (specs:=[]) (dyns:=[]) (codes:=[]) rfl hm hT trivial trivial (by kernel_rfl) Tryz.func118 (by kernel_rfl)
theorem k73:FnOk Tryz.prog 73 s73:=fn_okS (C:=c73) (hs:=h73) (ps:=P73) (rs:=R73) (specs:=[]) (dyns:=[]) (codes:=[]) rfl hm hT trivial trivial (by kernel_rfl) Tryz.func73 (by kernel_rfl)
theorem k481:FnOk Tryz.prog 203 s481:=fn_okS (C:=c481) (hs:=h481) (ps:=P481) (rs:=R481) (specs:=[(131,s88),(35,s89)]) (dyns:=[]) (codes:=[]) rfl hm hT ⟨k88,k89,trivial⟩ trivial (by kernel_rfl) Tryz.func203 (by kernel_rfl)
theorem k478:FnOk Tryz.prog 159 s478:=fn_okS (C:=c478) (hs:=h478) (ps:=P478) (rs:=R478) (specs:=[(131,s88),(35,s89),(203,s481)]) (dyns:=[]) (codes:=[]) rfl hm hT ⟨k88,k89,k481,trivial⟩ trivial (by kernel_rfl) Tryz.func159 (by kernel_rfl)
theorem k140:FnOk Tryz.prog 160 s140:=fn_okS (C:=c140) (hs:=h140) (ps:=P140) (rs:=R140) (specs:=[]) (dyns:=[]) (codes:=[]) rfl hm hT trivial trivial (by kernel_rfl) Tryz.func160 (by kernel_rfl)
theorem k480:FnOk Tryz.prog 164 s480:=fn_okS (C:=c480) (hs:=h480) (ps:=P480) (rs:=R480) (specs:=[(131,s88),(35,s89),(203,s481)]) (dyns:=[]) (codes:=[]) rfl hm hT ⟨k88,k89,k481,trivial⟩ trivial (by kernel_rfl) Tryz.func164 (by kernel_rfl)
theorem k405:FnOk Tryz.prog 264 s405:=fn_okS (C:=c405) (hs:=h405) (ps:=P405) (rs:=R405) (specs:=[(126,s92)]) (dyns:=[]) (codes:=[]) rfl hm hT ⟨k92,trivial⟩ trivial (by kernel_rfl) Tryz.func264 (by kernel_rfl)
theorem k404:FnOk Tryz.prog 208 s404:=fn_okS (C:=c404) (hs:=h404) (ps:=P404) (rs:=R404) (specs:=[(93,s93),(264,s405)]) (dyns:=[]) (codes:=[]) rfl hm hT ⟨k93,k405,trivial⟩ trivial (by kernel_rfl) Tryz.func208 (by kernel_rfl)
theorem k403:FnOk Tryz.prog 265 s403:=fn_okS (C:=c403) (hs:=h403) (ps:=P403) (rs:=R403) (specs:=[(208,s404)]) (dyns:=[]) (codes:=[]) rfl hm hT ⟨k404,trivial⟩ trivial (by kernel_rfl) Tryz.func265 (by kernel_rfl)
theorem k406:FnOk Tryz.prog 266 s406:=fn_okS (C:=c406) (hs:=h406) (ps:=P406) (rs:=R406) (specs:=[(208,s404)]) (dyns:=[]) (codes:=[]) rfl hm hT ⟨k404,trivial⟩ trivial (by kernel_rfl) Tryz.func266 (by kernel_rfl)
theorem k402:FnOk Tryz.prog 209 s402:=fn_okS (C:=c402) (hs:=h402) (ps:=P402) (rs:=R402) (specs:=[(265,s403),(264,s405),(266,s406)]) (dyns:=[]) (codes:=[]) rfl hm hT ⟨k403,k405,k406,trivial⟩ trivial (by kernel_rfl) Tryz.func209 (by kernel_rfl)
theorem k21:FnOk Tryz.prog 210 s21:=fn_okS (C:=c21) (hs:=h21) (ps:=P21) (rs:=R21) (specs:=[]) (dyns:=[]) (codes:=[]) rfl hm hT trivial trivial (by kernel_rfl) Tryz.func210 (by kernel_rfl)
theorem k479:FnOk Tryz.prog 166 s479:=fn_okS (C:=c479) (hs:=h479) (ps:=P479) (rs:=R479) (specs:=[(210,s21),(209,s402),(208,s404),(164,s480)]) (dyns:=[]) (codes:=[]) rfl hm hT ⟨k21,k402,k404,k480,trivial⟩ trivial (by kernel_rfl) Tryz.func166 (by kernel_rfl)
theorem k194:FnOk Tryz.prog 204 s194:=fn_okS (C:=c194) (hs:=h194) (ps:=P194) (rs:=R194) (specs:=[]) (dyns:=[]) (codes:=[]) rfl hm hT trivial trivial (by kernel_rfl) Tryz.func204 (by kernel_rfl)
theorem k195:FnOk Tryz.prog 205 s195:=fn_okS (C:=c195) (hs:=h195) (ps:=P195) (rs:=R195) (specs:=[]) (dyns:=[]) (codes:=[]) rfl hm hT trivial trivial (by kernel_rfl) Tryz.func205 (by kernel_rfl)
theorem k177:FnOk Tryz.prog 163 s177:=fn_okS (C:=c177) (hs:=h177) (ps:=P177) (rs:=R177) (specs:=[(204,s194),(205,s195)]) (dyns:=[]) (codes:=[]) rfl hm hT ⟨k194,k195,trivial⟩ trivial (by kernel_rfl) Tryz.func163 (by kernel_rfl)
theorem k178:FnOk Tryz.prog 206 s178:=fn_okS (C:=c178) (hs:=h178) (ps:=P178) (rs:=R178) (specs:=[]) (dyns:=[]) (codes:=[]) rfl hm hT trivial trivial (by kernel_rfl) Tryz.func206 (by kernel_rfl)
theorem k212:FnOk Tryz.prog 304 s212:=fn_okS (C:=c212) (hs:=h212) (ps:=P212) (rs:=R212) (specs:=[]) (dyns:=[]) (codes:=[]) rfl hm hT trivial trivial (by kernel_rfl) Tryz.func304 (by kernel_rfl)
theorem k269:FnOk Tryz.prog 298 s269:=fn_okS (C:=c269) (hs:=h269) (ps:=P269) (rs:=R269) (specs:=[]) (dyns:=[]) (codes:=[]) rfl hm hT trivial trivial (by kernel_rfl) Tryz.func298 (by kernel_rfl)
theorem k226:FnOk Tryz.prog 299 s226:=fn_okS (C:=c226) (hs:=h226) (ps:=P226) (rs:=R226) (specs:=[]) (dyns:=[]) (codes:=[]) rfl hm hT trivial trivial (by kernel_rfl) Tryz.func299 (by kernel_rfl)
theorem k254:FnOk Tryz.prog 248 s254:=fn_okS (C:=c254) (hs:=h254) (ps:=P254) (rs:=R254) (specs:=[(299,s226),(298,s269)]) (dyns:=[]) (codes:=[]) rfl hm hT ⟨k226,k269,trivial⟩ trivial (by kernel_rfl) Tryz.func248 (by kernel_rfl)
theorem k233:FnOk Tryz.prog 214 s233:=fn_okS (C:=c233) (hs:=h233) (ps:=P233) (rs:=R233) (specs:=[]) (dyns:=[]) (codes:=[]) rfl hm hT trivial trivial (by kernel_rfl) Tryz.func214 (by kernel_rfl)
theorem k240:FnOk Tryz.prog 270 s240:=fn_okS (C:=c240) (hs:=h240) (ps:=P240) (rs:=R240) (specs:=[]) (dyns:=[]) (codes:=[]) rfl hm hT trivial trivial (by kernel_rfl) Tryz.func270 (by kernel_rfl)
theorem k242:FnOk Tryz.prog 273 s242:=fn_okSX (C:=c242) (hs:=h242) (ps:=P242) (rs:=R242) (specs:=[]) (dyns:=[378]) (codes:=[]) (x:=cxA) rfl hm hT cxOk trivial trivial (by kernel_rfl) Tryz.func273 (by kernel_rfl)
theorem k247:FnOk Tryz.prog 315 s247:=fn_okS (C:=c247) (hs:=h247) (ps:=P247) (rs:=R247) (specs:=[]) (dyns:=[]) (codes:=[]) rfl hm hT trivial trivial (by kernel_rfl) Tryz.func315 (by kernel_rfl)
theorem k250:FnOk Tryz.prog 317 s250:=fn_okS (C:=c250) (hs:=h250) (ps:=P250) (rs:=R250) (specs:=[(131,s88),(35,s89)]) (dyns:=[]) (codes:=[]) rfl hm hT ⟨k88,k89,trivial⟩ trivial (by kernel_rfl) Tryz.func317 (by kernel_rfl)
theorem k234:FnOk Tryz.prog 272 s234:=fn_okS (C:=c234) (hs:=h234) (ps:=P234) (rs:=R234) (specs:=[(273,s242),(317,s250)]) (dyns:=[]) (codes:=[]) rfl hm hT ⟨k242,k250,trivial⟩ trivial (by kernel_rfl) Tryz.func272 (by kernel_rfl)
theorem k492:FnOk Tryz.prog 350 s492:=fn_okS (C:=c492) (hs:=h492) (ps:=P492) (rs:=R492) (specs:=[]) (dyns:=[]) (codes:=[]) rfl hm hT trivial trivial (by kernel_rfl) Tryz.func350 (by kernel_rfl)
theorem k490:FnOk Tryz.prog 295 s490:=fn_okS (C:=c490) (hs:=h490) (ps:=P490) (rs:=R490) (specs:=[(350,s492)]) (dyns:=[]) (codes:=[]) rfl hm hT ⟨k492,trivial⟩ trivial (by kernel_rfl) Tryz.func295 (by kernel_rfl)
theorem k497:FnOk Tryz.prog 196 s497:=fn_okSX (C:=c497) (hs:=h497) (ps:=P497) (rs:=R497) (specs:=[(248,s254),(295,s490)]) (dyns:=[]) (codes:=[(289,Tryz.f289),(247,Tryz.f247)]) (x:=cxA) rfl hm hT cxOk ⟨k254,k490,trivial⟩ ⟨Tryz.func289,Tryz.func247,trivial⟩ (by kernel_rfl) Tryz.func196 (by kernel_rfl)
theorem k51:FnOk Tryz.prog 249 s51:=fn_okS (C:=c51) (hs:=h51) (ps:=P51) (rs:=R51) (specs:=[(126,s92)]) (dyns:=[]) (codes:=[]) rfl hm hT ⟨k92,trivial⟩ trivial (by kernel_rfl) Tryz.func249 (by kernel_rfl)
theorem k180:FnOk Tryz.prog 255 s180:=fn_okS (C:=c180) (hs:=h180) (ps:=P180) (rs:=R180) (specs:=[(126,s92)]) (dyns:=[]) (codes:=[]) rfl hm hT ⟨k92,trivial⟩ trivial (by kernel_rfl) Tryz.func255 (by kernel_rfl)
theorem k181:FnOk Tryz.prog 256 s181:=fn_okS (C:=c181) (hs:=h181) (ps:=P181) (rs:=R181) (specs:=[]) (dyns:=[]) (codes:=[]) rfl hm hT trivial trivial (by kernel_rfl) Tryz.func256 (by kernel_rfl)
theorem k145:FnOk Tryz.prog 201 s145:=fn_okS (C:=c145) (hs:=h145) (ps:=P145) (rs:=R145) (specs:=[(249,s51),(255,s180),(256,s181)]) (dyns:=[]) (codes:=[]) rfl hm hT ⟨k51,k180,k181,trivial⟩ trivial (by kernel_rfl) Tryz.func201 (by kernel_rfl)
theorem k113:FnOk Tryz.prog 157 s113:=fn_okS (C:=c113) (hs:=h113) (ps:=P113) (rs:=R113) (specs:=[(201,s145)]) (dyns:=[]) (codes:=[]) rfl hm hT ⟨k145,trivial⟩ trivial (by kernel_rfl) Tryz.func157 (by kernel_rfl)
theorem k474:FnOk Tryz.prog 181 s474:=fn_okS (C:=c474) (hs:=h474) (ps:=P474) (rs:=R474) (specs:=[]) (dyns:=[]) (codes:=[]) rfl hm hT trivial trivial (by kernel_rfl) Tryz.func181 (by kernel_rfl)
theorem k473:FnOk Tryz.prog 193 s473:=fn_okS (C:=c473) (hs:=h473) (ps:=P473) (rs:=R473) (specs:=[(131,s88),(35,s89),(181,s474)]) (dyns:=[]) (codes:=[]) rfl hm hT ⟨k88,k89,k474,trivial⟩ trivial (by kernel_rfl) Tryz.func193 (by kernel_rfl)
theorem k496:FnOk Tryz.prog 246 s496:=fn_okS (C:=c496) (hs:=h496) (ps:=P496) (rs:=R496) (specs:=[]) (dyns:=[]) (codes:=[]) rfl hm hT trivial trivial (by kernel_rfl) Tryz.func246 (by kernel_rfl)
theorem k495:FnOk Tryz.prog 194 s495:=fn_okS (C:=c495) (hs:=h495) (ps:=P495) (rs:=R495) (specs:=[(246,s496)]) (dyns:=[]) (codes:=[]) rfl hm hT ⟨k496,trivial⟩ trivial (by kernel_rfl) Tryz.func194 (by kernel_rfl)
theorem k418:FnOk Tryz.prog 195 s418:=fn_okS (C:=c418) (hs:=h418) (ps:=P418) (rs:=R418) (specs:=[(40,s71)]) (dyns:=[]) (codes:=[]) rfl hm hT ⟨k71,trivial⟩ trivial (by kernel_rfl) Tryz.func195 (by kernel_rfl)
theorem k52:FnOk Tryz.prog 250 s52:=fn_okS (C:=c52) (hs:=h52) (ps:=P52) (rs:=R52) (specs:=[(93,s93)]) (dyns:=[]) (codes:=[]) rfl hm hT ⟨k93,trivial⟩ trivial (by kernel_rfl) Tryz.func250 (by kernel_rfl)
theorem k94:FnOk Tryz.prog 252 s94:=fn_okS (C:=c94) (hs:=h94) (ps:=P94) (rs:=R94) (specs:=[]) (dyns:=[]) (codes:=[]) rfl hm hT trivial trivial (by kernel_rfl) Tryz.func252 (by kernel_rfl)
theorem k53:FnOk Tryz.prog 251 s53:=fn_okS (C:=c53) (hs:=h53) (ps:=P53) (rs:=R53) (specs:=[(252,s94)]) (dyns:=[]) (codes:=[]) rfl hm hT ⟨k94,trivial⟩ trivial (by kernel_rfl) Tryz.func251 (by kernel_rfl)
theorem k20:FnOk Tryz.prog 197 s20:=fn_okS (C:=c20) (hs:=h20) (ps:=P20) (rs:=R20) (specs:=[(210,s21),(145,s47),(249,s51),(250,s52),(251,s53)]) (dyns:=[]) (codes:=[]) rfl hm hT ⟨k21,k47,k51,k52,k53,trivial⟩ trivial (by kernel_rfl) Tryz.func197 (by kernel_rfl)
theorem k182:FnOk Tryz.prog 198 s182:=fn_okS (C:=c182) (hs:=h182) (ps:=P182) (rs:=R182) (specs:=[(252,s94)]) (dyns:=[]) (codes:=[]) rfl hm hT ⟨k94,trivial⟩ trivial (by kernel_rfl) Tryz.func198 (by kernel_rfl)
theorem k202:FnOk Tryz.prog 253 s202:=fn_okS (C:=c202) (hs:=h202) (ps:=P202) (rs:=R202) (specs:=[]) (dyns:=[]) (codes:=[]) rfl hm hT trivial trivial (by kernel_rfl) Tryz.func253 (by kernel_rfl)
theorem k183:FnOk Tryz.prog 199 s183:=fn_okS (C:=c183) (hs:=h183) (ps:=P183) (rs:=R183) (specs:=[(109,s83),(253,s202)]) (dyns:=[]) (codes:=[]) rfl hm hT ⟨k83,k202,trivial⟩ trivial (by kernel_rfl) Tryz.func199 (by kernel_rfl)
theorem k244:FnOk Tryz.prog 351 s244:=fn_okS (C:=c244) (hs:=h244) (ps:=P244) (rs:=R244) (specs:=[(132,s128)]) (dyns:=[]) (codes:=[]) rfl hm hT ⟨k128,trivial⟩ trivial (by kernel_rfl) Tryz.func351 (by kernel_rfl)
theorem kN407: ∀n,FnOk Tryz.prog 154 (sN407 n)
 |0=>⟨(fnB_ok Tryz.func154 (by kernel_rfl)).1,fun _ _ _ _ _ _ _ _ _ _ h=>none_some h⟩
 |n+1=>fn_okS (C:=mkC tys cells maps [(154,sN407 n)] [] []) (hs:=[(6, .rounds (List.replicate 17 []))]) (ps:=P407) (rs:=R407) (specs:=[(154,sN407 n)]) (dyns:=[]) (codes:=[]) rfl hm hT ⟨kN407 n,trivial⟩ trivial rfl Tryz.func154 (by kernel_rfl)
theorem k407:FnOk Tryz.prog 154 s407:=kN407 3
theorem k482:FnOk Tryz.prog 99 s482:=fn_okS (C:=c482) (hs:=h482) (ps:=P482) (rs:=R482) (specs:=[(154,s407)]) (dyns:=[]) (codes:=[]) rfl hm hT ⟨k407,trivial⟩ trivial (by kernel_rfl) Tryz.func99 (by kernel_rfl)
theorem k471:FnOk Tryz.prog 155 s471:=fn_okS (C:=c471) (hs:=h471) (ps:=P471) (rs:=R471) (specs:=[(57,s136)]) (dyns:=[]) (codes:=[]) rfl hm hT ⟨k136,trivial⟩ trivial (by kernel_rfl) Tryz.func155 (by kernel_rfl)
theorem k477:FnOk Tryz.prog 257 s477:=fn_okS (C:=c477) (hs:=h477) (ps:=P477) (rs:=R477) (specs:=[]) (dyns:=[]) (codes:=[]) rfl hm hT trivial trivial (by kernel_rfl) Tryz.func257 (by kernel_rfl)
theorem k476:FnOk Tryz.prog 202 s476:=fn_okS (C:=c476) (hs:=h476) (ps:=P476) (rs:=R476) (specs:=[(224,s155),(226,s157),(257,s477)]) (dyns:=[]) (codes:=[]) rfl hm hT ⟨k155,k157,k477,trivial⟩ trivial (by kernel_rfl) Tryz.func202 (by kernel_rfl)
theorem k410:FnOk Tryz.prog 158 s410:=fn_okS (C:=c410) (hs:=h410) (ps:=P410) (rs:=R410) (specs:=[(172,s121),(175,s124),(202,s476)]) (dyns:=[]) (codes:=[]) rfl hm hT ⟨k121,k124,k476,trivial⟩ trivial (by kernel_rfl) Tryz.func158 (by kernel_rfl)
theorem k13:FnOk Tryz.prog 30 s13:=fn_okS (C:=c13) (hs:=h13) (ps:=P13) (rs:=R13) (specs:=[]) (dyns:=[]) (codes:=[]) rfl hm hT trivial trivial (by kernel_rfl) Tryz.func30 (by kernel_rfl)
theorem k472:FnOk Tryz.prog 156 s472:=fn_okS (C:=c472) (hs:=h472) (ps:=P472) (rs:=R472) (specs:=[]) (dyns:=[]) (codes:=[]) rfl hm hT trivial trivial (by kernel_rfl) Tryz.func156 (by kernel_rfl)
theorem k235:FnOk Tryz.prog 238 s235:=fn_okS (C:=c235) (hs:=h235) (ps:=P235) (rs:=R235) (specs:=[(131,s88),(35,s89)]) (dyns:=[]) (codes:=[]) rfl hm hT ⟨k88,k89,trivial⟩ trivial (by kernel_rfl) Tryz.func238 (by kernel_rfl)
theorem k232:FnOk Tryz.prog 237 s232:=fn_okS (C:=c232) (hs:=h232) (ps:=P232) (rs:=R232) (specs:=[(238,s235)]) (dyns:=[]) (codes:=[]) rfl hm hT ⟨k235,trivial⟩ trivial (by kernel_rfl) Tryz.func237 (by kernel_rfl)
theorem k210:FnOk Tryz.prog 302 s210:=fn_okS (C:=c210) (hs:=h210) (ps:=P210) (rs:=R210) (specs:=[]) (dyns:=[]) (codes:=[]) rfl hm hT trivial trivial (by kernel_rfl) Tryz.func302 (by kernel_rfl)
theorem k211:FnOk Tryz.prog 303 s211:=fn_okS (C:=c211) (hs:=h211) (ps:=P211) (rs:=R211) (specs:=[]) (dyns:=[]) (codes:=[]) rfl hm hT trivial trivial (by kernel_rfl) Tryz.func303 (by kernel_rfl)
theorem k231:FnOk Tryz.prog 352 s231:=fn_okS (C:=c231) (hs:=h231) (ps:=P231) (rs:=R231) (specs:=[]) (dyns:=[]) (codes:=[]) rfl hm hT trivial trivial (by kernel_rfl) Tryz.func352 (by kernel_rfl)
theorem k304:FnOk Tryz.prog 409 s304:=fn_okS (C:=c304) (hs:=h304) (ps:=P304) (rs:=R304) (specs:=[]) (dyns:=[]) (codes:=[]) rfl hm hT trivial trivial (by kernel_rfl) Tryz.func409 (by kernel_rfl)
theorem k460:FnOk Tryz.prog 103 s460:=fn_okS (C:=c460) (hs:=h460) (ps:=P460) (rs:=R460) (specs:=[]) (dyns:=[]) (codes:=[]) rfl hm hT trivial trivial (by kernel_rfl) Tryz.func103 (by kernel_rfl)
theorem k461:FnOk Tryz.prog 104 s461:=fn_okS (C:=c461) (hs:=h461) (ps:=P461) (rs:=R461) (specs:=[]) (dyns:=[]) (codes:=[]) rfl hm hT trivial trivial (by kernel_rfl) Tryz.func104 (by kernel_rfl)
theorem k458:FnOk Tryz.prog 63 s458:=fn_okS (C:=c458) (hs:=h458) (ps:=P458) (rs:=R458) (specs:=[(103,s460),(104,s461)]) (dyns:=[]) (codes:=[]) rfl hm hT ⟨k460,k461,trivial⟩ trivial (by kernel_rfl) Tryz.func63 (by kernel_rfl)
theorem k451:FnOk Tryz.prog 64 s451:=fn_okS (C:=c451) (hs:=h451) (ps:=P451) (rs:=R451) (specs:=[(63,s458)]) (dyns:=[]) (codes:=[]) rfl hm hT ⟨k458,trivial⟩ trivial (by kernel_rfl) Tryz.func64 (by kernel_rfl)
theorem k452:FnOk Tryz.prog 105 s452:=fn_okS (C:=c452) (hs:=h452) (ps:=P452) (rs:=R452) (specs:=[(63,s458)]) (dyns:=[]) (codes:=[]) rfl hm hT ⟨k458,trivial⟩ trivial (by kernel_rfl) Tryz.func105 (by kernel_rfl)
theorem k553:FnOk Tryz.prog 33 s553:=fn_okS (C:=c553) (hs:=h553) (ps:=P553) (rs:=R553) (specs:=[(21,s74)]) (dyns:=[]) (codes:=[]) rfl hm hT ⟨k74,trivial⟩ trivial (by kernel_rfl) Tryz.func33 (by kernel_rfl)
theorem k420:FnOk Tryz.prog 14 s420:=fn_okS (C:=c420) (hs:=h420) (ps:=P420) (rs:=R420) (specs:=[]) (dyns:=[]) (codes:=[]) rfl hm hT trivial trivial (by kernel_rfl) Tryz.func14 (by kernel_rfl)
end Sx
end
