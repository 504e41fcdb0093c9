/- Each function that the statement reaches keeps its contract. No conditions. -/
import Derived.Test.YtpdabjlnbldpfaaGreatDoorProg
import Derived.Shelf.LaysM
import Derived.Ground.NamesProg
import Derived.Shelf.Strconv.Itoa3
import Derived.Ground.SlgnProg
import Derived.Shelf.SlicesE.Clone
import Derived.Shelf.GgSortFunc.Tiny
import Derived.Ground.GgsProg
import Derived.Test.YtpdabjlnbldpfaaGreatDoorE
import Derived.Test.YtpdabjlnbldpfaaGreatDoorD
set_option linter.unusedVariables false
set_option linter.unusedSimpArgs false
set_option linter.unusedSectionVars false
set_option maxRecDepth 100000
section
namespace Go.Proofs
open Go.Shelf
def Tryz.laysItoa_ren:Go.Shelf.Ren:=⟨fun|171=>186|243=>224|246=>255|283=>270|284=>271|285=>272|286=>273|129=>197|317=>300|318=>301|319=>302|320=>303|337=>313|338=>314|n=>n,fun|3=>3|9=>9|2=>2|4=>4|171=>412|0=>0|53=>189|37=>61|5=>5|173=>414|212=>433|51=>333|20=>20|213=>434|46=>190|232=>64|233=>444|n=>n,fun|17=>1|18=>2|19=>3|n=>n⟩
theorem Tryz.laysItoa:Go.Proofs.LaysM.n171 Tryz.prog Tryz.laysItoa_ren:={
 mixed:=by kernel_rfl
 f129:=Tryz.func197.trans (congrArg some (by kernel_rfl))
 f171:=Tryz.func186.trans (congrArg some (by kernel_rfl))
 f243:=Tryz.func224.trans (congrArg some (by kernel_rfl))
 f246:=Tryz.func255.trans (congrArg some (by kernel_rfl))
 f283:=Tryz.func270.trans (congrArg some (by kernel_rfl))
 f284:=Tryz.func271.trans (congrArg some (by kernel_rfl))
 f285:=Tryz.func272.trans (congrArg some (by kernel_rfl))
 f286:=Tryz.func273.trans (congrArg some (by kernel_rfl))
 f317:=Tryz.func300.trans (congrArg some (by kernel_rfl))
 f318:=Tryz.func301.trans (congrArg some (by kernel_rfl))
 f319:=Tryz.func302.trans (congrArg some (by kernel_rfl))
 f320:=Tryz.func303.trans (congrArg some (by kernel_rfl))
 f337:=Tryz.func313.trans (congrArg some (by kernel_rfl))
 f338:=Tryz.func314.trans (congrArg some (by kernel_rfl))
 t0:=Tryz.underlying0
 a0:=Tryz.isAgg0
 z0:=Tryz.sizeOf0
 v0:=Tryz.zeroValue0
 t2:=Tryz.underlying2
 a2:=Tryz.isAgg2
 z2:=Tryz.sizeOf2
 v2:=Tryz.zeroValue2
 t3:=Tryz.underlying3
 a3:=Tryz.isAgg3
 z3:=Tryz.sizeOf3
 v3:=Tryz.zeroValue3
 t4:=Tryz.underlying4
 a4:=Tryz.isAgg4
 z4:=Tryz.sizeOf4
 v4:=Tryz.zeroValue4
 t5:=Tryz.underlying5
 a5:=Tryz.isAgg5
 z5:=Tryz.sizeOf5
 v5:=Tryz.zeroValue5
 t9:=Tryz.underlying9
 a9:=Tryz.isAgg9
 z9:=Tryz.sizeOf9
 v9:=Tryz.zeroValue9
 t20:=Tryz.underlying20
 a20:=Tryz.isAgg20
 z20:=Tryz.sizeOf20
 v20:=Tryz.zeroValue20
 t37:=Tryz.underlying61
 a37:=Tryz.isAgg61
 z37:=Tryz.sizeOf61
 v37:=Tryz.zeroValue61
 t46:=Tryz.underlying190
 a46:=Tryz.isAgg190
 z46:=Tryz.sizeOf190
 v46:=Tryz.zeroValue190
 t51:=Tryz.underlying333
 a51:=Tryz.isAgg333
 z51:=Tryz.sizeOf333
 v51:=Tryz.zeroValue333
 t53:=Tryz.underlying189
 a53:=Tryz.isAgg189
 z53:=Tryz.sizeOf189
 v53:=Tryz.zeroValue189
 t171:=Tryz.underlying412
 a171:=Tryz.isAgg412
 z171:=Tryz.sizeOf412
 v171:=Tryz.zeroValue412
 t173:=Tryz.underlying414
 a173:=Tryz.isAgg414
 z173:=Tryz.sizeOf414
 v173:=Tryz.zeroValue414
 t212:=Tryz.underlying433
 a212:=Tryz.isAgg433
 z212:=Tryz.sizeOf433
 v212:=Tryz.zeroValue433
 t213:=Tryz.underlying434
 a213:=Tryz.isAgg434
 z213:=Tryz.sizeOf434
 t232:=Tryz.underlying64
 a232:=Tryz.isAgg64
 z232:=Tryz.sizeOf64
 v232:=Tryz.zeroValue64
 t233:=Tryz.underlying444
 a233:=Tryz.isAgg444
 z233:=Tryz.sizeOf444
 v233:=Tryz.zeroValue444
 g17:=by kernel_rfl
 g18:=by kernel_rfl
 g19:=by kernel_rfl
 i0:=by kernel_rfl
 i2:=by kernel_rfl
 i3:=by kernel_rfl
 i4:=by kernel_rfl
 i5:=by kernel_rfl
 i9:=by kernel_rfl
 i20:=by kernel_rfl
 i37:=by kernel_rfl
 i46:=by kernel_rfl
 i51:=by kernel_rfl
 i53:=by kernel_rfl
 i171:=by kernel_rfl
 i173:=by kernel_rfl
 i212:=by kernel_rfl
 i232:=by kernel_rfl
 i233:=by kernel_rfl
 m17:=by kernel_rfl
 m18:=by kernel_rfl
 m19:=by kernel_rfl}
def Tryz.laysClone_ren:Go.Shelf.Ren:=⟨fun|41=>34|n=>n,fun|22=>61|23=>5|4=>4|n=>n,fun|n=>n⟩
theorem Tryz.laysClone:Go.Proofs.SlLaysE0.n41 Tryz.prog Tryz.laysClone_ren:={
 mixed:=by kernel_rfl
 f41:=⟨Tryz.f34.name,by decide,Tryz.func34.trans (congrArg some (by kernel_rfl))⟩
 t4:=Tryz.underlying4
 a4:=Tryz.isAgg4
 z4:=Tryz.sizeOf4
 v4:=Tryz.zeroValue4
 t22:=Tryz.underlying61
 a22:=Tryz.isAgg61
 z22:=Tryz.sizeOf61
 v22:=Tryz.zeroValue61}
def Tryz.laysSort_ren:Go.Shelf.Ren:=⟨fun|6=>251|10=>265|11=>266|12=>267|13=>141|14=>268|24=>196|25=>197|26=>292|27=>293|28=>294|29=>295|30=>296|31=>297|32=>298|33=>299|34=>308|35=>309|36=>310|37=>311|38=>312|39=>316|n=>n,fun|20=>20|26=>282|35=>406|0=>0|37=>178|3=>3|41=>190|44=>411|49=>333|51=>189|4=>4|54=>427|53=>426|58=>134|5=>5|9=>9|60=>438|64=>370|66=>442|67=>209|17=>17|32=>403|33=>404|82=>458|12=>12|75=>451|76=>452|77=>453|78=>454|79=>455|80=>456|n=>n,fun|n=>n⟩
theorem Tryz.laysSort:Go.Proofs.LaysGg.n6 Tryz.prog Tryz.laysSort_ren:={
 mixed:=by kernel_rfl
 f6:=Tryz.func251.trans (congrArg some (by kernel_rfl))
 f10:=Tryz.func265.trans (congrArg some (by kernel_rfl))
 f11:=Tryz.func266.trans (congrArg some (by kernel_rfl))
 f12:=Tryz.func267.trans (congrArg some (by kernel_rfl))
 f13:=Tryz.func141.trans (congrArg some (by kernel_rfl))
 f14:=Tryz.func268.trans (congrArg some (by kernel_rfl))
 f24:=Tryz.func196.trans (congrArg some (by kernel_rfl))
 f25:=Tryz.func197.trans (congrArg some (by kernel_rfl))
 f26:=Tryz.func292.trans (congrArg some (by kernel_rfl))
 f27:=Tryz.func293.trans (congrArg some (by kernel_rfl))
 f28:=Tryz.func294.trans (congrArg some (by kernel_rfl))
 f29:=Tryz.func295.trans (congrArg some (by kernel_rfl))
 f30:=Tryz.func296.trans (congrArg some (by kernel_rfl))
 f31:=Tryz.func297.trans (congrArg some (by kernel_rfl))
 f32:=Tryz.func298.trans (congrArg some (by kernel_rfl))
 f33:=Tryz.func299.trans (congrArg some (by kernel_rfl))
 f34:=Tryz.func308.trans (congrArg some (by kernel_rfl))
 f35:=Tryz.func309.trans (congrArg some (by kernel_rfl))
 f36:=Tryz.func310.trans (congrArg some (by kernel_rfl))
 f37:=Tryz.func311.trans (congrArg some (by kernel_rfl))
 f38:=Tryz.func312.trans (congrArg some (by kernel_rfl))
 f39:=Tryz.func316.trans (congrArg some (by kernel_rfl))
 t0:=Tryz.underlying0
 a0:=Tryz.isAgg0
 z0:=Tryz.sizeOf0
 v0:=Tryz.zeroValue0
 i0:=by kernel_rfl
 t3:=Tryz.underlying3
 a3:=Tryz.isAgg3
 z3:=Tryz.sizeOf3
 v3:=Tryz.zeroValue3
 i3:=by kernel_rfl
 t4:=Tryz.underlying4
 a4:=Tryz.isAgg4
 z4:=Tryz.sizeOf4
 v4:=Tryz.zeroValue4
 i4:=by kernel_rfl
 t5:=Tryz.underlying5
 a5:=Tryz.isAgg5
 z5:=Tryz.sizeOf5
 v5:=Tryz.zeroValue5
 i5:=by kernel_rfl
 t9:=Tryz.underlying9
 a9:=Tryz.isAgg9
 z9:=Tryz.sizeOf9
 v9:=Tryz.zeroValue9
 i9:=by kernel_rfl
 t12:=Tryz.underlying12
 a12:=Tryz.isAgg12
 z12:=Tryz.sizeOf12
 v12:=Tryz.zeroValue12
 i12:=by kernel_rfl
 t17:=Tryz.underlying17
 a17:=Tryz.isAgg17
 z17:=Tryz.sizeOf17
 v17:=Tryz.zeroValue17
 i17:=by kernel_rfl
 t20:=Tryz.underlying20
 a20:=Tryz.isAgg20
 z20:=Tryz.sizeOf20
 v20:=Tryz.zeroValue20
 i20:=by kernel_rfl
 t26:=Tryz.underlying282
 a26:=Tryz.isAgg282
 z26:=Tryz.sizeOf282
 v26:=Tryz.zeroValue282
 i26:=by kernel_rfl
 t32:=Tryz.underlying403
 a32:=Tryz.isAgg403
 z32:=Tryz.sizeOf403
 v32:=Tryz.zeroValue403
 i32:=by kernel_rfl
 t33:=Tryz.underlying404
 a33:=Tryz.isAgg404
 z33:=Tryz.sizeOf404
 v33:=Tryz.zeroValue404
 i33:=by kernel_rfl
 t35:=Tryz.underlying406
 a35:=Tryz.isAgg406
 z35:=Tryz.sizeOf406
 v35:=Tryz.zeroValue406
 i35:=by kernel_rfl
 t37:=Tryz.underlying178
 a37:=Tryz.isAgg178
 z37:=Tryz.sizeOf178
 v37:=Tryz.zeroValue178
 i37:=by kernel_rfl
 t41:=Tryz.underlying190
 a41:=Tryz.isAgg190
 z41:=Tryz.sizeOf190
 v41:=Tryz.zeroValue190
 i41:=by kernel_rfl
 t44:=Tryz.underlying411
 a44:=Tryz.isAgg411
 z44:=Tryz.sizeOf411
 v44:=Tryz.zeroValue411
 i44:=by kernel_rfl
 t49:=Tryz.underlying333
 a49:=Tryz.isAgg333
 z49:=Tryz.sizeOf333
 v49:=Tryz.zeroValue333
 i49:=by kernel_rfl
 t51:=Tryz.underlying189
 a51:=Tryz.isAgg189
 z51:=Tryz.sizeOf189
 v51:=Tryz.zeroValue189
 i51:=by kernel_rfl
 t53:=Tryz.underlying426
 a53:=Tryz.isAgg426
 z53:=Tryz.sizeOf426
 v53:=Tryz.zeroValue426
 i53:=by kernel_rfl
 t54:=Tryz.underlying427
 a54:=Tryz.isAgg427
 z54:=Tryz.sizeOf427
 v54:=Tryz.zeroValue427
 i54:=by kernel_rfl
 t58:=Tryz.underlying134
 a58:=Tryz.isAgg134
 z58:=Tryz.sizeOf134
 v58:=Tryz.zeroValue134
 i58:=by kernel_rfl
 t60:=Tryz.underlying438
 a60:=Tryz.isAgg438
 z60:=Tryz.sizeOf438
 v60:=Tryz.zeroValue438
 i60:=by kernel_rfl
 t64:=Tryz.underlying370
 a64:=Tryz.isAgg370
 z64:=Tryz.sizeOf370
 v64:=Tryz.zeroValue370
 i64:=by kernel_rfl
 t66:=Tryz.underlying442
 a66:=Tryz.isAgg442
 z66:=Tryz.sizeOf442
 v66:=Tryz.zeroValue442
 i66:=by kernel_rfl
 t67:=Tryz.underlying209
 a67:=Tryz.isAgg209
 z67:=Tryz.sizeOf209
 v67:=Tryz.zeroValue209
 i67:=by kernel_rfl
 t75:=Tryz.underlying451
 a75:=Tryz.isAgg451
 z75:=Tryz.sizeOf451
 v75:=Tryz.zeroValue451
 i75:=by kernel_rfl
 t76:=Tryz.underlying452
 a76:=Tryz.isAgg452
 z76:=Tryz.sizeOf452
 v76:=Tryz.zeroValue452
 i76:=by kernel_rfl
 t77:=Tryz.underlying453
 a77:=Tryz.isAgg453
 z77:=Tryz.sizeOf453
 v77:=Tryz.zeroValue453
 i77:=by kernel_rfl
 t78:=Tryz.underlying454
 a78:=Tryz.isAgg454
 z78:=Tryz.sizeOf454
 v78:=Tryz.zeroValue454
 i78:=by kernel_rfl
 t79:=Tryz.underlying455
 a79:=Tryz.isAgg455
 z79:=Tryz.sizeOf455
 v79:=Tryz.zeroValue455
 i79:=by kernel_rfl
 t80:=Tryz.underlying456
 a80:=Tryz.isAgg456
 z80:=Tryz.sizeOf456
 v80:=Tryz.zeroValue456
 i80:=by kernel_rfl
 t82:=Tryz.underlying458
 a82:=Tryz.isAgg458
 z82:=Tryz.sizeOf458
 v82:=Tryz.zeroValue458
 i82:=by kernel_rfl}
end Go.Proofs
end
section
open Go Go.Proofs Go.Shelf Go.RowKit Go.Lib Ev
namespace Sx
theorem After.grow(w:World)(M:Nat->Prop)(hM: ∀B,M B->B<w.heap.size)(k:Nat)(os:Array Obj):After w M [] (Sort.grow (w.drewN k) os) M where
 size:=by simp[Sort.grow,World.drewN]
 blk B hB _:=by simp[Sort.grow,World.drewN,Array.getElem?_append_left hB]
 os:=rfl
 tape:=rfl
 output:=rfl
 m _ _:=Iff.rfl
 mlt B hB:=Nat.lt_of_lt_of_le (hM B hB) (by simp[Sort.grow,World.drewN])
theorem k127:FnOk Tryz.prog 186 s127:=by
 refine⟨(fnB_ok Tryz.func186 (by kernel_rfl)).1,fun w M x vs hM hg hx _ _ r hr=> ?_⟩
 obtain⟨v,l,rfl,hv,hl⟩:=hx
 have hl':l=[]:=hl
 subst hl'
 have hv':RelC w M .i64 x.1 [v]:=hv
 simp only[RelC,List.cons.injEq,and_true]at hv'
 subst hv'
 have hr':cond (decide (-9223372036854775808<=(x.1:Int))&&decide ((x.1:Int)<=9223372036854775807)) (some (Lib.itoa x.1)) none=(some r:Option (List UInt8)):=hr
 cases hc:decide (-9223372036854775808<=(x.1:Int))&&decide ((x.1:Int)<=9223372036854775807)with
 |false=>rw[hc]at hr';cases hr'
 |true=>
  rw[hc]at hr'
  simp only[cond_true]at hr'
  simp only[Bool.and_eq_true,decide_eq_true_eq]at hc
  refine(Any.strconv_Itoa Tryz.laysItoa x.1 hc.1 hc.2 w (hg _ _ (by simp[tabs]) 1 (by kernel_rfl)).1).mono ?_
  rintro e w' ⟨rfl,k,os,rfl⟩
  refine⟨[.string ⟨(Lib.itoa x.1).toArray⟩],M,rfl,?_,After.grow w M hM k os⟩
  refine⟨_,rfl,?_,rfl⟩
  have e:(Lib.itoa x.1:List UInt8)=r:=by injection hr'
  have:RelC (Sort.grow (w.drewN k) os) M .str (Lib.itoa x.1:List UInt8) [.string ⟨(Lib.itoa x.1).toArray⟩]:=by simp only[RelC]
  exact e▸this
theorem info5: ∃i0,Tryz.prog.info? 5=some i0∧i0.zero=some (.int .u8 0)∧i0.size=1∧i0.bytes=1:=by
 have h:(Tryz.prog.info? 5).map (fun i=>(i.zero,i.size,i.bytes))=some (some (.int .u8 0),1,1):=by kernel_rfl
 obtain⟨i0,h1,h2⟩:=Option.map_eq_some_iff.1 h
 simp only[Prod.mk.injEq]at h2
 exact⟨i0,h1,h2.1,h2.2.1,h2.2.2⟩
theorem clone_zero(a:Addr)(c:Nat)(w:World):
 Calls Tryz.prog 34 #[.slice (some a) 0 c] w fun e w'=> ∃v',e= .returned v'∧w'.ownsRow w.heap.size 5 1 v' 0 []∧Below w.heap.size w w':=by
 have q: ∀(w:World) (a:Option Addr) (n c n' c':Nat),(binOp .eql 61 (.slice a n c) (.slice none n' c')).run Tryz.prog w= .ok (.bool a.isNone) w:=fun w a n c n' c'=>Lib.run_eql_slice_nil w _ _ a n c n' c' Tryz.underlying61
 obtain⟨i0,hi,hz0,hz1,hz2⟩:=info5
 go_enter Tryz.func34,Tryz.ntmps34
 go_wp2_with (at_builtin;refine wpList_append_own _ rfl _ _ 61 rfl w.heap.size 5 i0 (.int .u8 0) 1 1 Tryz.underlying61 hi hz0 hz1 hz2 rfl (by decide) _ _ _ rfl (World.ownsRow_made w #[] 0 (Nat.le_refl _) (Nat.zero_le _) rfl) a 0 c [] rfl rfl (by intro j u hj;simp at hj) (by intro u hu;cases hu) (by unfold maxLen;omega) (by omega) (by simp) ?_)
 intro v' w1 hown hgrow hnil
 go_wp2
 go_ret
 exact⟨v',rfl,by simpa using hown,((Below.refl _ w).alloc (Nat.le_refl _) _).grown hgrow (by simp) (by intro k hk;simp[Value.ownBlock]at hk;omega)⟩
theorem After.ofBelow{w w':World}{M:Nat->Prop}(hM: ∀B,M B->B<w.heap.size)(h:Below w.heap.size w w'):After w M [] w' M:=
 ⟨h.size,fun B hB _=>h.block B hB,h.os,h.tape,h.output,fun _ _=>Iff.rfl,fun B hB=>Nat.lt_of_lt_of_le (hM B hB) h.size⟩
theorem bytesOne: ∀ {l:List UInt8} {vs:List Value} {w:World} {M:Nat->Prop},RowR (fun(y:Val .u8) u=>RelC w M .u8 y u) l vs-> ∀u∈vs,u.oneCell'=true:=by
 intro l vs w M h
 refine RowR.all (p:=fun u=>u.oneCell'=true) ?_ h
 intro x u hu v hv
 have hu':u=[.int .u8 (x:UInt8).toNat]:=hu
 subst hu'
 simp only[List.mem_singleton]at hv
 subst hv;rfl
theorem owns_rel{w w':World}{M:Nat->Prop}(hM: ∀B,M B->B<w.heap.size){l:List UInt8}{vs:List Value}{w0:World}{M0:Nat->Prop}(hr:RowR (fun(y:Val .u8) u=>RelC w0 M0 .u8 y u) l vs){v':Value}(h:w'.ownsRow w.heap.size 5 1 v' l.length vs):RelC w' M (.sl .u8) l [v']:=by
 obtain⟨h1,h2⟩:=h
 rcases h2 with⟨rfl,h2⟩|⟨g,cap,cur,rfl,hg,hc,hlc,_,hsz,ht⟩
 ·have:l=[]:=List.length_eq_zero_iff.1 h2
  subst this
  simp only[RelC]
  exact .inl ⟨trivial,none,0,rfl⟩
 ·by_cases hl:l=[]
  ·subst hl
   simp only[RelC]
   exact .inl ⟨trivial,_,_,rfl⟩
  ·simp only[RelC]
   have hlt:g<w'.heap.size:=(Array.getElem?_eq_some_iff.1 hc).1
   refine .inr ⟨hl,g,0,cap,vs,rfl,hlc,hlt,fun hm=>absurd (hM g hm) (by omega),fun i v hv=> ?_,hr.mono fun x u hu=>hu⟩
   have hi:i<vs.length:=(List.getElem?_eq_some_iff.1 hv).1
   rw[←ht]at hv
   rw[List.getElem?_take]at hv
   split at hv
   ·simp only[World.cell?,Nat.zero_add,hc]
    simpa using hv
   ·cases hv
theorem k91:FnOk Tryz.prog 34 s91:=by
 refine⟨(fnB_ok Tryz.func34 (by kernel_rfl)).1,fun w M x vs hM hg hx _ _ r hr=> ?_⟩
 obtain⟨v,l,rfl,hv,hl⟩:=hx
 have hl':l=[]:=hl
 subst hl'
 have hv':RelC w M (.sl .u8) x.1 [v]:=hv
 have hr':fits? (x.1:List UInt8)=(some r:Option (List UInt8)):=hr
 unfold fits? at hr'
 split at hr'
 ·rename_i hlen
  have e:(x.1:List UInt8)=r:=by injection hr'
  have fin: ∀(v':Value) (w':World),RelC w' M (.sl .u8) (x.1:List UInt8) [v']->Below w.heap.size w w'-> ∃us M',Ending.returned v'= .returned (match us with|[u]=>u|us=> .tuple us.toArray)∧OutR w' M' w.heap.size s91.results (ioTy s91.params) r us (ioBlks s91.params [v])∧After w M (ioBlks s91.params [v]) w' M':=by
   intro v' w' h1 h2
   refine⟨[v'],M,rfl,⟨v',rfl,?_,rfl⟩,After.ofBelow hM h2⟩
   have h1':RelC w' M (.sl .u8) r [v']:=e▸h1
   exact h1'
  simp only[RelC]at hv'
  rcases hv' with⟨h0,a,c,hv'⟩|⟨h0,B,off,cap,us,hv',h1,h2,h3,h4,h5⟩
  ·simp only[List.cons.injEq,and_true]at hv'
   subst hv'
   cases a with
   |none=>
    refine(AnyE.slices_Clone_nil Tryz.laysClone 0 c w).mono ?_
    rintro e' w' ⟨rfl,rfl⟩
    refine fin _ _ ?_ (Below.refl _ _)
    rw[h0];simp only[RelC];exact .inl ⟨trivial,none,0,rfl⟩
   |some a=>
    refine(clone_zero a c w).mono ?_
    rintro e' w' ⟨v',rfl,ho,hb⟩
    refine fin _ _ ?_ hb
    rw[h0]
    exact owns_rel (w0:=w) (M0:=M) hM (l:=[]) .nil ho
  ·simp only[List.cons.injEq,and_true]at hv'
   subst hv'
   obtain⟨i0,hi,hz0,hz1,hz2⟩:=info5
   have hln:=h5.length (s:=1) (fun x u hu=>by have hu':u=[.int .u8 (x:UInt8).toNat]:=hu;rw[hu'];rfl)
   refine(AnyE.slices_Clone Tryz.laysClone i0 (.int .u8 0) 1 1 hi hz0 hz1 hz2 rfl (by decide) (fun w=>by kernel_rfl) B off _ cap us w hln (by unfold maxLen;omega) (by omega) (fun j u hu=>h4 j u hu) (bytesOne (w:=w) (M:=M) h5)).mono ?_
   rintro e' w' ⟨v',rfl,ho,_,hb⟩
   exact fin _ _ (owns_rel (w0:=w) (M0:=M) hM h5 ho) hb
 ·cases hr'
end Sx
end
section
open Go Go.Proofs Go.Shelf Go.RowKit Go.Lib Ev
namespace Sx
theorem tinyW:TinyOk Tryz.prog 251 350:=by
 refine⟨by kernel_rfl,fun p n c lf la lb w hn=> ?_⟩
 have h0:(Tryz.prog.info? 350).map (fun i=>i.desc)=some (.slice 354):=by kernel_rfl
 obtain⟨i,hi,hd⟩:=Option.map_eq_some_iff.1 h0
 have hk: ∀w,(Extern.Rtype.kind 354).run Tryz.prog w= .ok 25 w:=fun _=>by kernel_rfl
 have he: ∃ie,Tryz.prog.info? 354=some ie:=by
  have h:(Tryz.prog.info? 354).isSome=true:=by kernel_rfl
  exact Option.isSome_iff_exists.1 h
 obtain⟨ie,hie⟩:=he
 have hs:Lib.swapperK n ie 25=n+1:=by
  rcases Nat.le_one_iff_eq_zero_or_eq_one.1 hn with rfl|rfl<;>simp[Lib.swapperK]
 have fin: ∀f,Tryz.prog.funcs.findIdx? (·.name== "internal/reflectlite" ++ ".Swapper$" ++toString (n+1))=some f->Calls Tryz.prog 251 #[.iface 350 (.slice p n c), .func lf la lb] w fun e w'=>e= .returned (.tuple #[])∧Pure w w':=by
  intro f hf
  have h:=Any.sort_Slice_tiny Tryz.laysSort 350 354 i ie hi hd (by kernel_rfl) hie 25 hk p n c hn f (by rw[hs];exact hf) lf la lb w
  change Calls Tryz.prog 251 _ _ _ at h
  refine h.mono ?_
  rintro e w' ⟨rfl,os,rfl⟩
  exact⟨rfl,by simp[Sort.grow],fun B hB=>by simp[Sort.grow,Array.getElem?_append_left hB],rfl,rfl,rfl⟩
 rcases Nat.le_one_iff_eq_zero_or_eq_one.1 hn with rfl|rfl
 ·exact fin 283 (by kernel_rfl)
 ·exact fin 284 (by kernel_rfl)
end Sx
end
section
open Go Go.Proofs Go.Shelf Go.RowKit Go.Lib Ev
namespace Sx
theorem findNow_new{kk:IntKind}{n:Int}: ∀ {es:List MapEntry} (i:Nat),(∀e∈es,∃m,e.key= .int .i64 m∧m≠n)->Instr.findNow (.int kk) (.int .i64 n) es i=some none
 |[],i,_=>rfl
 |e::es,i,h=>by
  obtain⟨m,h1,h2⟩:=h e (by simp)
  have:(n==m)=false:=by simpa using fun hc=>h2 hc.symm
  simp only[Instr.findNow,Instr.sameNow,h1,if_pos,this]
  exact findNow_new (i+1) fun e he=>h e (by simp[he])
def rowsT:Nat->List (Int×FuncId)->List MapEntry
 |_,[]=>[]
 |i,q::l=>{key:= .int .i64 q.1,val:= .func (.func q.2) #[] #[],born:=i}::rowsT (i+1) l
theorem rowsT_app: ∀(i:Nat) (l:List (Int×FuncId)) (q:Int×FuncId),rowsT i (l++[q])=rowsT i l++[{key:= .int .i64 q.1,val:= .func (.func q.2) #[] #[],born:=i+l.length}]
 |i,[],q=>rfl
 |i,p::l,q=>by
  simp only[List.cons_append,rowsT,rowsT_app (i+1) l q,List.length_cons]
  rw[show i+1+l.length=i+(l.length+1)by omega]
theorem rowsT_key: ∀(i:Nat) (l:List (Int×FuncId)),∀e∈rowsT i l,∃q∈l,e.key= .int .i64 q.1
 |i,[],e,h=>by cases h
 |i,p::l,e,h=>by
  rcases List.mem_cons.1 h with rfl|h
  ·exact⟨p,by simp,rfl⟩
  ·obtain⟨q,h1,h2⟩:=rowsT_key (i+1) l e h
   exact⟨q,by simp[h1],h2⟩
theorem rowsT_map: ∀(i:Nat) (l:List (Int×FuncId)),(rowsT i l).map (fun e=>(e.key,e.val))=l.map fun q=>(Value.int .i64 q.1,Value.func (.func q.2) #[] #[])
 |i,[]=>rfl
 |i,p::l=>by simp only[rowsT,List.map_cons,rowsT_map (i+1) l]
def tabW(w:World)(l:List (Int×FuncId)):World:=w.alloc (.map (rowsT 0 l).toArray l.length)
theorem tabW_heap(w:World)(l:List (Int×FuncId)):(tabW w l).heap=w.heap.push (.map (rowsT 0 l).toArray l.length):=rfl
theorem tabW_at(w:World)(l:List (Int×FuncId)):(tabW w l).heap[w.heap.size]?=some (.map (rowsT 0 l).toArray l.length):=by
 rw[tabW_heap,Array.getElem?_push,if_pos rfl]
theorem tabW_old(w:World)(l:List (Int×FuncId)){B:Nat}(h:B<w.heap.size):(tabW w l).heap[B]?=w.heap[B]?:=by
 rw[tabW_heap,Array.getElem?_push,if_neg (by omega)]
theorem tabW_size(w:World)(l:List (Int×FuncId)):(tabW w l).heap.size=w.heap.size+1:=by
 rw[tabW_heap,Array.size_push]
theorem set_push{α:Type}(a:Array α)(x y:α):(a.push x).setIfInBounds a.size y=a.push y:=by
 apply Array.ext_getElem?
 intro i
 rw[Array.getElem?_setIfInBounds,Array.getElem?_push,Array.getElem?_push,Array.size_push]
 by_cases h:a.size=i
 ·subst h;simp
 ·rw[if_neg h,if_neg (fun hc=>h hc.symm),if_neg (fun hc=>h hc.symm)]
theorem run_ins(w:World)(l:List (Int×FuncId))(n:Int)(f:FuncId)(hn:(l.all fun q=> !decide (q.1=n))=true):
 (Instr.mapUpdate 297 (.map (some w.heap.size)) (.int .i64 n) (.func (.func f) #[] #[])).run Tryz.prog (tabW w l)= .ok () (tabW w (l++[(n,f)])):=by
 have hu:Tryz.prog.underlying 297=some (.map 3 295):=by kernel_rfl
 have hk:Tryz.prog.underlying 3=some (.int .i64):=by kernel_rfl
 have hr:(tabW w l).heap[w.heap.size]?=some (.map (rowsT 0 l).toArray l.length):=tabW_at w l
 have hget:(getObj w.heap.size).run Tryz.prog (tabW w l)= .ok (.map (rowsT 0 l).toArray l.length) (tabW w l):=by
  show(Sem.getObj _ .pure).run Tryz.prog _=_
  simp only[Sem.run,hr]
 have hck:(Instr.checkKey false 10000 3 (.int .i64 n)).run Tryz.prog (tabW w l)= .ok () (tabW w l):=by
  show(Instr.checkKey false (9999+1) 3 (.int .i64 n)).run Tryz.prog (tabW w l)= .ok () (tabW w l)
  generalize 9999=m
  simp only[Instr.checkKey,Sem.run_bind,run_und hk,Result.andThen_ok,Sem.run_pure]
 have hf:Instr.findNow (.int .i64) (.int .i64 n) (rowsT 0 l) 0=some none:=findNow_new 0 fun e he=>by
  obtain⟨q,h1,h2⟩:=rowsT_key 0 l e he
  refine⟨q.1,h2,?_⟩
  simpa using List.all_eq_true.1 hn q h1
 have hset:(setObj w.heap.size (.map ((rowsT 0 l).toArray.push {key:= .int .i64 n,val:= .func (.func f) #[] #[],born:=l.length}) (l.length+1))).run Tryz.prog (tabW w l)= .ok () (tabW w (l++[(n,f)])):=by
  show(Sem.setObj _ _ (.pure ())).run Tryz.prog _=_
  simp only[Sem.run,hr]
  have e:(tabW w l).heap.setIfInBounds w.heap.size (.map ((rowsT 0 l).toArray.push {key:= .int .i64 n,val:= .func (.func f) #[] #[],born:=l.length}) (l.length+1))=(tabW w (l++[(n,f)])).heap:=by
   rw[tabW_heap,tabW_heap,set_push,rowsT_app]
   simp
  show Result.ok () {tabW w l with heap:=(tabW w l).heap.setIfInBounds _ _}=_
  rw[e];rfl
 simp only[Instr.mapUpdate,Sem.run_bind,run_und hu,Result.andThen_ok,hget,hck,Instr.findKey,run_und hk,hf,Sem.run_pure]
 exact hset
theorem k179:FnOk Tryz.prog 156 s179:=by
 refine⟨(fnB_ok Tryz.func156 (by kernel_rfl)).1,fun w M x vs hM hg hx _ _ r hr=> ?_⟩
 have hx':vs=[]:=hx
 subst hx'
 have key:Calls Tryz.prog 156 #[] w fun e w'=>e= .returned (.map (some w.heap.size))∧w'=tabW w mpL:=by
  clear hg hM hr hx
  have hmm: ∀w,(Instr.makeMap 297 none).run Tryz.prog w= .ok (.map (some w.heap.size)) (tabW w []):=fun w=>rfl
  have h1:=run_ins w [] 1 202 (by decide)
  have h2:=run_ins w [(1,202)] 2 203 (by decide)
  have h3:=run_ins w [(1,202),(2,203)] 3 204 (by decide)
  have h4:=run_ins w [(1,202),(2,203),(3,204)] 4 205 (by decide)
  have h5:=run_ins w [(1,202),(2,203),(3,204),(4,205)] 5 206 (by decide)
  have h6:=run_ins w [(1,202),(2,203),(3,204),(4,205),(5,206)] 6 207 (by decide)
  simp only[List.nil_append,List.cons_append]at h1 h2 h3 h4 h5 h6
  go_enter Tryz.func156,Tryz.ntmps156
  go_wp2
  go_ret
  exact⟨rfl,rfl⟩
 refine key.mono ?_
 rintro e w' ⟨rfl,rfl⟩
 refine⟨[.map (some w.heap.size)],M,rfl,⟨_,rfl,?_,rfl⟩,?_⟩
 ·refine⟨w.heap.size,(rowsT 0 mpL).toArray,mpL.length,rfl,by rw[tabW_size];omega,fun h=>absurd (hM _ h) (by omega),tabW_at w mpL,?_⟩
  exact rowsT_map 0 mpL
 ·exact⟨by rw[tabW_size];omega,fun B hB _=>tabW_old w mpL hB,rfl,rfl,rfl,fun _ _=>Iff.rfl,fun B hB=>by have:=hM B hB;rw[tabW_size];omega⟩
end Sx
end
section
open Go Go.Proofs Ev
namespace Sx
theorem hm:Tryz.prog.follows .mixedOrders=true:=by kernel_rfl
theorem hT:Tys Tryz.prog tys cells maps:=⟨by kernel_rfl,by kernel_rfl,by kernel_rfl⟩
theorem cxOk:CXOk Tryz.prog cxA:=⟨by kernel_rfl,by kernel_rfl,by kernel_rfl,fun q h=>by simp only[cxA,List.mem_singleton]at h;subst h;exact tinyW⟩
theorem k6:FnOk Tryz.prog 5 s6:=fn_okS (C:=c6) (hs:=h6) (ps:=P6) (rs:=R6) (specs:=[]) (dyns:=[]) (codes:=[]) rfl hm hT trivial trivial (by kernel_rfl) Tryz.func5 (by kernel_rfl)
theorem k105:FnOk Tryz.prog 40 s105:=fn_okS (C:=c105) (hs:=h105) (ps:=P105) (rs:=R105) (specs:=[]) (dyns:=[]) (codes:=[]) rfl hm hT trivial trivial (by kernel_rfl) Tryz.func40 (by kernel_rfl)
theorem k71:FnOk Tryz.prog 21 s71:=fn_okS (C:=c71) (hs:=h71) (ps:=P71) (rs:=R71) (specs:=[(40,s105)]) (dyns:=[]) (codes:=[]) rfl hm hT ⟨k105,trivial⟩ trivial (by kernel_rfl) Tryz.func21 (by kernel_rfl)
theorem k106:FnOk Tryz.prog 13 s106:=fn_okS (C:=c106) (hs:=h106) (ps:=P106) (rs:=R106) (specs:=[]) (dyns:=[]) (codes:=[]) rfl hm hT trivial trivial (by kernel_rfl) Tryz.func13 (by kernel_rfl)
theorem k131:FnOk Tryz.prog 23 s131:=fn_okS (C:=c131) (hs:=h131) (ps:=P131) (rs:=R131) (specs:=[]) (dyns:=[]) (codes:=[]) rfl hm hT trivial trivial (by kernel_rfl) Tryz.func23 (by kernel_rfl)
theorem k132:FnOk Tryz.prog 24 s132:=fn_okS (C:=c132) (hs:=h132) (ps:=P132) (rs:=R132) (specs:=[]) (dyns:=[]) (codes:=[]) rfl hm hT trivial trivial (by kernel_rfl) Tryz.func24 (by kernel_rfl)
theorem k193:FnOk Tryz.prog 59 s193:=fn_okS (C:=c193) (hs:=h193) (ps:=P193) (rs:=R193) (specs:=[]) (dyns:=[]) (codes:=[]) rfl hm hT trivial trivial (by kernel_rfl) Tryz.func59 (by kernel_rfl)
theorem k135:FnOk Tryz.prog 27 s135:=⟨(fnB_ok Tryz.func27 (by kernel_rfl)).1,fun _ _ _ _ _ _ _ _ _ _ h=>none_some h⟩
theorem k172:FnOk Tryz.prog 42 s172:=fn_okS (C:=c172) (hs:=h172) (ps:=P172) (rs:=R172) (specs:=[(59,s193)]) (dyns:=[]) (codes:=[]) rfl hm hT ⟨k193,trivial⟩ trivial (by kernel_rfl) Tryz.func42 (by kernel_rfl)
theorem k126:FnOk Tryz.prog 84 s126:=fn_okS (C:=c126) (hs:=h126) (ps:=P126) (rs:=R126) (specs:=[]) (dyns:=[]) (codes:=[]) rfl hm hT trivial trivial (by kernel_rfl) Tryz.func84 (by kernel_rfl)
theorem k92:FnOk Tryz.prog 60 s92:=fn_okS (C:=c92) (hs:=h92) (ps:=P92) (rs:=R92) (specs:=[(84,s126)]) (dyns:=[]) (codes:=[]) rfl hm hT ⟨k126,trivial⟩ trivial (by kernel_rfl) Tryz.func60 (by kernel_rfl)
theorem k93:FnOk Tryz.prog 61 s93:=fn_okS (C:=c93) (hs:=h93) (ps:=P93) (rs:=R93) (specs:=[]) (dyns:=[]) (codes:=[]) rfl hm hT trivial trivial (by kernel_rfl) Tryz.func61 (by kernel_rfl)
theorem k173:FnOk Tryz.prog 43 s173:=fn_okS (C:=c173) (hs:=h173) (ps:=P173) (rs:=R173) (specs:=[(60,s92),(61,s93)]) (dyns:=[]) (codes:=[]) rfl hm hT ⟨k92,k93,trivial⟩ trivial (by kernel_rfl) Tryz.func43 (by kernel_rfl)
theorem k133:FnOk Tryz.prog 25 s133:=⟨(fnB_ok Tryz.func25 (by kernel_rfl)).1,fun _ _ _ _ _ _ _ _ _ _ h=>none_some h⟩
theorem k134:FnOk Tryz.prog 26 s134:=fn_okS (C:=c134) (hs:=h134) (ps:=P134) (rs:=R134) (specs:=[]) (dyns:=[]) (codes:=[]) rfl hm hT trivial trivial (by kernel_rfl) Tryz.func26 (by kernel_rfl)
theorem k107:FnOk Tryz.prog 14 s107:=fn_okS (C:=c107) (hs:=h107) (ps:=P107) (rs:=R107) (specs:=[(23,s131),(24,s132),(25,s133),(26,s134),(27,s135),(42,s172),(43,s173)]) (dyns:=[89]) (codes:=[(25,Tryz.f25)]) rfl hm hT ⟨k131,k132,k133,k134,k135,k172,k173,trivial⟩ ⟨Tryz.func25,trivial⟩ (by kernel_rfl) Tryz.func14 (by kernel_rfl)
theorem k108:FnOk Tryz.prog 41 s108:=fn_okS (C:=c108) (hs:=h108) (ps:=P108) (rs:=R108) (specs:=[]) (dyns:=[]) (codes:=[]) rfl hm hT trivial trivial (by kernel_rfl) Tryz.func41 (by kernel_rfl)
theorem k72:FnOk Tryz.prog 22 s72:=fn_okS (C:=c72) (hs:=h72) (ps:=P72) (rs:=R72) (specs:=[(13,s106),(14,s107),(41,s108)]) (dyns:=[]) (codes:=[]) rfl hm hT ⟨k106,k107,k108,trivial⟩ trivial (by kernel_rfl) Tryz.func22 (by kernel_rfl)
theorem k645:FnOk Tryz.prog 28 s645:=fn_okS (C:=c645) (hs:=h645) (ps:=P645) (rs:=R645) (specs:=[]) (dyns:=[]) (codes:=[]) rfl hm hT trivial trivial (by kernel_rfl) Tryz.func28 (by kernel_rfl)
theorem k643:FnOk Tryz.prog 16 s643:=fn_okS (C:=c643) (hs:=h643) (ps:=P643) (rs:=R643) (specs:=[]) (dyns:=[]) (codes:=[]) rfl hm hT trivial trivial (by kernel_rfl) Tryz.func16 (by kernel_rfl)
theorem k647:FnOk Tryz.prog 30 s647:=fn_okS (C:=c647) (hs:=h647) (ps:=P647) (rs:=R647) (specs:=[]) (dyns:=[]) (codes:=[]) rfl hm hT trivial trivial (by kernel_rfl) Tryz.func30 (by kernel_rfl)
theorem k62:FnOk Tryz.prog 45 s62:=fn_okS (C:=c62) (hs:=h62) (ps:=P62) (rs:=R62) (specs:=[]) (dyns:=[]) (codes:=[]) rfl hm hT trivial trivial (by kernel_rfl) Tryz.func45 (by kernel_rfl)
theorem k26:FnOk Tryz.prog 46 s26:=fn_okS (C:=c26) (hs:=h26) (ps:=P26) (rs:=R26) (specs:=[]) (dyns:=[]) (codes:=[]) rfl hm hT trivial trivial (by kernel_rfl) Tryz.func46 (by kernel_rfl)
theorem k648:FnOk Tryz.prog 31 s648:=fn_okS (C:=c648) (hs:=h648) (ps:=P648) (rs:=R648) (specs:=[(46,s26),(45,s62)]) (dyns:=[]) (codes:=[]) rfl hm hT ⟨k26,k62,trivial⟩ trivial (by kernel_rfl) Tryz.func31 (by kernel_rfl)
theorem k650:FnOk Tryz.prog 33 s650:=fn_okS (C:=c650) (hs:=h650) (ps:=P650) (rs:=R650) (specs:=[]) (dyns:=[]) (codes:=[]) rfl hm hT trivial trivial (by kernel_rfl) Tryz.func33 (by kernel_rfl)
theorem k644:FnOk Tryz.prog 17 s644:=fn_okS (C:=c644) (hs:=h644) (ps:=P644) (rs:=R644) (specs:=[(30,s647),(31,s648),(33,s650)]) (dyns:=[106]) (codes:=[]) rfl hm hT ⟨k647,k648,k650,trivial⟩ trivial (by kernel_rfl) Tryz.func17 (by kernel_rfl)
theorem k646:FnOk Tryz.prog 29 s646:=fn_okS (C:=c646) (hs:=h646) (ps:=P646) (rs:=R646) (specs:=[(16,s643),(17,s644)]) (dyns:=[131]) (codes:=[]) rfl hm hT ⟨k643,k644,trivial⟩ trivial (by kernel_rfl) Tryz.func29 (by kernel_rfl)
theorem k73:FnOk Tryz.prog 10 s73:=fn_okS (C:=c73) (hs:=h73) (ps:=P73) (rs:=R73) (specs:=[]) (dyns:=[]) (codes:=[]) rfl hm hT trivial trivial (by kernel_rfl) Tryz.func10 (by kernel_rfl)
theorem k45:FnOk Tryz.prog 62 s45:=fn_okS (C:=c45) (hs:=h45) (ps:=P45) (rs:=R45) (specs:=[]) (dyns:=[]) (codes:=[]) rfl hm hT trivial trivial (by kernel_rfl) Tryz.func62 (by kernel_rfl)
theorem k98:FnOk Tryz.prog 128 s98:=fn_okS (C:=c98) (hs:=h98) (ps:=P98) (rs:=R98) (specs:=[]) (dyns:=[]) (codes:=[]) rfl hm hT trivial trivial (by kernel_rfl) Tryz.func128 (by kernel_rfl)
theorem k99:FnOk Tryz.prog 129 s99:=fn_okS (C:=c99) (hs:=h99) (ps:=P99) (rs:=R99) (specs:=[]) (dyns:=[]) (codes:=[]) rfl hm hT trivial trivial (by kernel_rfl) Tryz.func129 (by kernel_rfl)
theorem k59:FnOk Tryz.prog 85 s59:=fn_okS (C:=c59) (hs:=h59) (ps:=P59) (rs:=R59) (specs:=[(128,s98),(129,s99)]) (dyns:=[]) (codes:=[]) rfl hm hT ⟨k98,k99,trivial⟩ trivial (by kernel_rfl) Tryz.func85 (by kernel_rfl)
theorem k60:FnOk Tryz.prog 86 s60:=fn_okS (C:=c60) (hs:=h60) (ps:=P60) (rs:=R60) (specs:=[(128,s98)]) (dyns:=[]) (codes:=[]) rfl hm hT ⟨k98,trivial⟩ trivial (by kernel_rfl) Tryz.func86 (by kernel_rfl)
theorem k100:FnOk Tryz.prog 130 s100:=fn_okS (C:=c100) (hs:=h100) (ps:=P100) (rs:=R100) (specs:=[]) (dyns:=[]) (codes:=[]) rfl hm hT trivial trivial (by kernel_rfl) Tryz.func130 (by kernel_rfl)
theorem k101:FnOk Tryz.prog 131 s101:=fn_okS (C:=c101) (hs:=h101) (ps:=P101) (rs:=R101) (specs:=[(128,s98)]) (dyns:=[]) (codes:=[]) rfl hm hT ⟨k98,trivial⟩ trivial (by kernel_rfl) Tryz.func131 (by kernel_rfl)
theorem k61:FnOk Tryz.prog 87 s61:=fn_okS (C:=c61) (hs:=h61) (ps:=P61) (rs:=R61) (specs:=[(130,s100),(131,s101)]) (dyns:=[]) (codes:=[]) rfl hm hT ⟨k100,k101,trivial⟩ trivial (by kernel_rfl) Tryz.func87 (by kernel_rfl)
theorem k23:FnOk Tryz.prog 63 s23:=fn_okS (C:=c23) (hs:=h23) (ps:=P23) (rs:=R23) (specs:=[(85,s59),(86,s60),(87,s61)]) (dyns:=[]) (codes:=[]) rfl hm hT ⟨k59,k60,k61,trivial⟩ trivial (by kernel_rfl) Tryz.func63 (by kernel_rfl)
theorem k152:FnOk Tryz.prog 167 s152:=fn_okS (C:=c152) (hs:=h152) (ps:=P152) (rs:=R152) (specs:=[]) (dyns:=[]) (codes:=[]) rfl hm hT trivial trivial (by kernel_rfl) Tryz.func167 (by kernel_rfl)
theorem k185:FnOk Tryz.prog 219 s185:=fn_okS (C:=c185) (hs:=h185) (ps:=P185) (rs:=R185) (specs:=[]) (dyns:=[]) (codes:=[]) rfl hm hT trivial trivial (by kernel_rfl) Tryz.func219 (by kernel_rfl)
theorem k153:FnOk Tryz.prog 168 s153:=fn_okS (C:=c153) (hs:=h153) (ps:=P153) (rs:=R153) (specs:=[(219,s185)]) (dyns:=[]) (codes:=[]) rfl hm hT ⟨k185,trivial⟩ trivial (by kernel_rfl) Tryz.func168 (by kernel_rfl)
theorem k154:FnOk Tryz.prog 169 s154:=fn_okS (C:=c154) (hs:=h154) (ps:=P154) (rs:=R154) (specs:=[]) (dyns:=[]) (codes:=[]) rfl hm hT trivial trivial (by kernel_rfl) Tryz.func169 (by kernel_rfl)
theorem k155:FnOk Tryz.prog 170 s155:=fn_okS (C:=c155) (hs:=h155) (ps:=P155) (rs:=R155) (specs:=[]) (dyns:=[76]) (codes:=[]) rfl hm hT trivial trivial (by kernel_rfl) Tryz.func170 (by kernel_rfl)
theorem k156:FnOk Tryz.prog 171 s156:=fn_okS (C:=c156) (hs:=h156) (ps:=P156) (rs:=R156) (specs:=[]) (dyns:=[]) (codes:=[]) rfl hm hT trivial trivial (by kernel_rfl) Tryz.func171 (by kernel_rfl)
theorem k120:FnOk Tryz.prog 123 s120:=fn_okS (C:=c120) (hs:=h120) (ps:=P120) (rs:=R120) (specs:=[(167,s152),(168,s153),(169,s154),(170,s155),(171,s156)]) (dyns:=[]) (codes:=[]) rfl hm hT ⟨k152,k153,k154,k155,k156,trivial⟩ trivial (by kernel_rfl) Tryz.func123 (by kernel_rfl)
theorem k157:FnOk Tryz.prog 172 s157:=fn_okS (C:=c157) (hs:=h157) (ps:=P157) (rs:=R157) (specs:=[]) (dyns:=[]) (codes:=[]) rfl hm hT trivial trivial (by kernel_rfl) Tryz.func172 (by kernel_rfl)
theorem k158:FnOk Tryz.prog 173 s158:=fn_okS (C:=c158) (hs:=h158) (ps:=P158) (rs:=R158) (specs:=[]) (dyns:=[]) (codes:=[]) rfl hm hT trivial trivial (by kernel_rfl) Tryz.func173 (by kernel_rfl)
theorem k186:FnOk Tryz.prog 220 s186:=fn_okS (C:=c186) (hs:=h186) (ps:=P186) (rs:=R186) (specs:=[]) (dyns:=[]) (codes:=[]) rfl hm hT trivial trivial (by kernel_rfl) Tryz.func220 (by kernel_rfl)
theorem k159:FnOk Tryz.prog 174 s159:=fn_okS (C:=c159) (hs:=h159) (ps:=P159) (rs:=R159) (specs:=[(167,s152),(170,s155),(220,s186)]) (dyns:=[]) (codes:=[]) rfl hm hT ⟨k152,k155,k186,trivial⟩ trivial (by kernel_rfl) Tryz.func174 (by kernel_rfl)
theorem k161:FnOk Tryz.prog 176 s161:=fn_okS (C:=c161) (hs:=h161) (ps:=P161) (rs:=R161) (specs:=[]) (dyns:=[]) (codes:=[]) rfl hm hT trivial trivial (by kernel_rfl) Tryz.func176 (by kernel_rfl)
theorem k162:FnOk Tryz.prog 177 s162:=fn_okS (C:=c162) (hs:=h162) (ps:=P162) (rs:=R162) (specs:=[]) (dyns:=[]) (codes:=[]) rfl hm hT trivial trivial (by kernel_rfl) Tryz.func177 (by kernel_rfl)
theorem k187:FnOk Tryz.prog 221 s187:=fn_okS (C:=c187) (hs:=h187) (ps:=P187) (rs:=R187) (specs:=[]) (dyns:=[]) (codes:=[]) rfl hm hT trivial trivial (by kernel_rfl) Tryz.func221 (by kernel_rfl)
theorem k121:FnOk Tryz.prog 124 s121:=fn_okS (C:=c121) (hs:=h121) (ps:=P121) (rs:=R121) (specs:=[(167,s152),(168,s153),(170,s155),(172,s157),(173,s158),(174,s159),(176,s161),(177,s162),(220,s186),(221,s187)]) (dyns:=[76]) (codes:=[(170,Tryz.f170),(174,Tryz.f174),(175,Tryz.f175),(178,Tryz.f178)]) rfl hm hT ⟨k152,k153,k155,k157,k158,k159,k161,k162,k186,k187,trivial⟩ ⟨Tryz.func170,Tryz.func174,Tryz.func175,Tryz.func178,trivial⟩ (by kernel_rfl) Tryz.func124 (by kernel_rfl)
theorem k188:FnOk Tryz.prog 222 s188:=fn_okS (C:=c188) (hs:=h188) (ps:=P188) (rs:=R188) (specs:=[(221,s187)]) (dyns:=[]) (codes:=[]) rfl hm hT ⟨k187,trivial⟩ trivial (by kernel_rfl) Tryz.func222 (by kernel_rfl)
theorem k164:FnOk Tryz.prog 179 s164:=fn_okS (C:=c164) (hs:=h164) (ps:=P164) (rs:=R164) (specs:=[(176,s161),(222,s188)]) (dyns:=[]) (codes:=[]) rfl hm hT ⟨k161,k188,trivial⟩ trivial (by kernel_rfl) Tryz.func179 (by kernel_rfl)
theorem k166:FnOk Tryz.prog 181 s166:=fn_okS (C:=c166) (hs:=h166) (ps:=P166) (rs:=R166) (specs:=[]) (dyns:=[]) (codes:=[]) rfl hm hT trivial trivial (by kernel_rfl) Tryz.func181 (by kernel_rfl)
theorem k165:FnOk Tryz.prog 180 s165:=fn_okS (C:=c165) (hs:=h165) (ps:=P165) (rs:=R165) (specs:=[(181,s166)]) (dyns:=[]) (codes:=[]) rfl hm hT ⟨k166,trivial⟩ trivial (by kernel_rfl) Tryz.func180 (by kernel_rfl)
theorem k122:FnOk Tryz.prog 125 s122:=fn_okS (C:=c122) (hs:=h122) (ps:=P122) (rs:=R122) (specs:=[(168,s153),(170,s155),(172,s157),(179,s164),(180,s165)]) (dyns:=[]) (codes:=[]) rfl hm hT ⟨k153,k155,k157,k164,k165,trivial⟩ trivial (by kernel_rfl) Tryz.func125 (by kernel_rfl)
theorem k83:FnOk Tryz.prog 82 s83:=fn_okS (C:=c83) (hs:=h83) (ps:=P83) (rs:=R83) (specs:=[(123,s120),(124,s121),(125,s122)]) (dyns:=[]) (codes:=[]) rfl hm hT ⟨k120,k121,k122,trivial⟩ trivial (by kernel_rfl) Tryz.func82 (by kernel_rfl)
theorem k55:FnOk Tryz.prog 88 s55:=fn_okS (C:=c55) (hs:=h55) (ps:=P55) (rs:=R55) (specs:=[]) (dyns:=[]) (codes:=[]) rfl hm hT trivial trivial (by kernel_rfl) Tryz.func88 (by kernel_rfl)
theorem k167:FnOk Tryz.prog 183 s167:=fn_okS (C:=c167) (hs:=h167) (ps:=P167) (rs:=R167) (specs:=[]) (dyns:=[]) (codes:=[]) rfl hm hT trivial trivial (by kernel_rfl) Tryz.func183 (by kernel_rfl)
theorem k124:FnOk Tryz.prog 127 s124:=fn_okS (C:=c124) (hs:=h124) (ps:=P124) (rs:=R124) (specs:=[(168,s153),(179,s164),(183,s167)]) (dyns:=[76]) (codes:=[]) rfl hm hT ⟨k153,k164,k167,trivial⟩ trivial (by kernel_rfl) Tryz.func127 (by kernel_rfl)
theorem k123:FnOk Tryz.prog 132 s123:=fn_okS (C:=c123) (hs:=h123) (ps:=P123) (rs:=R123) (specs:=[]) (dyns:=[]) (codes:=[]) rfl hm hT trivial trivial (by kernel_rfl) Tryz.func132 (by kernel_rfl)
theorem k84:FnOk Tryz.prog 89 s84:=fn_okS (C:=c84) (hs:=h84) (ps:=P84) (rs:=R84) (specs:=[(132,s123),(127,s124)]) (dyns:=[]) (codes:=[]) rfl hm hT ⟨k123,k124,trivial⟩ trivial (by kernel_rfl) Tryz.func89 (by kernel_rfl)
theorem k189:FnOk Tryz.prog 199 s189:=fn_okS (C:=c189) (hs:=h189) (ps:=P189) (rs:=R189) (specs:=[]) (dyns:=[]) (codes:=[]) rfl hm hT trivial trivial (by kernel_rfl) Tryz.func199 (by kernel_rfl)
theorem k190:FnOk Tryz.prog 200 s190:=fn_okS (C:=c190) (hs:=h190) (ps:=P190) (rs:=R190) (specs:=[]) (dyns:=[]) (codes:=[]) rfl hm hT trivial trivial (by kernel_rfl) Tryz.func200 (by kernel_rfl)
theorem k168:FnOk Tryz.prog 149 s168:=fn_okS (C:=c168) (hs:=h168) (ps:=P168) (rs:=R168) (specs:=[(199,s189),(200,s190)]) (dyns:=[]) (codes:=[]) rfl hm hT ⟨k189,k190,trivial⟩ trivial (by kernel_rfl) Tryz.func149 (by kernel_rfl)
theorem k204:FnOk Tryz.prog 232 s204:=fn_okS (C:=c204) (hs:=h204) (ps:=P204) (rs:=R204) (specs:=[]) (dyns:=[]) (codes:=[]) rfl hm hT trivial trivial (by kernel_rfl) Tryz.func232 (by kernel_rfl)
theorem k191:FnOk Tryz.prog 201 s191:=fn_okS (C:=c191) (hs:=h191) (ps:=P191) (rs:=R191) (specs:=[(232,s204)]) (dyns:=[]) (codes:=[]) rfl hm hT ⟨k204,trivial⟩ trivial (by kernel_rfl) Tryz.func201 (by kernel_rfl)
theorem k169:FnOk Tryz.prog 150 s169:=fn_okS (C:=c169) (hs:=h169) (ps:=P169) (rs:=R169) (specs:=[(201,s191)]) (dyns:=[]) (codes:=[]) rfl hm hT ⟨k191,trivial⟩ trivial (by kernel_rfl) Tryz.func150 (by kernel_rfl)
theorem k89:FnOk Tryz.prog 53 s89:=fn_okS (C:=c89) (hs:=h89) (ps:=P89) (rs:=R89) (specs:=[]) (dyns:=[]) (codes:=[]) rfl hm hT trivial trivial (by kernel_rfl) Tryz.func53 (by kernel_rfl)
theorem k170:FnOk Tryz.prog 151 s170:=fn_okS (C:=c170) (hs:=h170) (ps:=P170) (rs:=R170) (specs:=[(53,s89),(201,s191)]) (dyns:=[]) (codes:=[]) rfl hm hT ⟨k89,k191,trivial⟩ trivial (by kernel_rfl) Tryz.func151 (by kernel_rfl)
theorem k125:FnOk Tryz.prog 110 s125:=fn_okS (C:=c125) (hs:=h125) (ps:=P125) (rs:=R125) (specs:=[(149,s168),(150,s169),(151,s170)]) (dyns:=[]) (codes:=[]) rfl hm hT ⟨k168,k169,k170,trivial⟩ trivial (by kernel_rfl) Tryz.func110 (by kernel_rfl)
theorem k95:FnOk Tryz.prog 134 s95:=fn_okS (C:=c95) (hs:=h95) (ps:=P95) (rs:=R95) (specs:=[(186,s127)]) (dyns:=[]) (codes:=[]) rfl hm hT ⟨k127,trivial⟩ trivial (by kernel_rfl) Tryz.func134 (by kernel_rfl)
theorem k88:FnOk Tryz.prog 93 s88:=fn_okS (C:=c88) (hs:=h88) (ps:=P88) (rs:=R88) (specs:=[(134,s95)]) (dyns:=[]) (codes:=[]) rfl hm hT ⟨k95,trivial⟩ trivial (by kernel_rfl) Tryz.func93 (by kernel_rfl)
theorem k54:FnOk Tryz.prog 111 s54:=fn_okS (C:=c54) (hs:=h54) (ps:=P54) (rs:=R54) (specs:=[(93,s88),(134,s95)]) (dyns:=[]) (codes:=[]) rfl hm hT ⟨k88,k95,trivial⟩ trivial (by kernel_rfl) Tryz.func111 (by kernel_rfl)
theorem k90:FnOk Tryz.prog 77 s90:=fn_okS (C:=c90) (hs:=h90) (ps:=P90) (rs:=R90) (specs:=[(111,s54),(110,s125)]) (dyns:=[]) (codes:=[]) rfl hm hT ⟨k54,k125,trivial⟩ trivial (by kernel_rfl) Tryz.func77 (by kernel_rfl)
theorem k128:FnOk Tryz.prog 184 s128:=fn_okS (C:=c128) (hs:=h128) (ps:=P128) (rs:=R128) (specs:=[]) (dyns:=[]) (codes:=[]) rfl hm hT trivial trivial (by kernel_rfl) Tryz.func184 (by kernel_rfl)
theorem k130:FnOk Tryz.prog 223 s130:=fn_okS (C:=c130) (hs:=h130) (ps:=P130) (rs:=R130) (specs:=[(111,s54)]) (dyns:=[]) (codes:=[]) rfl hm hT ⟨k54,trivial⟩ trivial (by kernel_rfl) Tryz.func223 (by kernel_rfl)
theorem k47:FnOk Tryz.prog 65 s47:=fn_okS (C:=c47) (hs:=h47) (ps:=P47) (rs:=R47) (specs:=[(93,s88),(53,s89)]) (dyns:=[]) (codes:=[]) rfl hm hT ⟨k88,k89,trivial⟩ trivial (by kernel_rfl) Tryz.func65 (by kernel_rfl)
theorem k50:FnOk Tryz.prog 68 s50:=⟨(fnB_ok Tryz.func68 (by kernel_rfl)).1,fun _ _ _ _ _ _ _ _ _ _ h=>none_some h⟩
theorem k136:FnOk Tryz.prog 55 s136:=fn_okS (C:=c136) (hs:=h136) (ps:=P136) (rs:=R136) (specs:=[]) (dyns:=[]) (codes:=[]) rfl hm hT trivial trivial (by kernel_rfl) Tryz.func55 (by kernel_rfl)
theorem k137:FnOk Tryz.prog 95 s137:=fn_okS (C:=c137) (hs:=h137) (ps:=P137) (rs:=R137) (specs:=[(55,s136)]) (dyns:=[]) (codes:=[]) rfl hm hT ⟨k136,trivial⟩ trivial (by kernel_rfl) Tryz.func95 (by kernel_rfl)
theorem k175:FnOk Tryz.prog 135 s175:=fn_okS (C:=c175) (hs:=h175) (ps:=P175) (rs:=R175) (specs:=[(55,s136)]) (dyns:=[]) (codes:=[]) rfl hm hT ⟨k136,trivial⟩ trivial (by kernel_rfl) Tryz.func135 (by kernel_rfl)
theorem k424:FnOk Tryz.prog 99 s424:=fn_okS (C:=c424) (hs:=h424) (ps:=P424) (rs:=R424) (specs:=[]) (dyns:=[]) (codes:=[]) rfl hm hT trivial trivial (by kernel_rfl) Tryz.func99 (by kernel_rfl)
theorem k492:FnOk Tryz.prog 230 s492:=fn_okS (C:=c492) (hs:=h492) (ps:=P492) (rs:=R492) (specs:=[]) (dyns:=[]) (codes:=[]) rfl hm hT trivial trivial (by kernel_rfl) Tryz.func230 (by kernel_rfl)
theorem k490:FnOk Tryz.prog 193 s490:=fn_okS (C:=c490) (hs:=h490) (ps:=P490) (rs:=R490) (specs:=[(230,s492)]) (dyns:=[]) (codes:=[]) rfl hm hT ⟨k492,trivial⟩ trivial (by kernel_rfl) Tryz.func193 (by kernel_rfl)
theorem k269:FnOk Tryz.prog 196 s269:=fn_okS (C:=c269) (hs:=h269) (ps:=P269) (rs:=R269) (specs:=[]) (dyns:=[]) (codes:=[]) rfl hm hT trivial trivial (by kernel_rfl) Tryz.func196 (by kernel_rfl)
theorem k226:FnOk Tryz.prog 197 s226:=fn_okS (C:=c226) (hs:=h226) (ps:=P226) (rs:=R226) (specs:=[]) (dyns:=[]) (codes:=[]) rfl hm hT trivial trivial (by kernel_rfl) Tryz.func197 (by kernel_rfl)
theorem k254:FnOk Tryz.prog 141 s254:=fn_okS (C:=c254) (hs:=h254) (ps:=P254) (rs:=R254) (specs:=[(197,s226),(196,s269)]) (dyns:=[]) (codes:=[]) rfl hm hT ⟨k226,k269,trivial⟩ trivial (by kernel_rfl) Tryz.func141 (by kernel_rfl)
theorem k497:FnOk Tryz.prog 105 s497:=fn_okSX (C:=c497) (hs:=h497) (ps:=P497) (rs:=R497) (specs:=[(141,s254),(193,s490)]) (dyns:=[]) (codes:=[(187,Tryz.f187),(140,Tryz.f140)]) (x:=cxA) rfl hm hT cxOk ⟨k254,k490,trivial⟩ ⟨Tryz.func187,Tryz.func140,trivial⟩ (by kernel_rfl) Tryz.func105 (by kernel_rfl)
theorem k481:FnOk Tryz.prog 152 s481:=fn_okS (C:=c481) (hs:=h481) (ps:=P481) (rs:=R481) (specs:=[(93,s88),(53,s89)]) (dyns:=[]) (codes:=[]) rfl hm hT ⟨k88,k89,trivial⟩ trivial (by kernel_rfl) Tryz.func152 (by kernel_rfl)
theorem k478:FnOk Tryz.prog 112 s478:=fn_okS (C:=c478) (hs:=h478) (ps:=P478) (rs:=R478) (specs:=[(93,s88),(53,s89),(152,s481)]) (dyns:=[]) (codes:=[]) rfl hm hT ⟨k88,k89,k481,trivial⟩ trivial (by kernel_rfl) Tryz.func112 (by kernel_rfl)
theorem k140:FnOk Tryz.prog 113 s140:=fn_okS (C:=c140) (hs:=h140) (ps:=P140) (rs:=R140) (specs:=[]) (dyns:=[]) (codes:=[]) rfl hm hT trivial trivial (by kernel_rfl) Tryz.func113 (by kernel_rfl)
theorem k480:FnOk Tryz.prog 117 s480:=fn_okS (C:=c480) (hs:=h480) (ps:=P480) (rs:=R480) (specs:=[(93,s88),(53,s89),(152,s481)]) (dyns:=[]) (codes:=[]) rfl hm hT ⟨k88,k89,k481,trivial⟩ trivial (by kernel_rfl) Tryz.func117 (by kernel_rfl)
theorem k21:FnOk Tryz.prog 145 s21:=fn_okS (C:=c21) (hs:=h21) (ps:=P21) (rs:=R21) (specs:=[]) (dyns:=[]) (codes:=[]) rfl hm hT trivial trivial (by kernel_rfl) Tryz.func145 (by kernel_rfl)
theorem k405:FnOk Tryz.prog 208 s405:=fn_okS (C:=c405) (hs:=h405) (ps:=P405) (rs:=R405) (specs:=[(60,s92)]) (dyns:=[]) (codes:=[]) rfl hm hT ⟨k92,trivial⟩ trivial (by kernel_rfl) Tryz.func208 (by kernel_rfl)
theorem k404:FnOk Tryz.prog 157 s404:=fn_okS (C:=c404) (hs:=h404) (ps:=P404) (rs:=R404) (specs:=[(61,s93),(208,s405)]) (dyns:=[]) (codes:=[]) rfl hm hT ⟨k93,k405,trivial⟩ trivial (by kernel_rfl) Tryz.func157 (by kernel_rfl)
theorem k403:FnOk Tryz.prog 209 s403:=fn_okS (C:=c403) (hs:=h403) (ps:=P403) (rs:=R403) (specs:=[(157,s404)]) (dyns:=[]) (codes:=[]) rfl hm hT ⟨k404,trivial⟩ trivial (by kernel_rfl) Tryz.func209 (by kernel_rfl)
theorem k406:FnOk Tryz.prog 210 s406:=fn_okS (C:=c406) (hs:=h406) (ps:=P406) (rs:=R406) (specs:=[(157,s404)]) (dyns:=[]) (codes:=[]) rfl hm hT ⟨k404,trivial⟩ trivial (by kernel_rfl) Tryz.func210 (by kernel_rfl)
theorem k402:FnOk Tryz.prog 158 s402:=fn_okS (C:=c402) (hs:=h402) (ps:=P402) (rs:=R402) (specs:=[(209,s403),(208,s405),(210,s406)]) (dyns:=[]) (codes:=[]) rfl hm hT ⟨k403,k405,k406,trivial⟩ trivial (by kernel_rfl) Tryz.func158 (by kernel_rfl)
theorem k479:FnOk Tryz.prog 119 s479:=fn_okS (C:=c479) (hs:=h479) (ps:=P479) (rs:=R479) (specs:=[(145,s21),(158,s402),(157,s404),(117,s480)]) (dyns:=[]) (codes:=[]) rfl hm hT ⟨k21,k402,k404,k480,trivial⟩ trivial (by kernel_rfl) Tryz.func119 (by kernel_rfl)
theorem k194:FnOk Tryz.prog 153 s194:=fn_okS (C:=c194) (hs:=h194) (ps:=P194) (rs:=R194) (specs:=[]) (dyns:=[]) (codes:=[]) rfl hm hT trivial trivial (by kernel_rfl) Tryz.func153 (by kernel_rfl)
theorem k195:FnOk Tryz.prog 154 s195:=fn_okS (C:=c195) (hs:=h195) (ps:=P195) (rs:=R195) (specs:=[]) (dyns:=[]) (codes:=[]) rfl hm hT trivial trivial (by kernel_rfl) Tryz.func154 (by kernel_rfl)
theorem k177:FnOk Tryz.prog 116 s177:=fn_okS (C:=c177) (hs:=h177) (ps:=P177) (rs:=R177) (specs:=[(153,s194),(154,s195)]) (dyns:=[]) (codes:=[]) rfl hm hT ⟨k194,k195,trivial⟩ trivial (by kernel_rfl) Tryz.func116 (by kernel_rfl)
theorem k178:FnOk Tryz.prog 155 s178:=fn_okS (C:=c178) (hs:=h178) (ps:=P178) (rs:=R178) (specs:=[]) (dyns:=[]) (codes:=[]) rfl hm hT trivial trivial (by kernel_rfl) Tryz.func155 (by kernel_rfl)
theorem k212:FnOk Tryz.prog 236 s212:=fn_okS (C:=c212) (hs:=h212) (ps:=P212) (rs:=R212) (specs:=[]) (dyns:=[]) (codes:=[]) rfl hm hT trivial trivial (by kernel_rfl) Tryz.func236 (by kernel_rfl)
theorem k233:FnOk Tryz.prog 163 s233:=fn_okS (C:=c233) (hs:=h233) (ps:=P233) (rs:=R233) (specs:=[]) (dyns:=[]) (codes:=[]) rfl hm hT trivial trivial (by kernel_rfl) Tryz.func163 (by kernel_rfl)
theorem k240:FnOk Tryz.prog 214 s240:=fn_okS (C:=c240) (hs:=h240) (ps:=P240) (rs:=R240) (specs:=[]) (dyns:=[]) (codes:=[]) rfl hm hT trivial trivial (by kernel_rfl) Tryz.func214 (by kernel_rfl)
theorem k242:FnOk Tryz.prog 217 s242:=fn_okSX (C:=c242) (hs:=h242) (ps:=P242) (rs:=R242) (specs:=[]) (dyns:=[350]) (codes:=[]) (x:=cxA) rfl hm hT cxOk trivial trivial (by kernel_rfl) Tryz.func217 (by kernel_rfl)
theorem k247:FnOk Tryz.prog 248 s247:=fn_okS (C:=c247) (hs:=h247) (ps:=P247) (rs:=R247) (specs:=[]) (dyns:=[]) (codes:=[]) rfl hm hT trivial trivial (by kernel_rfl) Tryz.func248 (by kernel_rfl)
theorem k250:FnOk Tryz.prog 250 s250:=fn_okS (C:=c250) (hs:=h250) (ps:=P250) (rs:=R250) (specs:=[(93,s88),(53,s89)]) (dyns:=[]) (codes:=[]) rfl hm hT ⟨k88,k89,trivial⟩ trivial (by kernel_rfl) Tryz.func250 (by kernel_rfl)
theorem k234:FnOk Tryz.prog 216 s234:=fn_okS (C:=c234) (hs:=h234) (ps:=P234) (rs:=R234) (specs:=[(217,s242),(250,s250)]) (dyns:=[]) (codes:=[]) rfl hm hT ⟨k242,k250,trivial⟩ trivial (by kernel_rfl) Tryz.func216 (by kernel_rfl)
theorem k51:FnOk Tryz.prog 142 s51:=fn_okS (C:=c51) (hs:=h51) (ps:=P51) (rs:=R51) (specs:=[(60,s92)]) (dyns:=[]) (codes:=[]) rfl hm hT ⟨k92,trivial⟩ trivial (by kernel_rfl) Tryz.func142 (by kernel_rfl)
theorem k180:FnOk Tryz.prog 165 s180:=fn_okS (C:=c180) (hs:=h180) (ps:=P180) (rs:=R180) (specs:=[(60,s92)]) (dyns:=[]) (codes:=[]) rfl hm hT ⟨k92,trivial⟩ trivial (by kernel_rfl) Tryz.func165 (by kernel_rfl)
theorem k181:FnOk Tryz.prog 166 s181:=fn_okS (C:=c181) (hs:=h181) (ps:=P181) (rs:=R181) (specs:=[]) (dyns:=[]) (codes:=[]) rfl hm hT trivial trivial (by kernel_rfl) Tryz.func166 (by kernel_rfl)
theorem k145:FnOk Tryz.prog 122 s145:=fn_okS (C:=c145) (hs:=h145) (ps:=P145) (rs:=R145) (specs:=[(142,s51),(165,s180),(166,s181)]) (dyns:=[]) (codes:=[]) rfl hm hT ⟨k51,k180,k181,trivial⟩ trivial (by kernel_rfl) Tryz.func122 (by kernel_rfl)
theorem k113:FnOk Tryz.prog 81 s113:=fn_okS (C:=c113) (hs:=h113) (ps:=P113) (rs:=R113) (specs:=[(122,s145)]) (dyns:=[]) (codes:=[]) rfl hm hT ⟨k145,trivial⟩ trivial (by kernel_rfl) Tryz.func81 (by kernel_rfl)
theorem k474:FnOk Tryz.prog 138 s474:=fn_okS (C:=c474) (hs:=h474) (ps:=P474) (rs:=R474) (specs:=[]) (dyns:=[]) (codes:=[]) rfl hm hT trivial trivial (by kernel_rfl) Tryz.func138 (by kernel_rfl)
theorem k473:FnOk Tryz.prog 102 s473:=fn_okS (C:=c473) (hs:=h473) (ps:=P473) (rs:=R473) (specs:=[(93,s88),(53,s89),(138,s474)]) (dyns:=[]) (codes:=[]) rfl hm hT ⟨k88,k89,k474,trivial⟩ trivial (by kernel_rfl) Tryz.func102 (by kernel_rfl)
theorem k496:FnOk Tryz.prog 139 s496:=fn_okS (C:=c496) (hs:=h496) (ps:=P496) (rs:=R496) (specs:=[]) (dyns:=[]) (codes:=[]) rfl hm hT trivial trivial (by kernel_rfl) Tryz.func139 (by kernel_rfl)
theorem k495:FnOk Tryz.prog 103 s495:=fn_okS (C:=c495) (hs:=h495) (ps:=P495) (rs:=R495) (specs:=[(139,s496)]) (dyns:=[]) (codes:=[]) rfl hm hT ⟨k496,trivial⟩ trivial (by kernel_rfl) Tryz.func103 (by kernel_rfl)
theorem k418:FnOk Tryz.prog 104 s418:=fn_okS (C:=c418) (hs:=h418) (ps:=P418) (rs:=R418) (specs:=[(21,s71)]) (dyns:=[]) (codes:=[]) rfl hm hT ⟨k71,trivial⟩ trivial (by kernel_rfl) Tryz.func104 (by kernel_rfl)
theorem k52:FnOk Tryz.prog 143 s52:=fn_okS (C:=c52) (hs:=h52) (ps:=P52) (rs:=R52) (specs:=[(61,s93)]) (dyns:=[]) (codes:=[]) rfl hm hT ⟨k93,trivial⟩ trivial (by kernel_rfl) Tryz.func143 (by kernel_rfl)
theorem k94:FnOk Tryz.prog 146 s94:=fn_okS (C:=c94) (hs:=h94) (ps:=P94) (rs:=R94) (specs:=[]) (dyns:=[]) (codes:=[]) rfl hm hT trivial trivial (by kernel_rfl) Tryz.func146 (by kernel_rfl)
theorem k53:FnOk Tryz.prog 144 s53:=fn_okS (C:=c53) (hs:=h53) (ps:=P53) (rs:=R53) (specs:=[(146,s94)]) (dyns:=[]) (codes:=[]) rfl hm hT ⟨k94,trivial⟩ trivial (by kernel_rfl) Tryz.func144 (by kernel_rfl)
theorem k20:FnOk Tryz.prog 106 s20:=fn_okS (C:=c20) (hs:=h20) (ps:=P20) (rs:=R20) (specs:=[(145,s21),(65,s47),(142,s51),(143,s52),(144,s53)]) (dyns:=[]) (codes:=[]) rfl hm hT ⟨k21,k47,k51,k52,k53,trivial⟩ trivial (by kernel_rfl) Tryz.func106 (by kernel_rfl)
theorem k182:FnOk Tryz.prog 107 s182:=fn_okS (C:=c182) (hs:=h182) (ps:=P182) (rs:=R182) (specs:=[(146,s94)]) (dyns:=[]) (codes:=[]) rfl hm hT ⟨k94,trivial⟩ trivial (by kernel_rfl) Tryz.func107 (by kernel_rfl)
theorem k202:FnOk Tryz.prog 147 s202:=fn_okS (C:=c202) (hs:=h202) (ps:=P202) (rs:=R202) (specs:=[]) (dyns:=[]) (codes:=[]) rfl hm hT trivial trivial (by kernel_rfl) Tryz.func147 (by kernel_rfl)
theorem k183:FnOk Tryz.prog 108 s183:=fn_okS (C:=c183) (hs:=h183) (ps:=P183) (rs:=R183) (specs:=[(82,s83),(147,s202)]) (dyns:=[]) (codes:=[]) rfl hm hT ⟨k83,k202,trivial⟩ trivial (by kernel_rfl) Tryz.func108 (by kernel_rfl)
theorem k244:FnOk Tryz.prog 231 s244:=fn_okS (C:=c244) (hs:=h244) (ps:=P244) (rs:=R244) (specs:=[(184,s128)]) (dyns:=[]) (codes:=[]) rfl hm hT ⟨k128,trivial⟩ trivial (by kernel_rfl) Tryz.func231 (by kernel_rfl)
theorem kN407: ∀n,FnOk Tryz.prog 76 (sN407 n)
 |0=>⟨(fnB_ok Tryz.func76 (by kernel_rfl)).1,fun _ _ _ _ _ _ _ _ _ _ h=>none_some h⟩
 |n+1=>fn_okS (C:=mkC tys cells maps [(76,sN407 n)] [] []) (hs:=[(6, .rounds (List.replicate 17 []))]) (ps:=P407) (rs:=R407) (specs:=[(76,sN407 n)]) (dyns:=[]) (codes:=[]) rfl hm hT ⟨kN407 n,trivial⟩ trivial rfl Tryz.func76 (by kernel_rfl)
theorem k407:FnOk Tryz.prog 76 s407:=kN407 3
theorem k482:FnOk Tryz.prog 51 s482:=fn_okS (C:=c482) (hs:=h482) (ps:=P482) (rs:=R482) (specs:=[(76,s407)]) (dyns:=[]) (codes:=[]) rfl hm hT ⟨k407,trivial⟩ trivial (by kernel_rfl) Tryz.func51 (by kernel_rfl)
theorem k555:FnOk Tryz.prog 36 s555:=fn_okS (C:=c555) (hs:=h555) (ps:=P555) (rs:=R555) (specs:=[]) (dyns:=[]) (codes:=[]) rfl hm hT trivial trivial (by kernel_rfl) Tryz.func36 (by kernel_rfl)
theorem k301:FnOk Tryz.prog 54 s301:=fn_okS (C:=c301) (hs:=h301) (ps:=P301) (rs:=R301) (specs:=[]) (dyns:=[]) (codes:=[]) rfl hm hT trivial trivial (by kernel_rfl) Tryz.func54 (by kernel_rfl)
theorem k556:FnOk Tryz.prog 38 s556:=fn_okS (C:=c556) (hs:=h556) (ps:=P556) (rs:=R556) (specs:=[(54,s301)]) (dyns:=[]) (codes:=[]) rfl hm hT ⟨k301,trivial⟩ trivial (by kernel_rfl) Tryz.func38 (by kernel_rfl)
theorem k471:FnOk Tryz.prog 78 s471:=fn_okS (C:=c471) (hs:=h471) (ps:=P471) (rs:=R471) (specs:=[(55,s136)]) (dyns:=[]) (codes:=[]) rfl hm hT ⟨k136,trivial⟩ trivial (by kernel_rfl) Tryz.func78 (by kernel_rfl)
theorem k477:FnOk Tryz.prog 182 s477:=fn_okS (C:=c477) (hs:=h477) (ps:=P477) (rs:=R477) (specs:=[]) (dyns:=[]) (codes:=[]) rfl hm hT trivial trivial (by kernel_rfl) Tryz.func182 (by kernel_rfl)
theorem k476:FnOk Tryz.prog 126 s476:=fn_okS (C:=c476) (hs:=h476) (ps:=P476) (rs:=R476) (specs:=[(170,s155),(172,s157),(182,s477)]) (dyns:=[]) (codes:=[]) rfl hm hT ⟨k155,k157,k477,trivial⟩ trivial (by kernel_rfl) Tryz.func126 (by kernel_rfl)
theorem k410:FnOk Tryz.prog 83 s410:=fn_okS (C:=c410) (hs:=h410) (ps:=P410) (rs:=R410) (specs:=[(124,s121),(127,s124),(126,s476)]) (dyns:=[]) (codes:=[]) rfl hm hT ⟨k121,k124,k476,trivial⟩ trivial (by kernel_rfl) Tryz.func83 (by kernel_rfl)
theorem k13:FnOk Tryz.prog 20 s13:=fn_okS (C:=c13) (hs:=h13) (ps:=P13) (rs:=R13) (specs:=[]) (dyns:=[]) (codes:=[]) rfl hm hT trivial trivial (by kernel_rfl) Tryz.func20 (by kernel_rfl)
theorem k472:FnOk Tryz.prog 79 s472:=fn_okS (C:=c472) (hs:=h472) (ps:=P472) (rs:=R472) (specs:=[]) (dyns:=[]) (codes:=[]) rfl hm hT trivial trivial (by kernel_rfl) Tryz.func79 (by kernel_rfl)
theorem k210:FnOk Tryz.prog 234 s210:=fn_okS (C:=c210) (hs:=h210) (ps:=P210) (rs:=R210) (specs:=[]) (dyns:=[]) (codes:=[]) rfl hm hT trivial trivial (by kernel_rfl) Tryz.func234 (by kernel_rfl)
theorem k211:FnOk Tryz.prog 235 s211:=fn_okS (C:=c211) (hs:=h211) (ps:=P211) (rs:=R211) (specs:=[]) (dyns:=[]) (codes:=[]) rfl hm hT trivial trivial (by kernel_rfl) Tryz.func235 (by kernel_rfl)
theorem k231:FnOk Tryz.prog 257 s231:=fn_okS (C:=c231) (hs:=h231) (ps:=P231) (rs:=R231) (specs:=[]) (dyns:=[]) (codes:=[]) rfl hm hT trivial trivial (by kernel_rfl) Tryz.func257 (by kernel_rfl)
theorem k235:FnOk Tryz.prog 259 s235:=fn_okS (C:=c235) (hs:=h235) (ps:=P235) (rs:=R235) (specs:=[(93,s88),(53,s89)]) (dyns:=[]) (codes:=[]) rfl hm hT ⟨k88,k89,trivial⟩ trivial (by kernel_rfl) Tryz.func259 (by kernel_rfl)
theorem k232:FnOk Tryz.prog 258 s232:=fn_okS (C:=c232) (hs:=h232) (ps:=P232) (rs:=R232) (specs:=[(259,s235)]) (dyns:=[]) (codes:=[]) rfl hm hT ⟨k235,trivial⟩ trivial (by kernel_rfl) Tryz.func258 (by kernel_rfl)
theorem k304:FnOk Tryz.prog 340 s304:=fn_okS (C:=c304) (hs:=h304) (ps:=P304) (rs:=R304) (specs:=[]) (dyns:=[]) (codes:=[]) rfl hm hT trivial trivial (by kernel_rfl) Tryz.func340 (by kernel_rfl)
theorem k535:FnOk Tryz.prog 9 s535:=fn_okS (C:=c535) (hs:=h535) (ps:=P535) (rs:=R535) (specs:=[]) (dyns:=[]) (codes:=[]) rfl hm hT trivial trivial (by kernel_rfl) Tryz.func9 (by kernel_rfl)
theorem k420:FnOk Tryz.prog 11 s420:=fn_okS (C:=c420) (hs:=h420) (ps:=P420) (rs:=R420) (specs:=[]) (dyns:=[]) (codes:=[]) rfl hm hT trivial trivial (by kernel_rfl) Tryz.func11 (by kernel_rfl)
end Sx
end
