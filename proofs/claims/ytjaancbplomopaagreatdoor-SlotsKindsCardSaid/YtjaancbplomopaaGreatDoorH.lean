/- Each function that the statement reaches keeps its contract. No conditions. -/
import Derived.Test.YtjaancbplomopaaGreatDoorProg
import Derived.Shelf.LaysM
import Derived.Ground.NamesProg
import Derived.Shelf.Strconv.Itoa3
import Derived.Ground.SlgnProg
import Derived.Shelf.SlicesE.Clone
import Derived.Shelf.GgSortFunc.Tiny
import Derived.Ground.GgsProg
import Derived.Test.YtjaancbplomopaaGreatDoorE
import Derived.Test.YtjaancbplomopaaGreatDoorD
set_option linter.unusedVariables false
set_option linter.unusedSimpArgs false
set_option linter.unusedSectionVars false
set_option maxRecDepth 100000
section
namespace Go.Proofs
open Go.Shelf
def Tryz.laysItoa_ren:Go.Shelf.Ren:=⟨fun|171=>251|243=>292|246=>301|283=>313|284=>314|285=>315|286=>316|129=>241|317=>323|318=>324|319=>325|320=>326|337=>328|338=>329|n=>n,fun|3=>3|9=>9|2=>2|4=>4|171=>398|0=>0|53=>225|37=>32|5=>5|173=>400|212=>407|51=>131|20=>20|213=>408|46=>136|232=>30|233=>411|n=>n,fun|17=>1|18=>2|19=>3|n=>n⟩
theorem Tryz.laysItoa:Go.Proofs.LaysM.n171 Tryz.prog Tryz.laysItoa_ren:={
 mixed:=by kernel_rfl
 f129:=Tryz.func241.trans (congrArg some (by kernel_rfl))
 f171:=Tryz.func251.trans (congrArg some (by kernel_rfl))
 f243:=Tryz.func292.trans (congrArg some (by kernel_rfl))
 f246:=Tryz.func301.trans (congrArg some (by kernel_rfl))
 f283:=Tryz.func313.trans (congrArg some (by kernel_rfl))
 f284:=Tryz.func314.trans (congrArg some (by kernel_rfl))
 f285:=Tryz.func315.trans (congrArg some (by kernel_rfl))
 f286:=Tryz.func316.trans (congrArg some (by kernel_rfl))
 f317:=Tryz.func323.trans (congrArg some (by kernel_rfl))
 f318:=Tryz.func324.trans (congrArg some (by kernel_rfl))
 f319:=Tryz.func325.trans (congrArg some (by kernel_rfl))
 f320:=Tryz.func326.trans (congrArg some (by kernel_rfl))
 f337:=Tryz.func328.trans (congrArg some (by kernel_rfl))
 f338:=Tryz.func329.trans (congrArg some (by kernel_rfl))
 t0:=Tryz.underlying0
 a0:=Tryz.isAgg0
 z0:=Tryz.sizeOf0
 v0:=Tryz.zeroValue0
 t2:=Tryz.underlying2
 a2:=Tryz.isAgg2
 z2:=Tryz.sizeOf2
 v2:=Tryz.zeroValue2
 t3:=Tryz.underlying3
 a3:=Tryz.isAgg3
 z3:=Tryz.sizeOf3
 v3:=Tryz.zeroValue3
 t4:=Tryz.underlying4
 a4:=Tryz.isAgg4
 z4:=Tryz.sizeOf4
 v4:=Tryz.zeroValue4
 t5:=Tryz.underlying5
 a5:=Tryz.isAgg5
 z5:=Tryz.sizeOf5
 v5:=Tryz.zeroValue5
 t9:=Tryz.underlying9
 a9:=Tryz.isAgg9
 z9:=Tryz.sizeOf9
 v9:=Tryz.zeroValue9
 t20:=Tryz.underlying20
 a20:=Tryz.isAgg20
 z20:=Tryz.sizeOf20
 v20:=Tryz.zeroValue20
 t37:=Tryz.underlying32
 a37:=Tryz.isAgg32
 z37:=Tryz.sizeOf32
 v37:=Tryz.zeroValue32
 t46:=Tryz.underlying136
 a46:=Tryz.isAgg136
 z46:=Tryz.sizeOf136
 v46:=Tryz.zeroValue136
 t51:=Tryz.underlying131
 a51:=Tryz.isAgg131
 z51:=Tryz.sizeOf131
 v51:=Tryz.zeroValue131
 t53:=Tryz.underlying225
 a53:=Tryz.isAgg225
 z53:=Tryz.sizeOf225
 v53:=Tryz.zeroValue225
 t171:=Tryz.underlying398
 a171:=Tryz.isAgg398
 z171:=Tryz.sizeOf398
 v171:=Tryz.zeroValue398
 t173:=Tryz.underlying400
 a173:=Tryz.isAgg400
 z173:=Tryz.sizeOf400
 v173:=Tryz.zeroValue400
 t212:=Tryz.underlying407
 a212:=Tryz.isAgg407
 z212:=Tryz.sizeOf407
 v212:=Tryz.zeroValue407
 t213:=Tryz.underlying408
 a213:=Tryz.isAgg408
 z213:=Tryz.sizeOf408
 t232:=Tryz.underlying30
 a232:=Tryz.isAgg30
 z232:=Tryz.sizeOf30
 v232:=Tryz.zeroValue30
 t233:=Tryz.underlying411
 a233:=Tryz.isAgg411
 z233:=Tryz.sizeOf411
 v233:=Tryz.zeroValue411
 g17:=by kernel_rfl
 g18:=by kernel_rfl
 g19:=by kernel_rfl
 i0:=by kernel_rfl
 i2:=by kernel_rfl
 i3:=by kernel_rfl
 i4:=by kernel_rfl
 i5:=by kernel_rfl
 i9:=by kernel_rfl
 i20:=by kernel_rfl
 i37:=by kernel_rfl
 i46:=by kernel_rfl
 i51:=by kernel_rfl
 i53:=by kernel_rfl
 i171:=by kernel_rfl
 i173:=by kernel_rfl
 i212:=by kernel_rfl
 i232:=by kernel_rfl
 i233:=by kernel_rfl
 m17:=by kernel_rfl
 m18:=by kernel_rfl
 m19:=by kernel_rfl}
def Tryz.laysClone_ren:Go.Shelf.Ren:=⟨fun|41=>96|n=>n,fun|22=>78|23=>31|4=>4|n=>n,fun|n=>n⟩
theorem Tryz.laysClone:Go.Proofs.SlLaysE0.n41 Tryz.prog Tryz.laysClone_ren:={
 mixed:=by kernel_rfl
 f41:=⟨Tryz.f96.name,by decide,Tryz.func96.trans (congrArg some (by kernel_rfl))⟩
 t4:=Tryz.underlying4
 a4:=Tryz.isAgg4
 z4:=Tryz.sizeOf4
 v4:=Tryz.zeroValue4
 t22:=Tryz.underlying78
 a22:=Tryz.isAgg78
 z22:=Tryz.sizeOf78
 v22:=Tryz.zeroValue78}
def Tryz.laysSort_ren:Go.Shelf.Ren:=⟨fun|6=>118|10=>168|11=>169|12=>170|13=>171|14=>172|24=>240|25=>241|26=>242|27=>243|28=>244|29=>245|30=>246|31=>247|32=>248|33=>249|34=>287|35=>288|36=>289|37=>290|38=>291|39=>300|n=>n,fun|20=>20|26=>206|35=>267|0=>0|37=>171|3=>3|41=>136|44=>273|49=>131|51=>225|4=>4|54=>334|53=>333|58=>187|5=>5|9=>9|60=>371|64=>375|66=>384|67=>313|17=>17|32=>264|33=>265|82=>425|12=>12|75=>418|76=>419|77=>420|78=>421|79=>422|80=>423|n=>n,fun|n=>n⟩
theorem Tryz.laysSort:Go.Proofs.LaysGg.n6 Tryz.prog Tryz.laysSort_ren:={
 mixed:=by kernel_rfl
 f6:=Tryz.func118.trans (congrArg some (by kernel_rfl))
 f10:=Tryz.func168.trans (congrArg some (by kernel_rfl))
 f11:=Tryz.func169.trans (congrArg some (by kernel_rfl))
 f12:=Tryz.func170.trans (congrArg some (by kernel_rfl))
 f13:=Tryz.func171.trans (congrArg some (by kernel_rfl))
 f14:=Tryz.func172.trans (congrArg some (by kernel_rfl))
 f24:=Tryz.func240.trans (congrArg some (by kernel_rfl))
 f25:=Tryz.func241.trans (congrArg some (by kernel_rfl))
 f26:=Tryz.func242.trans (congrArg some (by kernel_rfl))
 f27:=Tryz.func243.trans (congrArg some (by kernel_rfl))
 f28:=Tryz.func244.trans (congrArg some (by kernel_rfl))
 f29:=Tryz.func245.trans (congrArg some (by kernel_rfl))
 f30:=Tryz.func246.trans (congrArg some (by kernel_rfl))
 f31:=Tryz.func247.trans (congrArg some (by kernel_rfl))
 f32:=Tryz.func248.trans (congrArg some (by kernel_rfl))
 f33:=Tryz.func249.trans (congrArg some (by kernel_rfl))
 f34:=Tryz.func287.trans (congrArg some (by kernel_rfl))
 f35:=Tryz.func288.trans (congrArg some (by kernel_rfl))
 f36:=Tryz.func289.trans (congrArg some (by kernel_rfl))
 f37:=Tryz.func290.trans (congrArg some (by kernel_rfl))
 f38:=Tryz.func291.trans (congrArg some (by kernel_rfl))
 f39:=Tryz.func300.trans (congrArg some (by kernel_rfl))
 t0:=Tryz.underlying0
 a0:=Tryz.isAgg0
 z0:=Tryz.sizeOf0
 v0:=Tryz.zeroValue0
 i0:=by kernel_rfl
 t3:=Tryz.underlying3
 a3:=Tryz.isAgg3
 z3:=Tryz.sizeOf3
 v3:=Tryz.zeroValue3
 i3:=by kernel_rfl
 t4:=Tryz.underlying4
 a4:=Tryz.isAgg4
 z4:=Tryz.sizeOf4
 v4:=Tryz.zeroValue4
 i4:=by kernel_rfl
 t5:=Tryz.underlying5
 a5:=Tryz.isAgg5
 z5:=Tryz.sizeOf5
 v5:=Tryz.zeroValue5
 i5:=by kernel_rfl
 t9:=Tryz.underlying9
 a9:=Tryz.isAgg9
 z9:=Tryz.sizeOf9
 v9:=Tryz.zeroValue9
 i9:=by kernel_rfl
 t12:=Tryz.underlying12
 a12:=Tryz.isAgg12
 z12:=Tryz.sizeOf12
 v12:=Tryz.zeroValue12
 i12:=by kernel_rfl
 t17:=Tryz.underlying17
 a17:=Tryz.isAgg17
 z17:=Tryz.sizeOf17
 v17:=Tryz.zeroValue17
 i17:=by kernel_rfl
 t20:=Tryz.underlying20
 a20:=Tryz.isAgg20
 z20:=Tryz.sizeOf20
 v20:=Tryz.zeroValue20
 i20:=by kernel_rfl
 t26:=Tryz.underlying206
 a26:=Tryz.isAgg206
 z26:=Tryz.sizeOf206
 v26:=Tryz.zeroValue206
 i26:=by kernel_rfl
 t32:=Tryz.underlying264
 a32:=Tryz.isAgg264
 z32:=Tryz.sizeOf264
 v32:=Tryz.zeroValue264
 i32:=by kernel_rfl
 t33:=Tryz.underlying265
 a33:=Tryz.isAgg265
 z33:=Tryz.sizeOf265
 v33:=Tryz.zeroValue265
 i33:=by kernel_rfl
 t35:=Tryz.underlying267
 a35:=Tryz.isAgg267
 z35:=Tryz.sizeOf267
 v35:=Tryz.zeroValue267
 i35:=by kernel_rfl
 t37:=Tryz.underlying171
 a37:=Tryz.isAgg171
 z37:=Tryz.sizeOf171
 v37:=Tryz.zeroValue171
 i37:=by kernel_rfl
 t41:=Tryz.underlying136
 a41:=Tryz.isAgg136
 z41:=Tryz.sizeOf136
 v41:=Tryz.zeroValue136
 i41:=by kernel_rfl
 t44:=Tryz.underlying273
 a44:=Tryz.isAgg273
 z44:=Tryz.sizeOf273
 v44:=Tryz.zeroValue273
 i44:=by kernel_rfl
 t49:=Tryz.underlying131
 a49:=Tryz.isAgg131
 z49:=Tryz.sizeOf131
 v49:=Tryz.zeroValue131
 i49:=by kernel_rfl
 t51:=Tryz.underlying225
 a51:=Tryz.isAgg225
 z51:=Tryz.sizeOf225
 v51:=Tryz.zeroValue225
 i51:=by kernel_rfl
 t53:=Tryz.underlying333
 a53:=Tryz.isAgg333
 z53:=Tryz.sizeOf333
 v53:=Tryz.zeroValue333
 i53:=by kernel_rfl
 t54:=Tryz.underlying334
 a54:=Tryz.isAgg334
 z54:=Tryz.sizeOf334
 v54:=Tryz.zeroValue334
 i54:=by kernel_rfl
 t58:=Tryz.underlying187
 a58:=Tryz.isAgg187
 z58:=Tryz.sizeOf187
 v58:=Tryz.zeroValue187
 i58:=by kernel_rfl
 t60:=Tryz.underlying371
 a60:=Tryz.isAgg371
 z60:=Tryz.sizeOf371
 v60:=Tryz.zeroValue371
 i60:=by kernel_rfl
 t64:=Tryz.underlying375
 a64:=Tryz.isAgg375
 z64:=Tryz.sizeOf375
 v64:=Tryz.zeroValue375
 i64:=by kernel_rfl
 t66:=Tryz.underlying384
 a66:=Tryz.isAgg384
 z66:=Tryz.sizeOf384
 v66:=Tryz.zeroValue384
 i66:=by kernel_rfl
 t67:=Tryz.underlying313
 a67:=Tryz.isAgg313
 z67:=Tryz.sizeOf313
 v67:=Tryz.zeroValue313
 i67:=by kernel_rfl
 t75:=Tryz.underlying418
 a75:=Tryz.isAgg418
 z75:=Tryz.sizeOf418
 v75:=Tryz.zeroValue418
 i75:=by kernel_rfl
 t76:=Tryz.underlying419
 a76:=Tryz.isAgg419
 z76:=Tryz.sizeOf419
 v76:=Tryz.zeroValue419
 i76:=by kernel_rfl
 t77:=Tryz.underlying420
 a77:=Tryz.isAgg420
 z77:=Tryz.sizeOf420
 v77:=Tryz.zeroValue420
 i77:=by kernel_rfl
 t78:=Tryz.underlying421
 a78:=Tryz.isAgg421
 z78:=Tryz.sizeOf421
 v78:=Tryz.zeroValue421
 i78:=by kernel_rfl
 t79:=Tryz.underlying422
 a79:=Tryz.isAgg422
 z79:=Tryz.sizeOf422
 v79:=Tryz.zeroValue422
 i79:=by kernel_rfl
 t80:=Tryz.underlying423
 a80:=Tryz.isAgg423
 z80:=Tryz.sizeOf423
 v80:=Tryz.zeroValue423
 i80:=by kernel_rfl
 t82:=Tryz.underlying425
 a82:=Tryz.isAgg425
 z82:=Tryz.sizeOf425
 v82:=Tryz.zeroValue425
 i82:=by kernel_rfl}
end Go.Proofs
end
section
open Go Go.Proofs Go.Shelf Go.RowKit Go.Lib Ev
namespace Sx
theorem After.grow(w:World)(M:Nat->Prop)(hM: ∀B,M B->B<w.heap.size)(k:Nat)(os:Array Obj):After w M [] (Sort.grow (w.drewN k) os) M where
 size:=by simp[Sort.grow,World.drewN]
 blk B hB _:=by simp[Sort.grow,World.drewN,Array.getElem?_append_left hB]
 os:=rfl
 tape:=rfl
 output:=rfl
 m _ _:=Iff.rfl
 mlt B hB:=Nat.lt_of_lt_of_le (hM B hB) (by simp[Sort.grow,World.drewN])
theorem k127:FnOk Tryz.prog 251 s127:=by
 refine⟨(fnB_ok Tryz.func251 (by kernel_rfl)).1,fun w M x vs hM hg hx _ _ r hr=> ?_⟩
 obtain⟨v,l,rfl,hv,hl⟩:=hx
 have hl':l=[]:=hl
 subst hl'
 have hv':RelC w M .i64 x.1 [v]:=hv
 simp only[RelC,List.cons.injEq,and_true]at hv'
 subst hv'
 have hr':cond (decide (-9223372036854775808<=(x.1:Int))&&decide ((x.1:Int)<=9223372036854775807)) (some (Lib.itoa x.1)) none=(some r:Option (List UInt8)):=hr
 cases hc:decide (-9223372036854775808<=(x.1:Int))&&decide ((x.1:Int)<=9223372036854775807)with
 |false=>rw[hc]at hr';cases hr'
 |true=>
  rw[hc]at hr'
  simp only[cond_true]at hr'
  simp only[Bool.and_eq_true,decide_eq_true_eq]at hc
  refine(Any.strconv_Itoa Tryz.laysItoa x.1 hc.1 hc.2 w (hg _ _ (by simp[tabs]) 1 (by kernel_rfl)).1).mono ?_
  rintro e w' ⟨rfl,k,os,rfl⟩
  refine⟨[.string ⟨(Lib.itoa x.1).toArray⟩],M,rfl,?_,After.grow w M hM k os⟩
  refine⟨_,rfl,?_,rfl⟩
  have e:(Lib.itoa x.1:List UInt8)=r:=by injection hr'
  have:RelC (Sort.grow (w.drewN k) os) M .str (Lib.itoa x.1:List UInt8) [.string ⟨(Lib.itoa x.1).toArray⟩]:=by simp only[RelC]
  exact e▸this
end Sx
end
section
open Go Go.Proofs Go.Shelf Go.RowKit Go.Lib Ev
namespace Sx
theorem infoH: ∃i0 z,Tryz.prog.info? 31=some i0∧i0.zero=some z∧i0.size=32∧i0.bytes=32∧z.cells.size=32:=by
 have h:(Tryz.prog.info? 31).map (fun i=>(i.zero.map fun z=>z.cells.size,i.size,i.bytes))=some (some 32,32,32):=by kernel_rfl
 obtain⟨i0,h1,h2⟩:=Option.map_eq_some_iff.1 h
 simp only[Prod.mk.injEq]at h2
 obtain⟨z,h3,h4⟩:=Option.map_eq_some_iff.1 h2.1
 exact⟨i0,z,h1,h3,h2.2.1,h2.2.2,h4⟩
theorem cloneH_zero(a:Addr)(c:Nat)(w:World):
 Calls Tryz.prog 96 #[.slice (some a) 0 c] w fun e w'=> ∃v',e= .returned v'∧w'.ownsRow w.heap.size 31 32 v' 0 []∧Below w.heap.size w w':=by
 have q: ∀(w:World) (a:Option Addr) (n c n' c':Nat),(binOp .eql 78 (.slice a n c) (.slice none n' c')).run Tryz.prog w= .ok (.bool a.isNone) w:=fun w a n c n' c'=>Lib.run_eql_slice_nil w _ _ a n c n' c' Tryz.underlying78
 obtain⟨i0,z,hi,hz0,hz1,hz2,hz3⟩:=infoH
 go_enter Tryz.func96,Tryz.ntmps96
 go_wp2_with (at_builtin;refine wpList_append_own _ rfl _ _ 78 rfl w.heap.size 31 i0 z 32 32 Tryz.underlying78 hi hz0 hz1 hz2 hz3 (by decide) _ _ _ rfl (World.ownsRow_made w #[] 0 (Nat.le_refl _) (Nat.zero_le _) rfl) a 0 c [] rfl rfl (by intro j u hj;simp at hj) (by intro u hu;cases hu) (by unfold maxLen;omega) (by omega) (by simp) ?_)
 intro v' w1 hown hgrow hnil
 go_wp2
 go_ret
 exact⟨v',rfl,by simpa using hown,((Below.refl _ w).alloc (Nat.le_refl _) _).grown hgrow (by simp) (by intro k hk;simp[Value.ownBlock]at hk;omega)⟩
theorem After.ofBelow{w w':World}{M:Nat->Prop}(hM: ∀B,M B->B<w.heap.size)(h:Below w.heap.size w w'):After w M [] w' M:=
 ⟨h.size,fun B hB _=>h.block B hB,h.os,h.tape,h.output,fun _ _=>Iff.rfl,fun B hB=>Nat.lt_of_lt_of_le (hM B hB) h.size⟩
abbrev HV:=Vector UInt8 32
theorem hashOne: ∀ {l:List HV} {vs:List Value} {w:World} {M:Nat->Prop},RowR (fun(y:Val (.arr 32 .u8)) u=>RelC w M (.arr 32 .u8) y u) l vs-> ∀u∈vs,u.oneCell'=true:=by
 intro l vs w M h
 refine RowR.all (p:=fun u=>u.oneCell'=true) ?_ h
 intro x u hu v hv
 have hu':RowR (fun(y:Val .u8) u=>RelC w M .u8 y u) (x:HV).toList u:=hu
 refine RowR.all (p:=fun u=>u.oneCell'=true) ?_ hu' v hv
 intro x u hu v hv
 have hu':u=[.int .u8 (x:UInt8).toNat]:=hu
 subst hu'
 simp only[List.mem_singleton]at hv
 subst hv;rfl
theorem hash_mono{w w0:World}{M M0:Nat->Prop}{x:HV}{u:List Value}(h:RelC w0 M0 (.arr 32 .u8) x u):RelC w M (.arr 32 .u8) x u:=by
 have h':RowR (fun(y:Val .u8) u=>RelC w0 M0 .u8 y u) x.toList u:=h
 exact h'.mono fun x u hu=>hu
theorem hash_len{w:World}{M:Nat->Prop}(x:HV)(u:List Value)(h:RelC w M (.arr 32 .u8) x u):u.length=32:=by
 rw[RelC.length h];rfl
theorem ownsH_rel{w w':World}{M:Nat->Prop}(hM: ∀B,M B->B<w.heap.size){l:List HV}{vs:List Value}{w0:World}{M0:Nat->Prop}(hr:RowR (fun(y:Val (.arr 32 .u8)) u=>RelC w0 M0 (.arr 32 .u8) y u) l vs){v':Value}(h:w'.ownsRow w.heap.size 31 32 v' l.length vs):RelC w' M (.sl (.arr 32 .u8)) l [v']:=by
 obtain⟨h1,h2⟩:=h
 rcases h2 with⟨rfl,h2⟩|⟨g,cap,cur,rfl,hg,hc,hlc,_,hsz,ht⟩
 ·have:l=[]:=List.length_eq_zero_iff.1 h2
  subst this
  simp only[RelC]
  exact .inl ⟨trivial,none,0,rfl⟩
 ·by_cases hl:l=[]
  ·subst hl
   simp only[RelC]
   exact .inl ⟨trivial,_,_,rfl⟩
  ·rw[RelC]
   have hlt:g<w'.heap.size:=(Array.getElem?_eq_some_iff.1 hc).1
   refine .inr ⟨hl,g,0,cap,vs,rfl,hlc,hlt,fun hm=>absurd (hM g hm) (by omega),fun i v hv=> ?_,hr.mono fun x u hu=>hash_mono hu⟩
   have hi:i<vs.length:=(List.getElem?_eq_some_iff.1 hv).1
   rw[←ht]at hv
   rw[List.getElem?_take]at hv
   split at hv
   ·simp only[World.cell?,Nat.zero_add,hc]
    simpa using hv
   ·cases hv
theorem k579:FnOk Tryz.prog 96 s579:=by
 refine⟨(fnB_ok Tryz.func96 (by kernel_rfl)).1,fun w M x vs hM hg hx _ _ r hr=> ?_⟩
 obtain⟨v,l,rfl,hv,hl⟩:=hx
 have hl':l=[]:=hl
 subst hl'
 have hv':RelC w M (.sl (.arr 32 .u8)) x.1 [v]:=hv
 have hr':cond (decide ((x.1:List HV).length<=1000)) (some (x.1:List HV)) none=(some r:Option (List HV)):=hr
 cases hc:decide ((x.1:List HV).length<=1000)with
 |false=>rw[hc]at hr';cases hr'
 |true=>
  rw[hc]at hr'
  have hlen:(x.1:List HV).length<=1000:=of_decide_eq_true hc
  have e:(x.1:List HV)=r:=by injection hr'
  have fin: ∀(v':Value) (w':World),RelC w' M (.sl (.arr 32 .u8)) (x.1:List HV) [v']->Below w.heap.size w w'-> ∃us M',Ending.returned v'= .returned (match us with|[u]=>u|us=> .tuple us.toArray)∧OutR w' M' w.heap.size s579.results (ioTy s579.params) r us (ioBlks s579.params [v])∧After w M (ioBlks s579.params [v]) w' M':=by
   intro v' w' h1 h2
   refine⟨[v'],M,rfl,⟨v',rfl,?_,rfl⟩,After.ofBelow hM h2⟩
   have h1':RelC w' M (.sl (.arr 32 .u8)) r [v']:=e▸h1
   exact h1'
  rw[RelC]at hv'
  rcases hv' with⟨h0,a,c,hv'⟩|⟨h0,B,off,cap,us,hv',h1,h2,h3,h4,h5⟩
  ·simp only[List.cons.injEq,and_true]at hv'
   subst hv'
   cases a with
   |none=>
    refine(AnyE.slices_Clone_nil Tryz.laysClone 0 c w).mono ?_
    rintro e' w' ⟨rfl,rfl⟩
    refine fin _ _ ?_ (Below.refl _ _)
    rw[h0];rw[RelC];exact .inl ⟨rfl,none,0,rfl⟩
   |some a=>
    refine(cloneH_zero a c w).mono ?_
    rintro e' w' ⟨v',rfl,ho,hb⟩
    refine fin _ _ ?_ hb
    rw[h0]
    exact ownsH_rel (w0:=w) (M0:=M) hM (l:=[]) .nil ho
  ·simp only[List.cons.injEq,and_true]at hv'
   subst hv'
   obtain⟨i0,z,hi,hz0,hz1,hz2,hz3⟩:=infoH
   have hln:=h5.length (s:=32) (fun x u hu=>hash_len x u hu)
   refine(AnyE.slices_Clone Tryz.laysClone i0 z 32 32 hi hz0 hz1 hz2 hz3 (by decide) (fun w=>by kernel_rfl) B off _ cap us w hln (by unfold maxLen;omega) (by omega) (fun j u hu=>h4 j u hu) (hashOne (w:=w) (M:=M) h5)).mono ?_
   rintro e' w' ⟨v',rfl,ho,_,hb⟩
   exact fin _ _ (ownsH_rel (w0:=w) (M0:=M) hM h5 ho) hb
end Sx
end
section
open Go Go.Proofs Go.Shelf Go.RowKit Go.Lib Ev
namespace Sx
theorem tinyW:TinyOk Tryz.prog 118 299:=by
 refine⟨by kernel_rfl,fun p n c lf la lb w hn=> ?_⟩
 have h0:(Tryz.prog.info? 299).map (fun i=>i.desc)=some (.slice 303):=by kernel_rfl
 obtain⟨i,hi,hd⟩:=Option.map_eq_some_iff.1 h0
 have hk: ∀w,(Extern.Rtype.kind 303).run Tryz.prog w= .ok 25 w:=fun _=>by kernel_rfl
 have he: ∃ie,Tryz.prog.info? 303=some ie:=by
  have h:(Tryz.prog.info? 303).isSome=true:=by kernel_rfl
  exact Option.isSome_iff_exists.1 h
 obtain⟨ie,hie⟩:=he
 have hs:Lib.swapperK n ie 25=n+1:=by
  rcases Nat.le_one_iff_eq_zero_or_eq_one.1 hn with rfl|rfl<;>simp[Lib.swapperK]
 have fin: ∀f,Tryz.prog.funcs.findIdx? (·.name== "internal/reflectlite" ++ ".Swapper$" ++toString (n+1))=some f->Calls Tryz.prog 118 #[.iface 299 (.slice p n c), .func lf la lb] w fun e w'=>e= .returned (.tuple #[])∧Pure w w':=by
  intro f hf
  have h:=Any.sort_Slice_tiny Tryz.laysSort 299 303 i ie hi hd (by kernel_rfl) hie 25 hk p n c hn f (by rw[hs];exact hf) lf la lb w
  change Calls Tryz.prog 118 _ _ _ at h
  refine h.mono ?_
  rintro e w' ⟨rfl,os,rfl⟩
  exact⟨rfl,by simp[Sort.grow],fun B hB=>by simp[Sort.grow,Array.getElem?_append_left hB],rfl,rfl,rfl⟩
 rcases Nat.le_one_iff_eq_zero_or_eq_one.1 hn with rfl|rfl
 ·exact fin 231 (by kernel_rfl)
 ·exact fin 232 (by kernel_rfl)
theorem tinyV:TinyOk Tryz.prog 118 141:=by
 refine⟨by kernel_rfl,fun p n c lf la lb w hn=> ?_⟩
 have h0:(Tryz.prog.info? 141).map (fun i=>i.desc)=some (.slice 42):=by kernel_rfl
 obtain⟨i,hi,hd⟩:=Option.map_eq_some_iff.1 h0
 have hk: ∀w,(Extern.Rtype.kind 42).run Tryz.prog w= .ok 25 w:=fun _=>by kernel_rfl
 have he: ∃ie,Tryz.prog.info? 42=some ie:=by
  have h:(Tryz.prog.info? 42).isSome=true:=by kernel_rfl
  exact Option.isSome_iff_exists.1 h
 obtain⟨ie,hie⟩:=he
 have hs:Lib.swapperK n ie 25=n+1:=by
  rcases Nat.le_one_iff_eq_zero_or_eq_one.1 hn with rfl|rfl<;>simp[Lib.swapperK]
 have fin: ∀f,Tryz.prog.funcs.findIdx? (·.name== "internal/reflectlite" ++ ".Swapper$" ++toString (n+1))=some f->Calls Tryz.prog 118 #[.iface 141 (.slice p n c), .func lf la lb] w fun e w'=>e= .returned (.tuple #[])∧Pure w w':=by
  intro f hf
  have h:=Any.sort_Slice_tiny Tryz.laysSort 141 42 i ie hi hd (by kernel_rfl) hie 25 hk p n c hn f (by rw[hs];exact hf) lf la lb w
  change Calls Tryz.prog 118 _ _ _ at h
  refine h.mono ?_
  rintro e w' ⟨rfl,os,rfl⟩
  exact⟨rfl,by simp[Sort.grow],fun B hB=>by simp[Sort.grow,Array.getElem?_append_left hB],rfl,rfl,rfl⟩
 rcases Nat.le_one_iff_eq_zero_or_eq_one.1 hn with rfl|rfl
 ·exact fin 231 (by kernel_rfl)
 ·exact fin 232 (by kernel_rfl)
theorem tinyB:TinyOk Tryz.prog 118 90:=by
 refine⟨by kernel_rfl,fun p n c lf la lb w hn=> ?_⟩
 have h0:(Tryz.prog.info? 90).map (fun i=>i.desc)=some (.slice 152):=by kernel_rfl
 obtain⟨i,hi,hd⟩:=Option.map_eq_some_iff.1 h0
 have hk: ∀w,(Extern.Rtype.kind 152).run Tryz.prog w= .ok 25 w:=fun _=>by kernel_rfl
 have he: ∃ie,Tryz.prog.info? 152=some ie:=by
  have h:(Tryz.prog.info? 152).isSome=true:=by kernel_rfl
  exact Option.isSome_iff_exists.1 h
 obtain⟨ie,hie⟩:=he
 have hs:Lib.swapperK n ie 25=n+1:=by
  rcases Nat.le_one_iff_eq_zero_or_eq_one.1 hn with rfl|rfl<;>simp[Lib.swapperK]
 have fin: ∀f,Tryz.prog.funcs.findIdx? (·.name== "internal/reflectlite" ++ ".Swapper$" ++toString (n+1))=some f->Calls Tryz.prog 118 #[.iface 90 (.slice p n c), .func lf la lb] w fun e w'=>e= .returned (.tuple #[])∧Pure w w':=by
  intro f hf
  have h:=Any.sort_Slice_tiny Tryz.laysSort 90 152 i ie hi hd (by kernel_rfl) hie 25 hk p n c hn f (by rw[hs];exact hf) lf la lb w
  change Calls Tryz.prog 118 _ _ _ at h
  refine h.mono ?_
  rintro e w' ⟨rfl,os,rfl⟩
  exact⟨rfl,by simp[Sort.grow],fun B hB=>by simp[Sort.grow,Array.getElem?_append_left hB],rfl,rfl,rfl⟩
 rcases Nat.le_one_iff_eq_zero_or_eq_one.1 hn with rfl|rfl
 ·exact fin 231 (by kernel_rfl)
 ·exact fin 232 (by kernel_rfl)
end Sx
end
section
open Go Go.Proofs Go.Shelf Go.RowKit Go.Lib Ev
namespace Sx
theorem findNow_new{kk:IntKind}{n:Int}: ∀ {es:List MapEntry} (i:Nat),(∀e∈es,∃m,e.key= .int .i64 m∧m≠n)->Instr.findNow (.int kk) (.int .i64 n) es i=some none
 |[],i,_=>rfl
 |e::es,i,h=>by
  obtain⟨m,h1,h2⟩:=h e (by simp)
  have:(n==m)=false:=by simpa using fun hc=>h2 hc.symm
  simp only[Instr.findNow,Instr.sameNow,h1,if_pos,this]
  exact findNow_new (i+1) fun e he=>h e (by simp[he])
def rowsT:Nat->List (Int×FuncId)->List MapEntry
 |_,[]=>[]
 |i,q::l=>{key:= .int .i64 q.1,val:= .func (.func q.2) #[] #[],born:=i}::rowsT (i+1) l
theorem rowsT_app: ∀(i:Nat) (l:List (Int×FuncId)) (q:Int×FuncId),rowsT i (l++[q])=rowsT i l++[{key:= .int .i64 q.1,val:= .func (.func q.2) #[] #[],born:=i+l.length}]
 |i,[],q=>rfl
 |i,p::l,q=>by
  simp only[List.cons_append,rowsT,rowsT_app (i+1) l q,List.length_cons]
  rw[show i+1+l.length=i+(l.length+1)by omega]
theorem rowsT_key: ∀(i:Nat) (l:List (Int×FuncId)),∀e∈rowsT i l,∃q∈l,e.key= .int .i64 q.1
 |i,[],e,h=>by cases h
 |i,p::l,e,h=>by
  rcases List.mem_cons.1 h with rfl|h
  ·exact⟨p,by simp,rfl⟩
  ·obtain⟨q,h1,h2⟩:=rowsT_key (i+1) l e h
   exact⟨q,by simp[h1],h2⟩
theorem rowsT_map: ∀(i:Nat) (l:List (Int×FuncId)),(rowsT i l).map (fun e=>(e.key,e.val))=l.map fun q=>(Value.int .i64 q.1,Value.func (.func q.2) #[] #[])
 |i,[]=>rfl
 |i,p::l=>by simp only[rowsT,List.map_cons,rowsT_map (i+1) l]
def tabW(w:World)(l:List (Int×FuncId)):World:=w.alloc (.map (rowsT 0 l).toArray l.length)
theorem tabW_heap(w:World)(l:List (Int×FuncId)):(tabW w l).heap=w.heap.push (.map (rowsT 0 l).toArray l.length):=rfl
theorem tabW_at(w:World)(l:List (Int×FuncId)):(tabW w l).heap[w.heap.size]?=some (.map (rowsT 0 l).toArray l.length):=by
 rw[tabW_heap,Array.getElem?_push,if_pos rfl]
theorem tabW_old(w:World)(l:List (Int×FuncId)){B:Nat}(h:B<w.heap.size):(tabW w l).heap[B]?=w.heap[B]?:=by
 rw[tabW_heap,Array.getElem?_push,if_neg (by omega)]
theorem tabW_size(w:World)(l:List (Int×FuncId)):(tabW w l).heap.size=w.heap.size+1:=by
 rw[tabW_heap,Array.size_push]
theorem set_push{α:Type}(a:Array α)(x y:α):(a.push x).setIfInBounds a.size y=a.push y:=by
 apply Array.ext_getElem?
 intro i
 rw[Array.getElem?_setIfInBounds,Array.getElem?_push,Array.getElem?_push,Array.size_push]
 by_cases h:a.size=i
 ·subst h;simp
 ·rw[if_neg h,if_neg (fun hc=>h hc.symm),if_neg (fun hc=>h hc.symm)]
theorem run_ins(w:World)(l:List (Int×FuncId))(n:Int)(f:FuncId)(hn:(l.all fun q=> !decide (q.1=n))=true):
 (Instr.mapUpdate 233 (.map (some w.heap.size)) (.int .i64 n) (.func (.func f) #[] #[])).run Tryz.prog (tabW w l)= .ok () (tabW w (l++[(n,f)])):=by
 have hu:Tryz.prog.underlying 233=some (.map 3 231):=by kernel_rfl
 have hk:Tryz.prog.underlying 3=some (.int .i64):=by kernel_rfl
 have hr:(tabW w l).heap[w.heap.size]?=some (.map (rowsT 0 l).toArray l.length):=tabW_at w l
 have hget:(getObj w.heap.size).run Tryz.prog (tabW w l)= .ok (.map (rowsT 0 l).toArray l.length) (tabW w l):=by
  show(Sem.getObj _ .pure).run Tryz.prog _=_
  simp only[Sem.run,hr]
 have hck:(Instr.checkKey false 10000 3 (.int .i64 n)).run Tryz.prog (tabW w l)= .ok () (tabW w l):=by
  show(Instr.checkKey false (9999+1) 3 (.int .i64 n)).run Tryz.prog (tabW w l)= .ok () (tabW w l)
  generalize 9999=m
  simp only[Instr.checkKey,Sem.run_bind,run_und hk,Result.andThen_ok,Sem.run_pure]
 have hf:Instr.findNow (.int .i64) (.int .i64 n) (rowsT 0 l) 0=some none:=findNow_new 0 fun e he=>by
  obtain⟨q,h1,h2⟩:=rowsT_key 0 l e he
  refine⟨q.1,h2,?_⟩
  simpa using List.all_eq_true.1 hn q h1
 have hset:(setObj w.heap.size (.map ((rowsT 0 l).toArray.push {key:= .int .i64 n,val:= .func (.func f) #[] #[],born:=l.length}) (l.length+1))).run Tryz.prog (tabW w l)= .ok () (tabW w (l++[(n,f)])):=by
  show(Sem.setObj _ _ (.pure ())).run Tryz.prog _=_
  simp only[Sem.run,hr]
  have e:(tabW w l).heap.setIfInBounds w.heap.size (.map ((rowsT 0 l).toArray.push {key:= .int .i64 n,val:= .func (.func f) #[] #[],born:=l.length}) (l.length+1))=(tabW w (l++[(n,f)])).heap:=by
   rw[tabW_heap,tabW_heap,set_push,rowsT_app]
   simp
  show Result.ok () {tabW w l with heap:=(tabW w l).heap.setIfInBounds _ _}=_
  rw[e];rfl
 simp only[Instr.mapUpdate,Sem.run_bind,run_und hu,Result.andThen_ok,hget,hck,Instr.findKey,run_und hk,hf,Sem.run_pure]
 exact hset
theorem k179:FnOk Tryz.prog 140 s179:=by
 refine⟨(fnB_ok Tryz.func140 (by kernel_rfl)).1,fun w M x vs hM hg hx _ _ r hr=> ?_⟩
 have hx':vs=[]:=hx
 subst hx'
 have key:Calls Tryz.prog 140 #[] w fun e w'=>e= .returned (.map (some w.heap.size))∧w'=tabW w mpL:=by
  clear hg hM hr hx
  have hmm: ∀w,(Instr.makeMap 233 none).run Tryz.prog w= .ok (.map (some w.heap.size)) (tabW w []):=fun w=>rfl
  have h1:=run_ins w [] 1 195 (by decide)
  have h2:=run_ins w [(1,195)] 2 196 (by decide)
  have h3:=run_ins w [(1,195),(2,196)] 3 197 (by decide)
  have h4:=run_ins w [(1,195),(2,196),(3,197)] 4 198 (by decide)
  have h5:=run_ins w [(1,195),(2,196),(3,197),(4,198)] 5 199 (by decide)
  have h6:=run_ins w [(1,195),(2,196),(3,197),(4,198),(5,199)] 6 200 (by decide)
  simp only[List.nil_append,List.cons_append]at h1 h2 h3 h4 h5 h6
  go_enter Tryz.func140,Tryz.ntmps140
  go_wp2
  go_ret
  exact⟨rfl,rfl⟩
 refine key.mono ?_
 rintro e w' ⟨rfl,rfl⟩
 refine⟨[.map (some w.heap.size)],M,rfl,⟨_,rfl,?_,rfl⟩,?_⟩
 ·refine⟨w.heap.size,(rowsT 0 mpL).toArray,mpL.length,rfl,by rw[tabW_size];omega,fun h=>absurd (hM _ h) (by omega),tabW_at w mpL,?_⟩
  exact rowsT_map 0 mpL
 ·exact⟨by rw[tabW_size];omega,fun B hB _=>tabW_old w mpL hB,rfl,rfl,rfl,fun _ _=>Iff.rfl,fun B hB=>by have:=hM B hB;rw[tabW_size];omega⟩
end Sx
end
section
open Go Go.Proofs Ev
namespace Sx
theorem hm:Tryz.prog.follows .mixedOrders=true:=by kernel_rfl
theorem hT:Tys Tryz.prog tys cells maps:=⟨by kernel_rfl,by kernel_rfl,by kernel_rfl⟩
theorem tinyA: ∀q∈cxA.tinies,TinyOk Tryz.prog q.1 q.2:=by
 intro q h
 simp only[cxA,List.mem_cons,List.not_mem_nil,or_false]at h
 rcases h with h|h|h
 ·subst h;exact tinyW
 ·subst h;exact tinyV
 ·subst h;exact tinyB
theorem cxOk:CXOk Tryz.prog cxA:=⟨by kernel_rfl,by kernel_rfl,by kernel_rfl,tinyA⟩
theorem k105:FnOk Tryz.prog 44 s105:=fn_okS (C:=c105) (hs:=h105) (ps:=P105) (rs:=R105) (specs:=[]) (dyns:=[]) (codes:=[]) rfl hm hT trivial trivial (by kernel_rfl) Tryz.func44 (by kernel_rfl)
theorem k71:FnOk Tryz.prog 16 s71:=fn_okS (C:=c71) (hs:=h71) (ps:=P71) (rs:=R71) (specs:=[(44,s105)]) (dyns:=[]) (codes:=[]) rfl hm hT ⟨k105,trivial⟩ trivial (by kernel_rfl) Tryz.func16 (by kernel_rfl)
theorem k131:FnOk Tryz.prog 46 s131:=fn_okS (C:=c131) (hs:=h131) (ps:=P131) (rs:=R131) (specs:=[]) (dyns:=[]) (codes:=[]) rfl hm hT trivial trivial (by kernel_rfl) Tryz.func46 (by kernel_rfl)
theorem k132:FnOk Tryz.prog 47 s132:=fn_okS (C:=c132) (hs:=h132) (ps:=P132) (rs:=R132) (specs:=[]) (dyns:=[]) (codes:=[]) rfl hm hT trivial trivial (by kernel_rfl) Tryz.func47 (by kernel_rfl)
theorem k193:FnOk Tryz.prog 155 s193:=fn_okS (C:=c193) (hs:=h193) (ps:=P193) (rs:=R193) (specs:=[]) (dyns:=[]) (codes:=[]) rfl hm hT trivial trivial (by kernel_rfl) Tryz.func155 (by kernel_rfl)
theorem k135:FnOk Tryz.prog 50 s135:=⟨(fnB_ok Tryz.func50 (by kernel_rfl)).1,fun _ _ _ _ _ _ _ _ _ _ h=>none_some h⟩
theorem k93:FnOk Tryz.prog 102 s93:=fn_okS (C:=c93) (hs:=h93) (ps:=P93) (rs:=R93) (specs:=[]) (dyns:=[]) (codes:=[]) rfl hm hT trivial trivial (by kernel_rfl) Tryz.func102 (by kernel_rfl)
theorem k126:FnOk Tryz.prog 218 s126:=fn_okS (C:=c126) (hs:=h126) (ps:=P126) (rs:=R126) (specs:=[]) (dyns:=[]) (codes:=[]) rfl hm hT trivial trivial (by kernel_rfl) Tryz.func218 (by kernel_rfl)
theorem k92:FnOk Tryz.prog 156 s92:=fn_okS (C:=c92) (hs:=h92) (ps:=P92) (rs:=R92) (specs:=[(218,s126)]) (dyns:=[]) (codes:=[]) rfl hm hT ⟨k126,trivial⟩ trivial (by kernel_rfl) Tryz.func156 (by kernel_rfl)
theorem k173:FnOk Tryz.prog 104 s173:=fn_okS (C:=c173) (hs:=h173) (ps:=P173) (rs:=R173) (specs:=[(156,s92),(102,s93)]) (dyns:=[]) (codes:=[]) rfl hm hT ⟨k92,k93,trivial⟩ trivial (by kernel_rfl) Tryz.func104 (by kernel_rfl)
theorem k134:FnOk Tryz.prog 49 s134:=fn_okS (C:=c134) (hs:=h134) (ps:=P134) (rs:=R134) (specs:=[]) (dyns:=[]) (codes:=[]) rfl hm hT trivial trivial (by kernel_rfl) Tryz.func49 (by kernel_rfl)
theorem k189:FnOk Tryz.prog 219 s189:=fn_okS (C:=c189) (hs:=h189) (ps:=P189) (rs:=R189) (specs:=[]) (dyns:=[]) (codes:=[]) rfl hm hT trivial trivial (by kernel_rfl) Tryz.func219 (by kernel_rfl)
theorem k190:FnOk Tryz.prog 220 s190:=fn_okS (C:=c190) (hs:=h190) (ps:=P190) (rs:=R190) (specs:=[]) (dyns:=[]) (codes:=[]) rfl hm hT trivial trivial (by kernel_rfl) Tryz.func220 (by kernel_rfl)
theorem k168:FnOk Tryz.prog 157 s168:=fn_okS (C:=c168) (hs:=h168) (ps:=P168) (rs:=R168) (specs:=[(219,s189),(220,s190)]) (dyns:=[]) (codes:=[]) rfl hm hT ⟨k189,k190,trivial⟩ trivial (by kernel_rfl) Tryz.func157 (by kernel_rfl)
theorem k204:FnOk Tryz.prog 281 s204:=fn_okS (C:=c204) (hs:=h204) (ps:=P204) (rs:=R204) (specs:=[]) (dyns:=[]) (codes:=[]) rfl hm hT trivial trivial (by kernel_rfl) Tryz.func281 (by kernel_rfl)
theorem k191:FnOk Tryz.prog 221 s191:=fn_okS (C:=c191) (hs:=h191) (ps:=P191) (rs:=R191) (specs:=[(281,s204)]) (dyns:=[]) (codes:=[]) rfl hm hT ⟨k204,trivial⟩ trivial (by kernel_rfl) Tryz.func221 (by kernel_rfl)
theorem k169:FnOk Tryz.prog 158 s169:=fn_okS (C:=c169) (hs:=h169) (ps:=P169) (rs:=R169) (specs:=[(221,s191)]) (dyns:=[]) (codes:=[]) rfl hm hT ⟨k191,trivial⟩ trivial (by kernel_rfl) Tryz.func158 (by kernel_rfl)
theorem k89:FnOk Tryz.prog 77 s89:=fn_okS (C:=c89) (hs:=h89) (ps:=P89) (rs:=R89) (specs:=[]) (dyns:=[]) (codes:=[]) rfl hm hT trivial trivial (by kernel_rfl) Tryz.func77 (by kernel_rfl)
theorem k170:FnOk Tryz.prog 159 s170:=fn_okS (C:=c170) (hs:=h170) (ps:=P170) (rs:=R170) (specs:=[(77,s89),(221,s191)]) (dyns:=[]) (codes:=[]) rfl hm hT ⟨k89,k191,trivial⟩ trivial (by kernel_rfl) Tryz.func159 (by kernel_rfl)
theorem k125:FnOk Tryz.prog 107 s125:=fn_okS (C:=c125) (hs:=h125) (ps:=P125) (rs:=R125) (specs:=[(157,s168),(158,s169),(159,s170)]) (dyns:=[]) (codes:=[]) rfl hm hT ⟨k168,k169,k170,trivial⟩ trivial (by kernel_rfl) Tryz.func107 (by kernel_rfl)
theorem k95:FnOk Tryz.prog 174 s95:=fn_okS (C:=c95) (hs:=h95) (ps:=P95) (rs:=R95) (specs:=[(251,s127)]) (dyns:=[]) (codes:=[]) rfl hm hT ⟨k127,trivial⟩ trivial (by kernel_rfl) Tryz.func174 (by kernel_rfl)
theorem k88:FnOk Tryz.prog 124 s88:=fn_okS (C:=c88) (hs:=h88) (ps:=P88) (rs:=R88) (specs:=[(174,s95)]) (dyns:=[]) (codes:=[]) rfl hm hT ⟨k95,trivial⟩ trivial (by kernel_rfl) Tryz.func124 (by kernel_rfl)
theorem k54:FnOk Tryz.prog 134 s54:=fn_okS (C:=c54) (hs:=h54) (ps:=P54) (rs:=R54) (specs:=[(124,s88),(174,s95)]) (dyns:=[]) (codes:=[]) rfl hm hT ⟨k88,k95,trivial⟩ trivial (by kernel_rfl) Tryz.func134 (by kernel_rfl)
theorem k90:FnOk Tryz.prog 76 s90:=fn_okS (C:=c90) (hs:=h90) (ps:=P90) (rs:=R90) (specs:=[(134,s54),(107,s125)]) (dyns:=[]) (codes:=[]) rfl hm hT ⟨k54,k125,trivial⟩ trivial (by kernel_rfl) Tryz.func76 (by kernel_rfl)
theorem k128:FnOk Tryz.prog 212 s128:=fn_okS (C:=c128) (hs:=h128) (ps:=P128) (rs:=R128) (specs:=[]) (dyns:=[]) (codes:=[]) rfl hm hT trivial trivial (by kernel_rfl) Tryz.func212 (by kernel_rfl)
theorem k130:FnOk Tryz.prog 279 s130:=fn_okS (C:=c130) (hs:=h130) (ps:=P130) (rs:=R130) (specs:=[(134,s54)]) (dyns:=[]) (codes:=[]) rfl hm hT ⟨k54,trivial⟩ trivial (by kernel_rfl) Tryz.func279 (by kernel_rfl)
theorem k129:FnOk Tryz.prog 213 s129:=fn_okS (C:=c129) (hs:=h129) (ps:=P129) (rs:=R129) (specs:=[(107,s125),(279,s130)]) (dyns:=[]) (codes:=[]) rfl hm hT ⟨k125,k130,trivial⟩ trivial (by kernel_rfl) Tryz.func213 (by kernel_rfl)
theorem k558:FnOk Tryz.prog 106 s558:=fn_okS (C:=c558) (hs:=h558) (ps:=P558) (rs:=R558) (specs:=[]) (dyns:=[]) (codes:=[]) rfl hm hT trivial trivial (by kernel_rfl) Tryz.func106 (by kernel_rfl)
theorem k559:FnOk Tryz.prog 108 s559:=fn_okS (C:=c559) (hs:=h559) (ps:=P559) (rs:=R559) (specs:=[(134,s54),(77,s89)]) (dyns:=[]) (codes:=[]) rfl hm hT ⟨k54,k89,trivial⟩ trivial (by kernel_rfl) Tryz.func108 (by kernel_rfl)
theorem k591:FnOk Tryz.prog 282 s591:=fn_okS (C:=c591) (hs:=h591) (ps:=P591) (rs:=R591) (specs:=[(76,s90)]) (dyns:=[]) (codes:=[]) rfl hm hT ⟨k90,trivial⟩ trivial (by kernel_rfl) Tryz.func282 (by kernel_rfl)
theorem k584:FnOk Tryz.prog 222 s584:=fn_okS (C:=c584) (hs:=h584) (ps:=P584) (rs:=R584) (specs:=[(282,s591)]) (dyns:=[]) (codes:=[]) rfl hm hT ⟨k591,trivial⟩ trivial (by kernel_rfl) Tryz.func222 (by kernel_rfl)
theorem k586:FnOk Tryz.prog 224 s586:=fn_okS (C:=c586) (hs:=h586) (ps:=P586) (rs:=R586) (specs:=[(76,s90)]) (dyns:=[]) (codes:=[]) rfl hm hT ⟨k90,trivial⟩ trivial (by kernel_rfl) Tryz.func224 (by kernel_rfl)
theorem k118:FnOk Tryz.prog 53 s118:=fn_okS (C:=c118) (hs:=h118) (ps:=P118) (rs:=R118) (specs:=[]) (dyns:=[]) (codes:=[]) rfl hm hT trivial trivial (by kernel_rfl) Tryz.func53 (by kernel_rfl)
theorem k42:FnOk Tryz.prog 54 s42:=fn_okS (C:=c42) (hs:=h42) (ps:=P42) (rs:=R42) (specs:=[]) (dyns:=[]) (codes:=[]) rfl hm hT trivial trivial (by kernel_rfl) Tryz.func54 (by kernel_rfl)
theorem k119:FnOk Tryz.prog 55 s119:=fn_okS (C:=c119) (hs:=h119) (ps:=P119) (rs:=R119) (specs:=[]) (dyns:=[]) (codes:=[]) rfl hm hT trivial trivial (by kernel_rfl) Tryz.func55 (by kernel_rfl)
theorem k82:FnOk Tryz.prog 22 s82:=fn_okS (C:=c82) (hs:=h82) (ps:=P82) (rs:=R82) (specs:=[(54,s42),(53,s118),(55,s119)]) (dyns:=[]) (codes:=[]) rfl hm hT ⟨k42,k118,k119,trivial⟩ trivial (by kernel_rfl) Tryz.func22 (by kernel_rfl)
theorem kN102: ∀n,FnOk Tryz.prog 161 (sN102 n)
 |0=>⟨(fnB_ok Tryz.func161 (by kernel_rfl)).1,fun _ _ _ _ _ _ _ _ _ _ h=>none_some h⟩
 |n+1=>fn_okS (C:=mkC tys cells maps [(161,sN102 n)] [] []) (hs:=[]) (ps:=P102) (rs:=R102) (specs:=[(161,sN102 n)]) (dyns:=[]) (codes:=[]) rfl hm hT ⟨kN102 n,trivial⟩ trivial rfl Tryz.func161 (by kernel_rfl)
theorem k102:FnOk Tryz.prog 161 s102:=kN102 6
theorem k64:FnOk Tryz.prog 110 s64:=fn_okS (C:=c64) (hs:=h64) (ps:=P64) (rs:=R64) (specs:=[(161,s102)]) (dyns:=[]) (codes:=[]) rfl hm hT ⟨k102,trivial⟩ trivial (by kernel_rfl) Tryz.func110 (by kernel_rfl)
theorem k63:FnOk Tryz.prog 111 s63:=fn_okS (C:=c63) (hs:=h63) (ps:=P63) (rs:=R63) (specs:=[(110,s64)]) (dyns:=[]) (codes:=[]) rfl hm hT ⟨k64,trivial⟩ trivial (by kernel_rfl) Tryz.func111 (by kernel_rfl)
theorem k29:FnOk Tryz.prog 56 s29:=fn_okS (C:=c29) (hs:=h29) (ps:=P29) (rs:=R29) (specs:=[(111,s63),(110,s64)]) (dyns:=[]) (codes:=[]) rfl hm hT ⟨k63,k64,trivial⟩ trivial (by kernel_rfl) Tryz.func56 (by kernel_rfl)
theorem k44:FnOk Tryz.prog 52 s44:=fn_okS (C:=c44) (hs:=h44) (ps:=P44) (rs:=R44) (specs:=[(56,s29),(22,s82)]) (dyns:=[]) (codes:=[]) rfl hm hT ⟨k29,k82,trivial⟩ trivial (by kernel_rfl) Tryz.func52 (by kernel_rfl)
theorem k446:FnOk Tryz.prog 21 s446:=fn_okS (C:=c446) (hs:=h446) (ps:=P446) (rs:=R446) (specs:=[(52,s44)]) (dyns:=[]) (codes:=[]) rfl hm hT ⟨k44,trivial⟩ trivial (by kernel_rfl) Tryz.func21 (by kernel_rfl)
theorem k662:FnOk Tryz.prog 23 s662:=fn_okS (C:=c662) (hs:=h662) (ps:=P662) (rs:=R662) (specs:=[(56,s29),(54,s42)]) (dyns:=[]) (codes:=[]) rfl hm hT ⟨k29,k42,trivial⟩ trivial (by kernel_rfl) Tryz.func23 (by kernel_rfl)
theorem k103:FnOk Tryz.prog 112 s103:=fn_okS (C:=c103) (hs:=h103) (ps:=P103) (rs:=R103) (specs:=[]) (dyns:=[]) (codes:=[]) rfl hm hT trivial trivial (by kernel_rfl) Tryz.func112 (by kernel_rfl)
theorem k68:FnOk Tryz.prog 162 s68:=fn_okS (C:=c68) (hs:=h68) (ps:=P68) (rs:=R68) (specs:=[(56,s29)]) (dyns:=[]) (codes:=[]) rfl hm hT ⟨k29,trivial⟩ trivial (by kernel_rfl) Tryz.func162 (by kernel_rfl)
theorem k665:FnOk Tryz.prog 114 s665:=fn_okS (C:=c665) (hs:=h665) (ps:=P665) (rs:=R665) (specs:=[(110,s64)]) (dyns:=[]) (codes:=[]) rfl hm hT ⟨k64,trivial⟩ trivial (by kernel_rfl) Tryz.func114 (by kernel_rfl)
theorem k670:FnOk Tryz.prog 283 s670:=fn_okS (C:=c670) (hs:=h670) (ps:=P670) (rs:=R670) (specs:=[(56,s29)]) (dyns:=[]) (codes:=[]) rfl hm hT ⟨k29,trivial⟩ trivial (by kernel_rfl) Tryz.func283 (by kernel_rfl)
theorem k460:FnOk Tryz.prog 60 s460:=fn_okS (C:=c460) (hs:=h460) (ps:=P460) (rs:=R460) (specs:=[]) (dyns:=[]) (codes:=[]) rfl hm hT trivial trivial (by kernel_rfl) Tryz.func60 (by kernel_rfl)
theorem k461:FnOk Tryz.prog 61 s461:=fn_okS (C:=c461) (hs:=h461) (ps:=P461) (rs:=R461) (specs:=[]) (dyns:=[]) (codes:=[]) rfl hm hT trivial trivial (by kernel_rfl) Tryz.func61 (by kernel_rfl)
theorem k458:FnOk Tryz.prog 26 s458:=fn_okS (C:=c458) (hs:=h458) (ps:=P458) (rs:=R458) (specs:=[(60,s460),(61,s461)]) (dyns:=[]) (codes:=[]) rfl hm hT ⟨k460,k461,trivial⟩ trivial (by kernel_rfl) Tryz.func26 (by kernel_rfl)
theorem k451:FnOk Tryz.prog 27 s451:=fn_okS (C:=c451) (hs:=h451) (ps:=P451) (rs:=R451) (specs:=[(26,s458)]) (dyns:=[]) (codes:=[]) rfl hm hT ⟨k458,trivial⟩ trivial (by kernel_rfl) Tryz.func27 (by kernel_rfl)
theorem k452:FnOk Tryz.prog 62 s452:=fn_okS (C:=c452) (hs:=h452) (ps:=P452) (rs:=R452) (specs:=[(26,s458)]) (dyns:=[]) (codes:=[]) rfl hm hT ⟨k458,trivial⟩ trivial (by kernel_rfl) Tryz.func62 (by kernel_rfl)
theorem k6:FnOk Tryz.prog 9 s6:=fn_okS (C:=c6) (hs:=h6) (ps:=P6) (rs:=R6) (specs:=[]) (dyns:=[]) (codes:=[]) rfl hm hT trivial trivial (by kernel_rfl) Tryz.func9 (by kernel_rfl)
theorem k136:FnOk Tryz.prog 63 s136:=fn_okS (C:=c136) (hs:=h136) (ps:=P136) (rs:=R136) (specs:=[]) (dyns:=[]) (codes:=[]) rfl hm hT trivial trivial (by kernel_rfl) Tryz.func63 (by kernel_rfl)
theorem k574:FnOk Tryz.prog 32 s574:=fn_okS (C:=c574) (hs:=h574) (ps:=P574) (rs:=R574) (specs:=[(63,s136)]) (dyns:=[]) (codes:=[]) rfl hm hT ⟨k136,trivial⟩ trivial (by kernel_rfl) Tryz.func32 (by kernel_rfl)
theorem k564:FnOk Tryz.prog 33 s564:=fn_okS (C:=c564) (hs:=h564) (ps:=P564) (rs:=R564) (specs:=[]) (dyns:=[]) (codes:=[]) rfl hm hT trivial trivial (by kernel_rfl) Tryz.func33 (by kernel_rfl)
theorem k137:FnOk Tryz.prog 29 s137:=fn_okS (C:=c137) (hs:=h137) (ps:=P137) (rs:=R137) (specs:=[(63,s136)]) (dyns:=[]) (codes:=[]) rfl hm hT ⟨k136,trivial⟩ trivial (by kernel_rfl) Tryz.func29 (by kernel_rfl)
theorem k175:FnOk Tryz.prog 38 s175:=fn_okS (C:=c175) (hs:=h175) (ps:=P175) (rs:=R175) (specs:=[(63,s136)]) (dyns:=[]) (codes:=[]) rfl hm hT ⟨k136,trivial⟩ trivial (by kernel_rfl) Tryz.func38 (by kernel_rfl)
theorem k176:FnOk Tryz.prog 132 s176:=fn_okS (C:=c176) (hs:=h176) (ps:=P176) (rs:=R176) (specs:=[(76,s90)]) (dyns:=[]) (codes:=[]) rfl hm hT ⟨k90,trivial⟩ trivial (by kernel_rfl) Tryz.func132 (by kernel_rfl)
theorem k139:FnOk Tryz.prog 130 s139:=fn_okS (C:=c139) (hs:=h139) (ps:=P139) (rs:=R139) (specs:=[(132,s176)]) (dyns:=[]) (codes:=[]) rfl hm hT ⟨k176,trivial⟩ trivial (by kernel_rfl) Tryz.func130 (by kernel_rfl)
theorem k138:FnOk Tryz.prog 72 s138:=fn_okS (C:=c138) (hs:=h138) (ps:=P138) (rs:=R138) (specs:=[(29,s137),(130,s139),(38,s175)]) (dyns:=[]) (codes:=[]) rfl hm hT ⟨k137,k139,k175,trivial⟩ trivial (by kernel_rfl) Tryz.func72 (by kernel_rfl)
theorem k109:FnOk Tryz.prog 74 s109:=fn_okS (C:=c109) (hs:=h109) (ps:=P109) (rs:=R109) (specs:=[(63,s136),(29,s137),(72,s138),(130,s139)]) (dyns:=[]) (codes:=[]) rfl hm hT ⟨k136,k137,k138,k139,trivial⟩ trivial (by kernel_rfl) Tryz.func74 (by kernel_rfl)
theorem k74:FnOk Tryz.prog 34 s74:=fn_okS (C:=c74) (hs:=h74) (ps:=P74) (rs:=R74) (specs:=[(74,s109)]) (dyns:=[]) (codes:=[]) rfl hm hT ⟨k109,trivial⟩ trivial (by kernel_rfl) Tryz.func34 (by kernel_rfl)
theorem k73:FnOk Tryz.prog 35 s73:=fn_okS (C:=c73) (hs:=h73) (ps:=P73) (rs:=R73) (specs:=[]) (dyns:=[]) (codes:=[]) rfl hm hT trivial trivial (by kernel_rfl) Tryz.func35 (by kernel_rfl)
theorem k424:FnOk Tryz.prog 78 s424:=fn_okS (C:=c424) (hs:=h424) (ps:=P424) (rs:=R424) (specs:=[]) (dyns:=[]) (codes:=[]) rfl hm hT trivial trivial (by kernel_rfl) Tryz.func78 (by kernel_rfl)
theorem k481:FnOk Tryz.prog 136 s481:=fn_okS (C:=c481) (hs:=h481) (ps:=P481) (rs:=R481) (specs:=[(124,s88),(77,s89)]) (dyns:=[]) (codes:=[]) rfl hm hT ⟨k88,k89,trivial⟩ trivial (by kernel_rfl) Tryz.func136 (by kernel_rfl)
theorem k478:FnOk Tryz.prog 80 s478:=fn_okS (C:=c478) (hs:=h478) (ps:=P478) (rs:=R478) (specs:=[(124,s88),(77,s89),(136,s481)]) (dyns:=[]) (codes:=[]) rfl hm hT ⟨k88,k89,k481,trivial⟩ trivial (by kernel_rfl) Tryz.func80 (by kernel_rfl)
theorem k140:FnOk Tryz.prog 81 s140:=fn_okS (C:=c140) (hs:=h140) (ps:=P140) (rs:=R140) (specs:=[]) (dyns:=[]) (codes:=[]) rfl hm hT trivial trivial (by kernel_rfl) Tryz.func81 (by kernel_rfl)
theorem k480:FnOk Tryz.prog 85 s480:=fn_okS (C:=c480) (hs:=h480) (ps:=P480) (rs:=R480) (specs:=[(124,s88),(77,s89),(136,s481)]) (dyns:=[]) (codes:=[]) rfl hm hT ⟨k88,k89,k481,trivial⟩ trivial (by kernel_rfl) Tryz.func85 (by kernel_rfl)
theorem k405:FnOk Tryz.prog 201 s405:=fn_okS (C:=c405) (hs:=h405) (ps:=P405) (rs:=R405) (specs:=[(156,s92)]) (dyns:=[]) (codes:=[]) rfl hm hT ⟨k92,trivial⟩ trivial (by kernel_rfl) Tryz.func201 (by kernel_rfl)
theorem k404:FnOk Tryz.prog 141 s404:=fn_okS (C:=c404) (hs:=h404) (ps:=P404) (rs:=R404) (specs:=[(102,s93),(201,s405)]) (dyns:=[]) (codes:=[]) rfl hm hT ⟨k93,k405,trivial⟩ trivial (by kernel_rfl) Tryz.func141 (by kernel_rfl)
theorem k403:FnOk Tryz.prog 202 s403:=fn_okS (C:=c403) (hs:=h403) (ps:=P403) (rs:=R403) (specs:=[(141,s404)]) (dyns:=[]) (codes:=[]) rfl hm hT ⟨k404,trivial⟩ trivial (by kernel_rfl) Tryz.func202 (by kernel_rfl)
theorem k406:FnOk Tryz.prog 203 s406:=fn_okS (C:=c406) (hs:=h406) (ps:=P406) (rs:=R406) (specs:=[(141,s404)]) (dyns:=[]) (codes:=[]) rfl hm hT ⟨k404,trivial⟩ trivial (by kernel_rfl) Tryz.func203 (by kernel_rfl)
theorem k402:FnOk Tryz.prog 142 s402:=fn_okS (C:=c402) (hs:=h402) (ps:=P402) (rs:=R402) (specs:=[(202,s403),(201,s405),(203,s406)]) (dyns:=[]) (codes:=[]) rfl hm hT ⟨k403,k405,k406,trivial⟩ trivial (by kernel_rfl) Tryz.func142 (by kernel_rfl)
theorem k21:FnOk Tryz.prog 143 s21:=fn_okS (C:=c21) (hs:=h21) (ps:=P21) (rs:=R21) (specs:=[]) (dyns:=[]) (codes:=[]) rfl hm hT trivial trivial (by kernel_rfl) Tryz.func143 (by kernel_rfl)
theorem k479:FnOk Tryz.prog 87 s479:=fn_okS (C:=c479) (hs:=h479) (ps:=P479) (rs:=R479) (specs:=[(143,s21),(142,s402),(141,s404),(85,s480)]) (dyns:=[]) (codes:=[]) rfl hm hT ⟨k21,k402,k404,k480,trivial⟩ trivial (by kernel_rfl) Tryz.func87 (by kernel_rfl)
theorem k194:FnOk Tryz.prog 137 s194:=fn_okS (C:=c194) (hs:=h194) (ps:=P194) (rs:=R194) (specs:=[]) (dyns:=[]) (codes:=[]) rfl hm hT trivial trivial (by kernel_rfl) Tryz.func137 (by kernel_rfl)
theorem k195:FnOk Tryz.prog 138 s195:=fn_okS (C:=c195) (hs:=h195) (ps:=P195) (rs:=R195) (specs:=[]) (dyns:=[]) (codes:=[]) rfl hm hT trivial trivial (by kernel_rfl) Tryz.func138 (by kernel_rfl)
theorem k177:FnOk Tryz.prog 84 s177:=fn_okS (C:=c177) (hs:=h177) (ps:=P177) (rs:=R177) (specs:=[(137,s194),(138,s195)]) (dyns:=[]) (codes:=[]) rfl hm hT ⟨k194,k195,trivial⟩ trivial (by kernel_rfl) Tryz.func84 (by kernel_rfl)
theorem k178:FnOk Tryz.prog 139 s178:=fn_okS (C:=c178) (hs:=h178) (ps:=P178) (rs:=R178) (specs:=[]) (dyns:=[]) (codes:=[]) rfl hm hT trivial trivial (by kernel_rfl) Tryz.func139 (by kernel_rfl)
theorem k233:FnOk Tryz.prog 147 s233:=fn_okS (C:=c233) (hs:=h233) (ps:=P233) (rs:=R233) (specs:=[]) (dyns:=[]) (codes:=[]) rfl hm hT trivial trivial (by kernel_rfl) Tryz.func147 (by kernel_rfl)
theorem k240:FnOk Tryz.prog 207 s240:=fn_okS (C:=c240) (hs:=h240) (ps:=P240) (rs:=R240) (specs:=[]) (dyns:=[]) (codes:=[]) rfl hm hT trivial trivial (by kernel_rfl) Tryz.func207 (by kernel_rfl)
theorem k242:FnOk Tryz.prog 210 s242:=fn_okSX (C:=c242) (hs:=h242) (ps:=P242) (rs:=R242) (specs:=[]) (dyns:=[299]) (codes:=[]) (x:=cxA) rfl hm hT cxOk trivial trivial (by kernel_rfl) Tryz.func210 (by kernel_rfl)
theorem k247:FnOk Tryz.prog 274 s247:=fn_okS (C:=c247) (hs:=h247) (ps:=P247) (rs:=R247) (specs:=[]) (dyns:=[]) (codes:=[]) rfl hm hT trivial trivial (by kernel_rfl) Tryz.func274 (by kernel_rfl)
theorem k250:FnOk Tryz.prog 276 s250:=fn_okS (C:=c250) (hs:=h250) (ps:=P250) (rs:=R250) (specs:=[(124,s88),(77,s89)]) (dyns:=[]) (codes:=[]) rfl hm hT ⟨k88,k89,trivial⟩ trivial (by kernel_rfl) Tryz.func276 (by kernel_rfl)
theorem k234:FnOk Tryz.prog 209 s234:=fn_okS (C:=c234) (hs:=h234) (ps:=P234) (rs:=R234) (specs:=[(210,s242),(276,s250)]) (dyns:=[]) (codes:=[]) rfl hm hT ⟨k242,k250,trivial⟩ trivial (by kernel_rfl) Tryz.func209 (by kernel_rfl)
theorem k51:FnOk Tryz.prog 121 s51:=fn_okS (C:=c51) (hs:=h51) (ps:=P51) (rs:=R51) (specs:=[(156,s92)]) (dyns:=[]) (codes:=[]) rfl hm hT ⟨k92,trivial⟩ trivial (by kernel_rfl) Tryz.func121 (by kernel_rfl)
theorem k52:FnOk Tryz.prog 122 s52:=fn_okS (C:=c52) (hs:=h52) (ps:=P52) (rs:=R52) (specs:=[(102,s93)]) (dyns:=[]) (codes:=[]) rfl hm hT ⟨k93,trivial⟩ trivial (by kernel_rfl) Tryz.func122 (by kernel_rfl)
theorem k94:FnOk Tryz.prog 123 s94:=fn_okS (C:=c94) (hs:=h94) (ps:=P94) (rs:=R94) (specs:=[]) (dyns:=[]) (codes:=[]) rfl hm hT trivial trivial (by kernel_rfl) Tryz.func123 (by kernel_rfl)
theorem k601:FnOk Tryz.prog 67 s601:=fn_okS (C:=c601) (hs:=h601) (ps:=P601) (rs:=R601) (specs:=[(121,s51),(122,s52),(123,s94)]) (dyns:=[]) (codes:=[]) rfl hm hT ⟨k51,k52,k94,trivial⟩ trivial (by kernel_rfl) Tryz.func67 (by kernel_rfl)
theorem k604:FnOk Tryz.prog 284 s604:=fn_okS (C:=c604) (hs:=h604) (ps:=P604) (rs:=R604) (specs:=[]) (dyns:=[]) (codes:=[]) rfl hm hT trivial trivial (by kernel_rfl) Tryz.func284 (by kernel_rfl)
theorem k602:FnOk Tryz.prog 226 s602:=fn_okS (C:=c602) (hs:=h602) (ps:=P602) (rs:=R602) (specs:=[(102,s93),(106,s558),(96,s579),(284,s604)]) (dyns:=[]) (codes:=[]) rfl hm hT ⟨k93,k558,k579,k604,trivial⟩ trivial (by kernel_rfl) Tryz.func226 (by kernel_rfl)
theorem k181:FnOk Tryz.prog 227 s181:=fn_okS (C:=c181) (hs:=h181) (ps:=P181) (rs:=R181) (specs:=[]) (dyns:=[]) (codes:=[]) rfl hm hT trivial trivial (by kernel_rfl) Tryz.func227 (by kernel_rfl)
theorem k598:FnOk Tryz.prog 165 s598:=fn_okS (C:=c598) (hs:=h598) (ps:=P598) (rs:=R598) (specs:=[(121,s51),(227,s181),(67,s601),(226,s602)]) (dyns:=[]) (codes:=[]) rfl hm hT ⟨k51,k181,k601,k602,trivial⟩ trivial (by kernel_rfl) Tryz.func165 (by kernel_rfl)
theorem k578:FnOk Tryz.prog 68 s578:=fn_okS (C:=c578) (hs:=h578) (ps:=P578) (rs:=R578) (specs:=[(124,s88),(77,s89)]) (dyns:=[]) (codes:=[]) rfl hm hT ⟨k88,k89,trivial⟩ trivial (by kernel_rfl) Tryz.func68 (by kernel_rfl)
theorem k56:FnOk Tryz.prog 92 s56:=fn_okS (C:=c56) (hs:=h56) (ps:=P56) (rs:=R56) (specs:=[(76,s90)]) (dyns:=[]) (codes:=[]) rfl hm hT ⟨k90,trivial⟩ trivial (by kernel_rfl) Tryz.func92 (by kernel_rfl)
theorem k152:FnOk Tryz.prog 175 s152:=fn_okS (C:=c152) (hs:=h152) (ps:=P152) (rs:=R152) (specs:=[]) (dyns:=[]) (codes:=[]) rfl hm hT trivial trivial (by kernel_rfl) Tryz.func175 (by kernel_rfl)
theorem k185:FnOk Tryz.prog 252 s185:=fn_okS (C:=c185) (hs:=h185) (ps:=P185) (rs:=R185) (specs:=[]) (dyns:=[]) (codes:=[]) rfl hm hT trivial trivial (by kernel_rfl) Tryz.func252 (by kernel_rfl)
theorem k153:FnOk Tryz.prog 176 s153:=fn_okS (C:=c153) (hs:=h153) (ps:=P153) (rs:=R153) (specs:=[(252,s185)]) (dyns:=[]) (codes:=[]) rfl hm hT ⟨k185,trivial⟩ trivial (by kernel_rfl) Tryz.func176 (by kernel_rfl)
theorem k154:FnOk Tryz.prog 177 s154:=fn_okS (C:=c154) (hs:=h154) (ps:=P154) (rs:=R154) (specs:=[]) (dyns:=[]) (codes:=[]) rfl hm hT trivial trivial (by kernel_rfl) Tryz.func177 (by kernel_rfl)
theorem k155:FnOk Tryz.prog 178 s155:=fn_okS (C:=c155) (hs:=h155) (ps:=P155) (rs:=R155) (specs:=[]) (dyns:=[60]) (codes:=[]) rfl hm hT trivial trivial (by kernel_rfl) Tryz.func178 (by kernel_rfl)
theorem k156:FnOk Tryz.prog 179 s156:=fn_okS (C:=c156) (hs:=h156) (ps:=P156) (rs:=R156) (specs:=[]) (dyns:=[]) (codes:=[]) rfl hm hT trivial trivial (by kernel_rfl) Tryz.func179 (by kernel_rfl)
theorem k120:FnOk Tryz.prog 125 s120:=fn_okS (C:=c120) (hs:=h120) (ps:=P120) (rs:=R120) (specs:=[(175,s152),(176,s153),(177,s154),(178,s155),(179,s156)]) (dyns:=[]) (codes:=[]) rfl hm hT ⟨k152,k153,k154,k155,k156,trivial⟩ trivial (by kernel_rfl) Tryz.func125 (by kernel_rfl)
theorem k157:FnOk Tryz.prog 180 s157:=fn_okS (C:=c157) (hs:=h157) (ps:=P157) (rs:=R157) (specs:=[]) (dyns:=[]) (codes:=[]) rfl hm hT trivial trivial (by kernel_rfl) Tryz.func180 (by kernel_rfl)
theorem k158:FnOk Tryz.prog 181 s158:=fn_okS (C:=c158) (hs:=h158) (ps:=P158) (rs:=R158) (specs:=[]) (dyns:=[]) (codes:=[]) rfl hm hT trivial trivial (by kernel_rfl) Tryz.func181 (by kernel_rfl)
theorem k186:FnOk Tryz.prog 253 s186:=fn_okS (C:=c186) (hs:=h186) (ps:=P186) (rs:=R186) (specs:=[]) (dyns:=[]) (codes:=[]) rfl hm hT trivial trivial (by kernel_rfl) Tryz.func253 (by kernel_rfl)
theorem k159:FnOk Tryz.prog 182 s159:=fn_okS (C:=c159) (hs:=h159) (ps:=P159) (rs:=R159) (specs:=[(175,s152),(178,s155),(253,s186)]) (dyns:=[]) (codes:=[]) rfl hm hT ⟨k152,k155,k186,trivial⟩ trivial (by kernel_rfl) Tryz.func182 (by kernel_rfl)
theorem k161:FnOk Tryz.prog 184 s161:=fn_okS (C:=c161) (hs:=h161) (ps:=P161) (rs:=R161) (specs:=[]) (dyns:=[]) (codes:=[]) rfl hm hT trivial trivial (by kernel_rfl) Tryz.func184 (by kernel_rfl)
theorem k162:FnOk Tryz.prog 185 s162:=fn_okS (C:=c162) (hs:=h162) (ps:=P162) (rs:=R162) (specs:=[]) (dyns:=[]) (codes:=[]) rfl hm hT trivial trivial (by kernel_rfl) Tryz.func185 (by kernel_rfl)
theorem k187:FnOk Tryz.prog 254 s187:=fn_okS (C:=c187) (hs:=h187) (ps:=P187) (rs:=R187) (specs:=[]) (dyns:=[]) (codes:=[]) rfl hm hT trivial trivial (by kernel_rfl) Tryz.func254 (by kernel_rfl)
theorem k121:FnOk Tryz.prog 126 s121:=fn_okS (C:=c121) (hs:=h121) (ps:=P121) (rs:=R121) (specs:=[(175,s152),(176,s153),(178,s155),(180,s157),(181,s158),(182,s159),(184,s161),(185,s162),(253,s186),(254,s187)]) (dyns:=[60]) (codes:=[(178,Tryz.f178),(182,Tryz.f182),(183,Tryz.f183),(186,Tryz.f186)]) rfl hm hT ⟨k152,k153,k155,k157,k158,k159,k161,k162,k186,k187,trivial⟩ ⟨Tryz.func178,Tryz.func182,Tryz.func183,Tryz.func186,trivial⟩ (by kernel_rfl) Tryz.func126 (by kernel_rfl)
theorem k188:FnOk Tryz.prog 255 s188:=fn_okS (C:=c188) (hs:=h188) (ps:=P188) (rs:=R188) (specs:=[(254,s187)]) (dyns:=[]) (codes:=[]) rfl hm hT ⟨k187,trivial⟩ trivial (by kernel_rfl) Tryz.func255 (by kernel_rfl)
theorem k164:FnOk Tryz.prog 187 s164:=fn_okS (C:=c164) (hs:=h164) (ps:=P164) (rs:=R164) (specs:=[(184,s161),(255,s188)]) (dyns:=[]) (codes:=[]) rfl hm hT ⟨k161,k188,trivial⟩ trivial (by kernel_rfl) Tryz.func187 (by kernel_rfl)
theorem k166:FnOk Tryz.prog 189 s166:=fn_okS (C:=c166) (hs:=h166) (ps:=P166) (rs:=R166) (specs:=[]) (dyns:=[]) (codes:=[]) rfl hm hT trivial trivial (by kernel_rfl) Tryz.func189 (by kernel_rfl)
theorem k165:FnOk Tryz.prog 188 s165:=fn_okS (C:=c165) (hs:=h165) (ps:=P165) (rs:=R165) (specs:=[(189,s166)]) (dyns:=[]) (codes:=[]) rfl hm hT ⟨k166,trivial⟩ trivial (by kernel_rfl) Tryz.func188 (by kernel_rfl)
theorem k122:FnOk Tryz.prog 127 s122:=fn_okS (C:=c122) (hs:=h122) (ps:=P122) (rs:=R122) (specs:=[(176,s153),(178,s155),(180,s157),(187,s164),(188,s165)]) (dyns:=[]) (codes:=[]) rfl hm hT ⟨k153,k155,k157,k164,k165,trivial⟩ trivial (by kernel_rfl) Tryz.func127 (by kernel_rfl)
theorem k83:FnOk Tryz.prog 69 s83:=fn_okS (C:=c83) (hs:=h83) (ps:=P83) (rs:=R83) (specs:=[(125,s120),(126,s121),(127,s122)]) (dyns:=[]) (codes:=[]) rfl hm hT ⟨k120,k121,k122,trivial⟩ trivial (by kernel_rfl) Tryz.func69 (by kernel_rfl)
theorem k202:FnOk Tryz.prog 70 s202:=fn_okS (C:=c202) (hs:=h202) (ps:=P202) (rs:=R202) (specs:=[]) (dyns:=[]) (codes:=[]) rfl hm hT trivial trivial (by kernel_rfl) Tryz.func70 (by kernel_rfl)
theorem k183:FnOk Tryz.prog 228 s183:=fn_okS (C:=c183) (hs:=h183) (ps:=P183) (rs:=R183) (specs:=[(69,s83),(70,s202)]) (dyns:=[]) (codes:=[]) rfl hm hT ⟨k83,k202,trivial⟩ trivial (by kernel_rfl) Tryz.func228 (by kernel_rfl)
theorem k244:FnOk Tryz.prog 312 s244:=fn_okS (C:=c244) (hs:=h244) (ps:=P244) (rs:=R244) (specs:=[(212,s128)]) (dyns:=[]) (codes:=[]) rfl hm hT ⟨k128,trivial⟩ trivial (by kernel_rfl) Tryz.func312 (by kernel_rfl)
theorem k224:FnOk Tryz.prog 299 s224:=fn_okS (C:=c224) (hs:=h224) (ps:=P224) (rs:=R224) (specs:=[(213,s129),(312,s244)]) (dyns:=[]) (codes:=[]) rfl hm hT ⟨k129,k244,trivial⟩ trivial (by kernel_rfl) Tryz.func299 (by kernel_rfl)
theorem k203:FnOk Tryz.prog 286 s203:=fn_okS (C:=c203) (hs:=h203) (ps:=P203) (rs:=R203) (specs:=[(299,s224)]) (dyns:=[]) (codes:=[]) rfl hm hT ⟨k224,trivial⟩ trivial (by kernel_rfl) Tryz.func286 (by kernel_rfl)
theorem k600:FnOk Tryz.prog 280 s600:=fn_okS (C:=c600) (hs:=h600) (ps:=P600) (rs:=R600) (specs:=[(76,s90)]) (dyns:=[]) (codes:=[]) rfl hm hT ⟨k90,trivial⟩ trivial (by kernel_rfl) Tryz.func280 (by kernel_rfl)
theorem k607:FnOk Tryz.prog 311 s607:=fn_okS (C:=c607) (hs:=h607) (ps:=P607) (rs:=R607) (specs:=[(222,s584),(280,s600)]) (dyns:=[]) (codes:=[]) rfl hm hT ⟨k584,k600,trivial⟩ trivial (by kernel_rfl) Tryz.func311 (by kernel_rfl)
theorem k606:FnOk Tryz.prog 298 s606:=fn_okS (C:=c606) (hs:=h606) (ps:=P606) (rs:=R606) (specs:=[(224,s586),(311,s607)]) (dyns:=[]) (codes:=[]) rfl hm hT ⟨k586,k607,trivial⟩ trivial (by kernel_rfl) Tryz.func298 (by kernel_rfl)
theorem k605:FnOk Tryz.prog 285 s605:=fn_okS (C:=c605) (hs:=h605) (ps:=P605) (rs:=R605) (specs:=[(286,s203),(106,s558),(298,s606)]) (dyns:=[]) (codes:=[]) rfl hm hT ⟨k203,k558,k606,trivial⟩ trivial (by kernel_rfl) Tryz.func285 (by kernel_rfl)
theorem k603:FnOk Tryz.prog 229 s603:=fn_okS (C:=c603) (hs:=h603) (ps:=P603) (rs:=R603) (specs:=[(107,s125),(108,s559),(285,s605)]) (dyns:=[]) (codes:=[]) rfl hm hT ⟨k125,k559,k605,trivial⟩ trivial (by kernel_rfl) Tryz.func229 (by kernel_rfl)
theorem k184:FnOk Tryz.prog 230 s184:=fn_okS (C:=c184) (hs:=h184) (ps:=P184) (rs:=R184) (specs:=[(286,s203)]) (dyns:=[]) (codes:=[]) rfl hm hT ⟨k203,trivial⟩ trivial (by kernel_rfl) Tryz.func230 (by kernel_rfl)
theorem k599:FnOk Tryz.prog 166 s599:=fn_okS (C:=c599) (hs:=h599) (ps:=P599) (rs:=R599) (specs:=[(92,s56),(228,s183),(230,s184),(68,s578),(229,s603)]) (dyns:=[]) (codes:=[]) rfl hm hT ⟨k56,k183,k184,k578,k603,trivial⟩ trivial (by kernel_rfl) Tryz.func166 (by kernel_rfl)
theorem k595:FnOk Tryz.prog 116 s595:=fn_okS (C:=c595) (hs:=h595) (ps:=P595) (rs:=R595) (specs:=[(165,s598),(166,s599)]) (dyns:=[]) (codes:=[]) rfl hm hT ⟨k598,k599,trivial⟩ trivial (by kernel_rfl) Tryz.func116 (by kernel_rfl)
theorem k588:FnOk Tryz.prog 64 s588:=fn_okS (C:=c588) (hs:=h588) (ps:=P588) (rs:=R588) (specs:=[(116,s595)]) (dyns:=[]) (codes:=[]) rfl hm hT ⟨k595,trivial⟩ trivial (by kernel_rfl) Tryz.func64 (by kernel_rfl)
theorem k597:FnOk Tryz.prog 167 s597:=fn_okS (C:=c597) (hs:=h597) (ps:=P597) (rs:=R597) (specs:=[]) (dyns:=[]) (codes:=[]) rfl hm hT trivial trivial (by kernel_rfl) Tryz.func167 (by kernel_rfl)
theorem k592:FnOk Tryz.prog 117 s592:=fn_okS (C:=c592) (hs:=h592) (ps:=P592) (rs:=R592) (specs:=[(167,s597)]) (dyns:=[]) (codes:=[]) rfl hm hT ⟨k597,trivial⟩ trivial (by kernel_rfl) Tryz.func117 (by kernel_rfl)
theorem k587:FnOk Tryz.prog 65 s587:=fn_okSX (C:=c587) (hs:=h587) (ps:=P587) (rs:=R587) (specs:=[(117,s592)]) (dyns:=[141]) (codes:=[]) (x:=cxA) rfl hm hT cxOk ⟨k592,trivial⟩ trivial (by kernel_rfl) Tryz.func65 (by kernel_rfl)
theorem k629:FnOk Tryz.prog 66 s629:=fn_okS (C:=c629) (hs:=h629) (ps:=P629) (rs:=R629) (specs:=[]) (dyns:=[]) (codes:=[]) rfl hm hT trivial trivial (by kernel_rfl) Tryz.func66 (by kernel_rfl)
theorem k624:FnOk Tryz.prog 30 s624:=fn_okS (C:=c624) (hs:=h624) (ps:=P624) (rs:=R624) (specs:=[(65,s587),(64,s588),(66,s629)]) (dyns:=[]) (codes:=[]) rfl hm hT ⟨k587,k588,k629,trivial⟩ trivial (by kernel_rfl) Tryz.func30 (by kernel_rfl)
theorem k477:FnOk Tryz.prog 190 s477:=fn_okS (C:=c477) (hs:=h477) (ps:=P477) (rs:=R477) (specs:=[]) (dyns:=[]) (codes:=[]) rfl hm hT trivial trivial (by kernel_rfl) Tryz.func190 (by kernel_rfl)
theorem k476:FnOk Tryz.prog 128 s476:=fn_okS (C:=c476) (hs:=h476) (ps:=P476) (rs:=R476) (specs:=[(178,s155),(180,s157),(190,s477)]) (dyns:=[]) (codes:=[]) rfl hm hT ⟨k155,k157,k477,trivial⟩ trivial (by kernel_rfl) Tryz.func128 (by kernel_rfl)
theorem k167:FnOk Tryz.prog 191 s167:=fn_okS (C:=c167) (hs:=h167) (ps:=P167) (rs:=R167) (specs:=[]) (dyns:=[]) (codes:=[]) rfl hm hT trivial trivial (by kernel_rfl) Tryz.func191 (by kernel_rfl)
theorem k124:FnOk Tryz.prog 129 s124:=fn_okS (C:=c124) (hs:=h124) (ps:=P124) (rs:=R124) (specs:=[(176,s153),(187,s164),(191,s167)]) (dyns:=[60]) (codes:=[]) rfl hm hT ⟨k153,k164,k167,trivial⟩ trivial (by kernel_rfl) Tryz.func129 (by kernel_rfl)
theorem k410:FnOk Tryz.prog 71 s410:=fn_okS (C:=c410) (hs:=h410) (ps:=P410) (rs:=R410) (specs:=[(126,s121),(129,s124),(128,s476)]) (dyns:=[]) (codes:=[]) rfl hm hT ⟨k121,k124,k476,trivial⟩ trivial (by kernel_rfl) Tryz.func71 (by kernel_rfl)
theorem k98:FnOk Tryz.prog 256 s98:=fn_okS (C:=c98) (hs:=h98) (ps:=P98) (rs:=R98) (specs:=[]) (dyns:=[]) (codes:=[]) rfl hm hT trivial trivial (by kernel_rfl) Tryz.func256 (by kernel_rfl)
theorem k99:FnOk Tryz.prog 257 s99:=fn_okS (C:=c99) (hs:=h99) (ps:=P99) (rs:=R99) (specs:=[]) (dyns:=[]) (codes:=[]) rfl hm hT trivial trivial (by kernel_rfl) Tryz.func257 (by kernel_rfl)
theorem k59:FnOk Tryz.prog 192 s59:=fn_okS (C:=c59) (hs:=h59) (ps:=P59) (rs:=R59) (specs:=[(256,s98),(257,s99)]) (dyns:=[]) (codes:=[]) rfl hm hT ⟨k98,k99,trivial⟩ trivial (by kernel_rfl) Tryz.func192 (by kernel_rfl)
theorem k60:FnOk Tryz.prog 193 s60:=fn_okS (C:=c60) (hs:=h60) (ps:=P60) (rs:=R60) (specs:=[(256,s98)]) (dyns:=[]) (codes:=[]) rfl hm hT ⟨k98,trivial⟩ trivial (by kernel_rfl) Tryz.func193 (by kernel_rfl)
theorem k100:FnOk Tryz.prog 258 s100:=fn_okS (C:=c100) (hs:=h100) (ps:=P100) (rs:=R100) (specs:=[]) (dyns:=[]) (codes:=[]) rfl hm hT trivial trivial (by kernel_rfl) Tryz.func258 (by kernel_rfl)
theorem k101:FnOk Tryz.prog 259 s101:=fn_okS (C:=c101) (hs:=h101) (ps:=P101) (rs:=R101) (specs:=[(256,s98)]) (dyns:=[]) (codes:=[]) rfl hm hT ⟨k98,trivial⟩ trivial (by kernel_rfl) Tryz.func259 (by kernel_rfl)
theorem k61:FnOk Tryz.prog 194 s61:=fn_okS (C:=c61) (hs:=h61) (ps:=P61) (rs:=R61) (specs:=[(258,s100),(259,s101)]) (dyns:=[]) (codes:=[]) rfl hm hT ⟨k100,k101,trivial⟩ trivial (by kernel_rfl) Tryz.func194 (by kernel_rfl)
theorem k23:FnOk Tryz.prog 131 s23:=fn_okS (C:=c23) (hs:=h23) (ps:=P23) (rs:=R23) (specs:=[(192,s59),(193,s60),(194,s61)]) (dyns:=[]) (codes:=[]) rfl hm hT ⟨k59,k60,k61,trivial⟩ trivial (by kernel_rfl) Tryz.func131 (by kernel_rfl)
theorem k576:FnOk Tryz.prog 73 s576:=fn_okS (C:=c576) (hs:=h576) (ps:=P576) (rs:=R576) (specs:=[(131,s23),(132,s176)]) (dyns:=[]) (codes:=[]) rfl hm hT ⟨k23,k176,trivial⟩ trivial (by kernel_rfl) Tryz.func73 (by kernel_rfl)
theorem k625:FnOk Tryz.prog 31 s625:=fn_okS (C:=c625) (hs:=h625) (ps:=P625) (rs:=R625) (specs:=[(69,s83),(29,s137),(72,s138),(70,s202),(71,s410),(32,s574),(73,s576),(68,s578),(67,s601)]) (dyns:=[]) (codes:=[]) rfl hm hT ⟨k83,k137,k138,k202,k410,k574,k576,k578,k601,trivial⟩ trivial (by kernel_rfl) Tryz.func31 (by kernel_rfl)
theorem k565:FnOk Tryz.prog 39 s565:=fn_okS (C:=c565) (hs:=h565) (ps:=P565) (rs:=R565) (specs:=[]) (dyns:=[]) (codes:=[]) rfl hm hT trivial trivial (by kernel_rfl) Tryz.func39 (by kernel_rfl)
theorem k575:FnOk Tryz.prog 90 s575:=fn_okS (C:=c575) (hs:=h575) (ps:=P575) (rs:=R575) (specs:=[(65,s587),(64,s588)]) (dyns:=[]) (codes:=[]) rfl hm hT ⟨k587,k588,trivial⟩ trivial (by kernel_rfl) Tryz.func90 (by kernel_rfl)
theorem k567:FnOk Tryz.prog 40 s567:=fn_okS (C:=c567) (hs:=h567) (ps:=P567) (rs:=R567) (specs:=[(90,s575)]) (dyns:=[]) (codes:=[]) rfl hm hT ⟨k575,trivial⟩ trivial (by kernel_rfl) Tryz.func40 (by kernel_rfl)
theorem k123:FnOk Tryz.prog 149 s123:=fn_okS (C:=c123) (hs:=h123) (ps:=P123) (rs:=R123) (specs:=[]) (dyns:=[]) (codes:=[]) rfl hm hT trivial trivial (by kernel_rfl) Tryz.func149 (by kernel_rfl)
theorem k84:FnOk Tryz.prog 91 s84:=fn_okS (C:=c84) (hs:=h84) (ps:=P84) (rs:=R84) (specs:=[(149,s123),(129,s124)]) (dyns:=[]) (codes:=[]) rfl hm hT ⟨k123,k124,trivial⟩ trivial (by kernel_rfl) Tryz.func91 (by kernel_rfl)
theorem k235:FnOk Tryz.prog 215 s235:=fn_okS (C:=c235) (hs:=h235) (ps:=P235) (rs:=R235) (specs:=[(124,s88),(77,s89)]) (dyns:=[]) (codes:=[]) rfl hm hT ⟨k88,k89,trivial⟩ trivial (by kernel_rfl) Tryz.func215 (by kernel_rfl)
theorem k232:FnOk Tryz.prog 214 s232:=fn_okS (C:=c232) (hs:=h232) (ps:=P232) (rs:=R232) (specs:=[(215,s235)]) (dyns:=[]) (codes:=[]) rfl hm hT ⟨k235,trivial⟩ trivial (by kernel_rfl) Tryz.func214 (by kernel_rfl)
theorem k590:FnOk Tryz.prog 153 s590:=fn_okS (C:=c590) (hs:=h590) (ps:=P590) (rs:=R590) (specs:=[(77,s89)]) (dyns:=[]) (codes:=[]) rfl hm hT ⟨k89,trivial⟩ trivial (by kernel_rfl) Tryz.func153 (by kernel_rfl)
theorem k474:FnOk Tryz.prog 154 s474:=fn_okS (C:=c474) (hs:=h474) (ps:=P474) (rs:=R474) (specs:=[]) (dyns:=[]) (codes:=[]) rfl hm hT trivial trivial (by kernel_rfl) Tryz.func154 (by kernel_rfl)
theorem k582:FnOk Tryz.prog 100 s582:=fn_okS (C:=c582) (hs:=h582) (ps:=P582) (rs:=R582) (specs:=[(124,s88),(77,s89),(154,s474),(68,s578),(153,s590)]) (dyns:=[]) (codes:=[]) rfl hm hT ⟨k88,k89,k474,k578,k590,trivial⟩ trivial (by kernel_rfl) Tryz.func100 (by kernel_rfl)
theorem k420:FnOk Tryz.prog 13 s420:=fn_okS (C:=c420) (hs:=h420) (ps:=P420) (rs:=R420) (specs:=[]) (dyns:=[]) (codes:=[]) rfl hm hT trivial trivial (by kernel_rfl) Tryz.func13 (by kernel_rfl)
theorem k210:FnOk Tryz.prog 261 s210:=fn_okS (C:=c210) (hs:=h210) (ps:=P210) (rs:=R210) (specs:=[]) (dyns:=[]) (codes:=[]) rfl hm hT trivial trivial (by kernel_rfl) Tryz.func261 (by kernel_rfl)
theorem k211:FnOk Tryz.prog 262 s211:=fn_okS (C:=c211) (hs:=h211) (ps:=P211) (rs:=R211) (specs:=[]) (dyns:=[]) (codes:=[]) rfl hm hT trivial trivial (by kernel_rfl) Tryz.func262 (by kernel_rfl)
theorem k237:FnOk Tryz.prog 294 s237:=fn_okS (C:=c237) (hs:=h237) (ps:=P237) (rs:=R237) (specs:=[]) (dyns:=[]) (codes:=[]) rfl hm hT trivial trivial (by kernel_rfl) Tryz.func294 (by kernel_rfl)
theorem k220:FnOk Tryz.prog 269 s220:=fn_okS (C:=c220) (hs:=h220) (ps:=P220) (rs:=R220) (specs:=[(124,s88),(77,s89)]) (dyns:=[]) (codes:=[]) rfl hm hT ⟨k88,k89,trivial⟩ trivial (by kernel_rfl) Tryz.func269 (by kernel_rfl)
theorem k221:FnOk Tryz.prog 270 s221:=fn_okS (C:=c221) (hs:=h221) (ps:=P221) (rs:=R221) (specs:=[]) (dyns:=[]) (codes:=[]) rfl hm hT trivial trivial (by kernel_rfl) Tryz.func270 (by kernel_rfl)
theorem k231:FnOk Tryz.prog 293 s231:=fn_okS (C:=c231) (hs:=h231) (ps:=P231) (rs:=R231) (specs:=[]) (dyns:=[]) (codes:=[]) rfl hm hT trivial trivial (by kernel_rfl) Tryz.func293 (by kernel_rfl)
theorem k304:FnOk Tryz.prog 352 s304:=fn_okS (C:=c304) (hs:=h304) (ps:=P304) (rs:=R304) (specs:=[]) (dyns:=[]) (codes:=[]) rfl hm hT trivial trivial (by kernel_rfl) Tryz.func352 (by kernel_rfl)
end Sx
end
