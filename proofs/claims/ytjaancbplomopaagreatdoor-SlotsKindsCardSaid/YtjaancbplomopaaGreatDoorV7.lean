/- The example's data as a stream cipher turns them, and back: literal values. No conditions. -/
import Derived.Test.YtjaancbplomopaaGreatDoorT
set_option linter.unusedVariables false
set_option linter.unusedSimpArgs false
set_option linter.unusedSectionVars false
set_option maxRecDepth 100000
section
open Go Go.Proofs Ev
namespace Sx
theorem st23(x0:Vector UInt8 16)(x2:List UInt8)(h2:x2.length<=1000):s23.run (x0,(0:Int),x2,())=some (Mx.stream x0 x2):=by
 have e:=Mx.p23 x0 x2 (by omega)
 unfold Mx.f23 r23 at e
 exact e
theorem stF_at(k:Vector UInt8 16)(b:List UInt8)(j r:Nat)(h:r<16):Mx.stF k b (16*j+r)=b.getD (16*j+r) 0^^^(Mx.ksB k j)[r]?.getD 0:=by
 unfold Mx.stF;rw[show(16*j+r)/16=j by omega,show(16*j+r)%16=r by omega]
noncomputable def ksL(j n:Nat):List UInt8:=(List.range n).map fun r=>(Mx.ksB wDk j)[r]?.getD 0
noncomputable def xorL(a:List UInt8)(o:Nat)(k:List UInt8):List UInt8:=(List.range k.length).map fun r=>a.getD (o+r) 0^^^k.getD r 0
noncomputable def ks0:List UInt8:=xorL dat 0 wCry
theorem blk0:ksL 0 2=ks0:=by kernel_rfl
theorem range2:List.range 2=(List.range 2).map (16*0+ ·):=by decide
theorem part(b:List UInt8)(j n:Nat)(hn:n<=16):((List.range n).map (16*j+ ·)).map (Mx.stF wDk b)=xorL b (16*j) (ksL j n):=by
 unfold xorL ksL
 rw[List.map_map,List.length_map,List.length_range]
 apply List.map_congr_left
 intro r hr
 have h:=List.mem_range.1 hr
 rw[Function.comp,stF_at _ _ _ _ (by omega)]
 simp[List.getD,h]
theorem stream2(b:List UInt8)(h:b.length=2):Mx.stream wDk b=xorL b 0 ks0:=by
 unfold Mx.stream
 rw[h,range2,part b 0 2 (by omega),blk0]
theorem stream_e:Mx.stream wDk dat=wCry:=(stream2 dat (by decide)).trans (by kernel_rfl)
theorem stream_o:Mx.stream wDk wCry=dat:=(stream2 wCry (by kernel_rfl)).trans (by kernel_rfl)
noncomputable def ar23e:Val (.pair (.arr 16 .u8) (.pair .i64 (.pair (.sl .u8) .unit))):=(wDk,(0:Int),dat,())
theorem v23e:s23.run ar23e=some wCry:=(st23 wDk dat (by decide)).trans (congrArg some stream_e)
noncomputable def gl23e(x:InT P23):Bool:=eqV (.pair (.arr 16 .u8) (.pair .i64 (.pair (.sl .u8) .unit))) x ar23e
theorem gl23e_ok(x:InT P23)(h:gl23e x=true):x=ar23e:=eqV_ok (.pair (.arr 16 .u8) (.pair .i64 (.pair (.sl .u8) .unit))) x ar23e h
noncomputable def sl23e:Ev.Spec:=⟨s23.params,s23.results,fun x=>cond (gl23e x) (some wCry) none⟩
theorem kl23e:FnOk Tryz.prog 131 sl23e:=FnOk.lit k23 ar23e wCry v23e gl23e gl23e_ok
noncomputable def ar23o:Val (.pair (.arr 16 .u8) (.pair .i64 (.pair (.sl .u8) .unit))):=(wDk,(0:Int),wCry,())
theorem v23o:s23.run ar23o=some dat:=(st23 wDk wCry (by decide)).trans (congrArg some stream_o)
noncomputable def gl23o(x:InT P23):Bool:=eqV (.pair (.arr 16 .u8) (.pair .i64 (.pair (.sl .u8) .unit))) x ar23o
theorem gl23o_ok(x:InT P23)(h:gl23o x=true):x=ar23o:=eqV_ok (.pair (.arr 16 .u8) (.pair .i64 (.pair (.sl .u8) .unit))) x ar23o h
noncomputable def sl23o:Ev.Spec:=⟨s23.params,s23.results,fun x=>cond (gl23o x) (some dat) none⟩
theorem kl23o:FnOk Tryz.prog 131 sl23o:=FnOk.lit k23 ar23o dat v23o gl23o gl23o_ok
noncomputable def sec576:Ctx:=mkC tys cells maps [(131,sl23e),(132,sx176)] [] []
noncomputable def se576:Ev.Spec:=mkS sec576 Tryz.f73 h576 P576 R576
theorem kse576:FnOk Tryz.prog 73 se576:=fn_okS (C:=sec576) (hs:=h576) (ps:=P576) (rs:=R576) (specs:=[(131,sl23e),(132,sx176)]) (dyns:=[]) (codes:=[]) rfl hm hT ⟨kl23e,kx176,trivial⟩ trivial (by kernel_rfl) Tryz.func73 (by kernel_rfl)
noncomputable def soc576:Ctx:=mkC tys cells maps [(131,sl23o),(132,sx176)] [] []
noncomputable def so576:Ev.Spec:=mkS soc576 Tryz.f73 h576 P576 R576
theorem kso576:FnOk Tryz.prog 73 so576:=fn_okS (C:=soc576) (hs:=h576) (ps:=P576) (rs:=R576) (specs:=[(131,sl23o),(132,sx176)]) (dyns:=[]) (codes:=[]) rfl hm hT ⟨kl23o,kx176,trivial⟩ trivial (by kernel_rfl) Tryz.func73 (by kernel_rfl)
noncomputable def ar576:Val (.pair (.arr 16 .u8) (.pair (.arr 16 .u8) (.pair (.sl .u8) .unit))):=(wRk,z16,dat,())
theorem v576:se576.run ar576=some wCry:=by kernel_rfl
noncomputable def gl576(x:InT P576):Bool:=eqV (.pair (.arr 16 .u8) (.pair (.arr 16 .u8) (.pair (.sl .u8) .unit))) x ar576
theorem gl576_ok(x:InT P576)(h:gl576 x=true):x=ar576:=eqV_ok (.pair (.arr 16 .u8) (.pair (.arr 16 .u8) (.pair (.sl .u8) .unit))) x ar576 h
noncomputable def sl576:Ev.Spec:=⟨se576.params,se576.results,fun x=>cond (gl576 x) (some wCry) none⟩
theorem kl576:FnOk Tryz.prog 73 sl576:=FnOk.lit kse576 ar576 wCry v576 gl576 gl576_ok
end Sx
end
