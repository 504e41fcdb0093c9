/- The example's data as a stream cipher turns them, and back: literal values. No conditions. -/
import Derived.Test.YtpdabjlnbldpfaaGreatDoorX
set_option linter.unusedVariables false
set_option linter.unusedSimpArgs false
set_option linter.unusedSectionVars false
set_option maxRecDepth 100000
section
open Go Go.Proofs Ev
namespace Sx
theorem stF_at(k:Vector UInt8 16)(b:List UInt8)(j r:Nat)(h:r<16):Mx.stF k b (16*j+r)=b.getD (16*j+r) 0^^^(Mx.ksB k j)[r]?.getD 0:=by
 unfold Mx.stF;rw[show(16*j+r)/16=j by omega,show(16*j+r)%16=r by omega]
noncomputable def ksL(j n:Nat):List UInt8:=(List.range n).map fun r=>(Mx.ksB wKey j)[r]?.getD 0
noncomputable def xorL(a:List UInt8)(o:Nat)(k:List UInt8):List UInt8:=(List.range k.length).map fun r=>a.getD (o+r) 0^^^k.getD r 0
noncomputable def ks0:List UInt8:=xorL dat 0 (wCry.take 16)
noncomputable def ks1:List UInt8:=xorL dat 16 ((wCry.drop 16).take 16)
noncomputable def ks2:List UInt8:=xorL dat 32 (wCry.drop 32)
theorem blk0:ksL 0 16=ks0:=by kernel_rfl
theorem blk1:ksL 1 16=ks1:=by kernel_rfl
theorem blk2:ksL 2 8=ks2:=by kernel_rfl
theorem range40:List.range 40=((List.range 16).map (16*0+ ·))++((List.range 16).map (16*1+ ·))++((List.range 8).map (16*2+ ·)):=by decide
theorem part(b:List UInt8)(j n:Nat)(hn:n<=16):((List.range n).map (16*j+ ·)).map (Mx.stF wKey b)=xorL b (16*j) (ksL j n):=by
 unfold xorL ksL
 rw[List.map_map,List.length_map,List.length_range]
 apply List.map_congr_left
 intro r hr
 have h:=List.mem_range.1 hr
 rw[Function.comp,stF_at _ _ _ _ (by omega)]
 simp[List.getD,h]
theorem stream40(b:List UInt8)(h:b.length=40):Mx.stream wKey b=xorL b 0 ks0++xorL b 16 ks1++xorL b 32 ks2:=by
 unfold Mx.stream
 rw[h,range40,List.map_append,List.map_append,part b 0 16 (by omega),part b 1 16 (by omega),part b 2 8 (by omega),blk0,blk1,blk2]
theorem stream_e:Mx.stream wKey dat=wCry:=(stream40 dat (by decide)).trans (by kernel_rfl)
theorem stream_o:Mx.stream wKey wCry=dat:=(stream40 wCry (by decide)).trans (by kernel_rfl)
noncomputable def ar23e:Val (.pair (.arr 16 .u8) (.pair .i64 (.pair (.sl .u8) .unit))):=(wKey,(0:Int),dat,())
theorem v23e:s23.run ar23e=some wCry:=(st23 wKey dat (by decide)).trans (congrArg some stream_e)
noncomputable def gl23e(x:InT P23):Bool:= @decide ((x:Val (.pair (.arr 16 .u8) (.pair .i64 (.pair (.sl .u8) .unit))))=ar23e) (decV (.pair (.arr 16 .u8) (.pair .i64 (.pair (.sl .u8) .unit))) x ar23e)
theorem gl23e_ok(x:InT P23)(h:gl23e x=true):x=ar23e:= @of_decide_eq_true ((x:Val (.pair (.arr 16 .u8) (.pair .i64 (.pair (.sl .u8) .unit))))=ar23e) (decV (.pair (.arr 16 .u8) (.pair .i64 (.pair (.sl .u8) .unit))) x ar23e) h
noncomputable def sl23e:Ev.Spec:=⟨s23.params,s23.results,fun x=>cond (gl23e x) (some wCry) none⟩
theorem kl23e:FnOk Tryz.prog 63 sl23e:=FnOk.lit k23 ar23e wCry v23e gl23e gl23e_ok
noncomputable def ar23o:Val (.pair (.arr 16 .u8) (.pair .i64 (.pair (.sl .u8) .unit))):=(wKey,(0:Int),wCry,())
theorem v23o:s23.run ar23o=some dat:=(st23 wKey wCry (by decide)).trans (congrArg some stream_o)
noncomputable def gl23o(x:InT P23):Bool:= @decide ((x:Val (.pair (.arr 16 .u8) (.pair .i64 (.pair (.sl .u8) .unit))))=ar23o) (decV (.pair (.arr 16 .u8) (.pair .i64 (.pair (.sl .u8) .unit))) x ar23o)
theorem gl23o_ok(x:InT P23)(h:gl23o x=true):x=ar23o:= @of_decide_eq_true ((x:Val (.pair (.arr 16 .u8) (.pair .i64 (.pair (.sl .u8) .unit))))=ar23o) (decV (.pair (.arr 16 .u8) (.pair .i64 (.pair (.sl .u8) .unit))) x ar23o) h
noncomputable def sl23o:Ev.Spec:=⟨s23.params,s23.results,fun x=>cond (gl23o x) (some dat) none⟩
theorem kl23o:FnOk Tryz.prog 63 sl23o:=FnOk.lit k23 ar23o dat v23o gl23o gl23o_ok
end Sx
end
