/- DownloadExplains as a functional reading: it answers true for all arguments. No conditions. -/
import Derived.Test.YtooldamajjbeoaaGreatDoorE
import Derived.Test.YtooldamajjbeoaaGreatDoorP
import Derived.Test.YtooldamajjbeoaaGreatDoorG
import Derived.Test.YtooldamajjbeoaaGreatDoorH
set_option linter.unusedVariables false
set_option linter.unusedSimpArgs false
set_option linter.unusedSectionVars false
set_option maxRecDepth 100000
section
open Go Go.Proofs Ev Sx
theorem wk21 : (r445 () : Option Bool) = some true := by kernel_rfl
end
section
open Go Go.Proofs Ev
namespace Mx
theorem p42i (x : Int) (w : Nat) (hx : x <= 9223372036854775807) (hw : w <= 8) : f42 x w = some (beN w x.toNat) := by
 by_cases h : x < 0
 ·have e : x.toNat = 0 := by omega
  have := p42 0 w (by omega) hw
  rw [e42, t42, cd_neg (by omega)] at this
  rw [e, e42, t42, cd_pos h]; exact this
 ·have e : x = (x.toNat : Int) := by omega
  have := p42 x.toNat w (by omega) hw
  rwa [← e] at this
theorem p89i (x : Int) (w : Nat) (hx : x <= 9223372036854775807) (hw : w <= 8) : f89 x w = some (beN w x.toNat) := by
 by_cases h : x < 0
 ·have e : x.toNat = 0 := by omega
  have := p89 0 w (by omega) hw
  rw [e89, t89] at this
  have m : maxI 0 x = maxI 0 ((0 : Nat) : Int) := by unfold maxI; split <;> split <;> omega
  rw [e, e89, t89, m]; exact this
 ·have e : x = (x.toNat : Int) := by omega
  have := p89 x.toNat w (by omega) hw
  rwa [← e] at this
theorem p42i1 (x : Int) (hx : x <= 9223372036854775807) : f42 x 1 = some (beN 1 x.toNat) := p42i x 1 hx (by omega)
theorem p42i4 (x : Int) (hx : x <= 9223372036854775807) : f42 x 4 = some (beN 4 x.toNat) := p42i x 4 hx (by omega)
theorem p89i1 (x : Int) (hx : x <= 9223372036854775807) : f89 x 1 = some (beN 1 x.toNat) := p89i x 1 hx (by omega)
theorem p89i4 (x : Int) (hx : x <= 9223372036854775807) : f89 x 4 = some (beN 4 x.toNat) := p89i x 4 hx (by omega)
abbrev tyU : Ty := .pair .i64 (.pair .i64 (.pair .i64 (.pair .i64 (.pair (.arr 32 .u8) (.pair (.arr 32 .u8) .unit)))))
def okU (a : U) : Prop := a.1 <= 9223372036854775807 ∧ a.2.1 <= 9223372036854775807 ∧ a.2.2.1 <= 9223372036854775807 ∧ a.2.2.2.1 <= 9223372036854775807
theorem okU_of {a : U} (h : okI tyU a) : okU a := ⟨h.1.2, h.2.1.2, h.2.2.1.2, h.2.2.2.1.2⟩
def packI (a : U) : B := packC a.1.toNat a.2.1.toNat a.2.2.1.toNat a.2.2.2.1.toNat a.2.2.2.2.1 a.2.2.2.2.2.1
theorem p27i (a : U) (h : okU a) : f27 a = some (packI a) := by
 obtain ⟨h1, h2, h3, h4⟩ := h
 rw [e27, t27, bs (p42i1 _ h1), bs (p42i1 _ h2), bs (p42i4 _ h3), bs (p42i4 _ h4), tl32, tl32]
 exact bs (p63 _ (rowsU_short _ _ _ _ _ _))
theorem p47i (a : U) (h : okU a) : f47 a = some (packI a) := by
 obtain ⟨h1, h2, h3, h4⟩ := h
 rw [e47, t47, bs (p89i1 _ h1), bs (p89i1 _ h2), bs (p89i4 _ h3), bs (p89i4 _ h4), tl32, tl32]
 exact bs (p88 _ (rowsU_short _ _ _ _ _ _))
theorem packI_le (a : U) : (packI a).length <= 240 := packC_le _ _ _ _ _ _
theorem p484 (s t : B) (hs : s.length < 1000000000) (ht : t.length < 1000000000) : f484 (s, t, ()) = some (decide (s ≠ t ∧ sum s = sum t)) := by
 rw [e484, t484]
 dsimp only
 rw [e21, t21, Option.bind_some]
 by_cases e : s = t
 ·rw [decide_eq_true e, decide_eq_false (show ¬ (s ≠ t ∧ sum s = sum t) from fun h => h.1 e)]; rfl
 ·rw [decide_eq_false e, cn_f, bs (p125 s hs), bs (p125 t ht)]
  by_cases g : sum s = sum t
  ·rw [decide_eq_true g, decide_eq_true (show s ≠ t ∧ sum s = sum t from ⟨e, g⟩)]; rfl
  ·rw [decide_eq_false g, decide_eq_false (show ¬ (s ≠ t ∧ sum s = sum t) from fun h => g h.2)]; rfl
theorem p445 : f445 = some true := wk21
theorem lawE (C : Cp) (a b : U) (p q x y : B) (ha1 : f47 a = some p) (ha2 : f27 a = some p) (hb1 : f47 b = some q) (hb2 : f27 b = some q) (lp : p.length <= 240) (lq : q.length <= 240) (hx : x.length <= 192) (hy : y.length <= 192) :
 ((f22 C a b x y).bind fun (r : (List UInt8 × List UInt8 × Unit) × Bool) => (f11 C a b x y).bind fun (r_2 : (List UInt8 × List UInt8 × Unit) × Bool) => (bif !decide (r.2 = r_2.2) then some true else (f13 r.1.1 r_2.1.1).bind fun (r_3 : Bool) => bif !r_3 then some true else (f13 r.1.2.1 r_2.1.2.1).bind fun (r : Bool) => some !r).bind fun (x : Bool) => bif x then some false else (bif !r.2 then (f445).bind fun (r : Bool) => some r else (f69 r.1).bind fun (r_3 : Bool) => bif r_3 then (f484 r.1).bind fun (r : Bool) => bif r then (f445).bind fun (r : Bool) => some r else some false else some false).bind fun (x : Bool) => some x) = some true := by
 obtain ⟨r, hb, hre, h1, h2⟩ := p22g C a b p q x y ha1 ha2 hb1 hb2 lp lq hx hy
 rw [bs h1, bs h2]
 refine bt (a := false) ?_ ?_
 ·rw [decide_eq_true rfl, cn_t, bs (p13 _ hb.1), cn_t, bs (p13 _ hb.2)]; rfl
 ·rw [cb_f]
  refine bt (a := true) ?_ rfl
  cases hr : r.2 with
  | false => rw [cn_f, bs p445]
  | true =>
   have hq := decide_eq_true (hre hr)
   have h69 : f69 r.1 = some true := (p69 _ _ hb.1 hb.2).trans (by rw [hq])
   have h484 : f484 r.1 = some true := (p484 _ _ hb.1 hb.2).trans (by rw [hq])
   rw [cn_t, bs h69, cb_t, bs h484, cb_t, bs p445]
theorem law441 (x0 : Cp) (x1 x2 : U) (x3 x4 : B) (x5 : Bool) (i1 : okI tyU x1) (i2 : okI tyU x2) : f441 x0 x1 x2 x3 x4 x5 = some true := by
 have hxl : (x3.take 150).length <= 150 := by simp; omega
 have hyl : (x4.take 150).length <= 150 := by simp; omega
 have e5a : f5 x3 150 = some (x3.take 150) := p5 x3 150
 have e5b : f5 x4 150 = some (x4.take 150) := p5 x4 150
 have k1 := okU_of i1
 have k2 := okU_of i2
 rw [e441, t441, bs e5a, bs e5b]
 generalize x3.take 150 = x at *
 generalize x4.take 150 = y at *
 cases x5 with
 | false =>
  refine bt (a := (x, y, x0, x1, x2)) rfl ?_
  exact lawE x0 x1 x2 _ _ x y (p47i x1 k1) (p27i x1 k1) (p47i x2 k2) (p27i x2 k2) (packI_le _) (packI_le _) (by omega) (by omega)
 | true =>
  have hzl : (9 :: x.take 140).length <= 192 := by simp; omega
  generalize hz : (9 :: x.take 140 : B) = z at *
  have hm1 : f27 ((1 : Int), (2 : Int), (z.length : Int), (64 : Int), crypt z, x1.2.2.2.2.2.1, ()) = some (packC 1 2 z.length 64 (crypt z) x1.2.2.2.2.2.1) := p27 1 2 z.length 64 (crypt z) x1.2.2.2.2.2.1 (by omega) (by omega) (by omega) (by omega)
  have hm2 : f47 ((1 : Int), (2 : Int), (z.length : Int), (64 : Int), crypt z, x1.2.2.2.2.2.1, ()) = some (packC 1 2 z.length 64 (crypt z) x1.2.2.2.2.2.1) := p47 1 2 z.length 64 (crypt z) x1.2.2.2.2.2.1 (by omega) (by omega) (by omega) (by omega)
  have hl := packC_le 1 2 z.length 64 (crypt z) x1.2.2.2.2.2.1
  have hr : remI x2.1 2 = some (x2.1.tmod 2) := by unfold remI; rw [if_neg (by omega)]
  rw [cb_t, p4, hz, Option.bind_some, bs (p28 z (by omega)), bs hm1, bs (p18 _ (by omega)), bs hr]
  by_cases c : x2.1.tmod 2 = 0
  ·refine bt (a := (z, z, ((1 : Int), Vector.replicate 16 0, uebH (packC 1 2 z.length 64 (crypt z) x1.2.2.2.2.2.1), (1 : Int), (2 : Int), (z.length : Int), [], ()), ((1 : Int), (2 : Int), (z.length : Int), (64 : Int), crypt z, x1.2.2.2.2.2.1, ()), ((1 : Int), (2 : Int), (z.length : Int), (64 : Int), crypt z, x1.2.2.2.2.2.1, ()))) ?_ ?_
   ·rw [cd_pos c, bs (p8 z (by omega)), Option.bind_some]
   ·exact lawE _ _ _ _ _ z z hm2 hm1 hm2 hm1 hl hl hzl hzl
  ·refine bt (a := (z, y, ((1 : Int), Vector.replicate 16 0, uebH (packC 1 2 z.length 64 (crypt z) x1.2.2.2.2.2.1), (1 : Int), (2 : Int), (z.length : Int), [], ()), ((1 : Int), (2 : Int), (z.length : Int), (64 : Int), crypt z, x1.2.2.2.2.2.1, ()), x2)) ?_ ?_
   ·rw [cd_neg c, Option.bind_some]
   ·exact lawE _ _ _ _ _ z y hm2 hm1 (p47i x2 k2) (p27i x2 k2) hl (packI_le _) hzl (by omega)
end Mx
end
