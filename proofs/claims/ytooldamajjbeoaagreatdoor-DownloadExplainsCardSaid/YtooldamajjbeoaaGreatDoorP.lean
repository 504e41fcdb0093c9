/- Plain laws of shares and explanations: both sides come to the same. No conditions. -/
import Derived.Test.YtooldamajjbeoaaGreatDoorK
import Derived.Test.YtooldamajjbeoaaGreatDoorG
set_option linter.unusedVariables false
set_option linter.unusedSimpArgs false
set_option linter.unusedSectionVars false
set_option maxRecDepth 100000
section
open Go Go.Proofs Ev
namespace Mx
end Mx
end
section
open Go Go.Proofs Ev
namespace Mx
end Mx
end
section
open Go Go.Proofs Ev
namespace Mx
end Mx
end
section
open Go Go.Proofs Ev
namespace Mx
section
variable {k n : Nat} {b : B} (h1 : 1 <= k) (h2 : k <= n) (h3 : n <= 4) (hb1 : 1 <= b.length) (hb : b.length <= 192)
include h1 h2 h3 hb1 hb
end
end Mx
end
section
open Go Go.Proofs Ev
namespace Mx
abbrev BB := List UInt8 × List UInt8 × Unit
abbrev SI := Int × BB
abbrev OI := BB ⊕ (Bool × BB)
abbrev outer (step : Int -> SI -> Option (SI ⊕ OI)) : SI -> Option (SI ⊕ OI) := fun x =>
 bif decide ((0 : Int) <= x.1) then (iter (step x.1) ((0 : Int), x.2)).bind fun (y : OI) =>
  sumE y (fun (x_1 : BB) => some (Sum.inl (subI x.1 (1 : Int), x_1))) fun (x : Bool × BB) => some (Sum.inr (Sum.inr (x.1, x.2)))
 else some (Sum.inr (Sum.inl x.2))
section
variable {step : Int -> SI -> Option (SI ⊕ OI)} {K : Nat} {w : Nat -> Nat} {bad : Nat -> Nat -> Prop} {br : Nat -> Nat -> BB}
 (hK : K <= 1000) (hw : ∀ j, j < K -> w j <= 1000000)
 (hs : ∀ j, j < K -> ∀ i, i < w j -> ∀ z, ¬ bad j i -> step (j : Int) (((2 * i : Nat) : Int), z) = some (.inl (((2 * (i + 1) : Nat) : Int), z)))
 (hb : ∀ j, j < K -> ∀ i, i < w j -> ∀ z, bad j i -> step (j : Int) (((2 * i : Nat) : Int), z) = some (.inr (.inr (true, br j i))))
 (he : ∀ j, j < K -> ∀ z, step (j : Int) (((2 * w j : Nat) : Int), z) = some (.inr (.inl z)))
include hK hw hs hb he
theorem in_none (j : Nat) (hj : j < K) (h : ∀ i, i < w j -> ¬ bad j i) (z : BB) : iter (step (j : Int)) ((0 : Int), z) = some (.inl z) :=
 it_some (fun i => (((2 * i : Nat) : Int), z)) (w j) (.inl z) rfl (fun i hi => hs j hj i hi z (h i hi)) (he j hj z) (by have := hw j hj; omega)
theorem in_bad (j I : Nat) (hj : j < K) (hI : I < w j) (hbad : bad j I) (h : ∀ i, i < I -> ¬ bad j i) (z : BB) : iter (step (j : Int)) ((0 : Int), z) = some (.inr (true, br j I)) :=
 it_some (fun i => (((2 * i : Nat) : Int), z)) I (.inr (true, br j I)) rfl (fun i hi => hs j hj i (by omega) z (h i hi)) (hb j hj I hI z hbad) (by have := hw j hj; omega)
theorem srch_none (h : ∀ j, j < K -> ∀ i, i < w j -> ¬ bad j i) (z : BB) : iter (outer step) ((K : Int) - 1, z) = some (.inl z) := by
 refine it_some (σ := SI) (ω := OI) (fun t => ((K : Int) - 1 - (t : Int), z)) K (Sum.inl z) (by simp) ?_ ?_ (by omega)
 ·intro t ht
  have e : (K : Int) - 1 - (t : Int) = ((K - 1 - t : Nat) : Int) := by omega
  dsimp only [outer]
  rw [e, cd_pos (by omega), bs (in_none hK hw hs hb he (K - 1 - t) (by omega) (h _ (by omega)) z)]
  dsimp only [sumE]
  rw [subI_ok (by omega) (by omega)]
  exact some_inl (pe (by omega) rfl)
 ·dsimp only [outer]
  rw [cd_neg (by omega)]
theorem srch_bad (J I : Nat) (hJ : J < K) (hI : I < w J) (hbad : bad J I) (h : ∀ j, J < j -> j < K -> ∀ i, i < w j -> ¬ bad j i) (h' : ∀ i, i < I -> ¬ bad J i) (z : BB) : iter (outer step) ((K : Int) - 1, z) = some (.inr (true, br J I)) := by
 refine it_some (σ := SI) (ω := OI) (fun t => ((K : Int) - 1 - (t : Int), z)) (K - 1 - J) (Sum.inr (true, br J I)) (by simp) ?_ ?_ (by omega)
 ·intro t ht
  have e : (K : Int) - 1 - (t : Int) = ((K - 1 - t : Nat) : Int) := by omega
  dsimp only [outer]
  rw [e, cd_pos (by omega), bs (in_none hK hw hs hb he (K - 1 - t) (by omega) (h _ (by omega) (by omega)) z)]
  dsimp only [sumE]
  rw [subI_ok (by omega) (by omega)]
  exact some_inl (pe (by omega) rfl)
 ·have e : (K : Int) - 1 - ((K - 1 - J : Nat) : Int) = (J : Int) := by omega
  dsimp only [outer]
  rw [e, cd_pos (by omega), bs (in_bad hK hw hs hb he J I hJ hI hbad h' z)]; rfl
end
theorem nodeT_inj {a b c d : H} (h : nodeT a b = nodeT c d) : a = c ∧ b = d := by
 unfold nodeT text at h
 have h2 := List.append_cancel_left h
 have := nets_uniq [a.toList, b.toList] [c.toList, d.toList] rfl (fun x hx => by simp at hx; rcases hx with rfl | rfl <;> simp) (fun x hx => by simp at hx; rcases hx with rfl | rfl <;> simp) h2
 simp only [List.cons.injEq, and_true] at this
 exact ⟨Vector.toList_inj.1 this.1, Vector.toList_inj.1 this.2⟩
theorem p65 (l m : List H) (hl : l.length <= 1000000) (he : l.length = m.length) : f65 l m = some (decide (l = m)) := by
 rw [e65, t65, cd_neg (by omega)]
 obtain ⟨k, k1, k2, k3⟩ := stop (fun i => i < l.length ∧ l.getD i default = m.getD i default) l.length (fun h => absurd h.1 (by omega))
 by_cases c : k = l.length
 ·subst c
  have : l = m := by
   apply List.ext_getElem he; intro i h1 h2
   have := (k2 i h1).2
   simpa [List.getD_eq_getElem?_getD, h1, h2] using this
  rw [decide_eq_true this]
  refine it_bind (fun i => (i : Int)) l.length (.inl ()) rfl ?_ ?_ (by omega) rfl
  ·intro i hi
   rw [cd_pos (by omega), bs (at_gd hi default), bs (at_gd (by omega) default), decide_eq_true (k2 i hi).2, addI_1 (by omega)]; rfl
  ·rw [cd_neg (by omega)]
 ·have hne : l.getD k default ≠ m.getD k default := fun e => k3 ⟨by omega, e⟩
  rw [decide_eq_false (fun e => hne (by rw [e]))]
  refine it_bind (fun i => (i : Int)) k (.inr false) rfl ?_ ?_ (by omega) rfl
  ·intro i hi
   rw [cd_pos (by omega), bs (at_gd (by omega) default), bs (at_gd (by omega) default), decide_eq_true (k2 i hi).2, addI_1 (by omega)]; rfl
  ·rw [cd_pos (by omega), bs (at_gd (by omega) default), bs (at_gd (by omega) default), decide_eq_false hne]; rfl
theorem p69 (s t : B) (hs : s.length < 1000000000) (ht : t.length < 1000000000) : f69 (s, t, ()) = some (decide (s ≠ t ∧ sum s = sum t)) := by
 rw [e69, t69]
 by_cases c : s = t
 ·rw [cd_neg (fun h => h c), decide_eq_false (show ¬ (s ≠ t ∧ sum s = sum t) from fun h => h.1 c)]; rfl
 ·rw [cd_pos c, bs (p82 s hs), bs (p82 t ht)]
  by_cases d : sum s = sum t
  ·rw [decide_eq_true d, decide_eq_true (show s ≠ t ∧ sum s = sum t from ⟨c, d⟩)]; rfl
  ·rw [decide_eq_false d, decide_eq_false (show ¬ (s ≠ t ∧ sum s = sum t) from fun h => d h.2)]; rfl
end Mx
end
section
open Go Go.Proofs Ev
namespace Mx
noncomputable def stepP (r r_1 : List (List (Vector UInt8 32))) (j : Int) (x_1 : SI) : Option (SI ⊕ OI) :=
 (at? r j).bind fun (y : List (Vector UInt8 (32 : Nat))) =>
  bif decide (x_1.1 < (↑y.length : Int)) then
   (at? r j).bind fun (y : List (Vector UInt8 (32 : Nat))) =>
    (at? y x_1.1).bind fun (y : Vector UInt8 (32 : Nat)) =>
     (at? r j).bind fun (y_3 : List (Vector UInt8 (32 : Nat))) =>
      (at? y_3 (addI x_1.1 (1 : Int))).bind fun (y_4 : Vector UInt8 (32 : Nat)) =>
       (at? r_1 j).bind fun (y_5 : List (Vector UInt8 (32 : Nat))) =>
        (at? y_5 x_1.1).bind fun (y_6 : Vector UInt8 (32 : Nat)) =>
         (at? r_1 j).bind fun (y_7 : List (Vector UInt8 (32 : Nat))) =>
          (at? y_7 (addI x_1.1 (1 : Int))).bind fun (y_8 : Vector UInt8 (32 : Nat)) =>
           bif
            !decide
             (vecOf (2 : Nat) [y, y_4] (Vector.replicate (32 : Nat) (0 : UInt8)) =
              vecOf (2 : Nat) [y_6, y_8] (Vector.replicate (32 : Nat) (0 : UInt8))) then
            (f97 (vecOf (2 : Nat) [y, y_4] (Vector.replicate (32 : Nat) (0 : UInt8))) (vecOf (2 : Nat) [y_6, y_8] (Vector.replicate (32 : Nat) (0 : UInt8)))).bind
             fun (r : List UInt8 × List UInt8 × Unit) => some (Sum.inr (Sum.inr (true, r)))
           else some (Sum.inl (addI x_1.1 (2 : Int), x_1.2))
  else some (Sum.inr (Sum.inl x_1.2))
noncomputable def stepR (ls ms : List (List (Vector UInt8 32))) (j : Int) (x_1 : SI) : Option (SI ⊕ OI) :=
 if (0 : Int) <= j ∧ j < (↑ls.length : Int) then
  bif decide (addI x_1.1 (1 : Int) < (↑(ls.getD j.toNat []).length : Int)) then
   if (0 : Int) <= j ∧ j < (↑ls.length : Int) then
    (at? (ls.getD j.toNat []) x_1.1).bind fun (y_1 : Vector UInt8 (32 : Nat)) =>
     if (0 : Int) <= j ∧ j < (↑ls.length : Int) then
      (at? (ls.getD j.toNat []) (addI x_1.1 (1 : Int))).bind fun (y_2 : Vector UInt8 (32 : Nat)) =>
       (f68 y_1 y_2).bind fun (r : List UInt8) =>
        if (0 : Int) <= j ∧ j < (↑ms.length : Int) then
         (at? (ms.getD j.toNat []) x_1.1).bind fun (y_3 : Vector UInt8 (32 : Nat)) =>
          if (0 : Int) <= j ∧ j < (↑ms.length : Int) then
           (at? (ms.getD j.toNat []) (addI x_1.1 (1 : Int))).bind fun (y : Vector UInt8 (32 : Nat)) =>
            (f68 y_3 y).bind fun (r_2 : List UInt8) =>
             (f69 (r, r_2, ())).bind fun (r_3 : Bool) =>
              bif r_3 then some (Sum.inr (Sum.inr (true, r, r_2, ())))
              else some (Sum.inl (addI x_1.1 (2 : Int), x_1.2))
          else none
        else none
     else none
   else none
  else some (Sum.inr (Sum.inl x_1.2))
 else none
theorem vec2 {a b c d z : H} : vecOf 2 [a, b] z = vecOf 2 [c, d] z ↔ a = c ∧ b = d := by
 constructor
 ·intro h
  have h0 : (vecOf 2 [a, b] z)[0]?.getD z = (vecOf 2 [c, d] z)[0]?.getD z := by rw [h]
  have h1 : (vecOf 2 [a, b] z)[1]?.getD z = (vecOf 2 [c, d] z)[1]?.getD z := by rw [h]
  exact ⟨h0, h1⟩
 ·rintro ⟨rfl, rfl⟩; rfl
theorem p97 (a b c d : H) : f97 (vecOf 2 [a, b] (Vector.replicate 32 0)) (vecOf 2 [c, d] (Vector.replicate 32 0)) = some (nodeT a b, nodeT c d, ()) := by
 rw [e97, t97]
 show (f130 a b).bind _ = _
 rw [bs (p130 a b)]
 show (f130 c d).bind _ = _
 rw [bs (p130 c d)]
section
variable (l m : List H) (hN1 : 1 <= l.length) (hN : l.length <= 4) (hlm : l.length = m.length)
noncomputable def pA (l : List H) (j i : Nat) : H := (upN (rowC l) j).getD i default
def dif (l m : List H) (j i : Nat) : Prop := ¬ (pA l j (2*i) = pA m j (2*i) ∧ pA l j (2*i+1) = pA m j (2*i+1))
abbrev sam (l m : List H) (j i : Nat) : Prop := nodeT (pA l j (2*i)) (pA l j (2*i+1)) ≠ nodeT (pA m j (2*i)) (pA m j (2*i+1)) ∧ node (pA l j (2*i)) (pA l j (2*i+1)) = node (pA m j (2*i)) (pA m j (2*i+1))
noncomputable def brk (l m : List H) (j i : Nat) : BB := (nodeT (pA l j (2*i)) (pA l j (2*i+1)), nodeT (pA m j (2*i)) (pA m j (2*i+1)), ())
include hN1 hN hlm
theorem A_len (j : Nat) (hj : j <= lg l.length) : (upN (rowC l) j).length = 2 ^ (lg l.length - j) := upN_len _ _ (rowC_len l (by omega)) j hj
theorem B_len (j : Nat) (hj : j <= lg l.length) : (upN (rowC m) j).length = 2 ^ (lg l.length - j) := by
 rw [hlm] at hj ⊢; exact upN_len _ _ (rowC_len m (by omega)) j hj
theorem w_eq (j : Nat) (hj : j < lg l.length) : 2 ^ (lg l.length - j) = 2 * 2 ^ (lg l.length - 1 - j) := by
 rw [show lg l.length - j = (lg l.length - 1 - j) + 1 by omega, Nat.pow_succ]; omega
theorem w_le (j : Nat) : 2 ^ (lg l.length - 1 - j) <= 16 := by
 have := lg_le l.length
 have h : 2 ^ (lg l.length - 1 - j) <= 2 ^ 4 := Nat.pow_le_pow_right (by omega) (by omega)
 omega
theorem stepP_eq (j i : Nat) (hj : j < lg l.length) (hi : i < 2 ^ (lg l.length - 1 - j)) (z : BB) : stepP (rowsC l) (rowsC m) (j : Int) (((2 * i : Nat) : Int), z) =
 bif !decide (vecOf 2 [pA l j (2*i), pA l j (2*i+1)] (Vector.replicate 32 0) = vecOf 2 [pA m j (2*i), pA m j (2*i+1)] (Vector.replicate 32 0)) then some (.inr (.inr (true, brk l m j i))) else some (.inl (((2 * (i + 1) : Nat) : Int), z)) := by
 have h1 := A_len l m hN1 hN hlm j (by omega); have h2 := B_len l m hN1 hN hlm j (by omega); have h3 := w_eq l m hN1 hN hlm j hj; have h4 := w_le l m hN1 hN hlm j
 have hA : at? (rowsC l) (j : Int) = some (upN (rowC l) j) := rowsC_at l j (by omega)
 have hB : at? (rowsC m) (j : Int) = some (upN (rowC m) j) := rowsC_at m j (by rw [← hlm]; omega)
 unfold stepP
 dsimp only
 rw [bs hA, cd_pos (by omega), bs hA, bs (at_gd (by omega) default), bs hA, addI_1 (by omega), bs (at_gd (by omega) default), bs hB, bs (at_gd (by omega) default), bs hB, bs (at_gd (by omega) default), addI_2 (by omega)]
 rw [bs (p97 _ _ _ _)]; rfl
theorem stepR_eq (j i : Nat) (hj : j < lg l.length) (hi : i < 2 ^ (lg l.length - 1 - j)) (z : BB) : stepR ((List.range (lg l.length)).map (upN (rowC l))) ((List.range (lg l.length)).map (upN (rowC m))) (j : Int) (((2 * i : Nat) : Int), z) =
 bif decide (nodeT (pA l j (2*i)) (pA l j (2*i+1)) ≠ nodeT (pA m j (2*i)) (pA m j (2*i+1)) ∧ node (pA l j (2*i)) (pA l j (2*i+1)) = node (pA m j (2*i)) (pA m j (2*i+1))) then some (.inr (.inr (true, brk l m j i))) else some (.inl (((2 * (i + 1) : Nat) : Int), z)) := by
 have h1 := A_len l m hN1 hN hlm j (by omega); have h2 := B_len l m hN1 hN hlm j (by omega); have h3 := w_eq l m hN1 hN hlm j hj; have h4 := w_le l m hN1 hN hlm j
 unfold stepR
 dsimp only
 rw [List.length_map, List.length_map, List.length_range, Int.toNat_natCast, gd_range _ _ _ _ hj, gd_range _ _ _ _ hj, addI_1 (by omega), if_pos (by omega), cd_pos (by omega), if_pos (by omega), bs (at_gd (by omega) default), if_pos (by omega), bs (at_gd (by omega) default), bs (p68 _ _), if_pos (by omega), bs (at_gd (by omega) default), if_pos (by omega), bs (at_gd (by omega) default), bs (p68 _ _), addI_2 (by omega)]
 rw [bs (p69 _ _ (nodeT_len _ _) (nodeT_len _ _))]; rfl
theorem stepP_end (j : Nat) (hj : j < lg l.length) (z : BB) : stepP (rowsC l) (rowsC m) (j : Int) (((2 * 2 ^ (lg l.length - 1 - j) : Nat) : Int), z) = some (.inr (.inl z)) := by
 have h1 := A_len l m hN1 hN hlm j (by omega); have h3 := w_eq l m hN1 hN hlm j hj
 have hA : at? (rowsC l) (j : Int) = some (upN (rowC l) j) := rowsC_at l j (by omega)
 unfold stepP
 dsimp only
 rw [bs hA, cd_neg (by omega)]
theorem stepR_end (j : Nat) (hj : j < lg l.length) (z : BB) : stepR ((List.range (lg l.length)).map (upN (rowC l))) ((List.range (lg l.length)).map (upN (rowC m))) (j : Int) (((2 * 2 ^ (lg l.length - 1 - j) : Nat) : Int), z) = some (.inr (.inl z)) := by
 have h1 := A_len l m hN1 hN hlm j (by omega); have h3 := w_eq l m hN1 hN hlm j hj; have h4 := w_le l m hN1 hN hlm j
 unfold stepR
 dsimp only
 rw [List.length_map, List.length_map, List.length_range, Int.toNat_natCast, gd_range _ _ _ _ hj, addI_1 (by omega), if_pos (by omega), cd_neg (by omega)]
theorem row_eq (j : Nat) (hj : j < lg l.length) (h : ∀ i, i < 2 ^ (lg l.length - 1 - j) -> ¬ dif l m j i) : upN (rowC l) j = upN (rowC m) j := by
 have h1 := A_len l m hN1 hN hlm j (by omega); have h2 := B_len l m hN1 hN hlm j (by omega); have h3 := w_eq l m hN1 hN hlm j hj
 apply List.ext_getElem (by omega); intro t ht1 ht2
 have := Classical.not_not.1 (h (t / 2) (by omega))
 have key : pA l j t = pA m j t := by
  rcases Nat.mod_two_eq_zero_or_one t with e | e
  ·have := this.1; rwa [show 2 * (t / 2) = t by omega] at this
  ·have := this.2; rwa [show 2 * (t / 2) + 1 = t by omega] at this
 simpa [pA, List.getD_eq_getElem?_getD, ht1, ht2] using key
theorem node_up (l : List H) (j i : Nat) (hi : i < (upN (rowC l) j).length / 2) : node (pA l j (2*i)) (pA l j (2*i+1)) = pA l (j+1) i := by
 show _ = (upC (upN (rowC l) j)).getD i default
 rw [upC, gd_range _ _ _ _ hi]; rfl
def bnd (r : BB × Bool) : Prop := r.1.1.length < 1000000000 ∧ r.1.2.1.length < 1000000000
omit hN1 hN hlm in
theorem bnd0 : bnd (([], [], ()), false) := by constructor <;> simp
def real (r : BB × Bool) : Prop := r.2 = true -> r.1.1 ≠ r.1.2.1 ∧ sum r.1.1 = sum r.1.2.1
omit hN1 hN hlm in
theorem real0 : real (([], [], ()), false) := fun h => by cases h
theorem p57_32 : ∃ r, bnd r ∧ real r ∧ f57 l m = some r ∧ f32 l m = some r := by
 have hK4 := lg_le l.length
 have hlgm : lg m.length = lg l.length := by rw [hlm]
 have wle := fun j => w_le l m hN1 hN hlm j
 rw [e57, t57, cd_neg (by omega), bs (p96 l hN1 hN), bs (p96 m (by omega) (by omega)), rowsC_len, subI_ok (by omega) (by omega), show ((lg l.length + 1 : Nat) : Int) - 1 = ((lg l.length : Nat) : Int) by omega]
 have hA := rowsC_at l (lg l.length) (Nat.le_refl _)
 have hB := rowsC_at m (lg l.length) (by omega)
 have hrl : (upN (rowC l) (lg l.length)).getD 0 default = root l := rfl
 have hrm : (upN (rowC m) (lg l.length)).getD 0 default = root m := by unfold root; rw [hlgm]
 have la := A_len l m hN1 hN hlm (lg l.length) (Nat.le_refl _); have lb := B_len l m hN1 hN hlm (lg l.length) (Nat.le_refl _)
 rw [Nat.sub_self] at la lb
 rw [bs hA, bs (at_g0 (by omega) default), bs hB, bs (at_g0 (by omega) default), hrl, hrm]
 by_cases hr : root l = root m
 rotate_left
 ·have hne : l ≠ m := fun e => hr (by rw [e])
  refine ⟨(([], [], ()), false), bnd0, real0, by rw [decide_eq_false hr]; rfl, ?_⟩
  rw [e32, t32, cd_neg (by omega), bs (p65 l m (by omega) hlm), decide_eq_false hne]
  refine bt (a := true) ?_ rfl
  rw [cb_f, bs (p38 l (by omega)), bs (p38 m (by omega)), decide_eq_false hr]; rfl
 rw [decide_eq_true hr, cn_t, subI_ok (by omega) (by omega)]
 have hsP : ∀ j, j < lg l.length -> ∀ i, i < 2 ^ (lg l.length - 1 - j) -> ∀ z, ¬ dif l m j i -> stepP (rowsC l) (rowsC m) (j : Int) (((2 * i : Nat) : Int), z) = some (.inl (((2 * (i + 1) : Nat) : Int), z)) := fun j hj i hi z hd => by
  rw [stepP_eq l m hN1 hN hlm j i hj hi z, decide_eq_true (vec2.2 (Classical.not_not.1 hd))]; rfl
 have hbP : ∀ j, j < lg l.length -> ∀ i, i < 2 ^ (lg l.length - 1 - j) -> ∀ z, dif l m j i -> stepP (rowsC l) (rowsC m) (j : Int) (((2 * i : Nat) : Int), z) = some (.inr (.inr (true, brk l m j i))) := fun j hj i hi z hd => by
  rw [stepP_eq l m hN1 hN hlm j i hj hi z, decide_eq_false (fun e => hd (vec2.1 e))]; rfl
 have heP := fun j hj z => stepP_end l m hN1 hN hlm j hj z
 have hsR : ∀ j, j < lg l.length -> ∀ i, i < 2 ^ (lg l.length - 1 - j) -> ∀ z, ¬ sam l m j i -> stepR ((List.range (lg l.length)).map (upN (rowC l))) ((List.range (lg l.length)).map (upN (rowC m))) (j : Int) (((2 * i : Nat) : Int), z) = some (.inl (((2 * (i + 1) : Nat) : Int), z)) := fun j hj i hi z hd => by
  rw [stepR_eq l m hN1 hN hlm j i hj hi z, decide_eq_false hd]; rfl
 have hbR : ∀ j, j < lg l.length -> ∀ i, i < 2 ^ (lg l.length - 1 - j) -> ∀ z, sam l m j i -> stepR ((List.range (lg l.length)).map (upN (rowC l))) ((List.range (lg l.length)).map (upN (rowC m))) (j : Int) (((2 * i : Nat) : Int), z) = some (.inr (.inr (true, brk l m j i))) := fun j hj i hi z hd => by
  rw [stepR_eq l m hN1 hN hlm j i hj hi z, decide_eq_true hd]; rfl
 have heR := fun j hj z => stepR_end l m hN1 hN hlm j hj z
 have sam_dif : ∀ j i, sam l m j i -> dif l m j i := fun j i h e => h.1 (by rw [e.1, e.2])
 have hw : ∀ j, j < lg l.length -> 2 ^ (lg l.length - 1 - j) <= 1000000 := fun j _ => by have := wle j; omega
 have loop : ∀ (f : List (List H) × List (List H) -> Option (BB × Bool)) (z : Option (BB × Bool)), f ((List.range (lg l.length)).map (upN (rowC l)), (List.range (lg l.length)).map (upN (rowC m))) = z ->
  (iter (fun (x : List (List (Vector UInt8 32)) × List (List (Vector UInt8 32)) × List (Vector UInt8 32) × List (Vector UInt8 32)) =>
   bif decide ((1 : Int) < (↑x.2.2.1.length : Int)) then
    (app? x.1 [x.2.2.1]).bind fun (zs : List (List (Vector UInt8 32))) =>
     (app? x.2.1 [x.2.2.2]).bind fun (zs_1 : List (List (Vector UInt8 32))) =>
      (f67 x.2.2.1).bind fun (r : List (Vector UInt8 32)) =>
       (f67 x.2.2.2).bind fun (r_2 : List (Vector UInt8 32)) => some (Sum.inl (zs, zs_1, r, r_2))
   else some (Sum.inr (x.1, x.2.1)))
   ([], [], rowC l, rowC m)).bind f = z := fun f z hz => by
  refine it_bind (fun i => ((List.range i).map (upN (rowC l)), (List.range i).map (upN (rowC m)), upN (rowC l) i, upN (rowC m) i)) (lg l.length) _ rfl ?_ ?_ (by omega) hz
  ·intro i hi
   have h1 := A_len l m hN1 hN hlm i (by omega); have h2 := B_len l m hN1 hN hlm i (by omega); have h3 := w_eq l m hN1 hN hlm i hi; have h4 := wle i
   have h5 : 0 < 2 ^ (lg l.length - 1 - i) := Nat.pow_pos (by omega)
   dsimp only
   rw [cd_pos (by omega), bs (app_ok (by simp; omega)), bs (app_ok (by simp; omega)), bs (p67 _ (by omega)), bs (p67 _ (by omega)), List.range_succ, List.map_append, List.map_append]; rfl
  ·dsimp only; rw [cd_neg (by omega)]
 have refl : ∀ r : BB × Bool, (l = m -> r = (([], [], ()), false)) -> ((iter (outer (stepR ((List.range (lg l.length)).map (upN (rowC l))) ((List.range (lg l.length)).map (upN (rowC m))))) (((lg l.length : Nat) : Int) - 1, [], [], ())).bind
  fun (y : OI) => sumE y (fun (x : BB) => some ((([], [], ()), false) : BB × Bool)) fun (x : Bool × BB) => some (x.2, x.1)) = some r ->
  f32 l m = some r := fun r h1 h2 => by
  rw [e32, t32, cd_neg (by omega), bs (p65 l m (by omega) hlm)]
  by_cases e : l = m
  ·rw [decide_eq_true e, h1 e]; rfl
  ·rw [decide_eq_false e]
   refine bt (a := false) ?_ ?_
   ·rw [cb_f, bs (p38 l (by omega)), bs (p38 m (by omega)), decide_eq_true hr]; rfl
   ·rw [cb_f, bs (p66 l (by omega)), bs (p66 m (by omega))]
    refine loop _ _ ?_
    dsimp only
    have e : subI ((((List.range (lg l.length)).map (upN (rowC l))).length : Nat) : Int) 1 = ((lg l.length : Nat) : Int) - 1 := by rw [List.length_map, List.length_range, subI_ok (by omega) (by omega)]
    rw [e]
    exact h2
 obtain ⟨T, T1, T2, T3⟩ := stop (fun t => t < lg l.length ∧ ∀ i, i < 2 ^ (lg l.length - 1 - (lg l.length - 1 - t)) -> ¬ dif l m (lg l.length - 1 - t) i) (lg l.length) (fun h => absurd h.1 (by omega))
 by_cases c : T = lg l.length
 ·subst c
  have hno : ∀ j, j < lg l.length -> ∀ i, i < 2 ^ (lg l.length - 1 - j) -> ¬ dif l m j i := fun j hj i hi => by
   have := (T2 (lg l.length - 1 - j) (by omega)).2
   rw [show lg l.length - 1 - (lg l.length - 1 - j) = j by omega] at this
   exact this i hi
  refine ⟨(([], [], ()), false), bnd0, real0, ?_, ?_⟩
  ·exact bt (srch_none (step := stepP (rowsC l) (rowsC m)) (by omega) hw hsP hbP heP hno ([], [], ())) rfl
  ·exact refl _ (fun _ => rfl) (bt (srch_none (step := stepR _ _) (by omega) hw hsR hbR heR (fun j hj i hi h => hno j hj i hi (sam_dif j i h)) ([], [], ())) rfl)
 ·have hT : T < lg l.length := by omega
  generalize hJ : lg l.length - 1 - T = J at *
  have hJK : J < lg l.length := by omega
  obtain ⟨I, I1, I2, I3⟩ := stop (fun i => i < 2 ^ (lg l.length - 1 - J) ∧ ¬ dif l m J i) (2 ^ (lg l.length - 1 - J)) (fun h => absurd h.1 (by omega))
  have hI : I < 2 ^ (lg l.length - 1 - J) := by
   rcases Nat.lt_or_ge I (2 ^ (lg l.length - 1 - J)) with h | h
   ·exact h
   ·refine absurd ⟨hT, fun i hi => ?_⟩ T3
    exact (I2 i (by omega)).2
  have hd : dif l m J I := Classical.not_not.1 fun h => I3 ⟨hI, h⟩
  have hab : ∀ j, J < j -> j < lg l.length -> ∀ i, i < 2 ^ (lg l.length - 1 - j) -> ¬ dif l m j i := fun j h1 h2 i hi => by
   have := (T2 (lg l.length - 1 - j) (by omega)).2
   rw [show lg l.length - 1 - (lg l.length - 1 - j) = j by omega] at this
   exact this i hi
  have hup : upN (rowC l) (J+1) = upN (rowC m) (J+1) := by
   by_cases e : J + 1 = lg l.length
   ·rw [e]
    apply List.ext_getElem (by omega); intro t h1 h2
    have ht : t = 0 := by omega
    subst ht
    rw [← hrl, ← hrm] at hr
    simpa [List.getD_eq_getElem?_getD, h1, h2] using hr
   ·exact row_eq l m hN1 hN hlm (J+1) (by omega) (hab (J+1) (by omega) (by omega))
  have hq : sam l m J I := by
   refine ⟨fun e => hd (nodeT_inj e), ?_⟩
   have h1 := A_len l m hN1 hN hlm J (by omega); have h2 := B_len l m hN1 hN hlm J (by omega); have h3 := w_eq l m hN1 hN hlm J hJK
   rw [node_up l m hN1 hN hlm l J I (by omega), node_up l m hN1 hN hlm m J I (by omega)]
   unfold pA; rw [hup]
  refine ⟨(brk l m J I, true), ⟨nodeT_len _ _, nodeT_len _ _⟩, fun _ => hq, ?_, ?_⟩
  ·exact bt (srch_bad (step := stepP (rowsC l) (rowsC m)) (by omega) hw hsP hbP heP J I hJK hI hd hab (fun i hi => (I2 i hi).2) ([], [], ())) rfl
  ·refine refl _ (fun e => ?_) (bt (srch_bad (step := stepR _ _) (by omega) hw hsR hbR heR J I hJK hI hq (fun j h1 h2 i hi h => hab j h1 h2 i hi (sam_dif j i h)) (fun i hi h => (I2 i hi).2 (sam_dif J i h)) ([], [], ())) rfl)
   subst e; exact absurd ⟨rfl, rfl⟩ hd
end
end Mx
end
section
open Go Go.Proofs Ev
namespace Mx
theorem nets_le {c : Nat} (hc : c < 1000000) : ∀ (l : List B), (∀ b ∈ l, b.length <= c) -> (nets l).length <= l.length * (c + 8)
 | [], _ => by simp [nets]
 | b :: l, h => by
  have h1 := nets_le hc l fun d hd => h d (List.mem_cons_of_mem _ hd)
  have h2 := h b List.mem_cons_self
  have h3 := net_len b (by omega)
  rw [nets_cons, List.length_append, List.length_cons, Nat.succ_mul]; omega
theorem packC_le (k n z g : Nat) (c s : H) : (packC k n z g c s).length <= 240 := by
 have := nets_le (c := 32) (by omega) (rowsU k n z g c s) (rowsU_len k n z g c s)
 simpa [packC, rowsU] using this
theorem text_inj {t p q : B} (h : text t [p] = text t [q]) (hp : p.length <= 16384) (hq : q.length <= 16384) : p = q := by
 have := nets_uniq [p] [q] rfl (fun c hc => by rw [List.mem_singleton.1 hc]; exact hp) (fun c hc => by rw [List.mem_singleton.1 hc]; exact hq) (List.append_cancel_left h)
 injection this
theorem p96z : f96 [] = some (rowsC []) := by rw [e96_0, t96_0, bs p90p]; simp [rowsC, rowC, upN, lg, padN, List.range_succ]
theorem p48z (b : B) (hb : b.length <= 256) : f48 b = some (crypt b) := by
 rcases Nat.eq_zero_or_pos b.length with h | h
 ·obtain rfl := List.length_eq_zero_iff.1 h
  rw [e48, t48, bs (p55 [] (by simp)), bs (map_loop f56 leaf _ (fun c hc => p56 c (by have := segs_mem hc; omega)) (by simp [segs, nseg]))]
  show (f87 []).bind _ = _
  rw [e87, t87, bs p96z]
  simp [rowsC, rowC, upN, lg, padN, subI, w64, crypt, segs, nseg, root, List.range_succ]
  rfl
 ·exact p48 b h hb
abbrev Cp := Int × Vector UInt8 16 × Vector UInt8 32 × Int × Int × Int × List UInt8 × Unit
theorem segs_at (b : B) (i : Nat) (h : i < nseg b.length) : ∃ s, at? (segs b) (i : Int) = some s ∧ (segs b).getD i [] = s ∧ s.length <= 64 :=
 ⟨(segs b).getD i [], at_gd (by simpa using h) [], rfl, by
  have hl : i < (segs b).length := by simpa using h
  rw [List.getD_eq_getElem?_getD, List.getElem?_eq_getElem hl]; exact segs_mem (List.getElem_mem hl)⟩
theorem tl1 (t b : B) (hb : b.length < 100000) (ht : t.length < 100000) : (text t [b]).length < 1000000000 := by
 have := text_len (sh1 b hb).1 ht; simp at this; omega
section
variable (C : Cp) (a b : U) (p q x y : B) (ha1 : f47 a = some p) (ha2 : f27 a = some p) (hb1 : f47 b = some q) (hb2 : f27 b = some q) (lp : p.length <= 240) (lq : q.length <= 240) (hxl : x.length <= 192) (hyl : y.length <= 192)
include ha1 ha2 hb1 hb2 lp lq hxl hyl
theorem p22g : ∃ r, bnd r ∧ real r ∧ f22 C a b x y = some r ∧ f11 C a b x y = some r := by
 rw [e22, t22, e11, t11, bs ha1, bs hb1, bs ha2, bs hb2]
 generalize C.2.2.2.2.2.1 = size
 have no : ∀ {f g : Bool -> Option (BB × Bool)}, f true = some (([], [], ()), false) -> g true = some (([], [], ()), false) -> ∀ {o o' : Option Bool}, o = some true -> o' = some true -> ∃ r, bnd r ∧ real r ∧ o.bind f = some r ∧ o'.bind g = some r := fun hf hg o o' ho ho' => ⟨_, bnd0, real0, (bs ho).trans hf, (bs ho').trans hg⟩
 by_cases d1 : (x.length : Int) = size
 rotate_left
 ·exact no rfl rfl (by rw [cd_pos (by omega)]) (by rw [cd_pos (by omega)])
 by_cases d2 : (y.length : Int) = size
 rotate_left
 ·exact no rfl rfl (by rw [cd_neg (by omega), cd_pos (by omega)]) (by rw [cd_neg (by omega), cd_pos (by omega)])
 by_cases d3 : uebH p = C.2.2.1
 rotate_left
 ·refine no rfl rfl ?_ ?_
  ·rw [cd_neg (by omega), cd_neg (by omega), bs (p49 p (by omega)), decide_eq_false d3]; rfl
  ·rw [cd_neg (by omega), cd_neg (by omega), bs (p18 p (by omega)), decide_eq_false d3]; rfl
 by_cases d4 : uebH q = C.2.2.1
 rotate_left
 ·refine no rfl rfl ?_ ?_
  ·rw [cd_neg (by omega), cd_neg (by omega), bs (p49 p (by omega)), decide_eq_true d3, cn_t, bs (p49 q (by omega)), decide_eq_false d4]; rfl
  ·rw [cd_neg (by omega), cd_neg (by omega), bs (p18 p (by omega)), decide_eq_true d3, cn_t, bs (p18 q (by omega)), decide_eq_false d4]; rfl
 have first : ∀ {f : Bool -> Option (BB × Bool)} {r : Option (BB × Bool)}, f false = r -> ((bif decide ((↑x.length : Int) ≠ size) then some true
  else
   bif decide ((↑y.length : Int) ≠ size) then some true
   else
    (f49 p).bind fun (r : Vector UInt8 32) =>
     bif !decide (r = C.2.2.1) then some true else (f49 q).bind fun (r : Vector UInt8 32) => some !decide (r = C.2.2.1)).bind f) = r := fun hf => by
  rw [cd_neg (by omega), cd_neg (by omega), bs (p49 p (by omega)), decide_eq_true d3, cn_t, bs (p49 q (by omega)), decide_eq_true d4]; exact hf
 have ref1 : ∀ (o : Option Bool), (f28 x).bind (fun (r : Vector UInt8 32) => bif !decide (r = a.2.2.2.2.1) then some true else (f28 y).bind fun (r : Vector UInt8 32) => bif !decide (r = b.2.2.2.2.1) then some true else some (decide (x = y))) = o ->
  (bif decide ((↑x.length : Int) ≠ size) then some true
   else
    bif decide ((↑y.length : Int) ≠ size) then some true
    else
     (f18 p).bind fun (r : Vector UInt8 32) =>
      bif !decide (r = C.2.2.1) then some true
      else
       (f18 q).bind fun (r : Vector UInt8 32) =>
        bif !decide (r = C.2.2.1) then some true
        else
         (f28 x).bind fun (r : Vector UInt8 32) =>
          bif !decide (r = a.2.2.2.2.1) then some true
          else
           (f28 y).bind fun (r : Vector UInt8 32) =>
            bif !decide (r = b.2.2.2.2.1) then some true else some (decide (x = y))) = o := fun o ho => by
  rw [cd_neg (by omega), cd_neg (by omega), bs (p18 p (by omega)), decide_eq_true d3, cn_t, bs (p18 q (by omega)), decide_eq_true d4, cn_t]; exact ho
 have hx := p48z x (by omega); have hy := p48z y (by omega)
 have hx' := p28 x (by omega); have hy' := p28 y (by omega)
 by_cases d5 : crypt x = a.2.2.2.2.1
 rotate_left
 ·refine ⟨(([], [], ()), false), bnd0, real0, first ?_, bt (a := true) (ref1 _ ?_) rfl⟩
  ·rw [cb_f]
   refine bt (a := true) ?_ rfl
   rw [bs hx]; show (bif !decide (crypt x = a.2.2.2.2.1) then _ else _) = _; rw [decide_eq_false d5]; rfl
  ·rw [bs hx', decide_eq_false d5]; rfl
 by_cases d6 : crypt y = b.2.2.2.2.1
 rotate_left
 ·refine ⟨(([], [], ()), false), bnd0, real0, first ?_, bt (a := true) (ref1 _ ?_) rfl⟩
  ·rw [cb_f]
   refine bt (a := true) ?_ rfl
   rw [bs hx]; show (bif !decide (crypt x = a.2.2.2.2.1) then _ else _) = _
   rw [decide_eq_true d5, cn_t, bs hy]; show (bif !decide (crypt y = b.2.2.2.2.1) then _ else _) = _; rw [decide_eq_false d6]; rfl
  ·rw [bs hx', decide_eq_true d5, cn_t, bs hy', decide_eq_false d6]; rfl
 by_cases d7 : x = y
 ·refine ⟨(([], [], ()), false), bnd0, real0, first ?_, bt (a := true) (ref1 _ ?_) rfl⟩
  ·rw [cb_f]
   refine bt (a := true) ?_ rfl
   rw [bs hx]; show (bif !decide (crypt x = a.2.2.2.2.1) then _ else _) = _
   rw [decide_eq_true d5, cn_t, bs hy]; show (bif !decide (crypt y = b.2.2.2.2.1) then _ else _) = _; rw [decide_eq_true d6, cn_t, e21, t21, decide_eq_true d7]; rfl
  ·rw [bs hx', decide_eq_true d5, cn_t, bs hy', decide_eq_true d6, cn_t, decide_eq_true d7]
 have okP : ((f48 x).bind fun (r : Vector UInt8 32) =>
  bif !decide (r = a.2.2.2.2.1) then some true
  else
   (f48 y).bind fun (r : Vector UInt8 32) =>
    bif !decide (r = b.2.2.2.2.1) then some true else (f21 x y).bind fun (r : Bool) => some r) = some false := by
  rw [bs hx]; show (bif !decide (crypt x = a.2.2.2.2.1) then _ else _) = _
  rw [decide_eq_true d5, cn_t, bs hy]; show (bif !decide (crypt y = b.2.2.2.2.1) then _ else _) = _; rw [decide_eq_true d6, cn_t, e21, t21, decide_eq_false d7]; rfl
 have okR : ((f28 x).bind fun (r : Vector UInt8 32) => bif !decide (r = a.2.2.2.2.1) then some true else (f28 y).bind fun (r : Vector UInt8 32) => bif !decide (r = b.2.2.2.2.1) then some true else some (decide (x = y))) = some false := by
  rw [bs hx', decide_eq_true d5, cn_t, bs hy', decide_eq_true d6, cn_t, decide_eq_false d7]
 have t3 : ∀ b : B, b.length < 100000 -> Short [b] := fun b hb => sh1 b hb
 by_cases d8 : p = q
 rotate_left
 ·refine ⟨((text [117, 101, 98] [p], text [117, 101, 98] [q], ()), true), ⟨tl1 _ p (by omega) (by simp), tl1 _ q (by omega) (by simp)⟩, fun _ => ⟨fun e => d8 (text_inj e (by omega) (by omega)), d3.trans d4.symm⟩, first ?_, bt (a := false) (ref1 _ okR) ?_⟩
  ·rw [cb_f]
   refine bt okP ?_
   rw [cb_f, e21, t21, Option.bind_some, decide_eq_false d8, cn_f, bs (p54 _ _ (t3 p (by omega)) (by simp)), bs (p54 _ _ (t3 q (by omega)) (by simp))]
  ·rw [cb_f, cd_pos d8, bs (p29 _ _ (t3 p (by omega)) (by simp)), bs (p29 _ _ (t3 q (by omega)) (by simp))]
 have hxy : x.length = y.length := by omega
 have hx1 : 1 <= x.length := by
  rcases Nat.eq_zero_or_pos x.length with h | h
  ·exact absurd ((List.length_eq_zero_iff.1 h).trans (List.length_eq_zero_iff.1 (by omega)).symm) d7
  ·exact h
 have hn : nseg x.length = nseg y.length := by rw [hxy]
 have hn3 : 1 <= nseg x.length ∧ nseg x.length <= 3 := by unfold nseg; omega
 obtain ⟨k, kl, ka, kb⟩ := stop (fun i => i < nseg x.length ∧ ¬ ((segs x).getD i [] ≠ (segs y).getD i [] ∧ leaf ((segs x).getD i []) = leaf ((segs y).getD i []))) (nseg x.length) (fun h => absurd h.1 (by omega))
 have chkP : ∀ i : Nat, i < nseg x.length -> ((at? (segs x) (i : Int)).bind fun (y_1 : List UInt8) =>
  (at? (segs y) (i : Int)).bind fun (y_2 : List UInt8) =>
   (f21 y_1 y_2).bind fun (r_4 : Bool) =>
    bif !r_4 then
     (at? (segs x) (i : Int)).bind fun (y_1 : List UInt8) =>
      (f56 y_1).bind fun (r : Vector UInt8 32) =>
       (at? (segs y) (i : Int)).bind fun (y_1 : List UInt8) =>
        (f56 y_1).bind fun (r_5 : Vector UInt8 32) => some (decide (r = r_5))
    else some false) = some (decide ((segs x).getD i [] ≠ (segs y).getD i [] ∧ leaf ((segs x).getD i []) = leaf ((segs y).getD i []))) := fun i hi => by
  obtain ⟨S, a1, a2, a3⟩ := segs_at x i hi
  obtain ⟨T, b1, b2, b3⟩ := segs_at y i (by omega)
  rw [a2, b2, bs a1, bs b1, e21, t21, Option.bind_some]
  by_cases e : S = T
  ·rw [decide_eq_true e, cn_t, decide_eq_false (show ¬ (S ≠ T ∧ leaf S = leaf T) from fun h => h.1 e)]
  ·rw [decide_eq_false e, cn_f, bs a1, bs (p56 S (by omega)), bs b1, bs (p56 T (by omega))]
   by_cases g : leaf S = leaf T
   ·rw [decide_eq_true g, decide_eq_true (show S ≠ T ∧ leaf S = leaf T from ⟨e, g⟩)]
   ·rw [decide_eq_false g, decide_eq_false (show ¬ (S ≠ T ∧ leaf S = leaf T) from fun h => g h.2)]
 have chkR : ∀ i : Nat, i < nseg x.length -> ((at? (segs x) (i : Int)).bind fun (y_1 : List UInt8) =>
  (at? (segs y) (i : Int)).bind fun (y_2 : List UInt8) =>
   bif decide (y_1 ≠ y_2) then
    (at? (segs x) (i : Int)).bind fun (y_1 : List UInt8) =>
     (f31 y_1).bind fun (r : Vector UInt8 32) =>
      (at? (segs y) (i : Int)).bind fun (y_1 : List UInt8) =>
       (f31 y_1).bind fun (r_3 : Vector UInt8 32) => some (decide (r = r_3))
   else some false) = some (decide ((segs x).getD i [] ≠ (segs y).getD i [] ∧ leaf ((segs x).getD i []) = leaf ((segs y).getD i []))) := fun i hi => by
  obtain ⟨S, a1, a2, a3⟩ := segs_at x i hi
  obtain ⟨T, b1, b2, b3⟩ := segs_at y i (by omega)
  rw [a2, b2, bs a1, bs b1]
  by_cases e : S = T
  ·rw [cd_neg (fun h => h e), decide_eq_false (show ¬ (S ≠ T ∧ leaf S = leaf T) from fun h => h.1 e)]
  ·rw [cd_pos e, bs a1, bs (p31 S (by omega)), bs b1, bs (p31 T (by omega))]
   by_cases g : leaf S = leaf T
   ·rw [decide_eq_true g, decide_eq_true (show S ≠ T ∧ leaf S = leaf T from ⟨e, g⟩)]
   ·rw [decide_eq_false g, decide_eq_false (show ¬ (S ≠ T ∧ leaf S = leaf T) from fun h => g h.2)]
 obtain ⟨rU, hU0, hU3, hU1, hU2⟩ := p57_32 (leavesC x) (leavesC y) (by simp [leavesC]; omega) (by simp [leavesC]; omega) (by simp [leavesC]; omega)
 have hlx : ∀ c ∈ segs x, c.length < 100000 := fun c hc => by have := segs_mem hc; omega
 have hly : ∀ c ∈ segs y, c.length < 100000 := fun c hc => by have := segs_mem hc; omega
 by_cases ck : k = nseg x.length
 ·refine ⟨rU, hU0, hU3, first ?_, bt (a := false) (ref1 _ okR) ?_⟩
  ·rw [cb_f]
   refine bt okP ?_
   rw [cb_f, e21, t21, Option.bind_some, decide_eq_true d8, cn_t, bs (p55 x (by omega)), bs (p55 y (by omega))]
   refine it_bind (fun i => ((i : Int), [], [], ())) k (.inl ([], [], ())) rfl ?_ ?_ (by omega) ?_
   ·intro i hi
    dsimp only
    rw [cd_pos (by simp; omega), bs (chkP i (by omega)), decide_eq_false (ka i hi).2, cb_f, addI_1 (by omega)]
   ·dsimp only
    rw [cd_neg (by simp; omega)]
   ·dsimp only [sumE]
    rw [bs (p58 x (by omega)), bs (p58 y (by omega)), bs hU1]
  ·rw [cb_f, cd_neg (fun h => h d8), bs (p30 x (by omega)), bs (p30 y (by omega))]
   refine it_bind (fun i => ((i : Int), [], [], ())) k (.inl ([], [], ())) rfl ?_ ?_ (by omega) ?_
   ·intro i hi
    dsimp only
    rw [cd_pos (by simp; omega), bs (chkR i (by omega)), decide_eq_false (ka i hi).2, cb_f, addI_1 (by omega)]
   ·dsimp only
    rw [cd_neg (by simp; omega)]
   ·dsimp only [sumE]
    rw [bs (p33 (segs x) hlx (by simp; omega)), bs (p33 (segs y) hly (by simp; omega))]
    exact bt hU2 rfl
 ·have hk' : k < nseg x.length := by omega
  have hD : ((segs x).getD k [] ≠ (segs y).getD k [] ∧ leaf ((segs x).getD k []) = leaf ((segs y).getD k [])) := Classical.not_not.1 fun h => kb ⟨hk', h⟩
  obtain ⟨S, a1, a2, a3⟩ := segs_at x k hk'
  obtain ⟨T, b1, b2, b3⟩ := segs_at y k (by omega)
  refine ⟨((text [108, 101, 97, 102] [S], text [108, 101, 97, 102] [T], ()), true), ⟨tl1 _ S (by omega) (by simp), tl1 _ T (by omega) (by simp)⟩, fun _ => ⟨fun e => hD.1 (by rw [a2, b2]; exact text_inj e (by omega) (by omega)), by have := hD.2; rw [a2, b2] at this; exact this⟩, first ?_, bt (a := false) (ref1 _ okR) ?_⟩
  ·rw [cb_f]
   refine bt okP ?_
   rw [cb_f, e21, t21, Option.bind_some, decide_eq_true d8, cn_t, bs (p55 x (by omega)), bs (p55 y (by omega))]
   refine it_bind (fun i => ((i : Int), [], [], ())) k (.inr (true, text [108, 101, 97, 102] [S], text [108, 101, 97, 102] [T], ())) rfl ?_ ?_ (by omega) rfl
   ·intro i hi
    dsimp only
    rw [cd_pos (by simp; omega), bs (chkP i (by omega)), decide_eq_false (ka i hi).2, cb_f, addI_1 (by omega)]
   ·dsimp only
    rw [cd_pos (by simp; omega), bs (chkP k hk'), decide_eq_true hD, cb_t, bs a1, bs (p54 _ _ (t3 S (by omega)) (by simp)), bs b1, bs (p54 _ _ (t3 T (by omega)) (by simp))]
  ·rw [cb_f, cd_neg (fun h => h d8), bs (p30 x (by omega)), bs (p30 y (by omega))]
   refine it_bind (fun i => ((i : Int), [], [], ())) k (.inr (true, text [108, 101, 97, 102] [S], text [108, 101, 97, 102] [T], ())) rfl ?_ ?_ (by omega) rfl
   ·intro i hi
    dsimp only
    rw [cd_pos (by simp; omega), bs (chkR i (by omega)), decide_eq_false (ka i hi).2, cb_f, addI_1 (by omega)]
   ·dsimp only
    rw [cd_pos (by simp; omega), bs (chkR k hk'), decide_eq_true hD, cb_t, bs a1, bs (p29 _ _ (t3 S (by omega)) (by simp)), bs b1, bs (p29 _ _ (t3 T (by omega)) (by simp))]
end
end Mx
end
section
open Go Go.Proofs Ev
namespace Mx
theorem p5 (b : B) (n : Nat) : f5 b (n : Int) = some (b.take n) := by
 rw [e5, t5, minI_nat]
 have h : cut? b 0 ((min b.length n : Nat) : Int) = some ((b.drop 0).take (min b.length n - 0)) := cut_nat (a := 0) (by omega) (by omega)
 rw [bs h, List.drop_zero, Nat.sub_zero]
 congr 1
 by_cases c : n <= b.length
 ·rw [Nat.min_eq_right c]
 ·rw [Nat.min_eq_left (by omega), List.take_of_length_le (Nat.le_refl _), List.take_of_length_le (by omega)]
theorem p4 (b : B) : f4 b = some (9 :: b.take 140) := by
 have h := p5 b 140
 rw [e4, t4]
 show (f5 b ((140 : Nat) : Int)).bind _ = _
 rw [bs h, bs (app_ok (by simp; omega))]; rfl
theorem p8 (b : B) (h : b.length <= 4294967296) : f8 b = some b := by rw [e8, t8, bs (fits_ok h)]
theorem p13 (a : B) (h : a.length < 1000000000) : f13 a a = some true := by
 rw [e13, t13, cd_neg (by omega)]
 refine it_bind (fun i => (i : Int)) a.length (.inl ()) rfl ?_ ?_ (by omega) rfl
 ·intro i hi
  rw [cd_pos (by omega), bs (at_gd hi 0), bs (at_gd hi 0), cd_neg (fun h => h rfl), addI_1 (by omega)]
 ·rw [cd_neg (by omega)]
section
variable {k n : Nat} {b : B} (key : V16) (h1 : 1 <= k) (h2 : k <= n) (h3 : n <= 4) (hb1 : 1 <= b.length) (hb : b.length <= 192)
include h1 h2 h3 hb1 hb
end
end Mx
end
