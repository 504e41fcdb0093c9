/- Plain laws of shares and explanations: both sides come to the same. No conditions. -/
import Derived.Test.YtedblfoeicnobaaGreatDoorK
import Derived.Test.YtedblfoeicnobaaGreatDoorL
import Derived.Test.YtedblfoeicnobaaGreatDoorN
import Derived.Test.YtedblfoeicnobaaGreatDoorM
import Derived.Test.YtedblfoeicnobaaGreatDoorO
import Derived.Test.YtedblfoeicnobaaGreatDoorG
set_option linter.unusedVariables false
set_option linter.unusedSimpArgs false
set_option linter.unusedSectionVars false
set_option maxRecDepth 100000
section
open Go Go.Proofs Ev Sx
namespace Mx
theorem m117_11 : E117 (t150 t80) t151 [[1]] [[1]] = some [[1]] := by kernel_rfl
theorem m117_21 : E117 (t150 t80) t151 [[1], [1]] [[1]] = some [[1], [1]] := by kernel_rfl
theorem m117_22 : E117 (t150 t80) t151 [[1, 0], [1, 1]] [[1, 0], [1, 1]] = some [[1, 0], [0, 1]] := by kernel_rfl
theorem m117_31 : E117 (t150 t80) t151 [[1], [1], [1]] [[1]] = some [[1], [1], [1]] := by kernel_rfl
theorem m117_32 : E117 (t150 t80) t151 [[1, 0], [1, 1], [1, 2]] [[1, 0], [1, 1]] = some [[1, 0], [0, 1], [3, 2]] := by kernel_rfl
theorem m117_33 : E117 (t150 t80) t151 [[1, 0, 0], [1, 1, 1], [1, 2, 4]] [[1, 0, 0], [143, 245, 122], [142, 244, 122]] = some [[1, 0, 0], [0, 1, 0], [0, 0, 1]] := by kernel_rfl
theorem m117_41 : E117 (t150 t80) t151 [[1], [1], [1], [1]] [[1]] = some [[1], [1], [1], [1]] := by kernel_rfl
theorem m117_42 : E117 (t150 t80) t151 [[1, 0], [1, 1], [1, 2], [1, 3]] [[1, 0], [1, 1]] = some [[1, 0], [0, 1], [3, 2], [2, 3]] := by kernel_rfl
theorem m117_43 : E117 (t150 t80) t151 [[1, 0, 0], [1, 1, 1], [1, 2, 4], [1, 3, 5]] [[1, 0, 0], [143, 245, 122], [142, 244, 122]] = some [[1, 0, 0], [0, 1, 0], [0, 0, 1], [1, 1, 1]] := by kernel_rfl
theorem m117_44 : E117 (t150 t80) t151 [[1, 0, 0, 0], [1, 1, 1, 1], [1, 2, 4, 8], [1, 3, 5, 15]] [[1, 0, 0, 0], [123, 1, 142, 244], [0, 122, 244, 142], [122, 122, 122, 122]] = some [[1, 0, 0, 0], [0, 1, 0, 0], [0, 0, 1, 0], [0, 0, 0, 1]] := by kernel_rfl
end Mx
end
section
open Go Go.Proofs Ev
namespace Mx
def MT (k n : Nat) : List B := match k, n with
 | 1, 1 => [[1]]
 | 1, 2 => [[1], [1]]
 | 2, 2 => [[1, 0], [0, 1]]
 | 1, 3 => [[1], [1], [1]]
 | 2, 3 => [[1, 0], [0, 1], [3, 2]]
 | 3, 3 => [[1, 0, 0], [0, 1, 0], [0, 0, 1]]
 | 1, 4 => [[1], [1], [1], [1]]
 | 2, 4 => [[1, 0], [0, 1], [3, 2], [2, 3]]
 | 3, 4 => [[1, 0, 0], [0, 1, 0], [0, 0, 1], [1, 1, 1]]
 | 4, 4 => [[1, 0, 0, 0], [0, 1, 0, 0], [0, 0, 1, 0], [0, 0, 0, 1]]
 | _, _ => []
theorem n83_11 : f83 1 1 = some (some (1, 1, [[1]], ()), 0) := by
 rw [e83, t83]
 refine bt (a := false) rfl ?_
 rw [cb_f, bs ((k120 1 1).trans v120_11)]
 refine bt (a := [[1]]) rfl ?_
 rw [bs ((k121 [[1]]).trans i121_1), bs ((k122 [[1]] [[1]]).trans m122_11)]
theorem n79_11 : f79 1 1 = some [[1]] := by
 rw [e79, t79, bs ((k115 1 1).trans v115_11)]
 refine bt (a := [[1]]) rfl ?_
 rw [bs ((k116 [[1]]).trans i116_1), bs ((k117 [[1]] [[1]]).trans m117_11)]
theorem n83_12 : f83 1 2 = some (some (1, 2, [[1], [1]], ()), 0) := by
 rw [e83, t83]
 refine bt (a := false) rfl ?_
 rw [cb_f, bs ((k120 2 1).trans v120_21)]
 refine bt (a := [[1]]) rfl ?_
 rw [bs ((k121 [[1]]).trans i121_1), bs ((k122 [[1], [1]] [[1]]).trans m122_21)]
theorem n79_12 : f79 1 2 = some [[1], [1]] := by
 rw [e79, t79, bs ((k115 2 1).trans v115_21)]
 refine bt (a := [[1]]) rfl ?_
 rw [bs ((k116 [[1]]).trans i116_1), bs ((k117 [[1], [1]] [[1]]).trans m117_21)]
theorem n83_22 : f83 2 2 = some (some (2, 2, [[1, 0], [0, 1]], ()), 0) := by
 rw [e83, t83]
 refine bt (a := false) rfl ?_
 rw [cb_f, bs ((k120 2 2).trans v120_22)]
 refine bt (a := [[1, 0], [1, 1]]) rfl ?_
 rw [bs ((k121 [[1, 0], [1, 1]]).trans i121_2), bs ((k122 [[1, 0], [1, 1]] [[1, 0], [1, 1]]).trans m122_22)]
theorem n79_22 : f79 2 2 = some [[1, 0], [0, 1]] := by
 rw [e79, t79, bs ((k115 2 2).trans v115_22)]
 refine bt (a := [[1, 0], [1, 1]]) rfl ?_
 rw [bs ((k116 [[1, 0], [1, 1]]).trans i116_2), bs ((k117 [[1, 0], [1, 1]] [[1, 0], [1, 1]]).trans m117_22)]
theorem n83_13 : f83 1 3 = some (some (1, 3, [[1], [1], [1]], ()), 0) := by
 rw [e83, t83]
 refine bt (a := false) rfl ?_
 rw [cb_f, bs ((k120 3 1).trans v120_31)]
 refine bt (a := [[1]]) rfl ?_
 rw [bs ((k121 [[1]]).trans i121_1), bs ((k122 [[1], [1], [1]] [[1]]).trans m122_31)]
theorem n79_13 : f79 1 3 = some [[1], [1], [1]] := by
 rw [e79, t79, bs ((k115 3 1).trans v115_31)]
 refine bt (a := [[1]]) rfl ?_
 rw [bs ((k116 [[1]]).trans i116_1), bs ((k117 [[1], [1], [1]] [[1]]).trans m117_31)]
theorem n83_23 : f83 2 3 = some (some (2, 3, [[1, 0], [0, 1], [3, 2]], ()), 0) := by
 rw [e83, t83]
 refine bt (a := false) rfl ?_
 rw [cb_f, bs ((k120 3 2).trans v120_32)]
 refine bt (a := [[1, 0], [1, 1]]) rfl ?_
 rw [bs ((k121 [[1, 0], [1, 1]]).trans i121_2), bs ((k122 [[1, 0], [1, 1], [1, 2]] [[1, 0], [1, 1]]).trans m122_32)]
theorem n79_23 : f79 2 3 = some [[1, 0], [0, 1], [3, 2]] := by
 rw [e79, t79, bs ((k115 3 2).trans v115_32)]
 refine bt (a := [[1, 0], [1, 1]]) rfl ?_
 rw [bs ((k116 [[1, 0], [1, 1]]).trans i116_2), bs ((k117 [[1, 0], [1, 1], [1, 2]] [[1, 0], [1, 1]]).trans m117_32)]
theorem n83_33 : f83 3 3 = some (some (3, 3, [[1, 0, 0], [0, 1, 0], [0, 0, 1]], ()), 0) := by
 rw [e83, t83]
 refine bt (a := false) rfl ?_
 rw [cb_f, bs ((k120 3 3).trans v120_33)]
 refine bt (a := [[1, 0, 0], [1, 1, 1], [1, 2, 4]]) rfl ?_
 rw [bs ((k121 [[1, 0, 0], [1, 1, 1], [1, 2, 4]]).trans i121_3), bs ((k122 [[1, 0, 0], [1, 1, 1], [1, 2, 4]] [[1, 0, 0], [143, 245, 122], [142, 244, 122]]).trans m122_33)]
theorem n79_33 : f79 3 3 = some [[1, 0, 0], [0, 1, 0], [0, 0, 1]] := by
 rw [e79, t79, bs ((k115 3 3).trans v115_33)]
 refine bt (a := [[1, 0, 0], [1, 1, 1], [1, 2, 4]]) rfl ?_
 rw [bs ((k116 [[1, 0, 0], [1, 1, 1], [1, 2, 4]]).trans i116_3), bs ((k117 [[1, 0, 0], [1, 1, 1], [1, 2, 4]] [[1, 0, 0], [143, 245, 122], [142, 244, 122]]).trans m117_33)]
theorem n83_14 : f83 1 4 = some (some (1, 4, [[1], [1], [1], [1]], ()), 0) := by
 rw [e83, t83]
 refine bt (a := false) rfl ?_
 rw [cb_f, bs ((k120 4 1).trans v120_41)]
 refine bt (a := [[1]]) rfl ?_
 rw [bs ((k121 [[1]]).trans i121_1), bs ((k122 [[1], [1], [1], [1]] [[1]]).trans m122_41)]
theorem n79_14 : f79 1 4 = some [[1], [1], [1], [1]] := by
 rw [e79, t79, bs ((k115 4 1).trans v115_41)]
 refine bt (a := [[1]]) rfl ?_
 rw [bs ((k116 [[1]]).trans i116_1), bs ((k117 [[1], [1], [1], [1]] [[1]]).trans m117_41)]
theorem n83_24 : f83 2 4 = some (some (2, 4, [[1, 0], [0, 1], [3, 2], [2, 3]], ()), 0) := by
 rw [e83, t83]
 refine bt (a := false) rfl ?_
 rw [cb_f, bs ((k120 4 2).trans v120_42)]
 refine bt (a := [[1, 0], [1, 1]]) rfl ?_
 rw [bs ((k121 [[1, 0], [1, 1]]).trans i121_2), bs ((k122 [[1, 0], [1, 1], [1, 2], [1, 3]] [[1, 0], [1, 1]]).trans m122_42)]
theorem n79_24 : f79 2 4 = some [[1, 0], [0, 1], [3, 2], [2, 3]] := by
 rw [e79, t79, bs ((k115 4 2).trans v115_42)]
 refine bt (a := [[1, 0], [1, 1]]) rfl ?_
 rw [bs ((k116 [[1, 0], [1, 1]]).trans i116_2), bs ((k117 [[1, 0], [1, 1], [1, 2], [1, 3]] [[1, 0], [1, 1]]).trans m117_42)]
theorem n83_34 : f83 3 4 = some (some (3, 4, [[1, 0, 0], [0, 1, 0], [0, 0, 1], [1, 1, 1]], ()), 0) := by
 rw [e83, t83]
 refine bt (a := false) rfl ?_
 rw [cb_f, bs ((k120 4 3).trans v120_43)]
 refine bt (a := [[1, 0, 0], [1, 1, 1], [1, 2, 4]]) rfl ?_
 rw [bs ((k121 [[1, 0, 0], [1, 1, 1], [1, 2, 4]]).trans i121_3), bs ((k122 [[1, 0, 0], [1, 1, 1], [1, 2, 4], [1, 3, 5]] [[1, 0, 0], [143, 245, 122], [142, 244, 122]]).trans m122_43)]
theorem n79_34 : f79 3 4 = some [[1, 0, 0], [0, 1, 0], [0, 0, 1], [1, 1, 1]] := by
 rw [e79, t79, bs ((k115 4 3).trans v115_43)]
 refine bt (a := [[1, 0, 0], [1, 1, 1], [1, 2, 4]]) rfl ?_
 rw [bs ((k116 [[1, 0, 0], [1, 1, 1], [1, 2, 4]]).trans i116_3), bs ((k117 [[1, 0, 0], [1, 1, 1], [1, 2, 4], [1, 3, 5]] [[1, 0, 0], [143, 245, 122], [142, 244, 122]]).trans m117_43)]
theorem n83_44 : f83 4 4 = some (some (4, 4, [[1, 0, 0, 0], [0, 1, 0, 0], [0, 0, 1, 0], [0, 0, 0, 1]], ()), 0) := by
 rw [e83, t83]
 refine bt (a := false) rfl ?_
 rw [cb_f, bs ((k120 4 4).trans v120_44)]
 refine bt (a := [[1, 0, 0, 0], [1, 1, 1, 1], [1, 2, 4, 8], [1, 3, 5, 15]]) rfl ?_
 rw [bs ((k121 [[1, 0, 0, 0], [1, 1, 1, 1], [1, 2, 4, 8], [1, 3, 5, 15]]).trans i121_4), bs ((k122 [[1, 0, 0, 0], [1, 1, 1, 1], [1, 2, 4, 8], [1, 3, 5, 15]] [[1, 0, 0, 0], [123, 1, 142, 244], [0, 122, 244, 142], [122, 122, 122, 122]]).trans m122_44)]
theorem n79_44 : f79 4 4 = some [[1, 0, 0, 0], [0, 1, 0, 0], [0, 0, 1, 0], [0, 0, 0, 1]] := by
 rw [e79, t79, bs ((k115 4 4).trans v115_44)]
 refine bt (a := [[1, 0, 0, 0], [1, 1, 1, 1], [1, 2, 4, 8], [1, 3, 5, 15]]) rfl ?_
 rw [bs ((k116 [[1, 0, 0, 0], [1, 1, 1, 1], [1, 2, 4, 8], [1, 3, 5, 15]]).trans i116_4), bs ((k117 [[1, 0, 0, 0], [1, 1, 1, 1], [1, 2, 4, 8], [1, 3, 5, 15]] [[1, 0, 0, 0], [123, 1, 142, 244], [0, 122, 244, 142], [122, 122, 122, 122]]).trans m117_44)]
theorem kn_cases {k n : Nat} (h1 : 1 <= k) (h2 : k <= n) (h3 : n <= 4) {P : Nat -> Nat -> Prop} (h : P 1 1 ∧ P 1 2 ∧ P 2 2 ∧ P 1 3 ∧ P 2 3 ∧ P 3 3 ∧ P 1 4 ∧ P 2 4 ∧ P 3 4 ∧ P 4 4) : P k n := by
 obtain ⟨h11, h12, h22, h13, h23, h33, h14, h24, h34, h44⟩ := h
 have : n = 1 ∨ n = 2 ∨ n = 3 ∨ n = 4 := by omega
 rcases this with rfl | rfl | rfl | rfl
 ·have : k = 1 := by omega
  subst this; assumption
 ·have : k = 1 ∨ k = 2 := by omega
  rcases this with rfl | rfl <;> assumption
 ·have : k = 1 ∨ k = 2 ∨ k = 3 := by omega
  rcases this with rfl | rfl | rfl <;> assumption
 ·have : k = 1 ∨ k = 2 ∨ k = 3 ∨ k = 4 := by omega
  rcases this with rfl | rfl | rfl | rfl <;> assumption
theorem p83 {k n : Nat} (h1 : 1 <= k) (h2 : k <= n) (h3 : n <= 4) : f83 k n = some (some ((k : Int), (n : Int), MT k n, ()), 0) :=
 kn_cases (P := fun k n => f83 k n = some (some ((k : Int), (n : Int), MT k n, ()), 0)) h1 h2 h3 ⟨n83_11, n83_12, n83_22, n83_13, n83_23, n83_33, n83_14, n83_24, n83_34, n83_44⟩
theorem p79 {k n : Nat} (h1 : 1 <= k) (h2 : k <= n) (h3 : n <= 4) : f79 k n = some (MT k n) :=
 kn_cases (P := fun k n => f79 k n = some (MT k n)) h1 h2 h3 ⟨n79_11, n79_12, n79_22, n79_13, n79_23, n79_33, n79_14, n79_24, n79_34, n79_44⟩
def okM (k n : Nat) : Bool := decide ((MT k n).length = n) && (MT k n).all fun m => decide (m.length = k) && m.all fun c => decide (c.toNat < 4)
theorem okM_all {k n : Nat} (h1 : 1 <= k) (h2 : k <= n) (h3 : n <= 4) : okM k n = true := kn_cases (P := fun k n => okM k n = true) h1 h2 h3 ⟨rfl, rfl, rfl, rfl, rfl, rfl, rfl, rfl, rfl, rfl⟩
theorem MT_len {k n : Nat} (h1 : 1 <= k) (h2 : k <= n) (h3 : n <= 4) : (MT k n).length = n := by
 have := okM_all h1 h2 h3; unfold okM at this; rw [Bool.and_eq_true] at this; exact of_decide_eq_true this.1
theorem MT_row {k n : Nat} (h1 : 1 <= k) (h2 : k <= n) (h3 : n <= 4) : ∀ m ∈ MT k n, m.length = k ∧ ∀ c ∈ m, c.toNat < 4 := by
 have := okM_all h1 h2 h3; unfold okM at this; rw [Bool.and_eq_true, List.all_eq_true] at this
 intro m hm
 have := this.2 m hm
 rw [Bool.and_eq_true, List.all_eq_true] at this
 exact ⟨of_decide_eq_true this.1, fun c hc => of_decide_eq_true (this.2 c hc)⟩
end Mx
end
section
open Go Go.Proofs Ev
namespace Mx
theorem p123 (b : B) (k : Nat) (hk : 1 <= k) (hk2 : k <= 1000) (hb : b.length <= 1000000) : f123 b (k : Int) = some (padK b k) := by
 have hz := padZ_lt b.length k hk
 have hm : maxI (k : Int) 1 = (k : Int) := by unfold maxI; split <;> omega
 rw [e123, t123, bs (fits_ok (by omega)), hm]
 refine it_bind (fun i => b ++ List.replicate i 0) (padZ b.length k) (padK b k) (by simp) ?_ ?_ (by omega) rfl
 ·intro i hi
  have hne := padZ_ne _ _ _ hk hi
  have e1 : remI ((b ++ List.replicate i (0:UInt8)).length : Int) (k : Int) = _ := remI_nat (a := (b ++ List.replicate i (0:UInt8)).length) (b := k) (by omega)
  have hl : (b ++ List.replicate i (0:UInt8)).length = b.length + i := by simp
  rw [hl] at e1
  rw [hl, bs e1, cd_pos (by omega), bs (app_ok (by rw [hl]; simp; omega)), rep_add, List.append_assoc]
 ·have h0 := padZ_ok b.length k hk
  have e1 : remI ((b ++ List.replicate (padZ b.length k) (0:UInt8)).length : Int) (k : Int) = _ := remI_nat (a := (b ++ List.replicate (padZ b.length k) (0:UInt8)).length) (b := k) (by omega)
  have hl : (b ++ List.replicate (padZ b.length k) (0:UInt8)).length = b.length + padZ b.length k := by simp
  rw [hl] at e1
  rw [hl, bs e1, cd_neg (by omega)]; rfl
theorem p78 (b : B) (k : Nat) (hk : 1 <= k) (hk2 : k <= 1000) (hb : b.length <= 1000000) : f78 b (k : Int) = some (padK b k) := by
 have e : f78 b (k : Int) = f123 b (k : Int) := by rw [e78, e123]; rfl
 rw [e, p123 b k hk hk2 hb]
def encC (M : List B) (k : Nat) (s : B) : List B := M.map (encR (padK s k) ((padK s k).length / k) k)
theorem padK_le (b : B) (k : Nat) (hk : 1 <= k) : (padK b k).length <= b.length + k := by
 have := padZ_lt b.length k hk; simp [padK]; omega
theorem p84 (M : List B) (k n : Nat) (s : B) (hk : 1 <= k) (hk4 : k <= 4) (hM : ∀ m ∈ M, m.length = k) (h1 : 1 <= M.length) (h4 : M.length <= 4) (hs : s.length <= 10000) :
 f84 ((k : Int), (n : Int), M, ()) s = some (encC M k s) := by
 have hpl := pad_len s k hk
 have hle := padK_le s k hk
 have hq : quoI ((padK s k).length : Int) (k : Int) = some (((padK s k).length / k : Nat) : Int) := quoI_nat (by omega) (by omega)
 rw [e84, t84, bs (p123 s k hk (by omega) (by omega)), bs hq]
 unfold encC
 generalize padK s k = p at *
 generalize hL : p.length / k = L at *
 refine it_bind (fun i => ((List.range i).map fun i => (p.drop (L * i)).take L, (i : Int))) k ((List.range k).map fun i => (p.drop (L * i)).take L) rfl ?_ ?_ (by omega) ?_
 ·intro i hi
  have h2 : L * (i + 1) <= L * k := Nat.mul_le_mul_left L hi
  have hkl : k * L = L * k := Nat.mul_comm _ _
  have hlt : L * i <= L * (i + 1) := Nat.mul_le_mul_left L (by omega)
  have e1 : mulI (L : Int) (i : Int) = ((L * i : Nat) : Int) := by
   have hc : (L : Int) * (i : Int) = ((L * i : Nat) : Int) := by simp
   rw [mulI_ok (by rw [hc]; omega) (by rw [hc]; omega), hc]
  have e2 : mulI (L : Int) ((i + 1 : Nat) : Int) = ((L * (i + 1) : Nat) : Int) := by
   have hc : (L : Int) * ((i + 1 : Nat) : Int) = ((L * (i + 1) : Nat) : Int) := by simp
   rw [mulI_ok (by rw [hc]; omega) (by rw [hc]; omega), hc]
  dsimp only
  rw [cd_pos (by omega), addI_1 (by omega), e1, e2, bs (cut_nat hlt (by omega)), bs (app_ok (by simp; omega)), show L * (i + 1) - L * i = L by rw [Nat.mul_succ]; omega, List.range_succ, List.map_append]; rfl
 ·dsimp only; rw [cd_neg (by omega)]
 ·dsimp only
  rw [bs (p124 p L k hk hpl (by omega) M hM h1 h4)]
theorem p36 (M : List B) (k n : Nat) (s : B) (hMn : M.length = n) (h79 : f79 (k : Int) (n : Int) = some M) (hk : 1 <= k) (hk4 : k <= 4) (hM : ∀ m ∈ M, m.length = k ∧ ∀ c ∈ m, c.toNat < 4) (h4 : M.length <= 4) (hs : s.length <= 10000) :
 f36 s (k : Int) (n : Int) = some (encC M k s) := by
 have hpl := pad_len s k hk
 have hle := padK_le s k hk
 have hq : quoI ((padK s k).length : Int) (k : Int) = some (((padK s k).length / k : Nat) : Int) := quoI_nat (by omega) (by omega)
 rw [e36, t36, bs (p78 s k hk (by omega) (by omega)), bs hq, bs h79]
 unfold encC
 generalize padK s k = p at *
 generalize hL : p.length / k = L at *
 have hLp : L <= p.length := by rw [hpl]; exact Nat.le_mul_of_pos_right L hk
 refine it_bind (fun i => ((M.take i).map (encR p L k), (i : Int))) n (M.map (encR p L k)) (by simp) ?_ ?_ (by omega) rfl
 ·intro i hi
  have him : i < M.length := by omega
  obtain ⟨hml, hmc⟩ := hM M[i] (List.getElem_mem him)
  dsimp only
  rw [cd_pos (by omega), bs (zeros_ok (by omega))]
  refine it_bind (fun j => ((j : Int), (List.range L).map fun t => xf (fun j => mulT (M[i].getD j 0) (p.getD (L * j + t) 0)) j)) k (encR p L k M[i]) ?_ ?_ ?_ (by omega) ?_
  ·refine pe rfl ?_
   apply List.ext_getElem?; intro t; simp [List.getElem?_replicate, xf]; split <;> simp_all
  ·intro j hj
   dsimp only
   rw [cd_pos (by omega)]
   have hjL : L * (j + 1) <= L * k := Nat.mul_le_mul_left L hj
   have hkl : L * k = p.length := hpl.symm
   rw [Nat.mul_succ] at hjL
   have e1 : mulI (j : Int) (L : Int) = ((L * j : Nat) : Int) := by
    have hc : (j : Int) * (L : Int) = ((L * j : Nat) : Int) := by simp [Int.mul_comm]
    rw [mulI_ok (by rw [hc]; omega) (by rw [hc]; omega), hc]
   refine it_bind (fun x => ((x : Int), (List.range L).map fun t => xf (fun j => mulT (M[i].getD j 0) (p.getD (L * j + t) 0)) (if t < x then j + 1 else j))) L ((List.range L).map fun t => xf (fun j => mulT (M[i].getD j 0) (p.getD (L * j + t) 0)) (j + 1)) ?_ ?_ ?_ (by omega) ?_
   ·refine pe rfl ?_
    congr 1
   ·intro x hx
    have hjm : j < M[i].length := by omega
    have hc4 : (M[i].getD j 0).toNat < 4 := by
     rw [List.getD_eq_getElem?_getD, List.getElem?_eq_getElem hjm]; exact hmc _ (List.getElem_mem hjm)
    dsimp only
    rw [cd_pos (by omega), if_pos (by simp; omega), bs (at_lt him), bs (at_gd hjm 0), e1, addI_nat (by omega), bs (at_gd (by omega) 0), bs (p80 _ _ hc4), if_pos (by simp; omega), addI_1 (by omega), Int.toNat_natCast, gd_range _ _ _ _ hx, if_neg (by omega), set_map]
    refine some_inl (pe rfl ?_)
    congr 1; funext t
    by_cases c : t = x
    ·subst c; rw [if_pos rfl, if_pos (by omega)]; rfl
    ·rw [if_neg c]
     by_cases d : t < x
     ·rw [if_pos d, if_pos (by omega)]
     ·rw [if_neg d, if_neg (by omega)]
   ·dsimp only
    rw [cd_neg (by omega)]
    refine some_inr ?_
    apply List.map_congr_left; intro t ht
    rw [if_pos (List.mem_range.1 ht)]
   ·rw [addI_1 (by omega)]
  ·dsimp only; rw [cd_neg (by omega)]; rfl
  ·rw [bs (app_ok (by simp; omega)), addI_1 (by omega), tk M i him, List.map_append]; rfl
 ·dsimp only; rw [cd_neg (by omega), ← hMn, List.take_length]
end Mx
end
section
open Go Go.Proofs Ev
namespace Mx
theorem xorI_nat {a b : Nat} (ha : a < 4611686018427387904) (hb : b < 4611686018427387904) : xorI (a : Int) (b : Int) = ((a ^^^ b : Nat) : Int) := by
 have h := Nat.xor_lt_two_pow (n := 62) (x := a) (y := b) (by omega) (by omega)
 unfold xorI
 rw [BitVec.ofInt_natCast, BitVec.ofInt_natCast, BitVec.toNat_xor, BitVec.toNat_ofNat, BitVec.toNat_ofNat, Nat.mod_eq_of_lt (by omega), Nat.mod_eq_of_lt (by omega), w64_ok (by omega) (by omega)]
theorem xorI_1 {a : Nat} (ha : a < 4611686018427387904) : xorI (a : Int) 1 = ((a ^^^ 1 : Nat) : Int) := xorI_nat (b := 1) ha (by omega)
theorem quoI_2 {a : Nat} (ha : a < 4611686018427387904) : quoI (a : Int) 2 = some ((a / 2 : Nat) : Int) := quoI_nat (b := 2) (by omega) (by omega)
noncomputable def proofC (l : List H) (i : Nat) (k : Nat) : List H := (List.range k).map fun j => (upN (rowC l) j).getD ((i / 2 ^ j) ^^^ 1) default
theorem half_lt (i c j : Nat) (h : i < 2 ^ c) (hj : j < c) : (i / 2 ^ j) ^^^ 1 < 2 ^ (c - j) := by
 refine Nat.xor_lt_two_pow ?_ ?_
 ·rw [Nat.div_lt_iff_lt_mul (Nat.pow_pos (by omega)), ← Nat.pow_add, show c - j + j = c by omega]; exact h
 ·have : 2 ^ 1 <= 2 ^ (c - j) := Nat.pow_le_pow_right (by omega) (by omega)
  omega
theorem div_small (i j : Nat) (h : i <= 1000) : i / 2 ^ j <= 1000 := Nat.le_trans (Nat.div_le_self _ _) h
theorem p39 (l : List H) (i : Nat) (hl : l.length <= 16) (hi : i < l.length) : f39 (i : Int) l = some (proofC l i (lg l.length)) := by
 have h4 := lg_le l.length
 have hg := lg_ge l.length hl
 have hrl := rowC_len l hl
 rw [e39, t39, bs (p66 l hl)]
 refine it_bind (fun j => (((i / 2 ^ j : Nat) : Int), proofC l i j, upN (rowC l) j)) (lg l.length) (proofC l i (lg l.length)) (by simp [proofC, upN]) ?_ ?_ (by omega) rfl
 ·intro j hj
  have hu := upN_len (rowC l) (lg l.length) hrl j (by omega)
  have h6 : 2 ^ 1 <= 2 ^ (lg l.length - j) := Nat.pow_le_pow_right (by omega) (by omega)
  have h16 := pow16 h4 j
  have hx := half_lt i (lg l.length) j (by omega) hj
  have hd := div_small i j (by omega)
  dsimp only
  rw [cd_pos (by omega), xorI_1 (by omega), bs (at_gd (by omega) default), bs (app_ok (by simp [proofC]; omega)), bs (quoI_2 (by omega)), bs (p67 _ (by omega))]
  refine some_inl (pe ?_ (pe ?_ rfl))
  ·rw [Nat.div_div_eq_div_mul, Nat.pow_succ]
  ·rw [proofC, proofC, List.range_succ, List.map_append]; rfl
 ·have hu := upN_len (rowC l) (lg l.length) hrl (lg l.length) (Nat.le_refl _)
  rw [Nat.sub_self] at hu
  dsimp only; rw [cd_neg (by omega)]
theorem p86 (l : List H) (i : Nat) (hl : l.length <= 4) (hi : i < l.length) : f86 (i : Int) l = some (proofC l i (lg l.length), 0) := by
 have h4 := lg_le l.length
 have hg := lg_ge l.length (by omega)
 have hrl := rowC_len l (by omega)
 rw [e86, t86, cd_neg (by omega), decide_eq_false (show ¬ (l.length : Int) <= (i : Int) by omega)]
 refine bt (a := false) rfl ?_
 rw [cb_f, bs (p96 l (by omega) hl), rowsC_len, subI_ok (by omega) (by omega), show ((lg l.length + 1 : Nat) : Int) - 1 = ((lg l.length : Nat) : Int) by omega]
 have hc : cut? (rowsC l) 0 ((lg l.length : Nat) : Int) = some (((rowsC l).drop 0).take (lg l.length - 0)) := cut_nat (a := 0) (by omega) (by rw [rowsC_len]; omega)
 rw [bs hc, List.drop_zero, Nat.sub_zero]
 have hlen : ((rowsC l).take (lg l.length)).length = lg l.length := by rw [List.length_take, rowsC_len]; omega
 have hat : ∀ j : Nat, j < lg l.length -> at? ((rowsC l).take (lg l.length)) (j : Int) = some (upN (rowC l) j) := fun j hj => by
  rw [at_nat, List.getElem?_take, if_pos hj, ← at_nat, rowsC_at l j (by omega)]
 refine it_bind (fun j => (((i / 2 ^ j : Nat) : Int), proofC l i j, (j : Int))) (lg l.length) (proofC l i (lg l.length)) (by simp [proofC]) ?_ ?_ (by omega) rfl
 ·intro j hj
  have hu := upN_len (rowC l) (lg l.length) hrl j (by omega)
  have hx := half_lt i (lg l.length) j (by omega) hj
  have hd := div_small i j (by omega)
  dsimp only
  rw [hlen, cd_pos (by omega), bs (hat j hj), xorI_1 (by omega), bs (at_gd (by omega) default), bs (app_ok (by simp [proofC]; omega)), bs (quoI_2 (by omega)), addI_1 (by omega)]
  refine some_inl (pe ?_ (pe ?_ rfl))
  ·rw [Nat.div_div_eq_div_mul, Nat.pow_succ]
  ·rw [proofC, proofC, List.range_succ, List.map_append]; rfl
 ·dsimp only; rw [hlen, cd_neg (by omega)]
theorem stepsI_ok {R : Type} (e : List B) : ∀ (m i : Nat) (K : List B -> Option R), i + m = e.length -> stepsI e m i K = K (e.drop i)
 | 0, i, K, h => by rw [stepsI, cd_neg (by omega), List.drop_eq_nil_of_le (by omega)]
 | m + 1, i, K, h => by rw [stepsI, cd_pos (by omega), bs (at_lt (show i < e.length by omega)), stepsI_ok e m (i+1) _ (by omega), List.drop_eq_getElem_cons (show i < e.length by omega)]
theorem stepsR_ok {R : Type} (e : List B) : ∀ (m i : Nat) (K : List B -> Option R), i + m = e.length -> stepsR e m i K = K (e.drop i)
 | 0, i, K, h => by rw [stepsR, List.drop_eq_nil_of_le (by omega)]
 | m + 1, i, K, h => by rw [stepsR, bs (at_lt (show i < e.length by omega)), stepsR_ok e m (i+1) _ (by omega), List.drop_eq_getElem_cons (show i < e.length by omega)]
theorem segsI_ok {R : Type} {st : List B -> (List B -> Option R) -> Option R} {enc : B -> (List B -> Option R) -> Option R} (E : B -> List B) (ss : List B) (h : ∀ s ∈ ss, ∀ K, enc s K = K (E s)) (h2 : ∀ s ∈ ss, ∀ K, st (E s) K = K (E s)) :
 ∀ (q j : Nat) (K : List (List B) -> Option R), j + q = ss.length -> segsI st enc ss q j K = K ((ss.drop j).map E)
 | 0, j, K, hq => by rw [segsI, cd_neg (by omega), List.drop_eq_nil_of_le (by omega)]; rfl
 | q + 1, j, K, hq => by
  have hj : j < ss.length := by omega
  rw [segsI, cd_pos (by omega), bs (at_lt hj), h _ (List.getElem_mem hj), h2 _ (List.getElem_mem hj), segsI_ok E ss h h2 q (j+1) _ (by omega), List.drop_eq_getElem_cons hj]; rfl
theorem segsI_no {R : Type} {st : List B -> (List B -> Option R) -> Option R} {enc : B -> (List B -> Option R) -> Option R} (E : B -> List B) (ss : List B) (h : ∀ s ∈ ss, ∀ K, enc s K = K (E s)) (h2 : ∀ s ∈ ss, ∀ K, st (E s) K = K (E s)) :
 ∀ (q j : Nat) (K : List (List B) -> Option R), j + q < ss.length -> segsI st enc ss q j K = none
 | 0, j, K, hq => by rw [segsI, cd_pos (by omega)]
 | q + 1, j, K, hq => by
  have hj : j < ss.length := by omega
  rw [segsI, cd_pos (by omega), bs (at_lt hj), h _ (List.getElem_mem hj), h2 _ (List.getElem_mem hj), segsI_no E ss h h2 q (j+1) _ (by omega)]
theorem leafS_ok {R : Type} (y : ShT -> Option H32) (rows : List (List B)) (g : Nat -> H) (N : Nat) (h : ∀ i, i < N -> y (numOf rows i, [], [], blkOf rows i, ()) = some (g i)) :
 ∀ (m i : Nat) (K : List H32 -> Option R), i + m = N -> leafS y rows m i K = K ((List.range' i m).map g)
 | 0, i, K, hm => rfl
 | m + 1, i, K, hm => by rw [leafS, bs (h i (by omega)), leafS_ok y rows g N h m (i+1) _ (by omega)]; rfl
theorem endI_ok (y86 : Int -> List H32 -> Option (List H32 × Int)) (ls : List H32) (rows : List (List B)) (N : Nat) (h : ∀ i : Nat, i < N -> ∃ p, y86 (i : Int) ls = some p) :
 ∀ (m i : Nat), i + m = N -> ∃ l : List ShT, l.length = m ∧ ∀ (R : Type) (K : List ShT -> Option R), endI y86 ls rows m i K = K l
 | 0, i, _ => ⟨[], rfl, fun R K => rfl⟩
 | m + 1, i, hm => by
  obtain ⟨p, hp⟩ := h i (by omega)
  obtain ⟨l, h1, h2⟩ := endI_ok y86 ls rows N h m (i+1) (by omega)
  exact ⟨(numOf rows i, [], p.1, blkOf rows i, ()) :: l, by simp [h1], fun R K => by rw [endI, bs hp, h2]⟩
theorem endR_ok (y27 : UT -> Option (List UInt8)) (y39 : Int -> List H32 -> Option (List H32)) (u : UT) (b : B) (hu : y27 u = some b) (ls : List H32) (rows : List (List B)) (N : Nat) (h : ∀ i : Nat, i < N -> ∃ p, y39 (i : Int) ls = some p) :
 ∀ (m i : Nat), i + m = N -> ∃ l : List ShT, l.length = m ∧ (∀ s ∈ l, s.2.1 = b) ∧ ∀ (R : Type) (K : List ShT -> Option R), endR y27 y39 u ls rows m i K = K l
 | 0, i, _ => ⟨[], rfl, (fun s hs => by simp at hs), (fun R K => rfl)⟩
 | m + 1, i, hm => by
  obtain ⟨p, hp⟩ := h i (by omega)
  obtain ⟨l, h1, h3, h2⟩ := endR_ok y27 y39 u b hu ls rows N h m (i+1) (by omega)
  refine ⟨(numOf rows i, b, p, blkOf rows i, ()) :: l, by simp [h1], fun s hs => ?_, fun R K => by rw [endR, bs hu, bs hp, h2]⟩
  rcases List.mem_cons.1 hs with rfl | hs
  ·rfl
  ·exact h3 s hs
end Mx
end
section
open Go Go.Proofs Ev
namespace Mx
def rowsS (k n : Nat) (b : B) : List (List B) := (segs b).map (encC (MT k n) k)
noncomputable def lvS (k n : Nat) (b : B) : List H := (List.range n).map fun i => root ((blkOf (rowsS k n b) i).map leaf)
noncomputable def rootS (k n : Nat) (b : B) : H := root (lvS k n b)
theorem rowsS_len (k n : Nat) (b : B) : (rowsS k n b).length = nseg b.length := by simp [rowsS]
theorem encC_len (M : List B) (k : Nat) (s : B) : (encC M k s).length = M.length := by simp [encC]
theorem enc_small {M : List B} {k : Nat} {s : B} (hk : 1 <= k) (hk4 : k <= 4) (hs : s.length <= 64) : ∀ c ∈ encC M k s, c.length <= 100 := by
 intro c hc
 simp only [encC, List.mem_map] at hc
 obtain ⟨m, _, rfl⟩ := hc
 have := padK_le s k hk
 have h2 : (padK s k).length / k <= (padK s k).length := Nat.div_le_self _ _
 simp [encR]; omega
section
variable {k n : Nat} {b : B} (h1 : 1 <= k) (h2 : k <= n) (h3 : n <= 4) (hb1 : 1 <= b.length) (hb : b.length <= 192)
include h1 h2 h3 hb1 hb
theorem nseg13 : 1 <= nseg b.length ∧ nseg b.length <= 3 := by unfold nseg; omega
theorem blk_small (i : Nat) (hi : i < n) : ∀ c ∈ blkOf (rowsS k n b) i, c.length <= 100 := by
 intro c hc
 simp only [blkOf, rowsS, List.mem_map, List.map_map, Function.comp] at hc
 obtain ⟨s, hs, rfl⟩ := hc
 have hl : i < (encC (MT k n) k s).length := by rw [encC_len, MT_len h1 h2 h3]; exact hi
 refine enc_small (M := MT k n) h1 (by omega) (segs_mem hs) _ ?_
 rw [List.getD_eq_getElem?_getD, List.getElem?_eq_getElem hl]
 exact List.getElem_mem hl
theorem blk_len (i : Nat) : (blkOf (rowsS k n b) i).length = nseg b.length := by simp [blkOf, rowsS_len]
theorem lv_len : (lvS k n b).length = n := by simp [lvS]
theorem q46 : (∃ l : List ShT, l.length = n ∧ t46 f55 f83 f84 f85 f86 f87 b (k : Int) n (nseg b.length) = some (l, rootS k n b)) ∧ ∀ q, q < nseg b.length -> t46 f55 f83 f84 f85 f86 f87 b (k : Int) n q = none := by
 have hns := nseg13 h1 h2 h3 hb1 hb
 have hMl := MT_len h1 h2 h3
 have hrow := MT_row h1 h2 h3
 have henc : ∀ {R : Type}, ∀ s ∈ segs b, ∀ K : List B -> Option R, ((some ((k : Int), (n : Int), MT k n, ())) : Option _).bind (fun c => (f84 c s).bind K) = K (encC (MT k n) k s) := fun s hs K => by
  have := segs_mem hs
  rw [Option.bind_some, bs (p84 (MT k n) k n s h1 (by omega) (fun m hm => (hrow m hm).1) (by omega) (by omega) (by omega))]
 have hst : ∀ {R : Type}, ∀ s ∈ segs b, ∀ K : List B -> Option R, stepsI (encC (MT k n) k s) n 0 K = K (encC (MT k n) k s) := fun s hs K => by
  rw [stepsI_ok _ n 0 K (by rw [encC_len]; omega), List.drop_zero]
 have hleaf : ∀ i, i < n -> f85 (numOf (rowsS k n b) i, [], [], blkOf (rowsS k n b) i, ()) = some (root ((blkOf (rowsS k n b) i).map leaf)) := fun i hi => by
  have hbl := blk_len h1 h2 h3 hb1 hb i
  exact p85 (numOf (rowsS k n b) i, [], [], blkOf (rowsS k n b) i, ()) (fun c hc => by have := blk_small h1 h2 h3 hb1 hb i hi c hc; omega) (by dsimp only; omega) (by dsimp only; omega)
 have hlv := lv_len h1 h2 h3 hb1 hb
 obtain ⟨l, hl1, hl2⟩ := endI_ok f86 (lvS k n b) (rowsS k n b) n (fun i hi => ⟨_, p86 (lvS k n b) i (by omega) (by omega)⟩) n 0 (by omega)
 refine ⟨⟨l, hl1, ?_⟩, fun q hq => ?_⟩
 ·rw [t46, bs (p83 h1 h2 h3), bs (p55 b (by omega))]
  dsimp only
  rw [segsI_ok (encC (MT k n) k) (segs b) henc hst _ 0 _ (by simp), List.drop_zero]
  show leafS f85 (rowsS k n b) n 0 _ = _
  rw [leafS_ok f85 (rowsS k n b) _ n hleaf n 0 _ (by omega), ← List.range_eq_range']
  show (endI f86 (lvS k n b) (rowsS k n b) n 0 fun l => (f87 (lvS k n b)).bind fun h => some (l, h)) = _
  rw [hl2, bs (p87 _ (by omega) (by omega))]; rfl
 ·rw [t46, bs (p83 h1 h2 h3), bs (p55 b (by omega))]
  dsimp only
  rw [segsI_no (encC (MT k n) k) (segs b) henc hst _ 0 _ (by simp; omega)]
theorem q16 : (∃ l : List ShT, l.length = n ∧ (∀ s ∈ l, s.2.1 = packC k n b.length 64 (crypt b) (rootS k n b)) ∧ t16 f27 f28 f30 f36 f37 f38 f39 b (k : Int) n (nseg b.length) = some (l, mkU k n b.length 64 (crypt b) (rootS k n b))) ∧ ∀ q, q < nseg b.length -> t16 f27 f28 f30 f36 f37 f38 f39 b (k : Int) n q = none := by
 have hns := nseg13 h1 h2 h3 hb1 hb
 have hMl := MT_len h1 h2 h3
 have hrow := MT_row h1 h2 h3
 have henc : ∀ {R : Type}, ∀ s ∈ segs b, ∀ K : List B -> Option R, (f36 s (k : Int) (n : Int)).bind K = K (encC (MT k n) k s) := fun s hs K => by
  have := segs_mem hs
  rw [bs (p36 (MT k n) k n s hMl (p79 h1 h2 h3) h1 (by omega) hrow (by omega) (by omega))]
 have hst : ∀ {R : Type}, ∀ s ∈ segs b, ∀ K : List B -> Option R, stepsR (encC (MT k n) k s) n 0 K = K (encC (MT k n) k s) := fun s hs K => by
  rw [stepsR_ok _ n 0 K (by rw [encC_len]; omega), List.drop_zero]
 have hleaf : ∀ i, i < n -> f37 (numOf (rowsS k n b) i, [], [], blkOf (rowsS k n b) i, ()) = some (root ((blkOf (rowsS k n b) i).map leaf)) := fun i hi => by
  have hbl := blk_len h1 h2 h3 hb1 hb i
  exact p37 (numOf (rowsS k n b) i, [], [], blkOf (rowsS k n b) i, ()) (fun c hc => by have := blk_small h1 h2 h3 hb1 hb i hi c hc; omega) (by dsimp only; omega)
 have hlv := lv_len h1 h2 h3 hb1 hb
 obtain ⟨l, hl1, hl3, hl2⟩ := endR_ok f27 f39 (mkU k n b.length 64 (crypt b) (rootS k n b)) _ (p27 k n b.length 64 (crypt b) (rootS k n b) (by omega) (by omega) (by omega) (by omega)) (lvS k n b) (rowsS k n b) n (fun i hi => ⟨_, p39 (lvS k n b) i (by omega) (by omega)⟩) n 0 (by omega)
 refine ⟨⟨l, hl1, hl3, ?_⟩, fun q hq => ?_⟩
 ·rw [t16, bs (p30 b (by omega))]
  rw [segsI_ok (encC (MT k n) k) (segs b) henc hst _ 0 _ (by simp), List.drop_zero]
  show leafS f37 (rowsS k n b) n 0 _ = _
  rw [leafS_ok f37 (rowsS k n b) _ n hleaf n 0 _ (by omega), ← List.range_eq_range']
  show (f28 b).bind _ = _
  rw [bs (p28 b (by omega))]
  show (f38 (lvS k n b)).bind _ = _
  rw [bs (p38 _ (by omega))]
  show endR f27 f39 (mkU k n b.length 64 (crypt b) (rootS k n b)) (lvS k n b) (rowsS k n b) n 0 _ = _
  rw [hl2]; rfl
 ·rw [t16, bs (p30 b (by omega))]
  rw [segsI_no (encC (MT k n) k) (segs b) henc hst _ 0 _ (by simp; omega)]
theorem orAll4 {α : Type} (T : Nat -> Option α) (Q : Nat) (v : α) (hq : 1 <= Q ∧ Q <= 3) (hs : T Q = some v) (hn : ∀ q, q < Q -> T q = none) : orAll [T 0, T 1, T 2, T 3] = some v := by
 have : Q = 1 ∨ Q = 2 ∨ Q = 3 := by omega
 rcases this with rfl | rfl | rfl
 ·rw [hn 0 (by omega), hs]; rfl
 ·rw [hn 0 (by omega), hn 1 (by omega), hs]; rfl
 ·rw [hn 0 (by omega), hn 1 (by omega), hn 2 (by omega), hs]; rfl
theorem p46 : ∃ l : List ShT, l.length = n ∧ f46 b (k : Int) (n : Int) = some (l, rootS k n b) := by
 obtain ⟨⟨l, hl, hs⟩, hn⟩ := q46 h1 h2 h3 hb1 hb
 refine ⟨l, hl, ?_⟩
 have key := orAll4 h1 h2 h3 hb1 hb (fun q => t46 f55 f83 f84 f85 f86 f87 b (k : Int) n q) _ _ (nseg13 h1 h2 h3 hb1 hb) hs hn
 rw [← key]
 have : n = 1 ∨ n = 2 ∨ n = 3 ∨ n = 4 := by omega
 rcases this with rfl | rfl | rfl | rfl
 ·exact e46_1 b k
 ·exact e46_2 b k
 ·exact e46_3 b k
 ·exact e46_4 b k
theorem p16 : ∃ l : List ShT, l.length = n ∧ (∀ s ∈ l, s.2.1 = packC k n b.length 64 (crypt b) (rootS k n b)) ∧ f16 b (k : Int) (n : Int) = some (l, mkU k n b.length 64 (crypt b) (rootS k n b)) := by
 obtain ⟨⟨l, hl, hu, hs⟩, hn⟩ := q16 h1 h2 h3 hb1 hb
 refine ⟨l, hl, hu, ?_⟩
 have key := orAll4 h1 h2 h3 hb1 hb (fun q => t16 f27 f28 f30 f36 f37 f38 f39 b (k : Int) n q) _ _ (nseg13 h1 h2 h3 hb1 hb) hs hn
 rw [← key]
 have : n = 1 ∨ n = 2 ∨ n = 3 ∨ n = 4 := by omega
 rcases this with rfl | rfl | rfl | rfl
 ·exact e16_1 b k
 ·exact e16_2 b k
 ·exact e16_3 b k
 ·exact e16_4 b k
end
end Mx
end
section
open Go Go.Proofs Ev
namespace Mx
abbrev BB := List UInt8 × List UInt8 × Unit
abbrev SI := Int × BB
abbrev OI := BB ⊕ (Bool × BB)
abbrev outer (step : Int -> SI -> Option (SI ⊕ OI)) : SI -> Option (SI ⊕ OI) := fun x =>
 bif decide ((0 : Int) <= x.1) then (iter (step x.1) ((0 : Int), x.2)).bind fun (y : OI) =>
  sumE y (fun (x_1 : BB) => some (Sum.inl (subI x.1 (1 : Int), x_1))) fun (x : Bool × BB) => some (Sum.inr (Sum.inr (x.1, x.2)))
 else some (Sum.inr (Sum.inl x.2))
section
variable {step : Int -> SI -> Option (SI ⊕ OI)} {K : Nat} {w : Nat -> Nat} {bad : Nat -> Nat -> Prop} {br : Nat -> Nat -> BB}
 (hK : K <= 1000) (hw : ∀ j, j < K -> w j <= 1000000)
 (hs : ∀ j, j < K -> ∀ i, i < w j -> ∀ z, ¬ bad j i -> step (j : Int) (((2 * i : Nat) : Int), z) = some (.inl (((2 * (i + 1) : Nat) : Int), z)))
 (hb : ∀ j, j < K -> ∀ i, i < w j -> ∀ z, bad j i -> step (j : Int) (((2 * i : Nat) : Int), z) = some (.inr (.inr (true, br j i))))
 (he : ∀ j, j < K -> ∀ z, step (j : Int) (((2 * w j : Nat) : Int), z) = some (.inr (.inl z)))
include hK hw hs hb he
theorem in_none (j : Nat) (hj : j < K) (h : ∀ i, i < w j -> ¬ bad j i) (z : BB) : iter (step (j : Int)) ((0 : Int), z) = some (.inl z) :=
 it_some (fun i => (((2 * i : Nat) : Int), z)) (w j) (.inl z) rfl (fun i hi => hs j hj i hi z (h i hi)) (he j hj z) (by have := hw j hj; omega)
theorem in_bad (j I : Nat) (hj : j < K) (hI : I < w j) (hbad : bad j I) (h : ∀ i, i < I -> ¬ bad j i) (z : BB) : iter (step (j : Int)) ((0 : Int), z) = some (.inr (true, br j I)) :=
 it_some (fun i => (((2 * i : Nat) : Int), z)) I (.inr (true, br j I)) rfl (fun i hi => hs j hj i (by omega) z (h i hi)) (hb j hj I hI z hbad) (by have := hw j hj; omega)
theorem srch_none (h : ∀ j, j < K -> ∀ i, i < w j -> ¬ bad j i) (z : BB) : iter (outer step) ((K : Int) - 1, z) = some (.inl z) := by
 refine it_some (σ := SI) (ω := OI) (fun t => ((K : Int) - 1 - (t : Int), z)) K (Sum.inl z) (by simp) ?_ ?_ (by omega)
 ·intro t ht
  have e : (K : Int) - 1 - (t : Int) = ((K - 1 - t : Nat) : Int) := by omega
  dsimp only [outer]
  rw [e, cd_pos (by omega), bs (in_none hK hw hs hb he (K - 1 - t) (by omega) (h _ (by omega)) z)]
  dsimp only [sumE]
  rw [subI_ok (by omega) (by omega)]
  exact some_inl (pe (by omega) rfl)
 ·dsimp only [outer]
  rw [cd_neg (by omega)]
theorem srch_bad (J I : Nat) (hJ : J < K) (hI : I < w J) (hbad : bad J I) (h : ∀ j, J < j -> j < K -> ∀ i, i < w j -> ¬ bad j i) (h' : ∀ i, i < I -> ¬ bad J i) (z : BB) : iter (outer step) ((K : Int) - 1, z) = some (.inr (true, br J I)) := by
 refine it_some (σ := SI) (ω := OI) (fun t => ((K : Int) - 1 - (t : Int), z)) (K - 1 - J) (Sum.inr (true, br J I)) (by simp) ?_ ?_ (by omega)
 ·intro t ht
  have e : (K : Int) - 1 - (t : Int) = ((K - 1 - t : Nat) : Int) := by omega
  dsimp only [outer]
  rw [e, cd_pos (by omega), bs (in_none hK hw hs hb he (K - 1 - t) (by omega) (h _ (by omega) (by omega)) z)]
  dsimp only [sumE]
  rw [subI_ok (by omega) (by omega)]
  exact some_inl (pe (by omega) rfl)
 ·have e : (K : Int) - 1 - ((K - 1 - J : Nat) : Int) = (J : Int) := by omega
  dsimp only [outer]
  rw [e, cd_pos (by omega), bs (in_bad hK hw hs hb he J I hJ hI hbad h' z)]; rfl
end
theorem nodeT_inj {a b c d : H} (h : nodeT a b = nodeT c d) : a = c ∧ b = d := by
 unfold nodeT text at h
 have h2 := List.append_cancel_left h
 have := nets_uniq [a.toList, b.toList] [c.toList, d.toList] rfl (fun x hx => by simp at hx; rcases hx with rfl | rfl <;> simp) (fun x hx => by simp at hx; rcases hx with rfl | rfl <;> simp) h2
 simp only [List.cons.injEq, and_true] at this
 exact ⟨Vector.toList_inj.1 this.1, Vector.toList_inj.1 this.2⟩
theorem p65 (l m : List H) (hl : l.length <= 1000000) (he : l.length = m.length) : f65 l m = some (decide (l = m)) := by
 rw [e65, t65, cd_neg (by omega)]
 obtain ⟨k, k1, k2, k3⟩ := stop (fun i => i < l.length ∧ l.getD i default = m.getD i default) l.length (fun h => absurd h.1 (by omega))
 by_cases c : k = l.length
 ·subst c
  have : l = m := by
   apply List.ext_getElem he; intro i h1 h2
   have := (k2 i h1).2
   simpa [List.getD_eq_getElem?_getD, h1, h2] using this
  rw [decide_eq_true this]
  refine it_bind (fun i => (i : Int)) l.length (.inl ()) rfl ?_ ?_ (by omega) rfl
  ·intro i hi
   rw [cd_pos (by omega), bs (at_gd hi default), bs (at_gd (by omega) default), decide_eq_true (k2 i hi).2, addI_1 (by omega)]; rfl
  ·rw [cd_neg (by omega)]
 ·have hne : l.getD k default ≠ m.getD k default := fun e => k3 ⟨by omega, e⟩
  rw [decide_eq_false (fun e => hne (by rw [e]))]
  refine it_bind (fun i => (i : Int)) k (.inr false) rfl ?_ ?_ (by omega) rfl
  ·intro i hi
   rw [cd_pos (by omega), bs (at_gd (by omega) default), bs (at_gd (by omega) default), decide_eq_true (k2 i hi).2, addI_1 (by omega)]; rfl
  ·rw [cd_pos (by omega), bs (at_gd (by omega) default), bs (at_gd (by omega) default), decide_eq_false hne]; rfl
theorem p69 (s t : B) (hs : s.length < 1000000000) (ht : t.length < 1000000000) : f69 (s, t, ()) = some (decide (s ≠ t ∧ sum s = sum t)) := by
 rw [e69, t69]
 by_cases c : s = t
 ·rw [cd_neg (fun h => h c), decide_eq_false (show ¬ (s ≠ t ∧ sum s = sum t) from fun h => h.1 c)]; rfl
 ·rw [cd_pos c, bs (p82 s hs), bs (p82 t ht)]
  by_cases d : sum s = sum t
  ·rw [decide_eq_true d, decide_eq_true (show s ≠ t ∧ sum s = sum t from ⟨c, d⟩)]; rfl
  ·rw [decide_eq_false d, decide_eq_false (show ¬ (s ≠ t ∧ sum s = sum t) from fun h => d h.2)]; rfl
end Mx
end
section
open Go Go.Proofs Ev
namespace Mx
noncomputable def stepP (r r_1 : List (List (Vector UInt8 32))) (j : Int) (x_1 : SI) : Option (SI ⊕ OI) :=
 (at? r j).bind fun (y : List (Vector UInt8 (32 : Nat))) =>
  bif decide (x_1.1 < (↑y.length : Int)) then
   (at? r j).bind fun (y : List (Vector UInt8 (32 : Nat))) =>
    (at? y x_1.1).bind fun (y : Vector UInt8 (32 : Nat)) =>
     (at? r j).bind fun (y_3 : List (Vector UInt8 (32 : Nat))) =>
      (at? y_3 (addI x_1.1 (1 : Int))).bind fun (y_4 : Vector UInt8 (32 : Nat)) =>
       (at? r_1 j).bind fun (y_5 : List (Vector UInt8 (32 : Nat))) =>
        (at? y_5 x_1.1).bind fun (y_6 : Vector UInt8 (32 : Nat)) =>
         (at? r_1 j).bind fun (y_7 : List (Vector UInt8 (32 : Nat))) =>
          (at? y_7 (addI x_1.1 (1 : Int))).bind fun (y_8 : Vector UInt8 (32 : Nat)) =>
           bif
            !decide
             (vecOf (2 : Nat) [y, y_4] (Vector.replicate (32 : Nat) (0 : UInt8)) =
              vecOf (2 : Nat) [y_6, y_8] (Vector.replicate (32 : Nat) (0 : UInt8))) then
            (f97 (vecOf (2 : Nat) [y, y_4] (Vector.replicate (32 : Nat) (0 : UInt8))) (vecOf (2 : Nat) [y_6, y_8] (Vector.replicate (32 : Nat) (0 : UInt8)))).bind
             fun (r : List UInt8 × List UInt8 × Unit) => some (Sum.inr (Sum.inr (true, r)))
           else some (Sum.inl (addI x_1.1 (2 : Int), x_1.2))
  else some (Sum.inr (Sum.inl x_1.2))
noncomputable def stepR (ls ms : List (List (Vector UInt8 32))) (j : Int) (x_1 : SI) : Option (SI ⊕ OI) :=
 if (0 : Int) <= j ∧ j < (↑ls.length : Int) then
  bif decide (addI x_1.1 (1 : Int) < (↑(ls.getD j.toNat []).length : Int)) then
   if (0 : Int) <= j ∧ j < (↑ls.length : Int) then
    (at? (ls.getD j.toNat []) x_1.1).bind fun (y_1 : Vector UInt8 (32 : Nat)) =>
     if (0 : Int) <= j ∧ j < (↑ls.length : Int) then
      (at? (ls.getD j.toNat []) (addI x_1.1 (1 : Int))).bind fun (y_2 : Vector UInt8 (32 : Nat)) =>
       (f68 y_1 y_2).bind fun (r : List UInt8) =>
        if (0 : Int) <= j ∧ j < (↑ms.length : Int) then
         (at? (ms.getD j.toNat []) x_1.1).bind fun (y_3 : Vector UInt8 (32 : Nat)) =>
          if (0 : Int) <= j ∧ j < (↑ms.length : Int) then
           (at? (ms.getD j.toNat []) (addI x_1.1 (1 : Int))).bind fun (y : Vector UInt8 (32 : Nat)) =>
            (f68 y_3 y).bind fun (r_2 : List UInt8) =>
             (f69 (r, r_2, ())).bind fun (r_3 : Bool) =>
              bif r_3 then some (Sum.inr (Sum.inr (true, r, r_2, ())))
              else some (Sum.inl (addI x_1.1 (2 : Int), x_1.2))
          else none
        else none
     else none
   else none
  else some (Sum.inr (Sum.inl x_1.2))
 else none
theorem vec2 {a b c d z : H} : vecOf 2 [a, b] z = vecOf 2 [c, d] z ↔ a = c ∧ b = d := by
 constructor
 ·intro h
  have h0 : (vecOf 2 [a, b] z)[0]?.getD z = (vecOf 2 [c, d] z)[0]?.getD z := by rw [h]
  have h1 : (vecOf 2 [a, b] z)[1]?.getD z = (vecOf 2 [c, d] z)[1]?.getD z := by rw [h]
  exact ⟨h0, h1⟩
 ·rintro ⟨rfl, rfl⟩; rfl
theorem p97 (a b c d : H) : f97 (vecOf 2 [a, b] (Vector.replicate 32 0)) (vecOf 2 [c, d] (Vector.replicate 32 0)) = some (nodeT a b, nodeT c d, ()) := by
 rw [e97, t97]
 show (f130 a b).bind _ = _
 rw [bs (p130 a b)]
 show (f130 c d).bind _ = _
 rw [bs (p130 c d)]
section
variable (l m : List H) (hN1 : 1 <= l.length) (hN : l.length <= 4) (hlm : l.length = m.length)
noncomputable def pA (l : List H) (j i : Nat) : H := (upN (rowC l) j).getD i default
def dif (l m : List H) (j i : Nat) : Prop := ¬ (pA l j (2*i) = pA m j (2*i) ∧ pA l j (2*i+1) = pA m j (2*i+1))
abbrev sam (l m : List H) (j i : Nat) : Prop := nodeT (pA l j (2*i)) (pA l j (2*i+1)) ≠ nodeT (pA m j (2*i)) (pA m j (2*i+1)) ∧ node (pA l j (2*i)) (pA l j (2*i+1)) = node (pA m j (2*i)) (pA m j (2*i+1))
noncomputable def brk (l m : List H) (j i : Nat) : BB := (nodeT (pA l j (2*i)) (pA l j (2*i+1)), nodeT (pA m j (2*i)) (pA m j (2*i+1)), ())
include hN1 hN hlm
theorem A_len (j : Nat) (hj : j <= lg l.length) : (upN (rowC l) j).length = 2 ^ (lg l.length - j) := upN_len _ _ (rowC_len l (by omega)) j hj
theorem B_len (j : Nat) (hj : j <= lg l.length) : (upN (rowC m) j).length = 2 ^ (lg l.length - j) := by
 rw [hlm] at hj ⊢; exact upN_len _ _ (rowC_len m (by omega)) j hj
theorem w_eq (j : Nat) (hj : j < lg l.length) : 2 ^ (lg l.length - j) = 2 * 2 ^ (lg l.length - 1 - j) := by
 rw [show lg l.length - j = (lg l.length - 1 - j) + 1 by omega, Nat.pow_succ]; omega
theorem w_le (j : Nat) : 2 ^ (lg l.length - 1 - j) <= 16 := by
 have := lg_le l.length
 have h : 2 ^ (lg l.length - 1 - j) <= 2 ^ 4 := Nat.pow_le_pow_right (by omega) (by omega)
 omega
theorem stepP_eq (j i : Nat) (hj : j < lg l.length) (hi : i < 2 ^ (lg l.length - 1 - j)) (z : BB) : stepP (rowsC l) (rowsC m) (j : Int) (((2 * i : Nat) : Int), z) =
 bif !decide (vecOf 2 [pA l j (2*i), pA l j (2*i+1)] (Vector.replicate 32 0) = vecOf 2 [pA m j (2*i), pA m j (2*i+1)] (Vector.replicate 32 0)) then some (.inr (.inr (true, brk l m j i))) else some (.inl (((2 * (i + 1) : Nat) : Int), z)) := by
 have h1 := A_len l m hN1 hN hlm j (by omega); have h2 := B_len l m hN1 hN hlm j (by omega); have h3 := w_eq l m hN1 hN hlm j hj; have h4 := w_le l m hN1 hN hlm j
 have hA : at? (rowsC l) (j : Int) = some (upN (rowC l) j) := rowsC_at l j (by omega)
 have hB : at? (rowsC m) (j : Int) = some (upN (rowC m) j) := rowsC_at m j (by rw [← hlm]; omega)
 unfold stepP
 dsimp only
 rw [bs hA, cd_pos (by omega), bs hA, bs (at_gd (by omega) default), bs hA, addI_1 (by omega), bs (at_gd (by omega) default), bs hB, bs (at_gd (by omega) default), bs hB, bs (at_gd (by omega) default), addI_2 (by omega)]
 rw [bs (p97 _ _ _ _)]; rfl
theorem stepR_eq (j i : Nat) (hj : j < lg l.length) (hi : i < 2 ^ (lg l.length - 1 - j)) (z : BB) : stepR ((List.range (lg l.length)).map (upN (rowC l))) ((List.range (lg l.length)).map (upN (rowC m))) (j : Int) (((2 * i : Nat) : Int), z) =
 bif decide (nodeT (pA l j (2*i)) (pA l j (2*i+1)) ≠ nodeT (pA m j (2*i)) (pA m j (2*i+1)) ∧ node (pA l j (2*i)) (pA l j (2*i+1)) = node (pA m j (2*i)) (pA m j (2*i+1))) then some (.inr (.inr (true, brk l m j i))) else some (.inl (((2 * (i + 1) : Nat) : Int), z)) := by
 have h1 := A_len l m hN1 hN hlm j (by omega); have h2 := B_len l m hN1 hN hlm j (by omega); have h3 := w_eq l m hN1 hN hlm j hj; have h4 := w_le l m hN1 hN hlm j
 unfold stepR
 dsimp only
 rw [List.length_map, List.length_map, List.length_range, Int.toNat_natCast, gd_range _ _ _ _ hj, gd_range _ _ _ _ hj, addI_1 (by omega), if_pos (by omega), cd_pos (by omega), if_pos (by omega), bs (at_gd (by omega) default), if_pos (by omega), bs (at_gd (by omega) default), bs (p68 _ _), if_pos (by omega), bs (at_gd (by omega) default), if_pos (by omega), bs (at_gd (by omega) default), bs (p68 _ _), addI_2 (by omega)]
 rw [bs (p69 _ _ (nodeT_len _ _) (nodeT_len _ _))]; rfl
theorem stepP_end (j : Nat) (hj : j < lg l.length) (z : BB) : stepP (rowsC l) (rowsC m) (j : Int) (((2 * 2 ^ (lg l.length - 1 - j) : Nat) : Int), z) = some (.inr (.inl z)) := by
 have h1 := A_len l m hN1 hN hlm j (by omega); have h3 := w_eq l m hN1 hN hlm j hj
 have hA : at? (rowsC l) (j : Int) = some (upN (rowC l) j) := rowsC_at l j (by omega)
 unfold stepP
 dsimp only
 rw [bs hA, cd_neg (by omega)]
theorem stepR_end (j : Nat) (hj : j < lg l.length) (z : BB) : stepR ((List.range (lg l.length)).map (upN (rowC l))) ((List.range (lg l.length)).map (upN (rowC m))) (j : Int) (((2 * 2 ^ (lg l.length - 1 - j) : Nat) : Int), z) = some (.inr (.inl z)) := by
 have h1 := A_len l m hN1 hN hlm j (by omega); have h3 := w_eq l m hN1 hN hlm j hj; have h4 := w_le l m hN1 hN hlm j
 unfold stepR
 dsimp only
 rw [List.length_map, List.length_map, List.length_range, Int.toNat_natCast, gd_range _ _ _ _ hj, addI_1 (by omega), if_pos (by omega), cd_neg (by omega)]
theorem row_eq (j : Nat) (hj : j < lg l.length) (h : ∀ i, i < 2 ^ (lg l.length - 1 - j) -> ¬ dif l m j i) : upN (rowC l) j = upN (rowC m) j := by
 have h1 := A_len l m hN1 hN hlm j (by omega); have h2 := B_len l m hN1 hN hlm j (by omega); have h3 := w_eq l m hN1 hN hlm j hj
 apply List.ext_getElem (by omega); intro t ht1 ht2
 have := Classical.not_not.1 (h (t / 2) (by omega))
 have key : pA l j t = pA m j t := by
  rcases Nat.mod_two_eq_zero_or_one t with e | e
  ·have := this.1; rwa [show 2 * (t / 2) = t by omega] at this
  ·have := this.2; rwa [show 2 * (t / 2) + 1 = t by omega] at this
 simpa [pA, List.getD_eq_getElem?_getD, ht1, ht2] using key
theorem node_up (l : List H) (j i : Nat) (hi : i < (upN (rowC l) j).length / 2) : node (pA l j (2*i)) (pA l j (2*i+1)) = pA l (j+1) i := by
 show _ = (upC (upN (rowC l) j)).getD i default
 rw [upC, gd_range _ _ _ _ hi]; rfl
def bnd (r : BB × Bool) : Prop := r.1.1.length < 1000000000 ∧ r.1.2.1.length < 1000000000
omit hN1 hN hlm in
theorem bnd0 : bnd (([], [], ()), false) := by constructor <;> simp
theorem p57_32 : ∃ r, bnd r ∧ f57 l m = some r ∧ f32 l m = some r := by
 have hK4 := lg_le l.length
 have hlgm : lg m.length = lg l.length := by rw [hlm]
 have wle := fun j => w_le l m hN1 hN hlm j
 rw [e57, t57, cd_neg (by omega), bs (p96 l hN1 hN), bs (p96 m (by omega) (by omega)), rowsC_len, subI_ok (by omega) (by omega), show ((lg l.length + 1 : Nat) : Int) - 1 = ((lg l.length : Nat) : Int) by omega]
 have hA := rowsC_at l (lg l.length) (Nat.le_refl _)
 have hB := rowsC_at m (lg l.length) (by omega)
 have hrl : (upN (rowC l) (lg l.length)).getD 0 default = root l := rfl
 have hrm : (upN (rowC m) (lg l.length)).getD 0 default = root m := by unfold root; rw [hlgm]
 have la := A_len l m hN1 hN hlm (lg l.length) (Nat.le_refl _); have lb := B_len l m hN1 hN hlm (lg l.length) (Nat.le_refl _)
 rw [Nat.sub_self] at la lb
 rw [bs hA, bs (at_g0 (by omega) default), bs hB, bs (at_g0 (by omega) default), hrl, hrm]
 by_cases hr : root l = root m
 rotate_left
 ·have hne : l ≠ m := fun e => hr (by rw [e])
  refine ⟨(([], [], ()), false), bnd0, by rw [decide_eq_false hr]; rfl, ?_⟩
  rw [e32, t32, cd_neg (by omega), bs (p65 l m (by omega) hlm), decide_eq_false hne]
  refine bt (a := true) ?_ rfl
  rw [cb_f, bs (p38 l (by omega)), bs (p38 m (by omega)), decide_eq_false hr]; rfl
 rw [decide_eq_true hr, cn_t, subI_ok (by omega) (by omega)]
 have hsP : ∀ j, j < lg l.length -> ∀ i, i < 2 ^ (lg l.length - 1 - j) -> ∀ z, ¬ dif l m j i -> stepP (rowsC l) (rowsC m) (j : Int) (((2 * i : Nat) : Int), z) = some (.inl (((2 * (i + 1) : Nat) : Int), z)) := fun j hj i hi z hd => by
  rw [stepP_eq l m hN1 hN hlm j i hj hi z, decide_eq_true (vec2.2 (Classical.not_not.1 hd))]; rfl
 have hbP : ∀ j, j < lg l.length -> ∀ i, i < 2 ^ (lg l.length - 1 - j) -> ∀ z, dif l m j i -> stepP (rowsC l) (rowsC m) (j : Int) (((2 * i : Nat) : Int), z) = some (.inr (.inr (true, brk l m j i))) := fun j hj i hi z hd => by
  rw [stepP_eq l m hN1 hN hlm j i hj hi z, decide_eq_false (fun e => hd (vec2.1 e))]; rfl
 have heP := fun j hj z => stepP_end l m hN1 hN hlm j hj z
 have hsR : ∀ j, j < lg l.length -> ∀ i, i < 2 ^ (lg l.length - 1 - j) -> ∀ z, ¬ sam l m j i -> stepR ((List.range (lg l.length)).map (upN (rowC l))) ((List.range (lg l.length)).map (upN (rowC m))) (j : Int) (((2 * i : Nat) : Int), z) = some (.inl (((2 * (i + 1) : Nat) : Int), z)) := fun j hj i hi z hd => by
  rw [stepR_eq l m hN1 hN hlm j i hj hi z, decide_eq_false hd]; rfl
 have hbR : ∀ j, j < lg l.length -> ∀ i, i < 2 ^ (lg l.length - 1 - j) -> ∀ z, sam l m j i -> stepR ((List.range (lg l.length)).map (upN (rowC l))) ((List.range (lg l.length)).map (upN (rowC m))) (j : Int) (((2 * i : Nat) : Int), z) = some (.inr (.inr (true, brk l m j i))) := fun j hj i hi z hd => by
  rw [stepR_eq l m hN1 hN hlm j i hj hi z, decide_eq_true hd]; rfl
 have heR := fun j hj z => stepR_end l m hN1 hN hlm j hj z
 have sam_dif : ∀ j i, sam l m j i -> dif l m j i := fun j i h e => h.1 (by rw [e.1, e.2])
 have hw : ∀ j, j < lg l.length -> 2 ^ (lg l.length - 1 - j) <= 1000000 := fun j _ => by have := wle j; omega
 have loop : ∀ (f : List (List H) × List (List H) -> Option (BB × Bool)) (z : Option (BB × Bool)), f ((List.range (lg l.length)).map (upN (rowC l)), (List.range (lg l.length)).map (upN (rowC m))) = z ->
  (iter (fun (x : List (List (Vector UInt8 32)) × List (List (Vector UInt8 32)) × List (Vector UInt8 32) × List (Vector UInt8 32)) =>
   bif decide ((1 : Int) < (↑x.2.2.1.length : Int)) then
    (app? x.1 [x.2.2.1]).bind fun (zs : List (List (Vector UInt8 32))) =>
     (app? x.2.1 [x.2.2.2]).bind fun (zs_1 : List (List (Vector UInt8 32))) =>
      (f67 x.2.2.1).bind fun (r : List (Vector UInt8 32)) =>
       (f67 x.2.2.2).bind fun (r_2 : List (Vector UInt8 32)) => some (Sum.inl (zs, zs_1, r, r_2))
   else some (Sum.inr (x.1, x.2.1)))
   ([], [], rowC l, rowC m)).bind f = z := fun f z hz => by
  refine it_bind (fun i => ((List.range i).map (upN (rowC l)), (List.range i).map (upN (rowC m)), upN (rowC l) i, upN (rowC m) i)) (lg l.length) _ rfl ?_ ?_ (by omega) hz
  ·intro i hi
   have h1 := A_len l m hN1 hN hlm i (by omega); have h2 := B_len l m hN1 hN hlm i (by omega); have h3 := w_eq l m hN1 hN hlm i hi; have h4 := wle i
   have h5 : 0 < 2 ^ (lg l.length - 1 - i) := Nat.pow_pos (by omega)
   dsimp only
   rw [cd_pos (by omega), bs (app_ok (by simp; omega)), bs (app_ok (by simp; omega)), bs (p67 _ (by omega)), bs (p67 _ (by omega)), List.range_succ, List.map_append, List.map_append]; rfl
  ·dsimp only; rw [cd_neg (by omega)]
 have refl : ∀ r : BB × Bool, (l = m -> r = (([], [], ()), false)) -> ((iter (outer (stepR ((List.range (lg l.length)).map (upN (rowC l))) ((List.range (lg l.length)).map (upN (rowC m))))) (((lg l.length : Nat) : Int) - 1, [], [], ())).bind
  fun (y : OI) => sumE y (fun (x : BB) => some ((([], [], ()), false) : BB × Bool)) fun (x : Bool × BB) => some (x.2, x.1)) = some r ->
  f32 l m = some r := fun r h1 h2 => by
  rw [e32, t32, cd_neg (by omega), bs (p65 l m (by omega) hlm)]
  by_cases e : l = m
  ·rw [decide_eq_true e, h1 e]; rfl
  ·rw [decide_eq_false e]
   refine bt (a := false) ?_ ?_
   ·rw [cb_f, bs (p38 l (by omega)), bs (p38 m (by omega)), decide_eq_true hr]; rfl
   ·rw [cb_f, bs (p66 l (by omega)), bs (p66 m (by omega))]
    refine loop _ _ ?_
    dsimp only
    have e : subI ((((List.range (lg l.length)).map (upN (rowC l))).length : Nat) : Int) 1 = ((lg l.length : Nat) : Int) - 1 := by rw [List.length_map, List.length_range, subI_ok (by omega) (by omega)]
    rw [e]
    exact h2
 obtain ⟨T, T1, T2, T3⟩ := stop (fun t => t < lg l.length ∧ ∀ i, i < 2 ^ (lg l.length - 1 - (lg l.length - 1 - t)) -> ¬ dif l m (lg l.length - 1 - t) i) (lg l.length) (fun h => absurd h.1 (by omega))
 by_cases c : T = lg l.length
 ·subst c
  have hno : ∀ j, j < lg l.length -> ∀ i, i < 2 ^ (lg l.length - 1 - j) -> ¬ dif l m j i := fun j hj i hi => by
   have := (T2 (lg l.length - 1 - j) (by omega)).2
   rw [show lg l.length - 1 - (lg l.length - 1 - j) = j by omega] at this
   exact this i hi
  refine ⟨(([], [], ()), false), bnd0, ?_, ?_⟩
  ·exact bt (srch_none (step := stepP (rowsC l) (rowsC m)) (by omega) hw hsP hbP heP hno ([], [], ())) rfl
  ·exact refl _ (fun _ => rfl) (bt (srch_none (step := stepR _ _) (by omega) hw hsR hbR heR (fun j hj i hi h => hno j hj i hi (sam_dif j i h)) ([], [], ())) rfl)
 ·have hT : T < lg l.length := by omega
  generalize hJ : lg l.length - 1 - T = J at *
  have hJK : J < lg l.length := by omega
  obtain ⟨I, I1, I2, I3⟩ := stop (fun i => i < 2 ^ (lg l.length - 1 - J) ∧ ¬ dif l m J i) (2 ^ (lg l.length - 1 - J)) (fun h => absurd h.1 (by omega))
  have hI : I < 2 ^ (lg l.length - 1 - J) := by
   rcases Nat.lt_or_ge I (2 ^ (lg l.length - 1 - J)) with h | h
   ·exact h
   ·refine absurd ⟨hT, fun i hi => ?_⟩ T3
    exact (I2 i (by omega)).2
  have hd : dif l m J I := Classical.not_not.1 fun h => I3 ⟨hI, h⟩
  have hab : ∀ j, J < j -> j < lg l.length -> ∀ i, i < 2 ^ (lg l.length - 1 - j) -> ¬ dif l m j i := fun j h1 h2 i hi => by
   have := (T2 (lg l.length - 1 - j) (by omega)).2
   rw [show lg l.length - 1 - (lg l.length - 1 - j) = j by omega] at this
   exact this i hi
  have hup : upN (rowC l) (J+1) = upN (rowC m) (J+1) := by
   by_cases e : J + 1 = lg l.length
   ·rw [e]
    apply List.ext_getElem (by omega); intro t h1 h2
    have ht : t = 0 := by omega
    subst ht
    rw [← hrl, ← hrm] at hr
    simpa [List.getD_eq_getElem?_getD, h1, h2] using hr
   ·exact row_eq l m hN1 hN hlm (J+1) (by omega) (hab (J+1) (by omega) (by omega))
  have hq : sam l m J I := by
   refine ⟨fun e => hd (nodeT_inj e), ?_⟩
   have h1 := A_len l m hN1 hN hlm J (by omega); have h2 := B_len l m hN1 hN hlm J (by omega); have h3 := w_eq l m hN1 hN hlm J hJK
   rw [node_up l m hN1 hN hlm l J I (by omega), node_up l m hN1 hN hlm m J I (by omega)]
   unfold pA; rw [hup]
  refine ⟨(brk l m J I, true), ⟨nodeT_len _ _, nodeT_len _ _⟩, ?_, ?_⟩
  ·exact bt (srch_bad (step := stepP (rowsC l) (rowsC m)) (by omega) hw hsP hbP heP J I hJK hI hd hab (fun i hi => (I2 i hi).2) ([], [], ())) rfl
  ·refine refl _ (fun e => ?_) (bt (srch_bad (step := stepR _ _) (by omega) hw hsR hbR heR J I hJK hI hq (fun j h1 h2 i hi h => hab j h1 h2 i hi (sam_dif j i h)) (fun i hi h => (I2 i hi).2 (sam_dif J i h)) ([], [], ())) rfl)
   subst e; exact absurd ⟨rfl, rfl⟩ hd
end
end Mx
end
section
open Go Go.Proofs Ev
namespace Mx
theorem nets_le {c : Nat} (hc : c < 1000000) : ∀ (l : List B), (∀ b ∈ l, b.length <= c) -> (nets l).length <= l.length * (c + 8)
 | [], _ => by simp [nets]
 | b :: l, h => by
  have h1 := nets_le hc l fun d hd => h d (List.mem_cons_of_mem _ hd)
  have h2 := h b List.mem_cons_self
  have h3 := net_len b (by omega)
  rw [nets_cons, List.length_append, List.length_cons, Nat.succ_mul]; omega
theorem packC_le (k n z g : Nat) (c s : H) : (packC k n z g c s).length <= 240 := by
 have := nets_le (c := 32) (by omega) (rowsU k n z g c s) (rowsU_len k n z g c s)
 simpa [packC, rowsU] using this
abbrev Cp := Int × Vector UInt8 16 × Vector UInt8 32 × Int × Int × Int × List UInt8 × Unit
theorem segs_at (b : B) (i : Nat) (h : i < nseg b.length) : ∃ s, at? (segs b) (i : Int) = some s ∧ (segs b).getD i [] = s ∧ s.length <= 64 :=
 ⟨(segs b).getD i [], at_gd (by simpa using h) [], rfl, by
  have hl : i < (segs b).length := by simpa using h
  rw [List.getD_eq_getElem?_getD, List.getElem?_eq_getElem hl]; exact segs_mem (List.getElem_mem hl)⟩
theorem tl1 (t b : B) (hb : b.length < 100000) (ht : t.length < 100000) : (text t [b]).length < 1000000000 := by
 have := text_len (sh1 b hb).1 ht; simp at this; omega
section
variable (C : Cp) (k1 n1 z1 k2 n2 z2 : Nat) (c1 s1 c2 s2 : H) (x y : B) (size : Nat)
 (hk : k1 < 1000000 ∧ n1 < 1000000 ∧ z1 < 1000000 ∧ k2 < 1000000 ∧ n2 < 1000000 ∧ z2 < 1000000) (hsz : C.2.2.2.2.2.1 = (size : Int)) (h1 : 1 <= size) (h2 : size <= 192)
include hk hsz h1 h2
theorem p22_11 : ∃ r, bnd r ∧ f22 C (mkU k1 n1 z1 64 c1 s1) (mkU k2 n2 z2 64 c2 s2) x y = some r ∧ f11 C (mkU k1 n1 z1 64 c1 s1) (mkU k2 n2 z2 64 c2 s2) x y = some r := by
 have lp := packC_le k1 n1 z1 64 c1 s1
 have lq := packC_le k2 n2 z2 64 c2 s2
 rw [e22, t22, e11, t11, bs (p47 k1 n1 z1 64 c1 s1 (by omega) (by omega) (by omega) (by omega)), bs (p47 k2 n2 z2 64 c2 s2 (by omega) (by omega) (by omega) (by omega)), bs (p27 k1 n1 z1 64 c1 s1 (by omega) (by omega) (by omega) (by omega)), bs (p27 k2 n2 z2 64 c2 s2 (by omega) (by omega) (by omega) (by omega))]
 generalize packC k1 n1 z1 64 c1 s1 = p at *
 generalize packC k2 n2 z2 64 c2 s2 = q at *
 rw [hsz]
 have no : ∀ {f g : Bool -> Option (BB × Bool)}, f true = some (([], [], ()), false) -> g true = some (([], [], ()), false) -> ∀ {o o' : Option Bool}, o = some true -> o' = some true -> ∃ r, bnd r ∧ o.bind f = some r ∧ o'.bind g = some r := fun hf hg o o' ho ho' => ⟨_, bnd0, (bs ho).trans hf, (bs ho').trans hg⟩
 by_cases d1 : x.length = size
 rotate_left
 ·exact no rfl rfl (by rw [cd_pos (by omega)]) (by rw [cd_pos (by omega)])
 by_cases d2 : y.length = size
 rotate_left
 ·exact no rfl rfl (by rw [cd_neg (by omega), cd_pos (by omega)]) (by rw [cd_neg (by omega), cd_pos (by omega)])
 by_cases d3 : uebH p = C.2.2.1
 rotate_left
 ·refine no rfl rfl ?_ ?_
  ·rw [cd_neg (by omega), cd_neg (by omega), bs (p49 p (by omega)), decide_eq_false d3]; rfl
  ·rw [cd_neg (by omega), cd_neg (by omega), bs (p18 p (by omega)), decide_eq_false d3]; rfl
 by_cases d4 : uebH q = C.2.2.1
 rotate_left
 ·refine no rfl rfl ?_ ?_
  ·rw [cd_neg (by omega), cd_neg (by omega), bs (p49 p (by omega)), decide_eq_true d3, cn_t, bs (p49 q (by omega)), decide_eq_false d4]; rfl
  ·rw [cd_neg (by omega), cd_neg (by omega), bs (p18 p (by omega)), decide_eq_true d3, cn_t, bs (p18 q (by omega)), decide_eq_false d4]; rfl
 have first : ∀ {f : Bool -> Option (BB × Bool)} {r : Option (BB × Bool)}, f false = r -> ((bif decide ((↑x.length : Int) ≠ (size : Int)) then some true
  else
   bif decide ((↑y.length : Int) ≠ (size : Int)) then some true
   else
    (f49 p).bind fun (r : Vector UInt8 32) =>
     bif !decide (r = C.2.2.1) then some true else (f49 q).bind fun (r : Vector UInt8 32) => some !decide (r = C.2.2.1)).bind f) = r := fun hf => by
  rw [cd_neg (by omega), cd_neg (by omega), bs (p49 p (by omega)), decide_eq_true d3, cn_t, bs (p49 q (by omega)), decide_eq_true d4]; exact hf
 have ref1 : ∀ (o : Option Bool), (f28 x).bind (fun (r : Vector UInt8 32) => bif !decide (r = c1) then some true else (f28 y).bind fun (r : Vector UInt8 32) => bif !decide (r = c2) then some true else some (decide (x = y))) = o ->
  (bif decide ((↑x.length : Int) ≠ (size : Int)) then some true
   else
    bif decide ((↑y.length : Int) ≠ (size : Int)) then some true
    else
     (f18 p).bind fun (r : Vector UInt8 32) =>
      bif !decide (r = C.2.2.1) then some true
      else
       (f18 q).bind fun (r : Vector UInt8 32) =>
        bif !decide (r = C.2.2.1) then some true
        else
         (f28 x).bind fun (r : Vector UInt8 32) =>
          bif !decide (r = c1) then some true
          else
           (f28 y).bind fun (r : Vector UInt8 32) =>
            bif !decide (r = c2) then some true else some (decide (x = y))) = o := fun o ho => by
  rw [cd_neg (by omega), cd_neg (by omega), bs (p18 p (by omega)), decide_eq_true d3, cn_t, bs (p18 q (by omega)), decide_eq_true d4, cn_t]; exact ho
 have hx := p48 x (by omega) (by omega); have hy := p48 y (by omega) (by omega)
 have hx' := p28 x (by omega); have hy' := p28 y (by omega)
 by_cases d5 : crypt x = c1
 rotate_left
 ·refine ⟨(([], [], ()), false), bnd0, first ?_, bt (a := true) (ref1 _ ?_) rfl⟩
  ·rw [cb_f]
   refine bt (a := true) ?_ rfl
   rw [bs hx]; show (bif !decide (crypt x = c1) then _ else _) = _; rw [decide_eq_false d5]; rfl
  ·rw [bs hx', decide_eq_false d5]; rfl
 by_cases d6 : crypt y = c2
 rotate_left
 ·refine ⟨(([], [], ()), false), bnd0, first ?_, bt (a := true) (ref1 _ ?_) rfl⟩
  ·rw [cb_f]
   refine bt (a := true) ?_ rfl
   rw [bs hx]; show (bif !decide (crypt x = c1) then _ else _) = _
   rw [decide_eq_true d5, cn_t, bs hy]; show (bif !decide (crypt y = c2) then _ else _) = _; rw [decide_eq_false d6]; rfl
  ·rw [bs hx', decide_eq_true d5, cn_t, bs hy', decide_eq_false d6]; rfl
 by_cases d7 : x = y
 ·refine ⟨(([], [], ()), false), bnd0, first ?_, bt (a := true) (ref1 _ ?_) rfl⟩
  ·rw [cb_f]
   refine bt (a := true) ?_ rfl
   rw [bs hx]; show (bif !decide (crypt x = c1) then _ else _) = _
   rw [decide_eq_true d5, cn_t, bs hy]; show (bif !decide (crypt y = c2) then _ else _) = _; rw [decide_eq_true d6, cn_t, e21, t21, decide_eq_true d7]; rfl
  ·rw [bs hx', decide_eq_true d5, cn_t, bs hy', decide_eq_true d6, cn_t, decide_eq_true d7]
 have okP : ((f48 x).bind fun (r : Vector UInt8 32) =>
  bif !decide (r = (mkU k1 n1 z1 64 c1 s1).2.2.2.2.1) then some true
  else
   (f48 y).bind fun (r : Vector UInt8 32) =>
    bif !decide (r = (mkU k2 n2 z2 64 c2 s2).2.2.2.2.1) then some true else (f21 x y).bind fun (r : Bool) => some r) = some false := by
  rw [bs hx]; show (bif !decide (crypt x = c1) then _ else _) = _
  rw [decide_eq_true d5, cn_t, bs hy]; show (bif !decide (crypt y = c2) then _ else _) = _; rw [decide_eq_true d6, cn_t, e21, t21, decide_eq_false d7]; rfl
 have okR : ((f28 x).bind fun (r : Vector UInt8 32) => bif !decide (r = c1) then some true else (f28 y).bind fun (r : Vector UInt8 32) => bif !decide (r = c2) then some true else some (decide (x = y))) = some false := by
  rw [bs hx', decide_eq_true d5, cn_t, bs hy', decide_eq_true d6, cn_t, decide_eq_false d7]
 have t3 : ∀ b : B, b.length < 100000 -> Short [b] := fun b hb => sh1 b hb
 by_cases d8 : p = q
 rotate_left
 ·refine ⟨((text [117, 101, 98] [p], text [117, 101, 98] [q], ()), true), ⟨tl1 _ p (by omega) (by simp), tl1 _ q (by omega) (by simp)⟩, first ?_, bt (a := false) (ref1 _ okR) ?_⟩
  ·rw [cb_f]
   refine bt okP ?_
   rw [cb_f, e21, t21, Option.bind_some, decide_eq_false d8, cn_f, bs (p54 _ _ (t3 p (by omega)) (by simp)), bs (p54 _ _ (t3 q (by omega)) (by simp))]
  ·rw [cb_f, cd_pos d8, bs (p29 _ _ (t3 p (by omega)) (by simp)), bs (p29 _ _ (t3 q (by omega)) (by simp))]
 have hn : nseg x.length = nseg y.length := by rw [d1, d2]
 have hn3 : 1 <= nseg x.length ∧ nseg x.length <= 3 := by unfold nseg; omega
 obtain ⟨k, kl, ka, kb⟩ := stop (fun i => i < nseg x.length ∧ ¬ ((segs x).getD i [] ≠ (segs y).getD i [] ∧ leaf ((segs x).getD i []) = leaf ((segs y).getD i []))) (nseg x.length) (fun h => absurd h.1 (by omega))
 have chkP : ∀ i : Nat, i < nseg x.length -> ((at? (segs x) (i : Int)).bind fun (y_1 : List UInt8) =>
  (at? (segs y) (i : Int)).bind fun (y_2 : List UInt8) =>
   (f21 y_1 y_2).bind fun (r_4 : Bool) =>
    bif !r_4 then
     (at? (segs x) (i : Int)).bind fun (y_1 : List UInt8) =>
      (f56 y_1).bind fun (r : Vector UInt8 32) =>
       (at? (segs y) (i : Int)).bind fun (y_1 : List UInt8) =>
        (f56 y_1).bind fun (r_5 : Vector UInt8 32) => some (decide (r = r_5))
    else some false) = some (decide ((segs x).getD i [] ≠ (segs y).getD i [] ∧ leaf ((segs x).getD i []) = leaf ((segs y).getD i []))) := fun i hi => by
  obtain ⟨S, a1, a2, a3⟩ := segs_at x i hi
  obtain ⟨T, b1, b2, b3⟩ := segs_at y i (by omega)
  rw [a2, b2, bs a1, bs b1, e21, t21, Option.bind_some]
  by_cases e : S = T
  ·rw [decide_eq_true e, cn_t, decide_eq_false (show ¬ (S ≠ T ∧ leaf S = leaf T) from fun h => h.1 e)]
  ·rw [decide_eq_false e, cn_f, bs a1, bs (p56 S (by omega)), bs b1, bs (p56 T (by omega))]
   by_cases g : leaf S = leaf T
   ·rw [decide_eq_true g, decide_eq_true (show S ≠ T ∧ leaf S = leaf T from ⟨e, g⟩)]
   ·rw [decide_eq_false g, decide_eq_false (show ¬ (S ≠ T ∧ leaf S = leaf T) from fun h => g h.2)]
 have chkR : ∀ i : Nat, i < nseg x.length -> ((at? (segs x) (i : Int)).bind fun (y_1 : List UInt8) =>
  (at? (segs y) (i : Int)).bind fun (y_2 : List UInt8) =>
   bif decide (y_1 ≠ y_2) then
    (at? (segs x) (i : Int)).bind fun (y_1 : List UInt8) =>
     (f31 y_1).bind fun (r : Vector UInt8 32) =>
      (at? (segs y) (i : Int)).bind fun (y_1 : List UInt8) =>
       (f31 y_1).bind fun (r_3 : Vector UInt8 32) => some (decide (r = r_3))
   else some false) = some (decide ((segs x).getD i [] ≠ (segs y).getD i [] ∧ leaf ((segs x).getD i []) = leaf ((segs y).getD i []))) := fun i hi => by
  obtain ⟨S, a1, a2, a3⟩ := segs_at x i hi
  obtain ⟨T, b1, b2, b3⟩ := segs_at y i (by omega)
  rw [a2, b2, bs a1, bs b1]
  by_cases e : S = T
  ·rw [cd_neg (fun h => h e), decide_eq_false (show ¬ (S ≠ T ∧ leaf S = leaf T) from fun h => h.1 e)]
  ·rw [cd_pos e, bs a1, bs (p31 S (by omega)), bs b1, bs (p31 T (by omega))]
   by_cases g : leaf S = leaf T
   ·rw [decide_eq_true g, decide_eq_true (show S ≠ T ∧ leaf S = leaf T from ⟨e, g⟩)]
   ·rw [decide_eq_false g, decide_eq_false (show ¬ (S ≠ T ∧ leaf S = leaf T) from fun h => g h.2)]
 obtain ⟨rU, hU0, hU1, hU2⟩ := p57_32 (leavesC x) (leavesC y) (by simp [leavesC]; omega) (by simp [leavesC]; omega) (by simp [leavesC]; omega)
 have hlx : ∀ c ∈ segs x, c.length < 100000 := fun c hc => by have := segs_mem hc; omega
 have hly : ∀ c ∈ segs y, c.length < 100000 := fun c hc => by have := segs_mem hc; omega
 by_cases ck : k = nseg x.length
 ·refine ⟨rU, hU0, first ?_, bt (a := false) (ref1 _ okR) ?_⟩
  ·rw [cb_f]
   refine bt okP ?_
   rw [cb_f, e21, t21, Option.bind_some, decide_eq_true d8, cn_t, bs (p55 x (by omega)), bs (p55 y (by omega))]
   refine it_bind (fun i => ((i : Int), [], [], ())) k (.inl ([], [], ())) rfl ?_ ?_ (by omega) ?_
   ·intro i hi
    dsimp only
    rw [cd_pos (by simp; omega), bs (chkP i (by omega)), decide_eq_false (ka i hi).2, cb_f, addI_1 (by omega)]
   ·dsimp only
    rw [cd_neg (by simp; omega)]
   ·dsimp only [sumE]
    rw [bs (p58 x (by omega)), bs (p58 y (by omega)), bs hU1]
  ·rw [cb_f, cd_neg (fun h => h d8), bs (p30 x (by omega)), bs (p30 y (by omega))]
   refine it_bind (fun i => ((i : Int), [], [], ())) k (.inl ([], [], ())) rfl ?_ ?_ (by omega) ?_
   ·intro i hi
    dsimp only
    rw [cd_pos (by simp; omega), bs (chkR i (by omega)), decide_eq_false (ka i hi).2, cb_f, addI_1 (by omega)]
   ·dsimp only
    rw [cd_neg (by simp; omega)]
   ·dsimp only [sumE]
    rw [bs (p33 (segs x) hlx (by simp; omega)), bs (p33 (segs y) hly (by simp; omega))]
    exact bt hU2 rfl
 ·have hk' : k < nseg x.length := by omega
  have hD : ((segs x).getD k [] ≠ (segs y).getD k [] ∧ leaf ((segs x).getD k []) = leaf ((segs y).getD k [])) := Classical.not_not.1 fun h => kb ⟨hk', h⟩
  obtain ⟨S, a1, a2, a3⟩ := segs_at x k hk'
  obtain ⟨T, b1, b2, b3⟩ := segs_at y k (by omega)
  refine ⟨((text [108, 101, 97, 102] [S], text [108, 101, 97, 102] [T], ()), true), ⟨tl1 _ S (by omega) (by simp), tl1 _ T (by omega) (by simp)⟩, first ?_, bt (a := false) (ref1 _ okR) ?_⟩
  ·rw [cb_f]
   refine bt okP ?_
   rw [cb_f, e21, t21, Option.bind_some, decide_eq_true d8, cn_t, bs (p55 x (by omega)), bs (p55 y (by omega))]
   refine it_bind (fun i => ((i : Int), [], [], ())) k (.inr (true, text [108, 101, 97, 102] [S], text [108, 101, 97, 102] [T], ())) rfl ?_ ?_ (by omega) rfl
   ·intro i hi
    dsimp only
    rw [cd_pos (by simp; omega), bs (chkP i (by omega)), decide_eq_false (ka i hi).2, cb_f, addI_1 (by omega)]
   ·dsimp only
    rw [cd_pos (by simp; omega), bs (chkP k hk'), decide_eq_true hD, cb_t, bs a1, bs (p54 _ _ (t3 S (by omega)) (by simp)), bs b1, bs (p54 _ _ (t3 T (by omega)) (by simp))]
  ·rw [cb_f, cd_neg (fun h => h d8), bs (p30 x (by omega)), bs (p30 y (by omega))]
   refine it_bind (fun i => ((i : Int), [], [], ())) k (.inr (true, text [108, 101, 97, 102] [S], text [108, 101, 97, 102] [T], ())) rfl ?_ ?_ (by omega) rfl
   ·intro i hi
    dsimp only
    rw [cd_pos (by simp; omega), bs (chkR i (by omega)), decide_eq_false (ka i hi).2, cb_f, addI_1 (by omega)]
   ·dsimp only
    rw [cd_pos (by simp; omega), bs (chkR k hk'), decide_eq_true hD, cb_t, bs a1, bs (p29 _ _ (t3 S (by omega)) (by simp)), bs b1, bs (p29 _ _ (t3 T (by omega)) (by simp))]
end
end Mx
end
section
open Go Go.Proofs Ev
namespace Mx
theorem p5 (b : B) (n : Nat) : f5 b (n : Int) = some (b.take n) := by
 rw [e5, t5, minI_nat]
 have h : cut? b 0 ((min b.length n : Nat) : Int) = some ((b.drop 0).take (min b.length n - 0)) := cut_nat (a := 0) (by omega) (by omega)
 rw [bs h, List.drop_zero, Nat.sub_zero]
 congr 1
 by_cases c : n <= b.length
 ·rw [Nat.min_eq_right c]
 ·rw [Nat.min_eq_left (by omega), List.take_of_length_le (Nat.le_refl _), List.take_of_length_le (by omega)]
theorem p4 (b : B) : f4 b = some (9 :: b.take 140) := by
 have h := p5 b 140
 rw [e4, t4]
 show (f5 b ((140 : Nat) : Int)).bind _ = _
 rw [bs h, bs (app_ok (by simp; omega))]; rfl
theorem p6 (v : Int) (n : Nat) (h : 1 <= n) (hn : n <= 1000) : ∃ k : Nat, k < n ∧ f6 v (n : Int) = some (k : Int) := by
 have h1 := Int.tmod_lt_of_pos v (show (0 : Int) < (n : Int) by omega)
 have h2 : -(n : Int) < v.tmod (n : Int) := by
  have := Int.lt_tmod_of_pos v (show (0 : Int) < (n : Int) by omega); exact this
 rw [e6, t6, cd_neg (by omega)]
 have hr : remI v (n : Int) = some (v.tmod (n : Int)) := by unfold remI; rw [if_neg (by omega)]
 rw [bs hr]
 by_cases c : v.tmod (n : Int) < 0
 ·refine ⟨(v.tmod (n : Int) + n).toNat, by omega, ?_⟩
  rw [cd_pos c, addI_ok (by omega) (by omega)]
  show some (v.tmod (n : Int) + (n : Int)) = _
  congr 1; omega
 ·refine ⟨(v.tmod (n : Int)).toNat, by omega, ?_⟩
  rw [cd_neg c]
  show some (v.tmod (n : Int)) = _
  congr 1; omega
theorem p8 (b : B) (h : b.length <= 4294967296) : f8 b = some b := by rw [e8, t8, bs (fits_ok h)]
theorem p91 (b : B) (h : b.length <= 4294967296) : f91 b = some b := fits_ok h
theorem p12 (k : V16) (b : B) (hb : b.length <= 1000000) : f12 k b = some (stream k b) := by rw [e12, t12, bs (p17 k b hb)]
theorem p13 (a : B) (h : a.length < 1000000000) : f13 a a = some true := by
 rw [e13, t13, cd_neg (by omega)]
 refine it_bind (fun i => (i : Int)) a.length (.inl ()) rfl ?_ ?_ (by omega) rfl
 ·intro i hi
  rw [cd_pos (by omega), bs (at_gd hi 0), bs (at_gd hi 0), cd_neg (fun h => h rfl), addI_1 (by omega)]
 ·rw [cd_neg (by omega)]
theorem p45 (b : B) (k n : Nat) (h1 : 1 <= k) (h2 : k <= n) (h3 : n <= 4) (hb1 : 1 <= b.length) (hb : b.length <= 192) : f45 b (k : Int) (n : Int) = some true := by
 rw [e45, t45, cd_pos (by omega), cd_pos (by omega), cd_pos (by omega), cd_pos (by omega), decide_eq_true (show (n : Int) <= 16 by omega)]; rfl
theorem p15 (b k n : Nat) (h1 : 1 <= k) (h2 : k <= n) (h3 : n <= 4) (hb1 : 1 <= b) (hb : b <= 192) : f15 (b : Int) (k : Int) (n : Int) = some true := by
 rw [e15, t15, cd_pos (by omega), cd_pos (by omega), cd_pos (by omega), cd_pos (by omega), decide_eq_true (show (n : Int) <= 16 by omega)]; rfl
noncomputable def uebC (key : V16) (b : B) (k n : Nat) : B := packC k n b.length 64 (crypt (stream key b)) (rootS k n (stream key b))
noncomputable def capC (key : V16) (b : B) (k n : Nat) : Cp := (1, key, uebH (uebC key b k n), (k : Int), (n : Int), (b.length : Int), [], ())
section
variable {k n : Nat} {b : B} (key : V16) (h1 : 1 <= k) (h2 : k <= n) (h3 : n <= 4) (hb1 : 1 <= b.length) (hb : b.length <= 192)
include h1 h2 h3 hb1 hb
theorem p7 : ∃ l : List ShT, l.length = n ∧ (∀ s ∈ l, s.2.1 = uebC key b k n) ∧ f7 key b (k : Int) (n : Int) = some (capC key b k n, l, 0) := by
 obtain ⟨l, hl, hu, hs⟩ := p16 (b := stream key b) h1 h2 h3 (by simpa using hb1) (by simpa using hb)
 rw [stream_len] at hu hs
 refine ⟨l, hl, hu, ?_⟩
 have lp := packC_le k n b.length 64 (crypt (stream key b)) (rootS k n (stream key b))
 rw [e7, t7, bs (p15 b.length k n h1 h2 h3 hb1 hb), cn_t, bs (p17 key b (by omega)), bs hs]
 dsimp only
 have hm : l.getD 0 (0, [], [], [], ()) ∈ l := by
  have : 0 < l.length := by omega
  rw [List.getD_eq_getElem?_getD, List.getElem?_eq_getElem this]; exact List.getElem_mem this
 rw [bs (at_g0 (by omega) (0, [], [], [], ())), hu _ hm, bs (p18 _ (by omega))]; rfl
theorem p19 : ∃ l : List ShT, l.length = n ∧ (∀ s ∈ l, s.2.1 = uebC key b k n) ∧ f19 key b (k : Int) (n : Int) = some (capC key b k n, l, 0) := by
 obtain ⟨l, hl, hs⟩ := p46 (b := stream key b) h1 h2 h3 (by simpa using hb1) (by simpa using hb)
 have lp := packC_le k n b.length 64 (crypt (stream key b)) (rootS k n (stream key b))
 have h48 := p48 (stream key b) (by simpa using hb1) (by simp; omega)
 have h47 := p47 k n b.length 64 (crypt (stream key b)) (rootS k n (stream key b)) (by omega) (by omega) (by omega) (by omega)
 refine ⟨l.map fun s => (s.1, uebC key b k n, s.2.2), by simp [hl], fun s hs => ?_, ?_⟩
 ·obtain ⟨t, _, rfl⟩ := List.mem_map.1 hs; rfl
 rw [e19, t19, bs (p45 b k n h1 h2 h3 hb1 hb), cn_t, bs (p23 key b (by omega)), bs hs, bs h48]
 refine bt h47 ?_
 rw [bs (p49 _ (by omega))]
 refine it_bind (fun i => ((i : Int), (l.take i).map (fun s => (s.1, uebC key b k n, s.2.2)) ++ l.drop i)) n (l.map fun s => (s.1, uebC key b k n, s.2.2)) (by simp) ?_ ?_ (by omega) rfl
 ·intro i hi
  have hil : i < l.length := by omega
  have hd : l.drop i = l[i] :: l.drop (i + 1) := List.drop_eq_getElem_cons hil
  have hlen : ((l.take i).map (fun s => ((s.1, uebC key b k n, s.2.2) : ShT))).length = i := by simp; omega
  dsimp only
  rw [hl, cd_pos (by omega), bs (p91 _ (by omega)), if_pos (by simp; omega), addI_1 (by omega), Int.toNat_natCast, hd]
  have hg : ((l.take i).map (fun s => ((s.1, uebC key b k n, s.2.2) : ShT)) ++ l[i] :: l.drop (i + 1)).getD i (0, [], [], [], ()) = l[i] := by
   rw [List.getD_eq_getElem?_getD, List.getElem?_append_right (by omega), hlen, Nat.sub_self]; rfl
  rw [hg, set_past _ _ _ _ _ hlen, tk l i hil, List.map_append, List.append_assoc]; rfl
 ·dsimp only
  rw [hl, cd_neg (by omega), List.take_of_length_le (by omega), List.drop_eq_nil_of_le (by omega), List.append_nil]
theorem p9N (put got u : B) (hput : put = b) (hu : put = got ∨ f20 u = some (zU, false)) (hu2 : ∃ w, f20 u = some w) (hkey : key = key) : f9 (capC key b k n) put got (k : Int) (n : Int) u = some (([], [], ()), false) := by
 subst hput
 obtain ⟨l, hl, hlu, hs⟩ := p19 key h1 h2 h3 hb1 hb
 obtain ⟨w, hw⟩ := hu2
 rw [e9, t9]
 refine bt (a := (capC key put k n, l, 0)) hs ?_
 rw [bs hw]
 refine bt (a := true) ?_ rfl
 rw [cd_neg (fun h => h rfl)]
 rcases hu with e | e
 ·cases hb2 : w.2 with
  | false => rfl
  | true => rw [cn_t, e21, t21, decide_eq_true e]; rfl
 ·rw [hw] at e; injection e with e; rw [e]; rfl
theorem p9Y (put got u : B) (hput : put = b) (w : U) (hne : put ≠ got) (hu : f20 u = some (w, true)) (hg : got.length <= 1000) :
 f9 (capC key b k n) put got (k : Int) (n : Int) u = (f22 (capC key b k n) (mkU k n b.length 64 (crypt (stream key b)) (rootS k n (stream key b))) w (stream key put) (stream key got)).bind fun r => some (r.1, r.2) := by
 subst hput
 obtain ⟨l, hl, hlu, hs⟩ := p19 key h1 h2 h3 hb1 hb
 have hm : l.getD 0 (0, [], [], [], ()) ∈ l := by
  have : 0 < l.length := by omega
  rw [List.getD_eq_getElem?_getD, List.getElem?_eq_getElem this]; exact List.getElem_mem this
 have hA := (unpA (b := uebC key put k n) (k := k) (n := n) (z := put.length) (c := crypt (stream key put)) (s := rootS k n (stream key put)) ⟨⟨h1, h2, by omega, hb1, by omega⟩, rfl⟩).1
 rw [e9, t9]
 refine bt (a := (capC key put k n, l, 0)) hs ?_
 rw [bs hu]
 refine bt (a := false) ?_ ?_
 ·rw [cd_neg (fun h => h rfl), cn_t, e21, t21, decide_eq_false hne]; rfl
 ·rw [cb_f]
  show (at? l 0).bind _ = _
  rw [bs (at_g0 (by omega) (0, [], [], [], ())), hlu _ hm, bs hA]
  show (f23 key 0 put).bind _ = _
  rw [bs (p23 key put (by omega))]
  show (f23 key 0 got).bind _ = _
  rw [bs (p23 key got (by omega))]
end
end Mx
end
