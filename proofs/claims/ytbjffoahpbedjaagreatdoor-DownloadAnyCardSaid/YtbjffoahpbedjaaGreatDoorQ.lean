/- Plain laws of shares that are worked back. No conditions. -/
import Derived.Test.YtbjffoahpbedjaaGreatDoorE
import Derived.Test.YtbjffoahpbedjaaGreatDoorP
import Derived.Test.YtbjffoahpbedjaaGreatDoorN
import Derived.Test.YtbjffoahpbedjaaGreatDoorG
set_option linter.unusedVariables false
set_option linter.unusedSimpArgs false
set_option linter.unusedSectionVars false
set_option maxRecDepth 100000
section
open Go Go.Proofs Ev Sx
theorem wk21 : (r445 () : Option Bool) = some true := by kernel_rfl
end
section
open Go Go.Proofs Ev Sx
namespace Mx
def lin (c : List UInt8) (x : UInt8) : UInt8 := xf (fun i => if x.toNat.testBit i then c.getD i 0 else 0) 8
theorem xf_xor (f g : Nat -> UInt8) : ∀ n, xf (fun i => f i ^^^ g i) n = xf f n ^^^ xf g n
 | 0 => by simp [xf]
 | n + 1 => by
  rw [xf, xf, xf, xf_xor f g n]
  simp only [UInt8.xor_assoc]; congr 1
  rw [← UInt8.xor_assoc, UInt8.xor_comm (xf g n), UInt8.xor_assoc]
theorem lin_add (c : List UInt8) (x y : UInt8) : lin c (x ^^^ y) = lin c x ^^^ lin c y := by
 unfold lin
 rw [← xf_xor]
 refine xf_congr 8 fun i _ => ?_
 rw [UInt8.toNat_xor, Nat.testBit_xor]
 cases x.toNat.testBit i <;> cases y.toNat.testBit i <;> simp
def bas : List UInt8 := [1, 2, 4, 8, 16, 32, 64, 128]
theorem bas_all : (List.range 256).all (fun x => decide (lin bas (UInt8.ofNat x) = UInt8.ofNat x)) = true := by kernel_rfl
theorem all_u8 {p : UInt8 -> Bool} (h : (List.range 256).all (fun x => p (UInt8.ofNat x)) = true) (x : UInt8) : p x = true := by
 have := all_of h x.toNat x.toNat_lt
 rwa [UInt8.ofNat_toNat] at this
theorem lin_bas (x : UInt8) : lin bas x = x := of_decide_eq_true (all_u8 (p := fun x => decide (lin bas x = x)) bas_all x)
def Add (f : UInt8 -> UInt8) : Prop := ∀ x y, f (x ^^^ y) = f x ^^^ f y
theorem Add.zero {f : UInt8 -> UInt8} (h : Add f) : f 0 = 0 := by
 have := h 0 0
 rw [UInt8.xor_self] at this
 exact this.trans (UInt8.xor_self)
theorem Add.xf {f : UInt8 -> UInt8} (h : Add f) (g : Nat -> UInt8) : ∀ n, f (xf g n) = Mx.xf (fun i => f (g i)) n
 | 0 => h.zero
 | n + 1 => by rw [Mx.xf, h, h.xf g n]; rfl
theorem Add.ext {f g : UInt8 -> UInt8} (hf : Add f) (hg : Add g) (h : ∀ i, i < 8 -> f (bas.getD i 0) = g (bas.getD i 0)) (x : UInt8) : f x = g x := by
 have e : ∀ {f : UInt8 -> UInt8}, Add f -> f x = Mx.xf (fun i => if x.toNat.testBit i then f (bas.getD i 0) else 0) 8 := fun {f} hf => by
  have h1 : f x = f (lin bas x) := by rw [lin_bas]
  rw [h1, lin, hf.xf]
  refine xf_congr 8 fun i _ => ?_
  show f (if x.toNat.testBit i then bas.getD i 0 else 0) = _
  split
  ·rfl
  ·exact hf.zero
 rw [e hf, e hg]
 refine xf_congr 8 fun i hi => ?_
 rw [h i hi]
theorem Add.sum {f : Nat -> UInt8 -> UInt8} : ∀ n, (∀ i, i < n -> Add (f i)) -> Add fun x => Mx.xf (fun i => f i x) n
 | 0, _ => fun x y => by simp [Mx.xf]
 | n + 1, h => fun x y => by
  have ih : Mx.xf (fun i => f i (x ^^^ y)) n = Mx.xf (fun i => f i x) n ^^^ Mx.xf (fun i => f i y) n := Add.sum n (fun i hi => h i (by omega)) x y
  simp only [Mx.xf]
  rw [ih, h n (by omega) x y]
  simp only [UInt8.xor_assoc]; congr 1
  rw [← UInt8.xor_assoc, UInt8.xor_comm (Mx.xf _ n), UInt8.xor_assoc]
theorem Add.comp {f g : UInt8 -> UInt8} (hf : Add f) (hg : Add g) : Add fun x => f (g x) := fun x y => by dsimp only; rw [hg, hf]
theorem ln0 : (List.range 256).all (fun x => decide (mulT 0 (UInt8.ofNat x) = lin [0, 0, 0, 0, 0, 0, 0, 0] (UInt8.ofNat x))) = true := by kernel_rfl
theorem ad0 : Add (mulT 0) := fun x y => by have h := fun x => of_decide_eq_true (all_u8 (p := fun x => decide (mulT 0 x = lin [0, 0, 0, 0, 0, 0, 0, 0] x)) ln0 x); rw [h, h, h, lin_add]
theorem ln1 : (List.range 256).all (fun x => decide (mulT 1 (UInt8.ofNat x) = lin [1, 2, 4, 8, 16, 32, 64, 128] (UInt8.ofNat x))) = true := by kernel_rfl
theorem ad1 : Add (mulT 1) := fun x y => by have h := fun x => of_decide_eq_true (all_u8 (p := fun x => decide (mulT 1 x = lin [1, 2, 4, 8, 16, 32, 64, 128] x)) ln1 x); rw [h, h, h, lin_add]
theorem ln2 : (List.range 256).all (fun x => decide (mulT 2 (UInt8.ofNat x) = lin [2, 4, 8, 16, 32, 64, 128, 29] (UInt8.ofNat x))) = true := by kernel_rfl
theorem ad2 : Add (mulT 2) := fun x y => by have h := fun x => of_decide_eq_true (all_u8 (p := fun x => decide (mulT 2 x = lin [2, 4, 8, 16, 32, 64, 128, 29] x)) ln2 x); rw [h, h, h, lin_add]
theorem ln3 : (List.range 256).all (fun x => decide (mulT 3 (UInt8.ofNat x) = lin [3, 6, 12, 24, 48, 96, 192, 157] (UInt8.ofNat x))) = true := by kernel_rfl
theorem ad3 : Add (mulT 3) := fun x y => by have h := fun x => of_decide_eq_true (all_u8 (p := fun x => decide (mulT 3 x = lin [3, 6, 12, 24, 48, 96, 192, 157] x)) ln3 x); rw [h, h, h, lin_add]
theorem ln142 : (List.range 256).all (fun x => decide (mulT 142 (UInt8.ofNat x) = lin [142, 1, 2, 4, 8, 16, 32, 64] (UInt8.ofNat x))) = true := by kernel_rfl
theorem ad142 : Add (mulT 142) := fun x y => by have h := fun x => of_decide_eq_true (all_u8 (p := fun x => decide (mulT 142 x = lin [142, 1, 2, 4, 8, 16, 32, 64] x)) ln142 x); rw [h, h, h, lin_add]
theorem ln143 : (List.range 256).all (fun x => decide (mulT 143 (UInt8.ofNat x) = lin [143, 3, 6, 12, 24, 48, 96, 192] (UInt8.ofNat x))) = true := by kernel_rfl
theorem ad143 : Add (mulT 143) := fun x y => by have h := fun x => of_decide_eq_true (all_u8 (p := fun x => decide (mulT 143 x = lin [143, 3, 6, 12, 24, 48, 96, 192] x)) ln143 x); rw [h, h, h, lin_add]
theorem ln244 : (List.range 256).all (fun x => decide (mulT 244 (UInt8.ofNat x) = lin [244, 245, 247, 243, 251, 235, 203, 139] (UInt8.ofNat x))) = true := by kernel_rfl
theorem ad244 : Add (mulT 244) := fun x y => by have h := fun x => of_decide_eq_true (all_u8 (p := fun x => decide (mulT 244 x = lin [244, 245, 247, 243, 251, 235, 203, 139] x)) ln244 x); rw [h, h, h, lin_add]
theorem ln245 : (List.range 256).all (fun x => decide (mulT 245 (UInt8.ofNat x) = lin [245, 247, 243, 251, 235, 203, 139, 11] (UInt8.ofNat x))) = true := by kernel_rfl
theorem ad245 : Add (mulT 245) := fun x y => by have h := fun x => of_decide_eq_true (all_u8 (p := fun x => decide (mulT 245 x = lin [245, 247, 243, 251, 235, 203, 139, 11] x)) ln245 x); rw [h, h, h, lin_add]
def coefs : List UInt8 := [0, 1, 2, 3, 142, 143, 244, 245]
theorem ad_of {a : UInt8} (h : a ∈ coefs) : Add (mulT a) := by
 simp only [coefs, List.mem_cons, List.mem_nil_iff, or_false] at h
 rcases h with rfl | rfl | rfl | rfl | rfl | rfl | rfl | rfl
 ·exact ad0
 ·exact ad1
 ·exact ad2
 ·exact ad3
 ·exact ad142
 ·exact ad143
 ·exact ad244
 ·exact ad245
def mget (M : List B) (i j : Nat) : UInt8 := (M.getD i []).getD j 0
def coOk (M : List B) (k : Nat) : Bool := decide (M.length = k) && M.all fun r => decide (r.length = k) && r.all fun c => decide (c ∈ coefs)
def idOk (M N : List B) (k : Nat) : Bool := (List.range k).all fun r => (List.range k).all fun j => (List.range 8).all fun e => decide (xf (fun i => mulT (mget N r i) (mulT (mget M i j) (bas.getD e 0))) k = if r = j then bas.getD e 0 else 0)
theorem mem_coefs {M : List B} {k i j : Nat} (h : coOk M k = true) : mget M i j ∈ coefs := by
 unfold coOk at h
 rw [Bool.and_eq_true, List.all_eq_true] at h
 unfold mget
 by_cases hi : i < M.length
 ·have h1 := h.2 _ (List.getElem_mem hi)
  rw [Bool.and_eq_true, List.all_eq_true] at h1
  have e1 : M.getD i [] = M[i] := by simp [List.getD_eq_getElem?_getD, hi]
  rw [e1]
  by_cases hj : j < M[i].length
  ·have e2 : M[i].getD j 0 = M[i][j] := by simp [List.getD_eq_getElem?_getD, hj]
   rw [e2]
   exact of_decide_eq_true (h1.2 _ (List.getElem_mem hj))
  ·have e2 : M[i].getD j 0 = 0 := by simp [List.getD_eq_getElem?_getD, Nat.le_of_not_lt hj]
   rw [e2]; simp [coefs]
 ·have e1 : M.getD i [] = [] := by simp [List.getD_eq_getElem?_getD, Nat.le_of_not_lt hi]
  rw [e1]; simp [coefs]
theorem coOk_len {M : List B} {k : Nat} (h : coOk M k = true) : M.length = k ∧ ∀ r ∈ M, r.length = k := by
 unfold coOk at h
 rw [Bool.and_eq_true, List.all_eq_true] at h
 refine ⟨of_decide_eq_true h.1, fun r hr => ?_⟩
 have := h.2 r hr
 rw [Bool.and_eq_true] at this
 exact of_decide_eq_true this.1
theorem back_ok {M N : List B} {k : Nat} (hM : coOk M k = true) (hN : coOk N k = true) (h : idOk M N k = true) (p : Nat -> UInt8) (r : Nat) (hr : r < k) :
 xf (fun i => mulT (mget N r i) (xf (fun j => mulT (mget M i j) (p j)) k)) k = p r := by
 have aN : ∀ i, Add (mulT (mget N r i)) := fun i => ad_of (mem_coefs hN)
 have aM : ∀ i j, Add (mulT (mget M i j)) := fun i j => ad_of (mem_coefs hM)
 have one : ∀ j, j < k -> ∀ x, xf (fun i => mulT (mget N r i) (mulT (mget M i j) x)) k = if r = j then x else 0 := fun j hj x => by
  have hA : Add fun x => xf (fun i => mulT (mget N r i) (mulT (mget M i j) x)) k := Add.sum k fun i _ => (aN i).comp (aM i j)
  have hB : Add fun x : UInt8 => if r = j then x else 0 := fun x y => by dsimp only; split <;> simp
  refine hA.ext hB (fun e he => ?_) x
  have h1 := all_of (all_of (all_of h r hr) j hj) e he
  exact of_decide_eq_true h1
 have sw : ∀ n, xf (fun i => mulT (mget N r i) (xf (fun j => mulT (mget M i j) (p j)) n)) k = xf (fun j => xf (fun i => mulT (mget N r i) (mulT (mget M i j) (p j))) k) n := fun n => by
  induction n with
  | zero =>
   show xf (fun i => mulT (mget N r i) 0) k = 0
   have : ∀ m, xf (fun i => mulT (mget N r i) 0) m = 0 := fun m => by
    induction m with
    | zero => rfl
    | succ m ih => rw [xf, ih, (aN m).zero]; rfl
   exact this k
  | succ n ih =>
   simp only [xf]
   rw [← ih, ← xf_xor]
   exact xf_congr k fun i _ => aN i _ _
 rw [sw k]
 have pick : ∀ n, xf (fun j => if r = j then p j else 0) n = if r < n then p r else 0 := fun n => by
  induction n with
  | zero => rfl
  | succ n ih =>
   rw [xf, ih]
   by_cases c : r = n
   ·subst c; simp
   ·by_cases d : r < n
    ·rw [if_pos d, if_neg c, if_pos (by omega)]; simp
    ·rw [if_neg d, if_neg c, if_neg (by omega)]; rfl
 rw [xf_congr k (fun j hj => one j hj (p j)), pick, if_pos hr]
end Mx
end
section
open Go Go.Proofs Ev Sx
namespace Mx
def Sel (k n : Nat) (I : List Nat) : Prop := I.length = k ∧ I.Pairwise (· < ·) ∧ ∀ i ∈ I, i < n
theorem sel_cases {k n : Nat} (h1 : 1 <= k) (h2 : k <= n) (h3 : n <= 4) {I : List Nat} (h : Sel k n I) {P : Nat -> Nat -> List Nat -> Prop} (hp : P 1 1 [0] ∧ P 1 2 [0] ∧ P 1 2 [1] ∧ P 2 2 [0, 1] ∧ P 1 3 [0] ∧ P 1 3 [1] ∧ P 1 3 [2] ∧ P 2 3 [0, 1] ∧ P 2 3 [0, 2] ∧ P 2 3 [1, 2] ∧ P 3 3 [0, 1, 2] ∧ P 1 4 [0] ∧ P 1 4 [1] ∧ P 1 4 [2] ∧ P 1 4 [3] ∧ P 2 4 [0, 1] ∧ P 2 4 [0, 2] ∧ P 2 4 [0, 3] ∧ P 2 4 [1, 2] ∧ P 2 4 [1, 3] ∧ P 2 4 [2, 3] ∧ P 3 4 [0, 1, 2] ∧ P 3 4 [0, 1, 3] ∧ P 3 4 [0, 2, 3] ∧ P 3 4 [1, 2, 3] ∧ P 4 4 [0, 1, 2, 3]) : P k n I := by
 obtain ⟨c0, c1, c2, c3, c4, c5, c6, c7, c8, c9, c10, c11, c12, c13, c14, c15, c16, c17, c18, c19, c20, c21, c22, c23, c24, c25⟩ := hp
 obtain ⟨hl, hs, hb⟩ := h
 have hk : k = 1 ∨ k = 2 ∨ k = 3 ∨ k = 4 := by omega
 have hn : n = 1 ∨ n = 2 ∨ n = 3 ∨ n = 4 := by omega
 rcases hk with rfl | rfl | rfl | rfl
 ·match I, hl with
  | [a], _ =>
   simp only [List.mem_cons, List.mem_nil_iff, or_false, forall_eq] at hb
   rcases hn with rfl | rfl | rfl | rfl
   ·have : (a = 0) := by omega
    rcases this with rfl
    ·exact c0
   ·have : (a = 0) ∨ (a = 1) := by omega
    rcases this with rfl | rfl
    ·exact c1
    ·exact c2
   ·have : (a = 0) ∨ (a = 1) ∨ (a = 2) := by omega
    rcases this with rfl | rfl | rfl
    ·exact c4
    ·exact c5
    ·exact c6
   ·have : (a = 0) ∨ (a = 1) ∨ (a = 2) ∨ (a = 3) := by omega
    rcases this with rfl | rfl | rfl | rfl
    ·exact c11
    ·exact c12
    ·exact c13
    ·exact c14
 ·match I, hl with
  | [a, b], _ =>
   simp only [List.pairwise_cons, List.mem_cons, List.mem_nil_iff, or_false, forall_eq_or_imp, forall_eq] at hs hb
   rcases hn with rfl | rfl | rfl | rfl
   ·omega
   ·have : (a = 0 ∧ b = 1) := by omega
    rcases this with ⟨rfl, rfl⟩
    ·exact c3
   ·have : (a = 0 ∧ b = 1) ∨ (a = 0 ∧ b = 2) ∨ (a = 1 ∧ b = 2) := by omega
    rcases this with ⟨rfl, rfl⟩ | ⟨rfl, rfl⟩ | ⟨rfl, rfl⟩
    ·exact c7
    ·exact c8
    ·exact c9
   ·have : (a = 0 ∧ b = 1) ∨ (a = 0 ∧ b = 2) ∨ (a = 0 ∧ b = 3) ∨ (a = 1 ∧ b = 2) ∨ (a = 1 ∧ b = 3) ∨ (a = 2 ∧ b = 3) := by omega
    rcases this with ⟨rfl, rfl⟩ | ⟨rfl, rfl⟩ | ⟨rfl, rfl⟩ | ⟨rfl, rfl⟩ | ⟨rfl, rfl⟩ | ⟨rfl, rfl⟩
    ·exact c15
    ·exact c16
    ·exact c17
    ·exact c18
    ·exact c19
    ·exact c20
 ·match I, hl with
  | [a, b, c], _ =>
   simp only [List.pairwise_cons, List.mem_cons, List.mem_nil_iff, or_false, forall_eq_or_imp, forall_eq] at hs hb
   rcases hn with rfl | rfl | rfl | rfl
   ·omega
   ·omega
   ·have : (a = 0 ∧ b = 1 ∧ c = 2) := by omega
    rcases this with ⟨rfl, rfl, rfl⟩
    ·exact c10
   ·have : (a = 0 ∧ b = 1 ∧ c = 2) ∨ (a = 0 ∧ b = 1 ∧ c = 3) ∨ (a = 0 ∧ b = 2 ∧ c = 3) ∨ (a = 1 ∧ b = 2 ∧ c = 3) := by omega
    rcases this with ⟨rfl, rfl, rfl⟩ | ⟨rfl, rfl, rfl⟩ | ⟨rfl, rfl, rfl⟩ | ⟨rfl, rfl, rfl⟩
    ·exact c21
    ·exact c22
    ·exact c23
    ·exact c24
 ·match I, hl with
  | [a, b, c, d], _ =>
   simp only [List.pairwise_cons, List.mem_cons, List.mem_nil_iff, or_false, forall_eq_or_imp, forall_eq] at hs hb
   rcases hn with rfl | rfl | rfl | rfl
   ·omega
   ·omega
   ·omega
   ·have : (a = 0 ∧ b = 1 ∧ c = 2 ∧ d = 3) := by omega
    rcases this with ⟨rfl, rfl, rfl, rfl⟩
    ·exact c25
def rowsI (k n : Nat) (I : List Nat) : List B := I.map fun i => (MT k n).getD i []
def InvOk (k n : Nat) (I : List Nat) : Prop := ∃ N, f121 (rowsI k n I) = some (N, 0) ∧ coOk (rowsI k n I) k = true ∧ coOk N k = true ∧ idOk (rowsI k n I) N k = true ∧ f476 (MT k n) (I.map fun (i : Nat) => (i : Int)) = some (rowsI k n I, 0)
theorem id_0 : coOk [[1]] 1 = true ∧ coOk [[1]] 1 = true ∧ idOk [[1]] [[1]] 1 = true := ⟨by kernel_rfl, by kernel_rfl, by kernel_rfl⟩
theorem id_1 : coOk [[1, 0], [0, 1]] 2 = true ∧ coOk [[1, 0], [0, 1]] 2 = true ∧ idOk [[1, 0], [0, 1]] [[1, 0], [0, 1]] 2 = true := ⟨by kernel_rfl, by kernel_rfl, by kernel_rfl⟩
theorem id_2 : coOk [[1, 0], [3, 2]] 2 = true ∧ coOk [[1, 0], [143, 142]] 2 = true ∧ idOk [[1, 0], [3, 2]] [[1, 0], [143, 142]] 2 = true := ⟨by kernel_rfl, by kernel_rfl, by kernel_rfl⟩
theorem id_3 : coOk [[0, 1], [3, 2]] 2 = true ∧ coOk [[245, 244], [1, 0]] 2 = true ∧ idOk [[0, 1], [3, 2]] [[245, 244], [1, 0]] 2 = true := ⟨by kernel_rfl, by kernel_rfl, by kernel_rfl⟩
theorem id_4 : coOk [[1, 0, 0], [0, 1, 0], [0, 0, 1]] 3 = true ∧ coOk [[1, 0, 0], [0, 1, 0], [0, 0, 1]] 3 = true ∧ idOk [[1, 0, 0], [0, 1, 0], [0, 0, 1]] [[1, 0, 0], [0, 1, 0], [0, 0, 1]] 3 = true := ⟨by kernel_rfl, by kernel_rfl, by kernel_rfl⟩
theorem id_5 : coOk [[1, 0], [2, 3]] 2 = true ∧ coOk [[1, 0], [245, 244]] 2 = true ∧ idOk [[1, 0], [2, 3]] [[1, 0], [245, 244]] 2 = true := ⟨by kernel_rfl, by kernel_rfl, by kernel_rfl⟩
theorem id_6 : coOk [[0, 1], [2, 3]] 2 = true ∧ coOk [[143, 142], [1, 0]] 2 = true ∧ idOk [[0, 1], [2, 3]] [[143, 142], [1, 0]] 2 = true := ⟨by kernel_rfl, by kernel_rfl, by kernel_rfl⟩
theorem id_7 : coOk [[3, 2], [2, 3]] 2 = true ∧ coOk [[3, 2], [2, 3]] 2 = true ∧ idOk [[3, 2], [2, 3]] [[3, 2], [2, 3]] 2 = true := ⟨by kernel_rfl, by kernel_rfl, by kernel_rfl⟩
theorem id_8 : coOk [[1, 0, 0], [0, 1, 0], [1, 1, 1]] 3 = true ∧ coOk [[1, 0, 0], [0, 1, 0], [1, 1, 1]] 3 = true ∧ idOk [[1, 0, 0], [0, 1, 0], [1, 1, 1]] [[1, 0, 0], [0, 1, 0], [1, 1, 1]] 3 = true := ⟨by kernel_rfl, by kernel_rfl, by kernel_rfl⟩
theorem id_9 : coOk [[1, 0, 0], [0, 0, 1], [1, 1, 1]] 3 = true ∧ coOk [[1, 0, 0], [1, 1, 1], [0, 1, 0]] 3 = true ∧ idOk [[1, 0, 0], [0, 0, 1], [1, 1, 1]] [[1, 0, 0], [1, 1, 1], [0, 1, 0]] 3 = true := ⟨by kernel_rfl, by kernel_rfl, by kernel_rfl⟩
theorem id_10 : coOk [[0, 1, 0], [0, 0, 1], [1, 1, 1]] 3 = true ∧ coOk [[1, 1, 1], [1, 0, 0], [0, 1, 0]] 3 = true ∧ idOk [[0, 1, 0], [0, 0, 1], [1, 1, 1]] [[1, 1, 1], [1, 0, 0], [0, 1, 0]] 3 = true := ⟨by kernel_rfl, by kernel_rfl, by kernel_rfl⟩
theorem id_11 : coOk [[1, 0, 0, 0], [0, 1, 0, 0], [0, 0, 1, 0], [0, 0, 0, 1]] 4 = true ∧ coOk [[1, 0, 0, 0], [0, 1, 0, 0], [0, 0, 1, 0], [0, 0, 0, 1]] 4 = true ∧ idOk [[1, 0, 0, 0], [0, 1, 0, 0], [0, 0, 1, 0], [0, 0, 0, 1]] [[1, 0, 0, 0], [0, 1, 0, 0], [0, 0, 1, 0], [0, 0, 0, 1]] 4 = true := ⟨by kernel_rfl, by kernel_rfl, by kernel_rfl⟩
theorem v476_0 : f476 [[1]] [0] = some ([[1]], 0) := by kernel_rfl
theorem iv_0 : InvOk 1 1 [0] := ⟨_, (k121 [[1]]).trans b121_0, id_0.1, id_0.2.1, id_0.2.2, v476_0⟩
theorem v476_1 : f476 [[1], [1]] [0] = some ([[1]], 0) := by kernel_rfl
theorem iv_1 : InvOk 1 2 [0] := ⟨_, (k121 [[1]]).trans b121_0, id_0.1, id_0.2.1, id_0.2.2, v476_1⟩
theorem v476_2 : f476 [[1], [1]] [1] = some ([[1]], 0) := by kernel_rfl
theorem iv_2 : InvOk 1 2 [1] := ⟨_, (k121 [[1]]).trans b121_0, id_0.1, id_0.2.1, id_0.2.2, v476_2⟩
theorem v476_3 : f476 [[1, 0], [0, 1]] [0, 1] = some ([[1, 0], [0, 1]], 0) := by kernel_rfl
theorem iv_3 : InvOk 2 2 [0, 1] := ⟨_, (k121 [[1, 0], [0, 1]]).trans b121_1, id_1.1, id_1.2.1, id_1.2.2, v476_3⟩
theorem v476_4 : f476 [[1], [1], [1]] [0] = some ([[1]], 0) := by kernel_rfl
theorem iv_4 : InvOk 1 3 [0] := ⟨_, (k121 [[1]]).trans b121_0, id_0.1, id_0.2.1, id_0.2.2, v476_4⟩
theorem v476_5 : f476 [[1], [1], [1]] [1] = some ([[1]], 0) := by kernel_rfl
theorem iv_5 : InvOk 1 3 [1] := ⟨_, (k121 [[1]]).trans b121_0, id_0.1, id_0.2.1, id_0.2.2, v476_5⟩
theorem v476_6 : f476 [[1], [1], [1]] [2] = some ([[1]], 0) := by kernel_rfl
theorem iv_6 : InvOk 1 3 [2] := ⟨_, (k121 [[1]]).trans b121_0, id_0.1, id_0.2.1, id_0.2.2, v476_6⟩
theorem v476_7 : f476 [[1, 0], [0, 1], [3, 2]] [0, 1] = some ([[1, 0], [0, 1]], 0) := by kernel_rfl
theorem iv_7 : InvOk 2 3 [0, 1] := ⟨_, (k121 [[1, 0], [0, 1]]).trans b121_1, id_1.1, id_1.2.1, id_1.2.2, v476_7⟩
theorem v476_8 : f476 [[1, 0], [0, 1], [3, 2]] [0, 2] = some ([[1, 0], [3, 2]], 0) := by kernel_rfl
theorem iv_8 : InvOk 2 3 [0, 2] := ⟨_, (k121 [[1, 0], [3, 2]]).trans b121_2, id_2.1, id_2.2.1, id_2.2.2, v476_8⟩
theorem v476_9 : f476 [[1, 0], [0, 1], [3, 2]] [1, 2] = some ([[0, 1], [3, 2]], 0) := by kernel_rfl
theorem iv_9 : InvOk 2 3 [1, 2] := ⟨_, (k121 [[0, 1], [3, 2]]).trans b121_3, id_3.1, id_3.2.1, id_3.2.2, v476_9⟩
theorem v476_10 : f476 [[1, 0, 0], [0, 1, 0], [0, 0, 1]] [0, 1, 2] = some ([[1, 0, 0], [0, 1, 0], [0, 0, 1]], 0) := by kernel_rfl
theorem iv_10 : InvOk 3 3 [0, 1, 2] := ⟨_, (k121 [[1, 0, 0], [0, 1, 0], [0, 0, 1]]).trans b121_4, id_4.1, id_4.2.1, id_4.2.2, v476_10⟩
theorem v476_11 : f476 [[1], [1], [1], [1]] [0] = some ([[1]], 0) := by kernel_rfl
theorem iv_11 : InvOk 1 4 [0] := ⟨_, (k121 [[1]]).trans b121_0, id_0.1, id_0.2.1, id_0.2.2, v476_11⟩
theorem v476_12 : f476 [[1], [1], [1], [1]] [1] = some ([[1]], 0) := by kernel_rfl
theorem iv_12 : InvOk 1 4 [1] := ⟨_, (k121 [[1]]).trans b121_0, id_0.1, id_0.2.1, id_0.2.2, v476_12⟩
theorem v476_13 : f476 [[1], [1], [1], [1]] [2] = some ([[1]], 0) := by kernel_rfl
theorem iv_13 : InvOk 1 4 [2] := ⟨_, (k121 [[1]]).trans b121_0, id_0.1, id_0.2.1, id_0.2.2, v476_13⟩
theorem v476_14 : f476 [[1], [1], [1], [1]] [3] = some ([[1]], 0) := by kernel_rfl
theorem iv_14 : InvOk 1 4 [3] := ⟨_, (k121 [[1]]).trans b121_0, id_0.1, id_0.2.1, id_0.2.2, v476_14⟩
theorem v476_15 : f476 [[1, 0], [0, 1], [3, 2], [2, 3]] [0, 1] = some ([[1, 0], [0, 1]], 0) := by kernel_rfl
theorem iv_15 : InvOk 2 4 [0, 1] := ⟨_, (k121 [[1, 0], [0, 1]]).trans b121_1, id_1.1, id_1.2.1, id_1.2.2, v476_15⟩
theorem v476_16 : f476 [[1, 0], [0, 1], [3, 2], [2, 3]] [0, 2] = some ([[1, 0], [3, 2]], 0) := by kernel_rfl
theorem iv_16 : InvOk 2 4 [0, 2] := ⟨_, (k121 [[1, 0], [3, 2]]).trans b121_2, id_2.1, id_2.2.1, id_2.2.2, v476_16⟩
theorem v476_17 : f476 [[1, 0], [0, 1], [3, 2], [2, 3]] [0, 3] = some ([[1, 0], [2, 3]], 0) := by kernel_rfl
theorem iv_17 : InvOk 2 4 [0, 3] := ⟨_, (k121 [[1, 0], [2, 3]]).trans b121_5, id_5.1, id_5.2.1, id_5.2.2, v476_17⟩
theorem v476_18 : f476 [[1, 0], [0, 1], [3, 2], [2, 3]] [1, 2] = some ([[0, 1], [3, 2]], 0) := by kernel_rfl
theorem iv_18 : InvOk 2 4 [1, 2] := ⟨_, (k121 [[0, 1], [3, 2]]).trans b121_3, id_3.1, id_3.2.1, id_3.2.2, v476_18⟩
theorem v476_19 : f476 [[1, 0], [0, 1], [3, 2], [2, 3]] [1, 3] = some ([[0, 1], [2, 3]], 0) := by kernel_rfl
theorem iv_19 : InvOk 2 4 [1, 3] := ⟨_, (k121 [[0, 1], [2, 3]]).trans b121_6, id_6.1, id_6.2.1, id_6.2.2, v476_19⟩
theorem v476_20 : f476 [[1, 0], [0, 1], [3, 2], [2, 3]] [2, 3] = some ([[3, 2], [2, 3]], 0) := by kernel_rfl
theorem iv_20 : InvOk 2 4 [2, 3] := ⟨_, (k121 [[3, 2], [2, 3]]).trans b121_7, id_7.1, id_7.2.1, id_7.2.2, v476_20⟩
theorem v476_21 : f476 [[1, 0, 0], [0, 1, 0], [0, 0, 1], [1, 1, 1]] [0, 1, 2] = some ([[1, 0, 0], [0, 1, 0], [0, 0, 1]], 0) := by kernel_rfl
theorem iv_21 : InvOk 3 4 [0, 1, 2] := ⟨_, (k121 [[1, 0, 0], [0, 1, 0], [0, 0, 1]]).trans b121_4, id_4.1, id_4.2.1, id_4.2.2, v476_21⟩
theorem v476_22 : f476 [[1, 0, 0], [0, 1, 0], [0, 0, 1], [1, 1, 1]] [0, 1, 3] = some ([[1, 0, 0], [0, 1, 0], [1, 1, 1]], 0) := by kernel_rfl
theorem iv_22 : InvOk 3 4 [0, 1, 3] := ⟨_, (k121 [[1, 0, 0], [0, 1, 0], [1, 1, 1]]).trans b121_8, id_8.1, id_8.2.1, id_8.2.2, v476_22⟩
theorem v476_23 : f476 [[1, 0, 0], [0, 1, 0], [0, 0, 1], [1, 1, 1]] [0, 2, 3] = some ([[1, 0, 0], [0, 0, 1], [1, 1, 1]], 0) := by kernel_rfl
theorem iv_23 : InvOk 3 4 [0, 2, 3] := ⟨_, (k121 [[1, 0, 0], [0, 0, 1], [1, 1, 1]]).trans b121_9, id_9.1, id_9.2.1, id_9.2.2, v476_23⟩
theorem v476_24 : f476 [[1, 0, 0], [0, 1, 0], [0, 0, 1], [1, 1, 1]] [1, 2, 3] = some ([[0, 1, 0], [0, 0, 1], [1, 1, 1]], 0) := by kernel_rfl
theorem iv_24 : InvOk 3 4 [1, 2, 3] := ⟨_, (k121 [[0, 1, 0], [0, 0, 1], [1, 1, 1]]).trans b121_10, id_10.1, id_10.2.1, id_10.2.2, v476_24⟩
theorem v476_25 : f476 [[1, 0, 0, 0], [0, 1, 0, 0], [0, 0, 1, 0], [0, 0, 0, 1]] [0, 1, 2, 3] = some ([[1, 0, 0, 0], [0, 1, 0, 0], [0, 0, 1, 0], [0, 0, 0, 1]], 0) := by kernel_rfl
theorem iv_25 : InvOk 4 4 [0, 1, 2, 3] := ⟨_, (k121 [[1, 0, 0, 0], [0, 1, 0, 0], [0, 0, 1, 0], [0, 0, 0, 1]]).trans b121_11, id_11.1, id_11.2.1, id_11.2.2, v476_25⟩
theorem invOk {k n : Nat} (h1 : 1 <= k) (h2 : k <= n) (h3 : n <= 4) {I : List Nat} (h : Sel k n I) : InvOk k n I := sel_cases h1 h2 h3 h ⟨iv_0, iv_1, iv_2, iv_3, iv_4, iv_5, iv_6, iv_7, iv_8, iv_9, iv_10, iv_11, iv_12, iv_13, iv_14, iv_15, iv_16, iv_17, iv_18, iv_19, iv_20, iv_21, iv_22, iv_23, iv_24, iv_25⟩
end Mx
end
section
open Go Go.Proofs Ev Sx
namespace Mx
theorem encR_len (p : B) (L k : Nat) (m : B) : (encR p L k m).length = L := by simp [encR]
theorem encR_get (p : B) (L k : Nat) (m : B) (x : Nat) (h : x < L) : (encR p L k m).getD x 0 = xf (fun j => mulT (m.getD j 0) (p.getD (L * j + x) 0)) k := by
 rw [encR, gd_range _ _ _ _ h]
theorem flat_len (L : Nat) : ∀ l : List B, (∀ b ∈ l, b.length = L) -> l.flatten.length = L * l.length
 | [], _ => by simp
 | b :: l, h => by rw [List.flatten_cons, List.length_append, flat_len L l (fun c hc => h c (List.mem_cons_of_mem _ hc)), h b List.mem_cons_self, List.length_cons, Nat.mul_succ]; omega
theorem flat_get (L : Nat) : ∀ (l : List B), (∀ b ∈ l, b.length = L) -> ∀ j x, j < l.length -> x < L -> l.flatten.getD (L * j + x) 0 = (l.getD j []).getD x 0
 | b :: l, h, 0, x, _, hx => by
  have := h b List.mem_cons_self
  rw [List.flatten_cons, Nat.mul_zero, Nat.zero_add, gd_app_left (by omega)]; rfl
 | b :: l, h, j + 1, x, hj, hx => by
  have := h b List.mem_cons_self
  rw [List.flatten_cons, gd_app_right (by rw [Nat.mul_succ]; omega), Nat.mul_succ, show L * j + L + x - b.length = L * j + x by omega,
   flat_get L l (fun c hc => h c (List.mem_cons_of_mem _ hc)) j x (by simpa using hj) hx]; rfl
theorem flat_rows (L : Nat) (l : List B) (h : ∀ b ∈ l, b.length = L) : (List.range l.length).map (fun j => (l.flatten.drop (L * j)).take L) = l := by
 induction l with
 | nil => rfl
 | cons b l ih =>
  have hb := h b List.mem_cons_self
  have hc := ih fun c hc => h c (List.mem_cons_of_mem _ hc)
  rw [List.length_cons, List.range_succ_eq_map, List.map_cons, List.map_map, List.flatten_cons]
  have e0 : ((b ++ l.flatten).drop (L * 0)).take L = b := by rw [Nat.mul_zero, List.drop_zero, List.take_append_of_le_length (by omega), List.take_of_length_le (by omega)]
  rw [e0]
  congr 1
  refine Eq.trans (List.map_congr_left fun j _ => ?_) hc
  dsimp only [Function.comp]
  rw [Nat.mul_succ, List.drop_append, List.drop_eq_nil_of_le (by omega), List.nil_append, show L * j + L - b.length = L * j by omega]
theorem chunks (p : B) (L : Nat) : ∀ k, p.length = L * k -> ((List.range k).map fun r => (p.drop (L * r)).take L).flatten = p
 | 0, h => by simp at h; simp [h]
 | k + 1, h => by
  rw [List.range_succ, List.map_append, List.flatten_append]
  have hle : L * k <= p.length := by rw [h]; exact Nat.mul_le_mul_left L (by omega)
  have h1 := chunks (p.take (L * k)) L k (by rw [List.length_take]; omega)
  have h2 : (List.range k).map (fun r => (p.drop (L * r)).take L) = (List.range k).map fun r => ((p.take (L * k)).drop (L * r)).take L := by
   refine List.map_congr_left fun r hr => ?_
   have hr' := List.mem_range.1 hr
   have : L * (r + 1) <= L * k := Nat.mul_le_mul_left L hr'
   rw [Nat.mul_succ] at this
   rw [List.drop_take, List.take_take, Nat.min_eq_left (by omega)]
  rw [h2, h1]
  simp only [List.map_cons, List.map_nil, List.flatten_cons, List.flatten_nil, List.append_nil]
  rw [List.take_of_length_le (l := p.drop (L * k)) (by rw [List.length_drop, h, Nat.mul_succ]; omega), List.take_append_drop]
theorem row_ext {f : Nat -> UInt8} {p : B} {L a : Nat} (h : ∀ x, x < L -> f x = p.getD (a + x) 0) (hp : a + L <= p.length) : (List.range L).map f = (p.drop a).take L := by
 apply List.ext_getElem (by simp; omega)
 intro i h1 h2
 have hi : i < L := by simpa using h1
 rw [List.getElem_map, List.getElem_range, h i hi]
 simp only [List.getElem_take, List.getElem_drop]
 rw [List.getD_eq_getElem?_getD, List.getElem?_eq_getElem (by omega)]; rfl
def dOf (k n : Nat) (p : B) (i : Nat) : B := encR p (p.length / k) k ((MT k n).getD i [])
section
variable {k n : Nat} (h1 : 1 <= k) (h2 : k <= n) (h3 : n <= 4) {I : List Nat} (hI : Sel k n I) (s : B) (hs : s.length <= 10000)
include h1 h2 h3 hI hs
theorem work_back : ∃ N : List B, f121 (rowsI k n I) = some (N, 0) ∧ f476 (MT k n) (I.map fun (i : Nat) => (i : Int)) = some (rowsI k n I, 0) ∧
 f124 N (I.map (dOf k n (padK s k))) = some ((List.range k).map fun r => ((padK s k).drop ((padK s k).length / k * r)).take ((padK s k).length / k)) := by
 obtain ⟨N, e1, cM, cN, hid, e2⟩ := invOk h1 h2 h3 hI
 refine ⟨N, e1, e2, ?_⟩
 have hpl := pad_len s k h1
 have hle := padK_le s k h1
 unfold dOf
 generalize padK s k = p at *
 generalize hL : p.length / k = L at *
 have hrow : ∀ b ∈ I.map (fun i => encR p L k ((MT k n).getD i [])), b.length = L := fun b hb => by
  obtain ⟨i, _, rfl⟩ := List.mem_map.1 hb; exact encR_len _ _ _ _
 have hlen : (I.map (fun i => encR p L k ((MT k n).getD i []))).length = k := by rw [List.length_map]; exact hI.1
 have hfl := flat_len L _ hrow
 rw [hlen] at hfl
 have hfr := flat_rows L _ hrow
 rw [hlen] at hfr
 obtain ⟨lN, rN⟩ := coOk_len cN
 have key := p124 (I.map (fun i => encR p L k ((MT k n).getD i []))).flatten L k h1 hfl (by rw [hfl]; omega) N rN (by omega) (by omega)
 rw [hfr] at key
 refine key.trans (congrArg some ?_)
 apply List.ext_getElem (by simp [lN])
 intro r hr1 hr2
 have hr : r < k := by simpa using hr2
 have hrL : L * r + L <= p.length := by
  have : L * (r + 1) <= L * k := Nat.mul_le_mul_left L hr
  rw [Nat.mul_succ] at this; omega
 rw [List.getElem_map, List.getElem_map, List.getElem_range]
 have eN : ∀ j, N[r].getD j 0 = mget N r j := fun j => by
  unfold mget
  have : N.getD r [] = N[r] := by simp [List.getD_eq_getElem?_getD, show r < N.length by omega]
  rw [this]
 have eM : ∀ j t, j < k -> mget (rowsI k n I) j t = ((MT k n).getD (I.getD j 0) []).getD t 0 := fun j t hj => by
  unfold mget rowsI
  rw [gd_map I (fun i => (MT k n).getD i []) j 0 [] (by rw [hI.1]; exact hj)]
 have eP : ∀ j x, j < k -> x < L -> (I.map (fun i => encR p L k ((MT k n).getD i []))).flatten.getD (L * j + x) 0 = xf (fun t => mulT (mget (rowsI k n I) j t) (p.getD (L * t + x) 0)) k := fun j x hj hx => by
  rw [flat_get L _ hrow j x (by rw [hlen]; exact hj) hx, gd_map I (fun i => encR p L k ((MT k n).getD i [])) j 0 [] (by rw [hI.1]; exact hj), encR_get _ _ _ _ _ hx]
  exact xf_congr k fun t _ => by rw [eM j t hj]
 generalize (I.map (fun i => encR p L k ((MT k n).getD i []))).flatten = P at *
 unfold encR
 refine row_ext (fun x hx => ?_) hrL
 rw [← back_ok cM cN hid (fun t => p.getD (L * t + x) 0) r hr]
 exact xf_congr k fun j hj => by rw [eN, eP j x hj hx]
theorem p410 : f410 ((k : Int), (n : Int), MT k n, ()) (I.map fun (i : Nat) => ((i : Int), dOf k n (padK s k) i, ())) = some (padK s k, 0) := by
 obtain ⟨N, e1, e2, e3⟩ := work_back h1 h2 h3 hI s hs
 obtain ⟨hl, hso, hb⟩ := hI
 have hdl : ∀ i, (dOf k n (padK s k) i).length = (padK s k).length / k := fun i => encR_len _ _ _ _
 have hpl := pad_len s k h1
 rw [e410, t410, List.length_map, hl]
 dsimp only
 rw [cd_neg (by simp)]
 have hle := padK_le s k h1
 generalize padK s k = p at *
 have hat : ∀ i : Nat, (hi : i < k) -> at? (I.map fun (i : Nat) => ((i : Int), dOf k n p i, ())) (i : Int) = some ((I[i] : Int), dOf k n p I[i], ()) := fun i hi => by
  rw [at_lt (by simp; omega), List.getElem_map]
 refine it_bind (fun i => ((I.take i).map (fun (i : Nat) => (i : Int)), (I.take i).map (dOf k n p), (i : Int))) k (.inl (I.map (fun (i : Nat) => (i : Int)), I.map (dOf k n p))) rfl ?_ ?_ (by omega) ?_
 ·intro i hi
  have hbi := hb _ (List.getElem_mem (show i < I.length by omega))
  dsimp only
  rw [cd_pos (by omega), bs (hat i hi), cd_neg (by dsimp only; omega), cd_neg (by dsimp only; omega)]
  have h0 : at? (I.map fun (i : Nat) => ((i : Int), dOf k n p i, ())) 0 = _ := hat 0 (by omega)
  refine bt (a := false) ?_ ?_
  ·rw [bs h0, hdl, hdl]; simp
  rw [cb_f]
  have hc : cut? (I.map fun (i : Nat) => ((i : Int), dOf k n p i, ())) 0 (i : Int) = some (((I.map fun (i : Nat) => ((i : Int), dOf k n p i, ())).drop 0).take (i - 0)) := cut_nat (a := 0) (by omega) (by simp; omega)
  rw [bs hc, List.drop_zero, Nat.sub_zero]
  refine it_bind (fun j => (j : Int)) i (.inl ()) rfl ?_ ?_ (by omega) ?_
  ·intro j hj
   have hat2 : at? ((I.map fun (i : Nat) => ((i : Int), dOf k n p i, ())).take i) (j : Int) = some ((I[j] : Int), dOf k n p I[j], ()) := by
    rw [at_nat, List.getElem?_take, if_pos hj, ← at_nat, hat j (by omega)]
   have hlt := List.pairwise_iff_getElem.1 hso j i (by omega) (by omega) hj
   rw [List.length_take, List.length_map, cd_pos (by omega), bs hat2, cd_neg (by dsimp only; omega), addI_1 (by omega)]
  ·rw [List.length_take, List.length_map, cd_neg (by omega)]
  ·show (app? _ _).bind _ = _
   rw [bs (app_ok (by simp; omega)), bs (app_ok (by simp; omega)), addI_1 (by omega), tk I i (by omega), List.map_append, List.map_append]; rfl
 ·dsimp only
  rw [cd_neg (by omega), List.take_of_length_le (by omega)]
 ·show (f476 (MT k n) (I.map fun (i : Nat) => (i : Int))).bind _ = _
  rw [bs e2, bs e1, cd_neg (by simp), bs e3]
  have hrl : ∀ r : Nat, r < k -> at? ((List.range k).map fun r => (p.drop (p.length / k * r)).take (p.length / k)) (r : Int) = some ((p.drop (p.length / k * r)).take (p.length / k)) := fun r hr => by
   rw [at_lt (by simpa using hr), List.getElem_map, List.getElem_range]
  have hfl : ∀ r, ((List.range r).map fun r => (p.drop (p.length / k * r)).take (p.length / k)).flatten.length <= r * (p.length / k) := fun r => by
   induction r with
   | zero => simp
   | succ r ih => rw [List.range_succ, List.map_append, List.flatten_append, List.length_append, Nat.succ_mul, List.map_cons, List.map_nil, List.flatten_cons, List.flatten_nil, List.append_nil, List.length_take]; omega
  refine it_bind (fun r => (((List.range r).map fun r => (p.drop (p.length / k * r)).take (p.length / k)).flatten, (r : Int))) k p rfl ?_ ?_ (by omega) rfl
  ·intro r hr
   have := hfl r
   have hm : r * (p.length / k) <= k * (p.length / k) := Nat.mul_le_mul_right _ (by omega)
   have hd := Nat.div_le_self p.length k
   have hm2 : k * (p.length / k) = p.length / k * k := Nat.mul_comm _ _
   dsimp only
   rw [List.length_map, List.length_range, cd_pos (by omega), bs (hrl r hr), bs (app_ok (by rw [List.length_take]; omega)), addI_1 (by omega), List.range_succ, List.map_append, List.flatten_append]
   simp
  ·dsimp only
   rw [List.length_map, List.length_range, cd_neg (by omega), chunks p _ k hpl]
end
end Mx
end
