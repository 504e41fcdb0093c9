/- The functional readings of the functions as plain Lean terms, second part. No conditions. -/
import Derived.Test.YtooldamajjbeoaaGreatDoorF
set_option linter.unusedVariables false
set_option linter.unusedSimpArgs false
set_option linter.unusedSectionVars false
set_option maxRecDepth 100000
section
open Go Go.Proofs Ev Sx
namespace Mx
def hadd (v : Vector UInt32 8) (i : Nat) (a : UInt32) : Vector UInt32 8 := v.setIfInBounds i (v[i]?.getD (0 : UInt32) + a)
noncomputable def t82 (y42 : T42) (y118 : T118) (y119 : T119) (x0 : List UInt8) : Option (Vector UInt8 32) := (y118).bind fun (r : Vector UInt32 64) => (fits? x0).bind fun (ys : List UInt8) => (app? ys [(128 : UInt8)]).bind fun (zs : List UInt8) => (iter (fun (x : List UInt8) => (remI (↑x.length : Int) (64 : Int)).bind fun (c : Int) => bif decide (c ≠ (56 : Int)) then (app? x [(0 : UInt8)]).bind fun (zs : List UInt8) => some (Sum.inl zs) else some (Sum.inr x)) zs).bind fun (y : List UInt8) => (y42 (mulI (8 : Int) (↑x0.length : Int)) (8 : Int)).bind fun (r_1 : List UInt8) => (app? y r_1).bind fun (zs : List UInt8) => (iter (fun (x : Int × Vector UInt32 8) => bif decide (x.1 < (↑zs.length : Int)) then (iter (fun (x_1 : Int × Vector UInt32 64) => bif decide (x_1.1 < (16 : Int)) then if (0 : Int) <= addI x.1 (mulI (4 : Int) x_1.1) ∧ addI x.1 (mulI (4 : Int) x_1.1) <= (↑zs.length : Int) ∧ (↑zs.length : Int) <= (↑zs.length : Int) then if (0 : Int) <= (0 : Int) ∧ (0 : Int) < (↑((↑zs.length : Int).toNat - (addI x.1 (mulI (4 : Int) x_1.1)).toNat) : Int) then if (0 : Int) <= (1 : Int) ∧ (1 : Int) < (↑((↑zs.length : Int).toNat - (addI x.1 (mulI (4 : Int) x_1.1)).toNat) : Int) then if (0 : Int) <= (2 : Int) ∧ (2 : Int) < (↑((↑zs.length : Int).toNat - (addI x.1 (mulI (4 : Int) x_1.1)).toNat) : Int) then if (0 : Int) <= (3 : Int) ∧ (3 : Int) < (↑((↑zs.length : Int).toNat - (addI x.1 (mulI (4 : Int) x_1.1)).toNat) : Int) then if (0 : Int) <= x_1.1 ∧ x_1.1 < (64 : Int) then some (Sum.inl (addI x_1.1 (1 : Int), x_1.2.setIfInBounds x_1.1.toNat (shl32 (UInt32.ofInt (↑(zs.getD ((addI x.1 (mulI (4 : Int) x_1.1)).toNat + (0 : Nat)) (0 : UInt8)).toNat : Int)) (24 : Nat) ||| shl32 (UInt32.ofInt (↑(zs.getD ((addI x.1 (mulI (4 : Int) x_1.1)).toNat + (1 : Nat)) (0 : UInt8)).toNat : Int)) 16 ||| shl32 (UInt32.ofInt (↑(zs.getD ((addI x.1 (mulI (4 : Int) x_1.1)).toNat + 2) (0 : UInt8)).toNat : Int)) 8 ||| UInt32.ofInt (↑(zs.getD ((addI x.1 (mulI (4 : Int) x_1.1)).toNat + (3 : Nat)) (0 : UInt8)).toNat : Int)))) else none else none else none else none else none else none else some (Sum.inr x_1.2)) ((0 : Int), Vector.replicate 64 (0 : UInt32))).bind fun (y : Vector UInt32 64) => (iter (fun (x : Int × Vector UInt32 64) => bif decide (x.1 < (64 : Int)) then if (0 : Int) <= subI x.1 (15 : Int) ∧ subI x.1 (15 : Int) < (64 : Int) then if (0 : Int) <= subI x.1 (2 : Int) ∧ subI x.1 (2 : Int) < (64 : Int) then if (0 : Int) <= subI x.1 (16 : Int) ∧ subI x.1 (16 : Int) < (64 : Int) then (y119 (x.2[(subI x.1 (15 : Int)).toNat]?.getD (0 : UInt32)) (7 : UInt64)).bind fun (r : UInt32) => (y119 (x.2[(subI x.1 (15 : Int)).toNat]?.getD (0 : UInt32)) (18 : UInt64)).bind fun (r_2 : UInt32) => if (0 : Int) <= subI x.1 (7 : Int) ∧ subI x.1 (7 : Int) < (64 : Int) then (y119 (x.2[(subI x.1 (2 : Int)).toNat]?.getD (0 : UInt32)) (17 : UInt64)).bind fun (r_3 : UInt32) => (y119 (x.2[(subI x.1 (2 : Int)).toNat]?.getD (0 : UInt32)) (19 : UInt64)).bind fun (r_4 : UInt32) => if (0 : Int) <= x.1 ∧ x.1 < (64 : Int) then some (Sum.inl (addI x.1 (1 : Int), x.2.setIfInBounds x.1.toNat (x.2[(subI x.1 (16 : Int)).toNat]?.getD (0 : UInt32) + (r ^^^ r_2 ^^^ shr32 (x.2[(subI x.1 (15 : Int)).toNat]?.getD (0 : UInt32)) (3 : Nat)) + x.2[(subI x.1 (7 : Int)).toNat]?.getD (0 : UInt32) + (r_3 ^^^ r_4 ^^^ shr32 (x.2[(subI x.1 (2 : Int)).toNat]?.getD (0 : UInt32)) (10 : Nat))))) else none else none else none else none else none else some (Sum.inr x.2)) ((16 : Int), y)).bind fun (y : Vector UInt32 64) => (iter (fun (x : UInt32 × UInt32 × UInt32 × UInt32 × UInt32 × UInt32 × UInt32 × UInt32 × Int) => bif decide (x.2.2.2.2.2.2.2.2 < (64 : Int)) then (y119 x.2.2.2.2.1 (6 : UInt64)).bind fun (r_2 : UInt32) => (y119 x.2.2.2.2.1 (11 : UInt64)).bind fun (r_3 : UInt32) => (y119 x.2.2.2.2.1 (25 : UInt64)).bind fun (r_4 : UInt32) => if (0 : Int) <= x.2.2.2.2.2.2.2.2 ∧ x.2.2.2.2.2.2.2.2 < (64 : Int) then if (0 : Int) <= x.2.2.2.2.2.2.2.2 ∧ x.2.2.2.2.2.2.2.2 < (64 : Int) then (y119 x.1 (2 : UInt64)).bind fun (r_5 : UInt32) => (y119 x.1 (13 : UInt64)).bind fun (r_6 : UInt32) => (y119 x.1 (22 : UInt64)).bind fun (r_7 : UInt32) => some (Sum.inl (x.2.2.2.2.2.2.2.1 + (r_2 ^^^ r_3 ^^^ r_4) + (x.2.2.2.2.1 &&& x.2.2.2.2.2.1 ^^^ ~~~x.2.2.2.2.1 &&& x.2.2.2.2.2.2.1) + r[x.2.2.2.2.2.2.2.2.toNat]?.getD (0 : UInt32) + y[x.2.2.2.2.2.2.2.2.toNat]?.getD (0 : UInt32) + ((r_5 ^^^ r_6 ^^^ r_7) + (x.1 &&& x.2.1 ^^^ x.1 &&& x.2.2.1 ^^^ x.2.1 &&& x.2.2.1)), x.1, x.2.1, x.2.2.1, x.2.2.2.1 + (x.2.2.2.2.2.2.2.1 + (r_2 ^^^ r_3 ^^^ r_4) + (x.2.2.2.2.1 &&& x.2.2.2.2.2.1 ^^^ ~~~x.2.2.2.2.1 &&& x.2.2.2.2.2.2.1) + r[x.2.2.2.2.2.2.2.2.toNat]?.getD (0 : UInt32) + y[x.2.2.2.2.2.2.2.2.toNat]?.getD (0 : UInt32)), x.2.2.2.2.1, x.2.2.2.2.2.1, x.2.2.2.2.2.2.1, addI x.2.2.2.2.2.2.2.2 (1 : Int))) else none else none else some (Sum.inr (x.1, x.2.1, x.2.2.1, x.2.2.2.1, x.2.2.2.2.1, x.2.2.2.2.2.1, x.2.2.2.2.2.2.1, x.2.2.2.2.2.2.2.1))) (x.2[(0 : Nat)]?.getD (0 : UInt32), x.2[(1 : Nat)]?.getD (0 : UInt32), x.2[2]?.getD (0 : UInt32), x.2[(3 : Nat)]?.getD (0 : UInt32), x.2[4]?.getD (0 : UInt32), x.2[(5 : Nat)]?.getD (0 : UInt32), x.2[(6 : Nat)]?.getD (0 : UInt32), x.2[(7 : Nat)]?.getD (0 : UInt32), (0 : Int))).bind fun (y : UInt32 × UInt32 × UInt32 × UInt32 × UInt32 × UInt32 × UInt32 × UInt32) => some (Sum.inl (addI x.1 (64 : Int), hadd (hadd (hadd (hadd (hadd (hadd (hadd (hadd x.2 0 y.1) 1 y.2.1) 2 y.2.2.1) 3 y.2.2.2.1) 4 y.2.2.2.2.1) 5 y.2.2.2.2.2.1) 6 y.2.2.2.2.2.2.1) 7 y.2.2.2.2.2.2.2)) else some (Sum.inr x.2)) ((0 : Int), vecOf 8 [(1779033703 : UInt32), (3144134277 : UInt32), (1013904242 : UInt32), (2773480762 : UInt32), (1359893119 : UInt32), (2600822924 : UInt32), (528734635 : UInt32), (1541459225 : UInt32)] (0 : UInt32))).bind fun (y : Vector UInt32 8) => (iter (fun (x : Int × Vector UInt8 32) => bif decide (x.1 < (8 : Int)) then if (0 : Int) <= x.1 ∧ x.1 < (8 : Int) then if (0 : Int) <= x.1 ∧ x.1 < (8 : Int) then if (0 : Int) <= x.1 ∧ x.1 < (8 : Int) then if (0 : Int) <= x.1 ∧ x.1 < (8 : Int) then if (0 : Int) <= mulI (4 : Int) x.1 ∧ mulI (4 : Int) x.1 < (32 : Int) then if (0 : Int) <= addI (mulI (4 : Int) x.1) (1 : Int) ∧ addI (mulI (4 : Int) x.1) (1 : Int) < (32 : Int) then if (0 : Int) <= addI (mulI (4 : Int) x.1) (2 : Int) ∧ addI (mulI (4 : Int) x.1) (2 : Int) < (32 : Int) then if (0 : Int) <= addI (mulI (4 : Int) x.1) (3 : Int) ∧ addI (mulI (4 : Int) x.1) (3 : Int) < (32 : Int) then some (Sum.inl (addI x.1 (1 : Int), (((x.2.setIfInBounds (mulI (4 : Int) x.1).toNat (UInt8.ofInt (↑(shr32 (y[x.1.toNat]?.getD (0 : UInt32)) (24 : Nat)).toNat : Int))).setIfInBounds (addI (mulI (4 : Int) x.1) (1 : Int)).toNat (UInt8.ofInt (↑(shr32 (y[x.1.toNat]?.getD (0 : UInt32)) 16).toNat : Int))).setIfInBounds (addI (mulI (4 : Int) x.1) (2 : Int)).toNat (UInt8.ofInt (↑(shr32 (y[x.1.toNat]?.getD (0 : UInt32)) 8).toNat : Int))).setIfInBounds (addI (mulI (4 : Int) x.1) (3 : Int)).toNat (UInt8.ofInt (↑(y[x.1.toNat]?.getD (0 : UInt32)).toNat : Int)))) else none else none else none else none else none else none else none else none else some (Sum.inr x.2)) ((0 : Int), Vector.replicate 32 (0 : UInt8))).bind fun (y : Vector UInt8 32) => some y
noncomputable def K82 (y42 : T42) (y118 : T118) (y119 : T119) : Ctx := mkC tys cells maps [(i42, ⟨P42, R42, fun x => y42 x.1 x.2.1⟩), (i118, ⟨P118, R118, fun _ => y118⟩), (i119, ⟨P119, R119, fun x => y119 x.1 x.2.1⟩)] [] []
theorem a82 (y42 : T42) (y118 : T118) (y119 : T119) (x0 : List UInt8) : evF (K82 y42 y118 y119) F82 h82 P82 R82 (x0, ()) = t82 y42 y118 y119 x0 := by kernel_rfl
theorem e82 (x0 : List UInt8) : f82 x0 = t82 f42 f118 f119 x0 := Eq.trans (b := evF (K82 f42 f118 f119) F82 h82 P82 R82 (x0, ())) (by kernel_rfl) (a82 f42 f118 f119 x0)
end Mx
end
section
open Go Go.Proofs Ev Sx
namespace Mx
noncomputable def t96_1 (y90 : T90) (a : Vector UInt8 32) : Option (List (List (Vector UInt8 32))) := (y90 [(112 : UInt8), (97 : UInt8), (100 : UInt8)] []).bind fun p => some [[a]]
noncomputable def K96_1 (y90 : T90) : Ctx := mkC tys cells maps [(i90, ⟨P90, R90, fun x => y90 x.1 x.2.1⟩), (i128, s128), (i129, s129)] [] []
theorem a96_1 (y90 : T90) (a : Vector UInt8 32) : evF (K96_1 y90) F96 h96 P96 R96 ([a], ()) = t96_1 y90 a := by kernel_rfl
theorem e96_1 (a : Vector UInt8 32) : f96 [a] = t96_1 f90 a := Eq.trans (b := evF (K96_1 f90) F96 h96 P96 R96 ([a], ())) (by kernel_rfl) (a96_1 f90 a)
noncomputable def t96_2 (y90 : T90) (y129 : T129) (a b : Vector UInt8 32) : Option (List (List (Vector UInt8 32))) := (y90 [(112 : UInt8), (97 : UInt8), (100 : UInt8)] []).bind fun p => (y129 a b).bind fun x => some [[a, b], [x]]
noncomputable def K96_2 (y90 : T90) (y129 : T129) : Ctx := mkC tys cells maps [(i90, ⟨P90, R90, fun x => y90 x.1 x.2.1⟩), (i128, s128), (i129, ⟨P129, R129, fun x => y129 x.1 x.2.1⟩)] [] []
theorem a96_2 (y90 : T90) (y129 : T129) (a b : Vector UInt8 32) : evF (K96_2 y90 y129) F96 h96 P96 R96 ([a, b], ()) = t96_2 y90 y129 a b := by kernel_rfl
theorem e96_2 (a b : Vector UInt8 32) : f96 [a, b] = t96_2 f90 f129 a b := Eq.trans (b := evF (K96_2 f90 f129) F96 h96 P96 R96 ([a, b], ())) (by kernel_rfl) (a96_2 f90 f129 a b)
noncomputable def t96_3 (y90 : T90) (y129 : T129) (a b c : Vector UInt8 32) : Option (List (List (Vector UInt8 32))) := (y90 [(112 : UInt8), (97 : UInt8), (100 : UInt8)] []).bind fun p => (y129 a b).bind fun x => (y129 c p).bind fun y => (y129 x y).bind fun z => some [[a, b, c, p], [x, y], [z]]
noncomputable def K96_3 (y90 : T90) (y129 : T129) : Ctx := mkC tys cells maps [(i90, ⟨P90, R90, fun x => y90 x.1 x.2.1⟩), (i128, s128), (i129, ⟨P129, R129, fun x => y129 x.1 x.2.1⟩)] [] []
theorem a96_3 (y90 : T90) (y129 : T129) (a b c : Vector UInt8 32) : evF (K96_3 y90 y129) F96 h96 P96 R96 ([a, b, c], ()) = t96_3 y90 y129 a b c := by kernel_rfl
theorem e96_3 (a b c : Vector UInt8 32) : f96 [a, b, c] = t96_3 f90 f129 a b c := Eq.trans (b := evF (K96_3 f90 f129) F96 h96 P96 R96 ([a, b, c], ())) (by kernel_rfl) (a96_3 f90 f129 a b c)
noncomputable def t96_4 (y90 : T90) (y129 : T129) (a b c d : Vector UInt8 32) : Option (List (List (Vector UInt8 32))) := (y90 [(112 : UInt8), (97 : UInt8), (100 : UInt8)] []).bind fun p => (y129 a b).bind fun x => (y129 c d).bind fun y => (y129 x y).bind fun z => some [[a, b, c, d], [x, y], [z]]
noncomputable def K96_4 (y90 : T90) (y129 : T129) : Ctx := mkC tys cells maps [(i90, ⟨P90, R90, fun x => y90 x.1 x.2.1⟩), (i128, s128), (i129, ⟨P129, R129, fun x => y129 x.1 x.2.1⟩)] [] []
theorem a96_4 (y90 : T90) (y129 : T129) (a b c d : Vector UInt8 32) : evF (K96_4 y90 y129) F96 h96 P96 R96 ([a, b, c, d], ()) = t96_4 y90 y129 a b c d := by kernel_rfl
theorem e96_4 (a b c d : Vector UInt8 32) : f96 [a, b, c, d] = t96_4 f90 f129 a b c d := Eq.trans (b := evF (K96_4 f90 f129) F96 h96 P96 R96 ([a, b, c, d], ())) (by kernel_rfl) (a96_4 f90 f129 a b c d)
end Mx
end
section
open Go Go.Proofs Ev Sx
namespace Mx
end Mx
end
section
open Go Go.Proofs Ev Sx
namespace Mx
noncomputable def t153 (y185 : ∀ (x0 : UInt8), Option UInt8)  : Option (Option (Vector UInt8 510 × Vector Int 256 × Unit)) := (iter
 (fun (x : UInt8 × Int × Vector UInt8 (510 : Nat) × Vector Int (256 : Nat) × Unit) =>
  bif decide (x.2.1 < (255 : Int)) then
   if (0 : Int) <= x.2.1 ∧ x.2.1 < (510 : Int) then
    if (0 : Int) <= addI x.2.1 (255 : Int) ∧ addI x.2.1 (255 : Int) < (510 : Int) then
     if (0 : Int) <= (↑x.1.toNat : Int) ∧ (↑x.1.toNat : Int) < (256 : Int) then
      (y185 x.1).bind fun (r : UInt8) =>
       some
        (Sum.inl
         (r, addI x.2.1 (1 : Int), (x.2.2.1.setIfInBounds x.2.1.toNat x.1).setIfInBounds (addI x.2.1 (255 : Int)).toNat x.1,
          x.2.2.2.1.setIfInBounds (↑x.1.toNat : Int).toNat x.2.1, x.2.2.2.2))
     else none
    else none
   else none
  else some (Sum.inr x.2.2))
 ((1 : UInt8), (0 : Int), Vector.replicate (510 : Nat) (0 : UInt8), Vector.replicate (256 : Nat) (0 : Int), ())).bind
 fun (y : Vector UInt8 (510 : Nat) × Vector Int (256 : Nat) × Unit) => some (some y)
theorem a153 (y185 : ∀ (x0 : UInt8), Option UInt8)  : evF (mkC tys cells maps [(i185, ⟨[.v .u8], [.v .u8], fun x => y185 x.1⟩)] [] []) F153 h153 [] [.v (.op (.pair (.arr 510 .u8) (.pair (.arr 256 .i64) .unit)))] () = t153 y185  := by kernel_rfl
theorem e153  : f153 = t153 f185  := Eq.trans (b := evF (mkC tys cells maps [(i185, ⟨[.v .u8], [.v .u8], fun x => f185 x.1⟩)] [] []) F153 h153 [] [.v (.op (.pair (.arr 510 .u8) (.pair (.arr 256 .i64) .unit)))] ()) (by kernel_rfl) (a153 f185 )
end Mx
end
section
open Go Go.Proofs Ev Sx
namespace Mx
abbrev H32 := Vector UInt8 32
abbrev ShT := Int × List UInt8 × List (Vector UInt8 32) × List (List UInt8) × Unit
def stepsI {R : Type} (e : List (List UInt8)) : Nat -> Nat -> (List (List UInt8) -> Option R) -> Option R
 | 0, i, k => cond (decide ((i : Int) < (e.length : Int))) none (k [])
 | m + 1, i, k => cond (decide ((i : Int) < (e.length : Int))) ((at? e (i : Int)).bind fun b => stepsI e m (i + 1) fun l => k (b :: l)) none
def segsI {R : Type} (st : List (List UInt8) -> (List (List UInt8) -> Option R) -> Option R) (enc : List UInt8 -> (List (List UInt8) -> Option R) -> Option R) (ss : List (List UInt8)) : Nat -> Nat -> (List (List (List UInt8)) -> Option R) -> Option R
 | 0, j, k => cond (decide ((j : Int) < (ss.length : Int))) none (k [])
 | q + 1, j, k => cond (decide ((j : Int) < (ss.length : Int))) ((at? ss (j : Int)).bind fun s => enc s fun e => st e fun bs => segsI st enc ss q (j + 1) fun l => k (bs :: l)) none
def blkOf (rows : List (List (List UInt8))) (i : Nat) : List (List UInt8) := rows.map fun r => r.getD i []
def numOf (rows : List (List (List UInt8))) (i : Nat) : Int := match rows with
 | [] => 0
 | _ :: _ => (i : Int)
def leafS {R : Type} (y : ShT -> Option H32) (rows : List (List (List UInt8))) : Nat -> Nat -> (List H32 -> Option R) -> Option R
 | 0, _, k => k []
 | m + 1, i, k => (y (numOf rows i, [], [], blkOf rows i, ())).bind fun h => leafS y rows m (i + 1) fun l => k (h :: l)
def endI {R : Type} (y86 : Int -> List H32 -> Option (List H32 × Int)) (ls : List H32) (rows : List (List (List UInt8))) : Nat -> Nat -> (List ShT -> Option R) -> Option R
 | 0, _, k => k []
 | m + 1, i, k => (y86 (i : Int) ls).bind fun p => endI y86 ls rows m (i + 1) fun l => k ((numOf rows i, [], p.1, blkOf rows i, ()) :: l)
noncomputable def t46 (y55 : List UInt8 -> Option (List (List UInt8))) (y83 : Int -> Int -> Option (Option (Int × Int × List (List UInt8) × Unit) × Int)) (y84 : Int × Int × List (List UInt8) × Unit -> List UInt8 -> Option (List (List UInt8))) (y85 : ShT -> Option H32) (y86 : Int -> List H32 -> Option (List H32 × Int)) (y87 : List H32 -> Option H32) (x0 : List UInt8) (x1 : Int) (n q : Nat) : Option (List ShT × H32) :=
 (y83 x1 (n : Int)).bind fun r => (y55 x0).bind fun ss =>
  segsI (fun e k => stepsI e n 0 k) (fun s k => r.1.bind fun c => (y84 c s).bind k) ss q 0 fun rows =>
   leafS y85 rows n 0 fun ls => endI y86 ls rows n 0 fun l => (y87 ls).bind fun h => some (l, h)
end Mx
end
section
open Go Go.Proofs Ev Sx
namespace Mx
end Mx
end
section
open Go Go.Proofs Ev Sx
namespace Mx
noncomputable def f162 (x0 : Vector UInt8 (510 : Nat) × Vector Int (256 : Nat) × Unit) (x1 : UInt8) : Option UInt8 := Sx.r162 (x0, x1, ())
noncomputable def t162  (x0 : Vector UInt8 (510 : Nat) × Vector Int (256 : Nat) × Unit) (x1 : UInt8) : Option UInt8 := bif decide (x1 = (0 : UInt8)) then some (0 : UInt8) else if (0 : Int) <= (↑x1.toNat : Int) ∧ (↑x1.toNat : Int) < (256 : Int) then if (0 : Int) <= subI (255 : Int) (x0.2.1[(↑x1.toNat : Int).toNat]?.getD (0 : Int)) ∧ subI (255 : Int) (x0.2.1[(↑x1.toNat : Int).toNat]?.getD (0 : Int)) < (510 : Int) then some (x0.1[(subI (255 : Int) (x0.2.1[(↑x1.toNat : Int).toNat]?.getD (0 : Int))).toNat]?.getD (0 : UInt8)) else none else none
theorem e162 (x0 : Vector UInt8 (510 : Nat) × Vector Int (256 : Nat) × Unit) (x1 : UInt8) : f162 x0 x1 = t162 x0 x1 := by kernel_rfl
noncomputable def f154 (x0 : Vector UInt8 (510 : Nat) × Vector Int (256 : Nat) × Unit) (x1 : UInt8) (x2 : Int) : Option UInt8 := Sx.r154 (x0, x1, x2, ())
noncomputable def t154  (x0 : Vector UInt8 (510 : Nat) × Vector Int (256 : Nat) × Unit) (x1 : UInt8) (x2 : Int) : Option UInt8 := bif decide (x2 <= (0 : Int)) then some (1 : UInt8) else bif decide (x1 = (0 : UInt8)) then some (0 : UInt8) else if (0 : Int) <= (↑x1.toNat : Int) ∧ (↑x1.toNat : Int) < (256 : Int) then (remI x2 (255 : Int)).bind fun (c : Int) => (remI (mulI (x0.2.1[(↑x1.toNat : Int).toNat]?.getD (0 : Int)) c) (255 : Int)).bind fun (c : Int) => if (0 : Int) <= c ∧ c < (510 : Int) then some (x0.1[c.toNat]?.getD (0 : UInt8)) else none else none
theorem e154 (x0 : Vector UInt8 (510 : Nat) × Vector Int (256 : Nat) × Unit) (x1 : UInt8) (x2 : Int) : f154 x0 x1 x2 = t154 x0 x1 x2 := by kernel_rfl
end Mx
end
section
open Go Go.Proofs Ev Sx
namespace Mx
noncomputable def f115 (x0 x1 : Int) : Option (List (List UInt8)) := Sx.r115 (x0, x1, ())
noncomputable def f116 (x0 : List (List UInt8)) : Option (List (List UInt8) × Bool) := Sx.r116 (x0, ())
noncomputable def f117 (x0 x1 : List (List UInt8)) : Option (List (List UInt8)) := Sx.r117 (x0, x1, ())
noncomputable def f120 (x0 x1 : Int) : Option (List (List UInt8)) := Sx.r120 (x0, x1, ())
noncomputable def f121 (x0 : List (List UInt8)) : Option (List (List UInt8) × Int) := Sx.r121 (x0, ())
noncomputable def f122 (x0 x1 : List (List UInt8)) : Option (List (List UInt8) × Int) := Sx.r122 (x0, x1, ())
noncomputable def f147 (x0 : UInt8) (x1 : Int) : Option UInt8 := Sx.r147 (x0, x1, ())
noncomputable def f149 (x0 : UInt8) : Option UInt8 := Sx.r149 (x0, ())
noncomputable def f150 (x0 x1 : List UInt8) : Option UInt8 := Sx.r150 (x0, x1, ())
noncomputable def f151 (x0 : List (List UInt8)) (x1 : Int) : Option (List UInt8) := Sx.r151 (x0, x1, ())
noncomputable def t147 (y80 : T80) (x0 : UInt8) (x1 : Int) : Option UInt8 := (bif decide ((255 : Int) < x1) then (remI x1 (255 : Int)).bind fun (c : Int) => some (addI (255 : Int) c) else some x1).bind fun (x : Int) => (iter (fun (x_1 : UInt8 × Int) => bif decide (x_1.2 < x) then (y80 x_1.1 x0).bind fun (r : UInt8) => some (Sum.inl (r, addI x_1.2 (1 : Int))) else some (Sum.inr x_1.1)) ((1 : UInt8), (0 : Int))).bind fun (y : UInt8) => some y
noncomputable def K147 (y80 : T80) : Ctx := mkC tys cells maps [(i80, ⟨P80, R80, fun x => y80 x.1 x.2.1⟩)] [] []
theorem a147 (y80 : T80) (x0 : UInt8) (x1 : Int) : evF (K147 y80) F147 h147 P147 R147 (x0, x1, ()) = t147 y80 x0 x1 := by kernel_rfl
theorem e147 (x0 : UInt8) (x1 : Int) : f147 x0 x1 = t147 f80 x0 x1 := Eq.trans (b := evF (K147 f80) F147 h147 P147 R147 (x0, x1, ())) (by kernel_rfl) (a147 f80 x0 x1)
noncomputable def t149 (y80 : T80) (x0 : UInt8) : Option UInt8 := (iter (fun (x : Int) => bif decide (x < (256 : Int)) then (y80 x0 (UInt8.ofInt x)).bind fun (r : UInt8) => bif decide (r = (1 : UInt8)) then some (Sum.inr (Sum.inr (UInt8.ofInt x))) else some (Sum.inl (addI x (1 : Int))) else some (Sum.inr (Sum.inl ()))) (1 : Int)).bind fun (y : Unit ⊕ UInt8) => sumE y (fun (x : Unit) => some (0 : UInt8)) fun (x : UInt8) => some x
noncomputable def K149 (y80 : T80) : Ctx := mkC tys cells maps [(i80, ⟨P80, R80, fun x => y80 x.1 x.2.1⟩)] [] []
theorem a149 (y80 : T80) (x0 : UInt8) : evF (K149 y80) F149 h149 P149 R149 (x0, ()) = t149 y80 x0 := by kernel_rfl
theorem e149 (x0 : UInt8) : f149 x0 = t149 f80 x0 := Eq.trans (b := evF (K149 f80) F149 h149 P149 R149 (x0, ())) (by kernel_rfl) (a149 f80 x0)
noncomputable def t150 (y80 : T80) (x0 x1 : List UInt8) : Option UInt8 := (iter (fun (x : UInt8 × Int) => (bif decide (x.2 < (↑x0.length : Int)) then some (decide (x.2 < (↑x1.length : Int))) else some false).bind fun (x_1 : Bool) => bif x_1 then (at? x0 x.2).bind fun (y : UInt8) => (at? x1 x.2).bind fun (y_1 : UInt8) => (y80 y y_1).bind fun (r : UInt8) => some (Sum.inl (x.1 ^^^ r, addI x.2 (1 : Int))) else some (Sum.inr x.1)) ((0 : UInt8), (0 : Int))).bind fun (y : UInt8) => some y
noncomputable def K150 (y80 : T80) : Ctx := mkC tys cells maps [(i80, ⟨P80, R80, fun x => y80 x.1 x.2.1⟩)] [] []
theorem a150 (y80 : T80) (x0 x1 : List UInt8) : evF (K150 y80) F150 h150 P150 R150 (x0, x1, ()) = t150 y80 x0 x1 := by kernel_rfl
theorem e150 (x0 x1 : List UInt8) : f150 x0 x1 = t150 f80 x0 x1 := Eq.trans (b := evF (K150 f80) F150 h150 P150 R150 (x0, x1, ())) (by kernel_rfl) (a150 f80 x0 x1)
noncomputable def t151  (x0 : List (List UInt8)) (x1 : Int) : Option (List UInt8) := (iter (fun (x : List UInt8 × Int) => bif decide (x.2 < (↑x0.length : Int)) then (at? x0 x.2).bind fun (y : List UInt8) => (at? y x1).bind fun (y : UInt8) => (app? x.1 [y]).bind fun (zs : List UInt8) => some (Sum.inl (zs, addI x.2 (1 : Int))) else some (Sum.inr x.1)) ([], (0 : Int))).bind fun (y : List UInt8) => some y
theorem e151 (x0 : List (List UInt8)) (x1 : Int) : f151 x0 x1 = t151 x0 x1 := by kernel_rfl
end Mx
end
section
open Go Go.Proofs Ev Sx
namespace Mx
abbrev T445 : Type := Option Bool
noncomputable def f445 : Option Bool := Sx.r445 ()
abbrev T484 : Type := ∀ (x0 : List UInt8 × List UInt8 × Unit), Option Bool
noncomputable def f484 (x0 : List UInt8 × List UInt8 × Unit) : Option Bool := Sx.r484 (x0, ())
noncomputable def f441 (x0 : Int × Vector UInt8 16 × Vector UInt8 32 × Int × Int × Int × List UInt8 × Unit) (x1 x2 : Int × Int × Int × Int × Vector UInt8 32 × Vector UInt8 32 × Unit) (x3 x4 : List UInt8) (x5 : Bool) : Option Bool := Sx.r441 (x0, x1, x2, x3, x4, x5, ())
noncomputable def t484 (y21 : T21) (y125 : T125) (x0 : List UInt8 × List UInt8 × Unit) : Option Bool := ((y21 x0.1 x0.2.1).bind fun (r : Bool) => bif !r then (y125 x0.1).bind fun (r : Vector UInt8 32) => (y125 x0.2.1).bind fun (r_1 : Vector UInt8 32) => some (decide (r = r_1)) else some false).bind fun (x : Bool) => some x
noncomputable def K484 (y21 : T21) (y125 : T125) : Ctx := mkC tys cells maps [(i21, ⟨P21, R21, fun x => y21 x.1 x.2.1⟩), (i125, ⟨P125, R125, fun x => y125 x.1⟩)] [] []
theorem a484 (y21 : T21) (y125 : T125) (x0 : List UInt8 × List UInt8 × Unit) : evF (K484 y21 y125) F484 h484 P484 R484 (x0, ()) = t484 y21 y125 x0 := by kernel_rfl
theorem e484 (x0 : List UInt8 × List UInt8 × Unit) : f484 x0 = t484 f21 f125 x0 := Eq.trans (b := evF (K484 f21 f125) F484 h484 P484 R484 (x0, ())) (by kernel_rfl) (a484 f21 f125 x0)
noncomputable def t441 (y4 : T4) (y5 : T5) (y8 : T8) (y11 : T11) (y13 : T13) (y18 : T18) (y22 : T22) (y27 : T27) (y28 : T28) (y69 : T69) (y445 : T445) (y484 : T484) (x0 : Int × Vector UInt8 16 × Vector UInt8 32 × Int × Int × Int × List UInt8 × Unit) (x1 x2 : Int × Int × Int × Int × Vector UInt8 32 × Vector UInt8 32 × Unit) (x3 x4 : List UInt8) (x5 : Bool) : Option Bool := (y5 x3 (150 : Int)).bind fun (r : List UInt8) => (y5 x4 (150 : Int)).bind fun (r_1 : List UInt8) => (bif x5 then (y4 r).bind fun (r : List UInt8) => (y28 r).bind fun (r_2 : Vector UInt8 32) => (y27 ((1 : Int), (2 : Int), (↑r.length : Int), (64 : Int), r_2, x1.2.2.2.2.2.1, ())).bind fun (r_3 : List UInt8) => (y18 r_3).bind fun (r_4 : Vector UInt8 32) => (remI x2.1 (2 : Int)).bind fun (c : Int) => (bif decide (c = (0 : Int)) then (y8 r).bind fun (r_5 : List UInt8) => some (r_5, (1 : Int), (2 : Int), (↑r.length : Int), (64 : Int), r_2, x1.2.2.2.2.2.1, ()) else some (r_1, x2)).bind fun (x : List UInt8 × Int × Int × Int × Int × Vector UInt8 32 × Vector UInt8 32 × Unit) => some (r, x.1, ((1 : Int), Vector.replicate 16 (0 : UInt8), r_4, (1 : Int), (2 : Int), (↑r.length : Int), [], ()), ((1 : Int), (2 : Int), (↑r.length : Int), (64 : Int), r_2, x1.2.2.2.2.2.1, ()), x.2) else some (r, r_1, x0, x1, x2)).bind fun (x : List UInt8 × List UInt8 × (Int × Vector UInt8 16 × Vector UInt8 32 × Int × Int × Int × List UInt8 × Unit) × (Int × Int × Int × Int × Vector UInt8 32 × Vector UInt8 32 × Unit) × Int × Int × Int × Int × Vector UInt8 32 × Vector UInt8 32 × Unit) => (y22 x.2.2.1 x.2.2.2.1 x.2.2.2.2 x.1 x.2.1).bind fun (r : (List UInt8 × List UInt8 × Unit) × Bool) => (y11 x.2.2.1 x.2.2.2.1 x.2.2.2.2 x.1 x.2.1).bind fun (r_2 : (List UInt8 × List UInt8 × Unit) × Bool) => (bif !decide (r.2 = r_2.2) then some true else (y13 r.1.1 r_2.1.1).bind fun (r_3 : Bool) => bif !r_3 then some true else (y13 r.1.2.1 r_2.1.2.1).bind fun (r : Bool) => some !r).bind fun (x : Bool) => bif x then some false else (bif !r.2 then (y445).bind fun (r : Bool) => some r else (y69 r.1).bind fun (r_3 : Bool) => bif r_3 then (y484 r.1).bind fun (r : Bool) => bif r then (y445).bind fun (r : Bool) => some r else some false else some false).bind fun (x : Bool) => some x
noncomputable def K441 (y4 : T4) (y5 : T5) (y8 : T8) (y11 : T11) (y13 : T13) (y18 : T18) (y22 : T22) (y27 : T27) (y28 : T28) (y69 : T69) (y445 : T445) (y484 : T484) : Ctx := mkC tys cells maps [(i4, ⟨P4, R4, fun x => y4 x.1⟩), (i5, ⟨P5, R5, fun x => y5 x.1 x.2.1⟩), (i8, ⟨P8, R8, fun x => y8 x.1⟩), (i11, ⟨P11, R11, fun x => y11 x.1 x.2.1 x.2.2.1 x.2.2.2.1 x.2.2.2.2.1⟩), (i13, ⟨P13, R13, fun x => y13 x.1 x.2.1⟩), (i18, ⟨P18, R18, fun x => y18 x.1⟩), (i22, ⟨P22, R22, fun x => y22 x.1 x.2.1 x.2.2.1 x.2.2.2.1 x.2.2.2.2.1⟩), (i27, ⟨P27, R27, fun x => y27 x.1⟩), (i28, ⟨P28, R28, fun x => y28 x.1⟩), (i69, ⟨P69, R69, fun x => y69 x.1⟩), (i445, ⟨P445, R445, fun _ => y445⟩), (i484, ⟨P484, R484, fun x => y484 x.1⟩)] [] []
theorem a441 (y4 : T4) (y5 : T5) (y8 : T8) (y11 : T11) (y13 : T13) (y18 : T18) (y22 : T22) (y27 : T27) (y28 : T28) (y69 : T69) (y445 : T445) (y484 : T484) (x0 : Int × Vector UInt8 16 × Vector UInt8 32 × Int × Int × Int × List UInt8 × Unit) (x1 x2 : Int × Int × Int × Int × Vector UInt8 32 × Vector UInt8 32 × Unit) (x3 x4 : List UInt8) (x5 : Bool) : evF (K441 y4 y5 y8 y11 y13 y18 y22 y27 y28 y69 y445 y484) F441 h441 P441 R441 (x0, x1, x2, x3, x4, x5, ()) = t441 y4 y5 y8 y11 y13 y18 y22 y27 y28 y69 y445 y484 x0 x1 x2 x3 x4 x5 := by kernel_rfl
theorem e441 (x0 : Int × Vector UInt8 16 × Vector UInt8 32 × Int × Int × Int × List UInt8 × Unit) (x1 x2 : Int × Int × Int × Int × Vector UInt8 32 × Vector UInt8 32 × Unit) (x3 x4 : List UInt8) (x5 : Bool) : f441 x0 x1 x2 x3 x4 x5 = t441 f4 f5 f8 f11 f13 f18 f22 f27 f28 f69 f445 f484 x0 x1 x2 x3 x4 x5 := Eq.trans (b := evF (K441 f4 f5 f8 f11 f13 f18 f22 f27 f28 f69 f445 f484) F441 h441 P441 R441 (x0, x1, x2, x3, x4, x5, ())) (by kernel_rfl) (a441 f4 f5 f8 f11 f13 f18 f22 f27 f28 f69 f445 f484 x0 x1 x2 x3 x4 x5)
end Mx
end
section
open Go Go.Proofs Ev Sx
namespace Mx
noncomputable def t96_0 (y90 : T90)  : Option (List (List (Vector UInt8 32))) := (y90 [(112 : UInt8), (97 : UInt8), (100 : UInt8)] []).bind fun p => some [[p]]
noncomputable def K96_0 (y90 : T90) : Ctx := mkC tys cells maps [(i90, ⟨P90, R90, fun x => y90 x.1 x.2.1⟩), (i128, s128), (i129, s129)] [] []
theorem a96_0 (y90 : T90)  : evF (K96_0 y90) F96 h96 P96 R96 ([], ()) = t96_0 y90  := by kernel_rfl
theorem e96_0  : f96 [] = t96_0 f90  := Eq.trans (b := evF (K96_0 f90) F96 h96 P96 R96 ([], ())) (by kernel_rfl) (a96_0 f90 )
end Mx
end
