/- The functional readings of the functions as plain Lean terms, second part. No conditions. -/
import Derived.Test.YtbjffoahpbedjaaGreatDoorF
set_option linter.unusedVariables false
set_option linter.unusedSimpArgs false
set_option linter.unusedSectionVars false
set_option maxRecDepth 100000
section
open Go Go.Proofs Ev Sx
namespace Mx
end Mx
end
section
open Go Go.Proofs Ev Sx
namespace Mx
noncomputable def t96_1 (y90 : T90) (a : Vector UInt8 32) : Option (List (List (Vector UInt8 32))) := (y90 [(112 : UInt8), (97 : UInt8), (100 : UInt8)] []).bind fun p => some [[a]]
noncomputable def K96_1 (y90 : T90) : Ctx := mkC tys cells maps [(i90, ⟨P90, R90, fun x => y90 x.1 x.2.1⟩), (i128, s128), (i129, s129)] [] []
theorem a96_1 (y90 : T90) (a : Vector UInt8 32) : evF (K96_1 y90) F96 h96 P96 R96 ([a], ()) = t96_1 y90 a := by kernel_rfl
theorem e96_1 (a : Vector UInt8 32) : f96 [a] = t96_1 f90 a := Eq.trans (b := evF (K96_1 f90) F96 h96 P96 R96 ([a], ())) (by kernel_rfl) (a96_1 f90 a)
noncomputable def t96_2 (y90 : T90) (y129 : T129) (a b : Vector UInt8 32) : Option (List (List (Vector UInt8 32))) := (y90 [(112 : UInt8), (97 : UInt8), (100 : UInt8)] []).bind fun p => (y129 a b).bind fun x => some [[a, b], [x]]
noncomputable def K96_2 (y90 : T90) (y129 : T129) : Ctx := mkC tys cells maps [(i90, ⟨P90, R90, fun x => y90 x.1 x.2.1⟩), (i128, s128), (i129, ⟨P129, R129, fun x => y129 x.1 x.2.1⟩)] [] []
theorem a96_2 (y90 : T90) (y129 : T129) (a b : Vector UInt8 32) : evF (K96_2 y90 y129) F96 h96 P96 R96 ([a, b], ()) = t96_2 y90 y129 a b := by kernel_rfl
theorem e96_2 (a b : Vector UInt8 32) : f96 [a, b] = t96_2 f90 f129 a b := Eq.trans (b := evF (K96_2 f90 f129) F96 h96 P96 R96 ([a, b], ())) (by kernel_rfl) (a96_2 f90 f129 a b)
noncomputable def t96_3 (y90 : T90) (y129 : T129) (a b c : Vector UInt8 32) : Option (List (List (Vector UInt8 32))) := (y90 [(112 : UInt8), (97 : UInt8), (100 : UInt8)] []).bind fun p => (y129 a b).bind fun x => (y129 c p).bind fun y => (y129 x y).bind fun z => some [[a, b, c, p], [x, y], [z]]
noncomputable def K96_3 (y90 : T90) (y129 : T129) : Ctx := mkC tys cells maps [(i90, ⟨P90, R90, fun x => y90 x.1 x.2.1⟩), (i128, s128), (i129, ⟨P129, R129, fun x => y129 x.1 x.2.1⟩)] [] []
theorem a96_3 (y90 : T90) (y129 : T129) (a b c : Vector UInt8 32) : evF (K96_3 y90 y129) F96 h96 P96 R96 ([a, b, c], ()) = t96_3 y90 y129 a b c := by kernel_rfl
theorem e96_3 (a b c : Vector UInt8 32) : f96 [a, b, c] = t96_3 f90 f129 a b c := Eq.trans (b := evF (K96_3 f90 f129) F96 h96 P96 R96 ([a, b, c], ())) (by kernel_rfl) (a96_3 f90 f129 a b c)
noncomputable def t96_4 (y90 : T90) (y129 : T129) (a b c d : Vector UInt8 32) : Option (List (List (Vector UInt8 32))) := (y90 [(112 : UInt8), (97 : UInt8), (100 : UInt8)] []).bind fun p => (y129 a b).bind fun x => (y129 c d).bind fun y => (y129 x y).bind fun z => some [[a, b, c, d], [x, y], [z]]
noncomputable def K96_4 (y90 : T90) (y129 : T129) : Ctx := mkC tys cells maps [(i90, ⟨P90, R90, fun x => y90 x.1 x.2.1⟩), (i128, s128), (i129, ⟨P129, R129, fun x => y129 x.1 x.2.1⟩)] [] []
theorem a96_4 (y90 : T90) (y129 : T129) (a b c d : Vector UInt8 32) : evF (K96_4 y90 y129) F96 h96 P96 R96 ([a, b, c, d], ()) = t96_4 y90 y129 a b c d := by kernel_rfl
theorem e96_4 (a b c d : Vector UInt8 32) : f96 [a, b, c, d] = t96_4 f90 f129 a b c d := Eq.trans (b := evF (K96_4 f90 f129) F96 h96 P96 R96 ([a, b, c, d], ())) (by kernel_rfl) (a96_4 f90 f129 a b c d)
noncomputable def t86 (y96 : T96) (x0 : Int) (x1 : List (Vector UInt8 32)) : Option (List (Vector UInt8 32) × Int) := (bif decide (x0 < (0 : Int)) then some true else some (decide ((↑x1.length : Int) <= x0))).bind fun (x : Bool) => bif x then some ([], (1 : Int)) else (y96 x1).bind fun (r : List (List (Vector UInt8 32))) => (cut? r (0 : Int) (subI (↑r.length : Int) (1 : Int))).bind fun (r : List (List (Vector UInt8 32))) => (iter (fun (x : Int × List (Vector UInt8 32) × Int) => bif decide (x.2.2 < (↑r.length : Int)) then (at? r x.2.2).bind fun (y : List (Vector UInt8 32)) => (at? y (xorI x.1 (1 : Int))).bind fun (y : Vector UInt8 32) => (app? x.2.1 [y]).bind fun (zs : List (Vector UInt8 32)) => (quoI x.1 (2 : Int)).bind fun (c : Int) => some (Sum.inl (c, zs, addI x.2.2 (1 : Int))) else some (Sum.inr x.2.1)) (x0, [], (0 : Int))).bind fun (y : List (Vector UInt8 32)) => some (y, (0 : Int))
noncomputable def K86 (y96 : T96) : Ctx := mkC tys cells maps [(i96, ⟨P96, R96, fun x => y96 x.1⟩)] [] []
theorem a86 (y96 : T96) (x0 : Int) (x1 : List (Vector UInt8 32)) : evF (K86 y96) F86 h86 P86 R86 (x0, x1, ()) = t86 y96 x0 x1 := by kernel_rfl
theorem e86 (x0 : Int) (x1 : List (Vector UInt8 32)) : f86 x0 x1 = t86 f96 x0 x1 := Eq.trans (b := evF (K86 f96) F86 h86 P86 R86 (x0, x1, ())) (by kernel_rfl) (a86 f96 x0 x1)
end Mx
end
section
open Go Go.Proofs Ev Sx
namespace Mx
noncomputable def t59 (y98 : T98) (y99 : T99)  : Option (Vector UInt8 256) := (iter (fun (x : UInt8 × UInt8 × Vector UInt8 256) => (y98 x.1).bind fun (r : UInt8) => (bif decide ((x.2.1 ^^^ shl8 x.2.1 (1 : Nat) ^^^ shl8 (x.2.1 ^^^ shl8 x.2.1 (1 : Nat)) 2 ^^^ shl8 (x.2.1 ^^^ shl8 x.2.1 (1 : Nat) ^^^ shl8 (x.2.1 ^^^ shl8 x.2.1 (1 : Nat)) 2) 4) &&& (128 : UInt8) ≠ (0 : UInt8)) then some (x.2.1 ^^^ shl8 x.2.1 (1 : Nat) ^^^ shl8 (x.2.1 ^^^ shl8 x.2.1 (1 : Nat)) 2 ^^^ shl8 (x.2.1 ^^^ shl8 x.2.1 (1 : Nat) ^^^ shl8 (x.2.1 ^^^ shl8 x.2.1 (1 : Nat)) 2) 4 ^^^ (9 : UInt8)) else some (x.2.1 ^^^ shl8 x.2.1 (1 : Nat) ^^^ shl8 (x.2.1 ^^^ shl8 x.2.1 (1 : Nat)) 2 ^^^ shl8 (x.2.1 ^^^ shl8 x.2.1 (1 : Nat) ^^^ shl8 (x.2.1 ^^^ shl8 x.2.1 (1 : Nat)) 2) 4)).bind fun (x_1 : UInt8) => (y99 x_1 (1 : Int)).bind fun (r_1 : UInt8) => (y99 x_1 (2 : Int)).bind fun (r_2 : UInt8) => (y99 x_1 (3 : Int)).bind fun (r_3 : UInt8) => (y99 x_1 (4 : Int)).bind fun (r_4 : UInt8) => if (0 : Int) <= (↑(x.1 ^^^ r).toNat : Int) ∧ (↑(x.1 ^^^ r).toNat : Int) < (256 : Int) then bif decide (x.1 ^^^ r = (1 : UInt8)) then some (Sum.inr (x.2.2.setIfInBounds (↑(x.1 ^^^ r).toNat : Int).toNat (x_1 ^^^ r_1 ^^^ r_2 ^^^ r_3 ^^^ r_4 ^^^ (99 : UInt8)))) else some (Sum.inl (x.1 ^^^ r, x_1, x.2.2.setIfInBounds (↑(x.1 ^^^ r).toNat : Int).toNat (x_1 ^^^ r_1 ^^^ r_2 ^^^ r_3 ^^^ r_4 ^^^ (99 : UInt8)))) else none) ((1 : UInt8), (1 : UInt8), Vector.replicate 256 (0 : UInt8))).bind fun (y : Vector UInt8 256) => some (y.setIfInBounds (0 : Nat) (99 : UInt8))
noncomputable def K59 (y98 : T98) (y99 : T99) : Ctx := mkC tys cells maps [(i98, ⟨P98, R98, fun x => y98 x.1⟩), (i99, ⟨P99, R99, fun x => y99 x.1 x.2.1⟩)] [] []
theorem a59 (y98 : T98) (y99 : T99)  : evF (K59 y98 y99) F59 h59 P59 R59 () = t59 y98 y99  := by kernel_rfl
theorem e59  : f59 = t59 f98 f99  := Eq.trans (b := evF (K59 f98 f99) F59 h59 P59 R59 ()) (by kernel_rfl) (a59 f98 f99 )
noncomputable def t99  (x0 : UInt8) (x1 : Int) : Option UInt8 := some (shl8 x0 (UInt64.ofInt x1 &&& 7).toNat ||| shr8 x0 (8 - (UInt64.ofInt x1 &&& 7)).toNat)
theorem e99 (x0 : UInt8) (x1 : Int) : f99 x0 x1 = t99 x0 x1 := by kernel_rfl
end Mx
end
section
open Go Go.Proofs Ev Sx
namespace Mx
noncomputable def t153 (y185 : ∀ (x0 : UInt8), Option UInt8)  : Option (Option (Vector UInt8 510 × Vector Int 256 × Unit)) := (iter
 (fun (x : UInt8 × Int × Vector UInt8 (510 : Nat) × Vector Int (256 : Nat) × Unit) =>
  bif decide (x.2.1 < (255 : Int)) then
   if (0 : Int) <= x.2.1 ∧ x.2.1 < (510 : Int) then
    if (0 : Int) <= addI x.2.1 (255 : Int) ∧ addI x.2.1 (255 : Int) < (510 : Int) then
     if (0 : Int) <= (↑x.1.toNat : Int) ∧ (↑x.1.toNat : Int) < (256 : Int) then
      (y185 x.1).bind fun (r : UInt8) =>
       some
        (Sum.inl
         (r, addI x.2.1 (1 : Int), (x.2.2.1.setIfInBounds x.2.1.toNat x.1).setIfInBounds (addI x.2.1 (255 : Int)).toNat x.1,
          x.2.2.2.1.setIfInBounds (↑x.1.toNat : Int).toNat x.2.1, x.2.2.2.2))
     else none
    else none
   else none
  else some (Sum.inr x.2.2))
 ((1 : UInt8), (0 : Int), Vector.replicate (510 : Nat) (0 : UInt8), Vector.replicate (256 : Nat) (0 : Int), ())).bind
 fun (y : Vector UInt8 (510 : Nat) × Vector Int (256 : Nat) × Unit) => some (some y)
theorem a153 (y185 : ∀ (x0 : UInt8), Option UInt8)  : evF (mkC tys cells maps [(i185, ⟨[.v .u8], [.v .u8], fun x => y185 x.1⟩)] [] []) F153 h153 [] [.v (.op (.pair (.arr 510 .u8) (.pair (.arr 256 .i64) .unit)))] () = t153 y185  := by kernel_rfl
theorem e153  : f153 = t153 f185  := Eq.trans (b := evF (mkC tys cells maps [(i185, ⟨[.v .u8], [.v .u8], fun x => f185 x.1⟩)] [] []) F153 h153 [] [.v (.op (.pair (.arr 510 .u8) (.pair (.arr 256 .i64) .unit)))] ()) (by kernel_rfl) (a153 f185 )
end Mx
end
section
open Go Go.Proofs Ev Sx
namespace Mx
abbrev H32 := Vector UInt8 32
abbrev ShT := Int × List UInt8 × List (Vector UInt8 32) × List (List UInt8) × Unit
abbrev GF := Vector UInt8 510 × Vector Int 256 × Unit
def wrow {R : Type} (y164 : GF -> List UInt8 -> List UInt8 -> Option UInt8) (y167 : List (List UInt8) -> Int -> Option (List UInt8)) (r : Option GF) (x1 : List (List UInt8)) (m : List UInt8) (k : List UInt8 -> Option R) : Option R :=
 (at? x1 (0 : Int)).bind fun y_1 => (zeros? (y_1.length : Int) (0 : UInt8)).bind fun r_1 =>
  (iter (fun (x : Int × List UInt8) =>
   bif decide (x.1 < (r_1.length : Int)) then
    (y167 x1 x.1).bind fun r_2 => r.bind fun y_2 => (y164 y_2 m r_2).bind fun z =>
     if (0 : Int) <= x.1 ∧ x.1 < (x.2.length : Int) then some (Sum.inl (addI x.1 (1 : Int), x.2.set x.1.toNat z)) else none
   else some (Sum.inr x.2)) ((0 : Int), r_1)).bind k
def workG {R : Type} (y164 : GF -> List UInt8 -> List UInt8 -> Option UInt8) (y167 : List (List UInt8) -> Int -> Option (List UInt8)) (r : Option GF) (x1 : List (List UInt8)) : List (List UInt8) -> (List (List UInt8) -> Option R) -> Option R
 | [], k => k []
 | m :: ms, k => wrow y164 y167 r x1 m fun a => workG y164 y167 r x1 ms fun l => k (a :: l)
def stepsI {R : Type} (e : List (List UInt8)) : Nat -> Nat -> (List (List UInt8) -> Option R) -> Option R
 | 0, i, k => cond (decide ((i : Int) < (e.length : Int))) none (k [])
 | m + 1, i, k => cond (decide ((i : Int) < (e.length : Int))) ((at? e (i : Int)).bind fun b => stepsI e m (i + 1) fun l => k (b :: l)) none
def segsI {R : Type} (st : List (List UInt8) -> (List (List UInt8) -> Option R) -> Option R) (enc : List UInt8 -> (List (List UInt8) -> Option R) -> Option R) (ss : List (List UInt8)) : Nat -> Nat -> (List (List (List UInt8)) -> Option R) -> Option R
 | 0, j, k => cond (decide ((j : Int) < (ss.length : Int))) none (k [])
 | q + 1, j, k => cond (decide ((j : Int) < (ss.length : Int))) ((at? ss (j : Int)).bind fun s => enc s fun e => st e fun bs => segsI st enc ss q (j + 1) fun l => k (bs :: l)) none
def blkOf (rows : List (List (List UInt8))) (i : Nat) : List (List UInt8) := rows.map fun r => r.getD i []
def numOf (rows : List (List (List UInt8))) (i : Nat) : Int := match rows with
 | [] => 0
 | _ :: _ => (i : Int)
def leafS {R : Type} (y : ShT -> Option H32) (rows : List (List (List UInt8))) : Nat -> Nat -> (List H32 -> Option R) -> Option R
 | 0, _, k => k []
 | m + 1, i, k => (y (numOf rows i, [], [], blkOf rows i, ())).bind fun h => leafS y rows m (i + 1) fun l => k (h :: l)
def endI {R : Type} (y86 : Int -> List H32 -> Option (List H32 × Int)) (ls : List H32) (rows : List (List (List UInt8))) : Nat -> Nat -> (List ShT -> Option R) -> Option R
 | 0, _, k => k []
 | m + 1, i, k => (y86 (i : Int) ls).bind fun p => endI y86 ls rows m (i + 1) fun l => k ((numOf rows i, [], p.1, blkOf rows i, ()) :: l)
noncomputable def t124 (y153 : Option (Option GF)) (y164 : GF -> List UInt8 -> List UInt8 -> Option UInt8) (y167 : List (List UInt8) -> Int -> Option (List UInt8)) (m x1 : List (List UInt8)) : Option (List (List UInt8)) :=
 y153.bind fun r => workG y164 y167 r x1 m fun l => some l
noncomputable def t46 (y55 : List UInt8 -> Option (List (List UInt8))) (y83 : Int -> Int -> Option (Option (Int × Int × List (List UInt8) × Unit) × Int)) (y84 : Int × Int × List (List UInt8) × Unit -> List UInt8 -> Option (List (List UInt8))) (y85 : ShT -> Option H32) (y86 : Int -> List H32 -> Option (List H32 × Int)) (y87 : List H32 -> Option H32) (x0 : List UInt8) (x1 : Int) (n q : Nat) : Option (List ShT × H32) :=
 (y83 x1 (n : Int)).bind fun r => (y55 x0).bind fun ss =>
  segsI (fun e k => stepsI e n 0 k) (fun s k => r.1.bind fun c => (y84 c s).bind k) ss q 0 fun rows =>
   leafS y85 rows n 0 fun ls => endI y86 ls rows n 0 fun l => (y87 ls).bind fun h => some (l, h)
noncomputable def K124 (y153 : T153) (y164 : T164) (y167 : T167) : Ctx := mkC tys cells maps [(i153, ⟨P153, R153, fun _ => y153⟩), (i164, ⟨P164, R164, fun x => y164 x.1 x.2.1 x.2.2.1⟩), (i167, ⟨P167, R167, fun x => y167 x.1 x.2.1⟩)] [tyBB] []
theorem a124_1 (y153 : T153) (y164 : T164) (y167 : T167) (m0 : List UInt8) (x1 : List (List UInt8)) : evF (K124 y153 y164 y167) F124 h124 P124 R124 ([m0], x1, ()) = t124 y153 y164 y167 [m0] x1 := by kernel_rfl
theorem e124_1 (m0 : List UInt8) (x1 : List (List UInt8)) : f124 [m0] x1 = t124 f153 f164 f167 [m0] x1 := Eq.trans (b := evF (K124 f153 f164 f167) F124 h124 P124 R124 ([m0], x1, ())) (by kernel_rfl) (a124_1 f153 f164 f167 m0 x1)
theorem a124_2 (y153 : T153) (y164 : T164) (y167 : T167) (m0 m1 : List UInt8) (x1 : List (List UInt8)) : evF (K124 y153 y164 y167) F124 h124 P124 R124 ([m0, m1], x1, ()) = t124 y153 y164 y167 [m0, m1] x1 := by kernel_rfl
theorem e124_2 (m0 m1 : List UInt8) (x1 : List (List UInt8)) : f124 [m0, m1] x1 = t124 f153 f164 f167 [m0, m1] x1 := Eq.trans (b := evF (K124 f153 f164 f167) F124 h124 P124 R124 ([m0, m1], x1, ())) (by kernel_rfl) (a124_2 f153 f164 f167 m0 m1 x1)
theorem a124_3 (y153 : T153) (y164 : T164) (y167 : T167) (m0 m1 m2 : List UInt8) (x1 : List (List UInt8)) : evF (K124 y153 y164 y167) F124 h124 P124 R124 ([m0, m1, m2], x1, ()) = t124 y153 y164 y167 [m0, m1, m2] x1 := by kernel_rfl
theorem e124_3 (m0 m1 m2 : List UInt8) (x1 : List (List UInt8)) : f124 [m0, m1, m2] x1 = t124 f153 f164 f167 [m0, m1, m2] x1 := Eq.trans (b := evF (K124 f153 f164 f167) F124 h124 P124 R124 ([m0, m1, m2], x1, ())) (by kernel_rfl) (a124_3 f153 f164 f167 m0 m1 m2 x1)
theorem a124_4 (y153 : T153) (y164 : T164) (y167 : T167) (m0 m1 m2 m3 : List UInt8) (x1 : List (List UInt8)) : evF (K124 y153 y164 y167) F124 h124 P124 R124 ([m0, m1, m2, m3], x1, ()) = t124 y153 y164 y167 [m0, m1, m2, m3] x1 := by kernel_rfl
theorem e124_4 (m0 m1 m2 m3 : List UInt8) (x1 : List (List UInt8)) : f124 [m0, m1, m2, m3] x1 = t124 f153 f164 f167 [m0, m1, m2, m3] x1 := Eq.trans (b := evF (K124 f153 f164 f167) F124 h124 P124 R124 ([m0, m1, m2, m3], x1, ())) (by kernel_rfl) (a124_4 f153 f164 f167 m0 m1 m2 m3 x1)
end Mx
end
section
open Go Go.Proofs Ev Sx
namespace Mx
noncomputable def K46 (y55 : T55) (y83 : T83) (y84 : T84) (y85 : T85) (y86 : T86) (y87 : T87) : Ctx := mkC tys cells maps [(i55, ⟨P55, R55, fun x => y55 x.1⟩), (i83, ⟨P83, R83, fun x => y83 x.1 x.2.1⟩), (i84, ⟨P84, R84, fun x => y84 x.1 x.2.1⟩), (i85, ⟨P85, R85, fun x => y85 x.1⟩), (i86, ⟨P86, R86, fun x => y86 x.1 x.2.1⟩), (i87, ⟨P87, R87, fun x => y87 x.1⟩)] [tySH] []
theorem a46_10 (y55 : T55) (y83 : T83) (y84 : T84) (y85 : T85) (y86 : T86) (y87 : T87) (x0 : List UInt8) (x1 : Int) : evF (K46 y55 y83 y84 y85 y86 y87) F46 ((h46 (x0, x1, (1 : Int), ())).getD 0 []) P46 R46 (x0, x1, (1 : Int), ()) = t46 y55 y83 y84 y85 y86 y87 x0 x1 1 0 := by kernel_rfl
theorem a46_11 (y55 : T55) (y83 : T83) (y84 : T84) (y85 : T85) (y86 : T86) (y87 : T87) (x0 : List UInt8) (x1 : Int) : evF (K46 y55 y83 y84 y85 y86 y87) F46 ((h46 (x0, x1, (1 : Int), ())).getD 1 []) P46 R46 (x0, x1, (1 : Int), ()) = t46 y55 y83 y84 y85 y86 y87 x0 x1 1 1 := by kernel_rfl
theorem a46_12 (y55 : T55) (y83 : T83) (y84 : T84) (y85 : T85) (y86 : T86) (y87 : T87) (x0 : List UInt8) (x1 : Int) : evF (K46 y55 y83 y84 y85 y86 y87) F46 ((h46 (x0, x1, (1 : Int), ())).getD 2 []) P46 R46 (x0, x1, (1 : Int), ()) = t46 y55 y83 y84 y85 y86 y87 x0 x1 1 2 := by kernel_rfl
theorem a46_13 (y55 : T55) (y83 : T83) (y84 : T84) (y85 : T85) (y86 : T86) (y87 : T87) (x0 : List UInt8) (x1 : Int) : evF (K46 y55 y83 y84 y85 y86 y87) F46 ((h46 (x0, x1, (1 : Int), ())).getD 3 []) P46 R46 (x0, x1, (1 : Int), ()) = t46 y55 y83 y84 y85 y86 y87 x0 x1 1 3 := by kernel_rfl
theorem e46_1 (x0 : List UInt8) (x1 : Int) : f46 x0 x1 1 = orAll [t46 f55 f83 f84 f85 f86 f87 x0 x1 1 0, t46 f55 f83 f84 f85 f86 f87 x0 x1 1 1, t46 f55 f83 f84 f85 f86 f87 x0 x1 1 2, t46 f55 f83 f84 f85 f86 f87 x0 x1 1 3] := Eq.trans (b := orAll ([evF (K46 f55 f83 f84 f85 f86 f87) F46 ((h46 (x0, x1, (1 : Int), ())).getD 0 []) P46 R46 (x0, x1, (1 : Int), ()), evF (K46 f55 f83 f84 f85 f86 f87) F46 ((h46 (x0, x1, (1 : Int), ())).getD 1 []) P46 R46 (x0, x1, (1 : Int), ()), evF (K46 f55 f83 f84 f85 f86 f87) F46 ((h46 (x0, x1, (1 : Int), ())).getD 2 []) P46 R46 (x0, x1, (1 : Int), ()), evF (K46 f55 f83 f84 f85 f86 f87) F46 ((h46 (x0, x1, (1 : Int), ())).getD 3 []) P46 R46 (x0, x1, (1 : Int), ())] : List _)) (by kernel_rfl) (by rw [a46_10 f55 f83 f84 f85 f86 f87, a46_11 f55 f83 f84 f85 f86 f87, a46_12 f55 f83 f84 f85 f86 f87, a46_13 f55 f83 f84 f85 f86 f87]; rfl)
theorem a46_20 (y55 : T55) (y83 : T83) (y84 : T84) (y85 : T85) (y86 : T86) (y87 : T87) (x0 : List UInt8) (x1 : Int) : evF (K46 y55 y83 y84 y85 y86 y87) F46 ((h46 (x0, x1, (2 : Int), ())).getD 0 []) P46 R46 (x0, x1, (2 : Int), ()) = t46 y55 y83 y84 y85 y86 y87 x0 x1 2 0 := by kernel_rfl
theorem a46_21 (y55 : T55) (y83 : T83) (y84 : T84) (y85 : T85) (y86 : T86) (y87 : T87) (x0 : List UInt8) (x1 : Int) : evF (K46 y55 y83 y84 y85 y86 y87) F46 ((h46 (x0, x1, (2 : Int), ())).getD 1 []) P46 R46 (x0, x1, (2 : Int), ()) = t46 y55 y83 y84 y85 y86 y87 x0 x1 2 1 := by kernel_rfl
theorem a46_22 (y55 : T55) (y83 : T83) (y84 : T84) (y85 : T85) (y86 : T86) (y87 : T87) (x0 : List UInt8) (x1 : Int) : evF (K46 y55 y83 y84 y85 y86 y87) F46 ((h46 (x0, x1, (2 : Int), ())).getD 2 []) P46 R46 (x0, x1, (2 : Int), ()) = t46 y55 y83 y84 y85 y86 y87 x0 x1 2 2 := by kernel_rfl
theorem a46_23 (y55 : T55) (y83 : T83) (y84 : T84) (y85 : T85) (y86 : T86) (y87 : T87) (x0 : List UInt8) (x1 : Int) : evF (K46 y55 y83 y84 y85 y86 y87) F46 ((h46 (x0, x1, (2 : Int), ())).getD 3 []) P46 R46 (x0, x1, (2 : Int), ()) = t46 y55 y83 y84 y85 y86 y87 x0 x1 2 3 := by kernel_rfl
theorem e46_2 (x0 : List UInt8) (x1 : Int) : f46 x0 x1 2 = orAll [t46 f55 f83 f84 f85 f86 f87 x0 x1 2 0, t46 f55 f83 f84 f85 f86 f87 x0 x1 2 1, t46 f55 f83 f84 f85 f86 f87 x0 x1 2 2, t46 f55 f83 f84 f85 f86 f87 x0 x1 2 3] := Eq.trans (b := orAll ([evF (K46 f55 f83 f84 f85 f86 f87) F46 ((h46 (x0, x1, (2 : Int), ())).getD 0 []) P46 R46 (x0, x1, (2 : Int), ()), evF (K46 f55 f83 f84 f85 f86 f87) F46 ((h46 (x0, x1, (2 : Int), ())).getD 1 []) P46 R46 (x0, x1, (2 : Int), ()), evF (K46 f55 f83 f84 f85 f86 f87) F46 ((h46 (x0, x1, (2 : Int), ())).getD 2 []) P46 R46 (x0, x1, (2 : Int), ()), evF (K46 f55 f83 f84 f85 f86 f87) F46 ((h46 (x0, x1, (2 : Int), ())).getD 3 []) P46 R46 (x0, x1, (2 : Int), ())] : List _)) (by kernel_rfl) (by rw [a46_20 f55 f83 f84 f85 f86 f87, a46_21 f55 f83 f84 f85 f86 f87, a46_22 f55 f83 f84 f85 f86 f87, a46_23 f55 f83 f84 f85 f86 f87]; rfl)
theorem a46_30 (y55 : T55) (y83 : T83) (y84 : T84) (y85 : T85) (y86 : T86) (y87 : T87) (x0 : List UInt8) (x1 : Int) : evF (K46 y55 y83 y84 y85 y86 y87) F46 ((h46 (x0, x1, (3 : Int), ())).getD 0 []) P46 R46 (x0, x1, (3 : Int), ()) = t46 y55 y83 y84 y85 y86 y87 x0 x1 3 0 := by kernel_rfl
theorem a46_31 (y55 : T55) (y83 : T83) (y84 : T84) (y85 : T85) (y86 : T86) (y87 : T87) (x0 : List UInt8) (x1 : Int) : evF (K46 y55 y83 y84 y85 y86 y87) F46 ((h46 (x0, x1, (3 : Int), ())).getD 1 []) P46 R46 (x0, x1, (3 : Int), ()) = t46 y55 y83 y84 y85 y86 y87 x0 x1 3 1 := by kernel_rfl
theorem a46_32 (y55 : T55) (y83 : T83) (y84 : T84) (y85 : T85) (y86 : T86) (y87 : T87) (x0 : List UInt8) (x1 : Int) : evF (K46 y55 y83 y84 y85 y86 y87) F46 ((h46 (x0, x1, (3 : Int), ())).getD 2 []) P46 R46 (x0, x1, (3 : Int), ()) = t46 y55 y83 y84 y85 y86 y87 x0 x1 3 2 := by kernel_rfl
theorem a46_33 (y55 : T55) (y83 : T83) (y84 : T84) (y85 : T85) (y86 : T86) (y87 : T87) (x0 : List UInt8) (x1 : Int) : evF (K46 y55 y83 y84 y85 y86 y87) F46 ((h46 (x0, x1, (3 : Int), ())).getD 3 []) P46 R46 (x0, x1, (3 : Int), ()) = t46 y55 y83 y84 y85 y86 y87 x0 x1 3 3 := by kernel_rfl
theorem e46_3 (x0 : List UInt8) (x1 : Int) : f46 x0 x1 3 = orAll [t46 f55 f83 f84 f85 f86 f87 x0 x1 3 0, t46 f55 f83 f84 f85 f86 f87 x0 x1 3 1, t46 f55 f83 f84 f85 f86 f87 x0 x1 3 2, t46 f55 f83 f84 f85 f86 f87 x0 x1 3 3] := Eq.trans (b := orAll ([evF (K46 f55 f83 f84 f85 f86 f87) F46 ((h46 (x0, x1, (3 : Int), ())).getD 0 []) P46 R46 (x0, x1, (3 : Int), ()), evF (K46 f55 f83 f84 f85 f86 f87) F46 ((h46 (x0, x1, (3 : Int), ())).getD 1 []) P46 R46 (x0, x1, (3 : Int), ()), evF (K46 f55 f83 f84 f85 f86 f87) F46 ((h46 (x0, x1, (3 : Int), ())).getD 2 []) P46 R46 (x0, x1, (3 : Int), ()), evF (K46 f55 f83 f84 f85 f86 f87) F46 ((h46 (x0, x1, (3 : Int), ())).getD 3 []) P46 R46 (x0, x1, (3 : Int), ())] : List _)) (by kernel_rfl) (by rw [a46_30 f55 f83 f84 f85 f86 f87, a46_31 f55 f83 f84 f85 f86 f87, a46_32 f55 f83 f84 f85 f86 f87, a46_33 f55 f83 f84 f85 f86 f87]; rfl)
theorem a46_40 (y55 : T55) (y83 : T83) (y84 : T84) (y85 : T85) (y86 : T86) (y87 : T87) (x0 : List UInt8) (x1 : Int) : evF (K46 y55 y83 y84 y85 y86 y87) F46 ((h46 (x0, x1, (4 : Int), ())).getD 0 []) P46 R46 (x0, x1, (4 : Int), ()) = t46 y55 y83 y84 y85 y86 y87 x0 x1 4 0 := by kernel_rfl
theorem a46_41 (y55 : T55) (y83 : T83) (y84 : T84) (y85 : T85) (y86 : T86) (y87 : T87) (x0 : List UInt8) (x1 : Int) : evF (K46 y55 y83 y84 y85 y86 y87) F46 ((h46 (x0, x1, (4 : Int), ())).getD 1 []) P46 R46 (x0, x1, (4 : Int), ()) = t46 y55 y83 y84 y85 y86 y87 x0 x1 4 1 := by kernel_rfl
theorem a46_42 (y55 : T55) (y83 : T83) (y84 : T84) (y85 : T85) (y86 : T86) (y87 : T87) (x0 : List UInt8) (x1 : Int) : evF (K46 y55 y83 y84 y85 y86 y87) F46 ((h46 (x0, x1, (4 : Int), ())).getD 2 []) P46 R46 (x0, x1, (4 : Int), ()) = t46 y55 y83 y84 y85 y86 y87 x0 x1 4 2 := by kernel_rfl
theorem a46_43 (y55 : T55) (y83 : T83) (y84 : T84) (y85 : T85) (y86 : T86) (y87 : T87) (x0 : List UInt8) (x1 : Int) : evF (K46 y55 y83 y84 y85 y86 y87) F46 ((h46 (x0, x1, (4 : Int), ())).getD 3 []) P46 R46 (x0, x1, (4 : Int), ()) = t46 y55 y83 y84 y85 y86 y87 x0 x1 4 3 := by kernel_rfl
theorem e46_4 (x0 : List UInt8) (x1 : Int) : f46 x0 x1 4 = orAll [t46 f55 f83 f84 f85 f86 f87 x0 x1 4 0, t46 f55 f83 f84 f85 f86 f87 x0 x1 4 1, t46 f55 f83 f84 f85 f86 f87 x0 x1 4 2, t46 f55 f83 f84 f85 f86 f87 x0 x1 4 3] := Eq.trans (b := orAll ([evF (K46 f55 f83 f84 f85 f86 f87) F46 ((h46 (x0, x1, (4 : Int), ())).getD 0 []) P46 R46 (x0, x1, (4 : Int), ()), evF (K46 f55 f83 f84 f85 f86 f87) F46 ((h46 (x0, x1, (4 : Int), ())).getD 1 []) P46 R46 (x0, x1, (4 : Int), ()), evF (K46 f55 f83 f84 f85 f86 f87) F46 ((h46 (x0, x1, (4 : Int), ())).getD 2 []) P46 R46 (x0, x1, (4 : Int), ()), evF (K46 f55 f83 f84 f85 f86 f87) F46 ((h46 (x0, x1, (4 : Int), ())).getD 3 []) P46 R46 (x0, x1, (4 : Int), ())] : List _)) (by kernel_rfl) (by rw [a46_40 f55 f83 f84 f85 f86 f87, a46_41 f55 f83 f84 f85 f86 f87, a46_42 f55 f83 f84 f85 f86 f87, a46_43 f55 f83 f84 f85 f86 f87]; rfl)
end Mx
end
section
open Go Go.Proofs Ev Sx
namespace Mx
noncomputable def f162 (x0 : Vector UInt8 (510 : Nat) × Vector Int (256 : Nat) × Unit) (x1 : UInt8) : Option UInt8 := Sx.r162 (x0, x1, ())
noncomputable def t162  (x0 : Vector UInt8 (510 : Nat) × Vector Int (256 : Nat) × Unit) (x1 : UInt8) : Option UInt8 := bif decide (x1 = (0 : UInt8)) then some (0 : UInt8) else if (0 : Int) <= (↑x1.toNat : Int) ∧ (↑x1.toNat : Int) < (256 : Int) then if (0 : Int) <= subI (255 : Int) (x0.2.1[(↑x1.toNat : Int).toNat]?.getD (0 : Int)) ∧ subI (255 : Int) (x0.2.1[(↑x1.toNat : Int).toNat]?.getD (0 : Int)) < (510 : Int) then some (x0.1[(subI (255 : Int) (x0.2.1[(↑x1.toNat : Int).toNat]?.getD (0 : Int))).toNat]?.getD (0 : UInt8)) else none else none
theorem e162 (x0 : Vector UInt8 (510 : Nat) × Vector Int (256 : Nat) × Unit) (x1 : UInt8) : f162 x0 x1 = t162 x0 x1 := by kernel_rfl
noncomputable def f154 (x0 : Vector UInt8 (510 : Nat) × Vector Int (256 : Nat) × Unit) (x1 : UInt8) (x2 : Int) : Option UInt8 := Sx.r154 (x0, x1, x2, ())
noncomputable def t154  (x0 : Vector UInt8 (510 : Nat) × Vector Int (256 : Nat) × Unit) (x1 : UInt8) (x2 : Int) : Option UInt8 := bif decide (x2 <= (0 : Int)) then some (1 : UInt8) else bif decide (x1 = (0 : UInt8)) then some (0 : UInt8) else if (0 : Int) <= (↑x1.toNat : Int) ∧ (↑x1.toNat : Int) < (256 : Int) then (remI x2 (255 : Int)).bind fun (c : Int) => (remI (mulI (x0.2.1[(↑x1.toNat : Int).toNat]?.getD (0 : Int)) c) (255 : Int)).bind fun (c : Int) => if (0 : Int) <= c ∧ c < (510 : Int) then some (x0.1[c.toNat]?.getD (0 : UInt8)) else none else none
theorem e154 (x0 : Vector UInt8 (510 : Nat) × Vector Int (256 : Nat) × Unit) (x1 : UInt8) (x2 : Int) : f154 x0 x1 x2 = t154 x0 x1 x2 := by kernel_rfl
end Mx
end
section
open Go Go.Proofs Ev Sx
namespace Mx
noncomputable def f115 (x0 x1 : Int) : Option (List (List UInt8)) := Sx.r115 (x0, x1, ())
abbrev T120 : Type := ∀ (x0 x1 : Int), Option (List (List UInt8))
noncomputable def f120 (x0 x1 : Int) : Option (List (List UInt8)) := Sx.r120 (x0, x1, ())
abbrev T121 : Type := ∀ (x0 : List (List UInt8)), Option (List (List UInt8) × Int)
noncomputable def f121 (x0 : List (List UInt8)) : Option (List (List UInt8) × Int) := Sx.r121 (x0, ())
abbrev T122 : Type := ∀ (x0 x1 : List (List UInt8)), Option (List (List UInt8) × Int)
noncomputable def f122 (x0 x1 : List (List UInt8)) : Option (List (List UInt8) × Int) := Sx.r122 (x0, x1, ())
noncomputable def f147 (x0 : UInt8) (x1 : Int) : Option UInt8 := Sx.r147 (x0, x1, ())
noncomputable def f149 (x0 : UInt8) : Option UInt8 := Sx.r149 (x0, ())
noncomputable def f150 (x0 x1 : List UInt8) : Option UInt8 := Sx.r150 (x0, x1, ())
noncomputable def f151 (x0 : List (List UInt8)) (x1 : Int) : Option (List UInt8) := Sx.r151 (x0, x1, ())
noncomputable def t83 (y120 : T120) (y121 : T121) (y122 : T122) (x0 x1 : Int) : Option (Option (Int × Int × List (List UInt8) × Unit) × Int) := (bif decide (x0 < (1 : Int)) then some true else bif decide (x1 < x0) then some true else some (decide ((16 : Int) < x1))).bind fun (x : Bool) => bif x then some (none, (1 : Int)) else (y120 x1 x0).bind fun (r : List (List UInt8)) => (cut? r (0 : Int) x0).bind fun (r_1 : List (List UInt8)) => (y121 r_1).bind fun (r_2 : List (List UInt8) × Int) => (y122 r r_2.1).bind fun (r : List (List UInt8) × Int) => some (some (x0, x1, r.1, ()), (0 : Int))
noncomputable def K83 (y120 : T120) (y121 : T121) (y122 : T122) : Ctx := mkC tys cells maps [(i120, ⟨P120, R120, fun x => y120 x.1 x.2.1⟩), (i121, ⟨P121, R121, fun x => y121 x.1⟩), (i122, ⟨P122, R122, fun x => y122 x.1 x.2.1⟩)] [] []
theorem a83 (y120 : T120) (y121 : T121) (y122 : T122) (x0 x1 : Int) : evF (K83 y120 y121 y122) F83 h83 P83 R83 (x0, x1, ()) = t83 y120 y121 y122 x0 x1 := by kernel_rfl
theorem e83 (x0 x1 : Int) : f83 x0 x1 = t83 f120 f121 f122 x0 x1 := Eq.trans (b := evF (K83 f120 f121 f122) F83 h83 P83 R83 (x0, x1, ())) (by kernel_rfl) (a83 f120 f121 f122 x0 x1)
end Mx
end
section
open Go Go.Proofs Ev Sx
namespace Mx
abbrev T445 : Type := Option Bool
noncomputable def f445 : Option Bool := Sx.r445 ()
end Mx
end
section
open Go Go.Proofs Ev Sx
namespace Mx
end Mx
end
section
open Go Go.Proofs Ev Sx
namespace Mx
instance : DecidableEq (Int × Int × Int × Int × Vector UInt8 32 × Vector UInt8 32 × Unit) := fun a b => Ev.decV (.pair .i64 (.pair .i64 (.pair .i64 (.pair .i64 (.pair (.arr 32 .u8) (.pair (.arr 32 .u8) .unit)))))) a b
abbrev T476 : Type := ∀ (x0 : List (List UInt8)) (x1 : List Int), Option (List (List UInt8) × Int)
noncomputable def f476 : T476 := fun x0 x1 => Sx.r476 (x0, x1, ())
abbrev T136 : Type := ∀ (x0 : Int × Vector UInt8 16 × Vector UInt8 32 × Int × Int × Int × List UInt8 × Unit), Option Bool
noncomputable def f136 : T136 := fun x0 => Sx.r136 (x0, ())
abbrev T182 : Type := ∀ (x0 : Int × Vector UInt8 16 × Vector UInt8 32 × Int × Int × Int × List UInt8 × Unit), Option Bool
noncomputable def f182 : T182 := fun x0 => Sx.r182 (x0, ())
abbrev T202 : Type := ∀ (x0 : Int × Int × List (List UInt8) × Unit) (x1 : Int), Option Int
noncomputable def f202 : T202 := fun x0 x1 => Sx.r202 (x0, x1, ())
abbrev T183 : Type := ∀ (x0 x1 : Int), Option Int
noncomputable def f183 : T183 := fun x0 x1 => Sx.r183 (x0, x1, ())
abbrev T203 : Type := ∀ (x0 x1 : Int) (x2 : Vector UInt8 32) (x3 : List (Vector UInt8 32)), Option (Vector UInt8 32 × Bool)
noncomputable def f203 : T203 := fun x0 x1 x2 x3 => Sx.r203 (x0, x1, x2, x3, ())
abbrev T184 : Type := ∀ (x0 : Vector UInt8 32) (x1 x2 : Int) (x3 : Vector UInt8 32) (x4 : List (Vector UInt8 32)), Option Bool
noncomputable def f184 : T184 := fun x0 x1 x2 x3 x4 => Sx.r184 (x0, x1, x2, x3, x4, ())
abbrev T244 : Type := ∀ (x0 : Int), Option Int
noncomputable def f244 : T244 := fun x0 => Sx.r244 (x0, ())
abbrev T224 : Type := ∀ (x0 x1 : Int) (x2 : Vector UInt8 32) (x3 : List (Vector UInt8 32)), Option (List (Vector (Vector UInt8 32) 2) × Vector UInt8 32 × Bool)
noncomputable def f224 : T224 := fun x0 x1 x2 x3 => Sx.r224 (x0, x1, x2, x3, ())
abbrev T146 : Type := ∀ (x0 : Int × Vector UInt8 16 × Vector UInt8 32 × Int × Int × Int × List UInt8 × Unit) (x1 : Int × List UInt8 × List (Vector UInt8 32) × List (List UInt8) × Unit), Option ((Int × Int × Int × Int × Vector UInt8 32 × Vector UInt8 32 × Unit) × Bool)
noncomputable def f146 : T146 := fun x0 x1 => Sx.r146 (x0, x1, ())
abbrev T410 : Type := ∀ (x0 : Int × Int × List (List UInt8) × Unit) (x1 : List (Int × List UInt8 × Unit)), Option (List UInt8 × Int)
noncomputable def f410 : T410 := fun x0 x1 => Sx.r410 (x0, x1, ())
abbrev T443 : Type := ∀ (x0 x1 : Int), Option (Int × Int)
noncomputable def f443 : T443 := fun x0 x1 => Sx.r443 (x0, x1, ())
abbrev T467 : Type := ∀ (x0 : Int × Vector UInt8 16 × Vector UInt8 32 × Int × Int × Int × List UInt8 × Unit) (x1 : List (Int × List UInt8 × List (Vector UInt8 32) × List (List UInt8) × Unit)), Option (List UInt8 × (Int × Int × Int × Int × Vector UInt8 32 × Vector UInt8 32 × Unit) × Int)
noncomputable def f467 : T467 := fun x0 x1 => Sx.r467 (x0, x1, ())
abbrev T470 : Type := ∀ (x0 : Int × Vector UInt8 16 × Vector UInt8 32 × Int × Int × Int × List UInt8 × Unit) (x1 : List UInt8), Option (List UInt8 × Int)
noncomputable def f470 : T470 := fun x0 x1 => Sx.r470 (x0, x1, ())
abbrev T471 : Type := ∀ (x0 : Int × Vector UInt8 16 × Vector UInt8 32 × Int × Int × Int × List UInt8 × Unit), Option Bool
noncomputable def f471 : T471 := fun x0 => Sx.r471 (x0, ())
abbrev T440 : Type := ∀ (x0 : Vector UInt8 16) (x1 : List UInt8) (x2 x3 : Int) (x4 : List Int), Option Bool
noncomputable def f440 : T440 := fun x0 x1 x2 x3 x4 => Sx.r440 (x0, x1, x2, x3, x4, ())
noncomputable def t136  (x0 : Int × Vector UInt8 16 × Vector UInt8 32 × Int × Int × Int × List UInt8 × Unit) : Option Bool := (bif decide (x0.1 = (1 : Int)) then some (decide (x0.1 = (1 : Int))) else some (decide (x0.1 = (2 : Int)))).bind fun (x : Bool) => bif x then (bif decide ((1 : Int) <= x0.2.2.2.1) then bif decide (x0.2.2.2.1 <= x0.2.2.2.2.1) then bif decide (x0.2.2.2.2.1 <= (16 : Int)) then bif decide ((1 : Int) <= x0.2.2.2.2.2.1) then bif decide (x0.2.2.2.2.2.1 <= (1024 : Int)) then some (decide ((↑x0.2.2.2.2.2.2.1.length : Int) = (0 : Int))) else some false else some false else some false else some false else some false).bind fun (x : Bool) => some x else bif decide (x0.1 = (3 : Int)) then (bif decide ((↑x0.2.2.2.2.2.2.1.length : Int) <= (64 : Int)) then bif decide (x0.2.1 = Vector.replicate 16 (0 : UInt8)) then bif decide (x0.2.2.1 = Vector.replicate 32 (0 : UInt8)) then bif decide (x0.2.2.2.1 = (0 : Int)) then bif decide (x0.2.2.2.2.1 = (0 : Int)) then some (decide (x0.2.2.2.2.2.1 = (0 : Int))) else some false else some false else some false else some false else some false).bind fun (x : Bool) => some x else (bif decide (x0.1 = (4 : Int)) then some (decide (x0.1 = (4 : Int))) else (bif decide (x0.1 = (5 : Int)) then some (decide (x0.1 = (5 : Int))) else (bif decide (x0.1 = (6 : Int)) then some (decide (x0.1 = (6 : Int))) else (bif decide (x0.1 = (7 : Int)) then some (decide (x0.1 = (7 : Int))) else (bif decide (x0.1 = (8 : Int)) then some (decide (x0.1 = (8 : Int))) else some (decide (x0.1 = (9 : Int)))).bind fun (x : Bool) => some x).bind fun (x : Bool) => some x).bind fun (x : Bool) => some x).bind fun (x : Bool) => some x).bind fun (x : Bool) => bif x then (bif decide (x0.2.2.2.1 = (0 : Int)) then bif decide (x0.2.2.2.2.1 = (0 : Int)) then bif decide (x0.2.2.2.2.2.1 = (0 : Int)) then some (decide ((↑x0.2.2.2.2.2.2.1.length : Int) = (0 : Int))) else some false else some false else some false).bind fun (x : Bool) => some x else some false
theorem e136 (x0) : f136 x0 = t136 x0 := by kernel_rfl
noncomputable def t182 (y94 : T94) (x0 : Int × Vector UInt8 16 × Vector UInt8 32 × Int × Int × Int × List UInt8 × Unit) : Option Bool := (bif decide (x0.1 = (1 : Int)) then (y94 x0.2.2.2.1 x0.2.2.2.2.1).bind fun (r : Bool) => bif r then bif decide ((1 : Int) <= x0.2.2.2.2.2.1) then bif decide (x0.2.2.2.2.2.1 <= (1024 : Int)) then some (decide ((↑x0.2.2.2.2.2.2.1.length : Int) = (0 : Int))) else some false else some false else some false else bif decide (x0.1 = (2 : Int)) then (y94 x0.2.2.2.1 x0.2.2.2.2.1).bind fun (r : Bool) => bif r then bif decide ((1 : Int) <= x0.2.2.2.2.2.1) then bif decide (x0.2.2.2.2.2.1 <= (1024 : Int)) then some (decide ((↑x0.2.2.2.2.2.2.1.length : Int) = (0 : Int))) else some false else some false else some false else some false).bind fun (x : Bool) => some x
noncomputable def K182 (y94 : T94) : Ctx := mkC tys cells maps [(i94, ⟨P94, R94, fun x => y94 x.1 x.2.1⟩)] [] []
theorem a182 (y94 : T94) (x0) : t182 y94 x0 = evF (K182 y94) F182 h182 P182 R182 (x0, ()) := by kernel_rfl
theorem e182 (x0) : f182 x0 = t182 f94 x0 := Eq.trans (b := evF (K182 f94) F182 h182 P182 R182 (x0, ())) (by kernel_rfl) (a182 f94 x0).symm
noncomputable def t202  (x0 : Int × Int × List (List UInt8) × Unit) (x1 : Int) : Option Int := bif decide (x1 <= (0 : Int)) then some (0 : Int) else (quoI (subI x1 (1 : Int)) x0.1).bind fun (c : Int) => some (addI c (1 : Int))
theorem e202 (x0) (x1) : f202 x0 x1 = t202 x0 x1 := by kernel_rfl
noncomputable def t183 (y83 : T83) (y202 : T202) (x0 x1 : Int) : Option Int := (y83 x0 (maxI x0 (16 : Int))).bind fun (r : Option (Int × Int × List (List UInt8) × Unit) × Int) => bif decide (r.2 = (0 : Int)) then r.1.bind fun (y : Int × Int × List (List UInt8) × Unit) => (y202 y x1).bind fun (r : Int) => some r else bif decide (x0 < (1 : Int)) then some (-1 : Int) else bif decide (x1 < (1 : Int)) then some (0 : Int) else (quoI (subI x1 (1 : Int)) x0).bind fun (c : Int) => some (addI c (1 : Int))
noncomputable def K183 (y83 : T83) (y202 : T202) : Ctx := mkC tys cells maps [(i83, ⟨P83, R83, fun x => y83 x.1 x.2.1⟩), (i202, ⟨P202, R202, fun x => y202 x.1 x.2.1⟩)] [] []
theorem a183 (y83 : T83) (y202 : T202) (x0) (x1) : t183 y83 y202 x0 x1 = evF (K183 y83 y202) F183 h183 P183 R183 (x0, x1, ()) := by kernel_rfl
theorem e183 (x0) (x1) : f183 x0 x1 = t183 f83 f202 x0 x1 := Eq.trans (b := evF (K183 f83 f202) F183 h183 P183 R183 (x0, x1, ())) (by kernel_rfl) (a183 f83 f202 x0 x1).symm
noncomputable def t203 (y224 : T224) (x0 x1 : Int) (x2 : Vector UInt8 32) (x3 : List (Vector UInt8 32)) : Option (Vector UInt8 32 × Bool) := (y224 x0 x1 x2 x3).bind fun (r : List (Vector (Vector UInt8 32) 2) × Vector UInt8 32 × Bool) => some (r.2.1, r.2.2)
noncomputable def K203 (y224 : T224) : Ctx := mkC tys cells maps [(i224, ⟨P224, R224, fun x => y224 x.1 x.2.1 x.2.2.1 x.2.2.2.1⟩)] [] []
theorem a203 (y224 : T224) (x0) (x1) (x2) (x3) : t203 y224 x0 x1 x2 x3 = evF (K203 y224) F203 h203 P203 R203 (x0, x1, x2, x3, ()) := by kernel_rfl
theorem e203 (x0) (x1) (x2) (x3) : f203 x0 x1 x2 x3 = t203 f224 x0 x1 x2 x3 := Eq.trans (b := evF (K203 f224) F203 h203 P203 R203 (x0, x1, x2, x3, ())) (by kernel_rfl) (a203 f224 x0 x1 x2 x3).symm
noncomputable def t184 (y203 : T203) (x0 : Vector UInt8 32) (x1 x2 : Int) (x3 : Vector UInt8 32) (x4 : List (Vector UInt8 32)) : Option Bool := (y203 x1 x2 x3 x4).bind fun (r : Vector UInt8 32 × Bool) => (bif r.2 then some (decide (r.1 = x0)) else some false).bind fun (x : Bool) => some x
noncomputable def K184 (y203 : T203) : Ctx := mkC tys cells maps [(i203, ⟨P203, R203, fun x => y203 x.1 x.2.1 x.2.2.1 x.2.2.2.1⟩)] [] []
theorem a184 (y203 : T203) (x0) (x1) (x2) (x3) (x4) : t184 y203 x0 x1 x2 x3 x4 = evF (K184 y203) F184 h184 P184 R184 (x0, x1, x2, x3, x4, ()) := by kernel_rfl
theorem e184 (x0) (x1) (x2) (x3) (x4) : f184 x0 x1 x2 x3 x4 = t184 f203 x0 x1 x2 x3 x4 := Eq.trans (b := evF (K184 f203) F184 h184 P184 R184 (x0, x1, x2, x3, x4, ())) (by kernel_rfl) (a184 f203 x0 x1 x2 x3 x4).symm
noncomputable def t244 (y128 : T128) (x0 : Int) : Option Int := (y128 x0).bind fun (r : Int) => (iter (fun (x : Int × Int) => bif decide ((1 : Int) < x.2) then (quoI x.2 (2 : Int)).bind fun (c : Int) => some (Sum.inl (addI x.1 (1 : Int), c)) else some (Sum.inr x.1)) ((0 : Int), r)).bind fun (y : Int) => some y
noncomputable def K244 (y128 : T128) : Ctx := mkC tys cells maps [(i128, ⟨P128, R128, fun x => y128 x.1⟩)] [] []
theorem a244 (y128 : T128) (x0) : t244 y128 x0 = evF (K244 y128) F244 h244 P244 R244 (x0, ()) := by kernel_rfl
theorem e244 (x0) : f244 x0 = t244 f128 x0 := Eq.trans (b := evF (K244 f128) F244 h244 P244 R244 (x0, ())) (by kernel_rfl) (a244 f128 x0).symm
noncomputable def t224 (y129 : T129) (y244 : T244) (x0 x1 : Int) (x2 : Vector UInt8 32) (x3 : List (Vector UInt8 32)) : Option (List (Vector (Vector UInt8 32) 2) × Vector UInt8 32 × Bool) := (bif decide (x1 < (0 : Int)) then some true else bif decide (x0 <= x1) then some true else bif decide ((256 : Int) < x0) then some true else (y244 x0).bind fun (r : Int) => some (decide ((↑x3.length : Int) ≠ r))).bind fun (x : Bool) => bif x then some ([], Vector.replicate 32 (0 : UInt8), false) else (iter (fun (x : Int × List (Vector (Vector UInt8 32) 2) × Int × Vector UInt8 32) => bif decide (x.2.2.1 < (↑x3.length : Int)) then (at? x3 x.2.2.1).bind fun (y : Vector UInt8 32) => (remI x.1 (2 : Int)).bind fun (c : Int) => (bif decide (c = (1 : Int)) then some (vecOf 2 [y, x.2.2.2] (Vector.replicate 32 (0 : UInt8))) else some (vecOf 2 [x.2.2.2, y] (Vector.replicate 32 (0 : UInt8)))).bind fun (x_1 : Vector (Vector UInt8 32) 2) => (app? x.2.1 [x_1]).bind fun (zs : List (Vector (Vector UInt8 32) 2)) => (y129 (x_1[(0 : Nat)]?.getD (Vector.replicate 32 (0 : UInt8))) (x_1[1]?.getD (Vector.replicate 32 (0 : UInt8)))).bind fun (r : Vector UInt8 32) => (quoI x.1 (2 : Int)).bind fun (c : Int) => some (Sum.inl (c, zs, addI x.2.2.1 (1 : Int), r)) else some (Sum.inr (x.2.1, x.2.2.2))) (x1, [], (0 : Int), x2)).bind fun (y : List (Vector (Vector UInt8 32) 2) × Vector UInt8 32) => some (y.1, y.2, true)
noncomputable def K224 (y129 : T129) (y244 : T244) : Ctx := mkC tys cells maps [(i129, ⟨P129, R129, fun x => y129 x.1 x.2.1⟩), (i244, ⟨P244, R244, fun x => y244 x.1⟩)] [] []
theorem a224 (y129 : T129) (y244 : T244) (x0) (x1) (x2) (x3) : t224 y129 y244 x0 x1 x2 x3 = evF (K224 y129 y244) F224 h224 P224 R224 (x0, x1, x2, x3, ()) := by kernel_rfl
theorem e224 (x0) (x1) (x2) (x3) : f224 x0 x1 x2 x3 = t224 f129 f244 x0 x1 x2 x3 := Eq.trans (b := evF (K224 f129 f244) F224 h224 P224 R224 (x0, x1, x2, x3, ())) (by kernel_rfl) (a224 f129 f244 x0 x1 x2 x3).symm
noncomputable def t146 (y20 : T20) (y49 : T49) (y85 : T85) (y182 : T182) (y183 : T183) (y184 : T184) (x0 : Int × Vector UInt8 16 × Vector UInt8 32 × Int × Int × Int × List UInt8 × Unit) (x1 : Int × List UInt8 × List (Vector UInt8 32) × List (List UInt8) × Unit) : Option ((Int × Int × Int × Int × Vector UInt8 32 × Vector UInt8 32 × Unit) × Bool) := (y20 x1.2.1).bind fun (r : (Int × Int × Int × Int × Vector UInt8 32 × Vector UInt8 32 × Unit) × Bool) => (bif !r.2 then some true else (y182 x0).bind fun (r_1 : Bool) => bif !r_1 then some true else (y49 x1.2.1).bind fun (r_2 : Vector UInt8 32) => bif !decide (r_2 = x0.2.2.1) then some true else bif decide (r.1.1 ≠ x0.2.2.2.1) then some true else bif decide (r.1.2.1 ≠ x0.2.2.2.2.1) then some true else bif decide (r.1.2.2.1 ≠ x0.2.2.2.2.2.1) then some true else bif decide (x1.1 < (0 : Int)) then some true else some (decide (r.1.2.1 <= x1.1))).bind fun (x : Bool) => bif x then some (((0 : Int), (0 : Int), (0 : Int), (0 : Int), Vector.replicate 32 (0 : UInt8), Vector.replicate 32 (0 : UInt8), ()), false) else (iter (fun (x : Int × Int × Int × Int × Int × Int × Vector UInt8 32 × Vector UInt8 32 × Unit) => bif decide (x.2.1 < (↑x1.2.2.2.1.length : Int)) then (at? x1.2.2.2.1 x.2.1).bind fun (y : List UInt8) => (bif decide (x.1 <= (0 : Int)) then some true else (y183 r.1.1 (minI x.1 (64 : Int))).bind fun (r : Int) => some (decide ((↑y.length : Int) ≠ r))).bind fun (x_1 : Bool) => bif x_1 then some (Sum.inr (Sum.inr (false, (0 : Int), (0 : Int), (0 : Int), (0 : Int), Vector.replicate 32 (0 : UInt8), Vector.replicate 32 (0 : UInt8), ()))) else some (Sum.inl (subI x.1 (64 : Int), addI x.2.1 (1 : Int), x.2.2)) else some (Sum.inr (Sum.inl (x.1, x.2.2)))) (r.1.2.2.1, (0 : Int), (0 : Int), (0 : Int), (0 : Int), (0 : Int), Vector.replicate 32 (0 : UInt8), Vector.replicate 32 (0 : UInt8), ())).bind fun (y : Int × Int × Int × Int × Int × Vector UInt8 32 × Vector UInt8 32 × Unit ⊕ Bool × Int × Int × Int × Int × Vector UInt8 32 × Vector UInt8 32 × Unit) => sumE y (fun (x : Int × Int × Int × Int × Int × Vector UInt8 32 × Vector UInt8 32 × Unit) => (bif decide ((0 : Int) < x.1) then some true else (y85 x1).bind fun (r_1 : Vector UInt8 32) => (y184 r.1.2.2.2.2.2.1 r.1.2.1 x1.1 r_1 x1.2.2.1).bind fun (r : Bool) => some !r).bind fun (x : Bool) => bif x then some (((0 : Int), (0 : Int), (0 : Int), (0 : Int), Vector.replicate 32 (0 : UInt8), Vector.replicate 32 (0 : UInt8), ()), false) else some (r.1, true)) fun (x : Bool × Int × Int × Int × Int × Vector UInt8 32 × Vector UInt8 32 × Unit) => some (x.2, x.1)
noncomputable def K146 (y20 : T20) (y49 : T49) (y85 : T85) (y182 : T182) (y183 : T183) (y184 : T184) : Ctx := mkC tys cells maps [(i20, ⟨P20, R20, fun x => y20 x.1⟩), (i49, ⟨P49, R49, fun x => y49 x.1⟩), (i85, ⟨P85, R85, fun x => y85 x.1⟩), (i182, ⟨P182, R182, fun x => y182 x.1⟩), (i183, ⟨P183, R183, fun x => y183 x.1 x.2.1⟩), (i184, ⟨P184, R184, fun x => y184 x.1 x.2.1 x.2.2.1 x.2.2.2.1 x.2.2.2.2.1⟩)] [] []
theorem a146 (y20 : T20) (y49 : T49) (y85 : T85) (y182 : T182) (y183 : T183) (y184 : T184) (x0) (x1) : t146 y20 y49 y85 y182 y183 y184 x0 x1 = evF (K146 y20 y49 y85 y182 y183 y184) F146 h146 P146 R146 (x0, x1, ()) := by kernel_rfl
theorem e146 (x0) (x1) : f146 x0 x1 = t146 f20 f49 f85 f182 f183 f184 x0 x1 := Eq.trans (b := evF (K146 f20 f49 f85 f182 f183 f184) F146 h146 P146 R146 (x0, x1, ())) (by kernel_rfl) (a146 f20 f49 f85 f182 f183 f184 x0 x1).symm
noncomputable def t410 (y121 : T121) (y124 : T124) (y476 : T476) (x0 : Int × Int × List (List UInt8) × Unit) (x1 : List (Int × List UInt8 × Unit)) : Option (List UInt8 × Int) := bif decide ((↑x1.length : Int) ≠ x0.1) then some ([], (1 : Int)) else (iter (fun (x : List Int × List (List UInt8) × Int) => bif decide (x.2.2 < (↑x1.length : Int)) then (at? x1 x.2.2).bind fun (y : Int × List UInt8 × Unit) => (bif decide (y.1 < (0 : Int)) then some true else bif decide (x0.2.1 <= y.1) then some true else (at? x1 (0 : Int)).bind fun (y_1 : Int × List UInt8 × Unit) => some (decide ((↑y.2.1.length : Int) ≠ (↑y_1.2.1.length : Int)))).bind fun (x_1 : Bool) => bif x_1 then some (Sum.inr (Sum.inr ([], (1 : Int)))) else (cut? x1 (0 : Int) x.2.2).bind fun (r : List (Int × List UInt8 × Unit)) => (iter (fun (x : Int) => bif decide (x < (↑r.length : Int)) then (at? r x).bind fun (y_1 : Int × List UInt8 × Unit) => bif decide (y_1.1 = y.1) then some (Sum.inr (Sum.inr ([], (1 : Int)))) else some (Sum.inl (addI x (1 : Int))) else some (Sum.inr (Sum.inl ()))) (0 : Int)).bind fun (y_1 : Unit ⊕ List UInt8 × Int) => sumE y_1 (fun (x_2 : Unit) => (app? x.1 [y.1]).bind fun (zs : List Int) => (app? x.2.1 [y.2.1]).bind fun (zs_1 : List (List UInt8)) => some (Sum.inl (zs, zs_1, addI x.2.2 (1 : Int)))) fun (x : List UInt8 × Int) => some (Sum.inr (Sum.inr (x.1, x.2))) else some (Sum.inr (Sum.inl (x.1, x.2.1)))) ([], [], (0 : Int))).bind fun (y : List Int × List (List UInt8) ⊕ List UInt8 × Int) => sumE y (fun (x : List Int × List (List UInt8)) => (y476 x0.2.2.1 x.1).bind fun (r : List (List UInt8) × Int) => (y121 r.1).bind fun (r : List (List UInt8) × Int) => bif decide (r.2 ≠ (0 : Int)) then some ([], r.2) else (y124 r.1 x.2).bind fun (r : List (List UInt8)) => (iter (fun (x : List UInt8 × Int) => bif decide (x.2 < (↑r.length : Int)) then (at? r x.2).bind fun (y : List UInt8) => (app? x.1 y).bind fun (zs : List UInt8) => some (Sum.inl (zs, addI x.2 (1 : Int))) else some (Sum.inr x.1)) ([], (0 : Int))).bind fun (y : List UInt8) => some (y, (0 : Int))) fun (x : List UInt8 × Int) => some (x.1, x.2)
noncomputable def K410 (y121 : T121) (y124 : T124) (y476 : T476) : Ctx := mkC tys cells maps [(i121, ⟨P121, R121, fun x => y121 x.1⟩), (i124, ⟨P124, R124, fun x => y124 x.1 x.2.1⟩), (i476, ⟨P476, R476, fun x => y476 x.1 x.2.1⟩)] [] []
theorem a410 (y121 : T121) (y124 : T124) (y476 : T476) (x0) (x1) : t410 y121 y124 y476 x0 x1 = evF (K410 y121 y124 y476) F410 h410 P410 R410 (x0, x1, ()) := by kernel_rfl
theorem e410 (x0) (x1) : f410 x0 x1 = t410 f121 f124 f476 x0 x1 := Eq.trans (b := evF (K410 f121 f124 f476) F410 h410 P410 R410 (x0, x1, ())) (by kernel_rfl) (a410 f121 f124 f476 x0 x1).symm
noncomputable def t443 (y6 : T6) (x0 x1 : Int) : Option (Int × Int) := (y6 x1 (4 : Int)).bind fun (r : Int) => (y6 x0 (addI (1 : Int) r)).bind fun (r_1 : Int) => some (addI (1 : Int) r_1, addI (1 : Int) r)
noncomputable def K443 (y6 : T6) : Ctx := mkC tys cells maps [(i6, ⟨P6, R6, fun x => y6 x.1 x.2.1⟩)] [] []
theorem a443 (y6 : T6) (x0) (x1) : t443 y6 x0 x1 = evF (K443 y6) F443 h443 P443 R443 (x0, x1, ()) := by kernel_rfl
theorem e443 (x0) (x1) : f443 x0 x1 = t443 f6 x0 x1 := Eq.trans (b := evF (K443 f6) F443 h443 P443 R443 (x0, x1, ())) (by kernel_rfl) (a443 f6 x0 x1).symm
noncomputable def t467 (y48 : T48) (y83 : T83) (y146 : T146) (y410 : T410) (y471 : T471) (x0 : Int × Vector UInt8 16 × Vector UInt8 32 × Int × Int × Int × List UInt8 × Unit) (x1 : List (Int × List UInt8 × List (Vector UInt8 32) × List (List UInt8) × Unit)) : Option (List UInt8 × (Int × Int × Int × Int × Vector UInt8 32 × Vector UInt8 32 × Unit) × Int) := (y471 x0).bind fun (r : Bool) => bif !r then some ([], ((0 : Int), (0 : Int), (0 : Int), (0 : Int), Vector.replicate 32 (0 : UInt8), Vector.replicate 32 (0 : UInt8), ()), (11 : Int)) else bif decide ((↑x1.length : Int) ≠ x0.2.2.2.1) then some ([], ((0 : Int), (0 : Int), (0 : Int), (0 : Int), Vector.replicate 32 (0 : UInt8), Vector.replicate 32 (0 : UInt8), ()), (1 : Int)) else (iter (fun (x : Int × Int × Int × Int × Int × Vector UInt8 32 × Vector UInt8 32 × Unit) => bif decide (x.1 < (↑x1.length : Int)) then (at? x1 x.1).bind fun (y : Int × List UInt8 × List (Vector UInt8 32) × List (List UInt8) × Unit) => (y146 x0 y).bind fun (r : (Int × Int × Int × Int × Vector UInt8 32 × Vector UInt8 32 × Unit) × Bool) => (bif !r.2 then some true else bif decide ((0 : Int) < x.1) then (at? x1 (subI x.1 (1 : Int))).bind fun (y_1 : Int × List UInt8 × List (Vector UInt8 32) × List (List UInt8) × Unit) => some (decide (y.1 <= y_1.1)) else some false).bind fun (x_1 : Bool) => bif x_1 then some (Sum.inr (Sum.inr ([], (1 : Int), (0 : Int), (0 : Int), (0 : Int), (0 : Int), Vector.replicate 32 (0 : UInt8), Vector.replicate 32 (0 : UInt8), ()))) else some (Sum.inl (addI x.1 (1 : Int), x.2)) else some (Sum.inr (Sum.inl x.2))) ((0 : Int), (0 : Int), (0 : Int), (0 : Int), (0 : Int), Vector.replicate 32 (0 : UInt8), Vector.replicate 32 (0 : UInt8), ())).bind fun (y : Int × Int × Int × Int × Vector UInt8 32 × Vector UInt8 32 × Unit ⊕ List UInt8 × Int × Int × Int × Int × Int × Vector UInt8 32 × Vector UInt8 32 × Unit) => sumE y (fun (x : Int × Int × Int × Int × Vector UInt8 32 × Vector UInt8 32 × Unit) => (at? x1 (0 : Int)).bind fun (y : Int × List UInt8 × List (Vector UInt8 32) × List (List UInt8) × Unit) => (y146 x0 y).bind fun (r : (Int × Int × Int × Int × Vector UInt8 32 × Vector UInt8 32 × Unit) × Bool) => (y83 r.1.1 r.1.2.1).bind fun (r_1 : Option (Int × Int × List (List UInt8) × Unit) × Int) => (at? x1 (0 : Int)).bind fun (y : Int × List UInt8 × List (Vector UInt8 32) × List (List UInt8) × Unit) => (iter (fun (x : List UInt8 × Int × Int × Int × Int × Int × Vector UInt8 32 × Vector UInt8 32 × Unit) => bif decide (x.2.1 < (↑y.2.2.2.1.length : Int)) then (iter (fun (x_1 : List (Int × List UInt8 × Unit) × Int) => bif decide (x_1.2 < (↑x1.length : Int)) then (at? x1 x_1.2).bind fun (y : Int × List UInt8 × List (Vector UInt8 32) × List (List UInt8) × Unit) => (at? y.2.2.2.1 x.2.1).bind fun (y_1 : List UInt8) => (app? x_1.1 [(y.1, y_1, ())]).bind fun (zs : List (Int × List UInt8 × Unit)) => some (Sum.inl (zs, addI x_1.2 (1 : Int))) else some (Sum.inr x_1.1)) ([], (0 : Int))).bind fun (y : List (Int × List UInt8 × Unit)) => r_1.1.bind fun (y_1 : Int × Int × List (List UInt8) × Unit) => (y410 y_1 y).bind fun (r_2 : List UInt8 × Int) => bif decide (r_2.2 ≠ (0 : Int)) then some (Sum.inr (Sum.inr ([], (13 : Int), (0 : Int), (0 : Int), (0 : Int), (0 : Int), Vector.replicate 32 (0 : UInt8), Vector.replicate 32 (0 : UInt8), ()))) else (cut? r_2.1 (0 : Int) (minI (minI (↑r_2.1.length : Int) (64 : Int)) (subI r.1.2.2.1 (↑x.1.length : Int)))).bind fun (r : List UInt8) => (app? x.1 r).bind fun (zs : List UInt8) => some (Sum.inl (zs, addI x.2.1 (1 : Int), x.2.2)) else some (Sum.inr (Sum.inl (x.1, x.2.2)))) ([], (0 : Int), x)).bind fun (y : List UInt8 × Int × Int × Int × Int × Vector UInt8 32 × Vector UInt8 32 × Unit ⊕ List UInt8 × Int × Int × Int × Int × Int × Vector UInt8 32 × Vector UInt8 32 × Unit) => sumE y (fun (x : List UInt8 × Int × Int × Int × Int × Vector UInt8 32 × Vector UInt8 32 × Unit) => (y48 x.1).bind fun (r_2 : Vector UInt8 32) => bif !decide (r_2 = r.1.2.2.2.2.1) then some ([], ((0 : Int), (0 : Int), (0 : Int), (0 : Int), Vector.replicate 32 (0 : UInt8), Vector.replicate 32 (0 : UInt8), ()), (13 : Int)) else some (x.1, r.1, (0 : Int))) fun (x : List UInt8 × Int × Int × Int × Int × Int × Vector UInt8 32 × Vector UInt8 32 × Unit) => some (x.1, x.2.2, x.2.1)) fun (x : List UInt8 × Int × Int × Int × Int × Int × Vector UInt8 32 × Vector UInt8 32 × Unit) => some (x.1, x.2.2, x.2.1)
noncomputable def K467 (y48 : T48) (y83 : T83) (y146 : T146) (y410 : T410) (y471 : T471) : Ctx := mkC tys cells maps [(i48, ⟨P48, R48, fun x => y48 x.1⟩), (i83, ⟨P83, R83, fun x => y83 x.1 x.2.1⟩), (i146, ⟨P146, R146, fun x => y146 x.1 x.2.1⟩), (i410, ⟨P410, R410, fun x => y410 x.1 x.2.1⟩), (i471, ⟨P471, R471, fun x => y471 x.1⟩)] [] []
theorem a467 (y48 : T48) (y83 : T83) (y146 : T146) (y410 : T410) (y471 : T471) (x0) (x1) : t467 y48 y83 y146 y410 y471 x0 x1 = evF (K467 y48 y83 y146 y410 y471) F467 h467 P467 R467 (x0, x1, ()) := by kernel_rfl
theorem e467 (x0) (x1) : f467 x0 x1 = t467 f48 f83 f146 f410 f471 x0 x1 := Eq.trans (b := evF (K467 f48 f83 f146 f410 f471) F467 h467 P467 R467 (x0, x1, ())) (by kernel_rfl) (a467 f48 f83 f146 f410 f471 x0 x1).symm
noncomputable def t470 (y23 : T23) (y136 : T136) (x0 : Int × Vector UInt8 16 × Vector UInt8 32 × Int × Int × Int × List UInt8 × Unit) (x1 : List UInt8) : Option (List UInt8 × Int) := ((y136 x0).bind fun (r : Bool) => bif !r then some true else some (decide (x0.1 ≠ (1 : Int)))).bind fun (x : Bool) => bif x then some ([], (11 : Int)) else bif decide ((↑x1.length : Int) ≠ x0.2.2.2.2.2.1) then some ([], (1 : Int)) else (y23 x0.2.1 (0 : Int) x1).bind fun (r : List UInt8) => some (r, (0 : Int))
noncomputable def K470 (y23 : T23) (y136 : T136) : Ctx := mkC tys cells maps [(i23, ⟨P23, R23, fun x => y23 x.1 x.2.1 x.2.2.1⟩), (i136, ⟨P136, R136, fun x => y136 x.1⟩)] [] []
theorem a470 (y23 : T23) (y136 : T136) (x0) (x1) : t470 y23 y136 x0 x1 = evF (K470 y23 y136) F470 h470 P470 R470 (x0, x1, ()) := by kernel_rfl
theorem e470 (x0) (x1) : f470 x0 x1 = t470 f23 f136 x0 x1 := Eq.trans (b := evF (K470 f23 f136) F470 h470 P470 R470 (x0, x1, ())) (by kernel_rfl) (a470 f23 f136 x0 x1).symm
noncomputable def t471 (y136 : T136) (x0 : Int × Vector UInt8 16 × Vector UInt8 32 × Int × Int × Int × List UInt8 × Unit) : Option Bool := ((y136 x0).bind fun (r : Bool) => bif r then bif decide (x0.1 = (1 : Int)) then some true else some (decide (x0.1 = (2 : Int))) else some false).bind fun (x : Bool) => some x
noncomputable def K471 (y136 : T136) : Ctx := mkC tys cells maps [(i136, ⟨P136, R136, fun x => y136 x.1⟩)] [] []
theorem a471 (y136 : T136) (x0) : t471 y136 x0 = evF (K471 y136) F471 h471 P471 R471 (x0, ()) := by kernel_rfl
theorem e471 (x0) : f471 x0 = t471 f136 x0 := Eq.trans (b := evF (K471 f136) F471 h471 P471 R471 (x0, ())) (by kernel_rfl) (a471 f136 x0).symm
noncomputable def t440 (y4 : T4) (y13 : T13) (y19 : T19) (y20 : T20) (y443 : T443) (y445 : T445) (y467 : T467) (y470 : T470) (x0 : Vector UInt8 16) (x1 : List UInt8) (x2 x3 : Int) (x4 : List Int) : Option Bool := (y4 x1).bind fun (r : List UInt8) => (y443 x2 x3).bind fun (r_1 : Int × Int) => (y19 x0 r r_1.1 r_1.2).bind fun (r_2 : (Int × Vector UInt8 16 × Vector UInt8 32 × Int × Int × Int × List UInt8 × Unit) × List (Int × List UInt8 × List (Vector UInt8 32) × List (List UInt8) × Unit) × Int) => (bif decide (r_2.2.2 ≠ (0 : Int)) then some true else some (decide ((↑r_2.2.1.length : Int) ≠ r_1.2))).bind fun (x : Bool) => bif x then some false else (iter (fun (x : List (Int × List UInt8 × List (Vector UInt8 32) × List (List UInt8) × Unit) × Int) => (bif decide (x.2 < r_1.2) then some (decide ((↑x.1.length : Int) < r_1.1)) else some false).bind fun (x_1 : Bool) => bif x_1 then (bif decide (subI r_1.2 x.2 = subI r_1.1 (↑x.1.length : Int)) then some true else bif decide (x.2 < (↑x4.length : Int)) then (at? x4 x.2).bind fun (y : Int) => (remI y (2 : Int)).bind fun (c : Int) => some (decide (c = (0 : Int))) else some false).bind fun (x_2 : Bool) => (bif x_2 then (at? r_2.2.1 x.2).bind fun (y : Int × List UInt8 × List (Vector UInt8 32) × List (List UInt8) × Unit) => (app? x.1 [y]).bind fun (zs : List (Int × List UInt8 × List (Vector UInt8 32) × List (List UInt8) × Unit)) => some zs else some x.1).bind fun (x_3 : List (Int × List UInt8 × List (Vector UInt8 32) × List (List UInt8) × Unit)) => some (Sum.inl (x_3, addI x.2 (1 : Int))) else some (Sum.inr x.1)) ([], (0 : Int))).bind fun (y : List (Int × List UInt8 × List (Vector UInt8 32) × List (List UInt8) × Unit)) => (y467 r_2.1 y).bind fun (r_3 : List UInt8 × (Int × Int × Int × Int × Vector UInt8 32 × Vector UInt8 32 × Unit) × Int) => (y470 r_2.1 r_3.1).bind fun (r_4 : List UInt8 × Int) => (at? r_2.2.1 (0 : Int)).bind fun (y : Int × List UInt8 × List (Vector UInt8 32) × List (List UInt8) × Unit) => (y20 y.2.1).bind fun (r_5 : (Int × Int × Int × Int × Vector UInt8 32 × Vector UInt8 32 × Unit) × Bool) => (bif decide (r_3.2.2 = (0 : Int)) then bif decide (r_4.2 = (0 : Int)) then bif r_5.2 then bif decide (r_3.2.1 = r_5.1) then (y13 r_4.1 r).bind fun (r : Bool) => bif r then (y445).bind fun (r : Bool) => some r else some false else some false else some false else some false else some false).bind fun (x : Bool) => some x
noncomputable def K440 (y4 : T4) (y13 : T13) (y19 : T19) (y20 : T20) (y443 : T443) (y445 : T445) (y467 : T467) (y470 : T470) : Ctx := mkC tys cells maps [(i4, ⟨P4, R4, fun x => y4 x.1⟩), (i13, ⟨P13, R13, fun x => y13 x.1 x.2.1⟩), (i19, ⟨P19, R19, fun x => y19 x.1 x.2.1 x.2.2.1 x.2.2.2.1⟩), (i20, ⟨P20, R20, fun x => y20 x.1⟩), (i443, ⟨P443, R443, fun x => y443 x.1 x.2.1⟩), (i445, ⟨P445, R445, fun _ => y445⟩), (i467, ⟨P467, R467, fun x => y467 x.1 x.2.1⟩), (i470, ⟨P470, R470, fun x => y470 x.1 x.2.1⟩)] [] []
theorem a440 (y4 : T4) (y13 : T13) (y19 : T19) (y20 : T20) (y443 : T443) (y445 : T445) (y467 : T467) (y470 : T470) (x0) (x1) (x2) (x3) (x4) : t440 y4 y13 y19 y20 y443 y445 y467 y470 x0 x1 x2 x3 x4 = evF (K440 y4 y13 y19 y20 y443 y445 y467 y470) F440 h440 P440 R440 (x0, x1, x2, x3, x4, ()) := by kernel_rfl
theorem e440 (x0) (x1) (x2) (x3) (x4) : f440 x0 x1 x2 x3 x4 = t440 f4 f13 f19 f20 f443 f445 f467 f470 x0 x1 x2 x3 x4 := Eq.trans (b := evF (K440 f4 f13 f19 f20 f443 f445 f467 f470) F440 h440 P440 R440 (x0, x1, x2, x3, x4, ())) (by kernel_rfl) (a440 f4 f13 f19 f20 f443 f445 f467 f470 x0 x1 x2 x3 x4).symm
end Mx
end
