/- AuditFiles holds: whether what came back clashes with what was put is told as the document says, for all arguments. No conditions. -/
import Derived.Test.YtedblfoeicnobaaGreatDoorP
import Derived.Test.YtedblfoeicnobaaGreatDoorQ
import Derived.Test.YtedblfoeicnobaaGreatDoorJ
set_option linter.unusedVariables false
set_option linter.unusedSimpArgs false
set_option linter.unusedSectionVars false
set_option maxRecDepth 100000
section
open Go Go.Proofs Ev
namespace Mx
theorem p14 : f14 = some true := wk
section
variable {k n : Nat} {b : B} (key : V16) (h1 : 1 <= k) (h2 : k <= n) (h3 : n <= 4) (hb1 : 1 <= b.length) (hb : b.length <= 192)
include h1 h2 h3 hb1 hb
theorem lawEnd (l : List ShT) (hl : l.length = n) (hlu : ∀ s ∈ l, s.2.1 = uebC key b k n) (G Ub : B) (hG : G.length <= 1000) (hU : Ub.length <= 1000000) :
 ((f9 (capC key b k n) b G (k : Int) (n : Int) Ub).bind fun (r_6 : (List UInt8 × List UInt8 × Unit) × Bool) =>
  (bif decide (b ≠ G) then
   (at? l (0 : Int)).bind fun (y : Int × List UInt8 × List (Vector UInt8 32) × List (List UInt8) × Unit) =>
    (f10 y.2.1).bind fun (r_7 : (Int × Int × Int × Int × Vector UInt8 32 × Vector UInt8 32 × Unit) × Bool) =>
     (f10 Ub).bind fun (r_8 : (Int × Int × Int × Int × Vector UInt8 32 × Vector UInt8 32 × Unit) × Bool) =>
      (bif r_8.2 then
       (f12 key b).bind fun (r : List UInt8) =>
        (f12 key G).bind fun (r_9 : List UInt8) =>
         (f11 (capC key b k n) r_7.1 r_8.1 r r_9).bind fun (r : (List UInt8 × List UInt8 × Unit) × Bool) => some (r.2, r.1)
       else some (false, [], [], ())).bind
       fun (x : Bool × List UInt8 × List UInt8 × Unit) => some (x.1, x.2)
   else some (false, [], [], ())).bind
   fun (x : Bool × List UInt8 × List UInt8 × Unit) =>
   (bif decide (r_6.2 = x.1) then
    (f13 r_6.1.1 x.2.1).bind fun (r : Bool) =>
     bif r then
      (f13 r_6.1.2.1 x.2.2.1).bind fun (r : Bool) => bif r then (f14).bind fun (r : Bool) => some r else some false
     else some false
    else some false).bind
    fun (x : Bool) => some x) = some true := by
 have hm : l.getD 0 (0, [], [], [], ()) ∈ l := by
  have : 0 < l.length := by omega
  rw [List.getD_eq_getElem?_getD, List.getElem?_eq_getElem this]; exact List.getElem_mem this
 have hA := (unpA (b := uebC key b k n) (k := k) (n := n) (z := b.length) (c := crypt (stream key b)) (s := rootS k n (stream key b)) ⟨⟨h1, h2, by omega, hb1, by omega⟩, rfl⟩).2
 have tail : ∀ (r : BB × Bool), bnd r -> ((bif decide (r.2 = r.2) then
  (f13 r.1.1 r.1.1).bind fun (r_1 : Bool) =>
   bif r_1 then
    (f13 r.1.2.1 r.1.2.1).bind fun (r : Bool) => bif r then (f14).bind fun (r : Bool) => some r else some false
   else some false
  else some false).bind
  fun (x : Bool) => some x) = some true := fun r hr => by
  rw [cd_pos rfl, bs (p13 _ hr.1), cb_t, bs (p13 _ hr.2), cb_t, p14]; rfl
 by_cases hf : ∃ k' n' z' c' s', IsUeb Ub k' n' z' c' s'
 ·obtain ⟨k', n', z', c', s', hub⟩ := hf
  obtain ⟨u1, u2⟩ := unpA hub
  obtain ⟨o1, o2, o3, o4, o5⟩ := hub.1
  by_cases hne : b = G
  ·rw [bs (p9N key h1 h2 h3 hb1 hb b G Ub rfl (.inl hne) ⟨_, u1⟩ rfl), cd_neg (fun h => h hne)]
   rw [Option.bind_some]
   exact tail (([], [], ()), false) bnd0
  ·obtain ⟨r, hr0, hr1, hr2⟩ := p22_11 (capC key b k n) k n b.length k' n' z' (crypt (stream key b)) (rootS k n (stream key b)) c' s' (stream key b) (stream key G) b.length ⟨by omega, by omega, by omega, by omega, by omega, by omega⟩ rfl hb1 hb
   rw [p9Y key h1 h2 h3 hb1 hb b G Ub rfl _ hne u1 hG, bs hr1, Option.bind_some, cd_pos hne, bs (at_g0 (by omega) (0, [], [], [], ())), hlu _ hm, bs hA, bs u2]
   dsimp only
   rw [cb_t, bs (p12 key b (by omega)), bs (p12 key G (by omega)), bs hr2]
   exact tail r hr0
 ·obtain ⟨u1, u2⟩ := unpB hU (fun k' n' z' c' s' h => hf ⟨k', n', z', c', s', h⟩)
  rw [bs (p9N key h1 h2 h3 hb1 hb b G Ub rfl (.inr u1) ⟨_, u1⟩ rfl)]
  by_cases hne : b = G
  ·rw [cd_neg (fun h => h hne)]
   rw [Option.bind_some]
   exact tail (([], [], ()), false) bnd0
  ·rw [cd_pos hne, bs (at_g0 (by omega) (0, [], [], [], ())), hlu _ hm, bs hA, bs u2]
   dsimp only
   rw [cb_f, Option.bind_some, Option.bind_some]
   exact tail (([], [], ()), false) bnd0
end
theorem law3 (x0 : V16) (x1 x2 : B) (x3 x4 : Int) (x5 : B) (x6 : Int) : f3 x0 x1 x2 x3 x4 x5 x6 = some true := by
 obtain ⟨n0, hn0, e6⟩ := p6 x4 4 (by omega) (by omega)
 have en : addI 1 (n0 : Int) = ((n0 + 1 : Nat) : Int) := by rw [addI_ok (by omega) (by omega)]; omega
 obtain ⟨k0, hk0, e6'⟩ := p6 x3 (n0 + 1) (by omega) (by omega)
 have ek : addI 1 (k0 : Int) = ((k0 + 1 : Nat) : Int) := by rw [addI_ok (by omega) (by omega)]; omega
 have hlen : 1 <= (9 :: x1.take 140).length ∧ (9 :: x1.take 140).length <= 192 := by simp; omega
 have hgl : (x2.take 150).length <= 150 := by simp; omega
 have hul : (x5.take 200).length <= 200 := by simp; omega
 rw [e3, t3, bs (p4 x1)]
 generalize (9 :: x1.take 140 : B) = put at *
 obtain ⟨l, hl, hlu, hs⟩ := p7 (k := k0 + 1) (n := n0 + 1) (b := put) x0 (by omega) (by omega) (by omega) hlen.1 hlen.2
 have e5a : f5 x2 150 = some (x2.take 150) := p5 x2 150
 have e5b : f5 x5 200 = some (x5.take 200) := p5 x5 200
 have e6a : f6 x4 4 = some (n0 : Int) := e6
 rw [bs e5a, bs e6a, en, bs e6', ek, bs hs, bs e5b]
 generalize x2.take 150 = got at *
 generalize x5.take 200 = u0 at *
 have hr : remI x6 4 = some (x6.tmod 4) := by unfold remI; rw [if_neg (by omega)]
 rw [bs hr]
 have hm : ∀ (m : List ShT), m.length = n0 + 1 -> m.getD 0 (0, [], [], [], ()) ∈ m := fun m hm => by
  have : 0 < m.length := by omega
  rw [List.getD_eq_getElem?_getD, List.getElem?_eq_getElem this]; exact List.getElem_mem this
 have lp := packC_le (k0 + 1) (n0 + 1) put.length 64 (crypt (stream x0 put)) (rootS (k0 + 1) (n0 + 1) (stream x0 put))
 have hu : (uebC x0 put (k0 + 1) (n0 + 1)).length <= 240 := lp
 by_cases c1 : x6.tmod 4 = 1
 ·refine bt (a := (got, uebC x0 put (k0 + 1) (n0 + 1))) ?_ ?_
  ·rw [cd_pos c1]
   dsimp only
   rw [bs (at_g0 (by omega) (0, [], [], [], ())), hlu _ (hm l hl), bs (p8 _ (by omega))]
  ·exact lawEnd x0 (by omega) (by omega) (by omega) hlen.1 hlen.2 l hl hlu got (uebC x0 put (k0 + 1) (n0 + 1)) (by omega) (by omega)
 by_cases c2 : x6.tmod 4 = 2
 ·refine bt (a := (put, uebC x0 put (k0 + 1) (n0 + 1))) ?_ ?_
  ·rw [cd_neg c1, cd_pos c2]
   dsimp only
   rw [bs (at_g0 (by omega) (0, [], [], [], ())), hlu _ (hm l hl), bs (p8 _ (by omega)), bs (p8 _ (by omega))]; rfl
  ·exact lawEnd x0 (by omega) (by omega) (by omega) hlen.1 hlen.2 l hl hlu put (uebC x0 put (k0 + 1) (n0 + 1)) (by omega) (by omega)
 by_cases c3 : x6.tmod 4 = 3
 ·have hzl : 1 <= ([1] ++ got).length ∧ ([1] ++ got).length <= 192 := by simp; omega
  obtain ⟨l', hl', hlu', hs'⟩ := p7 (k := k0 + 1) (n := n0 + 1) (b := [1] ++ got) x0 (by omega) (by omega) (by omega) hzl.1 hzl.2
  have hu' : (uebC x0 ([1] ++ got) (k0 + 1) (n0 + 1)).length <= 240 := packC_le _ _ _ _ _ _
  refine bt (a := (got, uebC x0 ([1] ++ got) (k0 + 1) (n0 + 1))) ?_ ?_
  ·rw [cd_neg c1, cd_neg c2, cd_pos c3, bs (app_ok (by simp; omega)), bs hs']
   dsimp only
   rw [bs (at_g0 (by omega) (0, [], [], [], ())), hlu' _ (hm l' hl'), bs (p8 _ (by omega))]; rfl
  ·exact lawEnd x0 (by omega) (by omega) (by omega) hlen.1 hlen.2 l hl hlu got (uebC x0 ([1] ++ got) (k0 + 1) (n0 + 1)) (by omega) (by omega)
 ·refine bt (a := (got, u0)) ?_ ?_
  ·rw [cd_neg c1, cd_neg c2, cd_neg c3]; rfl
  ·exact lawEnd x0 (by omega) (by omega) (by omega) hlen.1 hlen.2 l hl hlu got u0 (by omega) (by omega)
theorem law3r (x : InT [.v (.arr 16 .u8), .v (.sl .u8), .v (.sl .u8), .v .i64, .v .i64, .v (.sl .u8), .v .i64]) : (Sx.r3 x : Option Bool) = some true :=
 law3 x.1 x.2.1 x.2.2.1 x.2.2.2.1 x.2.2.2.2.1 x.2.2.2.2.2.1 x.2.2.2.2.2.2.1
end Mx
end
section
namespace Go.Proofs.YtedblfoeicnobaaGreatDoor
theorem auditFiles_holds : Rows.AuditFilesCardSaid := card_holds Mx.law3r
end Go.Proofs.YtedblfoeicnobaaGreatDoor
end
