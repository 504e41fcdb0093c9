/- Each function that the statement reaches keeps its contract. No conditions. -/
import Derived.Test.YtedblfoeicnobaaGreatDoorD
import Derived.Deep.DeepHandedRow
import Derived.ProofKit
import Derived.OpenShut
import Derived.SizedLaws
import Derived.LaidSub
import Derived.MakeChecks
import Derived.Test.YtedblfoeicnobaaGreatDoorProg
import Derived.Shelf.LaysM
import Derived.Ground.NamesProg
import Derived.Shelf.Strconv.Itoa3
import Derived.Ground.SlgnProg
import Derived.Shelf.SlicesE.Clone
import Derived.Test.YtedblfoeicnobaaGreatDoorE
set_option linter.unusedVariables false
set_option linter.unusedSimpArgs false
set_option linter.unusedSectionVars false
set_option maxRecDepth 100000
section
namespace Ev
open Go
def Ty.noOp : Ty -> Bool
 | .op _ => false
 | .sl e => e.noOp
 | .arr _ e => e.noOp
 | .pair a b => a.noOp && b.noOp
 | _ => true
def noM : Nat -> Prop := fun _ => False
theorem mapM_len {α β : Type} {f : α -> Option β} : ∀ {l : List α} {r : List β}, l.mapM f = some r -> r.length = l.length := Lib.mapM_length
theorem rows_of {α : Type} {R : α -> List Value -> Prop} {sz : Nat} : ∀ (n : Nat) (cs : List Value), cs.length = n * sz -> (∀ i, i < n -> ∃ x, R x ((cs.drop (i * sz)).take sz)) -> ∃ l : List α, l.length = n ∧ RowR R l cs
 | 0, cs, hl, _ => by
  have : cs = [] := List.length_eq_zero_iff.1 (by simpa using hl)
  subst this
  exact ⟨[], rfl, .nil⟩
 | n + 1, cs, hl, h => by
  obtain ⟨x, hx⟩ := h 0 (by omega)
  have hl' : (cs.drop sz).length = n * sz := by rw [List.length_drop, hl, Nat.succ_mul]; omega
  obtain ⟨l, h1, h2⟩ := rows_of n (cs.drop sz) hl' fun i hi => by
   obtain ⟨y, hy⟩ := h (i + 1) (by omega)
   refine ⟨y, ?_⟩
   rw [List.drop_drop]
   rw [Nat.succ_mul, Nat.add_comm] at hy
   exact hy
  refine ⟨x :: l, by simp [h1], ?_⟩
  have := RowR.cons (R := R) (x := x) (u := cs.take sz) (by simpa using hx) h2
  rwa [List.take_append_drop] at this
theorem rows_at {α : Type} {R : α -> List Value -> Prop} {sz : Nat} {w : World} {B : Nat} : ∀ (n off : Nat), (∀ i, i < n -> ∃ us x, us.length = sz ∧ CellsAt w B (off + i * sz) us ∧ R x us) -> ∃ (l : List α) (vs : List Value), l.length = n ∧ CellsAt w B off vs ∧ RowR R l vs
 | 0, off, _ => ⟨[], [], rfl, fun i v h => by simp at h, .nil⟩
 | n + 1, off, h => by
  obtain ⟨us, x, h1, h2, h3⟩ := h 0 (by omega)
  obtain ⟨l, vs, k1, k2, k3⟩ := rows_at n (off + sz) fun i hi => by
   obtain ⟨us, y, q1, q2, q3⟩ := h (i + 1) (by omega)
   refine ⟨us, y, q1, ?_, q3⟩
   rw [Nat.succ_mul] at q2
   rw [Nat.add_assoc, Nat.add_comm sz]
   exact q2
  refine ⟨x :: l, us ++ vs, by simp [k1], fun i v hv => ?_, .cons h3 k3⟩
  rcases Nat.lt_or_ge i us.length with hi | hi
  ·rw [List.getElem?_append_left hi] at hv
   simpa using h2 i v hv
  ·rw [List.getElem?_append_right hi] at hv
   have := k2 _ v hv
   rw [h1] at this
   have e : off + sz + (i - sz) = off + i := by omega
   rw [e] at this
   exact this
theorem cellsOf_base {P : Program} {T : TypeId} {t : Ty} (h : Base P T t) : P.cellsOf T = t.size := by
 have := h.sz
 unfold tsz at this
 unfold Program.cellsOf
 rw [this]; rfl
theorem some_cell_lt {w : World} {a : Addr} {v : Value} (h : w.cell? a = some v) : a.block < w.heap.size := by
 rcases Nat.lt_or_ge a.block w.heap.size with h' | h'
 ·exact h'
 ·simp [World.cell?, Array.getElem?_eq_none h'] at h
theorem add0 (b off i : Nat) : (⟨b, off, none⟩ : Addr).add i = ⟨b, off + i, none⟩ := by
 unfold Addr.add
 split <;> simp_all
theorem cells_read {w : World} {base : Nat} {a : Addr} {n : Nat} {us : List Value} (h : w.cells? base a n = some us) : us.length = n ∧ ∀ (i : Nat) v, us[i]? = some v -> w.cell? (a.add i) = some v := by
 unfold World.cells? at h
 split at h
 ·have hl := mapM_len h
  refine ⟨by simpa using hl, fun i v hv => ?_⟩
  have hi : i < us.length := (List.getElem?_eq_some_iff.1 hv).1
  have hn : i < n := by rw [hl] at hi; simpa using hi
  obtain ⟨b, hb, hf⟩ := Lib.mapM_at h i i (by simp [hn])
  rw [hb] at hv; injection hv with hv; subst hv
  exact hf
 ·cases h
section
variable {H : Type} {enc : TypeId × Value -> H} {P : Program} {w : World}
theorem wfU {k : IntKind} {z : Int} {lo hi : Int} (h1 : k.min = lo) (h2 : k.max = hi) (h : (Lit.int k z).wf = true) : lo <= z ∧ z <= hi := by
 simp only [Lit.wf, Bool.and_eq_true, decide_eq_true_eq] at h
 rw [← h1, ← h2]; exact h
theorem trod_rel : ∀ t : Ty, t.noOp = true ->
 (∀ (T : TypeId) (fuel : Nat) (cs : List Value) (x : DataW H × List MemPlace), (TyR P t).1 T -> DataW.trod enc P w 0 (fun _ => true) true fuel T cs = some x -> ∃ y, RelC w noM t y cs) ∧
 (∀ (fs : List Field) (off fuel : Nat) (cs : List Value), (TyR P t).2 fs off -> off + t.size <= cs.length -> (∀ (i : Nat) (f : Field), fs[i]? = some f -> ∃ x : DataW H × List MemPlace, DataW.trod enc P w 0 (fun _ => true) true fuel f.type ((cs.drop f.offset).take (P.cellsOf f.type)) = some x) -> ∃ y, RelC w noM t y ((cs.drop off).take t.size))
 | .i64, _ => by
  refine ⟨fun T fuel cs x hT h => ?_, fun fs off fuel cs hT => hT.elim⟩
  obtain ⟨z, hc, _, _⟩ := DataW.trod_int hT.2 h
  exact ⟨z, hc⟩
 | .u8, _ => by
  refine ⟨fun T fuel cs x hT h => ?_, fun fs off fuel cs hT => hT.elim⟩
  obtain ⟨z, hc, _, hz⟩ := DataW.trod_int hT.2 h
  obtain ⟨z1, z2⟩ := wfU (lo := 0) (hi := 255) rfl rfl hz
  refine ⟨UInt8.ofNat z.toNat, ?_⟩
  simp only [RelC]
  rw [hc]
  have : (UInt8.ofNat z.toNat).toNat = z.toNat := by simp; omega
  rw [this]
  congr 2; omega
 | .u32, _ => by
  refine ⟨fun T fuel cs x hT h => ?_, fun fs off fuel cs hT => hT.elim⟩
  obtain ⟨z, hc, _, hz⟩ := DataW.trod_int hT.2 h
  obtain ⟨z1, z2⟩ := wfU (lo := 0) (hi := 4294967295) rfl rfl hz
  refine ⟨UInt32.ofNat z.toNat, ?_⟩
  simp only [RelC]
  rw [hc]
  have : (UInt32.ofNat z.toNat).toNat = z.toNat := by simp; omega
  rw [this]
  congr 2; omega
 | .u64, _ => by
  refine ⟨fun T fuel cs x hT h => ?_, fun fs off fuel cs hT => hT.elim⟩
  obtain ⟨z, hc, _, hz⟩ := DataW.trod_int hT.2 h
  obtain ⟨z1, z2⟩ := wfU (lo := 0) (hi := 18446744073709551615) rfl rfl hz
  refine ⟨UInt64.ofNat z.toNat, ?_⟩
  simp only [RelC]
  rw [hc]
  have : (UInt64.ofNat z.toNat).toNat = z.toNat := by simp; omega
  rw [this]
  congr 2; omega
 | .bool, _ => by
  refine ⟨fun T fuel cs x hT h => ?_, fun fs off fuel cs hT => hT.elim⟩
  obtain ⟨b, hc, _⟩ := DataW.trod_bool hT.2 h
  exact ⟨b, hc⟩
 | .str, _ => by
  refine ⟨fun T fuel cs x hT h => ?_, fun fs off fuel cs hT => hT.elim⟩
  obtain ⟨b, hc, _⟩ := DataW.trod_string hT.2 h
  exact ⟨b.data.toList, by simp only [RelC]; rw [hc]⟩
 | .unit, _ => by
  refine ⟨fun T fuel cs x hT h => ?_, fun fs off fuel cs hT hl h => ⟨(), by simp [RelC, Ty.size]⟩⟩
  obtain ⟨hb, fs, hu, he⟩ := hT
  obtain ⟨xs, n, _, _, hl, _⟩ := DataW.trod_struct hu h
  rw [cellsOf_base hb] at hl
  exact ⟨(), by simp only [RelC]; exact List.length_eq_zero_iff.1 hl⟩
 | .sl e, hn => by
  refine ⟨fun T fuel cs x hT h => ?_, fun fs off fuel cs hT => hT.elim⟩
  obtain ⟨hb, E, hu, hE, h0⟩ := hT
  have hsz : P.cellsOf E = e.size := cellsOf_base (TyOk.base hE)
  rcases DataW.trod_slice hu h with ⟨hc, _⟩ | ⟨a, len, cap, elems, rest, n, _, hc, _, _, hlc, _, hel, hr, _⟩
  ·exact ⟨([] : List (Val e)), by simp only [RelC]; exact .inl ⟨trivial, none, 0, hc⟩⟩
  ·rw [hsz] at hr
   obtain ⟨B, o, sp⟩ := a
   rcases Nat.eq_zero_or_pos len with hz | hz
   ·subst hz
    exact ⟨([] : List (Val e)), by simp only [RelC]; exact .inl ⟨trivial, _, _, hc⟩⟩
   ·have key : ∀ i, i < len -> ∃ us y, us.length = e.size ∧ (∀ (j : Nat) v, us[j]? = some v -> w.cell? (((⟨B, o, sp⟩ : Addr).add (i * e.size)).add j) = some v) ∧ RelC w noM e y us := fun i hi => by
     have h1 := hr i hi
     have h2 : ∃ z, elems[i]? = some z := ⟨elems[i]'(by omega), List.getElem?_eq_getElem (by omega)⟩
     obtain ⟨z, h2⟩ := h2
     rw [h2] at h1
     obtain ⟨us, h3, h4⟩ := Option.bind_eq_some_iff.1 h1
     obtain ⟨y, hy⟩ := (trod_rel e hn).1 E n us z hE h4
     obtain ⟨q1, q2⟩ := cells_read h3
     exact ⟨us, y, q1, q2, hy⟩
    have hsp : sp = none ∧ B < w.heap.size := by
     obtain ⟨us, y, q1, q2, _⟩ := key 0 hz
     have := q2 0 (us[0]'(by omega)) (List.getElem?_eq_getElem (by omega))
     simp only [Nat.zero_mul] at this
     have e0 : ((⟨B, o, sp⟩ : Addr).add 0).add 0 = ⟨B, o, sp⟩ := by simp [Addr.add]
     rw [e0] at this
     exact ⟨World.cell?_spot this, some_cell_lt this⟩
    obtain ⟨rfl, hB⟩ := hsp
    obtain ⟨l, vs, k1, k2, k3⟩ := rows_at (w := w) (R := fun y u => RelC w noM e y u) (sz := e.size) (B := B) len o fun i hi => by
     obtain ⟨us, y, q1, q2, q3⟩ := key i hi
     refine ⟨us, y, q1, fun j v hv => ?_, q3⟩
     have := q2 j v hv
     rwa [add0, add0] at this
    refine ⟨l, ?_⟩
    simp only [RelC]
    refine .inr ⟨fun hc => by rw [hc] at k1; simp at k1; omega, B, o, cap, vs, by rw [k1]; exact hc, by omega, hB, fun hc => hc, k2, k3⟩
 | .arr n e, hn => by
  refine ⟨fun T fuel cs x hT h => ?_, fun fs off fuel cs hT => hT.elim⟩
  obtain ⟨hb, E, hu, hE, h0⟩ := hT
  have hsz : P.cellsOf E = e.size := cellsOf_base (TyOk.base hE)
  obtain ⟨xs, m, _, _, hl, hxl, hx⟩ := DataW.trod_array hu h
  rw [cellsOf_base hb] at hl
  rw [hsz] at hx
  obtain ⟨l, h1, h2⟩ := rows_of (R := fun y u => RelC w noM e y u) (sz := e.size) n cs (by rw [hl]; rfl) fun i hi => by
   have h1 := hx i hi
   rw [List.getElem?_eq_getElem (by omega)] at h1
   exact (trod_rel e hn).1 E m _ _ hE h1
  refine ⟨(⟨l.toArray, by simpa using h1⟩ : Vector (Val e) n), ?_⟩
  simp only [RelC]
  simpa using h2
 | .pair a b, hn => by
  have hn' : a.noOp = true ∧ b.noOp = true := by simpa [Ty.noOp] using hn
  have ha := trod_rel a hn'.1
  have hb := trod_rel b hn'.2
  have two : ∀ (fs : List Field) (off fuel : Nat) (cs : List Value), (TyR P (.pair a b)).2 fs off -> off + (a.size + b.size) <= cs.length -> (∀ (i : Nat) (f : Field), fs[i]? = some f -> ∃ x : DataW H × List MemPlace, DataW.trod enc P w 0 (fun _ => true) true fuel f.type ((cs.drop f.offset).take (P.cellsOf f.type)) = some x) -> ∃ y, RelC w noM (.pair a b) y ((cs.drop off).take (a.size + b.size)) := by
   rintro fs off fuel cs ⟨f, r, rfl, ho, _, hfa, _, hfb⟩ hl hx
   obtain ⟨x, h1⟩ := hx 0 f rfl
   rw [cellsOf_base (TyOk.base hfa), ho] at h1
   obtain ⟨y, hy⟩ := ha.1 f.type fuel _ x hfa h1
   obtain ⟨z, hz⟩ := hb.2 r (off + a.size) fuel cs hfb (by omega) fun i g hg => hx (i + 1) g hg
   refine ⟨(y, z), ?_⟩
   simp only [RelC]
   refine ⟨_, _, ?_, hy, hz⟩
   rw [List.take_add, List.drop_drop]
  refine ⟨fun T fuel cs x hT h => ?_, fun fs off fuel cs hT hl hx => two fs off fuel cs hT hl hx⟩
  obtain ⟨hbs, fs, hu, f, r, hfs, h0, hnm, hfa, hsa, hfb⟩ := hT
  obtain ⟨xs, n, _, _, hl, hxl, hx⟩ := DataW.trod_struct hu h
  rw [cellsOf_base hbs] at hl
  obtain ⟨y, hy⟩ := two fs.toList 0 n cs ⟨f, r, hfs, h0, hnm, hfa, hsa, by simpa using hfb⟩ (by simp [Ty.size] at hl; omega) fun i g hg => by
   have := hx i g (by simpa using hg)
   have hi : i < xs.length := by
    have := (List.getElem?_eq_some_iff.1 hg).1
    rw [hxl]; simpa using this
   rw [List.getElem?_eq_getElem hi] at this
   exact ⟨_, this⟩
  refine ⟨y, ?_⟩
  rw [List.drop_zero, List.take_of_length_le (by simp [Ty.size] at hl; omega)] at hy
  exact hy
 | .op e, hn => by cases hn
theorem relV_of {T : TypeId} {t : Ty} {v : Value} {base : Nat} (hT : TyOk P T t) {y : Val t} (h : RelC w noM t y v.cells.toList) (hv : Value.okWide P w .any base T v) : RelV w noM t y v := by
 unfold RelV
 have hag := hT.isAgg
 unfold isAggT at hag
 obtain ⟨d, hd, hag⟩ := Option.map_eq_some_iff.1 hag
 unfold Value.okWide at hv
 rw [hd] at hv
 split
 ·rename_i ht
  rw [ht] at hag
  cases d <;> simp only [aggD] at hag <;> first | (cases hag; done) | skip
  all_goals
   obtain ⟨cs, rfl, _, _⟩ := hv
   exact ⟨cs, rfl, h⟩
 ·rename_i ht
  rw [ht] at hag
  have key : ∀ cs, v = .agg cs -> Cell.okWide P w .any base T v -> False := by
   rintro cs rfl hc
   unfold Cell.okWide at hc
   rw [hd] at hc
   cases d <;> simp [Cell.ok, hd] at hc
  have hna : ∀ cs, v ≠ .agg cs := by
   intro cs hc
   cases d <;> simp only [aggD] at hag <;> first | (cases hag; done) | exact key cs hc hv
  cases v <;> first | exact h | exact absurd rfl (hna _)
def ParOk (P : Program) : List TypeId -> List Ty -> Prop
 | [], [] => True
 | T :: Ts, t :: ts => (TyOk P T t ∧ t.noOp = true) ∧ ParOk P Ts ts
 | _, _ => False
theorem args_rel {base : Nat} : ∀ (Ts : List TypeId) (ts : List Ty) (vs : List Value) (ds : List (DataW H)) (ps : List MemPlace), ParOk P Ts ts -> (∀ (j : Nat) t v, Ts[j]? = some t -> vs[j]? = some v -> Value.okWide P w .any base t v) -> DataW.TrodAll enc P w 0 (fun _ => true) true Ts vs ds ps ->
 ∃ x : InT (ts.map PK.v), ArgsR P w noM (ts.map PK.v) x vs
 | [], [], vs, ds, ps, _, _, h => by
  cases vs with
  | nil => exact ⟨(), rfl⟩
  | cons v vs => cases h
 | T :: Ts, t :: ts, vs, ds, ps, hp, hv, h => by
  cases vs with
  | nil => cases h
  | cons v vs =>
   cases ds with
   | nil => cases h
   | cons d ds =>
    obtain ⟨p, q, ⟨fuel, h1⟩, h2, _⟩ := h
    obtain ⟨y, hy⟩ := (trod_rel t hp.1.2).1 T fuel _ _ hp.1.1 h1
    obtain ⟨x, hx⟩ := args_rel Ts ts vs ds q hp.2 (fun j t v a b => hv (j + 1) t v a b) h2
    exact ⟨(y, x), v, vs, rfl, relV_of hp.1.1 hy (hv 0 T v rfl rfl), hx⟩
 | [], _ :: _, _, _, _, hp, _, _ => hp.elim
 | _ :: _, [], _, _, _, hp, _, _ => hp.elim
theorem args_stay (hl : laidOutB P = true) {W W' : World} (hb : Go.RowKit.Below W.heap.size W W') : ∀ (Ts : List TypeId) (vs : List Value) (ds : List (DataW H)) (ps : List MemPlace), (Ts.all fun t => P.readableRec t && decide (t < P.types.size)) = true -> (∀ x ∈ ps, x.block < W.heap.size) -> DataW.TrodAll enc P W 0 (fun _ => true) true Ts vs ds ps ->
 DataW.TrodAll enc P W' 0 (fun b => decide (b < W.heap.size)) true Ts vs ds ps
 | [], [], [], ps, _, _, h => h
 | T :: Ts, v :: vs, d :: ds, ps, ht, hlt, h => by
  obtain ⟨p, q, h1, h2, rfl⟩ := h
  simp only [List.all_cons, Bool.and_eq_true, decide_eq_true_eq] at ht
  exact ⟨p, q, Go.RowKit.Below.trod hl ht.1.1 ht.1.2 h1 hb (fun x hx => hlt x (by simp [hx])), args_stay hl hb Ts vs ds q ht.2 (fun x hx => hlt x (by simp [hx])) h2, rfl⟩
theorem ioBlks_v : ∀ (ts : List Ty) (vs : List Value), ioBlks (ts.map PK.v) vs = []
 | [], vs => by cases vs <;> rfl
 | t :: ts, [] => rfl
 | t :: ts, v :: vs => by show ioBlks (ts.map PK.v) vs = []; exact ioBlks_v ts vs
theorem After.below {W W' : World} {M M' : Nat -> Prop} (h : After W M [] W' M') : Go.RowKit.Below W.heap.size W W' :=
 ⟨h.os, h.tape, h.output, h.size, fun k hk => h.blk k hk (by simp)⟩
theorem law_calls {f : FuncId} {s : Ev.Spec} {ts : List Ty} (k : FnOk P f s) (hp : s.params = ts.map PK.v) (hr : s.results = [.v .bool]) {vs : List Value} (hg : Glob P noM w) (hx : ∃ x : InT (ts.map PK.v), ArgsR P w noM (ts.map PK.v) x vs)
 (hlaw : ∀ x : InT s.params, ∃ r, s.run x = some r ∧ ∀ w' M' old us bs, OutR w' M' old s.results (ioTy s.params) r us bs -> us = [.bool true]) :
 Calls P f vs.toArray w fun e w' => e = .returned (.bool true) ∧ Go.RowKit.Below w.heap.size w w' := by
 obtain ⟨ps, rs, run⟩ := s
 simp only at hp hr
 subst hp
 obtain ⟨x, hx⟩ := hx
 obtain ⟨r, h1, h2⟩ := hlaw x
 refine (k.2 w noM x vs (fun _ h => h.elim) hg hx ?_ ?_ r h1).mono ?_
 ·rw [ioBlks_v]; exact List.nodup_nil
 ·rw [ioBlks_v]; intro B hB; cases hB
 ·rintro e w' ⟨us, M', rfl, ho, ha⟩
  have hu := h2 _ _ _ _ _ ho
  subst hu
  have ha' : After w noM (ioBlks (ts.map PK.v) vs) w' M' := ha
  rw [ioBlks_v] at ha'
  exact ⟨rfl, ha'.below⟩
end
end Ev
end
section
namespace Go.Proofs
open Go.Shelf
def Tryz.laysItoa_ren : Go.Shelf.Ren := ⟨fun | 171 => 127 | 243 => 171 | 246 => 192 | 283 => 205 | 284 => 206 | 285 => 207 | 286 => 208 | 129 => 226 | 317 => 225 | 318 => 227 | 319 => 228 | 320 => 229 | 337 => 245 | 338 => 246 | n => n, fun | 3 => 3 | 9 => 9 | 2 => 2 | 4 => 4 | 171 => 253 | 0 => 0 | 53 => 176 | 37 => 24 | 5 => 5 | 173 => 256 | 212 => 280 | 51 => 166 | 20 => 20 | 213 => 281 | 46 => 95 | 232 => 28 | 233 => 318 | n => n, fun | 17 => 0 | 18 => 1 | 19 => 2 | n => n⟩
theorem Tryz.laysItoa : Go.Proofs.LaysM.n171 Tryz.prog Tryz.laysItoa_ren := {
 mixed := by kernel_rfl
 f129 := Tryz.func226.trans (congrArg some (by kernel_rfl))
 f171 := Tryz.func127.trans (congrArg some (by kernel_rfl))
 f243 := Tryz.func171.trans (congrArg some (by kernel_rfl))
 f246 := Tryz.func192.trans (congrArg some (by kernel_rfl))
 f283 := Tryz.func205.trans (congrArg some (by kernel_rfl))
 f284 := Tryz.func206.trans (congrArg some (by kernel_rfl))
 f285 := Tryz.func207.trans (congrArg some (by kernel_rfl))
 f286 := Tryz.func208.trans (congrArg some (by kernel_rfl))
 f317 := Tryz.func225.trans (congrArg some (by kernel_rfl))
 f318 := Tryz.func227.trans (congrArg some (by kernel_rfl))
 f319 := Tryz.func228.trans (congrArg some (by kernel_rfl))
 f320 := Tryz.func229.trans (congrArg some (by kernel_rfl))
 f337 := Tryz.func245.trans (congrArg some (by kernel_rfl))
 f338 := Tryz.func246.trans (congrArg some (by kernel_rfl))
 t0 := Tryz.underlying0
 a0 := Tryz.isAgg0
 z0 := Tryz.sizeOf0
 v0 := Tryz.zeroValue0
 t2 := Tryz.underlying2
 a2 := Tryz.isAgg2
 z2 := Tryz.sizeOf2
 v2 := Tryz.zeroValue2
 t3 := Tryz.underlying3
 a3 := Tryz.isAgg3
 z3 := Tryz.sizeOf3
 v3 := Tryz.zeroValue3
 t4 := Tryz.underlying4
 a4 := Tryz.isAgg4
 z4 := Tryz.sizeOf4
 v4 := Tryz.zeroValue4
 t5 := Tryz.underlying5
 a5 := Tryz.isAgg5
 z5 := Tryz.sizeOf5
 v5 := Tryz.zeroValue5
 t9 := Tryz.underlying9
 a9 := Tryz.isAgg9
 z9 := Tryz.sizeOf9
 v9 := Tryz.zeroValue9
 t20 := Tryz.underlying20
 a20 := Tryz.isAgg20
 z20 := Tryz.sizeOf20
 v20 := Tryz.zeroValue20
 t37 := Tryz.underlying24
 a37 := Tryz.isAgg24
 z37 := Tryz.sizeOf24
 v37 := Tryz.zeroValue24
 t46 := Tryz.underlying95
 a46 := Tryz.isAgg95
 z46 := Tryz.sizeOf95
 v46 := Tryz.zeroValue95
 t51 := Tryz.underlying166
 a51 := Tryz.isAgg166
 z51 := Tryz.sizeOf166
 v51 := Tryz.zeroValue166
 t53 := Tryz.underlying176
 a53 := Tryz.isAgg176
 z53 := Tryz.sizeOf176
 v53 := Tryz.zeroValue176
 t171 := Tryz.underlying253
 a171 := Tryz.isAgg253
 z171 := Tryz.sizeOf253
 v171 := Tryz.zeroValue253
 t173 := Tryz.underlying256
 a173 := Tryz.isAgg256
 z173 := Tryz.sizeOf256
 v173 := Tryz.zeroValue256
 t212 := Tryz.underlying280
 a212 := Tryz.isAgg280
 z212 := Tryz.sizeOf280
 v212 := Tryz.zeroValue280
 t213 := Tryz.underlying281
 a213 := Tryz.isAgg281
 z213 := Tryz.sizeOf281
 t232 := Tryz.underlying28
 a232 := Tryz.isAgg28
 z232 := Tryz.sizeOf28
 v232 := Tryz.zeroValue28
 t233 := Tryz.underlying318
 a233 := Tryz.isAgg318
 z233 := Tryz.sizeOf318
 v233 := Tryz.zeroValue318
 g17 := by kernel_rfl
 g18 := by kernel_rfl
 g19 := by kernel_rfl
 i0 := by kernel_rfl
 i2 := by kernel_rfl
 i3 := by kernel_rfl
 i4 := by kernel_rfl
 i5 := by kernel_rfl
 i9 := by kernel_rfl
 i20 := by kernel_rfl
 i37 := by kernel_rfl
 i46 := by kernel_rfl
 i51 := by kernel_rfl
 i53 := by kernel_rfl
 i171 := by kernel_rfl
 i173 := by kernel_rfl
 i212 := by kernel_rfl
 i232 := by kernel_rfl
 i233 := by kernel_rfl
 m17 := by kernel_rfl
 m18 := by kernel_rfl
 m19 := by kernel_rfl }
def Tryz.laysClone_ren : Go.Shelf.Ren := ⟨fun | 41 => 91 | n => n, fun | 22 => 24 | 23 => 5 | 4 => 4 | n => n, fun | n => n⟩
theorem Tryz.laysClone : Go.Proofs.SlLaysE0.n41 Tryz.prog Tryz.laysClone_ren := {
 mixed := by kernel_rfl
 f41 := ⟨Tryz.f91.name, by decide, Tryz.func91.trans (congrArg some (by kernel_rfl))⟩
 t4 := Tryz.underlying4
 a4 := Tryz.isAgg4
 z4 := Tryz.sizeOf4
 v4 := Tryz.zeroValue4
 t22 := Tryz.underlying24
 a22 := Tryz.isAgg24
 z22 := Tryz.sizeOf24
 v22 := Tryz.zeroValue24 }
end Go.Proofs
end
section
open Go Go.Proofs Go.Shelf Go.RowKit Go.Lib Ev
namespace Sx
theorem After.grow (w : World) (M : Nat -> Prop) (hM : ∀ B, M B -> B < w.heap.size) (k : Nat) (os : Array Obj) : After w M [] (Sort.grow (w.drewN k) os) M where
 size := by simp [Sort.grow, World.drewN]
 blk B hB _ := by simp [Sort.grow, World.drewN, Array.getElem?_append_left hB]
 os := rfl
 tape := rfl
 output := rfl
 m _ _ := Iff.rfl
 mlt B hB := Nat.lt_of_lt_of_le (hM B hB) (by simp [Sort.grow, World.drewN])
theorem k127 : FnOk Tryz.prog 127 s127 := by
 refine ⟨(fnB_ok Tryz.func127 (by kernel_rfl)).1, fun w M x vs hM hg hx _ _ r hr => ?_⟩
 obtain ⟨v, l, rfl, hv, hl⟩ := hx
 have hl' : l = [] := hl
 subst hl'
 have hv' : RelC w M .i64 x.1 [v] := hv
 simp only [RelC, List.cons.injEq, and_true] at hv'
 subst hv'
 have hr' : cond (decide (-9223372036854775808 <= (x.1 : Int)) && decide ((x.1 : Int) <= 9223372036854775807)) (some (Lib.itoa x.1)) none = (some r : Option (List UInt8)) := hr
 cases hc : decide (-9223372036854775808 <= (x.1 : Int)) && decide ((x.1 : Int) <= 9223372036854775807) with
 | false => rw [hc] at hr'; cases hr'
 | true =>
  rw [hc] at hr'
  simp only [cond_true] at hr'
  simp only [Bool.and_eq_true, decide_eq_true_eq] at hc
  refine (Any.strconv_Itoa Tryz.laysItoa x.1 hc.1 hc.2 w (hg _ _ (by simp [tabs]) 0 (by kernel_rfl)).1).mono ?_
  rintro e w' ⟨rfl, k, os, rfl⟩
  refine ⟨[.string ⟨(Lib.itoa x.1).toArray⟩], M, rfl, ?_, After.grow w M hM k os⟩
  refine ⟨_, rfl, ?_, rfl⟩
  have e : (Lib.itoa x.1 : List UInt8) = r := by injection hr'
  have : RelC (Sort.grow (w.drewN k) os) M .str (Lib.itoa x.1 : List UInt8) [.string ⟨(Lib.itoa x.1).toArray⟩] := by simp only [RelC]
  exact e ▸ this
theorem info5 : ∃ i0, Tryz.prog.info? 5 = some i0 ∧ i0.zero = some (.int .u8 0) ∧ i0.size = 1 ∧ i0.bytes = 1 := by
 have h : (Tryz.prog.info? 5).map (fun i => (i.zero, i.size, i.bytes)) = some (some (.int .u8 0), 1, 1) := by kernel_rfl
 obtain ⟨i0, h1, h2⟩ := Option.map_eq_some_iff.1 h
 simp only [Prod.mk.injEq] at h2
 exact ⟨i0, h1, h2.1, h2.2.1, h2.2.2⟩
theorem clone_zero (a : Addr) (c : Nat) (w : World) :
 Calls Tryz.prog 91 #[.slice (some a) 0 c] w fun e w' => ∃ v', e = .returned v' ∧ w'.ownsRow w.heap.size 5 1 v' 0 [] ∧ Below w.heap.size w w' := by
 have q : ∀ (w : World) (a : Option Addr) (n c n' c' : Nat), (binOp .eql 24 (.slice a n c) (.slice none n' c')).run Tryz.prog w = .ok (.bool a.isNone) w := fun w a n c n' c' => Lib.run_eql_slice_nil w _ _ a n c n' c' Tryz.underlying24
 obtain ⟨i0, hi, hz0, hz1, hz2⟩ := info5
 go_enter Tryz.func91, Tryz.ntmps91
 go_wp2_with (at_builtin; refine wpList_append_own _ rfl _ _ 24 rfl w.heap.size 5 i0 (.int .u8 0) 1 1 Tryz.underlying24 hi hz0 hz1 hz2 rfl (by decide) _ _ _ rfl (World.ownsRow_made w #[] 0 (Nat.le_refl _) (Nat.zero_le _) rfl) a 0 c [] rfl rfl (by intro j u hj; simp at hj) (by intro u hu; cases hu) (by unfold maxLen; omega) (by omega) (by simp) ?_)
 intro v' w1 hown hgrow hnil
 go_wp2
 go_ret
 exact ⟨v', rfl, by simpa using hown, ((Below.refl _ w).alloc (Nat.le_refl _) _).grown hgrow (by simp) (by intro k hk; simp [Value.ownBlock] at hk; omega)⟩
theorem After.ofBelow {w w' : World} {M : Nat -> Prop} (hM : ∀ B, M B -> B < w.heap.size) (h : Below w.heap.size w w') : After w M [] w' M :=
 ⟨h.size, fun B hB _ => h.block B hB, h.os, h.tape, h.output, fun _ _ => Iff.rfl, fun B hB => Nat.lt_of_lt_of_le (hM B hB) h.size⟩
theorem bytesOne : ∀ {l : List UInt8} {vs : List Value} {w : World} {M : Nat -> Prop}, RowR (fun (y : Val .u8) u => RelC w M .u8 y u) l vs -> ∀ u ∈ vs, u.oneCell' = true := by
 intro l vs w M h
 refine RowR.all (p := fun u => u.oneCell' = true) ?_ h
 intro x u hu v hv
 have hu' : u = [.int .u8 (x : UInt8).toNat] := hu
 subst hu'
 simp only [List.mem_singleton] at hv
 subst hv; rfl
theorem owns_rel {w w' : World} {M : Nat -> Prop} (hM : ∀ B, M B -> B < w.heap.size) {l : List UInt8} {vs : List Value} {w0 : World} {M0 : Nat -> Prop} (hr : RowR (fun (y : Val .u8) u => RelC w0 M0 .u8 y u) l vs) {v' : Value} (h : w'.ownsRow w.heap.size 5 1 v' l.length vs) : RelC w' M (.sl .u8) l [v'] := by
 obtain ⟨h1, h2⟩ := h
 rcases h2 with ⟨rfl, h2⟩ | ⟨g, cap, cur, rfl, hg, hc, hlc, _, hsz, ht⟩
 ·have : l = [] := List.length_eq_zero_iff.1 h2
  subst this
  simp only [RelC]
  exact .inl ⟨trivial, none, 0, rfl⟩
 ·by_cases hl : l = []
  ·subst hl
   simp only [RelC]
   exact .inl ⟨trivial, _, _, rfl⟩
  ·simp only [RelC]
   have hlt : g < w'.heap.size := (Array.getElem?_eq_some_iff.1 hc).1
   refine .inr ⟨hl, g, 0, cap, vs, rfl, hlc, hlt, fun hm => absurd (hM g hm) (by omega), fun i v hv => ?_, hr.mono fun x u hu => hu⟩
   have hi : i < vs.length := (List.getElem?_eq_some_iff.1 hv).1
   rw [← ht] at hv
   rw [List.getElem?_take] at hv
   split at hv
   ·simp only [World.cell?, Nat.zero_add, hc]
    simpa using hv
   ·cases hv
theorem k91 : FnOk Tryz.prog 91 s91 := by
 refine ⟨(fnB_ok Tryz.func91 (by kernel_rfl)).1, fun w M x vs hM hg hx _ _ r hr => ?_⟩
 obtain ⟨v, l, rfl, hv, hl⟩ := hx
 have hl' : l = [] := hl
 subst hl'
 have hv' : RelC w M (.sl .u8) x.1 [v] := hv
 have hr' : fits? (x.1 : List UInt8) = (some r : Option (List UInt8)) := hr
 unfold fits? at hr'
 split at hr'
 ·rename_i hlen
  have e : (x.1 : List UInt8) = r := by injection hr'
  have fin : ∀ (v' : Value) (w' : World), RelC w' M (.sl .u8) (x.1 : List UInt8) [v'] -> Below w.heap.size w w' -> ∃ us M', Ending.returned v' = .returned (match us with | [u] => u | us => .tuple us.toArray) ∧ OutR w' M' w.heap.size s91.results (ioTy s91.params) r us (ioBlks s91.params [v]) ∧ After w M (ioBlks s91.params [v]) w' M' := by
   intro v' w' h1 h2
   refine ⟨[v'], M, rfl, ⟨v', rfl, ?_, rfl⟩, After.ofBelow hM h2⟩
   have h1' : RelC w' M (.sl .u8) r [v'] := e ▸ h1
   exact h1'
  simp only [RelC] at hv'
  rcases hv' with ⟨h0, a, c, hv'⟩ | ⟨h0, B, off, cap, us, hv', h1, h2, h3, h4, h5⟩
  ·simp only [List.cons.injEq, and_true] at hv'
   subst hv'
   cases a with
   | none =>
    refine (AnyE.slices_Clone_nil Tryz.laysClone 0 c w).mono ?_
    rintro e' w' ⟨rfl, rfl⟩
    refine fin _ _ ?_ (Below.refl _ _)
    rw [h0]; simp only [RelC]; exact .inl ⟨trivial, none, 0, rfl⟩
   | some a =>
    refine (clone_zero a c w).mono ?_
    rintro e' w' ⟨v', rfl, ho, hb⟩
    refine fin _ _ ?_ hb
    rw [h0]
    exact owns_rel (w0 := w) (M0 := M) hM (l := []) .nil ho
  ·simp only [List.cons.injEq, and_true] at hv'
   subst hv'
   obtain ⟨i0, hi, hz0, hz1, hz2⟩ := info5
   have hln := h5.length (s := 1) (fun x u hu => by have hu' : u = [.int .u8 (x : UInt8).toNat] := hu; rw [hu']; rfl)
   refine (AnyE.slices_Clone Tryz.laysClone i0 (.int .u8 0) 1 1 hi hz0 hz1 hz2 rfl (by decide) (fun w => by kernel_rfl) B off _ cap us w hln (by unfold maxLen; omega) (by omega) (fun j u hu => h4 j u hu) (bytesOne (w := w) (M := M) h5)).mono ?_
   rintro e' w' ⟨v', rfl, ho, _, hb⟩
   exact fin _ _ (owns_rel (w0 := w) (M0 := M) hM h5 ho) hb
 ·cases hr'
theorem findNow_new {kk : IntKind} {n : Int} : ∀ {es : List MapEntry} (i : Nat), (∀ e ∈ es, ∃ m, e.key = .int .i64 m ∧ m ≠ n) -> Instr.findNow (.int kk) (.int .i64 n) es i = some none
 | [], i, _ => rfl
 | e :: es, i, h => by
  obtain ⟨m, h1, h2⟩ := h e (by simp)
  have : (n == m) = false := by simpa using fun hc => h2 hc.symm
  simp only [Instr.findNow, Instr.sameNow, h1, if_pos, this]
  exact findNow_new (i + 1) fun e he => h e (by simp [he])
def rowsT : Nat -> List (Int × FuncId) -> List MapEntry
 | _, [] => []
 | i, q :: l => { key := .int .i64 q.1, val := .func (.func q.2) #[] #[], born := i } :: rowsT (i + 1) l
theorem rowsT_app : ∀ (i : Nat) (l : List (Int × FuncId)) (q : Int × FuncId), rowsT i (l ++ [q]) = rowsT i l ++ [{ key := .int .i64 q.1, val := .func (.func q.2) #[] #[], born := i + l.length }]
 | i, [], q => rfl
 | i, p :: l, q => by
  simp only [List.cons_append, rowsT, rowsT_app (i + 1) l q, List.length_cons]
  rw [show i + 1 + l.length = i + (l.length + 1) by omega]
theorem rowsT_key : ∀ (i : Nat) (l : List (Int × FuncId)), ∀ e ∈ rowsT i l, ∃ q ∈ l, e.key = .int .i64 q.1
 | i, [], e, h => by cases h
 | i, p :: l, e, h => by
  rcases List.mem_cons.1 h with rfl | h
  ·exact ⟨p, by simp, rfl⟩
  ·obtain ⟨q, h1, h2⟩ := rowsT_key (i + 1) l e h
   exact ⟨q, by simp [h1], h2⟩
theorem rowsT_map : ∀ (i : Nat) (l : List (Int × FuncId)), (rowsT i l).map (fun e => (e.key, e.val)) = l.map fun q => (Value.int .i64 q.1, Value.func (.func q.2) #[] #[])
 | i, [] => rfl
 | i, p :: l => by simp only [rowsT, List.map_cons, rowsT_map (i + 1) l]
def tabW (w : World) (l : List (Int × FuncId)) : World := w.alloc (.map (rowsT 0 l).toArray l.length)
theorem tabW_heap (w : World) (l : List (Int × FuncId)) : (tabW w l).heap = w.heap.push (.map (rowsT 0 l).toArray l.length) := rfl
theorem tabW_at (w : World) (l : List (Int × FuncId)) : (tabW w l).heap[w.heap.size]? = some (.map (rowsT 0 l).toArray l.length) := by
 rw [tabW_heap, Array.getElem?_push, if_pos rfl]
theorem tabW_old (w : World) (l : List (Int × FuncId)) {B : Nat} (h : B < w.heap.size) : (tabW w l).heap[B]? = w.heap[B]? := by
 rw [tabW_heap, Array.getElem?_push, if_neg (by omega)]
theorem tabW_size (w : World) (l : List (Int × FuncId)) : (tabW w l).heap.size = w.heap.size + 1 := by
 rw [tabW_heap, Array.size_push]
theorem set_push {α : Type} (a : Array α) (x y : α) : (a.push x).setIfInBounds a.size y = a.push y := by
 apply Array.ext_getElem?
 intro i
 rw [Array.getElem?_setIfInBounds, Array.getElem?_push, Array.getElem?_push, Array.size_push]
 by_cases h : a.size = i
 ·subst h; simp
 ·rw [if_neg h, if_neg (fun hc => h hc.symm), if_neg (fun hc => h hc.symm)]
theorem run_ins (w : World) (l : List (Int × FuncId)) (n : Int) (f : FuncId) (hn : (l.all fun q => !decide (q.1 = n)) = true) :
 (Instr.mapUpdate 231 (.map (some w.heap.size)) (.int .i64 n) (.func (.func f) #[] #[])).run Tryz.prog (tabW w l) = .ok () (tabW w (l ++ [(n, f)])) := by
 have hu : Tryz.prog.underlying 231 = some (.map 3 229) := by kernel_rfl
 have hk : Tryz.prog.underlying 3 = some (.int .i64) := by kernel_rfl
 have hr : (tabW w l).heap[w.heap.size]? = some (.map (rowsT 0 l).toArray l.length) := tabW_at w l
 have hget : (getObj w.heap.size).run Tryz.prog (tabW w l) = .ok (.map (rowsT 0 l).toArray l.length) (tabW w l) := by
  show (Sem.getObj _ .pure).run Tryz.prog _ = _
  simp only [Sem.run, hr]
 have hck : (Instr.checkKey false 10000 3 (.int .i64 n)).run Tryz.prog (tabW w l) = .ok () (tabW w l) := by
  show (Instr.checkKey false (9999 + 1) 3 (.int .i64 n)).run Tryz.prog (tabW w l) = .ok () (tabW w l)
  generalize 9999 = m
  simp only [Instr.checkKey, Sem.run_bind, run_und hk, Result.andThen_ok, Sem.run_pure]
 have hf : Instr.findNow (.int .i64) (.int .i64 n) (rowsT 0 l) 0 = some none := findNow_new 0 fun e he => by
  obtain ⟨q, h1, h2⟩ := rowsT_key 0 l e he
  refine ⟨q.1, h2, ?_⟩
  simpa using List.all_eq_true.1 hn q h1
 have hset : (setObj w.heap.size (.map ((rowsT 0 l).toArray.push { key := .int .i64 n, val := .func (.func f) #[] #[], born := l.length }) (l.length + 1))).run Tryz.prog (tabW w l) = .ok () (tabW w (l ++ [(n, f)])) := by
  show (Sem.setObj _ _ (.pure ())).run Tryz.prog _ = _
  simp only [Sem.run, hr]
  have e : (tabW w l).heap.setIfInBounds w.heap.size (.map ((rowsT 0 l).toArray.push { key := .int .i64 n, val := .func (.func f) #[] #[], born := l.length }) (l.length + 1)) = (tabW w (l ++ [(n, f)])).heap := by
   rw [tabW_heap, tabW_heap, set_push, rowsT_app]
   simp
  show Result.ok () { tabW w l with heap := (tabW w l).heap.setIfInBounds _ _ } = _
  rw [e]; rfl
 simp only [Instr.mapUpdate, Sem.run_bind, run_und hu, Result.andThen_ok, hget, hck, Instr.findKey, run_und hk, hf, Sem.run_pure]
 exact hset
theorem k179 : FnOk Tryz.prog 179 s179 := by
 refine ⟨(fnB_ok Tryz.func179 (by kernel_rfl)).1, fun w M x vs hM hg hx _ _ r hr => ?_⟩
 have hx' : vs = [] := hx
 subst hx'
 have key : Calls Tryz.prog 179 #[] w fun e w' => e = .returned (.map (some w.heap.size)) ∧ w' = tabW w mpL := by
  clear hg hM hr hx
  have hmm : ∀ w, (Instr.makeMap 231 none).run Tryz.prog w = .ok (.map (some w.heap.size)) (tabW w []) := fun w => rfl
  have h1 := run_ins w [] 1 196 (by decide)
  have h2 := run_ins w [(1, 196)] 2 197 (by decide)
  have h3 := run_ins w [(1, 196), (2, 197)] 3 198 (by decide)
  have h4 := run_ins w [(1, 196), (2, 197), (3, 198)] 4 199 (by decide)
  have h5 := run_ins w [(1, 196), (2, 197), (3, 198), (4, 199)] 5 200 (by decide)
  have h6 := run_ins w [(1, 196), (2, 197), (3, 198), (4, 199), (5, 200)] 6 201 (by decide)
  simp only [List.nil_append, List.cons_append] at h1 h2 h3 h4 h5 h6
  go_enter Tryz.func179, Tryz.ntmps179
  go_wp2
  go_ret
  exact ⟨rfl, rfl⟩
 refine key.mono ?_
 rintro e w' ⟨rfl, rfl⟩
 refine ⟨[.map (some w.heap.size)], M, rfl, ⟨_, rfl, ?_, rfl⟩, ?_⟩
 ·refine ⟨w.heap.size, (rowsT 0 mpL).toArray, mpL.length, rfl, by rw [tabW_size]; omega, fun h => absurd (hM _ h) (by omega), tabW_at w mpL, ?_⟩
  exact rowsT_map 0 mpL
 ·exact ⟨by rw [tabW_size]; omega, fun B hB _ => tabW_old w mpL hB, rfl, rfl, rfl, fun _ _ => Iff.rfl, fun B hB => by have := hM B hB; rw [tabW_size]; omega⟩
end Sx
end
section
open Go Go.Proofs Ev
namespace Sx
theorem hm : Tryz.prog.follows .mixedOrders = true := by kernel_rfl
theorem hT : Tys Tryz.prog tys cells maps := ⟨by kernel_rfl, by kernel_rfl, by kernel_rfl⟩
theorem k5 : FnOk Tryz.prog 5 s5 := fn_okS (C := c5) (hs := h5) (ps := P5) (rs := R5) (specs := []) (dyns := []) (codes := []) rfl hm hT trivial trivial (by kernel_rfl) Tryz.func5 (by kernel_rfl)
theorem k4 : FnOk Tryz.prog 4 s4 := fn_okS (C := c4) (hs := h4) (ps := P4) (rs := R4) (specs := [(5, s5)]) (dyns := []) (codes := []) rfl hm hT ⟨k5, trivial⟩ trivial (by kernel_rfl) Tryz.func4 (by kernel_rfl)
theorem k6 : FnOk Tryz.prog 6 s6 := fn_okS (C := c6) (hs := h6) (ps := P6) (rs := R6) (specs := []) (dyns := []) (codes := []) rfl hm hT trivial trivial (by kernel_rfl) Tryz.func6 (by kernel_rfl)
theorem k15 : FnOk Tryz.prog 15 s15 := fn_okS (C := c15) (hs := h15) (ps := P15) (rs := R15) (specs := []) (dyns := []) (codes := []) rfl hm hT trivial trivial (by kernel_rfl) Tryz.func15 (by kernel_rfl)
theorem k42 : FnOk Tryz.prog 42 s42 := fn_okS (C := c42) (hs := h42) (ps := P42) (rs := R42) (specs := []) (dyns := []) (codes := []) rfl hm hT trivial trivial (by kernel_rfl) Tryz.func42 (by kernel_rfl)
theorem kN102 : ∀ n, FnOk Tryz.prog 102 (sN102 n)
 | 0 => ⟨(fnB_ok Tryz.func102 (by kernel_rfl)).1, fun _ _ _ _ _ _ _ _ _ _ h => none_some h⟩
 | n + 1 => fn_okS (C := mkC tys cells maps [(102, sN102 n)] [] []) (hs := []) (ps := P102) (rs := R102) (specs := [(102, sN102 n)]) (dyns := []) (codes := []) rfl hm hT ⟨kN102 n, trivial⟩ trivial rfl Tryz.func102 (by kernel_rfl)
theorem k102 : FnOk Tryz.prog 102 s102 := kN102 6
theorem k64 : FnOk Tryz.prog 64 s64 := fn_okS (C := c64) (hs := h64) (ps := P64) (rs := R64) (specs := [(102, s102)]) (dyns := []) (codes := []) rfl hm hT ⟨k102, trivial⟩ trivial (by kernel_rfl) Tryz.func64 (by kernel_rfl)
theorem k63 : FnOk Tryz.prog 63 s63 := fn_okS (C := c63) (hs := h63) (ps := P63) (rs := R63) (specs := [(64, s64)]) (dyns := []) (codes := []) rfl hm hT ⟨k64, trivial⟩ trivial (by kernel_rfl) Tryz.func63 (by kernel_rfl)
theorem k27 : FnOk Tryz.prog 27 s27 := fn_okS (C := c27) (hs := h27) (ps := P27) (rs := R27) (specs := [(42, s42), (63, s63)]) (dyns := []) (codes := []) rfl hm hT ⟨k42, k63, trivial⟩ trivial (by kernel_rfl) Tryz.func27 (by kernel_rfl)
theorem k30 : FnOk Tryz.prog 30 s30 := fn_okS (C := c30) (hs := h30) (ps := P30) (rs := R30) (specs := []) (dyns := []) (codes := []) rfl hm hT trivial trivial (by kernel_rfl) Tryz.func30 (by kernel_rfl)
theorem k29 : FnOk Tryz.prog 29 s29 := fn_okS (C := c29) (hs := h29) (ps := P29) (rs := R29) (specs := [(63, s63), (64, s64)]) (dyns := []) (codes := []) rfl hm hT ⟨k63, k64, trivial⟩ trivial (by kernel_rfl) Tryz.func29 (by kernel_rfl)
theorem k118 : FnOk Tryz.prog 118 s118 := fn_okS (C := c118) (hs := h118) (ps := P118) (rs := R118) (specs := []) (dyns := []) (codes := []) rfl hm hT trivial trivial (by kernel_rfl) Tryz.func118 (by kernel_rfl)
theorem k119 : FnOk Tryz.prog 119 s119 := fn_okS (C := c119) (hs := h119) (ps := P119) (rs := R119) (specs := []) (dyns := []) (codes := []) rfl hm hT trivial trivial (by kernel_rfl) Tryz.func119 (by kernel_rfl)
theorem k82 : FnOk Tryz.prog 82 s82 := fn_okS (C := c82) (hs := h82) (ps := P82) (rs := R82) (specs := [(42, s42), (118, s118), (119, s119)]) (dyns := []) (codes := []) rfl hm hT ⟨k42, k118, k119, trivial⟩ trivial (by kernel_rfl) Tryz.func82 (by kernel_rfl)
theorem k44 : FnOk Tryz.prog 44 s44 := fn_okS (C := c44) (hs := h44) (ps := P44) (rs := R44) (specs := [(29, s29), (82, s82)]) (dyns := []) (codes := []) rfl hm hT ⟨k29, k82, trivial⟩ trivial (by kernel_rfl) Tryz.func44 (by kernel_rfl)
theorem k31 : FnOk Tryz.prog 31 s31 := fn_okS (C := c31) (hs := h31) (ps := P31) (rs := R31) (specs := [(44, s44)]) (dyns := []) (codes := []) rfl hm hT ⟨k44, trivial⟩ trivial (by kernel_rfl) Tryz.func31 (by kernel_rfl)
theorem k70 : FnOk Tryz.prog 70 s70 := fn_okS (C := c70) (hs := h70) (ps := P70) (rs := R70) (specs := [(31, s31)]) (dyns := []) (codes := []) rfl hm hT ⟨k31, trivial⟩ trivial (by kernel_rfl) Tryz.func70 (by kernel_rfl)
theorem k33 : FnOk Tryz.prog 33 s33 := fn_okS (C := c33) (hs := h33) (ps := P33) (rs := R33) (specs := [(70, s70)]) (dyns := []) (codes := []) rfl hm hT ⟨k70, trivial⟩ trivial (by kernel_rfl) Tryz.func33 (by kernel_rfl)
theorem k103 : FnOk Tryz.prog 103 s103 := fn_okS (C := c103) (hs := h103) (ps := P103) (rs := R103) (specs := []) (dyns := []) (codes := []) rfl hm hT trivial trivial (by kernel_rfl) Tryz.func103 (by kernel_rfl)
theorem k66 : FnOk Tryz.prog 66 s66 := fn_okS (C := c66) (hs := h66) (ps := P66) (rs := R66) (specs := [(44, s44), (103, s103)]) (dyns := []) (codes := []) rfl hm hT ⟨k44, k103, trivial⟩ trivial (by kernel_rfl) Tryz.func66 (by kernel_rfl)
theorem k68 : FnOk Tryz.prog 68 s68 := fn_okS (C := c68) (hs := h68) (ps := P68) (rs := R68) (specs := [(29, s29)]) (dyns := []) (codes := []) rfl hm hT ⟨k29, trivial⟩ trivial (by kernel_rfl) Tryz.func68 (by kernel_rfl)
theorem k104 : FnOk Tryz.prog 104 s104 := fn_okS (C := c104) (hs := h104) (ps := P104) (rs := R104) (specs := [(68, s68), (82, s82)]) (dyns := []) (codes := []) rfl hm hT ⟨k68, k82, trivial⟩ trivial (by kernel_rfl) Tryz.func104 (by kernel_rfl)
theorem k67 : FnOk Tryz.prog 67 s67 := fn_okS (C := c67) (hs := h67) (ps := P67) (rs := R67) (specs := [(104, s104)]) (dyns := []) (codes := []) rfl hm hT ⟨k104, trivial⟩ trivial (by kernel_rfl) Tryz.func67 (by kernel_rfl)
theorem k38 : FnOk Tryz.prog 38 s38 := fn_okS (C := c38) (hs := h38) (ps := P38) (rs := R38) (specs := [(66, s66), (67, s67)]) (dyns := []) (codes := []) rfl hm hT ⟨k66, k67, trivial⟩ trivial (by kernel_rfl) Tryz.func38 (by kernel_rfl)
theorem k28 : FnOk Tryz.prog 28 s28 := fn_okS (C := c28) (hs := h28) (ps := P28) (rs := R28) (specs := [(30, s30), (33, s33), (38, s38)]) (dyns := []) (codes := []) rfl hm hT ⟨k30, k33, k38, trivial⟩ trivial (by kernel_rfl) Tryz.func28 (by kernel_rfl)
theorem k78 : FnOk Tryz.prog 78 s78 := fn_okS (C := c78) (hs := h78) (ps := P78) (rs := R78) (specs := []) (dyns := []) (codes := []) rfl hm hT trivial trivial (by kernel_rfl) Tryz.func78 (by kernel_rfl)
theorem k80 : FnOk Tryz.prog 80 s80 := fn_okS (C := c80) (hs := h80) (ps := P80) (rs := R80) (specs := []) (dyns := []) (codes := []) rfl hm hT trivial trivial (by kernel_rfl) Tryz.func80 (by kernel_rfl)
theorem k147 : FnOk Tryz.prog 147 s147 := fn_okS (C := c147) (hs := h147) (ps := P147) (rs := R147) (specs := [(80, s80)]) (dyns := []) (codes := []) rfl hm hT ⟨k80, trivial⟩ trivial (by kernel_rfl) Tryz.func147 (by kernel_rfl)
theorem k115 : FnOk Tryz.prog 115 s115 := fn_okS (C := c115) (hs := h115) (ps := P115) (rs := R115) (specs := [(147, s147)]) (dyns := []) (codes := []) rfl hm hT ⟨k147, trivial⟩ trivial (by kernel_rfl) Tryz.func115 (by kernel_rfl)
theorem k148 : FnOk Tryz.prog 148 s148 := fn_okS (C := c148) (hs := h148) (ps := P148) (rs := R148) (specs := []) (dyns := []) (codes := []) rfl hm hT trivial trivial (by kernel_rfl) Tryz.func148 (by kernel_rfl)
theorem k149 : FnOk Tryz.prog 149 s149 := fn_okS (C := c149) (hs := h149) (ps := P149) (rs := R149) (specs := [(80, s80)]) (dyns := []) (codes := []) rfl hm hT ⟨k80, trivial⟩ trivial (by kernel_rfl) Tryz.func149 (by kernel_rfl)
theorem k116 : FnOk Tryz.prog 116 s116 := fn_okS (C := c116) (hs := h116) (ps := P116) (rs := R116) (specs := [(80, s80), (148, s148), (149, s149)]) (dyns := [37]) (codes := []) rfl hm hT ⟨k80, k148, k149, trivial⟩ trivial (by kernel_rfl) Tryz.func116 (by kernel_rfl)
theorem k150 : FnOk Tryz.prog 150 s150 := fn_okS (C := c150) (hs := h150) (ps := P150) (rs := R150) (specs := [(80, s80)]) (dyns := []) (codes := []) rfl hm hT ⟨k80, trivial⟩ trivial (by kernel_rfl) Tryz.func150 (by kernel_rfl)
theorem k151 : FnOk Tryz.prog 151 s151 := fn_okS (C := c151) (hs := h151) (ps := P151) (rs := R151) (specs := []) (dyns := []) (codes := []) rfl hm hT trivial trivial (by kernel_rfl) Tryz.func151 (by kernel_rfl)
theorem k117 : FnOk Tryz.prog 117 s117 := fn_okS (C := c117) (hs := h117) (ps := P117) (rs := R117) (specs := [(150, s150), (151, s151)]) (dyns := []) (codes := []) rfl hm hT ⟨k150, k151, trivial⟩ trivial (by kernel_rfl) Tryz.func117 (by kernel_rfl)
theorem k79 : FnOk Tryz.prog 79 s79 := fn_okS (C := c79) (hs := h79) (ps := P79) (rs := R79) (specs := [(115, s115), (116, s116), (117, s117)]) (dyns := []) (codes := []) rfl hm hT ⟨k115, k116, k117, trivial⟩ trivial (by kernel_rfl) Tryz.func79 (by kernel_rfl)
theorem k36 : FnOk Tryz.prog 36 s36 := fn_okS (C := c36) (hs := h36) (ps := P36) (rs := R36) (specs := [(78, s78), (79, s79), (80, s80)]) (dyns := []) (codes := []) rfl hm hT ⟨k78, k79, k80, trivial⟩ trivial (by kernel_rfl) Tryz.func36 (by kernel_rfl)
theorem k37 : FnOk Tryz.prog 37 s37 := fn_okS (C := c37) (hs := h37) (ps := P37) (rs := R37) (specs := [(38, s38), (70, s70)]) (dyns := []) (codes := []) rfl hm hT ⟨k38, k70, trivial⟩ trivial (by kernel_rfl) Tryz.func37 (by kernel_rfl)
theorem k39 : FnOk Tryz.prog 39 s39 := fn_okS (C := c39) (hs := h39) (ps := P39) (rs := R39) (specs := [(66, s66), (67, s67)]) (dyns := []) (codes := []) rfl hm hT ⟨k66, k67, trivial⟩ trivial (by kernel_rfl) Tryz.func39 (by kernel_rfl)
theorem k16 : FnOk Tryz.prog 16 s16 := fn_ok hm hT (specs := [(27, s27), (28, s28), (30, s30), (36, s36), (37, s37), (38, s38), (39, s39)]) (dyns := [32]) (codes := []) ⟨k27, k28, k30, k36, k37, k38, k39, trivial⟩ trivial (by kernel_rfl) Tryz.func16 (by kernel_rfl) (fun x r h => by obtain ⟨hs, _, e⟩ := List.mem_map.1 (orAll_mem h); exact ⟨_, e⟩)
theorem k81 : FnOk Tryz.prog 81 s81 := fn_okS (C := c81) (hs := h81) (ps := P81) (rs := R81) (specs := []) (dyns := []) (codes := []) rfl hm hT trivial trivial (by kernel_rfl) Tryz.func81 (by kernel_rfl)
theorem k40 : FnOk Tryz.prog 40 s40 := fn_okS (C := c40) (hs := h40) (ps := P40) (rs := R40) (specs := [(81, s81)]) (dyns := []) (codes := []) rfl hm hT ⟨k81, trivial⟩ trivial (by kernel_rfl) Tryz.func40 (by kernel_rfl)
theorem k41 : FnOk Tryz.prog 41 s41 := fn_okS (C := c41) (hs := h41) (ps := P41) (rs := R41) (specs := [(81, s81)]) (dyns := []) (codes := []) rfl hm hT ⟨k81, trivial⟩ trivial (by kernel_rfl) Tryz.func41 (by kernel_rfl)
theorem k43 : FnOk Tryz.prog 43 s43 := fn_okS (C := c43) (hs := h43) (ps := P43) (rs := R43) (specs := [(81, s81)]) (dyns := []) (codes := []) rfl hm hT ⟨k81, trivial⟩ trivial (by kernel_rfl) Tryz.func43 (by kernel_rfl)
theorem k17 : FnOk Tryz.prog 17 s17 := fn_okS (C := c17) (hs := h17) (ps := P17) (rs := R17) (specs := [(40, s40), (41, s41), (42, s42), (43, s43)]) (dyns := []) (codes := []) rfl hm hT ⟨k40, k41, k42, k43, trivial⟩ trivial (by kernel_rfl) Tryz.func17 (by kernel_rfl)
theorem k18 : FnOk Tryz.prog 18 s18 := fn_okS (C := c18) (hs := h18) (ps := P18) (rs := R18) (specs := [(44, s44)]) (dyns := []) (codes := []) rfl hm hT ⟨k44, trivial⟩ trivial (by kernel_rfl) Tryz.func18 (by kernel_rfl)
theorem k7 : FnOk Tryz.prog 7 s7 := fn_okS (C := c7) (hs := h7) (ps := P7) (rs := R7) (specs := [(15, s15), (16, s16), (17, s17), (18, s18)]) (dyns := []) (codes := []) rfl hm hT ⟨k15, k16, k17, k18, trivial⟩ trivial (by kernel_rfl) Tryz.func7 (by kernel_rfl)
theorem k8 : FnOk Tryz.prog 8 s8 := fn_okS (C := c8) (hs := h8) (ps := P8) (rs := R8) (specs := []) (dyns := []) (codes := []) rfl hm hT trivial trivial (by kernel_rfl) Tryz.func8 (by kernel_rfl)
theorem k98 : FnOk Tryz.prog 98 s98 := fn_okS (C := c98) (hs := h98) (ps := P98) (rs := R98) (specs := []) (dyns := []) (codes := []) rfl hm hT trivial trivial (by kernel_rfl) Tryz.func98 (by kernel_rfl)
theorem k99 : FnOk Tryz.prog 99 s99 := fn_okS (C := c99) (hs := h99) (ps := P99) (rs := R99) (specs := []) (dyns := []) (codes := []) rfl hm hT trivial trivial (by kernel_rfl) Tryz.func99 (by kernel_rfl)
theorem k59 : FnOk Tryz.prog 59 s59 := fn_okS (C := c59) (hs := h59) (ps := P59) (rs := R59) (specs := [(98, s98), (99, s99)]) (dyns := []) (codes := []) rfl hm hT ⟨k98, k99, trivial⟩ trivial (by kernel_rfl) Tryz.func59 (by kernel_rfl)
theorem k60 : FnOk Tryz.prog 60 s60 := fn_okS (C := c60) (hs := h60) (ps := P60) (rs := R60) (specs := [(98, s98)]) (dyns := []) (codes := []) rfl hm hT ⟨k98, trivial⟩ trivial (by kernel_rfl) Tryz.func60 (by kernel_rfl)
theorem k100 : FnOk Tryz.prog 100 s100 := fn_okS (C := c100) (hs := h100) (ps := P100) (rs := R100) (specs := []) (dyns := []) (codes := []) rfl hm hT trivial trivial (by kernel_rfl) Tryz.func100 (by kernel_rfl)
theorem k101 : FnOk Tryz.prog 101 s101 := fn_okS (C := c101) (hs := h101) (ps := P101) (rs := R101) (specs := [(98, s98)]) (dyns := []) (codes := []) rfl hm hT ⟨k98, trivial⟩ trivial (by kernel_rfl) Tryz.func101 (by kernel_rfl)
theorem k61 : FnOk Tryz.prog 61 s61 := fn_okS (C := c61) (hs := h61) (ps := P61) (rs := R61) (specs := [(100, s100), (101, s101)]) (dyns := []) (codes := []) rfl hm hT ⟨k100, k101, trivial⟩ trivial (by kernel_rfl) Tryz.func61 (by kernel_rfl)
theorem k23 : FnOk Tryz.prog 23 s23 := fn_okS (C := c23) (hs := h23) (ps := P23) (rs := R23) (specs := [(59, s59), (60, s60), (61, s61)]) (dyns := []) (codes := []) rfl hm hT ⟨k59, k60, k61, trivial⟩ trivial (by kernel_rfl) Tryz.func23 (by kernel_rfl)
theorem k45 : FnOk Tryz.prog 45 s45 := fn_okS (C := c45) (hs := h45) (ps := P45) (rs := R45) (specs := []) (dyns := []) (codes := []) rfl hm hT trivial trivial (by kernel_rfl) Tryz.func45 (by kernel_rfl)
theorem k55 : FnOk Tryz.prog 55 s55 := fn_okS (C := c55) (hs := h55) (ps := P55) (rs := R55) (specs := []) (dyns := []) (codes := []) rfl hm hT trivial trivial (by kernel_rfl) Tryz.func55 (by kernel_rfl)
theorem k152 : FnOk Tryz.prog 152 s152 := fn_okS (C := c152) (hs := h152) (ps := P152) (rs := R152) (specs := []) (dyns := []) (codes := []) rfl hm hT trivial trivial (by kernel_rfl) Tryz.func152 (by kernel_rfl)
theorem k185 : FnOk Tryz.prog 185 s185 := fn_okS (C := c185) (hs := h185) (ps := P185) (rs := R185) (specs := []) (dyns := []) (codes := []) rfl hm hT trivial trivial (by kernel_rfl) Tryz.func185 (by kernel_rfl)
theorem k153 : FnOk Tryz.prog 153 s153 := fn_okS (C := c153) (hs := h153) (ps := P153) (rs := R153) (specs := [(185, s185)]) (dyns := []) (codes := []) rfl hm hT ⟨k185, trivial⟩ trivial (by kernel_rfl) Tryz.func153 (by kernel_rfl)
theorem k154 : FnOk Tryz.prog 154 s154 := fn_okS (C := c154) (hs := h154) (ps := P154) (rs := R154) (specs := []) (dyns := []) (codes := []) rfl hm hT trivial trivial (by kernel_rfl) Tryz.func154 (by kernel_rfl)
theorem k155 : FnOk Tryz.prog 155 s155 := fn_okS (C := c155) (hs := h155) (ps := P155) (rs := R155) (specs := []) (dyns := [37]) (codes := []) rfl hm hT trivial trivial (by kernel_rfl) Tryz.func155 (by kernel_rfl)
theorem k156 : FnOk Tryz.prog 156 s156 := fn_okS (C := c156) (hs := h156) (ps := P156) (rs := R156) (specs := []) (dyns := []) (codes := []) rfl hm hT trivial trivial (by kernel_rfl) Tryz.func156 (by kernel_rfl)
theorem k120 : FnOk Tryz.prog 120 s120 := fn_okS (C := c120) (hs := h120) (ps := P120) (rs := R120) (specs := [(152, s152), (153, s153), (154, s154), (155, s155), (156, s156)]) (dyns := []) (codes := []) rfl hm hT ⟨k152, k153, k154, k155, k156, trivial⟩ trivial (by kernel_rfl) Tryz.func120 (by kernel_rfl)
theorem k157 : FnOk Tryz.prog 157 s157 := fn_okS (C := c157) (hs := h157) (ps := P157) (rs := R157) (specs := []) (dyns := []) (codes := []) rfl hm hT trivial trivial (by kernel_rfl) Tryz.func157 (by kernel_rfl)
theorem k158 : FnOk Tryz.prog 158 s158 := fn_okS (C := c158) (hs := h158) (ps := P158) (rs := R158) (specs := []) (dyns := []) (codes := []) rfl hm hT trivial trivial (by kernel_rfl) Tryz.func158 (by kernel_rfl)
theorem k186 : FnOk Tryz.prog 186 s186 := fn_okS (C := c186) (hs := h186) (ps := P186) (rs := R186) (specs := []) (dyns := []) (codes := []) rfl hm hT trivial trivial (by kernel_rfl) Tryz.func186 (by kernel_rfl)
theorem k159 : FnOk Tryz.prog 159 s159 := fn_okS (C := c159) (hs := h159) (ps := P159) (rs := R159) (specs := [(152, s152), (155, s155), (186, s186)]) (dyns := []) (codes := []) rfl hm hT ⟨k152, k155, k186, trivial⟩ trivial (by kernel_rfl) Tryz.func159 (by kernel_rfl)
theorem k161 : FnOk Tryz.prog 161 s161 := fn_okS (C := c161) (hs := h161) (ps := P161) (rs := R161) (specs := []) (dyns := []) (codes := []) rfl hm hT trivial trivial (by kernel_rfl) Tryz.func161 (by kernel_rfl)
theorem k162 : FnOk Tryz.prog 162 s162 := fn_okS (C := c162) (hs := h162) (ps := P162) (rs := R162) (specs := []) (dyns := []) (codes := []) rfl hm hT trivial trivial (by kernel_rfl) Tryz.func162 (by kernel_rfl)
theorem k187 : FnOk Tryz.prog 187 s187 := fn_okS (C := c187) (hs := h187) (ps := P187) (rs := R187) (specs := []) (dyns := []) (codes := []) rfl hm hT trivial trivial (by kernel_rfl) Tryz.func187 (by kernel_rfl)
theorem k121 : FnOk Tryz.prog 121 s121 := fn_okS (C := c121) (hs := h121) (ps := P121) (rs := R121) (specs := [(152, s152), (153, s153), (155, s155), (157, s157), (158, s158), (159, s159), (161, s161), (162, s162), (186, s186), (187, s187)]) (dyns := [37]) (codes := [(155, Tryz.f155), (159, Tryz.f159), (160, Tryz.f160), (163, Tryz.f163)]) rfl hm hT ⟨k152, k153, k155, k157, k158, k159, k161, k162, k186, k187, trivial⟩ ⟨Tryz.func155, Tryz.func159, Tryz.func160, Tryz.func163, trivial⟩ (by kernel_rfl) Tryz.func121 (by kernel_rfl)
theorem k188 : FnOk Tryz.prog 188 s188 := fn_okS (C := c188) (hs := h188) (ps := P188) (rs := R188) (specs := [(187, s187)]) (dyns := []) (codes := []) rfl hm hT ⟨k187, trivial⟩ trivial (by kernel_rfl) Tryz.func188 (by kernel_rfl)
theorem k164 : FnOk Tryz.prog 164 s164 := fn_okS (C := c164) (hs := h164) (ps := P164) (rs := R164) (specs := [(161, s161), (188, s188)]) (dyns := []) (codes := []) rfl hm hT ⟨k161, k188, trivial⟩ trivial (by kernel_rfl) Tryz.func164 (by kernel_rfl)
theorem k166 : FnOk Tryz.prog 166 s166 := fn_okS (C := c166) (hs := h166) (ps := P166) (rs := R166) (specs := []) (dyns := []) (codes := []) rfl hm hT trivial trivial (by kernel_rfl) Tryz.func166 (by kernel_rfl)
theorem k165 : FnOk Tryz.prog 165 s165 := fn_okS (C := c165) (hs := h165) (ps := P165) (rs := R165) (specs := [(166, s166)]) (dyns := []) (codes := []) rfl hm hT ⟨k166, trivial⟩ trivial (by kernel_rfl) Tryz.func165 (by kernel_rfl)
theorem k122 : FnOk Tryz.prog 122 s122 := fn_okS (C := c122) (hs := h122) (ps := P122) (rs := R122) (specs := [(153, s153), (155, s155), (157, s157), (164, s164), (165, s165)]) (dyns := []) (codes := []) rfl hm hT ⟨k153, k155, k157, k164, k165, trivial⟩ trivial (by kernel_rfl) Tryz.func122 (by kernel_rfl)
theorem k83 : FnOk Tryz.prog 83 s83 := fn_okS (C := c83) (hs := h83) (ps := P83) (rs := R83) (specs := [(120, s120), (121, s121), (122, s122)]) (dyns := []) (codes := []) rfl hm hT ⟨k120, k121, k122, trivial⟩ trivial (by kernel_rfl) Tryz.func83 (by kernel_rfl)
theorem k123 : FnOk Tryz.prog 123 s123 := fn_okS (C := c123) (hs := h123) (ps := P123) (rs := R123) (specs := []) (dyns := []) (codes := []) rfl hm hT trivial trivial (by kernel_rfl) Tryz.func123 (by kernel_rfl)
theorem k167 : FnOk Tryz.prog 167 s167 := fn_okS (C := c167) (hs := h167) (ps := P167) (rs := R167) (specs := []) (dyns := []) (codes := []) rfl hm hT trivial trivial (by kernel_rfl) Tryz.func167 (by kernel_rfl)
theorem k124 : FnOk Tryz.prog 124 s124 := fn_okS (C := c124) (hs := h124) (ps := P124) (rs := R124) (specs := [(153, s153), (164, s164), (167, s167)]) (dyns := [37]) (codes := []) rfl hm hT ⟨k153, k164, k167, trivial⟩ trivial (by kernel_rfl) Tryz.func124 (by kernel_rfl)
theorem k84 : FnOk Tryz.prog 84 s84 := fn_okS (C := c84) (hs := h84) (ps := P84) (rs := R84) (specs := [(123, s123), (124, s124)]) (dyns := []) (codes := []) rfl hm hT ⟨k123, k124, trivial⟩ trivial (by kernel_rfl) Tryz.func84 (by kernel_rfl)
theorem k95 : FnOk Tryz.prog 95 s95 := fn_okS (C := c95) (hs := h95) (ps := P95) (rs := R95) (specs := [(127, s127)]) (dyns := []) (codes := []) rfl hm hT ⟨k127, trivial⟩ trivial (by kernel_rfl) Tryz.func95 (by kernel_rfl)
theorem k88 : FnOk Tryz.prog 88 s88 := fn_okS (C := c88) (hs := h88) (ps := P88) (rs := R88) (specs := [(95, s95)]) (dyns := []) (codes := []) rfl hm hT ⟨k95, trivial⟩ trivial (by kernel_rfl) Tryz.func88 (by kernel_rfl)
theorem k54 : FnOk Tryz.prog 54 s54 := fn_okS (C := c54) (hs := h54) (ps := P54) (rs := R54) (specs := [(88, s88), (95, s95)]) (dyns := []) (codes := []) rfl hm hT ⟨k88, k95, trivial⟩ trivial (by kernel_rfl) Tryz.func54 (by kernel_rfl)
theorem k189 : FnOk Tryz.prog 189 s189 := fn_okS (C := c189) (hs := h189) (ps := P189) (rs := R189) (specs := []) (dyns := []) (codes := []) rfl hm hT trivial trivial (by kernel_rfl) Tryz.func189 (by kernel_rfl)
theorem k190 : FnOk Tryz.prog 190 s190 := fn_okS (C := c190) (hs := h190) (ps := P190) (rs := R190) (specs := []) (dyns := []) (codes := []) rfl hm hT trivial trivial (by kernel_rfl) Tryz.func190 (by kernel_rfl)
theorem k168 : FnOk Tryz.prog 168 s168 := fn_okS (C := c168) (hs := h168) (ps := P168) (rs := R168) (specs := [(189, s189), (190, s190)]) (dyns := []) (codes := []) rfl hm hT ⟨k189, k190, trivial⟩ trivial (by kernel_rfl) Tryz.func168 (by kernel_rfl)
theorem k204 : FnOk Tryz.prog 204 s204 := fn_okS (C := c204) (hs := h204) (ps := P204) (rs := R204) (specs := []) (dyns := []) (codes := []) rfl hm hT trivial trivial (by kernel_rfl) Tryz.func204 (by kernel_rfl)
theorem k191 : FnOk Tryz.prog 191 s191 := fn_okS (C := c191) (hs := h191) (ps := P191) (rs := R191) (specs := [(204, s204)]) (dyns := []) (codes := []) rfl hm hT ⟨k204, trivial⟩ trivial (by kernel_rfl) Tryz.func191 (by kernel_rfl)
theorem k169 : FnOk Tryz.prog 169 s169 := fn_okS (C := c169) (hs := h169) (ps := P169) (rs := R169) (specs := [(191, s191)]) (dyns := []) (codes := []) rfl hm hT ⟨k191, trivial⟩ trivial (by kernel_rfl) Tryz.func169 (by kernel_rfl)
theorem k89 : FnOk Tryz.prog 89 s89 := fn_okS (C := c89) (hs := h89) (ps := P89) (rs := R89) (specs := []) (dyns := []) (codes := []) rfl hm hT trivial trivial (by kernel_rfl) Tryz.func89 (by kernel_rfl)
theorem k170 : FnOk Tryz.prog 170 s170 := fn_okS (C := c170) (hs := h170) (ps := P170) (rs := R170) (specs := [(89, s89), (191, s191)]) (dyns := []) (codes := []) rfl hm hT ⟨k89, k191, trivial⟩ trivial (by kernel_rfl) Tryz.func170 (by kernel_rfl)
theorem k125 : FnOk Tryz.prog 125 s125 := fn_okS (C := c125) (hs := h125) (ps := P125) (rs := R125) (specs := [(168, s168), (169, s169), (170, s170)]) (dyns := []) (codes := []) rfl hm hT ⟨k168, k169, k170, trivial⟩ trivial (by kernel_rfl) Tryz.func125 (by kernel_rfl)
theorem k90 : FnOk Tryz.prog 90 s90 := fn_okS (C := c90) (hs := h90) (ps := P90) (rs := R90) (specs := [(54, s54), (125, s125)]) (dyns := []) (codes := []) rfl hm hT ⟨k54, k125, trivial⟩ trivial (by kernel_rfl) Tryz.func90 (by kernel_rfl)
theorem k56 : FnOk Tryz.prog 56 s56 := fn_okS (C := c56) (hs := h56) (ps := P56) (rs := R56) (specs := [(90, s90)]) (dyns := []) (codes := []) rfl hm hT ⟨k90, trivial⟩ trivial (by kernel_rfl) Tryz.func56 (by kernel_rfl)
theorem k128 : FnOk Tryz.prog 128 s128 := fn_okS (C := c128) (hs := h128) (ps := P128) (rs := R128) (specs := []) (dyns := []) (codes := []) rfl hm hT trivial trivial (by kernel_rfl) Tryz.func128 (by kernel_rfl)
theorem k130 : FnOk Tryz.prog 130 s130 := fn_okS (C := c130) (hs := h130) (ps := P130) (rs := R130) (specs := [(54, s54)]) (dyns := []) (codes := []) rfl hm hT ⟨k54, trivial⟩ trivial (by kernel_rfl) Tryz.func130 (by kernel_rfl)
theorem k129 : FnOk Tryz.prog 129 s129 := fn_okS (C := c129) (hs := h129) (ps := P129) (rs := R129) (specs := [(125, s125), (130, s130)]) (dyns := []) (codes := []) rfl hm hT ⟨k125, k130, trivial⟩ trivial (by kernel_rfl) Tryz.func129 (by kernel_rfl)
theorem k96 : FnOk Tryz.prog 96 s96 := fn_okS (C := c96) (hs := h96) (ps := P96) (rs := R96) (specs := [(90, s90), (128, s128), (129, s129)]) (dyns := []) (codes := []) rfl hm hT ⟨k90, k128, k129, trivial⟩ trivial (by kernel_rfl) Tryz.func96 (by kernel_rfl)
theorem k87 : FnOk Tryz.prog 87 s87 := fn_okS (C := c87) (hs := h87) (ps := P87) (rs := R87) (specs := [(96, s96)]) (dyns := []) (codes := []) rfl hm hT ⟨k96, trivial⟩ trivial (by kernel_rfl) Tryz.func87 (by kernel_rfl)
theorem k85 : FnOk Tryz.prog 85 s85 := fn_okS (C := c85) (hs := h85) (ps := P85) (rs := R85) (specs := [(56, s56), (87, s87)]) (dyns := []) (codes := []) rfl hm hT ⟨k56, k87, trivial⟩ trivial (by kernel_rfl) Tryz.func85 (by kernel_rfl)
theorem k86 : FnOk Tryz.prog 86 s86 := fn_okS (C := c86) (hs := h86) (ps := P86) (rs := R86) (specs := [(96, s96)]) (dyns := []) (codes := []) rfl hm hT ⟨k96, trivial⟩ trivial (by kernel_rfl) Tryz.func86 (by kernel_rfl)
theorem k46 : FnOk Tryz.prog 46 s46 := fn_ok hm hT (specs := [(55, s55), (83, s83), (84, s84), (85, s85), (86, s86), (87, s87)]) (dyns := [32]) (codes := []) ⟨k55, k83, k84, k85, k86, k87, trivial⟩ trivial (by kernel_rfl) Tryz.func46 (by kernel_rfl) (fun x r h => by obtain ⟨hs, _, e⟩ := List.mem_map.1 (orAll_mem h); exact ⟨_, e⟩)
theorem k47 : FnOk Tryz.prog 47 s47 := fn_okS (C := c47) (hs := h47) (ps := P47) (rs := R47) (specs := [(88, s88), (89, s89)]) (dyns := []) (codes := []) rfl hm hT ⟨k88, k89, trivial⟩ trivial (by kernel_rfl) Tryz.func47 (by kernel_rfl)
theorem k48 : FnOk Tryz.prog 48 s48 := fn_okS (C := c48) (hs := h48) (ps := P48) (rs := R48) (specs := [(55, s55), (56, s56), (87, s87)]) (dyns := []) (codes := []) rfl hm hT ⟨k55, k56, k87, trivial⟩ trivial (by kernel_rfl) Tryz.func48 (by kernel_rfl)
theorem k49 : FnOk Tryz.prog 49 s49 := fn_okS (C := c49) (hs := h49) (ps := P49) (rs := R49) (specs := [(90, s90)]) (dyns := []) (codes := []) rfl hm hT ⟨k90, trivial⟩ trivial (by kernel_rfl) Tryz.func49 (by kernel_rfl)
theorem k50 : FnOk Tryz.prog 50 s50 := ⟨(fnB_ok Tryz.func50 (by kernel_rfl)).1, fun _ _ _ _ _ _ _ _ _ _ h => none_some h⟩
theorem k19 : FnOk Tryz.prog 19 s19 := fn_okS (C := c19) (hs := h19) (ps := P19) (rs := R19) (specs := [(23, s23), (45, s45), (46, s46), (47, s47), (48, s48), (49, s49), (50, s50), (91, s91)]) (dyns := []) (codes := [(50, Tryz.f50)]) rfl hm hT ⟨k23, k45, k46, k47, k48, k49, k50, k91, trivial⟩ ⟨Tryz.func50, trivial⟩ (by kernel_rfl) Tryz.func19 (by kernel_rfl)
theorem k21 : FnOk Tryz.prog 21 s21 := fn_okS (C := c21) (hs := h21) (ps := P21) (rs := R21) (specs := []) (dyns := []) (codes := []) rfl hm hT trivial trivial (by kernel_rfl) Tryz.func21 (by kernel_rfl)
theorem k126 : FnOk Tryz.prog 126 s126 := fn_okS (C := c126) (hs := h126) (ps := P126) (rs := R126) (specs := []) (dyns := []) (codes := []) rfl hm hT trivial trivial (by kernel_rfl) Tryz.func126 (by kernel_rfl)
theorem k92 : FnOk Tryz.prog 92 s92 := fn_okS (C := c92) (hs := h92) (ps := P92) (rs := R92) (specs := [(126, s126)]) (dyns := []) (codes := []) rfl hm hT ⟨k126, trivial⟩ trivial (by kernel_rfl) Tryz.func92 (by kernel_rfl)
theorem k51 : FnOk Tryz.prog 51 s51 := fn_okS (C := c51) (hs := h51) (ps := P51) (rs := R51) (specs := [(92, s92)]) (dyns := []) (codes := []) rfl hm hT ⟨k92, trivial⟩ trivial (by kernel_rfl) Tryz.func51 (by kernel_rfl)
theorem k93 : FnOk Tryz.prog 93 s93 := fn_okS (C := c93) (hs := h93) (ps := P93) (rs := R93) (specs := []) (dyns := []) (codes := []) rfl hm hT trivial trivial (by kernel_rfl) Tryz.func93 (by kernel_rfl)
theorem k52 : FnOk Tryz.prog 52 s52 := fn_okS (C := c52) (hs := h52) (ps := P52) (rs := R52) (specs := [(93, s93)]) (dyns := []) (codes := []) rfl hm hT ⟨k93, trivial⟩ trivial (by kernel_rfl) Tryz.func52 (by kernel_rfl)
theorem k94 : FnOk Tryz.prog 94 s94 := fn_okS (C := c94) (hs := h94) (ps := P94) (rs := R94) (specs := []) (dyns := []) (codes := []) rfl hm hT trivial trivial (by kernel_rfl) Tryz.func94 (by kernel_rfl)
theorem k53 : FnOk Tryz.prog 53 s53 := fn_okS (C := c53) (hs := h53) (ps := P53) (rs := R53) (specs := [(94, s94)]) (dyns := []) (codes := []) rfl hm hT ⟨k94, trivial⟩ trivial (by kernel_rfl) Tryz.func53 (by kernel_rfl)
theorem k20 : FnOk Tryz.prog 20 s20 := fn_okS (C := c20) (hs := h20) (ps := P20) (rs := R20) (specs := [(21, s21), (47, s47), (51, s51), (52, s52), (53, s53)]) (dyns := []) (codes := []) rfl hm hT ⟨k21, k47, k51, k52, k53, trivial⟩ trivial (by kernel_rfl) Tryz.func20 (by kernel_rfl)
theorem k97 : FnOk Tryz.prog 97 s97 := fn_okS (C := c97) (hs := h97) (ps := P97) (rs := R97) (specs := [(130, s130)]) (dyns := []) (codes := []) rfl hm hT ⟨k130, trivial⟩ trivial (by kernel_rfl) Tryz.func97 (by kernel_rfl)
theorem k57 : FnOk Tryz.prog 57 s57 := fn_okS (C := c57) (hs := h57) (ps := P57) (rs := R57) (specs := [(96, s96), (97, s97)]) (dyns := []) (codes := []) rfl hm hT ⟨k96, k97, trivial⟩ trivial (by kernel_rfl) Tryz.func57 (by kernel_rfl)
theorem k58 : FnOk Tryz.prog 58 s58 := fn_okS (C := c58) (hs := h58) (ps := P58) (rs := R58) (specs := [(55, s55), (56, s56)]) (dyns := []) (codes := []) rfl hm hT ⟨k55, k56, trivial⟩ trivial (by kernel_rfl) Tryz.func58 (by kernel_rfl)
theorem k22 : FnOk Tryz.prog 22 s22 := fn_okS (C := c22) (hs := h22) (ps := P22) (rs := R22) (specs := [(21, s21), (47, s47), (48, s48), (49, s49), (54, s54), (55, s55), (56, s56), (57, s57), (58, s58)]) (dyns := []) (codes := []) rfl hm hT ⟨k21, k47, k48, k49, k54, k55, k56, k57, k58, trivial⟩ trivial (by kernel_rfl) Tryz.func22 (by kernel_rfl)
theorem k9 : FnOk Tryz.prog 9 s9 := fn_okS (C := c9) (hs := h9) (ps := P9) (rs := R9) (specs := [(19, s19), (20, s20), (21, s21), (22, s22), (23, s23)]) (dyns := []) (codes := []) rfl hm hT ⟨k19, k20, k21, k22, k23, trivial⟩ trivial (by kernel_rfl) Tryz.func9 (by kernel_rfl)
theorem k62 : FnOk Tryz.prog 62 s62 := fn_okS (C := c62) (hs := h62) (ps := P62) (rs := R62) (specs := []) (dyns := []) (codes := []) rfl hm hT trivial trivial (by kernel_rfl) Tryz.func62 (by kernel_rfl)
theorem k24 : FnOk Tryz.prog 24 s24 := fn_okS (C := c24) (hs := h24) (ps := P24) (rs := R24) (specs := [(62, s62)]) (dyns := []) (codes := []) rfl hm hT ⟨k62, trivial⟩ trivial (by kernel_rfl) Tryz.func24 (by kernel_rfl)
theorem k25 : FnOk Tryz.prog 25 s25 := fn_okS (C := c25) (hs := h25) (ps := P25) (rs := R25) (specs := []) (dyns := []) (codes := []) rfl hm hT trivial trivial (by kernel_rfl) Tryz.func25 (by kernel_rfl)
theorem k26 : FnOk Tryz.prog 26 s26 := fn_okS (C := c26) (hs := h26) (ps := P26) (rs := R26) (specs := []) (dyns := []) (codes := []) rfl hm hT trivial trivial (by kernel_rfl) Tryz.func26 (by kernel_rfl)
theorem k10 : FnOk Tryz.prog 10 s10 := fn_okS (C := c10) (hs := h10) (ps := P10) (rs := R10) (specs := [(24, s24), (25, s25), (26, s26)]) (dyns := []) (codes := []) rfl hm hT ⟨k24, k25, k26, trivial⟩ trivial (by kernel_rfl) Tryz.func10 (by kernel_rfl)
theorem k65 : FnOk Tryz.prog 65 s65 := fn_okS (C := c65) (hs := h65) (ps := P65) (rs := R65) (specs := []) (dyns := []) (codes := []) rfl hm hT trivial trivial (by kernel_rfl) Tryz.func65 (by kernel_rfl)
theorem k69 : FnOk Tryz.prog 69 s69 := fn_okS (C := c69) (hs := h69) (ps := P69) (rs := R69) (specs := [(82, s82)]) (dyns := []) (codes := []) rfl hm hT ⟨k82, trivial⟩ trivial (by kernel_rfl) Tryz.func69 (by kernel_rfl)
theorem k32 : FnOk Tryz.prog 32 s32 := fn_okS (C := c32) (hs := h32) (ps := P32) (rs := R32) (specs := [(38, s38), (65, s65), (66, s66), (67, s67), (68, s68), (69, s69)]) (dyns := []) (codes := []) rfl hm hT ⟨k38, k65, k66, k67, k68, k69, trivial⟩ trivial (by kernel_rfl) Tryz.func32 (by kernel_rfl)
theorem k11 : FnOk Tryz.prog 11 s11 := fn_okS (C := c11) (hs := h11) (ps := P11) (rs := R11) (specs := [(18, s18), (27, s27), (28, s28), (29, s29), (30, s30), (31, s31), (32, s32), (33, s33)]) (dyns := []) (codes := []) rfl hm hT ⟨k18, k27, k28, k29, k30, k31, k32, k33, trivial⟩ trivial (by kernel_rfl) Tryz.func11 (by kernel_rfl)
theorem k12 : FnOk Tryz.prog 12 s12 := fn_okS (C := c12) (hs := h12) (ps := P12) (rs := R12) (specs := [(17, s17)]) (dyns := []) (codes := []) rfl hm hT ⟨k17, trivial⟩ trivial (by kernel_rfl) Tryz.func12 (by kernel_rfl)
theorem k13 : FnOk Tryz.prog 13 s13 := fn_okS (C := c13) (hs := h13) (ps := P13) (rs := R13) (specs := []) (dyns := []) (codes := []) rfl hm hT trivial trivial (by kernel_rfl) Tryz.func13 (by kernel_rfl)
theorem k105 : FnOk Tryz.prog 105 s105 := fn_okS (C := c105) (hs := h105) (ps := P105) (rs := R105) (specs := []) (dyns := []) (codes := []) rfl hm hT trivial trivial (by kernel_rfl) Tryz.func105 (by kernel_rfl)
theorem k71 : FnOk Tryz.prog 71 s71 := fn_okS (C := c71) (hs := h71) (ps := P71) (rs := R71) (specs := [(105, s105)]) (dyns := []) (codes := []) rfl hm hT ⟨k105, trivial⟩ trivial (by kernel_rfl) Tryz.func71 (by kernel_rfl)
theorem k106 : FnOk Tryz.prog 106 s106 := fn_okS (C := c106) (hs := h106) (ps := P106) (rs := R106) (specs := []) (dyns := []) (codes := []) rfl hm hT trivial trivial (by kernel_rfl) Tryz.func106 (by kernel_rfl)
theorem k131 : FnOk Tryz.prog 131 s131 := fn_okS (C := c131) (hs := h131) (ps := P131) (rs := R131) (specs := []) (dyns := []) (codes := []) rfl hm hT trivial trivial (by kernel_rfl) Tryz.func131 (by kernel_rfl)
theorem k132 : FnOk Tryz.prog 132 s132 := fn_okS (C := c132) (hs := h132) (ps := P132) (rs := R132) (specs := []) (dyns := []) (codes := []) rfl hm hT trivial trivial (by kernel_rfl) Tryz.func132 (by kernel_rfl)
theorem k193 : FnOk Tryz.prog 193 s193 := fn_okS (C := c193) (hs := h193) (ps := P193) (rs := R193) (specs := []) (dyns := []) (codes := []) rfl hm hT trivial trivial (by kernel_rfl) Tryz.func193 (by kernel_rfl)
theorem k135 : FnOk Tryz.prog 135 s135 := ⟨(fnB_ok Tryz.func135 (by kernel_rfl)).1, fun _ _ _ _ _ _ _ _ _ _ h => none_some h⟩
theorem k172 : FnOk Tryz.prog 172 s172 := fn_okS (C := c172) (hs := h172) (ps := P172) (rs := R172) (specs := [(193, s193)]) (dyns := []) (codes := []) rfl hm hT ⟨k193, trivial⟩ trivial (by kernel_rfl) Tryz.func172 (by kernel_rfl)
theorem k173 : FnOk Tryz.prog 173 s173 := fn_okS (C := c173) (hs := h173) (ps := P173) (rs := R173) (specs := [(92, s92), (93, s93)]) (dyns := []) (codes := []) rfl hm hT ⟨k92, k93, trivial⟩ trivial (by kernel_rfl) Tryz.func173 (by kernel_rfl)
theorem k133 : FnOk Tryz.prog 133 s133 := ⟨(fnB_ok Tryz.func133 (by kernel_rfl)).1, fun _ _ _ _ _ _ _ _ _ _ h => none_some h⟩
theorem k134 : FnOk Tryz.prog 134 s134 := fn_okS (C := c134) (hs := h134) (ps := P134) (rs := R134) (specs := []) (dyns := []) (codes := []) rfl hm hT trivial trivial (by kernel_rfl) Tryz.func134 (by kernel_rfl)
theorem k107 : FnOk Tryz.prog 107 s107 := fn_okS (C := c107) (hs := h107) (ps := P107) (rs := R107) (specs := [(131, s131), (132, s132), (133, s133), (134, s134), (135, s135), (172, s172), (173, s173)]) (dyns := [184]) (codes := [(133, Tryz.f133)]) rfl hm hT ⟨k131, k132, k133, k134, k135, k172, k173, trivial⟩ ⟨Tryz.func133, trivial⟩ (by kernel_rfl) Tryz.func107 (by kernel_rfl)
theorem k108 : FnOk Tryz.prog 108 s108 := fn_okS (C := c108) (hs := h108) (ps := P108) (rs := R108) (specs := []) (dyns := []) (codes := []) rfl hm hT trivial trivial (by kernel_rfl) Tryz.func108 (by kernel_rfl)
theorem k72 : FnOk Tryz.prog 72 s72 := fn_okS (C := c72) (hs := h72) (ps := P72) (rs := R72) (specs := [(106, s106), (107, s107), (108, s108)]) (dyns := []) (codes := []) rfl hm hT ⟨k106, k107, k108, trivial⟩ trivial (by kernel_rfl) Tryz.func72 (by kernel_rfl)
theorem k34 : FnOk Tryz.prog 34 s34 := fn_okS (C := c34) (hs := h34) (ps := P34) (rs := R34) (specs := [(71, s71), (72, s72)]) (dyns := [110]) (codes := []) rfl hm hT ⟨k71, k72, trivial⟩ trivial (by kernel_rfl) Tryz.func34 (by kernel_rfl)
theorem k73 : FnOk Tryz.prog 73 s73 := fn_okS (C := c73) (hs := h73) (ps := P73) (rs := R73) (specs := []) (dyns := []) (codes := []) rfl hm hT trivial trivial (by kernel_rfl) Tryz.func73 (by kernel_rfl)
theorem k136 : FnOk Tryz.prog 136 s136 := fn_okS (C := c136) (hs := h136) (ps := P136) (rs := R136) (specs := []) (dyns := []) (codes := []) rfl hm hT trivial trivial (by kernel_rfl) Tryz.func136 (by kernel_rfl)
theorem k137 : FnOk Tryz.prog 137 s137 := fn_okS (C := c137) (hs := h137) (ps := P137) (rs := R137) (specs := [(136, s136)]) (dyns := []) (codes := []) rfl hm hT ⟨k136, trivial⟩ trivial (by kernel_rfl) Tryz.func137 (by kernel_rfl)
theorem k176 : FnOk Tryz.prog 176 s176 := fn_okS (C := c176) (hs := h176) (ps := P176) (rs := R176) (specs := [(90, s90)]) (dyns := []) (codes := []) rfl hm hT ⟨k90, trivial⟩ trivial (by kernel_rfl) Tryz.func176 (by kernel_rfl)
theorem k139 : FnOk Tryz.prog 139 s139 := fn_okS (C := c139) (hs := h139) (ps := P139) (rs := R139) (specs := [(176, s176)]) (dyns := []) (codes := []) rfl hm hT ⟨k176, trivial⟩ trivial (by kernel_rfl) Tryz.func139 (by kernel_rfl)
theorem k175 : FnOk Tryz.prog 175 s175 := fn_okS (C := c175) (hs := h175) (ps := P175) (rs := R175) (specs := [(136, s136)]) (dyns := []) (codes := []) rfl hm hT ⟨k136, trivial⟩ trivial (by kernel_rfl) Tryz.func175 (by kernel_rfl)
theorem k138 : FnOk Tryz.prog 138 s138 := fn_okS (C := c138) (hs := h138) (ps := P138) (rs := R138) (specs := [(137, s137), (139, s139), (175, s175)]) (dyns := []) (codes := []) rfl hm hT ⟨k137, k139, k175, trivial⟩ trivial (by kernel_rfl) Tryz.func138 (by kernel_rfl)
theorem k109 : FnOk Tryz.prog 109 s109 := fn_okS (C := c109) (hs := h109) (ps := P109) (rs := R109) (specs := [(136, s136), (137, s137), (138, s138), (139, s139)]) (dyns := []) (codes := []) rfl hm hT ⟨k136, k137, k138, k139, trivial⟩ trivial (by kernel_rfl) Tryz.func109 (by kernel_rfl)
theorem k74 : FnOk Tryz.prog 74 s74 := fn_okS (C := c74) (hs := h74) (ps := P74) (rs := R74) (specs := [(109, s109)]) (dyns := []) (codes := []) rfl hm hT ⟨k109, trivial⟩ trivial (by kernel_rfl) Tryz.func74 (by kernel_rfl)
theorem k140 : FnOk Tryz.prog 140 s140 := fn_okS (C := c140) (hs := h140) (ps := P140) (rs := R140) (specs := []) (dyns := []) (codes := []) rfl hm hT trivial trivial (by kernel_rfl) Tryz.func140 (by kernel_rfl)
theorem k110 : FnOk Tryz.prog 110 s110 := fn_okS (C := c110) (hs := h110) (ps := P110) (rs := R110) (specs := [(140, s140)]) (dyns := []) (codes := []) rfl hm hT ⟨k140, trivial⟩ trivial (by kernel_rfl) Tryz.func110 (by kernel_rfl)
theorem k141 : FnOk Tryz.prog 141 s141 := fn_okS (C := c141) (hs := h141) (ps := P141) (rs := R141) (specs := []) (dyns := []) (codes := []) rfl hm hT trivial trivial (by kernel_rfl) Tryz.func141 (by kernel_rfl)
theorem k142 : FnOk Tryz.prog 142 s142 := fn_okS (C := c142) (hs := h142) (ps := P142) (rs := R142) (specs := []) (dyns := []) (codes := []) rfl hm hT trivial trivial (by kernel_rfl) Tryz.func142 (by kernel_rfl)
theorem k143 : FnOk Tryz.prog 143 s143 := fn_okS (C := c143) (hs := h143) (ps := P143) (rs := R143) (specs := []) (dyns := []) (codes := []) rfl hm hT trivial trivial (by kernel_rfl) Tryz.func143 (by kernel_rfl)
theorem k111 : FnOk Tryz.prog 111 s111 := fn_okS (C := c111) (hs := h111) (ps := P111) (rs := R111) (specs := [(141, s141), (142, s142), (143, s143)]) (dyns := []) (codes := []) rfl hm hT ⟨k141, k142, k143, trivial⟩ trivial (by kernel_rfl) Tryz.func111 (by kernel_rfl)
theorem k75 : FnOk Tryz.prog 75 s75 := fn_okS (C := c75) (hs := h75) (ps := P75) (rs := R75) (specs := [(110, s110), (111, s111)]) (dyns := []) (codes := []) rfl hm hT ⟨k110, k111, trivial⟩ trivial (by kernel_rfl) Tryz.func75 (by kernel_rfl)
theorem k76 : FnOk Tryz.prog 76 s76 := fn_okS (C := c76) (hs := h76) (ps := P76) (rs := R76) (specs := [(110, s110)]) (dyns := []) (codes := []) rfl hm hT ⟨k110, trivial⟩ trivial (by kernel_rfl) Tryz.func76 (by kernel_rfl)
theorem k194 : FnOk Tryz.prog 194 s194 := fn_okS (C := c194) (hs := h194) (ps := P194) (rs := R194) (specs := []) (dyns := []) (codes := []) rfl hm hT trivial trivial (by kernel_rfl) Tryz.func194 (by kernel_rfl)
theorem k195 : FnOk Tryz.prog 195 s195 := fn_okS (C := c195) (hs := h195) (ps := P195) (rs := R195) (specs := []) (dyns := []) (codes := []) rfl hm hT trivial trivial (by kernel_rfl) Tryz.func195 (by kernel_rfl)
theorem k177 : FnOk Tryz.prog 177 s177 := fn_okS (C := c177) (hs := h177) (ps := P177) (rs := R177) (specs := [(194, s194), (195, s195)]) (dyns := []) (codes := []) rfl hm hT ⟨k194, k195, trivial⟩ trivial (by kernel_rfl) Tryz.func177 (by kernel_rfl)
theorem k178 : FnOk Tryz.prog 178 s178 := fn_okS (C := c178) (hs := h178) (ps := P178) (rs := R178) (specs := []) (dyns := []) (codes := []) rfl hm hT trivial trivial (by kernel_rfl) Tryz.func178 (by kernel_rfl)
theorem k212 : FnOk Tryz.prog 212 s212 := fn_okS (C := c212) (hs := h212) (ps := P212) (rs := R212) (specs := []) (dyns := []) (codes := []) rfl hm hT trivial trivial (by kernel_rfl) Tryz.func212 (by kernel_rfl)
theorem k213 : FnOk Tryz.prog 213 s213 := fn_okS (C := c213) (hs := h213) (ps := P213) (rs := R213) (specs := [(134, s134)]) (dyns := []) (codes := []) rfl hm hT ⟨k134, trivial⟩ trivial (by kernel_rfl) Tryz.func213 (by kernel_rfl)
theorem k209 : FnOk Tryz.prog 209 s209 := fn_okS (C := c209) (hs := h209) (ps := P209) (rs := R209) (specs := [(212, s212), (213, s213)]) (dyns := []) (codes := []) rfl hm hT ⟨k212, k213, trivial⟩ trivial (by kernel_rfl) Tryz.func209 (by kernel_rfl)
theorem k196 : FnOk Tryz.prog 196 s196 := fn_okS (C := c196) (hs := h196) (ps := P196) (rs := R196) (specs := [(209, s209)]) (dyns := []) (codes := []) rfl hm hT ⟨k209, trivial⟩ trivial (by kernel_rfl) Tryz.func196 (by kernel_rfl)
theorem k144 : FnOk Tryz.prog 144 s144 := fn_okS (C := c144) (hs := h144) (ps := P144) (rs := R144) (specs := [(177, s177), (178, s178), (179, s179), (196, s196)]) (dyns := []) (codes := []) rfl hm hT ⟨k177, k178, k179, k196, trivial⟩ trivial (by kernel_rfl) Tryz.func144 (by kernel_rfl)
theorem k112 : FnOk Tryz.prog 112 s112 := fn_okS (C := c112) (hs := h112) (ps := P112) (rs := R112) (specs := [(144, s144)]) (dyns := []) (codes := []) rfl hm hT ⟨k144, trivial⟩ trivial (by kernel_rfl) Tryz.func112 (by kernel_rfl)
theorem k180 : FnOk Tryz.prog 180 s180 := fn_okS (C := c180) (hs := h180) (ps := P180) (rs := R180) (specs := [(92, s92)]) (dyns := []) (codes := []) rfl hm hT ⟨k92, trivial⟩ trivial (by kernel_rfl) Tryz.func180 (by kernel_rfl)
theorem k181 : FnOk Tryz.prog 181 s181 := fn_okS (C := c181) (hs := h181) (ps := P181) (rs := R181) (specs := []) (dyns := []) (codes := []) rfl hm hT trivial trivial (by kernel_rfl) Tryz.func181 (by kernel_rfl)
theorem k145 : FnOk Tryz.prog 145 s145 := fn_okS (C := c145) (hs := h145) (ps := P145) (rs := R145) (specs := [(51, s51), (180, s180), (181, s181)]) (dyns := []) (codes := []) rfl hm hT ⟨k51, k180, k181, trivial⟩ trivial (by kernel_rfl) Tryz.func145 (by kernel_rfl)
theorem k113 : FnOk Tryz.prog 113 s113 := fn_okS (C := c113) (hs := h113) (ps := P113) (rs := R113) (specs := [(145, s145)]) (dyns := []) (codes := []) rfl hm hT ⟨k145, trivial⟩ trivial (by kernel_rfl) Tryz.func113 (by kernel_rfl)
theorem k182 : FnOk Tryz.prog 182 s182 := fn_okS (C := c182) (hs := h182) (ps := P182) (rs := R182) (specs := [(94, s94)]) (dyns := []) (codes := []) rfl hm hT ⟨k94, trivial⟩ trivial (by kernel_rfl) Tryz.func182 (by kernel_rfl)
theorem k202 : FnOk Tryz.prog 202 s202 := fn_okS (C := c202) (hs := h202) (ps := P202) (rs := R202) (specs := []) (dyns := []) (codes := []) rfl hm hT trivial trivial (by kernel_rfl) Tryz.func202 (by kernel_rfl)
theorem k183 : FnOk Tryz.prog 183 s183 := fn_okS (C := c183) (hs := h183) (ps := P183) (rs := R183) (specs := [(83, s83), (202, s202)]) (dyns := []) (codes := []) rfl hm hT ⟨k83, k202, trivial⟩ trivial (by kernel_rfl) Tryz.func183 (by kernel_rfl)
theorem k244 : FnOk Tryz.prog 244 s244 := fn_okS (C := c244) (hs := h244) (ps := P244) (rs := R244) (specs := [(128, s128)]) (dyns := []) (codes := []) rfl hm hT ⟨k128, trivial⟩ trivial (by kernel_rfl) Tryz.func244 (by kernel_rfl)
theorem k224 : FnOk Tryz.prog 224 s224 := fn_okS (C := c224) (hs := h224) (ps := P224) (rs := R224) (specs := [(129, s129), (244, s244)]) (dyns := []) (codes := []) rfl hm hT ⟨k129, k244, trivial⟩ trivial (by kernel_rfl) Tryz.func224 (by kernel_rfl)
theorem k203 : FnOk Tryz.prog 203 s203 := fn_okS (C := c203) (hs := h203) (ps := P203) (rs := R203) (specs := [(224, s224)]) (dyns := []) (codes := []) rfl hm hT ⟨k224, trivial⟩ trivial (by kernel_rfl) Tryz.func203 (by kernel_rfl)
theorem k184 : FnOk Tryz.prog 184 s184 := fn_okS (C := c184) (hs := h184) (ps := P184) (rs := R184) (specs := [(203, s203)]) (dyns := []) (codes := []) rfl hm hT ⟨k203, trivial⟩ trivial (by kernel_rfl) Tryz.func184 (by kernel_rfl)
theorem k146 : FnOk Tryz.prog 146 s146 := fn_okS (C := c146) (hs := h146) (ps := P146) (rs := R146) (specs := [(20, s20), (49, s49), (85, s85), (182, s182), (183, s183), (184, s184)]) (dyns := []) (codes := []) rfl hm hT ⟨k20, k49, k85, k182, k183, k184, trivial⟩ trivial (by kernel_rfl) Tryz.func146 (by kernel_rfl)
theorem k114 : FnOk Tryz.prog 114 s114 := fn_okS (C := c114) (hs := h114) (ps := P114) (rs := R114) (specs := [(146, s146)]) (dyns := []) (codes := []) rfl hm hT ⟨k146, trivial⟩ trivial (by kernel_rfl) Tryz.func114 (by kernel_rfl)
theorem k77 : FnOk Tryz.prog 77 s77 := fn_okS (C := c77) (hs := h77) (ps := P77) (rs := R77) (specs := [(112, s112), (113, s113), (114, s114)]) (dyns := []) (codes := []) rfl hm hT ⟨k112, k113, k114, trivial⟩ trivial (by kernel_rfl) Tryz.func77 (by kernel_rfl)
theorem k35 : FnOk Tryz.prog 35 s35 := fn_okS (C := c35) (hs := h35) (ps := P35) (rs := R35) (specs := [(73, s73), (74, s74), (75, s75), (76, s76), (77, s77)]) (dyns := []) (codes := []) rfl hm hT ⟨k73, k74, k75, k76, k77, trivial⟩ trivial (by kernel_rfl) Tryz.func35 (by kernel_rfl)
theorem k14 : FnOk Tryz.prog 14 s14 := fn_okS (C := c14) (hs := h14) (ps := P14) (rs := R14) (specs := [(34, s34), (35, s35)]) (dyns := []) (codes := []) rfl hm hT ⟨k34, k35, trivial⟩ trivial (by kernel_rfl) Tryz.func14 (by kernel_rfl)
theorem k3 : FnOk Tryz.prog 3 s3 := fn_okS (C := c3) (hs := h3) (ps := P3) (rs := R3) (specs := [(4, s4), (5, s5), (6, s6), (7, s7), (8, s8), (9, s9), (10, s10), (11, s11), (12, s12), (13, s13), (14, s14)]) (dyns := []) (codes := []) rfl hm hT ⟨k4, k5, k6, k7, k8, k9, k10, k11, k12, k13, k14, trivial⟩ trivial (by kernel_rfl) Tryz.func3 (by kernel_rfl)
end Sx
end
