-- Written by xprint.py, a program of this session, for this seat; Lean checks it.
import Derived.Test.YtnmhefdjakjngaaGreatDoorVM
import Derived.Test.YtnmhefdjakjngaaGreatDoorPFnMirrorsFacex0
import Derived.Test.YtnmhefdjakjngaaGreatDoorPFnMirrorsFacex1
import Derived.Test.YtnmhefdjakjngaaGreatDoorPFnMirrorsFacex2
import Derived.Test.YtnmhefdjakjngaaGreatDoorPFnMirrorsFacex3
import Derived.Test.YtnmhefdjakjngaaGreatDoorPFnMirrorsFacex7
import Derived.Test.YtnmhefdjakjngaaGreatDoorPFnMirrorsFacex8
namespace Go.Proofs.YtnmhefdjakjngaaGreatDoor.PFnMirrorsFace
open Go.Proofs.YtnmhefdjakjngaaGreatDoorV Go.RowKit Go.Proofs.YtnmhefdjakjngaaGreatDoorW.PrintWords Go.Proofs.YtnmhefdjakjngaaGreatDoorW.PrintLast Go.Proofs.YtnmhefdjakjngaaGreatDoorW.PrintMore
attribute [local go_sem] max2_int min2_int max_two min_two max_three min_three max_four min_four   -- for this text's walks alone
set_option linter.unusedVariables false
set_option linter.unusedSimpArgs false

/-! ### slices_Sort_int_int: function 59 -/
open Go.Lib Go.Sort in
/-- A row of numbers, one block of the call's own. -/
structure SoRow (W : World) (g cap : Nat) (xs : List Int) : Prop where
  ex : ∃ cur, W.heap[g]? = some (.cells cur 3 (0, 0)) ∧ cur.size = cap ∧ xs.length ≤ cap ∧ cap ≤ maxLen ∧ cur.toList.take xs.length = xs.map (Value.int .i64)
theorem SoRow.cell {W : World} {g cap : Nat} {xs : List Int} (h : SoRow W g cap xs) (j : Nat) (hj : j < xs.length) : W.cell? ⟨g, j, none⟩ = some (.int .i64 (xs[j]!)) ∧ W.frozen? ⟨g, j, none⟩ = false := by
  obtain ⟨cur, h1, h2, h3, h4, h5⟩ := h.ex
  have e : cur[j]? = some (.int .i64 (xs[j]!)) := by
    have a : (cur.toList.take xs.length)[j]? = (xs.map (Value.int .i64))[j]? := by rw [h5]
    rw [List.getElem?_take, if_pos hj, List.getElem?_map, List.getElem?_eq_getElem hj] at a
    rw [← Array.getElem?_toList, a, getElem!_pos xs j hj]
    rfl
  constructor
  · simp [World.cell?, h1, e]
  · simp [World.frozen?, h1]
theorem SoRow.holds {W : World} {g cap : Nat} {xs : List Int} (h : SoRow W g cap xs) : Go.Sort.Holds (Value.int .i64) W g 0 xs.toArray := by
  intro j hj
  have hj' : j < xs.length := by simpa using hj
  have := h.cell j hj'
  rw [Nat.zero_add]
  have e : xs.toArray[j]! = xs[j]! := by simp
  rw [e]
  exact this
theorem so_blk {W : World} {g cap : Nat} {xs : List Int} (h : SoRow W g cap xs) : g < W.heap.size := by
  obtain ⟨cur, h1, _⟩ := h.ex
  rcases Nat.lt_or_ge g W.heap.size with c | c
  · exact c
  · rw [Array.getElem?_eq_none c] at h1; cases h1
/-- The row written anew, as long as before. -/
theorem SoRow.put {W : World} {g cap : Nat} {xs ys : List Int} (h : SoRow W g cap xs) (q : Nat) (hl : ys.length ≤ cap) : SoRow (Go.Sort.putRow (Value.int .i64) (Go.Sort.ahead W q) g 0 ys.toArray) g cap ys := by
  obtain ⟨cur, h1, h2, h3, h4, h5⟩ := h.ex
  refine ⟨Go.Sort.putCells (Value.int .i64) 0 ys.toArray cur, ?_, ?_, hl, h4, ?_⟩
  · unfold Go.Sort.putRow Go.Sort.mapBlock Go.Sort.ahead
    simp only [Array.getElem?_modify, if_true, h1, Option.map_some, Go.Sort.onCells]
  · simp [Go.Sort.putCells, h2]
  · apply List.ext_getElem?
    intro j
    rw [List.getElem?_take, List.getElem?_map]
    by_cases hj : j < ys.length
    · rw [if_pos hj, Array.getElem?_toList]
      simp only [Go.Sort.putCells, Array.getElem?_mapIdx]
      have hc : j < cur.size := by omega
      rw [Array.getElem?_eq_getElem hc, Option.map_some, if_pos ⟨Nat.zero_le _, by simpa using hj⟩, List.getElem?_eq_getElem hj]
      simp [hj]
    · rw [if_neg hj, List.getElem?_eq_none (by omega)]
      rfl
theorem SoRow.pre {W : World} {g cap : Nat} {xs ys : List Int} (h : SoRow W g cap (xs ++ ys)) : SoRow W g cap xs := by
  obtain ⟨cur, h1, h2, h3, h4, h5⟩ := h.ex
  rw [List.length_append] at h3 h5
  refine ⟨cur, h1, h2, by omega, h4, ?_⟩
  have : (cur.toList.take (xs.length + ys.length)).take xs.length = ((xs ++ ys).map (Value.int .i64)).take xs.length := by rw [h5]
  rw [List.take_take, Nat.min_eq_left (by omega), List.map_append, List.take_left' (by rw [List.length_map])] at this
  exact this
theorem SoRow.grow {W : World} {g cap : Nat} {xs : List Int} (h : SoRow W g cap xs) (os : Array Obj) : SoRow (Go.Sort.grow W os) g cap xs := by
  have hb := so_blk h
  obtain ⟨cur, h1, h2⟩ := h.ex
  exact ⟨cur, by rw [Go.Sort.heap_grow_old W os hb]; exact h1, h2⟩
theorem so_below_put {B : Nat} {w W : World} (hb : Below B w W) (q g : Nat) (hg : B ≤ g) (ys : Array Int) : Below B w (Go.Sort.putRow (Value.int .i64) (Go.Sort.ahead W q) g 0 ys) :=
  ⟨hb.os, hb.tape, hb.output, by
    refine Nat.le_trans hb.size ?_
    show W.heap.size ≤ (W.heap.modify g _).size
    rw [Array.size_modify]; exact Nat.le_refl _, fun k hk => by
    show (W.heap.modify g _)[k]? = _
    rw [Array.getElem?_modify, if_neg (by omega)]
    exact hb.block k hk⟩
theorem so_below_grow {B : Nat} {w W : World} (hb : Below B w W) (hB : B ≤ W.heap.size) (os : Array Obj) : Below B w (Go.Sort.grow W os) :=
  ⟨hb.os, hb.tape, hb.output, by
    refine Nat.le_trans hb.size ?_
    show W.heap.size ≤ (W.heap ++ os).size
    rw [Array.size_append]; omega, fun k hk => (Go.Sort.heap_grow_old W os (by omega)).trans (hb.block k hk)⟩
theorem so_put_old {W : World} (q g : Nat) (ys : Array Int) {k : Nat} (hk : k ≠ g) : (Go.Sort.putRow (Value.int .i64) (Go.Sort.ahead W q) g 0 ys).heap[k]? = W.heap[k]? := by
  show (W.heap.modify g _)[k]? = _
  rw [Array.getElem?_modify, if_neg (by omega)]
theorem SoRow.kd {W : World} {g cap : Nat} {xs : List Int} (h : SoRow W g cap xs) {base : Nat} (hb : base ≤ g) : Kd.R (Kd.int .i64) 3 W base (fun _ => True) (.slice (some ⟨g, 0, none⟩) xs.length cap) xs := by
  obtain ⟨cur, h1, h2, h3, h4, h5⟩ := h.ex
  refine Kd.R_of_own (enc := Value.int .i64) (h1 := fun _ => rfl) ⟨?_, .inr ⟨g, cap, cur, rfl, hb, h1, h3, h4, by omega, ?_⟩⟩ (fun _ _ => trivial)
  · unfold encs; rw [List.length_map, Nat.mul_one]
  · rw [Nat.mul_one]; exact h5
theorem SoRow.of_kd {W : World} {base : Nat} {ok : Nat → Prop} {v : Value} {xs : List Int} (h : Kd.R (Kd.int .i64) 3 W base ok v xs) (hne : xs ≠ []) : ∃ g cap, v = .slice (some ⟨g, 0, none⟩) xs.length cap ∧ base ≤ g ∧ SoRow W g cap xs := by
  have ho := Kd.own_of_R (enc := Value.int .i64) (h1 := fun _ => rfl) h
  obtain ⟨h1, h2⟩ := ho
  rcases h2 with ⟨_, h2⟩ | ⟨g, cap, cur, rfl, hb, hg, hn, hc, hs, ht⟩
  · exact absurd (List.eq_nil_of_length_eq_zero h2) hne
  · exact ⟨g, cap, rfl, hb, cur, hg, by omega, hn, hc, by rw [Nat.mul_one] at ht; exact ht⟩
def slices_Sort_int_int.f (l0 : List Int) : Option (List Int) := if l0.length ≤ 1000000 then some (l0.mergeSort fun x y => decide (x ≤ y)) else none
set_option maxHeartbeats 1000000 in
theorem slices_Sort_int_int.calls (P0_ : Nat → Prop) (u9000_ : Value) (l0 : List Int) (r1 : List Int) (w0 w : World) (hB : Below w0.heap.size w0 w) (ho0 : Kd.R (Kd.int .i64) 3 w w0.heap.size P0_ u9000_ l0) (h : slices_Sort_int_int.f l0 = some r1) :
    Calls Tryz.prog 59 #[u9000_] w fun e w' => e = .returned (.tuple #[]) ∧ Kd.R (Kd.int .i64) 3 w' w0.heap.size (fun k_ => (P0_ k_ ∨ w.heap.size ≤ k_)) u9000_ r1 ∧ Below w0.heap.size w0 w' ∧ Kept w w' (fun k_ => P0_ k_) := by
  unfold slices_Sort_int_int.f at h
  by_cases c : l0.length ≤ 1000000
  · rw [if_pos c] at h
    obtain rfl := Option.some.inj h
    have ho := Kd.own_of_R (enc := Value.int .i64) (h1 := fun _ => rfl) ho0
    obtain ⟨h1, h2⟩ := ho
    rcases h2 with ⟨rfl, h2⟩ | ⟨g, cap, cur, rfl, hb, hg, hn, hc, hs, ht⟩
    · obtain rfl := List.eq_nil_of_length_eq_zero h2
      refine (Tryz.slices_Sort_int_none none 0 w).mono ?_
      rintro e w' ⟨rfl, rfl⟩
      exact ⟨rfl, by rw [List.mergeSort_nil]; exact Kd.R_nil _ _ _ _ _, hB, Kept.refl _ _⟩
    · have hrow : SoRow w g cap l0 := ⟨cur, hg, by omega, hn, hc, by rw [Nat.mul_one] at ht; exact ht⟩
      have hP : P0_ g := ho0.1 g rfl
      refine (Tryz.slices_Sort_int g 0 cap l0 w hrow.holds (so_blk hrow) (by omega)).mono ?_
      rintro e w' ⟨rfl, q, os, rfl⟩
      have hl : (l0.mergeSort fun x y => decide (x ≤ y)).length = l0.length := List.length_mergeSort _
      have hput := (hrow.put (ys := l0.mergeSort fun x y => decide (x ≤ y)) q (by omega)).grow os
      have hbp := so_below_put hB q g hb (l0.mergeSort fun x y => decide (x ≤ y)).toArray
      have hsz : (Go.Sort.putRow (Value.int .i64) (Go.Sort.ahead w q) g 0 (l0.mergeSort fun x y => decide (x ≤ y)).toArray).heap.size = w.heap.size := by
        show (w.heap.modify g _).size = _
        rw [Array.size_modify]
      have hgw := so_blk hrow
      refine ⟨rfl, ?_, so_below_grow hbp (by omega) os, ?_, ?_⟩
      · obtain ⟨cur2, k1, k2, k3, k4, k5⟩ := hput.ex
        refine Kd.R_of_own (enc := Value.int .i64) (h1 := fun _ => rfl) ⟨?_, .inr ⟨g, cap, cur2, by rw [hl], hb, k1, k3, k4, by omega, ?_⟩⟩ (fun k hk => ?_)
        · unfold encs; rw [List.length_map, Nat.mul_one]
        · rw [Nat.mul_one]; exact k5
        · have : g = k := by simpa [Value.ownBlock] using hk
          exact .inl (this ▸ hP)
      · show w.heap.size ≤ ((Go.Sort.putRow (Value.int .i64) (Go.Sort.ahead w q) g 0 _).heap ++ os).size
        rw [Array.size_append]; omega
      · intro k hk hne
        rw [Go.Sort.heap_grow_old _ os (by omega)]
        exact so_put_old q g _ (fun e => hne (e ▸ hP))
  · rw [if_neg c] at h
    cases h

/-! ### impl_FarthestOf: function 20 -/
mutual
def impl_FarthestOf.j0 : Nat → Int → Int → Int → Int → Bool → Option (Int × Bool)
  | 0, _, _, _, _, _ => none
  | k + 1, x0, x1, x2, x3, x27 => if x27 = true then (some (0, false)) else ((impl_imagesNear.f x0 x1 x2 (wrap64 ((wrap64 (2 * x0)) * 42))).bind fun t328 => (impl_FarthestOf.l0 k x2 x3 (([] : List Int)) t328 (t328.length : Int) 0))
def impl_FarthestOf.l0 : Nat → Int → Int → List Int → List Int → Int → Int → Option (Int × Bool)
  | 0, _, _, _, _, _, _ => none
  | k + 1, x2, x3, x10, x35, x36, x37 => if x37 < x36 then (if 0 ≤ x37 then (if x37 < (x35.length : Int) then ((impl_distance.f (rd x35 x37) x2).bind fun t332 => (if x10.length < 17592186044416 then (impl_FarthestOf.l0 k x2 x3 (x10 ++ [t332]) x35 x36 (wrap64 (x37 + 1))) else (none))) else (none)) else (none)) else ((slices_Sort_int_int.f x10).bind fun t336 => (if 0 ≤ (wrap64 (x3 - 1)) then (if (wrap64 (x3 - 1)) < (x10.length : Int) then (some (rd t336 (wrap64 (x3 - 1)), true)) else (none)) else (none)))
end
def impl_FarthestOf.f (k : Nat) (a0 : Int) (a1 : Int) (a2 : Int) (a3 : Int) : Option (Int × Bool) := (impl_isCorridor.f a0 a1).bind fun t322 => (if t322 = true then ((impl_isCorridor.f a0 a2).bind fun t323 => (if t323 = true then ((impl_within.f a3 1 40).bind fun t324 => (impl_FarthestOf.j0 k a0 a1 a2 a3 (!t324))) else (impl_FarthestOf.j0 k a0 a1 a2 a3 true))) else (impl_FarthestOf.j0 k a0 a1 a2 a3 true))
theorem impl_FarthestOf.mono_l : ∀ k, (∀ y0 y1 y2 y3 y4, LeO (impl_FarthestOf.j0 k y0 y1 y2 y3 y4) (impl_FarthestOf.j0 (k + 1) y0 y1 y2 y3 y4)) ∧ (∀ y0 y1 y2 y3 y4 y5, LeO (impl_FarthestOf.l0 k y0 y1 y2 y3 y4 y5) (impl_FarthestOf.l0 (k + 1) y0 y1 y2 y3 y4 y5))
  | 0 => ⟨fun _ _ _ _ _ r h => by simp [impl_FarthestOf.j0] at h, fun _ _ _ _ _ _ r h => by simp [impl_FarthestOf.l0] at h⟩
  | k + 1 => by
    obtain ⟨ih0, ih1⟩ := impl_FarthestOf.mono_l k
    refine ⟨?_, ?_⟩
    · intro y0 y1 y2 y3 y4
      unfold impl_FarthestOf.j0
      repeat' first
      | (with_reducible exact ih0 _ _ _ _ _)
      | (with_reducible exact ih1 _ _ _ _ _ _)
      | (with_reducible exact LeO.refl _)
      | (with_reducible exact LeO.none _)
      | (with_reducible refine LeO.ite ?_ ?_)
      | (with_reducible refine LeO.bind ?_ (fun _ => ?_))
      | exact ih0 _ _ _ _ _
      | exact ih1 _ _ _ _ _ _
      | exact LeO.none _
      | refine LeO.ite ?_ ?_
      | refine LeO.bind ?_ (fun _ => ?_)
    · intro y0 y1 y2 y3 y4 y5
      unfold impl_FarthestOf.l0
      repeat' first
      | (with_reducible exact ih0 _ _ _ _ _)
      | (with_reducible exact ih1 _ _ _ _ _ _)
      | (with_reducible exact LeO.refl _)
      | (with_reducible exact LeO.none _)
      | (with_reducible refine LeO.ite ?_ ?_)
      | (with_reducible refine LeO.bind ?_ (fun _ => ?_))
      | exact ih0 _ _ _ _ _
      | exact ih1 _ _ _ _ _ _
      | exact LeO.none _
      | refine LeO.ite ?_ ?_
      | refine LeO.bind ?_ (fun _ => ?_)
theorem impl_FarthestOf.mono : ∀ a0 a1 a2 a3 k, LeO (impl_FarthestOf.f k a0 a1 a2 a3) (impl_FarthestOf.f (k + 1) a0 a1 a2 a3) := by
  intro a0 a1 a2 a3 k
  obtain ⟨ih0, ih1⟩ := impl_FarthestOf.mono_l k
  unfold impl_FarthestOf.f
  repeat' first
      | (with_reducible exact ih0 _ _ _ _ _)
      | (with_reducible exact ih1 _ _ _ _ _ _)
      | (with_reducible exact LeO.refl _)
      | (with_reducible exact LeO.none _)
      | (with_reducible refine LeO.ite ?_ ?_)
      | (with_reducible refine LeO.bind ?_ (fun _ => ?_))
      | exact ih0 _ _ _ _ _
      | exact ih1 _ _ _ _ _ _
      | exact LeO.none _
      | refine LeO.ite ?_ ?_
      | refine LeO.bind ?_ (fun _ => ?_)
set_option maxHeartbeats 8000000 in
set_option maxRecDepth 100000 in
theorem impl_FarthestOf.calls (k : Nat) (a0 : Int) (a1 : Int) (a2 : Int) (a3 : Int) (r1 : Int) (r2 : Bool) (w : World) (h : impl_FarthestOf.f k a0 a1 a2 a3 = some (r1, r2)) :
    Calls Tryz.prog 20 #[.int .i64 a0, .int .i64 a1, .int .i64 a2, .int .i64 a3] w fun e w' => e = .returned (.tuple #[.int .i64 r1, .bool r2]) ∧ Below w.heap.size w w' := by
 have HB := Aside0.mk (Below.refl w.heap.size w)
 have H := h
 unfold impl_FarthestOf.f at H
 clear h
 have d5 := Aside0.mk H
 clear H
 go_enter Tryz.func20, Tryz.ntmps20
 go_upto_region 1 with (fail)
 go_cut [27] (fun g9 wc => ∃ (kq : Nat) (b2 : Bool), g9 = .bool b2 ∧ Aside0 (impl_FarthestOf.j0 kq a0 a1 a2 a3 b2 = some (r1, r2)) ∧ Aside0 (kq ≤ k) ∧ Aside0 (Below w.heap.size w wc))
 case first => (
 have H := d5.out
 clear d5
 obtain ⟨g0, A6, H⟩ := bD H
 try dsimp only at H
 by_cases c7 : g0 = true
 ·(
 subst c7
 rw [if_pos rfl] at H
 obtain ⟨g1, A8, H⟩ := bD H
 try dsimp only at H
 by_cases c9 : g1 = true
 subst c9
 rw [if_pos rfl] at H
 obtain ⟨d6, h0, H⟩ := bD H
 try dsimp only at H
 have H' := Aside0.mk H
 clear H
 rotate_left
 replace c9 := Bool.eq_false_iff.mpr c9
 subst c9
 rw [if_neg nft] at H
 have H' := Aside0.mk H
 clear H
 rotate_left
 all_goals (go_wp2_with (first | ((with_reducible refine gate_callee (f := 38) rfl ?_); refine goesL_ (some 15) rfl rfl Tryz.func38 kr rfl #[.int .i64 a0, .int .i64 a1] rfl sM ?_; (with_reducible refine (impl_isCorridor.calls a0 a1 true _ A6.out).mono ?_); rintro e w' ⟨rfl, ⟨nd, rfl⟩⟩; refine ⟨_, rfl, ?_⟩) | (go_at_call 38; (with_reducible refine (impl_isCorridor.calls a0 a2 true _ A8.out).mono ?_); rintro e w' ⟨rfl, ⟨nd, rfl⟩⟩) | (go_at_call 39; (with_reducible refine (impl_within.calls a3 1 40 d6 _ h0.out).mono ?_); rintro e w' ⟨rfl, ⟨nd, rfl⟩⟩) | (go_at_call 38; (with_reducible refine (impl_isCorridor.calls a0 a2 false _ A8.out).mono ?_); rintro e w' ⟨rfl, ⟨nd, rfl⟩⟩)))
 all_goals go_meet
 · case rel => exact ⟨_, (!d6), sR, H', ⟨by first | omega | exact Nat.le_refl _⟩, ⟨bB⟩⟩
 · case rel => exact ⟨_, (true), sR, H', ⟨by first | omega | exact Nat.le_refl _⟩, ⟨bB⟩⟩
 )
 ·(
 replace c7 := Bool.eq_false_iff.mpr c7
 subst c7
 rw [if_neg nft] at H
 have H' := Aside0.mk H
 clear H
 go_wp2_with (first | ((with_reducible refine gate_callee (f := 38) rfl ?_); refine goesL_ (some 15) rfl rfl Tryz.func38 kr rfl #[.int .i64 a0, .int .i64 a1] rfl sM ?_; (with_reducible refine (impl_isCorridor.calls a0 a1 false _ A6.out).mono ?_); rintro e w' ⟨rfl, ⟨nd, rfl⟩⟩; refine ⟨_, rfl, ?_⟩))
 go_meet
 case rel => exact ⟨_, (true), sR, H', ⟨by first | omega | exact Nat.le_refl _⟩, ⟨bB⟩⟩
 )
 )
 case rest => (
 clear d5
 obtain ⟨kq, b2, rfl, HA, HJ4, HB⟩ := hcut
 cases kq with
 | zero => exact absurd HA.out (by simp [impl_FarthestOf.j0])
 | succ d7 => (
 have H := HA.out
 clear HA
 simp only [impl_FarthestOf.j0] at H
 by_cases c4 : b2 = true
 ·(
 subst c4
 rw [if_pos rfl] at H
 simp only [Option.some.injEq, Prod.mk.injEq] at H
 obtain ⟨rfl, rfl⟩ := H
 go_wp2
 go_ret2
 exact ⟨sE, bI⟩
 )
 ·(
 replace c4 := Bool.eq_false_iff.mpr c4
 subst c4
 rw [if_neg nft] at H
 obtain ⟨d8, b0⟩ : ∃ y_ : List Int, y_ = (([] : List Int)) := ⟨_, rfl⟩
 replace H : ((impl_imagesNear.f a0 a1 a2 (wrap64 ((wrap64 (2 * a0)) * 42))).bind fun a5 => (impl_FarthestOf.l0 d7 a2 a3 d8 a5 (a5.length : Int) 0)) = some (r1, r2) := by first | (rw [b0]; with_reducible exact H) | (have b3 := (Option.bind_some _ _).symm.trans H; rw [b0]; with_reducible exact b3) | (have b3 := (Option.bind_some _ _).symm.trans H; with_reducible exact b3) | with_reducible exact H | (rw [b0]; exact H) | exact H
 have c5 := Aside0.mk b0
 clear b0
 obtain ⟨a5, h6, H⟩ := bD H
 try dsimp only at H
 have H' := Aside0.mk H
 clear H
 go_wp2_with (first | ((with_reducible refine gate_dst (N := 28) rfl ?_); refine Kd.R_lit (Kd.int .i64) _ 3 ?hg (N := 28) ?hd (xs := ([] : List Int)) (inner := []) (ok := fun _ => True) (okp := fun _ => True) ?hr ?hp (fun _ hk => hk) trivial (Below.refl _ _) (Nat.le_refl _) (by simp) ?_; (case hd => rfl); (case hg => rfl); (case hr => first | (go_simp; done) | (go_simp; rfl)); (case hp => exact (Reps.none _ _)); intro j1 j2 b4 hb hg_ hnew_; clear hg_ hnew_; (first | rw [← c5.out] at b4 | (simp only [Int.reduceToNat] at b4; rw [← c5.out] at b4)); have b7 := Aside0.mk (Kd.R_lower b4 (below_size bB)); replace HB := Aside0.mk (below_step bB hb); clear hb b4) | ((with_reducible refine gate_callee (f := 55) rfl ?_); refine goesL_ (some 35) rfl rfl Tryz.func55 kr rfl #[.int .i64 a0, .int .i64 a1, .int .i64 a2, .int .i64 (wrap64 ((wrap64 (2 * a0)) * 42))] rfl sM ?_; (with_reducible refine (impl_imagesNear.calls a0 a1 a2 (wrap64 ((wrap64 (2 * a0)) * 42)) a5 _ h6.out).mono ?_); rintro e j3 ⟨j4, rfl, c0, hb⟩; refine ⟨_, rfl, ?_⟩; have d9 := Aside0.mk (Kd.R_lower (Kd.R_new' c0 (Kd.R_lt (oR b7))) (below_size bB)); replace b7 := Aside0.mk (Kd.R_elder' (oR b7) (Kd.R_base c0) hb); replace HB := Aside0.mk (below_step bB hb); (try clear hb); (try clear c0); obtain ⟨e0, c1, g2⟩ := Kd.R_slice d9.out; subst g2))
 go_loopg [10, 37] d7 (fun kq e6 h7 w' => ∃ (a6 : List Int) (a4 : Int), h7 = .int .i64 a4 ∧ Aside0 (impl_FarthestOf.l0 kq a2 a3 a6 a5 (a5.length : Int) a4 = some (r1, r2)) ∧ Aside0 (kq ≤ d7) ∧ Aside0 (Kd.R (Kd.int .i64) 3 w' w.heap.size (fun k_ => some k_ ≠ ((.slice e0 a5.length c1) : Value).ownBlock) e6 a6) ∧ Aside0 (Kd.R (Kd.int .i64) 3 w' w.heap.size (fun k_ => some k_ ≠ (e6 : Value).ownBlock) (.slice e0 a5.length c1) a5) ∧ Aside0 (Below w.heap.size w w'))
 case atStart => exact ⟨(d8), (0), sR, H', ⟨Nat.le_refl _⟩, ⟨by (with_reducible repeat (first | apply Kd.R_alloc | apply Kd.R_drewN | apply Kd.R_drew)); exact Kd.R_mono b7.out (fun _ hk => hk.2)⟩, ⟨by (with_reducible repeat (first | apply Kd.R_alloc | apply Kd.R_drewN | apply Kd.R_drew)); exact Kd.R_mono d9.out (fun _ hk => hk.2)⟩, ⟨bB⟩⟩
 case round => (
 clear H'
 obtain ⟨a6, a4, rfl, HA, HKz1, a7, a8, HB⟩ := hrel
 cases gk with
 | zero => exact absurd HA.out (by simp [impl_FarthestOf.l0])
 | succ k2 => (
 have H := HA.out
 clear HA
 simp only [impl_FarthestOf.l0] at H
 by_cases b6 : a4 < (a5.length : Int)
 ·(
 rw [if_pos b6] at H
 have e3 : decide (a4 < (a5.length : Int)) = true := decide_eq_true b6
 clear b6
 by_cases c6 : 0 ≤ a4
 ·(
 rw [if_pos c6] at H
 have i2 : decide (0 ≤ a4) = true := decide_eq_true c6
 clear c6
 by_cases c8 : a4 < (a5.length : Int)
 ·(
 rw [if_pos c8] at H
 have i3 : decide (a4 < (a5.length : Int)) = true := decide_eq_true c8
 clear c8
 obtain ⟨d0, h8, H⟩ := bD H
 try dsimp only at H
 by_cases d1 : a6.length < 17592186044416
 ·(
 rw [if_pos d1] at H
 have e4 := Aside0.mk d1
 clear d1
 obtain ⟨e7, b5⟩ : ∃ y_ : List Int, y_ = (a6 ++ [d0]) := ⟨_, rfl⟩
 replace H : (impl_FarthestOf.l0 k2 a2 a3 e7 a5 (a5.length : Int) (wrap64 (a4 + 1))) = some (r1, r2) := by first | (rw [b5]; with_reducible exact H) | (have b3 := (Option.bind_some _ _).symm.trans H; rw [b5]; with_reducible exact b3) | (have b3 := (Option.bind_some _ _).symm.trans H; with_reducible exact b3) | with_reducible exact H | (rw [b5]; exact H) | exact H
 have g3 := Aside0.mk b5
 clear b5
 have H' := Aside0.mk H
 clear H
 have e1 : 0 ≤ (a4 : Int) := of_decide_eq_true asm
 have e2 : a4 < (a5.length : Int) := of_decide_eq_true asm
 obtain ⟨g4, h9, i0⟩ := Kd.at_int (Kd.R_reads' a8.out).2.2 a4 e1 e2
 cases h9
 replace e1 := eq_true e1
 replace e2 := eq_true e2
 go_wp2_with (first | ((with_reducible refine gate_callee (f := 58) rfl ?_); refine goesL_ (some 44) rfl rfl Tryz.func58 kr rfl #[.int .i64 (rd a5 a4), .int .i64 a2] rfl sM ?_; (with_reducible refine (impl_distance.calls (rd a5 a4) a2 d0 _ h8.out).mono ?_); rintro e g5 ⟨rfl, hb⟩; refine ⟨_, rfl, ?_⟩; replace a7 := Aside0.mk (Kd.R_below (oR a7) hb); replace a8 := Aside0.mk (Kd.R_below (oR a8) hb); replace HB := Aside0.mk (below_step bB hb); (try clear hb)) | ((with_reducible refine gate_builtin (b := .append) (xs := #[.tmp 41, .tmp 45]) rfl ?_); at_builtin; refine Kd.R_append (Kd.int .i64) (w0 := w) w.heap.size rfl (.tmp 41) (.tmp 45) 26 3 (.int .i64 0) 8 rfl Tryz.underlying26 info3 rfl (by decide) (by omega) u10 a6 d0 [.int .i64 d0] (fun k_ => some k_ ≠ (.slice (some g4) a5.length c1 : Value).ownBlock) (fun _ => False) rfl rfl ?aP (fun _ hk => hk.elim) ?aF ?aO ?aB ?aS ?aL ?_; (case aP => exact rfl); (case aB => exact bB); (case aF => exact (fun k_ hk => Kd.fresh' (Kd.R_lt (oR a8)) k_ hk)); (case aO => exact (oR a7)); (case aS => exact (below_size bB)); (case aL => have := e4.out; omega); intro i9 j0 ho hb hg hat; rw [← g3.out] at ho; have e5 := Aside0.mk (ho); replace a8 := Aside0.mk (Kd.R_after (ok := (fun _ => True)) (by (with_reducible repeat (first | apply Kd.R_alloc | apply Kd.R_drewN | apply Kd.R_drew)); exact Kd.R_mono a8.out (fun _ hk => ⟨trivial, hk⟩)) hg hat); replace HB := Aside0.mk (hb); clear a7 ho hb hg hat))
 go_roundg k2
 case measure => have := HJ4.out; have := HKz1.out; omega
 case rel => exact ⟨(e7), (wrap64 (a4 + 1)), sR, H', ⟨by have := HJ4.out; have := HKz1.out; omega⟩, ⟨oR e5⟩, ⟨by (with_reducible repeat (first | apply Kd.R_alloc | apply Kd.R_drewN | apply Kd.R_drew)); exact Kd.R_mono a8.out (fun _ hk => hk.2)⟩, ⟨bB⟩⟩
 )
 ·(
 rw [if_neg d1] at H
 exact absurd H (by simp)
 )
 )
 ·(
 rw [if_neg c8] at H
 exact absurd H (by simp)
 )
 )
 ·(
 rw [if_neg c6] at H
 exact absurd H (by simp)
 )
 )
 ·(
 rw [if_neg b6] at H
 have e3 : decide (a4 < (a5.length : Int)) = false := decide_eq_false b6
 clear b6
 obtain ⟨e8, e9, H⟩ := bD H
 try dsimp only at H
 obtain ⟨a9, b1⟩ : ∃ j_ : Int, (wrap64 (a3 - 1)) = j_ := ⟨_, rfl⟩
 (first | rw [b1] at H | simp only [b1] at H)
 (try rw [b1] at e9)
 have i1 : (IntKind.i64.wrap (a3 - 1)) = a9 := (i64_w _).trans b1
 by_cases d2 : 0 ≤ (a9)
 ·(
 rw [if_pos d2] at H
 have i4 : decide (0 ≤ (a9)) = true := decide_eq_true d2
 clear d2
 by_cases d3 : (a9) < (a6.length : Int)
 ·(
 rw [if_pos d3] at H
 have i5 : decide ((a9) < (a6.length : Int)) = true := decide_eq_true d3
 clear d3
 simp only [Option.some.injEq, Prod.mk.injEq] at H
 obtain ⟨rfl, rfl⟩ := H
 obtain ⟨b8, b9, g6⟩ := Kd.R_slice a7.out
 subst g6
 go_wp2_with (first | ((with_reducible refine gate_callee (f := 59) rfl ?_); refine goesL_ (some 49) rfl rfl Tryz.func59 kr rfl #[.slice b8 a6.length b9] rfl sM ?_; (with_reducible refine (slices_Sort_int_int.calls (fun k_ => some k_ = (.slice b8 a6.length b9 : Value).ownBlock) (.slice b8 a6.length b9) a6 e8 w _ ?side1 ?side2 e9.out).mono ?_); (case side1 => exact bI); (case side2 => exact Kd.R_tight rfl a7.out); rintro e g5 ⟨rfl, d4, hb, hkp⟩; refine ⟨_, rfl, ?_⟩; replace a7 := Aside0.mk (Kd.R_reok rfl d4 (fun k_ e_ => a7.out.1 k_ e_)); replace a8 := Aside0.mk (Kd.R_mono (ok' := fun k_ => some k_ ≠ (.slice b8 a6.length b9 : Value).ownBlock) (Kd.R_keptB (a8.out) hkp (fun k_ hk_ hs_ => (hk_) hs_)) (fun k_ hk_ => hk_.1)); replace HB := Aside0.mk (hb); (try clear hb); (try clear hkp); (try clear d4); have c2 : 0 ≤ ((a9) : Int) := of_decide_eq_true asm; have c3 : (a9) < (e8.length : Int) := (by have h_ : ((a9) : Int) < ((a6.length : Int) : Int) := of_decide_eq_true asm; have e_ := (Kd.R_reads' a7.out).1; omega); have i6 : (((a9) : Int) < ((a6.length : Int) : Int)) = True := eq_true (of_decide_eq_true asm); obtain ⟨i7, g7, g8⟩ := Kd.at_int (Kd.R_reads' a7.out).2.2 (a9) c2 c3; cases g7; replace c2 := eq_true c2; replace c3 := eq_true c3))
 go_ret2
 exact ⟨by first | rfl | (simp [errW_none, errW_some] <;> rfl) | (simp only [← b1]; first | rfl | (simp [errW_none, errW_some] <;> rfl)) | (simp [*, errW_none, errW_some] <;> rfl), bI⟩
 )
 ·(
 rw [if_neg d3] at H
 exact absurd H (by simp)
 )
 )
 ·(
 rw [if_neg d2] at H
 exact absurd H (by simp)
 )
 )
 )
 )
 )
 )
 )

/-! ### spec_l1Abs: function 60 -/
def spec_l1Abs.f (a0 : Int) : Option (Int) := (spec_l1Most.f a0 (wrap64 (-a0))).bind fun t338 => (some t338)
set_option maxHeartbeats 8000000 in
set_option maxRecDepth 100000 in
theorem spec_l1Abs.calls (a0 : Int) (r : Int) (w : World) (h : spec_l1Abs.f a0 = some r) :
    Calls Tryz.prog 60 #[.int .i64 a0] w fun e w' => e = .returned (.int .i64 r) ∧ Drawn0 w w' := by
 have H := h
 unfold spec_l1Abs.f at H
 clear h
 obtain ⟨a4, A2, H⟩ := bD H
 try dsimp only at H
 obtain rfl := Option.some.inj H
 go_enter Tryz.func60, Tryz.ntmps60
 go_wp2_with (first | ((with_reducible refine gate_callee (f := 54) rfl ?_); refine goesL_ (some 6) rfl rfl Tryz.func54 kr rfl #[.int .i64 a0, .int .i64 (wrap64 (-a0))] rfl sM ?_; (with_reducible refine (spec_l1Most.calls a0 (wrap64 (-a0)) a4 _ A2.out).mono ?_); rintro e w' ⟨rfl, ⟨nd, rfl⟩⟩; refine ⟨_, rfl, ?_⟩))
 go_ret
 exact ⟨by first | rfl | (simp; done) | (simp [*]; done), by repeat (first | exact Drawn0.refl _ | apply Drawn0.step)⟩

/-! ### spec_miFar: function 61 -/
mutual
def spec_miFar.l0 : Nat → Int → Int → Int → Int → List Int → Int → Option (List Int)
  | 0, _, _, _, _, _, _ => none
  | k + 1, x0, x1, x2, x3, x9, x10 => if (x9.length : Int) < x3 then ((spec_miIs.f x0 x1 (wrap64 (x2 - x10))).bind fun t339 => (if t339 = true then (if x9.length < 17592186044416 then (spec_miFar.j1 k x0 x1 x2 x3 (x9 ++ [wrap64 (x2 - x10)]) x10) else (none)) else (spec_miFar.j1 k x0 x1 x2 x3 x9 x10))) else (some x9)
def spec_miFar.j1 : Nat → Int → Int → Int → Int → List Int → Int → Option (List Int)
  | 0, _, _, _, _, _, _ => none
  | k + 1, x0, x1, x2, x3, x9, x10 => if x10 > 0 then (if (x9.length : Int) < x3 then ((spec_miIs.f x0 x1 (wrap64 (x2 + x10))).bind fun t343 => (if t343 = true then (if x9.length < 17592186044416 then (spec_miFar.l0 k x0 x1 x2 x3 (x9 ++ [wrap64 (x2 + x10)]) (wrap64 (x10 + 1))) else (none)) else (spec_miFar.l0 k x0 x1 x2 x3 x9 (wrap64 (x10 + 1))))) else (spec_miFar.l0 k x0 x1 x2 x3 x9 (wrap64 (x10 + 1)))) else (spec_miFar.l0 k x0 x1 x2 x3 x9 (wrap64 (x10 + 1)))
end
def spec_miFar.f (k : Nat) (a0 : Int) (a1 : Int) (a2 : Int) (a3 : Int) : Option (List Int) := spec_miFar.l0 k a0 a1 a2 a3 ([] : List Int) 0
theorem spec_miFar.mono_l : ∀ k, (∀ y0 y1 y2 y3 y4 y5, LeO (spec_miFar.l0 k y0 y1 y2 y3 y4 y5) (spec_miFar.l0 (k + 1) y0 y1 y2 y3 y4 y5)) ∧ (∀ y0 y1 y2 y3 y4 y5, LeO (spec_miFar.j1 k y0 y1 y2 y3 y4 y5) (spec_miFar.j1 (k + 1) y0 y1 y2 y3 y4 y5))
  | 0 => ⟨fun _ _ _ _ _ _ r h => by simp [spec_miFar.l0] at h, fun _ _ _ _ _ _ r h => by simp [spec_miFar.j1] at h⟩
  | k + 1 => by
    obtain ⟨ih0, ih1⟩ := spec_miFar.mono_l k
    refine ⟨?_, ?_⟩
    · intro y0 y1 y2 y3 y4 y5
      unfold spec_miFar.l0
      repeat' first
      | (with_reducible exact ih0 _ _ _ _ _ _)
      | (with_reducible exact ih1 _ _ _ _ _ _)
      | (with_reducible exact LeO.refl _)
      | (with_reducible exact LeO.none _)
      | (with_reducible refine LeO.ite ?_ ?_)
      | (with_reducible refine LeO.bind ?_ (fun _ => ?_))
      | exact ih0 _ _ _ _ _ _
      | exact ih1 _ _ _ _ _ _
      | exact LeO.none _
      | refine LeO.ite ?_ ?_
      | refine LeO.bind ?_ (fun _ => ?_)
    · intro y0 y1 y2 y3 y4 y5
      unfold spec_miFar.j1
      repeat' first
      | (with_reducible exact ih0 _ _ _ _ _ _)
      | (with_reducible exact ih1 _ _ _ _ _ _)
      | (with_reducible exact LeO.refl _)
      | (with_reducible exact LeO.none _)
      | (with_reducible refine LeO.ite ?_ ?_)
      | (with_reducible refine LeO.bind ?_ (fun _ => ?_))
      | exact ih0 _ _ _ _ _ _
      | exact ih1 _ _ _ _ _ _
      | exact LeO.none _
      | refine LeO.ite ?_ ?_
      | refine LeO.bind ?_ (fun _ => ?_)
theorem spec_miFar.mono : ∀ a0 a1 a2 a3 k, LeO (spec_miFar.f k a0 a1 a2 a3) (spec_miFar.f (k + 1) a0 a1 a2 a3) := by
  intro a0 a1 a2 a3 k
  obtain ⟨ih0, ih1⟩ := spec_miFar.mono_l k
  unfold spec_miFar.f
  repeat' first
      | (with_reducible exact ih0 _ _ _ _ _ _)
      | (with_reducible exact ih1 _ _ _ _ _ _)
      | (with_reducible exact LeO.refl _)
      | (with_reducible exact LeO.none _)
      | (with_reducible refine LeO.ite ?_ ?_)
      | (with_reducible refine LeO.bind ?_ (fun _ => ?_))
      | exact ih0 _ _ _ _ _ _
      | exact ih1 _ _ _ _ _ _
      | exact LeO.none _
      | refine LeO.ite ?_ ?_
      | refine LeO.bind ?_ (fun _ => ?_)
set_option maxHeartbeats 8000000 in
set_option maxRecDepth 100000 in
theorem spec_miFar.calls (k : Nat) (a0 : Int) (a1 : Int) (a2 : Int) (a3 : Int) (r : List Int) (w : World) (h : spec_miFar.f k a0 a1 a2 a3 = some r) :
    Calls Tryz.prog 61 #[.int .i64 a0, .int .i64 a1, .int .i64 a2, .int .i64 a3] w fun e w' => ∃ v0_ : Value, e = .returned (v0_) ∧ Kd.R (Kd.int .i64) 3 w' w.heap.size (fun _ => True) v0_ r ∧ Below w.heap.size w w' := by
 have HB := Aside0.mk (Below.refl w.heap.size w)
 have H := h
 unfold spec_miFar.f at H
 clear h
 have H' := Aside0.mk H
 clear H
 go_enter Tryz.func61, Tryz.ntmps61
 go_wp2
 go_loopg [9, 10] k (fun kq v9 e0 w' => ∃ (a7 : List Int) (a4 : Int), e0 = .int .i64 a4 ∧ Aside0 (spec_miFar.l0 kq a0 a1 a2 a3 a7 a4 = some r) ∧ Aside0 (kq ≤ k) ∧ Aside0 (Kd.R (Kd.int .i64) 3 w' w.heap.size (fun _ => True) v9 a7) ∧ Aside0 (Below w.heap.size w w'))
 case atStart => exact ⟨(([] : List Int)), (0), sR, H', ⟨Nat.le_refl _⟩, ⟨by first | exact Kd.R_nil _ _ _ _ _ | exact Kd.N_nil _ _ _ _ _ | exact Kd.V_nil _ _ _ _ _ | exact Kd.Q_nil _ _ _ _ _ | exact Kd.S_nil _ _ _ _ _⟩, ⟨bB⟩⟩
 case round => (
 clear H'
 obtain ⟨a7, a4, rfl, HA, HK1, a5, HB⟩ := hrel
 cases gk with
 | zero => exact absurd HA.out (by simp [spec_miFar.l0])
 | succ k1 => (
 have H := HA.out
 clear HA
 simp only [spec_miFar.l0] at H
 by_cases c5 : (a7.length : Int) < a3
 ·(
 rw [if_pos c5] at H
 have b7 : decide ((a7.length : Int) < a3) = true := decide_eq_true c5
 clear c5
 obtain ⟨b8, A6, H⟩ := bD H
 try dsimp only at H
 have b9 := Aside0.mk H
 clear H
 obtain ⟨e1, e2, e3⟩ := Kd.R_slice a5.out
 subst e3
 go_upto_if 22 with (first | ((with_reducible refine gate_callee (f := 57) rfl ?_); refine goesL_ (some 22) rfl rfl Tryz.func57 kr rfl #[.int .i64 a0, .int .i64 a1, .int .i64 (wrap64 (a2 - a4))] rfl sM ?_; (with_reducible refine (spec_miIs.calls a0 a1 (wrap64 (a2 - a4)) b8 _ A6.out).mono ?_); rintro e w' ⟨rfl, ⟨nd, rfl⟩⟩; refine ⟨_, rfl, ?_⟩))
 (try simp only [Act.put, List.setIfInBounds_toArray, List.set_cons_zero, List.set_cons_succ])
 go_cut [9] (fun v9 wc => ∃ (kq : Nat) (a6 : List Int), Aside0 (spec_miFar.j1 kq a0 a1 a2 a3 a6 a4 = some r) ∧ Aside0 (kq ≤ k1) ∧ Aside0 (Kd.R (Kd.int .i64) 3 wc w.heap.size (fun _ => True) v9 a6) ∧ Aside0 (Below w.heap.size w wc))
 case first => (
 have H := b9.out
 clear b9
 by_cases c9 : b8 = true
 ·(
 subst c9
 rw [if_pos rfl] at H
 by_cases b4 : a7.length < 17592186044416
 ·(
 rw [if_pos b4] at H
 have c2 := Aside0.mk b4
 clear b4
 obtain ⟨c0, a8⟩ : ∃ y_ : List Int, y_ = (a7 ++ [wrap64 (a2 - a4)]) := ⟨_, rfl⟩
 replace H : (spec_miFar.j1 k1 a0 a1 a2 a3 c0 a4) = some r := by first | (rw [a8]; with_reducible exact H) | (have b0 := (Option.bind_some _ _).symm.trans H; rw [a8]; with_reducible exact b0) | (have b0 := (Option.bind_some _ _).symm.trans H; with_reducible exact b0) | with_reducible exact H | (rw [a8]; exact H) | exact H
 have c3 := Aside0.mk a8
 clear a8
 have H' := Aside0.mk H
 clear H
 go_wp2_with (first | ((with_reducible refine gate_builtin (b := .append) (xs := #[.tmp 23, .tmp 27]) rfl ?_); (try (refine gate_guard (by rfl) ?_; dsimp only)); at_builtin; refine Kd.R_append (Kd.int .i64) (w0 := w) w.heap.size rfl (.tmp 23) (.tmp 27) 26 3 (.int .i64 0) 8 rfl Tryz.underlying26 info3 rfl (by decide) (by omega) (.slice e1 a7.length e2) a7 (wrap64 (a2 - a4)) [.int .i64 (wrap64 (a2 - a4))] (fun _ => True) (fun _ => False) rfl rfl ?aP (fun _ hk => hk.elim) ?aF ?aO ?aB ?aS ?aL ?_; (case aP => exact rfl); (case aB => exact bB); (case aF => exact (fun _ _ => trivial)); (case aO => exact (oR a5)); (case aS => exact (below_size bB)); (case aL => have := c2.out; omega); intro e4 g2 ho hb hg hat; rw [← c3.out] at ho; have c4 := Aside0.mk (ho); replace HB := Aside0.mk (hb); clear a5 ho hb hg hat))
 go_meet
 case rel => exact ⟨_, (c0), H', ⟨by have := HK1.out; first | omega | exact Nat.le_refl _⟩, ⟨oR c4⟩, ⟨bB⟩⟩
 )
 ·(
 rw [if_neg b4] at H
 exact absurd H (by simp)
 )
 )
 ·(
 replace c9 := Bool.eq_false_iff.mpr c9
 subst c9
 rw [if_neg nft] at H
 have H' := Aside0.mk H
 clear H
 go_wp2
 go_meet
 case rel => exact ⟨_, (a7), H', ⟨by have := HK1.out; first | omega | exact Nat.le_refl _⟩, ⟨oR a5⟩, ⟨bB⟩⟩
 )
 )
 case rest => (
 clear b9
 try clear b7
 obtain ⟨kq, a6, HA, HJ6, a5, HB⟩ := hcut
 cases kq with
 | zero => exact absurd HA.out (by simp [spec_miFar.j1])
 | succ b3 => (
 have H := HA.out
 clear HA
 simp only [spec_miFar.j1] at H
 by_cases b1 : a4 > 0
 ·(
 rw [if_pos b1] at H
 have c6 : decide (0 < a4) = true := decide_eq_true b1
 clear b1
 by_cases b2 : (a6.length : Int) < a3
 ·(
 rw [if_pos b2] at H
 have c7 : decide ((a6.length : Int) < a3) = true := decide_eq_true b2
 clear b2
 obtain ⟨d3, d2, H⟩ := bD H
 try dsimp only at H
 by_cases b5 : d3 = true
 ·(
 subst b5
 rw [if_pos rfl] at H
 by_cases b6 : a6.length < 17592186044416
 ·(
 rw [if_pos b6] at H
 have c8 := Aside0.mk b6
 clear b6
 obtain ⟨c1, a9⟩ : ∃ y_ : List Int, y_ = (a6 ++ [wrap64 (a2 + a4)]) := ⟨_, rfl⟩
 replace H : (spec_miFar.l0 b3 a0 a1 a2 a3 c1 (wrap64 (a4 + 1))) = some r := by first | (rw [a9]; with_reducible exact H) | (have b0 := (Option.bind_some _ _).symm.trans H; rw [a9]; with_reducible exact b0) | (have b0 := (Option.bind_some _ _).symm.trans H; with_reducible exact b0) | with_reducible exact H | (rw [a9]; exact H) | exact H
 have d0 := Aside0.mk a9
 clear a9
 have H' := Aside0.mk H
 clear H
 obtain ⟨d4, d5, d6⟩ := Kd.R_slice a5.out
 subst d6
 go_wp2_with (first | (go_at_call 57; (with_reducible refine (spec_miIs.calls a0 a1 (wrap64 (a2 + a4)) true _ d2.out).mono ?_); rintro e w' ⟨rfl, ⟨nd, rfl⟩⟩) | ((with_reducible refine gate_builtin (b := .append) (xs := #[.tmp 45, .tmp 49]) rfl ?_); (try (refine gate_guard (by rfl) ?_; dsimp only)); at_builtin; refine Kd.R_append (Kd.int .i64) (w0 := w) w.heap.size rfl (.tmp 45) (.tmp 49) 26 3 (.int .i64 0) 8 rfl Tryz.underlying26 info3 rfl (by decide) (by omega) (.slice d4 a6.length d5) a6 (wrap64 (a2 + a4)) [.int .i64 (wrap64 (a2 + a4))] (fun _ => True) (fun _ => False) rfl rfl ?aP (fun _ hk => hk.elim) ?aF ?aO ?aB ?aS ?aL ?_; (case aP => exact rfl); (case aB => exact bB); (case aF => exact (fun _ _ => trivial)); (case aO => exact (oR a5)); (case aS => exact (below_size bB)); (case aL => have := c8.out; omega); intro e5 g3 ho hb hg hat; rw [← d0.out] at ho; have d1 := Aside0.mk (ho); replace HB := Aside0.mk (hb); clear a5 ho hb hg hat))
 go_roundg b3
 case measure => have := HK1.out; have := HJ6.out; omega
 case rel => exact ⟨(c1), (wrap64 (a4 + 1)), sR, H', ⟨by have := HK1.out; have := HJ6.out; omega⟩, ⟨oR d1⟩, ⟨bB⟩⟩
 )
 ·(
 rw [if_neg b6] at H
 exact absurd H (by simp)
 )
 )
 ·(
 replace b5 := Bool.eq_false_iff.mpr b5
 subst b5
 rw [if_neg nft] at H
 have H' := Aside0.mk H
 clear H
 obtain ⟨e6, e7, d7⟩ := Kd.R_slice a5.out
 subst d7
 go_wp2_with (first | (go_at_call 57; (with_reducible refine (spec_miIs.calls a0 a1 (wrap64 (a2 + a4)) false _ d2.out).mono ?_); rintro e w' ⟨rfl, ⟨nd, rfl⟩⟩))
 go_roundg b3
 case measure => have := HK1.out; have := HJ6.out; omega
 case rel => exact ⟨(a6), (wrap64 (a4 + 1)), sR, H', ⟨by have := HK1.out; have := HJ6.out; omega⟩, ⟨oR a5⟩, ⟨bB⟩⟩
 )
 )
 ·(
 rw [if_neg b2] at H
 have c7 : decide ((a6.length : Int) < a3) = false := decide_eq_false b2
 clear b2
 have H' := Aside0.mk H
 clear H
 obtain ⟨e8, e9, d8⟩ := Kd.R_slice a5.out
 subst d8
 go_wp2
 go_roundg b3
 case measure => have := HK1.out; have := HJ6.out; omega
 case rel => exact ⟨(a6), (wrap64 (a4 + 1)), sR, H', ⟨by have := HK1.out; have := HJ6.out; omega⟩, ⟨oR a5⟩, ⟨bB⟩⟩
 )
 )
 ·(
 rw [if_neg b1] at H
 have c6 : decide (0 < a4) = false := decide_eq_false b1
 clear b1
 have H' := Aside0.mk H
 clear H
 go_wp2
 go_roundg b3
 case measure => have := HK1.out; have := HJ6.out; omega
 case rel => exact ⟨(a6), (wrap64 (a4 + 1)), sR, H', ⟨by have := HK1.out; have := HJ6.out; omega⟩, ⟨oR a5⟩, ⟨bB⟩⟩
 )
 )
 )
 )
 ·(
 rw [if_neg c5] at H
 have b7 : decide ((a7.length : Int) < a3) = false := decide_eq_false c5
 clear c5
 obtain rfl := Option.some.inj H
 obtain ⟨g0, g1, d9⟩ := Kd.R_slice a5.out
 subst d9
 go_wp2
 go_ret
 exact ⟨_, sE, by (with_reducible repeat (first | apply Kd.R_alloc | apply Kd.R_drewN | apply Kd.R_drew)); exact a5.out, bI⟩
 )
 )
 )

/-! ### spec_FarthestOf: function 21 -/
def spec_FarthestOf.j0 : Nat → Int → Int → Int → Int → Bool → Option (Int × Bool)
  | 0, _, _, _, _, _ => none
  | k + 1, x0, x1, x2, x3, x19 => if x19 = true then (some (0, false)) else ((spec_miFar.f k x0 x1 x2 x3).bind fun t349 => (if 0 ≤ (wrap64 (x3 - 1)) then (if (wrap64 (x3 - 1)) < (t349.length : Int) then ((spec_l1Abs.f (wrap64 ((rd t349 (wrap64 (x3 - 1))) - x2))).bind fun t353 => (some (t353, true))) else (none)) else (none)))
def spec_FarthestOf.f (k : Nat) (a0 : Int) (a1 : Int) (a2 : Int) (a3 : Int) : Option (Int × Bool) := (spec_miSeen.f a0 a1 a2).bind fun t347 => (if t347 = true then ((spec_l1In.f a3 1 40).bind fun t348 => (spec_FarthestOf.j0 k a0 a1 a2 a3 (!t348))) else (spec_FarthestOf.j0 k a0 a1 a2 a3 true))
theorem spec_FarthestOf.mono_l : ∀ k, (∀ y0 y1 y2 y3 y4, LeO (spec_FarthestOf.j0 k y0 y1 y2 y3 y4) (spec_FarthestOf.j0 (k + 1) y0 y1 y2 y3 y4))
  | 0 => fun _ _ _ _ _ r h => by simp [spec_FarthestOf.j0] at h
  | k + 1 => by
    have ih0 := spec_FarthestOf.mono_l k
    · intro y0 y1 y2 y3 y4
      unfold spec_FarthestOf.j0
      repeat' first
      | (with_reducible exact ih0 _ _ _ _ _)
      | (with_reducible exact spec_miFar.mono _ _ _ _ _)
      | (with_reducible exact LeO.refl _)
      | (with_reducible exact LeO.none _)
      | (with_reducible refine LeO.ite ?_ ?_)
      | (with_reducible refine LeO.bind ?_ (fun _ => ?_))
      | exact ih0 _ _ _ _ _
      | exact spec_miFar.mono _ _ _ _ _
      | exact LeO.none _
      | refine LeO.ite ?_ ?_
      | refine LeO.bind ?_ (fun _ => ?_)
theorem spec_FarthestOf.mono : ∀ a0 a1 a2 a3 k, LeO (spec_FarthestOf.f k a0 a1 a2 a3) (spec_FarthestOf.f (k + 1) a0 a1 a2 a3) := by
  intro a0 a1 a2 a3 k
  have ih0 := spec_FarthestOf.mono_l k
  unfold spec_FarthestOf.f
  repeat' first
      | (with_reducible exact ih0 _ _ _ _ _)
      | (with_reducible exact spec_miFar.mono _ _ _ _ _)
      | (with_reducible exact LeO.refl _)
      | (with_reducible exact LeO.none _)
      | (with_reducible refine LeO.ite ?_ ?_)
      | (with_reducible refine LeO.bind ?_ (fun _ => ?_))
      | exact ih0 _ _ _ _ _
      | exact spec_miFar.mono _ _ _ _ _
      | exact LeO.none _
      | refine LeO.ite ?_ ?_
      | refine LeO.bind ?_ (fun _ => ?_)
set_option maxHeartbeats 8000000 in
set_option maxRecDepth 100000 in
theorem spec_FarthestOf.calls (k : Nat) (a0 : Int) (a1 : Int) (a2 : Int) (a3 : Int) (r1 : Int) (r2 : Bool) (w : World) (h : spec_FarthestOf.f k a0 a1 a2 a3 = some (r1, r2)) :
    Calls Tryz.prog 21 #[.int .i64 a0, .int .i64 a1, .int .i64 a2, .int .i64 a3] w fun e w' => e = .returned (.tuple #[.int .i64 r1, .bool r2]) ∧ Below w.heap.size w w' := by
 have HB := Aside0.mk (Below.refl w.heap.size w)
 have H := h
 unfold spec_FarthestOf.f at H
 clear h
 have b3 := Aside0.mk H
 clear H
 go_enter Tryz.func21, Tryz.ntmps21
 go_upto_region 1 with (fail)
 go_cut [19] (fun c2 wc => ∃ (kq : Nat) (a7 : Bool), c2 = .bool a7 ∧ Aside0 (spec_FarthestOf.j0 kq a0 a1 a2 a3 a7 = some (r1, r2)) ∧ Aside0 (kq ≤ k) ∧ Aside0 (Below w.heap.size w wc))
 case first => (
 have H := b3.out
 clear b3
 obtain ⟨b7, A6, H⟩ := bD H
 try dsimp only at H
 by_cases c7 : b7 = true
 ·(
 subst c7
 rw [if_pos rfl] at H
 obtain ⟨b4, A8, H⟩ := bD H
 try dsimp only at H
 have H' := Aside0.mk H
 clear H
 go_wp2_with (first | ((with_reducible refine gate_callee (f := 56) rfl ?_); refine goesL_ (some 13) rfl rfl Tryz.func56 kr rfl #[.int .i64 a0, .int .i64 a1, .int .i64 a2] rfl sM ?_; (with_reducible refine (spec_miSeen.calls a0 a1 a2 true _ A6.out).mono ?_); rintro e w' ⟨rfl, ⟨nd, rfl⟩⟩; refine ⟨_, rfl, ?_⟩) | (go_at_call 44; (with_reducible refine (spec_l1In.calls a3 1 40 b4 _ A8.out).mono ?_); rintro e w' ⟨rfl, ⟨nd, rfl⟩⟩))
 go_meet
 case rel => exact ⟨_, (!b4), sR, H', ⟨by first | omega | exact Nat.le_refl _⟩, ⟨bB⟩⟩
 )
 ·(
 replace c7 := Bool.eq_false_iff.mpr c7
 subst c7
 rw [if_neg nft] at H
 have H' := Aside0.mk H
 clear H
 go_wp2_with (first | ((with_reducible refine gate_callee (f := 56) rfl ?_); refine goesL_ (some 13) rfl rfl Tryz.func56 kr rfl #[.int .i64 a0, .int .i64 a1, .int .i64 a2] rfl sM ?_; (with_reducible refine (spec_miSeen.calls a0 a1 a2 false _ A6.out).mono ?_); rintro e w' ⟨rfl, ⟨nd, rfl⟩⟩; refine ⟨_, rfl, ?_⟩))
 go_meet
 case rel => exact ⟨_, (true), sR, H', ⟨by first | omega | exact Nat.le_refl _⟩, ⟨bB⟩⟩
 )
 )
 case rest => (
 clear b3
 obtain ⟨kq, a7, rfl, HA, HJ4, HB⟩ := hcut
 cases kq with
 | zero => exact absurd HA.out (by simp [spec_FarthestOf.j0])
 | succ c3 => (
 have H := HA.out
 clear HA
 simp only [spec_FarthestOf.j0] at H
 by_cases c9 : a7 = true
 ·(
 subst c9
 rw [if_pos rfl] at H
 simp only [Option.some.injEq, Prod.mk.injEq] at H
 obtain ⟨rfl, rfl⟩ := H
 go_wp2
 go_ret2
 exact ⟨sE, bI⟩
 )
 ·(
 replace c9 := Bool.eq_false_iff.mpr c9
 subst c9
 rw [if_neg nft] at H
 obtain ⟨a6, b5, H⟩ := bD H
 try dsimp only at H
 obtain ⟨a4, a5⟩ : ∃ j_ : Int, (wrap64 (a3 - 1)) = j_ := ⟨_, rfl⟩
 (first | rw [a5] at H | simp only [a5] at H)
 (try rw [a5] at b5)
 have c4 : (IntKind.i64.wrap (a3 - 1)) = a4 := (i64_w _).trans a5
 by_cases b0 : 0 ≤ (a4)
 ·(
 rw [if_pos b0] at H
 have c6 : decide (0 ≤ (a4)) = true := decide_eq_true b0
 clear b0
 by_cases b1 : (a4) < (a6.length : Int)
 ·(
 rw [if_pos b1] at H
 have c8 : decide ((a4) < (a6.length : Int)) = true := decide_eq_true b1
 clear b1
 obtain ⟨b8, c5, H⟩ := bD H
 try dsimp only at H
 simp only [Option.some.injEq, Prod.mk.injEq] at H
 obtain ⟨rfl, rfl⟩ := H
 go_wp2_with (first | ((with_reducible refine gate_callee (f := 61) rfl ?_); refine goesL_ (some 24) rfl rfl Tryz.func61 kr rfl #[.int .i64 a0, .int .i64 a1, .int .i64 a2, .int .i64 a3] rfl sM ?_; (with_reducible refine (spec_miFar.calls c3 a0 a1 a2 a3 a6 _ b5.out).mono ?_); rintro e d4 ⟨d1, rfl, b6, hb⟩; refine ⟨_, rfl, ?_⟩; have b2 := Aside0.mk (Kd.R_lower b6 (below_size bB)); replace HB := Aside0.mk (below_step bB hb); (try clear hb); (try clear b6); obtain ⟨d2, d3, b9⟩ := Kd.R_slice b2.out; subst b9; have a8 : 0 ≤ ((a4) : Int) := of_decide_eq_true asm; have a9 : (a4) < (a6.length : Int) := of_decide_eq_true asm; obtain ⟨d0, c0, c1⟩ := Kd.at_int (Kd.R_reads' b2.out).2.2 (a4) a8 a9; cases c0; replace a8 := eq_true a8; replace a9 := eq_true a9) | ((with_reducible refine gate_callee (f := 60) rfl ?_); refine goesL_ (some 31) rfl rfl Tryz.func60 kr rfl #[.int .i64 (wrap64 ((rd a6 (a4)) - a2))] rfl (by (try simp only [List.map_toArray, List.map_cons, List.map_nil]); first | done | (simp only [a5]; rfl) | rfl | (simp only [List.length_drop, List.length_take]; rfl)) ?_; (with_reducible refine (spec_l1Abs.calls (wrap64 ((rd a6 (a4)) - a2)) b8 _ c5.out).mono ?_); rintro e w' ⟨rfl, ⟨nd, rfl⟩⟩; refine ⟨_, rfl, ?_⟩))
 go_ret2
 exact ⟨by first | rfl | (simp [errW_none, errW_some] <;> rfl) | (simp only [← a5]; first | rfl | (simp [errW_none, errW_some] <;> rfl)) | (simp [*, errW_none, errW_some] <;> rfl), bI⟩
 )
 ·(
 rw [if_neg b1] at H
 exact absurd H (by simp)
 )
 )
 ·(
 rw [if_neg b0] at H
 exact absurd H (by simp)
 )
 )
 )
 )

end Go.Proofs.YtnmhefdjakjngaaGreatDoor.PFnMirrorsFace
