-- Written by xprint.py, a program of this session, for this seat; Lean checks it.
import Derived.Test.YtcfknhmdhglmfaaDoorVM
import Derived.Test.YtcfknhmdhglmfaaDoorPFnLaddersCrossx0
import Derived.Test.YtcfknhmdhglmfaaDoorPFnLaddersCrossx2
import Derived.Test.YtcfknhmdhglmfaaDoorPFnLaddersCrossx3
namespace Go.Proofs.YtcfknhmdhglmfaaDoor.PFnLaddersCross
open Go.Proofs.YtcfknhmdhglmfaaDoorV Go.RowKit Go.Proofs.YtcfknhmdhglmfaaDoorW.PrintWords Go.Proofs.YtcfknhmdhglmfaaDoorW.PrintLast Go.Proofs.YtcfknhmdhglmfaaDoorW.PrintMore
attribute [local go_sem] max2_int min2_int max_two min_two max_three min_three max_four min_four   -- for this text's walks alone
set_option linter.unusedVariables false
set_option linter.unusedSimpArgs false

/-! ### impl_OtherHeight: function 25 -/
def impl_OtherHeight.j0 : Nat → Int → Int → Int → Bool → Option (Int × Int × Bool)
  | 0, _, _, _, _ => none
  | k + 1, x0, x1, x2, x28 => if x28 = true then (some (0, 0, false)) else ((impl_fraction.f k (wrap64 (x1 * x0)) (wrap64 ((wrap64 (x2 * x0)) - x1))).bind fun bt280 => (some (bt280.1, bt280.2.1, bt280.2.2)))
def impl_OtherHeight.f (k : Nat) (a0 : Int) (a1 : Int) (a2 : Int) : Option (Int × Int × Bool) := (impl_isWide.f a0).bind fun t277 => (if t277 = true then ((impl_isWide.f a1).bind fun t278 => (if t278 = true then ((impl_isWide.f a2).bind fun t279 => (if t279 = true then (impl_OtherHeight.j0 k a0 a1 a2 (decide (a1 ≥ (wrap64 (a2 * a0))))) else (impl_OtherHeight.j0 k a0 a1 a2 true))) else (impl_OtherHeight.j0 k a0 a1 a2 true))) else (impl_OtherHeight.j0 k a0 a1 a2 true))
theorem impl_OtherHeight.mono_l : ∀ k, (∀ y0 y1 y2 y3, LeO (impl_OtherHeight.j0 k y0 y1 y2 y3) (impl_OtherHeight.j0 (k + 1) y0 y1 y2 y3))
  | 0 => fun _ _ _ _ r h => by simp [impl_OtherHeight.j0] at h
  | k + 1 => by
    have ih0 := impl_OtherHeight.mono_l k
    · intro y0 y1 y2 y3
      unfold impl_OtherHeight.j0
      repeat' first
      | (with_reducible exact ih0 _ _ _ _)
      | (with_reducible exact impl_fraction.mono _ _ _)
      | (with_reducible exact LeO.refl _)
      | (with_reducible exact LeO.none _)
      | (with_reducible refine LeO.ite ?_ ?_)
      | (with_reducible refine LeO.bind ?_ (fun _ => ?_))
      | exact ih0 _ _ _ _
      | exact impl_fraction.mono _ _ _
      | exact LeO.none _
      | refine LeO.ite ?_ ?_
      | refine LeO.bind ?_ (fun _ => ?_)
theorem impl_OtherHeight.mono : ∀ a0 a1 a2 k, LeO (impl_OtherHeight.f k a0 a1 a2) (impl_OtherHeight.f (k + 1) a0 a1 a2) := by
  intro a0 a1 a2 k
  have ih0 := impl_OtherHeight.mono_l k
  unfold impl_OtherHeight.f
  repeat' first
      | (with_reducible exact ih0 _ _ _ _)
      | (with_reducible exact impl_fraction.mono _ _ _)
      | (with_reducible exact LeO.refl _)
      | (with_reducible exact LeO.none _)
      | (with_reducible refine LeO.ite ?_ ?_)
      | (with_reducible refine LeO.bind ?_ (fun _ => ?_))
      | exact ih0 _ _ _ _
      | exact impl_fraction.mono _ _ _
      | exact LeO.none _
      | refine LeO.ite ?_ ?_
      | refine LeO.bind ?_ (fun _ => ?_)
set_option maxHeartbeats 8000000 in
set_option maxRecDepth 100000 in
theorem impl_OtherHeight.calls (k : Nat) (a0 : Int) (a1 : Int) (a2 : Int) (r1 : Int) (r2 : Int) (r3 : Bool) (w : World) (h : impl_OtherHeight.f k a0 a1 a2 = some (r1, r2, r3)) :
    Calls Tryd.prog 25 #[.int .i64 a0, .int .i64 a1, .int .i64 a2] w fun e w' => e = .returned (.tuple #[.int .i64 r1, .int .i64 r2, .bool r3]) ∧ Below w.heap.size w w' := by
 have HB := Aside0.mk (Below.refl w.heap.size w)
 have H := h
 unfold impl_OtherHeight.f at H
 clear h
 have a8 := Aside0.mk H
 clear H
 go_enter Tryd.func25, Tryd.ntmps25
 go_upto_region 1 with (fail)
 go_cut [28] (fun b5 wc => ∃ (kq : Nat) (a5 : Bool), b5 = .bool a5 ∧ Aside0 (impl_OtherHeight.j0 kq a0 a1 a2 a5 = some (r1, r2, r3)) ∧ Aside0 (kq ≤ k) ∧ Aside0 (Below w.heap.size w wc))
 case first => (
 have H := a8.out
 clear a8
 obtain ⟨a9, A5, H⟩ := bD H
 try dsimp only at H
 by_cases c6 : a9 = true
 subst c6
 rw [if_pos rfl] at H
 obtain ⟨b0, A7, H⟩ := bD H
 try dsimp only at H
 by_cases c8 : b0 = true
 subst c8
 rw [if_pos rfl] at H
 obtain ⟨b1, A9, H⟩ := bD H
 try dsimp only at H
 by_cases a6 : b1 = true
 subst a6
 rw [if_pos rfl] at H
 have H' := Aside0.mk H
 clear H
 rotate_left
 replace a6 := Bool.eq_false_iff.mpr a6
 subst a6
 rw [if_neg nft] at H
 have H' := Aside0.mk H
 clear H
 rotate_left
 replace c8 := Bool.eq_false_iff.mpr c8
 subst c8
 rw [if_neg nft] at H
 have H' := Aside0.mk H
 clear H
 rotate_left
 replace c6 := Bool.eq_false_iff.mpr c6
 subst c6
 rw [if_neg nft] at H
 have H' := Aside0.mk H
 clear H
 rotate_left
 all_goals (go_wp2_with (first | ((with_reducible refine gate_callee (f := 43) rfl ?_); refine goesL_ (some 10) rfl rfl Tryd.func43 kr rfl #[.int .i64 a0] rfl sM ?_; (with_reducible refine (impl_isWide.calls a0 true _ A5.out).mono ?_); rintro e w' ⟨rfl, ⟨nd, rfl⟩⟩; refine ⟨_, rfl, ?_⟩) | (go_at_call 43; (with_reducible refine (impl_isWide.calls a1 true _ A7.out).mono ?_); rintro e w' ⟨rfl, ⟨nd, rfl⟩⟩) | (go_at_call 43; (with_reducible refine (impl_isWide.calls a2 true _ A9.out).mono ?_); rintro e w' ⟨rfl, ⟨nd, rfl⟩⟩) | (go_at_call 43; (with_reducible refine (impl_isWide.calls a2 false _ A9.out).mono ?_); rintro e w' ⟨rfl, ⟨nd, rfl⟩⟩) | (go_at_call 43; (with_reducible refine (impl_isWide.calls a1 false _ A7.out).mono ?_); rintro e w' ⟨rfl, ⟨nd, rfl⟩⟩) | ((with_reducible refine gate_callee (f := 43) rfl ?_); refine goesL_ (some 10) rfl rfl Tryd.func43 kr rfl #[.int .i64 a0] rfl sM ?_; (with_reducible refine (impl_isWide.calls a0 false _ A5.out).mono ?_); rintro e w' ⟨rfl, ⟨nd, rfl⟩⟩; refine ⟨_, rfl, ?_⟩)))
 all_goals go_meet
 · case rel => exact ⟨_, (decide (a1 ≥ (wrap64 (a2 * a0)))), sR, H', ⟨by first | omega | exact Nat.le_refl _⟩, ⟨bB⟩⟩
 · case rel => exact ⟨_, (true), sR, H', ⟨by first | omega | exact Nat.le_refl _⟩, ⟨bB⟩⟩
 · case rel => exact ⟨_, (true), sR, H', ⟨by first | omega | exact Nat.le_refl _⟩, ⟨bB⟩⟩
 · case rel => exact ⟨_, (true), sR, H', ⟨by first | omega | exact Nat.le_refl _⟩, ⟨bB⟩⟩
 )
 case rest => (
 clear a8
 obtain ⟨kq, a5, rfl, HA, HJ3, HB⟩ := hcut
 cases kq with
 | zero => exact absurd HA.out (by simp [impl_OtherHeight.j0])
 | succ b6 => (
 have H := HA.out
 clear HA
 simp only [impl_OtherHeight.j0] at H
 by_cases a7 : a5 = true
 ·(
 subst a7
 rw [if_pos rfl] at H
 simp only [Option.some.injEq, Prod.mk.injEq] at H
 obtain ⟨rfl, rfl, rfl⟩ := H
 go_wp2
 go_ret3
 exact ⟨sE, bI⟩
 )
 ·(
 replace a7 := Bool.eq_false_iff.mpr a7
 subst a7
 rw [if_neg nft] at H
 obtain ⟨⟨b2, b3, b4⟩, b7, H⟩ := bD H
 try dsimp only at H
 simp only [Option.some.injEq, Prod.mk.injEq] at H
 obtain ⟨rfl, rfl, rfl⟩ := H
 go_wp2_with (first | ((with_reducible refine gate_callee (f := 37) rfl ?_); refine goesL_ (some 37) rfl rfl Tryd.func37 kr rfl #[.int .i64 (wrap64 (a1 * a0)), .int .i64 (wrap64 ((wrap64 (a2 * a0)) - a1))] rfl sM ?_; (with_reducible refine (impl_fraction.calls b6 (wrap64 (a1 * a0)) (wrap64 ((wrap64 (a2 * a0)) - a1)) b2 b3 b4 _ b7.out).mono ?_); rintro e b8 ⟨rfl, hb⟩; refine ⟨_, rfl, ?_⟩; replace HB := Aside0.mk (below_step bB hb); (try clear hb)))
 go_ret3
 exact ⟨sE, bI⟩
 )
 )
 )

/-! ### spec_DrawHeightAt: function 26 -/
-- (its text lies ahead)

/-! ### impl_heightAt: function 52 -/
def impl_heightAt.f (a0_0 : Int) (a0_1 : Int) (a0_2 : Int) (a1 : Bool) (a2 : Int) : Option (Int) := if a1 = true then (some (wrap64 (a0_2 * a2))) else (some (wrap64 (a0_1 * (wrap64 (a0_0 - a2)))))
set_option maxHeartbeats 8000000 in
set_option maxRecDepth 100000 in
theorem impl_heightAt.calls (a0_0 : Int) (a0_1 : Int) (a0_2 : Int) (a1 : Bool) (a2 : Int) (r : Int) (w : World) (h : impl_heightAt.f a0_0 a0_1 a0_2 a1 a2 = some r) :
    Calls Tryd.prog 52 #[.agg #[.int .i64 a0_0, .int .i64 a0_1, .int .i64 a0_2], .bool a1, .int .i64 a2] w fun e w' => e = .returned (.int .i64 r) ∧ Below w.heap.size w w' := by
 have b2 := Tryd.underlying25
 have HB := Aside0.mk (Below.refl w.heap.size w)
 have H := h
 unfold impl_heightAt.f at H
 clear h
 by_cases c4 : a1 = true
 subst c4
 rw [if_pos rfl] at H
 obtain rfl := Option.some.inj H
 rotate_left
 replace c4 := Bool.eq_false_iff.mpr c4
 subst c4
 rw [if_neg nft] at H
 obtain rfl := Option.some.inj H
 rotate_left
 all_goals (go_enter Tryd.func52, Tryd.ntmps52)
 all_goals (go_wp2_with (first | ((with_reducible refine gate_dst (N := 3) rfl ?_); refine box_ (cs := #[.int .i64 a0_0, .int .i64 a0_1, .int .i64 a0_2]) (t := 25) fun b3 hg b6 hbox hb => ?_; have a5 := Aside0.mk (hbox); have b4 := bS HB hg; have b5 := bS HB hg; replace HB := Aside0.mk (below_step bB hb); clear hb hbox hg; obtain ⟨a6, a7, a8, a9, b0, b1⟩ := cf3 a5)))
 all_goals go_ret
 all_goals (exact ⟨sE, bI⟩)

/-! ### impl_HeightAt: function 27 -/
def impl_HeightAt.j0 : Nat → Bool → Int → Bool → Int → Int → Int → Option (Int × Int × Bool)
  | 0, _, _, _, _, _, _ => none
  | k + 1, x1, x2, x18, x285000, x285001, x285002 => if x18 = true then (some (0, 0, false)) else ((impl_heightAt.f x285000 x285001 x285002 x1 x2).bind fun t287 => ((impl_fraction.f k t287 x285000).bind fun bt288 => (some (bt288.1, bt288.2.1, bt288.2.2))))
def impl_HeightAt.f (k : Nat) (a0_0 : Int) (a0_1 : Int) (a0_2 : Int) (a1 : Bool) (a2 : Int) : Option (Int × Int × Bool) := (impl_AreLadders.f a0_0 a0_1 a0_2).bind fun t285 => (if t285 = true then ((impl_within.f a2 0 a0_0).bind fun t286 => (impl_HeightAt.j0 k a1 a2 (!t286) a0_0 a0_1 a0_2)) else (impl_HeightAt.j0 k a1 a2 true a0_0 a0_1 a0_2))
theorem impl_HeightAt.mono_l : ∀ k, (∀ y0 y1 y2 y3 y4 y5, LeO (impl_HeightAt.j0 k y0 y1 y2 y3 y4 y5) (impl_HeightAt.j0 (k + 1) y0 y1 y2 y3 y4 y5))
  | 0 => fun _ _ _ _ _ _ r h => by simp [impl_HeightAt.j0] at h
  | k + 1 => by
    have ih0 := impl_HeightAt.mono_l k
    · intro y0 y1 y2 y3 y4 y5
      unfold impl_HeightAt.j0
      repeat' first
      | (with_reducible exact ih0 _ _ _ _ _ _)
      | (with_reducible exact impl_fraction.mono _ _ _)
      | (with_reducible exact LeO.refl _)
      | (with_reducible exact LeO.none _)
      | (with_reducible refine LeO.ite ?_ ?_)
      | (with_reducible refine LeO.bind ?_ (fun _ => ?_))
      | exact ih0 _ _ _ _ _ _
      | exact impl_fraction.mono _ _ _
      | exact LeO.none _
      | refine LeO.ite ?_ ?_
      | refine LeO.bind ?_ (fun _ => ?_)
theorem impl_HeightAt.mono : ∀ a0 a1 a2 a3 a4 k, LeO (impl_HeightAt.f k a0 a1 a2 a3 a4) (impl_HeightAt.f (k + 1) a0 a1 a2 a3 a4) := by
  intro a0 a1 a2 a3 a4 k
  have ih0 := impl_HeightAt.mono_l k
  unfold impl_HeightAt.f
  repeat' first
      | (with_reducible exact ih0 _ _ _ _ _ _)
      | (with_reducible exact impl_fraction.mono _ _ _)
      | (with_reducible exact LeO.refl _)
      | (with_reducible exact LeO.none _)
      | (with_reducible refine LeO.ite ?_ ?_)
      | (with_reducible refine LeO.bind ?_ (fun _ => ?_))
      | exact ih0 _ _ _ _ _ _
      | exact impl_fraction.mono _ _ _
      | exact LeO.none _
      | refine LeO.ite ?_ ?_
      | refine LeO.bind ?_ (fun _ => ?_)
def impl_HeightAt.T3 : Bool × List (List Nat × List Nat) := (true, [([], []), ([], []), ([], []), ([0, 1, 2], [0, 1, 2]), ([], []), ([4], [4]), ([3, 5, 3], [3, 5]), ([6], [6]), ([6], [6]), ([6], [6]), ([7, 6, 0, 1, 2, 3, 4, 5, 6, 7, 8, 9], [7]), ([8, 10, 0, 1, 2, 3, 4, 5, 6, 7, 8, 9, 10], [8]), ([9, 11, 0, 1, 2, 3, 4, 5, 6, 7, 8, 9, 10, 11], [9])])
def impl_HeightAt.B3 : List Nat := [0, 0, 0, 7, 0, 16, 63, 127, 127, 127, 1023, 2047, 4095]
theorem impl_HeightAt.tab3 : rtab .any (opsOf Tryd.f27 3) = impl_HeightAt.T3 := by kernel_rfl
theorem impl_HeightAt.bits3 : waitsOk impl_HeightAt.T3.2 impl_HeightAt.B3 = true := by kernel_rfl
abbrev impl_HeightAt.pl0 : List (Nat × Option Tmp × Nat) := [q 1 20, q 2 21, q 4 23, qt 0 19, qt 5 24, qo 3 22, qo 6 25, q 7 26, q 8 27, q 9 28, q 10 6, q 11 7, q 12 8]
set_option maxHeartbeats 8000000 in
set_option maxRecDepth 100000 in
theorem impl_HeightAt.calls (k : Nat) (a0_0 : Int) (a0_1 : Int) (a0_2 : Int) (a1 : Bool) (a2 : Int) (r1 : Int) (r2 : Int) (r3 : Bool) (w : World) (h : impl_HeightAt.f k a0_0 a0_1 a0_2 a1 a2 = some (r1, r2, r3)) :
    Calls Tryd.prog 27 #[.agg #[.int .i64 a0_0, .int .i64 a0_1, .int .i64 a0_2], .bool a1, .int .i64 a2] w fun e w' => e = .returned (.tuple #[.int .i64 r1, .int .i64 r2, .bool r3]) ∧ Below w.heap.size w w' := by
 have e1 := Tryd.underlying25
 have HB := Aside0.mk (Below.refl w.heap.size w)
 have H := h
 unfold impl_HeightAt.f at H
 clear h
 have b0 := Aside0.mk H
 clear H
 go_enter Tryd.func27, Tryd.ntmps27
 go_upto_region 1 with (first | ((with_reducible refine gate_dst (N := 3) rfl ?_); refine box_ (cs := #[.int .i64 a0_0, .int .i64 a0_1, .int .i64 a0_2]) (t := 25) fun a6 hg w5 hbox hb => ?_; have a5 := Aside0.mk (hbox); have d9 := bS HB hg; have e0 := bS HB hg; replace HB := Aside0.mk (below_step bB hb); clear hb hbox hg))
 (try simp only [Act.put, List.setIfInBounds_toArray, List.set_cons_zero, List.set_cons_succ])
 go_cut [18] (fun c9 wc => ∃ (kq : Nat) (a7 : Bool), c9 = .bool a7 ∧ Aside0 (impl_HeightAt.j0 kq a1 a2 a7 a0_0 a0_1 a0_2 = some (r1, r2, r3)) ∧ Aside0 (kq ≤ k) ∧ Aside0 (wc.heap[a6]? = some (.cells #[.int .i64 a0_0, .int .i64 a0_1, .int .i64 a0_2] 25 (0, 0))) ∧ Aside0 (Below w.heap.size w wc))
 case first => (
 have H := b0.out
 clear b0
 obtain ⟨b2, A6, H⟩ := bD H
 try dsimp only at H
 by_cases c7 : b2 = true
 ·(
 subst c7
 rw [if_pos rfl] at H
 obtain ⟨b1, A8, H⟩ := bD H
 try dsimp only at H
 have H' := Aside0.mk H
 clear H
 obtain ⟨d0, d1, d2, d3, d4, d5⟩ := cf3 a5
 go_wp2_with (first | ((with_reducible refine gate_callee (f := 20) rfl ?_); refine goesL_ (some 10) rfl rfl Tryd.func20 kr rfl #[.agg #[.int .i64 a0_0, .int .i64 a0_1, .int .i64 a0_2]] rfl sM ?_; (with_reducible refine (impl_AreLadders.calls a0_0 a0_1 a0_2 true _ A6.out).mono ?_); rintro e e2 ⟨rfl, hb⟩; refine ⟨_, rfl, ?_⟩; replace a5 := bQ a5 hb; replace HB := Aside0.mk (below_step bB hb); (try clear hb); obtain ⟨b6, b7, b8, b9, c0, c1⟩ := cf3 a5) | (go_at_call 51; (with_reducible refine (impl_within.calls a2 0 a0_0 b1 _ A8.out).mono ?_); rintro e w' ⟨rfl, ⟨nd, rfl⟩⟩))
 go_meet
 case rel => exact ⟨_, (!b1), sR, H', ⟨by first | omega | exact Nat.le_refl _⟩, (bA a5), ⟨bB⟩⟩
 )
 ·(
 replace c7 := Bool.eq_false_iff.mpr c7
 subst c7
 rw [if_neg nft] at H
 have H' := Aside0.mk H
 clear H
 obtain ⟨c2, c3, c4, c5, c6, c8⟩ := cf3 a5
 go_wp2_with (first | ((with_reducible refine gate_callee (f := 20) rfl ?_); refine goesL_ (some 10) rfl rfl Tryd.func20 kr rfl #[.agg #[.int .i64 a0_0, .int .i64 a0_1, .int .i64 a0_2]] rfl sM ?_; (with_reducible refine (impl_AreLadders.calls a0_0 a0_1 a0_2 false _ A6.out).mono ?_); rintro e e3 ⟨rfl, hb⟩; refine ⟨_, rfl, ?_⟩; replace a5 := bQ a5 hb; replace HB := Aside0.mk (below_step bB hb); (try clear hb)))
 go_meet
 case rel => exact ⟨_, (true), sR, H', ⟨by first | omega | exact Nat.le_refl _⟩, (bA a5), ⟨bB⟩⟩
 )
 )
 case rest => (
 clear b0
 obtain ⟨kq, a7, rfl, HA, HJ3, a5, HB⟩ := hcut
 cases kq with
 | zero => exact absurd HA.out (by simp [impl_HeightAt.j0])
 | succ d6 => (
 have H := HA.out
 clear HA
 simp only [impl_HeightAt.j0] at H
 by_cases a9 : a7 = true
 ·(
 subst a9
 rw [if_pos rfl] at H
 simp only [Option.some.injEq, Prod.mk.injEq] at H
 obtain ⟨rfl, rfl, rfl⟩ := H
 go_wp2
 go_ret3
 exact ⟨sE, bI⟩
 )
 ·(
 replace a9 := Bool.eq_false_iff.mpr a9
 subst a9
 rw [if_neg nft] at H
 obtain ⟨a8, d7, H⟩ := bD H
 try dsimp only at H
 obtain ⟨⟨b3, b4, b5⟩, d8, H⟩ := bD H
 try dsimp only at H
 simp only [Option.some.injEq, Prod.mk.injEq] at H
 obtain ⟨rfl, rfl, rfl⟩ := H
 try go_wp2
 replace a5 := bD1 a5
 replace HB := Aside0.mk (below_drew1 HB.out)
 refine st_ 13 impl_HeightAt.pl0 (S := fun w' => w'.cell? ⟨a6, 0, none⟩ = some (.int .i64 a0_0) ∧ w'.cell? ⟨a6, 1, none⟩ = some (.int .i64 a0_1) ∧ w'.cell? ⟨a6, 2, none⟩ = some (.int .i64 a0_2)) (ds := []) impl_HeightAt.tab3 impl_HeightAt.bits3 cS (fun hHeld HT_ HW_ => ?_)
 generalize wc.drew = e4 at a5 HB hHeld ⊢
 iterate 5 (first | refine pA HT_ ?_ | refine pT HT_ HW_ hHeld ?_)
 refine pO HT_ fun K hK => ?_
 refine goes_ Tryd.func52 kr rfl #[.agg #[.int .i64 a0_0, .int .i64 a0_1, .int .i64 a0_2], .bool a1, .int .i64 a2] (by rfl) rfl rfl sM ?_
 with_reducible refine (impl_heightAt.calls a0_0 a0_1 a0_2 a1 a2 a8 _ d7.out).mono ?_
 rintro e e5 ⟨rfl, hb⟩
 refine ⟨_, rfl, ?_⟩
 replace a5 := bQ a5 hb
 replace HB := Aside0.mk (below_step bB hb)
 try clear hb
 refine hK.out _ _ cS (fun hHeld => ?_)
 clear hK K
 refine nP ?_
 refine pO HT_ fun K hK => ?_
 refine goes_ Tryd.func37 kr rfl #[.int .i64 a8, .int .i64 a0_0] (by rfl) rfl rfl sM ?_
 with_reducible refine (impl_fraction.calls d6 a8 a0_0 b3 b4 b5 _ d8.out).mono ?_
 rintro e e6 ⟨rfl, hb⟩
 refine ⟨_, rfl, ?_⟩
 replace a5 := bQ a5 hb
 replace HB := Aside0.mk (below_step bB hb)
 try clear hb
 refine hK.out _ _ cS (fun hHeld => ?_)
 clear hK K
 refine nP ?_
 iterate 6 refine pA HT_ ?_
 refine pD HT_ ?_
 try go_wp2
 (try rw [dSet])
 go_ret3
 exact ⟨sE, bI⟩
 )
 )
 )

/-! ### spec_clAsked: function 53 -/
def spec_clAsked.f (a0_0 : Int) (a0_1 : Int) (a0_2 : Int) (a1 : Int) : Option (Bool) := (spec_clGood.f a0_0 a0_1 a0_2).bind fun t292 => (if t292 = true then ((spec_l1In.f a1 0 a0_0).bind fun t293 => (some t293)) else (some false))
set_option maxHeartbeats 8000000 in
set_option maxRecDepth 100000 in
theorem spec_clAsked.calls (a0_0 : Int) (a0_1 : Int) (a0_2 : Int) (a1 : Int) (r : Bool) (w : World) (h : spec_clAsked.f a0_0 a0_1 a0_2 a1 = some r) :
    Calls Tryd.prog 53 #[.agg #[.int .i64 a0_0, .int .i64 a0_1, .int .i64 a0_2], .int .i64 a1] w fun e w' => e = .returned (.bool r) ∧ Below w.heap.size w w' := by
 have c1 := Tryd.underlying25
 have HB := Aside0.mk (Below.refl w.heap.size w)
 have H := h
 unfold spec_clAsked.f at H
 clear h
 obtain ⟨a6, A3, H⟩ := bD H
 try dsimp only at H
 by_cases c4 : a6 = true
 subst c4
 rw [if_pos rfl] at H
 obtain ⟨a7, A5, H⟩ := bD H
 try dsimp only at H
 obtain rfl := Option.some.inj H
 rotate_left
 replace c4 := Bool.eq_false_iff.mpr c4
 subst c4
 rw [if_neg nft] at H
 obtain rfl := Option.some.inj H
 rotate_left
 all_goals (go_enter Tryd.func53, Tryd.ntmps53)
 all_goals (go_wp2_with (first | ((with_reducible refine gate_dst (N := 2) rfl ?_); refine box_ (cs := #[.int .i64 a0_0, .int .i64 a0_1, .int .i64 a0_2]) (t := 25) fun c2 hg c6 hbox hb => ?_; have a5 := Aside0.mk (hbox); have c3 := bS HB hg; have c5 := bS HB hg; replace HB := Aside0.mk (below_step bB hb); clear hb hbox hg; obtain ⟨a8, a9, b0, b1, b2, b3⟩ := cf3 a5) | ((with_reducible refine gate_callee (f := 38) rfl ?_); refine goesL_ (some 6) rfl rfl Tryd.func38 kr rfl #[.agg #[.int .i64 a0_0, .int .i64 a0_1, .int .i64 a0_2]] rfl sM ?_; (with_reducible refine (spec_clGood.calls a0_0 a0_1 a0_2 true _ A3.out).mono ?_); rintro e c0 ⟨rfl, hb⟩; refine ⟨_, rfl, ?_⟩; replace a5 := bQ a5 hb; replace HB := Aside0.mk (below_step bB hb); (try clear hb); obtain ⟨b4, b5, b6, b7, b8, b9⟩ := cf3 a5) | (go_at_call 56; (with_reducible refine (spec_l1In.calls a1 0 a0_0 a7 _ A5.out).mono ?_); rintro e w' ⟨rfl, ⟨nd, rfl⟩⟩) | ((with_reducible refine gate_callee (f := 38) rfl ?_); refine goesL_ (some 6) rfl rfl Tryd.func38 kr rfl #[.agg #[.int .i64 a0_0, .int .i64 a0_1, .int .i64 a0_2]] rfl sM ?_; (with_reducible refine (spec_clGood.calls a0_0 a0_1 a0_2 false _ A3.out).mono ?_); rintro e c0 ⟨rfl, hb⟩; refine ⟨_, rfl, ?_⟩; replace a5 := bQ a5 hb; replace HB := Aside0.mk (below_step bB hb); (try clear hb))))
 all_goals go_ret
 all_goals (exact ⟨sE, bI⟩)

/-! ### spec_clAt: function 54 -/
def spec_clAt.f (a0_0 : Int) (a0_1 : Int) (a0_2 : Int) (a1 : Bool) (a2 : Int) : Option (Int) := if a1 = true then (some (wrap64 (a0_2 * a2))) else (some (wrap64 (a0_1 * (wrap64 (a0_0 - a2)))))
set_option maxHeartbeats 8000000 in
set_option maxRecDepth 100000 in
theorem spec_clAt.calls (a0_0 : Int) (a0_1 : Int) (a0_2 : Int) (a1 : Bool) (a2 : Int) (r : Int) (w : World) (h : spec_clAt.f a0_0 a0_1 a0_2 a1 a2 = some r) :
    Calls Tryd.prog 54 #[.agg #[.int .i64 a0_0, .int .i64 a0_1, .int .i64 a0_2], .bool a1, .int .i64 a2] w fun e w' => e = .returned (.int .i64 r) ∧ Below w.heap.size w w' := by
 have b2 := Tryd.underlying25
 have HB := Aside0.mk (Below.refl w.heap.size w)
 have H := h
 unfold spec_clAt.f at H
 clear h
 by_cases c4 : a1 = true
 subst c4
 rw [if_pos rfl] at H
 obtain rfl := Option.some.inj H
 rotate_left
 replace c4 := Bool.eq_false_iff.mpr c4
 subst c4
 rw [if_neg nft] at H
 obtain rfl := Option.some.inj H
 rotate_left
 all_goals (go_enter Tryd.func54, Tryd.ntmps54)
 all_goals (go_wp2_with (first | ((with_reducible refine gate_dst (N := 3) rfl ?_); refine box_ (cs := #[.int .i64 a0_0, .int .i64 a0_1, .int .i64 a0_2]) (t := 25) fun b3 hg b6 hbox hb => ?_; have a5 := Aside0.mk (hbox); have b4 := bS HB hg; have b5 := bS HB hg; replace HB := Aside0.mk (below_step bB hb); clear hb hbox hg; obtain ⟨a6, a7, a8, a9, b0, b1⟩ := cf3 a5)))
 all_goals go_ret
 all_goals (exact ⟨sE, bI⟩)

/-! ### spec_HeightAt: function 28 -/
def spec_HeightAt.f (k : Nat) (a0_0 : Int) (a0_1 : Int) (a0_2 : Int) (a1 : Bool) (a2 : Int) : Option (Int × Int × Bool) := (spec_clAsked.f a0_0 a0_1 a0_2 a2).bind fun t296 => (if t296 = true then ((spec_clAt.f a0_0 a0_1 a0_2 a1 a2).bind fun t297 => ((spec_clLow.f k t297 a0_0).bind fun bt298 => (some (bt298.1, bt298.2, true)))) else (some (0, 0, false)))
theorem spec_HeightAt.mono : ∀ a0 a1 a2 a3 a4 k, LeO (spec_HeightAt.f k a0 a1 a2 a3 a4) (spec_HeightAt.f (k + 1) a0 a1 a2 a3 a4) := by
  intro a0 a1 a2 a3 a4 k
  unfold spec_HeightAt.f
  repeat' first
      | (with_reducible exact spec_clLow.mono _ _ _)
      | (with_reducible exact LeO.refl _)
      | (with_reducible exact LeO.none _)
      | (with_reducible refine LeO.ite ?_ ?_)
      | (with_reducible refine LeO.bind ?_ (fun _ => ?_))
      | exact spec_clLow.mono _ _ _
      | exact LeO.none _
      | refine LeO.ite ?_ ?_
      | refine LeO.bind ?_ (fun _ => ?_)
def spec_HeightAt.T3 : Bool × List (List Nat × List Nat) := (true, [([], []), ([], []), ([], []), ([0, 1, 2], [0, 1, 2]), ([], []), ([4], [4]), ([3, 5, 3], [3, 5]), ([6], [6]), ([7], [7]), ([7], [7]), ([8, 6, 0, 1, 2, 3, 4, 5, 6, 7, 8], [8]), ([9, 10, 0, 1, 2, 3, 4, 5, 6, 7, 8, 9, 10], [9])])
def spec_HeightAt.B3 : List Nat := [0, 0, 0, 7, 0, 16, 63, 127, 255, 255, 511, 2047]
theorem spec_HeightAt.tab3 : rtab .any (opsOf Tryd.f28 3) = spec_HeightAt.T3 := by kernel_rfl
theorem spec_HeightAt.bits3 : waitsOk spec_HeightAt.T3.2 spec_HeightAt.B3 = true := by kernel_rfl
abbrev spec_HeightAt.pl0 : List (Nat × Option Tmp × Nat) := [q 1 17, q 2 18, q 4 20, qt 0 16, qt 5 21, qo 3 19, qo 6 22, q 7 15, q 8 23, q 9 24, q 10 9, q 11 10]
set_option maxHeartbeats 8000000 in
set_option maxRecDepth 100000 in
theorem spec_HeightAt.calls (k : Nat) (a0_0 : Int) (a0_1 : Int) (a0_2 : Int) (a1 : Bool) (a2 : Int) (r1 : Int) (r2 : Int) (r3 : Bool) (w : World) (h : spec_HeightAt.f k a0_0 a0_1 a0_2 a1 a2 = some (r1, r2, r3)) :
    Calls Tryd.prog 28 #[.agg #[.int .i64 a0_0, .int .i64 a0_1, .int .i64 a0_2], .bool a1, .int .i64 a2] w fun e w' => e = .returned (.tuple #[.int .i64 r1, .int .i64 r2, .bool r3]) ∧ Below w.heap.size w w' := by
 have c7 := Tryd.underlying25
 have HB := Aside0.mk (Below.refl w.heap.size w)
 have H := h
 unfold spec_HeightAt.f at H
 clear h
 obtain ⟨b0, A4, H⟩ := bD H
 try dsimp only at H
 by_cases c5 : b0 = true
 ·(
 subst c5
 rw [if_pos rfl] at H
 obtain ⟨a7, A6, H⟩ := bD H
 try dsimp only at H
 obtain ⟨⟨b1, b2⟩, A7, H⟩ := bD H
 try dsimp only at H
 simp only [Option.some.injEq, Prod.mk.injEq] at H
 obtain ⟨rfl, rfl, rfl⟩ := H
 go_enter Tryd.func28, Tryd.ntmps28
 try go_wp2_with (first | ((with_reducible refine gate_dst (N := 3) rfl ?_); refine box_ (cs := #[.int .i64 a0_0, .int .i64 a0_1, .int .i64 a0_2]) (t := 25) fun a6 hg w8 hbox hb => ?_; have a5 := Aside0.mk (hbox); have a8 := bS HB hg; have a9 := bS HB hg; replace HB := Aside0.mk (below_step bB hb); clear hb hbox hg; obtain ⟨b9, c0, c1, c2, c3, c4⟩ := cf3 a5) | ((with_reducible refine gate_callee (f := 53) rfl ?_); refine goesL_ (some 13) rfl rfl Tryd.func53 kr rfl #[.agg #[.int .i64 a0_0, .int .i64 a0_1, .int .i64 a0_2], .int .i64 a2] rfl sM ?_; (with_reducible refine (spec_clAsked.calls a0_0 a0_1 a0_2 a2 true _ A4.out).mono ?_); rintro e c6 ⟨rfl, hb⟩; refine ⟨_, rfl, ?_⟩; replace a5 := bQ a5 hb; replace HB := Aside0.mk (below_step bB hb); (try clear hb)))
 replace a5 := bD1 a5
 replace HB := Aside0.mk (below_drew1 HB.out)
 refine st_ 12 spec_HeightAt.pl0 (S := fun w' => w'.cell? ⟨a6, 0, none⟩ = some (.int .i64 a0_0) ∧ w'.cell? ⟨a6, 1, none⟩ = some (.int .i64 a0_1) ∧ w'.cell? ⟨a6, 2, none⟩ = some (.int .i64 a0_2)) (ds := []) spec_HeightAt.tab3 spec_HeightAt.bits3 cS (fun hHeld HT_ HW_ => ?_)
 generalize c6.drew = c8 at a5 HB hHeld ⊢
 iterate 5 (first | refine pA HT_ ?_ | refine pT HT_ HW_ hHeld ?_)
 refine pO HT_ fun K hK => ?_
 refine goes_ Tryd.func54 kr rfl #[.agg #[.int .i64 a0_0, .int .i64 a0_1, .int .i64 a0_2], .bool a1, .int .i64 a2] (by rfl) rfl rfl sM ?_
 with_reducible refine (spec_clAt.calls a0_0 a0_1 a0_2 a1 a2 a7 _ A6.out).mono ?_
 rintro e c9 ⟨rfl, hb⟩
 refine ⟨_, rfl, ?_⟩
 replace a5 := bQ a5 hb
 replace HB := Aside0.mk (below_step bB hb)
 try clear hb
 refine hK.out _ _ cS (fun hHeld => ?_)
 clear hK K
 refine nP ?_
 refine pO HT_ fun K hK => ?_
 refine goes_ Tryd.func39 kr rfl #[.int .i64 a7, .int .i64 a0_0] (by rfl) rfl rfl sM ?_
 with_reducible refine (spec_clLow.calls k a7 a0_0 b1 b2 _ A7.out).mono ?_
 rintro e w' ⟨rfl, ⟨nd, rfl⟩⟩
 refine ⟨_, rfl, ?_⟩
 refine hK.out _ _ cS (fun hHeld => ?_)
 clear hK K
 refine nP ?_
 iterate 5 refine pA HT_ ?_
 refine pD HT_ ?_
 try go_wp2
 (try rw [dSet])
 go_ret3
 exact ⟨sE, bI⟩
 )
 ·(
 replace c5 := Bool.eq_false_iff.mpr c5
 subst c5
 rw [if_neg nft] at H
 simp only [Option.some.injEq, Prod.mk.injEq] at H
 obtain ⟨rfl, rfl, rfl⟩ := H
 go_enter Tryd.func28, Tryd.ntmps28
 go_wp2_with (first | ((with_reducible refine gate_dst (N := 3) rfl ?_); refine box_ (cs := #[.int .i64 a0_0, .int .i64 a0_1, .int .i64 a0_2]) (t := 25) fun a6 hg d0 hbox hb => ?_; have a5 := Aside0.mk (hbox); have a8 := bS HB hg; have a9 := bS HB hg; replace HB := Aside0.mk (below_step bB hb); clear hb hbox hg; obtain ⟨b3, b4, b5, b6, b7, b8⟩ := cf3 a5) | ((with_reducible refine gate_callee (f := 53) rfl ?_); refine goesL_ (some 13) rfl rfl Tryd.func53 kr rfl #[.agg #[.int .i64 a0_0, .int .i64 a0_1, .int .i64 a0_2], .int .i64 a2] rfl sM ?_; (with_reducible refine (spec_clAsked.calls a0_0 a0_1 a0_2 a2 false _ A4.out).mono ?_); rintro e d1 ⟨rfl, hb⟩; refine ⟨_, rfl, ?_⟩; replace a5 := bQ a5 hb; replace HB := Aside0.mk (below_step bB hb); (try clear hb)))
 go_ret3
 exact ⟨sE, bI⟩
 )

end Go.Proofs.YtcfknhmdhglmfaaDoor.PFnLaddersCross
