-- Written by xprint.py, a program of this session, for this seat; Lean checks it.
import Derived.Test.YtnmhefdjakjngaaGreatDoorVM
import Derived.Test.YtnmhefdjakjngaaGreatDoorPFnMirrorsFacex0
import Derived.Test.YtnmhefdjakjngaaGreatDoorPFnMirrorsFacex2
import Derived.Test.YtnmhefdjakjngaaGreatDoorPFnMirrorsFacex3
import Derived.Test.YtnmhefdjakjngaaGreatDoorPFnMirrorsFacex5
import Derived.Test.YtnmhefdjakjngaaGreatDoorPFnMirrorsFacex6
import Derived.Test.YtnmhefdjakjngaaGreatDoorPFnMirrorsFacex10
import Derived.Test.YtnmhefdjakjngaaGreatDoorPFnMirrorsFacex11
namespace Go.Proofs.YtnmhefdjakjngaaGreatDoor.PFnMirrorsFace
open Go.Proofs.YtnmhefdjakjngaaGreatDoorV Go.RowKit Go.Proofs.YtnmhefdjakjngaaGreatDoorW.PrintWords Go.Proofs.YtnmhefdjakjngaaGreatDoorW.PrintLast Go.Proofs.YtnmhefdjakjngaaGreatDoorW.PrintMore
attribute [local go_sem] max2_int min2_int max_two min_two max_three min_three max_four min_four   -- for this text's walks alone
set_option linter.unusedVariables false
set_option linter.unusedSimpArgs false

/-! ### impl_WedgeSteps: function 30 -/
def impl_WedgeSteps.j0 : Nat → Int → Int → Int → Bool → Option (Int × Bool)
  | 0, _, _, _, _ => none
  | k + 1, x0, x1, x2, x17 => if x17 = true then (some (0, false)) else ((impl_wedgeSteps.f k x0 x1).bind fun t424 => (if 0 ≤ x2 then (if x2 < (t424.length : Int) then (if (rd t424 x2) ≤ 0 then (some (0, false)) else (some (rd t424 x2, true))) else (none)) else (none)))
def impl_WedgeSteps.f (k : Nat) (a0 : Int) (a1 : Int) (a2 : Int) : Option (Int × Bool) := (impl_isWedge.f a0 a1).bind fun t422 => (if t422 = true then ((impl_within.f a2 0 359).bind fun t423 => (impl_WedgeSteps.j0 k a0 a1 a2 (!t423))) else (impl_WedgeSteps.j0 k a0 a1 a2 true))
theorem impl_WedgeSteps.mono_l : ∀ k, (∀ y0 y1 y2 y3, LeO (impl_WedgeSteps.j0 k y0 y1 y2 y3) (impl_WedgeSteps.j0 (k + 1) y0 y1 y2 y3))
  | 0 => fun _ _ _ _ r h => by simp [impl_WedgeSteps.j0] at h
  | k + 1 => by
    have ih0 := impl_WedgeSteps.mono_l k
    · intro y0 y1 y2 y3
      unfold impl_WedgeSteps.j0
      repeat' first
      | (with_reducible exact ih0 _ _ _ _)
      | (with_reducible exact impl_wedgeSteps.mono _ _ _)
      | (with_reducible exact LeO.refl _)
      | (with_reducible exact LeO.none _)
      | (with_reducible refine LeO.ite ?_ ?_)
      | (with_reducible refine LeO.bind ?_ (fun _ => ?_))
      | exact ih0 _ _ _ _
      | exact impl_wedgeSteps.mono _ _ _
      | exact LeO.none _
      | refine LeO.ite ?_ ?_
      | refine LeO.bind ?_ (fun _ => ?_)
theorem impl_WedgeSteps.mono : ∀ a0 a1 a2 k, LeO (impl_WedgeSteps.f k a0 a1 a2) (impl_WedgeSteps.f (k + 1) a0 a1 a2) := by
  intro a0 a1 a2 k
  have ih0 := impl_WedgeSteps.mono_l k
  unfold impl_WedgeSteps.f
  repeat' first
      | (with_reducible exact ih0 _ _ _ _)
      | (with_reducible exact impl_wedgeSteps.mono _ _ _)
      | (with_reducible exact LeO.refl _)
      | (with_reducible exact LeO.none _)
      | (with_reducible refine LeO.ite ?_ ?_)
      | (with_reducible refine LeO.bind ?_ (fun _ => ?_))
      | exact ih0 _ _ _ _
      | exact impl_wedgeSteps.mono _ _ _
      | exact LeO.none _
      | refine LeO.ite ?_ ?_
      | refine LeO.bind ?_ (fun _ => ?_)
set_option maxHeartbeats 8000000 in
set_option maxRecDepth 100000 in
theorem impl_WedgeSteps.calls (k : Nat) (a0 : Int) (a1 : Int) (a2 : Int) (r1 : Int) (r2 : Bool) (w : World) (h : impl_WedgeSteps.f k a0 a1 a2 = some (r1, r2)) :
    Calls Tryz.prog 30 #[.int .i64 a0, .int .i64 a1, .int .i64 a2] w fun e w' => e = .returned (.tuple #[.int .i64 r1, .bool r2]) ∧ Below w.heap.size w w' := by
 have HB := Aside0.mk (Below.refl w.heap.size w)
 have H := h
 unfold impl_WedgeSteps.f at H
 clear h
 have a8 := Aside0.mk H
 clear H
 go_enter Tryz.func30, Tryz.ntmps30
 go_upto_region 1 with (fail)
 go_cut [17] (fun b7 wc => ∃ (kq : Nat) (a4 : Bool), b7 = .bool a4 ∧ Aside0 (impl_WedgeSteps.j0 kq a0 a1 a2 a4 = some (r1, r2)) ∧ Aside0 (kq ≤ k) ∧ Aside0 (Below w.heap.size w wc))
 case first => (
 have H := a8.out
 clear a8
 obtain ⟨b5, A5, H⟩ := bD H
 try dsimp only at H
 by_cases c6 : b5 = true
 ·(
 subst c6
 rw [if_pos rfl] at H
 obtain ⟨a9, A7, H⟩ := bD H
 try dsimp only at H
 have H' := Aside0.mk H
 clear H
 go_wp2_with (first | ((with_reducible refine gate_callee (f := 63) rfl ?_); refine goesL_ (some 11) rfl rfl Tryz.func63 kr rfl #[.int .i64 a0, .int .i64 a1] rfl sM ?_; (with_reducible refine (impl_isWedge.calls a0 a1 true _ A5.out).mono ?_); rintro e w' ⟨rfl, ⟨nd, rfl⟩⟩; refine ⟨_, rfl, ?_⟩) | (go_at_call 39; (with_reducible refine (impl_within.calls a2 0 359 a9 _ A7.out).mono ?_); rintro e w' ⟨rfl, ⟨nd, rfl⟩⟩))
 go_meet
 case rel => exact ⟨_, (!a9), sR, H', ⟨by first | omega | exact Nat.le_refl _⟩, ⟨bB⟩⟩
 )
 ·(
 replace c6 := Bool.eq_false_iff.mpr c6
 subst c6
 rw [if_neg nft] at H
 have H' := Aside0.mk H
 clear H
 go_wp2_with (first | ((with_reducible refine gate_callee (f := 63) rfl ?_); refine goesL_ (some 11) rfl rfl Tryz.func63 kr rfl #[.int .i64 a0, .int .i64 a1] rfl sM ?_; (with_reducible refine (impl_isWedge.calls a0 a1 false _ A5.out).mono ?_); rintro e w' ⟨rfl, ⟨nd, rfl⟩⟩; refine ⟨_, rfl, ?_⟩))
 go_meet
 case rel => exact ⟨_, (true), sR, H', ⟨by first | omega | exact Nat.le_refl _⟩, ⟨bB⟩⟩
 )
 )
 case rest => (
 clear a8
 obtain ⟨kq, a4, rfl, HA, HJ3, HB⟩ := hcut
 cases kq with
 | zero => exact absurd HA.out (by simp [impl_WedgeSteps.j0])
 | succ b8 => (
 have H := HA.out
 clear HA
 simp only [impl_WedgeSteps.j0] at H
 by_cases c8 : a4 = true
 ·(
 subst c8
 rw [if_pos rfl] at H
 simp only [Option.some.injEq, Prod.mk.injEq] at H
 obtain ⟨rfl, rfl⟩ := H
 go_wp2
 go_ret2
 exact ⟨sE, bI⟩
 )
 ·(
 replace c8 := Bool.eq_false_iff.mpr c8
 subst c8
 rw [if_neg nft] at H
 obtain ⟨a3, A9, H⟩ := bD H
 try dsimp only at H
 by_cases a6 : 0 ≤ a2
 rw [if_pos a6] at H
 have c1 : decide (0 ≤ a2) = true := decide_eq_true a6
 clear a6
 by_cases a7 : a2 < (a3.length : Int)
 rw [if_pos a7] at H
 have c2 : decide (a2 < (a3.length : Int)) = true := decide_eq_true a7
 clear a7
 by_cases a5 : (rd a3 a2) ≤ 0
 rw [if_pos a5] at H
 have b4 : decide ((rd a3 a2) ≤ 0) = true := decide_eq_true a5
 clear a5
 simp only [Option.some.injEq, Prod.mk.injEq] at H
 obtain ⟨rfl, rfl⟩ := H
 rotate_left
 rw [if_neg a5] at H
 have b4 : decide ((rd a3 a2) ≤ 0) = false := decide_eq_false a5
 clear a5
 simp only [Option.some.injEq, Prod.mk.injEq] at H
 obtain ⟨rfl, rfl⟩ := H
 rotate_left
 rw [if_neg a7] at H
 exact absurd H (by simp)
 rw [if_neg a6] at H
 exact absurd H (by simp)
 all_goals (go_wp2_with (first | ((with_reducible refine gate_callee (f := 64) rfl ?_); refine goesL_ (some 20) rfl rfl Tryz.func64 kr rfl #[.int .i64 a0, .int .i64 a1] rfl sM ?_; (with_reducible refine (impl_wedgeSteps.calls b8 a0 a1 a3 _ A9.out).mono ?_); rintro e c7 ⟨c9, rfl, b0, hb⟩; refine ⟨_, rfl, ?_⟩; have b1 := Aside0.mk (Kd.R_lower b0 (below_size bB)); replace HB := Aside0.mk (below_step bB hb); (try clear hb); (try clear b0); obtain ⟨c3, c4, b6⟩ := Kd.R_slice b1.out; subst b6; have b2 : 0 ≤ (a2 : Int) := of_decide_eq_true asm; have b3 : a2 < (a3.length : Int) := of_decide_eq_true asm; obtain ⟨c5, b9, c0⟩ := Kd.at_int (Kd.R_reads' b1.out).2.2 a2 b2 b3; cases b9; replace b2 := eq_true b2; replace b3 := eq_true b3)))
 all_goals go_ret2
 all_goals (exact ⟨sE, bI⟩)
 )
 )
 )

/-! ### spec_WedgeSteps: function 31 -/
def spec_WedgeSteps.j0 : Nat → Int → Int → Int → Bool → Option (Int × Bool)
  | 0, _, _, _, _ => none
  | k + 1, x0, x1, x2, x17 => if x17 = true then (some (0, false)) else ((spec_miSteps.f k x0 x1).bind fun t430 => (if 0 ≤ x2 then (if x2 < (t430.length : Int) then (if (rd t430 x2) < 1 then (some (0, false)) else (some (rd t430 x2, true))) else (none)) else (none)))
def spec_WedgeSteps.f (k : Nat) (a0 : Int) (a1 : Int) (a2 : Int) : Option (Int × Bool) := (spec_miWedge.f a0 a1).bind fun t428 => (if t428 = true then ((spec_l1In.f a2 0 359).bind fun t429 => (spec_WedgeSteps.j0 k a0 a1 a2 (!t429))) else (spec_WedgeSteps.j0 k a0 a1 a2 true))
theorem spec_WedgeSteps.mono_l : ∀ k, (∀ y0 y1 y2 y3, LeO (spec_WedgeSteps.j0 k y0 y1 y2 y3) (spec_WedgeSteps.j0 (k + 1) y0 y1 y2 y3))
  | 0 => fun _ _ _ _ r h => by simp [spec_WedgeSteps.j0] at h
  | k + 1 => by
    have ih0 := spec_WedgeSteps.mono_l k
    · intro y0 y1 y2 y3
      unfold spec_WedgeSteps.j0
      repeat' first
      | (with_reducible exact ih0 _ _ _ _)
      | (with_reducible exact spec_miSteps.mono _ _ _)
      | (with_reducible exact LeO.refl _)
      | (with_reducible exact LeO.none _)
      | (with_reducible refine LeO.ite ?_ ?_)
      | (with_reducible refine LeO.bind ?_ (fun _ => ?_))
      | exact ih0 _ _ _ _
      | exact spec_miSteps.mono _ _ _
      | exact LeO.none _
      | refine LeO.ite ?_ ?_
      | refine LeO.bind ?_ (fun _ => ?_)
theorem spec_WedgeSteps.mono : ∀ a0 a1 a2 k, LeO (spec_WedgeSteps.f k a0 a1 a2) (spec_WedgeSteps.f (k + 1) a0 a1 a2) := by
  intro a0 a1 a2 k
  have ih0 := spec_WedgeSteps.mono_l k
  unfold spec_WedgeSteps.f
  repeat' first
      | (with_reducible exact ih0 _ _ _ _)
      | (with_reducible exact spec_miSteps.mono _ _ _)
      | (with_reducible exact LeO.refl _)
      | (with_reducible exact LeO.none _)
      | (with_reducible refine LeO.ite ?_ ?_)
      | (with_reducible refine LeO.bind ?_ (fun _ => ?_))
      | exact ih0 _ _ _ _
      | exact spec_miSteps.mono _ _ _
      | exact LeO.none _
      | refine LeO.ite ?_ ?_
      | refine LeO.bind ?_ (fun _ => ?_)
set_option maxHeartbeats 8000000 in
set_option maxRecDepth 100000 in
theorem spec_WedgeSteps.calls (k : Nat) (a0 : Int) (a1 : Int) (a2 : Int) (r1 : Int) (r2 : Bool) (w : World) (h : spec_WedgeSteps.f k a0 a1 a2 = some (r1, r2)) :
    Calls Tryz.prog 31 #[.int .i64 a0, .int .i64 a1, .int .i64 a2] w fun e w' => e = .returned (.tuple #[.int .i64 r1, .bool r2]) ∧ Below w.heap.size w w' := by
 have HB := Aside0.mk (Below.refl w.heap.size w)
 have H := h
 unfold spec_WedgeSteps.f at H
 clear h
 have a8 := Aside0.mk H
 clear H
 go_enter Tryz.func31, Tryz.ntmps31
 go_upto_region 1 with (fail)
 go_cut [17] (fun b7 wc => ∃ (kq : Nat) (a4 : Bool), b7 = .bool a4 ∧ Aside0 (spec_WedgeSteps.j0 kq a0 a1 a2 a4 = some (r1, r2)) ∧ Aside0 (kq ≤ k) ∧ Aside0 (Below w.heap.size w wc))
 case first => (
 have H := a8.out
 clear a8
 obtain ⟨b5, A5, H⟩ := bD H
 try dsimp only at H
 by_cases c6 : b5 = true
 ·(
 subst c6
 rw [if_pos rfl] at H
 obtain ⟨a9, A7, H⟩ := bD H
 try dsimp only at H
 have H' := Aside0.mk H
 clear H
 go_wp2_with (first | ((with_reducible refine gate_callee (f := 65) rfl ?_); refine goesL_ (some 11) rfl rfl Tryz.func65 kr rfl #[.int .i64 a0, .int .i64 a1] rfl sM ?_; (with_reducible refine (spec_miWedge.calls a0 a1 true _ A5.out).mono ?_); rintro e w' ⟨rfl, ⟨nd, rfl⟩⟩; refine ⟨_, rfl, ?_⟩) | (go_at_call 44; (with_reducible refine (spec_l1In.calls a2 0 359 a9 _ A7.out).mono ?_); rintro e w' ⟨rfl, ⟨nd, rfl⟩⟩))
 go_meet
 case rel => exact ⟨_, (!a9), sR, H', ⟨by first | omega | exact Nat.le_refl _⟩, ⟨bB⟩⟩
 )
 ·(
 replace c6 := Bool.eq_false_iff.mpr c6
 subst c6
 rw [if_neg nft] at H
 have H' := Aside0.mk H
 clear H
 go_wp2_with (first | ((with_reducible refine gate_callee (f := 65) rfl ?_); refine goesL_ (some 11) rfl rfl Tryz.func65 kr rfl #[.int .i64 a0, .int .i64 a1] rfl sM ?_; (with_reducible refine (spec_miWedge.calls a0 a1 false _ A5.out).mono ?_); rintro e w' ⟨rfl, ⟨nd, rfl⟩⟩; refine ⟨_, rfl, ?_⟩))
 go_meet
 case rel => exact ⟨_, (true), sR, H', ⟨by first | omega | exact Nat.le_refl _⟩, ⟨bB⟩⟩
 )
 )
 case rest => (
 clear a8
 obtain ⟨kq, a4, rfl, HA, HJ3, HB⟩ := hcut
 cases kq with
 | zero => exact absurd HA.out (by simp [spec_WedgeSteps.j0])
 | succ b8 => (
 have H := HA.out
 clear HA
 simp only [spec_WedgeSteps.j0] at H
 by_cases c8 : a4 = true
 ·(
 subst c8
 rw [if_pos rfl] at H
 simp only [Option.some.injEq, Prod.mk.injEq] at H
 obtain ⟨rfl, rfl⟩ := H
 go_wp2
 go_ret2
 exact ⟨sE, bI⟩
 )
 ·(
 replace c8 := Bool.eq_false_iff.mpr c8
 subst c8
 rw [if_neg nft] at H
 obtain ⟨a3, A9, H⟩ := bD H
 try dsimp only at H
 by_cases a6 : 0 ≤ a2
 rw [if_pos a6] at H
 have c1 : decide (0 ≤ a2) = true := decide_eq_true a6
 clear a6
 by_cases a7 : a2 < (a3.length : Int)
 rw [if_pos a7] at H
 have c2 : decide (a2 < (a3.length : Int)) = true := decide_eq_true a7
 clear a7
 by_cases a5 : (rd a3 a2) < 1
 rw [if_pos a5] at H
 have b4 : decide ((rd a3 a2) < 1) = true := decide_eq_true a5
 clear a5
 simp only [Option.some.injEq, Prod.mk.injEq] at H
 obtain ⟨rfl, rfl⟩ := H
 rotate_left
 rw [if_neg a5] at H
 have b4 : decide ((rd a3 a2) < 1) = false := decide_eq_false a5
 clear a5
 simp only [Option.some.injEq, Prod.mk.injEq] at H
 obtain ⟨rfl, rfl⟩ := H
 rotate_left
 rw [if_neg a7] at H
 exact absurd H (by simp)
 rw [if_neg a6] at H
 exact absurd H (by simp)
 all_goals (go_wp2_with (first | ((with_reducible refine gate_callee (f := 67) rfl ?_); refine goesL_ (some 20) rfl rfl Tryz.func67 kr rfl #[.int .i64 a0, .int .i64 a1] rfl sM ?_; (with_reducible refine (spec_miSteps.calls b8 a0 a1 a3 _ A9.out).mono ?_); rintro e c7 ⟨c9, rfl, b0, hb⟩; refine ⟨_, rfl, ?_⟩; have b1 := Aside0.mk (Kd.R_lower b0 (below_size bB)); replace HB := Aside0.mk (below_step bB hb); (try clear hb); (try clear b0); obtain ⟨c3, c4, b6⟩ := Kd.R_slice b1.out; subst b6; have b2 : 0 ≤ (a2 : Int) := of_decide_eq_true asm; have b3 : a2 < (a3.length : Int) := of_decide_eq_true asm; obtain ⟨c5, b9, c0⟩ := Kd.at_int (Kd.R_reads' b1.out).2.2 a2 b2 b3; cases b9; replace b2 := eq_true b2; replace b3 := eq_true b3)))
 all_goals go_ret2
 all_goals (exact ⟨sE, bI⟩)
 )
 )
 )

/-! ### spec_DrawAnglesFor: function 32 -/
-- (its text lies ahead)

/-! ### impl_AnglesFor: function 33 -/
def impl_AnglesFor.l0 : Nat → Int → List Int → Int → Option (List Int × Bool)
  | 0, _, _, _ => none
  | k + 1, x0, x4, x5 => if x5 ≤ 90 then ((impl_isWedgeAngle.f x5).bind fun t438 => (if t438 = true then (if (wrap64 (x5 * (wrap64 (x0 + 1)))) = 360 then (if x4.length < 17592186044416 then (impl_AnglesFor.l0 k x0 (x4 ++ [x5]) (wrap64 (x5 + 1))) else (none)) else (impl_AnglesFor.l0 k x0 x4 (wrap64 (x5 + 1)))) else (impl_AnglesFor.l0 k x0 x4 (wrap64 (x5 + 1))))) else (some (x4, true))
def impl_AnglesFor.f (k : Nat) (a0 : Int) : Option (List Int × Bool) := (impl_within.f a0 1 359).bind fun t434 => (if t434 = true then (impl_AnglesFor.l0 k a0 (([] : List Int)) 2) else (some (([] : List Int), false)))
theorem impl_AnglesFor.mono_l : ∀ k, (∀ y0 y1 y2, LeO (impl_AnglesFor.l0 k y0 y1 y2) (impl_AnglesFor.l0 (k + 1) y0 y1 y2))
  | 0 => fun _ _ _ r h => by simp [impl_AnglesFor.l0] at h
  | k + 1 => by
    have ih0 := impl_AnglesFor.mono_l k
    · intro y0 y1 y2
      unfold impl_AnglesFor.l0
      repeat' first
      | (with_reducible exact ih0 _ _ _)
      | (with_reducible exact LeO.refl _)
      | (with_reducible exact LeO.none _)
      | (with_reducible refine LeO.ite ?_ ?_)
      | (with_reducible refine LeO.bind ?_ (fun _ => ?_))
      | exact ih0 _ _ _
      | exact LeO.none _
      | refine LeO.ite ?_ ?_
      | refine LeO.bind ?_ (fun _ => ?_)
theorem impl_AnglesFor.mono : ∀ a0 k, LeO (impl_AnglesFor.f k a0) (impl_AnglesFor.f (k + 1) a0) := by
  intro a0 k
  have ih0 := impl_AnglesFor.mono_l k
  unfold impl_AnglesFor.f
  repeat' first
      | (with_reducible exact ih0 _ _ _)
      | (with_reducible exact LeO.refl _)
      | (with_reducible exact LeO.none _)
      | (with_reducible refine LeO.ite ?_ ?_)
      | (with_reducible refine LeO.bind ?_ (fun _ => ?_))
      | exact ih0 _ _ _
      | exact LeO.none _
      | refine LeO.ite ?_ ?_
      | refine LeO.bind ?_ (fun _ => ?_)
set_option maxHeartbeats 8000000 in
set_option maxRecDepth 100000 in
theorem impl_AnglesFor.calls (k : Nat) (a0 : Int) (r1 : List Int) (r2 : Bool) (w : World) (h : impl_AnglesFor.f k a0 = some (r1, r2)) :
    Calls Tryz.prog 33 #[.int .i64 a0] w fun e w' => ∃ v0_ : Value, e = .returned (.tuple #[v0_, .bool r2]) ∧ Kd.R (Kd.int .i64) 3 w' w.heap.size (fun _ => True) v0_ r1 ∧ Below w.heap.size w w' := by
 have HB := Aside0.mk (Below.refl w.heap.size w)
 have H := h
 unfold impl_AnglesFor.f at H
 clear h
 obtain ⟨b8, A2, H⟩ := bD H
 try dsimp only at H
 by_cases c3 : b8 = true
 ·(
 subst c3
 rw [if_pos rfl] at H
 obtain ⟨b2, a5⟩ : ∃ y_ : List Int, y_ = (([] : List Int)) := ⟨_, rfl⟩
 replace H : (impl_AnglesFor.l0 k a0 b2 2) = some (r1, r2) := by first | (rw [a5]; with_reducible exact H) | (have a7 := (Option.bind_some _ _).symm.trans H; rw [a5]; with_reducible exact a7) | (have a7 := (Option.bind_some _ _).symm.trans H; with_reducible exact a7) | with_reducible exact H | (rw [a5]; exact H) | exact H
 have b0 := Aside0.mk a5
 clear a5
 have H' := Aside0.mk H
 clear H
 go_enter Tryz.func33, Tryz.ntmps33
 go_wp2_with (first | ((with_reducible refine gate_callee (f := 39) rfl ?_); refine goesL_ (some 7) rfl rfl Tryz.func39 kr rfl #[.int .i64 a0, .int .i64 1, .int .i64 359] rfl sM ?_; (with_reducible refine (impl_within.calls a0 1 359 true _ A2.out).mono ?_); rintro e w' ⟨rfl, ⟨nd, rfl⟩⟩; refine ⟨_, rfl, ?_⟩) | ((with_reducible refine gate_dst (N := 9) rfl ?_); refine Kd.R_lit (Kd.int .i64) _ 3 ?hg (N := 9) ?hd (xs := ([] : List Int)) (inner := []) (ok := fun _ => True) (okp := fun _ => True) ?hr ?hp (fun _ hk => hk) trivial (Below.refl _ _) (Nat.le_refl _) (by simp) ?_; (case hd => rfl); (case hg => rfl); (case hr => first | (go_simp; done) | (go_simp; rfl)); (case hp => exact (Reps.none _ _)); intro c4 w4 a9 hb hg_ hnew_; clear hg_ hnew_; (first | rw [← b0.out] at a9 | (simp only [Int.reduceToNat] at a9; rw [← b0.out] at a9)); have b4 := Aside0.mk (Kd.R_lower a9 (below_size bB)); replace HB := Aside0.mk (below_step bB hb); clear hb a9))
 go_loopg [4, 5] k (fun kq v4 v5 w' => ∃ (a4 : List Int) (a3 : Int), v5 = .int .i64 a3 ∧ Aside0 (impl_AnglesFor.l0 kq a0 a4 a3 = some (r1, r2)) ∧ Aside0 (kq ≤ k) ∧ Aside0 (Kd.R (Kd.int .i64) 3 w' w.heap.size (fun _ => True) v4 a4) ∧ Aside0 (Below w.heap.size w w'))
 case atStart => exact ⟨(b2), (2), sR, H', ⟨Nat.le_refl _⟩, ⟨oR b4⟩, ⟨bB⟩⟩
 case round => (
 clear H'
 try clear c3
 obtain ⟨a4, a3, rfl, HA, HK1, a8, HB⟩ := hrel
 cases gk with
 | zero => exact absurd HA.out (by simp [impl_AnglesFor.l0])
 | succ k1 => (
 have H := HA.out
 clear HA
 simp only [impl_AnglesFor.l0] at H
 by_cases c6 : a3 ≤ 90
 ·(
 rw [if_pos c6] at H
 have b9 : decide (a3 ≤ 90) = true := decide_eq_true c6
 clear c6
 obtain ⟨c0, A7, H⟩ := bD H
 try dsimp only at H
 by_cases c8 : c0 = true
 ·(
 subst c8
 rw [if_pos rfl] at H
 by_cases c9 : (wrap64 (a3 * (wrap64 (a0 + 1)))) = 360
 ·(
 rw [if_pos c9] at H
 obtain ⟨c1, c2⟩ := yE c9
 clear c9
 by_cases b1 : a4.length < 17592186044416
 ·(
 rw [if_pos b1] at H
 have b5 := Aside0.mk b1
 clear b1
 obtain ⟨b3, a6⟩ : ∃ y_ : List Int, y_ = (a4 ++ [a3]) := ⟨_, rfl⟩
 replace H : (impl_AnglesFor.l0 k1 a0 b3 (wrap64 (a3 + 1))) = some (r1, r2) := by first | (rw [a6]; with_reducible exact H) | (have a7 := (Option.bind_some _ _).symm.trans H; rw [a6]; with_reducible exact a7) | (have a7 := (Option.bind_some _ _).symm.trans H; with_reducible exact a7) | with_reducible exact H | (rw [a6]; exact H) | exact H
 have b6 := Aside0.mk a6
 clear a6
 have H' := Aside0.mk H
 clear H
 go_wp2_with (first | ((with_reducible refine gate_callee (f := 68) rfl ?_); refine goesL_ (some 15) rfl rfl Tryz.func68 kr rfl #[.int .i64 a3] rfl sM ?_; (with_reducible refine (impl_isWedgeAngle.calls a3 true _ A7.out).mono ?_); rintro e w' ⟨rfl, ⟨nd, rfl⟩⟩; refine ⟨_, rfl, ?_⟩) | ((with_reducible refine gate_builtin (b := .append) (xs := #[.tmp 23, .tmp 25]) rfl ?_); at_builtin; refine Kd.R_append (Kd.int .i64) (w0 := w) w.heap.size rfl (.tmp 23) (.tmp 25) 26 3 (.int .i64 0) 8 rfl Tryz.underlying26 info3 rfl (by decide) (by omega) u4 a4 a3 [.int .i64 a3] (fun _ => True) (fun _ => False) rfl rfl ?aP (fun _ hk => hk.elim) ?aF ?aO ?aB ?aS ?aL ?_; (case aP => exact rfl); (case aB => exact bB); (case aF => exact (fun _ _ => trivial)); (case aO => exact (oR a8)); (case aS => exact (below_size bB)); (case aL => have := b5.out; omega); intro c5 c7 ho hb hg hat; rw [← b6.out] at ho; have b7 := Aside0.mk (ho); replace HB := Aside0.mk (hb); clear a8 ho hb hg hat))
 go_roundg k1
 case measure => have := HK1.out; omega
 case rel => exact ⟨(b3), (wrap64 (a3 + 1)), sR, H', ⟨by have := HK1.out; omega⟩, ⟨oR b7⟩, ⟨bB⟩⟩
 )
 ·(
 rw [if_neg b1] at H
 exact absurd H (by simp)
 )
 )
 ·(
 rw [if_neg c9] at H
 obtain ⟨c1, c2⟩ := nE c9
 have H' := Aside0.mk H
 clear H
 go_wp2_with (first | ((with_reducible refine gate_callee (f := 68) rfl ?_); refine goesL_ (some 15) rfl rfl Tryz.func68 kr rfl #[.int .i64 a3] rfl sM ?_; (with_reducible refine (impl_isWedgeAngle.calls a3 true _ A7.out).mono ?_); rintro e w' ⟨rfl, ⟨nd, rfl⟩⟩; refine ⟨_, rfl, ?_⟩))
 go_roundg k1
 case measure => have := HK1.out; omega
 case rel => exact ⟨(a4), (wrap64 (a3 + 1)), sR, H', ⟨by have := HK1.out; omega⟩, ⟨oR a8⟩, ⟨bB⟩⟩
 )
 )
 ·(
 replace c8 := Bool.eq_false_iff.mpr c8
 subst c8
 rw [if_neg nft] at H
 have H' := Aside0.mk H
 clear H
 go_wp2_with (first | ((with_reducible refine gate_callee (f := 68) rfl ?_); refine goesL_ (some 15) rfl rfl Tryz.func68 kr rfl #[.int .i64 a3] rfl sM ?_; (with_reducible refine (impl_isWedgeAngle.calls a3 false _ A7.out).mono ?_); rintro e w' ⟨rfl, ⟨nd, rfl⟩⟩; refine ⟨_, rfl, ?_⟩))
 go_roundg k1
 case measure => have := HK1.out; omega
 case rel => exact ⟨(a4), (wrap64 (a3 + 1)), sR, H', ⟨by have := HK1.out; omega⟩, ⟨oR a8⟩, ⟨bB⟩⟩
 )
 )
 ·(
 rw [if_neg c6] at H
 have b9 : decide (a3 ≤ 90) = false := decide_eq_false c6
 clear c6
 simp only [Option.some.injEq, Prod.mk.injEq] at H
 obtain ⟨rfl, rfl⟩ := H
 go_wp2
 go_ret2
 exact ⟨_, sE, by (with_reducible repeat (first | apply Kd.R_alloc | apply Kd.R_drewN | apply Kd.R_drew)); exact a8.out, bI⟩
 )
 )
 )
 )
 ·(
 replace c3 := Bool.eq_false_iff.mpr c3
 subst c3
 rw [if_neg nft] at H
 simp only [Option.some.injEq, Prod.mk.injEq] at H
 obtain ⟨rfl, rfl⟩ := H
 go_enter Tryz.func33, Tryz.ntmps33
 go_wp2_with (first | ((with_reducible refine gate_callee (f := 39) rfl ?_); refine goesL_ (some 7) rfl rfl Tryz.func39 kr rfl #[.int .i64 a0, .int .i64 1, .int .i64 359] rfl sM ?_; (with_reducible refine (impl_within.calls a0 1 359 false _ A2.out).mono ?_); rintro e w' ⟨rfl, ⟨nd, rfl⟩⟩; refine ⟨_, rfl, ?_⟩))
 go_ret2
 exact ⟨_, sE, by first | exact Kd.R_nil _ _ _ _ _ | exact Kd.N_nil _ _ _ _ _ | exact Kd.V_nil _ _ _ _ _ | exact Kd.Q_nil _ _ _ _ _ | exact Kd.S_nil _ _ _ _ _, bI⟩
 )

/-! ### spec_AnglesFor: function 34 -/
def spec_AnglesFor.l0 : Nat → Int → List Int → Int → Option (List Int × Bool)
  | 0, _, _, _ => none
  | k + 1, x0, x4, x5 => if x5 ≤ 90 then (if x5 = 0 then (none) else (if ((180 : Int) % x5) = 0 then ((spec_miImages.f k x5 1).bind fun t443 => (if (t443.length : Int) = x0 then (if x4.length < 17592186044416 then (spec_AnglesFor.l0 k x0 (x4 ++ [x5]) (wrap64 (x5 + 1))) else (none)) else (spec_AnglesFor.l0 k x0 x4 (wrap64 (x5 + 1))))) else (spec_AnglesFor.l0 k x0 x4 (wrap64 (x5 + 1))))) else (some (x4, true))
def spec_AnglesFor.f (k : Nat) (a0 : Int) : Option (List Int × Bool) := (spec_l1In.f a0 1 359).bind fun t442 => (if t442 = true then (spec_AnglesFor.l0 k a0 ([] : List Int) 2) else (some (([] : List Int), false)))
theorem spec_AnglesFor.mono_l : ∀ k, (∀ y0 y1 y2, LeO (spec_AnglesFor.l0 k y0 y1 y2) (spec_AnglesFor.l0 (k + 1) y0 y1 y2))
  | 0 => fun _ _ _ r h => by simp [spec_AnglesFor.l0] at h
  | k + 1 => by
    have ih0 := spec_AnglesFor.mono_l k
    · intro y0 y1 y2
      unfold spec_AnglesFor.l0
      repeat' first
      | (with_reducible exact ih0 _ _ _)
      | (with_reducible exact spec_miImages.mono _ _ _)
      | (with_reducible exact LeO.refl _)
      | (with_reducible exact LeO.none _)
      | (with_reducible refine LeO.ite ?_ ?_)
      | (with_reducible refine LeO.bind ?_ (fun _ => ?_))
      | exact ih0 _ _ _
      | exact spec_miImages.mono _ _ _
      | exact LeO.none _
      | refine LeO.ite ?_ ?_
      | refine LeO.bind ?_ (fun _ => ?_)
theorem spec_AnglesFor.mono : ∀ a0 k, LeO (spec_AnglesFor.f k a0) (spec_AnglesFor.f (k + 1) a0) := by
  intro a0 k
  have ih0 := spec_AnglesFor.mono_l k
  unfold spec_AnglesFor.f
  repeat' first
      | (with_reducible exact ih0 _ _ _)
      | (with_reducible exact spec_miImages.mono _ _ _)
      | (with_reducible exact LeO.refl _)
      | (with_reducible exact LeO.none _)
      | (with_reducible refine LeO.ite ?_ ?_)
      | (with_reducible refine LeO.bind ?_ (fun _ => ?_))
      | exact ih0 _ _ _
      | exact spec_miImages.mono _ _ _
      | exact LeO.none _
      | refine LeO.ite ?_ ?_
      | refine LeO.bind ?_ (fun _ => ?_)
set_option maxHeartbeats 8000000 in
set_option maxRecDepth 100000 in
theorem spec_AnglesFor.calls (k : Nat) (a0 : Int) (r1 : List Int) (r2 : Bool) (w : World) (h : spec_AnglesFor.f k a0 = some (r1, r2)) :
    Calls Tryz.prog 34 #[.int .i64 a0] w fun e w' => ∃ v0_ : Value, e = .returned (.tuple #[v0_, .bool r2]) ∧ Kd.R (Kd.int .i64) 3 w' w.heap.size (fun _ => True) v0_ r1 ∧ Below w.heap.size w w' := by
 have HB := Aside0.mk (Below.refl w.heap.size w)
 have H := h
 unfold spec_AnglesFor.f at H
 clear h
 obtain ⟨b4, A2, H⟩ := bD H
 try dsimp only at H
 by_cases c3 : b4 = true
 ·(
 subst c3
 rw [if_pos rfl] at H
 have H' := Aside0.mk H
 clear H
 go_enter Tryz.func34, Tryz.ntmps34
 go_wp2_with (first | ((with_reducible refine gate_callee (f := 44) rfl ?_); refine goesL_ (some 7) rfl rfl Tryz.func44 kr rfl #[.int .i64 a0, .int .i64 1, .int .i64 359] rfl sM ?_; (with_reducible refine (spec_l1In.calls a0 1 359 true _ A2.out).mono ?_); rintro e w' ⟨rfl, ⟨nd, rfl⟩⟩; refine ⟨_, rfl, ?_⟩))
 go_loopg [4, 5] k (fun kq v4 v5 w' => ∃ (a5 : List Int) (a3 : Int), v5 = .int .i64 a3 ∧ Aside0 (spec_AnglesFor.l0 kq a0 a5 a3 = some (r1, r2)) ∧ Aside0 (kq ≤ k) ∧ Aside0 (Kd.R (Kd.int .i64) 3 w' w.heap.size (fun _ => True) v4 a5) ∧ Aside0 (Below w.heap.size w w'))
 case atStart => exact ⟨(([] : List Int)), (2), sR, H', ⟨Nat.le_refl _⟩, ⟨by first | exact Kd.R_nil _ _ _ _ _ | exact Kd.N_nil _ _ _ _ _ | exact Kd.V_nil _ _ _ _ _ | exact Kd.Q_nil _ _ _ _ _ | exact Kd.S_nil _ _ _ _ _⟩, ⟨bB⟩⟩
 case round => (
 clear H'
 try clear c3
 obtain ⟨a5, a3, rfl, HA, HK1, a4, HB⟩ := hrel
 cases gk with
 | zero => exact absurd HA.out (by simp [spec_AnglesFor.l0])
 | succ k1 => (
 have H := HA.out
 clear HA
 simp only [spec_AnglesFor.l0] at H
 by_cases c4 : a3 ≤ 90
 ·(
 rw [if_pos c4] at H
 have b5 : decide (a3 ≤ 90) = true := decide_eq_true c4
 clear c4
 by_cases c5 : a3 = 0
 ·(
 rw [if_pos c5] at H
 exact absurd H (by simp)
 )
 ·(
 rw [if_neg c5] at H
 obtain ⟨d2, d3⟩ := nE c5
 by_cases c6 : ((180 : Int) % a3) = 0
 ·(
 rw [if_pos c6] at H
 obtain ⟨b6, b7⟩ := yE c6
 clear c6
 obtain ⟨a9, A7, H⟩ := bD H
 try dsimp only at H
 by_cases c8 : (a9.length : Int) = a0
 ·(
 rw [if_pos c8] at H
 obtain ⟨b8, b9⟩ := yE c8
 clear c8
 by_cases c9 : a5.length < 17592186044416
 ·(
 rw [if_pos c9] at H
 have c0 := Aside0.mk c9
 clear c9
 obtain ⟨b0, a7⟩ : ∃ y_ : List Int, y_ = (a5 ++ [a3]) := ⟨_, rfl⟩
 replace H : (spec_AnglesFor.l0 k1 a0 b0 (wrap64 (a3 + 1))) = some (r1, r2) := by first | (rw [a7]; with_reducible exact H) | (have b1 := (Option.bind_some _ _).symm.trans H; rw [a7]; with_reducible exact b1) | (have b1 := (Option.bind_some _ _).symm.trans H; with_reducible exact b1) | with_reducible exact H | (rw [a7]; exact H) | exact H
 have b2 := Aside0.mk a7
 clear a7
 have H' := Aside0.mk H
 clear H
 go_wp2_with (first | (go_at_call 66; (with_reducible refine (spec_miImages.calls k1 a3 1 a9 _ A7.out).mono ?_); rintro e d7 ⟨c1, rfl, a8, hb⟩; have a6 := Aside0.mk (Kd.R_lower (Kd.R_new' a8 (Kd.R_lt (oR a4))) (below_size bB)); replace a4 := Aside0.mk (Kd.R_elder' (oR a4) (Kd.R_base a8) hb); replace HB := Aside0.mk (below_step bB hb); (try clear hb); (try clear a8); obtain ⟨c2, c7, d0⟩ := Kd.R_slice a6.out; subst d0) | ((with_reducible refine gate_builtin (b := .append) (xs := #[.tmp 23, .tmp 25]) rfl ?_); (try (refine gate_guard (by rfl) ?_; dsimp only)); at_builtin; refine Kd.R_append (Kd.int .i64) (w0 := w) w.heap.size rfl (.tmp 23) (.tmp 25) 26 3 (.int .i64 0) 8 rfl Tryz.underlying26 info3 rfl (by decide) (by omega) u4 a5 a3 [.int .i64 a3] (fun k_ => some k_ ≠ (.slice c2 a9.length c7 : Value).ownBlock) (fun _ => False) rfl rfl ?aP (fun _ hk => hk.elim) ?aF ?aO ?aB ?aS ?aL ?_; (case aP => exact rfl); (case aB => exact bB); (case aF => exact (fun k_ hk => Kd.fresh' (Kd.R_lt (oR a6)) k_ hk)); (case aO => exact (by (with_reducible repeat (first | apply Kd.R_alloc | apply Kd.R_drewN | apply Kd.R_drew)); exact Kd.R_mono a4.out (fun _ hk => hk.2))); (case aS => exact (below_size bB)); (case aL => have := c0.out; omega); intro d4 d8 ho hb hg hat; rw [← b2.out] at ho; have b3 := Aside0.mk (ho); replace a6 := Aside0.mk (Kd.R_after (ok := (fun _ => True)) (oR a6) hg hat); replace HB := Aside0.mk (hb); clear a4 ho hb hg hat))
 go_roundg k1
 case measure => have := HK1.out; omega
 case rel => exact ⟨(b0), (wrap64 (a3 + 1)), sR, H', ⟨by have := HK1.out; omega⟩, ⟨by (with_reducible repeat (first | apply Kd.R_alloc | apply Kd.R_drewN | apply Kd.R_drew)); exact Kd.R_mono b3.out (fun _ hk => trivial)⟩, ⟨bB⟩⟩
 )
 ·(
 rw [if_neg c9] at H
 exact absurd H (by simp)
 )
 )
 ·(
 rw [if_neg c8] at H
 obtain ⟨b8, b9⟩ := nE c8
 have H' := Aside0.mk H
 clear H
 go_wp2_with (first | (go_at_call 66; (with_reducible refine (spec_miImages.calls k1 a3 1 a9 _ A7.out).mono ?_); rintro e d9 ⟨c1, rfl, a8, hb⟩; have a6 := Aside0.mk (Kd.R_lower (Kd.R_new' a8 (Kd.R_lt (oR a4))) (below_size bB)); replace a4 := Aside0.mk (Kd.R_elder' (oR a4) (Kd.R_base a8) hb); replace HB := Aside0.mk (below_step bB hb); (try clear hb); (try clear a8); obtain ⟨d5, d6, d1⟩ := Kd.R_slice a6.out; subst d1))
 go_roundg k1
 case measure => have := HK1.out; omega
 case rel => exact ⟨(a5), (wrap64 (a3 + 1)), sR, H', ⟨by have := HK1.out; omega⟩, ⟨by (with_reducible repeat (first | apply Kd.R_alloc | apply Kd.R_drewN | apply Kd.R_drew)); exact Kd.R_mono a4.out (fun _ hk => trivial)⟩, ⟨bB⟩⟩
 )
 )
 ·(
 rw [if_neg c6] at H
 obtain ⟨b6, b7⟩ := nE c6
 have H' := Aside0.mk H
 clear H
 go_wp2
 go_roundg k1
 case measure => have := HK1.out; omega
 case rel => exact ⟨(a5), (wrap64 (a3 + 1)), sR, H', ⟨by have := HK1.out; omega⟩, ⟨oR a4⟩, ⟨bB⟩⟩
 )
 )
 )
 ·(
 rw [if_neg c4] at H
 have b5 : decide (a3 ≤ 90) = false := decide_eq_false c4
 clear c4
 simp only [Option.some.injEq, Prod.mk.injEq] at H
 obtain ⟨rfl, rfl⟩ := H
 go_wp2
 go_ret2
 exact ⟨_, sE, by (with_reducible repeat (first | apply Kd.R_alloc | apply Kd.R_drewN | apply Kd.R_drew)); exact a4.out, bI⟩
 )
 )
 )
 )
 ·(
 replace c3 := Bool.eq_false_iff.mpr c3
 subst c3
 rw [if_neg nft] at H
 simp only [Option.some.injEq, Prod.mk.injEq] at H
 obtain ⟨rfl, rfl⟩ := H
 go_enter Tryz.func34, Tryz.ntmps34
 go_wp2_with (first | ((with_reducible refine gate_callee (f := 44) rfl ?_); refine goesL_ (some 7) rfl rfl Tryz.func44 kr rfl #[.int .i64 a0, .int .i64 1, .int .i64 359] rfl sM ?_; (with_reducible refine (spec_l1In.calls a0 1 359 false _ A2.out).mono ?_); rintro e w' ⟨rfl, ⟨nd, rfl⟩⟩; refine ⟨_, rfl, ?_⟩))
 go_ret2
 exact ⟨_, sE, by first | exact Kd.R_nil _ _ _ _ _ | exact Kd.N_nil _ _ _ _ _ | exact Kd.V_nil _ _ _ _ _ | exact Kd.Q_nil _ _ _ _ _ | exact Kd.S_nil _ _ _ _ _, bI⟩
 )

/-! ### laws_yHas: function 35 -/
def laws_yHas.l0 : Nat → Int → List Int → Int → Int → Option (Bool)
  | 0, _, _, _, _ => none
  | k + 1, x1, x7, x8, x9 => if x9 < x8 then (if 0 ≤ x9 then (if x9 < (x7.length : Int) then (if (rd x7 x9) = x1 then (some true) else (laws_yHas.l0 k x1 x7 x8 (wrap64 (x9 + 1)))) else (none)) else (none)) else (some false)
def laws_yHas.f (k : Nat) (l0 : List Int) (a1 : Int) : Option (Bool) := laws_yHas.l0 k a1 l0 (l0.length : Int) 0
theorem laws_yHas.mono_l : ∀ k, (∀ y0 y1 y2 y3, LeO (laws_yHas.l0 k y0 y1 y2 y3) (laws_yHas.l0 (k + 1) y0 y1 y2 y3))
  | 0 => fun _ _ _ _ r h => by simp [laws_yHas.l0] at h
  | k + 1 => by
    have ih0 := laws_yHas.mono_l k
    · intro y0 y1 y2 y3
      unfold laws_yHas.l0
      repeat' first
      | (with_reducible exact ih0 _ _ _ _)
      | (with_reducible exact LeO.refl _)
      | (with_reducible exact LeO.none _)
      | (with_reducible refine LeO.ite ?_ ?_)
      | (with_reducible refine LeO.bind ?_ (fun _ => ?_))
      | exact ih0 _ _ _ _
      | exact LeO.none _
      | refine LeO.ite ?_ ?_
      | refine LeO.bind ?_ (fun _ => ?_)
theorem laws_yHas.mono : ∀ a0 a1 k, LeO (laws_yHas.f k a0 a1) (laws_yHas.f (k + 1) a0 a1) := by
  intro a0 a1 k
  have ih0 := laws_yHas.mono_l k
  unfold laws_yHas.f
  repeat' first
      | (with_reducible exact ih0 _ _ _ _)
      | (with_reducible exact LeO.refl _)
      | (with_reducible exact LeO.none _)
      | (with_reducible refine LeO.ite ?_ ?_)
      | (with_reducible refine LeO.bind ?_ (fun _ => ?_))
      | exact ih0 _ _ _ _
      | exact LeO.none _
      | refine LeO.ite ?_ ?_
      | refine LeO.bind ?_ (fun _ => ?_)
set_option maxHeartbeats 8000000 in
set_option maxRecDepth 100000 in
theorem laws_yHas.calls (k : Nat) (A0 : Option Addr) (c0 : Nat) (l0 : List Int) (a1 : Int) (r : Bool) (w : World) (hr0 : Kd.C (Kd.int .i64) w A0 l0.length l0) (hc0 : l0.length ≤ c0) (h : laws_yHas.f k l0 a1 = some r) :
    Calls Tryz.prog 35 #[.slice A0 l0.length c0, .int .i64 a1] w fun e w' => e = .returned (.bool r) ∧ Drawn0 w w' := by
 have a9 := Aside0.mk hr0
 have b5 := Aside0.mk hc0
 clear hr0 hc0
 have H := h
 unfold laws_yHas.f at H
 clear h
 have H' := Aside0.mk H
 clear H
 go_enter Tryz.func35, Tryz.ntmps35
 go_wp2
 go_loopg [9] k (fun kq v9 w' => ∃ (a3 : Int), v9 = .int .i64 a3 ∧ Aside0 (laws_yHas.l0 kq a1 l0 (l0.length : Int) a3 = some r) ∧ Aside0 (kq ≤ k) ∧ Drawn0 w w')
 case atStart => exact ⟨(0), sR, H', ⟨Nat.le_refl _⟩, by repeat (first | exact Drawn0.refl _ | apply Drawn0.step)⟩
 case round => (
 clear H'
 obtain ⟨a3, rfl, HA, HK1, ⟨m1, rfl⟩⟩ := hrel
 cases gk with
 | zero => exact absurd HA.out (by simp [laws_yHas.l0])
 | succ k1 => (
 have H := HA.out
 clear HA
 simp only [laws_yHas.l0] at H
 by_cases c3 : a3 < (l0.length : Int)
 ·(
 rw [if_pos c3] at H
 have b0 : decide (a3 < (l0.length : Int)) = true := decide_eq_true c3
 clear c3
 by_cases c4 : 0 ≤ a3
 ·(
 rw [if_pos c4] at H
 have b3 : decide (0 ≤ a3) = true := decide_eq_true c4
 clear c4
 by_cases c5 : a3 < (l0.length : Int)
 ·(
 rw [if_pos c5] at H
 have b4 : decide (a3 < (l0.length : Int)) = true := decide_eq_true c5
 clear c5
 by_cases c6 : (rd l0 a3) = a1
 ·(
 rw [if_pos c6] at H
 obtain ⟨b1, b2⟩ := yE c6
 clear c6
 obtain rfl := Option.some.inj H
 have a4 : 0 ≤ (a3 : Int) := of_decide_eq_true asm
 have a5 : a3 < (l0.length : Int) := of_decide_eq_true asm
 obtain ⟨a8, a6, a7⟩ := Kd.at_int a9.out a3 a4 a5
 cases a6
 replace a4 := eq_true a4
 replace a5 := eq_true a5
 go_wp2
 go_ret
 exact ⟨by first | rfl | (simp; done) | (simp [*]; done), by repeat (first | exact Drawn0.refl _ | apply Drawn0.step)⟩
 )
 ·(
 rw [if_neg c6] at H
 obtain ⟨b1, b2⟩ := nE c6
 have H' := Aside0.mk H
 clear H
 have a4 : 0 ≤ (a3 : Int) := of_decide_eq_true asm
 have a5 : a3 < (l0.length : Int) := of_decide_eq_true asm
 obtain ⟨a8, a6, a7⟩ := Kd.at_int a9.out a3 a4 a5
 cases a6
 replace a4 := eq_true a4
 replace a5 := eq_true a5
 go_wp2
 go_roundg k1
 case measure => have := HK1.out; omega
 case rel => exact ⟨(wrap64 (a3 + 1)), sR, H', ⟨by have := HK1.out; omega⟩, by repeat (first | exact Drawn0.refl _ | apply Drawn0.step)⟩
 )
 )
 ·(
 rw [if_neg c5] at H
 exact absurd H (by simp)
 )
 )
 ·(
 rw [if_neg c4] at H
 exact absurd H (by simp)
 )
 )
 ·(
 rw [if_neg c3] at H
 have b0 : decide (a3 < (l0.length : Int)) = false := decide_eq_false c3
 clear c3
 obtain rfl := Option.some.inj H
 go_wp2
 go_ret
 exact ⟨by first | rfl | (simp; done) | (simp [*]; done), by repeat (first | exact Drawn0.refl _ | apply Drawn0.step)⟩
 )
 )
 )

end Go.Proofs.YtnmhefdjakjngaaGreatDoor.PFnMirrorsFace
