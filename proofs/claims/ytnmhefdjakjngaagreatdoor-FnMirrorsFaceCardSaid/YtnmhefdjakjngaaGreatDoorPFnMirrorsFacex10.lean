-- Written by xprint.py, a program of this session, for this seat; Lean checks it.
import Derived.Test.YtnmhefdjakjngaaGreatDoorVM
import Derived.Test.YtnmhefdjakjngaaGreatDoorPFnMirrorsFacex0
import Derived.Test.YtnmhefdjakjngaaGreatDoorPFnMirrorsFacex2
import Derived.Test.YtnmhefdjakjngaaGreatDoorPFnMirrorsFacex7
import Derived.Test.YtnmhefdjakjngaaGreatDoorPFnMirrorsFacex8
import Derived.Test.YtnmhefdjakjngaaGreatDoorPFnMirrorsFacex9
namespace Go.Proofs.YtnmhefdjakjngaaGreatDoor.PFnMirrorsFace
open Go.Proofs.YtnmhefdjakjngaaGreatDoorV Go.RowKit Go.Proofs.YtnmhefdjakjngaaGreatDoorW.PrintWords Go.Proofs.YtnmhefdjakjngaaGreatDoorW.PrintLast Go.Proofs.YtnmhefdjakjngaaGreatDoorW.PrintMore
attribute [local go_sem] max2_int min2_int max_two min_two max_three min_three max_four min_four   -- for this text's walks alone
set_option linter.unusedVariables false
set_option linter.unusedSimpArgs false

/-! ### impl_NearestImage: function 22 -/
mutual
def impl_NearestImage.j0 : Nat → Int → Int → Int → Bool → Option (Int × Bool)
  | 0, _, _, _, _ => none
  | k + 1, x0, x1, x2, x21 => if x21 = true then (some (0, false)) else ((impl_imagesNear.f x0 x1 x2 (wrap64 (4 * x0))).bind fun t356 => (impl_NearestImage.l0 k x2 (wrap64 (-x1)) t356 (t356.length : Int) 0))
def impl_NearestImage.l0 : Nat → Int → Int → List Int → Int → Int → Option (Int × Bool)
  | 0, _, _, _, _, _ => none
  | k + 1, x2, x8, x29, x30, x31 => if x31 < x30 then (if 0 ≤ x31 then (if x31 < (x29.length : Int) then ((impl_distance.f (rd x29 x31) x2).bind fun t360 => ((impl_distance.f x8 x2).bind fun t361 => (if t360 < t361 then (impl_NearestImage.l0 k x2 (rd x29 x31) x29 x30 (wrap64 (x31 + 1))) else ((impl_distance.f x8 x2).bind fun t362 => (if t360 = t362 then (if (rd x29 x31) < x8 then (impl_NearestImage.l0 k x2 (rd x29 x31) x29 x30 (wrap64 (x31 + 1))) else (impl_NearestImage.l0 k x2 x8 x29 x30 (wrap64 (x31 + 1)))) else (impl_NearestImage.l0 k x2 x8 x29 x30 (wrap64 (x31 + 1)))))))) else (none)) else (none)) else (some (x8, true))
end
def impl_NearestImage.f (k : Nat) (a0 : Int) (a1 : Int) (a2 : Int) : Option (Int × Bool) := (impl_isCorridor.f a0 a1).bind fun t354 => (if t354 = true then ((impl_isCorridor.f a0 a2).bind fun t355 => (impl_NearestImage.j0 k a0 a1 a2 (!t355))) else (impl_NearestImage.j0 k a0 a1 a2 true))
theorem impl_NearestImage.mono_l : ∀ k, (∀ y0 y1 y2 y3, LeO (impl_NearestImage.j0 k y0 y1 y2 y3) (impl_NearestImage.j0 (k + 1) y0 y1 y2 y3)) ∧ (∀ y0 y1 y2 y3 y4, LeO (impl_NearestImage.l0 k y0 y1 y2 y3 y4) (impl_NearestImage.l0 (k + 1) y0 y1 y2 y3 y4))
  | 0 => ⟨fun _ _ _ _ r h => by simp [impl_NearestImage.j0] at h, fun _ _ _ _ _ r h => by simp [impl_NearestImage.l0] at h⟩
  | k + 1 => by
    obtain ⟨ih0, ih1⟩ := impl_NearestImage.mono_l k
    refine ⟨?_, ?_⟩
    · intro y0 y1 y2 y3
      unfold impl_NearestImage.j0
      repeat' first
      | (with_reducible exact ih0 _ _ _ _)
      | (with_reducible exact ih1 _ _ _ _ _)
      | (with_reducible exact LeO.refl _)
      | (with_reducible exact LeO.none _)
      | (with_reducible refine LeO.ite ?_ ?_)
      | (with_reducible refine LeO.bind ?_ (fun _ => ?_))
      | exact ih0 _ _ _ _
      | exact ih1 _ _ _ _ _
      | exact LeO.none _
      | refine LeO.ite ?_ ?_
      | refine LeO.bind ?_ (fun _ => ?_)
    · intro y0 y1 y2 y3 y4
      unfold impl_NearestImage.l0
      repeat' first
      | (with_reducible exact ih0 _ _ _ _)
      | (with_reducible exact ih1 _ _ _ _ _)
      | (with_reducible exact LeO.refl _)
      | (with_reducible exact LeO.none _)
      | (with_reducible refine LeO.ite ?_ ?_)
      | (with_reducible refine LeO.bind ?_ (fun _ => ?_))
      | exact ih0 _ _ _ _
      | exact ih1 _ _ _ _ _
      | exact LeO.none _
      | refine LeO.ite ?_ ?_
      | refine LeO.bind ?_ (fun _ => ?_)
theorem impl_NearestImage.mono : ∀ a0 a1 a2 k, LeO (impl_NearestImage.f k a0 a1 a2) (impl_NearestImage.f (k + 1) a0 a1 a2) := by
  intro a0 a1 a2 k
  obtain ⟨ih0, ih1⟩ := impl_NearestImage.mono_l k
  unfold impl_NearestImage.f
  repeat' first
      | (with_reducible exact ih0 _ _ _ _)
      | (with_reducible exact ih1 _ _ _ _ _)
      | (with_reducible exact LeO.refl _)
      | (with_reducible exact LeO.none _)
      | (with_reducible refine LeO.ite ?_ ?_)
      | (with_reducible refine LeO.bind ?_ (fun _ => ?_))
      | exact ih0 _ _ _ _
      | exact ih1 _ _ _ _ _
      | exact LeO.none _
      | refine LeO.ite ?_ ?_
      | refine LeO.bind ?_ (fun _ => ?_)
set_option maxHeartbeats 8000000 in
set_option maxRecDepth 100000 in
theorem impl_NearestImage.calls (k : Nat) (a0 : Int) (a1 : Int) (a2 : Int) (r1 : Int) (r2 : Bool) (w : World) (h : impl_NearestImage.f k a0 a1 a2 = some (r1, r2)) :
    Calls Tryz.prog 22 #[.int .i64 a0, .int .i64 a1, .int .i64 a2] w fun e w' => e = .returned (.tuple #[.int .i64 r1, .bool r2]) ∧ Below w.heap.size w w' := by
 have HB := Aside0.mk (Below.refl w.heap.size w)
 have H := h
 unfold impl_NearestImage.f at H
 clear h
 have c5 := Aside0.mk H
 clear H
 go_enter Tryz.func22, Tryz.ntmps22
 go_upto_region 1 with (fail)
 go_cut [21] (fun e1 wc => ∃ (kq : Nat) (b3 : Bool), e1 = .bool b3 ∧ Aside0 (impl_NearestImage.j0 kq a0 a1 a2 b3 = some (r1, r2)) ∧ Aside0 (kq ≤ k) ∧ Aside0 (Below w.heap.size w wc))
 case first => (
 have H := c5.out
 clear c5
 obtain ⟨d7, A5, H⟩ := bD H
 try dsimp only at H
 by_cases c6 : d7 = true
 ·(
 subst c6
 rw [if_pos rfl] at H
 obtain ⟨c7, A7, H⟩ := bD H
 try dsimp only at H
 have H' := Aside0.mk H
 clear H
 go_wp2_with (first | ((with_reducible refine gate_callee (f := 38) rfl ?_); refine goesL_ (some 14) rfl rfl Tryz.func38 kr rfl #[.int .i64 a0, .int .i64 a1] rfl sM ?_; (with_reducible refine (impl_isCorridor.calls a0 a1 true _ A5.out).mono ?_); rintro e w' ⟨rfl, ⟨nd, rfl⟩⟩; refine ⟨_, rfl, ?_⟩) | (go_at_call 38; (with_reducible refine (impl_isCorridor.calls a0 a2 c7 _ A7.out).mono ?_); rintro e w' ⟨rfl, ⟨nd, rfl⟩⟩))
 go_meet
 case rel => exact ⟨_, (!c7), sR, H', ⟨by first | omega | exact Nat.le_refl _⟩, ⟨bB⟩⟩
 )
 ·(
 replace c6 := Bool.eq_false_iff.mpr c6
 subst c6
 rw [if_neg nft] at H
 have H' := Aside0.mk H
 clear H
 go_wp2_with (first | ((with_reducible refine gate_callee (f := 38) rfl ?_); refine goesL_ (some 14) rfl rfl Tryz.func38 kr rfl #[.int .i64 a0, .int .i64 a1] rfl sM ?_; (with_reducible refine (impl_isCorridor.calls a0 a1 false _ A5.out).mono ?_); rintro e w' ⟨rfl, ⟨nd, rfl⟩⟩; refine ⟨_, rfl, ?_⟩))
 go_meet
 case rel => exact ⟨_, (true), sR, H', ⟨by first | omega | exact Nat.le_refl _⟩, ⟨bB⟩⟩
 )
 )
 case rest => (
 clear c5
 obtain ⟨kq, b3, rfl, HA, HJ3, HB⟩ := hcut
 cases kq with
 | zero => exact absurd HA.out (by simp [impl_NearestImage.j0])
 | succ d5 => (
 have H := HA.out
 clear HA
 simp only [impl_NearestImage.j0] at H
 by_cases c8 : b3 = true
 ·(
 subst c8
 rw [if_pos rfl] at H
 simp only [Option.some.injEq, Prod.mk.injEq] at H
 obtain ⟨rfl, rfl⟩ := H
 go_wp2
 go_ret2
 exact ⟨sE, bI⟩
 )
 ·(
 replace c8 := Bool.eq_false_iff.mpr c8
 subst c8
 rw [if_neg nft] at H
 obtain ⟨a5, A9, H⟩ := bD H
 try dsimp only at H
 have H' := Aside0.mk H
 clear H
 go_wp2_with (first | ((with_reducible refine gate_callee (f := 55) rfl ?_); refine goesL_ (some 29) rfl rfl Tryz.func55 kr rfl #[.int .i64 a0, .int .i64 a1, .int .i64 a2, .int .i64 (wrap64 (4 * a0))] rfl sM ?_; (with_reducible refine (impl_imagesNear.calls a0 a1 a2 (wrap64 (4 * a0)) a5 _ A9.out).mono ?_); rintro e e6 ⟨e5, rfl, d6, hb⟩; refine ⟨_, rfl, ?_⟩; have c0 := Aside0.mk (Kd.R_lower d6 (below_size bB)); replace HB := Aside0.mk (below_step bB hb); (try clear hb); (try clear d6); obtain ⟨d8, d9, e0⟩ := Kd.R_slice c0.out; subst e0))
 go_loopg [8, 31] d5 (fun kq v8 e2 w' => ∃ (a6 : Int) (a3 : Int), v8 = .int .i64 a6 ∧ e2 = .int .i64 a3 ∧ Aside0 (impl_NearestImage.l0 kq a2 a6 a5 (a5.length : Int) a3 = some (r1, r2)) ∧ Aside0 (kq ≤ d5) ∧ Aside0 (Kd.R (Kd.int .i64) 3 w' w.heap.size (fun _ => True) (.slice d8 a5.length d9) a5) ∧ Aside0 (Below w.heap.size w w'))
 case atStart => exact ⟨(wrap64 (-a1)), (0), sR, sR, H', ⟨Nat.le_refl _⟩, ⟨oR c0⟩, ⟨bB⟩⟩
 case round => (
 clear H'
 obtain ⟨a6, a3, rfl, rfl, HA, HK2, a4, HB⟩ := hrel
 cases gk with
 | zero => exact absurd HA.out (by simp [impl_NearestImage.l0])
 | succ k2 => (
 have H := HA.out
 clear HA
 simp only [impl_NearestImage.l0] at H
 by_cases b4 : a3 < (a5.length : Int)
 ·(
 rw [if_pos b4] at H
 have d0 : decide (a3 < (a5.length : Int)) = true := decide_eq_true b4
 clear b4
 by_cases c1 : 0 ≤ a3
 ·(
 rw [if_pos c1] at H
 have e3 : decide (0 ≤ a3) = true := decide_eq_true c1
 clear c1
 by_cases c2 : a3 < (a5.length : Int)
 ·(
 rw [if_pos c2] at H
 have e4 : decide (a3 < (a5.length : Int)) = true := decide_eq_true c2
 clear c2
 obtain ⟨a9, c3, H⟩ := bD H
 try dsimp only at H
 obtain ⟨b0, c4, H⟩ := bD H
 try dsimp only at H
 by_cases b5 : a9 < b0
 ·(
 rw [if_pos b5] at H
 have d1 : decide (a9 < b0) = true := decide_eq_true b5
 clear b5
 have H' := Aside0.mk H
 clear H
 have a7 : 0 ≤ (a3 : Int) := of_decide_eq_true asm
 have a8 : a3 < (a5.length : Int) := of_decide_eq_true asm
 obtain ⟨b7, b1, b2⟩ := Kd.at_int (Kd.R_reads' a4.out).2.2 a3 a7 a8
 cases b1
 replace a7 := eq_true a7
 replace a8 := eq_true a8
 go_wp2_with (first | ((with_reducible refine gate_callee (f := 58) rfl ?_); refine goesL_ (some 37) rfl rfl Tryz.func58 kr rfl #[.int .i64 (rd a5 a3), .int .i64 a2] rfl sM ?_; (with_reducible refine (impl_distance.calls (rd a5 a3) a2 a9 _ c3.out).mono ?_); rintro e e7 ⟨rfl, hb⟩; refine ⟨_, rfl, ?_⟩; replace a4 := Aside0.mk (Kd.R_below (oR a4) hb); replace HB := Aside0.mk (below_step bB hb); (try clear hb)) | ((with_reducible refine gate_callee (f := 58) rfl ?_); refine goesL_ (some 41) rfl rfl Tryz.func58 kr rfl #[.int .i64 a6, .int .i64 a2] rfl sM ?_; (with_reducible refine (impl_distance.calls a6 a2 b0 _ c4.out).mono ?_); rintro e e8 ⟨rfl, hb⟩; refine ⟨_, rfl, ?_⟩; replace a4 := Aside0.mk (Kd.R_below (oR a4) hb); replace HB := Aside0.mk (below_step bB hb); (try clear hb)))
 go_roundg k2
 case measure => have := HJ3.out; have := HK2.out; omega
 case rel => exact ⟨(rd a5 a3), (wrap64 (a3 + 1)), sR, sR, H', ⟨by have := HJ3.out; have := HK2.out; omega⟩, ⟨oR a4⟩, ⟨bB⟩⟩
 )
 ·(
 rw [if_neg b5] at H
 have d1 : decide (a9 < b0) = false := decide_eq_false b5
 clear b5
 obtain ⟨b8, c9, H⟩ := bD H
 try dsimp only at H
 by_cases b9 : a9 = b8
 ·(
 rw [if_pos b9] at H
 obtain ⟨d2, d3⟩ := yE b9
 clear b9
 by_cases b6 : (rd a5 a3) < a6
 ·(
 rw [if_pos b6] at H
 have d4 : decide ((rd a5 a3) < a6) = true := decide_eq_true b6
 clear b6
 have H' := Aside0.mk H
 clear H
 have a7 : 0 ≤ (a3 : Int) := of_decide_eq_true asm
 have a8 : a3 < (a5.length : Int) := of_decide_eq_true asm
 obtain ⟨b7, b1, b2⟩ := Kd.at_int (Kd.R_reads' a4.out).2.2 a3 a7 a8
 cases b1
 replace a7 := eq_true a7
 replace a8 := eq_true a8
 go_wp2_with (first | ((with_reducible refine gate_callee (f := 58) rfl ?_); refine goesL_ (some 37) rfl rfl Tryz.func58 kr rfl #[.int .i64 (rd a5 a3), .int .i64 a2] rfl sM ?_; (with_reducible refine (impl_distance.calls (rd a5 a3) a2 a9 _ c3.out).mono ?_); rintro e e9 ⟨rfl, hb⟩; refine ⟨_, rfl, ?_⟩; replace a4 := Aside0.mk (Kd.R_below (oR a4) hb); replace HB := Aside0.mk (below_step bB hb); (try clear hb)) | ((with_reducible refine gate_callee (f := 58) rfl ?_); refine goesL_ (some 41) rfl rfl Tryz.func58 kr rfl #[.int .i64 a6, .int .i64 a2] rfl sM ?_; (with_reducible refine (impl_distance.calls a6 a2 b0 _ c4.out).mono ?_); rintro e g0 ⟨rfl, hb⟩; refine ⟨_, rfl, ?_⟩; replace a4 := Aside0.mk (Kd.R_below (oR a4) hb); replace HB := Aside0.mk (below_step bB hb); (try clear hb)) | (go_at_call 58; (with_reducible refine (impl_distance.calls a6 a2 b8 _ c9.out).mono ?_); rintro e g1 ⟨rfl, hb⟩; replace a4 := Aside0.mk (Kd.R_below (oR a4) hb); replace HB := Aside0.mk (below_step bB hb); (try clear hb)))
 go_roundg k2
 case measure => have := HJ3.out; have := HK2.out; omega
 case rel => exact ⟨(rd a5 a3), (wrap64 (a3 + 1)), sR, sR, H', ⟨by have := HJ3.out; have := HK2.out; omega⟩, ⟨oR a4⟩, ⟨bB⟩⟩
 )
 ·(
 rw [if_neg b6] at H
 have d4 : decide ((rd a5 a3) < a6) = false := decide_eq_false b6
 clear b6
 have H' := Aside0.mk H
 clear H
 have a7 : 0 ≤ (a3 : Int) := of_decide_eq_true asm
 have a8 : a3 < (a5.length : Int) := of_decide_eq_true asm
 obtain ⟨b7, b1, b2⟩ := Kd.at_int (Kd.R_reads' a4.out).2.2 a3 a7 a8
 cases b1
 replace a7 := eq_true a7
 replace a8 := eq_true a8
 go_wp2_with (first | ((with_reducible refine gate_callee (f := 58) rfl ?_); refine goesL_ (some 37) rfl rfl Tryz.func58 kr rfl #[.int .i64 (rd a5 a3), .int .i64 a2] rfl sM ?_; (with_reducible refine (impl_distance.calls (rd a5 a3) a2 a9 _ c3.out).mono ?_); rintro e g2 ⟨rfl, hb⟩; refine ⟨_, rfl, ?_⟩; replace a4 := Aside0.mk (Kd.R_below (oR a4) hb); replace HB := Aside0.mk (below_step bB hb); (try clear hb)) | ((with_reducible refine gate_callee (f := 58) rfl ?_); refine goesL_ (some 41) rfl rfl Tryz.func58 kr rfl #[.int .i64 a6, .int .i64 a2] rfl sM ?_; (with_reducible refine (impl_distance.calls a6 a2 b0 _ c4.out).mono ?_); rintro e g3 ⟨rfl, hb⟩; refine ⟨_, rfl, ?_⟩; replace a4 := Aside0.mk (Kd.R_below (oR a4) hb); replace HB := Aside0.mk (below_step bB hb); (try clear hb)) | (go_at_call 58; (with_reducible refine (impl_distance.calls a6 a2 b8 _ c9.out).mono ?_); rintro e g4 ⟨rfl, hb⟩; replace a4 := Aside0.mk (Kd.R_below (oR a4) hb); replace HB := Aside0.mk (below_step bB hb); (try clear hb)))
 go_roundg k2
 case measure => have := HJ3.out; have := HK2.out; omega
 case rel => exact ⟨(a6), (wrap64 (a3 + 1)), sR, sR, H', ⟨by have := HJ3.out; have := HK2.out; omega⟩, ⟨oR a4⟩, ⟨bB⟩⟩
 )
 )
 ·(
 rw [if_neg b9] at H
 obtain ⟨d2, d3⟩ := nE b9
 have H' := Aside0.mk H
 clear H
 have a7 : 0 ≤ (a3 : Int) := of_decide_eq_true asm
 have a8 : a3 < (a5.length : Int) := of_decide_eq_true asm
 obtain ⟨b7, b1, b2⟩ := Kd.at_int (Kd.R_reads' a4.out).2.2 a3 a7 a8
 cases b1
 replace a7 := eq_true a7
 replace a8 := eq_true a8
 go_wp2_with (first | ((with_reducible refine gate_callee (f := 58) rfl ?_); refine goesL_ (some 37) rfl rfl Tryz.func58 kr rfl #[.int .i64 (rd a5 a3), .int .i64 a2] rfl sM ?_; (with_reducible refine (impl_distance.calls (rd a5 a3) a2 a9 _ c3.out).mono ?_); rintro e g5 ⟨rfl, hb⟩; refine ⟨_, rfl, ?_⟩; replace a4 := Aside0.mk (Kd.R_below (oR a4) hb); replace HB := Aside0.mk (below_step bB hb); (try clear hb)) | ((with_reducible refine gate_callee (f := 58) rfl ?_); refine goesL_ (some 41) rfl rfl Tryz.func58 kr rfl #[.int .i64 a6, .int .i64 a2] rfl sM ?_; (with_reducible refine (impl_distance.calls a6 a2 b0 _ c4.out).mono ?_); rintro e g6 ⟨rfl, hb⟩; refine ⟨_, rfl, ?_⟩; replace a4 := Aside0.mk (Kd.R_below (oR a4) hb); replace HB := Aside0.mk (below_step bB hb); (try clear hb)) | (go_at_call 58; (with_reducible refine (impl_distance.calls a6 a2 b8 _ c9.out).mono ?_); rintro e g7 ⟨rfl, hb⟩; replace a4 := Aside0.mk (Kd.R_below (oR a4) hb); replace HB := Aside0.mk (below_step bB hb); (try clear hb)))
 go_roundg k2
 case measure => have := HJ3.out; have := HK2.out; omega
 case rel => exact ⟨(a6), (wrap64 (a3 + 1)), sR, sR, H', ⟨by have := HJ3.out; have := HK2.out; omega⟩, ⟨oR a4⟩, ⟨bB⟩⟩
 )
 )
 )
 ·(
 rw [if_neg c2] at H
 exact absurd H (by simp)
 )
 )
 ·(
 rw [if_neg c1] at H
 exact absurd H (by simp)
 )
 )
 ·(
 rw [if_neg b4] at H
 have d0 : decide (a3 < (a5.length : Int)) = false := decide_eq_false b4
 clear b4
 simp only [Option.some.injEq, Prod.mk.injEq] at H
 obtain ⟨rfl, rfl⟩ := H
 go_wp2
 go_ret2
 exact ⟨sE, bI⟩
 )
 )
 )
 )
 )
 )

/-! ### spec_NearestImage: function 23 -/
def spec_NearestImage.f (k : Nat) (a0 : Int) (a1 : Int) (a2 : Int) : Option (Int × Bool) := (spec_miSeen.f a0 a1 a2).bind fun t363 => (if t363 = true then ((spec_miFar.f k a0 a1 a2 1).bind fun t364 => (if 0 < (t364.length : Int) then (some (rd t364 0, true)) else (none))) else (some (0, false)))
theorem spec_NearestImage.mono : ∀ a0 a1 a2 k, LeO (spec_NearestImage.f k a0 a1 a2) (spec_NearestImage.f (k + 1) a0 a1 a2) := by
  intro a0 a1 a2 k
  unfold spec_NearestImage.f
  repeat' first
      | (with_reducible exact spec_miFar.mono _ _ _ _ _)
      | (with_reducible exact LeO.refl _)
      | (with_reducible exact LeO.none _)
      | (with_reducible refine LeO.ite ?_ ?_)
      | (with_reducible refine LeO.bind ?_ (fun _ => ?_))
      | exact spec_miFar.mono _ _ _ _ _
      | exact LeO.none _
      | refine LeO.ite ?_ ?_
      | refine LeO.bind ?_ (fun _ => ?_)
set_option maxHeartbeats 8000000 in
set_option maxRecDepth 100000 in
theorem spec_NearestImage.calls (k : Nat) (a0 : Int) (a1 : Int) (a2 : Int) (r1 : Int) (r2 : Bool) (w : World) (h : spec_NearestImage.f k a0 a1 a2 = some (r1, r2)) :
    Calls Tryz.prog 23 #[.int .i64 a0, .int .i64 a1, .int .i64 a2] w fun e w' => e = .returned (.tuple #[.int .i64 r1, .bool r2]) ∧ Below w.heap.size w w' := by
 have HB := Aside0.mk (Below.refl w.heap.size w)
 have H := h
 unfold spec_NearestImage.f at H
 clear h
 obtain ⟨a9, A4, H⟩ := bD H
 try dsimp only at H
 by_cases c5 : a9 = true
 ·(
 subst c5
 rw [if_pos rfl] at H
 obtain ⟨a3, A6, H⟩ := bD H
 try dsimp only at H
 by_cases c7 : 0 < (a3.length : Int)
 ·(
 rw [if_pos c7] at H
 have b4 : decide (0 < (a3.length : Int)) = true := decide_eq_true c7
 have b5 : decide (0 < a3.length) = true := decide_eq_true (by omega)
 clear c7
 simp only [Option.some.injEq, Prod.mk.injEq] at H
 obtain ⟨rfl, rfl⟩ := H
 go_enter Tryz.func23, Tryz.ntmps23
 go_wp2_with (first | ((with_reducible refine gate_callee (f := 56) rfl ?_); refine goesL_ (some 11) rfl rfl Tryz.func56 kr rfl #[.int .i64 a0, .int .i64 a1, .int .i64 a2] rfl sM ?_; (with_reducible refine (spec_miSeen.calls a0 a1 a2 true _ A4.out).mono ?_); rintro e w' ⟨rfl, ⟨nd, rfl⟩⟩; refine ⟨_, rfl, ?_⟩) | ((with_reducible refine gate_callee (f := 61) rfl ?_); refine goesL_ (some 16) rfl rfl Tryz.func61 kr rfl #[.int .i64 a0, .int .i64 a1, .int .i64 a2, .int .i64 1] rfl sM ?_; (with_reducible refine (spec_miFar.calls k a0 a1 a2 1 a3 _ A6.out).mono ?_); rintro e w8 ⟨b6, rfl, a8, hb⟩; refine ⟨_, rfl, ?_⟩; have a7 := Aside0.mk (Kd.R_lower a8 (below_size bB)); replace HB := Aside0.mk (below_step bB hb); (try clear hb); (try clear a8); obtain ⟨b7, b8, b1⟩ := Kd.R_slice a7.out; subst b1; have a5 : 0 ≤ (0 : Int) := (by omega); have a6 : 0 < (a3.length : Int) := of_decide_eq_true asm; obtain ⟨b2, b0, a4⟩ := Kd.at_int (Kd.R_reads' a7.out).2.2 0 a5 a6; cases b0; have b3 : (0 < a3.length) = True := eq_true (by omega); (try rw [show ((0 : Int)).toNat = 0 from rfl] at a4); (try rw [Addr.add_zero'] at a4); replace a5 := eq_true a5; replace a6 := eq_true a6))
 go_ret2
 exact ⟨sE, bI⟩
 )
 ·(
 rw [if_neg c7] at H
 exact absurd H (by simp)
 )
 )
 ·(
 replace c5 := Bool.eq_false_iff.mpr c5
 subst c5
 rw [if_neg nft] at H
 simp only [Option.some.injEq, Prod.mk.injEq] at H
 obtain ⟨rfl, rfl⟩ := H
 go_enter Tryz.func23, Tryz.ntmps23
 go_wp2_with (first | ((with_reducible refine gate_callee (f := 56) rfl ?_); refine goesL_ (some 11) rfl rfl Tryz.func56 kr rfl #[.int .i64 a0, .int .i64 a1, .int .i64 a2] rfl sM ?_; (with_reducible refine (spec_miSeen.calls a0 a1 a2 false _ A4.out).mono ?_); rintro e w' ⟨rfl, ⟨nd, rfl⟩⟩; refine ⟨_, rfl, ?_⟩))
 go_ret2
 exact ⟨sE, bI⟩
 )

/-! ### spec_DrawWedgeImages: function 24 -/
-- (its text lies ahead)

/-! ### impl_isWedgeAngle: function 68 -/
def impl_isWedgeAngle.f (a0 : Int) : Option (Bool) := (impl_within.f a0 1 90).bind fun t368 => (if t368 = true then (if a0 = 0 then (none) else (some (((180 : Int) % a0) == 0))) else (some false))
set_option maxHeartbeats 8000000 in
set_option maxRecDepth 100000 in
theorem impl_isWedgeAngle.calls (a0 : Int) (r : Bool) (w : World) (h : impl_isWedgeAngle.f a0 = some r) :
    Calls Tryz.prog 68 #[.int .i64 a0] w fun e w' => e = .returned (.bool r) ∧ Drawn0 w w' := by
 have H := h
 unfold impl_isWedgeAngle.f at H
 clear h
 obtain ⟨a3, A2, H⟩ := bD H
 try dsimp only at H
 by_cases c3 : a3 = true
 ·(
 subst c3
 rw [if_pos rfl] at H
 by_cases c4 : a0 = 0
 ·(
 rw [if_pos c4] at H
 exact absurd H (by simp)
 )
 ·(
 rw [if_neg c4] at H
 obtain ⟨a4, a5⟩ := nE c4
 obtain rfl := Option.some.inj H
 go_enter Tryz.func68, Tryz.ntmps68
 go_wp2_with (first | ((with_reducible refine gate_callee (f := 39) rfl ?_); refine goesL_ (some 4) rfl rfl Tryz.func39 kr rfl #[.int .i64 a0, .int .i64 1, .int .i64 90] rfl sM ?_; (with_reducible refine (impl_within.calls a0 1 90 true _ A2.out).mono ?_); rintro e w' ⟨rfl, ⟨nd, rfl⟩⟩; refine ⟨_, rfl, ?_⟩))
 go_ret
 exact ⟨by first | rfl | (simp; done) | (simp [*]; done), by repeat (first | exact Drawn0.refl _ | apply Drawn0.step)⟩
 )
 )
 ·(
 replace c3 := Bool.eq_false_iff.mpr c3
 subst c3
 rw [if_neg nft] at H
 obtain rfl := Option.some.inj H
 go_enter Tryz.func68, Tryz.ntmps68
 go_wp2_with (first | ((with_reducible refine gate_callee (f := 39) rfl ?_); refine goesL_ (some 4) rfl rfl Tryz.func39 kr rfl #[.int .i64 a0, .int .i64 1, .int .i64 90] rfl sM ?_; (with_reducible refine (impl_within.calls a0 1 90 false _ A2.out).mono ?_); rintro e w' ⟨rfl, ⟨nd, rfl⟩⟩; refine ⟨_, rfl, ?_⟩))
 go_ret
 exact ⟨by first | rfl | (simp; done) | (simp [*]; done), by repeat (first | exact Drawn0.refl _ | apply Drawn0.step)⟩
 )

/-! ### impl_isWedge: function 63 -/
def impl_isWedge.f (a0 : Int) (a1 : Int) : Option (Bool) := (impl_isWedgeAngle.f a0).bind fun t369 => (if t369 = true then ((impl_within.f a1 1 (wrap64 (a0 - 1))).bind fun t370 => (some t370)) else (some false))
set_option maxHeartbeats 8000000 in
set_option maxRecDepth 100000 in
theorem impl_isWedge.calls (a0 : Int) (a1 : Int) (r : Bool) (w : World) (h : impl_isWedge.f a0 a1 = some r) :
    Calls Tryz.prog 63 #[.int .i64 a0, .int .i64 a1] w fun e w' => e = .returned (.bool r) ∧ Drawn0 w w' := by
 have H := h
 unfold impl_isWedge.f at H
 clear h
 obtain ⟨a3, A3, H⟩ := bD H
 try dsimp only at H
 by_cases c4 : a3 = true
 ·(
 subst c4
 rw [if_pos rfl] at H
 obtain ⟨a4, A5, H⟩ := bD H
 try dsimp only at H
 obtain rfl := Option.some.inj H
 go_enter Tryz.func63, Tryz.ntmps63
 go_wp2_with (first | ((with_reducible refine gate_callee (f := 68) rfl ?_); refine goesL_ (some 6) rfl rfl Tryz.func68 kr rfl #[.int .i64 a0] rfl sM ?_; (with_reducible refine (impl_isWedgeAngle.calls a0 true _ A3.out).mono ?_); rintro e w' ⟨rfl, ⟨nd, rfl⟩⟩; refine ⟨_, rfl, ?_⟩) | (go_at_call 39; (with_reducible refine (impl_within.calls a1 1 (wrap64 (a0 - 1)) a4 _ A5.out).mono ?_); rintro e w' ⟨rfl, ⟨nd, rfl⟩⟩))
 go_ret
 exact ⟨by first | rfl | (simp; done) | (simp [*]; done), by repeat (first | exact Drawn0.refl _ | apply Drawn0.step)⟩
 )
 ·(
 replace c4 := Bool.eq_false_iff.mpr c4
 subst c4
 rw [if_neg nft] at H
 obtain rfl := Option.some.inj H
 go_enter Tryz.func63, Tryz.ntmps63
 go_wp2_with (first | ((with_reducible refine gate_callee (f := 68) rfl ?_); refine goesL_ (some 6) rfl rfl Tryz.func68 kr rfl #[.int .i64 a0] rfl sM ?_; (with_reducible refine (impl_isWedgeAngle.calls a0 false _ A3.out).mono ?_); rintro e w' ⟨rfl, ⟨nd, rfl⟩⟩; refine ⟨_, rfl, ?_⟩))
 go_ret
 exact ⟨by first | rfl | (simp; done) | (simp [*]; done), by repeat (first | exact Drawn0.refl _ | apply Drawn0.step)⟩
 )

/-! ### bits_Mul32: function 107 -/
def bits_Mul32.f (a0 : Int) (a1 : Int) : Option (Int × Int) := some (((IntKind.u64.wrap ((IntKind.u64.wrap (a0)) * (IntKind.u64.wrap (a1)))) / 4294967296) % 4294967296, (IntKind.u64.wrap ((IntKind.u64.wrap (a0)) * (IntKind.u64.wrap (a1)))) % 4294967296)
set_option maxHeartbeats 8000000 in
set_option maxRecDepth 100000 in
theorem bits_Mul32.calls (a0 : Int) (a1 : Int) (r1 : Int) (r2 : Int) (w : World) (h : bits_Mul32.f a0 a1 = some (r1, r2)) :
    Calls Tryz.prog 107 #[.int .u32 a0, .int .u32 a1] w fun e w' => e = .returned (.tuple #[.int .u32 r1, .int .u32 r2]) ∧ Drawn0 w w' := by
 have H := h
 unfold bits_Mul32.f at H
 clear h
 simp only [Option.some.injEq, Prod.mk.injEq] at H
 obtain ⟨rfl, rfl⟩ := H
 go_enter Tryz.func107, Tryz.ntmps107
 go_wp2
 go_ret2
 exact ⟨by first | rfl | (simp; done) | (simp [*]; done), by repeat (first | exact Drawn0.refl _ | apply Drawn0.step)⟩

/-! ### bits_Mul64: function 108 -/
def bits_Mul64.f (a0 : Int) (a1 : Int) : Option (Int × Int) := some (IntKind.u64.wrap ((IntKind.u64.wrap ((IntKind.u64.wrap ((a0 / 4294967296) * (a1 / 4294967296))) + ((IntKind.u64.wrap ((IntKind.u64.wrap ((a0 / 4294967296) * (Go.bits .and .u64 a1 4294967295))) + ((IntKind.u64.wrap ((Go.bits .and .u64 a0 4294967295) * (Go.bits .and .u64 a1 4294967295))) / 4294967296))) / 4294967296))) + ((IntKind.u64.wrap ((Go.bits .and .u64 (IntKind.u64.wrap ((IntKind.u64.wrap ((a0 / 4294967296) * (Go.bits .and .u64 a1 4294967295))) + ((IntKind.u64.wrap ((Go.bits .and .u64 a0 4294967295) * (Go.bits .and .u64 a1 4294967295))) / 4294967296))) 4294967295) + (IntKind.u64.wrap ((Go.bits .and .u64 a0 4294967295) * (a1 / 4294967296))))) / 4294967296)), IntKind.u64.wrap (a0 * a1))
set_option maxHeartbeats 8000000 in
set_option maxRecDepth 100000 in
theorem bits_Mul64.calls (a0 : Int) (a1 : Int) (r1 : Int) (r2 : Int) (w : World) (h : bits_Mul64.f a0 a1 = some (r1, r2)) :
    Calls Tryz.prog 108 #[.int .u64 a0, .int .u64 a1] w fun e w' => e = .returned (.tuple #[.int .u64 r1, .int .u64 r2]) ∧ Drawn0 w w' := by
 have H := h
 unfold bits_Mul64.f at H
 clear h
 simp only [Option.some.injEq, Prod.mk.injEq] at H
 obtain ⟨rfl, rfl⟩ := H
 go_enter Tryz.func108, Tryz.ntmps108
 go_wp2
 go_ret2
 exact ⟨by first | rfl | (simp; done) | (simp [*]; done), by repeat (first | exact Drawn0.refl _ | apply Drawn0.step)⟩

/-! ### bits_Mul: function 81 -/
def bits_Mul.f (a0 : Int) (a1 : Int) : Option (Int × Int) := (bits_Mul64.f a0 a1).bind fun bt371 => (some (bt371.1, bt371.2))
set_option maxHeartbeats 8000000 in
set_option maxRecDepth 100000 in
theorem bits_Mul.calls (a0 : Int) (a1 : Int) (r1 : Int) (r2 : Int) (w : World) (h : bits_Mul.f a0 a1 = some (r1, r2)) :
    Calls Tryz.prog 81 #[.int .u64 a0, .int .u64 a1] w fun e w' => e = .returned (.tuple #[.int .u64 r1, .int .u64 r2]) ∧ Drawn0 w w' := by
 have H := h
 unfold bits_Mul.f at H
 clear h
 obtain ⟨⟨a3, a4⟩, A3, H⟩ := bD H
 try dsimp only at H
 simp only [Option.some.injEq, Prod.mk.injEq] at H
 obtain ⟨rfl, rfl⟩ := H
 go_enter Tryz.func81, Tryz.ntmps81
 go_wp2_with (first | ((with_reducible refine gate_callee (f := 108) rfl ?_); refine goesL_ (some 25) rfl rfl Tryz.func108 kr rfl #[.int .u64 a0, .int .u64 a1] rfl sM ?_; (with_reducible refine (bits_Mul64.calls a0 a1 a3 a4 _ A3.out).mono ?_); rintro e w' ⟨rfl, ⟨nd, rfl⟩⟩; refine ⟨_, rfl, ?_⟩))
 go_ret2
 exact ⟨by first | rfl | (simp; done) | (simp [*]; done), by repeat (first | exact Drawn0.refl _ | apply Drawn0.step)⟩

/-! ### slices_Repeat_int_int: function 80 -/
def slices_Repeat_int_int.f (l0 : List Int) (a1 : Int) : Option (List Int) := if l0.length = 1 ∧ a1 = 360 then some (List.replicate 360 (rd l0 0)) else none
def rpRow (v : Int) (n : Nat) : List Value := List.replicate n (.int .i64 v) ++ List.replicate (360 - n) (.int .i64 0)
theorem rp_cells {w : World} {g : Nat} {cs : Array Value} (h : w.heap[g]? = some (.cells cs 3 (0, 0))) (i : Nat) : w.cell? ⟨g, i, none⟩ = cs[i]? := by simp [World.cell?, h]
theorem rp_below_setRow {B g : Nat} {w0 w : World} (hb : Below B w0 w) (hBg : B ≤ g) (cs : Array Value) : Below B w0 (w.setRow g cs) :=
  ⟨hb.os, hb.tape, hb.output, Nat.le_trans hb.size (by simp [World.setRow]), fun k hk => (setRow_other w g k cs (by omega)).trans (hb.block k hk)⟩
theorem rp_made' (n : Nat) : madeCells #[.int .i64 0] n = (List.replicate n (Value.int .i64 0)).toArray := by
  apply Array.ext'
  apply List.ext_getElem
  · simp [madeCells]
  · intro i h1 h2
    simp [madeCells, Nat.mod_one]
theorem rp_made (v : Int) : madeCells #[.int .i64 0] 360 = (rpRow v 0).toArray := rp_made' 360
theorem rp_size (v : Int) (n : Nat) (h : n ≤ 360) : (rpRow v n).length = 360 := by
  unfold rpRow
  rw [List.length_append, List.length_replicate, List.length_replicate]
  omega
theorem rp_splice (v : Int) (n m : Nat) (h : n + m ≤ 360) : (rpRow v n).take n ++ List.replicate m (.int .i64 v) ++ (rpRow v n).drop (n + m) = rpRow v (n + m) := by
  unfold rpRow
  rw [List.take_left' (by rw [List.length_replicate]), List.replicate_append_replicate, List.drop_append, List.drop_eq_nil_of_le (by rw [List.length_replicate]; omega), List.nil_append, List.drop_replicate, List.length_replicate]
  congr 2
  omega
theorem rp_copy {W : World} {g : Nat} (v : Int) (n m : Nat) (ad : Addr) (sLen sCap dCap : Nat) (hm : m = Nat.min sLen (360 - n)) (hn : n ≤ 360) (hg : W.heap[g]? = some (.cells (rpRow v n).toArray 3 (0, 0))) (hsrc : ∀ j, j < m → W.cell? (ad.add j) = some (.int .i64 v)) :
    (Builtin.copy_ #[26, 26] 3 #[.slice (some ⟨g, n, none⟩) (360 - n) dCap, .slice (some ad) sLen sCap]).run Tryz.prog W = .ok (goInt ((m : Nat) : Int)) (W.setRow g (rpRow v (n + m)).toArray) := by
  have hle : n + m ≤ 360 := by
    have : Nat.min sLen (360 - n) ≤ 360 - n := Nat.min_le_right _ _
    omega
  have hl : (List.replicate m (Value.int .i64 v)).length = m := List.length_replicate
  have hr := run_copy_row (P := Tryz.prog) W 26 26 3 3 g n (360 - n) dCap ad sLen sCap (rpRow v n).toArray 3 (List.replicate m (.int .i64 v)) Tryz.underlying26 kr hg (by rw [hl]; exact hm)
    (fun j u hj => by
      have : j < m := by
        rcases Nat.lt_or_ge j m with c | c
        · exact c
        · rw [List.getElem?_eq_none (by rw [hl]; exact c)] at hj; cases hj
      rw [List.getElem?_replicate, if_pos this] at hj
      injection hj with hj
      rw [← hj]
      exact hsrc j this)
    (by rw [hl, List.size_toArray, rp_size v n hn]; exact hle) (fun u hu => by rw [List.eq_of_mem_replicate hu]; rfl)
  rw [hr, hl]
  have e : (rpRow v n).toArray.toList = rpRow v n := rfl
  rw [e, rp_splice v n m hle]
theorem rp_mul : bits_Mul.f 1 360 = some (0, 360) := by kernel_rfl
abbrev slices_Repeat_int_int.pl0 : List (Nat × Option Tmp × Nat) := [q 0 38, q 1 39, q 2 40, q 3 41, q 4 42, q 5 43, q 6 44, qo 7 45, q 8 46, q 9 8]
set_option maxHeartbeats 4000000 in
theorem slices_Repeat_int_int.calls (A0 : Option Addr) (c0 : Nat) (l0 : List Int) (a1 : Int) (r : List Int) (w : World) (hr0 : Kd.C (Kd.int .i64) w A0 l0.length l0) (hc0 : l0.length ≤ c0) (h : slices_Repeat_int_int.f l0 a1 = some r) :
    Calls Tryz.prog 80 #[.slice A0 l0.length c0, .int .i64 a1] w fun e w' => ∃ v0_ : Value, e = .returned (v0_) ∧ Kd.R (Kd.int .i64) 3 w' w.heap.size (fun _ => True) v0_ r ∧ Below w.heap.size w w' := by
 unfold slices_Repeat_int_int.f at h
 by_cases hh : l0.length = 1 ∧ a1 = 360
 ·(
 rw [if_pos hh] at h
 obtain ⟨hl, rfl⟩ := hh
 obtain ⟨v, rfl⟩ : ∃ v, l0 = [v] := by
  match l0, hl with
  | [v], _ => exact ⟨v, rfl⟩
 have hv : rd [v] 0 = v := rfl
 rw [hv] at h
 obtain rfl := Option.some.inj h
 obtain ⟨ad, rfl, hcell⟩ := hr0.2.2 (by simp)
 have hc : w.cell? ad = some (.int .i64 v) := by
  obtain ⟨cs, _, hk, hc⟩ := hcell 0 v rfl
  have hk' : cs = [.int .i64 v] := hk
  subst hk'
  have := hc 0 _ rfl
  have e : ad.add (0 * (Kd.int .i64).sz + 0) = ad := by simp [Addr.add]
  rwa [e] at this
 have HC := Aside0.mk hc
 have hmk : ∀ W : World, (Instr.makeSlice 26 (.int .i64 360) (.int .i64 360)).run Tryz.prog W = .ok (.slice (some ⟨W.heap.size, 0, none⟩) 360 360) (W.alloc (.cells (rpRow v 0).toArray 3)) := by
  intro W
  rw [← rp_made v]
  exact print_make 26 3 .i64 8 Tryz.underlying26 info3 (by decide) 360 (by decide) W
 clear hr0 hcell h hl hv hc
 show Calls Tryz.prog 80 #[.slice (some ad) 1 c0, .int .i64 360] w _
 go_enter Tryz.func80, Tryz.ntmps80
 go_wp2_with fail
 refine (bits_Mul.calls 1 360 0 360 _ rp_mul).mono ?_
 rintro e w1 ⟨rfl, hd⟩
 obtain ⟨q, rfl⟩ := hd
 have a3 := below_alloc (pw_below_drewN (Below.refl w.heap.size w) q) (.cells (rpRow v 0).toArray 3)
 have a4 : ((w.drewN q).alloc (.cells (rpRow v 0).toArray 3)).heap[w.heap.size]? = some (.cells (rpRow v 0).toArray 3 (0, 0)) := blk_new (w.drewN q) _
 have hlt : ad.block < w.heap.size := World.block_lt_of_cell? w ad HC.out
 have a7 : ((w.drewN q).alloc (.cells (rpRow v 0).toArray 3)).cell? ad = some (.int .i64 v) := (World.cell?_of_block (a3.block ad.block hlt)).trans HC.out
 have hcp : (Builtin.copy_ #[26, 26] 3 #[.slice (some ⟨w.heap.size, 0, none⟩) 360 360, .slice (some ad) 1 c0]).run Tryz.prog ((w.drewN q).alloc (.cells (rpRow v 0).toArray 3)) = .ok (.int .i64 1) (((w.drewN q).alloc (.cells (rpRow v 0).toArray 3)).setRow w.heap.size (rpRow v 1).toArray) :=
  rp_copy v 0 1 ad 1 c0 360 (by decide) (by omega) a4 (fun j hj => by
   obtain rfl : j = 0 := by omega
   have e : ad.add 0 = ad := by simp [Addr.add]
   rw [e]; exact a7)
 have a5 : Aside0 (Below w.heap.size w (((w.drewN q).alloc (.cells (rpRow v 0).toArray 3)).setRow w.heap.size (rpRow v 1).toArray)) := ⟨rp_below_setRow a3 (Nat.le_refl _) _⟩
 have a6 : Aside0 ((((w.drewN q).alloc (.cells (rpRow v 0).toArray 3)).setRow w.heap.size (rpRow v 1).toArray).heap[w.heap.size]? = some (.cells (rpRow v 1).toArray 3 (0, 0))) := ⟨setRow_heap _ _ _ _ _ _ a4⟩
 clear a3 a4 a7 hlt
 go_wp2_with fail
 generalize ((w.drewN q).alloc (.cells (rpRow v 0).toArray 3)).setRow w.heap.size (rpRow v 1).toArray = w2 at a5 a6 ⊢
 clear hmk hcp
 go_loopg [8] 360 (fun gg s8 wr => ∃ n : Nat, 1 ≤ n ∧ n ≤ 360 ∧ 360 - n ≤ gg ∧ s8 = .int .i64 (n : Int) ∧ Aside0 (wr.heap[w.heap.size]? = some (.cells (rpRow v n).toArray 3 (0, 0))) ∧ Aside0 (Below w.heap.size w wr))
 case atStart => exact ⟨1, Nat.le_refl _, by omega, by omega, rfl, a6, a5⟩
 case round => (
 obtain ⟨n, h1, h2, hgk, rfl, HG, HB⟩ := hrel
 clear a6 a5 w2
 by_cases hlt : n < 360
 ·(
 have d1 : decide ((n : Int) < 360) = true := decide_eq_true (by omega)
 go_wp2_with fail
 obtain ⟨m, hm⟩ : ∃ m, m = Nat.min n (360 - n) := ⟨_, rfl⟩
 have hmle : m ≤ n ∧ m ≤ 360 - n := by rw [hm]; exact ⟨Nat.min_le_left _ _, Nat.min_le_right _ _⟩
 have hmpos : 1 ≤ m := by rw [hm]; exact Nat.le_min.2 ⟨h1, by omega⟩
 have HGD : Aside0 (wr.drew.heap[w.heap.size]? = some (.cells (rpRow v n).toArray 3 (0, 0))) := ⟨HG.out⟩
 have HBD := Aside0.mk (below_step HB.out (below_drew (Below.refl _ wr)))
 have hcp := rp_copy v n m ⟨w.heap.size, 0, none⟩ n 360 (360 - n) hm h2 HGD.out (fun j hj => by
  have e : (⟨w.heap.size, 0, none⟩ : Addr).add j = ⟨w.heap.size, j, none⟩ := by unfold Addr.add; split <;> simp_all
  have hjn : j < n := by omega
  rw [e, rp_cells HGD.out, List.getElem?_toArray]
  unfold rpRow
  rw [List.getElem?_append_left (by rw [List.length_replicate]; exact hjn), List.getElem?_replicate, if_pos hjn])
 have hle : (n : Int) ≤ 360 := by omega
 have hne : ¬ 360 = n := by omega
 have HCP := Aside0.mk hcp
 have wn : IntKind.i64.wrap ((n : Int) + (m : Int)) = ((n + m : Nat) : Int) := by rw [i64_w]; unfold wrap64; omega
 have HN := Aside0.mk hmle
 have HPOS := Aside0.mk hmpos
 clear hcp hm hmle hmpos
 refine st0_ 10 slices_Repeat_int_int.pl0 (S := fun _ => True) (ds := [7]) trivial (fun hHeld HT_ HW_ => ?_)
 clear hHeld
 generalize wr.drew = wd at HGD HBD HCP ⊢
 iterate 7 refine pA HT_ ?_
 refine pL HT_ fun K hK => ?_
 refine value_ (v := .int .i64 ((m : Nat) : Int)) (w1 := wd.setRow w.heap.size (rpRow v (n + m)).toArray) (by rfl) rfl ?_ ?_
 ·(
 have := HCP.out
 go_simp
 )
 refine hK.out _ _ ?_
 clear hK K
 refine nP ?_
 iterate 2 refine pA HT_ ?_
 refine pD HT_ ?_
 go_wp2_with fail
 go_roundg (360 - (n + m))
 case measure => have := HPOS.out; omega
 case rel => exact ⟨n + m, by omega, by have := HN.out; omega, Nat.le_refl _, by first | rfl | go_num, ⟨setRow_heap _ _ _ _ _ _ HGD.out⟩, ⟨rp_below_setRow HBD.out (Nat.le_refl _) _⟩⟩
 )
 ·(
 have d1 : decide ((n : Int) < 360) = false := decide_eq_false (by omega)
 obtain rfl : n = 360 := by omega
 go_wp2_with fail
 go_ret
 refine ⟨_, rfl, Kd.R_of_own (enc := Value.int .i64) (h1 := fun _ => rfl) ⟨?_, .inr ⟨w.heap.size, 360, (rpRow v 360).toArray, ?_, Nat.le_refl _, HG.out, ?_, by decide, ?_, ?_⟩⟩ (fun _ _ => trivial), HB.out⟩
 ·(
 unfold encs
 rw [List.length_map, Nat.mul_one]
 )
 ·(
 rw [List.length_replicate]
 rfl
 )
 ·(
 rw [List.length_replicate]
 exact Nat.le_refl _
 )
 · rw [List.size_toArray, rp_size v 360 (Nat.le_refl _)]
 ·(
 rw [List.length_replicate]
 show (rpRow v 360).take (360 * 1) = _
 rw [List.take_of_length_le (by rw [rp_size v 360 (Nat.le_refl _)]; omega)]
 unfold rpRow encs
 rw [List.map_replicate]
 exact List.append_nil _
 )
 )
 )
 )
 ·(
 rw [if_neg hh] at h
 cases h
 )

end Go.Proofs.YtnmhefdjakjngaaGreatDoor.PFnMirrorsFace
