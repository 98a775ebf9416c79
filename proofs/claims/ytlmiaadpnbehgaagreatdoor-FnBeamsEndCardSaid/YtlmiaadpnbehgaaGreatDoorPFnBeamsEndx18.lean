-- Written by xprint.py, a program of this session, for this seat; Lean checks it.
import Derived.Test.YtlmiaadpnbehgaaGreatDoorVM
import Derived.Test.YtlmiaadpnbehgaaGreatDoorPFnBeamsEndx0
import Derived.Test.YtlmiaadpnbehgaaGreatDoorPFnBeamsEndx9
namespace Go.Proofs.YtlmiaadpnbehgaaGreatDoor.PFnBeamsEnd
open Go.Proofs.YtlmiaadpnbehgaaGreatDoorV Go.RowKit Go.Proofs.YtlmiaadpnbehgaaGreatDoorW.PrintWords Go.Proofs.YtlmiaadpnbehgaaGreatDoorW.PrintLast Go.Proofs.YtlmiaadpnbehgaaGreatDoorW.PrintMore
attribute [local go_sem] max2_int min2_int max_two min_two max_three min_three max_four min_four   -- for this text's walks alone
set_option linter.unusedVariables false
set_option linter.unusedSimpArgs false

/-! ### spec_l1Read: function 78 -/
mutual
def spec_l1Read.j0 : Nat → ByteArray → Bool → Option (Int)
  | 0, _, _ => none
  | k + 1, x0, x18 => if x18 = true then (some (-1)) else (spec_l1Read.l0 k x0 0 0)
def spec_l1Read.l0 : Nat → ByteArray → Int → Int → Option (Int)
  | 0, _, _, _ => none
  | k + 1, x0, x3, x4 => if x4 < (x0.size : Int) then (if 0 ≤ x4 then (if (bt x0 x4) < 48 then (some (-1)) else (if (bt x0 x4) > 57 then (some (-1)) else (spec_l1Read.l0 k x0 (wrap64 ((wrap64 (10 * x3)) + (((bt x0 x4) - 48) % 256))) (wrap64 (x4 + 1))))) else (none)) else (some x3)
end
def spec_l1Read.f (k : Nat) (a0 : ByteArray) : Option (Int) := (spec_l1In.f (a0.size : Int) 1 6).bind fun t462 => (if t462 = true then (if 0 < (a0.size : Int) then (if (bt a0 0) = 48 then (spec_l1Read.j0 k a0 (decide ((a0.size : Int) > 1))) else (spec_l1Read.j0 k a0 false)) else (none)) else (spec_l1Read.j0 k a0 true))
theorem spec_l1Read.mono_l : ∀ k, (∀ y0 y1, LeO (spec_l1Read.j0 k y0 y1) (spec_l1Read.j0 (k + 1) y0 y1)) ∧ (∀ y0 y1 y2, LeO (spec_l1Read.l0 k y0 y1 y2) (spec_l1Read.l0 (k + 1) y0 y1 y2))
  | 0 => ⟨fun _ _ r h => by simp [spec_l1Read.j0] at h, fun _ _ _ r h => by simp [spec_l1Read.l0] at h⟩
  | k + 1 => by
    obtain ⟨ih0, ih1⟩ := spec_l1Read.mono_l k
    refine ⟨?_, ?_⟩
    · intro y0 y1
      unfold spec_l1Read.j0
      repeat' first
      | (with_reducible exact ih0 _ _)
      | (with_reducible exact ih1 _ _ _)
      | (with_reducible exact LeO.refl _)
      | (with_reducible exact LeO.none _)
      | (with_reducible refine LeO.ite ?_ ?_)
      | (with_reducible refine LeO.bind ?_ (fun _ => ?_))
      | exact ih0 _ _
      | exact ih1 _ _ _
      | exact LeO.none _
      | refine LeO.ite ?_ ?_
      | refine LeO.bind ?_ (fun _ => ?_)
    · intro y0 y1 y2
      unfold spec_l1Read.l0
      repeat' first
      | (with_reducible exact ih0 _ _)
      | (with_reducible exact ih1 _ _ _)
      | (with_reducible exact LeO.refl _)
      | (with_reducible exact LeO.none _)
      | (with_reducible refine LeO.ite ?_ ?_)
      | (with_reducible refine LeO.bind ?_ (fun _ => ?_))
      | exact ih0 _ _
      | exact ih1 _ _ _
      | exact LeO.none _
      | refine LeO.ite ?_ ?_
      | refine LeO.bind ?_ (fun _ => ?_)
theorem spec_l1Read.mono : ∀ a0 k, LeO (spec_l1Read.f k a0) (spec_l1Read.f (k + 1) a0) := by
  intro a0 k
  obtain ⟨ih0, ih1⟩ := spec_l1Read.mono_l k
  unfold spec_l1Read.f
  repeat' first
      | (with_reducible exact ih0 _ _)
      | (with_reducible exact ih1 _ _ _)
      | (with_reducible exact LeO.refl _)
      | (with_reducible exact LeO.none _)
      | (with_reducible refine LeO.ite ?_ ?_)
      | (with_reducible refine LeO.bind ?_ (fun _ => ?_))
      | exact ih0 _ _
      | exact ih1 _ _ _
      | exact LeO.none _
      | refine LeO.ite ?_ ?_
      | refine LeO.bind ?_ (fun _ => ?_)
set_option maxHeartbeats 8000000 in
set_option maxRecDepth 100000 in
theorem spec_l1Read.calls (k : Nat) (a0 : ByteArray) (r : Int) (w : World) (h : spec_l1Read.f k a0 = some r) :
    Calls Tryz.prog 78 #[.string a0] w fun e w' => e = .returned (.int .i64 r) ∧ Drawn0 w w' := by
 have H := h
 unfold spec_l1Read.f at H
 clear h
 have b3 := Aside0.mk H
 clear H
 go_enter Tryz.func78, Tryz.ntmps78
 go_upto_region 1 with (fail)
 go_cut [18] (fun c9 wc => ∃ (kq : Nat) (a4 : Bool), c9 = .bool a4 ∧ Aside0 (spec_l1Read.j0 kq a0 a4 = some r) ∧ Aside0 (kq ≤ k) ∧ Drawn0 w wc)
 case first => (
 have H := b3.out
 clear b3
 obtain ⟨c1, A3, H⟩ := bD H
 try dsimp only at H
 by_cases c4 : c1 = true
 subst c4
 rw [if_pos rfl] at H
 by_cases c5 : 0 < (a0.size : Int)
 rw [if_pos c5] at H
 have b4 : decide (0 < (a0.size : Int)) = true := decide_eq_true c5
 have d1 : decide (0 < a0.size) = true := decide_eq_true (by omega)
 clear c5
 (first | rw [b4] | (simp only [i64_w, i32_w]; rw [b4]) | skip)
 by_cases c7 : (bt a0 0) = 48
 rw [if_pos c7] at H
 obtain ⟨c2, c3⟩ := yE c7
 clear c7
 have H' := Aside0.mk H
 clear H
 rotate_left
 rw [if_neg c7] at H
 obtain ⟨c2, c3⟩ := nE c7
 have H' := Aside0.mk H
 clear H
 rotate_left
 rw [if_neg c5] at H
 exact absurd H (by simp)
 replace c4 := Bool.eq_false_iff.mpr c4
 subst c4
 rw [if_neg nft] at H
 have H' := Aside0.mk H
 clear H
 rotate_left
 all_goals (go_wp2_with (first | ((with_reducible refine gate_callee (f := 54) rfl ?_); refine goesL_ (some 7) rfl rfl Tryz.func54 kr rfl #[.int .i64 (a0.size : Int), .int .i64 1, .int .i64 6] rfl sM ?_; (with_reducible refine (spec_l1In.calls (a0.size : Int) 1 6 true _ A3.out).mono ?_); rintro e w' ⟨rfl, ⟨nd, rfl⟩⟩; refine ⟨_, rfl, ?_⟩; have a3 : 0 ≤ (0 : Int) := (by omega); have a2 : 0 < a0.size := (by have : (0 : Int) < (a0.size : Int) := of_decide_eq_true asm; omega); have b1 : ∀ h : 0 < a0.size, ((a0[0]'h).toNat : Int) = bt a0 0 := bt_at a0 0; clear a3; have d2 : (0 < (a0.size : Int)) = True := eq_true (of_decide_eq_true asm); replace a2 := eq_true a2) | ((with_reducible refine gate_callee (f := 54) rfl ?_); refine goesL_ (some 7) rfl rfl Tryz.func54 kr rfl #[.int .i64 (a0.size : Int), .int .i64 1, .int .i64 6] rfl sM ?_; (with_reducible refine (spec_l1In.calls (a0.size : Int) 1 6 false _ A3.out).mono ?_); rintro e w' ⟨rfl, ⟨nd, rfl⟩⟩; refine ⟨_, rfl, ?_⟩)))
 all_goals go_meet
 · case rel => exact ⟨_, (decide ((a0.size : Int) > 1)), sR, H', ⟨by first | omega | exact Nat.le_refl _⟩, by repeat (first | exact Drawn0.refl _ | apply Drawn0.step)⟩
 · case rel => exact ⟨_, (false), sR, H', ⟨by first | omega | exact Nat.le_refl _⟩, by repeat (first | exact Drawn0.refl _ | apply Drawn0.step)⟩
 · case rel => exact ⟨_, (true), sR, H', ⟨by first | omega | exact Nat.le_refl _⟩, by repeat (first | exact Drawn0.refl _ | apply Drawn0.step)⟩
 )
 case rest => (
 clear b3
 obtain ⟨kq, a4, rfl, HA, HJ1, ⟨d4, rfl⟩⟩ := hcut
 cases kq with
 | zero => exact absurd HA.out (by simp [spec_l1Read.j0])
 | succ b8 => (
 have H := HA.out
 clear HA
 simp only [spec_l1Read.j0] at H
 by_cases c8 : a4 = true
 ·(
 subst c8
 rw [if_pos rfl] at H
 obtain rfl := Option.some.inj H
 go_wp2
 go_ret
 exact ⟨by first | rfl | (simp; done) | (simp [*]; done), by repeat (first | exact Drawn0.refl _ | apply Drawn0.step)⟩
 )
 ·(
 replace c8 := Bool.eq_false_iff.mpr c8
 subst c8
 rw [if_neg nft] at H
 have H' := Aside0.mk H
 clear H
 go_wp2
 go_loopg [3, 4] b8 (fun kq v3 v4 w' => ∃ (a5 : Int) (a1 : Int), v3 = .int .i64 a5 ∧ v4 = .int .i64 a1 ∧ Aside0 (spec_l1Read.l0 kq a0 a5 a1 = some r) ∧ Aside0 (kq ≤ b8) ∧ Drawn0 w w')
 case atStart => exact ⟨(0), (0), sR, sR, H', ⟨Nat.le_refl _⟩, by repeat (first | exact Drawn0.refl _ | apply Drawn0.step)⟩
 case round => (
 clear H'
 obtain ⟨a5, a1, rfl, rfl, HA, HKz1, ⟨d5, rfl⟩⟩ := hrel
 cases gk with
 | zero => exact absurd HA.out (by simp [spec_l1Read.l0])
 | succ k2 => (
 have H := HA.out
 clear HA
 simp only [spec_l1Read.l0] at H
 by_cases a6 : a1 < (a0.size : Int)
 ·(
 rw [if_pos a6] at H
 have b5 : decide (a1 < (a0.size : Int)) = true := decide_eq_true a6
 clear a6
 by_cases b2 : 0 ≤ a1
 ·(
 rw [if_pos b2] at H
 have d0 : decide (0 ≤ a1) = true := decide_eq_true b2
 clear b2
 by_cases a7 : (bt a0 a1) < 48
 ·(
 rw [if_pos a7] at H
 have b6 : decide ((bt a0 a1) < 48) = true := decide_eq_true a7
 clear a7
 obtain rfl := Option.some.inj H
 have a3 : 0 ≤ (a1 : Int) := of_decide_eq_true asm
 have a2 : a1 < (a0.size : Int) := of_decide_eq_true asm
 have b1 := bt_at a0 a1
 replace a3 := eq_true a3
 replace a2 := eq_true a2
 go_wp2
 go_ret
 exact ⟨by first | rfl | (simp; done) | (simp [*]; done), by repeat (first | exact Drawn0.refl _ | apply Drawn0.step)⟩
 )
 ·(
 rw [if_neg a7] at H
 have b6 : decide ((bt a0 a1) < 48) = false := decide_eq_false a7
 clear a7
 by_cases a8 : (bt a0 a1) > 57
 ·(
 rw [if_pos a8] at H
 have b7 : decide (57 < (bt a0 a1)) = true := decide_eq_true a8
 clear a8
 obtain rfl := Option.some.inj H
 have a3 : 0 ≤ (a1 : Int) := of_decide_eq_true asm
 have a2 : a1 < (a0.size : Int) := of_decide_eq_true asm
 have b1 := bt_at a0 a1
 replace a3 := eq_true a3
 replace a2 := eq_true a2
 have a9 : 0 ≤ (a1 : Int) := of_decide_eq_true asm
 have b0 : a1 < (a0.size : Int) := of_decide_eq_true asm
 have c6 := bt_at a0 a1
 replace a9 := eq_true a9
 replace b0 := eq_true b0
 go_wp2
 go_ret
 exact ⟨by first | rfl | (simp; done) | (simp [*]; done), by repeat (first | exact Drawn0.refl _ | apply Drawn0.step)⟩
 )
 ·(
 rw [if_neg a8] at H
 have b7 : decide (57 < (bt a0 a1)) = false := decide_eq_false a8
 clear a8
 have H' := Aside0.mk H
 clear H
 have a3 : 0 ≤ (a1 : Int) := of_decide_eq_true asm
 have a2 : a1 < (a0.size : Int) := of_decide_eq_true asm
 have b1 := bt_at a0 a1
 replace a3 := eq_true a3
 replace a2 := eq_true a2
 have a9 : 0 ≤ (a1 : Int) := of_decide_eq_true asm
 have b0 : a1 < (a0.size : Int) := of_decide_eq_true asm
 have c6 := bt_at a0 a1
 replace a9 := eq_true a9
 replace b0 := eq_true b0
 have b9 : 0 ≤ (a1 : Int) := of_decide_eq_true asm
 have c0 : a1 < (a0.size : Int) := of_decide_eq_true asm
 have d3 := bt_at a0 a1
 replace b9 := eq_true b9
 replace c0 := eq_true c0
 go_wp2
 go_roundg k2
 case measure => have := HJ1.out; have := HKz1.out; omega
 case rel => exact ⟨(wrap64 ((wrap64 (10 * a5)) + (((bt a0 a1) - 48) % 256))), (wrap64 (a1 + 1)), sR, sR, H', ⟨by have := HJ1.out; have := HKz1.out; omega⟩, by repeat (first | exact Drawn0.refl _ | apply Drawn0.step)⟩
 )
 )
 )
 ·(
 rw [if_neg b2] at H
 exact absurd H (by simp)
 )
 )
 ·(
 rw [if_neg a6] at H
 have b5 : decide (a1 < (a0.size : Int)) = false := decide_eq_false a6
 clear a6
 obtain rfl := Option.some.inj H
 go_wp2
 go_ret
 exact ⟨by first | rfl | (simp; done) | (simp [*]; done), by repeat (first | exact Drawn0.refl _ | apply Drawn0.step)⟩
 )
 )
 )
 )
 )
 )

end Go.Proofs.YtlmiaadpnbehgaaGreatDoor.PFnBeamsEnd
