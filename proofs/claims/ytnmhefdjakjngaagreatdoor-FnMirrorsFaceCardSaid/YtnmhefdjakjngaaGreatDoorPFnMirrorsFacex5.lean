-- Written by xprint.py, a program of this session, for this seat; Lean checks it.
import Derived.Test.YtnmhefdjakjngaaGreatDoorVM
import Derived.Test.YtnmhefdjakjngaaGreatDoorPFnMirrorsFacex0
import Derived.Test.YtnmhefdjakjngaaGreatDoorPFnMirrorsFacex2
import Derived.Test.YtnmhefdjakjngaaGreatDoorPFnMirrorsFacex3
import Derived.Test.YtnmhefdjakjngaaGreatDoorPFnMirrorsFacex4
namespace Go.Proofs.YtnmhefdjakjngaaGreatDoor.PFnMirrorsFace
open Go.Proofs.YtnmhefdjakjngaaGreatDoorV Go.RowKit Go.Proofs.YtnmhefdjakjngaaGreatDoorW.PrintWords Go.Proofs.YtnmhefdjakjngaaGreatDoorW.PrintLast Go.Proofs.YtnmhefdjakjngaaGreatDoorW.PrintMore
attribute [local go_sem] max2_int min2_int max_two min_two max_three min_three max_four min_four   -- for this text's walks alone
set_option linter.unusedVariables false
set_option linter.unusedSimpArgs false

/-! ### impl_ImageAfter: function 11 -/
def impl_ImageAfter.j0 : Nat → Int → Int → ByteArray → Bool → Option (Int × Bool)
  | 0, _, _, _, _ => none
  | k + 1, x0, x1, x2, x16 => if x16 = true then (some (0, false)) else ((impl_imageAfter.f k x0 x1 x2).bind fun t273 => (some (t273, true)))
def impl_ImageAfter.f (k : Nat) (a0 : Int) (a1 : Int) (a2 : ByteArray) : Option (Int × Bool) := (impl_isCorridor.f a0 a1).bind fun t271 => (if t271 = true then ((impl_isWord.f a2).bind fun t272 => (impl_ImageAfter.j0 k a0 a1 a2 (!t272))) else (impl_ImageAfter.j0 k a0 a1 a2 true))
theorem impl_ImageAfter.mono_l : ∀ k, (∀ y0 y1 y2 y3, LeO (impl_ImageAfter.j0 k y0 y1 y2 y3) (impl_ImageAfter.j0 (k + 1) y0 y1 y2 y3))
  | 0 => fun _ _ _ _ r h => by simp [impl_ImageAfter.j0] at h
  | k + 1 => by
    have ih0 := impl_ImageAfter.mono_l k
    · intro y0 y1 y2 y3
      unfold impl_ImageAfter.j0
      repeat' first
      | (with_reducible exact ih0 _ _ _ _)
      | (with_reducible exact impl_imageAfter.mono _ _ _ _)
      | (with_reducible exact LeO.refl _)
      | (with_reducible exact LeO.none _)
      | (with_reducible refine LeO.ite ?_ ?_)
      | (with_reducible refine LeO.bind ?_ (fun _ => ?_))
      | exact ih0 _ _ _ _
      | exact impl_imageAfter.mono _ _ _ _
      | exact LeO.none _
      | refine LeO.ite ?_ ?_
      | refine LeO.bind ?_ (fun _ => ?_)
theorem impl_ImageAfter.mono : ∀ a0 a1 a2 k, LeO (impl_ImageAfter.f k a0 a1 a2) (impl_ImageAfter.f (k + 1) a0 a1 a2) := by
  intro a0 a1 a2 k
  have ih0 := impl_ImageAfter.mono_l k
  unfold impl_ImageAfter.f
  repeat' first
      | (with_reducible exact ih0 _ _ _ _)
      | (with_reducible exact impl_imageAfter.mono _ _ _ _)
      | (with_reducible exact LeO.refl _)
      | (with_reducible exact LeO.none _)
      | (with_reducible refine LeO.ite ?_ ?_)
      | (with_reducible refine LeO.bind ?_ (fun _ => ?_))
      | exact ih0 _ _ _ _
      | exact impl_imageAfter.mono _ _ _ _
      | exact LeO.none _
      | refine LeO.ite ?_ ?_
      | refine LeO.bind ?_ (fun _ => ?_)
set_option maxHeartbeats 8000000 in
set_option maxRecDepth 100000 in
theorem impl_ImageAfter.calls (k : Nat) (a0 : Int) (a1 : Int) (a2 : ByteArray) (r1 : Int) (r2 : Bool) (w : World) (h : impl_ImageAfter.f k a0 a1 a2 = some (r1, r2)) (hw_ : PtW w) :
    Calls Tryz.prog 11 #[.int .i64 a0, .int .i64 a1, .string a2] w fun e w' => e = .returned (.tuple #[.int .i64 r1, .bool r2]) ∧ Below w.heap.size w w' := by
 have HM := Aside0.mk hw_
 clear hw_
 have HB := Aside0.mk (Below.refl w.heap.size w)
 have H := h
 unfold impl_ImageAfter.f at H
 clear h
 have a4 := Aside0.mk H
 clear H
 go_enter Tryz.func11, Tryz.ntmps11
 go_upto_region 1 with (fail)
 go_cut [16] (fun a8 wc => ∃ (kq : Nat) (a3 : Bool), a8 = .bool a3 ∧ Aside0 (impl_ImageAfter.j0 kq a0 a1 a2 a3 = some (r1, r2)) ∧ Aside0 (kq ≤ k) ∧ Aside0 (Below w.heap.size w wc))
 case first => (
 have H := a4.out
 clear a4
 obtain ⟨a6, A5, H⟩ := bD H
 try dsimp only at H
 by_cases c6 : a6 = true
 ·(
 subst c6
 rw [if_pos rfl] at H
 obtain ⟨a5, A7, H⟩ := bD H
 try dsimp only at H
 have H' := Aside0.mk H
 clear H
 go_wp2_with (first | ((with_reducible refine gate_callee (f := 38) rfl ?_); refine goesL_ (some 10) rfl rfl Tryz.func38 kr rfl #[.int .i64 a0, .int .i64 a1] rfl sM ?_; (with_reducible refine (impl_isCorridor.calls a0 a1 true _ A5.out).mono ?_); rintro e w' ⟨rfl, ⟨nd, rfl⟩⟩; refine ⟨_, rfl, ?_⟩) | (go_at_call 46; (with_reducible refine (impl_isWord.calls a2 a5 _ A7.out (HM.out.below (by repeat (first | (with_reducible first | exact HB.out | apply below_alloc | apply pw_below_drewN | apply below_drew1 | refine below_set ?_ (Aside0.out (by assumption))) | exact HB.out)))).mono ?_); rintro e w8 ⟨rfl, hb⟩; replace HB := Aside0.mk (below_step bB hb); (try clear hb)))
 go_meet
 case rel => exact ⟨_, (!a5), sR, H', ⟨by first | omega | exact Nat.le_refl _⟩, ⟨bB⟩⟩
 )
 ·(
 replace c6 := Bool.eq_false_iff.mpr c6
 subst c6
 rw [if_neg nft] at H
 have H' := Aside0.mk H
 clear H
 go_wp2_with (first | ((with_reducible refine gate_callee (f := 38) rfl ?_); refine goesL_ (some 10) rfl rfl Tryz.func38 kr rfl #[.int .i64 a0, .int .i64 a1] rfl sM ?_; (with_reducible refine (impl_isCorridor.calls a0 a1 false _ A5.out).mono ?_); rintro e w' ⟨rfl, ⟨nd, rfl⟩⟩; refine ⟨_, rfl, ?_⟩))
 go_meet
 case rel => exact ⟨_, (true), sR, H', ⟨by first | omega | exact Nat.le_refl _⟩, ⟨bB⟩⟩
 )
 )
 case rest => (
 clear a4
 obtain ⟨kq, a3, rfl, HA, HJ3, HB⟩ := hcut
 cases kq with
 | zero => exact absurd HA.out (by simp [impl_ImageAfter.j0])
 | succ a9 => (
 have H := HA.out
 clear HA
 simp only [impl_ImageAfter.j0] at H
 by_cases c9 : a3 = true
 ·(
 subst c9
 rw [if_pos rfl] at H
 simp only [Option.some.injEq, Prod.mk.injEq] at H
 obtain ⟨rfl, rfl⟩ := H
 go_wp2
 go_ret2
 exact ⟨sE, bI⟩
 )
 ·(
 replace c9 := Bool.eq_false_iff.mpr c9
 subst c9
 rw [if_neg nft] at H
 obtain ⟨a7, b0, H⟩ := bD H
 try dsimp only at H
 simp only [Option.some.injEq, Prod.mk.injEq] at H
 obtain ⟨rfl, rfl⟩ := H
 go_wp2_with (first | ((with_reducible refine gate_callee (f := 41) rfl ?_); refine goesL_ (some 20) rfl rfl Tryz.func41 kr rfl #[.int .i64 a0, .int .i64 a1, .string a2] rfl sM ?_; (with_reducible refine (impl_imageAfter.calls a9 a0 a1 a2 a7 _ b0.out).mono ?_); rintro e w' ⟨rfl, ⟨nd, rfl⟩⟩; refine ⟨_, rfl, ?_⟩))
 go_ret2
 exact ⟨sE, bI⟩
 )
 )
 )

/-! ### spec_DrawImageAfter: function 12 -/
-- (its text lies ahead)

/-! ### spec_miWord: function 48 -/
def spec_miWord.l0 : Nat → ByteArray → Int → Option (Bool)
  | 0, _, _ => none
  | k + 1, x0, x3 => if x3 < (x0.size : Int) then (if 0 ≤ x3 then (if (bt x0 x3) = 108 then (if x3 > 0 then (if 0 ≤ (wrap64 (x3 - 1)) then (if (wrap64 (x3 - 1)) < (x0.size : Int) then (if (bt x0 x3) = (bt x0 (wrap64 (x3 - 1))) then (some false) else (spec_miWord.l0 k x0 (wrap64 (x3 + 1)))) else (none)) else (none)) else (spec_miWord.l0 k x0 (wrap64 (x3 + 1)))) else (if (bt x0 x3) = 114 then (if x3 > 0 then (if 0 ≤ (wrap64 (x3 - 1)) then (if (wrap64 (x3 - 1)) < (x0.size : Int) then (if (bt x0 x3) = (bt x0 (wrap64 (x3 - 1))) then (some false) else (spec_miWord.l0 k x0 (wrap64 (x3 + 1)))) else (none)) else (none)) else (spec_miWord.l0 k x0 (wrap64 (x3 + 1)))) else (some false))) else (none)) else (some true)
def spec_miWord.f (k : Nat) (a0 : ByteArray) : Option (Bool) := if (a0.size : Int) > 40 then (some false) else (spec_miWord.l0 k a0 0)
theorem spec_miWord.mono_l : ∀ k, (∀ y0 y1, LeO (spec_miWord.l0 k y0 y1) (spec_miWord.l0 (k + 1) y0 y1))
  | 0 => fun _ _ r h => by simp [spec_miWord.l0] at h
  | k + 1 => by
    have ih0 := spec_miWord.mono_l k
    · intro y0 y1
      unfold spec_miWord.l0
      repeat' first
      | (with_reducible exact ih0 _ _)
      | (with_reducible exact LeO.refl _)
      | (with_reducible exact LeO.none _)
      | (with_reducible refine LeO.ite ?_ ?_)
      | (with_reducible refine LeO.bind ?_ (fun _ => ?_))
      | exact ih0 _ _
      | exact LeO.none _
      | refine LeO.ite ?_ ?_
      | refine LeO.bind ?_ (fun _ => ?_)
theorem spec_miWord.mono : ∀ a0 k, LeO (spec_miWord.f k a0) (spec_miWord.f (k + 1) a0) := by
  intro a0 k
  have ih0 := spec_miWord.mono_l k
  unfold spec_miWord.f
  repeat' first
      | (with_reducible exact ih0 _ _)
      | (with_reducible exact LeO.refl _)
      | (with_reducible exact LeO.none _)
      | (with_reducible refine LeO.ite ?_ ?_)
      | (with_reducible refine LeO.bind ?_ (fun _ => ?_))
      | exact ih0 _ _
      | exact LeO.none _
      | refine LeO.ite ?_ ?_
      | refine LeO.bind ?_ (fun _ => ?_)
set_option maxHeartbeats 8000000 in
set_option maxRecDepth 100000 in
theorem spec_miWord.calls (k : Nat) (a0 : ByteArray) (r : Bool) (w : World) (h : spec_miWord.f k a0 = some r) :
    Calls Tryz.prog 48 #[.string a0] w fun e w' => e = .returned (.bool r) ∧ Drawn0 w w' := by
 have H := h
 unfold spec_miWord.f at H
 clear h
 by_cases c2 : (a0.size : Int) > 40
 ·(
 rw [if_pos c2] at H
 have d1 : decide (40 < (a0.size : Int)) = true := decide_eq_true c2
 have d2 : decide (40 < a0.size) = true := decide_eq_true (by omega)
 clear c2
 obtain rfl := Option.some.inj H
 go_enter Tryz.func48, Tryz.ntmps48
 go_wp2
 repeat (go_quiet (fail); try go_wp2)
 go_ret
 exact ⟨by first | rfl | (simp; done) | (simp [*]; done), by repeat (first | exact Drawn0.refl _ | apply Drawn0.step)⟩
 )
 ·(
 rw [if_neg c2] at H
 have d1 : decide (40 < (a0.size : Int)) = false := decide_eq_false c2
 have d2 : decide (40 < a0.size) = false := decide_eq_false (by omega)
 clear c2
 have H' := Aside0.mk H
 clear H
 go_enter Tryz.func48, Tryz.ntmps48
 go_wp2
 repeat (go_quiet (fail); try go_wp2)
 go_loopg [3] k (fun kq v3 w' => ∃ (a3 : Int), v3 = .int .i64 a3 ∧ Aside0 (spec_miWord.l0 kq a0 a3 = some r) ∧ Aside0 (kq ≤ k) ∧ Drawn0 w w')
 case atStart => exact ⟨(0), sR, H', ⟨Nat.le_refl _⟩, by repeat (first | exact Drawn0.refl _ | apply Drawn0.step)⟩
 case round => (
 clear H'
 try clear d1
 try clear d2
 obtain ⟨a3, rfl, HA, HK1, ⟨m1, rfl⟩⟩ := hrel
 cases gk with
 | zero => exact absurd HA.out (by simp [spec_miWord.l0])
 | succ k1 => (
 have H := HA.out
 clear HA
 simp only [spec_miWord.l0] at H
 by_cases c3 : a3 < (a0.size : Int)
 ·(
 rw [if_pos c3] at H
 have e0 : decide (a3 < (a0.size : Int)) = true := decide_eq_true c3
 clear c3
 by_cases c4 : 0 ≤ a3
 ·(
 rw [if_pos c4] at H
 have g4 : decide (0 ≤ a3) = true := decide_eq_true c4
 clear c4
 by_cases c6 : (bt a0 a3) = 108
 ·(
 rw [if_pos c6] at H
 obtain ⟨e1, e2⟩ := yE c6
 clear c6
 by_cases c7 : a3 > 0
 ·(
 rw [if_pos c7] at H
 have e3 : decide (0 < a3) = true := decide_eq_true c7
 clear c7
 obtain ⟨a5, b1⟩ : ∃ j_ : Int, (wrap64 (a3 - 1)) = j_ := ⟨_, rfl⟩
 (first | rw [b1] at H | simp only [b1] at H)
 have e9 : (IntKind.i64.wrap (a3 - 1)) = a5 := (i64_w _).trans b1
 by_cases c5 : 0 ≤ (a5)
 ·(
 rw [if_pos c5] at H
 have g0 : decide (0 ≤ (a5)) = true := decide_eq_true c5
 clear c5
 by_cases c8 : (a5) < (a0.size : Int)
 ·(
 rw [if_pos c8] at H
 have g1 : decide ((a5) < (a0.size : Int)) = true := decide_eq_true c8
 clear c8
 by_cases b2 : (bt a0 a3) = (bt a0 (a5))
 ·(
 rw [if_pos b2] at H
 obtain ⟨d3, d4⟩ := yE b2
 clear b2
 obtain rfl := Option.some.inj H
 have p5 : 0 ≤ (a3 : Int) := of_decide_eq_true asm
 have q5 : a3 < (a0.size : Int) := of_decide_eq_true asm
 have a9 := bt_at a0 a3
 replace p5 := eq_true p5
 replace q5 := eq_true q5
 have p8 : 0 ≤ (a3 : Int) := of_decide_eq_true asm
 have q8 : a3 < (a0.size : Int) := of_decide_eq_true asm
 have e7 := bt_at a0 a3
 replace p8 := eq_true p8
 replace q8 := eq_true q8
 have b3 : 0 ≤ ((a5) : Int) := of_decide_eq_true asm
 have b4 : (a5) < (a0.size : Int) := of_decide_eq_true asm
 have e4 := bt_at a0 (a5)
 replace b3 := eq_true b3
 replace b4 := eq_true b4
 go_wp2
 repeat (go_quiet (fail); try go_wp2)
 go_ret
 exact ⟨by first | rfl | (simp; done) | (simp only [← b1] <;> (first | rfl | simp)) | (simp [*]; done), by repeat (first | exact Drawn0.refl _ | apply Drawn0.step)⟩
 )
 ·(
 rw [if_neg b2] at H
 obtain ⟨d3, d4⟩ := nE b2
 have H' := Aside0.mk H
 clear H
 have p5 : 0 ≤ (a3 : Int) := of_decide_eq_true asm
 have q5 : a3 < (a0.size : Int) := of_decide_eq_true asm
 have a9 := bt_at a0 a3
 replace p5 := eq_true p5
 replace q5 := eq_true q5
 have p8 : 0 ≤ (a3 : Int) := of_decide_eq_true asm
 have q8 : a3 < (a0.size : Int) := of_decide_eq_true asm
 have e7 := bt_at a0 a3
 replace p8 := eq_true p8
 replace q8 := eq_true q8
 have b3 : 0 ≤ ((a5) : Int) := of_decide_eq_true asm
 have b4 : (a5) < (a0.size : Int) := of_decide_eq_true asm
 have e4 := bt_at a0 (a5)
 replace b3 := eq_true b3
 replace b4 := eq_true b4
 go_wp2
 repeat (go_quiet (fail); try go_wp2)
 go_roundg k1
 case measure => have := HK1.out; omega
 case rel => exact ⟨(wrap64 (a3 + 1)), sR, H', ⟨by have := HK1.out; omega⟩, by repeat (first | exact Drawn0.refl _ | apply Drawn0.step)⟩
 )
 )
 ·(
 rw [if_neg c8] at H
 exact absurd H (by simp)
 )
 )
 ·(
 rw [if_neg c5] at H
 exact absurd H (by simp)
 )
 )
 ·(
 rw [if_neg c7] at H
 have e3 : decide (0 < a3) = false := decide_eq_false c7
 clear c7
 have H' := Aside0.mk H
 clear H
 have p5 : 0 ≤ (a3 : Int) := of_decide_eq_true asm
 have q5 : a3 < (a0.size : Int) := of_decide_eq_true asm
 have a9 := bt_at a0 a3
 replace p5 := eq_true p5
 replace q5 := eq_true q5
 go_wp2
 repeat (go_quiet (fail); try go_wp2)
 go_roundg k1
 case measure => have := HK1.out; omega
 case rel => exact ⟨(wrap64 (a3 + 1)), sR, H', ⟨by have := HK1.out; omega⟩, by repeat (first | exact Drawn0.refl _ | apply Drawn0.step)⟩
 )
 )
 ·(
 rw [if_neg c6] at H
 obtain ⟨e1, e2⟩ := nE c6
 by_cases b5 : (bt a0 a3) = 114
 ·(
 rw [if_pos b5] at H
 obtain ⟨d5, d6⟩ := yE b5
 clear b5
 by_cases b0 : a3 > 0
 ·(
 rw [if_pos b0] at H
 have d7 : decide (0 < a3) = true := decide_eq_true b0
 clear b0
 obtain ⟨a4, a8⟩ : ∃ j_ : Int, (wrap64 (a3 - 1)) = j_ := ⟨_, rfl⟩
 (first | rw [a8] at H | simp only [a8] at H)
 have e8 : (IntKind.i64.wrap (a3 - 1)) = a4 := (i64_w _).trans a8
 by_cases c9 : 0 ≤ (a4)
 ·(
 rw [if_pos c9] at H
 have g2 : decide (0 ≤ (a4)) = true := decide_eq_true c9
 clear c9
 by_cases d0 : (a4) < (a0.size : Int)
 ·(
 rw [if_pos d0] at H
 have g3 : decide ((a4) < (a0.size : Int)) = true := decide_eq_true d0
 clear d0
 by_cases b6 : (bt a0 a3) = (bt a0 (a4))
 ·(
 rw [if_pos b6] at H
 obtain ⟨d8, d9⟩ := yE b6
 clear b6
 obtain rfl := Option.some.inj H
 have p5 : 0 ≤ (a3 : Int) := of_decide_eq_true asm
 have q5 : a3 < (a0.size : Int) := of_decide_eq_true asm
 have a9 := bt_at a0 a3
 replace p5 := eq_true p5
 replace q5 := eq_true q5
 have a6 : 0 ≤ (a3 : Int) := of_decide_eq_true asm
 have a7 : a3 < (a0.size : Int) := of_decide_eq_true asm
 have c1 := bt_at a0 a3
 replace a6 := eq_true a6
 replace a7 := eq_true a7
 have b7 : 0 ≤ (a3 : Int) := of_decide_eq_true asm
 have b8 : a3 < (a0.size : Int) := of_decide_eq_true asm
 have e5 := bt_at a0 a3
 replace b7 := eq_true b7
 replace b8 := eq_true b8
 have b9 : 0 ≤ ((a4) : Int) := of_decide_eq_true asm
 have c0 : (a4) < (a0.size : Int) := of_decide_eq_true asm
 have e6 := bt_at a0 (a4)
 replace b9 := eq_true b9
 replace c0 := eq_true c0
 go_wp2
 repeat (go_quiet (fail); try go_wp2)
 go_ret
 exact ⟨by first | rfl | (simp; done) | (simp only [← a8] <;> (first | rfl | simp)) | (simp [*]; done), by repeat (first | exact Drawn0.refl _ | apply Drawn0.step)⟩
 )
 ·(
 rw [if_neg b6] at H
 obtain ⟨d8, d9⟩ := nE b6
 have H' := Aside0.mk H
 clear H
 have p5 : 0 ≤ (a3 : Int) := of_decide_eq_true asm
 have q5 : a3 < (a0.size : Int) := of_decide_eq_true asm
 have a9 := bt_at a0 a3
 replace p5 := eq_true p5
 replace q5 := eq_true q5
 have a6 : 0 ≤ (a3 : Int) := of_decide_eq_true asm
 have a7 : a3 < (a0.size : Int) := of_decide_eq_true asm
 have c1 := bt_at a0 a3
 replace a6 := eq_true a6
 replace a7 := eq_true a7
 have b7 : 0 ≤ (a3 : Int) := of_decide_eq_true asm
 have b8 : a3 < (a0.size : Int) := of_decide_eq_true asm
 have e5 := bt_at a0 a3
 replace b7 := eq_true b7
 replace b8 := eq_true b8
 have b9 : 0 ≤ ((a4) : Int) := of_decide_eq_true asm
 have c0 : (a4) < (a0.size : Int) := of_decide_eq_true asm
 have e6 := bt_at a0 (a4)
 replace b9 := eq_true b9
 replace c0 := eq_true c0
 go_wp2
 repeat (go_quiet (fail); try go_wp2)
 go_roundg k1
 case measure => have := HK1.out; omega
 case rel => exact ⟨(wrap64 (a3 + 1)), sR, H', ⟨by have := HK1.out; omega⟩, by repeat (first | exact Drawn0.refl _ | apply Drawn0.step)⟩
 )
 )
 ·(
 rw [if_neg d0] at H
 exact absurd H (by simp)
 )
 )
 ·(
 rw [if_neg c9] at H
 exact absurd H (by simp)
 )
 )
 ·(
 rw [if_neg b0] at H
 have d7 : decide (0 < a3) = false := decide_eq_false b0
 clear b0
 have H' := Aside0.mk H
 clear H
 have p5 : 0 ≤ (a3 : Int) := of_decide_eq_true asm
 have q5 : a3 < (a0.size : Int) := of_decide_eq_true asm
 have a9 := bt_at a0 a3
 replace p5 := eq_true p5
 replace q5 := eq_true q5
 have a6 : 0 ≤ (a3 : Int) := of_decide_eq_true asm
 have a7 : a3 < (a0.size : Int) := of_decide_eq_true asm
 have c1 := bt_at a0 a3
 replace a6 := eq_true a6
 replace a7 := eq_true a7
 go_wp2
 repeat (go_quiet (fail); try go_wp2)
 go_roundg k1
 case measure => have := HK1.out; omega
 case rel => exact ⟨(wrap64 (a3 + 1)), sR, H', ⟨by have := HK1.out; omega⟩, by repeat (first | exact Drawn0.refl _ | apply Drawn0.step)⟩
 )
 )
 ·(
 rw [if_neg b5] at H
 obtain ⟨d5, d6⟩ := nE b5
 obtain rfl := Option.some.inj H
 have p5 : 0 ≤ (a3 : Int) := of_decide_eq_true asm
 have q5 : a3 < (a0.size : Int) := of_decide_eq_true asm
 have a9 := bt_at a0 a3
 replace p5 := eq_true p5
 replace q5 := eq_true q5
 have a6 : 0 ≤ (a3 : Int) := of_decide_eq_true asm
 have a7 : a3 < (a0.size : Int) := of_decide_eq_true asm
 have c1 := bt_at a0 a3
 replace a6 := eq_true a6
 replace a7 := eq_true a7
 go_wp2
 repeat (go_quiet (fail); try go_wp2)
 go_ret
 exact ⟨by first | rfl | (simp; done) | (simp [*]; done), by repeat (first | exact Drawn0.refl _ | apply Drawn0.step)⟩
 )
 )
 )
 ·(
 rw [if_neg c4] at H
 exact absurd H (by simp)
 )
 )
 ·(
 rw [if_neg c3] at H
 have e0 : decide (a3 < (a0.size : Int)) = false := decide_eq_false c3
 clear c3
 obtain rfl := Option.some.inj H
 go_wp2
 repeat (go_quiet (fail); try go_wp2)
 go_ret
 exact ⟨by first | rfl | (simp; done) | (simp [*]; done), by repeat (first | exact Drawn0.refl _ | apply Drawn0.step)⟩
 )
 )
 )
 )

/-! ### spec_ImageAfter: function 13 -/
def spec_ImageAfter.j0 : Nat → Int → Int → ByteArray → Bool → Option (Int × Bool)
  | 0, _, _, _, _ => none
  | k + 1, x0, x1, x2, x16 => if x16 = true then (some (0, false)) else ((spec_miAfter.f k x0 x1 x2).bind fun t276 => (some (t276, true)))
def spec_ImageAfter.f (k : Nat) (a0 : Int) (a1 : Int) (a2 : ByteArray) : Option (Int × Bool) := (spec_miGood.f a0 a1).bind fun t274 => (if t274 = true then ((spec_miWord.f k a2).bind fun t275 => (spec_ImageAfter.j0 k a0 a1 a2 (!t275))) else (spec_ImageAfter.j0 k a0 a1 a2 true))
theorem spec_ImageAfter.mono_l : ∀ k, (∀ y0 y1 y2 y3, LeO (spec_ImageAfter.j0 k y0 y1 y2 y3) (spec_ImageAfter.j0 (k + 1) y0 y1 y2 y3))
  | 0 => fun _ _ _ _ r h => by simp [spec_ImageAfter.j0] at h
  | k + 1 => by
    have ih0 := spec_ImageAfter.mono_l k
    · intro y0 y1 y2 y3
      unfold spec_ImageAfter.j0
      repeat' first
      | (with_reducible exact ih0 _ _ _ _)
      | (with_reducible exact spec_miAfter.mono _ _ _ _)
      | (with_reducible exact spec_miWord.mono _ _)
      | (with_reducible exact LeO.refl _)
      | (with_reducible exact LeO.none _)
      | (with_reducible refine LeO.ite ?_ ?_)
      | (with_reducible refine LeO.bind ?_ (fun _ => ?_))
      | exact ih0 _ _ _ _
      | exact spec_miAfter.mono _ _ _ _
      | exact spec_miWord.mono _ _
      | exact LeO.none _
      | refine LeO.ite ?_ ?_
      | refine LeO.bind ?_ (fun _ => ?_)
theorem spec_ImageAfter.mono : ∀ a0 a1 a2 k, LeO (spec_ImageAfter.f k a0 a1 a2) (spec_ImageAfter.f (k + 1) a0 a1 a2) := by
  intro a0 a1 a2 k
  have ih0 := spec_ImageAfter.mono_l k
  unfold spec_ImageAfter.f
  repeat' first
      | (with_reducible exact ih0 _ _ _ _)
      | (with_reducible exact spec_miAfter.mono _ _ _ _)
      | (with_reducible exact spec_miWord.mono _ _)
      | (with_reducible exact LeO.refl _)
      | (with_reducible exact LeO.none _)
      | (with_reducible refine LeO.ite ?_ ?_)
      | (with_reducible refine LeO.bind ?_ (fun _ => ?_))
      | exact ih0 _ _ _ _
      | exact spec_miAfter.mono _ _ _ _
      | exact spec_miWord.mono _ _
      | exact LeO.none _
      | refine LeO.ite ?_ ?_
      | refine LeO.bind ?_ (fun _ => ?_)
set_option maxHeartbeats 8000000 in
set_option maxRecDepth 100000 in
theorem spec_ImageAfter.calls (k : Nat) (a0 : Int) (a1 : Int) (a2 : ByteArray) (r1 : Int) (r2 : Bool) (w : World) (h : spec_ImageAfter.f k a0 a1 a2 = some (r1, r2)) :
    Calls Tryz.prog 13 #[.int .i64 a0, .int .i64 a1, .string a2] w fun e w' => e = .returned (.tuple #[.int .i64 r1, .bool r2]) ∧ Drawn0 w w' := by
 have H := h
 unfold spec_ImageAfter.f at H
 clear h
 have a4 := Aside0.mk H
 clear H
 go_enter Tryz.func13, Tryz.ntmps13
 go_upto_region 1 with (fail)
 go_cut [16] (fun a8 wc => ∃ (kq : Nat) (a3 : Bool), a8 = .bool a3 ∧ Aside0 (spec_ImageAfter.j0 kq a0 a1 a2 a3 = some (r1, r2)) ∧ Aside0 (kq ≤ k) ∧ Drawn0 w wc)
 case first => (
 have H := a4.out
 clear a4
 obtain ⟨a6, A5, H⟩ := bD H
 try dsimp only at H
 by_cases c6 : a6 = true
 ·(
 subst c6
 rw [if_pos rfl] at H
 obtain ⟨a5, A7, H⟩ := bD H
 try dsimp only at H
 have H' := Aside0.mk H
 clear H
 go_wp2_with (first | ((with_reducible refine gate_callee (f := 43) rfl ?_); refine goesL_ (some 10) rfl rfl Tryz.func43 kr rfl #[.int .i64 a0, .int .i64 a1] rfl sM ?_; (with_reducible refine (spec_miGood.calls a0 a1 true _ A5.out).mono ?_); rintro e w' ⟨rfl, ⟨nd, rfl⟩⟩; refine ⟨_, rfl, ?_⟩) | (go_at_call 48; (with_reducible refine (spec_miWord.calls k a2 a5 _ A7.out).mono ?_); rintro e w' ⟨rfl, ⟨nd, rfl⟩⟩))
 go_meet
 case rel => exact ⟨_, (!a5), sR, H', ⟨by first | omega | exact Nat.le_refl _⟩, by repeat (first | exact Drawn0.refl _ | apply Drawn0.step)⟩
 )
 ·(
 replace c6 := Bool.eq_false_iff.mpr c6
 subst c6
 rw [if_neg nft] at H
 have H' := Aside0.mk H
 clear H
 go_wp2_with (first | ((with_reducible refine gate_callee (f := 43) rfl ?_); refine goesL_ (some 10) rfl rfl Tryz.func43 kr rfl #[.int .i64 a0, .int .i64 a1] rfl sM ?_; (with_reducible refine (spec_miGood.calls a0 a1 false _ A5.out).mono ?_); rintro e w' ⟨rfl, ⟨nd, rfl⟩⟩; refine ⟨_, rfl, ?_⟩))
 go_meet
 case rel => exact ⟨_, (true), sR, H', ⟨by first | omega | exact Nat.le_refl _⟩, by repeat (first | exact Drawn0.refl _ | apply Drawn0.step)⟩
 )
 )
 case rest => (
 clear a4
 obtain ⟨kq, a3, rfl, HA, HJ3, ⟨b0, rfl⟩⟩ := hcut
 cases kq with
 | zero => exact absurd HA.out (by simp [spec_ImageAfter.j0])
 | succ a9 => (
 have H := HA.out
 clear HA
 simp only [spec_ImageAfter.j0] at H
 by_cases c8 : a3 = true
 ·(
 subst c8
 rw [if_pos rfl] at H
 simp only [Option.some.injEq, Prod.mk.injEq] at H
 obtain ⟨rfl, rfl⟩ := H
 go_wp2
 go_ret2
 exact ⟨by first | rfl | (simp; done) | (simp [*]; done), by repeat (first | exact Drawn0.refl _ | apply Drawn0.step)⟩
 )
 ·(
 replace c8 := Bool.eq_false_iff.mpr c8
 subst c8
 rw [if_neg nft] at H
 obtain ⟨a7, A9, H⟩ := bD H
 try dsimp only at H
 simp only [Option.some.injEq, Prod.mk.injEq] at H
 obtain ⟨rfl, rfl⟩ := H
 go_wp2_with (first | ((with_reducible refine gate_callee (f := 49) rfl ?_); refine goesL_ (some 20) rfl rfl Tryz.func49 kr rfl #[.int .i64 a0, .int .i64 a1, .string a2] rfl sM ?_; (with_reducible refine (spec_miAfter.calls a9 a0 a1 a2 a7 _ A9.out).mono ?_); rintro e w' ⟨rfl, ⟨nd, rfl⟩⟩; refine ⟨_, rfl, ?_⟩))
 go_ret2
 exact ⟨by first | rfl | (simp; done) | (simp [*]; done), by repeat (first | exact Drawn0.refl _ | apply Drawn0.step)⟩
 )
 )
 )

/-! ### spec_miWedge: function 65 -/
def spec_miWedge.f (a0 : Int) (a1 : Int) : Option (Bool) := (spec_l1In.f a0 1 90).bind fun t277 => (if t277 = true then (if a0 = 0 then (none) else (if ((180 : Int) % a0) = 0 then ((spec_l1In.f a1 1 (wrap64 (a0 - 1))).bind fun t278 => (some t278)) else (some false))) else (some false))
set_option maxHeartbeats 8000000 in
set_option maxRecDepth 100000 in
theorem spec_miWedge.calls (a0 : Int) (a1 : Int) (r : Bool) (w : World) (h : spec_miWedge.f a0 a1 = some r) :
    Calls Tryz.prog 65 #[.int .i64 a0, .int .i64 a1] w fun e w' => e = .returned (.bool r) ∧ Drawn0 w w' := by
 have H := h
 unfold spec_miWedge.f at H
 clear h
 obtain ⟨a3, A3, H⟩ := bD H
 try dsimp only at H
 by_cases c4 : a3 = true
 subst c4
 rw [if_pos rfl] at H
 by_cases c5 : a0 = 0
 rw [if_pos c5] at H
 exact absurd H (by simp)
 rw [if_neg c5] at H
 obtain ⟨a7, a8⟩ := nE c5
 by_cases c6 : ((180 : Int) % a0) = 0
 rw [if_pos c6] at H
 obtain ⟨a4, a5⟩ := yE c6
 clear c6
 obtain ⟨a6, A7, H⟩ := bD H
 try dsimp only at H
 obtain rfl := Option.some.inj H
 rotate_left
 rw [if_neg c6] at H
 obtain ⟨a4, a5⟩ := nE c6
 obtain rfl := Option.some.inj H
 rotate_left
 replace c4 := Bool.eq_false_iff.mpr c4
 subst c4
 rw [if_neg nft] at H
 obtain rfl := Option.some.inj H
 rotate_left
 all_goals (go_enter Tryz.func65, Tryz.ntmps65)
 all_goals (go_wp2_with (first | ((with_reducible refine gate_callee (f := 44) rfl ?_); refine goesL_ (some 6) rfl rfl Tryz.func44 kr rfl #[.int .i64 a0, .int .i64 1, .int .i64 90] rfl sM ?_; (with_reducible refine (spec_l1In.calls a0 1 90 true _ A3.out).mono ?_); rintro e w' ⟨rfl, ⟨nd, rfl⟩⟩; refine ⟨_, rfl, ?_⟩) | (go_at_call 44; (with_reducible refine (spec_l1In.calls a1 1 (wrap64 (a0 - 1)) a6 _ A7.out).mono ?_); rintro e w' ⟨rfl, ⟨nd, rfl⟩⟩) | ((with_reducible refine gate_callee (f := 44) rfl ?_); refine goesL_ (some 6) rfl rfl Tryz.func44 kr rfl #[.int .i64 a0, .int .i64 1, .int .i64 90] rfl sM ?_; (with_reducible refine (spec_l1In.calls a0 1 90 false _ A3.out).mono ?_); rintro e w' ⟨rfl, ⟨nd, rfl⟩⟩; refine ⟨_, rfl, ?_⟩)))
 all_goals go_ret
 all_goals (exact ⟨by first | rfl | (simp; done) | (simp [*]; done), by repeat (first | exact Drawn0.refl _ | apply Drawn0.step)⟩)

end Go.Proofs.YtnmhefdjakjngaaGreatDoor.PFnMirrorsFace
