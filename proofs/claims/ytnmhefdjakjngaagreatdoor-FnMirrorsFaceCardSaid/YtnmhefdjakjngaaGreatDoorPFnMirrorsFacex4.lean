-- Written by xprint.py, a program of this session, for this seat; Lean checks it.
import Derived.Test.YtnmhefdjakjngaaGreatDoorVM
import Derived.Test.YtnmhefdjakjngaaGreatDoorPFnMirrorsFacex0
import Derived.Test.YtnmhefdjakjngaaGreatDoorPFnMirrorsFacex2
import Derived.Test.YtnmhefdjakjngaaGreatDoorPFnMirrorsFacex3
namespace Go.Proofs.YtnmhefdjakjngaaGreatDoor.PFnMirrorsFace
open Go.Proofs.YtnmhefdjakjngaaGreatDoorV Go.RowKit Go.Proofs.YtnmhefdjakjngaaGreatDoorW.PrintWords Go.Proofs.YtnmhefdjakjngaaGreatDoorW.PrintLast Go.Proofs.YtnmhefdjakjngaaGreatDoorW.PrintMore
attribute [local go_sem] max2_int min2_int max_two min_two max_three min_three max_four min_four   -- for this text's walks alone
set_option linter.unusedVariables false
set_option linter.unusedSimpArgs false

/-! ### spec_ImagesUpTo: function 7 -/
def spec_ImagesUpTo.j0 : Nat → Int → Int → Int → Bool → Option (List Int × Bool)
  | 0, _, _, _, _ => none
  | k + 1, x0, x1, x2, x16 => if x16 = true then (some (([] : List Int), false)) else ((spec_miUpTo.f k x0 x1 x2).bind fun t257 => (some (t257, true)))
def spec_ImagesUpTo.f (k : Nat) (a0 : Int) (a1 : Int) (a2 : Int) : Option (List Int × Bool) := (spec_miGood.f a0 a1).bind fun t255 => (if t255 = true then ((spec_l1In.f a2 0 40).bind fun t256 => (spec_ImagesUpTo.j0 k a0 a1 a2 (!t256))) else (spec_ImagesUpTo.j0 k a0 a1 a2 true))
theorem spec_ImagesUpTo.mono_l : ∀ k, (∀ y0 y1 y2 y3, LeO (spec_ImagesUpTo.j0 k y0 y1 y2 y3) (spec_ImagesUpTo.j0 (k + 1) y0 y1 y2 y3))
  | 0 => fun _ _ _ _ r h => by simp [spec_ImagesUpTo.j0] at h
  | k + 1 => by
    have ih0 := spec_ImagesUpTo.mono_l k
    · intro y0 y1 y2 y3
      unfold spec_ImagesUpTo.j0
      repeat' first
      | (with_reducible exact ih0 _ _ _ _)
      | (with_reducible exact spec_miUpTo.mono _ _ _ _)
      | (with_reducible exact LeO.refl _)
      | (with_reducible exact LeO.none _)
      | (with_reducible refine LeO.ite ?_ ?_)
      | (with_reducible refine LeO.bind ?_ (fun _ => ?_))
      | exact ih0 _ _ _ _
      | exact spec_miUpTo.mono _ _ _ _
      | exact LeO.none _
      | refine LeO.ite ?_ ?_
      | refine LeO.bind ?_ (fun _ => ?_)
theorem spec_ImagesUpTo.mono : ∀ a0 a1 a2 k, LeO (spec_ImagesUpTo.f k a0 a1 a2) (spec_ImagesUpTo.f (k + 1) a0 a1 a2) := by
  intro a0 a1 a2 k
  have ih0 := spec_ImagesUpTo.mono_l k
  unfold spec_ImagesUpTo.f
  repeat' first
      | (with_reducible exact ih0 _ _ _ _)
      | (with_reducible exact spec_miUpTo.mono _ _ _ _)
      | (with_reducible exact LeO.refl _)
      | (with_reducible exact LeO.none _)
      | (with_reducible refine LeO.ite ?_ ?_)
      | (with_reducible refine LeO.bind ?_ (fun _ => ?_))
      | exact ih0 _ _ _ _
      | exact spec_miUpTo.mono _ _ _ _
      | exact LeO.none _
      | refine LeO.ite ?_ ?_
      | refine LeO.bind ?_ (fun _ => ?_)
set_option maxHeartbeats 8000000 in
set_option maxRecDepth 100000 in
theorem spec_ImagesUpTo.calls (k : Nat) (a0 : Int) (a1 : Int) (a2 : Int) (r1 : List Int) (r2 : Bool) (w : World) (h : spec_ImagesUpTo.f k a0 a1 a2 = some (r1, r2)) :
    Calls Tryz.prog 7 #[.int .i64 a0, .int .i64 a1, .int .i64 a2] w fun e w' => ∃ v0_ : Value, e = .returned (.tuple #[v0_, .bool r2]) ∧ Kd.R (Kd.int .i64) 3 w' w.heap.size (fun _ => True) v0_ r1 ∧ Below w.heap.size w w' := by
 have HB := Aside0.mk (Below.refl w.heap.size w)
 have H := h
 unfold spec_ImagesUpTo.f at H
 clear h
 have a4 := Aside0.mk H
 clear H
 go_enter Tryz.func7, Tryz.ntmps7
 go_upto_region 1 with (fail)
 go_cut [16] (fun b0 wc => ∃ (kq : Nat) (a3 : Bool), b0 = .bool a3 ∧ Aside0 (spec_ImagesUpTo.j0 kq a0 a1 a2 a3 = some (r1, r2)) ∧ Aside0 (kq ≤ k) ∧ Aside0 (Below w.heap.size w wc))
 case first => (
 have H := a4.out
 clear a4
 obtain ⟨a8, A5, H⟩ := bD H
 try dsimp only at H
 by_cases c6 : a8 = true
 ·(
 subst c6
 rw [if_pos rfl] at H
 obtain ⟨a5, A7, H⟩ := bD H
 try dsimp only at H
 have H' := Aside0.mk H
 clear H
 go_wp2_with (first | ((with_reducible refine gate_callee (f := 43) rfl ?_); refine goesL_ (some 10) rfl rfl Tryz.func43 kr rfl #[.int .i64 a0, .int .i64 a1] rfl sM ?_; (with_reducible refine (spec_miGood.calls a0 a1 true _ A5.out).mono ?_); rintro e w' ⟨rfl, ⟨nd, rfl⟩⟩; refine ⟨_, rfl, ?_⟩) | (go_at_call 44; (with_reducible refine (spec_l1In.calls a2 0 40 a5 _ A7.out).mono ?_); rintro e w' ⟨rfl, ⟨nd, rfl⟩⟩))
 go_meet
 case rel => exact ⟨_, (!a5), sR, H', ⟨by first | omega | exact Nat.le_refl _⟩, ⟨bB⟩⟩
 )
 ·(
 replace c6 := Bool.eq_false_iff.mpr c6
 subst c6
 rw [if_neg nft] at H
 have H' := Aside0.mk H
 clear H
 go_wp2_with (first | ((with_reducible refine gate_callee (f := 43) rfl ?_); refine goesL_ (some 10) rfl rfl Tryz.func43 kr rfl #[.int .i64 a0, .int .i64 a1] rfl sM ?_; (with_reducible refine (spec_miGood.calls a0 a1 false _ A5.out).mono ?_); rintro e w' ⟨rfl, ⟨nd, rfl⟩⟩; refine ⟨_, rfl, ?_⟩))
 go_meet
 case rel => exact ⟨_, (true), sR, H', ⟨by first | omega | exact Nat.le_refl _⟩, ⟨bB⟩⟩
 )
 )
 case rest => (
 clear a4
 obtain ⟨kq, a3, rfl, HA, HJ3, HB⟩ := hcut
 cases kq with
 | zero => exact absurd HA.out (by simp [spec_ImagesUpTo.j0])
 | succ b1 => (
 have H := HA.out
 clear HA
 simp only [spec_ImagesUpTo.j0] at H
 by_cases c8 : a3 = true
 ·(
 subst c8
 rw [if_pos rfl] at H
 simp only [Option.some.injEq, Prod.mk.injEq] at H
 obtain ⟨rfl, rfl⟩ := H
 go_wp2
 go_ret2
 exact ⟨_, sE, by first | exact Kd.R_nil _ _ _ _ _ | exact Kd.N_nil _ _ _ _ _ | exact Kd.V_nil _ _ _ _ _ | exact Kd.Q_nil _ _ _ _ _ | exact Kd.S_nil _ _ _ _ _, bI⟩
 )
 ·(
 replace c8 := Bool.eq_false_iff.mpr c8
 subst c8
 rw [if_neg nft] at H
 obtain ⟨a9, A9, H⟩ := bD H
 try dsimp only at H
 simp only [Option.some.injEq, Prod.mk.injEq] at H
 obtain ⟨rfl, rfl⟩ := H
 go_wp2_with (first | ((with_reducible refine gate_callee (f := 45) rfl ?_); refine goesL_ (some 20) rfl rfl Tryz.func45 kr rfl #[.int .i64 a0, .int .i64 a1, .int .i64 a2] rfl sM ?_; (with_reducible refine (spec_miUpTo.calls b1 a0 a1 a2 a9 _ A9.out).mono ?_); rintro e b3 ⟨b2, rfl, a7, hb⟩; refine ⟨_, rfl, ?_⟩; have a6 := Aside0.mk (Kd.R_lower a7 (below_size bB)); replace HB := Aside0.mk (below_step bB hb); (try clear hb); (try clear a7)))
 go_ret2
 exact ⟨_, sE, by (with_reducible repeat (first | apply Kd.R_alloc | apply Kd.R_drewN | apply Kd.R_drew)); exact a6.out, bI⟩
 )
 )
 )

/-! ### laws_ySame: function 8 -/
def laws_ySame.l0 : Nat → List Int → List Int → Int → Int → Option (Bool)
  | 0, _, _, _, _ => none
  | k + 1, x0, x1, x12, x13 => if x13 < x12 then (if 0 ≤ x13 then (if x13 < (x0.length : Int) then (if x13 < (x1.length : Int) then (if (rd x0 x13) = (rd x1 x13) then (laws_ySame.l0 k x0 x1 x12 (wrap64 (x13 + 1))) else (some false)) else (none)) else (none)) else (none)) else (some true)
def laws_ySame.f (k : Nat) (l0 : List Int) (l1 : List Int) : Option (Bool) := if (l0.length : Int) = (l1.length : Int) then (laws_ySame.l0 k l0 l1 (l0.length : Int) 0) else (some false)
theorem laws_ySame.mono_l : ∀ k, (∀ y0 y1 y2 y3, LeO (laws_ySame.l0 k y0 y1 y2 y3) (laws_ySame.l0 (k + 1) y0 y1 y2 y3))
  | 0 => fun _ _ _ _ r h => by simp [laws_ySame.l0] at h
  | k + 1 => by
    have ih0 := laws_ySame.mono_l k
    · intro y0 y1 y2 y3
      unfold laws_ySame.l0
      repeat' first
      | (with_reducible exact ih0 _ _ _ _)
      | (with_reducible exact LeO.refl _)
      | (with_reducible exact LeO.none _)
      | (with_reducible refine LeO.ite ?_ ?_)
      | (with_reducible refine LeO.bind ?_ (fun _ => ?_))
      | exact ih0 _ _ _ _
      | exact LeO.none _
      | refine LeO.ite ?_ ?_
      | refine LeO.bind ?_ (fun _ => ?_)
theorem laws_ySame.mono : ∀ a0 a1 k, LeO (laws_ySame.f k a0 a1) (laws_ySame.f (k + 1) a0 a1) := by
  intro a0 a1 k
  have ih0 := laws_ySame.mono_l k
  unfold laws_ySame.f
  repeat' first
      | (with_reducible exact ih0 _ _ _ _)
      | (with_reducible exact LeO.refl _)
      | (with_reducible exact LeO.none _)
      | (with_reducible refine LeO.ite ?_ ?_)
      | (with_reducible refine LeO.bind ?_ (fun _ => ?_))
      | exact ih0 _ _ _ _
      | exact LeO.none _
      | refine LeO.ite ?_ ?_
      | refine LeO.bind ?_ (fun _ => ?_)
set_option maxHeartbeats 8000000 in
set_option maxRecDepth 100000 in
theorem laws_ySame.calls (k : Nat) (A0 : Option Addr) (c0 : Nat) (l0 : List Int) (A1 : Option Addr) (c1 : Nat) (l1 : List Int) (r : Bool) (w : World) (hr0 : Kd.C (Kd.int .i64) w A0 l0.length l0) (hc0 : l0.length ≤ c0) (hr1 : Kd.C (Kd.int .i64) w A1 l1.length l1) (hc1 : l1.length ≤ c1) (h : laws_ySame.f k l0 l1 = some r) :
    Calls Tryz.prog 8 #[.slice A0 l0.length c0, .slice A1 l1.length c1] w fun e w' => e = .returned (.bool r) ∧ Drawn0 w w' := by
 have b7 := Aside0.mk hr0
 have d4 := Aside0.mk hc0
 clear hr0 hc0
 have b8 := Aside0.mk hr1
 have d5 := Aside0.mk hc1
 clear hr1 hc1
 have H := h
 unfold laws_ySame.f at H
 clear h
 by_cases c3 : (l0.length : Int) = (l1.length : Int)
 ·(
 rw [if_pos c3] at H
 obtain ⟨b2, b3⟩ := yE c3
 have b4 : (l0.length == l1.length) = true := by first | simpa using c3 | (simp at c3 ⊢; omega)
 clear c3
 have H' := Aside0.mk H
 clear H
 go_enter Tryz.func8, Tryz.ntmps8
 go_wp2
 repeat (go_quiet (fail); try go_wp2)
 go_loopg [13] k (fun kq d0 w' => ∃ (a3 : Int), d0 = .int .i64 a3 ∧ Aside0 (laws_ySame.l0 kq l0 l1 (l0.length : Int) a3 = some r) ∧ Aside0 (kq ≤ k) ∧ Drawn0 w w')
 case atStart => exact ⟨(0), sR, H', ⟨Nat.le_refl _⟩, by repeat (first | exact Drawn0.refl _ | apply Drawn0.step)⟩
 case round => (
 clear H'
 try clear b2
 try clear b3
 try clear b4
 obtain ⟨a3, rfl, HA, HK1, ⟨m1, rfl⟩⟩ := hrel
 cases gk with
 | zero => exact absurd HA.out (by simp [laws_ySame.l0])
 | succ k1 => (
 have H := HA.out
 clear HA
 simp only [laws_ySame.l0] at H
 by_cases c4 : a3 < (l0.length : Int)
 ·(
 rw [if_pos c4] at H
 have b9 : decide (a3 < (l0.length : Int)) = true := decide_eq_true c4
 clear c4
 by_cases c5 : 0 ≤ a3
 ·(
 rw [if_pos c5] at H
 have d1 : decide (0 ≤ a3) = true := decide_eq_true c5
 clear c5
 by_cases c6 : a3 < (l0.length : Int)
 ·(
 rw [if_pos c6] at H
 have d2 : decide (a3 < (l0.length : Int)) = true := decide_eq_true c6
 clear c6
 by_cases c7 : a3 < (l1.length : Int)
 ·(
 rw [if_pos c7] at H
 have d3 : decide (a3 < (l1.length : Int)) = true := decide_eq_true c7
 clear c7
 by_cases c8 : (rd l0 a3) = (rd l1 a3)
 ·(
 rw [if_pos c8] at H
 obtain ⟨c2, c9⟩ := yE c8
 clear c8
 have H' := Aside0.mk H
 clear H
 have a4 : 0 ≤ (a3 : Int) := of_decide_eq_true asm
 have a5 : a3 < (l0.length : Int) := of_decide_eq_true asm
 obtain ⟨b5, a8, b0⟩ := Kd.at_int b7.out a3 a4 a5
 cases a8
 replace a4 := eq_true a4
 replace a5 := eq_true a5
 have a6 : 0 ≤ (a3 : Int) := of_decide_eq_true asm
 have a7 : a3 < (l1.length : Int) := of_decide_eq_true asm
 obtain ⟨b6, a9, b1⟩ := Kd.at_int b8.out a3 a6 a7
 cases a9
 replace a6 := eq_true a6
 replace a7 := eq_true a7
 go_wp2
 repeat (go_quiet (fail); try go_wp2)
 go_roundg k1
 case measure => have := HK1.out; omega
 case rel => exact ⟨(wrap64 (a3 + 1)), sR, H', ⟨by have := HK1.out; omega⟩, by repeat (first | exact Drawn0.refl _ | apply Drawn0.step)⟩
 )
 ·(
 rw [if_neg c8] at H
 obtain ⟨c2, c9⟩ := nE c8
 obtain rfl := Option.some.inj H
 have a4 : 0 ≤ (a3 : Int) := of_decide_eq_true asm
 have a5 : a3 < (l0.length : Int) := of_decide_eq_true asm
 obtain ⟨b5, a8, b0⟩ := Kd.at_int b7.out a3 a4 a5
 cases a8
 replace a4 := eq_true a4
 replace a5 := eq_true a5
 have a6 : 0 ≤ (a3 : Int) := of_decide_eq_true asm
 have a7 : a3 < (l1.length : Int) := of_decide_eq_true asm
 obtain ⟨b6, a9, b1⟩ := Kd.at_int b8.out a3 a6 a7
 cases a9
 replace a6 := eq_true a6
 replace a7 := eq_true a7
 go_wp2
 repeat (go_quiet (fail); try go_wp2)
 go_ret
 exact ⟨by first | rfl | (simp; done) | (simp [*]; done), by repeat (first | exact Drawn0.refl _ | apply Drawn0.step)⟩
 )
 )
 ·(
 rw [if_neg c7] at H
 exact absurd H (by simp)
 )
 )
 ·(
 rw [if_neg c6] at H
 exact absurd H (by simp)
 )
 )
 ·(
 rw [if_neg c5] at H
 exact absurd H (by simp)
 )
 )
 ·(
 rw [if_neg c4] at H
 have b9 : decide (a3 < (l0.length : Int)) = false := decide_eq_false c4
 clear c4
 obtain rfl := Option.some.inj H
 go_wp2
 repeat (go_quiet (fail); try go_wp2)
 go_ret
 exact ⟨by first | rfl | (simp; done) | (simp [*]; done), by repeat (first | exact Drawn0.refl _ | apply Drawn0.step)⟩
 )
 )
 )
 )
 ·(
 rw [if_neg c3] at H
 obtain ⟨b2, b3⟩ := nE c3
 have b4 : (l0.length == l1.length) = false := by first | simpa using c3 | (simp at c3 ⊢; omega)
 obtain rfl := Option.some.inj H
 go_enter Tryz.func8, Tryz.ntmps8
 go_wp2
 repeat (go_quiet (fail); try go_wp2)
 go_ret
 exact ⟨by first | rfl | (simp; done) | (simp [*]; done), by repeat (first | exact Drawn0.refl _ | apply Drawn0.step)⟩
 )

/-! ### laws_yRises: function 9 -/
def laws_yRises.l0 : Nat → List Int → Int → Option (Bool)
  | 0, _, _ => none
  | k + 1, x0, x3 => if x3 < (x0.length : Int) then (if 0 ≤ (wrap64 (x3 - 1)) then (if (wrap64 (x3 - 1)) < (x0.length : Int) then (if 0 ≤ x3 then (if (rd x0 (wrap64 (x3 - 1))) ≥ (rd x0 x3) then (some false) else (laws_yRises.l0 k x0 (wrap64 (x3 + 1)))) else (none)) else (none)) else (none)) else (some true)
def laws_yRises.f (k : Nat) (l0 : List Int) : Option (Bool) := laws_yRises.l0 k l0 1
theorem laws_yRises.mono_l : ∀ k, (∀ y0 y1, LeO (laws_yRises.l0 k y0 y1) (laws_yRises.l0 (k + 1) y0 y1))
  | 0 => fun _ _ r h => by simp [laws_yRises.l0] at h
  | k + 1 => by
    have ih0 := laws_yRises.mono_l k
    · intro y0 y1
      unfold laws_yRises.l0
      repeat' first
      | (with_reducible exact ih0 _ _)
      | (with_reducible exact LeO.refl _)
      | (with_reducible exact LeO.none _)
      | (with_reducible refine LeO.ite ?_ ?_)
      | (with_reducible refine LeO.bind ?_ (fun _ => ?_))
      | exact ih0 _ _
      | exact LeO.none _
      | refine LeO.ite ?_ ?_
      | refine LeO.bind ?_ (fun _ => ?_)
theorem laws_yRises.mono : ∀ a0 k, LeO (laws_yRises.f k a0) (laws_yRises.f (k + 1) a0) := by
  intro a0 k
  have ih0 := laws_yRises.mono_l k
  unfold laws_yRises.f
  repeat' first
      | (with_reducible exact ih0 _ _)
      | (with_reducible exact LeO.refl _)
      | (with_reducible exact LeO.none _)
      | (with_reducible refine LeO.ite ?_ ?_)
      | (with_reducible refine LeO.bind ?_ (fun _ => ?_))
      | exact ih0 _ _
      | exact LeO.none _
      | refine LeO.ite ?_ ?_
      | refine LeO.bind ?_ (fun _ => ?_)
set_option maxHeartbeats 8000000 in
set_option maxRecDepth 100000 in
theorem laws_yRises.calls (k : Nat) (A0 : Option Addr) (c0 : Nat) (l0 : List Int) (r : Bool) (w : World) (hr0 : Kd.C (Kd.int .i64) w A0 l0.length l0) (hc0 : l0.length ≤ c0) (h : laws_yRises.f k l0 = some r) :
    Calls Tryz.prog 9 #[.slice A0 l0.length c0] w fun e w' => e = .returned (.bool r) ∧ Drawn0 w w' := by
 have b4 := Aside0.mk hr0
 have c9 := Aside0.mk hc0
 clear hr0 hc0
 have H := h
 unfold laws_yRises.f at H
 clear h
 have H' := Aside0.mk H
 clear H
 go_enter Tryz.func9, Tryz.ntmps9
 go_wp2
 repeat (go_quiet (fail); try go_wp2)
 go_loopg [3] k (fun kq v3 w' => ∃ (a3 : Int), v3 = .int .i64 a3 ∧ Aside0 (laws_yRises.l0 kq l0 a3 = some r) ∧ Aside0 (kq ≤ k) ∧ Drawn0 w w')
 case atStart => exact ⟨(1), sR, H', ⟨Nat.le_refl _⟩, by repeat (first | exact Drawn0.refl _ | apply Drawn0.step)⟩
 case round => (
 clear H'
 obtain ⟨a3, rfl, HA, HK1, ⟨m1, rfl⟩⟩ := hrel
 cases gk with
 | zero => exact absurd HA.out (by simp [laws_yRises.l0])
 | succ k1 => (
 have H := HA.out
 clear HA
 simp only [laws_yRises.l0] at H
 by_cases c2 : a3 < (l0.length : Int)
 ·(
 rw [if_pos c2] at H
 have b7 : decide (a3 < (l0.length : Int)) = true := decide_eq_true c2
 clear c2
 obtain ⟨a4, a9⟩ : ∃ j_ : Int, (wrap64 (a3 - 1)) = j_ := ⟨_, rfl⟩
 (first | rw [a9] at H | simp only [a9] at H)
 have b9 : (IntKind.i64.wrap (a3 - 1)) = a4 := (i64_w _).trans a9
 by_cases c4 : 0 ≤ (a4)
 ·(
 rw [if_pos c4] at H
 have c1 : decide (0 ≤ (a4)) = true := decide_eq_true c4
 clear c4
 by_cases c5 : (a4) < (l0.length : Int)
 ·(
 rw [if_pos c5] at H
 have c3 : decide ((a4) < (l0.length : Int)) = true := decide_eq_true c5
 clear c5
 by_cases c6 : 0 ≤ a3
 ·(
 rw [if_pos c6] at H
 have c8 : decide (0 ≤ a3) = true := decide_eq_true c6
 clear c6
 by_cases c7 : (rd l0 (a4)) ≥ (rd l0 a3)
 ·(
 rw [if_pos c7] at H
 have b8 : decide ((rd l0 a3) ≤ (rd l0 (a4))) = true := decide_eq_true c7
 clear c7
 obtain rfl := Option.some.inj H
 have a5 : 0 ≤ ((a4) : Int) := of_decide_eq_true asm
 have a6 : (a4) < (l0.length : Int) := of_decide_eq_true asm
 obtain ⟨b0, b2, b5⟩ := Kd.at_int b4.out (a4) a5 a6
 cases b2
 replace a5 := eq_true a5
 replace a6 := eq_true a6
 have a7 : 0 ≤ (a3 : Int) := of_decide_eq_true asm
 have a8 : a3 < (l0.length : Int) := of_decide_eq_true asm
 obtain ⟨b1, b3, b6⟩ := Kd.at_int b4.out a3 a7 a8
 obtain rfl : b0 = b1 := (by injection b3)
 replace a7 := eq_true a7
 replace a8 := eq_true a8
 go_wp2
 repeat (go_quiet (fail); try go_wp2)
 go_ret
 exact ⟨by first | rfl | (simp; done) | (simp only [← a9] <;> (first | rfl | simp)) | (simp [*]; done), by repeat (first | exact Drawn0.refl _ | apply Drawn0.step)⟩
 )
 ·(
 rw [if_neg c7] at H
 have b8 : decide ((rd l0 a3) ≤ (rd l0 (a4))) = false := decide_eq_false c7
 clear c7
 have H' := Aside0.mk H
 clear H
 have a5 : 0 ≤ ((a4) : Int) := of_decide_eq_true asm
 have a6 : (a4) < (l0.length : Int) := of_decide_eq_true asm
 obtain ⟨b0, b2, b5⟩ := Kd.at_int b4.out (a4) a5 a6
 cases b2
 replace a5 := eq_true a5
 replace a6 := eq_true a6
 have a7 : 0 ≤ (a3 : Int) := of_decide_eq_true asm
 have a8 : a3 < (l0.length : Int) := of_decide_eq_true asm
 obtain ⟨b1, b3, b6⟩ := Kd.at_int b4.out a3 a7 a8
 obtain rfl : b0 = b1 := (by injection b3)
 replace a7 := eq_true a7
 replace a8 := eq_true a8
 go_wp2
 repeat (go_quiet (fail); try go_wp2)
 go_roundg k1
 case measure => have := HK1.out; omega
 case rel => exact ⟨(wrap64 (a3 + 1)), sR, H', ⟨by have := HK1.out; omega⟩, by repeat (first | exact Drawn0.refl _ | apply Drawn0.step)⟩
 )
 )
 ·(
 rw [if_neg c6] at H
 exact absurd H (by simp)
 )
 )
 ·(
 rw [if_neg c5] at H
 exact absurd H (by simp)
 )
 )
 ·(
 rw [if_neg c4] at H
 exact absurd H (by simp)
 )
 )
 ·(
 rw [if_neg c2] at H
 have b7 : decide (a3 < (l0.length : Int)) = false := decide_eq_false c2
 clear c2
 obtain rfl := Option.some.inj H
 go_wp2
 repeat (go_quiet (fail); try go_wp2)
 go_ret
 exact ⟨by first | rfl | (simp; done) | (simp [*]; done), by repeat (first | exact Drawn0.refl _ | apply Drawn0.step)⟩
 )
 )
 )

/-! ### impl_WordOfImage: function 10 -/
mutual
def impl_WordOfImage.j0 : Nat → Int → Int → Int → Bool → Option (ByteArray × Bool)
  | 0, _, _, _, _ => none
  | k + 1, x0, x1, x2, x19 => if x19 = true then (some ((⟨#[]⟩ : ByteArray), false)) else (impl_WordOfImage.l0 k x0 x1 x2 0)
def impl_WordOfImage.l0 : Nat → Int → Int → Int → Int → Option (ByteArray × Bool)
  | 0, _, _, _, _ => none
  | k + 1, x0, x1, x2, x8 => if x8 ≤ 40 then ((impl_wordsOf.f x8).bind fun t266 => (impl_WordOfImage.l1 k x0 x1 x2 x8 t266 (t266.length : Int) 0)) else (some ((⟨#[]⟩ : ByteArray), false))
def impl_WordOfImage.l1 : Nat → Int → Int → Int → Int → List ByteArray → Int → Int → Option (ByteArray × Bool)
  | 0, _, _, _, _, _, _, _ => none
  | k + 1, x0, x1, x2, x8, x25, x26, x27 => if x27 < x26 then (if 0 ≤ x27 then (if x27 < (x25.length : Int) then ((impl_imageAfter.f k x0 x1 (rdOf ByteArray.empty x25 x27)).bind fun t270 => (if t270 = x2 then (some (rdOf ByteArray.empty x25 x27, true)) else (impl_WordOfImage.l1 k x0 x1 x2 x8 x25 x26 (wrap64 (x27 + 1))))) else (none)) else (none)) else (impl_WordOfImage.l0 k x0 x1 x2 (wrap64 (x8 + 1)))
end
def impl_WordOfImage.f (k : Nat) (a0 : Int) (a1 : Int) (a2 : Int) : Option (ByteArray × Bool) := (impl_isCorridor.f a0 a1).bind fun t264 => (if t264 = true then ((impl_within.f a2 (-100000) 100000).bind fun t265 => (impl_WordOfImage.j0 k a0 a1 a2 (!t265))) else (impl_WordOfImage.j0 k a0 a1 a2 true))
theorem impl_WordOfImage.mono_l : ∀ k, (∀ y0 y1 y2 y3, LeO (impl_WordOfImage.j0 k y0 y1 y2 y3) (impl_WordOfImage.j0 (k + 1) y0 y1 y2 y3)) ∧ (∀ y0 y1 y2 y3, LeO (impl_WordOfImage.l0 k y0 y1 y2 y3) (impl_WordOfImage.l0 (k + 1) y0 y1 y2 y3)) ∧ (∀ y0 y1 y2 y3 y4 y5 y6, LeO (impl_WordOfImage.l1 k y0 y1 y2 y3 y4 y5 y6) (impl_WordOfImage.l1 (k + 1) y0 y1 y2 y3 y4 y5 y6))
  | 0 => ⟨fun _ _ _ _ r h => by simp [impl_WordOfImage.j0] at h, fun _ _ _ _ r h => by simp [impl_WordOfImage.l0] at h, fun _ _ _ _ _ _ _ r h => by simp [impl_WordOfImage.l1] at h⟩
  | k + 1 => by
    obtain ⟨ih0, ih1, ih2⟩ := impl_WordOfImage.mono_l k
    refine ⟨?_, ?_, ?_⟩
    · intro y0 y1 y2 y3
      unfold impl_WordOfImage.j0
      repeat' first
      | (with_reducible exact ih0 _ _ _ _)
      | (with_reducible exact ih1 _ _ _ _)
      | (with_reducible exact ih2 _ _ _ _ _ _ _)
      | (with_reducible exact impl_imageAfter.mono _ _ _ _)
      | (with_reducible exact LeO.refl _)
      | (with_reducible exact LeO.none _)
      | (with_reducible refine LeO.ite ?_ ?_)
      | (with_reducible refine LeO.bind ?_ (fun _ => ?_))
      | exact ih0 _ _ _ _
      | exact ih1 _ _ _ _
      | exact ih2 _ _ _ _ _ _ _
      | exact impl_imageAfter.mono _ _ _ _
      | exact LeO.none _
      | refine LeO.ite ?_ ?_
      | refine LeO.bind ?_ (fun _ => ?_)
    · intro y0 y1 y2 y3
      unfold impl_WordOfImage.l0
      repeat' first
      | (with_reducible exact ih0 _ _ _ _)
      | (with_reducible exact ih1 _ _ _ _)
      | (with_reducible exact ih2 _ _ _ _ _ _ _)
      | (with_reducible exact impl_imageAfter.mono _ _ _ _)
      | (with_reducible exact LeO.refl _)
      | (with_reducible exact LeO.none _)
      | (with_reducible refine LeO.ite ?_ ?_)
      | (with_reducible refine LeO.bind ?_ (fun _ => ?_))
      | exact ih0 _ _ _ _
      | exact ih1 _ _ _ _
      | exact ih2 _ _ _ _ _ _ _
      | exact impl_imageAfter.mono _ _ _ _
      | exact LeO.none _
      | refine LeO.ite ?_ ?_
      | refine LeO.bind ?_ (fun _ => ?_)
    · intro y0 y1 y2 y3 y4 y5 y6
      unfold impl_WordOfImage.l1
      repeat' first
      | (with_reducible exact ih0 _ _ _ _)
      | (with_reducible exact ih1 _ _ _ _)
      | (with_reducible exact ih2 _ _ _ _ _ _ _)
      | (with_reducible exact impl_imageAfter.mono _ _ _ _)
      | (with_reducible exact LeO.refl _)
      | (with_reducible exact LeO.none _)
      | (with_reducible refine LeO.ite ?_ ?_)
      | (with_reducible refine LeO.bind ?_ (fun _ => ?_))
      | exact ih0 _ _ _ _
      | exact ih1 _ _ _ _
      | exact ih2 _ _ _ _ _ _ _
      | exact impl_imageAfter.mono _ _ _ _
      | exact LeO.none _
      | refine LeO.ite ?_ ?_
      | refine LeO.bind ?_ (fun _ => ?_)
theorem impl_WordOfImage.mono : ∀ a0 a1 a2 k, LeO (impl_WordOfImage.f k a0 a1 a2) (impl_WordOfImage.f (k + 1) a0 a1 a2) := by
  intro a0 a1 a2 k
  obtain ⟨ih0, ih1, ih2⟩ := impl_WordOfImage.mono_l k
  unfold impl_WordOfImage.f
  repeat' first
      | (with_reducible exact ih0 _ _ _ _)
      | (with_reducible exact ih1 _ _ _ _)
      | (with_reducible exact ih2 _ _ _ _ _ _ _)
      | (with_reducible exact impl_imageAfter.mono _ _ _ _)
      | (with_reducible exact LeO.refl _)
      | (with_reducible exact LeO.none _)
      | (with_reducible refine LeO.ite ?_ ?_)
      | (with_reducible refine LeO.bind ?_ (fun _ => ?_))
      | exact ih0 _ _ _ _
      | exact ih1 _ _ _ _
      | exact ih2 _ _ _ _ _ _ _
      | exact impl_imageAfter.mono _ _ _ _
      | exact LeO.none _
      | refine LeO.ite ?_ ?_
      | refine LeO.bind ?_ (fun _ => ?_)
set_option maxHeartbeats 8000000 in
set_option maxRecDepth 100000 in
theorem impl_WordOfImage.calls (k : Nat) (a0 : Int) (a1 : Int) (a2 : Int) (r1 : ByteArray) (r2 : Bool) (w : World) (h : impl_WordOfImage.f k a0 a1 a2 = some (r1, r2)) :
    Calls Tryz.prog 10 #[.int .i64 a0, .int .i64 a1, .int .i64 a2] w fun e w' => e = .returned (.tuple #[.string r1, .bool r2]) ∧ Below w.heap.size w w' := by
 have HB := Aside0.mk (Below.refl w.heap.size w)
 have H := h
 unfold impl_WordOfImage.f at H
 clear h
 have b8 := Aside0.mk H
 clear H
 go_enter Tryz.func10, Tryz.ntmps10
 go_upto_region 1 with (fail)
 go_cut [19] (fun d5 wc => ∃ (kq : Nat) (a8 : Bool), d5 = .bool a8 ∧ Aside0 (impl_WordOfImage.j0 kq a0 a1 a2 a8 = some (r1, r2)) ∧ Aside0 (kq ≤ k) ∧ Aside0 (Below w.heap.size w wc))
 case first => (
 have H := b8.out
 clear b8
 obtain ⟨d1, A5, H⟩ := bD H
 try dsimp only at H
 by_cases c6 : d1 = true
 ·(
 subst c6
 rw [if_pos rfl] at H
 obtain ⟨b9, A7, H⟩ := bD H
 try dsimp only at H
 have H' := Aside0.mk H
 clear H
 go_wp2_with (first | ((with_reducible refine gate_callee (f := 38) rfl ?_); refine goesL_ (some 13) rfl rfl Tryz.func38 kr rfl #[.int .i64 a0, .int .i64 a1] rfl sM ?_; (with_reducible refine (impl_isCorridor.calls a0 a1 true _ A5.out).mono ?_); rintro e w' ⟨rfl, ⟨nd, rfl⟩⟩; refine ⟨_, rfl, ?_⟩) | (go_at_call 39; (with_reducible refine (impl_within.calls a2 (-100000) 100000 b9 _ A7.out).mono ?_); rintro e w' ⟨rfl, ⟨nd, rfl⟩⟩))
 go_meet
 case rel => exact ⟨_, (!b9), sR, H', ⟨by first | omega | exact Nat.le_refl _⟩, ⟨bB⟩⟩
 )
 ·(
 replace c6 := Bool.eq_false_iff.mpr c6
 subst c6
 rw [if_neg nft] at H
 have H' := Aside0.mk H
 clear H
 go_wp2_with (first | ((with_reducible refine gate_callee (f := 38) rfl ?_); refine goesL_ (some 13) rfl rfl Tryz.func38 kr rfl #[.int .i64 a0, .int .i64 a1] rfl sM ?_; (with_reducible refine (impl_isCorridor.calls a0 a1 false _ A5.out).mono ?_); rintro e w' ⟨rfl, ⟨nd, rfl⟩⟩; refine ⟨_, rfl, ?_⟩))
 go_meet
 case rel => exact ⟨_, (true), sR, H', ⟨by first | omega | exact Nat.le_refl _⟩, ⟨bB⟩⟩
 )
 )
 case rest => (
 clear b8
 obtain ⟨kq, a8, rfl, HA, HJ3, HB⟩ := hcut
 cases kq with
 | zero => exact absurd HA.out (by simp [impl_WordOfImage.j0])
 | succ c5 => (
 have H := HA.out
 clear HA
 simp only [impl_WordOfImage.j0] at H
 by_cases c8 : a8 = true
 ·(
 subst c8
 rw [if_pos rfl] at H
 simp only [Option.some.injEq, Prod.mk.injEq] at H
 obtain ⟨rfl, rfl⟩ := H
 go_wp2
 go_ret2
 exact ⟨sE, bI⟩
 )
 ·(
 replace c8 := Bool.eq_false_iff.mpr c8
 subst c8
 rw [if_neg nft] at H
 have H' := Aside0.mk H
 clear H
 go_wp2
 go_loopg [8] c5 (fun kq v8 w' => ∃ (a5 : Int), v8 = .int .i64 a5 ∧ Aside0 (impl_WordOfImage.l0 kq a0 a1 a2 a5 = some (r1, r2)) ∧ Aside0 (kq ≤ c5) ∧ Aside0 (Below w.heap.size w w'))
 case atStart => exact ⟨(0), sR, H', ⟨Nat.le_refl _⟩, ⟨bB⟩⟩
 case round => (
 clear H'
 obtain ⟨a5, rfl, HA, HK2, HB⟩ := hrel
 cases gk with
 | zero => exact absurd HA.out (by simp [impl_WordOfImage.l0])
 | succ k2 => (
 have H := HA.out
 clear HA
 simp only [impl_WordOfImage.l0] at H
 by_cases c9 : a5 ≤ 40
 ·(
 rw [if_pos c9] at H
 have c0 : decide (a5 ≤ 40) = true := decide_eq_true c9
 clear c9
 obtain ⟨a4, d6, H⟩ := bD H
 try dsimp only at H
 have H' := Aside0.mk H
 clear H
 go_wp2_with (first | ((with_reducible refine gate_callee (f := 40) rfl ?_); refine goesL_ (some 25) rfl rfl Tryz.func40 kr rfl #[.int .i64 a5] rfl sM ?_; (with_reducible refine (impl_wordsOf.calls a5 a4 _ d6.out).mono ?_); rintro e e1 ⟨e0, rfl, c7, hb⟩; refine ⟨_, rfl, ?_⟩; have b4 := Aside0.mk (Kd.R_lower c7 (below_size bB)); replace HB := Aside0.mk (below_step bB hb); (try clear hb); (try clear c7); obtain ⟨d2, d3, d4⟩ := Kd.R_slice b4.out; subst d4))
 go_loopg [27] k2 (fun kq d7 w' => ∃ (a3 : Int), d7 = .int .i64 a3 ∧ Aside0 (impl_WordOfImage.l1 kq a0 a1 a2 a5 a4 (a4.length : Int) a3 = some (r1, r2)) ∧ Aside0 (kq ≤ k2) ∧ Aside0 (Kd.R Kd.string 9 w' w.heap.size (fun _ => True) (.slice d2 a4.length d3) a4) ∧ Aside0 (Below w.heap.size w w'))
 case atStart => exact ⟨(0), sR, H', ⟨Nat.le_refl _⟩, ⟨oR b4⟩, ⟨bB⟩⟩
 case round => (
 clear H'
 try clear c0
 obtain ⟨a3, rfl, HA, HK3, b0, HB⟩ := hrel
 cases gk with
 | zero => exact absurd HA.out (by simp [impl_WordOfImage.l1])
 | succ k3 => (
 have H := HA.out
 clear HA
 simp only [impl_WordOfImage.l1] at H
 by_cases a9 : a3 < (a4.length : Int)
 ·(
 rw [if_pos a9] at H
 have c1 : decide (a3 < (a4.length : Int)) = true := decide_eq_true a9
 clear a9
 by_cases b5 : 0 ≤ a3
 ·(
 rw [if_pos b5] at H
 have d8 : decide (0 ≤ a3) = true := decide_eq_true b5
 clear b5
 by_cases b6 : a3 < (a4.length : Int)
 ·(
 rw [if_pos b6] at H
 have d9 : decide (a3 < (a4.length : Int)) = true := decide_eq_true b6
 clear b6
 obtain ⟨b2, d0, H⟩ := bD H
 try dsimp only at H
 by_cases b1 : b2 = a2
 ·(
 rw [if_pos b1] at H
 obtain ⟨c2, c3⟩ := yE b1
 clear b1
 simp only [Option.some.injEq, Prod.mk.injEq] at H
 obtain ⟨rfl, rfl⟩ := H
 have a6 : 0 ≤ (a3 : Int) := of_decide_eq_true asm
 have a7 : a3 < (a4.length : Int) := of_decide_eq_true asm
 obtain ⟨c4, b3, b7⟩ := Kd.at_string (Kd.R_reads' b0.out).2.2 a3 a6 a7
 cases b3
 replace a6 := eq_true a6
 replace a7 := eq_true a7
 go_wp2_with (first | ((with_reducible refine gate_callee (f := 41) rfl ?_); refine goesL_ (some 34) rfl rfl Tryz.func41 kr rfl #[.int .i64 a0, .int .i64 a1, .string (rdOf ByteArray.empty a4 a3)] rfl sM ?_; (with_reducible refine (impl_imageAfter.calls k3 a0 a1 (rdOf ByteArray.empty a4 a3) b2 _ d0.out).mono ?_); rintro e w' ⟨rfl, ⟨nd, rfl⟩⟩; refine ⟨_, rfl, ?_⟩))
 go_ret2
 exact ⟨sE, bI⟩
 )
 ·(
 rw [if_neg b1] at H
 obtain ⟨c2, c3⟩ := nE b1
 have H' := Aside0.mk H
 clear H
 have a6 : 0 ≤ (a3 : Int) := of_decide_eq_true asm
 have a7 : a3 < (a4.length : Int) := of_decide_eq_true asm
 obtain ⟨c4, b3, b7⟩ := Kd.at_string (Kd.R_reads' b0.out).2.2 a3 a6 a7
 cases b3
 replace a6 := eq_true a6
 replace a7 := eq_true a7
 go_wp2_with (first | ((with_reducible refine gate_callee (f := 41) rfl ?_); refine goesL_ (some 34) rfl rfl Tryz.func41 kr rfl #[.int .i64 a0, .int .i64 a1, .string (rdOf ByteArray.empty a4 a3)] rfl sM ?_; (with_reducible refine (impl_imageAfter.calls k3 a0 a1 (rdOf ByteArray.empty a4 a3) b2 _ d0.out).mono ?_); rintro e w' ⟨rfl, ⟨nd, rfl⟩⟩; refine ⟨_, rfl, ?_⟩))
 go_roundg k3
 case measure => have := HJ3.out; have := HK2.out; have := HK3.out; omega
 case rel => exact ⟨(wrap64 (a3 + 1)), sR, H', ⟨by have := HJ3.out; have := HK2.out; have := HK3.out; omega⟩, ⟨oR b0⟩, ⟨bB⟩⟩
 )
 )
 ·(
 rw [if_neg b6] at H
 exact absurd H (by simp)
 )
 )
 ·(
 rw [if_neg b5] at H
 exact absurd H (by simp)
 )
 )
 ·(
 rw [if_neg a9] at H
 have c1 : decide (a3 < (a4.length : Int)) = false := decide_eq_false a9
 clear a9
 have H' := Aside0.mk H
 clear H
 go_wp2
 go_roundg k3
 case measure => have := HJ3.out; have := HK2.out; have := HK3.out; omega
 case rel => exact ⟨(wrap64 (a5 + 1)), sR, H', ⟨by have := HJ3.out; have := HK2.out; have := HK3.out; omega⟩, ⟨bB⟩⟩
 )
 )
 )
 )
 ·(
 rw [if_neg c9] at H
 have c0 : decide (a5 ≤ 40) = false := decide_eq_false c9
 clear c9
 simp only [Option.some.injEq, Prod.mk.injEq] at H
 obtain ⟨rfl, rfl⟩ := H
 go_wp2
 go_ret2
 exact ⟨sE, bI⟩
 )
 )
 )
 )
 )
 )

/-! ### impl_isWord: function 46 -/
theorem iw_cell {w w' : World} {p : Addr} {v : Value} (h : Below w.heap.size w w') (hc : w.cell? p = some v) : w'.cell? p = some v := by
  have hb := World.block_lt_of_cell? _ _ hc
  have e := h.block _ hb
  unfold World.cell? at hc ⊢
  rw [e]
  exact hc
theorem iw_table : (Tryz.prog.info? (Tryz.lays160_ren.t 116)).map (fun i => (i.zero, i.size)) = some (some (.agg (Array.replicate 256 (.bool false))), 256) := by kernel_rfl
def impl_isWord.f (a0 : ByteArray) : Option (Bool) := some (decide ((a0.size : Int) ≤ 40) && ((Lib.trimS a0.data.toList [108, 114]).isEmpty && (!(Lib.contains a0.data.toList [108, 108]) && !(Lib.contains a0.data.toList [114, 114]))))
theorem iw_trim (s : ByteArray) (w : World) (hs : (s.size : Int) ≤ 40) : Calls Tryz.prog 72 #[.string s, .string ⟨#[108, 114]⟩] w fun e w' => (∃ t : ByteArray, e = .returned (.string t) ∧ (t.toList = [] ↔ (Lib.trimS s.data.toList [108, 114]).isEmpty = true)) ∧ Below w.heap.size w w' := by
  refine (Any.strings_Trim_laid Tryz.lays160 iw_table s ⟨#[108, 114]⟩ w (by omega) (by decide) (ascii_of_all (by decide))).mono ?_
  rintro e w1 ⟨rfl, hb⟩
  refine ⟨⟨_, rfl, ?_⟩, hb⟩
  rw [Lib.toList_data]
  show (Lib.trimS s.data.toList [108, 114]).toArray.toList = [] ↔ _
  rw [List.isEmpty_iff]
set_option maxHeartbeats 4000000 in
set_option maxRecDepth 100000 in
theorem impl_isWord.callsM (a0 : ByteArray) (r : Bool) (w : World) (h : impl_isWord.f a0 = some r) (m : Int) (hm : w.cell? ⟨0, 0, none⟩ = some (.int .i64 m)) :
    Calls Tryz.prog 46 #[.string a0] w fun e w' => e = .returned (.bool r) ∧ Below w.heap.size w w' := by
 have HR := Aside0.mk (Option.some.inj h)
 have HM := Aside0.mk hm
 clear hm h
 by_cases c1 : (a0.size : Int) ≤ 40
 case neg => (
 go_enter Tryz.func46, Tryz.ntmps46
 go_wp2_with fail
 go_ret
 exact ⟨by rw [← HR.out, decide_eq_false (by omega : ¬ (a0.size : Int) ≤ 40)]; rfl, Below.refl _ _⟩
 )
 case pos => (
 have d1 : decide ((a0.size : Int) ≤ 40) = true := decide_eq_true c1
 have hc := fun (sub : ByteArray) (W : World) (hb : Below w.heap.size w W) => Tryz.strings_Contains a0 sub m W (by omega) (iw_cell hb HM.out)
 have HC := Aside0.mk hc
 have HS := Aside0.mk c1
 clear hc c1
 go_enter Tryz.func46, Tryz.ntmps46
 go_wp2_with (first | (go_at_call 72; (with_reducible refine (iw_trim a0 _ HS.out).mono ?_); rintro e w1 ⟨⟨t, rfl, ht⟩, hb⟩) | (go_at_call 73; (refine (HC.out _ _ hb).mono ?_); rintro e w2 ⟨rfl, rfl⟩))
 all_goals clear HC HS HM
 ·(
 rename_i h1 h2
 go_ret
 refine ⟨?_, hb⟩
 rw [← HR.out, d1, h1, h2]
 rfl
 )
 ·(
 rename_i h1 h2
 have e1 : t.toList.isEmpty = true := by rw [List.isEmpty_iff]; exact ht.2 (by rw [h1]; rfl)
 have e2 : Lib.contains a0.data.toList [108, 108] = false := by simpa using h2
 go_ret
 refine ⟨?_, hb⟩
 rw [← HR.out, d1, h1, e2]
 show Ending.returned (Value.bool (t.toList.isEmpty && !Lib.contains a0.data.toList [114, 114])) = _
 rw [e1]
 rfl
 )
 ·(
 rename_i h1
 have e1 : (Lib.trimS a0.data.toList [108, 114]).isEmpty = false := by
  cases h : Lib.trimS a0.data.toList [108, 114] with
  | nil => exact absurd h h1
  | cons _ _ => rfl
 go_ret
 refine ⟨?_, hb⟩
 rw [← HR.out, d1, e1]
 rfl
 )
 )
/-- What the words ask of the world: the cell of internal/bytealg.MaxLen. -/
def PtW (w : World) : Prop := ∃ m : Int, w.cell? ⟨0, 0, none⟩ = some (.int .i64 m)
theorem PtW.below {w w' : World} (h : PtW w) (hb : Below w.heap.size w w') : PtW w' := h.elim fun m hm => ⟨m, iw_cell hb hm⟩
theorem impl_isWord.calls (a0 : ByteArray) (r : Bool) (w : World) (h : impl_isWord.f a0 = some r) (hw_ : PtW w) :
    Calls Tryz.prog 46 #[.string a0] w fun e w' => e = .returned (.bool r) ∧ Below w.heap.size w w' := by
  obtain ⟨m, hm⟩ := hw_
  exact impl_isWord.callsM a0 r w h m hm

end Go.Proofs.YtnmhefdjakjngaaGreatDoor.PFnMirrorsFace
