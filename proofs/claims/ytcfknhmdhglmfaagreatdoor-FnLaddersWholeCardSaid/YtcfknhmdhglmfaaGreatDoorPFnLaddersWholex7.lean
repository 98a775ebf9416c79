-- Written by xprint.py, a program of this session, for this seat; Lean checks it.
import Derived.Test.YtcfknhmdhglmfaaGreatDoorVM
import Derived.Test.YtcfknhmdhglmfaaGreatDoorPFnLaddersWholex0
import Derived.Test.YtcfknhmdhglmfaaGreatDoorPFnLaddersWholex4
import Derived.Test.YtcfknhmdhglmfaaGreatDoorPFnLaddersWholex6
namespace Go.Proofs.YtcfknhmdhglmfaaGreatDoor.PFnLaddersWhole
open Go.Proofs.YtcfknhmdhglmfaaGreatDoorV Go.RowKit Go.Proofs.YtcfknhmdhglmfaaGreatDoorW.PrintWords Go.Proofs.YtcfknhmdhglmfaaGreatDoorW.PrintLast Go.Proofs.YtcfknhmdhglmfaaGreatDoorW.PrintMore
attribute [local go_sem] max2_int min2_int max_two min_two max_three min_three max_four min_four   -- for this text's walks alone
set_option linter.unusedVariables false
set_option linter.unusedSimpArgs false

/-! ### spec_clAll: function 48 -/
mutual
def spec_clAll.l0 : Nat → Int → List (S25) → Int → Option ((List (S25)))
  | 0, _, _, _ => none
  | k + 1, x0, x3, x4 => if x4 < x0 then (spec_clAll.l1 k x0 x3 x4 ([] : List Int) 1) else (some x3)
def spec_clAll.l1 : Nat → Int → List (S25) → Int → List Int → Int → Option ((List (S25)))
  | 0, _, _, _, _, _ => none
  | k + 1, x0, x3, x4, x5, x6 => if x6 < x0 then ((spec_clRoot.f k (wrap64 ((wrap64 (x4 * x4)) + (wrap64 (x6 * x6))))).bind fun t306 => (if (wrap64 (t306 * t306)) = (wrap64 ((wrap64 (x4 * x4)) + (wrap64 (x6 * x6)))) then (if t306 ≤ x0 then (if x5.length < 17592186044416 then (spec_clAll.l1 k x0 x3 x4 (x5 ++ [x6]) (wrap64 (x6 + 1))) else (none)) else (spec_clAll.l1 k x0 x3 x4 x5 (wrap64 (x6 + 1)))) else (spec_clAll.l1 k x0 x3 x4 x5 (wrap64 (x6 + 1))))) else (spec_clAll.l2 k x0 x3 x4 x5 x5 (x5.length : Int) 0)
def spec_clAll.l2 : Nat → Int → List (S25) → Int → List Int → List Int → Int → Int → Option ((List (S25)))
  | 0, _, _, _, _, _, _, _ => none
  | k + 1, x0, x3, x4, x5, x46, x47, x48 => if x48 < x47 then (if 0 ≤ x48 then (if x48 < (x46.length : Int) then (if 0 ≤ (wrap64 (x48 + 1)) then (if (wrap64 (x48 + 1)) ≤ (x5.length : Int) then ((some (x5.take ((wrap64 (x48 + 1)) : Int).toNat : List Int)).bind fun y311 => (spec_clAll.l3 k x0 x3 x4 x5 (rd x46 x48) x46 x47 x48 y311 (y311.length : Int) 0)) else (none)) else (none)) else (none)) else (none)) else (spec_clAll.l0 k x0 x3 (wrap64 (x4 + 1)))
def spec_clAll.l3 : Nat → Int → List (S25) → Int → List Int → Int → List Int → Int → Int → List Int → Int → Int → Option ((List (S25)))
  | 0, _, _, _, _, _, _, _, _, _, _, _ => none
  | k + 1, x0, x3, x4, x5, x10, x46, x47, x48, x56, x57, x58 => if x58 < x57 then (if 0 ≤ x58 then (if x58 < (x56.length : Int) then (if (wrap64 (x10 + (rd x56 x58))) = 0 then (none) else (if (Int.tmod (wrap64 (x10 * (rd x56 x58))) (wrap64 (x10 + (rd x56 x58)))) = 0 then (if x3.length < 5864062014805 then (spec_clAll.l3 k x0 (x3 ++ [(⟨x4, x10, rd x56 x58⟩ : S25)]) x4 x5 x10 x46 x47 x48 x56 x57 (wrap64 (x58 + 1))) else (none)) else (spec_clAll.l3 k x0 x3 x4 x5 x10 x46 x47 x48 x56 x57 (wrap64 (x58 + 1))))) else (none)) else (none)) else (spec_clAll.l2 k x0 x3 x4 x5 x46 x47 (wrap64 (x48 + 1)))
end
def spec_clAll.f (k : Nat) (a0 : Int) : Option ((List (S25))) := spec_clAll.l0 k a0 ([] : List (S25)) 1
theorem spec_clAll.mono_l : ∀ k, (∀ y0 y1 y2, LeO (spec_clAll.l0 k y0 y1 y2) (spec_clAll.l0 (k + 1) y0 y1 y2)) ∧ (∀ y0 y1 y2 y3 y4, LeO (spec_clAll.l1 k y0 y1 y2 y3 y4) (spec_clAll.l1 (k + 1) y0 y1 y2 y3 y4)) ∧ (∀ y0 y1 y2 y3 y4 y5 y6, LeO (spec_clAll.l2 k y0 y1 y2 y3 y4 y5 y6) (spec_clAll.l2 (k + 1) y0 y1 y2 y3 y4 y5 y6)) ∧ (∀ y0 y1 y2 y3 y4 y5 y6 y7 y8 y9 y10, LeO (spec_clAll.l3 k y0 y1 y2 y3 y4 y5 y6 y7 y8 y9 y10) (spec_clAll.l3 (k + 1) y0 y1 y2 y3 y4 y5 y6 y7 y8 y9 y10))
  | 0 => ⟨fun _ _ _ r h => by simp [spec_clAll.l0] at h, fun _ _ _ _ _ r h => by simp [spec_clAll.l1] at h, fun _ _ _ _ _ _ _ r h => by simp [spec_clAll.l2] at h, fun _ _ _ _ _ _ _ _ _ _ _ r h => by simp [spec_clAll.l3] at h⟩
  | k + 1 => by
    obtain ⟨ih0, ih1, ih2, ih3⟩ := spec_clAll.mono_l k
    refine ⟨?_, ?_, ?_, ?_⟩
    · intro y0 y1 y2
      unfold spec_clAll.l0
      repeat' first
      | (with_reducible exact ih0 _ _ _)
      | (with_reducible exact ih1 _ _ _ _ _)
      | (with_reducible exact ih2 _ _ _ _ _ _ _)
      | (with_reducible exact ih3 _ _ _ _ _ _ _ _ _ _ _)
      | (with_reducible exact spec_clRoot.mono _ _)
      | (with_reducible exact LeO.refl _)
      | (with_reducible exact LeO.none _)
      | (with_reducible refine LeO.ite ?_ ?_)
      | (with_reducible refine LeO.bind ?_ (fun _ => ?_))
      | exact ih0 _ _ _
      | exact ih1 _ _ _ _ _
      | exact ih2 _ _ _ _ _ _ _
      | exact ih3 _ _ _ _ _ _ _ _ _ _ _
      | exact spec_clRoot.mono _ _
      | exact LeO.none _
      | refine LeO.ite ?_ ?_
      | refine LeO.bind ?_ (fun _ => ?_)
    · intro y0 y1 y2 y3 y4
      unfold spec_clAll.l1
      repeat' first
      | (with_reducible exact ih0 _ _ _)
      | (with_reducible exact ih1 _ _ _ _ _)
      | (with_reducible exact ih2 _ _ _ _ _ _ _)
      | (with_reducible exact ih3 _ _ _ _ _ _ _ _ _ _ _)
      | (with_reducible exact spec_clRoot.mono _ _)
      | (with_reducible exact LeO.refl _)
      | (with_reducible exact LeO.none _)
      | (with_reducible refine LeO.ite ?_ ?_)
      | (with_reducible refine LeO.bind ?_ (fun _ => ?_))
      | exact ih0 _ _ _
      | exact ih1 _ _ _ _ _
      | exact ih2 _ _ _ _ _ _ _
      | exact ih3 _ _ _ _ _ _ _ _ _ _ _
      | exact spec_clRoot.mono _ _
      | exact LeO.none _
      | refine LeO.ite ?_ ?_
      | refine LeO.bind ?_ (fun _ => ?_)
    · intro y0 y1 y2 y3 y4 y5 y6
      unfold spec_clAll.l2
      repeat' first
      | (with_reducible exact ih0 _ _ _)
      | (with_reducible exact ih1 _ _ _ _ _)
      | (with_reducible exact ih2 _ _ _ _ _ _ _)
      | (with_reducible exact ih3 _ _ _ _ _ _ _ _ _ _ _)
      | (with_reducible exact spec_clRoot.mono _ _)
      | (with_reducible exact LeO.refl _)
      | (with_reducible exact LeO.none _)
      | (with_reducible refine LeO.ite ?_ ?_)
      | (with_reducible refine LeO.bind ?_ (fun _ => ?_))
      | exact ih0 _ _ _
      | exact ih1 _ _ _ _ _
      | exact ih2 _ _ _ _ _ _ _
      | exact ih3 _ _ _ _ _ _ _ _ _ _ _
      | exact spec_clRoot.mono _ _
      | exact LeO.none _
      | refine LeO.ite ?_ ?_
      | refine LeO.bind ?_ (fun _ => ?_)
    · intro y0 y1 y2 y3 y4 y5 y6 y7 y8 y9 y10
      unfold spec_clAll.l3
      repeat' first
      | (with_reducible exact ih0 _ _ _)
      | (with_reducible exact ih1 _ _ _ _ _)
      | (with_reducible exact ih2 _ _ _ _ _ _ _)
      | (with_reducible exact ih3 _ _ _ _ _ _ _ _ _ _ _)
      | (with_reducible exact spec_clRoot.mono _ _)
      | (with_reducible exact LeO.refl _)
      | (with_reducible exact LeO.none _)
      | (with_reducible refine LeO.ite ?_ ?_)
      | (with_reducible refine LeO.bind ?_ (fun _ => ?_))
      | exact ih0 _ _ _
      | exact ih1 _ _ _ _ _
      | exact ih2 _ _ _ _ _ _ _
      | exact ih3 _ _ _ _ _ _ _ _ _ _ _
      | exact spec_clRoot.mono _ _
      | exact LeO.none _
      | refine LeO.ite ?_ ?_
      | refine LeO.bind ?_ (fun _ => ?_)
theorem spec_clAll.mono : ∀ a0 k, LeO (spec_clAll.f k a0) (spec_clAll.f (k + 1) a0) := by
  intro a0 k
  obtain ⟨ih0, ih1, ih2, ih3⟩ := spec_clAll.mono_l k
  unfold spec_clAll.f
  repeat' first
      | (with_reducible exact ih0 _ _ _)
      | (with_reducible exact ih1 _ _ _ _ _)
      | (with_reducible exact ih2 _ _ _ _ _ _ _)
      | (with_reducible exact ih3 _ _ _ _ _ _ _ _ _ _ _)
      | (with_reducible exact spec_clRoot.mono _ _)
      | (with_reducible exact LeO.refl _)
      | (with_reducible exact LeO.none _)
      | (with_reducible refine LeO.ite ?_ ?_)
      | (with_reducible refine LeO.bind ?_ (fun _ => ?_))
      | exact ih0 _ _ _
      | exact ih1 _ _ _ _ _
      | exact ih2 _ _ _ _ _ _ _
      | exact ih3 _ _ _ _ _ _ _ _ _ _ _
      | exact spec_clRoot.mono _ _
      | exact LeO.none _
      | refine LeO.ite ?_ ?_
      | refine LeO.bind ?_ (fun _ => ?_)
set_option maxHeartbeats 8000000 in
set_option maxRecDepth 100000 in
theorem spec_clAll.calls (k : Nat) (a0 : Int) (r : List (S25)) (w : World) (h : spec_clAll.f k a0 = some r) :
    Calls Tryz.prog 48 #[.int .i64 a0] w fun e w' => ∃ v0_ : Value, e = .returned (v0_) ∧ Kd.R k25 25 w' w.heap.size (fun _ => True) v0_ r ∧ Below w.heap.size w w' := by
 have k7 := Tryz.underlying25
 have HB := Aside0.mk (Below.refl w.heap.size w)
 have H := h
 unfold spec_clAll.f at H
 clear h
 have H' := Aside0.mk H
 clear H
 go_enter Tryz.func48, Tryz.ntmps48
 go_wp2
 go_loopg [3, 4] k (fun kq v3 v4 w' => ∃ (b7 : List (S25)) (a4 : Int), v4 = .int .i64 a4 ∧ Aside0 (spec_clAll.l0 kq a0 b7 a4 = some r) ∧ Aside0 (kq ≤ k) ∧ Aside0 (Kd.R k25 25 w' w.heap.size (fun _ => True) v3 b7) ∧ Aside0 (Below w.heap.size w w'))
 case atStart => exact ⟨(([] : List (S25))), (1), sR, H', ⟨Nat.le_refl _⟩, ⟨by first | exact Kd.R_nil _ _ _ _ _ | exact Kd.N_nil _ _ _ _ _ | exact Kd.V_nil _ _ _ _ _ | exact Kd.Q_nil _ _ _ _ _ | exact Kd.S_nil _ _ _ _ _⟩, ⟨bB⟩⟩
 case round => (
 clear H'
 obtain ⟨b7, a4, rfl, HA, HK1, a7, HB⟩ := hrel
 cases gk with
 | zero => exact absurd HA.out (by simp [spec_clAll.l0])
 | succ k1 => (
 have H := HA.out
 clear HA
 simp only [spec_clAll.l0] at H
 by_cases c2 : a4 < a0
 ·(
 rw [if_pos c2] at H
 have g3 : decide (a4 < a0) = true := decide_eq_true c2
 clear c2
 have H' := Aside0.mk H
 clear H
 go_wp2
 go_loopg [5, 6] k1 (fun kq v5 v6 w' => ∃ (a1 : List Int) (a5 : Int), v6 = .int .i64 a5 ∧ Aside0 (spec_clAll.l1 kq a0 b7 a4 a1 a5 = some r) ∧ Aside0 (kq ≤ k1) ∧ Aside0 (Kd.R k25 25 w' w.heap.size (fun _ => True) u3 b7) ∧ Aside0 (Kd.R (Kd.int .i64) 3 w' w.heap.size (fun _ => True) v5 a1) ∧ Aside0 (Below w.heap.size w w'))
 case atStart => exact ⟨(([] : List Int)), (1), sR, H', ⟨Nat.le_refl _⟩, ⟨oR a7⟩, ⟨by first | exact Kd.R_nil _ _ _ _ _ | exact Kd.N_nil _ _ _ _ _ | exact Kd.V_nil _ _ _ _ _ | exact Kd.Q_nil _ _ _ _ _ | exact Kd.S_nil _ _ _ _ _⟩, ⟨bB⟩⟩
 case round => (
 clear H'
 try clear g3
 obtain ⟨a1, a5, rfl, HA, HK2, a7, a8, HB⟩ := hrel
 cases gk with
 | zero => exact absurd HA.out (by simp [spec_clAll.l1])
 | succ k2 => (
 have H := HA.out
 clear HA
 simp only [spec_clAll.l1] at H
 by_cases c3 : a5 < a0
 ·(
 rw [if_pos c3] at H
 have g4 : decide (a5 < a0) = true := decide_eq_true c3
 clear c3
 obtain ⟨b4, A4, H⟩ := bD H
 try dsimp only at H
 by_cases c5 : (wrap64 (b4 * b4)) = (wrap64 ((wrap64 (a4 * a4)) + (wrap64 (a5 * a5))))
 ·(
 rw [if_pos c5] at H
 obtain ⟨i6, i7⟩ := yE c5
 clear c5
 by_cases c6 : b4 ≤ a0
 ·(
 rw [if_pos c6] at H
 have i9 : decide (b4 ≤ a0) = true := decide_eq_true c6
 clear c6
 by_cases c7 : a1.length < 17592186044416
 ·(
 rw [if_pos c7] at H
 have j0 := Aside0.mk c7
 clear c7
 obtain ⟨g5, c0⟩ : ∃ y_ : List Int, y_ = (a1 ++ [a5]) := ⟨_, rfl⟩
 replace H : (spec_clAll.l1 k2 a0 b7 a4 g5 (wrap64 (a5 + 1))) = some r := by first | (rw [c0]; with_reducible exact H) | (have b5 := (Option.bind_some _ _).symm.trans H; rw [c0]; with_reducible exact b5) | (have b5 := (Option.bind_some _ _).symm.trans H; with_reducible exact b5) | with_reducible exact H | (rw [c0]; exact H) | exact H
 have h0 := Aside0.mk c0
 clear c0
 have H' := Aside0.mk H
 clear H
 go_wp2_with (first | ((with_reducible refine gate_callee (f := 59) rfl ?_); refine goesL_ (some 31) rfl rfl Tryz.func59 kr rfl #[.int .i64 (wrap64 ((wrap64 (a4 * a4)) + (wrap64 (a5 * a5))))] rfl sM ?_; (with_reducible refine (spec_clRoot.calls k2 (wrap64 ((wrap64 (a4 * a4)) + (wrap64 (a5 * a5)))) b4 _ A4.out).mono ?_); rintro e w' ⟨rfl, ⟨nd, rfl⟩⟩; refine ⟨_, rfl, ?_⟩) | ((with_reducible refine gate_builtin (b := .append) (xs := #[.tmp 42, .tmp 44]) rfl ?_); at_builtin; refine Kd.R_append (Kd.int .i64) (w0 := w) w.heap.size rfl (.tmp 42) (.tmp 44) 51 3 (.int .i64 0) 8 rfl Tryz.underlying51 info3 rfl (by decide) (by omega) u5 a1 a5 [.int .i64 a5] (fun _ => True) (fun _ => False) rfl rfl ?aP (fun _ hk => hk.elim) ?aF ?aO ?aB ?aS ?aL ?_; (case aP => exact rfl); (case aB => exact bB); (case aF => exact (fun _ _ => trivial)); (case aO => exact (oR a8)); (case aS => exact (below_size bB)); (case aL => have := j0.out; omega); intro k8 w8 ho hb hg hat; rw [← h0.out] at ho; have h1 := Aside0.mk (ho); replace a7 := Aside0.mk (Kd.R_over' (oR a7) (Kd.R_typed (oR a8)) (by decide) hg); replace HB := Aside0.mk (hb); clear a8 ho hb hg hat))
 go_roundg k2
 case measure => have := HK1.out; have := HK2.out; omega
 case rel => exact ⟨(g5), (wrap64 (a5 + 1)), sR, H', ⟨by have := HK1.out; have := HK2.out; omega⟩, ⟨oR a7⟩, ⟨oR h1⟩, ⟨bB⟩⟩
 )
 ·(
 rw [if_neg c7] at H
 exact absurd H (by simp)
 )
 )
 ·(
 rw [if_neg c6] at H
 have i9 : decide (b4 ≤ a0) = false := decide_eq_false c6
 clear c6
 have H' := Aside0.mk H
 clear H
 go_wp2_with (first | ((with_reducible refine gate_callee (f := 59) rfl ?_); refine goesL_ (some 31) rfl rfl Tryz.func59 kr rfl #[.int .i64 (wrap64 ((wrap64 (a4 * a4)) + (wrap64 (a5 * a5))))] rfl sM ?_; (with_reducible refine (spec_clRoot.calls k2 (wrap64 ((wrap64 (a4 * a4)) + (wrap64 (a5 * a5)))) b4 _ A4.out).mono ?_); rintro e w' ⟨rfl, ⟨nd, rfl⟩⟩; refine ⟨_, rfl, ?_⟩))
 go_roundg k2
 case measure => have := HK1.out; have := HK2.out; omega
 case rel => exact ⟨(a1), (wrap64 (a5 + 1)), sR, H', ⟨by have := HK1.out; have := HK2.out; omega⟩, ⟨oR a7⟩, ⟨oR a8⟩, ⟨bB⟩⟩
 )
 )
 ·(
 rw [if_neg c5] at H
 obtain ⟨i6, i7⟩ := nE c5
 have H' := Aside0.mk H
 clear H
 go_wp2_with (first | ((with_reducible refine gate_callee (f := 59) rfl ?_); refine goesL_ (some 31) rfl rfl Tryz.func59 kr rfl #[.int .i64 (wrap64 ((wrap64 (a4 * a4)) + (wrap64 (a5 * a5))))] rfl sM ?_; (with_reducible refine (spec_clRoot.calls k2 (wrap64 ((wrap64 (a4 * a4)) + (wrap64 (a5 * a5)))) b4 _ A4.out).mono ?_); rintro e w' ⟨rfl, ⟨nd, rfl⟩⟩; refine ⟨_, rfl, ?_⟩))
 go_roundg k2
 case measure => have := HK1.out; have := HK2.out; omega
 case rel => exact ⟨(a1), (wrap64 (a5 + 1)), sR, H', ⟨by have := HK1.out; have := HK2.out; omega⟩, ⟨oR a7⟩, ⟨oR a8⟩, ⟨bB⟩⟩
 )
 )
 ·(
 rw [if_neg c3] at H
 have g4 : decide (a5 < a0) = false := decide_eq_false c3
 clear c3
 have H' := Aside0.mk H
 clear H
 obtain ⟨i5, c9, j3⟩ := Kd.R_slice a8.out
 subst j3
 go_wp2
 go_loopg [3, 48] k2 (fun kq v3 j4 w' => ∃ (c8 : List (S25)) (a2 : Int), j4 = .int .i64 a2 ∧ Aside0 (spec_clAll.l2 kq a0 c8 a4 a1 a1 (a1.length : Int) a2 = some r) ∧ Aside0 (kq ≤ k2) ∧ Aside0 (Kd.R k25 25 w' w.heap.size (fun _ => True) v3 c8) ∧ Aside0 (Kd.R (Kd.int .i64) 3 w' w.heap.size (fun _ => True) (.slice i5 a1.length c9) a1) ∧ Aside0 (Kd.R (Kd.int .i64) 3 w' w.heap.size (fun _ => True) (.slice i5 a1.length c9) a1) ∧ Aside0 (Below w.heap.size w w'))
 case atStart => exact ⟨(b7), (0), sR, H', ⟨Nat.le_refl _⟩, ⟨oR a7⟩, ⟨oR a8⟩, ⟨oR a8⟩, ⟨bB⟩⟩
 case round => (
 clear H'
 try clear g4
 obtain ⟨c8, a2, rfl, HA, HK3, a7, a8, b1, HB⟩ := hrel
 cases gk with
 | zero => exact absurd HA.out (by simp [spec_clAll.l2])
 | succ k3 => (
 have H := HA.out
 clear HA
 simp only [spec_clAll.l2] at H
 by_cases d0 : a2 < (a1.length : Int)
 ·(
 rw [if_pos d0] at H
 have e4 : decide (a2 < (a1.length : Int)) = true := decide_eq_true d0
 clear d0
 by_cases e5 : 0 ≤ a2
 ·(
 rw [if_pos e5] at H
 have h2 : decide (0 ≤ a2) = true := decide_eq_true e5
 clear e5
 by_cases e6 : a2 < (a1.length : Int)
 ·(
 rw [if_pos e6] at H
 have h3 : decide (a2 < (a1.length : Int)) = true := decide_eq_true e6
 clear e6
 obtain ⟨b0, d3⟩ : ∃ j_ : Int, (wrap64 (a2 + 1)) = j_ := ⟨_, rfl⟩
 (first | rw [d3] at H | simp only [d3] at H)
 have j5 : (IntKind.i64.wrap (a2 + 1)) = b0 := (i64_w _).trans d3
 by_cases d8 : 0 ≤ (b0)
 ·(
 rw [if_pos d8] at H
 have h4 := eq_true d8
 have h5 : decide (0 ≤ (b0)) = true := decide_eq_true d8
 clear d8
 by_cases d9 : (b0) ≤ (a1.length : Int)
 ·(
 rw [if_pos d9] at H
 have h6 := eq_true d9
 have h7 : decide ((b0) ≤ (a1.length : Int)) = true := decide_eq_true d9
 clear d9
 obtain ⟨a6, c1⟩ : ∃ y_ : List Int, y_ = (a1.take ((b0) : Int).toNat) := ⟨_, rfl⟩
 replace H : (spec_clAll.l3 k3 a0 c8 a4 a1 (rd a1 a2) a1 (a1.length : Int) a2 a6 (a6.length : Int) 0) = some r := by first | (rw [c1]; with_reducible exact H) | (have b5 := (Option.bind_some _ _).symm.trans H; rw [c1]; with_reducible exact b5) | (have b5 := (Option.bind_some _ _).symm.trans H; with_reducible exact b5) | with_reducible exact H | (rw [c1]; exact H) | exact H
 have d4 := Aside0.mk c1
 clear c1
 have H' := Aside0.mk H
 clear H
 have d5 : 0 ≤ (a2 : Int) := of_decide_eq_true asm
 have d6 : a2 < (a1.length : Int) := of_decide_eq_true asm
 obtain ⟨b2, j1, g2⟩ := Kd.at_int (Kd.R_reads' b1.out).2.2 a2 d5 d6
 cases j1
 replace d5 := eq_true d5
 replace d6 := eq_true d6
 have e7 : ((b0) : Int) ≤ ((a1.length : Int) : Int) := of_decide_eq_true asm
 obtain ⟨k9, e8, _, h8, _⟩ := info_parts info3
 have d1 : a1.length ≤ c9 := (Kd.R_reads' a8.out).2.1
 have g6 : Kd.C (Kd.int .i64) _ (some b2) a1.length a1 := (Kd.R_reads' a8.out).2.2
 have g7 := cut_to (P := Tryz.prog) 51 3 .i64 Tryz.underlying51 e8 (some b2) a1.length c9 (b0) (of_decide_eq_true asm) e7 d1
 have e1 := Kd.C_take (m := ((b0) : Int).toNat) g6 (by omega)
 have e2 : a6.length = ((b0) : Int).toNat := (by rw [d4.out, List.length_take]; omega)
 rw [← d4.out] at e1
 rw [← e2] at g7
 have b3 := Aside0.mk e1
 have j8 := Aside0.mk (show a6.length ≤ c9 from by omega)
 clear e1 g6 d1 e8 h8
 have l0 := Aside0.mk e2
 clear e2
 have j2 := Aside0.mk (show ((b0) : Int).toNat ≤ a1.length from by omega)
 replace e7 := eq_true e7
 go_wp2
 go_loopg [3, 58] k3 (fun kq v3 j6 w' => ∃ (b6 : List (S25)) (a3 : Int), j6 = .int .i64 a3 ∧ Aside0 (spec_clAll.l3 kq a0 b6 a4 a1 (rd a1 a2) a1 (a1.length : Int) a2 a6 (a6.length : Int) a3 = some r) ∧ Aside0 (kq ≤ k3) ∧ Aside0 (Kd.R k25 25 w' w.heap.size (fun _ => True) v3 b6) ∧ Aside0 (Kd.R (Kd.int .i64) 3 w' w.heap.size (fun _ => True) (.slice (some b2) a1.length c9) a1) ∧ Aside0 (Kd.R (Kd.int .i64) 3 w' w.heap.size (fun _ => True) (.slice (some b2) a1.length c9) a1) ∧ Aside0 (Kd.C (Kd.int .i64) w' (some b2) a6.length a6) ∧ Aside0 (Below w.heap.size w w'))
 case atStart => exact ⟨(c8), (0), sR, H', ⟨Nat.le_refl _⟩, ⟨oR a7⟩, ⟨oR a8⟩, ⟨oR b1⟩, ⟨cR b3⟩, ⟨bB⟩⟩
 case round => (
 clear H'
 try clear e4
 try clear h2
 try clear h3
 try clear h4
 try clear h5
 try clear h6
 try clear h7
 try clear e7
 try clear g2
 try clear d5
 try clear d6
 obtain ⟨b6, a3, rfl, HA, HK4, a7, a8, b1, b3, HB⟩ := hrel
 cases gk with
 | zero => exact absurd HA.out (by simp [spec_clAll.l3])
 | succ k4 => (
 have H := HA.out
 clear HA
 simp only [spec_clAll.l3] at H
 by_cases d2 : a3 < (a6.length : Int)
 ·(
 rw [if_pos d2] at H
 have h9 : decide (a3 < (a6.length : Int)) = true := decide_eq_true d2
 clear d2
 by_cases e9 : 0 ≤ a3
 ·(
 rw [if_pos e9] at H
 have j9 : decide (0 ≤ a3) = true := decide_eq_true e9
 clear e9
 by_cases g0 : a3 < (a6.length : Int)
 ·(
 rw [if_pos g0] at H
 have k0 : decide (a3 < (a6.length : Int)) = true := decide_eq_true g0
 clear g0
 by_cases g8 : (wrap64 ((rd a1 a2) + (rd a6 a3))) = 0
 ·(
 rw [if_pos g8] at H
 exact absurd H (by simp)
 )
 ·(
 rw [if_neg g8] at H
 obtain ⟨k5, k6⟩ := nE g8
 by_cases e0 : (Int.tmod (wrap64 ((rd a1 a2) * (rd a6 a3))) (wrap64 ((rd a1 a2) + (rd a6 a3)))) = 0
 ·(
 rw [if_pos e0] at H
 obtain ⟨i0, i1⟩ := yE e0
 clear e0
 by_cases g1 : b6.length < 5864062014805
 ·(
 rw [if_pos g1] at H
 have i2 := Aside0.mk g1
 clear g1
 obtain ⟨g9, c4⟩ : ∃ y_ : List (S25), y_ = (b6 ++ [(⟨a4, (rd a1 a2), rd a6 a3⟩ : S25)]) := ⟨_, rfl⟩
 replace H : (spec_clAll.l3 k4 a0 g9 a4 a1 (rd a1 a2) a1 (a1.length : Int) a2 a6 (a6.length : Int) (wrap64 (a3 + 1))) = some r := by first | (rw [c4]; with_reducible exact H) | (have b5 := (Option.bind_some _ _).symm.trans H; rw [c4]; with_reducible exact b5) | (have b5 := (Option.bind_some _ _).symm.trans H; with_reducible exact b5) | with_reducible exact H | (rw [c4]; exact H) | exact H
 have i3 := Aside0.mk c4
 clear c4
 have H' := Aside0.mk H
 clear H
 have b8 : 0 ≤ (a3 : Int) := of_decide_eq_true asm
 have b9 : a3 < (a6.length : Int) := of_decide_eq_true asm
 obtain ⟨d7, e3, a9⟩ := Kd.at_int b3.out a3 b8 b9
 obtain rfl : b2 = d7 := (by injection e3)
 try replace a9 := (HB.out.cell (World.block_lt_of_cell? w _ a9)).trans a9
 replace b8 := eq_true b8
 replace b9 := eq_true b9
 go_wp2_with (first | ((with_reducible refine gate_builtin (b := .append) (xs := #[.tmp 70, .tmp 75]) rfl ?_); at_builtin; refine Kd.R_append k25 (w0 := w) w.heap.size rfl (.tmp 70) (.tmp 75) 38 25 (.agg #[(.int .i64 0), (.int .i64 0), (.int .i64 0)]) 24 rfl Tryz.underlying38 info25 rfl (by decide) (by omega) u3 b6 (⟨a4, (rd a1 a2), rd a6 a3⟩ : S25) [.int .i64 a4, .int .i64 (rd a1 a2), .int .i64 (rd a6 a3)] (fun _ => True) (fun _ => False) rfl rfl ?aP (fun _ hk => hk.elim) ?aF ?aO ?aB ?aS ?aL ?_; (case aP => exact k25_mkM _ _ _ (⟨a4, (rd a1 a2), rd a6 a3⟩ : S25)); (case aB => exact bB); (case aF => exact (fun _ _ => trivial)); (case aO => exact (oR a7)); (case aS => exact (below_size bB)); (case aL => have := i2.out; omega); intro l1 j7 ho hb hg hat; rw [← i3.out] at ho; have i4 := Aside0.mk (ho); replace b1 := Aside0.mk (Kd.R_over' (oR b1) (Kd.R_typed (oR a7)) (by decide) hg); replace HB := Aside0.mk (hb); replace b3 := Aside0.mk ((show Kd.C (Kd.int .i64) j7 (some b2) a6.length a6 from by rw [d4.out]; exact Kd.C_take (m := ((b0) : Int).toNat) ((Kd.R_reads' (Kd.R_over' (oR a8) (Kd.R_typed (oR a7)) (by decide) hg)).2.2) j2.out)); replace a8 := Aside0.mk (Kd.R_over' (oR a8) (Kd.R_typed (oR a7)) (by decide) hg); clear a7 ho hb hg hat))
 go_roundg k4
 case measure => have := HK1.out; have := HK2.out; have := HK3.out; have := HK4.out; omega
 case rel => exact ⟨(g9), (wrap64 (a3 + 1)), sR, H', ⟨by have := HK1.out; have := HK2.out; have := HK3.out; have := HK4.out; omega⟩, ⟨oR i4⟩, ⟨oR a8⟩, ⟨oR b1⟩, ⟨cR b3⟩, ⟨bB⟩⟩
 )
 ·(
 rw [if_neg g1] at H
 exact absurd H (by simp)
 )
 )
 ·(
 rw [if_neg e0] at H
 obtain ⟨i0, i1⟩ := nE e0
 have H' := Aside0.mk H
 clear H
 have b8 : 0 ≤ (a3 : Int) := of_decide_eq_true asm
 have b9 : a3 < (a6.length : Int) := of_decide_eq_true asm
 obtain ⟨d7, e3, a9⟩ := Kd.at_int b3.out a3 b8 b9
 obtain rfl : b2 = d7 := (by injection e3)
 try replace a9 := (HB.out.cell (World.block_lt_of_cell? w _ a9)).trans a9
 replace b8 := eq_true b8
 replace b9 := eq_true b9
 go_wp2
 go_roundg k4
 case measure => have := HK1.out; have := HK2.out; have := HK3.out; have := HK4.out; omega
 case rel => exact ⟨(b6), (wrap64 (a3 + 1)), sR, H', ⟨by have := HK1.out; have := HK2.out; have := HK3.out; have := HK4.out; omega⟩, ⟨oR a7⟩, ⟨oR a8⟩, ⟨oR b1⟩, ⟨cR b3⟩, ⟨bB⟩⟩
 )
 )
 )
 ·(
 rw [if_neg g0] at H
 exact absurd H (by simp)
 )
 )
 ·(
 rw [if_neg e9] at H
 exact absurd H (by simp)
 )
 )
 ·(
 rw [if_neg d2] at H
 have h9 : decide (a3 < (a6.length : Int)) = false := decide_eq_false d2
 clear d2
 have H' := Aside0.mk H
 clear H
 go_wp2
 go_roundg k4
 case measure => have := HK1.out; have := HK2.out; have := HK3.out; have := HK4.out; omega
 case rel => exact ⟨(b6), (wrap64 (a2 + 1)), sR, H', ⟨by have := HK1.out; have := HK2.out; have := HK3.out; have := HK4.out; omega⟩, ⟨oR a7⟩, ⟨oR a8⟩, ⟨oR b1⟩, ⟨bB⟩⟩
 )
 )
 )
 )
 ·(
 rw [if_neg d9] at H
 exact absurd H (by simp)
 )
 )
 ·(
 rw [if_neg d8] at H
 exact absurd H (by simp)
 )
 )
 ·(
 rw [if_neg e6] at H
 exact absurd H (by simp)
 )
 )
 ·(
 rw [if_neg e5] at H
 exact absurd H (by simp)
 )
 )
 ·(
 rw [if_neg d0] at H
 have e4 : decide (a2 < (a1.length : Int)) = false := decide_eq_false d0
 clear d0
 have H' := Aside0.mk H
 clear H
 go_wp2
 go_roundg k3
 case measure => have := HK1.out; have := HK2.out; have := HK3.out; omega
 case rel => exact ⟨(c8), (wrap64 (a4 + 1)), sR, H', ⟨by have := HK1.out; have := HK2.out; have := HK3.out; omega⟩, ⟨oR a7⟩, ⟨bB⟩⟩
 )
 )
 )
 )
 )
 )
 )
 ·(
 rw [if_neg c2] at H
 have g3 : decide (a4 < a0) = false := decide_eq_false c2
 clear c2
 obtain rfl := Option.some.inj H
 go_wp2
 go_ret
 exact ⟨_, sE, by (with_reducible repeat (first | apply Kd.R_alloc | apply Kd.R_drewN | apply Kd.R_drew)); exact a7.out, bI⟩
 )
 )
 )

/-! ### spec_WholeCrossings: function 21 -/
def spec_WholeCrossings.f (k : Nat) (a0 : Int) : Option ((List (S25)) × Bool) := (spec_l1In.f a0 1 150).bind fun t319 => (if t319 = true then ((spec_clAll.f k a0).bind fun t320 => (some (t320, true))) else (some (([] : List (S25)), false)))
theorem spec_WholeCrossings.mono : ∀ a0 k, LeO (spec_WholeCrossings.f k a0) (spec_WholeCrossings.f (k + 1) a0) := by
  intro a0 k
  unfold spec_WholeCrossings.f
  repeat' first
      | (with_reducible exact spec_clAll.mono _ _)
      | (with_reducible exact LeO.refl _)
      | (with_reducible exact LeO.none _)
      | (with_reducible refine LeO.ite ?_ ?_)
      | (with_reducible refine LeO.bind ?_ (fun _ => ?_))
      | exact spec_clAll.mono _ _
      | exact LeO.none _
      | refine LeO.ite ?_ ?_
      | refine LeO.bind ?_ (fun _ => ?_)
set_option maxHeartbeats 8000000 in
set_option maxRecDepth 100000 in
theorem spec_WholeCrossings.calls (k : Nat) (a0 : Int) (r1 : List (S25)) (r2 : Bool) (w : World) (h : spec_WholeCrossings.f k a0 = some (r1, r2)) :
    Calls Tryz.prog 21 #[.int .i64 a0] w fun e w' => ∃ v0_ : Value, e = .returned (.tuple #[v0_, .bool r2]) ∧ Kd.R k25 25 w' w.heap.size (fun _ => True) v0_ r1 ∧ Below w.heap.size w w' := by
 have HB := Aside0.mk (Below.refl w.heap.size w)
 have H := h
 unfold spec_WholeCrossings.f at H
 clear h
 obtain ⟨a3, A2, H⟩ := bD H
 try dsimp only at H
 by_cases c3 : a3 = true
 ·(
 subst c3
 rw [if_pos rfl] at H
 obtain ⟨a4, A4, H⟩ := bD H
 try dsimp only at H
 simp only [Option.some.injEq, Prod.mk.injEq] at H
 obtain ⟨rfl, rfl⟩ := H
 go_enter Tryz.func21, Tryz.ntmps21
 go_wp2_with (first | ((with_reducible refine gate_callee (f := 46) rfl ?_); refine goesL_ (some 5) rfl rfl Tryz.func46 kr rfl #[.int .i64 a0, .int .i64 1, .int .i64 150] rfl sM ?_; (with_reducible refine (spec_l1In.calls a0 1 150 true _ A2.out).mono ?_); rintro e w' ⟨rfl, ⟨nd, rfl⟩⟩; refine ⟨_, rfl, ?_⟩) | ((with_reducible refine gate_callee (f := 48) rfl ?_); refine goesL_ (some 8) rfl rfl Tryz.func48 kr rfl #[.int .i64 a0] rfl sM ?_; (with_reducible refine (spec_clAll.calls k a0 a4 _ A4.out).mono ?_); rintro e w5 ⟨a5, rfl, a2, hb⟩; refine ⟨_, rfl, ?_⟩; have a1 := Aside0.mk (Kd.R_lower a2 (below_size bB)); replace HB := Aside0.mk (below_step bB hb); (try clear hb); (try clear a2)))
 go_ret2
 exact ⟨_, sE, by (with_reducible repeat (first | apply Kd.R_alloc | apply Kd.R_drewN | apply Kd.R_drew)); exact a1.out, bI⟩
 )
 ·(
 replace c3 := Bool.eq_false_iff.mpr c3
 subst c3
 rw [if_neg nft] at H
 simp only [Option.some.injEq, Prod.mk.injEq] at H
 obtain ⟨rfl, rfl⟩ := H
 go_enter Tryz.func21, Tryz.ntmps21
 go_wp2_with (first | ((with_reducible refine gate_callee (f := 46) rfl ?_); refine goesL_ (some 5) rfl rfl Tryz.func46 kr rfl #[.int .i64 a0, .int .i64 1, .int .i64 150] rfl sM ?_; (with_reducible refine (spec_l1In.calls a0 1 150 false _ A2.out).mono ?_); rintro e w' ⟨rfl, ⟨nd, rfl⟩⟩; refine ⟨_, rfl, ?_⟩))
 go_ret2
 exact ⟨_, sE, by first | exact Kd.R_nil _ _ _ _ _ | exact Kd.N_nil _ _ _ _ _ | exact Kd.V_nil _ _ _ _ _ | exact Kd.Q_nil _ _ _ _ _ | exact Kd.S_nil _ _ _ _ _, bI⟩
 )

/-! ### impl_LowestWhole: function 22 -/
def impl_LowestWhole.l0 : Nat → Int → List (S25) → Int → Int → Int → Int → Int → Option (Int × Int × Int × Int × Bool)
  | 0, _, _, _, _, _, _, _ => none
  | k + 1, x6, x18, x19, x20, x325000, x325001, x325002 => if x20 < x19 then (if 0 ≤ x20 then (if x20 < (x18.length : Int) then (if (wrap64 (((rd_T25 x18 x20).f1) + ((rd_T25 x18 x20).f2))) = 0 then (none) else (if x6 = 0 then (impl_LowestWhole.l0 k (wrap64 (Int.tdiv (wrap64 (((rd_T25 x18 x20).f1) * ((rd_T25 x18 x20).f2))) (wrap64 (((rd_T25 x18 x20).f1) + ((rd_T25 x18 x20).f2))))) x18 x19 (wrap64 (x20 + 1)) ((rd_T25 x18 x20).f0) ((rd_T25 x18 x20).f1) ((rd_T25 x18 x20).f2)) else (if (wrap64 (Int.tdiv (wrap64 (((rd_T25 x18 x20).f1) * ((rd_T25 x18 x20).f2))) (wrap64 (((rd_T25 x18 x20).f1) + ((rd_T25 x18 x20).f2))))) < x6 then (impl_LowestWhole.l0 k (wrap64 (Int.tdiv (wrap64 (((rd_T25 x18 x20).f1) * ((rd_T25 x18 x20).f2))) (wrap64 (((rd_T25 x18 x20).f1) + ((rd_T25 x18 x20).f2))))) x18 x19 (wrap64 (x20 + 1)) ((rd_T25 x18 x20).f0) ((rd_T25 x18 x20).f1) ((rd_T25 x18 x20).f2)) else (impl_LowestWhole.l0 k x6 x18 x19 (wrap64 (x20 + 1)) x325000 x325001 x325002)))) else (none)) else (none)) else (some (x325000, x325001, x325002, x6, decide (x6 > 0)))
def impl_LowestWhole.f (k : Nat) (a0 : Int) : Option (Int × Int × Int × Int × Bool) := (impl_WholeCrossings.f k a0).bind fun bt325 => (impl_LowestWhole.l0 k 0 bt325.1 (bt325.1.length : Int) 0 0 0 0)
theorem impl_LowestWhole.mono_l : ∀ k, (∀ y0 y1 y2 y3 y4 y5 y6, LeO (impl_LowestWhole.l0 k y0 y1 y2 y3 y4 y5 y6) (impl_LowestWhole.l0 (k + 1) y0 y1 y2 y3 y4 y5 y6))
  | 0 => fun _ _ _ _ _ _ _ r h => by simp [impl_LowestWhole.l0] at h
  | k + 1 => by
    have ih0 := impl_LowestWhole.mono_l k
    · intro y0 y1 y2 y3 y4 y5 y6
      unfold impl_LowestWhole.l0
      repeat' first
      | (with_reducible exact ih0 _ _ _ _ _ _ _)
      | (with_reducible exact impl_WholeCrossings.mono _ _)
      | (with_reducible exact LeO.refl _)
      | (with_reducible exact LeO.none _)
      | (with_reducible refine LeO.ite ?_ ?_)
      | (with_reducible refine LeO.bind ?_ (fun _ => ?_))
      | exact ih0 _ _ _ _ _ _ _
      | exact impl_WholeCrossings.mono _ _
      | exact LeO.none _
      | refine LeO.ite ?_ ?_
      | refine LeO.bind ?_ (fun _ => ?_)
theorem impl_LowestWhole.mono : ∀ a0 k, LeO (impl_LowestWhole.f k a0) (impl_LowestWhole.f (k + 1) a0) := by
  intro a0 k
  have ih0 := impl_LowestWhole.mono_l k
  unfold impl_LowestWhole.f
  repeat' first
      | (with_reducible exact ih0 _ _ _ _ _ _ _)
      | (with_reducible exact impl_WholeCrossings.mono _ _)
      | (with_reducible exact LeO.refl _)
      | (with_reducible exact LeO.none _)
      | (with_reducible refine LeO.ite ?_ ?_)
      | (with_reducible refine LeO.bind ?_ (fun _ => ?_))
      | exact ih0 _ _ _ _ _ _ _
      | exact impl_WholeCrossings.mono _ _
      | exact LeO.none _
      | refine LeO.ite ?_ ?_
      | refine LeO.bind ?_ (fun _ => ?_)
set_option maxHeartbeats 8000000 in
set_option maxRecDepth 100000 in
theorem impl_LowestWhole.calls (k : Nat) (a0 : Int) (r1 : Int) (r2 : Int) (r3 : Int) (r4 : Int) (r5 : Bool) (w : World) (h : impl_LowestWhole.f k a0 = some (r1, r2, r3, r4, r5)) :
    Calls Tryz.prog 22 #[.int .i64 a0] w fun e w' => e = .returned (.tuple #[.agg #[.int .i64 r1, .int .i64 r2, .int .i64 r3], .int .i64 r4, .bool r5]) ∧ Below w.heap.size w w' := by
 have n2 := Tryz.underlying25
 have HB := Aside0.mk (Below.refl w.heap.size w)
 have H := h
 unfold impl_LowestWhole.f at H
 clear h
 obtain ⟨⟨a2, e6⟩, A2, H⟩ := bD H
 try dsimp only at H
 have H' := Aside0.mk H
 clear H
 go_enter Tryz.func22, Tryz.ntmps22
 go_wp2_with (first | ((with_reducible refine gate_dst (N := 2) rfl ?_); refine box_ (cs := #[.int .i64 0, .int .i64 0, .int .i64 0]) (t := 25) fun c1 hg w3 hbox hb => ?_; have a3 := Aside0.mk (hbox); have k6 := bS HB hg; have k7 := bS HB hg; replace HB := Aside0.mk (below_step bB hb); clear hb hbox hg) | ((with_reducible refine gate_dst (N := 5) rfl ?_); refine box_ (cs := #[.int .i64 0, .int .i64 0, .int .i64 0]) (t := 25) fun a7 hg w4 hbox hb => ?_; have a4 := Aside0.mk (hbox); have k8 := bS HB hg; have k9 := bS HB hg; have b7 := bL a3 hg; have b8 := bM a3 hg; replace a3 := bQ a3 hb; replace HB := Aside0.mk (below_step bB hb); clear hb hbox hg; have n3 := b8.out; have n4 := b7.out; obtain ⟨d5, d6, d7, d8, d9, e0⟩ := cf3 a4) | ((with_reducible refine gate_callee (f := 20) rfl ?_); refine goesL_ (some 15) rfl rfl Tryz.func20 kr rfl #[.int .i64 a0] rfl sM ?_; (with_reducible refine (impl_WholeCrossings.calls k a0 a2 e6 _ A2.out).mono ?_); rintro e w7 ⟨n5, rfl, e5, hb⟩; refine ⟨_, rfl, ?_⟩; have c8 := Aside0.mk (Kd.R_lower (Kd.R_newB (Kd.R_newB e5 (g := c1) (o := .cells #[.int .i64 0, .int .i64 0, .int .i64 0] 25 (0, 0)) (bK a3)) (g := a7) (o := .cells #[.int .i64 0, .int .i64 0, .int .i64 0] 25 (0, 0)) (bK a4)) (below_size bB)); replace a3 := bQ a3 hb; replace a4 := (bP (.cells #[.int .i64 0, .int .i64 0, .int .i64 0] 25 (0, 0)) a4 hb); replace HB := Aside0.mk (below_step bB hb); (try clear hb); (try clear e5); obtain ⟨k2, k3, k4⟩ := Kd.R_slice c8.out; subst k4))
 go_loopg [6, 20] k (fun kq v6 k5 w' => ∃ (b9 : Int) (a1 : Int) (a8 : Int) (a9 : Int) (b0 : Int), v6 = .int .i64 b9 ∧ k5 = .int .i64 a1 ∧ Aside0 (impl_LowestWhole.l0 kq b9 a2 (a2.length : Int) a1 a8 a9 b0 = some (r1, r2, r3, r4, r5)) ∧ Aside0 (kq ≤ k) ∧ Aside0 (Kd.R k25 25 w' w.heap.size (fun k_ => k_ ≠ c1 ∧ k_ ≠ a7) (.slice k2 a2.length k3) a2) ∧ Aside0 (w'.heap[c1]? = some (.cells #[.int .i64 0, .int .i64 0, .int .i64 0] 25 (0, 0))) ∧ Aside0 (w'.heap[a7]? = some (.cells #[.int .i64 a8, .int .i64 a9, .int .i64 b0] 25 (0, 0))) ∧ Aside0 (Below w.heap.size w w'))
 case atStart => exact ⟨(0), (0), (0), (0), (0), sR, sR, H', ⟨Nat.le_refl _⟩, ⟨by (with_reducible repeat (first | apply Kd.R_alloc | apply Kd.R_drewN | apply Kd.R_drew)); exact Kd.R_mono c8.out (fun _ hk => ⟨hk.1.2, hk.2⟩)⟩, (bA a3), (bA a4), ⟨bB⟩⟩
 case round => (
 clear H'
 try clear d5
 try clear d6
 try clear d7
 try clear d8
 try clear d9
 try clear e0
 obtain ⟨b9, a1, a8, a9, b0, rfl, rfl, HA, HK1, a6, a3, a4, HB⟩ := hrel
 cases gk with
 | zero => exact absurd HA.out (by simp [impl_LowestWhole.l0])
 | succ k1 => (
 have H := HA.out
 clear HA
 simp only [impl_LowestWhole.l0] at H
 by_cases c9 : a1 < (a2.length : Int)
 ·(
 rw [if_pos c9] at H
 have e7 : decide (a1 < (a2.length : Int)) = true := decide_eq_true c9
 clear c9
 by_cases d0 : 0 ≤ a1
 ·(
 rw [if_pos d0] at H
 have l0 : decide (0 ≤ a1) = true := decide_eq_true d0
 clear d0
 by_cases d1 : a1 < (a2.length : Int)
 ·(
 rw [if_pos d1] at H
 have l1 : decide (a1 < (a2.length : Int)) = true := decide_eq_true d1
 clear d1
 by_cases e1 : (wrap64 (((rd_T25 a2 a1).f1) + ((rd_T25 a2 a1).f2))) = 0
 ·(
 rw [if_pos e1] at H
 exact absurd H (by simp)
 )
 ·(
 rw [if_neg e1] at H
 obtain ⟨l2, l3⟩ := nE e1
 by_cases c7 : b9 = 0
 ·(
 rw [if_pos c7] at H
 obtain ⟨e2, e3⟩ := yE c7
 clear c7
 have H' := Aside0.mk H
 clear H
 have b5 : 0 ≤ (a1 : Int) := of_decide_eq_true asm
 have b6 : a1 < (a2.length : Int) := of_decide_eq_true asm
 obtain ⟨d2, c2, c3, c4, c5⟩ := at_T25 (Kd.R_reads' a6.out).2.2 a1 b5 b6
 cases c2
 replace b5 := eq_true b5
 replace b6 := eq_true b6
 go_wp2_with (first | ((with_reducible refine gate_dst (N := 10) rfl ?_); refine box_ (cs := #[.int .i64 0, .int .i64 0, .int .i64 0]) (t := 25) fun a5 hg n6 hbox hb => ?_; have c0 := Aside0.mk (hbox); have d3 := bS HB hg; have d4 := bS HB hg; have b1 := bL a3 hg; have b2 := bM a3 hg; have b3 := bL a4 hg; have b4 := bM a4 hg; replace a6 := Aside0.mk (Kd.R_below (Kd.R_elderB (oR a6) a5 (Nat.le_of_eq hg.symm)) hb); replace a3 := bQ a3 hb; replace a4 := bQ a4 hb; replace HB := Aside0.mk (below_step bB hb); clear hb hbox hg; have l4 := b2.out; have l5 := b1.out; have l6 := b4.out; have l7 := b3.out; obtain ⟨e8, e9, g0, g1, g2, g3⟩ := cf3 c0; have l8 := b8.out; have l9 := b7.out; obtain ⟨g4, g5, g6, g7, g8, g9⟩ := cf3 a4))
 go_roundg k1
 case measure => have := HK1.out; omega
 case rel => exact ⟨(wrap64 (Int.tdiv (wrap64 (((rd_T25 a2 a1).f1) * ((rd_T25 a2 a1).f2))) (wrap64 (((rd_T25 a2 a1).f1) + ((rd_T25 a2 a1).f2))))), (wrap64 (a1 + 1)), ((rd_T25 a2 a1).f0), ((rd_T25 a2 a1).f1), ((rd_T25 a2 a1).f2), sR, sR, H', ⟨by have := HK1.out; omega⟩, ⟨by (with_reducible repeat (first | apply Kd.R_alloc | apply Kd.R_drewN | apply Kd.R_drew)); exact Kd.R_mono (Kd.R_far (p := ⟨a7, 2, none⟩) (Kd.R_far (p := ⟨a7, 1, none⟩) (Kd.R_far (p := ⟨a7, 0, none⟩) (Kd.R_far (p := ⟨a5, 2, none⟩) (Kd.R_far (p := ⟨a5, 1, none⟩) (Kd.R_far (p := ⟨a5, 0, none⟩) (Kd.R_mono (Kd.R_mono a6.out (fun k_ hk => (⟨hk, hk.2⟩ : _ ∧ k_ ≠ a5))) (fun k_ hk => (⟨hk, hk.1.1.2⟩ : _ ∧ k_ ≠ a7))) (fun _ hk => hk.1.2) (.int .i64 ((rd_T25 a2 a1).f0))) (fun _ hk => hk.1.2) (.int .i64 ((rd_T25 a2 a1).f1))) (fun _ hk => hk.1.2) (.int .i64 ((rd_T25 a2 a1).f2))) (fun _ hk => hk.2) (.int .i64 ((rd_T25 a2 a1).f0))) (fun _ hk => hk.2) (.int .i64 ((rd_T25 a2 a1).f1))) (fun _ hk => hk.2) (.int .i64 ((rd_T25 a2 a1).f2))) (fun _ hk => ⟨hk.1.1.1.1, hk.1.1.1.2⟩)⟩, (bA a3), (bA a4), ⟨bB⟩⟩
 )
 ·(
 rw [if_neg c7] at H
 obtain ⟨e2, e3⟩ := nE c7
 by_cases c6 : (wrap64 (Int.tdiv (wrap64 (((rd_T25 a2 a1).f1) * ((rd_T25 a2 a1).f2))) (wrap64 (((rd_T25 a2 a1).f1) + ((rd_T25 a2 a1).f2))))) < b9
 ·(
 rw [if_pos c6] at H
 have e4 : decide ((wrap64 (Int.tdiv (wrap64 (((rd_T25 a2 a1).f1) * ((rd_T25 a2 a1).f2))) (wrap64 (((rd_T25 a2 a1).f1) + ((rd_T25 a2 a1).f2))))) < b9) = true := decide_eq_true c6
 clear c6
 have H' := Aside0.mk H
 clear H
 have b5 : 0 ≤ (a1 : Int) := of_decide_eq_true asm
 have b6 : a1 < (a2.length : Int) := of_decide_eq_true asm
 obtain ⟨d2, c2, c3, c4, c5⟩ := at_T25 (Kd.R_reads' a6.out).2.2 a1 b5 b6
 cases c2
 replace b5 := eq_true b5
 replace b6 := eq_true b6
 go_wp2_with (first | ((with_reducible refine gate_dst (N := 10) rfl ?_); refine box_ (cs := #[.int .i64 0, .int .i64 0, .int .i64 0]) (t := 25) fun a5 hg n7 hbox hb => ?_; have c0 := Aside0.mk (hbox); have d3 := bS HB hg; have d4 := bS HB hg; have b1 := bL a3 hg; have b2 := bM a3 hg; have b3 := bL a4 hg; have b4 := bM a4 hg; replace a6 := Aside0.mk (Kd.R_below (Kd.R_elderB (oR a6) a5 (Nat.le_of_eq hg.symm)) hb); replace a3 := bQ a3 hb; replace a4 := bQ a4 hb; replace HB := Aside0.mk (below_step bB hb); clear hb hbox hg; have m0 := b2.out; have m1 := b1.out; have m2 := b4.out; have m3 := b3.out; obtain ⟨h0, h1, h2, h3, h4, h5⟩ := cf3 c0; have m4 := b8.out; have m5 := b7.out; obtain ⟨h6, h7, h8, h9, i0, i1⟩ := cf3 a4))
 go_roundg k1
 case measure => have := HK1.out; omega
 case rel => exact ⟨(wrap64 (Int.tdiv (wrap64 (((rd_T25 a2 a1).f1) * ((rd_T25 a2 a1).f2))) (wrap64 (((rd_T25 a2 a1).f1) + ((rd_T25 a2 a1).f2))))), (wrap64 (a1 + 1)), ((rd_T25 a2 a1).f0), ((rd_T25 a2 a1).f1), ((rd_T25 a2 a1).f2), sR, sR, H', ⟨by have := HK1.out; omega⟩, ⟨by (with_reducible repeat (first | apply Kd.R_alloc | apply Kd.R_drewN | apply Kd.R_drew)); exact Kd.R_mono (Kd.R_far (p := ⟨a7, 2, none⟩) (Kd.R_far (p := ⟨a7, 1, none⟩) (Kd.R_far (p := ⟨a7, 0, none⟩) (Kd.R_far (p := ⟨a5, 2, none⟩) (Kd.R_far (p := ⟨a5, 1, none⟩) (Kd.R_far (p := ⟨a5, 0, none⟩) (Kd.R_mono (Kd.R_mono a6.out (fun k_ hk => (⟨hk, hk.2⟩ : _ ∧ k_ ≠ a5))) (fun k_ hk => (⟨hk, hk.1.1.2⟩ : _ ∧ k_ ≠ a7))) (fun _ hk => hk.1.2) (.int .i64 ((rd_T25 a2 a1).f0))) (fun _ hk => hk.1.2) (.int .i64 ((rd_T25 a2 a1).f1))) (fun _ hk => hk.1.2) (.int .i64 ((rd_T25 a2 a1).f2))) (fun _ hk => hk.2) (.int .i64 ((rd_T25 a2 a1).f0))) (fun _ hk => hk.2) (.int .i64 ((rd_T25 a2 a1).f1))) (fun _ hk => hk.2) (.int .i64 ((rd_T25 a2 a1).f2))) (fun _ hk => ⟨hk.1.1.1.1, hk.1.1.1.2⟩)⟩, (bA a3), (bA a4), ⟨bB⟩⟩
 )
 ·(
 rw [if_neg c6] at H
 have e4 : decide ((wrap64 (Int.tdiv (wrap64 (((rd_T25 a2 a1).f1) * ((rd_T25 a2 a1).f2))) (wrap64 (((rd_T25 a2 a1).f1) + ((rd_T25 a2 a1).f2))))) < b9) = false := decide_eq_false c6
 clear c6
 have H' := Aside0.mk H
 clear H
 have b5 : 0 ≤ (a1 : Int) := of_decide_eq_true asm
 have b6 : a1 < (a2.length : Int) := of_decide_eq_true asm
 obtain ⟨d2, c2, c3, c4, c5⟩ := at_T25 (Kd.R_reads' a6.out).2.2 a1 b5 b6
 cases c2
 replace b5 := eq_true b5
 replace b6 := eq_true b6
 go_wp2_with (first | ((with_reducible refine gate_dst (N := 10) rfl ?_); refine box_ (cs := #[.int .i64 0, .int .i64 0, .int .i64 0]) (t := 25) fun a5 hg n8 hbox hb => ?_; have c0 := Aside0.mk (hbox); have d3 := bS HB hg; have d4 := bS HB hg; have b1 := bL a3 hg; have b2 := bM a3 hg; have b3 := bL a4 hg; have b4 := bM a4 hg; replace a6 := Aside0.mk (Kd.R_below (Kd.R_elderB (oR a6) a5 (Nat.le_of_eq hg.symm)) hb); replace a3 := bQ a3 hb; replace a4 := bQ a4 hb; replace HB := Aside0.mk (below_step bB hb); clear hb hbox hg; have m6 := b2.out; have m7 := b1.out; have m8 := b4.out; have m9 := b3.out; obtain ⟨i2, i3, i4, i5, i6, i7⟩ := cf3 c0))
 go_roundg k1
 case measure => have := HK1.out; omega
 case rel => exact ⟨(b9), (wrap64 (a1 + 1)), (a8), (a9), (b0), sR, sR, H', ⟨by have := HK1.out; omega⟩, ⟨by (with_reducible repeat (first | apply Kd.R_alloc | apply Kd.R_drewN | apply Kd.R_drew)); exact Kd.R_mono (Kd.R_far (p := ⟨a5, 2, none⟩) (Kd.R_far (p := ⟨a5, 1, none⟩) (Kd.R_far (p := ⟨a5, 0, none⟩) (Kd.R_mono a6.out (fun k_ hk => (⟨hk, hk.2⟩ : _ ∧ k_ ≠ a5))) (fun _ hk => hk.2) (.int .i64 ((rd_T25 a2 a1).f0))) (fun _ hk => hk.2) (.int .i64 ((rd_T25 a2 a1).f1))) (fun _ hk => hk.2) (.int .i64 ((rd_T25 a2 a1).f2))) (fun _ hk => ⟨hk.1.1.1, hk.1.1.2⟩)⟩, (bA a3), (bA a4), ⟨bB⟩⟩
 )
 )
 )
 )
 ·(
 rw [if_neg d1] at H
 exact absurd H (by simp)
 )
 )
 ·(
 rw [if_neg d0] at H
 exact absurd H (by simp)
 )
 )
 ·(
 rw [if_neg c9] at H
 have e7 : decide (a1 < (a2.length : Int)) = false := decide_eq_false c9
 clear c9
 simp only [Option.some.injEq, Prod.mk.injEq] at H
 obtain ⟨rfl, rfl, rfl, rfl, rfl⟩ := H
 have n0 := b8.out
 have n1 := b7.out
 obtain ⟨i9, j0, j1, j2, j3, j4⟩ := cf3 a4
 obtain ⟨j5, j6, j7, j8, j9, k0⟩ := cf3 a3
 go_wp2
 refine bodyPost_ret (results_ctt rfl _ _ c1 25 #[.int .i64 a8, .int .i64 a9, .int .i64 b0] (0, 0) _ rfl (bK a3) Tryz.underlying25 rfl kr) rfl ?_
 exact ⟨sE, bI⟩
 )
 )
 )

/-! ### spec_LowestWhole: function 23 -/
def spec_LowestWhole.l0 : Nat → Int → List (S25) → Int → Int → Int → Int → Int → Option (Int × Int × Int × Int × Bool)
  | 0, _, _, _, _, _, _, _ => none
  | k + 1, x6, x15, x16, x17, x334000, x334001, x334002 => if x17 < x16 then (if 0 ≤ x17 then (if x17 < (x15.length : Int) then (if (wrap64 (((rd_T25 x15 x17).f1) + ((rd_T25 x15 x17).f2))) = 0 then (none) else (if x6 = 0 then (spec_LowestWhole.l0 k (wrap64 (Int.tdiv (wrap64 (((rd_T25 x15 x17).f1) * ((rd_T25 x15 x17).f2))) (wrap64 (((rd_T25 x15 x17).f1) + ((rd_T25 x15 x17).f2))))) x15 x16 (wrap64 (x17 + 1)) ((rd_T25 x15 x17).f0) ((rd_T25 x15 x17).f1) ((rd_T25 x15 x17).f2)) else (if (wrap64 (Int.tdiv (wrap64 (((rd_T25 x15 x17).f1) * ((rd_T25 x15 x17).f2))) (wrap64 (((rd_T25 x15 x17).f1) + ((rd_T25 x15 x17).f2))))) < x6 then (spec_LowestWhole.l0 k (wrap64 (Int.tdiv (wrap64 (((rd_T25 x15 x17).f1) * ((rd_T25 x15 x17).f2))) (wrap64 (((rd_T25 x15 x17).f1) + ((rd_T25 x15 x17).f2))))) x15 x16 (wrap64 (x17 + 1)) ((rd_T25 x15 x17).f0) ((rd_T25 x15 x17).f1) ((rd_T25 x15 x17).f2)) else (spec_LowestWhole.l0 k x6 x15 x16 (wrap64 (x17 + 1)) x334000 x334001 x334002)))) else (none)) else (none)) else (if x6 = 0 then (some (0, 0, 0, 0, false)) else (some (x334000, x334001, x334002, x6, true)))
def spec_LowestWhole.f (k : Nat) (a0 : Int) : Option (Int × Int × Int × Int × Bool) := (spec_l1In.f a0 1 150).bind fun t332 => (if t332 = true then ((spec_clAll.f k a0).bind fun t334 => (spec_LowestWhole.l0 k 0 t334 (t334.length : Int) 0 0 0 0)) else (some (0, 0, 0, 0, false)))
theorem spec_LowestWhole.mono_l : ∀ k, (∀ y0 y1 y2 y3 y4 y5 y6, LeO (spec_LowestWhole.l0 k y0 y1 y2 y3 y4 y5 y6) (spec_LowestWhole.l0 (k + 1) y0 y1 y2 y3 y4 y5 y6))
  | 0 => fun _ _ _ _ _ _ _ r h => by simp [spec_LowestWhole.l0] at h
  | k + 1 => by
    have ih0 := spec_LowestWhole.mono_l k
    · intro y0 y1 y2 y3 y4 y5 y6
      unfold spec_LowestWhole.l0
      repeat' first
      | (with_reducible exact ih0 _ _ _ _ _ _ _)
      | (with_reducible exact spec_clAll.mono _ _)
      | (with_reducible exact LeO.refl _)
      | (with_reducible exact LeO.none _)
      | (with_reducible refine LeO.ite ?_ ?_)
      | (with_reducible refine LeO.bind ?_ (fun _ => ?_))
      | exact ih0 _ _ _ _ _ _ _
      | exact spec_clAll.mono _ _
      | exact LeO.none _
      | refine LeO.ite ?_ ?_
      | refine LeO.bind ?_ (fun _ => ?_)
theorem spec_LowestWhole.mono : ∀ a0 k, LeO (spec_LowestWhole.f k a0) (spec_LowestWhole.f (k + 1) a0) := by
  intro a0 k
  have ih0 := spec_LowestWhole.mono_l k
  unfold spec_LowestWhole.f
  repeat' first
      | (with_reducible exact ih0 _ _ _ _ _ _ _)
      | (with_reducible exact spec_clAll.mono _ _)
      | (with_reducible exact LeO.refl _)
      | (with_reducible exact LeO.none _)
      | (with_reducible refine LeO.ite ?_ ?_)
      | (with_reducible refine LeO.bind ?_ (fun _ => ?_))
      | exact ih0 _ _ _ _ _ _ _
      | exact spec_clAll.mono _ _
      | exact LeO.none _
      | refine LeO.ite ?_ ?_
      | refine LeO.bind ?_ (fun _ => ?_)
set_option maxHeartbeats 8000000 in
set_option maxRecDepth 100000 in
theorem spec_LowestWhole.calls (k : Nat) (a0 : Int) (r1 : Int) (r2 : Int) (r3 : Int) (r4 : Int) (r5 : Bool) (w : World) (h : spec_LowestWhole.f k a0 = some (r1, r2, r3, r4, r5)) :
    Calls Tryz.prog 23 #[.int .i64 a0] w fun e w' => e = .returned (.tuple #[.agg #[.int .i64 r1, .int .i64 r2, .int .i64 r3], .int .i64 r4, .bool r5]) ∧ Below w.heap.size w w' := by
 have o5 := Tryz.underlying25
 have HB := Aside0.mk (Below.refl w.heap.size w)
 have H := h
 unfold spec_LowestWhole.f at H
 clear h
 obtain ⟨e7, A2, H⟩ := bD H
 try dsimp only at H
 by_cases c3 : e7 = true
 ·(
 subst c3
 rw [if_pos rfl] at H
 obtain ⟨a2, A4, H⟩ := bD H
 try dsimp only at H
 have H' := Aside0.mk H
 clear H
 go_enter Tryz.func23, Tryz.ntmps23
 go_wp2_with (first | ((with_reducible refine gate_dst (N := 2) rfl ?_); refine box_ (cs := #[.int .i64 0, .int .i64 0, .int .i64 0]) (t := 25) fun b7 hg w5 hbox hb => ?_; have a3 := Aside0.mk (hbox); have d9 := bS HB hg; have e0 := bS HB hg; replace HB := Aside0.mk (below_step bB hb); clear hb hbox hg) | ((with_reducible refine gate_callee (f := 46) rfl ?_); refine goesL_ (some 11) rfl rfl Tryz.func46 kr rfl #[.int .i64 a0, .int .i64 1, .int .i64 150] rfl sM ?_; (with_reducible refine (spec_l1In.calls a0 1 150 true _ A2.out).mono ?_); rintro e w' ⟨rfl, ⟨nd, rfl⟩⟩; refine ⟨_, rfl, ?_⟩) | ((with_reducible refine gate_dst (N := 5) rfl ?_); refine box_ (cs := #[.int .i64 0, .int .i64 0, .int .i64 0]) (t := 25) fun a7 hg w6 hbox hb => ?_; have a4 := Aside0.mk (hbox); have l9 := bS HB hg; have m0 := bS HB hg; have b8 := bL a3 hg; have b9 := bM a3 hg; replace a3 := bQ a3 hb; replace HB := Aside0.mk (below_step bB hb); clear hb hbox hg) | ((with_reducible refine gate_callee (f := 48) rfl ?_); refine goesL_ (some 15) rfl rfl Tryz.func48 kr rfl #[.int .i64 a0] rfl sM ?_; (with_reducible refine (spec_clAll.calls k a0 a2 _ A4.out).mono ?_); rintro e w7 ⟨o6, rfl, e6, hb⟩; refine ⟨_, rfl, ?_⟩; have d2 := Aside0.mk (Kd.R_lower (Kd.R_newB (Kd.R_newB e6 (g := b7) (o := .cells #[.int .i64 0, .int .i64 0, .int .i64 0] 25 (0, 0)) (bK a3)) (g := a7) (o := .cells #[.int .i64 0, .int .i64 0, .int .i64 0] 25 (0, 0)) (bK a4)) (below_size bB)); replace a3 := bQ a3 hb; replace a4 := bQ a4 hb; replace HB := Aside0.mk (below_step bB hb); (try clear hb); (try clear e6); obtain ⟨l5, l6, l7⟩ := Kd.R_slice d2.out; subst l7))
 go_loopg [6, 17] k (fun kq v6 l8 w' => ∃ (c0 : Int) (a1 : Int) (a8 : Int) (a9 : Int) (b0 : Int), v6 = .int .i64 c0 ∧ l8 = .int .i64 a1 ∧ Aside0 (spec_LowestWhole.l0 kq c0 a2 (a2.length : Int) a1 a8 a9 b0 = some (r1, r2, r3, r4, r5)) ∧ Aside0 (kq ≤ k) ∧ Aside0 (Kd.R k25 25 w' w.heap.size (fun k_ => k_ ≠ b7 ∧ k_ ≠ a7) (.slice l5 a2.length l6) a2) ∧ Aside0 (w'.heap[b7]? = some (.cells #[.int .i64 0, .int .i64 0, .int .i64 0] 25 (0, 0))) ∧ Aside0 (w'.heap[a7]? = some (.cells #[.int .i64 a8, .int .i64 a9, .int .i64 b0] 25 (0, 0))) ∧ Aside0 (Below w.heap.size w w'))
 case atStart => exact ⟨(0), (0), (0), (0), (0), sR, sR, H', ⟨Nat.le_refl _⟩, ⟨by (with_reducible repeat (first | apply Kd.R_alloc | apply Kd.R_drewN | apply Kd.R_drew)); exact Kd.R_mono d2.out (fun _ hk => ⟨hk.1.2, hk.2⟩)⟩, (bA a3), (bA a4), ⟨bB⟩⟩
 case round => (
 clear H'
 try clear c3
 obtain ⟨c0, a1, a8, a9, b0, rfl, rfl, HA, HK1, a6, a3, a4, HB⟩ := hrel
 cases gk with
 | zero => exact absurd HA.out (by simp [spec_LowestWhole.l0])
 | succ k1 => (
 have H := HA.out
 clear HA
 simp only [spec_LowestWhole.l0] at H
 by_cases c9 : a1 < (a2.length : Int)
 ·(
 rw [if_pos c9] at H
 have e8 : decide (a1 < (a2.length : Int)) = true := decide_eq_true c9
 clear c9
 by_cases d3 : 0 ≤ a1
 ·(
 rw [if_pos d3] at H
 have m1 : decide (0 ≤ a1) = true := decide_eq_true d3
 clear d3
 by_cases d4 : a1 < (a2.length : Int)
 ·(
 rw [if_pos d4] at H
 have m2 : decide (a1 < (a2.length : Int)) = true := decide_eq_true d4
 clear d4
 by_cases d8 : (wrap64 (((rd_T25 a2 a1).f1) + ((rd_T25 a2 a1).f2))) = 0
 ·(
 rw [if_pos d8] at H
 exact absurd H (by simp)
 )
 ·(
 rw [if_neg d8] at H
 obtain ⟨m3, m4⟩ := nE d8
 by_cases c8 : c0 = 0
 ·(
 rw [if_pos c8] at H
 obtain ⟨e1, e2⟩ := yE c8
 clear c8
 have H' := Aside0.mk H
 clear H
 have b5 : 0 ≤ (a1 : Int) := of_decide_eq_true asm
 have b6 : a1 < (a2.length : Int) := of_decide_eq_true asm
 obtain ⟨d5, c2, c4, c5, c6⟩ := at_T25 (Kd.R_reads' a6.out).2.2 a1 b5 b6
 cases c2
 replace b5 := eq_true b5
 replace b6 := eq_true b6
 go_wp2_with (first | ((with_reducible refine gate_dst (N := 8) rfl ?_); refine box_ (cs := #[.int .i64 0, .int .i64 0, .int .i64 0]) (t := 25) fun a5 hg o7 hbox hb => ?_; have c1 := Aside0.mk (hbox); have d6 := bS HB hg; have d7 := bS HB hg; have b1 := bL a3 hg; have b2 := bM a3 hg; have b3 := bL a4 hg; have b4 := bM a4 hg; replace a6 := Aside0.mk (Kd.R_below (Kd.R_elderB (oR a6) a5 (Nat.le_of_eq hg.symm)) hb); replace a3 := bQ a3 hb; replace a4 := bQ a4 hb; replace HB := Aside0.mk (below_step bB hb); clear hb hbox hg; have m5 := b2.out; have m6 := b1.out; have m7 := b4.out; have m8 := b3.out; obtain ⟨e9, g0, g1, g2, g3, g4⟩ := cf3 c1; have m9 := b9.out; have n0 := b8.out; obtain ⟨g5, g6, g7, g8, g9, h0⟩ := cf3 a4))
 go_roundg k1
 case measure => have := HK1.out; omega
 case rel => exact ⟨(wrap64 (Int.tdiv (wrap64 (((rd_T25 a2 a1).f1) * ((rd_T25 a2 a1).f2))) (wrap64 (((rd_T25 a2 a1).f1) + ((rd_T25 a2 a1).f2))))), (wrap64 (a1 + 1)), ((rd_T25 a2 a1).f0), ((rd_T25 a2 a1).f1), ((rd_T25 a2 a1).f2), sR, sR, H', ⟨by have := HK1.out; omega⟩, ⟨by (with_reducible repeat (first | apply Kd.R_alloc | apply Kd.R_drewN | apply Kd.R_drew)); exact Kd.R_mono (Kd.R_far (p := ⟨a7, 2, none⟩) (Kd.R_far (p := ⟨a7, 1, none⟩) (Kd.R_far (p := ⟨a7, 0, none⟩) (Kd.R_far (p := ⟨a5, 2, none⟩) (Kd.R_far (p := ⟨a5, 1, none⟩) (Kd.R_far (p := ⟨a5, 0, none⟩) (Kd.R_mono (Kd.R_mono a6.out (fun k_ hk => (⟨hk, hk.2⟩ : _ ∧ k_ ≠ a5))) (fun k_ hk => (⟨hk, hk.1.1.2⟩ : _ ∧ k_ ≠ a7))) (fun _ hk => hk.1.2) (.int .i64 ((rd_T25 a2 a1).f0))) (fun _ hk => hk.1.2) (.int .i64 ((rd_T25 a2 a1).f1))) (fun _ hk => hk.1.2) (.int .i64 ((rd_T25 a2 a1).f2))) (fun _ hk => hk.2) (.int .i64 ((rd_T25 a2 a1).f0))) (fun _ hk => hk.2) (.int .i64 ((rd_T25 a2 a1).f1))) (fun _ hk => hk.2) (.int .i64 ((rd_T25 a2 a1).f2))) (fun _ hk => ⟨hk.1.1.1.1, hk.1.1.1.2⟩)⟩, (bA a3), (bA a4), ⟨bB⟩⟩
 )
 ·(
 rw [if_neg c8] at H
 obtain ⟨e1, e2⟩ := nE c8
 by_cases c7 : (wrap64 (Int.tdiv (wrap64 (((rd_T25 a2 a1).f1) * ((rd_T25 a2 a1).f2))) (wrap64 (((rd_T25 a2 a1).f1) + ((rd_T25 a2 a1).f2))))) < c0
 ·(
 rw [if_pos c7] at H
 have e3 : decide ((wrap64 (Int.tdiv (wrap64 (((rd_T25 a2 a1).f1) * ((rd_T25 a2 a1).f2))) (wrap64 (((rd_T25 a2 a1).f1) + ((rd_T25 a2 a1).f2))))) < c0) = true := decide_eq_true c7
 clear c7
 have H' := Aside0.mk H
 clear H
 have b5 : 0 ≤ (a1 : Int) := of_decide_eq_true asm
 have b6 : a1 < (a2.length : Int) := of_decide_eq_true asm
 obtain ⟨d5, c2, c4, c5, c6⟩ := at_T25 (Kd.R_reads' a6.out).2.2 a1 b5 b6
 cases c2
 replace b5 := eq_true b5
 replace b6 := eq_true b6
 go_wp2_with (first | ((with_reducible refine gate_dst (N := 8) rfl ?_); refine box_ (cs := #[.int .i64 0, .int .i64 0, .int .i64 0]) (t := 25) fun a5 hg o8 hbox hb => ?_; have c1 := Aside0.mk (hbox); have d6 := bS HB hg; have d7 := bS HB hg; have b1 := bL a3 hg; have b2 := bM a3 hg; have b3 := bL a4 hg; have b4 := bM a4 hg; replace a6 := Aside0.mk (Kd.R_below (Kd.R_elderB (oR a6) a5 (Nat.le_of_eq hg.symm)) hb); replace a3 := bQ a3 hb; replace a4 := bQ a4 hb; replace HB := Aside0.mk (below_step bB hb); clear hb hbox hg; have n1 := b2.out; have n2 := b1.out; have n3 := b4.out; have n4 := b3.out; obtain ⟨h1, h2, h3, h4, h5, h6⟩ := cf3 c1; have n5 := b9.out; have n6 := b8.out; obtain ⟨h7, h8, h9, i0, i1, i2⟩ := cf3 a4))
 go_roundg k1
 case measure => have := HK1.out; omega
 case rel => exact ⟨(wrap64 (Int.tdiv (wrap64 (((rd_T25 a2 a1).f1) * ((rd_T25 a2 a1).f2))) (wrap64 (((rd_T25 a2 a1).f1) + ((rd_T25 a2 a1).f2))))), (wrap64 (a1 + 1)), ((rd_T25 a2 a1).f0), ((rd_T25 a2 a1).f1), ((rd_T25 a2 a1).f2), sR, sR, H', ⟨by have := HK1.out; omega⟩, ⟨by (with_reducible repeat (first | apply Kd.R_alloc | apply Kd.R_drewN | apply Kd.R_drew)); exact Kd.R_mono (Kd.R_far (p := ⟨a7, 2, none⟩) (Kd.R_far (p := ⟨a7, 1, none⟩) (Kd.R_far (p := ⟨a7, 0, none⟩) (Kd.R_far (p := ⟨a5, 2, none⟩) (Kd.R_far (p := ⟨a5, 1, none⟩) (Kd.R_far (p := ⟨a5, 0, none⟩) (Kd.R_mono (Kd.R_mono a6.out (fun k_ hk => (⟨hk, hk.2⟩ : _ ∧ k_ ≠ a5))) (fun k_ hk => (⟨hk, hk.1.1.2⟩ : _ ∧ k_ ≠ a7))) (fun _ hk => hk.1.2) (.int .i64 ((rd_T25 a2 a1).f0))) (fun _ hk => hk.1.2) (.int .i64 ((rd_T25 a2 a1).f1))) (fun _ hk => hk.1.2) (.int .i64 ((rd_T25 a2 a1).f2))) (fun _ hk => hk.2) (.int .i64 ((rd_T25 a2 a1).f0))) (fun _ hk => hk.2) (.int .i64 ((rd_T25 a2 a1).f1))) (fun _ hk => hk.2) (.int .i64 ((rd_T25 a2 a1).f2))) (fun _ hk => ⟨hk.1.1.1.1, hk.1.1.1.2⟩)⟩, (bA a3), (bA a4), ⟨bB⟩⟩
 )
 ·(
 rw [if_neg c7] at H
 have e3 : decide ((wrap64 (Int.tdiv (wrap64 (((rd_T25 a2 a1).f1) * ((rd_T25 a2 a1).f2))) (wrap64 (((rd_T25 a2 a1).f1) + ((rd_T25 a2 a1).f2))))) < c0) = false := decide_eq_false c7
 clear c7
 have H' := Aside0.mk H
 clear H
 have b5 : 0 ≤ (a1 : Int) := of_decide_eq_true asm
 have b6 : a1 < (a2.length : Int) := of_decide_eq_true asm
 obtain ⟨d5, c2, c4, c5, c6⟩ := at_T25 (Kd.R_reads' a6.out).2.2 a1 b5 b6
 cases c2
 replace b5 := eq_true b5
 replace b6 := eq_true b6
 go_wp2_with (first | ((with_reducible refine gate_dst (N := 8) rfl ?_); refine box_ (cs := #[.int .i64 0, .int .i64 0, .int .i64 0]) (t := 25) fun a5 hg o9 hbox hb => ?_; have c1 := Aside0.mk (hbox); have d6 := bS HB hg; have d7 := bS HB hg; have b1 := bL a3 hg; have b2 := bM a3 hg; have b3 := bL a4 hg; have b4 := bM a4 hg; replace a6 := Aside0.mk (Kd.R_below (Kd.R_elderB (oR a6) a5 (Nat.le_of_eq hg.symm)) hb); replace a3 := bQ a3 hb; replace a4 := bQ a4 hb; replace HB := Aside0.mk (below_step bB hb); clear hb hbox hg; have n7 := b2.out; have n8 := b1.out; have n9 := b4.out; have o0 := b3.out; obtain ⟨i3, i4, i5, i6, i7, i9⟩ := cf3 c1))
 go_roundg k1
 case measure => have := HK1.out; omega
 case rel => exact ⟨(c0), (wrap64 (a1 + 1)), (a8), (a9), (b0), sR, sR, H', ⟨by have := HK1.out; omega⟩, ⟨by (with_reducible repeat (first | apply Kd.R_alloc | apply Kd.R_drewN | apply Kd.R_drew)); exact Kd.R_mono (Kd.R_far (p := ⟨a5, 2, none⟩) (Kd.R_far (p := ⟨a5, 1, none⟩) (Kd.R_far (p := ⟨a5, 0, none⟩) (Kd.R_mono a6.out (fun k_ hk => (⟨hk, hk.2⟩ : _ ∧ k_ ≠ a5))) (fun _ hk => hk.2) (.int .i64 ((rd_T25 a2 a1).f0))) (fun _ hk => hk.2) (.int .i64 ((rd_T25 a2 a1).f1))) (fun _ hk => hk.2) (.int .i64 ((rd_T25 a2 a1).f2))) (fun _ hk => ⟨hk.1.1.1, hk.1.1.2⟩)⟩, (bA a3), (bA a4), ⟨bB⟩⟩
 )
 )
 )
 )
 ·(
 rw [if_neg d4] at H
 exact absurd H (by simp)
 )
 )
 ·(
 rw [if_neg d3] at H
 exact absurd H (by simp)
 )
 )
 ·(
 rw [if_neg c9] at H
 have e8 : decide (a1 < (a2.length : Int)) = false := decide_eq_false c9
 clear c9
 by_cases d0 : c0 = 0
 ·(
 rw [if_pos d0] at H
 obtain ⟨e4, e5⟩ := yE d0
 clear d0
 simp only [Option.some.injEq, Prod.mk.injEq] at H
 obtain ⟨rfl, rfl, rfl, rfl, rfl⟩ := H
 have o1 := b8.out
 have o2 := b9.out
 obtain ⟨j0, j1, j2, j3, j4, j5⟩ := cf3 a3
 go_wp2
 refine bodyPost_ret (results_ctt rfl _ _ b7 25 #[.int .i64 0, .int .i64 0, .int .i64 0] (0, 0) _ rfl (bK a3) Tryz.underlying25 rfl kr) rfl ?_
 exact ⟨sE, bI⟩
 )
 ·(
 rw [if_neg d0] at H
 obtain ⟨e4, e5⟩ := nE d0
 simp only [Option.some.injEq, Prod.mk.injEq] at H
 obtain ⟨rfl, rfl, rfl, rfl, rfl⟩ := H
 have o3 := b9.out
 have o4 := b8.out
 obtain ⟨j6, j7, j8, j9, k0, k2⟩ := cf3 a4
 obtain ⟨k3, k4, k5, k6, k7, k8⟩ := cf3 a3
 go_wp2
 refine bodyPost_ret (results_ctt rfl _ _ b7 25 #[.int .i64 a8, .int .i64 a9, .int .i64 b0] (0, 0) _ rfl (bK a3) Tryz.underlying25 rfl kr) rfl ?_
 exact ⟨sE, bI⟩
 )
 )
 )
 )
 )
 ·(
 replace c3 := Bool.eq_false_iff.mpr c3
 subst c3
 rw [if_neg nft] at H
 simp only [Option.some.injEq, Prod.mk.injEq] at H
 obtain ⟨rfl, rfl, rfl, rfl, rfl⟩ := H
 go_enter Tryz.func23, Tryz.ntmps23
 go_wp2_with (first | ((with_reducible refine gate_dst (N := 2) rfl ?_); refine box_ (cs := #[.int .i64 0, .int .i64 0, .int .i64 0]) (t := 25) fun b7 hg d1 hbox hb => ?_; have a3 := Aside0.mk (hbox); have d9 := bS HB hg; have e0 := bS HB hg; replace HB := Aside0.mk (below_step bB hb); clear hb hbox hg) | ((with_reducible refine gate_callee (f := 46) rfl ?_); refine goesL_ (some 11) rfl rfl Tryz.func46 kr rfl #[.int .i64 a0, .int .i64 1, .int .i64 150] rfl sM ?_; (with_reducible refine (spec_l1In.calls a0 1 150 false _ A2.out).mono ?_); rintro e w' ⟨rfl, ⟨nd, rfl⟩⟩; refine ⟨_, rfl, ?_⟩; (try (rw [drewN_self d1]; generalize hq_ : World.drewN d1 _ = d1; replace a3 : Aside0 (d1.heap[b7]? = some (.cells #[.int .i64 0, .int .i64 0, .int .i64 0] 25 (0, 0))) := ⟨by rw [← hq_]; exact (bK a3)⟩; replace HB : Aside0 (Below w.heap.size w d1) := ⟨by rw [← hq_]; exact bB⟩; clear hq_)); obtain ⟨k9, l0, l1, l2, l3, l4⟩ := cf3 a3))
 refine bodyPost_ret (results_ctt rfl _ _ b7 25 #[.int .i64 0, .int .i64 0, .int .i64 0] (0, 0) _ rfl (bK a3) Tryz.underlying25 rfl kr) rfl ?_
 exact ⟨sE, bI⟩
 )

/-! ### spec_DrawTimesLadders: function 24 -/
-- (its text lies ahead)

end Go.Proofs.YtcfknhmdhglmfaaGreatDoor.PFnLaddersWhole
