-- Written by xprint.py, a program of this session, for this seat; Lean checks it.
import Derived.Test.YtcfknhmdhglmfaaGreatDoorVM
import Derived.Test.YtcfknhmdhglmfaaGreatDoorPFnLaddersWholex0
import Derived.Test.YtcfknhmdhglmfaaGreatDoorPFnLaddersWholex3
import Derived.Test.YtcfknhmdhglmfaaGreatDoorPFnLaddersWholex4
import Derived.Test.YtcfknhmdhglmfaaGreatDoorPFnLaddersWholex5
namespace Go.Proofs.YtcfknhmdhglmfaaGreatDoor.PFnLaddersWhole
open Go.Proofs.YtcfknhmdhglmfaaGreatDoorV Go.RowKit Go.Proofs.YtcfknhmdhglmfaaGreatDoorW.PrintWords Go.Proofs.YtcfknhmdhglmfaaGreatDoorW.PrintLast Go.Proofs.YtcfknhmdhglmfaaGreatDoorW.PrintMore
attribute [local go_sem] max2_int min2_int max_two min_two max_three min_three max_four min_four   -- for this text's walks alone
set_option linter.unusedVariables false
set_option linter.unusedSimpArgs false

/-! ### spec_PairsFor: function 16 -/
def spec_PairsFor.f (k : Nat) (a0 : Int) : Option ((List (List Int)) × Bool) := (spec_l1In.f a0 1 200).bind fun t273 => (if t273 = true then ((spec_clPairs.f k a0).bind fun t274 => (some (t274, true))) else (some (([] : List (List Int)), false)))
theorem spec_PairsFor.mono : ∀ a0 k, LeO (spec_PairsFor.f k a0) (spec_PairsFor.f (k + 1) a0) := by
  intro a0 k
  unfold spec_PairsFor.f
  repeat' first
      | (with_reducible exact spec_clPairs.mono _ _)
      | (with_reducible exact LeO.refl _)
      | (with_reducible exact LeO.none _)
      | (with_reducible refine LeO.ite ?_ ?_)
      | (with_reducible refine LeO.bind ?_ (fun _ => ?_))
      | exact spec_clPairs.mono _ _
      | exact LeO.none _
      | refine LeO.ite ?_ ?_
      | refine LeO.bind ?_ (fun _ => ?_)
set_option maxHeartbeats 8000000 in
set_option maxRecDepth 100000 in
theorem spec_PairsFor.calls (k : Nat) (a0 : Int) (r1 : List (List Int)) (r2 : Bool) (w : World) (h : spec_PairsFor.f k a0 = some (r1, r2)) :
    Calls Tryz.prog 16 #[.int .i64 a0] w fun e w' => ∃ v0_ : Value, e = .returned (.tuple #[v0_, .bool r2]) ∧ Kd.S (Kd.slice 3 (Kd.int .i64)) 51 w' w.heap.size (fun _ => True) v0_ r1 ∧ Below w.heap.size w w' := by
 have HB := Aside0.mk (Below.refl w.heap.size w)
 have H := h
 unfold spec_PairsFor.f at H
 clear h
 obtain ⟨a3, A2, H⟩ := bD H
 try dsimp only at H
 by_cases c3 : a3 = true
 ·(
 subst c3
 rw [if_pos rfl] at H
 obtain ⟨a4, A4, H⟩ := bD H
 try dsimp only at H
 simp only [Option.some.injEq, Prod.mk.injEq] at H
 obtain ⟨rfl, rfl⟩ := H
 go_enter Tryz.func16, Tryz.ntmps16
 go_wp2_with (first | ((with_reducible refine gate_callee (f := 46) rfl ?_); refine goesL_ (some 5) rfl rfl Tryz.func46 kr rfl #[.int .i64 a0, .int .i64 1, .int .i64 200] rfl sM ?_; (with_reducible refine (spec_l1In.calls a0 1 200 true _ A2.out).mono ?_); rintro e w' ⟨rfl, ⟨nd, rfl⟩⟩; refine ⟨_, rfl, ?_⟩) | ((with_reducible refine gate_callee (f := 47) rfl ?_); refine goesL_ (some 8) rfl rfl Tryz.func47 kr rfl #[.int .i64 a0] rfl sM ?_; (with_reducible refine (spec_clPairs.calls k a0 a4 _ A4.out).mono ?_); rintro e w5 ⟨a5, rfl, a2, hb⟩; refine ⟨_, rfl, ?_⟩; have a1 := Aside0.mk (Kd.S_lower a2 (below_size bB)); replace HB := Aside0.mk (below_step bB hb); (try clear hb); (try clear a2)))
 go_ret2
 exact ⟨_, sE, by (with_reducible repeat (first | apply Kd.S_alloc | apply Kd.S_drewN | apply Kd.S_drew)); exact a1.out, bI⟩
 )
 ·(
 replace c3 := Bool.eq_false_iff.mpr c3
 subst c3
 rw [if_neg nft] at H
 simp only [Option.some.injEq, Prod.mk.injEq] at H
 obtain ⟨rfl, rfl⟩ := H
 go_enter Tryz.func16, Tryz.ntmps16
 go_wp2_with (first | ((with_reducible refine gate_callee (f := 46) rfl ?_); refine goesL_ (some 5) rfl rfl Tryz.func46 kr rfl #[.int .i64 a0, .int .i64 1, .int .i64 200] rfl sM ?_; (with_reducible refine (spec_l1In.calls a0 1 200 false _ A2.out).mono ?_); rintro e w' ⟨rfl, ⟨nd, rfl⟩⟩; refine ⟨_, rfl, ?_⟩))
 go_ret2
 exact ⟨_, sE, by first | exact Kd.S_nil _ _ _ _ _ | exact Kd.N_nil _ _ _ _ _ | exact Kd.V_nil _ _ _ _ _ | exact Kd.Q_nil _ _ _ _ _ | exact Kd.R_nil _ _ _ _ _, bI⟩
 )

/-! ### impl_CountPairs: function 17 -/
def impl_CountPairs.f (k : Nat) (a0 : Int) : Option (Int × Bool) := (impl_PairsFor.f k a0).bind fun bt277 => (some ((bt277.1.length : Int), bt277.2))
theorem impl_CountPairs.mono : ∀ a0 k, LeO (impl_CountPairs.f k a0) (impl_CountPairs.f (k + 1) a0) := by
  intro a0 k
  unfold impl_CountPairs.f
  repeat' first
      | (with_reducible exact impl_PairsFor.mono _ _)
      | (with_reducible exact LeO.refl _)
      | (with_reducible exact LeO.none _)
      | (with_reducible refine LeO.ite ?_ ?_)
      | (with_reducible refine LeO.bind ?_ (fun _ => ?_))
      | exact impl_PairsFor.mono _ _
      | exact LeO.none _
      | refine LeO.ite ?_ ?_
      | refine LeO.bind ?_ (fun _ => ?_)
set_option maxHeartbeats 8000000 in
set_option maxRecDepth 100000 in
theorem impl_CountPairs.calls (k : Nat) (a0 : Int) (r1 : Int) (r2 : Bool) (w : World) (h : impl_CountPairs.f k a0 = some (r1, r2)) :
    Calls Tryz.prog 17 #[.int .i64 a0] w fun e w' => e = .returned (.tuple #[.int .i64 r1, .bool r2]) ∧ Below w.heap.size w w' := by
 have HB := Aside0.mk (Below.refl w.heap.size w)
 have H := h
 unfold impl_CountPairs.f at H
 clear h
 obtain ⟨⟨a3, a4⟩, A2, H⟩ := bD H
 try dsimp only at H
 simp only [Option.some.injEq, Prod.mk.injEq] at H
 obtain ⟨rfl, rfl⟩ := H
 go_enter Tryz.func17, Tryz.ntmps17
 go_wp2_with (first | ((with_reducible refine gate_callee (f := 15) rfl ?_); refine goesL_ (some 8) rfl rfl Tryz.func15 kr rfl #[.int .i64 a0] rfl sM ?_; (with_reducible refine (impl_PairsFor.calls k a0 a3 a4 _ A2.out).mono ?_); rintro e w3 ⟨a6, rfl, a2, hb⟩; refine ⟨_, rfl, ?_⟩; have a1 := Aside0.mk (Kd.S_lower a2 (below_size bB)); replace HB := Aside0.mk (below_step bB hb); (try clear hb); (try clear a2); obtain ⟨a7, a8, a5⟩ := Kd.S_slice a1.out; subst a5))
 go_ret2
 exact ⟨sE, bI⟩

/-! ### spec_CountPairs: function 18 -/
def spec_CountPairs.f (k : Nat) (a0 : Int) : Option (Int × Bool) := (spec_l1In.f a0 1 200).bind fun t281 => (if t281 = true then ((spec_clPairs.f k a0).bind fun t282 => (some ((t282.length : Int), true))) else (some (0, false)))
theorem spec_CountPairs.mono : ∀ a0 k, LeO (spec_CountPairs.f k a0) (spec_CountPairs.f (k + 1) a0) := by
  intro a0 k
  unfold spec_CountPairs.f
  repeat' first
      | (with_reducible exact spec_clPairs.mono _ _)
      | (with_reducible exact LeO.refl _)
      | (with_reducible exact LeO.none _)
      | (with_reducible refine LeO.ite ?_ ?_)
      | (with_reducible refine LeO.bind ?_ (fun _ => ?_))
      | exact spec_clPairs.mono _ _
      | exact LeO.none _
      | refine LeO.ite ?_ ?_
      | refine LeO.bind ?_ (fun _ => ?_)
set_option maxHeartbeats 8000000 in
set_option maxRecDepth 100000 in
theorem spec_CountPairs.calls (k : Nat) (a0 : Int) (r1 : Int) (r2 : Bool) (w : World) (h : spec_CountPairs.f k a0 = some (r1, r2)) :
    Calls Tryz.prog 18 #[.int .i64 a0] w fun e w' => e = .returned (.tuple #[.int .i64 r1, .bool r2]) ∧ Below w.heap.size w w' := by
 have HB := Aside0.mk (Below.refl w.heap.size w)
 have H := h
 unfold spec_CountPairs.f at H
 clear h
 obtain ⟨a3, A2, H⟩ := bD H
 try dsimp only at H
 by_cases c3 : a3 = true
 ·(
 subst c3
 rw [if_pos rfl] at H
 obtain ⟨a4, A4, H⟩ := bD H
 try dsimp only at H
 simp only [Option.some.injEq, Prod.mk.injEq] at H
 obtain ⟨rfl, rfl⟩ := H
 go_enter Tryz.func18, Tryz.ntmps18
 go_wp2_with (first | ((with_reducible refine gate_callee (f := 46) rfl ?_); refine goesL_ (some 5) rfl rfl Tryz.func46 kr rfl #[.int .i64 a0, .int .i64 1, .int .i64 200] rfl sM ?_; (with_reducible refine (spec_l1In.calls a0 1 200 true _ A2.out).mono ?_); rintro e w' ⟨rfl, ⟨nd, rfl⟩⟩; refine ⟨_, rfl, ?_⟩) | ((with_reducible refine gate_callee (f := 47) rfl ?_); refine goesL_ (some 8) rfl rfl Tryz.func47 kr rfl #[.int .i64 a0] rfl sM ?_; (with_reducible refine (spec_clPairs.calls k a0 a4 _ A4.out).mono ?_); rintro e w5 ⟨a6, rfl, a2, hb⟩; refine ⟨_, rfl, ?_⟩; have a1 := Aside0.mk (Kd.S_lower a2 (below_size bB)); replace HB := Aside0.mk (below_step bB hb); (try clear hb); (try clear a2); obtain ⟨a7, a8, a5⟩ := Kd.S_slice a1.out; subst a5))
 go_ret2
 exact ⟨sE, bI⟩
 )
 ·(
 replace c3 := Bool.eq_false_iff.mpr c3
 subst c3
 rw [if_neg nft] at H
 simp only [Option.some.injEq, Prod.mk.injEq] at H
 obtain ⟨rfl, rfl⟩ := H
 go_enter Tryz.func18, Tryz.ntmps18
 go_wp2_with (first | ((with_reducible refine gate_callee (f := 46) rfl ?_); refine goesL_ (some 5) rfl rfl Tryz.func46 kr rfl #[.int .i64 a0, .int .i64 1, .int .i64 200] rfl sM ?_; (with_reducible refine (spec_l1In.calls a0 1 200 false _ A2.out).mono ?_); rintro e w' ⟨rfl, ⟨nd, rfl⟩⟩; refine ⟨_, rfl, ?_⟩))
 go_ret2
 exact ⟨sE, bI⟩
 )

/-! ### spec_DrawWholeCrossings: function 19 -/
-- (its text lies ahead)

/-! ### impl_WholeCrossings: function 20 -/
mutual
def impl_WholeCrossings.l0 : Nat → Int → List (S25) → Int → Option ((List (S25)) × Bool)
  | 0, _, _, _ => none
  | k + 1, x0, x4, x5 => if x5 < x0 then (impl_WholeCrossings.l1 k x0 x4 x5 (([] : List Int)) 1) else (some (x4, true))
def impl_WholeCrossings.l1 : Nat → Int → List (S25) → Int → List Int → Int → Option ((List (S25)) × Bool)
  | 0, _, _, _, _, _ => none
  | k + 1, x0, x4, x5, x6, x7 => if (wrap64 ((wrap64 (x5 * x5)) + (wrap64 (x7 * x7)))) ≤ (wrap64 (x0 * x0)) then ((impl_rootOf.f k (wrap64 ((wrap64 (x5 * x5)) + (wrap64 (x7 * x7))))).bind fun bt292 => (if bt292.2 = true then (if x6.length < 17592186044416 then (impl_WholeCrossings.l1 k x0 x4 x5 (x6 ++ [x7]) (wrap64 (x7 + 1))) else (none)) else (impl_WholeCrossings.l1 k x0 x4 x5 x6 (wrap64 (x7 + 1))))) else (impl_WholeCrossings.l2 k x0 x4 x5 x6 x6 (x6.length : Int) 0)
def impl_WholeCrossings.l2 : Nat → Int → List (S25) → Int → List Int → List Int → Int → Int → Option ((List (S25)) × Bool)
  | 0, _, _, _, _, _, _, _ => none
  | k + 1, x0, x4, x5, x6, x53, x54, x55 => if x55 < x54 then (if 0 ≤ x55 then (if x55 < (x53.length : Int) then (if 0 ≤ (wrap64 (x55 + 1)) then (if (wrap64 (x55 + 1)) ≤ (x6.length : Int) then ((some (x6.take ((wrap64 (x55 + 1)) : Int).toNat : List Int)).bind fun y298 => (impl_WholeCrossings.l3 k x0 x4 x5 x6 (rd x53 x55) x53 x54 x55 y298 (y298.length : Int) 0)) else (none)) else (none)) else (none)) else (none)) else (impl_WholeCrossings.l0 k x0 x4 (wrap64 (x5 + 1)))
def impl_WholeCrossings.l3 : Nat → Int → List (S25) → Int → List Int → Int → List Int → Int → Int → List Int → Int → Int → Option ((List (S25)) × Bool)
  | 0, _, _, _, _, _, _, _, _, _, _, _ => none
  | k + 1, x0, x4, x5, x6, x11, x53, x54, x55, x63, x64, x65 => if x65 < x64 then (if 0 ≤ x65 then (if x65 < (x63.length : Int) then (if (wrap64 (x11 + (rd x63 x65))) = 0 then (none) else (if (Int.tmod (wrap64 (x11 * (rd x63 x65))) (wrap64 (x11 + (rd x63 x65)))) = 0 then (if x4.length < 5864062014805 then (impl_WholeCrossings.l3 k x0 (x4 ++ [(⟨x5, x11, rd x63 x65⟩ : S25)]) x5 x6 x11 x53 x54 x55 x63 x64 (wrap64 (x65 + 1))) else (none)) else (impl_WholeCrossings.l3 k x0 x4 x5 x6 x11 x53 x54 x55 x63 x64 (wrap64 (x65 + 1))))) else (none)) else (none)) else (impl_WholeCrossings.l2 k x0 x4 x5 x6 x53 x54 (wrap64 (x55 + 1)))
end
def impl_WholeCrossings.f (k : Nat) (a0 : Int) : Option ((List (S25)) × Bool) := (impl_within.f a0 1 150).bind fun t285 => (if t285 = true then (impl_WholeCrossings.l0 k a0 (([] : List (S25))) 1) else (some (([] : List (S25)), false)))
theorem impl_WholeCrossings.mono_l : ∀ k, (∀ y0 y1 y2, LeO (impl_WholeCrossings.l0 k y0 y1 y2) (impl_WholeCrossings.l0 (k + 1) y0 y1 y2)) ∧ (∀ y0 y1 y2 y3 y4, LeO (impl_WholeCrossings.l1 k y0 y1 y2 y3 y4) (impl_WholeCrossings.l1 (k + 1) y0 y1 y2 y3 y4)) ∧ (∀ y0 y1 y2 y3 y4 y5 y6, LeO (impl_WholeCrossings.l2 k y0 y1 y2 y3 y4 y5 y6) (impl_WholeCrossings.l2 (k + 1) y0 y1 y2 y3 y4 y5 y6)) ∧ (∀ y0 y1 y2 y3 y4 y5 y6 y7 y8 y9 y10, LeO (impl_WholeCrossings.l3 k y0 y1 y2 y3 y4 y5 y6 y7 y8 y9 y10) (impl_WholeCrossings.l3 (k + 1) y0 y1 y2 y3 y4 y5 y6 y7 y8 y9 y10))
  | 0 => ⟨fun _ _ _ r h => by simp [impl_WholeCrossings.l0] at h, fun _ _ _ _ _ r h => by simp [impl_WholeCrossings.l1] at h, fun _ _ _ _ _ _ _ r h => by simp [impl_WholeCrossings.l2] at h, fun _ _ _ _ _ _ _ _ _ _ _ r h => by simp [impl_WholeCrossings.l3] at h⟩
  | k + 1 => by
    obtain ⟨ih0, ih1, ih2, ih3⟩ := impl_WholeCrossings.mono_l k
    refine ⟨?_, ?_, ?_, ?_⟩
    · intro y0 y1 y2
      unfold impl_WholeCrossings.l0
      repeat' first
      | (with_reducible exact ih0 _ _ _)
      | (with_reducible exact ih1 _ _ _ _ _)
      | (with_reducible exact ih2 _ _ _ _ _ _ _)
      | (with_reducible exact ih3 _ _ _ _ _ _ _ _ _ _ _)
      | (with_reducible exact impl_rootOf.mono _ _)
      | (with_reducible exact LeO.refl _)
      | (with_reducible exact LeO.none _)
      | (with_reducible refine LeO.ite ?_ ?_)
      | (with_reducible refine LeO.bind ?_ (fun _ => ?_))
      | exact ih0 _ _ _
      | exact ih1 _ _ _ _ _
      | exact ih2 _ _ _ _ _ _ _
      | exact ih3 _ _ _ _ _ _ _ _ _ _ _
      | exact impl_rootOf.mono _ _
      | exact LeO.none _
      | refine LeO.ite ?_ ?_
      | refine LeO.bind ?_ (fun _ => ?_)
    · intro y0 y1 y2 y3 y4
      unfold impl_WholeCrossings.l1
      repeat' first
      | (with_reducible exact ih0 _ _ _)
      | (with_reducible exact ih1 _ _ _ _ _)
      | (with_reducible exact ih2 _ _ _ _ _ _ _)
      | (with_reducible exact ih3 _ _ _ _ _ _ _ _ _ _ _)
      | (with_reducible exact impl_rootOf.mono _ _)
      | (with_reducible exact LeO.refl _)
      | (with_reducible exact LeO.none _)
      | (with_reducible refine LeO.ite ?_ ?_)
      | (with_reducible refine LeO.bind ?_ (fun _ => ?_))
      | exact ih0 _ _ _
      | exact ih1 _ _ _ _ _
      | exact ih2 _ _ _ _ _ _ _
      | exact ih3 _ _ _ _ _ _ _ _ _ _ _
      | exact impl_rootOf.mono _ _
      | exact LeO.none _
      | refine LeO.ite ?_ ?_
      | refine LeO.bind ?_ (fun _ => ?_)
    · intro y0 y1 y2 y3 y4 y5 y6
      unfold impl_WholeCrossings.l2
      repeat' first
      | (with_reducible exact ih0 _ _ _)
      | (with_reducible exact ih1 _ _ _ _ _)
      | (with_reducible exact ih2 _ _ _ _ _ _ _)
      | (with_reducible exact ih3 _ _ _ _ _ _ _ _ _ _ _)
      | (with_reducible exact impl_rootOf.mono _ _)
      | (with_reducible exact LeO.refl _)
      | (with_reducible exact LeO.none _)
      | (with_reducible refine LeO.ite ?_ ?_)
      | (with_reducible refine LeO.bind ?_ (fun _ => ?_))
      | exact ih0 _ _ _
      | exact ih1 _ _ _ _ _
      | exact ih2 _ _ _ _ _ _ _
      | exact ih3 _ _ _ _ _ _ _ _ _ _ _
      | exact impl_rootOf.mono _ _
      | exact LeO.none _
      | refine LeO.ite ?_ ?_
      | refine LeO.bind ?_ (fun _ => ?_)
    · intro y0 y1 y2 y3 y4 y5 y6 y7 y8 y9 y10
      unfold impl_WholeCrossings.l3
      repeat' first
      | (with_reducible exact ih0 _ _ _)
      | (with_reducible exact ih1 _ _ _ _ _)
      | (with_reducible exact ih2 _ _ _ _ _ _ _)
      | (with_reducible exact ih3 _ _ _ _ _ _ _ _ _ _ _)
      | (with_reducible exact impl_rootOf.mono _ _)
      | (with_reducible exact LeO.refl _)
      | (with_reducible exact LeO.none _)
      | (with_reducible refine LeO.ite ?_ ?_)
      | (with_reducible refine LeO.bind ?_ (fun _ => ?_))
      | exact ih0 _ _ _
      | exact ih1 _ _ _ _ _
      | exact ih2 _ _ _ _ _ _ _
      | exact ih3 _ _ _ _ _ _ _ _ _ _ _
      | exact impl_rootOf.mono _ _
      | exact LeO.none _
      | refine LeO.ite ?_ ?_
      | refine LeO.bind ?_ (fun _ => ?_)
theorem impl_WholeCrossings.mono : ∀ a0 k, LeO (impl_WholeCrossings.f k a0) (impl_WholeCrossings.f (k + 1) a0) := by
  intro a0 k
  obtain ⟨ih0, ih1, ih2, ih3⟩ := impl_WholeCrossings.mono_l k
  unfold impl_WholeCrossings.f
  repeat' first
      | (with_reducible exact ih0 _ _ _)
      | (with_reducible exact ih1 _ _ _ _ _)
      | (with_reducible exact ih2 _ _ _ _ _ _ _)
      | (with_reducible exact ih3 _ _ _ _ _ _ _ _ _ _ _)
      | (with_reducible exact impl_rootOf.mono _ _)
      | (with_reducible exact LeO.refl _)
      | (with_reducible exact LeO.none _)
      | (with_reducible refine LeO.ite ?_ ?_)
      | (with_reducible refine LeO.bind ?_ (fun _ => ?_))
      | exact ih0 _ _ _
      | exact ih1 _ _ _ _ _
      | exact ih2 _ _ _ _ _ _ _
      | exact ih3 _ _ _ _ _ _ _ _ _ _ _
      | exact impl_rootOf.mono _ _
      | exact LeO.none _
      | refine LeO.ite ?_ ?_
      | refine LeO.bind ?_ (fun _ => ?_)
set_option maxHeartbeats 8000000 in
set_option maxRecDepth 100000 in
theorem impl_WholeCrossings.calls (k : Nat) (a0 : Int) (r1 : List (S25)) (r2 : Bool) (w : World) (h : impl_WholeCrossings.f k a0 = some (r1, r2)) :
    Calls Tryz.prog 20 #[.int .i64 a0] w fun e w' => ∃ v0_ : Value, e = .returned (.tuple #[v0_, .bool r2]) ∧ Kd.R k25 25 w' w.heap.size (fun _ => True) v0_ r1 ∧ Below w.heap.size w w' := by
 have l7 := Tryz.underlying25
 have HB := Aside0.mk (Below.refl w.heap.size w)
 have H := h
 unfold impl_WholeCrossings.f at H
 clear h
 obtain ⟨j9, A2, H⟩ := bD H
 try dsimp only at H
 by_cases c3 : j9 = true
 ·(
 subst c3
 rw [if_pos rfl] at H
 obtain ⟨g8, c0⟩ : ∃ y_ : List (S25), y_ = (([] : List (S25))) := ⟨_, rfl⟩
 replace H : (impl_WholeCrossings.l0 k a0 g8 1) = some (r1, r2) := by first | (rw [c0]; with_reducible exact H) | (have a9 := (Option.bind_some _ _).symm.trans H; rw [c0]; with_reducible exact a9) | (have a9 := (Option.bind_some _ _).symm.trans H; with_reducible exact a9) | with_reducible exact H | (rw [c0]; exact H) | exact H
 have e5 := Aside0.mk c0
 clear c0
 have H' := Aside0.mk H
 clear H
 go_enter Tryz.func20, Tryz.ntmps20
 go_wp2_with (first | ((with_reducible refine gate_callee (f := 45) rfl ?_); refine goesL_ (some 15) rfl rfl Tryz.func45 kr rfl #[.int .i64 a0, .int .i64 1, .int .i64 150] rfl sM ?_; (with_reducible refine (impl_within.calls a0 1 150 true _ A2.out).mono ?_); rintro e w' ⟨rfl, ⟨nd, rfl⟩⟩; refine ⟨_, rfl, ?_⟩) | ((with_reducible refine gate_dst (N := 17) rfl ?_); refine Kd.R_lit k25 _ 25 ?hg (N := 17) ?hd (xs := ([] : List (S25))) (inner := []) (ok := fun _ => True) (okp := fun _ => True) ?hr ?hp (fun _ hk => hk) trivial (Below.refl _ _) (Nat.le_refl _) (by simp) ?_; (case hd => rfl); (case hg => rfl); (case hr => first | (go_simp; done) | (go_simp; rfl)); (case hp => exact (Reps.none _ _)); intro l8 w4 d7 hb hg_ hnew_; clear hg_ hnew_; (first | rw [← e5.out] at d7 | (simp only [Int.reduceToNat] at d7; rw [← e5.out] at d7)); have h9 := Aside0.mk (Kd.R_lower d7 (below_size bB)); replace HB := Aside0.mk (below_step bB hb); clear hb d7))
 go_loopg [4, 5] k (fun kq v4 v5 w' => ∃ (b5 : List (S25)) (a4 : Int), v5 = .int .i64 a4 ∧ Aside0 (impl_WholeCrossings.l0 kq a0 b5 a4 = some (r1, r2)) ∧ Aside0 (kq ≤ k) ∧ Aside0 (Kd.R k25 25 w' w.heap.size (fun _ => True) v4 b5) ∧ Aside0 (Below w.heap.size w w'))
 case atStart => exact ⟨(g8), (1), sR, H', ⟨Nat.le_refl _⟩, ⟨oR h9⟩, ⟨bB⟩⟩
 case round => (
 clear H'
 try clear c3
 obtain ⟨b5, a4, rfl, HA, HK1, a7, HB⟩ := hrel
 cases gk with
 | zero => exact absurd HA.out (by simp [impl_WholeCrossings.l0])
 | succ k1 => (
 have H := HA.out
 clear HA
 simp only [impl_WholeCrossings.l0] at H
 by_cases c6 : a4 < a0
 ·(
 rw [if_pos c6] at H
 have g9 : decide (a4 < a0) = true := decide_eq_true c6
 clear c6
 obtain ⟨h0, c1⟩ : ∃ y_ : List Int, y_ = (([] : List Int)) := ⟨_, rfl⟩
 replace H : (impl_WholeCrossings.l1 k1 a0 b5 a4 h0 1) = some (r1, r2) := by first | (rw [c1]; with_reducible exact H) | (have a9 := (Option.bind_some _ _).symm.trans H; rw [c1]; with_reducible exact a9) | (have a9 := (Option.bind_some _ _).symm.trans H; with_reducible exact a9) | with_reducible exact H | (rw [c1]; exact H) | exact H
 have e6 := Aside0.mk c1
 clear c1
 have H' := Aside0.mk H
 clear H
 go_wp2_with (first | ((with_reducible refine gate_dst (N := 23) rfl ?_); refine Kd.R_lit (Kd.int .i64) _ 3 ?hg (N := 23) ?hd (xs := ([] : List Int)) (inner := []) (ok := fun _ => True) (okp := fun _ => True) ?hr ?hp (fun _ hk => hk) trivial (Below.refl _ _) (Nat.le_refl _) (by simp) ?_; (case hd => rfl); (case hg => rfl); (case hr => first | (go_simp; done) | (go_simp; rfl)); (case hp => exact (Reps.none _ _)); intro l9 w7 d8 hb hg_ hnew_; clear hg_ hnew_; (first | rw [← e6.out] at d8 | (simp only [Int.reduceToNat] at d8; rw [← e6.out] at d8)); have i0 := Aside0.mk (Kd.R_lower d8 (below_size bB)); replace a7 := Aside0.mk (Kd.R_below (oR a7) hb); replace HB := Aside0.mk (below_step bB hb); clear hb d8))
 go_loopg [6, 7] k1 (fun kq v6 v7 w' => ∃ (a1 : List Int) (a6 : Int), v7 = .int .i64 a6 ∧ Aside0 (impl_WholeCrossings.l1 kq a0 b5 a4 a1 a6 = some (r1, r2)) ∧ Aside0 (kq ≤ k1) ∧ Aside0 (Kd.R k25 25 w' w.heap.size (fun _ => True) u4 b5) ∧ Aside0 (Kd.R (Kd.int .i64) 3 w' w.heap.size (fun _ => True) v6 a1) ∧ Aside0 (Below w.heap.size w w'))
 case atStart => exact ⟨(h0), (1), sR, H', ⟨Nat.le_refl _⟩, ⟨oR a7⟩, ⟨oR i0⟩, ⟨bB⟩⟩
 case round => (
 clear H'
 try clear g9
 obtain ⟨a1, a6, rfl, HA, HK2, a7, a8, HB⟩ := hrel
 cases gk with
 | zero => exact absurd HA.out (by simp [impl_WholeCrossings.l1])
 | succ k2 => (
 have H := HA.out
 clear HA
 simp only [impl_WholeCrossings.l1] at H
 by_cases c9 : (wrap64 ((wrap64 (a4 * a4)) + (wrap64 (a6 * a6)))) ≤ (wrap64 (a0 * a0))
 ·(
 rw [if_pos c9] at H
 have h1 : decide ((wrap64 ((wrap64 (a4 * a4)) + (wrap64 (a6 * a6)))) ≤ (wrap64 (a0 * a0))) = true := decide_eq_true c9
 clear c9
 obtain ⟨⟨h2, k0⟩, j8, H⟩ := bD H
 try dsimp only at H
 by_cases e7 : k0 = true
 ·(
 subst e7
 rw [if_pos rfl] at H
 by_cases e8 : a1.length < 17592186044416
 ·(
 rw [if_pos e8] at H
 have i1 := Aside0.mk e8
 clear e8
 obtain ⟨h3, c2⟩ : ∃ y_ : List Int, y_ = (a1 ++ [a6]) := ⟨_, rfl⟩
 replace H : (impl_WholeCrossings.l1 k2 a0 b5 a4 h3 (wrap64 (a6 + 1))) = some (r1, r2) := by first | (rw [c2]; with_reducible exact H) | (have a9 := (Option.bind_some _ _).symm.trans H; rw [c2]; with_reducible exact a9) | (have a9 := (Option.bind_some _ _).symm.trans H; with_reducible exact a9) | with_reducible exact H | (rw [c2]; exact H) | exact H
 have i2 := Aside0.mk c2
 clear c2
 have H' := Aside0.mk H
 clear H
 go_wp2_with (first | ((with_reducible refine gate_callee (f := 36) rfl ?_); refine goesL_ (some 45) rfl rfl Tryz.func36 kr rfl #[.int .i64 (wrap64 ((wrap64 (a4 * a4)) + (wrap64 (a6 * a6))))] rfl sM ?_; (with_reducible refine (impl_rootOf.calls k2 (wrap64 ((wrap64 (a4 * a4)) + (wrap64 (a6 * a6)))) h2 true _ j8.out).mono ?_); rintro e w' ⟨rfl, ⟨nd, rfl⟩⟩; refine ⟨_, rfl, ?_⟩) | ((with_reducible refine gate_builtin (b := .append) (xs := #[.tmp 49, .tmp 51]) rfl ?_); at_builtin; refine Kd.R_append (Kd.int .i64) (w0 := w) w.heap.size rfl (.tmp 49) (.tmp 51) 51 3 (.int .i64 0) 8 rfl Tryz.underlying51 info3 rfl (by decide) (by omega) u6 a1 a6 [.int .i64 a6] (fun _ => True) (fun _ => False) rfl rfl ?aP (fun _ hk => hk.elim) ?aF ?aO ?aB ?aS ?aL ?_; (case aP => exact rfl); (case aB => exact bB); (case aF => exact (fun _ _ => trivial)); (case aO => exact (oR a8)); (case aS => exact (below_size bB)); (case aL => have := i1.out; omega); intro m0 m4 ho hb hg hat; rw [← i2.out] at ho; have i3 := Aside0.mk (ho); replace a7 := Aside0.mk (Kd.R_over' (oR a7) (Kd.R_typed (oR a8)) (by decide) hg); replace HB := Aside0.mk (hb); clear a8 ho hb hg hat))
 go_roundg k2
 case measure => have := HK1.out; have := HK2.out; omega
 case rel => exact ⟨(h3), (wrap64 (a6 + 1)), sR, H', ⟨by have := HK1.out; have := HK2.out; omega⟩, ⟨oR a7⟩, ⟨oR i3⟩, ⟨bB⟩⟩
 )
 ·(
 rw [if_neg e8] at H
 exact absurd H (by simp)
 )
 )
 ·(
 replace e7 := Bool.eq_false_iff.mpr e7
 subst e7
 rw [if_neg nft] at H
 have H' := Aside0.mk H
 clear H
 go_wp2_with (first | ((with_reducible refine gate_callee (f := 36) rfl ?_); refine goesL_ (some 45) rfl rfl Tryz.func36 kr rfl #[.int .i64 (wrap64 ((wrap64 (a4 * a4)) + (wrap64 (a6 * a6))))] rfl sM ?_; (with_reducible refine (impl_rootOf.calls k2 (wrap64 ((wrap64 (a4 * a4)) + (wrap64 (a6 * a6)))) h2 false _ j8.out).mono ?_); rintro e w' ⟨rfl, ⟨nd, rfl⟩⟩; refine ⟨_, rfl, ?_⟩))
 go_roundg k2
 case measure => have := HK1.out; have := HK2.out; omega
 case rel => exact ⟨(a1), (wrap64 (a6 + 1)), sR, H', ⟨by have := HK1.out; have := HK2.out; omega⟩, ⟨oR a7⟩, ⟨oR a8⟩, ⟨bB⟩⟩
 )
 )
 ·(
 rw [if_neg c9] at H
 have h1 : decide ((wrap64 ((wrap64 (a4 * a4)) + (wrap64 (a6 * a6)))) ≤ (wrap64 (a0 * a0))) = false := decide_eq_false c9
 clear c9
 have H' := Aside0.mk H
 clear H
 obtain ⟨h4, b7, k5⟩ := Kd.R_slice a8.out
 subst k5
 go_wp2
 go_loopg [4, 55] k2 (fun kq v4 k8 w' => ∃ (c7 : List (S25)) (a2 : Int), k8 = .int .i64 a2 ∧ Aside0 (impl_WholeCrossings.l2 kq a0 c7 a4 a1 a1 (a1.length : Int) a2 = some (r1, r2)) ∧ Aside0 (kq ≤ k2) ∧ Aside0 (Kd.R k25 25 w' w.heap.size (fun _ => True) v4 c7) ∧ Aside0 (Kd.R (Kd.int .i64) 3 w' w.heap.size (fun _ => True) (.slice h4 a1.length b7) a1) ∧ Aside0 (Kd.R (Kd.int .i64) 3 w' w.heap.size (fun _ => True) (.slice h4 a1.length b7) a1) ∧ Aside0 (Below w.heap.size w w'))
 case atStart => exact ⟨(b5), (0), sR, H', ⟨Nat.le_refl _⟩, ⟨oR a7⟩, ⟨oR a8⟩, ⟨oR a8⟩, ⟨bB⟩⟩
 case round => (
 clear H'
 try clear h1
 obtain ⟨c7, a2, rfl, HA, HK3, a7, a8, b2, HB⟩ := hrel
 cases gk with
 | zero => exact absurd HA.out (by simp [impl_WholeCrossings.l2])
 | succ k3 => (
 have H := HA.out
 clear HA
 simp only [impl_WholeCrossings.l2] at H
 by_cases c8 : a2 < (a1.length : Int)
 ·(
 rw [if_pos c8] at H
 have e9 : decide (a2 < (a1.length : Int)) = true := decide_eq_true c8
 clear c8
 by_cases g0 : 0 ≤ a2
 ·(
 rw [if_pos g0] at H
 have i4 : decide (0 ≤ a2) = true := decide_eq_true g0
 clear g0
 by_cases g1 : a2 < (a1.length : Int)
 ·(
 rw [if_pos g1] at H
 have i5 : decide (a2 < (a1.length : Int)) = true := decide_eq_true g1
 clear g1
 obtain ⟨b1, d2⟩ : ∃ j_ : Int, (wrap64 (a2 + 1)) = j_ := ⟨_, rfl⟩
 (first | rw [d2] at H | simp only [d2] at H)
 have k9 : (IntKind.i64.wrap (a2 + 1)) = b1 := (i64_w _).trans d2
 by_cases d9 : 0 ≤ (b1)
 ·(
 rw [if_pos d9] at H
 have i6 := eq_true d9
 have i7 : decide (0 ≤ (b1)) = true := decide_eq_true d9
 clear d9
 by_cases e0 : (b1) ≤ (a1.length : Int)
 ·(
 rw [if_pos e0] at H
 have i9 := eq_true e0
 have j0 : decide ((b1) ≤ (a1.length : Int)) = true := decide_eq_true e0
 clear e0
 obtain ⟨a5, c4⟩ : ∃ y_ : List Int, y_ = (a1.take ((b1) : Int).toNat) := ⟨_, rfl⟩
 replace H : (impl_WholeCrossings.l3 k3 a0 c7 a4 a1 (rd a1 a2) a1 (a1.length : Int) a2 a5 (a5.length : Int) 0) = some (r1, r2) := by first | (rw [c4]; with_reducible exact H) | (have a9 := (Option.bind_some _ _).symm.trans H; rw [c4]; with_reducible exact a9) | (have a9 := (Option.bind_some _ _).symm.trans H; with_reducible exact a9) | with_reducible exact H | (rw [c4]; exact H) | exact H
 have d3 := Aside0.mk c4
 clear c4
 have H' := Aside0.mk H
 clear H
 have d4 : 0 ≤ (a2 : Int) := of_decide_eq_true asm
 have d5 : a2 < (a1.length : Int) := of_decide_eq_true asm
 obtain ⟨b3, k6, g7⟩ := Kd.at_int (Kd.R_reads' b2.out).2.2 a2 d4 d5
 cases k6
 replace d4 := eq_true d4
 replace d5 := eq_true d5
 have g2 : ((b1) : Int) ≤ ((a1.length : Int) : Int) := of_decide_eq_true asm
 obtain ⟨m1, g3, _, j1, _⟩ := info_parts info3
 have d0 : a1.length ≤ b7 := (Kd.R_reads' a8.out).2.1
 have h5 : Kd.C (Kd.int .i64) _ (some b3) a1.length a1 := (Kd.R_reads' a8.out).2.2
 have h6 := cut_to (P := Tryz.prog) 51 3 .i64 Tryz.underlying51 g3 (some b3) a1.length b7 (b1) (of_decide_eq_true asm) g2 d0
 have e2 := Kd.C_take (m := ((b1) : Int).toNat) h5 (by omega)
 have e3 : a5.length = ((b1) : Int).toNat := (by rw [d3.out, List.length_take]; omega)
 rw [← d3.out] at e2
 rw [← e3] at h6
 have b4 := Aside0.mk e2
 have l2 := Aside0.mk (show a5.length ≤ b7 from by omega)
 clear e2 h5 d0 g3 j1
 have m2 := Aside0.mk e3
 clear e3
 have k7 := Aside0.mk (show ((b1) : Int).toNat ≤ a1.length from by omega)
 replace g2 := eq_true g2
 go_wp2
 go_loopg [4, 65] k3 (fun kq v4 l0 w' => ∃ (b6 : List (S25)) (a3 : Int), l0 = .int .i64 a3 ∧ Aside0 (impl_WholeCrossings.l3 kq a0 b6 a4 a1 (rd a1 a2) a1 (a1.length : Int) a2 a5 (a5.length : Int) a3 = some (r1, r2)) ∧ Aside0 (kq ≤ k3) ∧ Aside0 (Kd.R k25 25 w' w.heap.size (fun _ => True) v4 b6) ∧ Aside0 (Kd.R (Kd.int .i64) 3 w' w.heap.size (fun _ => True) (.slice (some b3) a1.length b7) a1) ∧ Aside0 (Kd.R (Kd.int .i64) 3 w' w.heap.size (fun _ => True) (.slice (some b3) a1.length b7) a1) ∧ Aside0 (Kd.C (Kd.int .i64) w' (some b3) a5.length a5) ∧ Aside0 (Below w.heap.size w w'))
 case atStart => exact ⟨(c7), (0), sR, H', ⟨Nat.le_refl _⟩, ⟨oR a7⟩, ⟨oR a8⟩, ⟨oR b2⟩, ⟨cR b4⟩, ⟨bB⟩⟩
 case round => (
 clear H'
 try clear e9
 try clear i4
 try clear i5
 try clear i6
 try clear i7
 try clear i9
 try clear j0
 try clear g2
 try clear g7
 try clear d4
 try clear d5
 obtain ⟨b6, a3, rfl, HA, HK4, a7, a8, b2, b4, HB⟩ := hrel
 cases gk with
 | zero => exact absurd HA.out (by simp [impl_WholeCrossings.l3])
 | succ k4 => (
 have H := HA.out
 clear HA
 simp only [impl_WholeCrossings.l3] at H
 by_cases d1 : a3 < (a5.length : Int)
 ·(
 rw [if_pos d1] at H
 have j2 : decide (a3 < (a5.length : Int)) = true := decide_eq_true d1
 clear d1
 by_cases g4 : 0 ≤ a3
 ·(
 rw [if_pos g4] at H
 have l3 : decide (0 ≤ a3) = true := decide_eq_true g4
 clear g4
 by_cases g5 : a3 < (a5.length : Int)
 ·(
 rw [if_pos g5] at H
 have l4 : decide (a3 < (a5.length : Int)) = true := decide_eq_true g5
 clear g5
 by_cases h7 : (wrap64 ((rd a1 a2) + (rd a5 a3))) = 0
 ·(
 rw [if_pos h7] at H
 exact absurd H (by simp)
 )
 ·(
 rw [if_neg h7] at H
 obtain ⟨l5, l6⟩ := nE h7
 by_cases e1 : (Int.tmod (wrap64 ((rd a1 a2) * (rd a5 a3))) (wrap64 ((rd a1 a2) + (rd a5 a3)))) = 0
 ·(
 rw [if_pos e1] at H
 obtain ⟨j3, j4⟩ := yE e1
 clear e1
 by_cases g6 : b6.length < 5864062014805
 ·(
 rw [if_pos g6] at H
 have j5 := Aside0.mk g6
 clear g6
 obtain ⟨h8, c5⟩ : ∃ y_ : List (S25), y_ = (b6 ++ [(⟨a4, (rd a1 a2), rd a5 a3⟩ : S25)]) := ⟨_, rfl⟩
 replace H : (impl_WholeCrossings.l3 k4 a0 h8 a4 a1 (rd a1 a2) a1 (a1.length : Int) a2 a5 (a5.length : Int) (wrap64 (a3 + 1))) = some (r1, r2) := by first | (rw [c5]; with_reducible exact H) | (have a9 := (Option.bind_some _ _).symm.trans H; rw [c5]; with_reducible exact a9) | (have a9 := (Option.bind_some _ _).symm.trans H; with_reducible exact a9) | with_reducible exact H | (rw [c5]; exact H) | exact H
 have j6 := Aside0.mk c5
 clear c5
 have H' := Aside0.mk H
 clear H
 have b8 : 0 ≤ (a3 : Int) := of_decide_eq_true asm
 have b9 : a3 < (a5.length : Int) := of_decide_eq_true asm
 obtain ⟨d6, e4, b0⟩ := Kd.at_int b4.out a3 b8 b9
 obtain rfl : b3 = d6 := (by injection e4)
 try replace b0 := (HB.out.cell (World.block_lt_of_cell? w _ b0)).trans b0
 replace b8 := eq_true b8
 replace b9 := eq_true b9
 go_wp2_with (first | ((with_reducible refine gate_builtin (b := .append) (xs := #[.tmp 77, .tmp 82]) rfl ?_); at_builtin; refine Kd.R_append k25 (w0 := w) w.heap.size rfl (.tmp 77) (.tmp 82) 38 25 (.agg #[(.int .i64 0), (.int .i64 0), (.int .i64 0)]) 24 rfl Tryz.underlying38 info25 rfl (by decide) (by omega) u4 b6 (⟨a4, (rd a1 a2), rd a5 a3⟩ : S25) [.int .i64 a4, .int .i64 (rd a1 a2), .int .i64 (rd a5 a3)] (fun _ => True) (fun _ => False) rfl rfl ?aP (fun _ hk => hk.elim) ?aF ?aO ?aB ?aS ?aL ?_; (case aP => exact k25_mkM _ _ _ (⟨a4, (rd a1 a2), rd a5 a3⟩ : S25)); (case aB => exact bB); (case aF => exact (fun _ _ => trivial)); (case aO => exact (oR a7)); (case aS => exact (below_size bB)); (case aL => have := j5.out; omega); intro m3 l1 ho hb hg hat; rw [← j6.out] at ho; have j7 := Aside0.mk (ho); replace b2 := Aside0.mk (Kd.R_over' (oR b2) (Kd.R_typed (oR a7)) (by decide) hg); replace HB := Aside0.mk (hb); replace b4 := Aside0.mk ((show Kd.C (Kd.int .i64) l1 (some b3) a5.length a5 from by rw [d3.out]; exact Kd.C_take (m := ((b1) : Int).toNat) ((Kd.R_reads' (Kd.R_over' (oR a8) (Kd.R_typed (oR a7)) (by decide) hg)).2.2) k7.out)); replace a8 := Aside0.mk (Kd.R_over' (oR a8) (Kd.R_typed (oR a7)) (by decide) hg); clear a7 ho hb hg hat))
 go_roundg k4
 case measure => have := HK1.out; have := HK2.out; have := HK3.out; have := HK4.out; omega
 case rel => exact ⟨(h8), (wrap64 (a3 + 1)), sR, H', ⟨by have := HK1.out; have := HK2.out; have := HK3.out; have := HK4.out; omega⟩, ⟨oR j7⟩, ⟨oR a8⟩, ⟨oR b2⟩, ⟨cR b4⟩, ⟨bB⟩⟩
 )
 ·(
 rw [if_neg g6] at H
 exact absurd H (by simp)
 )
 )
 ·(
 rw [if_neg e1] at H
 obtain ⟨j3, j4⟩ := nE e1
 have H' := Aside0.mk H
 clear H
 have b8 : 0 ≤ (a3 : Int) := of_decide_eq_true asm
 have b9 : a3 < (a5.length : Int) := of_decide_eq_true asm
 obtain ⟨d6, e4, b0⟩ := Kd.at_int b4.out a3 b8 b9
 obtain rfl : b3 = d6 := (by injection e4)
 try replace b0 := (HB.out.cell (World.block_lt_of_cell? w _ b0)).trans b0
 replace b8 := eq_true b8
 replace b9 := eq_true b9
 go_wp2
 go_roundg k4
 case measure => have := HK1.out; have := HK2.out; have := HK3.out; have := HK4.out; omega
 case rel => exact ⟨(b6), (wrap64 (a3 + 1)), sR, H', ⟨by have := HK1.out; have := HK2.out; have := HK3.out; have := HK4.out; omega⟩, ⟨oR a7⟩, ⟨oR a8⟩, ⟨oR b2⟩, ⟨cR b4⟩, ⟨bB⟩⟩
 )
 )
 )
 ·(
 rw [if_neg g5] at H
 exact absurd H (by simp)
 )
 )
 ·(
 rw [if_neg g4] at H
 exact absurd H (by simp)
 )
 )
 ·(
 rw [if_neg d1] at H
 have j2 : decide (a3 < (a5.length : Int)) = false := decide_eq_false d1
 clear d1
 have H' := Aside0.mk H
 clear H
 go_wp2
 go_roundg k4
 case measure => have := HK1.out; have := HK2.out; have := HK3.out; have := HK4.out; omega
 case rel => exact ⟨(b6), (wrap64 (a2 + 1)), sR, H', ⟨by have := HK1.out; have := HK2.out; have := HK3.out; have := HK4.out; omega⟩, ⟨oR a7⟩, ⟨oR a8⟩, ⟨oR b2⟩, ⟨bB⟩⟩
 )
 )
 )
 )
 ·(
 rw [if_neg e0] at H
 exact absurd H (by simp)
 )
 )
 ·(
 rw [if_neg d9] at H
 exact absurd H (by simp)
 )
 )
 ·(
 rw [if_neg g1] at H
 exact absurd H (by simp)
 )
 )
 ·(
 rw [if_neg g0] at H
 exact absurd H (by simp)
 )
 )
 ·(
 rw [if_neg c8] at H
 have e9 : decide (a2 < (a1.length : Int)) = false := decide_eq_false c8
 clear c8
 have H' := Aside0.mk H
 clear H
 go_wp2
 go_roundg k3
 case measure => have := HK1.out; have := HK2.out; have := HK3.out; omega
 case rel => exact ⟨(c7), (wrap64 (a4 + 1)), sR, H', ⟨by have := HK1.out; have := HK2.out; have := HK3.out; omega⟩, ⟨oR a7⟩, ⟨bB⟩⟩
 )
 )
 )
 )
 )
 )
 )
 ·(
 rw [if_neg c6] at H
 have g9 : decide (a4 < a0) = false := decide_eq_false c6
 clear c6
 simp only [Option.some.injEq, Prod.mk.injEq] at H
 obtain ⟨rfl, rfl⟩ := H
 go_wp2
 go_ret2
 exact ⟨_, sE, by (with_reducible repeat (first | apply Kd.R_alloc | apply Kd.R_drewN | apply Kd.R_drew)); exact a7.out, bI⟩
 )
 )
 )
 )
 ·(
 replace c3 := Bool.eq_false_iff.mpr c3
 subst c3
 rw [if_neg nft] at H
 simp only [Option.some.injEq, Prod.mk.injEq] at H
 obtain ⟨rfl, rfl⟩ := H
 go_enter Tryz.func20, Tryz.ntmps20
 go_wp2_with (first | ((with_reducible refine gate_callee (f := 45) rfl ?_); refine goesL_ (some 15) rfl rfl Tryz.func45 kr rfl #[.int .i64 a0, .int .i64 1, .int .i64 150] rfl sM ?_; (with_reducible refine (impl_within.calls a0 1 150 false _ A2.out).mono ?_); rintro e w' ⟨rfl, ⟨nd, rfl⟩⟩; refine ⟨_, rfl, ?_⟩))
 go_ret2
 exact ⟨_, sE, by first | exact Kd.R_nil _ _ _ _ _ | exact Kd.N_nil _ _ _ _ _ | exact Kd.V_nil _ _ _ _ _ | exact Kd.Q_nil _ _ _ _ _ | exact Kd.S_nil _ _ _ _ _, bI⟩
 )

end Go.Proofs.YtcfknhmdhglmfaaGreatDoor.PFnLaddersWhole
