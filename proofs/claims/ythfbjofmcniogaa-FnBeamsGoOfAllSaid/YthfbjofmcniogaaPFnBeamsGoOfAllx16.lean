-- Written by xprint.py, a program of this session, for this seat; Lean checks it.
import Derived.Test.YthfbjofmcniogaaVM
import Derived.Test.YthfbjofmcniogaaPFnBeamsGoOfAllx0
import Derived.Test.YthfbjofmcniogaaPFnBeamsGoOfAllx6
import Derived.Test.YthfbjofmcniogaaPFnBeamsGoOfAllx9
import Derived.Test.YthfbjofmcniogaaPFnBeamsGoOfAllx12
namespace Go.Proofs.Ythfbjofmcniogaa.PFnBeamsGoOfAll
open Go.Proofs.YthfbjofmcniogaaV Go.RowKit Go.Proofs.YthfbjofmcniogaaW.PrintWords Go.Proofs.YthfbjofmcniogaaW.PrintLast Go.Proofs.YthfbjofmcniogaaW.PrintMore
attribute [local go_sem] max2_int min2_int max_two min_two max_three min_three max_four min_four   -- for this text's walks alone
set_option linter.unusedVariables false
set_option linter.unusedSimpArgs false

/-! ### impl_UnfoldedPlace: function 32 -/
def impl_UnfoldedPlace.j0 : Nat → Int → Bool → Int → Int → Bool → Bool → Option (Int × Int × Bool)
  | 0, _, _, _, _, _, _ => none
  | k + 1, x2, x17, x348000, x348001, x348002, x348003 => if x17 = true then (some (0, 0, false)) else ((impl_sign.f x348002).bind fun t350 => ((impl_sign.f x348003).bind fun t351 => (some (wrap64 (x348000 + (wrap64 (x2 * t350))), wrap64 (x348001 + (wrap64 (x2 * t351))), true))))
def impl_UnfoldedPlace.f (k : Nat) (a0_0 : Int) (a0_1 : Int) (a1_0 : Int) (a1_1 : Int) (a1_2 : Bool) (a1_3 : Bool) (a2 : Int) : Option (Int × Int × Bool) := (impl_IsBeam.f a0_0 a0_1 a1_0 a1_1 a1_2 a1_3).bind fun t348 => (if t348 = true then ((impl_isSteps.f a2).bind fun t349 => (impl_UnfoldedPlace.j0 k a2 (!t349) a1_0 a1_1 a1_2 a1_3)) else (impl_UnfoldedPlace.j0 k a2 true a1_0 a1_1 a1_2 a1_3))
theorem impl_UnfoldedPlace.mono_l : ∀ k, (∀ y0 y1 y2 y3 y4 y5, LeO (impl_UnfoldedPlace.j0 k y0 y1 y2 y3 y4 y5) (impl_UnfoldedPlace.j0 (k + 1) y0 y1 y2 y3 y4 y5))
  | 0 => fun _ _ _ _ _ _ r h => by simp [impl_UnfoldedPlace.j0] at h
  | k + 1 => by
    have ih0 := impl_UnfoldedPlace.mono_l k
    · intro y0 y1 y2 y3 y4 y5
      unfold impl_UnfoldedPlace.j0
      repeat' first
      | (with_reducible exact ih0 _ _ _ _ _ _)
      | (with_reducible exact LeO.refl _)
      | (with_reducible exact LeO.none _)
      | (with_reducible refine LeO.ite ?_ ?_)
      | (with_reducible refine LeO.bind ?_ (fun _ => ?_))
      | exact ih0 _ _ _ _ _ _
      | exact LeO.none _
      | refine LeO.ite ?_ ?_
      | refine LeO.bind ?_ (fun _ => ?_)
theorem impl_UnfoldedPlace.mono : ∀ a0 a1 a2 a3 a4 a5 a6 k, LeO (impl_UnfoldedPlace.f k a0 a1 a2 a3 a4 a5 a6) (impl_UnfoldedPlace.f (k + 1) a0 a1 a2 a3 a4 a5 a6) := by
  intro a0 a1 a2 a3 a4 a5 a6 k
  have ih0 := impl_UnfoldedPlace.mono_l k
  unfold impl_UnfoldedPlace.f
  repeat' first
      | (with_reducible exact ih0 _ _ _ _ _ _)
      | (with_reducible exact LeO.refl _)
      | (with_reducible exact LeO.none _)
      | (with_reducible refine LeO.ite ?_ ?_)
      | (with_reducible refine LeO.bind ?_ (fun _ => ?_))
      | exact ih0 _ _ _ _ _ _
      | exact LeO.none _
      | refine LeO.ite ?_ ?_
      | refine LeO.bind ?_ (fun _ => ?_)
set_option maxHeartbeats 8000000 in
set_option maxRecDepth 100000 in
theorem impl_UnfoldedPlace.calls (k : Nat) (a0_0 : Int) (a0_1 : Int) (a1_0 : Int) (a1_1 : Int) (a1_2 : Bool) (a1_3 : Bool) (a2 : Int) (r1 : Int) (r2 : Int) (r3 : Bool) (w : World) (h : impl_UnfoldedPlace.f k a0_0 a0_1 a1_0 a1_1 a1_2 a1_3 a2 = some (r1, r2, r3)) :
    Calls Try.prog 32 #[.agg #[.int .i64 a0_0, .int .i64 a0_1], .agg #[.int .i64 a1_0, .int .i64 a1_1, .bool a1_2, .bool a1_3], .int .i64 a2] w fun e w' => e = .returned (.tuple #[.int .i64 r1, .int .i64 r2, .bool r3]) ∧ Below w.heap.size w w' := by
 have h8 := Try.underlying28
 have h9 := Try.underlying30
 have HB := Aside0.mk (Below.refl w.heap.size w)
 have H := h
 unfold impl_UnfoldedPlace.f at H
 clear h
 have c2 := Aside0.mk H
 clear H
 go_enter Try.func32, Try.ntmps32
 go_upto_region 1 with (first | ((with_reducible refine gate_dst (N := 3) rfl ?_); refine box_ (cs := #[.int .i64 a0_0, .int .i64 a0_1]) (t := 28) fun b2 hg w5 hbox hb => ?_; have a7 := Aside0.mk (hbox); have b7 := bS HB hg; have b8 := bS HB hg; replace HB := Aside0.mk (below_step bB hb); clear hb hbox hg) | ((with_reducible refine gate_dst (N := 4) rfl ?_); refine box_ (cs := #[.int .i64 a1_0, .int .i64 a1_1, .bool a1_2, .bool a1_3]) (t := 30) fun b3 hg w6 hbox hb => ?_; have a8 := Aside0.mk (hbox); have b9 := bS HB hg; have c0 := bS HB hg; have a9 := bL a7 hg; have b0 := bM a7 hg; replace a7 := bQ a7 hb; replace HB := Aside0.mk (below_step bB hb); clear hb hbox hg))
 repeat (go_quiet (first | ((with_reducible refine gate_dst (N := 3) rfl ?_); refine box_ (cs := #[.int .i64 a0_0, .int .i64 a0_1]) (t := 28) fun b2 hg w5 hbox hb => ?_; have a7 := Aside0.mk (hbox); have b7 := bS HB hg; have b8 := bS HB hg; replace HB := Aside0.mk (below_step bB hb); clear hb hbox hg) | ((with_reducible refine gate_dst (N := 4) rfl ?_); refine box_ (cs := #[.int .i64 a1_0, .int .i64 a1_1, .bool a1_2, .bool a1_3]) (t := 30) fun b3 hg w6 hbox hb => ?_; have a8 := Aside0.mk (hbox); have b9 := bS HB hg; have c0 := bS HB hg; have a9 := bL a7 hg; have b0 := bM a7 hg; replace a7 := bQ a7 hb; replace HB := Aside0.mk (below_step bB hb); clear hb hbox hg)); go_upto_region 1 with (first | ((with_reducible refine gate_dst (N := 3) rfl ?_); refine box_ (cs := #[.int .i64 a0_0, .int .i64 a0_1]) (t := 28) fun b2 hg w5 hbox hb => ?_; have a7 := Aside0.mk (hbox); have b7 := bS HB hg; have b8 := bS HB hg; replace HB := Aside0.mk (below_step bB hb); clear hb hbox hg) | ((with_reducible refine gate_dst (N := 4) rfl ?_); refine box_ (cs := #[.int .i64 a1_0, .int .i64 a1_1, .bool a1_2, .bool a1_3]) (t := 30) fun b3 hg w6 hbox hb => ?_; have a8 := Aside0.mk (hbox); have b9 := bS HB hg; have c0 := bS HB hg; have a9 := bL a7 hg; have b0 := bM a7 hg; replace a7 := bQ a7 hb; replace HB := Aside0.mk (below_step bB hb); clear hb hbox hg)))
 (try simp only [Act.put, List.setIfInBounds_toArray, List.set_cons_zero, List.set_cons_succ])
 go_cut [17] (fun h1 wc => ∃ (kq : Nat) (b1 : Bool), h1 = .bool b1 ∧ Aside0 (impl_UnfoldedPlace.j0 kq a2 b1 a1_0 a1_1 a1_2 a1_3 = some (r1, r2, r3)) ∧ Aside0 (kq ≤ k) ∧ Aside0 (wc.heap[b2]? = some (.cells #[.int .i64 a0_0, .int .i64 a0_1] 28 (0, 0))) ∧ Aside0 (wc.heap[b3]? = some (.cells #[.int .i64 a1_0, .int .i64 a1_1, .bool a1_2, .bool a1_3] 30 (0, 0))) ∧ Aside0 (Below w.heap.size w wc))
 case first => (
 have H := c2.out
 clear c2
 obtain ⟨c7, A7, H⟩ := bD H
 try dsimp only at H
 by_cases c8 : c7 = true
 ·(
 subst c8
 rw [if_pos rfl] at H
 obtain ⟨b4, A9, H⟩ := bD H
 try dsimp only at H
 have H' := Aside0.mk H
 clear H
 have h2 := a9.out
 have h3 := b0.out
 obtain ⟨c9, d0, d1, d2⟩ := cf2 a7
 obtain ⟨d3, d4, d5, d6, d7, d8, d9, e0⟩ := cf4 a8
 go_wp2_with (first | (go_at_call 22; (with_reducible refine (impl_IsBeam.calls a0_0 a0_1 a1_0 a1_1 a1_2 a1_3 true _ A7.out).mono ?_); rintro e c5 ⟨rfl, hb⟩; replace a7 := bQ a7 hb; replace a8 := bQ a8 hb; replace HB := Aside0.mk (below_step bB hb); (try clear hb)) | (go_at_call 56; (with_reducible refine (impl_isSteps.calls a2 b4 _ A9.out).mono ?_); rintro e w' ⟨rfl, ⟨nd, rfl⟩⟩; (try first | exact ⟨rfl, _, World.drewN_drewN _ _ _⟩ | exact ⟨rfl, _, Eq.trans (World.drewN_drewN _ _ _) (congrArg (World.drewN _) (Nat.add_assoc _ _ _))⟩)))
 repeat (go_quiet (first | (go_at_call 22; (with_reducible refine (impl_IsBeam.calls a0_0 a0_1 a1_0 a1_1 a1_2 a1_3 true _ A7.out).mono ?_); rintro e c5 ⟨rfl, hb⟩; replace a7 := bQ a7 hb; replace a8 := bQ a8 hb; replace HB := Aside0.mk (below_step bB hb); (try clear hb)) | (go_at_call 56; (with_reducible refine (impl_isSteps.calls a2 b4 _ A9.out).mono ?_); rintro e w' ⟨rfl, ⟨nd, rfl⟩⟩; (try first | exact ⟨rfl, _, World.drewN_drewN _ _ _⟩ | exact ⟨rfl, _, Eq.trans (World.drewN_drewN _ _ _) (congrArg (World.drewN _) (Nat.add_assoc _ _ _))⟩))); try go_wp2_with (first | (go_at_call 22; (with_reducible refine (impl_IsBeam.calls a0_0 a0_1 a1_0 a1_1 a1_2 a1_3 true _ A7.out).mono ?_); rintro e c5 ⟨rfl, hb⟩; replace a7 := bQ a7 hb; replace a8 := bQ a8 hb; replace HB := Aside0.mk (below_step bB hb); (try clear hb)) | (go_at_call 56; (with_reducible refine (impl_isSteps.calls a2 b4 _ A9.out).mono ?_); rintro e w' ⟨rfl, ⟨nd, rfl⟩⟩; (try first | exact ⟨rfl, _, World.drewN_drewN _ _ _⟩ | exact ⟨rfl, _, Eq.trans (World.drewN_drewN _ _ _) (congrArg (World.drewN _) (Nat.add_assoc _ _ _))⟩))))
 go_meet
 case rel => exact ⟨_, (!b4), sR, H', ⟨by first | omega | exact Nat.le_refl _⟩, (bA a7), (bA a8), ⟨bB⟩⟩
 )
 ·(
 replace c8 := Bool.eq_false_iff.mpr c8
 subst c8
 rw [if_neg nft] at H
 have H' := Aside0.mk H
 clear H
 have h4 := a9.out
 have h5 := b0.out
 obtain ⟨e1, e2, e3, e4⟩ := cf2 a7
 obtain ⟨e5, e6, e7, e8, e9, g0, g1, g2⟩ := cf4 a8
 go_wp2_with (first | (go_at_call 22; (with_reducible refine (impl_IsBeam.calls a0_0 a0_1 a1_0 a1_1 a1_2 a1_3 false _ A7.out).mono ?_); rintro e c6 ⟨rfl, hb⟩; replace a7 := bQ a7 hb; replace a8 := bQ a8 hb; replace HB := Aside0.mk (below_step bB hb); (try clear hb)))
 repeat (go_quiet (first | (go_at_call 22; (with_reducible refine (impl_IsBeam.calls a0_0 a0_1 a1_0 a1_1 a1_2 a1_3 false _ A7.out).mono ?_); rintro e c6 ⟨rfl, hb⟩; replace a7 := bQ a7 hb; replace a8 := bQ a8 hb; replace HB := Aside0.mk (below_step bB hb); (try clear hb))); try go_wp2_with (first | (go_at_call 22; (with_reducible refine (impl_IsBeam.calls a0_0 a0_1 a1_0 a1_1 a1_2 a1_3 false _ A7.out).mono ?_); rintro e c6 ⟨rfl, hb⟩; replace a7 := bQ a7 hb; replace a8 := bQ a8 hb; replace HB := Aside0.mk (below_step bB hb); (try clear hb))))
 go_meet
 case rel => exact ⟨_, (true), sR, H', ⟨by first | omega | exact Nat.le_refl _⟩, (bA a7), (bA a8), ⟨bB⟩⟩
 )
 )
 case rest => (
 clear c2
 obtain ⟨kq, b1, rfl, HA, HJ3, a7, a8, HB⟩ := hcut
 cases kq with
 | zero => exact absurd HA.out (by simp [impl_UnfoldedPlace.j0])
 | succ i0 => (
 have H := HA.out
 clear HA
 simp only [impl_UnfoldedPlace.j0] at H
 by_cases c1 : b1 = true
 ·(
 subst c1
 rw [if_pos rfl] at H
 simp only [Option.some.injEq, Prod.mk.injEq] at H
 obtain ⟨rfl, rfl, rfl⟩ := H
 go_wp2
 repeat (go_quiet (fail); try go_wp2)
 go_ret3
 exact ⟨sE, bI⟩
 )
 ·(
 replace c1 := Bool.eq_false_iff.mpr c1
 subst c1
 rw [if_neg nft] at H
 obtain ⟨b5, c3, H⟩ := bD H
 try dsimp only at H
 obtain ⟨b6, c4, H⟩ := bD H
 try dsimp only at H
 simp only [Option.some.injEq, Prod.mk.injEq] at H
 obtain ⟨rfl, rfl, rfl⟩ := H
 have h6 := b0.out
 have h7 := a9.out
 obtain ⟨g3, g4, g5, g6, g7, g8, g9, h0⟩ := cf4 a8
 go_wp2_with (first | (go_at_call 64; (with_reducible refine (impl_sign.calls a1_2 b5 _ c3.out).mono ?_); rintro e w' ⟨rfl, ⟨nd, rfl⟩⟩; (try first | exact ⟨rfl, _, World.drewN_drewN _ _ _⟩ | exact ⟨rfl, _, Eq.trans (World.drewN_drewN _ _ _) (congrArg (World.drewN _) (Nat.add_assoc _ _ _))⟩)) | (go_at_call 64; (with_reducible refine (impl_sign.calls a1_3 b6 _ c4.out).mono ?_); rintro e w' ⟨rfl, ⟨nd, rfl⟩⟩; (try first | exact ⟨rfl, _, World.drewN_drewN _ _ _⟩ | exact ⟨rfl, _, Eq.trans (World.drewN_drewN _ _ _) (congrArg (World.drewN _) (Nat.add_assoc _ _ _))⟩)))
 repeat (go_quiet (first | (go_at_call 64; (with_reducible refine (impl_sign.calls a1_2 b5 _ c3.out).mono ?_); rintro e w' ⟨rfl, ⟨nd, rfl⟩⟩; (try first | exact ⟨rfl, _, World.drewN_drewN _ _ _⟩ | exact ⟨rfl, _, Eq.trans (World.drewN_drewN _ _ _) (congrArg (World.drewN _) (Nat.add_assoc _ _ _))⟩)) | (go_at_call 64; (with_reducible refine (impl_sign.calls a1_3 b6 _ c4.out).mono ?_); rintro e w' ⟨rfl, ⟨nd, rfl⟩⟩; (try first | exact ⟨rfl, _, World.drewN_drewN _ _ _⟩ | exact ⟨rfl, _, Eq.trans (World.drewN_drewN _ _ _) (congrArg (World.drewN _) (Nat.add_assoc _ _ _))⟩))); try go_wp2_with (first | (go_at_call 64; (with_reducible refine (impl_sign.calls a1_2 b5 _ c3.out).mono ?_); rintro e w' ⟨rfl, ⟨nd, rfl⟩⟩; (try first | exact ⟨rfl, _, World.drewN_drewN _ _ _⟩ | exact ⟨rfl, _, Eq.trans (World.drewN_drewN _ _ _) (congrArg (World.drewN _) (Nat.add_assoc _ _ _))⟩)) | (go_at_call 64; (with_reducible refine (impl_sign.calls a1_3 b6 _ c4.out).mono ?_); rintro e w' ⟨rfl, ⟨nd, rfl⟩⟩; (try first | exact ⟨rfl, _, World.drewN_drewN _ _ _⟩ | exact ⟨rfl, _, Eq.trans (World.drewN_drewN _ _ _) (congrArg (World.drewN _) (Nat.add_assoc _ _ _))⟩))))
 go_ret3
 exact ⟨sE, bI⟩
 )
 )
 )

/-! ### spec_UnfoldedPlace: function 33 -/
def spec_UnfoldedPlace.f (a0_0 : Int) (a0_1 : Int) (a1_0 : Int) (a1_1 : Int) (a1_2 : Bool) (a1_3 : Bool) (a2 : Int) : Option (Int × Int × Bool) := (spec_beAsked.f a0_0 a0_1 a1_0 a1_1 a1_2 a1_3 a2 100000).bind fun t354 => (if t354 = true then (if a1_2 = true then (if a1_3 = true then (some (wrap64 (a1_0 + a2), wrap64 (a1_1 + a2), true)) else (some (wrap64 (a1_0 + a2), wrap64 (a1_1 - a2), true))) else (if a1_3 = true then (some (wrap64 (a1_0 - a2), wrap64 (a1_1 + a2), true)) else (some (wrap64 (a1_0 - a2), wrap64 (a1_1 - a2), true)))) else (some (0, 0, false)))
set_option maxHeartbeats 8000000 in
set_option maxRecDepth 100000 in
theorem spec_UnfoldedPlace.calls (a0_0 : Int) (a0_1 : Int) (a1_0 : Int) (a1_1 : Int) (a1_2 : Bool) (a1_3 : Bool) (a2 : Int) (r1 : Int) (r2 : Int) (r3 : Bool) (w : World) (h : spec_UnfoldedPlace.f a0_0 a0_1 a1_0 a1_1 a1_2 a1_3 a2 = some (r1, r2, r3)) :
    Calls Try.prog 33 #[.agg #[.int .i64 a0_0, .int .i64 a0_1], .agg #[.int .i64 a1_0, .int .i64 a1_1, .bool a1_2, .bool a1_3], .int .i64 a2] w fun e w' => e = .returned (.tuple #[.int .i64 r1, .int .i64 r2, .bool r3]) ∧ Below w.heap.size w w' := by
 have o8 := Try.underlying28
 have o9 := Try.underlying30
 have HB := Aside0.mk (Below.refl w.heap.size w)
 have H := h
 unfold spec_UnfoldedPlace.f at H
 clear h
 obtain ⟨o7, A4, H⟩ := bD H
 try dsimp only at H
 by_cases c5 : o7 = true
 ·(
 subst c5
 rw [if_pos rfl] at H
 by_cases c6 : a1_2 = true
 ·(
 subst c6
 rw [if_pos rfl] at H
 by_cases c7 : a1_3 = true
 ·(
 subst c7
 rw [if_pos rfl] at H
 simp only [Option.some.injEq, Prod.mk.injEq] at H
 obtain ⟨rfl, rfl, rfl⟩ := H
 go_enter Try.func33, Try.ntmps33
 go_wp2_with (first | ((with_reducible refine gate_dst (N := 3) rfl ?_); refine box_ (cs := #[.int .i64 a0_0, .int .i64 a0_1]) (t := 28) fun b1 hg w8 hbox hb => ?_; have a7 := Aside0.mk (hbox); have b2 := bS HB hg; have b3 := bS HB hg; replace HB := Aside0.mk (below_step bB hb); clear hb hbox hg) | ((with_reducible refine gate_dst (N := 4) rfl ?_); refine box_ (cs := #[.int .i64 a1_0, .int .i64 a1_1, .bool true, .bool true]) (t := 30) fun b4 hg w9 hbox hb => ?_; have a8 := Aside0.mk (hbox); have b5 := bS HB hg; have b6 := bS HB hg; have a9 := bL a7 hg; have b0 := bM a7 hg; replace a7 := bQ a7 hb; replace HB := Aside0.mk (below_step bB hb); clear hb hbox hg; have m3 := a9.out; have m4 := b0.out; obtain ⟨b7, b8, b9, c0⟩ := cf2 a7; obtain ⟨c1, c2, c3, c4, c8, c9, d0, d1⟩ := cf4 a8) | (go_at_call 48; (with_reducible refine (spec_beAsked.calls a0_0 a0_1 a1_0 a1_1 true true a2 100000 true _ A4.out).mono ?_); rintro e n4 ⟨rfl, hb⟩; replace a7 := bQ a7 hb; replace a8 := bQ a8 hb; replace HB := Aside0.mk (below_step bB hb); (try clear hb); obtain ⟨d2, d3, d4, d5, d6, d7, d8, d9⟩ := cf4 a8))
 repeat (go_quiet (first | ((with_reducible refine gate_dst (N := 3) rfl ?_); refine box_ (cs := #[.int .i64 a0_0, .int .i64 a0_1]) (t := 28) fun b1 hg w8 hbox hb => ?_; have a7 := Aside0.mk (hbox); have b2 := bS HB hg; have b3 := bS HB hg; replace HB := Aside0.mk (below_step bB hb); clear hb hbox hg) | ((with_reducible refine gate_dst (N := 4) rfl ?_); refine box_ (cs := #[.int .i64 a1_0, .int .i64 a1_1, .bool true, .bool true]) (t := 30) fun b4 hg w9 hbox hb => ?_; have a8 := Aside0.mk (hbox); have b5 := bS HB hg; have b6 := bS HB hg; have a9 := bL a7 hg; have b0 := bM a7 hg; replace a7 := bQ a7 hb; replace HB := Aside0.mk (below_step bB hb); clear hb hbox hg; have m3 := a9.out; have m4 := b0.out; obtain ⟨b7, b8, b9, c0⟩ := cf2 a7; obtain ⟨c1, c2, c3, c4, c8, c9, d0, d1⟩ := cf4 a8) | (go_at_call 48; (with_reducible refine (spec_beAsked.calls a0_0 a0_1 a1_0 a1_1 true true a2 100000 true _ A4.out).mono ?_); rintro e n4 ⟨rfl, hb⟩; replace a7 := bQ a7 hb; replace a8 := bQ a8 hb; replace HB := Aside0.mk (below_step bB hb); (try clear hb); obtain ⟨d2, d3, d4, d5, d6, d7, d8, d9⟩ := cf4 a8)); try go_wp2_with (first | ((with_reducible refine gate_dst (N := 3) rfl ?_); refine box_ (cs := #[.int .i64 a0_0, .int .i64 a0_1]) (t := 28) fun b1 hg w8 hbox hb => ?_; have a7 := Aside0.mk (hbox); have b2 := bS HB hg; have b3 := bS HB hg; replace HB := Aside0.mk (below_step bB hb); clear hb hbox hg) | ((with_reducible refine gate_dst (N := 4) rfl ?_); refine box_ (cs := #[.int .i64 a1_0, .int .i64 a1_1, .bool true, .bool true]) (t := 30) fun b4 hg w9 hbox hb => ?_; have a8 := Aside0.mk (hbox); have b5 := bS HB hg; have b6 := bS HB hg; have a9 := bL a7 hg; have b0 := bM a7 hg; replace a7 := bQ a7 hb; replace HB := Aside0.mk (below_step bB hb); clear hb hbox hg; have m3 := a9.out; have m4 := b0.out; obtain ⟨b7, b8, b9, c0⟩ := cf2 a7; obtain ⟨c1, c2, c3, c4, c8, c9, d0, d1⟩ := cf4 a8) | (go_at_call 48; (with_reducible refine (spec_beAsked.calls a0_0 a0_1 a1_0 a1_1 true true a2 100000 true _ A4.out).mono ?_); rintro e n4 ⟨rfl, hb⟩; replace a7 := bQ a7 hb; replace a8 := bQ a8 hb; replace HB := Aside0.mk (below_step bB hb); (try clear hb); obtain ⟨d2, d3, d4, d5, d6, d7, d8, d9⟩ := cf4 a8)))
 go_ret3
 exact ⟨sE, bI⟩
 )
 ·(
 replace c7 := Bool.eq_false_iff.mpr c7
 subst c7
 rw [if_neg nft] at H
 simp only [Option.some.injEq, Prod.mk.injEq] at H
 obtain ⟨rfl, rfl, rfl⟩ := H
 go_enter Try.func33, Try.ntmps33
 go_wp2_with (first | ((with_reducible refine gate_dst (N := 3) rfl ?_); refine box_ (cs := #[.int .i64 a0_0, .int .i64 a0_1]) (t := 28) fun b1 hg n5 hbox hb => ?_; have a7 := Aside0.mk (hbox); have b2 := bS HB hg; have b3 := bS HB hg; replace HB := Aside0.mk (below_step bB hb); clear hb hbox hg) | ((with_reducible refine gate_dst (N := 4) rfl ?_); refine box_ (cs := #[.int .i64 a1_0, .int .i64 a1_1, .bool true, .bool false]) (t := 30) fun b4 hg n6 hbox hb => ?_; have a8 := Aside0.mk (hbox); have b5 := bS HB hg; have b6 := bS HB hg; have a9 := bL a7 hg; have b0 := bM a7 hg; replace a7 := bQ a7 hb; replace HB := Aside0.mk (below_step bB hb); clear hb hbox hg; have m5 := a9.out; have m6 := b0.out; obtain ⟨e0, e1, e2, e3⟩ := cf2 a7; obtain ⟨e4, e5, e6, e7, e8, e9, g0, g1⟩ := cf4 a8) | (go_at_call 48; (with_reducible refine (spec_beAsked.calls a0_0 a0_1 a1_0 a1_1 true false a2 100000 true _ A4.out).mono ?_); rintro e n7 ⟨rfl, hb⟩; replace a7 := bQ a7 hb; replace a8 := bQ a8 hb; replace HB := Aside0.mk (below_step bB hb); (try clear hb); obtain ⟨g2, g3, g4, g5, g6, g7, g8, g9⟩ := cf4 a8))
 repeat (go_quiet (first | ((with_reducible refine gate_dst (N := 3) rfl ?_); refine box_ (cs := #[.int .i64 a0_0, .int .i64 a0_1]) (t := 28) fun b1 hg n5 hbox hb => ?_; have a7 := Aside0.mk (hbox); have b2 := bS HB hg; have b3 := bS HB hg; replace HB := Aside0.mk (below_step bB hb); clear hb hbox hg) | ((with_reducible refine gate_dst (N := 4) rfl ?_); refine box_ (cs := #[.int .i64 a1_0, .int .i64 a1_1, .bool true, .bool false]) (t := 30) fun b4 hg n6 hbox hb => ?_; have a8 := Aside0.mk (hbox); have b5 := bS HB hg; have b6 := bS HB hg; have a9 := bL a7 hg; have b0 := bM a7 hg; replace a7 := bQ a7 hb; replace HB := Aside0.mk (below_step bB hb); clear hb hbox hg; have m5 := a9.out; have m6 := b0.out; obtain ⟨e0, e1, e2, e3⟩ := cf2 a7; obtain ⟨e4, e5, e6, e7, e8, e9, g0, g1⟩ := cf4 a8) | (go_at_call 48; (with_reducible refine (spec_beAsked.calls a0_0 a0_1 a1_0 a1_1 true false a2 100000 true _ A4.out).mono ?_); rintro e n7 ⟨rfl, hb⟩; replace a7 := bQ a7 hb; replace a8 := bQ a8 hb; replace HB := Aside0.mk (below_step bB hb); (try clear hb); obtain ⟨g2, g3, g4, g5, g6, g7, g8, g9⟩ := cf4 a8)); try go_wp2_with (first | ((with_reducible refine gate_dst (N := 3) rfl ?_); refine box_ (cs := #[.int .i64 a0_0, .int .i64 a0_1]) (t := 28) fun b1 hg n5 hbox hb => ?_; have a7 := Aside0.mk (hbox); have b2 := bS HB hg; have b3 := bS HB hg; replace HB := Aside0.mk (below_step bB hb); clear hb hbox hg) | ((with_reducible refine gate_dst (N := 4) rfl ?_); refine box_ (cs := #[.int .i64 a1_0, .int .i64 a1_1, .bool true, .bool false]) (t := 30) fun b4 hg n6 hbox hb => ?_; have a8 := Aside0.mk (hbox); have b5 := bS HB hg; have b6 := bS HB hg; have a9 := bL a7 hg; have b0 := bM a7 hg; replace a7 := bQ a7 hb; replace HB := Aside0.mk (below_step bB hb); clear hb hbox hg; have m5 := a9.out; have m6 := b0.out; obtain ⟨e0, e1, e2, e3⟩ := cf2 a7; obtain ⟨e4, e5, e6, e7, e8, e9, g0, g1⟩ := cf4 a8) | (go_at_call 48; (with_reducible refine (spec_beAsked.calls a0_0 a0_1 a1_0 a1_1 true false a2 100000 true _ A4.out).mono ?_); rintro e n7 ⟨rfl, hb⟩; replace a7 := bQ a7 hb; replace a8 := bQ a8 hb; replace HB := Aside0.mk (below_step bB hb); (try clear hb); obtain ⟨g2, g3, g4, g5, g6, g7, g8, g9⟩ := cf4 a8)))
 go_ret3
 exact ⟨sE, bI⟩
 )
 )
 ·(
 replace c6 := Bool.eq_false_iff.mpr c6
 subst c6
 rw [if_neg nft] at H
 by_cases m7 : a1_3 = true
 ·(
 subst m7
 rw [if_pos rfl] at H
 simp only [Option.some.injEq, Prod.mk.injEq] at H
 obtain ⟨rfl, rfl, rfl⟩ := H
 go_enter Try.func33, Try.ntmps33
 go_wp2_with (first | ((with_reducible refine gate_dst (N := 3) rfl ?_); refine box_ (cs := #[.int .i64 a0_0, .int .i64 a0_1]) (t := 28) fun b1 hg n8 hbox hb => ?_; have a7 := Aside0.mk (hbox); have b2 := bS HB hg; have b3 := bS HB hg; replace HB := Aside0.mk (below_step bB hb); clear hb hbox hg) | ((with_reducible refine gate_dst (N := 4) rfl ?_); refine box_ (cs := #[.int .i64 a1_0, .int .i64 a1_1, .bool false, .bool true]) (t := 30) fun b4 hg n9 hbox hb => ?_; have a8 := Aside0.mk (hbox); have b5 := bS HB hg; have b6 := bS HB hg; have a9 := bL a7 hg; have b0 := bM a7 hg; replace a7 := bQ a7 hb; replace HB := Aside0.mk (below_step bB hb); clear hb hbox hg; have m8 := a9.out; have m9 := b0.out; obtain ⟨h0, h1, h2, h3⟩ := cf2 a7; obtain ⟨h4, h5, h6, h7, h8, h9, i0, i1⟩ := cf4 a8) | (go_at_call 48; (with_reducible refine (spec_beAsked.calls a0_0 a0_1 a1_0 a1_1 false true a2 100000 true _ A4.out).mono ?_); rintro e o0 ⟨rfl, hb⟩; replace a7 := bQ a7 hb; replace a8 := bQ a8 hb; replace HB := Aside0.mk (below_step bB hb); (try clear hb); obtain ⟨i2, i3, i4, i5, i6, i7, i9, j0⟩ := cf4 a8))
 repeat (go_quiet (first | ((with_reducible refine gate_dst (N := 3) rfl ?_); refine box_ (cs := #[.int .i64 a0_0, .int .i64 a0_1]) (t := 28) fun b1 hg n8 hbox hb => ?_; have a7 := Aside0.mk (hbox); have b2 := bS HB hg; have b3 := bS HB hg; replace HB := Aside0.mk (below_step bB hb); clear hb hbox hg) | ((with_reducible refine gate_dst (N := 4) rfl ?_); refine box_ (cs := #[.int .i64 a1_0, .int .i64 a1_1, .bool false, .bool true]) (t := 30) fun b4 hg n9 hbox hb => ?_; have a8 := Aside0.mk (hbox); have b5 := bS HB hg; have b6 := bS HB hg; have a9 := bL a7 hg; have b0 := bM a7 hg; replace a7 := bQ a7 hb; replace HB := Aside0.mk (below_step bB hb); clear hb hbox hg; have m8 := a9.out; have m9 := b0.out; obtain ⟨h0, h1, h2, h3⟩ := cf2 a7; obtain ⟨h4, h5, h6, h7, h8, h9, i0, i1⟩ := cf4 a8) | (go_at_call 48; (with_reducible refine (spec_beAsked.calls a0_0 a0_1 a1_0 a1_1 false true a2 100000 true _ A4.out).mono ?_); rintro e o0 ⟨rfl, hb⟩; replace a7 := bQ a7 hb; replace a8 := bQ a8 hb; replace HB := Aside0.mk (below_step bB hb); (try clear hb); obtain ⟨i2, i3, i4, i5, i6, i7, i9, j0⟩ := cf4 a8)); try go_wp2_with (first | ((with_reducible refine gate_dst (N := 3) rfl ?_); refine box_ (cs := #[.int .i64 a0_0, .int .i64 a0_1]) (t := 28) fun b1 hg n8 hbox hb => ?_; have a7 := Aside0.mk (hbox); have b2 := bS HB hg; have b3 := bS HB hg; replace HB := Aside0.mk (below_step bB hb); clear hb hbox hg) | ((with_reducible refine gate_dst (N := 4) rfl ?_); refine box_ (cs := #[.int .i64 a1_0, .int .i64 a1_1, .bool false, .bool true]) (t := 30) fun b4 hg n9 hbox hb => ?_; have a8 := Aside0.mk (hbox); have b5 := bS HB hg; have b6 := bS HB hg; have a9 := bL a7 hg; have b0 := bM a7 hg; replace a7 := bQ a7 hb; replace HB := Aside0.mk (below_step bB hb); clear hb hbox hg; have m8 := a9.out; have m9 := b0.out; obtain ⟨h0, h1, h2, h3⟩ := cf2 a7; obtain ⟨h4, h5, h6, h7, h8, h9, i0, i1⟩ := cf4 a8) | (go_at_call 48; (with_reducible refine (spec_beAsked.calls a0_0 a0_1 a1_0 a1_1 false true a2 100000 true _ A4.out).mono ?_); rintro e o0 ⟨rfl, hb⟩; replace a7 := bQ a7 hb; replace a8 := bQ a8 hb; replace HB := Aside0.mk (below_step bB hb); (try clear hb); obtain ⟨i2, i3, i4, i5, i6, i7, i9, j0⟩ := cf4 a8)))
 go_ret3
 exact ⟨sE, bI⟩
 )
 ·(
 replace m7 := Bool.eq_false_iff.mpr m7
 subst m7
 rw [if_neg nft] at H
 simp only [Option.some.injEq, Prod.mk.injEq] at H
 obtain ⟨rfl, rfl, rfl⟩ := H
 go_enter Try.func33, Try.ntmps33
 go_wp2_with (first | ((with_reducible refine gate_dst (N := 3) rfl ?_); refine box_ (cs := #[.int .i64 a0_0, .int .i64 a0_1]) (t := 28) fun b1 hg o1 hbox hb => ?_; have a7 := Aside0.mk (hbox); have b2 := bS HB hg; have b3 := bS HB hg; replace HB := Aside0.mk (below_step bB hb); clear hb hbox hg) | ((with_reducible refine gate_dst (N := 4) rfl ?_); refine box_ (cs := #[.int .i64 a1_0, .int .i64 a1_1, .bool false, .bool false]) (t := 30) fun b4 hg o2 hbox hb => ?_; have a8 := Aside0.mk (hbox); have b5 := bS HB hg; have b6 := bS HB hg; have a9 := bL a7 hg; have b0 := bM a7 hg; replace a7 := bQ a7 hb; replace HB := Aside0.mk (below_step bB hb); clear hb hbox hg; have n0 := a9.out; have n1 := b0.out; obtain ⟨j1, j2, j3, j4⟩ := cf2 a7; obtain ⟨j5, j6, j7, j8, j9, k0, k1, k2⟩ := cf4 a8) | (go_at_call 48; (with_reducible refine (spec_beAsked.calls a0_0 a0_1 a1_0 a1_1 false false a2 100000 true _ A4.out).mono ?_); rintro e o3 ⟨rfl, hb⟩; replace a7 := bQ a7 hb; replace a8 := bQ a8 hb; replace HB := Aside0.mk (below_step bB hb); (try clear hb); obtain ⟨k3, k4, k5, k6, k7, k8, k9, l0⟩ := cf4 a8))
 repeat (go_quiet (first | ((with_reducible refine gate_dst (N := 3) rfl ?_); refine box_ (cs := #[.int .i64 a0_0, .int .i64 a0_1]) (t := 28) fun b1 hg o1 hbox hb => ?_; have a7 := Aside0.mk (hbox); have b2 := bS HB hg; have b3 := bS HB hg; replace HB := Aside0.mk (below_step bB hb); clear hb hbox hg) | ((with_reducible refine gate_dst (N := 4) rfl ?_); refine box_ (cs := #[.int .i64 a1_0, .int .i64 a1_1, .bool false, .bool false]) (t := 30) fun b4 hg o2 hbox hb => ?_; have a8 := Aside0.mk (hbox); have b5 := bS HB hg; have b6 := bS HB hg; have a9 := bL a7 hg; have b0 := bM a7 hg; replace a7 := bQ a7 hb; replace HB := Aside0.mk (below_step bB hb); clear hb hbox hg; have n0 := a9.out; have n1 := b0.out; obtain ⟨j1, j2, j3, j4⟩ := cf2 a7; obtain ⟨j5, j6, j7, j8, j9, k0, k1, k2⟩ := cf4 a8) | (go_at_call 48; (with_reducible refine (spec_beAsked.calls a0_0 a0_1 a1_0 a1_1 false false a2 100000 true _ A4.out).mono ?_); rintro e o3 ⟨rfl, hb⟩; replace a7 := bQ a7 hb; replace a8 := bQ a8 hb; replace HB := Aside0.mk (below_step bB hb); (try clear hb); obtain ⟨k3, k4, k5, k6, k7, k8, k9, l0⟩ := cf4 a8)); try go_wp2_with (first | ((with_reducible refine gate_dst (N := 3) rfl ?_); refine box_ (cs := #[.int .i64 a0_0, .int .i64 a0_1]) (t := 28) fun b1 hg o1 hbox hb => ?_; have a7 := Aside0.mk (hbox); have b2 := bS HB hg; have b3 := bS HB hg; replace HB := Aside0.mk (below_step bB hb); clear hb hbox hg) | ((with_reducible refine gate_dst (N := 4) rfl ?_); refine box_ (cs := #[.int .i64 a1_0, .int .i64 a1_1, .bool false, .bool false]) (t := 30) fun b4 hg o2 hbox hb => ?_; have a8 := Aside0.mk (hbox); have b5 := bS HB hg; have b6 := bS HB hg; have a9 := bL a7 hg; have b0 := bM a7 hg; replace a7 := bQ a7 hb; replace HB := Aside0.mk (below_step bB hb); clear hb hbox hg; have n0 := a9.out; have n1 := b0.out; obtain ⟨j1, j2, j3, j4⟩ := cf2 a7; obtain ⟨j5, j6, j7, j8, j9, k0, k1, k2⟩ := cf4 a8) | (go_at_call 48; (with_reducible refine (spec_beAsked.calls a0_0 a0_1 a1_0 a1_1 false false a2 100000 true _ A4.out).mono ?_); rintro e o3 ⟨rfl, hb⟩; replace a7 := bQ a7 hb; replace a8 := bQ a8 hb; replace HB := Aside0.mk (below_step bB hb); (try clear hb); obtain ⟨k3, k4, k5, k6, k7, k8, k9, l0⟩ := cf4 a8)))
 go_ret3
 exact ⟨sE, bI⟩
 )
 )
 )
 ·(
 replace c5 := Bool.eq_false_iff.mpr c5
 subst c5
 rw [if_neg nft] at H
 simp only [Option.some.injEq, Prod.mk.injEq] at H
 obtain ⟨rfl, rfl, rfl⟩ := H
 go_enter Try.func33, Try.ntmps33
 go_wp2_with (first | ((with_reducible refine gate_dst (N := 3) rfl ?_); refine box_ (cs := #[.int .i64 a0_0, .int .i64 a0_1]) (t := 28) fun b1 hg o4 hbox hb => ?_; have a7 := Aside0.mk (hbox); have b2 := bS HB hg; have b3 := bS HB hg; replace HB := Aside0.mk (below_step bB hb); clear hb hbox hg) | ((with_reducible refine gate_dst (N := 4) rfl ?_); refine box_ (cs := #[.int .i64 a1_0, .int .i64 a1_1, .bool a1_2, .bool a1_3]) (t := 30) fun b4 hg o5 hbox hb => ?_; have a8 := Aside0.mk (hbox); have b5 := bS HB hg; have b6 := bS HB hg; have a9 := bL a7 hg; have b0 := bM a7 hg; replace a7 := bQ a7 hb; replace HB := Aside0.mk (below_step bB hb); clear hb hbox hg; have n2 := a9.out; have n3 := b0.out; obtain ⟨l1, l2, l3, l4⟩ := cf2 a7; obtain ⟨l5, l6, l7, l8, l9, m0, m1, m2⟩ := cf4 a8) | (go_at_call 48; (with_reducible refine (spec_beAsked.calls a0_0 a0_1 a1_0 a1_1 a1_2 a1_3 a2 100000 false _ A4.out).mono ?_); rintro e o6 ⟨rfl, hb⟩; replace a7 := bQ a7 hb; replace a8 := bQ a8 hb; replace HB := Aside0.mk (below_step bB hb); (try clear hb)))
 repeat (go_quiet (first | ((with_reducible refine gate_dst (N := 3) rfl ?_); refine box_ (cs := #[.int .i64 a0_0, .int .i64 a0_1]) (t := 28) fun b1 hg o4 hbox hb => ?_; have a7 := Aside0.mk (hbox); have b2 := bS HB hg; have b3 := bS HB hg; replace HB := Aside0.mk (below_step bB hb); clear hb hbox hg) | ((with_reducible refine gate_dst (N := 4) rfl ?_); refine box_ (cs := #[.int .i64 a1_0, .int .i64 a1_1, .bool a1_2, .bool a1_3]) (t := 30) fun b4 hg o5 hbox hb => ?_; have a8 := Aside0.mk (hbox); have b5 := bS HB hg; have b6 := bS HB hg; have a9 := bL a7 hg; have b0 := bM a7 hg; replace a7 := bQ a7 hb; replace HB := Aside0.mk (below_step bB hb); clear hb hbox hg; have n2 := a9.out; have n3 := b0.out; obtain ⟨l1, l2, l3, l4⟩ := cf2 a7; obtain ⟨l5, l6, l7, l8, l9, m0, m1, m2⟩ := cf4 a8) | (go_at_call 48; (with_reducible refine (spec_beAsked.calls a0_0 a0_1 a1_0 a1_1 a1_2 a1_3 a2 100000 false _ A4.out).mono ?_); rintro e o6 ⟨rfl, hb⟩; replace a7 := bQ a7 hb; replace a8 := bQ a8 hb; replace HB := Aside0.mk (below_step bB hb); (try clear hb))); try go_wp2_with (first | ((with_reducible refine gate_dst (N := 3) rfl ?_); refine box_ (cs := #[.int .i64 a0_0, .int .i64 a0_1]) (t := 28) fun b1 hg o4 hbox hb => ?_; have a7 := Aside0.mk (hbox); have b2 := bS HB hg; have b3 := bS HB hg; replace HB := Aside0.mk (below_step bB hb); clear hb hbox hg) | ((with_reducible refine gate_dst (N := 4) rfl ?_); refine box_ (cs := #[.int .i64 a1_0, .int .i64 a1_1, .bool a1_2, .bool a1_3]) (t := 30) fun b4 hg o5 hbox hb => ?_; have a8 := Aside0.mk (hbox); have b5 := bS HB hg; have b6 := bS HB hg; have a9 := bL a7 hg; have b0 := bM a7 hg; replace a7 := bQ a7 hb; replace HB := Aside0.mk (below_step bB hb); clear hb hbox hg; have n2 := a9.out; have n3 := b0.out; obtain ⟨l1, l2, l3, l4⟩ := cf2 a7; obtain ⟨l5, l6, l7, l8, l9, m0, m1, m2⟩ := cf4 a8) | (go_at_call 48; (with_reducible refine (spec_beAsked.calls a0_0 a0_1 a1_0 a1_1 a1_2 a1_3 a2 100000 false _ A4.out).mono ?_); rintro e o6 ⟨rfl, hb⟩; replace a7 := bQ a7 hb; replace a8 := bQ a8 hb; replace HB := Aside0.mk (below_step bB hb); (try clear hb))))
 go_ret3
 exact ⟨sE, bI⟩
 )

end Go.Proofs.Ythfbjofmcniogaa.PFnBeamsGoOfAll
