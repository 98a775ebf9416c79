-- Written by xprint.py, a program of this session, for this seat; Lean checks it.
import Derived.Test.YthfbjofmcniogaaVN
import Derived.Test.YthfbjofmcniogaaPFnBeamsGox0
import Derived.Test.YthfbjofmcniogaaPFnBeamsGox6
import Derived.Test.YthfbjofmcniogaaPFnBeamsGox9
import Derived.Test.YthfbjofmcniogaaPFnBeamsGox12
namespace Go.Proofs.Ythfbjofmcniogaa.PFnBeamsGo
open Go.Proofs.YthfbjofmcniogaaV Go.RowKit Go.Proofs.YthfbjofmcniogaaW.PrintWords Go.Proofs.YthfbjofmcniogaaW.PrintLast Go.Proofs.YthfbjofmcniogaaW.PrintMore
attribute [local go_sem] max2_int min2_int max_two min_two max_three min_three max_four min_four   -- for this text's walks alone
set_option linter.unusedVariables false
set_option linter.unusedSimpArgs false

/-! ### impl_UnfoldedPlace: function 32 -/
def impl_UnfoldedPlace.j0 : Nat → Int → Bool → Int → Int → Bool → Bool → Option (Int × Int × Bool)
  | 0, _, _, _, _, _, _ => none
  | k + 1, x2, x17, x348000, x348001, x348002, x348003 => if x17 = true then (some (0, 0, false)) else ((impl_sign.f x348002).bind fun t350 => ((impl_sign.f x348003).bind fun t351 => (some (wrap64 (x348000 + (wrap64 (x2 * t350))), wrap64 (x348001 + (wrap64 (x2 * t351))), true))))
def impl_UnfoldedPlace.f (k : Nat) (a0_0 : Int) (a0_1 : Int) (a1_0 : Int) (a1_1 : Int) (a1_2 : Bool) (a1_3 : Bool) (a2 : Int) : Option (Int × Int × Bool) := (impl_IsBeam.f a0_0 a0_1 a1_0 a1_1 a1_2 a1_3).bind fun t348 => (if t348 = true then ((impl_isSteps.f a2).bind fun t349 => (impl_UnfoldedPlace.j0 k a2 (!t349) a1_0 a1_1 a1_2 a1_3)) else (impl_UnfoldedPlace.j0 k a2 true a1_0 a1_1 a1_2 a1_3))
theorem impl_UnfoldedPlace.mono_l : ∀ k, (∀ y0 y1 y2 y3 y4 y5, LeO (impl_UnfoldedPlace.j0 k y0 y1 y2 y3 y4 y5) (impl_UnfoldedPlace.j0 (k + 1) y0 y1 y2 y3 y4 y5))
  | 0 => fun _ _ _ _ _ _ r h => by simp [impl_UnfoldedPlace.j0] at h
  | k + 1 => by
    have ih0 := impl_UnfoldedPlace.mono_l k
    · intro y0 y1 y2 y3 y4 y5
      unfold impl_UnfoldedPlace.j0
      repeat' first
      | (with_reducible exact ih0 _ _ _ _ _ _)
      | (with_reducible exact LeO.refl _)
      | (with_reducible exact LeO.none _)
      | (with_reducible refine LeO.ite ?_ ?_)
      | (with_reducible refine LeO.bind ?_ (fun _ => ?_))
      | exact ih0 _ _ _ _ _ _
      | exact LeO.none _
      | refine LeO.ite ?_ ?_
      | refine LeO.bind ?_ (fun _ => ?_)
theorem impl_UnfoldedPlace.mono : ∀ a0 a1 a2 a3 a4 a5 a6 k, LeO (impl_UnfoldedPlace.f k a0 a1 a2 a3 a4 a5 a6) (impl_UnfoldedPlace.f (k + 1) a0 a1 a2 a3 a4 a5 a6) := by
  intro a0 a1 a2 a3 a4 a5 a6 k
  have ih0 := impl_UnfoldedPlace.mono_l k
  unfold impl_UnfoldedPlace.f
  repeat' first
      | (with_reducible exact ih0 _ _ _ _ _ _)
      | (with_reducible exact LeO.refl _)
      | (with_reducible exact LeO.none _)
      | (with_reducible refine LeO.ite ?_ ?_)
      | (with_reducible refine LeO.bind ?_ (fun _ => ?_))
      | exact ih0 _ _ _ _ _ _
      | exact LeO.none _
      | refine LeO.ite ?_ ?_
      | refine LeO.bind ?_ (fun _ => ?_)
set_option maxHeartbeats 8000000 in
set_option maxRecDepth 100000 in
theorem impl_UnfoldedPlace.calls (k : Nat) (a0_0 : Int) (a0_1 : Int) (a1_0 : Int) (a1_1 : Int) (a1_2 : Bool) (a1_3 : Bool) (a2 : Int) (r1 : Int) (r2 : Int) (r3 : Bool) (w : World) (h : impl_UnfoldedPlace.f k a0_0 a0_1 a1_0 a1_1 a1_2 a1_3 a2 = some (r1, r2, r3)) :
    Calls Try.prog 32 #[.agg #[.int .i64 a0_0, .int .i64 a0_1], .agg #[.int .i64 a1_0, .int .i64 a1_1, .bool a1_2, .bool a1_3], .int .i64 a2] w fun e w' => e = .returned (.tuple #[.int .i64 r1, .int .i64 r2, .bool r3]) ∧ Below w.heap.size w w' := by
 have h9 := Try.underlying28
 have i0 := Try.underlying30
 have HB := Aside0.mk (Below.refl w.heap.size w)
 have H := h
 unfold impl_UnfoldedPlace.f at H
 clear h
 have c3 := Aside0.mk H
 clear H
 go_enter Try.func32, Try.ntmps32
 go_upto_region 1 with (first | ((with_reducible refine gate_dst (N := 3) rfl ?_); refine box_ (cs := #[.int .i64 a0_0, .int .i64 a0_1]) (t := 28) fun b2 hg w5 hbox hb => ?_; have a7 := Aside0.mk (hbox); have b7 := bS HB hg; have b8 := bS HB hg; replace HB := Aside0.mk (below_step bB hb); clear hb hbox hg) | ((with_reducible refine gate_dst (N := 4) rfl ?_); refine box_ (cs := #[.int .i64 a1_0, .int .i64 a1_1, .bool a1_2, .bool a1_3]) (t := 30) fun b3 hg w6 hbox hb => ?_; have a8 := Aside0.mk (hbox); have b9 := bS HB hg; have c1 := bS HB hg; have a9 := bL a7 hg; have b0 := bM a7 hg; replace a7 := bQ a7 hb; replace HB := Aside0.mk (below_step bB hb); clear hb hbox hg))
 repeat (go_quiet (first | ((with_reducible refine gate_dst (N := 3) rfl ?_); refine box_ (cs := #[.int .i64 a0_0, .int .i64 a0_1]) (t := 28) fun b2 hg w5 hbox hb => ?_; have a7 := Aside0.mk (hbox); have b7 := bS HB hg; have b8 := bS HB hg; replace HB := Aside0.mk (below_step bB hb); clear hb hbox hg) | ((with_reducible refine gate_dst (N := 4) rfl ?_); refine box_ (cs := #[.int .i64 a1_0, .int .i64 a1_1, .bool a1_2, .bool a1_3]) (t := 30) fun b3 hg w6 hbox hb => ?_; have a8 := Aside0.mk (hbox); have b9 := bS HB hg; have c1 := bS HB hg; have a9 := bL a7 hg; have b0 := bM a7 hg; replace a7 := bQ a7 hb; replace HB := Aside0.mk (below_step bB hb); clear hb hbox hg)); go_upto_region 1 with (first | ((with_reducible refine gate_dst (N := 3) rfl ?_); refine box_ (cs := #[.int .i64 a0_0, .int .i64 a0_1]) (t := 28) fun b2 hg w5 hbox hb => ?_; have a7 := Aside0.mk (hbox); have b7 := bS HB hg; have b8 := bS HB hg; replace HB := Aside0.mk (below_step bB hb); clear hb hbox hg) | ((with_reducible refine gate_dst (N := 4) rfl ?_); refine box_ (cs := #[.int .i64 a1_0, .int .i64 a1_1, .bool a1_2, .bool a1_3]) (t := 30) fun b3 hg w6 hbox hb => ?_; have a8 := Aside0.mk (hbox); have b9 := bS HB hg; have c1 := bS HB hg; have a9 := bL a7 hg; have b0 := bM a7 hg; replace a7 := bQ a7 hb; replace HB := Aside0.mk (below_step bB hb); clear hb hbox hg)))
 (try simp only [Act.put, List.setIfInBounds_toArray, List.set_cons_zero, List.set_cons_succ])
 go_cut [17] (fun h2 wc => ∃ (kq : Nat) (b1 : Bool), h2 = .bool b1 ∧ Aside0 (impl_UnfoldedPlace.j0 kq a2 b1 a1_0 a1_1 a1_2 a1_3 = some (r1, r2, r3)) ∧ Aside0 (kq ≤ k) ∧ Aside0 (wc.heap[b2]? = some (.cells #[.int .i64 a0_0, .int .i64 a0_1] 28 (0, 0))) ∧ Aside0 (wc.heap[b3]? = some (.cells #[.int .i64 a1_0, .int .i64 a1_1, .bool a1_2, .bool a1_3] 30 (0, 0))) ∧ Aside0 (Below w.heap.size w wc))
 case first => (
 have H := c3.out
 clear c3
 obtain ⟨c9, A7, H⟩ := bD H
 try dsimp only at H
 by_cases c8 : c9 = true
 ·(
 subst c8
 rw [if_pos rfl] at H
 obtain ⟨b4, A9, H⟩ := bD H
 try dsimp only at H
 have H' := Aside0.mk H
 clear H
 have h3 := a9.out
 have h4 := b0.out
 obtain ⟨d0, d1, d2, d3⟩ := cf2 a7
 obtain ⟨d4, d5, d6, d7, d8, d9, e0, e1⟩ := cf4 a8
 go_wp2_with (first | (go_at_call 22; (with_reducible refine (impl_IsBeam.calls a0_0 a0_1 a1_0 a1_1 a1_2 a1_3 true _ A7.out).mono ?_); rintro e c6 ⟨rfl, hb⟩; replace a7 := bQ a7 hb; replace a8 := bQ a8 hb; replace HB := Aside0.mk (below_step bB hb); (try clear hb)) | (go_at_call 56; (with_reducible refine (impl_isSteps.calls a2 b4 _ A9.out).mono ?_); rintro e w' ⟨rfl, ⟨nd, rfl⟩⟩; (try first | exact ⟨rfl, _, World.drewN_drewN _ _ _⟩ | exact ⟨rfl, _, Eq.trans (World.drewN_drewN _ _ _) (congrArg (World.drewN _) (Nat.add_assoc _ _ _))⟩)))
 repeat (go_quiet (first | (go_at_call 22; (with_reducible refine (impl_IsBeam.calls a0_0 a0_1 a1_0 a1_1 a1_2 a1_3 true _ A7.out).mono ?_); rintro e c6 ⟨rfl, hb⟩; replace a7 := bQ a7 hb; replace a8 := bQ a8 hb; replace HB := Aside0.mk (below_step bB hb); (try clear hb)) | (go_at_call 56; (with_reducible refine (impl_isSteps.calls a2 b4 _ A9.out).mono ?_); rintro e w' ⟨rfl, ⟨nd, rfl⟩⟩; (try first | exact ⟨rfl, _, World.drewN_drewN _ _ _⟩ | exact ⟨rfl, _, Eq.trans (World.drewN_drewN _ _ _) (congrArg (World.drewN _) (Nat.add_assoc _ _ _))⟩))); try go_wp2_with (first | (go_at_call 22; (with_reducible refine (impl_IsBeam.calls a0_0 a0_1 a1_0 a1_1 a1_2 a1_3 true _ A7.out).mono ?_); rintro e c6 ⟨rfl, hb⟩; replace a7 := bQ a7 hb; replace a8 := bQ a8 hb; replace HB := Aside0.mk (below_step bB hb); (try clear hb)) | (go_at_call 56; (with_reducible refine (impl_isSteps.calls a2 b4 _ A9.out).mono ?_); rintro e w' ⟨rfl, ⟨nd, rfl⟩⟩; (try first | exact ⟨rfl, _, World.drewN_drewN _ _ _⟩ | exact ⟨rfl, _, Eq.trans (World.drewN_drewN _ _ _) (congrArg (World.drewN _) (Nat.add_assoc _ _ _))⟩))))
 go_meet
 case rel => exact ⟨_, (!b4), sR, H', ⟨by first | omega | exact Nat.le_refl _⟩, (bA a7), (bA a8), ⟨bB⟩⟩
 )
 ·(
 replace c8 := Bool.eq_false_iff.mpr c8
 subst c8
 rw [if_neg nft] at H
 have H' := Aside0.mk H
 clear H
 have h5 := a9.out
 have h6 := b0.out
 obtain ⟨e2, e3, e4, e5⟩ := cf2 a7
 obtain ⟨e6, e7, e8, e9, g0, g1, g2, g3⟩ := cf4 a8
 go_wp2_with (first | (go_at_call 22; (with_reducible refine (impl_IsBeam.calls a0_0 a0_1 a1_0 a1_1 a1_2 a1_3 false _ A7.out).mono ?_); rintro e c7 ⟨rfl, hb⟩; replace a7 := bQ a7 hb; replace a8 := bQ a8 hb; replace HB := Aside0.mk (below_step bB hb); (try clear hb)))
 repeat (go_quiet (first | (go_at_call 22; (with_reducible refine (impl_IsBeam.calls a0_0 a0_1 a1_0 a1_1 a1_2 a1_3 false _ A7.out).mono ?_); rintro e c7 ⟨rfl, hb⟩; replace a7 := bQ a7 hb; replace a8 := bQ a8 hb; replace HB := Aside0.mk (below_step bB hb); (try clear hb))); try go_wp2_with (first | (go_at_call 22; (with_reducible refine (impl_IsBeam.calls a0_0 a0_1 a1_0 a1_1 a1_2 a1_3 false _ A7.out).mono ?_); rintro e c7 ⟨rfl, hb⟩; replace a7 := bQ a7 hb; replace a8 := bQ a8 hb; replace HB := Aside0.mk (below_step bB hb); (try clear hb))))
 go_meet
 case rel => exact ⟨_, (true), sR, H', ⟨by first | omega | exact Nat.le_refl _⟩, (bA a7), (bA a8), ⟨bB⟩⟩
 )
 )
 case rest => (
 clear c3
 obtain ⟨kq, b1, rfl, HA, HJ3, a7, a8, HB⟩ := hcut
 cases kq with
 | zero => exact absurd HA.out (by simp [impl_UnfoldedPlace.j0])
 | succ i1 => (
 have H := HA.out
 clear HA
 simp only [impl_UnfoldedPlace.j0] at H
 by_cases c2 : b1 = true
 ·(
 subst c2
 rw [if_pos rfl] at H
 simp only [Option.some.injEq, Prod.mk.injEq] at H
 obtain ⟨rfl, rfl, rfl⟩ := H
 go_wp2
 repeat (go_quiet (fail); try go_wp2)
 go_ret3
 exact ⟨sE, bI⟩
 )
 ·(
 replace c2 := Bool.eq_false_iff.mpr c2
 subst c2
 rw [if_neg nft] at H
 obtain ⟨b5, c4, H⟩ := bD H
 try dsimp only at H
 obtain ⟨b6, c5, H⟩ := bD H
 try dsimp only at H
 simp only [Option.some.injEq, Prod.mk.injEq] at H
 obtain ⟨rfl, rfl, rfl⟩ := H
 have h7 := b0.out
 have h8 := a9.out
 obtain ⟨g4, g5, g6, g7, g8, g9, h0, h1⟩ := cf4 a8
 go_wp2_with (first | (go_at_call 64; (with_reducible refine (impl_sign.calls a1_2 b5 _ c4.out).mono ?_); rintro e w' ⟨rfl, ⟨nd, rfl⟩⟩; (try first | exact ⟨rfl, _, World.drewN_drewN _ _ _⟩ | exact ⟨rfl, _, Eq.trans (World.drewN_drewN _ _ _) (congrArg (World.drewN _) (Nat.add_assoc _ _ _))⟩)) | (go_at_call 64; (with_reducible refine (impl_sign.calls a1_3 b6 _ c5.out).mono ?_); rintro e w' ⟨rfl, ⟨nd, rfl⟩⟩; (try first | exact ⟨rfl, _, World.drewN_drewN _ _ _⟩ | exact ⟨rfl, _, Eq.trans (World.drewN_drewN _ _ _) (congrArg (World.drewN _) (Nat.add_assoc _ _ _))⟩)))
 repeat (go_quiet (first | (go_at_call 64; (with_reducible refine (impl_sign.calls a1_2 b5 _ c4.out).mono ?_); rintro e w' ⟨rfl, ⟨nd, rfl⟩⟩; (try first | exact ⟨rfl, _, World.drewN_drewN _ _ _⟩ | exact ⟨rfl, _, Eq.trans (World.drewN_drewN _ _ _) (congrArg (World.drewN _) (Nat.add_assoc _ _ _))⟩)) | (go_at_call 64; (with_reducible refine (impl_sign.calls a1_3 b6 _ c5.out).mono ?_); rintro e w' ⟨rfl, ⟨nd, rfl⟩⟩; (try first | exact ⟨rfl, _, World.drewN_drewN _ _ _⟩ | exact ⟨rfl, _, Eq.trans (World.drewN_drewN _ _ _) (congrArg (World.drewN _) (Nat.add_assoc _ _ _))⟩))); try go_wp2_with (first | (go_at_call 64; (with_reducible refine (impl_sign.calls a1_2 b5 _ c4.out).mono ?_); rintro e w' ⟨rfl, ⟨nd, rfl⟩⟩; (try first | exact ⟨rfl, _, World.drewN_drewN _ _ _⟩ | exact ⟨rfl, _, Eq.trans (World.drewN_drewN _ _ _) (congrArg (World.drewN _) (Nat.add_assoc _ _ _))⟩)) | (go_at_call 64; (with_reducible refine (impl_sign.calls a1_3 b6 _ c5.out).mono ?_); rintro e w' ⟨rfl, ⟨nd, rfl⟩⟩; (try first | exact ⟨rfl, _, World.drewN_drewN _ _ _⟩ | exact ⟨rfl, _, Eq.trans (World.drewN_drewN _ _ _) (congrArg (World.drewN _) (Nat.add_assoc _ _ _))⟩))))
 go_ret3
 exact ⟨sE, bI⟩
 )
 )
 )

/-! ### spec_UnfoldedPlace: function 33 -/
def spec_UnfoldedPlace.f (a0_0 : Int) (a0_1 : Int) (a1_0 : Int) (a1_1 : Int) (a1_2 : Bool) (a1_3 : Bool) (a2 : Int) : Option (Int × Int × Bool) := (spec_beAsked.f a0_0 a0_1 a1_0 a1_1 a1_2 a1_3 a2 100000).bind fun t354 => (if t354 = true then (if a1_2 = true then (if a1_3 = true then (some (wrap64 (a1_0 + a2), wrap64 (a1_1 + a2), true)) else (some (wrap64 (a1_0 + a2), wrap64 (a1_1 - a2), true))) else (if a1_3 = true then (some (wrap64 (a1_0 - a2), wrap64 (a1_1 + a2), true)) else (some (wrap64 (a1_0 - a2), wrap64 (a1_1 - a2), true)))) else (some (0, 0, false)))
set_option maxHeartbeats 8000000 in
set_option maxRecDepth 100000 in
theorem spec_UnfoldedPlace.calls (a0_0 : Int) (a0_1 : Int) (a1_0 : Int) (a1_1 : Int) (a1_2 : Bool) (a1_3 : Bool) (a2 : Int) (r1 : Int) (r2 : Int) (r3 : Bool) (w : World) (h : spec_UnfoldedPlace.f a0_0 a0_1 a1_0 a1_1 a1_2 a1_3 a2 = some (r1, r2, r3)) :
    Calls Try.prog 33 #[.agg #[.int .i64 a0_0, .int .i64 a0_1], .agg #[.int .i64 a1_0, .int .i64 a1_1, .bool a1_2, .bool a1_3], .int .i64 a2] w fun e w' => e = .returned (.tuple #[.int .i64 r1, .int .i64 r2, .bool r3]) ∧ Below w.heap.size w w' := by
 have p1 := Try.underlying28
 have p2 := Try.underlying30
 have HB := Aside0.mk (Below.refl w.heap.size w)
 have H := h
 unfold spec_UnfoldedPlace.f at H
 clear h
 obtain ⟨p0, A4, H⟩ := bD H
 try dsimp only at H
 by_cases c5 : p0 = true
 ·(
 subst c5
 rw [if_pos rfl] at H
 by_cases c6 : a1_2 = true
 ·(
 subst c6
 rw [if_pos rfl] at H
 by_cases c7 : a1_3 = true
 ·(
 subst c7
 rw [if_pos rfl] at H
 simp only [Option.some.injEq, Prod.mk.injEq] at H
 obtain ⟨rfl, rfl, rfl⟩ := H
 go_enter Try.func33, Try.ntmps33
 go_wp2_with (first | ((with_reducible refine gate_dst (N := 3) rfl ?_); refine box_ (cs := #[.int .i64 a0_0, .int .i64 a0_1]) (t := 28) fun b1 hg w8 hbox hb => ?_; have a7 := Aside0.mk (hbox); have b2 := bS HB hg; have b3 := bS HB hg; replace HB := Aside0.mk (below_step bB hb); clear hb hbox hg) | ((with_reducible refine gate_dst (N := 4) rfl ?_); refine box_ (cs := #[.int .i64 a1_0, .int .i64 a1_1, .bool true, .bool true]) (t := 30) fun b4 hg w9 hbox hb => ?_; have a8 := Aside0.mk (hbox); have b5 := bS HB hg; have b6 := bS HB hg; have a9 := bL a7 hg; have b0 := bM a7 hg; replace a7 := bQ a7 hb; replace HB := Aside0.mk (below_step bB hb); clear hb hbox hg; have m6 := a9.out; have m7 := b0.out; obtain ⟨b7, b8, b9, c1⟩ := cf2 a7; obtain ⟨c2, c3, c4, c8, c9, d0, d1, d2⟩ := cf4 a8) | (go_at_call 48; (with_reducible refine (spec_beAsked.calls a0_0 a0_1 a1_0 a1_1 true true a2 100000 true _ A4.out).mono ?_); rintro e n7 ⟨rfl, hb⟩; replace a7 := bQ a7 hb; replace a8 := bQ a8 hb; replace HB := Aside0.mk (below_step bB hb); (try clear hb); obtain ⟨d3, d4, d5, d6, d7, d8, d9, e0⟩ := cf4 a8))
 repeat (go_quiet (first | ((with_reducible refine gate_dst (N := 3) rfl ?_); refine box_ (cs := #[.int .i64 a0_0, .int .i64 a0_1]) (t := 28) fun b1 hg w8 hbox hb => ?_; have a7 := Aside0.mk (hbox); have b2 := bS HB hg; have b3 := bS HB hg; replace HB := Aside0.mk (below_step bB hb); clear hb hbox hg) | ((with_reducible refine gate_dst (N := 4) rfl ?_); refine box_ (cs := #[.int .i64 a1_0, .int .i64 a1_1, .bool true, .bool true]) (t := 30) fun b4 hg w9 hbox hb => ?_; have a8 := Aside0.mk (hbox); have b5 := bS HB hg; have b6 := bS HB hg; have a9 := bL a7 hg; have b0 := bM a7 hg; replace a7 := bQ a7 hb; replace HB := Aside0.mk (below_step bB hb); clear hb hbox hg; have m6 := a9.out; have m7 := b0.out; obtain ⟨b7, b8, b9, c1⟩ := cf2 a7; obtain ⟨c2, c3, c4, c8, c9, d0, d1, d2⟩ := cf4 a8) | (go_at_call 48; (with_reducible refine (spec_beAsked.calls a0_0 a0_1 a1_0 a1_1 true true a2 100000 true _ A4.out).mono ?_); rintro e n7 ⟨rfl, hb⟩; replace a7 := bQ a7 hb; replace a8 := bQ a8 hb; replace HB := Aside0.mk (below_step bB hb); (try clear hb); obtain ⟨d3, d4, d5, d6, d7, d8, d9, e0⟩ := cf4 a8)); try go_wp2_with (first | ((with_reducible refine gate_dst (N := 3) rfl ?_); refine box_ (cs := #[.int .i64 a0_0, .int .i64 a0_1]) (t := 28) fun b1 hg w8 hbox hb => ?_; have a7 := Aside0.mk (hbox); have b2 := bS HB hg; have b3 := bS HB hg; replace HB := Aside0.mk (below_step bB hb); clear hb hbox hg) | ((with_reducible refine gate_dst (N := 4) rfl ?_); refine box_ (cs := #[.int .i64 a1_0, .int .i64 a1_1, .bool true, .bool true]) (t := 30) fun b4 hg w9 hbox hb => ?_; have a8 := Aside0.mk (hbox); have b5 := bS HB hg; have b6 := bS HB hg; have a9 := bL a7 hg; have b0 := bM a7 hg; replace a7 := bQ a7 hb; replace HB := Aside0.mk (below_step bB hb); clear hb hbox hg; have m6 := a9.out; have m7 := b0.out; obtain ⟨b7, b8, b9, c1⟩ := cf2 a7; obtain ⟨c2, c3, c4, c8, c9, d0, d1, d2⟩ := cf4 a8) | (go_at_call 48; (with_reducible refine (spec_beAsked.calls a0_0 a0_1 a1_0 a1_1 true true a2 100000 true _ A4.out).mono ?_); rintro e n7 ⟨rfl, hb⟩; replace a7 := bQ a7 hb; replace a8 := bQ a8 hb; replace HB := Aside0.mk (below_step bB hb); (try clear hb); obtain ⟨d3, d4, d5, d6, d7, d8, d9, e0⟩ := cf4 a8)))
 go_ret3
 exact ⟨sE, bI⟩
 )
 ·(
 replace c7 := Bool.eq_false_iff.mpr c7
 subst c7
 rw [if_neg nft] at H
 simp only [Option.some.injEq, Prod.mk.injEq] at H
 obtain ⟨rfl, rfl, rfl⟩ := H
 go_enter Try.func33, Try.ntmps33
 go_wp2_with (first | ((with_reducible refine gate_dst (N := 3) rfl ?_); refine box_ (cs := #[.int .i64 a0_0, .int .i64 a0_1]) (t := 28) fun b1 hg n8 hbox hb => ?_; have a7 := Aside0.mk (hbox); have b2 := bS HB hg; have b3 := bS HB hg; replace HB := Aside0.mk (below_step bB hb); clear hb hbox hg) | ((with_reducible refine gate_dst (N := 4) rfl ?_); refine box_ (cs := #[.int .i64 a1_0, .int .i64 a1_1, .bool true, .bool false]) (t := 30) fun b4 hg n9 hbox hb => ?_; have a8 := Aside0.mk (hbox); have b5 := bS HB hg; have b6 := bS HB hg; have a9 := bL a7 hg; have b0 := bM a7 hg; replace a7 := bQ a7 hb; replace HB := Aside0.mk (below_step bB hb); clear hb hbox hg; have m8 := a9.out; have m9 := b0.out; obtain ⟨e1, e2, e3, e4⟩ := cf2 a7; obtain ⟨e5, e6, e7, e8, e9, g0, g1, g2⟩ := cf4 a8) | (go_at_call 48; (with_reducible refine (spec_beAsked.calls a0_0 a0_1 a1_0 a1_1 true false a2 100000 true _ A4.out).mono ?_); rintro e o0 ⟨rfl, hb⟩; replace a7 := bQ a7 hb; replace a8 := bQ a8 hb; replace HB := Aside0.mk (below_step bB hb); (try clear hb); obtain ⟨g3, g4, g5, g6, g7, g8, g9, h0⟩ := cf4 a8))
 repeat (go_quiet (first | ((with_reducible refine gate_dst (N := 3) rfl ?_); refine box_ (cs := #[.int .i64 a0_0, .int .i64 a0_1]) (t := 28) fun b1 hg n8 hbox hb => ?_; have a7 := Aside0.mk (hbox); have b2 := bS HB hg; have b3 := bS HB hg; replace HB := Aside0.mk (below_step bB hb); clear hb hbox hg) | ((with_reducible refine gate_dst (N := 4) rfl ?_); refine box_ (cs := #[.int .i64 a1_0, .int .i64 a1_1, .bool true, .bool false]) (t := 30) fun b4 hg n9 hbox hb => ?_; have a8 := Aside0.mk (hbox); have b5 := bS HB hg; have b6 := bS HB hg; have a9 := bL a7 hg; have b0 := bM a7 hg; replace a7 := bQ a7 hb; replace HB := Aside0.mk (below_step bB hb); clear hb hbox hg; have m8 := a9.out; have m9 := b0.out; obtain ⟨e1, e2, e3, e4⟩ := cf2 a7; obtain ⟨e5, e6, e7, e8, e9, g0, g1, g2⟩ := cf4 a8) | (go_at_call 48; (with_reducible refine (spec_beAsked.calls a0_0 a0_1 a1_0 a1_1 true false a2 100000 true _ A4.out).mono ?_); rintro e o0 ⟨rfl, hb⟩; replace a7 := bQ a7 hb; replace a8 := bQ a8 hb; replace HB := Aside0.mk (below_step bB hb); (try clear hb); obtain ⟨g3, g4, g5, g6, g7, g8, g9, h0⟩ := cf4 a8)); try go_wp2_with (first | ((with_reducible refine gate_dst (N := 3) rfl ?_); refine box_ (cs := #[.int .i64 a0_0, .int .i64 a0_1]) (t := 28) fun b1 hg n8 hbox hb => ?_; have a7 := Aside0.mk (hbox); have b2 := bS HB hg; have b3 := bS HB hg; replace HB := Aside0.mk (below_step bB hb); clear hb hbox hg) | ((with_reducible refine gate_dst (N := 4) rfl ?_); refine box_ (cs := #[.int .i64 a1_0, .int .i64 a1_1, .bool true, .bool false]) (t := 30) fun b4 hg n9 hbox hb => ?_; have a8 := Aside0.mk (hbox); have b5 := bS HB hg; have b6 := bS HB hg; have a9 := bL a7 hg; have b0 := bM a7 hg; replace a7 := bQ a7 hb; replace HB := Aside0.mk (below_step bB hb); clear hb hbox hg; have m8 := a9.out; have m9 := b0.out; obtain ⟨e1, e2, e3, e4⟩ := cf2 a7; obtain ⟨e5, e6, e7, e8, e9, g0, g1, g2⟩ := cf4 a8) | (go_at_call 48; (with_reducible refine (spec_beAsked.calls a0_0 a0_1 a1_0 a1_1 true false a2 100000 true _ A4.out).mono ?_); rintro e o0 ⟨rfl, hb⟩; replace a7 := bQ a7 hb; replace a8 := bQ a8 hb; replace HB := Aside0.mk (below_step bB hb); (try clear hb); obtain ⟨g3, g4, g5, g6, g7, g8, g9, h0⟩ := cf4 a8)))
 go_ret3
 exact ⟨sE, bI⟩
 )
 )
 ·(
 replace c6 := Bool.eq_false_iff.mpr c6
 subst c6
 rw [if_neg nft] at H
 by_cases n0 : a1_3 = true
 ·(
 subst n0
 rw [if_pos rfl] at H
 simp only [Option.some.injEq, Prod.mk.injEq] at H
 obtain ⟨rfl, rfl, rfl⟩ := H
 go_enter Try.func33, Try.ntmps33
 go_wp2_with (first | ((with_reducible refine gate_dst (N := 3) rfl ?_); refine box_ (cs := #[.int .i64 a0_0, .int .i64 a0_1]) (t := 28) fun b1 hg o1 hbox hb => ?_; have a7 := Aside0.mk (hbox); have b2 := bS HB hg; have b3 := bS HB hg; replace HB := Aside0.mk (below_step bB hb); clear hb hbox hg) | ((with_reducible refine gate_dst (N := 4) rfl ?_); refine box_ (cs := #[.int .i64 a1_0, .int .i64 a1_1, .bool false, .bool true]) (t := 30) fun b4 hg o2 hbox hb => ?_; have a8 := Aside0.mk (hbox); have b5 := bS HB hg; have b6 := bS HB hg; have a9 := bL a7 hg; have b0 := bM a7 hg; replace a7 := bQ a7 hb; replace HB := Aside0.mk (below_step bB hb); clear hb hbox hg; have n1 := a9.out; have n2 := b0.out; obtain ⟨h1, h2, h3, h4⟩ := cf2 a7; obtain ⟨h5, h6, h7, h8, h9, i0, i1, i2⟩ := cf4 a8) | (go_at_call 48; (with_reducible refine (spec_beAsked.calls a0_0 a0_1 a1_0 a1_1 false true a2 100000 true _ A4.out).mono ?_); rintro e o3 ⟨rfl, hb⟩; replace a7 := bQ a7 hb; replace a8 := bQ a8 hb; replace HB := Aside0.mk (below_step bB hb); (try clear hb); obtain ⟨i3, i4, i5, i6, i7, i9, j0, j1⟩ := cf4 a8))
 repeat (go_quiet (first | ((with_reducible refine gate_dst (N := 3) rfl ?_); refine box_ (cs := #[.int .i64 a0_0, .int .i64 a0_1]) (t := 28) fun b1 hg o1 hbox hb => ?_; have a7 := Aside0.mk (hbox); have b2 := bS HB hg; have b3 := bS HB hg; replace HB := Aside0.mk (below_step bB hb); clear hb hbox hg) | ((with_reducible refine gate_dst (N := 4) rfl ?_); refine box_ (cs := #[.int .i64 a1_0, .int .i64 a1_1, .bool false, .bool true]) (t := 30) fun b4 hg o2 hbox hb => ?_; have a8 := Aside0.mk (hbox); have b5 := bS HB hg; have b6 := bS HB hg; have a9 := bL a7 hg; have b0 := bM a7 hg; replace a7 := bQ a7 hb; replace HB := Aside0.mk (below_step bB hb); clear hb hbox hg; have n1 := a9.out; have n2 := b0.out; obtain ⟨h1, h2, h3, h4⟩ := cf2 a7; obtain ⟨h5, h6, h7, h8, h9, i0, i1, i2⟩ := cf4 a8) | (go_at_call 48; (with_reducible refine (spec_beAsked.calls a0_0 a0_1 a1_0 a1_1 false true a2 100000 true _ A4.out).mono ?_); rintro e o3 ⟨rfl, hb⟩; replace a7 := bQ a7 hb; replace a8 := bQ a8 hb; replace HB := Aside0.mk (below_step bB hb); (try clear hb); obtain ⟨i3, i4, i5, i6, i7, i9, j0, j1⟩ := cf4 a8)); try go_wp2_with (first | ((with_reducible refine gate_dst (N := 3) rfl ?_); refine box_ (cs := #[.int .i64 a0_0, .int .i64 a0_1]) (t := 28) fun b1 hg o1 hbox hb => ?_; have a7 := Aside0.mk (hbox); have b2 := bS HB hg; have b3 := bS HB hg; replace HB := Aside0.mk (below_step bB hb); clear hb hbox hg) | ((with_reducible refine gate_dst (N := 4) rfl ?_); refine box_ (cs := #[.int .i64 a1_0, .int .i64 a1_1, .bool false, .bool true]) (t := 30) fun b4 hg o2 hbox hb => ?_; have a8 := Aside0.mk (hbox); have b5 := bS HB hg; have b6 := bS HB hg; have a9 := bL a7 hg; have b0 := bM a7 hg; replace a7 := bQ a7 hb; replace HB := Aside0.mk (below_step bB hb); clear hb hbox hg; have n1 := a9.out; have n2 := b0.out; obtain ⟨h1, h2, h3, h4⟩ := cf2 a7; obtain ⟨h5, h6, h7, h8, h9, i0, i1, i2⟩ := cf4 a8) | (go_at_call 48; (with_reducible refine (spec_beAsked.calls a0_0 a0_1 a1_0 a1_1 false true a2 100000 true _ A4.out).mono ?_); rintro e o3 ⟨rfl, hb⟩; replace a7 := bQ a7 hb; replace a8 := bQ a8 hb; replace HB := Aside0.mk (below_step bB hb); (try clear hb); obtain ⟨i3, i4, i5, i6, i7, i9, j0, j1⟩ := cf4 a8)))
 go_ret3
 exact ⟨sE, bI⟩
 )
 ·(
 replace n0 := Bool.eq_false_iff.mpr n0
 subst n0
 rw [if_neg nft] at H
 simp only [Option.some.injEq, Prod.mk.injEq] at H
 obtain ⟨rfl, rfl, rfl⟩ := H
 go_enter Try.func33, Try.ntmps33
 go_wp2_with (first | ((with_reducible refine gate_dst (N := 3) rfl ?_); refine box_ (cs := #[.int .i64 a0_0, .int .i64 a0_1]) (t := 28) fun b1 hg o4 hbox hb => ?_; have a7 := Aside0.mk (hbox); have b2 := bS HB hg; have b3 := bS HB hg; replace HB := Aside0.mk (below_step bB hb); clear hb hbox hg) | ((with_reducible refine gate_dst (N := 4) rfl ?_); refine box_ (cs := #[.int .i64 a1_0, .int .i64 a1_1, .bool false, .bool false]) (t := 30) fun b4 hg o5 hbox hb => ?_; have a8 := Aside0.mk (hbox); have b5 := bS HB hg; have b6 := bS HB hg; have a9 := bL a7 hg; have b0 := bM a7 hg; replace a7 := bQ a7 hb; replace HB := Aside0.mk (below_step bB hb); clear hb hbox hg; have n3 := a9.out; have n4 := b0.out; obtain ⟨j2, j3, j4, j5⟩ := cf2 a7; obtain ⟨j6, j7, j8, j9, k0, k1, k2, k3⟩ := cf4 a8) | (go_at_call 48; (with_reducible refine (spec_beAsked.calls a0_0 a0_1 a1_0 a1_1 false false a2 100000 true _ A4.out).mono ?_); rintro e o6 ⟨rfl, hb⟩; replace a7 := bQ a7 hb; replace a8 := bQ a8 hb; replace HB := Aside0.mk (below_step bB hb); (try clear hb); obtain ⟨k4, k5, k6, k7, k8, k9, l2, l3⟩ := cf4 a8))
 repeat (go_quiet (first | ((with_reducible refine gate_dst (N := 3) rfl ?_); refine box_ (cs := #[.int .i64 a0_0, .int .i64 a0_1]) (t := 28) fun b1 hg o4 hbox hb => ?_; have a7 := Aside0.mk (hbox); have b2 := bS HB hg; have b3 := bS HB hg; replace HB := Aside0.mk (below_step bB hb); clear hb hbox hg) | ((with_reducible refine gate_dst (N := 4) rfl ?_); refine box_ (cs := #[.int .i64 a1_0, .int .i64 a1_1, .bool false, .bool false]) (t := 30) fun b4 hg o5 hbox hb => ?_; have a8 := Aside0.mk (hbox); have b5 := bS HB hg; have b6 := bS HB hg; have a9 := bL a7 hg; have b0 := bM a7 hg; replace a7 := bQ a7 hb; replace HB := Aside0.mk (below_step bB hb); clear hb hbox hg; have n3 := a9.out; have n4 := b0.out; obtain ⟨j2, j3, j4, j5⟩ := cf2 a7; obtain ⟨j6, j7, j8, j9, k0, k1, k2, k3⟩ := cf4 a8) | (go_at_call 48; (with_reducible refine (spec_beAsked.calls a0_0 a0_1 a1_0 a1_1 false false a2 100000 true _ A4.out).mono ?_); rintro e o6 ⟨rfl, hb⟩; replace a7 := bQ a7 hb; replace a8 := bQ a8 hb; replace HB := Aside0.mk (below_step bB hb); (try clear hb); obtain ⟨k4, k5, k6, k7, k8, k9, l2, l3⟩ := cf4 a8)); try go_wp2_with (first | ((with_reducible refine gate_dst (N := 3) rfl ?_); refine box_ (cs := #[.int .i64 a0_0, .int .i64 a0_1]) (t := 28) fun b1 hg o4 hbox hb => ?_; have a7 := Aside0.mk (hbox); have b2 := bS HB hg; have b3 := bS HB hg; replace HB := Aside0.mk (below_step bB hb); clear hb hbox hg) | ((with_reducible refine gate_dst (N := 4) rfl ?_); refine box_ (cs := #[.int .i64 a1_0, .int .i64 a1_1, .bool false, .bool false]) (t := 30) fun b4 hg o5 hbox hb => ?_; have a8 := Aside0.mk (hbox); have b5 := bS HB hg; have b6 := bS HB hg; have a9 := bL a7 hg; have b0 := bM a7 hg; replace a7 := bQ a7 hb; replace HB := Aside0.mk (below_step bB hb); clear hb hbox hg; have n3 := a9.out; have n4 := b0.out; obtain ⟨j2, j3, j4, j5⟩ := cf2 a7; obtain ⟨j6, j7, j8, j9, k0, k1, k2, k3⟩ := cf4 a8) | (go_at_call 48; (with_reducible refine (spec_beAsked.calls a0_0 a0_1 a1_0 a1_1 false false a2 100000 true _ A4.out).mono ?_); rintro e o6 ⟨rfl, hb⟩; replace a7 := bQ a7 hb; replace a8 := bQ a8 hb; replace HB := Aside0.mk (below_step bB hb); (try clear hb); obtain ⟨k4, k5, k6, k7, k8, k9, l2, l3⟩ := cf4 a8)))
 go_ret3
 exact ⟨sE, bI⟩
 )
 )
 )
 ·(
 replace c5 := Bool.eq_false_iff.mpr c5
 subst c5
 rw [if_neg nft] at H
 simp only [Option.some.injEq, Prod.mk.injEq] at H
 obtain ⟨rfl, rfl, rfl⟩ := H
 go_enter Try.func33, Try.ntmps33
 go_wp2_with (first | ((with_reducible refine gate_dst (N := 3) rfl ?_); refine box_ (cs := #[.int .i64 a0_0, .int .i64 a0_1]) (t := 28) fun b1 hg o7 hbox hb => ?_; have a7 := Aside0.mk (hbox); have b2 := bS HB hg; have b3 := bS HB hg; replace HB := Aside0.mk (below_step bB hb); clear hb hbox hg) | ((with_reducible refine gate_dst (N := 4) rfl ?_); refine box_ (cs := #[.int .i64 a1_0, .int .i64 a1_1, .bool a1_2, .bool a1_3]) (t := 30) fun b4 hg o8 hbox hb => ?_; have a8 := Aside0.mk (hbox); have b5 := bS HB hg; have b6 := bS HB hg; have a9 := bL a7 hg; have b0 := bM a7 hg; replace a7 := bQ a7 hb; replace HB := Aside0.mk (below_step bB hb); clear hb hbox hg; have n5 := a9.out; have n6 := b0.out; obtain ⟨l4, l5, l6, l7⟩ := cf2 a7; obtain ⟨l8, l9, m0, m1, m2, m3, m4, m5⟩ := cf4 a8) | (go_at_call 48; (with_reducible refine (spec_beAsked.calls a0_0 a0_1 a1_0 a1_1 a1_2 a1_3 a2 100000 false _ A4.out).mono ?_); rintro e o9 ⟨rfl, hb⟩; replace a7 := bQ a7 hb; replace a8 := bQ a8 hb; replace HB := Aside0.mk (below_step bB hb); (try clear hb)))
 repeat (go_quiet (first | ((with_reducible refine gate_dst (N := 3) rfl ?_); refine box_ (cs := #[.int .i64 a0_0, .int .i64 a0_1]) (t := 28) fun b1 hg o7 hbox hb => ?_; have a7 := Aside0.mk (hbox); have b2 := bS HB hg; have b3 := bS HB hg; replace HB := Aside0.mk (below_step bB hb); clear hb hbox hg) | ((with_reducible refine gate_dst (N := 4) rfl ?_); refine box_ (cs := #[.int .i64 a1_0, .int .i64 a1_1, .bool a1_2, .bool a1_3]) (t := 30) fun b4 hg o8 hbox hb => ?_; have a8 := Aside0.mk (hbox); have b5 := bS HB hg; have b6 := bS HB hg; have a9 := bL a7 hg; have b0 := bM a7 hg; replace a7 := bQ a7 hb; replace HB := Aside0.mk (below_step bB hb); clear hb hbox hg; have n5 := a9.out; have n6 := b0.out; obtain ⟨l4, l5, l6, l7⟩ := cf2 a7; obtain ⟨l8, l9, m0, m1, m2, m3, m4, m5⟩ := cf4 a8) | (go_at_call 48; (with_reducible refine (spec_beAsked.calls a0_0 a0_1 a1_0 a1_1 a1_2 a1_3 a2 100000 false _ A4.out).mono ?_); rintro e o9 ⟨rfl, hb⟩; replace a7 := bQ a7 hb; replace a8 := bQ a8 hb; replace HB := Aside0.mk (below_step bB hb); (try clear hb))); try go_wp2_with (first | ((with_reducible refine gate_dst (N := 3) rfl ?_); refine box_ (cs := #[.int .i64 a0_0, .int .i64 a0_1]) (t := 28) fun b1 hg o7 hbox hb => ?_; have a7 := Aside0.mk (hbox); have b2 := bS HB hg; have b3 := bS HB hg; replace HB := Aside0.mk (below_step bB hb); clear hb hbox hg) | ((with_reducible refine gate_dst (N := 4) rfl ?_); refine box_ (cs := #[.int .i64 a1_0, .int .i64 a1_1, .bool a1_2, .bool a1_3]) (t := 30) fun b4 hg o8 hbox hb => ?_; have a8 := Aside0.mk (hbox); have b5 := bS HB hg; have b6 := bS HB hg; have a9 := bL a7 hg; have b0 := bM a7 hg; replace a7 := bQ a7 hb; replace HB := Aside0.mk (below_step bB hb); clear hb hbox hg; have n5 := a9.out; have n6 := b0.out; obtain ⟨l4, l5, l6, l7⟩ := cf2 a7; obtain ⟨l8, l9, m0, m1, m2, m3, m4, m5⟩ := cf4 a8) | (go_at_call 48; (with_reducible refine (spec_beAsked.calls a0_0 a0_1 a1_0 a1_1 a1_2 a1_3 a2 100000 false _ A4.out).mono ?_); rintro e o9 ⟨rfl, hb⟩; replace a7 := bQ a7 hb; replace a8 := bQ a8 hb; replace HB := Aside0.mk (below_step bB hb); (try clear hb))))
 go_ret3
 exact ⟨sE, bI⟩
 )

/-! ### laws_big: function 34 -/
def laws_big.f (l0 : List Int) (l1 : List Int) : Option (Bool) := if (l0.length : Int) > 1048576 then (some true) else (some (decide ((l1.length : Int) > (wrap64 (1048576 - (l0.length : Int))))))
set_option maxHeartbeats 8000000 in
set_option maxRecDepth 100000 in
theorem laws_big.calls (A0 : Option Addr) (c0 : Nat) (l0 : List Int) (A1 : Option Addr) (c1 : Nat) (l1 : List Int) (r : Bool) (w : World) (hr0 : Kd.C (Kd.int .u8) w A0 l0.length l0) (hc0 : l0.length ≤ c0) (hr1 : Kd.C (Kd.int .u8) w A1 l1.length l1) (hc1 : l1.length ≤ c1) (h : laws_big.f l0 l1 = some r) :
    Calls Try.prog 34 #[.slice A0 l0.length c0, .slice A1 l1.length c1] w fun e w' => e = .returned (.bool r) ∧ Drawn0 w w' := by
 have a9 := Aside0.mk hr0
 have b0 := Aside0.mk hc0
 clear hr0 hc0
 have b1 := Aside0.mk hr1
 have b2 := Aside0.mk hc1
 clear hr1 hc1
 have H := h
 unfold laws_big.f at H
 clear h
 by_cases c3 : (l0.length : Int) > 1048576
 rw [if_pos c3] at H
 have a7 : decide (1048576 < (l0.length : Int)) = true := decide_eq_true c3
 have a8 : decide (1048576 < l0.length) = true := decide_eq_true (by omega)
 clear c3
 obtain rfl := Option.some.inj H
 rotate_left
 rw [if_neg c3] at H
 have a7 : decide (1048576 < (l0.length : Int)) = false := decide_eq_false c3
 have a8 : decide (1048576 < l0.length) = false := decide_eq_false (by omega)
 clear c3
 obtain rfl := Option.some.inj H
 rotate_left
 all_goals (go_enter Try.func34, Try.ntmps34)
 all_goals go_wp2
 all_goals go_ret
 all_goals (exact ⟨by first | rfl | (simp; done) | (simp [*]; done), by repeat (first | exact Drawn0.refl _ | apply Drawn0.step)⟩)

/-- A state of type 84 at block g of W; what its slices lead to came in by w0. -/
def IsS84 (w0 W : World) (g : Nat) (f0 : List Int) (f1 : Int) (f2 : Int) : Prop := ∃ A0 c0, W.heap[g]? = some (.cells #[.slice A0 f0.length c0, .int .i64 f1, .int .u64 f2] 84 (0, 0)) ∧ w0.heap.size ≤ g ∧ Kd.C (Kd.int .u8) w0 A0 f0.length f0
theorem IsS84.grown {w0 W : World} {g : Nat} {f0 : List Int} {f1 : Int} {f2 : Int} {W1 : World} {row : Option Nat} (h : IsS84 w0 W g f0 f1 f2) (hw : W.grownBy W1 row) (hne : some g ≠ row) : IsS84 w0 W1 g f0 f1 f2 := by
  obtain ⟨A0, c0, hb, hg, hr0⟩ := h
  exact ⟨A0, c0, blk_grown hb hw hne, hg, hr0⟩
theorem IsS84.own_neN {w0 W : World} {g : Nat} {f0 : List Int} {f1 : Int} {f2 : Int} {α : Type} {d : Kd α} {e : Nat} {base : Nat} {ok : Nat → Prop} {v : Value} {xs : List α} (h : IsS84 w0 W g f0 f1 f2) (ho : Kd.N d e W base ok v xs) (ht : e ≠ 84) : some g ≠ v.ownBlock := by
  obtain ⟨A0, c0, hb, hg, hr0⟩ := h
  exact Kd.N_ne ho hb ht
theorem IsS84.fresh {w0 W : World} {g : Nat} {f0 : List Int} {f1 : Int} {f2 : Int} (h : IsS84 w0 W g f0 f1 f2) : ∀ k, W.heap.size ≤ k → k ≠ g := by
  obtain ⟨A0, c0, hb, hg, hr0⟩ := h
  exact Kd.freshB hb
theorem IsS84.kept {w0 W : World} {g : Nat} {f0 : List Int} {f1 : Int} {f2 : Int} {W1 : World} {S : Nat → Prop} (h : IsS84 w0 W g f0 f1 f2) (hk : Kept W W1 S) (hne : ¬ S g) : IsS84 w0 W1 g f0 f1 f2 := by
  obtain ⟨A0, c0, hb, hg, hr0⟩ := h
  exact ⟨A0, c0, blk_kept hb hk hne, hg, hr0⟩
theorem IsS84.below {w0 W : World} {g : Nat} {f0 : List Int} {f1 : Int} {f2 : Int} {W1 : World} (h : IsS84 w0 W g f0 f1 f2) (hw : Below W.heap.size W W1) : IsS84 w0 W1 g f0 f1 f2 := h.grown (grown_of_below hw none) (by simp)
theorem IsS84.alloc {w0 W : World} {g : Nat} {f0 : List Int} {f1 : Int} {f2 : Int} (h : IsS84 w0 W g f0 f1 f2) (o : Obj) : IsS84 w0 (W.alloc o) g f0 f1 f2 := h.below (below_alloc (Below.refl _ _) o)
theorem IsS84.drewN {w0 W : World} {g : Nat} {f0 : List Int} {f1 : Int} {f2 : Int} (h : IsS84 w0 W g f0 f1 f2) (m : Nat) : IsS84 w0 (W.drewN m) g f0 f1 f2 := h
theorem IsS84.drew {w0 W : World} {g : Nat} {f0 : List Int} {f1 : Int} {f2 : Int} (h : IsS84 w0 W g f0 f1 f2) : IsS84 w0 W.drew g f0 f1 f2 := h
theorem IsS84.at_ {w0 W : World} {g : Nat} {f0 : List Int} {f1 : Int} {f2 : Int} {w' : World} {m : Nat} (hq : W.drewN m = w') (h : IsS84 w0 W g f0 f1 f2) : IsS84 w0 w' g f0 f1 f2 := by subst hq; exact IsS84.drewN h m
theorem IsS84.apart {w0 W : World} {g : Nat} {f0 : List Int} {f1 : Int} {f2 : Int} {α : Type} {d : Kd α} {e : Nat} {base : Nat} {ok : Nat → Prop} {v : Value} {xs : List α} (h : IsS84 w0 W g f0 f1 f2) (ho : d.R e W base ok v xs) (ht : ∀ q, q ∈ e :: d.E → q ≠ 84) : d.R e W base (fun k => ok k ∧ k ≠ g) v xs := by
  obtain ⟨A0, c0, hb, hg, hr0⟩ := h
  exact Kd.R_types ho hb ht
theorem IsS84.own_ne {w0 W : World} {g : Nat} {f0 : List Int} {f1 : Int} {f2 : Int} {α : Type} {d : Kd α} {e : Nat} {base : Nat} {ok : Nat → Prop} {v : Value} {xs : List α} (h : IsS84 w0 W g f0 f1 f2) (ho : d.R e W base ok v xs) (ht : e ≠ 84) : some g ≠ v.ownBlock := by
  obtain ⟨A0, c0, hb, hg, hr0⟩ := h
  exact Kd.R_ne ho hb ht
theorem IsS84.apartQ {w0 W : World} {g : Nat} {f0 : List Int} {f1 : Int} {f2 : Int} {α : Type} {d : Kd α} {e : Nat} {base : Nat} {ok : Nat → Prop} {v : Value} {xs : List α} (h : IsS84 w0 W g f0 f1 f2) (ho : d.Q e W base ok v xs) (ht : ∀ q, q ∈ e :: d.E → q ≠ 84) : d.Q e W base (fun k => ok k ∧ k ≠ g) v xs := by
  obtain ⟨A0, c0, hb, hg, hr0⟩ := h
  exact Kd.Q_types ho hb ht
theorem IsS84.own_neQ {w0 W : World} {g : Nat} {f0 : List Int} {f1 : Int} {f2 : Int} {α : Type} {d : Kd α} {e : Nat} {base : Nat} {ok : Nat → Prop} {v : Value} {xs : List α} (h : IsS84 w0 W g f0 f1 f2) (ho : d.Q e W base ok v xs) (ht : e ≠ 84) : some g ≠ v.ownBlock := by
  obtain ⟨A0, c0, hb, hg, hr0⟩ := h
  exact Kd.Q_ne ho hb ht
theorem IsS84.apartS {w0 W : World} {g : Nat} {f0 : List Int} {f1 : Int} {f2 : Int} {α : Type} {d : Kd α} {e : Nat} {base : Nat} {ok : Nat → Prop} {v : Value} {xs : List α} (h : IsS84 w0 W g f0 f1 f2) (ho : d.S e W base ok v xs) (ht : ∀ q, q ∈ e :: d.E → q ≠ 84) : d.S e W base (fun k => ok k ∧ k ≠ g) v xs := by
  obtain ⟨A0, c0, hb, hg, hr0⟩ := h
  exact Kd.S_types ho hb ht
theorem IsS84.own_neS {w0 W : World} {g : Nat} {f0 : List Int} {f1 : Int} {f2 : Int} {α : Type} {d : Kd α} {e : Nat} {base : Nat} {ok : Nat → Prop} {v : Value} {xs : List α} (h : IsS84 w0 W g f0 f1 f2) (ho : d.S e W base ok v xs) (ht : e ≠ 84) : some g ≠ v.ownBlock := by
  obtain ⟨A0, c0, hb, hg, hr0⟩ := h
  exact Kd.S_ne ho hb ht
theorem IsS84.lt {w0 W : World} {g : Nat} {f0 : List Int} {f1 : Int} {f2 : Int} (h : IsS84 w0 W g f0 f1 f2) : g < W.heap.size := by
  obtain ⟨A0, c0, hb, hg, hr0⟩ := h
  exact blk_lt hb
theorem IsS84.ge {w0 W : World} {g : Nat} {f0 : List Int} {f1 : Int} {f2 : Int} (h : IsS84 w0 W g f0 f1 f2) : w0.heap.size ≤ g := by
  obtain ⟨A0, c0, hb, hg, hr0⟩ := h
  exact hg
theorem IsS84.ne_blk {w0 W : World} {g : Nat} {f0 : List Int} {f1 : Int} {f2 : Int} {a : Nat} {cs : Array Value} {t : TypeId} {fr : Nat × Nat} (h : IsS84 w0 W g f0 f1 f2) (hb2 : W.heap[a]? = some (.cells cs t fr)) (ht : t ≠ 84) : g ≠ a := by
  obtain ⟨A0, c0, hb, hg, hr0⟩ := h
  rintro rfl
  rw [hb] at hb2
  injection hb2 with hb2
  injection hb2 with _ ht2
  exact ht ht2.symm
theorem IsS84.far {w0 W : World} {g : Nat} {f0 : List Int} {f1 : Int} {f2 : Int} {p : Addr} (h : IsS84 w0 W g f0 f1 f2) (hne : g ≠ p.block) (u : Value) : IsS84 w0 (W.setCell p u) g f0 f1 f2 := by
  obtain ⟨A0, c0, hb, hg, hr0⟩ := h
  exact ⟨A0, c0, blk_far hb hne u, hg, hr0⟩
theorem cellS84_0 {W : World} {g : Nat} {A0 : Option Addr} {c0 : Nat} {f0 : List Int} {f1 : Int} {f2 : Int} (h : W.heap[g]? = some (.cells #[.slice A0 f0.length c0, .int .i64 f1, .int .u64 f2] 84 (0, 0))) : W.cell? ⟨g, 0, none⟩ = some (.slice A0 f0.length c0) := (blk_cell h 0).trans rfl
theorem cellS84_1 {W : World} {g : Nat} {A0 : Option Addr} {c0 : Nat} {f0 : List Int} {f1 : Int} {f2 : Int} (h : W.heap[g]? = some (.cells #[.slice A0 f0.length c0, .int .i64 f1, .int .u64 f2] 84 (0, 0))) : W.cell? ⟨g, 1, none⟩ = some (.int .i64 f1) := (blk_cell h 1).trans rfl
theorem IsS84.set_1 {w0 W : World} {g : Nat} {f0 : List Int} {f1 : Int} {f2 : Int} (h : IsS84 w0 W g f0 f1 f2) (x : Int) : IsS84 w0 (W.setCell ⟨g, 1, none⟩ (.int .i64 x)) g f0 x f2 := by
  obtain ⟨A0, c0, hb, hg, hr0⟩ := h
  exact ⟨A0, c0, by simpa using blk_set hb 1 (.int .i64 x), hg, hr0⟩
theorem cellS84_2 {W : World} {g : Nat} {A0 : Option Addr} {c0 : Nat} {f0 : List Int} {f1 : Int} {f2 : Int} (h : W.heap[g]? = some (.cells #[.slice A0 f0.length c0, .int .i64 f1, .int .u64 f2] 84 (0, 0))) : W.cell? ⟨g, 2, none⟩ = some (.int .u64 f2) := (blk_cell h 2).trans rfl
theorem IsS84.set_2 {w0 W : World} {g : Nat} {f0 : List Int} {f1 : Int} {f2 : Int} (h : IsS84 w0 W g f0 f1 f2) (x : Int) : IsS84 w0 (W.setCell ⟨g, 2, none⟩ (.int .u64 x)) g f0 f1 x := by
  obtain ⟨A0, c0, hb, hg, hr0⟩ := h
  exact ⟨A0, c0, by simpa using blk_set hb 2 (.int .u64 x), hg, hr0⟩
theorem IsS84.new (w0 W : World) (A0 : Option Addr) (c0 : Nat) (f0 : List Int) (f1 : Int) (f2 : Int) (hB : Below w0.heap.size w0 W) (hr0 : Kd.C (Kd.int .u8) w0 A0 f0.length f0) : IsS84 w0 (W.alloc (.cells #[.slice A0 f0.length c0, .int .i64 f1, .int .u64 f2] 84)) W.heap.size f0 f1 f2 := ⟨A0, c0, by simpa using heap_alloc_new W _, hB.size, hr0⟩

/-! ### spec_l1Cur_next: function 80 -/
def spec_l1Cur_next.f (s0_0 : List Int) (s0_1 : Int) (s0_2 : Int) : Option (Int × Int × Int) := if s0_1 < (s0_0.length : Int) then (if 0 ≤ s0_1 then (if (wrap64 (s0_1 + 1)) ≤ (s0_0.length : Int) then (some (wrap64 (rd s0_0 s0_1), wrap64 (s0_1 + 1), IntKind.u64.wrap ((IntKind.u64.wrap ((IntKind.u64.wrap (s0_2 * 6364136223846793005)) + (IntKind.u64.wrap (wrap64 (rd s0_0 s0_1))))) + 1442695040888963407))) else (some (wrap64 (Go.bits .and .u64 ((IntKind.u64.wrap ((IntKind.u64.wrap ((IntKind.u64.wrap (s0_2 * 6364136223846793005)) + (IntKind.u64.wrap (wrap64 (rd s0_0 s0_1))))) + 1442695040888963407)) / 1099511627776) 255), wrap64 (s0_1 + 1), IntKind.u64.wrap ((IntKind.u64.wrap ((IntKind.u64.wrap (s0_2 * 6364136223846793005)) + (IntKind.u64.wrap (wrap64 (rd s0_0 s0_1))))) + 1442695040888963407)))) else (none)) else (if (wrap64 (s0_1 + 1)) ≤ (s0_0.length : Int) then (some (0, wrap64 (s0_1 + 1), IntKind.u64.wrap ((IntKind.u64.wrap ((IntKind.u64.wrap (s0_2 * 6364136223846793005)) + 0)) + 1442695040888963407))) else (some (wrap64 (Go.bits .and .u64 ((IntKind.u64.wrap ((IntKind.u64.wrap ((IntKind.u64.wrap (s0_2 * 6364136223846793005)) + 0)) + 1442695040888963407)) / 1099511627776) 255), wrap64 (s0_1 + 1), IntKind.u64.wrap ((IntKind.u64.wrap ((IntKind.u64.wrap (s0_2 * 6364136223846793005)) + 0)) + 1442695040888963407))))
set_option maxHeartbeats 8000000 in
set_option maxRecDepth 100000 in
theorem spec_l1Cur_next.calls (g : Nat) (s0_0 : List Int) (s0_1 : Int) (s0_2 : Int) (r1 : Int) (r2 : Int) (r3 : Int) (w0 w : World) (hI : IsS84 w0 w g s0_0 s0_1 s0_2) (hB : Below w0.heap.size w0 w) (h : spec_l1Cur_next.f s0_0 s0_1 s0_2 = some (r1, r2, r3)) :
    Calls Try.prog 80 #[.pointer (some ⟨g, 0, none⟩)] w fun e w' => e = .returned (.int .i64 r1) ∧ IsS84 w0 w' g s0_0 r2 r3 ∧ Below w0.heap.size w0 w' ∧ KeepBut w w' g none := by
 have HI0 := Aside0.mk hI
 have HK := Aside0.mk (KeepBut.refl w g none)
 have HL := Aside0.mk hB.size
 clear hI
 have g7 := Aside0.mk hB.size
 have HB := Aside0.mk hB
 clear hB
 have H := h
 unfold spec_l1Cur_next.f at H
 clear h
 by_cases c2 : s0_1 < (s0_0.length : Int)
 rw [if_pos c2] at H
 have c1 : decide (s0_1 < (s0_0.length : Int)) = true := decide_eq_true c2
 clear c2
 by_cases c3 : 0 ≤ s0_1
 rw [if_pos c3] at H
 have g6 : decide (0 ≤ s0_1) = true := decide_eq_true c3
 clear c3
 by_cases c4 : (wrap64 (s0_1 + 1)) ≤ (s0_0.length : Int)
 rw [if_pos c4] at H
 have c5 : decide ((wrap64 (s0_1 + 1)) ≤ (s0_0.length : Int)) = true := decide_eq_true c4
 clear c4
 simp only [Option.some.injEq, Prod.mk.injEq] at H
 obtain ⟨rfl, rfl, rfl⟩ := H
 obtain ⟨d2, d3, b0, c6, HSz5_0⟩ := HI0.out
 have b5 := cellS84_0 b0
 have d4 := cellS84_1 b0
 have d5 := cellS84_2 b0
 have d6 := blk_frozen b0 1
 have d7 := blk_frozen b0 2
 clear b0 c6
 have a8 : 0 ≤ (s0_1 : Int) := of_decide_eq_true asm
 have a9 : s0_1 < (s0_0.length : Int) := of_decide_eq_true asm
 obtain ⟨b9, b4, a7⟩ := Kd.at_int HSz5_0 s0_1 a8 a9
 cases b4
 replace a7 := pw_cell_below HB.out a7
 replace a8 := eq_true a8
 replace a9 := eq_true a9
 rotate_left
 rw [if_neg c4] at H
 have c5 : decide ((wrap64 (s0_1 + 1)) ≤ (s0_0.length : Int)) = false := decide_eq_false c4
 clear c4
 simp only [Option.some.injEq, Prod.mk.injEq] at H
 obtain ⟨rfl, rfl, rfl⟩ := H
 obtain ⟨d8, d9, b1, c8, HSz6_0⟩ := HI0.out
 have b6 := cellS84_0 b1
 (try (have es_ := Option.some.inj (b5.symm.trans b6); injection es_ with ea_ en_ ec_; subst ea_; subst ec_; clear en_))
 have e0 := cellS84_1 b1
 have e1 := cellS84_2 b1
 have e2 := blk_frozen b1 1
 have e3 := blk_frozen b1 2
 clear b1 c8
 have a8 : 0 ≤ (s0_1 : Int) := of_decide_eq_true asm
 have a9 : s0_1 < (s0_0.length : Int) := of_decide_eq_true asm
 obtain ⟨b9, b4, a7⟩ := Kd.at_int HSz6_0 s0_1 a8 a9
 cases b4
 replace a7 := pw_cell_below HB.out a7
 replace a8 := eq_true a8
 replace a9 := eq_true a9
 rotate_left
 rw [if_neg c3] at H
 exact absurd H (by simp)
 rw [if_neg c2] at H
 have c1 : decide (s0_1 < (s0_0.length : Int)) = false := decide_eq_false c2
 clear c2
 by_cases c7 : (wrap64 (s0_1 + 1)) ≤ (s0_0.length : Int)
 rw [if_pos c7] at H
 have c9 : decide ((wrap64 (s0_1 + 1)) ≤ (s0_0.length : Int)) = true := decide_eq_true c7
 clear c7
 simp only [Option.some.injEq, Prod.mk.injEq] at H
 obtain ⟨rfl, rfl, rfl⟩ := H
 obtain ⟨e4, e5, b2, d0, HSz8_0⟩ := HI0.out
 have b7 := cellS84_0 b2
 have e6 := cellS84_1 b2
 have e7 := cellS84_2 b2
 have e8 := blk_frozen b2 1
 have e9 := blk_frozen b2 2
 clear b2 d0
 rotate_left
 rw [if_neg c7] at H
 have c9 : decide ((wrap64 (s0_1 + 1)) ≤ (s0_0.length : Int)) = false := decide_eq_false c7
 clear c7
 simp only [Option.some.injEq, Prod.mk.injEq] at H
 obtain ⟨rfl, rfl, rfl⟩ := H
 obtain ⟨g0, g1, b3, d1, HSz9_0⟩ := HI0.out
 have b8 := cellS84_0 b3
 (try (have es_ := Option.some.inj (b7.symm.trans b8); injection es_ with ea_ en_ ec_; subst ea_; subst ec_; clear en_))
 have g2 := cellS84_1 b3
 have g3 := cellS84_2 b3
 have g4 := blk_frozen b3 1
 have g5 := blk_frozen b3 2
 clear b3 d1
 rotate_left
 all_goals (go_enter Try.func80, Try.ntmps80)
 all_goals go_wp2
 all_goals (repeat (go_quiet (fail); try go_wp2))
 all_goals go_ret
 all_goals ((try simp only [Int.add_zero]); exact ⟨sE, kI, bI, kK⟩)

/-! ### spec_l1Cur_pick: function 67 -/
def spec_l1Cur_pick.f (s0_0 : List Int) (s0_1 : Int) (s0_2 : Int) (a1 : Int) : Option (Int × Int × Int) := if a1 ≤ 1 then (some (0, s0_1, s0_2)) else ((spec_l1Cur_next.f s0_0 s0_1 s0_2).bind fun bt356 => (if a1 > 200 then ((spec_l1Cur_next.f s0_0 bt356.2.1 bt356.2.2).bind fun bt359 => (if a1 = 0 then (none) else (some (Int.tmod (wrap64 ((wrap64 (bt356.1 * 256)) + bt359.1)) a1, bt359.2.1, bt359.2.2)))) else (if a1 = 0 then (none) else (some (Int.tmod bt356.1 a1, bt356.2.1, bt356.2.2)))))
set_option maxHeartbeats 8000000 in
set_option maxRecDepth 100000 in
theorem spec_l1Cur_pick.calls (g : Nat) (s0_0 : List Int) (s0_1 : Int) (s0_2 : Int) (a1 : Int) (r1 : Int) (r2 : Int) (r3 : Int) (w0 w : World) (hI : IsS84 w0 w g s0_0 s0_1 s0_2) (hB : Below w0.heap.size w0 w) (h : spec_l1Cur_pick.f s0_0 s0_1 s0_2 a1 = some (r1, r2, r3)) :
    Calls Try.prog 67 #[.pointer (some ⟨g, 0, none⟩), .int .i64 a1] w fun e w' => e = .returned (.int .i64 r1) ∧ IsS84 w0 w' g s0_0 r2 r3 ∧ Below w0.heap.size w0 w' ∧ KeepBut w w' g none := by
 have HI0 := Aside0.mk hI
 have HK := Aside0.mk (KeepBut.refl w g none)
 have HL := Aside0.mk hB.size
 clear hI
 have c1 := Aside0.mk hB.size
 have HB := Aside0.mk hB
 clear hB
 have H := h
 unfold spec_l1Cur_pick.f at H
 clear h
 by_cases c3 : a1 ≤ 1
 ·(
 rw [if_pos c3] at H
 have b0 : decide (a1 ≤ 1) = true := decide_eq_true c3
 clear c3
 simp only [Option.some.injEq, Prod.mk.injEq] at H
 obtain ⟨rfl, rfl, rfl⟩ := H
 go_enter Try.func67, Try.ntmps67
 go_wp2
 go_ret
 exact ⟨sE, kI, bI, kK⟩
 )
 ·(
 rw [if_neg c3] at H
 have b0 : decide (a1 ≤ 1) = false := decide_eq_false c3
 clear c3
 obtain ⟨⟨b1, a7, a8⟩, A4, H⟩ := bD H
 try dsimp only at H
 by_cases c5 : a1 > 200
 rw [if_pos c5] at H
 have b2 : decide (200 < a1) = true := decide_eq_true c5
 clear c5
 obtain ⟨⟨b3, b4, b5⟩, A6, H⟩ := bD H
 try dsimp only at H
 by_cases c7 : a1 = 0
 rw [if_pos c7] at H
 exact absurd H (by simp)
 rw [if_neg c7] at H
 obtain ⟨b8, b9⟩ := nE c7
 simp only [Option.some.injEq, Prod.mk.injEq] at H
 obtain ⟨rfl, rfl, rfl⟩ := H
 rotate_left
 rw [if_neg c5] at H
 have b2 : decide (200 < a1) = false := decide_eq_false c5
 clear c5
 by_cases a9 : a1 = 0
 rw [if_pos a9] at H
 exact absurd H (by simp)
 rw [if_neg a9] at H
 obtain ⟨b6, b7⟩ := nE a9
 simp only [Option.some.injEq, Prod.mk.injEq] at H
 obtain ⟨rfl, rfl, rfl⟩ := H
 rotate_left
 all_goals (go_enter Try.func67, Try.ntmps67)
 all_goals (go_wp2_with (first | ((with_reducible refine gate_callee (f := 80) rfl ?_); refine goesL_ (some 9) rfl rfl Try.func80 kr rfl #[.pointer (some ⟨g, 0, none⟩)] rfl sM ?_; (with_reducible refine (spec_l1Cur_next.calls g s0_0 s0_1 s0_2 b1 a7 a8 w0 _ ?side1 ?side2 A4.out).mono ?_); (case side1 => exact kI); (case side2 => exact bI); rintro e c2 ⟨rfl, hi, hb, hk⟩; refine ⟨_, rfl, ?_⟩; replace HK := Aside0.mk (KeepBut.trans (w := w) kK hk (.inl rfl)); replace HB := Aside0.mk (hb); replace HI0 := Aside0.mk (hi); (try clear hb); (try clear hk); (try clear hi)) | ((with_reducible refine gate_callee (f := 80) rfl ?_); refine goesL_ (some 15) rfl rfl Try.func80 kr rfl #[.pointer (some ⟨g, 0, none⟩)] rfl sM ?_; (with_reducible refine (spec_l1Cur_next.calls g s0_0 a7 a8 b3 b4 b5 w0 _ ?side1 ?side2 A6.out).mono ?_); (case side1 => exact kI); (case side2 => exact bI); rintro e c4 ⟨rfl, hi, hb, hk⟩; refine ⟨_, rfl, ?_⟩; replace HK := Aside0.mk (KeepBut.trans (w := w) kK hk (.inl rfl)); replace HB := Aside0.mk (hb); replace HI0 := Aside0.mk (hi); (try clear hb); (try clear hk); (try clear hi))))
 all_goals go_ret
 all_goals ((try simp only [Int.add_zero]); exact ⟨sE, kI, bI, kK⟩)
 )

/-! ### spec_l1Cur_among: function 66 -/
def spec_l1Cur_among.f (s0_0 : List Int) (s0_1 : Int) (s0_2 : Int) (l1 : List Int) : Option (Int × Int × Int) := (spec_l1Cur_pick.f s0_0 s0_1 s0_2 (l1.length : Int)).bind fun bt362 => (if 0 ≤ bt362.1 then (if bt362.1 < (l1.length : Int) then (some (rd l1 bt362.1, bt362.2.1, bt362.2.2)) else (none)) else (none))
set_option maxHeartbeats 8000000 in
set_option maxRecDepth 100000 in
theorem spec_l1Cur_among.calls (g : Nat) (s0_0 : List Int) (s0_1 : Int) (s0_2 : Int) (A1 : Option Addr) (c1 : Nat) (l1 : List Int) (r1 : Int) (r2 : Int) (r3 : Int) (w0 w : World) (hI : IsS84 w0 w g s0_0 s0_1 s0_2) (hB : Below w0.heap.size w0 w) (hr1 : Kd.C (Kd.int .i64) w A1 l1.length l1) (hc1 : l1.length ≤ c1) (hf1 : ∀ ad, A1 = some ad → 0 < l1.length → ad.block ≠ g) (h : spec_l1Cur_among.f s0_0 s0_1 s0_2 l1 = some (r1, r2, r3)) :
    Calls Try.prog 66 #[.pointer (some ⟨g, 0, none⟩), .slice A1 l1.length c1] w fun e w' => e = .returned (.int .i64 r1) ∧ IsS84 w0 w' g s0_0 r2 r3 ∧ Below w0.heap.size w0 w' ∧ KeepBut w w' g none := by
 have b5 := Aside0.mk hr1
 have b8 := Aside0.mk hc1
 clear hr1 hc1
 have HI0 := Aside0.mk hI
 have HK := Aside0.mk (KeepBut.refl w g none)
 have HL := Aside0.mk hB.size
 clear hI
 have b9 := Aside0.mk hB.size
 have HB := Aside0.mk hB
 clear hB
 have H := h
 unfold spec_l1Cur_among.f at H
 clear h
 obtain ⟨⟨a7, b2, b3⟩, A3, H⟩ := bD H
 try dsimp only at H
 by_cases c4 : 0 ≤ a7
 ·(
 rw [if_pos c4] at H
 have b6 : decide (0 ≤ a7) = true := decide_eq_true c4
 clear c4
 by_cases c5 : a7 < (l1.length : Int)
 ·(
 rw [if_pos c5] at H
 have b7 : decide (a7 < (l1.length : Int)) = true := decide_eq_true c5
 clear c5
 simp only [Option.some.injEq, Prod.mk.injEq] at H
 obtain ⟨rfl, rfl, rfl⟩ := H
 go_enter Try.func66, Try.ntmps66
 go_wp2_with (first | ((with_reducible refine gate_callee (f := 67) rfl ?_); refine goesL_ (some 9) rfl rfl Try.func67 kr rfl #[.pointer (some ⟨g, 0, none⟩), .int .i64 (l1.length : Int)] rfl sM ?_; (with_reducible refine (spec_l1Cur_pick.calls g s0_0 s0_1 s0_2 (l1.length : Int) a7 b2 b3 w0 _ ?side1 ?side2 A3.out).mono ?_); (case side1 => exact kI); (case side2 => exact bI); rintro e w6 ⟨rfl, hi, hb, hk⟩; refine ⟨_, rfl, ?_⟩; replace HK := Aside0.mk (KeepBut.trans (w := w) kK hk (.inl rfl)); replace HB := Aside0.mk (hb); replace HI0 := Aside0.mk (hi); (try clear hb); (try clear hk); (try clear hi); have a9 : 0 ≤ (a7 : Int) := of_decide_eq_true asm; have b0 : a7 < (l1.length : Int) := of_decide_eq_true asm; obtain ⟨b1, b4, a8⟩ := Kd.at_int b5.out a7 a9 b0; cases b4; replace a8 := keep_cell HK.out a8 (by first | (rw [add_block]; exact hf1 _ rfl (by omega)) | exact hf1 _ rfl (by omega) | exact hf1 b1 rfl (by omega)); replace a9 := eq_true a9; replace b0 := eq_true b0))
 go_ret
 exact ⟨sE, kI, bI, kK⟩
 )
 ·(
 rw [if_neg c5] at H
 exact absurd H (by simp)
 )
 )
 ·(
 rw [if_neg c4] at H
 exact absurd H (by simp)
 )

/-! ### spec_l1Most: function 68 -/
def spec_l1Most.f (a0 : Int) (a1 : Int) : Option (Int) := if a0 > a1 then (some a0) else (some a1)
set_option maxHeartbeats 8000000 in
set_option maxRecDepth 100000 in
theorem spec_l1Most.calls (a0 : Int) (a1 : Int) (r : Int) (w : World) (h : spec_l1Most.f a0 a1 = some r) :
    Calls Try.prog 68 #[.int .i64 a0, .int .i64 a1] w fun e w' => e = .returned (.int .i64 r) ∧ Drawn0 w w' := by
 have H := h
 unfold spec_l1Most.f at H
 clear h
 by_cases c3 : a0 > a1
 rw [if_pos c3] at H
 have a7 : decide (a1 < a0) = true := decide_eq_true c3
 clear c3
 obtain rfl := Option.some.inj H
 rotate_left
 rw [if_neg c3] at H
 have a7 : decide (a1 < a0) = false := decide_eq_false c3
 clear c3
 obtain rfl := Option.some.inj H
 rotate_left
 all_goals (go_enter Try.func68, Try.ntmps68)
 all_goals go_wp2
 all_goals go_ret
 all_goals (exact ⟨by first | rfl | (simp; done) | (simp [*]; done), by repeat (first | exact Drawn0.refl _ | apply Drawn0.step)⟩)

/-! ### spec_l1Cur_one: function 69 -/
def spec_l1Cur_one.f (s0_0 : List Int) (s0_1 : Int) (s0_2 : Int) (a1 : Int) : Option (Bool × Int × Int) := (spec_l1Cur_pick.f s0_0 s0_1 s0_2 a1).bind fun bt366 => (some ((bt366.1 == 0), bt366.2.1, bt366.2.2))
set_option maxHeartbeats 8000000 in
set_option maxRecDepth 100000 in
theorem spec_l1Cur_one.calls (g : Nat) (s0_0 : List Int) (s0_1 : Int) (s0_2 : Int) (a1 : Int) (r1 : Bool) (r2 : Int) (r3 : Int) (w0 w : World) (hI : IsS84 w0 w g s0_0 s0_1 s0_2) (hB : Below w0.heap.size w0 w) (h : spec_l1Cur_one.f s0_0 s0_1 s0_2 a1 = some (r1, r2, r3)) :
    Calls Try.prog 69 #[.pointer (some ⟨g, 0, none⟩), .int .i64 a1] w fun e w' => e = .returned (.bool r1) ∧ IsS84 w0 w' g s0_0 r2 r3 ∧ Below w0.heap.size w0 w' ∧ KeepBut w w' g none := by
 have HI0 := Aside0.mk hI
 have HK := Aside0.mk (KeepBut.refl w g none)
 have HL := Aside0.mk hB.size
 clear hI
 have b0 := Aside0.mk hB.size
 have HB := Aside0.mk hB
 clear hB
 have H := h
 unfold spec_l1Cur_one.f at H
 clear h
 obtain ⟨⟨a7, a8, a9⟩, A3, H⟩ := bD H
 try dsimp only at H
 simp only [Option.some.injEq, Prod.mk.injEq] at H
 obtain ⟨rfl, rfl, rfl⟩ := H
 go_enter Try.func69, Try.ntmps69
 go_wp2_with (first | ((with_reducible refine gate_callee (f := 67) rfl ?_); refine goesL_ (some 7) rfl rfl Try.func67 kr rfl #[.pointer (some ⟨g, 0, none⟩), .int .i64 a1] rfl sM ?_; (with_reducible refine (spec_l1Cur_pick.calls g s0_0 s0_1 s0_2 a1 a7 a8 a9 w0 _ ?side1 ?side2 A3.out).mono ?_); (case side1 => exact kI); (case side2 => exact bI); rintro e w4 ⟨rfl, hi, hb, hk⟩; refine ⟨_, rfl, ?_⟩; replace HK := Aside0.mk (KeepBut.trans (w := w) kK hk (.inl rfl)); replace HB := Aside0.mk (hb); replace HI0 := Aside0.mk (hi); (try clear hb); (try clear hk); (try clear hi)))
 go_ret
 exact ⟨sE, kI, bI, kK⟩

/-! ### spec_l1Cur_sureTable: function 82 -/
def spec_l1Cur_sureTable.f (s0_0 : List Int) (s0_1 : Int) (s0_2 : Int) : Option (Int × Int × Int × Int) := (spec_l1Cur_pick.f s0_0 s0_1 s0_2 9).bind fun bt370 => ((spec_l1Cur_pick.f s0_0 bt370.2.1 bt370.2.2 9).bind fun bt373 => (some (wrap64 (1 + bt370.1), wrap64 (1 + bt373.1), bt373.2.1, bt373.2.2)))
set_option maxHeartbeats 8000000 in
set_option maxRecDepth 100000 in
theorem spec_l1Cur_sureTable.calls (g : Nat) (s0_0 : List Int) (s0_1 : Int) (s0_2 : Int) (r1 : Int) (r2 : Int) (r3 : Int) (r4 : Int) (w0 w : World) (hI : IsS84 w0 w g s0_0 s0_1 s0_2) (hB : Below w0.heap.size w0 w) (h : spec_l1Cur_sureTable.f s0_0 s0_1 s0_2 = some (r1, r2, r3, r4)) :
    Calls Try.prog 82 #[.pointer (some ⟨g, 0, none⟩)] w fun e w' => e = .returned (.agg #[.int .i64 r1, .int .i64 r2]) ∧ IsS84 w0 w' g s0_0 r3 r4 ∧ Below w0.heap.size w0 w' ∧ KeepBut w w' g none := by
 have c5 := Try.underlying28
 have HI0 := Aside0.mk hI
 have HK := Aside0.mk (KeepBut.refl w g none)
 have HL := Aside0.mk hB.size
 clear hI
 have b7 := Aside0.mk hB.size
 have HB := Aside0.mk hB
 clear hB
 have H := h
 unfold spec_l1Cur_sureTable.f at H
 clear h
 obtain ⟨⟨b1, b2, b3⟩, A2, H⟩ := bD H
 try dsimp only at H
 obtain ⟨⟨b4, b5, b6⟩, A3, H⟩ := bD H
 try dsimp only at H
 simp only [Option.some.injEq, Prod.mk.injEq] at H
 obtain ⟨rfl, rfl, rfl, rfl⟩ := H
 go_enter Try.func82, Try.ntmps82
 go_wp2_with (first | ((with_reducible refine gate_dst (N := 2) rfl ?_); refine box_ (cs := #[.int .i64 0, .int .i64 0]) (t := 28) fun a8 hg w4 hbox hb => ?_; have a7 := Aside0.mk (hbox); have c3 := (kS HK hg); have c4 := (kE b7 HK hg); have b0 := Aside0.mk ((by rw [hg]; exact Nat.ne_of_lt (IsS84.lt (show IsS84 w0 _ g s0_0 s0_1 s0_2 from by repeat (first | (with_reducible first | exact HI0.out | apply IsS84.alloc | apply IsS84.drewN | apply IsS84.drew | apply IsS84.set_1 | apply IsS84.set_2) | exact HI0.out))) : g ≠ a8)); have a9 := Aside0.mk ((by rw [hg]; exact Nat.ne_of_gt (IsS84.lt (show IsS84 w0 _ g s0_0 s0_1 s0_2 from by repeat (first | (with_reducible first | exact HI0.out | apply IsS84.alloc | apply IsS84.drewN | apply IsS84.drew | apply IsS84.set_1 | apply IsS84.set_2) | exact HI0.out))) : a8 ≠ g)); replace HI0 := Aside0.mk (IsS84.below kI hb); replace HK := Aside0.mk (KeepBut.trans (w := w) kK (KeepBut.of_below hb g none) (.inl rfl)); replace HB := Aside0.mk (below_step bI hb); clear hb hbox hg) | ((with_reducible refine gate_callee (f := 67) rfl ?_); refine goesL_ (some 4) rfl rfl Try.func67 kr rfl #[.pointer (some ⟨g, 0, none⟩), .int .i64 9] rfl sM ?_; (with_reducible refine (spec_l1Cur_pick.calls g s0_0 s0_1 s0_2 9 b1 b2 b3 w0 _ ?side1 ?side2 A2.out).mono ?_); (case side1 => exact kI); (case side2 => exact bI); rintro e w5 ⟨rfl, hi, hb, hk⟩; refine ⟨_, rfl, ?_⟩; replace a7 := Aside0.mk (KeepBut.blk hk (g' := a8) (o := .cells #[.int .i64 0, .int .i64 0] 28 (0, 0)) (bK a7) a9.out (by simp)); replace HK := Aside0.mk (KeepBut.trans (w := w) kK hk (.inl rfl)); replace HB := Aside0.mk (hb); replace HI0 := Aside0.mk (hi); (try clear hb); (try clear hk); (try clear hi)) | ((with_reducible refine gate_callee (f := 67) rfl ?_); refine goesL_ (some 7) rfl rfl Try.func67 kr rfl #[.pointer (some ⟨g, 0, none⟩), .int .i64 9] rfl sM ?_; (with_reducible refine (spec_l1Cur_pick.calls g s0_0 b2 b3 9 b4 b5 b6 w0 _ ?side1 ?side2 A3.out).mono ?_); (case side1 => exact kI); (case side2 => exact bI); rintro e w6 ⟨rfl, hi, hb, hk⟩; refine ⟨_, rfl, ?_⟩; replace a7 := Aside0.mk (KeepBut.blk hk (g' := a8) (o := .cells #[.int .i64 0, .int .i64 0] 28 (0, 0)) (bK a7) a9.out (by simp)); replace HK := Aside0.mk (KeepBut.trans (w := w) kK hk (.inl rfl)); replace HB := Aside0.mk (hb); replace HI0 := Aside0.mk (hi); (try clear hb); (try clear hk); (try clear hi); have c6 := a9.out; have c7 := b0.out; obtain ⟨b8, b9, c1, c2⟩ := cf2 a7))
 refine bodyPost_ret (results_cell_row rfl _ _ a8 28 #[.int .i64 (wrap64 (1 + b1)), .int .i64 (wrap64 (1 + b4))] (0, 0) _ rfl (bK a7) Try.underlying28 rfl kr) rfl ?_
 exact ⟨sE, kI, bI, kK⟩

/-! ### spec_l1Cur_table: function 79 -/
def spec_l1Cur_table.f (s0_0 : List Int) (s0_1 : Int) (s0_2 : Int) : Option (Int × Int × Int × Int) := (spec_l1Cur_sureTable.f s0_0 s0_1 s0_2).bind fun bt377 => ((spec_l1Cur_pick.f s0_0 bt377.2.2.1 bt377.2.2.2 20).bind fun bt382 => (if bt382.1 = 0 then ((spec_l1Cur_among.f s0_0 bt382.2.1 bt382.2.2 (([(-1), 0, 1, 60, 61, 4611686018427387904] : List Int))).bind fun bt388 => (some (bt388.1, bt377.2.1, bt388.2.1, bt388.2.2))) else (if bt382.1 = 1 then ((spec_l1Cur_among.f s0_0 bt382.2.1 bt382.2.2 (([(-1), 0, 1, 60, 61, 4611686018427387904] : List Int))).bind fun bt394 => (some (bt377.1, bt394.1, bt394.2.1, bt394.2.2))) else (some (bt377.1, bt377.2.1, bt382.2.1, bt382.2.2)))))
set_option maxHeartbeats 8000000 in
set_option maxRecDepth 100000 in
theorem spec_l1Cur_table.calls (g : Nat) (s0_0 : List Int) (s0_1 : Int) (s0_2 : Int) (r1 : Int) (r2 : Int) (r3 : Int) (r4 : Int) (w0 w : World) (hI : IsS84 w0 w g s0_0 s0_1 s0_2) (hB : Below w0.heap.size w0 w) (h : spec_l1Cur_table.f s0_0 s0_1 s0_2 = some (r1, r2, r3, r4)) :
    Calls Try.prog 79 #[.pointer (some ⟨g, 0, none⟩)] w fun e w' => e = .returned (.agg #[.int .i64 r1, .int .i64 r2]) ∧ IsS84 w0 w' g s0_0 r3 r4 ∧ Below w0.heap.size w0 w' ∧ KeepBut w w' g none := by
 have i4 := Try.underlying28
 have HI0 := Aside0.mk hI
 have HK := Aside0.mk (KeepBut.refl w g none)
 have HL := Aside0.mk hB.size
 clear hI
 have g5 := Aside0.mk hB.size
 have HB := Aside0.mk hB
 clear hB
 have H := h
 unfold spec_l1Cur_table.f at H
 clear h
 obtain ⟨⟨b4, b5, d4, d5⟩, A2, H⟩ := bD H
 try dsimp only at H
 obtain ⟨⟨d9, b6, b7⟩, A3, H⟩ := bD H
 try dsimp only at H
 by_cases c4 : d9 = 0
 rw [if_pos c4] at H
 obtain ⟨g6, g7⟩ := yE c4
 clear c4
 obtain ⟨e0, b9⟩ : ∃ y_ : List Int, y_ = (([(-1), 0, 1, 60, 61, 4611686018427387904] : List Int)) := ⟨_, rfl⟩
 replace H : ((spec_l1Cur_among.f s0_0 b6 b7 e0).bind fun d6 => (some (d6.1, b5, d6.2.1, d6.2.2))) = some (r1, r2, r3, r4) := by first | (rw [b9]; with_reducible exact H) | (have c3 := (Option.bind_some _ _).symm.trans H; rw [b9]; with_reducible exact c3) | (have c3 := (Option.bind_some _ _).symm.trans H; with_reducible exact c3) | with_reducible exact H | (rw [b9]; exact H) | exact H
 have e7 := Aside0.mk b9
 clear b9
 obtain ⟨⟨g1, g8, g9⟩, A5, H⟩ := bD H
 try dsimp only at H
 simp only [Option.some.injEq, Prod.mk.injEq] at H
 obtain ⟨rfl, rfl, rfl, rfl⟩ := H
 rotate_left
 rw [if_neg c4] at H
 obtain ⟨g6, g7⟩ := nE c4
 by_cases d8 : d9 = 1
 rw [if_pos d8] at H
 obtain ⟨g3, g4⟩ := yE d8
 clear d8
 obtain ⟨e1, c1⟩ : ∃ y_ : List Int, y_ = (([(-1), 0, 1, 60, 61, 4611686018427387904] : List Int)) := ⟨_, rfl⟩
 replace H : ((spec_l1Cur_among.f s0_0 b6 b7 e1).bind fun d7 => (some (b4, d7.1, d7.2.1, d7.2.2))) = some (r1, r2, r3, r4) := by first | (rw [c1]; with_reducible exact H) | (have c3 := (Option.bind_some _ _).symm.trans H; rw [c1]; with_reducible exact c3) | (have c3 := (Option.bind_some _ _).symm.trans H; with_reducible exact c3) | with_reducible exact H | (rw [c1]; exact H) | exact H
 have e8 := Aside0.mk c1
 clear c1
 obtain ⟨⟨g2, h0, h1⟩, h6, H⟩ := bD H
 try dsimp only at H
 simp only [Option.some.injEq, Prod.mk.injEq] at H
 obtain ⟨rfl, rfl, rfl, rfl⟩ := H
 rotate_left
 rw [if_neg d8] at H
 obtain ⟨g3, g4⟩ := nE d8
 simp only [Option.some.injEq, Prod.mk.injEq] at H
 obtain ⟨rfl, rfl, rfl, rfl⟩ := H
 rotate_left
 all_goals (go_enter Try.func79, Try.ntmps79)
 all_goals (go_wp2_with (first | ((with_reducible refine gate_dst (N := 2) rfl ?_); refine box_ (cs := #[.int .i64 0, .int .i64 0]) (t := 28) fun b3 hg j0 hbox hb => ?_; have a7 := Aside0.mk (hbox); have i5 := (kS HK hg); have i6 := (kE g5 HK hg); have a8 := Aside0.mk ((by rw [hg]; exact Nat.ne_of_lt (IsS84.lt (show IsS84 w0 _ g s0_0 s0_1 s0_2 from by repeat (first | (with_reducible first | exact HI0.out | apply IsS84.alloc | apply IsS84.drewN | apply IsS84.drew | apply IsS84.set_1 | apply IsS84.set_2) | exact HI0.out))) : g ≠ b3)); have b1 := Aside0.mk ((by rw [hg]; exact Nat.ne_of_gt (IsS84.lt (show IsS84 w0 _ g s0_0 s0_1 s0_2 from by repeat (first | (with_reducible first | exact HI0.out | apply IsS84.alloc | apply IsS84.drewN | apply IsS84.drew | apply IsS84.set_1 | apply IsS84.set_2) | exact HI0.out))) : b3 ≠ g)); replace HI0 := Aside0.mk (IsS84.below kI hb); replace HK := Aside0.mk (KeepBut.trans (w := w) kK (KeepBut.of_below hb g none) (.inl rfl)); replace HB := Aside0.mk (below_step bI hb); clear hb hbox hg) | ((with_reducible refine gate_callee (f := 82) rfl ?_); refine goesL_ (some 5) rfl rfl Try.func82 kr rfl #[.pointer (some ⟨g, 0, none⟩)] rfl sM ?_; (with_reducible refine (spec_l1Cur_sureTable.calls g s0_0 s0_1 s0_2 b4 b5 d4 d5 w0 _ ?side1 ?side2 A2.out).mono ?_); (case side1 => exact kI); (case side2 => exact bI); rintro e j1 ⟨rfl, hi, hb, hk⟩; refine ⟨_, rfl, ?_⟩; replace a7 := Aside0.mk (KeepBut.blk hk (g' := b3) (o := .cells #[.int .i64 0, .int .i64 0] 28 (0, 0)) (bK a7) b1.out (by simp)); replace HK := Aside0.mk (KeepBut.trans (w := w) kK hk (.inl rfl)); replace HB := Aside0.mk (hb); replace HI0 := Aside0.mk (hi); (try clear hb); (try clear hk); (try clear hi)) | ((with_reducible refine gate_dst (N := 3) rfl ?_); refine box_ (cs := #[.int .i64 0, .int .i64 0]) (t := 28) fun c5 hg j2 hbox hb => ?_; have a9 := Aside0.mk (hbox); have i7 := (kS HK hg); have i9 := (kE g5 HK hg); have e2 := bL a7 hg; have e3 := bM a7 hg; have b8 := Aside0.mk ((by rw [hg]; exact Nat.ne_of_lt (IsS84.lt (show IsS84 w0 _ g s0_0 d4 d5 from by repeat (first | (with_reducible first | exact HI0.out | apply IsS84.alloc | apply IsS84.drewN | apply IsS84.drew | apply IsS84.set_1 | apply IsS84.set_2 | refine IsS84.far ?_ a8.out _) | exact HI0.out))) : g ≠ c5)); have c2 := Aside0.mk ((by rw [hg]; exact Nat.ne_of_gt (IsS84.lt (show IsS84 w0 _ g s0_0 d4 d5 from by repeat (first | (with_reducible first | exact HI0.out | apply IsS84.alloc | apply IsS84.drewN | apply IsS84.drew | apply IsS84.set_1 | apply IsS84.set_2 | refine IsS84.far ?_ a8.out _) | exact HI0.out))) : c5 ≠ g)); replace HI0 := Aside0.mk (IsS84.below kI hb); replace a7 := bQ a7 hb; replace HK := Aside0.mk (KeepBut.trans (w := w) kK (KeepBut.of_below hb g none) (.inl rfl)); replace HB := Aside0.mk (below_step bI hb); clear hb hbox hg; have i0 := e3.out; have i1 := e2.out; have i2 := c2.out; have i3 := b8.out; obtain ⟨h2, h3, h4, h5⟩ := cf2 a9) | ((with_reducible refine gate_callee (f := 67) rfl ?_); refine goesL_ (some 7) rfl rfl Try.func67 kr rfl #[.pointer (some ⟨g, 0, none⟩), .int .i64 20] rfl sM ?_; (with_reducible refine (spec_l1Cur_pick.calls g s0_0 d4 d5 20 d9 b6 b7 w0 _ ?side1 ?side2 A3.out).mono ?_); (case side1 => exact kI); (case side2 => exact bI); rintro e j3 ⟨rfl, hi, hb, hk⟩; refine ⟨_, rfl, ?_⟩; replace a7 := Aside0.mk (KeepBut.blk hk (g' := b3) (o := .cells #[.int .i64 0, .int .i64 0] 28 (0, 0)) (bK a7) b1.out (by simp)); replace a9 := Aside0.mk (KeepBut.blk hk (g' := c5) (o := .cells #[.int .i64 b4, .int .i64 b5] 28 (0, 0)) (bK a9) c2.out (by simp)); replace HK := Aside0.mk (KeepBut.trans (w := w) kK hk (.inl rfl)); replace HB := Aside0.mk (hb); replace HI0 := Aside0.mk (hi); (try clear hb); (try clear hk); (try clear hi); obtain ⟨c6, c7, c8, c9⟩ := cf2 a9; have e9 := b1.out; have g0 := a8.out; obtain ⟨d0, d1, d2, d3⟩ := cf2 a7) | ((with_reducible refine gate_dst (N := 11) rfl ?_); refine Kd.R_lit (Kd.int .i64) _ 3 ?hg (N := 11) ?hd (xs := ([(-1), 0, 1, 60, 61, 4611686018427387904] : List Int)) (inner := [.int .i64 (-1), .int .i64 0, .int .i64 1, .int .i64 60, .int .i64 61, .int .i64 4611686018427387904]) (ok := fun _ => True) (okp := fun _ => True) ?hr ?hp (fun _ hk => hk) trivial (Below.refl _ _) (Nat.le_refl _) (by simp) ?_; (case hd => rfl); (case hg => rfl); (case hr => first | (go_simp; done) | (go_simp; rfl)); (case hp => exact (Reps.one (show Kd.M (Kd.int .i64) _ _ _ (-1) [.int .i64 (-1)] from rfl) (Reps.one (show Kd.M (Kd.int .i64) _ _ _ 0 [.int .i64 0] from rfl) (Reps.one (show Kd.M (Kd.int .i64) _ _ _ 1 [.int .i64 1] from rfl) (Reps.one (show Kd.M (Kd.int .i64) _ _ _ 60 [.int .i64 60] from rfl) (Reps.one (show Kd.M (Kd.int .i64) _ _ _ 61 [.int .i64 61] from rfl) (Reps.one (show Kd.M (Kd.int .i64) _ _ _ 4611686018427387904 [.int .i64 4611686018427387904] from rfl) (Reps.none _ _)))))))); intro h7 h8 b2 hb hg_ hnew_; clear hg_ hnew_; (first | rw [← e7.out] at b2 | (simp only [Int.reduceToNat] at b2; rw [← e7.out] at b2)); have b0 := Aside0.mk (Kd.R_lower b2 (keep_size (w := w) (g := g) (row := none) kK)); replace HI0 := Aside0.mk (IsS84.below kI hb); replace a7 := bQ a7 hb; replace a9 := bQ a9 hb; replace HK := Aside0.mk (KeepBut.trans (w := w) kK (KeepBut.of_below hb g none) (.inl rfl)); replace HB := Aside0.mk (below_step bI hb); clear hb b2; obtain ⟨e4, e5, e6⟩ := Kd.R_slice b0.out; subst e6) | ((with_reducible refine gate_callee (f := 66) rfl ?_); refine goesL_ (some 12) rfl rfl Try.func66 kr rfl #[.pointer (some ⟨g, 0, none⟩), .slice e4 e0.length e5] rfl sM ?_; (with_reducible refine (spec_l1Cur_among.calls g s0_0 b6 b7 _ _ e0 g1 g8 g9 w0 _ ?side1 ?side2 ?side3 ?side4 ?side5 A5.out).mono ?_); (case side1 => exact kI); (case side2 => exact bI); (case side3 => repeat (first | exact (Kd.R_reads' b0.out).2.2 | (with_reducible refine Kd.C_alloc ?_ _) | (with_reducible refine Kd.C_drewN ?_ _) | (with_reducible refine Kd.C_drew ?_))); (case side4 => exact (Kd.R_reads' b0.out).2.1); (case side5 => exact far_slice (IsS84.own_ne HI0.out b0.out (by decide))); rintro e h9 ⟨rfl, hi, hb, hk⟩; refine ⟨_, rfl, ?_⟩; replace a7 := Aside0.mk (KeepBut.blk hk (g' := b3) (o := .cells #[.int .i64 0, .int .i64 0] 28 (0, 0)) (bK a7) b1.out (by simp)); replace a9 := Aside0.mk (KeepBut.blk hk (g' := c5) (o := .cells #[.int .i64 b4, .int .i64 b5] 28 (0, 0)) (bK a9) c2.out (by simp)); replace b0 := Aside0.mk (Kd.R_mono (Kd.R_keep (IsS84.apart (show IsS84 w0 _ g s0_0 b6 b7 from by repeat (first | (with_reducible first | exact HI0.out | apply IsS84.alloc | apply IsS84.drewN | apply IsS84.drew | apply IsS84.set_1 | apply IsS84.set_2 | refine IsS84.far ?_ a8.out _ | refine IsS84.far ?_ b8.out _) | exact HI0.out)) (oR b0) (by decide)) hk (fun _ h => h.2)) (fun _ h => h.1)); replace HK := Aside0.mk (KeepBut.trans (w := w) kK hk (.inl rfl)); replace HB := Aside0.mk (hb); replace HI0 := Aside0.mk (hi); (try clear hb); (try clear hk); (try clear hi); obtain ⟨c6, c7, c8, c9⟩ := cf2 a9; have e9 := b1.out; have g0 := a8.out; obtain ⟨d0, d1, d2, d3⟩ := cf2 a7) | ((with_reducible refine gate_dst (N := 17) rfl ?_); refine Kd.R_lit (Kd.int .i64) _ 3 ?hg (N := 17) ?hd (xs := ([(-1), 0, 1, 60, 61, 4611686018427387904] : List Int)) (inner := [.int .i64 (-1), .int .i64 0, .int .i64 1, .int .i64 60, .int .i64 61, .int .i64 4611686018427387904]) (ok := fun _ => True) (okp := fun _ => True) ?hr ?hp (fun _ hk => hk) trivial (Below.refl _ _) (Nat.le_refl _) (by simp) ?_; (case hd => rfl); (case hg => rfl); (case hr => first | (go_simp; done) | (go_simp; rfl)); (case hp => exact (Reps.one (show Kd.M (Kd.int .i64) _ _ _ (-1) [.int .i64 (-1)] from rfl) (Reps.one (show Kd.M (Kd.int .i64) _ _ _ 0 [.int .i64 0] from rfl) (Reps.one (show Kd.M (Kd.int .i64) _ _ _ 1 [.int .i64 1] from rfl) (Reps.one (show Kd.M (Kd.int .i64) _ _ _ 60 [.int .i64 60] from rfl) (Reps.one (show Kd.M (Kd.int .i64) _ _ _ 61 [.int .i64 61] from rfl) (Reps.one (show Kd.M (Kd.int .i64) _ _ _ 4611686018427387904 [.int .i64 4611686018427387904] from rfl) (Reps.none _ _)))))))); intro h7 h8 b2 hb hg_ hnew_; clear hg_ hnew_; (first | rw [← e8.out] at b2 | (simp only [Int.reduceToNat] at b2; rw [← e8.out] at b2)); have b0 := Aside0.mk (Kd.R_lower b2 (keep_size (w := w) (g := g) (row := none) kK)); replace HI0 := Aside0.mk (IsS84.below kI hb); replace a7 := bQ a7 hb; replace a9 := bQ a9 hb; replace HK := Aside0.mk (KeepBut.trans (w := w) kK (KeepBut.of_below hb g none) (.inl rfl)); replace HB := Aside0.mk (below_step bI hb); clear hb b2; obtain ⟨e4, e5, e6⟩ := Kd.R_slice b0.out; subst e6) | ((with_reducible refine gate_callee (f := 66) rfl ?_); refine goesL_ (some 18) rfl rfl Try.func66 kr rfl #[.pointer (some ⟨g, 0, none⟩), .slice e4 e1.length e5] rfl sM ?_; (with_reducible refine (spec_l1Cur_among.calls g s0_0 b6 b7 _ _ e1 g2 h0 h1 w0 _ ?side1 ?side2 ?side3 ?side4 ?side5 h6.out).mono ?_); (case side1 => exact kI); (case side2 => exact bI); (case side3 => repeat (first | exact (Kd.R_reads' b0.out).2.2 | (with_reducible refine Kd.C_alloc ?_ _) | (with_reducible refine Kd.C_drewN ?_ _) | (with_reducible refine Kd.C_drew ?_))); (case side4 => exact (Kd.R_reads' b0.out).2.1); (case side5 => exact far_slice (IsS84.own_ne HI0.out b0.out (by decide))); rintro e h9 ⟨rfl, hi, hb, hk⟩; refine ⟨_, rfl, ?_⟩; replace a7 := Aside0.mk (KeepBut.blk hk (g' := b3) (o := .cells #[.int .i64 0, .int .i64 0] 28 (0, 0)) (bK a7) b1.out (by simp)); replace a9 := Aside0.mk (KeepBut.blk hk (g' := c5) (o := .cells #[.int .i64 b4, .int .i64 b5] 28 (0, 0)) (bK a9) c2.out (by simp)); replace b0 := Aside0.mk (Kd.R_mono (Kd.R_keep (IsS84.apart (show IsS84 w0 _ g s0_0 b6 b7 from by repeat (first | (with_reducible first | exact HI0.out | apply IsS84.alloc | apply IsS84.drewN | apply IsS84.drew | apply IsS84.set_1 | apply IsS84.set_2 | refine IsS84.far ?_ a8.out _ | refine IsS84.far ?_ b8.out _) | exact HI0.out)) (oR b0) (by decide)) hk (fun _ h => h.2)) (fun _ h => h.1)); replace HK := Aside0.mk (KeepBut.trans (w := w) kK hk (.inl rfl)); replace HB := Aside0.mk (hb); replace HI0 := Aside0.mk (hi); (try clear hb); (try clear hk); (try clear hi); obtain ⟨c6, c7, c8, c9⟩ := cf2 a9; have e9 := b1.out; have g0 := a8.out; obtain ⟨d0, d1, d2, d3⟩ := cf2 a7)))
 ·(
 refine bodyPost_ret (results_cell_row rfl _ _ b3 28 #[.int .i64 g1, .int .i64 b5] (0, 0) _ rfl (bK a7) Try.underlying28 rfl kr) rfl ?_
 exact ⟨sE, kI, bI, kK⟩
 )
 ·(
 refine bodyPost_ret (results_cell_row rfl _ _ b3 28 #[.int .i64 b4, .int .i64 g2] (0, 0) _ rfl (bK a7) Try.underlying28 rfl kr) rfl ?_
 exact ⟨sE, kI, bI, kK⟩
 )
 ·(
 refine bodyPost_ret (results_cell_row rfl _ _ b3 28 #[.int .i64 b4, .int .i64 b5] (0, 0) _ rfl (bK a7) Try.underlying28 rfl kr) rfl ?_
 exact ⟨sE, kI, bI, kK⟩
 )

end Go.Proofs.Ythfbjofmcniogaa.PFnBeamsGo
