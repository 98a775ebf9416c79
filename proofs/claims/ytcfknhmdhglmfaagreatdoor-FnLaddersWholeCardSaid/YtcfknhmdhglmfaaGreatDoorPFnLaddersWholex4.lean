-- Written by xprint.py, a program of this session, for this seat; Lean checks it.
import Derived.Test.YtcfknhmdhglmfaaGreatDoorVM
import Derived.Test.YtcfknhmdhglmfaaGreatDoorPFnLaddersWholex0
import Derived.Test.YtcfknhmdhglmfaaGreatDoorPFnLaddersWholex3
namespace Go.Proofs.YtcfknhmdhglmfaaGreatDoor.PFnLaddersWhole
open Go.Proofs.YtcfknhmdhglmfaaGreatDoorV Go.RowKit Go.Proofs.YtcfknhmdhglmfaaGreatDoorW.PrintWords Go.Proofs.YtcfknhmdhglmfaaGreatDoorW.PrintLast Go.Proofs.YtcfknhmdhglmfaaGreatDoorW.PrintMore
attribute [local go_sem] max2_int min2_int max_two min_two max_three min_three max_four min_four   -- for this text's walks alone
set_option linter.unusedVariables false
set_option linter.unusedSimpArgs false

/-! ### impl_SquaresOf: function 6 -/
def impl_SquaresOf.f (a0_0 : Int) (a0_1 : Int) (a0_2 : Int) : Option (Int × Int × Bool) := (impl_AreLadders.f a0_0 a0_1 a0_2).bind fun t207 => (if t207 = true then (some (wrap64 ((wrap64 (a0_0 * a0_0)) + (wrap64 (a0_1 * a0_1))), wrap64 ((wrap64 (a0_0 * a0_0)) + (wrap64 (a0_2 * a0_2))), true)) else (some (0, 0, false)))
set_option maxHeartbeats 8000000 in
set_option maxRecDepth 100000 in
theorem impl_SquaresOf.calls (a0_0 : Int) (a0_1 : Int) (a0_2 : Int) (r1 : Int) (r2 : Int) (r3 : Bool) (w : World) (h : impl_SquaresOf.f a0_0 a0_1 a0_2 = some (r1, r2, r3)) :
    Calls Tryz.prog 6 #[.agg #[.int .i64 a0_0, .int .i64 a0_1, .int .i64 a0_2]] w fun e w' => e = .returned (.tuple #[.int .i64 r1, .int .i64 r2, .bool r3]) ∧ Below w.heap.size w w' := by
 have c8 := Tryz.underlying25
 have HB := Aside0.mk (Below.refl w.heap.size w)
 have H := h
 unfold impl_SquaresOf.f at H
 clear h
 obtain ⟨c7, A2, H⟩ := bD H
 try dsimp only at H
 by_cases c3 : c7 = true
 ·(
 subst c3
 rw [if_pos rfl] at H
 simp only [Option.some.injEq, Prod.mk.injEq] at H
 obtain ⟨rfl, rfl, rfl⟩ := H
 go_enter Tryz.func6, Tryz.ntmps6
 go_wp2_with (first | ((with_reducible refine gate_dst (N := 1) rfl ?_); refine box_ (cs := #[.int .i64 a0_0, .int .i64 a0_1, .int .i64 a0_2]) (t := 25) fun a4 hg w4 hbox hb => ?_; have a3 := Aside0.mk (hbox); have a5 := bS HB hg; have a6 := bS HB hg; replace HB := Aside0.mk (below_step bB hb); clear hb hbox hg; obtain ⟨a7, a8, a9, b0, b1, b2⟩ := cf3 a3) | (go_at_call 12; (with_reducible refine (impl_AreLadders.calls a0_0 a0_1 a0_2 true _ A2.out).mono ?_); rintro e w6 ⟨rfl, hb⟩; replace a3 := bQ a3 hb; replace HB := Aside0.mk (below_step bB hb); (try clear hb); obtain ⟨b3, b4, b5, b6, b7, b8⟩ := cf3 a3))
 repeat (go_quiet (first | ((with_reducible refine gate_dst (N := 1) rfl ?_); refine box_ (cs := #[.int .i64 a0_0, .int .i64 a0_1, .int .i64 a0_2]) (t := 25) fun a4 hg w4 hbox hb => ?_; have a3 := Aside0.mk (hbox); have a5 := bS HB hg; have a6 := bS HB hg; replace HB := Aside0.mk (below_step bB hb); clear hb hbox hg; obtain ⟨a7, a8, a9, b0, b1, b2⟩ := cf3 a3) | (go_at_call 12; (with_reducible refine (impl_AreLadders.calls a0_0 a0_1 a0_2 true _ A2.out).mono ?_); rintro e w6 ⟨rfl, hb⟩; replace a3 := bQ a3 hb; replace HB := Aside0.mk (below_step bB hb); (try clear hb); obtain ⟨b3, b4, b5, b6, b7, b8⟩ := cf3 a3)); try go_wp2_with (first | ((with_reducible refine gate_dst (N := 1) rfl ?_); refine box_ (cs := #[.int .i64 a0_0, .int .i64 a0_1, .int .i64 a0_2]) (t := 25) fun a4 hg w4 hbox hb => ?_; have a3 := Aside0.mk (hbox); have a5 := bS HB hg; have a6 := bS HB hg; replace HB := Aside0.mk (below_step bB hb); clear hb hbox hg; obtain ⟨a7, a8, a9, b0, b1, b2⟩ := cf3 a3) | (go_at_call 12; (with_reducible refine (impl_AreLadders.calls a0_0 a0_1 a0_2 true _ A2.out).mono ?_); rintro e w6 ⟨rfl, hb⟩; replace a3 := bQ a3 hb; replace HB := Aside0.mk (below_step bB hb); (try clear hb); obtain ⟨b3, b4, b5, b6, b7, b8⟩ := cf3 a3)))
 go_ret3
 exact ⟨sE, bI⟩
 )
 ·(
 replace c3 := Bool.eq_false_iff.mpr c3
 subst c3
 rw [if_neg nft] at H
 simp only [Option.some.injEq, Prod.mk.injEq] at H
 obtain ⟨rfl, rfl, rfl⟩ := H
 go_enter Tryz.func6, Tryz.ntmps6
 go_wp2_with (first | ((with_reducible refine gate_dst (N := 1) rfl ?_); refine box_ (cs := #[.int .i64 a0_0, .int .i64 a0_1, .int .i64 a0_2]) (t := 25) fun a4 hg w8 hbox hb => ?_; have a3 := Aside0.mk (hbox); have a5 := bS HB hg; have a6 := bS HB hg; replace HB := Aside0.mk (below_step bB hb); clear hb hbox hg; obtain ⟨b9, c0, c1, c2, c4, c5⟩ := cf3 a3) | (go_at_call 12; (with_reducible refine (impl_AreLadders.calls a0_0 a0_1 a0_2 false _ A2.out).mono ?_); rintro e c6 ⟨rfl, hb⟩; replace a3 := bQ a3 hb; replace HB := Aside0.mk (below_step bB hb); (try clear hb)))
 repeat (go_quiet (first | ((with_reducible refine gate_dst (N := 1) rfl ?_); refine box_ (cs := #[.int .i64 a0_0, .int .i64 a0_1, .int .i64 a0_2]) (t := 25) fun a4 hg w8 hbox hb => ?_; have a3 := Aside0.mk (hbox); have a5 := bS HB hg; have a6 := bS HB hg; replace HB := Aside0.mk (below_step bB hb); clear hb hbox hg; obtain ⟨b9, c0, c1, c2, c4, c5⟩ := cf3 a3) | (go_at_call 12; (with_reducible refine (impl_AreLadders.calls a0_0 a0_1 a0_2 false _ A2.out).mono ?_); rintro e c6 ⟨rfl, hb⟩; replace a3 := bQ a3 hb; replace HB := Aside0.mk (below_step bB hb); (try clear hb))); try go_wp2_with (first | ((with_reducible refine gate_dst (N := 1) rfl ?_); refine box_ (cs := #[.int .i64 a0_0, .int .i64 a0_1, .int .i64 a0_2]) (t := 25) fun a4 hg w8 hbox hb => ?_; have a3 := Aside0.mk (hbox); have a5 := bS HB hg; have a6 := bS HB hg; replace HB := Aside0.mk (below_step bB hb); clear hb hbox hg; obtain ⟨b9, c0, c1, c2, c4, c5⟩ := cf3 a3) | (go_at_call 12; (with_reducible refine (impl_AreLadders.calls a0_0 a0_1 a0_2 false _ A2.out).mono ?_); rintro e c6 ⟨rfl, hb⟩; replace a3 := bQ a3 hb; replace HB := Aside0.mk (below_step bB hb); (try clear hb))))
 go_ret3
 exact ⟨sE, bI⟩
 )

/-! ### spec_l1In: function 46 -/
def spec_l1In.f (a0 : Int) (a1 : Int) (a2 : Int) : Option (Bool) := if a0 ≥ a1 then (some (decide (a0 ≤ a2))) else (some false)
set_option maxHeartbeats 8000000 in
set_option maxRecDepth 100000 in
theorem spec_l1In.calls (a0 : Int) (a1 : Int) (a2 : Int) (r : Bool) (w : World) (h : spec_l1In.f a0 a1 a2 = some r) :
    Calls Tryz.prog 46 #[.int .i64 a0, .int .i64 a1, .int .i64 a2] w fun e w' => e = .returned (.bool r) ∧ Drawn0 w w' := by
 have H := h
 unfold spec_l1In.f at H
 clear h
 by_cases c4 : a0 ≥ a1
 rw [if_pos c4] at H
 have a3 : decide (a1 ≤ a0) = true := decide_eq_true c4
 clear c4
 obtain rfl := Option.some.inj H
 rotate_left
 rw [if_neg c4] at H
 have a3 : decide (a1 ≤ a0) = false := decide_eq_false c4
 clear c4
 obtain rfl := Option.some.inj H
 rotate_left
 all_goals (go_enter Tryz.func46, Tryz.ntmps46)
 all_goals go_wp2
 all_goals go_ret
 all_goals (exact ⟨by first | rfl | (simp; done) | (simp [*]; done), by repeat (first | exact Drawn0.refl _ | apply Drawn0.step)⟩)

/-! ### spec_clGood: function 34 -/
def spec_clGood.f (a0_0 : Int) (a0_1 : Int) (a0_2 : Int) : Option (Bool) := (spec_l1In.f a0_0 1 1000).bind fun t209 => (if t209 = true then ((spec_l1In.f a0_1 1 1000).bind fun t210 => (if t210 = true then ((spec_l1In.f a0_2 1 1000).bind fun t211 => (some t211)) else (some false))) else (some false))
set_option maxHeartbeats 8000000 in
set_option maxRecDepth 100000 in
theorem spec_clGood.calls (a0_0 : Int) (a0_1 : Int) (a0_2 : Int) (r : Bool) (w : World) (h : spec_clGood.f a0_0 a0_1 a0_2 = some r) :
    Calls Tryz.prog 34 #[.agg #[.int .i64 a0_0, .int .i64 a0_1, .int .i64 a0_2]] w fun e w' => e = .returned (.bool r) ∧ Below w.heap.size w w' := by
 have b3 := Tryz.underlying25
 have HB := Aside0.mk (Below.refl w.heap.size w)
 have H := h
 unfold spec_clGood.f at H
 clear h
 obtain ⟨a3, A2, H⟩ := bD H
 try dsimp only at H
 by_cases c3 : a3 = true
 subst c3
 rw [if_pos rfl] at H
 obtain ⟨a4, A4, H⟩ := bD H
 try dsimp only at H
 by_cases c5 : a4 = true
 subst c5
 rw [if_pos rfl] at H
 obtain ⟨a5, A6, H⟩ := bD H
 try dsimp only at H
 obtain rfl := Option.some.inj H
 rotate_left
 replace c5 := Bool.eq_false_iff.mpr c5
 subst c5
 rw [if_neg nft] at H
 obtain rfl := Option.some.inj H
 rotate_left
 replace c3 := Bool.eq_false_iff.mpr c3
 subst c3
 rw [if_neg nft] at H
 obtain rfl := Option.some.inj H
 rotate_left
 all_goals (go_enter Tryz.func34, Tryz.ntmps34)
 all_goals (go_wp2_with (first | ((with_reducible refine gate_dst (N := 1) rfl ?_); refine box_ (cs := #[.int .i64 a0_0, .int .i64 a0_1, .int .i64 a0_2]) (t := 25) fun b4 hg b7 hbox hb => ?_; have a6 := Aside0.mk (hbox); have b5 := bS HB hg; have b6 := bS HB hg; replace HB := Aside0.mk (below_step bB hb); clear hb hbox hg; obtain ⟨a7, a8, a9, b0, b1, b2⟩ := cf3 a6) | ((with_reducible refine gate_callee (f := 46) rfl ?_); refine goesL_ (some 5) rfl rfl Tryz.func46 kr rfl #[.int .i64 a0_0, .int .i64 1, .int .i64 1000] rfl sM ?_; (with_reducible refine (spec_l1In.calls a0_0 1 1000 true _ A2.out).mono ?_); rintro e w' ⟨rfl, ⟨nd, rfl⟩⟩; refine ⟨_, rfl, ?_⟩) | (go_at_call 46; (with_reducible refine (spec_l1In.calls a0_1 1 1000 true _ A4.out).mono ?_); rintro e w' ⟨rfl, ⟨nd, rfl⟩⟩) | (go_at_call 46; (with_reducible refine (spec_l1In.calls a0_2 1 1000 a5 _ A6.out).mono ?_); rintro e w' ⟨rfl, ⟨nd, rfl⟩⟩) | (go_at_call 46; (with_reducible refine (spec_l1In.calls a0_1 1 1000 false _ A4.out).mono ?_); rintro e w' ⟨rfl, ⟨nd, rfl⟩⟩) | ((with_reducible refine gate_callee (f := 46) rfl ?_); refine goesL_ (some 5) rfl rfl Tryz.func46 kr rfl #[.int .i64 a0_0, .int .i64 1, .int .i64 1000] rfl sM ?_; (with_reducible refine (spec_l1In.calls a0_0 1 1000 false _ A2.out).mono ?_); rintro e w' ⟨rfl, ⟨nd, rfl⟩⟩; refine ⟨_, rfl, ?_⟩)))
 all_goals go_ret
 all_goals (exact ⟨sE, bI⟩)

/-! ### spec_clSquares: function 35 -/
def spec_clSquares.f (a0_0 : Int) (a0_1 : Int) (a0_2 : Int) : Option (Int × Int) := some (wrap64 ((wrap64 (a0_0 * a0_0)) + (wrap64 (a0_1 * a0_1))), wrap64 ((wrap64 (a0_0 * a0_0)) + (wrap64 (a0_2 * a0_2))))
set_option maxHeartbeats 8000000 in
set_option maxRecDepth 100000 in
theorem spec_clSquares.calls (a0_0 : Int) (a0_1 : Int) (a0_2 : Int) (r1 : Int) (r2 : Int) (w : World) (h : spec_clSquares.f a0_0 a0_1 a0_2 = some (r1, r2)) :
    Calls Tryz.prog 35 #[.agg #[.int .i64 a0_0, .int .i64 a0_1, .int .i64 a0_2]] w fun e w' => e = .returned (.tuple #[.int .i64 r1, .int .i64 r2]) ∧ Below w.heap.size w w' := by
 have b3 := Tryz.underlying25
 have HB := Aside0.mk (Below.refl w.heap.size w)
 have H := h
 unfold spec_clSquares.f at H
 clear h
 simp only [Option.some.injEq, Prod.mk.injEq] at H
 obtain ⟨rfl, rfl⟩ := H
 go_enter Tryz.func35, Tryz.ntmps35
 go_wp2_with (first | ((with_reducible refine gate_dst (N := 1) rfl ?_); refine box_ (cs := #[.int .i64 a0_0, .int .i64 a0_1, .int .i64 a0_2]) (t := 25) fun b0 hg w2 hbox hb => ?_; have a3 := Aside0.mk (hbox); have b1 := bS HB hg; have b2 := bS HB hg; replace HB := Aside0.mk (below_step bB hb); clear hb hbox hg; obtain ⟨a4, a5, a6, a7, a8, a9⟩ := cf3 a3))
 repeat (go_quiet (first | ((with_reducible refine gate_dst (N := 1) rfl ?_); refine box_ (cs := #[.int .i64 a0_0, .int .i64 a0_1, .int .i64 a0_2]) (t := 25) fun b0 hg w2 hbox hb => ?_; have a3 := Aside0.mk (hbox); have b1 := bS HB hg; have b2 := bS HB hg; replace HB := Aside0.mk (below_step bB hb); clear hb hbox hg; obtain ⟨a4, a5, a6, a7, a8, a9⟩ := cf3 a3)); try go_wp2_with (first | ((with_reducible refine gate_dst (N := 1) rfl ?_); refine box_ (cs := #[.int .i64 a0_0, .int .i64 a0_1, .int .i64 a0_2]) (t := 25) fun b0 hg w2 hbox hb => ?_; have a3 := Aside0.mk (hbox); have b1 := bS HB hg; have b2 := bS HB hg; replace HB := Aside0.mk (below_step bB hb); clear hb hbox hg; obtain ⟨a4, a5, a6, a7, a8, a9⟩ := cf3 a3)))
 go_ret2
 exact ⟨sE, bI⟩

/-! ### spec_SquaresOf: function 7 -/
def spec_SquaresOf.f (a0_0 : Int) (a0_1 : Int) (a0_2 : Int) : Option (Int × Int × Bool) := (spec_clGood.f a0_0 a0_1 a0_2).bind fun t214 => (if t214 = true then ((spec_clSquares.f a0_0 a0_1 a0_2).bind fun bt215 => (some (bt215.1, bt215.2, true))) else (some (0, 0, false)))
set_option maxHeartbeats 8000000 in
set_option maxRecDepth 100000 in
theorem spec_SquaresOf.calls (a0_0 : Int) (a0_1 : Int) (a0_2 : Int) (r1 : Int) (r2 : Int) (r3 : Bool) (w : World) (h : spec_SquaresOf.f a0_0 a0_1 a0_2 = some (r1, r2, r3)) :
    Calls Tryz.prog 7 #[.agg #[.int .i64 a0_0, .int .i64 a0_1, .int .i64 a0_2]] w fun e w' => e = .returned (.tuple #[.int .i64 r1, .int .i64 r2, .bool r3]) ∧ Below w.heap.size w w' := by
 have c0 := Tryz.underlying25
 have HB := Aside0.mk (Below.refl w.heap.size w)
 have H := h
 unfold spec_SquaresOf.f at H
 clear h
 obtain ⟨a4, A2, H⟩ := bD H
 try dsimp only at H
 by_cases c3 : a4 = true
 subst c3
 rw [if_pos rfl] at H
 obtain ⟨⟨a5, a6⟩, A4, H⟩ := bD H
 try dsimp only at H
 simp only [Option.some.injEq, Prod.mk.injEq] at H
 obtain ⟨rfl, rfl, rfl⟩ := H
 rotate_left
 replace c3 := Bool.eq_false_iff.mpr c3
 subst c3
 rw [if_neg nft] at H
 simp only [Option.some.injEq, Prod.mk.injEq] at H
 obtain ⟨rfl, rfl, rfl⟩ := H
 rotate_left
 all_goals (go_enter Tryz.func7, Tryz.ntmps7)
 all_goals (go_wp2_with (first | ((with_reducible refine gate_dst (N := 1) rfl ?_); refine box_ (cs := #[.int .i64 a0_0, .int .i64 a0_1, .int .i64 a0_2]) (t := 25) fun c1 hg c5 hbox hb => ?_; have a3 := Aside0.mk (hbox); have c2 := bS HB hg; have c4 := bS HB hg; replace HB := Aside0.mk (below_step bB hb); clear hb hbox hg; obtain ⟨a7, a8, a9, b0, b1, b2⟩ := cf3 a3) | ((with_reducible refine gate_callee (f := 34) rfl ?_); refine goesL_ (some 8) rfl rfl Tryz.func34 kr rfl #[.agg #[.int .i64 a0_0, .int .i64 a0_1, .int .i64 a0_2]] rfl sM ?_; (with_reducible refine (spec_clGood.calls a0_0 a0_1 a0_2 true _ A2.out).mono ?_); rintro e b9 ⟨rfl, hb⟩; refine ⟨_, rfl, ?_⟩; replace a3 := bQ a3 hb; replace HB := Aside0.mk (below_step bB hb); (try clear hb); obtain ⟨b3, b4, b5, b6, b7, b8⟩ := cf3 a3) | ((with_reducible refine gate_callee (f := 35) rfl ?_); refine goesL_ (some 12) rfl rfl Tryz.func35 kr rfl #[.agg #[.int .i64 a0_0, .int .i64 a0_1, .int .i64 a0_2]] rfl sM ?_; (with_reducible refine (spec_clSquares.calls a0_0 a0_1 a0_2 a5 a6 _ A4.out).mono ?_); rintro e c6 ⟨rfl, hb⟩; refine ⟨_, rfl, ?_⟩; replace a3 := bQ a3 hb; replace HB := Aside0.mk (below_step bB hb); (try clear hb)) | ((with_reducible refine gate_callee (f := 34) rfl ?_); refine goesL_ (some 8) rfl rfl Tryz.func34 kr rfl #[.agg #[.int .i64 a0_0, .int .i64 a0_1, .int .i64 a0_2]] rfl sM ?_; (with_reducible refine (spec_clGood.calls a0_0 a0_1 a0_2 false _ A2.out).mono ?_); rintro e b9 ⟨rfl, hb⟩; refine ⟨_, rfl, ?_⟩; replace a3 := bQ a3 hb; replace HB := Aside0.mk (below_step bB hb); (try clear hb))))
 all_goals go_ret3
 all_goals (exact ⟨sE, bI⟩)

/-! ### impl_rootOf: function 36 -/
mutual
def impl_rootOf.l0 : Nat → Int → Int → Int → Option (Int × Bool)
  | 0, _, _, _ => none
  | k + 1, x0, x4, x5 => if (wrap64 (x5 * x5)) < x0 then (impl_rootOf.l0 k x0 x4 (wrap64 (x5 * 2))) else (impl_rootOf.l1 k x0 x4 x5)
def impl_rootOf.l1 : Nat → Int → Int → Int → Option (Int × Bool)
  | 0, _, _, _ => none
  | k + 1, x0, x4, x5 => if x4 < x5 then (if (wrap64 ((wrap64 (Int.tdiv (wrap64 (x4 + x5)) 2)) * (wrap64 (Int.tdiv (wrap64 (x4 + x5)) 2)))) < x0 then (impl_rootOf.l1 k x0 (wrap64 ((wrap64 (Int.tdiv (wrap64 (x4 + x5)) 2)) + 1)) x5) else (impl_rootOf.l1 k x0 x4 (wrap64 (Int.tdiv (wrap64 (x4 + x5)) 2)))) else (some (x4, ((wrap64 (x4 * x4)) == x0)))
end
def impl_rootOf.f (k : Nat) (a0 : Int) : Option (Int × Bool) := impl_rootOf.l0 k a0 0 1
theorem impl_rootOf.mono_l : ∀ k, (∀ y0 y1 y2, LeO (impl_rootOf.l0 k y0 y1 y2) (impl_rootOf.l0 (k + 1) y0 y1 y2)) ∧ (∀ y0 y1 y2, LeO (impl_rootOf.l1 k y0 y1 y2) (impl_rootOf.l1 (k + 1) y0 y1 y2))
  | 0 => ⟨fun _ _ _ r h => by simp [impl_rootOf.l0] at h, fun _ _ _ r h => by simp [impl_rootOf.l1] at h⟩
  | k + 1 => by
    obtain ⟨ih0, ih1⟩ := impl_rootOf.mono_l k
    refine ⟨?_, ?_⟩
    · intro y0 y1 y2
      unfold impl_rootOf.l0
      repeat' first
      | (with_reducible exact ih0 _ _ _)
      | (with_reducible exact ih1 _ _ _)
      | (with_reducible exact LeO.refl _)
      | (with_reducible exact LeO.none _)
      | (with_reducible refine LeO.ite ?_ ?_)
      | (with_reducible refine LeO.bind ?_ (fun _ => ?_))
      | exact ih0 _ _ _
      | exact ih1 _ _ _
      | exact LeO.none _
      | refine LeO.ite ?_ ?_
      | refine LeO.bind ?_ (fun _ => ?_)
    · intro y0 y1 y2
      unfold impl_rootOf.l1
      repeat' first
      | (with_reducible exact ih0 _ _ _)
      | (with_reducible exact ih1 _ _ _)
      | (with_reducible exact LeO.refl _)
      | (with_reducible exact LeO.none _)
      | (with_reducible refine LeO.ite ?_ ?_)
      | (with_reducible refine LeO.bind ?_ (fun _ => ?_))
      | exact ih0 _ _ _
      | exact ih1 _ _ _
      | exact LeO.none _
      | refine LeO.ite ?_ ?_
      | refine LeO.bind ?_ (fun _ => ?_)
theorem impl_rootOf.mono : ∀ a0 k, LeO (impl_rootOf.f k a0) (impl_rootOf.f (k + 1) a0) := by
  intro a0 k
  obtain ⟨ih0, ih1⟩ := impl_rootOf.mono_l k
  unfold impl_rootOf.f
  repeat' first
      | (with_reducible exact ih0 _ _ _)
      | (with_reducible exact ih1 _ _ _)
      | (with_reducible exact LeO.refl _)
      | (with_reducible exact LeO.none _)
      | (with_reducible refine LeO.ite ?_ ?_)
      | (with_reducible refine LeO.bind ?_ (fun _ => ?_))
      | exact ih0 _ _ _
      | exact ih1 _ _ _
      | exact LeO.none _
      | refine LeO.ite ?_ ?_
      | refine LeO.bind ?_ (fun _ => ?_)
set_option maxHeartbeats 8000000 in
set_option maxRecDepth 100000 in
theorem impl_rootOf.calls (k : Nat) (a0 : Int) (r1 : Int) (r2 : Bool) (w : World) (h : impl_rootOf.f k a0 = some (r1, r2)) :
    Calls Tryz.prog 36 #[.int .i64 a0] w fun e w' => e = .returned (.tuple #[.int .i64 r1, .bool r2]) ∧ Drawn0 w w' := by
 have H := h
 unfold impl_rootOf.f at H
 clear h
 have H' := Aside0.mk H
 clear H
 go_enter Tryz.func36, Tryz.ntmps36
 go_wp2
 go_loopg [5] k (fun kq v5 w' => ∃ (a5 : Int), v5 = .int .i64 a5 ∧ Aside0 (impl_rootOf.l0 kq a0 0 a5 = some (r1, r2)) ∧ Aside0 (kq ≤ k) ∧ Drawn0 w w')
 case atStart => exact ⟨(1), sR, H', ⟨Nat.le_refl _⟩, by repeat (first | exact Drawn0.refl _ | apply Drawn0.step)⟩
 case round => (
 clear H'
 obtain ⟨a5, rfl, HA, HK1, ⟨m1, rfl⟩⟩ := hrel
 cases gk with
 | zero => exact absurd HA.out (by simp [impl_rootOf.l0])
 | succ k1 => (
 have H := HA.out
 clear HA
 simp only [impl_rootOf.l0] at H
 by_cases c2 : (wrap64 (a5 * a5)) < a0
 ·(
 rw [if_pos c2] at H
 have a6 : decide ((wrap64 (a5 * a5)) < a0) = true := decide_eq_true c2
 clear c2
 have H' := Aside0.mk H
 clear H
 go_wp2
 go_roundg k1
 case measure => have := HK1.out; omega
 case rel => exact ⟨(wrap64 (a5 * 2)), sR, H', ⟨by have := HK1.out; omega⟩, by repeat (first | exact Drawn0.refl _ | apply Drawn0.step)⟩
 )
 ·(
 rw [if_neg c2] at H
 have a6 : decide ((wrap64 (a5 * a5)) < a0) = false := decide_eq_false c2
 clear c2
 have H' := Aside0.mk H
 clear H
 go_wp2
 go_loopg [4, 5] k1 (fun kq v4 v5 w' => ∃ (a3 : Int) (a4 : Int), v4 = .int .i64 a3 ∧ v5 = .int .i64 a4 ∧ Aside0 (impl_rootOf.l1 kq a0 a3 a4 = some (r1, r2)) ∧ Aside0 (kq ≤ k1) ∧ Drawn0 w w')
 case atStart => exact ⟨(0), (a5), sR, sR, H', ⟨Nat.le_refl _⟩, by repeat (first | exact Drawn0.refl _ | apply Drawn0.step)⟩
 case round => (
 clear H'
 try clear a6
 obtain ⟨a3, a4, rfl, rfl, HA, HK2, ⟨m2, rfl⟩⟩ := hrel
 cases gk with
 | zero => exact absurd HA.out (by simp [impl_rootOf.l1])
 | succ k2 => (
 have H := HA.out
 clear HA
 simp only [impl_rootOf.l1] at H
 by_cases c3 : a3 < a4
 ·(
 rw [if_pos c3] at H
 have a7 : decide (a3 < a4) = true := decide_eq_true c3
 clear c3
 by_cases c4 : (wrap64 ((wrap64 (Int.tdiv (wrap64 (a3 + a4)) 2)) * (wrap64 (Int.tdiv (wrap64 (a3 + a4)) 2)))) < a0
 ·(
 rw [if_pos c4] at H
 have a8 : decide ((wrap64 ((wrap64 (Int.tdiv (wrap64 (a3 + a4)) 2)) * (wrap64 (Int.tdiv (wrap64 (a3 + a4)) 2)))) < a0) = true := decide_eq_true c4
 clear c4
 have H' := Aside0.mk H
 clear H
 go_wp2
 go_roundg k2
 case measure => have := HK1.out; have := HK2.out; omega
 case rel => exact ⟨(wrap64 ((wrap64 (Int.tdiv (wrap64 (a3 + a4)) 2)) + 1)), (a4), sR, sR, H', ⟨by have := HK1.out; have := HK2.out; omega⟩, by repeat (first | exact Drawn0.refl _ | apply Drawn0.step)⟩
 )
 ·(
 rw [if_neg c4] at H
 have a8 : decide ((wrap64 ((wrap64 (Int.tdiv (wrap64 (a3 + a4)) 2)) * (wrap64 (Int.tdiv (wrap64 (a3 + a4)) 2)))) < a0) = false := decide_eq_false c4
 clear c4
 have H' := Aside0.mk H
 clear H
 go_wp2
 go_roundg k2
 case measure => have := HK1.out; have := HK2.out; omega
 case rel => exact ⟨(a3), (wrap64 (Int.tdiv (wrap64 (a3 + a4)) 2)), sR, sR, H', ⟨by have := HK1.out; have := HK2.out; omega⟩, by repeat (first | exact Drawn0.refl _ | apply Drawn0.step)⟩
 )
 )
 ·(
 rw [if_neg c3] at H
 have a7 : decide (a3 < a4) = false := decide_eq_false c3
 clear c3
 simp only [Option.some.injEq, Prod.mk.injEq] at H
 obtain ⟨rfl, rfl⟩ := H
 go_wp2
 go_ret2
 exact ⟨by first | rfl | (simp; done) | (simp [*]; done), by repeat (first | exact Drawn0.refl _ | apply Drawn0.step)⟩
 )
 )
 )
 )
 )
 )

/-! ### impl_LengthsOf: function 8 -/
def impl_LengthsOf.f (k : Nat) (a0_0 : Int) (a0_1 : Int) (a0_2 : Int) : Option (Int × Int × Bool) := (impl_SquaresOf.f a0_0 a0_1 a0_2).bind fun bt218 => ((impl_rootOf.f k bt218.1).bind fun bt221 => ((impl_rootOf.f k bt218.2.1).bind fun bt223 => (if bt218.2.2 = true then (if bt221.2 = true then (if bt223.2 = true then (some (bt221.1, bt223.1, true)) else (some (0, 0, false))) else (some (0, 0, false))) else (some (0, 0, false)))))
theorem impl_LengthsOf.mono : ∀ a0 a1 a2 k, LeO (impl_LengthsOf.f k a0 a1 a2) (impl_LengthsOf.f (k + 1) a0 a1 a2) := by
  intro a0 a1 a2 k
  unfold impl_LengthsOf.f
  repeat' first
      | (with_reducible exact impl_rootOf.mono _ _)
      | (with_reducible exact LeO.refl _)
      | (with_reducible exact LeO.none _)
      | (with_reducible refine LeO.ite ?_ ?_)
      | (with_reducible refine LeO.bind ?_ (fun _ => ?_))
      | exact impl_rootOf.mono _ _
      | exact LeO.none _
      | refine LeO.ite ?_ ?_
      | refine LeO.bind ?_ (fun _ => ?_)
set_option maxHeartbeats 8000000 in
set_option maxRecDepth 100000 in
theorem impl_LengthsOf.calls (k : Nat) (a0_0 : Int) (a0_1 : Int) (a0_2 : Int) (r1 : Int) (r2 : Int) (r3 : Bool) (w : World) (h : impl_LengthsOf.f k a0_0 a0_1 a0_2 = some (r1, r2, r3)) :
    Calls Tryz.prog 8 #[.agg #[.int .i64 a0_0, .int .i64 a0_1, .int .i64 a0_2]] w fun e w' => e = .returned (.tuple #[.int .i64 r1, .int .i64 r2, .bool r3]) ∧ Below w.heap.size w w' := by
 have b8 := Tryz.underlying25
 have HB := Aside0.mk (Below.refl w.heap.size w)
 have H := h
 unfold impl_LengthsOf.f at H
 clear h
 obtain ⟨⟨a3, a4, b0⟩, A2, H⟩ := bD H
 try dsimp only at H
 obtain ⟨⟨a6, a8⟩, A3, H⟩ := bD H
 try dsimp only at H
 obtain ⟨⟨a7, a9⟩, A4, H⟩ := bD H
 try dsimp only at H
 by_cases c5 : b0 = true
 subst c5
 rw [if_pos rfl] at H
 by_cases c6 : a8 = true
 subst c6
 rw [if_pos rfl] at H
 by_cases c7 : a9 = true
 subst c7
 rw [if_pos rfl] at H
 simp only [Option.some.injEq, Prod.mk.injEq] at H
 obtain ⟨rfl, rfl, rfl⟩ := H
 rotate_left
 replace c7 := Bool.eq_false_iff.mpr c7
 subst c7
 rw [if_neg nft] at H
 simp only [Option.some.injEq, Prod.mk.injEq] at H
 obtain ⟨rfl, rfl, rfl⟩ := H
 rotate_left
 replace c6 := Bool.eq_false_iff.mpr c6
 subst c6
 rw [if_neg nft] at H
 simp only [Option.some.injEq, Prod.mk.injEq] at H
 obtain ⟨rfl, rfl, rfl⟩ := H
 rotate_left
 replace c5 := Bool.eq_false_iff.mpr c5
 subst c5
 rw [if_neg nft] at H
 simp only [Option.some.injEq, Prod.mk.injEq] at H
 obtain ⟨rfl, rfl, rfl⟩ := H
 rotate_left
 all_goals (go_enter Tryz.func8, Tryz.ntmps8)
 all_goals (go_wp2_with (first | ((with_reducible refine gate_dst (N := 1) rfl ?_); refine box_ (cs := #[.int .i64 a0_0, .int .i64 a0_1, .int .i64 a0_2]) (t := 25) fun b9 hg c2 hbox hb => ?_; have a5 := Aside0.mk (hbox); have c0 := bS HB hg; have c1 := bS HB hg; replace HB := Aside0.mk (below_step bB hb); clear hb hbox hg; obtain ⟨b1, b2, b3, b4, b5, b6⟩ := cf3 a5) | ((with_reducible refine gate_callee (f := 6) rfl ?_); refine goesL_ (some 14) rfl rfl Tryz.func6 kr rfl #[.agg #[.int .i64 a0_0, .int .i64 a0_1, .int .i64 a0_2]] rfl sM ?_; (with_reducible refine (impl_SquaresOf.calls a0_0 a0_1 a0_2 a3 a4 true _ A2.out).mono ?_); rintro e b7 ⟨rfl, hb⟩; refine ⟨_, rfl, ?_⟩; replace a5 := bQ a5 hb; replace HB := Aside0.mk (below_step bB hb); (try clear hb)) | ((with_reducible refine gate_callee (f := 36) rfl ?_); refine goesL_ (some 20) rfl rfl Tryz.func36 kr rfl #[.int .i64 a3] rfl sM ?_; (with_reducible refine (impl_rootOf.calls k a3 a6 true _ A3.out).mono ?_); rintro e w' ⟨rfl, ⟨nd, rfl⟩⟩; refine ⟨_, rfl, ?_⟩) | ((with_reducible refine gate_callee (f := 36) rfl ?_); refine goesL_ (some 25) rfl rfl Tryz.func36 kr rfl #[.int .i64 a4] rfl sM ?_; (with_reducible refine (impl_rootOf.calls k a4 a7 true _ A4.out).mono ?_); rintro e w' ⟨rfl, ⟨nd, rfl⟩⟩; refine ⟨_, rfl, ?_⟩) | ((with_reducible refine gate_callee (f := 36) rfl ?_); refine goesL_ (some 25) rfl rfl Tryz.func36 kr rfl #[.int .i64 a4] rfl sM ?_; (with_reducible refine (impl_rootOf.calls k a4 a7 false _ A4.out).mono ?_); rintro e w' ⟨rfl, ⟨nd, rfl⟩⟩; refine ⟨_, rfl, ?_⟩) | ((with_reducible refine gate_callee (f := 36) rfl ?_); refine goesL_ (some 20) rfl rfl Tryz.func36 kr rfl #[.int .i64 a3] rfl sM ?_; (with_reducible refine (impl_rootOf.calls k a3 a6 false _ A3.out).mono ?_); rintro e w' ⟨rfl, ⟨nd, rfl⟩⟩; refine ⟨_, rfl, ?_⟩) | ((with_reducible refine gate_callee (f := 36) rfl ?_); refine goesL_ (some 25) rfl rfl Tryz.func36 kr rfl #[.int .i64 a4] rfl sM ?_; (with_reducible refine (impl_rootOf.calls k a4 a7 a9 _ A4.out).mono ?_); rintro e w' ⟨rfl, ⟨nd, rfl⟩⟩; refine ⟨_, rfl, ?_⟩) | ((with_reducible refine gate_callee (f := 6) rfl ?_); refine goesL_ (some 14) rfl rfl Tryz.func6 kr rfl #[.agg #[.int .i64 a0_0, .int .i64 a0_1, .int .i64 a0_2]] rfl sM ?_; (with_reducible refine (impl_SquaresOf.calls a0_0 a0_1 a0_2 a3 a4 false _ A2.out).mono ?_); rintro e b7 ⟨rfl, hb⟩; refine ⟨_, rfl, ?_⟩; replace a5 := bQ a5 hb; replace HB := Aside0.mk (below_step bB hb); (try clear hb)) | ((with_reducible refine gate_callee (f := 36) rfl ?_); refine goesL_ (some 20) rfl rfl Tryz.func36 kr rfl #[.int .i64 a3] rfl sM ?_; (with_reducible refine (impl_rootOf.calls k a3 a6 a8 _ A3.out).mono ?_); rintro e w' ⟨rfl, ⟨nd, rfl⟩⟩; refine ⟨_, rfl, ?_⟩)))
 all_goals go_ret3
 all_goals (exact ⟨sE, bI⟩)

/-! ### spec_clRoot: function 59 -/
def spec_clRoot.l0 : Nat → Int → Int → Int → Option (Int)
  | 0, _, _, _ => none
  | k + 1, x0, x3, x4 => if x3 < (wrap64 (x4 - 1)) then (if (wrap64 ((wrap64 (Int.tdiv (wrap64 (x3 + x4)) 2)) * (wrap64 (Int.tdiv (wrap64 (x3 + x4)) 2)))) ≤ x0 then (spec_clRoot.l0 k x0 (wrap64 (Int.tdiv (wrap64 (x3 + x4)) 2)) x4) else (spec_clRoot.l0 k x0 x3 (wrap64 (Int.tdiv (wrap64 (x3 + x4)) 2)))) else (some x3)
def spec_clRoot.f (k : Nat) (a0 : Int) : Option (Int) := spec_clRoot.l0 k a0 0 2147483648
theorem spec_clRoot.mono_l : ∀ k, (∀ y0 y1 y2, LeO (spec_clRoot.l0 k y0 y1 y2) (spec_clRoot.l0 (k + 1) y0 y1 y2))
  | 0 => fun _ _ _ r h => by simp [spec_clRoot.l0] at h
  | k + 1 => by
    have ih0 := spec_clRoot.mono_l k
    · intro y0 y1 y2
      unfold spec_clRoot.l0
      repeat' first
      | (with_reducible exact ih0 _ _ _)
      | (with_reducible exact LeO.refl _)
      | (with_reducible exact LeO.none _)
      | (with_reducible refine LeO.ite ?_ ?_)
      | (with_reducible refine LeO.bind ?_ (fun _ => ?_))
      | exact ih0 _ _ _
      | exact LeO.none _
      | refine LeO.ite ?_ ?_
      | refine LeO.bind ?_ (fun _ => ?_)
theorem spec_clRoot.mono : ∀ a0 k, LeO (spec_clRoot.f k a0) (spec_clRoot.f (k + 1) a0) := by
  intro a0 k
  have ih0 := spec_clRoot.mono_l k
  unfold spec_clRoot.f
  repeat' first
      | (with_reducible exact ih0 _ _ _)
      | (with_reducible exact LeO.refl _)
      | (with_reducible exact LeO.none _)
      | (with_reducible refine LeO.ite ?_ ?_)
      | (with_reducible refine LeO.bind ?_ (fun _ => ?_))
      | exact ih0 _ _ _
      | exact LeO.none _
      | refine LeO.ite ?_ ?_
      | refine LeO.bind ?_ (fun _ => ?_)
set_option maxHeartbeats 8000000 in
set_option maxRecDepth 100000 in
theorem spec_clRoot.calls (k : Nat) (a0 : Int) (r : Int) (w : World) (h : spec_clRoot.f k a0 = some r) :
    Calls Tryz.prog 59 #[.int .i64 a0] w fun e w' => e = .returned (.int .i64 r) ∧ Drawn0 w w' := by
 have H := h
 unfold spec_clRoot.f at H
 clear h
 have H' := Aside0.mk H
 clear H
 go_enter Tryz.func59, Tryz.ntmps59
 go_wp2
 go_loopg [3, 4] k (fun kq v3 v4 w' => ∃ (a3 : Int) (a4 : Int), v3 = .int .i64 a3 ∧ v4 = .int .i64 a4 ∧ Aside0 (spec_clRoot.l0 kq a0 a3 a4 = some r) ∧ Aside0 (kq ≤ k) ∧ Drawn0 w w')
 case atStart => exact ⟨(0), (2147483648), sR, sR, H', ⟨Nat.le_refl _⟩, by repeat (first | exact Drawn0.refl _ | apply Drawn0.step)⟩
 case round => (
 clear H'
 obtain ⟨a3, a4, rfl, rfl, HA, HK1, ⟨m1, rfl⟩⟩ := hrel
 cases gk with
 | zero => exact absurd HA.out (by simp [spec_clRoot.l0])
 | succ k1 => (
 have H := HA.out
 clear HA
 simp only [spec_clRoot.l0] at H
 by_cases c2 : a3 < (wrap64 (a4 - 1))
 ·(
 rw [if_pos c2] at H
 have a5 : decide (a3 < (wrap64 (a4 - 1))) = true := decide_eq_true c2
 clear c2
 by_cases c3 : (wrap64 ((wrap64 (Int.tdiv (wrap64 (a3 + a4)) 2)) * (wrap64 (Int.tdiv (wrap64 (a3 + a4)) 2)))) ≤ a0
 ·(
 rw [if_pos c3] at H
 have a6 : decide ((wrap64 ((wrap64 (Int.tdiv (wrap64 (a3 + a4)) 2)) * (wrap64 (Int.tdiv (wrap64 (a3 + a4)) 2)))) ≤ a0) = true := decide_eq_true c3
 clear c3
 have H' := Aside0.mk H
 clear H
 go_wp2
 go_roundg k1
 case measure => have := HK1.out; omega
 case rel => exact ⟨(wrap64 (Int.tdiv (wrap64 (a3 + a4)) 2)), (a4), sR, sR, H', ⟨by have := HK1.out; omega⟩, by repeat (first | exact Drawn0.refl _ | apply Drawn0.step)⟩
 )
 ·(
 rw [if_neg c3] at H
 have a6 : decide ((wrap64 ((wrap64 (Int.tdiv (wrap64 (a3 + a4)) 2)) * (wrap64 (Int.tdiv (wrap64 (a3 + a4)) 2)))) ≤ a0) = false := decide_eq_false c3
 clear c3
 have H' := Aside0.mk H
 clear H
 go_wp2
 go_roundg k1
 case measure => have := HK1.out; omega
 case rel => exact ⟨(a3), (wrap64 (Int.tdiv (wrap64 (a3 + a4)) 2)), sR, sR, H', ⟨by have := HK1.out; omega⟩, by repeat (first | exact Drawn0.refl _ | apply Drawn0.step)⟩
 )
 )
 ·(
 rw [if_neg c2] at H
 have a5 : decide (a3 < (wrap64 (a4 - 1))) = false := decide_eq_false c2
 clear c2
 obtain rfl := Option.some.inj H
 go_wp2
 go_ret
 exact ⟨by first | rfl | (simp; done) | (simp [*]; done), by repeat (first | exact Drawn0.refl _ | apply Drawn0.step)⟩
 )
 )
 )

/-! ### spec_clLengths: function 37 -/
def spec_clLengths.f (k : Nat) (a0_0 : Int) (a0_1 : Int) (a0_2 : Int) : Option (Int × Int × Bool) := (spec_clSquares.f a0_0 a0_1 a0_2).bind fun bt226 => ((spec_clRoot.f k bt226.1).bind fun t228 => ((spec_clRoot.f k bt226.2).bind fun t229 => (if (wrap64 (t228 * t228)) = bt226.1 then (some (t228, t229, ((wrap64 (t229 * t229)) == bt226.2))) else (some (t228, t229, false)))))
theorem spec_clLengths.mono : ∀ a0 a1 a2 k, LeO (spec_clLengths.f k a0 a1 a2) (spec_clLengths.f (k + 1) a0 a1 a2) := by
  intro a0 a1 a2 k
  unfold spec_clLengths.f
  repeat' first
      | (with_reducible exact spec_clRoot.mono _ _)
      | (with_reducible exact LeO.refl _)
      | (with_reducible exact LeO.none _)
      | (with_reducible refine LeO.ite ?_ ?_)
      | (with_reducible refine LeO.bind ?_ (fun _ => ?_))
      | exact spec_clRoot.mono _ _
      | exact LeO.none _
      | refine LeO.ite ?_ ?_
      | refine LeO.bind ?_ (fun _ => ?_)
set_option maxHeartbeats 8000000 in
set_option maxRecDepth 100000 in
theorem spec_clLengths.calls (k : Nat) (a0_0 : Int) (a0_1 : Int) (a0_2 : Int) (r1 : Int) (r2 : Int) (r3 : Bool) (w : World) (h : spec_clLengths.f k a0_0 a0_1 a0_2 = some (r1, r2, r3)) :
    Calls Tryz.prog 37 #[.agg #[.int .i64 a0_0, .int .i64 a0_1, .int .i64 a0_2]] w fun e w' => e = .returned (.tuple #[.int .i64 r1, .int .i64 r2, .bool r3]) ∧ Below w.heap.size w w' := by
 have b6 := Tryz.underlying25
 have HB := Aside0.mk (Below.refl w.heap.size w)
 have H := h
 unfold spec_clLengths.f at H
 clear h
 obtain ⟨⟨a3, a4⟩, A2, H⟩ := bD H
 try dsimp only at H
 obtain ⟨a5, A3, H⟩ := bD H
 try dsimp only at H
 obtain ⟨a7, A4, H⟩ := bD H
 try dsimp only at H
 by_cases c5 : (wrap64 (a5 * a5)) = a3
 rw [if_pos c5] at H
 obtain ⟨a8, a9⟩ := yE c5
 clear c5
 simp only [Option.some.injEq, Prod.mk.injEq] at H
 obtain ⟨rfl, rfl, rfl⟩ := H
 rotate_left
 rw [if_neg c5] at H
 obtain ⟨a8, a9⟩ := nE c5
 simp only [Option.some.injEq, Prod.mk.injEq] at H
 obtain ⟨rfl, rfl, rfl⟩ := H
 rotate_left
 all_goals (go_enter Tryz.func37, Tryz.ntmps37)
 all_goals (go_wp2_with (first | ((with_reducible refine gate_dst (N := 1) rfl ?_); refine box_ (cs := #[.int .i64 a0_0, .int .i64 a0_1, .int .i64 a0_2]) (t := 25) fun b7 hg c0 hbox hb => ?_; have a6 := Aside0.mk (hbox); have b8 := bS HB hg; have b9 := bS HB hg; replace HB := Aside0.mk (below_step bB hb); clear hb hbox hg; obtain ⟨b0, b1, b2, b3, b4, b5⟩ := cf3 a6) | ((with_reducible refine gate_callee (f := 35) rfl ?_); refine goesL_ (some 11) rfl rfl Tryz.func35 kr rfl #[.agg #[.int .i64 a0_0, .int .i64 a0_1, .int .i64 a0_2]] rfl sM ?_; (with_reducible refine (spec_clSquares.calls a0_0 a0_1 a0_2 a3 a4 _ A2.out).mono ?_); rintro e c1 ⟨rfl, hb⟩; refine ⟨_, rfl, ?_⟩; replace a6 := bQ a6 hb; replace HB := Aside0.mk (below_step bB hb); (try clear hb)) | ((with_reducible refine gate_callee (f := 59) rfl ?_); refine goesL_ (some 15) rfl rfl Tryz.func59 kr rfl #[.int .i64 a3] rfl sM ?_; (with_reducible refine (spec_clRoot.calls k a3 a5 _ A3.out).mono ?_); rintro e w' ⟨rfl, ⟨nd, rfl⟩⟩; refine ⟨_, rfl, ?_⟩) | ((with_reducible refine gate_callee (f := 59) rfl ?_); refine goesL_ (some 17) rfl rfl Tryz.func59 kr rfl #[.int .i64 a4] rfl sM ?_; (with_reducible refine (spec_clRoot.calls k a4 a7 _ A4.out).mono ?_); rintro e w' ⟨rfl, ⟨nd, rfl⟩⟩; refine ⟨_, rfl, ?_⟩)))
 all_goals go_ret3
 all_goals (exact ⟨sE, bI⟩)

/-! ### spec_LengthsOf: function 9 -/
def spec_LengthsOf.f (k : Nat) (a0_0 : Int) (a0_1 : Int) (a0_2 : Int) : Option (Int × Int × Bool) := (spec_clGood.f a0_0 a0_1 a0_2).bind fun t231 => (if t231 = true then ((spec_clLengths.f k a0_0 a0_1 a0_2).bind fun bt232 => (if bt232.2.2 = true then (some (bt232.1, bt232.2.1, true)) else (some (0, 0, false)))) else (some (0, 0, false)))
theorem spec_LengthsOf.mono : ∀ a0 a1 a2 k, LeO (spec_LengthsOf.f k a0 a1 a2) (spec_LengthsOf.f (k + 1) a0 a1 a2) := by
  intro a0 a1 a2 k
  unfold spec_LengthsOf.f
  repeat' first
      | (with_reducible exact spec_clLengths.mono _ _ _ _)
      | (with_reducible exact LeO.refl _)
      | (with_reducible exact LeO.none _)
      | (with_reducible refine LeO.ite ?_ ?_)
      | (with_reducible refine LeO.bind ?_ (fun _ => ?_))
      | exact spec_clLengths.mono _ _ _ _
      | exact LeO.none _
      | refine LeO.ite ?_ ?_
      | refine LeO.bind ?_ (fun _ => ?_)
set_option maxHeartbeats 8000000 in
set_option maxRecDepth 100000 in
theorem spec_LengthsOf.calls (k : Nat) (a0_0 : Int) (a0_1 : Int) (a0_2 : Int) (r1 : Int) (r2 : Int) (r3 : Bool) (w : World) (h : spec_LengthsOf.f k a0_0 a0_1 a0_2 = some (r1, r2, r3)) :
    Calls Tryz.prog 9 #[.agg #[.int .i64 a0_0, .int .i64 a0_1, .int .i64 a0_2]] w fun e w' => e = .returned (.tuple #[.int .i64 r1, .int .i64 r2, .bool r3]) ∧ Below w.heap.size w w' := by
 have c2 := Tryz.underlying25
 have HB := Aside0.mk (Below.refl w.heap.size w)
 have H := h
 unfold spec_LengthsOf.f at H
 clear h
 obtain ⟨a6, A2, H⟩ := bD H
 try dsimp only at H
 by_cases c3 : a6 = true
 subst c3
 rw [if_pos rfl] at H
 obtain ⟨⟨a4, a5, a7⟩, A4, H⟩ := bD H
 try dsimp only at H
 by_cases c5 : a7 = true
 subst c5
 rw [if_pos rfl] at H
 simp only [Option.some.injEq, Prod.mk.injEq] at H
 obtain ⟨rfl, rfl, rfl⟩ := H
 rotate_left
 replace c5 := Bool.eq_false_iff.mpr c5
 subst c5
 rw [if_neg nft] at H
 simp only [Option.some.injEq, Prod.mk.injEq] at H
 obtain ⟨rfl, rfl, rfl⟩ := H
 rotate_left
 replace c3 := Bool.eq_false_iff.mpr c3
 subst c3
 rw [if_neg nft] at H
 simp only [Option.some.injEq, Prod.mk.injEq] at H
 obtain ⟨rfl, rfl, rfl⟩ := H
 rotate_left
 all_goals (go_enter Tryz.func9, Tryz.ntmps9)
 all_goals (go_wp2_with (first | ((with_reducible refine gate_dst (N := 1) rfl ?_); refine box_ (cs := #[.int .i64 a0_0, .int .i64 a0_1, .int .i64 a0_2]) (t := 25) fun c4 hg c8 hbox hb => ?_; have a3 := Aside0.mk (hbox); have c6 := bS HB hg; have c7 := bS HB hg; replace HB := Aside0.mk (below_step bB hb); clear hb hbox hg; obtain ⟨a8, a9, b0, b1, b2, b3⟩ := cf3 a3) | ((with_reducible refine gate_callee (f := 34) rfl ?_); refine goesL_ (some 9) rfl rfl Tryz.func34 kr rfl #[.agg #[.int .i64 a0_0, .int .i64 a0_1, .int .i64 a0_2]] rfl sM ?_; (with_reducible refine (spec_clGood.calls a0_0 a0_1 a0_2 true _ A2.out).mono ?_); rintro e c0 ⟨rfl, hb⟩; refine ⟨_, rfl, ?_⟩; replace a3 := bQ a3 hb; replace HB := Aside0.mk (below_step bB hb); (try clear hb); obtain ⟨b4, b5, b6, b7, b8, b9⟩ := cf3 a3) | ((with_reducible refine gate_callee (f := 37) rfl ?_); refine goesL_ (some 13) rfl rfl Tryz.func37 kr rfl #[.agg #[.int .i64 a0_0, .int .i64 a0_1, .int .i64 a0_2]] rfl sM ?_; (with_reducible refine (spec_clLengths.calls k a0_0 a0_1 a0_2 a4 a5 true _ A4.out).mono ?_); rintro e c1 ⟨rfl, hb⟩; refine ⟨_, rfl, ?_⟩; replace a3 := bQ a3 hb; replace HB := Aside0.mk (below_step bB hb); (try clear hb)) | ((with_reducible refine gate_callee (f := 37) rfl ?_); refine goesL_ (some 13) rfl rfl Tryz.func37 kr rfl #[.agg #[.int .i64 a0_0, .int .i64 a0_1, .int .i64 a0_2]] rfl sM ?_; (with_reducible refine (spec_clLengths.calls k a0_0 a0_1 a0_2 a4 a5 false _ A4.out).mono ?_); rintro e c1 ⟨rfl, hb⟩; refine ⟨_, rfl, ?_⟩; replace a3 := bQ a3 hb; replace HB := Aside0.mk (below_step bB hb); (try clear hb)) | ((with_reducible refine gate_callee (f := 34) rfl ?_); refine goesL_ (some 9) rfl rfl Tryz.func34 kr rfl #[.agg #[.int .i64 a0_0, .int .i64 a0_1, .int .i64 a0_2]] rfl sM ?_; (with_reducible refine (spec_clGood.calls a0_0 a0_1 a0_2 false _ A2.out).mono ?_); rintro e c0 ⟨rfl, hb⟩; refine ⟨_, rfl, ?_⟩; replace a3 := bQ a3 hb; replace HB := Aside0.mk (below_step bB hb); (try clear hb))))
 all_goals go_ret3
 all_goals (exact ⟨sE, bI⟩)

/-! ### impl_isWholeCrossing: function 38 -/
def impl_isWholeCrossing.f (k : Nat) (a0_0 : Int) (a0_1 : Int) (a0_2 : Int) : Option (Bool) := (impl_LengthsOf.f k a0_0 a0_1 a0_2).bind fun bt236 => (if bt236.2.2 = true then (if (wrap64 (a0_1 + a0_2)) = 0 then (none) else (some ((Int.tmod (wrap64 (a0_1 * a0_2)) (wrap64 (a0_1 + a0_2))) == 0))) else (some false))
theorem impl_isWholeCrossing.mono : ∀ a0 a1 a2 k, LeO (impl_isWholeCrossing.f k a0 a1 a2) (impl_isWholeCrossing.f (k + 1) a0 a1 a2) := by
  intro a0 a1 a2 k
  unfold impl_isWholeCrossing.f
  repeat' first
      | (with_reducible exact impl_LengthsOf.mono _ _ _ _)
      | (with_reducible exact LeO.refl _)
      | (with_reducible exact LeO.none _)
      | (with_reducible refine LeO.ite ?_ ?_)
      | (with_reducible refine LeO.bind ?_ (fun _ => ?_))
      | exact impl_LengthsOf.mono _ _ _ _
      | exact LeO.none _
      | refine LeO.ite ?_ ?_
      | refine LeO.bind ?_ (fun _ => ?_)
set_option maxHeartbeats 8000000 in
set_option maxRecDepth 100000 in
theorem impl_isWholeCrossing.calls (k : Nat) (a0_0 : Int) (a0_1 : Int) (a0_2 : Int) (r : Bool) (w : World) (h : impl_isWholeCrossing.f k a0_0 a0_1 a0_2 = some r) :
    Calls Tryz.prog 38 #[.agg #[.int .i64 a0_0, .int .i64 a0_1, .int .i64 a0_2]] w fun e w' => e = .returned (.bool r) ∧ Below w.heap.size w w' := by
 have c0 := Tryz.underlying25
 have HB := Aside0.mk (Below.refl w.heap.size w)
 have H := h
 unfold impl_isWholeCrossing.f at H
 clear h
 obtain ⟨⟨a4, a5, a6⟩, A2, H⟩ := bD H
 try dsimp only at H
 by_cases c3 : a6 = true
 subst c3
 rw [if_pos rfl] at H
 by_cases c4 : (wrap64 (a0_1 + a0_2)) = 0
 rw [if_pos c4] at H
 exact absurd H (by simp)
 rw [if_neg c4] at H
 obtain ⟨c1, c2⟩ := nE c4
 obtain rfl := Option.some.inj H
 rotate_left
 replace c3 := Bool.eq_false_iff.mpr c3
 subst c3
 rw [if_neg nft] at H
 obtain rfl := Option.some.inj H
 rotate_left
 all_goals (go_enter Tryz.func38, Tryz.ntmps38)
 all_goals (go_wp2_with (first | ((with_reducible refine gate_dst (N := 1) rfl ?_); refine box_ (cs := #[.int .i64 a0_0, .int .i64 a0_1, .int .i64 a0_2]) (t := 25) fun c5 hg c8 hbox hb => ?_; have a3 := Aside0.mk (hbox); have c6 := bS HB hg; have c7 := bS HB hg; replace HB := Aside0.mk (below_step bB hb); clear hb hbox hg; obtain ⟨a7, a8, a9, b0, b1, b2⟩ := cf3 a3) | ((with_reducible refine gate_callee (f := 8) rfl ?_); refine goesL_ (some 8) rfl rfl Tryz.func8 kr rfl #[.agg #[.int .i64 a0_0, .int .i64 a0_1, .int .i64 a0_2]] rfl sM ?_; (with_reducible refine (impl_LengthsOf.calls k a0_0 a0_1 a0_2 a4 a5 true _ A2.out).mono ?_); rintro e b9 ⟨rfl, hb⟩; refine ⟨_, rfl, ?_⟩; replace a3 := bQ a3 hb; replace HB := Aside0.mk (below_step bB hb); (try clear hb); obtain ⟨b3, b4, b5, b6, b7, b8⟩ := cf3 a3) | ((with_reducible refine gate_callee (f := 8) rfl ?_); refine goesL_ (some 8) rfl rfl Tryz.func8 kr rfl #[.agg #[.int .i64 a0_0, .int .i64 a0_1, .int .i64 a0_2]] rfl sM ?_; (with_reducible refine (impl_LengthsOf.calls k a0_0 a0_1 a0_2 a4 a5 false _ A2.out).mono ?_); rintro e b9 ⟨rfl, hb⟩; refine ⟨_, rfl, ?_⟩; replace a3 := bQ a3 hb; replace HB := Aside0.mk (below_step bB hb); (try clear hb))))
 all_goals go_ret
 all_goals (exact ⟨sE, bI⟩)

end Go.Proofs.YtcfknhmdhglmfaaGreatDoor.PFnLaddersWhole
