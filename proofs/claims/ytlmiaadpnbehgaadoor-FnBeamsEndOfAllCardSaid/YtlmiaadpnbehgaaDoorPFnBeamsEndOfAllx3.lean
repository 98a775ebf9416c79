-- Written by xprint.py, a program of this session, for this seat; Lean checks it.
import Derived.Test.YtlmiaadpnbehgaaDoorVM
import Derived.Test.YtlmiaadpnbehgaaDoorPFnBeamsEndOfAllx0
namespace Go.Proofs.YtlmiaadpnbehgaaDoor.PFnBeamsEndOfAll
open Go.Proofs.YtlmiaadpnbehgaaDoorV Go.RowKit Go.Proofs.YtlmiaadpnbehgaaDoorW.PrintWords Go.Proofs.YtlmiaadpnbehgaaDoorW.PrintLast Go.Proofs.YtlmiaadpnbehgaaDoorW.PrintMore
attribute [local go_sem] max2_int min2_int max_two min_two max_three min_three max_four min_four   -- for this text's walks alone
set_option linter.unusedVariables false
set_option linter.unusedSimpArgs false

/-! ### impl_within: function 31 -/
def impl_within.f (a0 : Int) (a1 : Int) (a2 : Int) : Option (Bool) := if a0 ≥ a1 then (some (decide (a0 ≤ a2))) else (some false)
set_option maxHeartbeats 8000000 in
set_option maxRecDepth 100000 in
theorem impl_within.calls (a0 : Int) (a1 : Int) (a2 : Int) (r : Bool) (w : World) (h : impl_within.f a0 a1 a2 = some r) :
    Calls Tryd.prog 31 #[.int .i64 a0, .int .i64 a1, .int .i64 a2] w fun e w' => e = .returned (.bool r) ∧ Drawn0 w w' := by
 have H := h
 unfold impl_within.f at H
 clear h
 by_cases c4 : a0 ≥ a1
 rw [if_pos c4] at H
 have a3 : decide (a1 ≤ a0) = true := decide_eq_true c4
 clear c4
 obtain rfl := Option.some.inj H
 rotate_left
 rw [if_neg c4] at H
 have a3 : decide (a1 ≤ a0) = false := decide_eq_false c4
 clear c4
 obtain rfl := Option.some.inj H
 rotate_left
 all_goals (go_enter Tryd.func31, Tryd.ntmps31)
 all_goals go_wp2
 all_goals go_ret
 all_goals (exact ⟨by first | rfl | (simp; done) | (simp [*]; done), by repeat (first | exact Drawn0.refl _ | apply Drawn0.step)⟩)

/-! ### impl_IsTable: function 25 -/
def impl_IsTable.f (a0_0 : Int) (a0_1 : Int) : Option (Bool) := (impl_within.f a0_0 1 60).bind fun t102 => (if t102 = true then ((impl_within.f a0_1 1 60).bind fun t103 => (some t103)) else (some false))
set_option maxHeartbeats 8000000 in
set_option maxRecDepth 100000 in
theorem impl_IsTable.calls (a0_0 : Int) (a0_1 : Int) (r : Bool) (w : World) (h : impl_IsTable.f a0_0 a0_1 = some r) :
    Calls Tryd.prog 25 #[.agg #[.int .i64 a0_0, .int .i64 a0_1]] w fun e w' => e = .returned (.bool r) ∧ Below w.heap.size w w' := by
 have b0 := Tryd.underlying23
 have HB := Aside0.mk (Below.refl w.heap.size w)
 have H := h
 unfold impl_IsTable.f at H
 clear h
 obtain ⟨a3, A2, H⟩ := bD H
 try dsimp only at H
 by_cases c3 : a3 = true
 subst c3
 rw [if_pos rfl] at H
 obtain ⟨a4, A4, H⟩ := bD H
 try dsimp only at H
 obtain rfl := Option.some.inj H
 rotate_left
 replace c3 := Bool.eq_false_iff.mpr c3
 subst c3
 rw [if_neg nft] at H
 obtain rfl := Option.some.inj H
 rotate_left
 all_goals (go_enter Tryd.func25, Tryd.ntmps25)
 all_goals (go_wp2_with (first | ((with_reducible refine gate_dst (N := 1) rfl ?_); refine box_ (cs := #[.int .i64 a0_0, .int .i64 a0_1]) (t := 23) fun b1 hg b4 hbox hb => ?_; have a5 := Aside0.mk (hbox); have b2 := bS HB hg; have b3 := bS HB hg; replace HB := Aside0.mk (below_step bB hb); clear hb hbox hg; obtain ⟨a6, a7, a8, a9⟩ := cf2 a5) | ((with_reducible refine gate_callee (f := 31) rfl ?_); refine goesL_ (some 5) rfl rfl Tryd.func31 kr rfl #[.int .i64 a0_0, .int .i64 1, .int .i64 60] rfl sM ?_; (with_reducible refine (impl_within.calls a0_0 1 60 true _ A2.out).mono ?_); rintro e w' ⟨rfl, ⟨nd, rfl⟩⟩; refine ⟨_, rfl, ?_⟩) | (go_at_call 31; (with_reducible refine (impl_within.calls a0_1 1 60 a4 _ A4.out).mono ?_); rintro e w' ⟨rfl, ⟨nd, rfl⟩⟩) | ((with_reducible refine gate_callee (f := 31) rfl ?_); refine goesL_ (some 5) rfl rfl Tryd.func31 kr rfl #[.int .i64 a0_0, .int .i64 1, .int .i64 60] rfl sM ?_; (with_reducible refine (impl_within.calls a0_0 1 60 false _ A2.out).mono ?_); rintro e w' ⟨rfl, ⟨nd, rfl⟩⟩; refine ⟨_, rfl, ?_⟩)))
 all_goals go_ret
 all_goals (exact ⟨sE, bI⟩)

/-! ### impl_IsBeam: function 33 -/
def impl_IsBeam.f (a0_0 : Int) (a0_1 : Int) (a1_0 : Int) (a1_1 : Int) (a1_2 : Bool) (a1_3 : Bool) : Option (Bool) := (impl_IsTable.f a0_0 a0_1).bind fun t106 => (if t106 = true then ((impl_within.f a1_0 0 a0_0).bind fun t107 => (if t107 = true then ((impl_within.f a1_1 0 a0_1).bind fun t108 => (some t108)) else (some false))) else (some false))
set_option maxHeartbeats 8000000 in
set_option maxRecDepth 100000 in
theorem impl_IsBeam.calls (a0_0 : Int) (a0_1 : Int) (a1_0 : Int) (a1_1 : Int) (a1_2 : Bool) (a1_3 : Bool) (r : Bool) (w : World) (h : impl_IsBeam.f a0_0 a0_1 a1_0 a1_1 a1_2 a1_3 = some r) :
    Calls Tryd.prog 33 #[.agg #[.int .i64 a0_0, .int .i64 a0_1], .agg #[.int .i64 a1_0, .int .i64 a1_1, .bool a1_2, .bool a1_3]] w fun e w' => e = .returned (.bool r) ∧ Below w.heap.size w w' := by
 have d1 := Tryd.underlying23
 have d2 := Tryd.underlying25
 have HB := Aside0.mk (Below.refl w.heap.size w)
 have H := h
 unfold impl_IsBeam.f at H
 clear h
 obtain ⟨a7, A3, H⟩ := bD H
 try dsimp only at H
 by_cases c4 : a7 = true
 subst c4
 rw [if_pos rfl] at H
 obtain ⟨a8, A5, H⟩ := bD H
 try dsimp only at H
 by_cases c6 : a8 = true
 subst c6
 rw [if_pos rfl] at H
 obtain ⟨a9, A7, H⟩ := bD H
 try dsimp only at H
 obtain rfl := Option.some.inj H
 rotate_left
 replace c6 := Bool.eq_false_iff.mpr c6
 subst c6
 rw [if_neg nft] at H
 obtain rfl := Option.some.inj H
 rotate_left
 replace c4 := Bool.eq_false_iff.mpr c4
 subst c4
 rw [if_neg nft] at H
 obtain rfl := Option.some.inj H
 rotate_left
 all_goals (go_enter Tryd.func33, Tryd.ntmps33)
 all_goals (go_wp2_with (first | ((with_reducible refine gate_dst (N := 2) rfl ?_); refine box_ (cs := #[.int .i64 a0_0, .int .i64 a0_1]) (t := 23) fun d3 hg d9 hbox hb => ?_; have a3 := Aside0.mk (hbox); have d4 := bS HB hg; have d5 := bS HB hg; replace HB := Aside0.mk (below_step bB hb); clear hb hbox hg) | ((with_reducible refine gate_dst (N := 3) rfl ?_); refine box_ (cs := #[.int .i64 a1_0, .int .i64 a1_1, .bool a1_2, .bool a1_3]) (t := 25) fun d6 hg e0 hbox hb => ?_; have a4 := Aside0.mk (hbox); have d7 := bS HB hg; have d8 := bS HB hg; have a5 := bL a3 hg; have a6 := bM a3 hg; replace a3 := bQ a3 hb; replace HB := Aside0.mk (below_step bB hb); clear hb hbox hg; have c9 := a5.out; have d0 := a6.out; obtain ⟨b0, b1, b2, b3⟩ := cf2 a3) | ((with_reducible refine gate_callee (f := 25) rfl ?_); refine goesL_ (some 6) rfl rfl Tryd.func25 kr rfl #[.agg #[.int .i64 a0_0, .int .i64 a0_1]] rfl sM ?_; (with_reducible refine (impl_IsTable.calls a0_0 a0_1 true _ A3.out).mono ?_); rintro e c8 ⟨rfl, hb⟩; refine ⟨_, rfl, ?_⟩; replace a3 := bQ a3 hb; replace a4 := bQ a4 hb; replace HB := Aside0.mk (below_step bB hb); (try clear hb); obtain ⟨b4, b5, b6, b7, b8, b9, c0, c1⟩ := cf4 a4; obtain ⟨c2, c3, c5, c7⟩ := cf2 a3) | (go_at_call 31; (with_reducible refine (impl_within.calls a1_0 0 a0_0 true _ A5.out).mono ?_); rintro e w' ⟨rfl, ⟨nd, rfl⟩⟩) | (go_at_call 31; (with_reducible refine (impl_within.calls a1_1 0 a0_1 a9 _ A7.out).mono ?_); rintro e w' ⟨rfl, ⟨nd, rfl⟩⟩) | (go_at_call 31; (with_reducible refine (impl_within.calls a1_0 0 a0_0 false _ A5.out).mono ?_); rintro e w' ⟨rfl, ⟨nd, rfl⟩⟩) | ((with_reducible refine gate_callee (f := 25) rfl ?_); refine goesL_ (some 6) rfl rfl Tryd.func25 kr rfl #[.agg #[.int .i64 a0_0, .int .i64 a0_1]] rfl sM ?_; (with_reducible refine (impl_IsTable.calls a0_0 a0_1 false _ A3.out).mono ?_); rintro e c8 ⟨rfl, hb⟩; refine ⟨_, rfl, ?_⟩; replace a3 := bQ a3 hb; replace a4 := bQ a4 hb; replace HB := Aside0.mk (below_step bB hb); (try clear hb))))
 all_goals go_ret
 all_goals (exact ⟨sE, bI⟩)

/-! ### impl_isCorner: function 51 -/
def impl_isCorner.f (a0_0 : Int) (a0_1 : Int) (a1_0 : Int) (a1_1 : Int) (a1_2 : Bool) (a1_3 : Bool) : Option (Bool) := if a1_0 = 0 then (if a1_1 = 0 then (some true) else (some (a1_1 == a0_1))) else (if a1_0 = a0_0 then (if a1_1 = 0 then (some true) else (some (a1_1 == a0_1))) else (some false))
set_option maxHeartbeats 8000000 in
set_option maxRecDepth 100000 in
theorem impl_isCorner.calls (a0_0 : Int) (a0_1 : Int) (a1_0 : Int) (a1_1 : Int) (a1_2 : Bool) (a1_3 : Bool) (r : Bool) (w : World) (h : impl_isCorner.f a0_0 a0_1 a1_0 a1_1 a1_2 a1_3 = some r) :
    Calls Tryd.prog 51 #[.agg #[.int .i64 a0_0, .int .i64 a0_1], .agg #[.int .i64 a1_0, .int .i64 a1_1, .bool a1_2, .bool a1_3]] w fun e w' => e = .returned (.bool r) ∧ Below w.heap.size w w' := by
 have d3 := Tryd.underlying23
 have d4 := Tryd.underlying25
 have HB := Aside0.mk (Below.refl w.heap.size w)
 have H := h
 unfold impl_isCorner.f at H
 clear h
 by_cases c3 : a1_0 = 0
 rw [if_pos c3] at H
 obtain ⟨b2, b3⟩ := yE c3
 clear c3
 by_cases c4 : a1_1 = 0
 rw [if_pos c4] at H
 obtain ⟨b4, b5⟩ := yE c4
 clear c4
 obtain rfl := Option.some.inj H
 rotate_left
 rw [if_neg c4] at H
 obtain ⟨b4, b5⟩ := nE c4
 obtain rfl := Option.some.inj H
 rotate_left
 rw [if_neg c3] at H
 obtain ⟨b2, b3⟩ := nE c3
 by_cases a4 : a1_0 = a0_0
 rw [if_pos a4] at H
 obtain ⟨a8, a9⟩ := yE a4
 clear a4
 by_cases a5 : a1_1 = 0
 rw [if_pos a5] at H
 obtain ⟨b0, b1⟩ := yE a5
 clear a5
 obtain rfl := Option.some.inj H
 rotate_left
 rw [if_neg a5] at H
 obtain ⟨b0, b1⟩ := nE a5
 obtain rfl := Option.some.inj H
 rotate_left
 rw [if_neg a4] at H
 obtain ⟨a8, a9⟩ := nE a4
 obtain rfl := Option.some.inj H
 rotate_left
 all_goals (go_enter Tryd.func51, Tryd.ntmps51)
 all_goals (go_wp2_with (first | ((with_reducible refine gate_dst (N := 2) rfl ?_); refine box_ (cs := #[.int .i64 a0_0, .int .i64 a0_1]) (t := 23) fun d5 hg e1 hbox hb => ?_; have a3 := Aside0.mk (hbox); have d6 := bS HB hg; have d7 := bS HB hg; replace HB := Aside0.mk (below_step bB hb); clear hb hbox hg) | ((with_reducible refine gate_dst (N := 3) rfl ?_); refine box_ (cs := #[.int .i64 a1_0, .int .i64 a1_1, .bool a1_2, .bool a1_3]) (t := 25) fun d8 hg e2 hbox hb => ?_; have b6 := Aside0.mk (hbox); have d9 := bS HB hg; have e0 := bS HB hg; have a6 := bL a3 hg; have a7 := bM a3 hg; replace a3 := bQ a3 hb; replace HB := Aside0.mk (below_step bB hb); clear hb hbox hg; have d1 := a7.out; have d2 := a6.out; obtain ⟨b7, b8, b9, c0, c1, c2, c5, c6⟩ := cf4 b6; obtain ⟨c7, c8, c9, d0⟩ := cf2 a3)))
 all_goals go_ret
 all_goals (exact ⟨sE, bI⟩)

/-! ### impl_inward: function 56 -/
def impl_inward.f (a0_0 : Int) (a0_1 : Int) (a1_0 : Int) (a1_1 : Int) (a1_2 : Bool) (a1_3 : Bool) : Option (Int × Int × Bool × Bool) := if a1_0 = 0 then (if a1_1 = 0 then (some (a1_0, a1_1, true, true)) else (if a1_3 = true then (some (a1_0, a1_1, true, decide (a1_1 < a0_1))) else (some (a1_0, a1_1, true, false)))) else (if a1_2 = true then (if a1_1 = 0 then (some (a1_0, a1_1, decide (a1_0 < a0_0), true)) else (if a1_3 = true then (some (a1_0, a1_1, decide (a1_0 < a0_0), decide (a1_1 < a0_1))) else (some (a1_0, a1_1, decide (a1_0 < a0_0), false)))) else (if a1_1 = 0 then (some (a1_0, a1_1, false, true)) else (if a1_3 = true then (some (a1_0, a1_1, false, decide (a1_1 < a0_1))) else (some (a1_0, a1_1, false, false)))))
set_option maxHeartbeats 8000000 in
set_option maxRecDepth 100000 in
theorem impl_inward.calls (a0_0 : Int) (a0_1 : Int) (a1_0 : Int) (a1_1 : Int) (a1_2 : Bool) (a1_3 : Bool) (r1 : Int) (r2 : Int) (r3 : Bool) (r4 : Bool) (w : World) (h : impl_inward.f a0_0 a0_1 a1_0 a1_1 a1_2 a1_3 = some (r1, r2, r3, r4)) :
    Calls Tryd.prog 56 #[.agg #[.int .i64 a0_0, .int .i64 a0_1], .agg #[.int .i64 a1_0, .int .i64 a1_1, .bool a1_2, .bool a1_3]] w fun e w' => e = .returned (.agg #[.int .i64 r1, .int .i64 r2, .bool r3, .bool r4]) ∧ Below w.heap.size w w' := by
 have C7 := Tryd.underlying23
 have C8 := Tryd.underlying25
 have HB := Aside0.mk (Below.refl w.heap.size w)
 have H := h
 unfold impl_inward.f at H
 clear h
 by_cases c3 : a1_0 = 0
 ·(
 rw [if_pos c3] at H
 obtain ⟨d3, d4⟩ := yE c3
 clear c3
 by_cases c4 : a1_1 = 0
 ·(
 rw [if_pos c4] at H
 obtain ⟨d5, d6⟩ := yE c4
 clear c4
 simp only [Option.some.injEq, Prod.mk.injEq] at H
 obtain ⟨rfl, rfl, rfl, rfl⟩ := H
 go_enter Tryd.func56, Tryd.ntmps56
 go_wp2_with (first | ((with_reducible refine gate_dst (N := 2) rfl ?_); refine box_ (cs := #[.int .i64 a0_0, .int .i64 a0_1]) (t := 23) fun b3 hg w5 hbox hb => ?_; have a3 := Aside0.mk (hbox); have b4 := bS HB hg; have b5 := bS HB hg; replace HB := Aside0.mk (below_step bB hb); clear hb hbox hg) | ((with_reducible refine gate_dst (N := 3) rfl ?_); refine box_ (cs := #[.int .i64 a1_0, .int .i64 a1_1, .bool a1_2, .bool a1_3]) (t := 25) fun b6 hg w6 hbox hb => ?_; have a4 := Aside0.mk (hbox); have b7 := bS HB hg; have b8 := bS HB hg; have a5 := bL a3 hg; have a6 := bM a3 hg; replace a3 := bQ a3 hb; replace HB := Aside0.mk (below_step bB hb); clear hb hbox hg) | ((with_reducible refine gate_dst (N := 4) rfl ?_); refine box_ (cs := #[.int .i64 0, .int .i64 0, .bool false, .bool false]) (t := 25) fun b2 hg w7 hbox hb => ?_; have b1 := Aside0.mk (hbox); have b9 := bS HB hg; have c0 := bS HB hg; have a7 := bL a3 hg; have a8 := bM a3 hg; have a9 := bL a4 hg; have b0 := bM a4 hg; replace a3 := bQ a3 hb; replace a4 := bQ a4 hb; replace HB := Aside0.mk (below_step bB hb); clear hb hbox hg; have C9 := a6.out; have D0 := a5.out; have D1 := a9.out; have D2 := b0.out; obtain ⟨d7, d8, d9, e0, e1, e2, e3, e4⟩ := cf4 a4; have x7 := a8.out; have x8 := a7.out; obtain ⟨e5, e6, e7, e8, e9, g0, g1, g2⟩ := cf4 b1))
 refine bodyPost_ret (results_cell_row rfl _ _ b2 25 #[.int .i64 a1_0, .int .i64 a1_1, .bool true, .bool true] (0, 0) _ rfl (bK b1) Tryd.underlying25 rfl kr) rfl ?_
 exact ⟨sE, bI⟩
 )
 ·(
 rw [if_neg c4] at H
 obtain ⟨d5, d6⟩ := nE c4
 by_cases c5 : a1_3 = true
 ·(
 subst c5
 rw [if_pos rfl] at H
 simp only [Option.some.injEq, Prod.mk.injEq] at H
 obtain ⟨rfl, rfl, rfl, rfl⟩ := H
 go_enter Tryd.func56, Tryd.ntmps56
 go_wp2_with (first | ((with_reducible refine gate_dst (N := 2) rfl ?_); refine box_ (cs := #[.int .i64 a0_0, .int .i64 a0_1]) (t := 23) fun b3 hg D3 hbox hb => ?_; have a3 := Aside0.mk (hbox); have b4 := bS HB hg; have b5 := bS HB hg; replace HB := Aside0.mk (below_step bB hb); clear hb hbox hg) | ((with_reducible refine gate_dst (N := 3) rfl ?_); refine box_ (cs := #[.int .i64 a1_0, .int .i64 a1_1, .bool a1_2, .bool true]) (t := 25) fun b6 hg D4 hbox hb => ?_; have a4 := Aside0.mk (hbox); have b7 := bS HB hg; have b8 := bS HB hg; have a5 := bL a3 hg; have a6 := bM a3 hg; replace a3 := bQ a3 hb; replace HB := Aside0.mk (below_step bB hb); clear hb hbox hg) | ((with_reducible refine gate_dst (N := 4) rfl ?_); refine box_ (cs := #[.int .i64 0, .int .i64 0, .bool false, .bool false]) (t := 25) fun b2 hg D5 hbox hb => ?_; have b1 := Aside0.mk (hbox); have b9 := bS HB hg; have c0 := bS HB hg; have a7 := bL a3 hg; have a8 := bM a3 hg; have a9 := bL a4 hg; have b0 := bM a4 hg; replace a3 := bQ a3 hb; replace a4 := bQ a4 hb; replace HB := Aside0.mk (below_step bB hb); clear hb hbox hg; have x9 := a6.out; have y0 := a5.out; have y1 := a9.out; have y2 := b0.out; obtain ⟨g3, g4, g5, g6, g7, g8, g9, h0⟩ := cf4 a4; have y3 := a7.out; have y4 := a8.out; obtain ⟨h1, h2, h3, h4⟩ := cf2 a3; obtain ⟨h5, h6, h7, h8, h9, i0, i1, i2⟩ := cf4 b1))
 refine bodyPost_ret (results_cell_row rfl _ _ b2 25 #[.int .i64 a1_0, .int .i64 a1_1, .bool true, .bool (decide (a1_1 < a0_1))] (0, 0) _ rfl (bK b1) Tryd.underlying25 rfl kr) rfl ?_
 exact ⟨sE, bI⟩
 )
 ·(
 replace c5 := Bool.eq_false_iff.mpr c5
 subst c5
 rw [if_neg nft] at H
 simp only [Option.some.injEq, Prod.mk.injEq] at H
 obtain ⟨rfl, rfl, rfl, rfl⟩ := H
 go_enter Tryd.func56, Tryd.ntmps56
 go_wp2_with (first | ((with_reducible refine gate_dst (N := 2) rfl ?_); refine box_ (cs := #[.int .i64 a0_0, .int .i64 a0_1]) (t := 23) fun b3 hg D6 hbox hb => ?_; have a3 := Aside0.mk (hbox); have b4 := bS HB hg; have b5 := bS HB hg; replace HB := Aside0.mk (below_step bB hb); clear hb hbox hg) | ((with_reducible refine gate_dst (N := 3) rfl ?_); refine box_ (cs := #[.int .i64 a1_0, .int .i64 a1_1, .bool a1_2, .bool false]) (t := 25) fun b6 hg D7 hbox hb => ?_; have a4 := Aside0.mk (hbox); have b7 := bS HB hg; have b8 := bS HB hg; have a5 := bL a3 hg; have a6 := bM a3 hg; replace a3 := bQ a3 hb; replace HB := Aside0.mk (below_step bB hb); clear hb hbox hg) | ((with_reducible refine gate_dst (N := 4) rfl ?_); refine box_ (cs := #[.int .i64 0, .int .i64 0, .bool false, .bool false]) (t := 25) fun b2 hg D8 hbox hb => ?_; have b1 := Aside0.mk (hbox); have b9 := bS HB hg; have c0 := bS HB hg; have a7 := bL a3 hg; have a8 := bM a3 hg; have a9 := bL a4 hg; have b0 := bM a4 hg; replace a3 := bQ a3 hb; replace a4 := bQ a4 hb; replace HB := Aside0.mk (below_step bB hb); clear hb hbox hg; have y5 := a6.out; have y6 := a5.out; have y7 := a9.out; have y8 := b0.out; obtain ⟨i3, i4, i5, i6, i7, i9, j0, j1⟩ := cf4 a4; have y9 := a8.out; have z0 := a7.out; obtain ⟨j2, j3, j4, j5, j6, j7, j8, j9⟩ := cf4 b1))
 refine bodyPost_ret (results_cell_row rfl _ _ b2 25 #[.int .i64 a1_0, .int .i64 a1_1, .bool true, .bool false] (0, 0) _ rfl (bK b1) Tryd.underlying25 rfl kr) rfl ?_
 exact ⟨sE, bI⟩
 )
 )
 )
 ·(
 rw [if_neg c3] at H
 obtain ⟨d3, d4⟩ := nE c3
 by_cases c6 : a1_2 = true
 ·(
 subst c6
 rw [if_pos rfl] at H
 by_cases c1 : a1_1 = 0
 ·(
 rw [if_pos c1] at H
 obtain ⟨c9, d0⟩ := yE c1
 clear c1
 simp only [Option.some.injEq, Prod.mk.injEq] at H
 obtain ⟨rfl, rfl, rfl, rfl⟩ := H
 go_enter Tryd.func56, Tryd.ntmps56
 go_wp2_with (first | ((with_reducible refine gate_dst (N := 2) rfl ?_); refine box_ (cs := #[.int .i64 a0_0, .int .i64 a0_1]) (t := 23) fun b3 hg D9 hbox hb => ?_; have a3 := Aside0.mk (hbox); have b4 := bS HB hg; have b5 := bS HB hg; replace HB := Aside0.mk (below_step bB hb); clear hb hbox hg) | ((with_reducible refine gate_dst (N := 3) rfl ?_); refine box_ (cs := #[.int .i64 a1_0, .int .i64 a1_1, .bool true, .bool a1_3]) (t := 25) fun b6 hg E0 hbox hb => ?_; have a4 := Aside0.mk (hbox); have b7 := bS HB hg; have b8 := bS HB hg; have a5 := bL a3 hg; have a6 := bM a3 hg; replace a3 := bQ a3 hb; replace HB := Aside0.mk (below_step bB hb); clear hb hbox hg) | ((with_reducible refine gate_dst (N := 4) rfl ?_); refine box_ (cs := #[.int .i64 0, .int .i64 0, .bool false, .bool false]) (t := 25) fun b2 hg E1 hbox hb => ?_; have b1 := Aside0.mk (hbox); have b9 := bS HB hg; have c0 := bS HB hg; have a7 := bL a3 hg; have a8 := bM a3 hg; have a9 := bL a4 hg; have b0 := bM a4 hg; replace a3 := bQ a3 hb; replace a4 := bQ a4 hb; replace HB := Aside0.mk (below_step bB hb); clear hb hbox hg; have z1 := a6.out; have z2 := a5.out; have z3 := a9.out; have z4 := b0.out; obtain ⟨k0, k1, k2, k3, k4, k5, k6, k7⟩ := cf4 a4; have z5 := a7.out; have z6 := a8.out; obtain ⟨k8, k9, l0, l1⟩ := cf2 a3; obtain ⟨l2, l3, l4, l5, l6, l7, l8, l9⟩ := cf4 b1))
 refine bodyPost_ret (results_cell_row rfl _ _ b2 25 #[.int .i64 a1_0, .int .i64 a1_1, .bool (decide (a1_0 < a0_0)), .bool true] (0, 0) _ rfl (bK b1) Tryd.underlying25 rfl kr) rfl ?_
 exact ⟨sE, bI⟩
 )
 ·(
 rw [if_neg c1] at H
 obtain ⟨c9, d0⟩ := nE c1
 by_cases c7 : a1_3 = true
 ·(
 subst c7
 rw [if_pos rfl] at H
 simp only [Option.some.injEq, Prod.mk.injEq] at H
 obtain ⟨rfl, rfl, rfl, rfl⟩ := H
 go_enter Tryd.func56, Tryd.ntmps56
 go_wp2_with (first | ((with_reducible refine gate_dst (N := 2) rfl ?_); refine box_ (cs := #[.int .i64 a0_0, .int .i64 a0_1]) (t := 23) fun b3 hg E2 hbox hb => ?_; have a3 := Aside0.mk (hbox); have b4 := bS HB hg; have b5 := bS HB hg; replace HB := Aside0.mk (below_step bB hb); clear hb hbox hg) | ((with_reducible refine gate_dst (N := 3) rfl ?_); refine box_ (cs := #[.int .i64 a1_0, .int .i64 a1_1, .bool true, .bool true]) (t := 25) fun b6 hg E3 hbox hb => ?_; have a4 := Aside0.mk (hbox); have b7 := bS HB hg; have b8 := bS HB hg; have a5 := bL a3 hg; have a6 := bM a3 hg; replace a3 := bQ a3 hb; replace HB := Aside0.mk (below_step bB hb); clear hb hbox hg) | ((with_reducible refine gate_dst (N := 4) rfl ?_); refine box_ (cs := #[.int .i64 0, .int .i64 0, .bool false, .bool false]) (t := 25) fun b2 hg E4 hbox hb => ?_; have b1 := Aside0.mk (hbox); have b9 := bS HB hg; have c0 := bS HB hg; have a7 := bL a3 hg; have a8 := bM a3 hg; have a9 := bL a4 hg; have b0 := bM a4 hg; replace a3 := bQ a3 hb; replace a4 := bQ a4 hb; replace HB := Aside0.mk (below_step bB hb); clear hb hbox hg; have z7 := a6.out; have z8 := a5.out; have z9 := a9.out; have A0 := b0.out; obtain ⟨m0, m1, m2, m3, m4, m5, m6, m7⟩ := cf4 a4; have A1 := a7.out; have A2 := a8.out; obtain ⟨m8, m9, n0, n1⟩ := cf2 a3; obtain ⟨n2, n3, n4, n5, n6, n7, n8, n9⟩ := cf4 b1))
 refine bodyPost_ret (results_cell_row rfl _ _ b2 25 #[.int .i64 a1_0, .int .i64 a1_1, .bool (decide (a1_0 < a0_0)), .bool (decide (a1_1 < a0_1))] (0, 0) _ rfl (bK b1) Tryd.underlying25 rfl kr) rfl ?_
 exact ⟨sE, bI⟩
 )
 ·(
 replace c7 := Bool.eq_false_iff.mpr c7
 subst c7
 rw [if_neg nft] at H
 simp only [Option.some.injEq, Prod.mk.injEq] at H
 obtain ⟨rfl, rfl, rfl, rfl⟩ := H
 go_enter Tryd.func56, Tryd.ntmps56
 go_wp2_with (first | ((with_reducible refine gate_dst (N := 2) rfl ?_); refine box_ (cs := #[.int .i64 a0_0, .int .i64 a0_1]) (t := 23) fun b3 hg E5 hbox hb => ?_; have a3 := Aside0.mk (hbox); have b4 := bS HB hg; have b5 := bS HB hg; replace HB := Aside0.mk (below_step bB hb); clear hb hbox hg) | ((with_reducible refine gate_dst (N := 3) rfl ?_); refine box_ (cs := #[.int .i64 a1_0, .int .i64 a1_1, .bool true, .bool false]) (t := 25) fun b6 hg E6 hbox hb => ?_; have a4 := Aside0.mk (hbox); have b7 := bS HB hg; have b8 := bS HB hg; have a5 := bL a3 hg; have a6 := bM a3 hg; replace a3 := bQ a3 hb; replace HB := Aside0.mk (below_step bB hb); clear hb hbox hg) | ((with_reducible refine gate_dst (N := 4) rfl ?_); refine box_ (cs := #[.int .i64 0, .int .i64 0, .bool false, .bool false]) (t := 25) fun b2 hg E7 hbox hb => ?_; have b1 := Aside0.mk (hbox); have b9 := bS HB hg; have c0 := bS HB hg; have a7 := bL a3 hg; have a8 := bM a3 hg; have a9 := bL a4 hg; have b0 := bM a4 hg; replace a3 := bQ a3 hb; replace a4 := bQ a4 hb; replace HB := Aside0.mk (below_step bB hb); clear hb hbox hg; have A3 := a6.out; have A4 := a5.out; have A5 := a9.out; have A6 := b0.out; obtain ⟨o0, o1, o2, o3, o4, o5, o6, o7⟩ := cf4 a4; have A7 := a7.out; have A8 := a8.out; obtain ⟨o8, o9, p0, p1⟩ := cf2 a3; obtain ⟨p2, p3, p4, p5, p6, p7, p8, p9⟩ := cf4 b1))
 refine bodyPost_ret (results_cell_row rfl _ _ b2 25 #[.int .i64 a1_0, .int .i64 a1_1, .bool (decide (a1_0 < a0_0)), .bool false] (0, 0) _ rfl (bK b1) Tryd.underlying25 rfl kr) rfl ?_
 exact ⟨sE, bI⟩
 )
 )
 )
 ·(
 replace c6 := Bool.eq_false_iff.mpr c6
 subst c6
 rw [if_neg nft] at H
 by_cases c2 : a1_1 = 0
 ·(
 rw [if_pos c2] at H
 obtain ⟨d1, d2⟩ := yE c2
 clear c2
 simp only [Option.some.injEq, Prod.mk.injEq] at H
 obtain ⟨rfl, rfl, rfl, rfl⟩ := H
 go_enter Tryd.func56, Tryd.ntmps56
 go_wp2_with (first | ((with_reducible refine gate_dst (N := 2) rfl ?_); refine box_ (cs := #[.int .i64 a0_0, .int .i64 a0_1]) (t := 23) fun b3 hg E8 hbox hb => ?_; have a3 := Aside0.mk (hbox); have b4 := bS HB hg; have b5 := bS HB hg; replace HB := Aside0.mk (below_step bB hb); clear hb hbox hg) | ((with_reducible refine gate_dst (N := 3) rfl ?_); refine box_ (cs := #[.int .i64 a1_0, .int .i64 a1_1, .bool false, .bool a1_3]) (t := 25) fun b6 hg E9 hbox hb => ?_; have a4 := Aside0.mk (hbox); have b7 := bS HB hg; have b8 := bS HB hg; have a5 := bL a3 hg; have a6 := bM a3 hg; replace a3 := bQ a3 hb; replace HB := Aside0.mk (below_step bB hb); clear hb hbox hg) | ((with_reducible refine gate_dst (N := 4) rfl ?_); refine box_ (cs := #[.int .i64 0, .int .i64 0, .bool false, .bool false]) (t := 25) fun b2 hg F0 hbox hb => ?_; have b1 := Aside0.mk (hbox); have b9 := bS HB hg; have c0 := bS HB hg; have a7 := bL a3 hg; have a8 := bM a3 hg; have a9 := bL a4 hg; have b0 := bM a4 hg; replace a3 := bQ a3 hb; replace a4 := bQ a4 hb; replace HB := Aside0.mk (below_step bB hb); clear hb hbox hg; have A9 := a6.out; have B0 := a5.out; have B1 := a9.out; have B2 := b0.out; obtain ⟨q0, q1, q2, q3, q4, q5, q6, q7⟩ := cf4 a4; have B3 := a8.out; have B4 := a7.out; obtain ⟨q8, q9, r0, r5, r6, r7, r8, r9⟩ := cf4 b1))
 refine bodyPost_ret (results_cell_row rfl _ _ b2 25 #[.int .i64 a1_0, .int .i64 a1_1, .bool false, .bool true] (0, 0) _ rfl (bK b1) Tryd.underlying25 rfl kr) rfl ?_
 exact ⟨sE, bI⟩
 )
 ·(
 rw [if_neg c2] at H
 obtain ⟨d1, d2⟩ := nE c2
 by_cases c8 : a1_3 = true
 ·(
 subst c8
 rw [if_pos rfl] at H
 simp only [Option.some.injEq, Prod.mk.injEq] at H
 obtain ⟨rfl, rfl, rfl, rfl⟩ := H
 go_enter Tryd.func56, Tryd.ntmps56
 go_wp2_with (first | ((with_reducible refine gate_dst (N := 2) rfl ?_); refine box_ (cs := #[.int .i64 a0_0, .int .i64 a0_1]) (t := 23) fun b3 hg F1 hbox hb => ?_; have a3 := Aside0.mk (hbox); have b4 := bS HB hg; have b5 := bS HB hg; replace HB := Aside0.mk (below_step bB hb); clear hb hbox hg) | ((with_reducible refine gate_dst (N := 3) rfl ?_); refine box_ (cs := #[.int .i64 a1_0, .int .i64 a1_1, .bool false, .bool true]) (t := 25) fun b6 hg F2 hbox hb => ?_; have a4 := Aside0.mk (hbox); have b7 := bS HB hg; have b8 := bS HB hg; have a5 := bL a3 hg; have a6 := bM a3 hg; replace a3 := bQ a3 hb; replace HB := Aside0.mk (below_step bB hb); clear hb hbox hg) | ((with_reducible refine gate_dst (N := 4) rfl ?_); refine box_ (cs := #[.int .i64 0, .int .i64 0, .bool false, .bool false]) (t := 25) fun b2 hg F3 hbox hb => ?_; have b1 := Aside0.mk (hbox); have b9 := bS HB hg; have c0 := bS HB hg; have a7 := bL a3 hg; have a8 := bM a3 hg; have a9 := bL a4 hg; have b0 := bM a4 hg; replace a3 := bQ a3 hb; replace a4 := bQ a4 hb; replace HB := Aside0.mk (below_step bB hb); clear hb hbox hg; have B5 := a6.out; have B6 := a5.out; have B7 := a9.out; have B8 := b0.out; obtain ⟨s0, s1, s2, s3, s4, s5, s6, s7⟩ := cf4 a4; have B9 := a7.out; have C0 := a8.out; obtain ⟨s8, s9, u0, u1⟩ := cf2 a3; obtain ⟨u2, u3, u4, u5, u6, u7, u9, v0⟩ := cf4 b1))
 refine bodyPost_ret (results_cell_row rfl _ _ b2 25 #[.int .i64 a1_0, .int .i64 a1_1, .bool false, .bool (decide (a1_1 < a0_1))] (0, 0) _ rfl (bK b1) Tryd.underlying25 rfl kr) rfl ?_
 exact ⟨sE, bI⟩
 )
 ·(
 replace c8 := Bool.eq_false_iff.mpr c8
 subst c8
 rw [if_neg nft] at H
 simp only [Option.some.injEq, Prod.mk.injEq] at H
 obtain ⟨rfl, rfl, rfl, rfl⟩ := H
 go_enter Tryd.func56, Tryd.ntmps56
 go_wp2_with (first | ((with_reducible refine gate_dst (N := 2) rfl ?_); refine box_ (cs := #[.int .i64 a0_0, .int .i64 a0_1]) (t := 23) fun b3 hg F4 hbox hb => ?_; have a3 := Aside0.mk (hbox); have b4 := bS HB hg; have b5 := bS HB hg; replace HB := Aside0.mk (below_step bB hb); clear hb hbox hg) | ((with_reducible refine gate_dst (N := 3) rfl ?_); refine box_ (cs := #[.int .i64 a1_0, .int .i64 a1_1, .bool false, .bool false]) (t := 25) fun b6 hg F5 hbox hb => ?_; have a4 := Aside0.mk (hbox); have b7 := bS HB hg; have b8 := bS HB hg; have a5 := bL a3 hg; have a6 := bM a3 hg; replace a3 := bQ a3 hb; replace HB := Aside0.mk (below_step bB hb); clear hb hbox hg) | ((with_reducible refine gate_dst (N := 4) rfl ?_); refine box_ (cs := #[.int .i64 0, .int .i64 0, .bool false, .bool false]) (t := 25) fun b2 hg F6 hbox hb => ?_; have b1 := Aside0.mk (hbox); have b9 := bS HB hg; have c0 := bS HB hg; have a7 := bL a3 hg; have a8 := bM a3 hg; have a9 := bL a4 hg; have b0 := bM a4 hg; replace a3 := bQ a3 hb; replace a4 := bQ a4 hb; replace HB := Aside0.mk (below_step bB hb); clear hb hbox hg; have C1 := a6.out; have C2 := a5.out; have C3 := a9.out; have C4 := b0.out; obtain ⟨v1, v2, v3, v4, v5, v6, v7, v8⟩ := cf4 a4; have C5 := a8.out; have C6 := a7.out; obtain ⟨v9, x0, x1, x2, x3, x4, x5, x6⟩ := cf4 b1))
 refine bodyPost_ret (results_cell_row rfl _ _ b2 25 #[.int .i64 a1_0, .int .i64 a1_1, .bool false, .bool false] (0, 0) _ rfl (bK b1) Tryd.underlying25 rfl kr) rfl ?_
 exact ⟨sE, bI⟩
 )
 )
 )
 )

/-! ### impl_sign: function 66 -/
def impl_sign.f (a0 : Bool) : Option (Int) := if a0 = true then (some 1) else (some (-1))
set_option maxHeartbeats 8000000 in
set_option maxRecDepth 100000 in
theorem impl_sign.calls (a0 : Bool) (r : Int) (w : World) (h : impl_sign.f a0 = some r) :
    Calls Tryd.prog 66 #[.bool a0] w fun e w' => e = .returned (.int .i64 r) ∧ Drawn0 w w' := by
 have H := h
 unfold impl_sign.f at H
 clear h
 by_cases c2 : a0 = true
 subst c2
 rw [if_pos rfl] at H
 obtain rfl := Option.some.inj H
 rotate_left
 replace c2 := Bool.eq_false_iff.mpr c2
 subst c2
 rw [if_neg nft] at H
 obtain rfl := Option.some.inj H
 rotate_left
 all_goals (go_enter Tryd.func66, Tryd.ntmps66)
 all_goals go_wp2
 all_goals go_ret
 all_goals (exact ⟨by first | rfl | (simp; done) | (simp [*]; done), by repeat (first | exact Drawn0.refl _ | apply Drawn0.step)⟩)

end Go.Proofs.YtlmiaadpnbehgaaDoor.PFnBeamsEndOfAll
