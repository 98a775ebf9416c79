-- Written by xprint.py, a program of this session, for this seat; Lean checks it.
import Derived.Test.YthfbjofmcniogaaVN
import Derived.Test.YthfbjofmcniogaaPFnBeamsGox0
namespace Go.Proofs.Ythfbjofmcniogaa.PFnBeamsGo
open Go.Proofs.YthfbjofmcniogaaV Go.RowKit Go.Proofs.YthfbjofmcniogaaW.PrintWords Go.Proofs.YthfbjofmcniogaaW.PrintLast Go.Proofs.YthfbjofmcniogaaW.PrintMore
attribute [local go_sem] max2_int min2_int max_two min_two max_three min_three max_four min_four   -- for this text's walks alone
set_option linter.unusedVariables false
set_option linter.unusedSimpArgs false

/-! ### spec_l1In: function 71 -/
def spec_l1In.f (a0 : Int) (a1 : Int) (a2 : Int) : Option (Bool) := if a0 ≥ a1 then (some (decide (a0 ≤ a2))) else (some false)
set_option maxHeartbeats 8000000 in
set_option maxRecDepth 100000 in
theorem spec_l1In.calls (a0 : Int) (a1 : Int) (a2 : Int) (r : Bool) (w : World) (h : spec_l1In.f a0 a1 a2 = some r) :
    Calls Try.prog 71 #[.int .i64 a0, .int .i64 a1, .int .i64 a2] w fun e w' => e = .returned (.bool r) ∧ Drawn0 w w' := by
 have H := h
 unfold spec_l1In.f at H
 clear h
 by_cases c4 : a0 ≥ a1
 rw [if_pos c4] at H
 have a3 : decide (a1 ≤ a0) = true := decide_eq_true c4
 clear c4
 obtain rfl := Option.some.inj H
 rotate_left
 rw [if_neg c4] at H
 have a3 : decide (a1 ≤ a0) = false := decide_eq_false c4
 clear c4
 obtain rfl := Option.some.inj H
 rotate_left
 all_goals (go_enter Try.func71, Try.ntmps71)
 all_goals go_wp2
 all_goals go_ret
 all_goals (exact ⟨by first | rfl | (simp; done) | (simp [*]; done), by repeat (first | exact Drawn0.refl _ | apply Drawn0.step)⟩)

/-! ### spec_beTable: function 70 -/
def spec_beTable.f (a0_0 : Int) (a0_1 : Int) : Option (Bool) := (spec_l1In.f a0_0 1 60).bind fun t102 => (if t102 = true then ((spec_l1In.f a0_1 1 60).bind fun t103 => (some t103)) else (some false))
set_option maxHeartbeats 8000000 in
set_option maxRecDepth 100000 in
theorem spec_beTable.calls (a0_0 : Int) (a0_1 : Int) (r : Bool) (w : World) (h : spec_beTable.f a0_0 a0_1 = some r) :
    Calls Try.prog 70 #[.agg #[.int .i64 a0_0, .int .i64 a0_1]] w fun e w' => e = .returned (.bool r) ∧ Below w.heap.size w w' := by
 have b0 := Try.underlying28
 have HB := Aside0.mk (Below.refl w.heap.size w)
 have H := h
 unfold spec_beTable.f at H
 clear h
 obtain ⟨a3, A2, H⟩ := bD H
 try dsimp only at H
 by_cases c3 : a3 = true
 subst c3
 rw [if_pos rfl] at H
 obtain ⟨a4, A4, H⟩ := bD H
 try dsimp only at H
 obtain rfl := Option.some.inj H
 rotate_left
 replace c3 := Bool.eq_false_iff.mpr c3
 subst c3
 rw [if_neg nft] at H
 obtain rfl := Option.some.inj H
 rotate_left
 all_goals (go_enter Try.func70, Try.ntmps70)
 all_goals (go_wp2_with (first | ((with_reducible refine gate_dst (N := 1) rfl ?_); refine box_ (cs := #[.int .i64 a0_0, .int .i64 a0_1]) (t := 28) fun b1 hg b4 hbox hb => ?_; have a5 := Aside0.mk (hbox); have b2 := bS HB hg; have b3 := bS HB hg; replace HB := Aside0.mk (below_step bB hb); clear hb hbox hg; obtain ⟨a6, a7, a8, a9⟩ := cf2 a5) | ((with_reducible refine gate_callee (f := 71) rfl ?_); refine goesL_ (some 5) rfl rfl Try.func71 kr rfl #[.int .i64 a0_0, .int .i64 1, .int .i64 60] rfl sM ?_; (with_reducible refine (spec_l1In.calls a0_0 1 60 true _ A2.out).mono ?_); rintro e w' ⟨rfl, ⟨nd, rfl⟩⟩; refine ⟨_, rfl, ?_⟩) | (go_at_call 71; (with_reducible refine (spec_l1In.calls a0_1 1 60 a4 _ A4.out).mono ?_); rintro e w' ⟨rfl, ⟨nd, rfl⟩⟩) | ((with_reducible refine gate_callee (f := 71) rfl ?_); refine goesL_ (some 5) rfl rfl Try.func71 kr rfl #[.int .i64 a0_0, .int .i64 1, .int .i64 60] rfl sM ?_; (with_reducible refine (spec_l1In.calls a0_0 1 60 false _ A2.out).mono ?_); rintro e w' ⟨rfl, ⟨nd, rfl⟩⟩; refine ⟨_, rfl, ?_⟩)))
 all_goals go_ret
 all_goals (exact ⟨sE, bI⟩)

/-! ### spec_beGood: function 38 -/
def spec_beGood.f (a0_0 : Int) (a0_1 : Int) (a1_0 : Int) (a1_1 : Int) (a1_2 : Bool) (a1_3 : Bool) : Option (Bool) := (spec_beTable.f a0_0 a0_1).bind fun t106 => (if t106 = true then ((spec_l1In.f a1_0 0 a0_0).bind fun t107 => (if t107 = true then ((spec_l1In.f a1_1 0 a0_1).bind fun t108 => (some t108)) else (some false))) else (some false))
set_option maxHeartbeats 8000000 in
set_option maxRecDepth 100000 in
theorem spec_beGood.calls (a0_0 : Int) (a0_1 : Int) (a1_0 : Int) (a1_1 : Int) (a1_2 : Bool) (a1_3 : Bool) (r : Bool) (w : World) (h : spec_beGood.f a0_0 a0_1 a1_0 a1_1 a1_2 a1_3 = some r) :
    Calls Try.prog 38 #[.agg #[.int .i64 a0_0, .int .i64 a0_1], .agg #[.int .i64 a1_0, .int .i64 a1_1, .bool a1_2, .bool a1_3]] w fun e w' => e = .returned (.bool r) ∧ Below w.heap.size w w' := by
 have d1 := Try.underlying28
 have d2 := Try.underlying30
 have HB := Aside0.mk (Below.refl w.heap.size w)
 have H := h
 unfold spec_beGood.f at H
 clear h
 obtain ⟨a7, A3, H⟩ := bD H
 try dsimp only at H
 by_cases c4 : a7 = true
 subst c4
 rw [if_pos rfl] at H
 obtain ⟨a8, A5, H⟩ := bD H
 try dsimp only at H
 by_cases c6 : a8 = true
 subst c6
 rw [if_pos rfl] at H
 obtain ⟨a9, A7, H⟩ := bD H
 try dsimp only at H
 obtain rfl := Option.some.inj H
 rotate_left
 replace c6 := Bool.eq_false_iff.mpr c6
 subst c6
 rw [if_neg nft] at H
 obtain rfl := Option.some.inj H
 rotate_left
 replace c4 := Bool.eq_false_iff.mpr c4
 subst c4
 rw [if_neg nft] at H
 obtain rfl := Option.some.inj H
 rotate_left
 all_goals (go_enter Try.func38, Try.ntmps38)
 all_goals (go_wp2_with (first | ((with_reducible refine gate_dst (N := 2) rfl ?_); refine box_ (cs := #[.int .i64 a0_0, .int .i64 a0_1]) (t := 28) fun d3 hg d9 hbox hb => ?_; have a3 := Aside0.mk (hbox); have d4 := bS HB hg; have d5 := bS HB hg; replace HB := Aside0.mk (below_step bB hb); clear hb hbox hg) | ((with_reducible refine gate_dst (N := 3) rfl ?_); refine box_ (cs := #[.int .i64 a1_0, .int .i64 a1_1, .bool a1_2, .bool a1_3]) (t := 30) fun d6 hg e0 hbox hb => ?_; have a4 := Aside0.mk (hbox); have d7 := bS HB hg; have d8 := bS HB hg; have a5 := bL a3 hg; have a6 := bM a3 hg; replace a3 := bQ a3 hb; replace HB := Aside0.mk (below_step bB hb); clear hb hbox hg; have c9 := a5.out; have d0 := a6.out; obtain ⟨b0, b1, b2, b3⟩ := cf2 a3) | ((with_reducible refine gate_callee (f := 70) rfl ?_); refine goesL_ (some 6) rfl rfl Try.func70 kr rfl #[.agg #[.int .i64 a0_0, .int .i64 a0_1]] rfl sM ?_; (with_reducible refine (spec_beTable.calls a0_0 a0_1 true _ A3.out).mono ?_); rintro e c8 ⟨rfl, hb⟩; refine ⟨_, rfl, ?_⟩; replace a3 := bQ a3 hb; replace a4 := bQ a4 hb; replace HB := Aside0.mk (below_step bB hb); (try clear hb); obtain ⟨b4, b5, b6, b7, b8, b9, c0, c1⟩ := cf4 a4; obtain ⟨c2, c3, c5, c7⟩ := cf2 a3) | (go_at_call 71; (with_reducible refine (spec_l1In.calls a1_0 0 a0_0 true _ A5.out).mono ?_); rintro e w' ⟨rfl, ⟨nd, rfl⟩⟩) | (go_at_call 71; (with_reducible refine (spec_l1In.calls a1_1 0 a0_1 a9 _ A7.out).mono ?_); rintro e w' ⟨rfl, ⟨nd, rfl⟩⟩) | (go_at_call 71; (with_reducible refine (spec_l1In.calls a1_0 0 a0_0 false _ A5.out).mono ?_); rintro e w' ⟨rfl, ⟨nd, rfl⟩⟩) | ((with_reducible refine gate_callee (f := 70) rfl ?_); refine goesL_ (some 6) rfl rfl Try.func70 kr rfl #[.agg #[.int .i64 a0_0, .int .i64 a0_1]] rfl sM ?_; (with_reducible refine (spec_beTable.calls a0_0 a0_1 false _ A3.out).mono ?_); rintro e c8 ⟨rfl, hb⟩; refine ⟨_, rfl, ?_⟩; replace a3 := bQ a3 hb; replace a4 := bQ a4 hb; replace HB := Aside0.mk (below_step bB hb); (try clear hb))))
 all_goals go_ret
 all_goals (exact ⟨sE, bI⟩)

/-! ### spec_beCorner: function 63 -/
def spec_beCorner.f (a0_0 : Int) (a0_1 : Int) (a1_0 : Int) (a1_1 : Int) (a1_2 : Bool) (a1_3 : Bool) : Option (Bool) := if a1_0 = 0 then (if a1_1 = 0 then (some true) else (some (a1_1 == a0_1))) else (if a1_0 = a0_0 then (if a1_1 = 0 then (some true) else (some (a1_1 == a0_1))) else (some false))
set_option maxHeartbeats 8000000 in
set_option maxRecDepth 100000 in
theorem spec_beCorner.calls (a0_0 : Int) (a0_1 : Int) (a1_0 : Int) (a1_1 : Int) (a1_2 : Bool) (a1_3 : Bool) (r : Bool) (w : World) (h : spec_beCorner.f a0_0 a0_1 a1_0 a1_1 a1_2 a1_3 = some r) :
    Calls Try.prog 63 #[.agg #[.int .i64 a0_0, .int .i64 a0_1], .agg #[.int .i64 a1_0, .int .i64 a1_1, .bool a1_2, .bool a1_3]] w fun e w' => e = .returned (.bool r) ∧ Below w.heap.size w w' := by
 have d3 := Try.underlying28
 have d4 := Try.underlying30
 have HB := Aside0.mk (Below.refl w.heap.size w)
 have H := h
 unfold spec_beCorner.f at H
 clear h
 by_cases c3 : a1_0 = 0
 rw [if_pos c3] at H
 obtain ⟨b2, b3⟩ := yE c3
 clear c3
 by_cases c4 : a1_1 = 0
 rw [if_pos c4] at H
 obtain ⟨b4, b5⟩ := yE c4
 clear c4
 obtain rfl := Option.some.inj H
 rotate_left
 rw [if_neg c4] at H
 obtain ⟨b4, b5⟩ := nE c4
 obtain rfl := Option.some.inj H
 rotate_left
 rw [if_neg c3] at H
 obtain ⟨b2, b3⟩ := nE c3
 by_cases a4 : a1_0 = a0_0
 rw [if_pos a4] at H
 obtain ⟨a8, a9⟩ := yE a4
 clear a4
 by_cases a5 : a1_1 = 0
 rw [if_pos a5] at H
 obtain ⟨b0, b1⟩ := yE a5
 clear a5
 obtain rfl := Option.some.inj H
 rotate_left
 rw [if_neg a5] at H
 obtain ⟨b0, b1⟩ := nE a5
 obtain rfl := Option.some.inj H
 rotate_left
 rw [if_neg a4] at H
 obtain ⟨a8, a9⟩ := nE a4
 obtain rfl := Option.some.inj H
 rotate_left
 all_goals (go_enter Try.func63, Try.ntmps63)
 all_goals (go_wp2_with (first | ((with_reducible refine gate_dst (N := 2) rfl ?_); refine box_ (cs := #[.int .i64 a0_0, .int .i64 a0_1]) (t := 28) fun d5 hg e1 hbox hb => ?_; have a3 := Aside0.mk (hbox); have d6 := bS HB hg; have d7 := bS HB hg; replace HB := Aside0.mk (below_step bB hb); clear hb hbox hg) | ((with_reducible refine gate_dst (N := 3) rfl ?_); refine box_ (cs := #[.int .i64 a1_0, .int .i64 a1_1, .bool a1_2, .bool a1_3]) (t := 30) fun d8 hg e2 hbox hb => ?_; have b6 := Aside0.mk (hbox); have d9 := bS HB hg; have e0 := bS HB hg; have a6 := bL a3 hg; have a7 := bM a3 hg; replace a3 := bQ a3 hb; replace HB := Aside0.mk (below_step bB hb); clear hb hbox hg; have d1 := a7.out; have d2 := a6.out; obtain ⟨b7, b8, b9, c0, c1, c2, c5, c6⟩ := cf4 b6; obtain ⟨c7, c8, c9, d0⟩ := cf2 a3)))
 all_goals go_ret
 all_goals (exact ⟨sE, bI⟩)

end Go.Proofs.Ythfbjofmcniogaa.PFnBeamsGo
