-- Written by xprint.py, a program of this session, for this seat; Lean checks it.
import Derived.Test.YthfbjofmcniogaaVN
import Derived.Test.YthfbjofmcniogaaPFnBeamsGox0
import Derived.Test.YthfbjofmcniogaaPFnBeamsGox13
namespace Go.Proofs.Ythfbjofmcniogaa.PFnBeamsGo
open Go.Proofs.YthfbjofmcniogaaV Go.RowKit Go.Proofs.YthfbjofmcniogaaW.PrintWords Go.Proofs.YthfbjofmcniogaaW.PrintLast Go.Proofs.YthfbjofmcniogaaW.PrintMore
attribute [local go_sem] max2_int min2_int max_two min_two max_three min_three max_four min_four   -- for this text's walks alone
set_option linter.unusedVariables false
set_option linter.unusedSimpArgs false

/-! ### spec_FirstPass: function 28 -/
def spec_FirstPass.f (k : Nat) (a0_0 : Int) (a0_1 : Int) (a1_0 : Int) (a1_1 : Int) (a1_2 : Bool) (a1_3 : Bool) (a2 : Int) (a3 : Int) : Option (Int × Bool) := (spec_bePlace.f a0_0 a0_1 a1_0 a1_1 a1_2 a1_3 a2 a3).bind fun t320 => (if t320 = true then ((spec_bePass.f k a0_0 a0_1 a1_0 a1_1 a1_2 a1_3 a2 a3).bind fun t321 => (if t321 < 0 then (some (0, false)) else (some (t321, true)))) else (some (0, false)))
theorem spec_FirstPass.mono : ∀ a0 a1 a2 a3 a4 a5 a6 a7 k, LeO (spec_FirstPass.f k a0 a1 a2 a3 a4 a5 a6 a7) (spec_FirstPass.f (k + 1) a0 a1 a2 a3 a4 a5 a6 a7) := by
  intro a0 a1 a2 a3 a4 a5 a6 a7 k
  unfold spec_FirstPass.f
  repeat' first
      | (with_reducible exact spec_bePass.mono _ _ _ _ _ _ _ _ _)
      | (with_reducible exact LeO.refl _)
      | (with_reducible exact LeO.none _)
      | (with_reducible refine LeO.ite ?_ ?_)
      | (with_reducible refine LeO.bind ?_ (fun _ => ?_))
      | exact spec_bePass.mono _ _ _ _ _ _ _ _ _
      | exact LeO.none _
      | refine LeO.ite ?_ ?_
      | refine LeO.bind ?_ (fun _ => ?_)
set_option maxHeartbeats 8000000 in
set_option maxRecDepth 100000 in
theorem spec_FirstPass.calls (k : Nat) (a0_0 : Int) (a0_1 : Int) (a1_0 : Int) (a1_1 : Int) (a1_2 : Bool) (a1_3 : Bool) (a2 : Int) (a3 : Int) (r1 : Int) (r2 : Bool) (w : World) (h : spec_FirstPass.f k a0_0 a0_1 a1_0 a1_1 a1_2 a1_3 a2 a3 = some (r1, r2)) :
    Calls Try.prog 28 #[.agg #[.int .i64 a0_0, .int .i64 a0_1], .agg #[.int .i64 a1_0, .int .i64 a1_1, .bool a1_2, .bool a1_3], .int .i64 a2, .int .i64 a3] w fun e w' => e = .returned (.tuple #[.int .i64 r1, .bool r2]) ∧ Below w.heap.size w w' := by
 have e4 := Try.underlying28
 have e5 := Try.underlying30
 have HB := Aside0.mk (Below.refl w.heap.size w)
 have H := h
 unfold spec_FirstPass.f at H
 clear h
 obtain ⟨b3, A5, H⟩ := bD H
 try dsimp only at H
 by_cases c6 : b3 = true
 subst c6
 rw [if_pos rfl] at H
 obtain ⟨b0, A7, H⟩ := bD H
 try dsimp only at H
 by_cases c8 : b0 < 0
 rw [if_pos c8] at H
 have b4 : decide (b0 < 0) = true := decide_eq_true c8
 clear c8
 simp only [Option.some.injEq, Prod.mk.injEq] at H
 obtain ⟨rfl, rfl⟩ := H
 rotate_left
 rw [if_neg c8] at H
 have b4 : decide (b0 < 0) = false := decide_eq_false c8
 clear c8
 simp only [Option.some.injEq, Prod.mk.injEq] at H
 obtain ⟨rfl, rfl⟩ := H
 rotate_left
 replace c6 := Bool.eq_false_iff.mpr c6
 subst c6
 rw [if_neg nft] at H
 simp only [Option.some.injEq, Prod.mk.injEq] at H
 obtain ⟨rfl, rfl⟩ := H
 rotate_left
 all_goals (go_enter Try.func28, Try.ntmps28)
 all_goals (go_wp2_with (first | ((with_reducible refine gate_dst (N := 4) rfl ?_); refine box_ (cs := #[.int .i64 a0_0, .int .i64 a0_1]) (t := 28) fun e6 hg g2 hbox hb => ?_; have a8 := Aside0.mk (hbox); have e7 := bS HB hg; have e8 := bS HB hg; replace HB := Aside0.mk (below_step bB hb); clear hb hbox hg) | ((with_reducible refine gate_dst (N := 5) rfl ?_); refine box_ (cs := #[.int .i64 a1_0, .int .i64 a1_1, .bool a1_2, .bool a1_3]) (t := 30) fun e9 hg g3 hbox hb => ?_; have a9 := Aside0.mk (hbox); have g0 := bS HB hg; have g1 := bS HB hg; have b1 := bL a8 hg; have b2 := bM a8 hg; replace a8 := bQ a8 hb; replace HB := Aside0.mk (below_step bB hb); clear hb hbox hg; have e2 := b1.out; have e3 := b2.out; obtain ⟨b5, b6, b7, b8⟩ := cf2 a8; obtain ⟨b9, c0, c1, c2, c3, c4, c5, c7⟩ := cf4 a9) | ((with_reducible refine gate_callee (f := 60) rfl ?_); refine goesL_ (some 15) rfl rfl Try.func60 kr rfl #[.agg #[.int .i64 a0_0, .int .i64 a0_1], .agg #[.int .i64 a1_0, .int .i64 a1_1, .bool a1_2, .bool a1_3], .int .i64 a2, .int .i64 a3] rfl sM ?_; (with_reducible refine (spec_bePlace.calls a0_0 a0_1 a1_0 a1_1 a1_2 a1_3 a2 a3 true _ A5.out).mono ?_); rintro e e1 ⟨rfl, hb⟩; refine ⟨_, rfl, ?_⟩; replace a8 := bQ a8 hb; replace a9 := bQ a9 hb; replace HB := Aside0.mk (below_step bB hb); (try clear hb); obtain ⟨c9, d0, d1, d2⟩ := cf2 a8; obtain ⟨d3, d4, d5, d6, d7, d8, d9, e0⟩ := cf4 a9) | ((with_reducible refine gate_callee (f := 61) rfl ?_); refine goesL_ (some 21) rfl rfl Try.func61 kr rfl #[.agg #[.int .i64 a0_0, .int .i64 a0_1], .agg #[.int .i64 a1_0, .int .i64 a1_1, .bool a1_2, .bool a1_3], .int .i64 a2, .int .i64 a3] rfl sM ?_; (with_reducible refine (spec_bePass.calls k a0_0 a0_1 a1_0 a1_1 a1_2 a1_3 a2 a3 b0 _ A7.out).mono ?_); rintro e g4 ⟨rfl, hb⟩; refine ⟨_, rfl, ?_⟩; replace a8 := bQ a8 hb; replace a9 := bQ a9 hb; replace HB := Aside0.mk (below_step bB hb); (try clear hb)) | ((with_reducible refine gate_callee (f := 60) rfl ?_); refine goesL_ (some 15) rfl rfl Try.func60 kr rfl #[.agg #[.int .i64 a0_0, .int .i64 a0_1], .agg #[.int .i64 a1_0, .int .i64 a1_1, .bool a1_2, .bool a1_3], .int .i64 a2, .int .i64 a3] rfl sM ?_; (with_reducible refine (spec_bePlace.calls a0_0 a0_1 a1_0 a1_1 a1_2 a1_3 a2 a3 false _ A5.out).mono ?_); rintro e e1 ⟨rfl, hb⟩; refine ⟨_, rfl, ?_⟩; replace a8 := bQ a8 hb; replace a9 := bQ a9 hb; replace HB := Aside0.mk (below_step bB hb); (try clear hb))))
 all_goals go_ret2
 all_goals (exact ⟨sE, bI⟩)

/-! ### impl_DoesPass: function 29 -/
def impl_DoesPass.f (a0_0 : Int) (a0_1 : Int) (a1_0 : Int) (a1_1 : Int) (a1_2 : Bool) (a1_3 : Bool) (a2 : Int) (a3 : Int) : Option (Bool × Bool) := (impl_areOn.f a0_0 a0_1 a1_0 a1_1 a1_2 a1_3 a2 a3).bind fun t324 => (if t324 = true then ((impl_firstPass.f a0_0 a0_1 a1_0 a1_1 a1_2 a1_3 a2 a3).bind fun t325 => (some (decide (t325 ≥ 0), true))) else (some (false, false)))
set_option maxHeartbeats 8000000 in
set_option maxRecDepth 100000 in
theorem impl_DoesPass.calls (a0_0 : Int) (a0_1 : Int) (a1_0 : Int) (a1_1 : Int) (a1_2 : Bool) (a1_3 : Bool) (a2 : Int) (a3 : Int) (r1 : Bool) (r2 : Bool) (w : World) (h : impl_DoesPass.f a0_0 a0_1 a1_0 a1_1 a1_2 a1_3 a2 a3 = some (r1, r2)) :
    Calls Try.prog 29 #[.agg #[.int .i64 a0_0, .int .i64 a0_1], .agg #[.int .i64 a1_0, .int .i64 a1_1, .bool a1_2, .bool a1_3], .int .i64 a2, .int .i64 a3] w fun e w' => e = .returned (.tuple #[.bool r1, .bool r2]) ∧ Below w.heap.size w w' := by
 have e2 := Try.underlying28
 have e3 := Try.underlying30
 have HB := Aside0.mk (Below.refl w.heap.size w)
 have H := h
 unfold impl_DoesPass.f at H
 clear h
 obtain ⟨b2, A5, H⟩ := bD H
 try dsimp only at H
 by_cases c6 : b2 = true
 subst c6
 rw [if_pos rfl] at H
 obtain ⟨b3, A7, H⟩ := bD H
 try dsimp only at H
 simp only [Option.some.injEq, Prod.mk.injEq] at H
 obtain ⟨rfl, rfl⟩ := H
 rotate_left
 replace c6 := Bool.eq_false_iff.mpr c6
 subst c6
 rw [if_neg nft] at H
 simp only [Option.some.injEq, Prod.mk.injEq] at H
 obtain ⟨rfl, rfl⟩ := H
 rotate_left
 all_goals (go_enter Try.func29, Try.ntmps29)
 all_goals (go_wp2_with (first | ((with_reducible refine gate_dst (N := 4) rfl ?_); refine box_ (cs := #[.int .i64 a0_0, .int .i64 a0_1]) (t := 28) fun e4 hg g0 hbox hb => ?_; have a8 := Aside0.mk (hbox); have e5 := bS HB hg; have e6 := bS HB hg; replace HB := Aside0.mk (below_step bB hb); clear hb hbox hg) | ((with_reducible refine gate_dst (N := 5) rfl ?_); refine box_ (cs := #[.int .i64 a1_0, .int .i64 a1_1, .bool a1_2, .bool a1_3]) (t := 30) fun e7 hg g1 hbox hb => ?_; have a9 := Aside0.mk (hbox); have e8 := bS HB hg; have e9 := bS HB hg; have b0 := bL a8 hg; have b1 := bM a8 hg; replace a8 := bQ a8 hb; replace HB := Aside0.mk (below_step bB hb); clear hb hbox hg; have e0 := b0.out; have e1 := b1.out; obtain ⟨b4, b5, b6, b7⟩ := cf2 a8; obtain ⟨b8, b9, c0, c1, c2, c3, c4, c5⟩ := cf4 a9) | ((with_reducible refine gate_callee (f := 58) rfl ?_); refine goesL_ (some 14) rfl rfl Try.func58 kr rfl #[.agg #[.int .i64 a0_0, .int .i64 a0_1], .agg #[.int .i64 a1_0, .int .i64 a1_1, .bool a1_2, .bool a1_3], .int .i64 a2, .int .i64 a3] rfl sM ?_; (with_reducible refine (impl_areOn.calls a0_0 a0_1 a1_0 a1_1 a1_2 a1_3 a2 a3 true _ A5.out).mono ?_); rintro e d9 ⟨rfl, hb⟩; refine ⟨_, rfl, ?_⟩; replace a8 := bQ a8 hb; replace a9 := bQ a9 hb; replace HB := Aside0.mk (below_step bB hb); (try clear hb); obtain ⟨c7, c8, c9, d0⟩ := cf2 a8; obtain ⟨d1, d2, d3, d4, d5, d6, d7, d8⟩ := cf4 a9) | ((with_reducible refine gate_callee (f := 59) rfl ?_); refine goesL_ (some 20) rfl rfl Try.func59 kr rfl #[.agg #[.int .i64 a0_0, .int .i64 a0_1], .agg #[.int .i64 a1_0, .int .i64 a1_1, .bool a1_2, .bool a1_3], .int .i64 a2, .int .i64 a3] rfl sM ?_; (with_reducible refine (impl_firstPass.calls a0_0 a0_1 a1_0 a1_1 a1_2 a1_3 a2 a3 b3 _ A7.out).mono ?_); rintro e g2 ⟨rfl, hb⟩; refine ⟨_, rfl, ?_⟩; replace a8 := bQ a8 hb; replace a9 := bQ a9 hb; replace HB := Aside0.mk (below_step bB hb); (try clear hb)) | ((with_reducible refine gate_callee (f := 58) rfl ?_); refine goesL_ (some 14) rfl rfl Try.func58 kr rfl #[.agg #[.int .i64 a0_0, .int .i64 a0_1], .agg #[.int .i64 a1_0, .int .i64 a1_1, .bool a1_2, .bool a1_3], .int .i64 a2, .int .i64 a3] rfl sM ?_; (with_reducible refine (impl_areOn.calls a0_0 a0_1 a1_0 a1_1 a1_2 a1_3 a2 a3 false _ A5.out).mono ?_); rintro e d9 ⟨rfl, hb⟩; refine ⟨_, rfl, ?_⟩; replace a8 := bQ a8 hb; replace a9 := bQ a9 hb; replace HB := Aside0.mk (below_step bB hb); (try clear hb))))
 all_goals go_ret2
 all_goals (exact ⟨sE, bI⟩)

/-! ### spec_DoesPass: function 30 -/
def spec_DoesPass.f (k : Nat) (a0_0 : Int) (a0_1 : Int) (a1_0 : Int) (a1_1 : Int) (a1_2 : Bool) (a1_3 : Bool) (a2 : Int) (a3 : Int) : Option (Bool × Bool) := (spec_bePlace.f a0_0 a0_1 a1_0 a1_1 a1_2 a1_3 a2 a3).bind fun t328 => (if t328 = true then ((spec_bePass.f k a0_0 a0_1 a1_0 a1_1 a1_2 a1_3 a2 a3).bind fun t329 => (some (decide (t329 ≥ 0), true))) else (some (false, false)))
theorem spec_DoesPass.mono : ∀ a0 a1 a2 a3 a4 a5 a6 a7 k, LeO (spec_DoesPass.f k a0 a1 a2 a3 a4 a5 a6 a7) (spec_DoesPass.f (k + 1) a0 a1 a2 a3 a4 a5 a6 a7) := by
  intro a0 a1 a2 a3 a4 a5 a6 a7 k
  unfold spec_DoesPass.f
  repeat' first
      | (with_reducible exact spec_bePass.mono _ _ _ _ _ _ _ _ _)
      | (with_reducible exact LeO.refl _)
      | (with_reducible exact LeO.none _)
      | (with_reducible refine LeO.ite ?_ ?_)
      | (with_reducible refine LeO.bind ?_ (fun _ => ?_))
      | exact spec_bePass.mono _ _ _ _ _ _ _ _ _
      | exact LeO.none _
      | refine LeO.ite ?_ ?_
      | refine LeO.bind ?_ (fun _ => ?_)
set_option maxHeartbeats 8000000 in
set_option maxRecDepth 100000 in
theorem spec_DoesPass.calls (k : Nat) (a0_0 : Int) (a0_1 : Int) (a1_0 : Int) (a1_1 : Int) (a1_2 : Bool) (a1_3 : Bool) (a2 : Int) (a3 : Int) (r1 : Bool) (r2 : Bool) (w : World) (h : spec_DoesPass.f k a0_0 a0_1 a1_0 a1_1 a1_2 a1_3 a2 a3 = some (r1, r2)) :
    Calls Try.prog 30 #[.agg #[.int .i64 a0_0, .int .i64 a0_1], .agg #[.int .i64 a1_0, .int .i64 a1_1, .bool a1_2, .bool a1_3], .int .i64 a2, .int .i64 a3] w fun e w' => e = .returned (.tuple #[.bool r1, .bool r2]) ∧ Below w.heap.size w w' := by
 have e2 := Try.underlying28
 have e3 := Try.underlying30
 have HB := Aside0.mk (Below.refl w.heap.size w)
 have H := h
 unfold spec_DoesPass.f at H
 clear h
 obtain ⟨b2, A5, H⟩ := bD H
 try dsimp only at H
 by_cases c6 : b2 = true
 subst c6
 rw [if_pos rfl] at H
 obtain ⟨b3, A7, H⟩ := bD H
 try dsimp only at H
 simp only [Option.some.injEq, Prod.mk.injEq] at H
 obtain ⟨rfl, rfl⟩ := H
 rotate_left
 replace c6 := Bool.eq_false_iff.mpr c6
 subst c6
 rw [if_neg nft] at H
 simp only [Option.some.injEq, Prod.mk.injEq] at H
 obtain ⟨rfl, rfl⟩ := H
 rotate_left
 all_goals (go_enter Try.func30, Try.ntmps30)
 all_goals (go_wp2_with (first | ((with_reducible refine gate_dst (N := 4) rfl ?_); refine box_ (cs := #[.int .i64 a0_0, .int .i64 a0_1]) (t := 28) fun e4 hg g0 hbox hb => ?_; have a8 := Aside0.mk (hbox); have e5 := bS HB hg; have e6 := bS HB hg; replace HB := Aside0.mk (below_step bB hb); clear hb hbox hg) | ((with_reducible refine gate_dst (N := 5) rfl ?_); refine box_ (cs := #[.int .i64 a1_0, .int .i64 a1_1, .bool a1_2, .bool a1_3]) (t := 30) fun e7 hg g1 hbox hb => ?_; have a9 := Aside0.mk (hbox); have e8 := bS HB hg; have e9 := bS HB hg; have b0 := bL a8 hg; have b1 := bM a8 hg; replace a8 := bQ a8 hb; replace HB := Aside0.mk (below_step bB hb); clear hb hbox hg; have e0 := b0.out; have e1 := b1.out; obtain ⟨b4, b5, b6, b7⟩ := cf2 a8; obtain ⟨b8, b9, c0, c1, c2, c3, c4, c5⟩ := cf4 a9) | ((with_reducible refine gate_callee (f := 60) rfl ?_); refine goesL_ (some 14) rfl rfl Try.func60 kr rfl #[.agg #[.int .i64 a0_0, .int .i64 a0_1], .agg #[.int .i64 a1_0, .int .i64 a1_1, .bool a1_2, .bool a1_3], .int .i64 a2, .int .i64 a3] rfl sM ?_; (with_reducible refine (spec_bePlace.calls a0_0 a0_1 a1_0 a1_1 a1_2 a1_3 a2 a3 true _ A5.out).mono ?_); rintro e d9 ⟨rfl, hb⟩; refine ⟨_, rfl, ?_⟩; replace a8 := bQ a8 hb; replace a9 := bQ a9 hb; replace HB := Aside0.mk (below_step bB hb); (try clear hb); obtain ⟨c7, c8, c9, d0⟩ := cf2 a8; obtain ⟨d1, d2, d3, d4, d5, d6, d7, d8⟩ := cf4 a9) | ((with_reducible refine gate_callee (f := 61) rfl ?_); refine goesL_ (some 20) rfl rfl Try.func61 kr rfl #[.agg #[.int .i64 a0_0, .int .i64 a0_1], .agg #[.int .i64 a1_0, .int .i64 a1_1, .bool a1_2, .bool a1_3], .int .i64 a2, .int .i64 a3] rfl sM ?_; (with_reducible refine (spec_bePass.calls k a0_0 a0_1 a1_0 a1_1 a1_2 a1_3 a2 a3 b3 _ A7.out).mono ?_); rintro e g2 ⟨rfl, hb⟩; refine ⟨_, rfl, ?_⟩; replace a8 := bQ a8 hb; replace a9 := bQ a9 hb; replace HB := Aside0.mk (below_step bB hb); (try clear hb)) | ((with_reducible refine gate_callee (f := 60) rfl ?_); refine goesL_ (some 14) rfl rfl Try.func60 kr rfl #[.agg #[.int .i64 a0_0, .int .i64 a0_1], .agg #[.int .i64 a1_0, .int .i64 a1_1, .bool a1_2, .bool a1_3], .int .i64 a2, .int .i64 a3] rfl sM ?_; (with_reducible refine (spec_bePlace.calls a0_0 a0_1 a1_0 a1_1 a1_2 a1_3 a2 a3 false _ A5.out).mono ?_); rintro e d9 ⟨rfl, hb⟩; refine ⟨_, rfl, ?_⟩; replace a8 := bQ a8 hb; replace a9 := bQ a9 hb; replace HB := Aside0.mk (below_step bB hb); (try clear hb))))
 all_goals go_ret2
 all_goals (exact ⟨sE, bI⟩)

/-! ### spec_l1Least: function 62 -/
def spec_l1Least.f (a0 : Int) (a1 : Int) : Option (Int) := if a0 < a1 then (some a0) else (some a1)
set_option maxHeartbeats 8000000 in
set_option maxRecDepth 100000 in
theorem spec_l1Least.calls (a0 : Int) (a1 : Int) (r : Int) (w : World) (h : spec_l1Least.f a0 a1 = some r) :
    Calls Try.prog 62 #[.int .i64 a0, .int .i64 a1] w fun e w' => e = .returned (.int .i64 r) ∧ Drawn0 w w' := by
 have H := h
 unfold spec_l1Least.f at H
 clear h
 by_cases c3 : a0 < a1
 rw [if_pos c3] at H
 have a8 : decide (a0 < a1) = true := decide_eq_true c3
 clear c3
 obtain rfl := Option.some.inj H
 rotate_left
 rw [if_neg c3] at H
 have a8 : decide (a0 < a1) = false := decide_eq_false c3
 clear c3
 obtain rfl := Option.some.inj H
 rotate_left
 all_goals (go_enter Try.func62, Try.ntmps62)
 all_goals go_wp2
 all_goals go_ret
 all_goals (exact ⟨by first | rfl | (simp; done) | (simp [*]; done), by repeat (first | exact Drawn0.refl _ | apply Drawn0.step)⟩)

end Go.Proofs.Ythfbjofmcniogaa.PFnBeamsGo
