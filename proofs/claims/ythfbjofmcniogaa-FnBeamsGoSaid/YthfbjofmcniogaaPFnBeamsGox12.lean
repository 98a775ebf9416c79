-- Written by xprint.py, a program of this session, for this seat; Lean checks it.
import Derived.Test.YthfbjofmcniogaaVN
import Derived.Test.YthfbjofmcniogaaPFnBeamsGox0
import Derived.Test.YthfbjofmcniogaaPFnBeamsGox2
import Derived.Test.YthfbjofmcniogaaPFnBeamsGox6
import Derived.Test.YthfbjofmcniogaaPFnBeamsGox8
import Derived.Test.YthfbjofmcniogaaPFnBeamsGox10
import Derived.Test.YthfbjofmcniogaaPFnBeamsGox11
namespace Go.Proofs.Ythfbjofmcniogaa.PFnBeamsGo
open Go.Proofs.YthfbjofmcniogaaV Go.RowKit Go.Proofs.YthfbjofmcniogaaW.PrintWords Go.Proofs.YthfbjofmcniogaaW.PrintLast Go.Proofs.YthfbjofmcniogaaW.PrintMore
attribute [local go_sem] max2_int min2_int max_two min_two max_three min_three max_four min_four   -- for this text's walks alone
set_option linter.unusedVariables false
set_option linter.unusedSimpArgs false

/-! ### spec_PeriodOfBeam: function 18 -/
def spec_PeriodOfBeam.f (k : Nat) (a0_0 : Int) (a0_1 : Int) (a1_0 : Int) (a1_1 : Int) (a1_2 : Bool) (a1_3 : Bool) : Option (Int × Bool) := (spec_beGood.f a0_0 a0_1 a1_0 a1_1 a1_2 a1_3).bind fun t272 => (if t272 = true then ((spec_beEnd.f k a0_0 a0_1 a1_0 a1_1 a1_2 a1_3).bind fun bt273 => (if bt273.2.2 = true then (some (0, false)) else ((spec_bePeriod.f k bt273.1).bind fun t278 => (some (t278, true))))) else (some (0, false)))
theorem spec_PeriodOfBeam.mono : ∀ a0 a1 a2 a3 a4 a5 k, LeO (spec_PeriodOfBeam.f k a0 a1 a2 a3 a4 a5) (spec_PeriodOfBeam.f (k + 1) a0 a1 a2 a3 a4 a5) := by
  intro a0 a1 a2 a3 a4 a5 k
  unfold spec_PeriodOfBeam.f
  repeat' first
      | (with_reducible exact spec_beEnd.mono _ _ _ _ _ _ _)
      | (with_reducible exact spec_bePeriod.mono _ _)
      | (with_reducible exact LeO.refl _)
      | (with_reducible exact LeO.none _)
      | (with_reducible refine LeO.ite ?_ ?_)
      | (with_reducible refine LeO.bind ?_ (fun _ => ?_))
      | exact spec_beEnd.mono _ _ _ _ _ _ _
      | exact spec_bePeriod.mono _ _
      | exact LeO.none _
      | refine LeO.ite ?_ ?_
      | refine LeO.bind ?_ (fun _ => ?_)
set_option maxHeartbeats 8000000 in
set_option maxRecDepth 100000 in
theorem spec_PeriodOfBeam.calls (k : Nat) (a0_0 : Int) (a0_1 : Int) (a1_0 : Int) (a1_1 : Int) (a1_2 : Bool) (a1_3 : Bool) (r1 : Int) (r2 : Bool) (w : World) (h : spec_PeriodOfBeam.f k a0_0 a0_1 a1_0 a1_1 a1_2 a1_3 = some (r1, r2)) :
    Calls Try.prog 18 #[.agg #[.int .i64 a0_0, .int .i64 a0_1], .agg #[.int .i64 a1_0, .int .i64 a1_1, .bool a1_2, .bool a1_3]] w fun e w' => e = .returned (.tuple #[.int .i64 r1, .bool r2]) ∧ Below w.heap.size w w' := by
 have g4 := Try.underlying28
 have g5 := Try.underlying30
 have HB := Aside0.mk (Below.refl w.heap.size w)
 have H := h
 unfold spec_PeriodOfBeam.f at H
 clear h
 obtain ⟨b5, A3, H⟩ := bD H
 try dsimp only at H
 by_cases c4 : b5 = true
 subst c4
 rw [if_pos rfl] at H
 obtain ⟨⟨a9, b3, b6⟩, A5, H⟩ := bD H
 try dsimp only at H
 by_cases c6 : b6 = true
 subst c6
 rw [if_pos rfl] at H
 simp only [Option.some.injEq, Prod.mk.injEq] at H
 obtain ⟨rfl, rfl⟩ := H
 rotate_left
 replace c6 := Bool.eq_false_iff.mpr c6
 subst c6
 rw [if_neg nft] at H
 obtain ⟨b7, e8, H⟩ := bD H
 try dsimp only at H
 simp only [Option.some.injEq, Prod.mk.injEq] at H
 obtain ⟨rfl, rfl⟩ := H
 rotate_left
 replace c4 := Bool.eq_false_iff.mpr c4
 subst c4
 rw [if_neg nft] at H
 simp only [Option.some.injEq, Prod.mk.injEq] at H
 obtain ⟨rfl, rfl⟩ := H
 rotate_left
 all_goals (go_enter Try.func18, Try.ntmps18)
 all_goals (go_wp2_with (first | ((with_reducible refine gate_dst (N := 2) rfl ?_); refine box_ (cs := #[.int .i64 a0_0, .int .i64 a0_1]) (t := 28) fun g6 hg h5 hbox hb => ?_; have a6 := Aside0.mk (hbox); have g7 := bS HB hg; have g8 := bS HB hg; replace HB := Aside0.mk (below_step bB hb); clear hb hbox hg) | ((with_reducible refine gate_dst (N := 3) rfl ?_); refine box_ (cs := #[.int .i64 a1_0, .int .i64 a1_1, .bool a1_2, .bool a1_3]) (t := 30) fun b4 hg h6 hbox hb => ?_; have a7 := Aside0.mk (hbox); have g9 := bS HB hg; have h4 := bS HB hg; have b1 := bL a6 hg; have b2 := bM a6 hg; replace a6 := bQ a6 hb; replace HB := Aside0.mk (below_step bB hb); clear hb hbox hg; have g2 := b1.out; have g3 := b2.out; obtain ⟨c2, c3, c5, c7⟩ := cf2 a6; obtain ⟨c8, c9, d0, d1, d2, d3, d4, d5⟩ := cf4 a7) | ((with_reducible refine gate_callee (f := 38) rfl ?_); refine goesL_ (some 11) rfl rfl Try.func38 kr rfl #[.agg #[.int .i64 a0_0, .int .i64 a0_1], .agg #[.int .i64 a1_0, .int .i64 a1_1, .bool a1_2, .bool a1_3]] rfl sM ?_; (with_reducible refine (spec_beGood.calls a0_0 a0_1 a1_0 a1_1 a1_2 a1_3 true _ A3.out).mono ?_); rintro e e9 ⟨rfl, hb⟩; refine ⟨_, rfl, ?_⟩; replace a6 := bQ a6 hb; replace a7 := bQ a7 hb; replace HB := Aside0.mk (below_step bB hb); (try clear hb); obtain ⟨d6, d7, d8, d9⟩ := cf2 a6; obtain ⟨e0, e1, e2, e3, e4, e5, e6, e7⟩ := cf4 a7) | ((with_reducible refine gate_callee (f := 43) rfl ?_); refine goesL_ (some 16) rfl rfl Try.func43 kr rfl #[.agg #[.int .i64 a0_0, .int .i64 a0_1], .agg #[.int .i64 a1_0, .int .i64 a1_1, .bool a1_2, .bool a1_3]] rfl sM ?_; (with_reducible refine (spec_beEnd.calls k a0_0 a0_1 a1_0 a1_1 a1_2 a1_3 a9 b3 true _ A5.out).mono ?_); rintro e g0 ⟨g1, rfl, a8, hb⟩; refine ⟨_, rfl, ?_⟩; have b0 := Aside0.mk (Kd.R_lower (Kd.R_newB a8 (g := b4) (o := .cells #[.int .i64 a1_0, .int .i64 a1_1, .bool a1_2, .bool a1_3] 30 (0, 0)) (bK a7)) (below_size bB)); replace a6 := bQ a6 hb; replace a7 := bQ a7 hb; replace HB := Aside0.mk (below_step bB hb); (try clear hb); (try clear a8)) | ((with_reducible refine gate_callee (f := 43) rfl ?_); refine goesL_ (some 16) rfl rfl Try.func43 kr rfl #[.agg #[.int .i64 a0_0, .int .i64 a0_1], .agg #[.int .i64 a1_0, .int .i64 a1_1, .bool a1_2, .bool a1_3]] rfl sM ?_; (with_reducible refine (spec_beEnd.calls k a0_0 a0_1 a1_0 a1_1 a1_2 a1_3 a9 b3 false _ A5.out).mono ?_); rintro e g0 ⟨g1, rfl, a8, hb⟩; refine ⟨_, rfl, ?_⟩; have b0 := Aside0.mk (Kd.R_lower (Kd.R_newB a8 (g := b4) (o := .cells #[.int .i64 a1_0, .int .i64 a1_1, .bool a1_2, .bool a1_3] 30 (0, 0)) (bK a7)) (below_size bB)); replace a6 := bQ a6 hb; replace a7 := bQ a7 hb; replace HB := Aside0.mk (below_step bB hb); (try clear hb); (try clear a8); obtain ⟨b8, b9, c0⟩ := Kd.R_slice b0.out; subst c0) | ((with_reducible refine gate_callee (f := 52) rfl ?_); refine goesL_ (some 22) rfl rfl Try.func52 kr rfl #[.slice b8 a9.length b9] rfl sM ?_; (with_reducible refine (spec_bePeriod.calls k _ _ a9 b7 _ ?side1 ?side2 e8.out).mono ?_); (case side1 => repeat (first | exact (Kd.R_reads' b0.out).2.2 | (with_reducible refine Kd.C_alloc ?_ _) | (with_reducible refine Kd.C_drewN ?_ _) | (with_reducible refine Kd.C_drew ?_))); (case side2 => exact (Kd.R_reads' b0.out).2.1); rintro e w' ⟨rfl, ⟨nd, rfl⟩⟩; refine ⟨_, rfl, ?_⟩) | ((with_reducible refine gate_callee (f := 38) rfl ?_); refine goesL_ (some 11) rfl rfl Try.func38 kr rfl #[.agg #[.int .i64 a0_0, .int .i64 a0_1], .agg #[.int .i64 a1_0, .int .i64 a1_1, .bool a1_2, .bool a1_3]] rfl sM ?_; (with_reducible refine (spec_beGood.calls a0_0 a0_1 a1_0 a1_1 a1_2 a1_3 false _ A3.out).mono ?_); rintro e e9 ⟨rfl, hb⟩; refine ⟨_, rfl, ?_⟩; replace a6 := bQ a6 hb; replace a7 := bQ a7 hb; replace HB := Aside0.mk (below_step bB hb); (try clear hb))))
 all_goals go_ret2
 all_goals (exact ⟨sE, bI⟩)

/-! ### impl_BackBeam: function 19 -/
def impl_BackBeam.f (a0_0 : Int) (a0_1 : Int) (a1_0 : Int) (a1_1 : Int) (a1_2 : Bool) (a1_3 : Bool) : Option (Int × Int × Bool × Bool × Bool) := (impl_IsBeam.f a0_0 a0_1 a1_0 a1_1 a1_2 a1_3).bind fun t282 => (if t282 = true then (some (a1_0, a1_1, !a1_2, !a1_3, true)) else (some (0, 0, false, false, false)))
set_option maxHeartbeats 8000000 in
set_option maxRecDepth 100000 in
theorem impl_BackBeam.calls (a0_0 : Int) (a0_1 : Int) (a1_0 : Int) (a1_1 : Int) (a1_2 : Bool) (a1_3 : Bool) (r1 : Int) (r2 : Int) (r3 : Bool) (r4 : Bool) (r5 : Bool) (w : World) (h : impl_BackBeam.f a0_0 a0_1 a1_0 a1_1 a1_2 a1_3 = some (r1, r2, r3, r4, r5)) :
    Calls Try.prog 19 #[.agg #[.int .i64 a0_0, .int .i64 a0_1], .agg #[.int .i64 a1_0, .int .i64 a1_1, .bool a1_2, .bool a1_3]] w fun e w' => e = .returned (.tuple #[.agg #[.int .i64 r1, .int .i64 r2, .bool r3, .bool r4], .bool r5]) ∧ Below w.heap.size w w' := by
 have g4 := Try.underlying28
 have g5 := Try.underlying30
 have HB := Aside0.mk (Below.refl w.heap.size w)
 have H := h
 unfold impl_BackBeam.f at H
 clear h
 obtain ⟨c6, A3, H⟩ := bD H
 try dsimp only at H
 by_cases c4 : c6 = true
 subst c4
 rw [if_pos rfl] at H
 simp only [Option.some.injEq, Prod.mk.injEq] at H
 obtain ⟨rfl, rfl, rfl, rfl, rfl⟩ := H
 rotate_left
 replace c4 := Bool.eq_false_iff.mpr c4
 subst c4
 rw [if_neg nft] at H
 simp only [Option.some.injEq, Prod.mk.injEq] at H
 obtain ⟨rfl, rfl, rfl, rfl, rfl⟩ := H
 rotate_left
 all_goals (go_enter Try.func19, Try.ntmps19)
 all_goals (go_wp2_with (first | ((with_reducible refine gate_dst (N := 2) rfl ?_); refine box_ (cs := #[.int .i64 a0_0, .int .i64 a0_1]) (t := 28) fun g6 hg h8 hbox hb => ?_; have a6 := Aside0.mk (hbox); have g7 := bS HB hg; have g8 := bS HB hg; replace HB := Aside0.mk (below_step bB hb); clear hb hbox hg) | ((with_reducible refine gate_dst (N := 3) rfl ?_); refine box_ (cs := #[.int .i64 a1_0, .int .i64 a1_1, .bool a1_2, .bool a1_3]) (t := 30) fun g9 hg h9 hbox hb => ?_; have a7 := Aside0.mk (hbox); have h4 := bS HB hg; have h5 := bS HB hg; have a9 := bL a6 hg; have b0 := bM a6 hg; replace a6 := bQ a6 hb; replace HB := Aside0.mk (below_step bB hb); clear hb hbox hg) | ((with_reducible refine gate_dst (N := 4) rfl ?_); refine box_ (cs := #[.int .i64 0, .int .i64 0, .bool false, .bool false]) (t := 30) fun c5 hg i0 hbox hb => ?_; have a8 := Aside0.mk (hbox); have h6 := bS HB hg; have h7 := bS HB hg; have b1 := bL a6 hg; have b2 := bM a6 hg; have b3 := bL a7 hg; have b4 := bM a7 hg; replace a6 := bQ a6 hb; replace a7 := bQ a7 hb; replace HB := Aside0.mk (below_step bB hb); clear hb hbox hg; have e8 := a9.out; have e9 := b0.out; have g0 := b1.out; have g1 := b2.out; obtain ⟨c7, c8, c9, d0⟩ := cf2 a6; have g2 := b3.out; have g3 := b4.out; obtain ⟨d1, d2, d3, d4, d5, d6, d7, d8⟩ := cf4 a7) | ((with_reducible refine gate_callee (f := 22) rfl ?_); refine goesL_ (some 8) rfl rfl Try.func22 kr rfl #[.agg #[.int .i64 a0_0, .int .i64 a0_1], .agg #[.int .i64 a1_0, .int .i64 a1_1, .bool a1_2, .bool a1_3]] rfl sM ?_; (with_reducible refine (impl_IsBeam.calls a0_0 a0_1 a1_0 a1_1 a1_2 a1_3 true _ A3.out).mono ?_); rintro e e7 ⟨rfl, hb⟩; refine ⟨_, rfl, ?_⟩; replace a6 := bQ a6 hb; replace a7 := bQ a7 hb; replace a8 := bQ a8 hb; replace HB := Aside0.mk (below_step bB hb); (try clear hb); obtain ⟨b5, b6, b7, b8, b9, c0, c2, c3⟩ := cf4 a7; obtain ⟨d9, e0, e1, e2, e3, e4, e5, e6⟩ := cf4 a8) | ((with_reducible refine gate_callee (f := 22) rfl ?_); refine goesL_ (some 8) rfl rfl Try.func22 kr rfl #[.agg #[.int .i64 a0_0, .int .i64 a0_1], .agg #[.int .i64 a1_0, .int .i64 a1_1, .bool a1_2, .bool a1_3]] rfl sM ?_; (with_reducible refine (impl_IsBeam.calls a0_0 a0_1 a1_0 a1_1 a1_2 a1_3 false _ A3.out).mono ?_); rintro e e7 ⟨rfl, hb⟩; refine ⟨_, rfl, ?_⟩; replace a6 := bQ a6 hb; replace a7 := bQ a7 hb; replace a8 := bQ a8 hb; replace HB := Aside0.mk (below_step bB hb); (try clear hb); obtain ⟨b5, b6, b7, b8, b9, c0, c2, c3⟩ := cf4 a8)))
 ·(
 refine bodyPost_ret (results_ct rfl _ _ c5 30 #[.int .i64 a1_0, .int .i64 a1_1, .bool (!a1_2), .bool (!a1_3)] (0, 0) _ rfl (bK a8) Try.underlying30 rfl kr) rfl ?_
 exact ⟨sE, bI⟩
 )
 ·(
 refine bodyPost_ret (results_ct rfl _ _ c5 30 #[.int .i64 0, .int .i64 0, .bool false, .bool false] (0, 0) _ rfl (bK a8) Try.underlying30 rfl kr) rfl ?_
 exact ⟨sE, bI⟩
 )

/-! ### spec_BackBeam: function 20 -/
def spec_BackBeam.f (a0_0 : Int) (a0_1 : Int) (a1_0 : Int) (a1_1 : Int) (a1_2 : Bool) (a1_3 : Bool) : Option (Int × Int × Bool × Bool × Bool) := (spec_beGood.f a0_0 a0_1 a1_0 a1_1 a1_2 a1_3).bind fun t286 => (if t286 = true then (some (a1_0, a1_1, !a1_2, !a1_3, true)) else (some (0, 0, false, false, false)))
set_option maxHeartbeats 8000000 in
set_option maxRecDepth 100000 in
theorem spec_BackBeam.calls (a0_0 : Int) (a0_1 : Int) (a1_0 : Int) (a1_1 : Int) (a1_2 : Bool) (a1_3 : Bool) (r1 : Int) (r2 : Int) (r3 : Bool) (r4 : Bool) (r5 : Bool) (w : World) (h : spec_BackBeam.f a0_0 a0_1 a1_0 a1_1 a1_2 a1_3 = some (r1, r2, r3, r4, r5)) :
    Calls Try.prog 20 #[.agg #[.int .i64 a0_0, .int .i64 a0_1], .agg #[.int .i64 a1_0, .int .i64 a1_1, .bool a1_2, .bool a1_3]] w fun e w' => e = .returned (.tuple #[.agg #[.int .i64 r1, .int .i64 r2, .bool r3, .bool r4], .bool r5]) ∧ Below w.heap.size w w' := by
 have g4 := Try.underlying28
 have g5 := Try.underlying30
 have HB := Aside0.mk (Below.refl w.heap.size w)
 have H := h
 unfold spec_BackBeam.f at H
 clear h
 obtain ⟨c6, A3, H⟩ := bD H
 try dsimp only at H
 by_cases c4 : c6 = true
 subst c4
 rw [if_pos rfl] at H
 simp only [Option.some.injEq, Prod.mk.injEq] at H
 obtain ⟨rfl, rfl, rfl, rfl, rfl⟩ := H
 rotate_left
 replace c4 := Bool.eq_false_iff.mpr c4
 subst c4
 rw [if_neg nft] at H
 simp only [Option.some.injEq, Prod.mk.injEq] at H
 obtain ⟨rfl, rfl, rfl, rfl, rfl⟩ := H
 rotate_left
 all_goals (go_enter Try.func20, Try.ntmps20)
 all_goals (go_wp2_with (first | ((with_reducible refine gate_dst (N := 2) rfl ?_); refine box_ (cs := #[.int .i64 a0_0, .int .i64 a0_1]) (t := 28) fun g6 hg h8 hbox hb => ?_; have a6 := Aside0.mk (hbox); have g7 := bS HB hg; have g8 := bS HB hg; replace HB := Aside0.mk (below_step bB hb); clear hb hbox hg) | ((with_reducible refine gate_dst (N := 3) rfl ?_); refine box_ (cs := #[.int .i64 a1_0, .int .i64 a1_1, .bool a1_2, .bool a1_3]) (t := 30) fun g9 hg h9 hbox hb => ?_; have a7 := Aside0.mk (hbox); have h4 := bS HB hg; have h5 := bS HB hg; have a9 := bL a6 hg; have b0 := bM a6 hg; replace a6 := bQ a6 hb; replace HB := Aside0.mk (below_step bB hb); clear hb hbox hg) | ((with_reducible refine gate_dst (N := 4) rfl ?_); refine box_ (cs := #[.int .i64 0, .int .i64 0, .bool false, .bool false]) (t := 30) fun c5 hg i0 hbox hb => ?_; have a8 := Aside0.mk (hbox); have h6 := bS HB hg; have h7 := bS HB hg; have b1 := bL a6 hg; have b2 := bM a6 hg; have b3 := bL a7 hg; have b4 := bM a7 hg; replace a6 := bQ a6 hb; replace a7 := bQ a7 hb; replace HB := Aside0.mk (below_step bB hb); clear hb hbox hg; have e8 := a9.out; have e9 := b0.out; have g0 := b1.out; have g1 := b2.out; obtain ⟨c7, c8, c9, d0⟩ := cf2 a6; have g2 := b3.out; have g3 := b4.out; obtain ⟨d1, d2, d3, d4, d5, d6, d7, d8⟩ := cf4 a7) | ((with_reducible refine gate_callee (f := 38) rfl ?_); refine goesL_ (some 8) rfl rfl Try.func38 kr rfl #[.agg #[.int .i64 a0_0, .int .i64 a0_1], .agg #[.int .i64 a1_0, .int .i64 a1_1, .bool a1_2, .bool a1_3]] rfl sM ?_; (with_reducible refine (spec_beGood.calls a0_0 a0_1 a1_0 a1_1 a1_2 a1_3 true _ A3.out).mono ?_); rintro e e7 ⟨rfl, hb⟩; refine ⟨_, rfl, ?_⟩; replace a6 := bQ a6 hb; replace a7 := bQ a7 hb; replace a8 := bQ a8 hb; replace HB := Aside0.mk (below_step bB hb); (try clear hb); obtain ⟨b5, b6, b7, b8, b9, c0, c2, c3⟩ := cf4 a7; obtain ⟨d9, e0, e1, e2, e3, e4, e5, e6⟩ := cf4 a8) | ((with_reducible refine gate_callee (f := 38) rfl ?_); refine goesL_ (some 8) rfl rfl Try.func38 kr rfl #[.agg #[.int .i64 a0_0, .int .i64 a0_1], .agg #[.int .i64 a1_0, .int .i64 a1_1, .bool a1_2, .bool a1_3]] rfl sM ?_; (with_reducible refine (spec_beGood.calls a0_0 a0_1 a1_0 a1_1 a1_2 a1_3 false _ A3.out).mono ?_); rintro e e7 ⟨rfl, hb⟩; refine ⟨_, rfl, ?_⟩; replace a6 := bQ a6 hb; replace a7 := bQ a7 hb; replace a8 := bQ a8 hb; replace HB := Aside0.mk (below_step bB hb); (try clear hb); obtain ⟨b5, b6, b7, b8, b9, c0, c2, c3⟩ := cf4 a8)))
 ·(
 refine bodyPost_ret (results_ct rfl _ _ c5 30 #[.int .i64 a1_0, .int .i64 a1_1, .bool (!a1_2), .bool (!a1_3)] (0, 0) _ rfl (bK a8) Try.underlying30 rfl kr) rfl ?_
 exact ⟨sE, bI⟩
 )
 ·(
 refine bodyPost_ret (results_ct rfl _ _ c5 30 #[.int .i64 0, .int .i64 0, .bool false, .bool false] (0, 0) _ rfl (bK a8) Try.underlying30 rfl kr) rfl ?_
 exact ⟨sE, bI⟩
 )

/-! ### laws_jSame: function 53 -/
def laws_jSame.l0 : Nat → List Int → List Int → Int → Int → Option (Bool)
  | 0, _, _, _, _ => none
  | k + 1, x0, x1, x12, x13 => if x13 < x12 then (if 0 ≤ x13 then (if x13 < (x0.length : Int) then (if x13 < (x1.length : Int) then (if (rd x0 x13) = (rd x1 x13) then (laws_jSame.l0 k x0 x1 x12 (wrap64 (x13 + 1))) else (some false)) else (none)) else (none)) else (none)) else (some true)
def laws_jSame.f (k : Nat) (l0 : List Int) (l1 : List Int) : Option (Bool) := if (l0.length : Int) = (l1.length : Int) then (laws_jSame.l0 k l0 l1 (l0.length : Int) 0) else (some false)
theorem laws_jSame.mono_l : ∀ k, (∀ y0 y1 y2 y3, LeO (laws_jSame.l0 k y0 y1 y2 y3) (laws_jSame.l0 (k + 1) y0 y1 y2 y3))
  | 0 => fun _ _ _ _ r h => by simp [laws_jSame.l0] at h
  | k + 1 => by
    have ih0 := laws_jSame.mono_l k
    · intro y0 y1 y2 y3
      unfold laws_jSame.l0
      repeat' first
      | (with_reducible exact ih0 _ _ _ _)
      | (with_reducible exact LeO.refl _)
      | (with_reducible exact LeO.none _)
      | (with_reducible refine LeO.ite ?_ ?_)
      | (with_reducible refine LeO.bind ?_ (fun _ => ?_))
      | exact ih0 _ _ _ _
      | exact LeO.none _
      | refine LeO.ite ?_ ?_
      | refine LeO.bind ?_ (fun _ => ?_)
theorem laws_jSame.mono : ∀ a0 a1 k, LeO (laws_jSame.f k a0 a1) (laws_jSame.f (k + 1) a0 a1) := by
  intro a0 a1 k
  have ih0 := laws_jSame.mono_l k
  unfold laws_jSame.f
  repeat' first
      | (with_reducible exact ih0 _ _ _ _)
      | (with_reducible exact LeO.refl _)
      | (with_reducible exact LeO.none _)
      | (with_reducible refine LeO.ite ?_ ?_)
      | (with_reducible refine LeO.bind ?_ (fun _ => ?_))
      | exact ih0 _ _ _ _
      | exact LeO.none _
      | refine LeO.ite ?_ ?_
      | refine LeO.bind ?_ (fun _ => ?_)
set_option maxHeartbeats 8000000 in
set_option maxRecDepth 100000 in
theorem laws_jSame.calls (k : Nat) (A0 : Option Addr) (c0 : Nat) (l0 : List Int) (A1 : Option Addr) (c1 : Nat) (l1 : List Int) (r : Bool) (w : World) (hr0 : Kd.C (Kd.int .i64) w A0 l0.length l0) (hc0 : l0.length ≤ c0) (hr1 : Kd.C (Kd.int .i64) w A1 l1.length l1) (hc1 : l1.length ≤ c1) (h : laws_jSame.f k l0 l1 = some r) :
    Calls Try.prog 53 #[.slice A0 l0.length c0, .slice A1 l1.length c1] w fun e w' => e = .returned (.bool r) ∧ Drawn0 w w' := by
 have c2 := Aside0.mk hr0
 have d7 := Aside0.mk hc0
 clear hr0 hc0
 have c9 := Aside0.mk hr1
 have d8 := Aside0.mk hc1
 clear hr1 hc1
 have H := h
 unfold laws_jSame.f at H
 clear h
 by_cases c3 : (l0.length : Int) = (l1.length : Int)
 ·(
 rw [if_pos c3] at H
 obtain ⟨b5, b6⟩ := yE c3
 have b7 : (l0.length == l1.length) = true := by first | simpa using c3 | (simp at c3 ⊢; omega)
 clear c3
 have H' := Aside0.mk H
 clear H
 go_enter Try.func53, Try.ntmps53
 go_wp2
 repeat (go_quiet (fail); try go_wp2)
 go_loopg [13] k (fun kq d3 w' => ∃ (a6 : Int), d3 = .int .i64 a6 ∧ Aside0 (laws_jSame.l0 kq l0 l1 (l0.length : Int) a6 = some r) ∧ Aside0 (kq ≤ k) ∧ Drawn0 w w')
 case atStart => exact ⟨(0), sR, H', ⟨Nat.le_refl _⟩, by repeat (first | exact Drawn0.refl _ | apply Drawn0.step)⟩
 case round => (
 clear H'
 try clear b5
 try clear b6
 try clear b7
 obtain ⟨a6, rfl, HA, HK1, ⟨m1, rfl⟩⟩ := hrel
 cases gk with
 | zero => exact absurd HA.out (by simp [laws_jSame.l0])
 | succ k1 => (
 have H := HA.out
 clear HA
 simp only [laws_jSame.l0] at H
 by_cases c4 : a6 < (l0.length : Int)
 ·(
 rw [if_pos c4] at H
 have d0 : decide (a6 < (l0.length : Int)) = true := decide_eq_true c4
 clear c4
 by_cases c5 : 0 ≤ a6
 ·(
 rw [if_pos c5] at H
 have d4 : decide (0 ≤ a6) = true := decide_eq_true c5
 clear c5
 by_cases c6 : a6 < (l0.length : Int)
 ·(
 rw [if_pos c6] at H
 have d5 : decide (a6 < (l0.length : Int)) = true := decide_eq_true c6
 clear c6
 by_cases c7 : a6 < (l1.length : Int)
 ·(
 rw [if_pos c7] at H
 have d6 : decide (a6 < (l1.length : Int)) = true := decide_eq_true c7
 clear c7
 by_cases c8 : (rd l0 a6) = (rd l1 a6)
 ·(
 rw [if_pos c8] at H
 obtain ⟨d1, d2⟩ := yE c8
 clear c8
 have H' := Aside0.mk H
 clear H
 have a7 : 0 ≤ (a6 : Int) := of_decide_eq_true asm
 have a8 : a6 < (l0.length : Int) := of_decide_eq_true asm
 obtain ⟨b8, b1, b3⟩ := Kd.at_int c2.out a6 a7 a8
 cases b1
 replace a7 := eq_true a7
 replace a8 := eq_true a8
 have a9 : 0 ≤ (a6 : Int) := of_decide_eq_true asm
 have b0 : a6 < (l1.length : Int) := of_decide_eq_true asm
 obtain ⟨b9, b2, b4⟩ := Kd.at_int c9.out a6 a9 b0
 cases b2
 replace a9 := eq_true a9
 replace b0 := eq_true b0
 go_wp2
 repeat (go_quiet (fail); try go_wp2)
 go_roundg k1
 case measure => have := HK1.out; omega
 case rel => exact ⟨(wrap64 (a6 + 1)), sR, H', ⟨by have := HK1.out; omega⟩, by repeat (first | exact Drawn0.refl _ | apply Drawn0.step)⟩
 )
 ·(
 rw [if_neg c8] at H
 obtain ⟨d1, d2⟩ := nE c8
 obtain rfl := Option.some.inj H
 have a7 : 0 ≤ (a6 : Int) := of_decide_eq_true asm
 have a8 : a6 < (l0.length : Int) := of_decide_eq_true asm
 obtain ⟨b8, b1, b3⟩ := Kd.at_int c2.out a6 a7 a8
 cases b1
 replace a7 := eq_true a7
 replace a8 := eq_true a8
 have a9 : 0 ≤ (a6 : Int) := of_decide_eq_true asm
 have b0 : a6 < (l1.length : Int) := of_decide_eq_true asm
 obtain ⟨b9, b2, b4⟩ := Kd.at_int c9.out a6 a9 b0
 cases b2
 replace a9 := eq_true a9
 replace b0 := eq_true b0
 go_wp2
 repeat (go_quiet (fail); try go_wp2)
 go_ret
 exact ⟨by first | rfl | (simp; done) | (simp [*]; done), by repeat (first | exact Drawn0.refl _ | apply Drawn0.step)⟩
 )
 )
 ·(
 rw [if_neg c7] at H
 exact absurd H (by simp)
 )
 )
 ·(
 rw [if_neg c6] at H
 exact absurd H (by simp)
 )
 )
 ·(
 rw [if_neg c5] at H
 exact absurd H (by simp)
 )
 )
 ·(
 rw [if_neg c4] at H
 have d0 : decide (a6 < (l0.length : Int)) = false := decide_eq_false c4
 clear c4
 obtain rfl := Option.some.inj H
 go_wp2
 repeat (go_quiet (fail); try go_wp2)
 go_ret
 exact ⟨by first | rfl | (simp; done) | (simp [*]; done), by repeat (first | exact Drawn0.refl _ | apply Drawn0.step)⟩
 )
 )
 )
 )
 ·(
 rw [if_neg c3] at H
 obtain ⟨b5, b6⟩ := nE c3
 have b7 : (l0.length == l1.length) = false := by first | simpa using c3 | (simp at c3 ⊢; omega)
 obtain rfl := Option.some.inj H
 go_enter Try.func53, Try.ntmps53
 go_wp2
 repeat (go_quiet (fail); try go_wp2)
 go_ret
 exact ⟨by first | rfl | (simp; done) | (simp [*]; done), by repeat (first | exact Drawn0.refl _ | apply Drawn0.step)⟩
 )

/-! ### laws_jRows: function 21 -/
def laws_jRows.l0 : Nat → List (List Int) → List (List Int) → Int → Int → Option (Bool)
  | 0, _, _, _, _ => none
  | k + 1, x0, x1, x12, x13 => if x13 < x12 then (if 0 ≤ x13 then (if x13 < (x0.length : Int) then (if x13 < (x1.length : Int) then ((laws_jSame.f k (rd_L4 x0 x13) (rd_L4 x1 x13)).bind fun t291 => (if t291 = true then (laws_jRows.l0 k x0 x1 x12 (wrap64 (x13 + 1))) else (some false))) else (none)) else (none)) else (none)) else (some true)
def laws_jRows.f (k : Nat) (l0 : List (List Int)) (l1 : List (List Int)) : Option (Bool) := if (l0.length : Int) = (l1.length : Int) then (laws_jRows.l0 k l0 l1 (l0.length : Int) 0) else (some false)
theorem laws_jRows.mono_l : ∀ k, (∀ y0 y1 y2 y3, LeO (laws_jRows.l0 k y0 y1 y2 y3) (laws_jRows.l0 (k + 1) y0 y1 y2 y3))
  | 0 => fun _ _ _ _ r h => by simp [laws_jRows.l0] at h
  | k + 1 => by
    have ih0 := laws_jRows.mono_l k
    · intro y0 y1 y2 y3
      unfold laws_jRows.l0
      repeat' first
      | (with_reducible exact ih0 _ _ _ _)
      | (with_reducible exact laws_jSame.mono _ _ _)
      | (with_reducible exact LeO.refl _)
      | (with_reducible exact LeO.none _)
      | (with_reducible refine LeO.ite ?_ ?_)
      | (with_reducible refine LeO.bind ?_ (fun _ => ?_))
      | exact ih0 _ _ _ _
      | exact laws_jSame.mono _ _ _
      | exact LeO.none _
      | refine LeO.ite ?_ ?_
      | refine LeO.bind ?_ (fun _ => ?_)
theorem laws_jRows.mono : ∀ a0 a1 k, LeO (laws_jRows.f k a0 a1) (laws_jRows.f (k + 1) a0 a1) := by
  intro a0 a1 k
  have ih0 := laws_jRows.mono_l k
  unfold laws_jRows.f
  repeat' first
      | (with_reducible exact ih0 _ _ _ _)
      | (with_reducible exact laws_jSame.mono _ _ _)
      | (with_reducible exact LeO.refl _)
      | (with_reducible exact LeO.none _)
      | (with_reducible refine LeO.ite ?_ ?_)
      | (with_reducible refine LeO.bind ?_ (fun _ => ?_))
      | exact ih0 _ _ _ _
      | exact laws_jSame.mono _ _ _
      | exact LeO.none _
      | refine LeO.ite ?_ ?_
      | refine LeO.bind ?_ (fun _ => ?_)
set_option maxHeartbeats 8000000 in
set_option maxRecDepth 100000 in
theorem laws_jRows.calls (k : Nat) (A0 : Option Addr) (c0 : Nat) (l0 : List (List Int)) (A1 : Option Addr) (c1 : Nat) (l1 : List (List Int)) (r : Bool) (w : World) (hr0 : Kd.C (Kd.slice 3 (Kd.int .i64)) w A0 l0.length l0) (hc0 : l0.length ≤ c0) (hr1 : Kd.C (Kd.slice 3 (Kd.int .i64)) w A1 l1.length l1) (hc1 : l1.length ≤ c1) (h : laws_jRows.f k l0 l1 = some r) :
    Calls Try.prog 21 #[.slice A0 l0.length c0, .slice A1 l1.length c1] w fun e w' => e = .returned (.bool r) ∧ Drawn0 w w' := by
 have e0 := Aside0.mk hr0
 have e8 := Aside0.mk hc0
 clear hr0 hc0
 have e1 := Aside0.mk hr1
 have e9 := Aside0.mk hc1
 clear hr1 hc1
 have H := h
 unfold laws_jRows.f at H
 clear h
 by_cases c3 : (l0.length : Int) = (l1.length : Int)
 ·(
 rw [if_pos c3] at H
 obtain ⟨d1, d2⟩ := yE c3
 have d3 : (l0.length == l1.length) = true := by first | simpa using c3 | (simp at c3 ⊢; omega)
 clear c3
 have H' := Aside0.mk H
 clear H
 go_enter Try.func21, Try.ntmps21
 go_wp2
 repeat (go_quiet (fail); try go_wp2)
 go_loopg [13] k (fun kq e4 w' => ∃ (a6 : Int), e4 = .int .i64 a6 ∧ Aside0 (laws_jRows.l0 kq l0 l1 (l0.length : Int) a6 = some r) ∧ Aside0 (kq ≤ k) ∧ Drawn0 w w')
 case atStart => exact ⟨(0), sR, H', ⟨Nat.le_refl _⟩, by repeat (first | exact Drawn0.refl _ | apply Drawn0.step)⟩
 case round => (
 clear H'
 try clear d1
 try clear d2
 try clear d3
 obtain ⟨a6, rfl, HA, HK1, ⟨m1, rfl⟩⟩ := hrel
 cases gk with
 | zero => exact absurd HA.out (by simp [laws_jRows.l0])
 | succ k1 => (
 have H := HA.out
 clear HA
 simp only [laws_jRows.l0] at H
 by_cases c4 : a6 < (l0.length : Int)
 ·(
 rw [if_pos c4] at H
 have e2 : decide (a6 < (l0.length : Int)) = true := decide_eq_true c4
 clear c4
 by_cases c5 : 0 ≤ a6
 ·(
 rw [if_pos c5] at H
 have e5 : decide (0 ≤ a6) = true := decide_eq_true c5
 clear c5
 by_cases c6 : a6 < (l0.length : Int)
 ·(
 rw [if_pos c6] at H
 have e6 : decide (a6 < (l0.length : Int)) = true := decide_eq_true c6
 clear c6
 by_cases c7 : a6 < (l1.length : Int)
 ·(
 rw [if_pos c7] at H
 have e7 : decide (a6 < (l1.length : Int)) = true := decide_eq_true c7
 clear c7
 obtain ⟨e3, A8, H⟩ := bD H
 try dsimp only at H
 by_cases c9 : e3 = true
 ·(
 subst c9
 rw [if_pos rfl] at H
 have H' := Aside0.mk H
 clear H
 have b5 : 0 ≤ (a6 : Int) := of_decide_eq_true asm
 have b6 : a6 < (l0.length : Int) := of_decide_eq_true asm
 obtain ⟨d8, d4, d5, b9, c8, b1, b2⟩ := at_L4 e0.out a6 b5 b6
 cases b9
 have a7 := Aside0.mk b2
 have a8 := Aside0.mk b1
 clear b2 b1
 replace b5 := eq_true b5
 replace b6 := eq_true b6
 have b7 : 0 ≤ (a6 : Int) := of_decide_eq_true asm
 have b8 : a6 < (l1.length : Int) := of_decide_eq_true asm
 obtain ⟨d9, d6, d7, c2, d0, b3, b4⟩ := at_L4 e1.out a6 b7 b8
 cases c2
 have a9 := Aside0.mk b4
 have b0 := Aside0.mk b3
 clear b4 b3
 replace b7 := eq_true b7
 replace b8 := eq_true b8
 go_wp2_with (first | (go_at_call 53; (with_reducible refine (laws_jSame.calls k1 _ _ (rd_L4 l0 a6) _ _ (rd_L4 l1 a6) true _ ?side1 ?side2 ?side3 ?side4 A8.out).mono ?_); (case side1 => repeat (first | exact a7.out | (with_reducible refine Kd.C_alloc ?_ _) | (with_reducible refine Kd.C_drewN ?_ _) | (with_reducible refine Kd.C_drew ?_))); (case side2 => exact a8.out); (case side3 => repeat (first | exact a9.out | (with_reducible refine Kd.C_alloc ?_ _) | (with_reducible refine Kd.C_drewN ?_ _) | (with_reducible refine Kd.C_drew ?_))); (case side4 => exact b0.out); rintro e w' ⟨rfl, ⟨nd, rfl⟩⟩; (try first | exact ⟨rfl, _, World.drewN_drewN _ _ _⟩ | exact ⟨rfl, _, Eq.trans (World.drewN_drewN _ _ _) (congrArg (World.drewN _) (Nat.add_assoc _ _ _))⟩)))
 repeat (go_quiet (first | (go_at_call 53; (with_reducible refine (laws_jSame.calls k1 _ _ (rd_L4 l0 a6) _ _ (rd_L4 l1 a6) true _ ?side1 ?side2 ?side3 ?side4 A8.out).mono ?_); (case side1 => repeat (first | exact a7.out | (with_reducible refine Kd.C_alloc ?_ _) | (with_reducible refine Kd.C_drewN ?_ _) | (with_reducible refine Kd.C_drew ?_))); (case side2 => exact a8.out); (case side3 => repeat (first | exact a9.out | (with_reducible refine Kd.C_alloc ?_ _) | (with_reducible refine Kd.C_drewN ?_ _) | (with_reducible refine Kd.C_drew ?_))); (case side4 => exact b0.out); rintro e w' ⟨rfl, ⟨nd, rfl⟩⟩; (try first | exact ⟨rfl, _, World.drewN_drewN _ _ _⟩ | exact ⟨rfl, _, Eq.trans (World.drewN_drewN _ _ _) (congrArg (World.drewN _) (Nat.add_assoc _ _ _))⟩))); try go_wp2_with (first | (go_at_call 53; (with_reducible refine (laws_jSame.calls k1 _ _ (rd_L4 l0 a6) _ _ (rd_L4 l1 a6) true _ ?side1 ?side2 ?side3 ?side4 A8.out).mono ?_); (case side1 => repeat (first | exact a7.out | (with_reducible refine Kd.C_alloc ?_ _) | (with_reducible refine Kd.C_drewN ?_ _) | (with_reducible refine Kd.C_drew ?_))); (case side2 => exact a8.out); (case side3 => repeat (first | exact a9.out | (with_reducible refine Kd.C_alloc ?_ _) | (with_reducible refine Kd.C_drewN ?_ _) | (with_reducible refine Kd.C_drew ?_))); (case side4 => exact b0.out); rintro e w' ⟨rfl, ⟨nd, rfl⟩⟩; (try first | exact ⟨rfl, _, World.drewN_drewN _ _ _⟩ | exact ⟨rfl, _, Eq.trans (World.drewN_drewN _ _ _) (congrArg (World.drewN _) (Nat.add_assoc _ _ _))⟩))))
 go_roundg k1
 case measure => have := HK1.out; omega
 case rel => exact ⟨(wrap64 (a6 + 1)), sR, H', ⟨by have := HK1.out; omega⟩, by repeat (first | exact Drawn0.refl _ | apply Drawn0.step)⟩
 )
 ·(
 replace c9 := Bool.eq_false_iff.mpr c9
 subst c9
 rw [if_neg nft] at H
 obtain rfl := Option.some.inj H
 have b5 : 0 ≤ (a6 : Int) := of_decide_eq_true asm
 have b6 : a6 < (l0.length : Int) := of_decide_eq_true asm
 obtain ⟨d8, d4, d5, b9, c8, b1, b2⟩ := at_L4 e0.out a6 b5 b6
 cases b9
 have a7 := Aside0.mk b2
 have a8 := Aside0.mk b1
 clear b2 b1
 replace b5 := eq_true b5
 replace b6 := eq_true b6
 have b7 : 0 ≤ (a6 : Int) := of_decide_eq_true asm
 have b8 : a6 < (l1.length : Int) := of_decide_eq_true asm
 obtain ⟨d9, d6, d7, c2, d0, b3, b4⟩ := at_L4 e1.out a6 b7 b8
 cases c2
 have a9 := Aside0.mk b4
 have b0 := Aside0.mk b3
 clear b4 b3
 replace b7 := eq_true b7
 replace b8 := eq_true b8
 go_wp2_with (first | (go_at_call 53; (with_reducible refine (laws_jSame.calls k1 _ _ (rd_L4 l0 a6) _ _ (rd_L4 l1 a6) false _ ?side1 ?side2 ?side3 ?side4 A8.out).mono ?_); (case side1 => repeat (first | exact a7.out | (with_reducible refine Kd.C_alloc ?_ _) | (with_reducible refine Kd.C_drewN ?_ _) | (with_reducible refine Kd.C_drew ?_))); (case side2 => exact a8.out); (case side3 => repeat (first | exact a9.out | (with_reducible refine Kd.C_alloc ?_ _) | (with_reducible refine Kd.C_drewN ?_ _) | (with_reducible refine Kd.C_drew ?_))); (case side4 => exact b0.out); rintro e w' ⟨rfl, ⟨nd, rfl⟩⟩; (try first | exact ⟨rfl, _, World.drewN_drewN _ _ _⟩ | exact ⟨rfl, _, Eq.trans (World.drewN_drewN _ _ _) (congrArg (World.drewN _) (Nat.add_assoc _ _ _))⟩)))
 repeat (go_quiet (first | (go_at_call 53; (with_reducible refine (laws_jSame.calls k1 _ _ (rd_L4 l0 a6) _ _ (rd_L4 l1 a6) false _ ?side1 ?side2 ?side3 ?side4 A8.out).mono ?_); (case side1 => repeat (first | exact a7.out | (with_reducible refine Kd.C_alloc ?_ _) | (with_reducible refine Kd.C_drewN ?_ _) | (with_reducible refine Kd.C_drew ?_))); (case side2 => exact a8.out); (case side3 => repeat (first | exact a9.out | (with_reducible refine Kd.C_alloc ?_ _) | (with_reducible refine Kd.C_drewN ?_ _) | (with_reducible refine Kd.C_drew ?_))); (case side4 => exact b0.out); rintro e w' ⟨rfl, ⟨nd, rfl⟩⟩; (try first | exact ⟨rfl, _, World.drewN_drewN _ _ _⟩ | exact ⟨rfl, _, Eq.trans (World.drewN_drewN _ _ _) (congrArg (World.drewN _) (Nat.add_assoc _ _ _))⟩))); try go_wp2_with (first | (go_at_call 53; (with_reducible refine (laws_jSame.calls k1 _ _ (rd_L4 l0 a6) _ _ (rd_L4 l1 a6) false _ ?side1 ?side2 ?side3 ?side4 A8.out).mono ?_); (case side1 => repeat (first | exact a7.out | (with_reducible refine Kd.C_alloc ?_ _) | (with_reducible refine Kd.C_drewN ?_ _) | (with_reducible refine Kd.C_drew ?_))); (case side2 => exact a8.out); (case side3 => repeat (first | exact a9.out | (with_reducible refine Kd.C_alloc ?_ _) | (with_reducible refine Kd.C_drewN ?_ _) | (with_reducible refine Kd.C_drew ?_))); (case side4 => exact b0.out); rintro e w' ⟨rfl, ⟨nd, rfl⟩⟩; (try first | exact ⟨rfl, _, World.drewN_drewN _ _ _⟩ | exact ⟨rfl, _, Eq.trans (World.drewN_drewN _ _ _) (congrArg (World.drewN _) (Nat.add_assoc _ _ _))⟩))))
 go_ret
 exact ⟨by first | rfl | (simp; done) | (simp [*]; done), by repeat (first | exact Drawn0.refl _ | apply Drawn0.step)⟩
 )
 )
 ·(
 rw [if_neg c7] at H
 exact absurd H (by simp)
 )
 )
 ·(
 rw [if_neg c6] at H
 exact absurd H (by simp)
 )
 )
 ·(
 rw [if_neg c5] at H
 exact absurd H (by simp)
 )
 )
 ·(
 rw [if_neg c4] at H
 have e2 : decide (a6 < (l0.length : Int)) = false := decide_eq_false c4
 clear c4
 obtain rfl := Option.some.inj H
 go_wp2
 repeat (go_quiet (fail); try go_wp2)
 go_ret
 exact ⟨by first | rfl | (simp; done) | (simp [*]; done), by repeat (first | exact Drawn0.refl _ | apply Drawn0.step)⟩
 )
 )
 )
 )
 ·(
 rw [if_neg c3] at H
 obtain ⟨d1, d2⟩ := nE c3
 have d3 : (l0.length == l1.length) = false := by first | simpa using c3 | (simp at c3 ⊢; omega)
 obtain rfl := Option.some.inj H
 go_enter Try.func21, Try.ntmps21
 go_wp2
 repeat (go_quiet (fail); try go_wp2)
 go_ret
 exact ⟨by first | rfl | (simp; done) | (simp [*]; done), by repeat (first | exact Drawn0.refl _ | apply Drawn0.step)⟩
 )

/-! ### spec_IsBeam: function 23 -/
def spec_IsBeam.f (a0_0 : Int) (a0_1 : Int) (a1_0 : Int) (a1_1 : Int) (a1_2 : Bool) (a1_3 : Bool) : Option (Bool) := (spec_beGood.f a0_0 a0_1 a1_0 a1_1 a1_2 a1_3).bind fun t294 => (some t294)
set_option maxHeartbeats 8000000 in
set_option maxRecDepth 100000 in
theorem spec_IsBeam.calls (a0_0 : Int) (a0_1 : Int) (a1_0 : Int) (a1_1 : Int) (a1_2 : Bool) (a1_3 : Bool) (r : Bool) (w : World) (h : spec_IsBeam.f a0_0 a0_1 a1_0 a1_1 a1_2 a1_3 = some r) :
    Calls Try.prog 23 #[.agg #[.int .i64 a0_0, .int .i64 a0_1], .agg #[.int .i64 a1_0, .int .i64 a1_1, .bool a1_2, .bool a1_3]] w fun e w' => e = .returned (.bool r) ∧ Below w.heap.size w w' := by
 have d0 := Try.underlying28
 have d1 := Try.underlying30
 have HB := Aside0.mk (Below.refl w.heap.size w)
 have H := h
 unfold spec_IsBeam.f at H
 clear h
 obtain ⟨b0, A3, H⟩ := bD H
 try dsimp only at H
 obtain rfl := Option.some.inj H
 go_enter Try.func23, Try.ntmps23
 go_wp2_with (first | ((with_reducible refine gate_dst (N := 2) rfl ?_); refine box_ (cs := #[.int .i64 a0_0, .int .i64 a0_1]) (t := 28) fun c4 hg w4 hbox hb => ?_; have a6 := Aside0.mk (hbox); have c5 := bS HB hg; have c6 := bS HB hg; replace HB := Aside0.mk (below_step bB hb); clear hb hbox hg) | ((with_reducible refine gate_dst (N := 3) rfl ?_); refine box_ (cs := #[.int .i64 a1_0, .int .i64 a1_1, .bool a1_2, .bool a1_3]) (t := 30) fun c7 hg w5 hbox hb => ?_; have a7 := Aside0.mk (hbox); have c8 := bS HB hg; have c9 := bS HB hg; have a8 := bL a6 hg; have a9 := bM a6 hg; replace a6 := bQ a6 hb; replace HB := Aside0.mk (below_step bB hb); clear hb hbox hg; have d2 := a8.out; have d3 := a9.out; obtain ⟨b1, b2, b3, b4⟩ := cf2 a6; obtain ⟨b5, b6, b7, b8, b9, c0, c2, c3⟩ := cf4 a7) | ((with_reducible refine gate_callee (f := 38) rfl ?_); refine goesL_ (some 7) rfl rfl Try.func38 kr rfl #[.agg #[.int .i64 a0_0, .int .i64 a0_1], .agg #[.int .i64 a1_0, .int .i64 a1_1, .bool a1_2, .bool a1_3]] rfl sM ?_; (with_reducible refine (spec_beGood.calls a0_0 a0_1 a1_0 a1_1 a1_2 a1_3 b0 _ A3.out).mono ?_); rintro e w9 ⟨rfl, hb⟩; refine ⟨_, rfl, ?_⟩; replace a6 := bQ a6 hb; replace a7 := bQ a7 hb; replace HB := Aside0.mk (below_step bB hb); (try clear hb)))
 go_ret
 exact ⟨sE, bI⟩

/-! ### impl_BouncesWithin: function 24 -/
/-- What the closure has kept: the sides so far. -/
structure bwI (wb : World) (cb : Nat) (v : Nat → ByteArray) (k : Nat) (wr : World) : Prop where
  old : FwOld (fun i => i = cb) wb wr
  cell : wr.heap[cb]? = some (.cells #[.string (v k)] 9 (0, 0))
def bwTxt (W H : Int) (b : S30) : Nat → ByteArray
  | 0 => ⟨#[]⟩
  | k + 1 => fwSides W H b k
theorem bwTxt_step (W H : Int) (b : S30) : ∀ k, bwTxt W H b k ++ (fwSt W H b k).2 = bwTxt W H b (k + 1)
  | 0 => rfl
  | _ + 1 => rfl
theorem bwTxt_small (W H : Int) (b : S30) : ∀ k, (bwTxt W H b (k + 1)).size ≤ k := fun k => fwSides_small W H b k
def impl_BouncesWithin.f (a0_0 : Int) (a0_1 : Int) (a1_0 : Int) (a1_1 : Int) (a1_2 : Bool) (a1_3 : Bool) (a2 : Int) : Option (ByteArray × Bool) :=
  (impl_IsBeam.f a0_0 a0_1 a1_0 a1_1 a1_2 a1_3).bind fun t1 => if t1 = true then (impl_within.f a2 0 1000).bind fun t2 => if t2 = true then some (fwSides a0_0 a0_1 ⟨a1_0, a1_1, a1_2, a1_3⟩ (fwN a0_0 a0_1 ⟨a1_0, a1_1, a1_2, a1_3⟩ a2 fun _ => false), true) else some (⟨#[]⟩, false) else some (⟨#[]⟩, false)
set_option maxHeartbeats 4000000 in
theorem impl_BouncesWithin.one (cb : Nat) (k x y : Int) (r u : Bool) (txt sd : ByteArray) (w : World) (hsz : txt.size + sd.size ≤ 9223372036854775807) (hlt : cb < w.heap.size) (hc : w.heap[cb]? = some (.cells #[.string txt] 9 (0, 0))) :
    Calls Try.prog 55 #[.int .i64 k, .agg #[.int .i64 x, .int .i64 y, .bool r, .bool u], .string sd, .pointer (some ⟨cb, 0, none⟩)] w fun e w' => e = .returned (.bool false) ∧ w'.heap[cb]? = some (.cells #[.string (txt ++ sd)] 9 (0, 0)) ∧ FwMv cb w w' := by
  have c1 := (fw_cells hc 0).1
  have f1 := (fw_cells hc 0).2
  simp at c1
  have HC := Aside0.mk hc
  clear hc
  go_enter Try.func55, Try.ntmps55
  go_wp2
  all_goals go_ret
  have hs : (w.setCell ⟨cb, 0, none⟩ (.string (txt ++ sd))).heap[cb]? = some (.cells #[.string (txt ++ sd)] 9 (0, 0)) := heap_setCell_same w cb 0 _ 9 (.string (txt ++ sd)) HC.out
  have hm : FwMv cb w (w.setCell ⟨cb, 0, none⟩ (.string (txt ++ sd))) := fw_set (w := w) (g := cb) (i := 0) (.string (txt ++ sd))
  have hb := below_alloc (Below.refl _ (w.setCell ⟨cb, 0, none⟩ (.string (txt ++ sd)))) (.cells #[.int .i64 x, .int .i64 y, .bool r, .bool u] 30 (0, 0))
  exact ⟨rfl, (hb.block cb (Nat.lt_of_lt_of_le hlt hm.size)).trans hs, hm.trans (FwMv.of_below hb)⟩
/-- The way with the closure that keeps the sides. -/
theorem impl_BouncesWithin.way (W H x y : Int) (r u : Bool) (steps : Int) (h0 : 0 ≤ steps) (h1 : steps ≤ 1000) (cb : Nat) (wb : World) (hlt : cb < wb.heap.size) (hc : wb.heap[cb]? = some (.cells #[.string ⟨#[]⟩] 9 (0, 0))) :
    Calls Try.prog 46 #[.agg #[.int .i64 W, .int .i64 H], .agg #[.int .i64 x, .int .i64 y, .bool r, .bool u], .int .i64 steps, .func (.func 55) #[] #[.pointer (some ⟨cb, 0, none⟩)]] wb fun e w' =>
      e = .returned (.tuple #[]) ∧ FwOld (fun i => i = cb) wb w' ∧ w'.heap[cb]? = some (.cells #[.string (fwSides W H ⟨x, y, r, u⟩ (fwN W H ⟨x, y, r, u⟩ steps fun _ => false))] 9 (0, 0)) := by
  obtain ⟨n1, n2, n3⟩ := fwN_is W H ⟨x, y, r, u⟩ steps (fun _ => false) h0
  refine (impl_follow.calls W H x y r u steps 55 #[.pointer (some ⟨cb, 0, none⟩)] (fw_enters Try.func55 kr rfl) (bwI wb cb (bwTxt W H ⟨x, y, r, u⟩)) (fun _ => false) (fwN W H ⟨x, y, r, u⟩ steps fun _ => false) wb (by omega) n3 n2 ⟨FwOld.refl _ _, hc⟩ ?_ ?_).mono ?_
  · intro k W1 W2 hI hm
    exact ⟨hI.old.mv hm (.inl (by omega)), (hm.block cb (Nat.lt_of_lt_of_le hlt hI.old.size) (by omega)).trans hI.cell⟩
  · intro k Wd hk hz hI
    have hs : (bwTxt W H ⟨x, y, r, u⟩ k).size + (fwSt W H ⟨x, y, r, u⟩ k).2.size ≤ 9223372036854775807 := by
      have h2 := congrArg ByteArray.size (bwTxt_step W H ⟨x, y, r, u⟩ k)
      rw [ByteArray.size_append] at h2
      have h3 := bwTxt_small W H ⟨x, y, r, u⟩ k
      omega
    refine (impl_BouncesWithin.one cb (k : Int) _ _ _ _ _ _ Wd hs (Nat.lt_of_lt_of_le hlt hI.old.size) hI.cell).mono ?_
    rintro e w2 ⟨rfl, hc2, hm2⟩
    exact ⟨rfl, ⟨hI.old.mv hm2 (.inr rfl), by rw [← bwTxt_step]; exact hc2⟩, ⟨hm2.size, hm2.block _ (by omega) (by omega), hm2.block _ hz (by omega)⟩⟩
  · rintro e w2 ⟨rfl, hI⟩
    exact ⟨rfl, hI.old, hI.cell⟩
theorem bw_within {x a b : Int} (h : impl_within.f x a b = some true) : a ≤ x ∧ x ≤ b := by
  unfold impl_within.f at h
  by_cases c : x ≥ a
  · rw [if_pos c] at h
    exact ⟨c, of_decide_eq_true (Option.some.inj h)⟩
  · rw [if_neg c] at h
    cases h
set_option maxHeartbeats 8000000 in
set_option maxRecDepth 100000 in
theorem impl_BouncesWithin.calls (a0_0 : Int) (a0_1 : Int) (a1_0 : Int) (a1_1 : Int) (a1_2 : Bool) (a1_3 : Bool) (a2 : Int) (r1 : ByteArray) (r2 : Bool) (w : World) (h : impl_BouncesWithin.f a0_0 a0_1 a1_0 a1_1 a1_2 a1_3 a2 = some (r1, r2)) :
    Calls Try.prog 24 #[.agg #[.int .i64 a0_0, .int .i64 a0_1], .agg #[.int .i64 a1_0, .int .i64 a1_1, .bool a1_2, .bool a1_3], .int .i64 a2] w fun e w' => e = .returned (.tuple #[.string r1, .bool r2]) ∧ Below w.heap.size w w' := by
 unfold impl_BouncesWithin.f at h
 obtain ⟨t1, b2, h⟩ := Option.bind_eq_some_iff.mp h
 have b3 := Aside0.mk b2
 clear b2
 obtain ⟨p1, p2, ps⟩ := fw_two w (.cells #[.int .i64 a0_0, .int .i64 a0_1] 28 (0, 0)) (.cells #[.int .i64 a1_0, .int .i64 a1_1, .bool a1_2, .bool a1_3] 30 (0, 0))
 have b1 := Aside0.mk (below_alloc (below_alloc (Below.refl _ w) (.cells #[.int .i64 a0_0, .int .i64 a0_1] 28 (0, 0))) (.cells #[.int .i64 a1_0, .int .i64 a1_1, .bool a1_2, .bool a1_3] 30 (0, 0)))
 have P := Aside0.mk (And.intro p1 (And.intro p2 ps))
 clear p1 p2 ps
 cases t1 with
 | false =>
  rw [if_neg (by decide)] at h
  obtain ⟨rfl, rfl⟩ := Prod.mk.inj (Option.some.inj h)
  clear h
  go_enter Try.func24, Try.ntmps24
  go_wp2_with fail
  with_reducible refine (impl_IsBeam.calls _ _ _ _ _ _ false _ b3.out).mono ?_
  rintro e w1 ⟨rfl, a6⟩
  have a9 := Aside0.mk (below_step b1.out a6)
  clear a6
  go_wp2_with fail
  go_ret2
  exact ⟨rfl, a9.out⟩
 | true =>
  rw [if_pos rfl] at h
  obtain ⟨t2, b4, h⟩ := Option.bind_eq_some_iff.mp h
  have b5 := Aside0.mk b4
  clear b4
  have H := Aside0.mk h
  clear h
  go_enter Try.func24, Try.ntmps24
  go_wp2_with fail
  with_reducible refine (impl_IsBeam.calls _ _ _ _ _ _ true _ b3.out).mono ?_
  rintro e w1 ⟨rfl, a6⟩
  have a9 := Aside0.mk (below_step b1.out a6)
  have q1 := (a6.block w.heap.size (by rw [P.out.2.2]; omega)).trans P.out.1
  have q2 := (a6.block (w.heap.size + 1) (by rw [P.out.2.2]; omega)).trans P.out.2.1
  have z1 := Aside0.mk (show w.heap.size + 1 < w1.heap.size from Nat.lt_of_lt_of_le (by rw [P.out.2.2]; omega) a6.size)
  have Q1 := Aside0.mk (And.intro q1 q2)
  clear a6 q1 q2 P b1
  go_wp2_with fail
  with_reducible refine (impl_within.calls a2 0 1000 t2 _ b5.out).mono ?_
  rintro e w2 ⟨rfl, ⟨nd, hw⟩⟩
  have a7 : Below w1.heap.size w1 w2 := by rw [hw]; exact pw_below_drewN (Below.refl _ _) nd
  clear hw nd
  have b0 := Aside0.mk (below_step a9.out a7)
  have z2 := Aside0.mk (Nat.lt_of_lt_of_le z1.out a7.size)
  have q1 := (a7.block w.heap.size (by have := z1.out; omega)).trans Q1.out.1
  have q2 := (a7.block (w.heap.size + 1) z1.out).trans Q1.out.2
  clear a7 a9 z1 Q1
  cases t2 with
  | false =>
   have h := H.out
   rw [if_neg (by decide)] at h
   obtain ⟨rfl, rfl⟩ := Prod.mk.inj (Option.some.inj h)
   clear h H
   go_wp2_with fail
   go_ret2
   exact ⟨rfl, b0.out⟩
  | true =>
   have h := H.out
   rw [if_pos rfl] at h
   obtain ⟨rfl, rfl⟩ := Prod.mk.inj (Option.some.inj h)
   clear h H
   have hst := bw_within b5.out
   have b6 := z2.out
   have hal : Below w2.heap.size w2 (w2.alloc (.cells #[.string ⟨#[]⟩] 9 (0, 0))) := below_alloc (Below.refl _ w2) _
   have a1 := (hal.block _ (by omega)).trans q1
   have a8 := (hal.block _ (by omega)).trans q2
   have a4 : (w2.alloc (.cells #[.string ⟨#[]⟩] 9 (0, 0))).heap[w2.heap.size]? = some (.cells #[.string ⟨#[]⟩] 9 (0, 0)) := by
    show (w2.heap.push _)[w2.heap.size]? = _
    rw [Array.getElem?_push, if_pos rfl]
   have a5 : w2.heap.size < (w2.alloc (.cells #[.string ⟨#[]⟩] 9 (0, 0))).heap.size := by
    show _ < (w2.heap.push _).size
    simp
   have b7 := (fw_cells a1 0).1
   have b8 := (fw_cells a1 1).1
   have b9 := (fw_cells a8 0).1
   have c0 := (fw_cells a8 1).1
   have c2 := (fw_cells a8 2).1
   have c4 := (fw_cells a8 3).1
   simp at b7 b8 b9 c0 c2 c4
   have HWAY := Aside0.mk (impl_BouncesWithin.way a0_0 a0_1 a1_0 a1_1 a1_2 a1_3 a2 hst.1 hst.2 w2.heap.size _ a5 a4)
   have Q3 := Aside0.mk hal
   clear q1 q2 a1 a8 a4 a5 hal hst b6
   go_wp2_with fail
   refine HWAY.out.mono ?_
   rintro e w3 ⟨rfl, ho, hc⟩
   have c3 := (fw_cells hc 0).1
   have f3 := (fw_cells hc 0).2
   simp at c3
   have c5 := Aside0.mk (FwOld.below (S := fun i => i = w2.heap.size) (below_step b0.out Q3.out) ho (fun i hi => by have := b0.out.size; have := z2.out; omega))
   clear hc ho HWAY Q3 b0 z2
   go_wp2_with fail
   go_ret2
   exact ⟨rfl, c5.out⟩

/-! ### laws_jSize: function 25 -/
def laws_jSize.f (a0 : Int) : Option (Int) := if a0 < 0 then (some (wrap64 (-a0))) else (some a0)
set_option maxHeartbeats 8000000 in
set_option maxRecDepth 100000 in
theorem laws_jSize.calls (a0 : Int) (r : Int) (w : World) (h : laws_jSize.f a0 = some r) :
    Calls Try.prog 25 #[.int .i64 a0] w fun e w' => e = .returned (.int .i64 r) ∧ Drawn0 w w' := by
 have H := h
 unfold laws_jSize.f at H
 clear h
 by_cases c2 : a0 < 0
 rw [if_pos c2] at H
 have a6 : decide (a0 < 0) = true := decide_eq_true c2
 clear c2
 obtain rfl := Option.some.inj H
 rotate_left
 rw [if_neg c2] at H
 have a6 : decide (a0 < 0) = false := decide_eq_false c2
 clear c2
 obtain rfl := Option.some.inj H
 rotate_left
 all_goals (go_enter Try.func25, Try.ntmps25)
 all_goals go_wp2
 all_goals go_ret
 all_goals (exact ⟨by first | rfl | (simp; done) | (simp [*]; done), by repeat (first | exact Drawn0.refl _ | apply Drawn0.step)⟩)

/-! ### impl_isSteps: function 56 -/
def impl_isSteps.f (a0 : Int) : Option (Bool) := (impl_within.f a0 0 100000).bind fun t295 => (some t295)
set_option maxHeartbeats 8000000 in
set_option maxRecDepth 100000 in
theorem impl_isSteps.calls (a0 : Int) (r : Bool) (w : World) (h : impl_isSteps.f a0 = some r) :
    Calls Try.prog 56 #[.int .i64 a0] w fun e w' => e = .returned (.bool r) ∧ Drawn0 w w' := by
 have H := h
 unfold impl_isSteps.f at H
 clear h
 obtain ⟨a6, A2, H⟩ := bD H
 try dsimp only at H
 obtain rfl := Option.some.inj H
 go_enter Try.func56, Try.ntmps56
 go_wp2_with (first | ((with_reducible refine gate_callee (f := 45) rfl ?_); refine goesL_ (some 4) rfl rfl Try.func45 kr rfl #[.int .i64 a0, .int .i64 0, .int .i64 100000] rfl sM ?_; (with_reducible refine (impl_within.calls a0 0 100000 a6 _ A2.out).mono ?_); rintro e w' ⟨rfl, ⟨nd, rfl⟩⟩; refine ⟨_, rfl, ?_⟩))
 go_ret
 exact ⟨by first | rfl | (simp; done) | (simp [*]; done), by repeat (first | exact Drawn0.refl _ | apply Drawn0.step)⟩

end Go.Proofs.Ythfbjofmcniogaa.PFnBeamsGo
