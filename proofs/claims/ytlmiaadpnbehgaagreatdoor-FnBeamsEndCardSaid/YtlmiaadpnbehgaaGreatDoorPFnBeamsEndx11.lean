-- Written by xprint.py, a program of this session, for this seat; Lean checks it.
import Derived.Test.YtlmiaadpnbehgaaGreatDoorVM
import Derived.Test.YtlmiaadpnbehgaaGreatDoorPFnBeamsEndx0
import Derived.Test.YtlmiaadpnbehgaaGreatDoorPFnBeamsEndx9
import Derived.Test.YtlmiaadpnbehgaaGreatDoorPFnBeamsEndx10
namespace Go.Proofs.YtlmiaadpnbehgaaGreatDoor.PFnBeamsEnd
open Go.Proofs.YtlmiaadpnbehgaaGreatDoorV Go.RowKit Go.Proofs.YtlmiaadpnbehgaaGreatDoorW.PrintWords Go.Proofs.YtlmiaadpnbehgaaGreatDoorW.PrintLast Go.Proofs.YtlmiaadpnbehgaaGreatDoorW.PrintMore
attribute [local go_sem] max2_int min2_int max_two min_two max_three min_three max_four min_four   -- for this text's walks alone
set_option linter.unusedVariables false
set_option linter.unusedSimpArgs false

/-! ### spec_beStep: function 82 -/
def spec_beStep.f (k : Nat) (a0_0 : Int) (a0_1 : Int) (a1_0 : Int) (a1_1 : Int) (a1_2 : Bool) (a1_3 : Bool) : Option (Int × Int × Bool × Bool × ByteArray) := (spec_beMove.f a1_0 a1_1 a1_2 a1_3).bind fun bt279 => ((spec_beCorner.f a0_0 a0_1 bt279.1 bt279.2.1 bt279.2.2.1 bt279.2.2.2).bind fun t283 => (if t283 = true then (some (bt279.1, bt279.2.1, bt279.2.2.1, bt279.2.2.2, (⟨#[]⟩ : ByteArray))) else (if bt279.1 = a0_0 then ((spec_beTurn.f k a0_0 a0_1 bt279.1 bt279.2.1 bt279.2.2.1 bt279.2.2.2).bind fun bt284 => (some (bt284.1, bt284.2.1, bt284.2.2.1, bt284.2.2.2, (⟨#[114]⟩ : ByteArray)))) else (if bt279.1 = 0 then ((spec_beTurn.f k a0_0 a0_1 bt279.1 bt279.2.1 bt279.2.2.1 bt279.2.2.2).bind fun bt288 => (some (bt288.1, bt288.2.1, bt288.2.2.1, bt288.2.2.2, (⟨#[108]⟩ : ByteArray)))) else (if bt279.2.1 = a0_1 then ((spec_beTurn.f k a0_0 a0_1 bt279.1 bt279.2.1 bt279.2.2.1 bt279.2.2.2).bind fun bt292 => (some (bt292.1, bt292.2.1, bt292.2.2.1, bt292.2.2.2, (⟨#[117]⟩ : ByteArray)))) else (if bt279.2.1 = 0 then ((spec_beTurn.f k a0_0 a0_1 bt279.1 bt279.2.1 bt279.2.2.1 bt279.2.2.2).bind fun bt296 => (some (bt296.1, bt296.2.1, bt296.2.2.1, bt296.2.2.2, (⟨#[100]⟩ : ByteArray)))) else ((spec_beTurn.f k a0_0 a0_1 bt279.1 bt279.2.1 bt279.2.2.1 bt279.2.2.2).bind fun bt300 => (some (bt300.1, bt300.2.1, bt300.2.2.1, bt300.2.2.2, (⟨#[]⟩ : ByteArray))))))))))
theorem spec_beStep.mono : ∀ a0 a1 a2 a3 a4 a5 k, LeO (spec_beStep.f k a0 a1 a2 a3 a4 a5) (spec_beStep.f (k + 1) a0 a1 a2 a3 a4 a5) := by
  intro a0 a1 a2 a3 a4 a5 k
  unfold spec_beStep.f
  repeat' first
      | (with_reducible exact spec_beTurn.mono _ _ _ _ _ _ _)
      | (with_reducible exact LeO.refl _)
      | (with_reducible exact LeO.none _)
      | (with_reducible refine LeO.ite ?_ ?_)
      | (with_reducible refine LeO.bind ?_ (fun _ => ?_))
      | exact spec_beTurn.mono _ _ _ _ _ _ _
      | exact LeO.none _
      | refine LeO.ite ?_ ?_
      | refine LeO.bind ?_ (fun _ => ?_)
set_option maxHeartbeats 8000000 in
set_option maxRecDepth 100000 in
theorem spec_beStep.calls (k : Nat) (a0_0 : Int) (a0_1 : Int) (a1_0 : Int) (a1_1 : Int) (a1_2 : Bool) (a1_3 : Bool) (r1 : Int) (r2 : Int) (r3 : Bool) (r4 : Bool) (r5 : ByteArray) (w : World) (h : spec_beStep.f k a0_0 a0_1 a1_0 a1_1 a1_2 a1_3 = some (r1, r2, r3, r4, r5)) :
    Calls Tryz.prog 82 #[.agg #[.int .i64 a0_0, .int .i64 a0_1], .agg #[.int .i64 a1_0, .int .i64 a1_1, .bool a1_2, .bool a1_3]] w fun e w' => e = .returned (.tuple #[.agg #[.int .i64 r1, .int .i64 r2, .bool r3, .bool r4], .string r5]) ∧ Below w.heap.size w w' := by
 have m2 := Tryz.underlying25
 have m3 := Tryz.underlying27
 have HB := Aside0.mk (Below.refl w.heap.size w)
 have H := h
 unfold spec_beStep.f at H
 clear h
 obtain ⟨⟨a9, b0, b1, b2⟩, A3, H⟩ := bD H
 try dsimp only at H
 obtain ⟨i4, A4, H⟩ := bD H
 try dsimp only at H
 by_cases c5 : i4 = true
 subst c5
 rw [if_pos rfl] at H
 simp only [Option.some.injEq, Prod.mk.injEq] at H
 obtain ⟨rfl, rfl, rfl, rfl, rfl⟩ := H
 rotate_left
 replace c5 := Bool.eq_false_iff.mpr c5
 subst c5
 rw [if_neg nft] at H
 by_cases c2 : a9 = a0_0
 rw [if_pos c2] at H
 obtain ⟨h6, h7⟩ := yE c2
 clear c2
 obtain ⟨⟨e6, e7, e8, e9⟩, l0, H⟩ := bD H
 try dsimp only at H
 simp only [Option.some.injEq, Prod.mk.injEq] at H
 obtain ⟨rfl, rfl, rfl, rfl, rfl⟩ := H
 rotate_left
 rw [if_neg c2] at H
 obtain ⟨h6, h7⟩ := nE c2
 by_cases c3 : a9 = 0
 rw [if_pos c3] at H
 obtain ⟨h8, h9⟩ := yE c3
 clear c3
 obtain ⟨⟨g0, g1, g2, g3⟩, l1, H⟩ := bD H
 try dsimp only at H
 simp only [Option.some.injEq, Prod.mk.injEq] at H
 obtain ⟨rfl, rfl, rfl, rfl, rfl⟩ := H
 rotate_left
 rw [if_neg c3] at H
 obtain ⟨h8, h9⟩ := nE c3
 by_cases c4 : b0 = a0_1
 rw [if_pos c4] at H
 obtain ⟨i0, i1⟩ := yE c4
 clear c4
 obtain ⟨⟨g4, g5, g6, g7⟩, l2, H⟩ := bD H
 try dsimp only at H
 simp only [Option.some.injEq, Prod.mk.injEq] at H
 obtain ⟨rfl, rfl, rfl, rfl, rfl⟩ := H
 rotate_left
 rw [if_neg c4] at H
 obtain ⟨i0, i1⟩ := nE c4
 by_cases c6 : b0 = 0
 rw [if_pos c6] at H
 obtain ⟨i2, i3⟩ := yE c6
 clear c6
 obtain ⟨⟨g8, g9, h0, h1⟩, l3, H⟩ := bD H
 try dsimp only at H
 simp only [Option.some.injEq, Prod.mk.injEq] at H
 obtain ⟨rfl, rfl, rfl, rfl, rfl⟩ := H
 rotate_left
 rw [if_neg c6] at H
 obtain ⟨i2, i3⟩ := nE c6
 obtain ⟨⟨h2, h3, h4, h5⟩, l4, H⟩ := bD H
 try dsimp only at H
 simp only [Option.some.injEq, Prod.mk.injEq] at H
 obtain ⟨rfl, rfl, rfl, rfl, rfl⟩ := H
 rotate_left
 all_goals (go_enter Tryz.func82, Tryz.ntmps82)
 all_goals (go_wp2_with (first | ((with_reducible refine gate_dst (N := 2) rfl ?_); refine box_ (cs := #[.int .i64 a0_0, .int .i64 a0_1]) (t := 25) fun m4 hg n2 hbox hb => ?_; have a7 := Aside0.mk (hbox); have m5 := bS HB hg; have m6 := bS HB hg; replace HB := Aside0.mk (below_step bB hb); clear hb hbox hg) | ((with_reducible refine gate_dst (N := 3) rfl ?_); refine box_ (cs := #[.int .i64 a1_0, .int .i64 a1_1, .bool a1_2, .bool a1_3]) (t := 27) fun m7 hg n3 hbox hb => ?_; have a8 := Aside0.mk (hbox); have m8 := bS HB hg; have m9 := bS HB hg; have c7 := bL a7 hg; have c8 := bM a7 hg; replace a7 := bQ a7 hb; replace HB := Aside0.mk (below_step bB hb); clear hb hbox hg) | ((with_reducible refine gate_dst (N := 4) rfl ?_); refine box_ (cs := #[.int .i64 0, .int .i64 0, .bool false, .bool false]) (t := 27) fun c1 hg n4 hbox hb => ?_; have a6 := Aside0.mk (hbox); have n0 := bS HB hg; have n1 := bS HB hg; have c9 := bL a7 hg; have d0 := bM a7 hg; have d1 := bL a8 hg; have d2 := bM a8 hg; replace a7 := bQ a7 hb; replace a8 := bQ a8 hb; replace HB := Aside0.mk (below_step bB hb); clear hb hbox hg; have l6 := c8.out; have l7 := c7.out; have l8 := d1.out; have l9 := d2.out; obtain ⟨i5, i6, i7, i9, j0, j1, j2, j3⟩ := cf4 a8) | ((with_reducible refine gate_callee (f := 88) rfl ?_); refine goesL_ (some 8) rfl rfl Tryz.func88 kr rfl #[.agg #[.int .i64 a1_0, .int .i64 a1_1, .bool a1_2, .bool a1_3]] rfl sM ?_; (with_reducible refine (spec_beMove.calls a1_0 a1_1 a1_2 a1_3 a9 b0 b1 b2 _ A3.out).mono ?_); rintro e n5 ⟨rfl, hb⟩; refine ⟨_, rfl, ?_⟩; replace a7 := bQ a7 hb; replace a8 := bQ a8 hb; replace a6 := bQ a6 hb; replace HB := Aside0.mk (below_step bB hb); (try clear hb); obtain ⟨j4, j5, j6, j7, j8, j9, k0, k1⟩ := cf4 a8; have m0 := c9.out; have m1 := d0.out; obtain ⟨k2, k3, k4, k5⟩ := cf2 a7) | ((with_reducible refine gate_callee (f := 67) rfl ?_); refine goesL_ (some 11) rfl rfl Tryz.func67 kr rfl #[.agg #[.int .i64 a0_0, .int .i64 a0_1], .agg #[.int .i64 a9, .int .i64 b0, .bool b1, .bool b2]] rfl sM ?_; (with_reducible refine (spec_beCorner.calls a0_0 a0_1 a9 b0 b1 b2 true _ A4.out).mono ?_); rintro e l5 ⟨rfl, hb⟩; refine ⟨_, rfl, ?_⟩; replace a7 := bQ a7 hb; replace a8 := (bP (.cells #[.int .i64 a9, .int .i64 b0, .bool b1, .bool b2] 27 (0, 0)) a8 hb); replace a6 := bQ a6 hb; replace HB := Aside0.mk (below_step bB hb); (try clear hb); obtain ⟨d4, d5, d6, d7, d8, d9, e0, e1⟩ := cf4 a8; obtain ⟨e2, e3, k6, k7, e4, e5, k8, k9⟩ := cf4 a6) | ((with_reducible refine gate_callee (f := 67) rfl ?_); refine goesL_ (some 11) rfl rfl Tryz.func67 kr rfl #[.agg #[.int .i64 a0_0, .int .i64 a0_1], .agg #[.int .i64 a9, .int .i64 b0, .bool b1, .bool b2]] rfl sM ?_; (with_reducible refine (spec_beCorner.calls a0_0 a0_1 a9 b0 b1 b2 false _ A4.out).mono ?_); rintro e l5 ⟨rfl, hb⟩; refine ⟨_, rfl, ?_⟩; replace a7 := bQ a7 hb; replace a8 := (bP (.cells #[.int .i64 a9, .int .i64 b0, .bool b1, .bool b2] 27 (0, 0)) a8 hb); replace a6 := bQ a6 hb; replace HB := Aside0.mk (below_step bB hb); (try clear hb); obtain ⟨d4, d5, d6, d7, d8, d9, e0, e1⟩ := cf4 a8; obtain ⟨e2, e3, e4, e5⟩ := cf2 a7) | ((with_reducible refine gate_callee (f := 81) rfl ?_); refine goesL_ (some 35) rfl rfl Tryz.func81 kr rfl #[.agg #[.int .i64 a0_0, .int .i64 a0_1], .agg #[.int .i64 a9, .int .i64 b0, .bool b1, .bool b2]] rfl sM ?_; (with_reducible refine (spec_beTurn.calls k a0_0 a0_1 a9 b0 b1 b2 e6 e7 e8 e9 _ l0.out).mono ?_); rintro e d3 ⟨rfl, hb⟩; refine ⟨_, rfl, ?_⟩; replace a7 := bQ a7 hb; replace a8 := bQ a8 hb; replace a6 := bQ a6 hb; replace HB := Aside0.mk (below_step bB hb); (try clear hb); obtain ⟨b3, b4, b5, b6, b7, b8, b9, c0⟩ := cf4 a6) | ((with_reducible refine gate_callee (f := 81) rfl ?_); refine goesL_ (some 35) rfl rfl Tryz.func81 kr rfl #[.agg #[.int .i64 a0_0, .int .i64 a0_1], .agg #[.int .i64 a9, .int .i64 b0, .bool b1, .bool b2]] rfl sM ?_; (with_reducible refine (spec_beTurn.calls k a0_0 a0_1 a9 b0 b1 b2 g0 g1 g2 g3 _ l1.out).mono ?_); rintro e d3 ⟨rfl, hb⟩; refine ⟨_, rfl, ?_⟩; replace a7 := bQ a7 hb; replace a8 := bQ a8 hb; replace a6 := bQ a6 hb; replace HB := Aside0.mk (below_step bB hb); (try clear hb); obtain ⟨b3, b4, b5, b6, b7, b8, b9, c0⟩ := cf4 a6) | ((with_reducible refine gate_callee (f := 81) rfl ?_); refine goesL_ (some 35) rfl rfl Tryz.func81 kr rfl #[.agg #[.int .i64 a0_0, .int .i64 a0_1], .agg #[.int .i64 a9, .int .i64 b0, .bool b1, .bool b2]] rfl sM ?_; (with_reducible refine (spec_beTurn.calls k a0_0 a0_1 a9 b0 b1 b2 g4 g5 g6 g7 _ l2.out).mono ?_); rintro e d3 ⟨rfl, hb⟩; refine ⟨_, rfl, ?_⟩; replace a7 := bQ a7 hb; replace a8 := bQ a8 hb; replace a6 := bQ a6 hb; replace HB := Aside0.mk (below_step bB hb); (try clear hb); obtain ⟨b3, b4, b5, b6, b7, b8, b9, c0⟩ := cf4 a6) | ((with_reducible refine gate_callee (f := 81) rfl ?_); refine goesL_ (some 35) rfl rfl Tryz.func81 kr rfl #[.agg #[.int .i64 a0_0, .int .i64 a0_1], .agg #[.int .i64 a9, .int .i64 b0, .bool b1, .bool b2]] rfl sM ?_; (with_reducible refine (spec_beTurn.calls k a0_0 a0_1 a9 b0 b1 b2 g8 g9 h0 h1 _ l3.out).mono ?_); rintro e d3 ⟨rfl, hb⟩; refine ⟨_, rfl, ?_⟩; replace a7 := bQ a7 hb; replace a8 := bQ a8 hb; replace a6 := bQ a6 hb; replace HB := Aside0.mk (below_step bB hb); (try clear hb); obtain ⟨b3, b4, b5, b6, b7, b8, b9, c0⟩ := cf4 a6) | ((with_reducible refine gate_callee (f := 81) rfl ?_); refine goesL_ (some 35) rfl rfl Tryz.func81 kr rfl #[.agg #[.int .i64 a0_0, .int .i64 a0_1], .agg #[.int .i64 a9, .int .i64 b0, .bool b1, .bool b2]] rfl sM ?_; (with_reducible refine (spec_beTurn.calls k a0_0 a0_1 a9 b0 b1 b2 h2 h3 h4 h5 _ l4.out).mono ?_); rintro e d3 ⟨rfl, hb⟩; refine ⟨_, rfl, ?_⟩; replace a7 := bQ a7 hb; replace a8 := bQ a8 hb; replace a6 := bQ a6 hb; replace HB := Aside0.mk (below_step bB hb); (try clear hb); obtain ⟨b3, b4, b5, b6, b7, b8, b9, c0⟩ := cf4 a6)))
 ·(
 refine bodyPost_ret (results_ct rfl _ _ c1 27 #[.int .i64 a9, .int .i64 b0, .bool b1, .bool b2] (0, 0) _ rfl (bK a6) Tryz.underlying27 rfl kr) rfl ?_
 exact ⟨sE, bI⟩
 )
 ·(
 refine bodyPost_ret (results_ct rfl _ _ c1 27 #[.int .i64 e6, .int .i64 e7, .bool e8, .bool e9] (0, 0) _ rfl (bK a6) Tryz.underlying27 rfl kr) rfl ?_
 exact ⟨sE, bI⟩
 )
 ·(
 refine bodyPost_ret (results_ct rfl _ _ c1 27 #[.int .i64 g0, .int .i64 g1, .bool g2, .bool g3] (0, 0) _ rfl (bK a6) Tryz.underlying27 rfl kr) rfl ?_
 exact ⟨sE, bI⟩
 )
 ·(
 refine bodyPost_ret (results_ct rfl _ _ c1 27 #[.int .i64 g4, .int .i64 g5, .bool g6, .bool g7] (0, 0) _ rfl (bK a6) Tryz.underlying27 rfl kr) rfl ?_
 exact ⟨sE, bI⟩
 )
 ·(
 refine bodyPost_ret (results_ct rfl _ _ c1 27 #[.int .i64 g8, .int .i64 g9, .bool h0, .bool h1] (0, 0) _ rfl (bK a6) Tryz.underlying27 rfl kr) rfl ?_
 exact ⟨sE, bI⟩
 )
 ·(
 refine bodyPost_ret (results_ct rfl _ _ c1 27 #[.int .i64 h2, .int .i64 h3, .bool h4, .bool h5] (0, 0) _ rfl (bK a6) Tryz.underlying27 rfl kr) rfl ?_
 exact ⟨sE, bI⟩
 )

end Go.Proofs.YtlmiaadpnbehgaaGreatDoor.PFnBeamsEnd
