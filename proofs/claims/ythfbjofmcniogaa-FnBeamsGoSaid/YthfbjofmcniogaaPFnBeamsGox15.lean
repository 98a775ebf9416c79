-- Written by xprint.py, a program of this session, for this seat; Lean checks it.
import Derived.Test.YthfbjofmcniogaaVN
import Derived.Test.YthfbjofmcniogaaPFnBeamsGox0
import Derived.Test.YthfbjofmcniogaaPFnBeamsGox2
import Derived.Test.YthfbjofmcniogaaPFnBeamsGox5
import Derived.Test.YthfbjofmcniogaaPFnBeamsGox6
import Derived.Test.YthfbjofmcniogaaPFnBeamsGox9
import Derived.Test.YthfbjofmcniogaaPFnBeamsGox11
import Derived.Test.YthfbjofmcniogaaPFnBeamsGox14
namespace Go.Proofs.Ythfbjofmcniogaa.PFnBeamsGo
open Go.Proofs.YthfbjofmcniogaaV Go.RowKit Go.Proofs.YthfbjofmcniogaaW.PrintWords Go.Proofs.YthfbjofmcniogaaW.PrintLast Go.Proofs.YthfbjofmcniogaaW.PrintMore
attribute [local go_sem] max2_int min2_int max_two min_two max_three min_three max_four min_four   -- for this text's walks alone
set_option linter.unusedVariables false
set_option linter.unusedSimpArgs false

/-! ### spec_BeamAfter: function 31 -/
def spec_BeamAfter.f (k : Nat) (a0_0 : Int) (a0_1 : Int) (a1_0 : Int) (a1_1 : Int) (a1_2 : Bool) (a1_3 : Bool) (a2 : Int) : Option (Int × Int × Bool × Bool × Bool) := (spec_beAsked.f a0_0 a0_1 a1_0 a1_1 a1_2 a1_3 a2 100000).bind fun t333 => (if t333 = true then ((spec_beLong.f a0_0 a0_1).bind fun t334 => ((spec_l1Least.f a2 t334).bind fun t335 => ((spec_beRun.f k a0_0 a0_1 a1_0 a1_1 a1_2 a1_3 t335).bind fun bt336 => (if a2 < (bt336.1.length : Int) then (if 0 ≤ a2 then (some ((rd_T30 bt336.1 a2).f0, (rd_T30 bt336.1 a2).f1, (rd_T30 bt336.1 a2).f2, (rd_T30 bt336.1 a2).f3, true)) else (none)) else (if 0 ≤ (wrap64 ((bt336.1.length : Int) - 1)) then (if (wrap64 ((bt336.1.length : Int) - 1)) < (bt336.1.length : Int) then ((spec_beCorner.f a0_0 a0_1 ((rd_T30 bt336.1 (wrap64 ((bt336.1.length : Int) - 1))).f0) ((rd_T30 bt336.1 (wrap64 ((bt336.1.length : Int) - 1))).f1) ((rd_T30 bt336.1 (wrap64 ((bt336.1.length : Int) - 1))).f2) ((rd_T30 bt336.1 (wrap64 ((bt336.1.length : Int) - 1))).f3)).bind fun t342 => (if t342 = true then (some ((rd_T30 bt336.1 (wrap64 ((bt336.1.length : Int) - 1))).f0, (rd_T30 bt336.1 (wrap64 ((bt336.1.length : Int) - 1))).f1, (rd_T30 bt336.1 (wrap64 ((bt336.1.length : Int) - 1))).f2, (rd_T30 bt336.1 (wrap64 ((bt336.1.length : Int) - 1))).f3, true)) else ((spec_bePeriod.f k bt336.1).bind fun t344 => (if t344 = 0 then (none) else (if 0 ≤ (Int.tmod a2 t344) then (if (Int.tmod a2 t344) < (bt336.1.length : Int) then (some ((rd_T30 bt336.1 (Int.tmod a2 t344)).f0, (rd_T30 bt336.1 (Int.tmod a2 t344)).f1, (rd_T30 bt336.1 (Int.tmod a2 t344)).f2, (rd_T30 bt336.1 (Int.tmod a2 t344)).f3, true)) else (none)) else (none)))))) else (none)) else (none)))))) else (some (0, 0, false, false, false)))
theorem spec_BeamAfter.mono : ∀ a0 a1 a2 a3 a4 a5 a6 k, LeO (spec_BeamAfter.f k a0 a1 a2 a3 a4 a5 a6) (spec_BeamAfter.f (k + 1) a0 a1 a2 a3 a4 a5 a6) := by
  intro a0 a1 a2 a3 a4 a5 a6 k
  unfold spec_BeamAfter.f
  repeat' first
      | (with_reducible exact spec_bePeriod.mono _ _)
      | (with_reducible exact spec_beRun.mono _ _ _ _ _ _ _ _)
      | (with_reducible exact LeO.refl _)
      | (with_reducible exact LeO.none _)
      | (with_reducible refine LeO.ite ?_ ?_)
      | (with_reducible refine LeO.bind ?_ (fun _ => ?_))
      | exact spec_bePeriod.mono _ _
      | exact spec_beRun.mono _ _ _ _ _ _ _ _
      | exact LeO.none _
      | refine LeO.ite ?_ ?_
      | refine LeO.bind ?_ (fun _ => ?_)
def spec_BeamAfter.T3 : Bool × List (List Nat × List Nat) := (true, [([], []), ([], []), ([], []), ([], []), ([3], [3]), ([2, 4, 4], [2, 4]), ([0, 1, 5, 5], [0, 1, 5]), ([6], [6]), ([7], [7]), ([7], [7]), ([8, 6, 0, 1, 2, 3, 4, 5, 6, 7, 8], [8]), ([9, 10, 0, 1, 2, 3, 4, 5, 6, 7, 8, 9, 10], [9])])
def spec_BeamAfter.B3 : List Nat := [0, 0, 0, 0, 8, 28, 63, 127, 255, 255, 511, 2047]
theorem spec_BeamAfter.tab3 : rtab .any (opsOf Try.f31 3) = spec_BeamAfter.T3 := by kernel_rfl
theorem spec_BeamAfter.bits3 : waitsOk spec_BeamAfter.T3.2 spec_BeamAfter.B3 = true := by kernel_rfl
def spec_BeamAfter.T6 : Bool × List (List Nat × List Nat) := (true, [([], []), ([], []), ([], []), ([2], [2]), ([3], [3]), ([1, 4], [1, 4]), ([5], [5]), ([0, 6], [0, 6])])
def spec_BeamAfter.B6 : List Nat := [0, 0, 0, 4, 12, 30, 62, 127]
theorem spec_BeamAfter.tab6 : rtab .any (opsOf Try.f31 6) = spec_BeamAfter.T6 := by kernel_rfl
theorem spec_BeamAfter.bits6 : waitsOk spec_BeamAfter.T6.2 spec_BeamAfter.B6 = true := by kernel_rfl
abbrev spec_BeamAfter.pl0 : List (Nat × Option Tmp × Nat) := [q 2 19, qt 0 17, qt 1 18, qt 3 20, qo 4 21, qo 5 22, qo 6 23, q 7 16, q 8 24, q 9 25, q 10 8, q 11 9]
abbrev spec_BeamAfter.pl1 : List (Nat × Option Tmp × Nat) := [q 1 35, q 2 36, q 3 37, q 4 38, q 5 39, qt 0 34, qt 6 40, qo 7 41]
set_option maxHeartbeats 8000000 in
set_option maxRecDepth 100000 in
theorem spec_BeamAfter.calls (k : Nat) (a0_0 : Int) (a0_1 : Int) (a1_0 : Int) (a1_1 : Int) (a1_2 : Bool) (a1_3 : Bool) (a2 : Int) (r1 : Int) (r2 : Int) (r3 : Bool) (r4 : Bool) (r5 : Bool) (w : World) (h : spec_BeamAfter.f k a0_0 a0_1 a1_0 a1_1 a1_2 a1_3 a2 = some (r1, r2, r3, r4, r5)) :
    Calls Try.prog 31 #[.agg #[.int .i64 a0_0, .int .i64 a0_1], .agg #[.int .i64 a1_0, .int .i64 a1_1, .bool a1_2, .bool a1_3], .int .i64 a2] w fun e w' => e = .returned (.tuple #[.agg #[.int .i64 r1, .int .i64 r2, .bool r3, .bool r4], .bool r5]) ∧ Below w.heap.size w w' := by
 have y2 := Try.underlying28
 have y3 := Try.underlying30
 have HB := Aside0.mk (Below.refl w.heap.size w)
 have H := h
 unfold spec_BeamAfter.f at H
 clear h
 obtain ⟨h6, A4, H⟩ := bD H
 try dsimp only at H
 by_cases c5 : h6 = true
 ·(
 subst c5
 rw [if_pos rfl] at H
 obtain ⟨d2, A6, H⟩ := bD H
 try dsimp only at H
 obtain ⟨d3, A7, H⟩ := bD H
 try dsimp only at H
 obtain ⟨⟨b0, e4⟩, A8, H⟩ := bD H
 try dsimp only at H
 by_cases c9 : a2 < (b0.length : Int)
 ·(
 rw [if_pos c9] at H
 have h7 : decide (a2 < (b0.length : Int)) = true := decide_eq_true c9
 clear c9
 by_cases g3 : 0 ≤ a2
 ·(
 rw [if_pos g3] at H
 have s9 : decide (0 ≤ a2) = true := decide_eq_true g3
 clear g3
 simp only [Option.some.injEq, Prod.mk.injEq] at H
 obtain ⟨rfl, rfl, rfl, rfl, rfl⟩ := H
 go_enter Try.func31, Try.ntmps31
 try go_wp2_with (first | ((with_reducible refine gate_dst (N := 3) rfl ?_); refine box_ (cs := #[.int .i64 a0_0, .int .i64 a0_1]) (t := 28) fun b5 hg y9 hbox hb => ?_; have a7 := Aside0.mk (hbox); have d8 := bS HB hg; have d9 := bS HB hg; replace HB := Aside0.mk (below_step bB hb); clear hb hbox hg) | ((with_reducible refine gate_dst (N := 4) rfl ?_); refine box_ (cs := #[.int .i64 a1_0, .int .i64 a1_1, .bool a1_2, .bool a1_3]) (t := 30) fun b3 hg z0 hbox hb => ?_; have a8 := Aside0.mk (hbox); have e0 := bS HB hg; have e1 := bS HB hg; have b6 := bL a7 hg; have b7 := bM a7 hg; replace a7 := bQ a7 hb; replace HB := Aside0.mk (below_step bB hb); clear hb hbox hg) | ((with_reducible refine gate_dst (N := 6) rfl ?_); refine box_ (cs := #[.int .i64 0, .int .i64 0, .bool false, .bool false]) (t := 30) fun c2 hg z1 hbox hb => ?_; have a9 := Aside0.mk (hbox); have e2 := bS HB hg; have e3 := bS HB hg; have b8 := bL a7 hg; have b9 := bM a7 hg; have c0 := bL a8 hg; have c1 := bM a8 hg; replace a7 := bQ a7 hb; replace a8 := bQ a8 hb; replace HB := Aside0.mk (below_step bB hb); clear hb hbox hg; have u0 := b6.out; have u1 := b7.out; have u2 := b8.out; have u3 := b9.out; obtain ⟨i5, i6, i7, i9⟩ := cf2 a7; have u4 := c0.out; have u5 := c1.out; obtain ⟨j0, j1, j2, j3, j4, j5, j6, j7⟩ := cf4 a8) | ((with_reducible refine gate_callee (f := 48) rfl ?_); refine goesL_ (some 13) rfl rfl Try.func48 kr rfl #[.agg #[.int .i64 a0_0, .int .i64 a0_1], .agg #[.int .i64 a1_0, .int .i64 a1_1, .bool a1_2, .bool a1_3], .int .i64 a2, .int .i64 100000] rfl sM ?_; (with_reducible refine (spec_beAsked.calls a0_0 a0_1 a1_0 a1_1 a1_2 a1_3 a2 100000 true _ A4.out).mono ?_); rintro e s3 ⟨rfl, hb⟩; refine ⟨_, rfl, ?_⟩; replace a7 := bQ a7 hb; replace a8 := bQ a8 hb; replace a9 := bQ a9 hb; replace HB := Aside0.mk (below_step bB hb); (try clear hb)))
 replace a7 := bD1 a7
 replace a8 := bD1 a8
 replace a9 := bD1 a9
 replace HB := Aside0.mk (below_drew1 HB.out)
 refine st_ 12 spec_BeamAfter.pl0 (S := fun w' => w'.cell? ⟨b5, 0, none⟩ = some (.int .i64 a0_0) ∧ w'.cell? ⟨b5, 1, none⟩ = some (.int .i64 a0_1) ∧ w'.cell? ⟨b3, 0, none⟩ = some (.int .i64 a1_0) ∧ w'.cell? ⟨b3, 1, none⟩ = some (.int .i64 a1_1) ∧ w'.cell? ⟨b3, 2, none⟩ = some (.bool a1_2) ∧ w'.cell? ⟨b3, 3, none⟩ = some (.bool a1_3)) (ds := []) spec_BeamAfter.tab3 spec_BeamAfter.bits3 cS (fun hHeld HT_ HW_ => ?_)
 generalize s3.drew = z2 at a7 a8 a9 HB hHeld ⊢
 iterate 4 (first | refine pA HT_ ?_ | refine pT HT_ HW_ hHeld ?_)
 refine pO HT_ fun K hK => ?_
 refine goes_ Try.func40 kr rfl #[.agg #[.int .i64 a0_0, .int .i64 a0_1]] (by rfl) rfl rfl sM ?_
 with_reducible refine (spec_beLong.calls a0_0 a0_1 d2 _ A6.out).mono ?_
 rintro e z3 ⟨rfl, hb⟩
 refine ⟨_, rfl, ?_⟩
 replace a7 := bQ a7 hb
 replace a8 := bQ a8 hb
 replace a9 := bQ a9 hb
 replace HB := Aside0.mk (below_step bB hb)
 try clear hb
 refine hK.out _ _ cS (fun hHeld => ?_)
 clear hK K
 refine nP ?_
 refine pO HT_ fun K hK => ?_
 refine goes_ Try.func62 kr rfl #[.int .i64 a2, .int .i64 d2] (by rfl) rfl rfl sM ?_
 with_reducible refine (spec_l1Least.calls a2 d2 d3 _ A7.out).mono ?_
 rintro e w' ⟨rfl, ⟨nd, rfl⟩⟩
 refine ⟨_, rfl, ?_⟩
 refine hK.out _ _ cS (fun hHeld => ?_)
 clear hK K
 refine nP ?_
 refine pO HT_ fun K hK => ?_
 refine goes_ Try.func39 kr rfl #[.agg #[.int .i64 a0_0, .int .i64 a0_1], .agg #[.int .i64 a1_0, .int .i64 a1_1, .bool a1_2, .bool a1_3], .int .i64 d3] (by rfl) rfl rfl sM ?_
 with_reducible refine (spec_beRun.calls k a0_0 a0_1 a1_0 a1_1 a1_2 a1_3 d3 b0 e4 _ A8.out).mono ?_
 rintro e z4 ⟨g9, rfl, d6, hb⟩
 refine ⟨_, rfl, ?_⟩
 have b2 := Aside0.mk (Kd.R_lower (Kd.R_newB (Kd.R_newB d6 (g := b3) (o := .cells #[.int .i64 a1_0, .int .i64 a1_1, .bool a1_2, .bool a1_3] 30 (0, 0)) (bK a8)) (g := c2) (o := .cells #[.int .i64 0, .int .i64 0, .bool false, .bool false] 30 (0, 0)) (bK a9)) (below_size bB))
 replace a7 := bQ a7 hb
 replace a8 := bQ a8 hb
 replace a9 := bQ a9 hb
 replace HB := Aside0.mk (below_step bB hb)
 try clear hb
 (try clear d6)
 refine hK.out _ _ cS (fun hHeld => ?_)
 clear hK K
 refine nP ?_
 iterate 5 refine pA HT_ ?_
 refine pD HT_ ?_
 obtain ⟨y4, y5, h8⟩ := Kd.R_slice b2.out
 subst h8
 have e5 : 0 ≤ (a2 : Int) := of_decide_eq_true asm
 have e6 : a2 < (b0.length : Int) := of_decide_eq_true asm
 obtain ⟨u6, h9, j8, j9, k0, k1⟩ := at_T30 (Kd.R_reads' b2.out).2.2 a2 e5 e6
 cases h9
 replace e5 := eq_true e5
 replace e6 := eq_true e6
 obtain ⟨k2, k3, k4, k5, k6, k7, k8, k9⟩ := cf4 a9
 try go_wp2
 refine bodyPost_ret (results_ct rfl _ _ c2 30 #[.int .i64 ((rd_T30 b0 a2).f0), .int .i64 ((rd_T30 b0 a2).f1), .bool ((rd_T30 b0 a2).f2), .bool ((rd_T30 b0 a2).f3)] (0, 0) _ rfl (bK a9) Try.underlying30 rfl kr) rfl ?_
 exact ⟨sE, bI⟩
 )
 ·(
 rw [if_neg g3] at H
 exact absurd H (by simp)
 )
 )
 ·(
 rw [if_neg c9] at H
 have h7 : decide (a2 < (b0.length : Int)) = false := decide_eq_false c9
 clear c9
 obtain ⟨b1, c3⟩ : ∃ j_ : Int, (wrap64 ((b0.length : Int) - 1)) = j_ := ⟨_, rfl⟩
 (first | rw [c3] at H | simp only [c3] at H)
 (try rw [c3] at A4)
 (try rw [c3] at A6)
 (try rw [c3] at A7)
 (try rw [c3] at A8)
 have s4 : (IntKind.i64.wrap ((b0.length : Int) - 1)) = b1 := (i64_w _).trans c3
 by_cases g4 : 0 ≤ (b1)
 ·(
 rw [if_pos g4] at H
 have u7 : decide (0 ≤ (b1)) = true := decide_eq_true g4
 clear g4
 by_cases g5 : (b1) < (b0.length : Int)
 ·(
 rw [if_pos g5] at H
 have u9 : decide ((b1) < (b0.length : Int)) = true := decide_eq_true g5
 clear g5
 obtain ⟨i0, h0, H⟩ := bD H
 try dsimp only at H
 by_cases g6 : i0 = true
 ·(
 subst g6
 rw [if_pos rfl] at H
 simp only [Option.some.injEq, Prod.mk.injEq] at H
 obtain ⟨rfl, rfl, rfl, rfl, rfl⟩ := H
 go_enter Try.func31, Try.ntmps31
 try go_wp2_with (first | ((with_reducible refine gate_dst (N := 3) rfl ?_); refine box_ (cs := #[.int .i64 a0_0, .int .i64 a0_1]) (t := 28) fun b5 hg z5 hbox hb => ?_; have a7 := Aside0.mk (hbox); have d8 := bS HB hg; have d9 := bS HB hg; replace HB := Aside0.mk (below_step bB hb); clear hb hbox hg) | ((with_reducible refine gate_dst (N := 4) rfl ?_); refine box_ (cs := #[.int .i64 a1_0, .int .i64 a1_1, .bool a1_2, .bool a1_3]) (t := 30) fun b3 hg z6 hbox hb => ?_; have a8 := Aside0.mk (hbox); have e0 := bS HB hg; have e1 := bS HB hg; have b6 := bL a7 hg; have b7 := bM a7 hg; replace a7 := bQ a7 hb; replace HB := Aside0.mk (below_step bB hb); clear hb hbox hg) | ((with_reducible refine gate_dst (N := 6) rfl ?_); refine box_ (cs := #[.int .i64 0, .int .i64 0, .bool false, .bool false]) (t := 30) fun c2 hg z7 hbox hb => ?_; have a9 := Aside0.mk (hbox); have e2 := bS HB hg; have e3 := bS HB hg; have b8 := bL a7 hg; have b9 := bM a7 hg; have c0 := bL a8 hg; have c1 := bM a8 hg; replace a7 := bQ a7 hb; replace a8 := bQ a8 hb; replace HB := Aside0.mk (below_step bB hb); clear hb hbox hg; have v0 := b6.out; have v1 := b7.out; have v2 := b8.out; have v3 := b9.out; obtain ⟨l0, l1, l2, l3⟩ := cf2 a7; have v4 := c0.out; have v5 := c1.out; obtain ⟨l4, l5, l6, l7, l8, l9, m0, m1⟩ := cf4 a8) | ((with_reducible refine gate_callee (f := 48) rfl ?_); refine goesL_ (some 13) rfl rfl Try.func48 kr rfl #[.agg #[.int .i64 a0_0, .int .i64 a0_1], .agg #[.int .i64 a1_0, .int .i64 a1_1, .bool a1_2, .bool a1_3], .int .i64 a2, .int .i64 100000] rfl sM ?_; (with_reducible refine (spec_beAsked.calls a0_0 a0_1 a1_0 a1_1 a1_2 a1_3 a2 100000 true _ A4.out).mono ?_); rintro e s5 ⟨rfl, hb⟩; refine ⟨_, rfl, ?_⟩; replace a7 := bQ a7 hb; replace a8 := bQ a8 hb; replace a9 := bQ a9 hb; replace HB := Aside0.mk (below_step bB hb); (try clear hb)))
 replace a7 := bD1 a7
 replace a8 := bD1 a8
 replace a9 := bD1 a9
 replace HB := Aside0.mk (below_drew1 HB.out)
 refine st_ 12 spec_BeamAfter.pl0 (S := fun w' => w'.cell? ⟨b5, 0, none⟩ = some (.int .i64 a0_0) ∧ w'.cell? ⟨b5, 1, none⟩ = some (.int .i64 a0_1) ∧ w'.cell? ⟨b3, 0, none⟩ = some (.int .i64 a1_0) ∧ w'.cell? ⟨b3, 1, none⟩ = some (.int .i64 a1_1) ∧ w'.cell? ⟨b3, 2, none⟩ = some (.bool a1_2) ∧ w'.cell? ⟨b3, 3, none⟩ = some (.bool a1_3)) (ds := []) spec_BeamAfter.tab3 spec_BeamAfter.bits3 cS (fun hHeld HT_ HW_ => ?_)
 generalize s5.drew = z8 at a7 a8 a9 HB hHeld ⊢
 iterate 4 (first | refine pA HT_ ?_ | refine pT HT_ HW_ hHeld ?_)
 refine pO HT_ fun K hK => ?_
 refine goes_ Try.func40 kr rfl #[.agg #[.int .i64 a0_0, .int .i64 a0_1]] (by rfl) rfl rfl sM ?_
 with_reducible refine (spec_beLong.calls a0_0 a0_1 d2 _ A6.out).mono ?_
 rintro e z9 ⟨rfl, hb⟩
 refine ⟨_, rfl, ?_⟩
 replace a7 := bQ a7 hb
 replace a8 := bQ a8 hb
 replace a9 := bQ a9 hb
 replace HB := Aside0.mk (below_step bB hb)
 try clear hb
 refine hK.out _ _ cS (fun hHeld => ?_)
 clear hK K
 refine nP ?_
 refine pO HT_ fun K hK => ?_
 refine goes_ Try.func62 kr rfl #[.int .i64 a2, .int .i64 d2] (by rfl) rfl rfl sM ?_
 with_reducible refine (spec_l1Least.calls a2 d2 d3 _ A7.out).mono ?_
 rintro e w' ⟨rfl, ⟨nd, rfl⟩⟩
 refine ⟨_, rfl, ?_⟩
 refine hK.out _ _ cS (fun hHeld => ?_)
 clear hK K
 refine nP ?_
 refine pO HT_ fun K hK => ?_
 refine goes_ Try.func39 kr rfl #[.agg #[.int .i64 a0_0, .int .i64 a0_1], .agg #[.int .i64 a1_0, .int .i64 a1_1, .bool a1_2, .bool a1_3], .int .i64 d3] (by rfl) rfl rfl sM ?_
 with_reducible refine (spec_beRun.calls k a0_0 a0_1 a1_0 a1_1 a1_2 a1_3 d3 b0 e4 _ A8.out).mono ?_
 rintro e s6 ⟨g9, rfl, d6, hb⟩
 refine ⟨_, rfl, ?_⟩
 have b2 := Aside0.mk (Kd.R_lower (Kd.R_newB (Kd.R_newB d6 (g := b3) (o := .cells #[.int .i64 a1_0, .int .i64 a1_1, .bool a1_2, .bool a1_3] 30 (0, 0)) (bK a8)) (g := c2) (o := .cells #[.int .i64 0, .int .i64 0, .bool false, .bool false] 30 (0, 0)) (bK a9)) (below_size bB))
 replace a7 := bQ a7 hb
 replace a8 := bQ a8 hb
 replace a9 := bQ a9 hb
 replace HB := Aside0.mk (below_step bB hb)
 try clear hb
 (try clear d6)
 refine hK.out _ _ cS (fun hHeld => ?_)
 clear hK K
 refine nP ?_
 iterate 5 refine pA HT_ ?_
 refine pD HT_ ?_
 obtain ⟨y6, y7, i1⟩ := Kd.R_slice b2.out
 subst i1
 try go_wp2
 replace b2 := Aside0.mk (Kd.R_drew b2.out)
 replace a7 := bD1 a7
 replace a8 := bD1 a8
 replace a9 := bD1 a9
 replace HB := Aside0.mk (below_drew1 HB.out)
 have d4 : 0 ≤ ((b1) : Int) := of_decide_eq_true asm
 have d5 : (b1) < (b0.length : Int) := of_decide_eq_true asm
 obtain ⟨b4, e7, c7, c8, d0, d1⟩ := at_T30 (Kd.R_reads' b2.out).2.2 (b1) d4 d5
 cases e7
 replace d4 := eq_true d4
 replace d5 := eq_true d5
 refine st_ 8 spec_BeamAfter.pl1 (S := fun w' => w'.cell? ⟨b5, 0, none⟩ = some (.int .i64 a0_0) ∧ w'.cell? ⟨b5, 1, none⟩ = some (.int .i64 a0_1) ∧ w'.cell? (b4.add (((b1)).toNat * 4)) = some (.int .i64 ((rd_T30 b0 (b1)).f0)) ∧ w'.cell? ⟨(b4.add (((b1)).toNat * 4)).block, (b4.add (((b1)).toNat * 4)).off + 1, none⟩ = some (.int .i64 ((rd_T30 b0 (b1)).f1)) ∧ w'.cell? ⟨(b4.add (((b1)).toNat * 4)).block, (b4.add (((b1)).toNat * 4)).off + 2, none⟩ = some (.bool ((rd_T30 b0 (b1)).f2)) ∧ w'.cell? ⟨(b4.add (((b1)).toNat * 4)).block, (b4.add (((b1)).toNat * 4)).off + 3, none⟩ = some (.bool ((rd_T30 b0 (b1)).f3))) (ds := []) spec_BeamAfter.tab6 spec_BeamAfter.bits6 ⟨cb a7 0, cb a7 1, c7, c8, d0, d1⟩ (fun hHeld HT_ HW_ => ?_)
 generalize s6.drew = A0 at b2 a7 a8 a9 HB c7 c8 d0 d1 hHeld ⊢
 iterate 7 (first | refine pA HT_ ?_ | refine pT HT_ HW_ hHeld ?_)
 refine pO HT_ fun K hK => ?_
 refine goes_ Try.func63 kr rfl #[.agg #[.int .i64 a0_0, .int .i64 a0_1], .agg #[.int .i64 ((rd_T30 b0 (b1)).f0), .int .i64 ((rd_T30 b0 (b1)).f1), .bool ((rd_T30 b0 (b1)).f2), .bool ((rd_T30 b0 (b1)).f3)]] (by rfl) rfl rfl (by (try simp only [List.map_toArray, List.map_cons, List.map_nil]); first | done | (simp only [c3]; rfl) | rfl | (simp only [List.length_drop, List.length_take]; rfl)) ?_
 with_reducible refine (spec_beCorner.calls a0_0 a0_1 ((rd_T30 b0 (b1)).f0) ((rd_T30 b0 (b1)).f1) ((rd_T30 b0 (b1)).f2) ((rd_T30 b0 (b1)).f3) true _ h0.out).mono ?_
 rintro e A1 ⟨rfl, hb⟩
 have HS2_ := (hb.cell (World.block_lt_of_cell? _ _ (hHeld.2.2.1))).trans (hHeld.2.2.1)
 have HS3_ := (hb.cell (World.block_lt_of_cell? _ _ (hHeld.2.2.2.1))).trans (hHeld.2.2.2.1)
 have HS4_ := (hb.cell (World.block_lt_of_cell? _ _ (hHeld.2.2.2.2.1))).trans (hHeld.2.2.2.2.1)
 have HS5_ := (hb.cell (World.block_lt_of_cell? _ _ (hHeld.2.2.2.2.2))).trans (hHeld.2.2.2.2.2)
 refine ⟨_, rfl, ?_⟩
 replace b2 := Aside0.mk (Kd.R_below (oR b2) hb)
 replace a7 := bQ a7 hb
 replace a8 := bQ a8 hb
 replace a9 := bQ a9 hb
 replace HB := Aside0.mk (below_step bB hb)
 try clear hb
 refine hK.out _ _ ⟨cb a7 0, cb a7 1, HS2_, HS3_, HS4_, HS5_⟩ (fun hHeld => ?_)
 clear hK K
 refine nP ?_
 refine pD HT_ ?_
 have e8 : 0 ≤ ((b1) : Int) := of_decide_eq_true asm
 have e9 : (b1) < (b0.length : Int) := of_decide_eq_true asm
 obtain ⟨h3, i2, m2, m3, m4, m5⟩ := at_T30 (Kd.R_reads' b2.out).2.2 (b1) e8 e9
 obtain rfl : b4 = h3 := (by injection i2)
 replace e8 := eq_true e8
 replace e9 := eq_true e9
 obtain ⟨m6, m7, m8, m9, n0, n1, n2, n3⟩ := cf4 a9
 try go_wp2
 refine bodyPost_ret (results_ct rfl _ _ c2 30 #[.int .i64 ((rd_T30 b0 (b1)).f0), .int .i64 ((rd_T30 b0 (b1)).f1), .bool ((rd_T30 b0 (b1)).f2), .bool ((rd_T30 b0 (b1)).f3)] (0, 0) _ rfl (bK a9) Try.underlying30 rfl kr) rfl ?_
 exact ⟨by first | rfl | (simp [errW_none, errW_some] <;> rfl) | (simp only [← c3]; first | rfl | (simp [errW_none, errW_some] <;> rfl)) | (simp [*, errW_none, errW_some] <;> rfl), bI⟩
 )
 ·(
 replace g6 := Bool.eq_false_iff.mpr g6
 subst g6
 rw [if_neg nft] at H
 obtain ⟨g0, h5, H⟩ := bD H
 try dsimp only at H
 by_cases h1 : g0 = 0
 ·(
 rw [if_pos h1] at H
 exact absurd H (by simp)
 )
 ·(
 rw [if_neg h1] at H
 obtain ⟨v6, v7⟩ := nE h1
 obtain ⟨c6, c4⟩ : ∃ j_ : Int, (Int.tmod a2 g0) = j_ := ⟨_, rfl⟩
 (first | rw [c4] at H | simp only [c4] at H)
 (try rw [c4] at A4)
 (try rw [c4] at A6)
 (try rw [c4] at A7)
 (try rw [c4] at A8)
 (try rw [c4] at h0)
 (try rw [c4] at h5)
 by_cases g7 : 0 ≤ (c6)
 ·(
 rw [if_pos g7] at H
 have v8 : decide (0 ≤ (c6)) = true := decide_eq_true g7
 clear g7
 by_cases g8 : (c6) < (b0.length : Int)
 ·(
 rw [if_pos g8] at H
 have v9 : decide ((c6) < (b0.length : Int)) = true := decide_eq_true g8
 clear g8
 simp only [Option.some.injEq, Prod.mk.injEq] at H
 obtain ⟨rfl, rfl, rfl, rfl, rfl⟩ := H
 go_enter Try.func31, Try.ntmps31
 try go_wp2_with (first | ((with_reducible refine gate_dst (N := 3) rfl ?_); refine box_ (cs := #[.int .i64 a0_0, .int .i64 a0_1]) (t := 28) fun b5 hg A2 hbox hb => ?_; have a7 := Aside0.mk (hbox); have d8 := bS HB hg; have d9 := bS HB hg; replace HB := Aside0.mk (below_step bB hb); clear hb hbox hg) | ((with_reducible refine gate_dst (N := 4) rfl ?_); refine box_ (cs := #[.int .i64 a1_0, .int .i64 a1_1, .bool a1_2, .bool a1_3]) (t := 30) fun b3 hg A3 hbox hb => ?_; have a8 := Aside0.mk (hbox); have e0 := bS HB hg; have e1 := bS HB hg; have b6 := bL a7 hg; have b7 := bM a7 hg; replace a7 := bQ a7 hb; replace HB := Aside0.mk (below_step bB hb); clear hb hbox hg) | ((with_reducible refine gate_dst (N := 6) rfl ?_); refine box_ (cs := #[.int .i64 0, .int .i64 0, .bool false, .bool false]) (t := 30) fun c2 hg A5 hbox hb => ?_; have a9 := Aside0.mk (hbox); have e2 := bS HB hg; have e3 := bS HB hg; have b8 := bL a7 hg; have b9 := bM a7 hg; have c0 := bL a8 hg; have c1 := bM a8 hg; replace a7 := bQ a7 hb; replace a8 := bQ a8 hb; replace HB := Aside0.mk (below_step bB hb); clear hb hbox hg; have x0 := b6.out; have x1 := b7.out; have x2 := b8.out; have x3 := b9.out; obtain ⟨n4, n5, n6, n7⟩ := cf2 a7; have x4 := c0.out; have x5 := c1.out; obtain ⟨n8, n9, o0, o1, o2, o3, o4, o5⟩ := cf4 a8) | ((with_reducible refine gate_callee (f := 48) rfl ?_); refine goesL_ (some 13) rfl rfl Try.func48 kr rfl #[.agg #[.int .i64 a0_0, .int .i64 a0_1], .agg #[.int .i64 a1_0, .int .i64 a1_1, .bool a1_2, .bool a1_3], .int .i64 a2, .int .i64 100000] rfl sM ?_; (with_reducible refine (spec_beAsked.calls a0_0 a0_1 a1_0 a1_1 a1_2 a1_3 a2 100000 true _ A4.out).mono ?_); rintro e s7 ⟨rfl, hb⟩; refine ⟨_, rfl, ?_⟩; replace a7 := bQ a7 hb; replace a8 := bQ a8 hb; replace a9 := bQ a9 hb; replace HB := Aside0.mk (below_step bB hb); (try clear hb)))
 replace a7 := bD1 a7
 replace a8 := bD1 a8
 replace a9 := bD1 a9
 replace HB := Aside0.mk (below_drew1 HB.out)
 refine st_ 12 spec_BeamAfter.pl0 (S := fun w' => w'.cell? ⟨b5, 0, none⟩ = some (.int .i64 a0_0) ∧ w'.cell? ⟨b5, 1, none⟩ = some (.int .i64 a0_1) ∧ w'.cell? ⟨b3, 0, none⟩ = some (.int .i64 a1_0) ∧ w'.cell? ⟨b3, 1, none⟩ = some (.int .i64 a1_1) ∧ w'.cell? ⟨b3, 2, none⟩ = some (.bool a1_2) ∧ w'.cell? ⟨b3, 3, none⟩ = some (.bool a1_3)) (ds := []) spec_BeamAfter.tab3 spec_BeamAfter.bits3 cS (fun hHeld HT_ HW_ => ?_)
 generalize s7.drew = A9 at a7 a8 a9 HB hHeld ⊢
 iterate 4 (first | refine pA HT_ ?_ | refine pT HT_ HW_ hHeld ?_)
 refine pO HT_ fun K hK => ?_
 refine goes_ Try.func40 kr rfl #[.agg #[.int .i64 a0_0, .int .i64 a0_1]] (by rfl) rfl rfl sM ?_
 with_reducible refine (spec_beLong.calls a0_0 a0_1 d2 _ A6.out).mono ?_
 rintro e B0 ⟨rfl, hb⟩
 refine ⟨_, rfl, ?_⟩
 replace a7 := bQ a7 hb
 replace a8 := bQ a8 hb
 replace a9 := bQ a9 hb
 replace HB := Aside0.mk (below_step bB hb)
 try clear hb
 refine hK.out _ _ cS (fun hHeld => ?_)
 clear hK K
 refine nP ?_
 refine pO HT_ fun K hK => ?_
 refine goes_ Try.func62 kr rfl #[.int .i64 a2, .int .i64 d2] (by rfl) rfl rfl sM ?_
 with_reducible refine (spec_l1Least.calls a2 d2 d3 _ A7.out).mono ?_
 rintro e w' ⟨rfl, ⟨nd, rfl⟩⟩
 refine ⟨_, rfl, ?_⟩
 refine hK.out _ _ cS (fun hHeld => ?_)
 clear hK K
 refine nP ?_
 refine pO HT_ fun K hK => ?_
 refine goes_ Try.func39 kr rfl #[.agg #[.int .i64 a0_0, .int .i64 a0_1], .agg #[.int .i64 a1_0, .int .i64 a1_1, .bool a1_2, .bool a1_3], .int .i64 d3] (by rfl) rfl rfl sM ?_
 with_reducible refine (spec_beRun.calls k a0_0 a0_1 a1_0 a1_1 a1_2 a1_3 d3 b0 e4 _ A8.out).mono ?_
 rintro e s8 ⟨g9, rfl, d6, hb⟩
 refine ⟨_, rfl, ?_⟩
 have b2 := Aside0.mk (Kd.R_lower (Kd.R_newB (Kd.R_newB d6 (g := b3) (o := .cells #[.int .i64 a1_0, .int .i64 a1_1, .bool a1_2, .bool a1_3] 30 (0, 0)) (bK a8)) (g := c2) (o := .cells #[.int .i64 0, .int .i64 0, .bool false, .bool false] 30 (0, 0)) (bK a9)) (below_size bB))
 replace a7 := bQ a7 hb
 replace a8 := bQ a8 hb
 replace a9 := bQ a9 hb
 replace HB := Aside0.mk (below_step bB hb)
 try clear hb
 (try clear d6)
 refine hK.out _ _ cS (fun hHeld => ?_)
 clear hK K
 refine nP ?_
 iterate 5 refine pA HT_ ?_
 refine pD HT_ ?_
 obtain ⟨y8, h2, i3⟩ := Kd.R_slice b2.out
 subst i3
 try go_wp2
 replace b2 := Aside0.mk (Kd.R_drew b2.out)
 replace a7 := bD1 a7
 replace a8 := bD1 a8
 replace a9 := bD1 a9
 replace HB := Aside0.mk (below_drew1 HB.out)
 have d4 : 0 ≤ ((b1) : Int) := of_decide_eq_true asm
 have d5 : (b1) < (b0.length : Int) := of_decide_eq_true asm
 obtain ⟨b4, e7, c7, c8, d0, d1⟩ := at_T30 (Kd.R_reads' b2.out).2.2 (b1) d4 d5
 cases e7
 replace d4 := eq_true d4
 replace d5 := eq_true d5
 refine st_ 8 spec_BeamAfter.pl1 (S := fun w' => w'.cell? ⟨b5, 0, none⟩ = some (.int .i64 a0_0) ∧ w'.cell? ⟨b5, 1, none⟩ = some (.int .i64 a0_1) ∧ w'.cell? (b4.add (((b1)).toNat * 4)) = some (.int .i64 ((rd_T30 b0 (b1)).f0)) ∧ w'.cell? ⟨(b4.add (((b1)).toNat * 4)).block, (b4.add (((b1)).toNat * 4)).off + 1, none⟩ = some (.int .i64 ((rd_T30 b0 (b1)).f1)) ∧ w'.cell? ⟨(b4.add (((b1)).toNat * 4)).block, (b4.add (((b1)).toNat * 4)).off + 2, none⟩ = some (.bool ((rd_T30 b0 (b1)).f2)) ∧ w'.cell? ⟨(b4.add (((b1)).toNat * 4)).block, (b4.add (((b1)).toNat * 4)).off + 3, none⟩ = some (.bool ((rd_T30 b0 (b1)).f3))) (ds := []) spec_BeamAfter.tab6 spec_BeamAfter.bits6 ⟨cb a7 0, cb a7 1, c7, c8, d0, d1⟩ (fun hHeld HT_ HW_ => ?_)
 generalize s8.drew = B1 at b2 a7 a8 a9 HB c7 c8 d0 d1 hHeld ⊢
 iterate 7 (first | refine pA HT_ ?_ | refine pT HT_ HW_ hHeld ?_)
 refine pO HT_ fun K hK => ?_
 refine goes_ Try.func63 kr rfl #[.agg #[.int .i64 a0_0, .int .i64 a0_1], .agg #[.int .i64 ((rd_T30 b0 (b1)).f0), .int .i64 ((rd_T30 b0 (b1)).f1), .bool ((rd_T30 b0 (b1)).f2), .bool ((rd_T30 b0 (b1)).f3)]] (by rfl) rfl rfl (by (try simp only [List.map_toArray, List.map_cons, List.map_nil]); first | done | (simp only [c3]; rfl) | rfl | (simp only [List.length_drop, List.length_take]; rfl)) ?_
 with_reducible refine (spec_beCorner.calls a0_0 a0_1 ((rd_T30 b0 (b1)).f0) ((rd_T30 b0 (b1)).f1) ((rd_T30 b0 (b1)).f2) ((rd_T30 b0 (b1)).f3) false _ h0.out).mono ?_
 rintro e d7 ⟨rfl, hb⟩
 have HS2_ := (hb.cell (World.block_lt_of_cell? _ _ (hHeld.2.2.1))).trans (hHeld.2.2.1)
 have HS3_ := (hb.cell (World.block_lt_of_cell? _ _ (hHeld.2.2.2.1))).trans (hHeld.2.2.2.1)
 have HS4_ := (hb.cell (World.block_lt_of_cell? _ _ (hHeld.2.2.2.2.1))).trans (hHeld.2.2.2.2.1)
 have HS5_ := (hb.cell (World.block_lt_of_cell? _ _ (hHeld.2.2.2.2.2))).trans (hHeld.2.2.2.2.2)
 refine ⟨_, rfl, ?_⟩
 replace b2 := Aside0.mk (Kd.R_below (oR b2) hb)
 replace a7 := bQ a7 hb
 replace a8 := bQ a8 hb
 replace a9 := bQ a9 hb
 replace HB := Aside0.mk (below_step bB hb)
 try clear hb
 refine hK.out _ _ ⟨cb a7 0, cb a7 1, HS2_, HS3_, HS4_, HS5_⟩ (fun hHeld => ?_)
 clear hK K
 refine nP ?_
 refine pD HT_ ?_
 try go_wp2_with (first | ((with_reducible refine gate_callee (f := 52) rfl ?_); refine goesL_ (some 51) rfl rfl Try.func52 kr rfl #[.slice (some b4) b0.length h2] rfl sM ?_; (with_reducible refine (spec_bePeriod.calls k _ _ b0 g0 _ ?side1 ?side2 h5.out).mono ?_); (case side1 => repeat (first | exact (Kd.R_reads' b2.out).2.2 | (with_reducible refine Kd.C_alloc ?_ _) | (with_reducible refine Kd.C_drewN ?_ _) | (with_reducible refine Kd.C_drew ?_))); (case side2 => exact (Kd.R_reads' b2.out).2.1); rintro e w' ⟨rfl, ⟨nd, rfl⟩⟩; refine ⟨_, rfl, ?_⟩; (try (rw [drewN_self d7]; generalize hq_ : World.drewN d7 _ = d7; replace b2 : Aside0 (Kd.R k30 30 d7 w.heap.size (fun k_ => k_ ≠ b3 ∧ k_ ≠ c2) (.slice (some b4) b0.length h2) b0) := ⟨by rw [← hq_]; exact (by (with_reducible repeat (first | apply Kd.R_alloc | apply Kd.R_drewN | apply Kd.R_drew)); exact Kd.R_mono b2.out (fun _ hk => ⟨hk.1.2, hk.2⟩))⟩; replace a7 : Aside0 (d7.heap[b5]? = some (.cells #[.int .i64 a0_0, .int .i64 a0_1] 28 (0, 0))) := ⟨by rw [← hq_]; exact (bK a7)⟩; replace a8 : Aside0 (d7.heap[b3]? = some (.cells #[.int .i64 a1_0, .int .i64 a1_1, .bool a1_2, .bool a1_3] 30 (0, 0))) := ⟨by rw [← hq_]; exact (bK a8)⟩; replace a9 : Aside0 (d7.heap[c2]? = some (.cells #[.int .i64 0, .int .i64 0, .bool false, .bool false] 30 (0, 0))) := ⟨by rw [← hq_]; exact (bK a9)⟩; replace HB : Aside0 (Below w.heap.size w d7) := ⟨by rw [← hq_]; exact bB⟩; clear hq_)); have g1 : 0 ≤ ((c6) : Int) := of_decide_eq_true asm; have g2 : (c6) < (b0.length : Int) := of_decide_eq_true asm; obtain ⟨h4, i4, o6, o7, o8, o9⟩ := at_T30 (Kd.R_reads' b2.out).2.2 (c6) g1 g2; obtain rfl : b4 = h4 := (by injection i4); replace g1 := eq_true g1; replace g2 := eq_true g2; obtain ⟨p0, p1, p2, p3, p4, p5, p6, p7⟩ := cf4 a9))
 refine bodyPost_ret (results_ct rfl _ _ c2 30 #[.int .i64 ((rd_T30 b0 (c6)).f0), .int .i64 ((rd_T30 b0 (c6)).f1), .bool ((rd_T30 b0 (c6)).f2), .bool ((rd_T30 b0 (c6)).f3)] (0, 0) _ rfl (bK a9) Try.underlying30 rfl kr) rfl ?_
 exact ⟨by first | rfl | (simp [errW_none, errW_some] <;> rfl) | (simp only [← c3, ← c4]; first | rfl | (simp [errW_none, errW_some] <;> rfl)) | (simp [*, errW_none, errW_some] <;> rfl), bI⟩
 )
 ·(
 rw [if_neg g8] at H
 exact absurd H (by simp)
 )
 )
 ·(
 rw [if_neg g7] at H
 exact absurd H (by simp)
 )
 )
 )
 )
 ·(
 rw [if_neg g5] at H
 exact absurd H (by simp)
 )
 )
 ·(
 rw [if_neg g4] at H
 exact absurd H (by simp)
 )
 )
 )
 ·(
 replace c5 := Bool.eq_false_iff.mpr c5
 subst c5
 rw [if_neg nft] at H
 simp only [Option.some.injEq, Prod.mk.injEq] at H
 obtain ⟨rfl, rfl, rfl, rfl, rfl⟩ := H
 go_enter Try.func31, Try.ntmps31
 go_wp2_with (first | ((with_reducible refine gate_dst (N := 3) rfl ?_); refine box_ (cs := #[.int .i64 a0_0, .int .i64 a0_1]) (t := 28) fun b5 hg B2 hbox hb => ?_; have a7 := Aside0.mk (hbox); have d8 := bS HB hg; have d9 := bS HB hg; replace HB := Aside0.mk (below_step bB hb); clear hb hbox hg) | ((with_reducible refine gate_dst (N := 4) rfl ?_); refine box_ (cs := #[.int .i64 a1_0, .int .i64 a1_1, .bool a1_2, .bool a1_3]) (t := 30) fun b3 hg B3 hbox hb => ?_; have a8 := Aside0.mk (hbox); have e0 := bS HB hg; have e1 := bS HB hg; have b6 := bL a7 hg; have b7 := bM a7 hg; replace a7 := bQ a7 hb; replace HB := Aside0.mk (below_step bB hb); clear hb hbox hg) | ((with_reducible refine gate_dst (N := 6) rfl ?_); refine box_ (cs := #[.int .i64 0, .int .i64 0, .bool false, .bool false]) (t := 30) fun c2 hg B4 hbox hb => ?_; have a9 := Aside0.mk (hbox); have e2 := bS HB hg; have e3 := bS HB hg; have b8 := bL a7 hg; have b9 := bM a7 hg; have c0 := bL a8 hg; have c1 := bM a8 hg; replace a7 := bQ a7 hb; replace a8 := bQ a8 hb; replace HB := Aside0.mk (below_step bB hb); clear hb hbox hg; have x6 := b6.out; have x7 := b7.out; have x8 := b8.out; have x9 := b9.out; obtain ⟨p8, p9, q0, q1⟩ := cf2 a7; have y0 := c0.out; have y1 := c1.out; obtain ⟨q2, q3, q4, q5, q6, q7, q8, q9⟩ := cf4 a8) | ((with_reducible refine gate_callee (f := 48) rfl ?_); refine goesL_ (some 13) rfl rfl Try.func48 kr rfl #[.agg #[.int .i64 a0_0, .int .i64 a0_1], .agg #[.int .i64 a1_0, .int .i64 a1_1, .bool a1_2, .bool a1_3], .int .i64 a2, .int .i64 100000] rfl sM ?_; (with_reducible refine (spec_beAsked.calls a0_0 a0_1 a1_0 a1_1 a1_2 a1_3 a2 100000 false _ A4.out).mono ?_); rintro e B5 ⟨rfl, hb⟩; refine ⟨_, rfl, ?_⟩; replace a7 := bQ a7 hb; replace a8 := bQ a8 hb; replace a9 := bQ a9 hb; replace HB := Aside0.mk (below_step bB hb); (try clear hb); obtain ⟨r0, r6, r7, r8, r9, s0, s1, s2⟩ := cf4 a9))
 refine bodyPost_ret (results_ct rfl _ _ c2 30 #[.int .i64 0, .int .i64 0, .bool false, .bool false] (0, 0) _ rfl (bK a9) Try.underlying30 rfl kr) rfl ?_
 exact ⟨sE, bI⟩
 )

end Go.Proofs.Ythfbjofmcniogaa.PFnBeamsGo
