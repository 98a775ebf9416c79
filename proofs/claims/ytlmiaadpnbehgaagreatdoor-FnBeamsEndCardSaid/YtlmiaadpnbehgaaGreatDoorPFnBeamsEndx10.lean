-- Written by xprint.py, a program of this session, for this seat; Lean checks it.
import Derived.Test.YtlmiaadpnbehgaaGreatDoorVM
import Derived.Test.YtlmiaadpnbehgaaGreatDoorPFnBeamsEndx0
namespace Go.Proofs.YtlmiaadpnbehgaaGreatDoor.PFnBeamsEnd
open Go.Proofs.YtlmiaadpnbehgaaGreatDoorV Go.RowKit Go.Proofs.YtlmiaadpnbehgaaGreatDoorW.PrintWords Go.Proofs.YtlmiaadpnbehgaaGreatDoorW.PrintLast Go.Proofs.YtlmiaadpnbehgaaGreatDoorW.PrintMore
attribute [local go_sem] max2_int min2_int max_two min_two max_three min_three max_four min_four   -- for this text's walks alone
set_option linter.unusedVariables false
set_option linter.unusedSimpArgs false

/-! ### spec_beTurn: function 81 -/
def spec_beTurn.j0 : Nat → Bool → Int → Int → Int → Int → Bool → Bool → Option (Int × Int × Bool × Bool)
  | 0, _, _, _, _, _, _, _ => none
  | k + 1, x23, x272000, x272001, x273000, x273001, x273002, x273003 => if x23 = true then (if x273001 = x272001 then (if x273003 = true then (some (x273000, x273001, !x273002, !x273003)) else (if x273001 = 0 then (some (x273000, x273001, !x273002, !x273003)) else (some (x273000, x273001, !x273002, x273003)))) else (if x273001 = 0 then (if x273003 = true then (some (x273000, x273001, !x273002, x273003)) else (some (x273000, x273001, !x273002, !x273003))) else (some (x273000, x273001, !x273002, x273003)))) else (if x273001 = x272001 then (if x273003 = true then (some (x273000, x273001, x273002, !x273003)) else (if x273001 = 0 then (some (x273000, x273001, x273002, !x273003)) else (some (x273000, x273001, x273002, x273003)))) else (if x273001 = 0 then (if x273003 = true then (some (x273000, x273001, x273002, x273003)) else (some (x273000, x273001, x273002, !x273003))) else (some (x273000, x273001, x273002, x273003))))
def spec_beTurn.f (k : Nat) (a0_0 : Int) (a0_1 : Int) (a1_0 : Int) (a1_1 : Int) (a1_2 : Bool) (a1_3 : Bool) : Option (Int × Int × Bool × Bool) := if a1_0 = a0_0 then (if a1_2 = true then (spec_beTurn.j0 k true a0_0 a0_1 a1_0 a1_1 a1_2 a1_3) else (if a1_0 = 0 then (spec_beTurn.j0 k (!a1_2) a0_0 a0_1 a1_0 a1_1 a1_2 a1_3) else (spec_beTurn.j0 k false a0_0 a0_1 a1_0 a1_1 a1_2 a1_3))) else (if a1_0 = 0 then (spec_beTurn.j0 k (!a1_2) a0_0 a0_1 a1_0 a1_1 a1_2 a1_3) else (spec_beTurn.j0 k false a0_0 a0_1 a1_0 a1_1 a1_2 a1_3))
theorem spec_beTurn.mono_l : ∀ k, (∀ y0 y1 y2 y3 y4 y5 y6, LeO (spec_beTurn.j0 k y0 y1 y2 y3 y4 y5 y6) (spec_beTurn.j0 (k + 1) y0 y1 y2 y3 y4 y5 y6))
  | 0 => fun _ _ _ _ _ _ _ r h => by simp [spec_beTurn.j0] at h
  | k + 1 => by
    have ih0 := spec_beTurn.mono_l k
    · intro y0 y1 y2 y3 y4 y5 y6
      unfold spec_beTurn.j0
      repeat' first
      | (with_reducible exact ih0 _ _ _ _ _ _ _)
      | (with_reducible exact LeO.refl _)
      | (with_reducible exact LeO.none _)
      | (with_reducible refine LeO.ite ?_ ?_)
      | (with_reducible refine LeO.bind ?_ (fun _ => ?_))
      | exact ih0 _ _ _ _ _ _ _
      | exact LeO.none _
      | refine LeO.ite ?_ ?_
      | refine LeO.bind ?_ (fun _ => ?_)
theorem spec_beTurn.mono : ∀ a0 a1 a2 a3 a4 a5 k, LeO (spec_beTurn.f k a0 a1 a2 a3 a4 a5) (spec_beTurn.f (k + 1) a0 a1 a2 a3 a4 a5) := by
  intro a0 a1 a2 a3 a4 a5 k
  have ih0 := spec_beTurn.mono_l k
  unfold spec_beTurn.f
  repeat' first
      | (with_reducible exact ih0 _ _ _ _ _ _ _)
      | (with_reducible exact LeO.refl _)
      | (with_reducible exact LeO.none _)
      | (with_reducible refine LeO.ite ?_ ?_)
      | (with_reducible refine LeO.bind ?_ (fun _ => ?_))
      | exact ih0 _ _ _ _ _ _ _
      | exact LeO.none _
      | refine LeO.ite ?_ ?_
      | refine LeO.bind ?_ (fun _ => ?_)
set_option maxHeartbeats 8000000 in
set_option maxRecDepth 100000 in
theorem spec_beTurn.calls (k : Nat) (a0_0 : Int) (a0_1 : Int) (a1_0 : Int) (a1_1 : Int) (a1_2 : Bool) (a1_3 : Bool) (r1 : Int) (r2 : Int) (r3 : Bool) (r4 : Bool) (w : World) (h : spec_beTurn.f k a0_0 a0_1 a1_0 a1_1 a1_2 a1_3 = some (r1, r2, r3, r4)) :
    Calls Tryz.prog 81 #[.agg #[.int .i64 a0_0, .int .i64 a0_1], .agg #[.int .i64 a1_0, .int .i64 a1_1, .bool a1_2, .bool a1_3]] w fun e w' => e = .returned (.agg #[.int .i64 r1, .int .i64 r2, .bool r3, .bool r4]) ∧ Below w.heap.size w w' := by
 have a13 := Tryz.underlying25
 have a14 := Tryz.underlying27
 have HB := Aside0.mk (Below.refl w.heap.size w)
 have H := h
 unfold spec_beTurn.f at H
 clear h
 have d3 := Aside0.mk H
 clear H
 go_enter Tryz.func81, Tryz.ntmps81
 go_upto_region 1 with (first | ((with_reducible refine gate_dst (N := 2) rfl ?_); refine box_ (cs := #[.int .i64 a0_0, .int .i64 a0_1]) (t := 25) fun d4 hg w4 hbox hb => ?_; have b2 := Aside0.mk (hbox); have R5 := bS HB hg; have R6 := bS HB hg; replace HB := Aside0.mk (below_step bB hb); clear hb hbox hg) | ((with_reducible refine gate_dst (N := 3) rfl ?_); refine box_ (cs := #[.int .i64 a1_0, .int .i64 a1_1, .bool a1_2, .bool a1_3]) (t := 27) fun d5 hg w5 hbox hb => ?_; have b4 := Aside0.mk (hbox); have R7 := bS HB hg; have R8 := bS HB hg; have a6 := bL b2 hg; have a7 := bM b2 hg; replace b2 := bQ b2 hb; replace HB := Aside0.mk (below_step bB hb); clear hb hbox hg) | ((with_reducible refine gate_dst (N := 4) rfl ?_); refine box_ (cs := #[.int .i64 0, .int .i64 0, .bool false, .bool false]) (t := 27) fun b5 hg w6 hbox hb => ?_; have b3 := Aside0.mk (hbox); have R9 := bS HB hg; have S0 := bS HB hg; have a8 := bL b2 hg; have a9 := bM b2 hg; have b0 := bL b4 hg; have b1 := bM b4 hg; replace b2 := bQ b2 hb; replace b4 := bQ b4 hb; replace HB := Aside0.mk (below_step bB hb); clear hb hbox hg))
 (try simp only [Act.put, List.setIfInBounds_toArray, List.set_cons_zero, List.set_cons_succ])
 go_cut [23] (fun O6 wc => ∃ (kq : Nat) (b6 : Bool), O6 = .bool b6 ∧ Aside0 (spec_beTurn.j0 kq b6 a0_0 a0_1 a1_0 a1_1 a1_2 a1_3 = some (r1, r2, r3, r4)) ∧ Aside0 (kq ≤ k) ∧ Aside0 (wc.heap[d4]? = some (.cells #[.int .i64 a0_0, .int .i64 a0_1] 25 (0, 0))) ∧ Aside0 (wc.heap[d5]? = some (.cells #[.int .i64 a1_0, .int .i64 a1_1, .bool a1_2, .bool a1_3] 27 (0, 0))) ∧ Aside0 (wc.heap[b5]? = some (.cells #[.int .i64 0, .int .i64 0, .bool false, .bool false] 27 (0, 0))) ∧ Aside0 (Below w.heap.size w wc))
 case first => (
 have H := d3.out
 clear d3
 by_cases c7 : a1_0 = a0_0
 ·(
 rw [if_pos c7] at H
 obtain ⟨b7, g2⟩ := yE c7
 clear c7
 (first | rw [b7] | (simp only [i64_w, i32_w]; rw [b7]) | skip)
 by_cases c8 : a1_2 = true
 ·(
 subst c8
 rw [if_pos rfl] at H
 have H' := Aside0.mk H
 clear H
 have a15 := a7.out
 have a16 := a6.out
 have S1 := b0.out
 have S2 := b1.out
 obtain ⟨m4, m5, m6, m7, m8, m9, n0, n1⟩ := cf4 b4
 have S3 := a8.out
 have S4 := a9.out
 obtain ⟨n2, n3, n4, n5⟩ := cf2 b2
 go_wp2
 go_meet
 case rel => exact ⟨_, (true), sR, H', ⟨by first | omega | exact Nat.le_refl _⟩, (bA b2), (bA b4), (bA b3), ⟨bB⟩⟩
 )
 ·(
 replace c8 := Bool.eq_false_iff.mpr c8
 subst c8
 rw [if_neg nft] at H
 by_cases b9 : a1_0 = 0
 ·(
 rw [if_pos b9] at H
 obtain ⟨d6, d7⟩ := yE b9
 clear b9
 have H' := Aside0.mk H
 clear H
 have S5 := a7.out
 have S6 := a6.out
 have S7 := b0.out
 have S8 := b1.out
 obtain ⟨n6, n7, n8, n9, o0, o1, o2, o3⟩ := cf4 b4
 have S9 := a8.out
 have T0 := a9.out
 obtain ⟨o4, o5, o6, o7⟩ := cf2 b2
 go_wp2
 go_meet
 case rel => exact ⟨_, (!false), sR, H', ⟨by first | omega | exact Nat.le_refl _⟩, (bA b2), (bA b4), (bA b3), ⟨bB⟩⟩
 )
 ·(
 rw [if_neg b9] at H
 obtain ⟨d6, d7⟩ := nE b9
 have H' := Aside0.mk H
 clear H
 have T1 := a7.out
 have T2 := a6.out
 have T3 := b0.out
 have T4 := b1.out
 obtain ⟨o8, o9, p0, p1, p2, p3, p4, p5⟩ := cf4 b4
 have T5 := a8.out
 have T6 := a9.out
 obtain ⟨p6, p7, p8, p9⟩ := cf2 b2
 go_wp2
 go_meet
 case rel => exact ⟨_, (false), sR, H', ⟨by first | omega | exact Nat.le_refl _⟩, (bA b2), (bA b4), (bA b3), ⟨bB⟩⟩
 )
 )
 )
 ·(
 rw [if_neg c7] at H
 obtain ⟨b7, g2⟩ := nE c7
 (first | rw [b7] | (simp only [i64_w, i32_w]; rw [b7]) | skip)
 by_cases c0 : a1_0 = 0
 ·(
 rw [if_pos c0] at H
 obtain ⟨d8, d9⟩ := yE c0
 clear c0
 have H' := Aside0.mk H
 clear H
 have T7 := a7.out
 have T8 := a6.out
 have T9 := b0.out
 have U0 := b1.out
 obtain ⟨q0, q1, q2, q3, q4, q5, q6, q7⟩ := cf4 b4
 have U1 := a8.out
 have U2 := a9.out
 obtain ⟨q8, q9, r0, r5⟩ := cf2 b2
 go_wp2
 go_meet
 case rel => exact ⟨_, (!a1_2), sR, H', ⟨by first | omega | exact Nat.le_refl _⟩, (bA b2), (bA b4), (bA b3), ⟨bB⟩⟩
 )
 ·(
 rw [if_neg c0] at H
 obtain ⟨d8, d9⟩ := nE c0
 have H' := Aside0.mk H
 clear H
 have U3 := a7.out
 have U4 := a6.out
 have U5 := b0.out
 have U6 := b1.out
 obtain ⟨r6, r7, r8, r9, s0, s1, s2, s3⟩ := cf4 b4
 have U7 := a8.out
 have U8 := a9.out
 obtain ⟨s4, s5, s6, s7⟩ := cf2 b2
 go_wp2
 go_meet
 case rel => exact ⟨_, (false), sR, H', ⟨by first | omega | exact Nat.le_refl _⟩, (bA b2), (bA b4), (bA b3), ⟨bB⟩⟩
 )
 )
 )
 case rest => (
 clear d3
 obtain ⟨kq, b6, rfl, HA, HJ2, b2, b4, b3, HB⟩ := hcut
 cases kq with
 | zero => exact absurd HA.out (by simp [spec_beTurn.j0])
 | succ kj2 => (
 have H := HA.out
 clear HA
 simp only [spec_beTurn.j0] at H
 by_cases c9 : b6 = true
 ·(
 subst c9
 rw [if_pos rfl] at H
 by_cases c1 : a1_1 = a0_1
 ·(
 rw [if_pos c1] at H
 obtain ⟨e0, e1⟩ := yE c1
 clear c1
 by_cases d0 : a1_3 = true
 ·(
 subst d0
 rw [if_pos rfl] at H
 simp only [Option.some.injEq, Prod.mk.injEq] at H
 obtain ⟨rfl, rfl, rfl, rfl⟩ := H
 have U9 := a7.out
 have V0 := a6.out
 have V1 := b0.out
 have V2 := b1.out
 obtain ⟨s8, s9, u0, u1, u2, u3, u4, u5⟩ := cf4 b4
 have V3 := a8.out
 have V4 := a9.out
 obtain ⟨u6, u7, u9, v0⟩ := cf2 b2
 obtain ⟨v1, v2, v3, v4, v5, v6, v7, v8⟩ := cf4 b3
 go_wp2
 refine bodyPost_ret (results_cell_row rfl _ _ b5 27 #[.int .i64 a1_0, .int .i64 a1_1, .bool (!a1_2), .bool (!true)] (0, 0) _ rfl (bK b3) Tryz.underlying27 rfl kr) rfl ?_
 exact ⟨sE, bI⟩
 )
 ·(
 replace d0 := Bool.eq_false_iff.mpr d0
 subst d0
 rw [if_neg nft] at H
 by_cases c2 : a1_1 = 0
 ·(
 rw [if_pos c2] at H
 obtain ⟨e2, e3⟩ := yE c2
 clear c2
 simp only [Option.some.injEq, Prod.mk.injEq] at H
 obtain ⟨rfl, rfl, rfl, rfl⟩ := H
 have V5 := a7.out
 have V6 := a6.out
 have V7 := b0.out
 have V8 := b1.out
 obtain ⟨v9, x0, x1, x2, x3, x4, x5, x6⟩ := cf4 b4
 have V9 := a8.out
 have X0 := a9.out
 obtain ⟨x7, x8, x9, y7⟩ := cf2 b2
 obtain ⟨y8, y9, z0, z1, z2, z3, z4, z5⟩ := cf4 b3
 go_wp2
 refine bodyPost_ret (results_cell_row rfl _ _ b5 27 #[.int .i64 a1_0, .int .i64 a1_1, .bool (!a1_2), .bool (!false)] (0, 0) _ rfl (bK b3) Tryz.underlying27 rfl kr) rfl ?_
 exact ⟨sE, bI⟩
 )
 ·(
 rw [if_neg c2] at H
 obtain ⟨e2, e3⟩ := nE c2
 simp only [Option.some.injEq, Prod.mk.injEq] at H
 obtain ⟨rfl, rfl, rfl, rfl⟩ := H
 have X1 := a7.out
 have X2 := a6.out
 have X3 := b0.out
 have X4 := b1.out
 obtain ⟨z6, z7, z8, z9, A0, A1, A2, A3⟩ := cf4 b4
 have X5 := a8.out
 have X6 := a9.out
 obtain ⟨A4, A5, A6, A7⟩ := cf2 b2
 obtain ⟨A8, A9, B0, B1, B2, B3, B4, B5⟩ := cf4 b3
 go_wp2
 refine bodyPost_ret (results_cell_row rfl _ _ b5 27 #[.int .i64 a1_0, .int .i64 a1_1, .bool (!a1_2), .bool false] (0, 0) _ rfl (bK b3) Tryz.underlying27 rfl kr) rfl ?_
 exact ⟨sE, bI⟩
 )
 )
 )
 ·(
 rw [if_neg c1] at H
 obtain ⟨e0, e1⟩ := nE c1
 by_cases c3 : a1_1 = 0
 ·(
 rw [if_pos c3] at H
 obtain ⟨e4, e5⟩ := yE c3
 clear c3
 by_cases d1 : a1_3 = true
 ·(
 subst d1
 rw [if_pos rfl] at H
 simp only [Option.some.injEq, Prod.mk.injEq] at H
 obtain ⟨rfl, rfl, rfl, rfl⟩ := H
 have X7 := a7.out
 have X8 := a6.out
 have X9 := b0.out
 have Y0 := b1.out
 obtain ⟨B6, B7, B8, B9, C0, C1, C2, C3⟩ := cf4 b4
 have Y1 := a8.out
 have Y2 := a9.out
 obtain ⟨C4, C5, C6, C7⟩ := cf2 b2
 obtain ⟨C8, C9, D0, D1, D2, D3, D4, D5⟩ := cf4 b3
 go_wp2
 refine bodyPost_ret (results_cell_row rfl _ _ b5 27 #[.int .i64 a1_0, .int .i64 a1_1, .bool (!a1_2), .bool true] (0, 0) _ rfl (bK b3) Tryz.underlying27 rfl kr) rfl ?_
 exact ⟨sE, bI⟩
 )
 ·(
 replace d1 := Bool.eq_false_iff.mpr d1
 subst d1
 rw [if_neg nft] at H
 simp only [Option.some.injEq, Prod.mk.injEq] at H
 obtain ⟨rfl, rfl, rfl, rfl⟩ := H
 have Y3 := a7.out
 have Y4 := a6.out
 have Y5 := b0.out
 have Y6 := b1.out
 obtain ⟨D6, D7, D8, D9, E0, E1, E2, E3⟩ := cf4 b4
 have Y7 := a8.out
 have Y8 := a9.out
 obtain ⟨E4, E5, E6, E7⟩ := cf2 b2
 obtain ⟨E8, E9, F0, F1, F2, F3, F4, F5⟩ := cf4 b3
 go_wp2
 refine bodyPost_ret (results_cell_row rfl _ _ b5 27 #[.int .i64 a1_0, .int .i64 a1_1, .bool (!a1_2), .bool (!false)] (0, 0) _ rfl (bK b3) Tryz.underlying27 rfl kr) rfl ?_
 exact ⟨sE, bI⟩
 )
 )
 ·(
 rw [if_neg c3] at H
 obtain ⟨e4, e5⟩ := nE c3
 simp only [Option.some.injEq, Prod.mk.injEq] at H
 obtain ⟨rfl, rfl, rfl, rfl⟩ := H
 have Y9 := a7.out
 have Z0 := a6.out
 have Z1 := b0.out
 have Z2 := b1.out
 obtain ⟨F6, F7, F8, F9, G0, G1, G2, G3⟩ := cf4 b4
 have Z3 := a8.out
 have Z4 := a9.out
 obtain ⟨G4, G5, G6, G7⟩ := cf2 b2
 obtain ⟨G8, G9, I0, I1, I2, I3, I4, I5⟩ := cf4 b3
 go_wp2
 refine bodyPost_ret (results_cell_row rfl _ _ b5 27 #[.int .i64 a1_0, .int .i64 a1_1, .bool (!a1_2), .bool a1_3] (0, 0) _ rfl (bK b3) Tryz.underlying27 rfl kr) rfl ?_
 exact ⟨sE, bI⟩
 )
 )
 )
 ·(
 replace c9 := Bool.eq_false_iff.mpr c9
 subst c9
 rw [if_neg nft] at H
 by_cases c4 : a1_1 = a0_1
 ·(
 rw [if_pos c4] at H
 obtain ⟨e6, e7⟩ := yE c4
 clear c4
 by_cases d2 : a1_3 = true
 ·(
 subst d2
 rw [if_pos rfl] at H
 simp only [Option.some.injEq, Prod.mk.injEq] at H
 obtain ⟨rfl, rfl, rfl, rfl⟩ := H
 have Z5 := a7.out
 have Z6 := a6.out
 have Z7 := b0.out
 have Z8 := b1.out
 obtain ⟨I6, I7, I8, I9, J0, J1, J2, J3⟩ := cf4 b4
 have Z9 := a8.out
 have a00 := a9.out
 obtain ⟨J4, J5, J6, J7⟩ := cf2 b2
 obtain ⟨J8, J9, K0, K1, K2, K3, K4, K5⟩ := cf4 b3
 go_wp2
 refine bodyPost_ret (results_cell_row rfl _ _ b5 27 #[.int .i64 a1_0, .int .i64 a1_1, .bool a1_2, .bool (!true)] (0, 0) _ rfl (bK b3) Tryz.underlying27 rfl kr) rfl ?_
 exact ⟨sE, bI⟩
 )
 ·(
 replace d2 := Bool.eq_false_iff.mpr d2
 subst d2
 rw [if_neg nft] at H
 by_cases c5 : a1_1 = 0
 ·(
 rw [if_pos c5] at H
 obtain ⟨e8, e9⟩ := yE c5
 clear c5
 simp only [Option.some.injEq, Prod.mk.injEq] at H
 obtain ⟨rfl, rfl, rfl, rfl⟩ := H
 have a01 := a7.out
 have a02 := a6.out
 have a03 := b0.out
 have a04 := b1.out
 obtain ⟨K6, K7, K8, K9, L0, L1, L2, L3⟩ := cf4 b4
 have a05 := a8.out
 have a06 := a9.out
 obtain ⟨L4, L5, L6, L7⟩ := cf2 b2
 obtain ⟨L8, L9, M0, M1, M2, M3, M4, M5⟩ := cf4 b3
 go_wp2
 refine bodyPost_ret (results_cell_row rfl _ _ b5 27 #[.int .i64 a1_0, .int .i64 a1_1, .bool a1_2, .bool (!false)] (0, 0) _ rfl (bK b3) Tryz.underlying27 rfl kr) rfl ?_
 exact ⟨sE, bI⟩
 )
 ·(
 rw [if_neg c5] at H
 obtain ⟨e8, e9⟩ := nE c5
 simp only [Option.some.injEq, Prod.mk.injEq] at H
 obtain ⟨rfl, rfl, rfl, rfl⟩ := H
 have a07 := a7.out
 have a08 := a6.out
 have a09 := b0.out
 have a10 := b1.out
 obtain ⟨M6, M7, M8, M9, N0, N1, N2, N3⟩ := cf4 b4
 have a11 := a8.out
 have a12 := a9.out
 obtain ⟨N4, N5, N6, N7⟩ := cf2 b2
 obtain ⟨N8, N9, O0, O1, O2, O3, O4, O5⟩ := cf4 b3
 go_wp2
 refine bodyPost_ret (results_cell_row rfl _ _ b5 27 #[.int .i64 a1_0, .int .i64 a1_1, .bool a1_2, .bool false] (0, 0) _ rfl (bK b3) Tryz.underlying27 rfl kr) rfl ?_
 exact ⟨sE, bI⟩
 )
 )
 )
 ·(
 rw [if_neg c4] at H
 obtain ⟨e6, e7⟩ := nE c4
 by_cases c6 : a1_1 = 0
 ·(
 rw [if_pos c6] at H
 obtain ⟨g0, g1⟩ := yE c6
 clear c6
 by_cases b8 : a1_3 = true
 ·(
 subst b8
 rw [if_pos rfl] at H
 simp only [Option.some.injEq, Prod.mk.injEq] at H
 obtain ⟨rfl, rfl, rfl, rfl⟩ := H
 have O7 := a7.out
 have O8 := a6.out
 have O9 := b0.out
 have P0 := b1.out
 obtain ⟨g3, g4, g5, g6, g7, g8, g9, h0⟩ := cf4 b4
 have P1 := a8.out
 have P2 := a9.out
 obtain ⟨h1, h2, h3, h4⟩ := cf2 b2
 obtain ⟨h5, h6, h7, h8, h9, i0, i1, i2⟩ := cf4 b3
 go_wp2
 refine bodyPost_ret (results_cell_row rfl _ _ b5 27 #[.int .i64 a1_0, .int .i64 a1_1, .bool a1_2, .bool true] (0, 0) _ rfl (bK b3) Tryz.underlying27 rfl kr) rfl ?_
 exact ⟨sE, bI⟩
 )
 ·(
 replace b8 := Bool.eq_false_iff.mpr b8
 subst b8
 rw [if_neg nft] at H
 simp only [Option.some.injEq, Prod.mk.injEq] at H
 obtain ⟨rfl, rfl, rfl, rfl⟩ := H
 have P3 := a7.out
 have P4 := a6.out
 have P5 := b0.out
 have P6 := b1.out
 obtain ⟨i3, i4, i5, i6, i7, i9, j0, j1⟩ := cf4 b4
 have P7 := a8.out
 have P8 := a9.out
 obtain ⟨j2, j3, j4, j5⟩ := cf2 b2
 obtain ⟨j6, j7, j8, j9, k0, k1, k2, k3⟩ := cf4 b3
 go_wp2
 refine bodyPost_ret (results_cell_row rfl _ _ b5 27 #[.int .i64 a1_0, .int .i64 a1_1, .bool a1_2, .bool (!false)] (0, 0) _ rfl (bK b3) Tryz.underlying27 rfl kr) rfl ?_
 exact ⟨sE, bI⟩
 )
 )
 ·(
 rw [if_neg c6] at H
 obtain ⟨g0, g1⟩ := nE c6
 simp only [Option.some.injEq, Prod.mk.injEq] at H
 obtain ⟨rfl, rfl, rfl, rfl⟩ := H
 have P9 := a7.out
 have R0 := a6.out
 have R1 := b0.out
 have R2 := b1.out
 obtain ⟨k4, k5, k6, k7, k8, k9, l0, l1⟩ := cf4 b4
 have R3 := a8.out
 have R4 := a9.out
 obtain ⟨l2, l3, l4, l5⟩ := cf2 b2
 obtain ⟨l6, l7, l8, l9, m0, m1, m2, m3⟩ := cf4 b3
 go_wp2
 refine bodyPost_ret (results_cell_row rfl _ _ b5 27 #[.int .i64 a1_0, .int .i64 a1_1, .bool a1_2, .bool a1_3] (0, 0) _ rfl (bK b3) Tryz.underlying27 rfl kr) rfl ?_
 exact ⟨sE, bI⟩
 )
 )
 )
 )
 )

/-! ### spec_beMove: function 88 -/
def spec_beMove.f (a0_0 : Int) (a0_1 : Int) (a0_2 : Bool) (a0_3 : Bool) : Option (Int × Int × Bool × Bool) := if a0_2 = true then (if a0_3 = true then (some (wrap64 (a0_0 + 1), wrap64 (a0_1 + 1), a0_2, a0_3)) else (some (wrap64 (a0_0 + 1), wrap64 (a0_1 - 1), a0_2, a0_3))) else (if a0_3 = true then (some (wrap64 (a0_0 - 1), wrap64 (a0_1 + 1), a0_2, a0_3)) else (some (wrap64 (a0_0 - 1), wrap64 (a0_1 - 1), a0_2, a0_3)))
set_option maxHeartbeats 8000000 in
set_option maxRecDepth 100000 in
theorem spec_beMove.calls (a0_0 : Int) (a0_1 : Int) (a0_2 : Bool) (a0_3 : Bool) (r1 : Int) (r2 : Int) (r3 : Bool) (r4 : Bool) (w : World) (h : spec_beMove.f a0_0 a0_1 a0_2 a0_3 = some (r1, r2, r3, r4)) :
    Calls Tryz.prog 88 #[.agg #[.int .i64 a0_0, .int .i64 a0_1, .bool a0_2, .bool a0_3]] w fun e w' => e = .returned (.agg #[.int .i64 r1, .int .i64 r2, .bool r3, .bool r4]) ∧ Below w.heap.size w w' := by
 have k0 := Tryz.underlying27
 have HB := Aside0.mk (Below.refl w.heap.size w)
 have H := h
 unfold spec_beMove.f at H
 clear h
 by_cases c2 : a0_2 = true
 ·(
 subst c2
 rw [if_pos rfl] at H
 by_cases c3 : a0_3 = true
 ·(
 subst c3
 rw [if_pos rfl] at H
 simp only [Option.some.injEq, Prod.mk.injEq] at H
 obtain ⟨rfl, rfl, rfl, rfl⟩ := H
 go_enter Tryz.func88, Tryz.ntmps88
 go_wp2_with (first | ((with_reducible refine gate_dst (N := 1) rfl ?_); refine box_ (cs := #[.int .i64 a0_0, .int .i64 a0_1, .bool true, .bool true]) (t := 27) fun b1 hg w4 hbox hb => ?_; have a6 := Aside0.mk (hbox); have b2 := bS HB hg; have b3 := bS HB hg; replace HB := Aside0.mk (below_step bB hb); clear hb hbox hg) | ((with_reducible refine gate_dst (N := 2) rfl ?_); refine box_ (cs := #[.int .i64 0, .int .i64 0, .bool false, .bool false]) (t := 27) fun b0 hg w5 hbox hb => ?_; have a9 := Aside0.mk (hbox); have b4 := bS HB hg; have b5 := bS HB hg; have a7 := bL a6 hg; have a8 := bM a6 hg; replace a6 := bQ a6 hb; replace HB := Aside0.mk (below_step bB hb); clear hb hbox hg; have k1 := a7.out; have k2 := a8.out; obtain ⟨h7, h8, h9, i0, i1, i2, i3, i4⟩ := cf4 a6; obtain ⟨i5, i6, i7, i9, j0, j1, j2, j3⟩ := cf4 a9))
 refine bodyPost_ret (results_cell_row rfl _ _ b0 27 #[.int .i64 (wrap64 (a0_0 + 1)), .int .i64 (wrap64 (a0_1 + 1)), .bool true, .bool true] (0, 0) _ rfl (bK a9) Tryz.underlying27 rfl kr) rfl ?_
 exact ⟨sE, bI⟩
 )
 ·(
 replace c3 := Bool.eq_false_iff.mpr c3
 subst c3
 rw [if_neg nft] at H
 simp only [Option.some.injEq, Prod.mk.injEq] at H
 obtain ⟨rfl, rfl, rfl, rfl⟩ := H
 go_enter Tryz.func88, Tryz.ntmps88
 go_wp2_with (first | ((with_reducible refine gate_dst (N := 1) rfl ?_); refine box_ (cs := #[.int .i64 a0_0, .int .i64 a0_1, .bool true, .bool false]) (t := 27) fun b1 hg w9 hbox hb => ?_; have a6 := Aside0.mk (hbox); have b2 := bS HB hg; have b3 := bS HB hg; replace HB := Aside0.mk (below_step bB hb); clear hb hbox hg) | ((with_reducible refine gate_dst (N := 2) rfl ?_); refine box_ (cs := #[.int .i64 0, .int .i64 0, .bool false, .bool false]) (t := 27) fun b0 hg k3 hbox hb => ?_; have a9 := Aside0.mk (hbox); have b4 := bS HB hg; have b5 := bS HB hg; have a7 := bL a6 hg; have a8 := bM a6 hg; replace a6 := bQ a6 hb; replace HB := Aside0.mk (below_step bB hb); clear hb hbox hg; have j4 := a7.out; have j5 := a8.out; obtain ⟨b7, b8, b9, c0, c1, c4, c5, c6⟩ := cf4 a6; obtain ⟨c7, c8, c9, d0, d1, d2, d3, d4⟩ := cf4 a9))
 refine bodyPost_ret (results_cell_row rfl _ _ b0 27 #[.int .i64 (wrap64 (a0_0 + 1)), .int .i64 (wrap64 (a0_1 - 1)), .bool true, .bool false] (0, 0) _ rfl (bK a9) Tryz.underlying27 rfl kr) rfl ?_
 exact ⟨sE, bI⟩
 )
 )
 ·(
 replace c2 := Bool.eq_false_iff.mpr c2
 subst c2
 rw [if_neg nft] at H
 by_cases b6 : a0_3 = true
 ·(
 subst b6
 rw [if_pos rfl] at H
 simp only [Option.some.injEq, Prod.mk.injEq] at H
 obtain ⟨rfl, rfl, rfl, rfl⟩ := H
 go_enter Tryz.func88, Tryz.ntmps88
 go_wp2_with (first | ((with_reducible refine gate_dst (N := 1) rfl ?_); refine box_ (cs := #[.int .i64 a0_0, .int .i64 a0_1, .bool false, .bool true]) (t := 27) fun b1 hg k4 hbox hb => ?_; have a6 := Aside0.mk (hbox); have b2 := bS HB hg; have b3 := bS HB hg; replace HB := Aside0.mk (below_step bB hb); clear hb hbox hg) | ((with_reducible refine gate_dst (N := 2) rfl ?_); refine box_ (cs := #[.int .i64 0, .int .i64 0, .bool false, .bool false]) (t := 27) fun b0 hg k5 hbox hb => ?_; have a9 := Aside0.mk (hbox); have b4 := bS HB hg; have b5 := bS HB hg; have a7 := bL a6 hg; have a8 := bM a6 hg; replace a6 := bQ a6 hb; replace HB := Aside0.mk (below_step bB hb); clear hb hbox hg; have j6 := a7.out; have j7 := a8.out; obtain ⟨d5, d6, d7, d8, d9, e0, e1, e2⟩ := cf4 a6; obtain ⟨e3, e4, e5, e6, e7, e8, e9, g0⟩ := cf4 a9))
 refine bodyPost_ret (results_cell_row rfl _ _ b0 27 #[.int .i64 (wrap64 (a0_0 - 1)), .int .i64 (wrap64 (a0_1 + 1)), .bool false, .bool true] (0, 0) _ rfl (bK a9) Tryz.underlying27 rfl kr) rfl ?_
 exact ⟨sE, bI⟩
 )
 ·(
 replace b6 := Bool.eq_false_iff.mpr b6
 subst b6
 rw [if_neg nft] at H
 simp only [Option.some.injEq, Prod.mk.injEq] at H
 obtain ⟨rfl, rfl, rfl, rfl⟩ := H
 go_enter Tryz.func88, Tryz.ntmps88
 go_wp2_with (first | ((with_reducible refine gate_dst (N := 1) rfl ?_); refine box_ (cs := #[.int .i64 a0_0, .int .i64 a0_1, .bool false, .bool false]) (t := 27) fun b1 hg k6 hbox hb => ?_; have a6 := Aside0.mk (hbox); have b2 := bS HB hg; have b3 := bS HB hg; replace HB := Aside0.mk (below_step bB hb); clear hb hbox hg) | ((with_reducible refine gate_dst (N := 2) rfl ?_); refine box_ (cs := #[.int .i64 0, .int .i64 0, .bool false, .bool false]) (t := 27) fun b0 hg k7 hbox hb => ?_; have a9 := Aside0.mk (hbox); have b4 := bS HB hg; have b5 := bS HB hg; have a7 := bL a6 hg; have a8 := bM a6 hg; replace a6 := bQ a6 hb; replace HB := Aside0.mk (below_step bB hb); clear hb hbox hg; have j8 := a7.out; have j9 := a8.out; obtain ⟨g1, g2, g3, g4, g5, g6, g7, g8⟩ := cf4 a6; obtain ⟨g9, h0, h1, h2, h3, h4, h5, h6⟩ := cf4 a9))
 refine bodyPost_ret (results_cell_row rfl _ _ b0 27 #[.int .i64 (wrap64 (a0_0 - 1)), .int .i64 (wrap64 (a0_1 - 1)), .bool false, .bool false] (0, 0) _ rfl (bK a9) Tryz.underlying27 rfl kr) rfl ?_
 exact ⟨sE, bI⟩
 )
 )

end Go.Proofs.YtlmiaadpnbehgaaGreatDoor.PFnBeamsEnd
