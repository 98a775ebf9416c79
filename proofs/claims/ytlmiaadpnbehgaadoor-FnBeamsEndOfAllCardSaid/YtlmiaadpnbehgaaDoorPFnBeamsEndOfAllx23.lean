-- Written by split3.py: the law's walk up to its first cut.
import Derived.Test.YtlmiaadpnbehgaaDoorVM
import Derived.Test.YtlmiaadpnbehgaaDoorVF
import Derived.Test.YtlmiaadpnbehgaaDoorVS
import Derived.Test.YtlmiaadpnbehgaaDoorPFnBeamsEndOfAllx0
import Derived.Test.YtlmiaadpnbehgaaDoorPFnBeamsEndOfAllx1
import Derived.Test.YtlmiaadpnbehgaaDoorPFnBeamsEndOfAllx2
import Derived.Test.YtlmiaadpnbehgaaDoorPFnBeamsEndOfAllx3
import Derived.Test.YtlmiaadpnbehgaaDoorPFnBeamsEndOfAllx6
import Derived.Test.YtlmiaadpnbehgaaDoorPFnBeamsEndOfAllx10
import Derived.Test.YtlmiaadpnbehgaaDoorPFnBeamsEndOfAllx11
import Derived.Test.YtlmiaadpnbehgaaDoorPFnBeamsEndOfAllx12
import Derived.Test.YtlmiaadpnbehgaaDoorPFnBeamsEndOfAllx13
import Derived.Test.YtlmiaadpnbehgaaDoorPFnBeamsEndOfAllx14
import Derived.Test.YtlmiaadpnbehgaaDoorPFnBeamsEndOfAllx15
import Derived.Test.YtlmiaadpnbehgaaDoorPFnBeamsEndOfAllx17
import Derived.Test.YtlmiaadpnbehgaaDoorPFnBeamsEndOfAllx18
import Derived.Test.YtlmiaadpnbehgaaDoorPFnBeamsEndOfAllx19
namespace Go.Proofs.YtlmiaadpnbehgaaDoor.PFnBeamsEndOfAll
open Go.Proofs.YtlmiaadpnbehgaaDoorV Go.RowKit Go.Proofs.YtlmiaadpnbehgaaDoorW.PrintWords Go.Proofs.YtlmiaadpnbehgaaDoorW.PrintLast Go.Proofs.YtlmiaadpnbehgaaDoorW.PrintMore
attribute [local go_sem] max2_int min2_int max_two min_two max_three min_three max_four min_four   -- for this text's walks alone
attribute [local go_sem ↓] rdl_zero rdl_succ eval_lit
set_option linter.unusedVariables false
set_option linter.unusedSimpArgs false
attribute [local go_sem high] eqA23 eqA25
set_option maxHeartbeats 100000000 in
set_option maxRecDepth 100000 in
theorem laws_FnBeamsEndOfAll.calls0 (hR_ : laws_FnBeamsEndOfAll.RestSaid1) (k : Nat) (a0_0 : Int) (a0_1 : Int) (a1_0 : Int) (a1_1 : Int) (a1_2 : Bool) (a1_3 : Bool) (a2_0 : Int) (a2_1 : Int) (a3 : Int) (a4 : ByteArray) (r : Bool) (w : World) (h : laws_FnBeamsEndOfAll.f k a0_0 a0_1 a1_0 a1_1 a1_2 a1_3 a2_0 a2_1 a3 a4 = some r) (ht : r = true) (hw_ : PtW w) :
    Calls Tryd.prog 3 #[.agg #[.int .i64 a0_0, .int .i64 a0_1], .agg #[.int .i64 a1_0, .int .i64 a1_1, .bool a1_2, .bool a1_3], .agg #[.int .i64 a2_0, .int .i64 a2_1], .int .i64 a3, .string a4] w fun e w' => e = .returned (.bool r) ∧ Below w.heap.size w w' := by
 have HM := Aside0.mk hw_
 clear hw_
 have bm9 := Tryd.underlying23
 have bn0 := Tryd.underlying25
 have HB := Aside0.mk (Below.refl w.heap.size w)
 have H := h
 unfold laws_FnBeamsEndOfAll.f at H
 clear h
 have HT_l := Aside0.mk ht
 clear ht
 by_cases c6 : (a4.size : Int) > 1048576
 ·(
 rw [if_pos c6] at H
 have S2 : decide (1048576 < (a4.size : Int)) = true := decide_eq_true c6
 have S3 : decide (1048576 < a4.size) = true := decide_eq_true (by omega)
 clear c6
 obtain rfl := Option.some.inj H
 go_enter Tryd.func3, Tryd.ntmps3
 repeat (go_not_at_region 32; go_not_at_region 47; first | ((with_reducible refine gate_dst (N := 5) rfl ?_); (try (refine gate_guard (by rfl) ?_; dsimp only)); refine box_ (cs := #[.int .i64 a0_0, .int .i64 a0_1]) (t := 23) fun c4 hg w7 hbox hb => ?_; have a0 := Aside0.mk (hbox); have X5 := bS HB hg; have X6 := bS HB hg; replace HB := Aside0.mk (below_step bB hb); clear hb hbox hg) | ((with_reducible refine gate_dst (N := 6) rfl ?_); (try (refine gate_guard (by rfl) ?_; dsimp only)); refine box_ (cs := #[.int .i64 a1_0, .int .i64 a1_1, .bool a1_2, .bool a1_3]) (t := 25) fun g8 hg w8 hbox hb => ?_; have a1 := Aside0.mk (hbox); have X7 := bS HB hg; have X8 := bS HB hg; have c9 := bL a0 hg; have d0 := bM a0 hg; replace a0 := bQ a0 hb; replace HB := Aside0.mk (below_step bB hb); clear hb hbox hg) | ((with_reducible refine gate_dst (N := 7) rfl ?_); (try (refine gate_guard (by rfl) ?_; dsimp only)); refine box_ (cs := #[.int .i64 a2_0, .int .i64 a2_1]) (t := 23) fun b9 hg w9 hbox hb => ?_; have a2 := Aside0.mk (hbox); have X9 := bS HB hg; have Y0 := bS HB hg; have c1 := bL a0 hg; have c2 := bM a0 hg; have d7 := bL a1 hg; have d8 := bM a1 hg; replace a0 := bQ a0 hb; replace a1 := bQ a1 hb; replace HB := Aside0.mk (below_step bB hb); clear hb hbox hg) | (with_reducible refine rgl ?_) | go_skip | go_guarded | go_step | go_upon)
 go_ret
 exact ⟨sE, bI⟩
 )
 rw [if_neg c6] at H
 have S2 : decide (1048576 < (a4.size : Int)) = false := decide_eq_false c6
 have S3 : decide (1048576 < a4.size) = false := decide_eq_false (by omega)
 clear c6
 replace H := Option.bind_eq_some_iff.mp H; obtain ⟨⟨b5, j1⟩, S4, H⟩ := H; (try dsimp only at H); have A10 := Aside0.mk S4; clear S4
 replace H := Option.bind_eq_some_iff.mp H; obtain ⟨⟨S5, S6⟩, S7, H⟩ := H; (try dsimp only at H); have A11 := Aside0.mk S7; clear S7
 replace H := Option.bind_eq_some_iff.mp H; obtain ⟨⟨h3, g5, A0⟩, S8, H⟩ := H; (try dsimp only at H); have A12 := Aside0.mk S8; clear S8
 replace H := Option.bind_eq_some_iff.mp H; obtain ⟨⟨S9, T0, T1⟩, T2, H⟩ := H; (try dsimp only at H); have A13 := Aside0.mk T2; clear T2
 replace H := Option.bind_eq_some_iff.mp H; obtain ⟨⟨c3, A1⟩, T3, H⟩ := H; (try dsimp only at H); have A14 := Aside0.mk T3; clear T3
 replace H := Option.bind_eq_some_iff.mp H; obtain ⟨⟨T4, T5⟩, T6, H⟩ := H; (try dsimp only at H); have A15 := Aside0.mk T6; clear T6
 replace H := Option.bind_eq_some_iff.mp H; obtain ⟨⟨d4, A2⟩, T7, H⟩ := H; (try dsimp only at H); have A16 := Aside0.mk T7; clear T7
 replace H := Option.bind_eq_some_iff.mp H; obtain ⟨⟨T8, T9⟩, U0, H⟩ := H; (try dsimp only at H); have A17 := Aside0.mk U0; clear U0
 have A3 := Aside0.mk H
 clear H
 go_enter Tryd.func3, Tryd.ntmps3
 go_upto_region 11 with (first | ((with_reducible refine gate_dst (N := 5) rfl ?_); (try (refine gate_guard (by rfl) ?_; dsimp only)); refine box_ (cs := #[.int .i64 a0_0, .int .i64 a0_1]) (t := 23) fun c4 hg w19 hbox hb => ?_; have a0 := Aside0.mk (hbox); have X5 := bS HB hg; have X6 := bS HB hg; replace HB := Aside0.mk (below_step bB hb); clear hb hbox hg) | ((with_reducible refine gate_dst (N := 6) rfl ?_); (try (refine gate_guard (by rfl) ?_; dsimp only)); refine box_ (cs := #[.int .i64 a1_0, .int .i64 a1_1, .bool a1_2, .bool a1_3]) (t := 25) fun g8 hg w20 hbox hb => ?_; have a1 := Aside0.mk (hbox); have X7 := bS HB hg; have X8 := bS HB hg; have c9 := bL a0 hg; have d0 := bM a0 hg; replace a0 := bQ a0 hb; replace HB := Aside0.mk (below_step bB hb); clear hb hbox hg) | ((with_reducible refine gate_dst (N := 7) rfl ?_); (try (refine gate_guard (by rfl) ?_; dsimp only)); refine box_ (cs := #[.int .i64 a2_0, .int .i64 a2_1]) (t := 23) fun b9 hg w21 hbox hb => ?_; have a2 := Aside0.mk (hbox); have X9 := bS HB hg; have Y0 := bS HB hg; have c1 := bL a0 hg; have c2 := bM a0 hg; have d7 := bL a1 hg; have d8 := bM a1 hg; replace a0 := bQ a0 hb; replace a1 := bQ a1 hb; replace HB := Aside0.mk (below_step bB hb); clear hb hbox hg; have be9 := c9.out; have bf0 := d0.out; have bf1 := c1.out; have bf2 := c2.out; obtain ⟨G4, G5, G6, G7⟩ := cf2 a0; have bf3 := d7.out; have bf4 := d8.out; obtain ⟨G8, G9, I0, I1, I2, I3, I4, I5⟩ := cf4 a1) | ((with_reducible refine gate_callee (f := 4) rfl ?_); refine goesL_ (some 82) rfl rfl Tryd.func4 kr rfl #[.agg #[.int .i64 a0_0, .int .i64 a0_1], .agg #[.int .i64 a1_0, .int .i64 a1_1, .bool a1_2, .bool a1_3]] rfl sM ?_; (with_reducible refine (impl_StepsToCorner.calls a0_0 a0_1 a1_0 a1_1 a1_2 a1_3 b5 j1 _ A10.out).mono ?_); rintro e w27 ⟨rfl, hb⟩; refine ⟨_, rfl, ?_⟩; replace a0 := bQ a0 hb; replace a1 := bQ a1 hb; replace a2 := bQ a2 hb; replace HB := Aside0.mk (below_step bB hb); (try clear hb); obtain ⟨I6, I7, I8, I9⟩ := cf2 a0; obtain ⟨J0, J1, J2, J3, J4, J5, J6, J7⟩ := cf4 a1) | ((with_reducible refine gate_callee (f := 5) rfl ?_); refine goesL_ (some 88) rfl rfl Tryd.func5 kr rfl #[.agg #[.int .i64 a0_0, .int .i64 a0_1], .agg #[.int .i64 a1_0, .int .i64 a1_1, .bool a1_2, .bool a1_3]] rfl sM ?_; (with_reducible refine (spec_StepsToCorner.calls k a0_0 a0_1 a1_0 a1_1 a1_2 a1_3 S5 S6 _ A11.out).mono ?_); rintro e w30 ⟨rfl, hb⟩; refine ⟨_, rfl, ?_⟩; replace a0 := bQ a0 hb; replace a1 := bQ a1 hb; replace a2 := bQ a2 hb; replace HB := Aside0.mk (below_step bB hb); (try clear hb); obtain ⟨J8, J9, K0, K1⟩ := cf2 a0; obtain ⟨K2, K3, K4, K5, K6, K7, K8, K9⟩ := cf4 a1) | ((with_reducible refine gate_callee (f := 6) rfl ?_); refine goesL_ (some 94) rfl rfl Tryd.func6 kr rfl #[.agg #[.int .i64 a0_0, .int .i64 a0_1], .agg #[.int .i64 a1_0, .int .i64 a1_1, .bool a1_2, .bool a1_3]] rfl sM ?_; (with_reducible refine (impl_CornerOf.calls a0_0 a0_1 a1_0 a1_1 a1_2 a1_3 h3 g5 A0 _ A12.out).mono ?_); rintro e w33 ⟨rfl, hb⟩; refine ⟨_, rfl, ?_⟩; replace a0 := bQ a0 hb; replace a1 := bQ a1 hb; replace a2 := bQ a2 hb; replace HB := Aside0.mk (below_step bB hb); (try clear hb); obtain ⟨L0, L1, L2, L3⟩ := cf2 a0; obtain ⟨L4, L5, L6, L7, L8, L9, M0, M1⟩ := cf4 a1) | ((with_reducible refine gate_callee (f := 7) rfl ?_); refine goesL_ (some 101) rfl rfl Tryd.func7 kr rfl #[.agg #[.int .i64 a0_0, .int .i64 a0_1], .agg #[.int .i64 a1_0, .int .i64 a1_1, .bool a1_2, .bool a1_3]] rfl sM ?_; (with_reducible refine (spec_CornerOf.calls k a0_0 a0_1 a1_0 a1_1 a1_2 a1_3 S9 T0 T1 _ A13.out).mono ?_); rintro e w36 ⟨rfl, hb⟩; refine ⟨_, rfl, ?_⟩; replace a0 := bQ a0 hb; replace a1 := bQ a1 hb; replace a2 := bQ a2 hb; replace HB := Aside0.mk (below_step bB hb); (try clear hb); obtain ⟨M2, M3, M4, M5⟩ := cf2 a0; obtain ⟨M6, M7, M8, M9, N0, N1, N2, N3⟩ := cf4 a1) | ((with_reducible refine gate_callee (f := 8) rfl ?_); refine goesL_ (some 108) rfl rfl Tryd.func8 kr rfl #[.agg #[.int .i64 a0_0, .int .i64 a0_1], .agg #[.int .i64 a1_0, .int .i64 a1_1, .bool a1_2, .bool a1_3]] rfl sM ?_; (with_reducible refine (impl_BouncesToCorner.calls a0_0 a0_1 a1_0 a1_1 a1_2 a1_3 c3 A1 _ A14.out).mono ?_); rintro e w39 ⟨rfl, hb⟩; refine ⟨_, rfl, ?_⟩; replace a0 := bQ a0 hb; replace a1 := bQ a1 hb; replace a2 := bQ a2 hb; replace HB := Aside0.mk (below_step bB hb); (try clear hb); obtain ⟨N4, N5, N6, N7⟩ := cf2 a0; obtain ⟨N8, N9, O0, O1, O2, O3, O4, O5⟩ := cf4 a1) | ((with_reducible refine gate_callee (f := 9) rfl ?_); refine goesL_ (some 114) rfl rfl Tryd.func9 kr rfl #[.agg #[.int .i64 a0_0, .int .i64 a0_1], .agg #[.int .i64 a1_0, .int .i64 a1_1, .bool a1_2, .bool a1_3]] rfl sM ?_; (with_reducible refine (spec_BouncesToCorner.calls k a0_0 a0_1 a1_0 a1_1 a1_2 a1_3 T4 T5 _ A15.out).mono ?_); rintro e w42 ⟨rfl, hb⟩; refine ⟨_, rfl, ?_⟩; replace a0 := bQ a0 hb; replace a1 := bQ a1 hb; replace a2 := bQ a2 hb; replace HB := Aside0.mk (below_step bB hb); (try clear hb); obtain ⟨O6, O7, O8, O9⟩ := cf2 a0; obtain ⟨P0, P1, P2, P3, P4, P5, P6, P7⟩ := cf4 a1) | ((with_reducible refine gate_callee (f := 10) rfl ?_); refine goesL_ (some 120) rfl rfl Tryd.func10 kr rfl #[.agg #[.int .i64 a0_0, .int .i64 a0_1], .agg #[.int .i64 a1_0, .int .i64 a1_1, .bool a1_2, .bool a1_3]] rfl sM ?_; (with_reducible refine (impl_CountCrossings.calls a0_0 a0_1 a1_0 a1_1 a1_2 a1_3 d4 A2 _ A16.out).mono ?_); rintro e w45 ⟨rfl, hb⟩; refine ⟨_, rfl, ?_⟩; replace a0 := bQ a0 hb; replace a1 := bQ a1 hb; replace a2 := bQ a2 hb; replace HB := Aside0.mk (below_step bB hb); (try clear hb); obtain ⟨P8, P9, R0, R1⟩ := cf2 a0; obtain ⟨R2, R3, R4, R5, R6, R7, R8, R9⟩ := cf4 a1) | ((with_reducible refine gate_callee (f := 11) rfl ?_); refine goesL_ (some 126) rfl rfl Tryd.func11 kr rfl #[.agg #[.int .i64 a0_0, .int .i64 a0_1], .agg #[.int .i64 a1_0, .int .i64 a1_1, .bool a1_2, .bool a1_3]] rfl sM ?_; (with_reducible refine (spec_CountCrossings.calls k a0_0 a0_1 a1_0 a1_1 a1_2 a1_3 T8 T9 _ A17.out).mono ?_); rintro e w48 ⟨rfl, hb⟩; refine ⟨_, rfl, ?_⟩; replace a0 := bQ a0 hb; replace a1 := bQ a1 hb; replace a2 := bQ a2 hb; replace HB := Aside0.mk (below_step bB hb); (try clear hb)))
 (try simp only [Act.put, List.setIfInBounds_toArray, List.set_cons_zero, List.set_cons_succ])
 go_cut [186] from 186 to 186 (fun Z7 wc => ∃ (kq : Nat) (i9 : Bool), Z7 = .bool i9 ∧ Aside0 (laws_FnBeamsEndOfAll.j0 kq a3 a4 b5 j1 h3 g5 c3 d4 i9 a0_0 a0_1 a1_0 a1_1 a1_2 a1_3 a2_0 a2_1 = some r) ∧ Aside0 (kq ≤ k) ∧ Aside0 (wc.heap[c4]? = some (.cells #[.int .i64 a0_0, .int .i64 a0_1] 23 (0, 0))) ∧ Aside0 (wc.heap[g8]? = some (.cells #[.int .i64 a1_0, .int .i64 a1_1, .bool a1_2, .bool a1_3] 25 (0, 0))) ∧ Aside0 (wc.heap[b9]? = some (.cells #[.int .i64 a2_0, .int .i64 a2_1] 23 (0, 0))) ∧ Aside0 (Below w.heap.size w wc))
 case first => (
 as_aux_lemma => (
 have H := A3.out
 clear A3
 by_cases B5 : (j1 != S6) = true
 ·(
 rw [if_pos B5] at H
 exact absurd H (by cases k <;> simp [laws_FnBeamsEndOfAll.j0, HT_l.out])
 )
 rw [if_neg B5] at H
 obtain ⟨B6, bf5, bf6⟩ := nf B5
 clear B5
 (first | rw [B6] | (simp only [i64_w, i32_w]; rw [B6]) | skip)
 by_cases B7 : b5 = S5
 ·(
 rw [if_pos B7] at H
 obtain ⟨bf7, bf8⟩ := yE B7
 clear B7
 by_cases B8 : (A0 != T1) = true
 ·(
 rw [if_pos B8] at H
 exact absurd H (by cases k <;> simp [laws_FnBeamsEndOfAll.j0, HT_l.out])
 )
 rw [if_neg B8] at H
 obtain ⟨bf9, bg0, bg1⟩ := nf B8
 clear B8
 by_cases B9 : h3 = S9
 ·(
 rw [if_pos B9] at H
 obtain ⟨bg2, bg3⟩ := yE B9
 clear B9
 by_cases C0 : g5 = T0
 ·(
 rw [if_pos C0] at H
 obtain ⟨bg4, bg5⟩ := yE C0
 clear C0
 by_cases C1 : (A1 != T5) = true
 ·(
 rw [if_pos C1] at H
 exact absurd H (by cases k <;> simp [laws_FnBeamsEndOfAll.j0, HT_l.out])
 )
 rw [if_neg C1] at H
 obtain ⟨bg6, bg7, bg8⟩ := nf C1
 clear C1
 by_cases C2 : c3 = T4
 ·(
 rw [if_pos C2] at H
 obtain ⟨bg9, bh0⟩ := yE C2
 clear C2
 by_cases C3 : (A2 != T9) = true
 ·(
 rw [if_pos C3] at H
 exact absurd H (by cases k <;> simp [laws_FnBeamsEndOfAll.j0, HT_l.out])
 )
 rw [if_neg C3] at H
 obtain ⟨bh1, bh2, bh3⟩ := nf C3
 clear C3
 by_cases C4 : d4 = T8
 ·(
 rw [if_pos C4] at H
 obtain ⟨bh4, bh5⟩ := yE C4
 clear C4
 by_cases C5 : (A0 != j1) = true
 ·(
 rw [if_pos C5] at H
 exact absurd H (by cases k <;> simp [laws_FnBeamsEndOfAll.j0, HT_l.out])
 )
 rw [if_neg C5] at H
 obtain ⟨bh6, bh7, bh8⟩ := nf C5
 clear C5
 by_cases C6 : (A1 != j1) = true
 ·(
 rw [if_pos C6] at H
 exact absurd H (by cases k <;> simp [laws_FnBeamsEndOfAll.j0, HT_l.out])
 )
 rw [if_neg C6] at H
 obtain ⟨bh9, bi0, bi1⟩ := nf C6
 clear C6
 have H' := Aside0.mk H
 clear H
 repeat (go_not_at_region 32; go_not_at_region 47; first | (with_reducible refine rgl ?_) | go_skip | go_guarded | go_step | go_upon)
 go_meet
 case rel => exact ⟨_, ((A2 != j1)), sR, H', ⟨by first | exact Nat.le_refl _ | omega⟩, (bA a0), (bA a1), (bA a2), ⟨bB⟩⟩
 )
 rw [if_neg C4] at H
 exact absurd H (by cases k <;> simp [laws_FnBeamsEndOfAll.j0, HT_l.out])
 )
 rw [if_neg C2] at H
 exact absurd H (by cases k <;> simp [laws_FnBeamsEndOfAll.j0, HT_l.out])
 )
 rw [if_neg C0] at H
 exact absurd H (by cases k <;> simp [laws_FnBeamsEndOfAll.j0, HT_l.out])
 )
 rw [if_neg B9] at H
 exact absurd H (by cases k <;> simp [laws_FnBeamsEndOfAll.j0, HT_l.out])
 )
 rw [if_neg B7] at H
 exact absurd H (by cases k <;> simp [laws_FnBeamsEndOfAll.j0, HT_l.out])
 )
 )
 clear A3
 try clear S2
 try clear S3
 try clear G4
 try clear G5
 try clear G8
 try clear G9
 try clear I0
 try clear I1
 try clear I6
 try clear I7
 try clear J0
 try clear J1
 try clear J2
 try clear J3
 try clear J8
 try clear J9
 try clear K2
 try clear K3
 try clear K4
 try clear K5
 try clear L0
 try clear L1
 try clear L4
 try clear L5
 try clear L6
 try clear L7
 try clear M2
 try clear M3
 try clear M6
 try clear M7
 try clear M8
 try clear M9
 try clear N4
 try clear N5
 try clear N8
 try clear N9
 try clear O0
 try clear O1
 try clear O6
 try clear O7
 try clear P0
 try clear P1
 try clear P2
 try clear P3
 try clear P8
 try clear P9
 try clear R2
 try clear R3
 try clear R4
 try clear R5
 try clear G6
 try clear G7
 try clear I2
 try clear I3
 try clear I4
 try clear I5
 try clear I8
 try clear I9
 try clear J4
 try clear J5
 try clear J6
 try clear J7
 try clear K0
 try clear K1
 try clear K6
 try clear K7
 try clear K8
 try clear K9
 try clear L2
 try clear L3
 try clear L8
 try clear L9
 try clear M0
 try clear M1
 try clear M4
 try clear M5
 try clear N0
 try clear N1
 try clear N2
 try clear N3
 try clear N6
 try clear N7
 try clear O2
 try clear O3
 try clear O4
 try clear O5
 try clear O8
 try clear O9
 try clear P4
 try clear P5
 try clear P6
 try clear P7
 try clear R0
 try clear R1
 try clear R6
 try clear R7
 try clear R8
 try clear R9
 obtain ⟨kq, i9, rfl, HA, HJ17, a0, a1, a2, HB⟩ := hcut
 (try clear G4); (try clear G5); (try clear G6); (try clear G7); (try clear G8); (try clear G9); (try clear I0); (try clear I1); (try clear I2); (try clear I3); (try clear I4); (try clear I5); (try clear I6); (try clear I7); (try clear I8); (try clear I9); (try clear J0); (try clear J1); (try clear J2); (try clear J3); (try clear J4); (try clear J5); (try clear J6); (try clear J7); (try clear J8); (try clear J9); (try clear K0); (try clear K1); (try clear K2); (try clear K3); (try clear K4); (try clear K5); (try clear K6); (try clear K7); (try clear K8); (try clear K9); (try clear L0); (try clear L1); (try clear L2); (try clear L3); (try clear L4); (try clear L5); (try clear L6); (try clear L7); (try clear L8); (try clear L9); (try clear M0); (try clear M1); (try clear M2); (try clear M3); (try clear M4); (try clear M5); (try clear M6); (try clear M7); (try clear M8); (try clear M9); (try clear N0); (try clear N1); (try clear N2); (try clear N3); (try clear N4); (try clear N5); (try clear N6); (try clear N7); (try clear N8); (try clear N9); (try clear O0); (try clear O1); (try clear O2); (try clear O3); (try clear O4); (try clear O5); (try clear O6); (try clear O7); (try clear O8); (try clear O9); (try clear P0); (try clear P1); (try clear P2); (try clear P3); (try clear P4); (try clear P5); (try clear P6); (try clear P7); (try clear P8); (try clear P9); (try clear R0); (try clear R1); (try clear R2); (try clear R3); (try clear R4); (try clear R5); (try clear R6); (try clear R7); (try clear R8); (try clear R9); (try clear be9); (try clear bf0); (try clear bf1); (try clear bf2); (try clear bf3); (try clear bf4)
 cases kq with
 | zero => exact absurd HA.out (by simp [laws_FnBeamsEndOfAll.j0])
 | succ b0 => (
 as_aux_lemma => (
 have H := HA.out
 clear HA
 simp only [laws_FnBeamsEndOfAll.j0] at H
 by_cases C7 : i9 = true
 ·(
 subst C7
 rw [if_pos rfl] at H
 exact fy HT_l H
 )
 replace C7 := Bool.eq_false_iff.mpr C7
 subst C7
 rw [if_neg nft] at H
 have A4 := Aside0.mk H
 clear H
 repeat (go_not_at_if 187; first | (with_reducible refine rgl ?_) | go_skip | go_guarded | go_step | go_upon)
 go_cut [187] from 187 to 187 (fun bn1 wc => ∃ (kq : Nat), Aside0 (laws_FnBeamsEndOfAll.j2 kq a3 a4 a2_0 a2_1 = some r) ∧ Aside0 (kq ≤ b0) ∧ Aside0 (wc.heap[c4]? = some (.cells #[.int .i64 a0_0, .int .i64 a0_1] 23 (0, 0))) ∧ Aside0 (wc.heap[g8]? = some (.cells #[.int .i64 a1_0, .int .i64 a1_1, .bool a1_2, .bool a1_3] 25 (0, 0))) ∧ Aside0 (wc.heap[b9]? = some (.cells #[.int .i64 a2_0, .int .i64 a2_1] 23 (0, 0))) ∧ Aside0 (Below w.heap.size w wc))
 case first => (
 as_aux_lemma => (
 have H := A4.out
 clear A4
 by_cases C8 : j1 = true
 ·(
 subst C8
 rw [if_pos rfl] at H
 replace H := Option.bind_eq_some_iff.mp H; obtain ⟨⟨d5, d6, g6, g7, l2⟩, U1, H⟩ := H; (try dsimp only at H); have A63 := Aside0.mk U1; clear U1
 replace H := Option.bind_eq_some_iff.mp H; obtain ⟨⟨g9, h0, h1, h2, l3⟩, U2, H⟩ := H; (try dsimp only at H); have A64 := Aside0.mk U2; clear U2
 have A5 := Aside0.mk H
 clear H
 have bi2 := c9.out
 have bi3 := d0.out
 have bi4 := c1.out
 have bi5 := c2.out
 obtain ⟨al0, al1, al2, al3⟩ := cf2 a0
 have bi6 := d7.out
 have bi7 := d8.out
 obtain ⟨al4, al5, al6, al7, al8, al9, am0, am1⟩ := cf4 a1
 go_upto_region 16 with (first | ((with_reducible refine gate_callee (f := 12) rfl ?_); refine goesL_ (some 192) rfl rfl Tryd.func12 kr rfl #[.agg #[.int .i64 a0_0, .int .i64 a0_1], .agg #[.int .i64 a1_0, .int .i64 a1_1, .bool a1_2, .bool a1_3], .int .i64 b5] rfl sM ?_; (with_reducible refine (impl_BeamAfter.calls a0_0 a0_1 a1_0 a1_1 a1_2 a1_3 b5 d5 d6 g6 g7 l2 _ A63.out).mono ?_); rintro e w71 ⟨rfl, hb⟩; refine ⟨_, rfl, ?_⟩; replace a0 := bQ a0 hb; replace a1 := bQ a1 hb; replace a2 := bQ a2 hb; replace HB := Aside0.mk (below_step bB hb); (try clear hb)) | ((with_reducible refine gate_dst (N := 29) rfl ?_); (try (refine gate_guard (by rfl) ?_; dsimp only)); refine box_ (cs := #[.int .i64 0, .int .i64 0, .bool false, .bool false]) (t := 25) fun Y1 hg w72 hbox hb => ?_; have c0 := Aside0.mk (hbox); have bi8 := bS HB hg; have bi9 := bS HB hg; have d9 := bL a0 hg; have e0 := bM a0 hg; have e1 := bL a1 hg; have e2 := bM a1 hg; have e9 := bL a2 hg; have g0 := bM a2 hg; replace a0 := bQ a0 hb; replace a1 := bQ a1 hb; replace a2 := bQ a2 hb; replace HB := Aside0.mk (below_step bB hb); clear hb hbox hg; have bj0 := e0.out; have bj1 := d9.out; have bj2 := e2.out; have bj3 := e1.out; have bj4 := g0.out; have bj5 := e9.out; obtain ⟨am2, am3, am4, am5, am6, am7, am8, am9⟩ := cf4 c0; obtain ⟨an0, an1, an2, an3⟩ := cf2 a0; obtain ⟨an4, an5, an6, an7, an8, an9, ao0, ao1⟩ := cf4 a1) | ((with_reducible refine gate_callee (f := 12) rfl ?_); refine goesL_ (some 200) rfl rfl Tryd.func12 kr rfl #[.agg #[.int .i64 a0_0, .int .i64 a0_1], .agg #[.int .i64 a1_0, .int .i64 a1_1, .bool a1_2, .bool a1_3], .int .i64 (wrap64 (b5 + 1))] rfl sM ?_; (with_reducible refine (impl_BeamAfter.calls a0_0 a0_1 a1_0 a1_1 a1_2 a1_3 (wrap64 (b5 + 1)) g9 h0 h1 h2 l3 _ A64.out).mono ?_); rintro e w79 ⟨rfl, hb⟩; refine ⟨_, rfl, ?_⟩; replace a0 := bQ a0 hb; replace a1 := bQ a1 hb; replace a2 := bQ a2 hb; replace c0 := (bP (.cells #[.int .i64 d5, .int .i64 d6, .bool g6, .bool g7] 25 (0, 0)) c0 hb); replace HB := Aside0.mk (below_step bB hb); (try clear hb)) | ((with_reducible refine gate_dst (N := 31) rfl ?_); (try (refine gate_guard (by rfl) ?_; dsimp only)); refine box_ (cs := #[.int .i64 0, .int .i64 0, .bool false, .bool false]) (t := 25) fun Y2 hg w80 hbox hb => ?_; have d3 := Aside0.mk (hbox); have bj6 := bS HB hg; have bj7 := bS HB hg; have e3 := bL a0 hg; have e4 := bM a0 hg; have e5 := bL a1 hg; have e6 := bM a1 hg; have g1 := bL a2 hg; have g2 := bM a2 hg; have g3 := bL c0 hg; have g4 := bM c0 hg; replace a0 := bQ a0 hb; replace a1 := bQ a1 hb; replace a2 := bQ a2 hb; replace c0 := bQ c0 hb; replace HB := Aside0.mk (below_step bB hb); clear hb hbox hg; have bj8 := e4.out; have bj9 := e3.out; have bk0 := e6.out; have bk1 := e5.out; have bk2 := g2.out; have bk3 := g1.out; have bk4 := g4.out; have bk5 := g3.out; obtain ⟨ao2, ao3, ao4, ao5, ao6, ao7, ao8, ao9⟩ := cf4 d3))
 (try simp only [Act.put, List.setIfInBounds_toArray, List.set_cons_zero, List.set_cons_succ])
 go_cut [268] from 268 to 268 (fun Z8 wc => ∃ (kq : Nat) (j0 : Bool), Z8 = .bool j0 ∧ Aside0 (laws_FnBeamsEndOfAll.j1 kq a3 a4 b5 c3 j0 a0_0 a0_1 a1_0 a1_1 a1_2 a1_3 a2_0 a2_1 = some r) ∧ Aside0 (kq ≤ b0) ∧ Aside0 (wc.heap[c4]? = some (.cells #[.int .i64 a0_0, .int .i64 a0_1] 23 (0, 0))) ∧ Aside0 (wc.heap[g8]? = some (.cells #[.int .i64 a1_0, .int .i64 a1_1, .bool a1_2, .bool a1_3] 25 (0, 0))) ∧ Aside0 (wc.heap[b9]? = some (.cells #[.int .i64 a2_0, .int .i64 a2_1] 23 (0, 0))) ∧ Aside0 (wc.heap[Y1]? = some (.cells #[.int .i64 d5, .int .i64 d6, .bool g6, .bool g7] 25 (0, 0))) ∧ Aside0 (wc.heap[Y2]? = some (.cells #[.int .i64 g9, .int .i64 h0, .bool h1, .bool h2] 25 (0, 0))) ∧ Aside0 (Below w.heap.size w wc))
 case first => (
 as_aux_lemma => (
 have H := A5.out
 clear A5
 by_cases C9 : b5 < 1
 ·(
 rw [if_pos C9] at H
 exact absurd H (by cases b0 <;> simp [laws_FnBeamsEndOfAll.j1, HT_l.out])
 )
 rw [if_neg C9] at H
 have D0 : decide (b5 < 1) = false := decide_eq_false C9
 clear C9
 (first | rw [D0] | (simp only [i64_w, i32_w]; rw [D0]) | skip)
 by_cases v8 : h3 = 0
 ·(
 rw [if_pos v8] at H
 obtain ⟨Y3, Y4⟩ := yE v8
 clear v8
 by_cases v9 : g5 = 0
 ·(
 rw [if_pos v9] at H
 obtain ⟨Y5, Y6⟩ := yE v9
 clear v9
 by_cases D1 : l2 = true
 ·(
 subst D1
 rw [if_pos rfl] at H
 by_cases D2 : d5 = h3
 ·(
 rw [if_pos D2] at H
 obtain ⟨bk6, bk7⟩ := yE D2
 clear D2
 by_cases D3 : d6 = g5
 ·(
 rw [if_pos D3] at H
 obtain ⟨bk8, bk9⟩ := yE D3
 clear D3
 by_cases D4 : l3 = true
 ·(
 subst D4
 rw [if_pos rfl] at H
 by_cases D5 : (!(g9 == d5) || (!(h0 == d6) || (!(h1 == g6) || (!(h2 == g7))))) = true
 ·(
 rw [if_pos D5] at H
 exact absurd H (by cases b0 <;> simp [laws_FnBeamsEndOfAll.j1, HT_l.out])
 )
 rw [if_neg D5] at H
 have bl0 : (!(g9 == d5) || (!(h0 == d6) || (!(h1 == g6) || (!(h2 == g7))))) = false := by simpa using D5
 clear D5
 by_cases D6 : c3 < 0
 ·(
 rw [if_pos D6] at H
 exact absurd H (by cases b0 <;> simp [laws_FnBeamsEndOfAll.j1, HT_l.out])
 )
 rw [if_neg D6] at H
 have bl1 : decide (c3 < 0) = false := decide_eq_false D6
 clear D6
 by_cases D7 : c3 ≥ b5
 ·(
 rw [if_pos D7] at H
 exact absurd H (by cases b0 <;> simp [laws_FnBeamsEndOfAll.j1, HT_l.out])
 )
 rw [if_neg D7] at H
 have bl2 : decide (b5 ≤ c3) = false := decide_eq_false D7
 clear D7
 by_cases D8 : d4 < 0
 ·(
 rw [if_pos D8] at H
 exact absurd H (by cases b0 <;> simp [laws_FnBeamsEndOfAll.j1, HT_l.out])
 )
 rw [if_neg D8] at H
 have bl3 : decide (d4 < 0) = false := decide_eq_false D8
 clear D8
 have H' := Aside0.mk H
 clear H
 have bl4 := e0.out
 have bl5 := d9.out
 have bl6 := e2.out
 have bl7 := e1.out
 have bl8 := g0.out
 have bl9 := e9.out
 have aq1 := g3.out
 have aq2 := g4.out
 obtain ⟨Z9, a00, a01, a02, a03, a04, a05, a06⟩ := cf4 c0
 have aq3 := e4.out
 have aq4 := e3.out
 have aq5 := e6.out
 have aq6 := e5.out
 have aq7 := g2.out
 have aq8 := g1.out
 obtain ⟨a07, a08, a09, a10, a11, a12, a13, a14⟩ := cf4 d3
 repeat (go_not_at_region 32; go_not_at_region 47; first | (with_reducible refine rgl ?_) | go_skip | go_guarded | go_step | go_upon)
 go_meet
 case rel => exact ⟨_, (decide ((wrap64 (2 * d4)) > b5)), sR, H', ⟨laws_FnBeamsEndOfAll.jx⟩, (bA a0), (bA a1), (bA a2), (bA c0), (bA d3), ⟨bB⟩⟩
 )
 replace D4 := Bool.eq_false_iff.mpr D4
 subst D4
 rw [if_neg nft] at H
 exact absurd H (by cases b0 <;> simp [laws_FnBeamsEndOfAll.j1, HT_l.out])
 )
 rw [if_neg D3] at H
 exact absurd H (by cases b0 <;> simp [laws_FnBeamsEndOfAll.j1, HT_l.out])
 )
 rw [if_neg D2] at H
 exact absurd H (by cases b0 <;> simp [laws_FnBeamsEndOfAll.j1, HT_l.out])
 )
 replace D1 := Bool.eq_false_iff.mpr D1
 subst D1
 rw [if_neg nft] at H
 exact absurd H (by cases b0 <;> simp [laws_FnBeamsEndOfAll.j1, HT_l.out])
 )
 rw [if_neg v9] at H
 obtain ⟨Y5, Y6⟩ := nE v9
 by_cases m4 : g5 = a0_1
 ·(
 rw [if_pos m4] at H
 obtain ⟨aq9, ar0⟩ := yE m4
 clear m4
 by_cases m5 : l2 = true
 ·(
 subst m5
 rw [if_pos rfl] at H
 by_cases m6 : d5 = h3
 ·(
 rw [if_pos m6] at H
 obtain ⟨ar1, ar2⟩ := yE m6
 clear m6
 by_cases m7 : d6 = g5
 ·(
 rw [if_pos m7] at H
 obtain ⟨ar3, ar4⟩ := yE m7
 clear m7
 by_cases m8 : l3 = true
 ·(
 subst m8
 rw [if_pos rfl] at H
 by_cases m9 : (!(g9 == d5) || (!(h0 == d6) || (!(h1 == g6) || (!(h2 == g7))))) = true
 ·(
 rw [if_pos m9] at H
 exact absurd H (by cases b0 <;> simp [laws_FnBeamsEndOfAll.j1, HT_l.out])
 )
 rw [if_neg m9] at H
 have ar5 : (!(g9 == d5) || (!(h0 == d6) || (!(h1 == g6) || (!(h2 == g7))))) = false := by simpa using m9
 clear m9
 by_cases n0 : c3 < 0
 ·(
 rw [if_pos n0] at H
 exact absurd H (by cases b0 <;> simp [laws_FnBeamsEndOfAll.j1, HT_l.out])
 )
 rw [if_neg n0] at H
 have ar6 : decide (c3 < 0) = false := decide_eq_false n0
 clear n0
 by_cases n1 : c3 ≥ b5
 ·(
 rw [if_pos n1] at H
 exact absurd H (by cases b0 <;> simp [laws_FnBeamsEndOfAll.j1, HT_l.out])
 )
 rw [if_neg n1] at H
 have ar7 : decide (b5 ≤ c3) = false := decide_eq_false n1
 clear n1
 by_cases n2 : d4 < 0
 ·(
 rw [if_pos n2] at H
 exact absurd H (by cases b0 <;> simp [laws_FnBeamsEndOfAll.j1, HT_l.out])
 )
 rw [if_neg n2] at H
 have ar8 : decide (d4 < 0) = false := decide_eq_false n2
 clear n2
 have H' := Aside0.mk H
 clear H
 have ar9 := c9.out
 have as0 := d0.out
 have as1 := c1.out
 have as2 := c2.out
 have as3 := d9.out
 have as4 := e0.out
 have as5 := e3.out
 have as6 := e4.out
 obtain ⟨a15, a16, a17, a18⟩ := cf2 a0
 have as7 := e2.out
 have as8 := e1.out
 have as9 := g0.out
 have at0 := e9.out
 have at1 := g3.out
 have at2 := g4.out
 obtain ⟨a19, a20, a21, a22, a23, a24, a25, a26⟩ := cf4 c0
 have at3 := e6.out
 have at4 := e5.out
 have at5 := g2.out
 have at6 := g1.out
 obtain ⟨a27, a28, a29, a30, a31, a32, a33, a34⟩ := cf4 d3
 repeat (go_not_at_region 32; go_not_at_region 47; first | (with_reducible refine rgl ?_) | go_skip | go_guarded | go_step | go_upon)
 go_meet
 case rel => exact ⟨_, (decide ((wrap64 (2 * d4)) > b5)), sR, H', ⟨laws_FnBeamsEndOfAll.jx⟩, (bA a0), (bA a1), (bA a2), (bA c0), (bA d3), ⟨bB⟩⟩
 )
 replace m8 := Bool.eq_false_iff.mpr m8
 subst m8
 rw [if_neg nft] at H
 exact absurd H (by cases b0 <;> simp [laws_FnBeamsEndOfAll.j1, HT_l.out])
 )
 rw [if_neg m7] at H
 exact absurd H (by cases b0 <;> simp [laws_FnBeamsEndOfAll.j1, HT_l.out])
 )
 rw [if_neg m6] at H
 exact absurd H (by cases b0 <;> simp [laws_FnBeamsEndOfAll.j1, HT_l.out])
 )
 replace m5 := Bool.eq_false_iff.mpr m5
 subst m5
 rw [if_neg nft] at H
 exact absurd H (by cases b0 <;> simp [laws_FnBeamsEndOfAll.j1, HT_l.out])
 )
 rw [if_neg m4] at H
 exact absurd H (by cases b0 <;> simp [laws_FnBeamsEndOfAll.j1, HT_l.out])
 )
 rw [if_neg v8] at H
 obtain ⟨Y3, Y4⟩ := nE v8
 by_cases n3 : h3 = a0_0
 ·(
 rw [if_pos n3] at H
 obtain ⟨at7, at8⟩ := yE n3
 clear n3
 by_cases l4 : g5 = 0
 ·(
 rw [if_pos l4] at H
 obtain ⟨U3, U4⟩ := yE l4
 clear l4
 by_cases n4 : l2 = true
 ·(
 subst n4
 rw [if_pos rfl] at H
 by_cases n5 : d5 = h3
 ·(
 rw [if_pos n5] at H
 obtain ⟨at9, au0⟩ := yE n5
 clear n5
 by_cases n6 : d6 = g5
 ·(
 rw [if_pos n6] at H
 obtain ⟨au1, au2⟩ := yE n6
 clear n6
 by_cases n7 : l3 = true
 ·(
 subst n7
 rw [if_pos rfl] at H
 by_cases n8 : (!(g9 == d5) || (!(h0 == d6) || (!(h1 == g6) || (!(h2 == g7))))) = true
 ·(
 rw [if_pos n8] at H
 exact absurd H (by cases b0 <;> simp [laws_FnBeamsEndOfAll.j1, HT_l.out])
 )
 rw [if_neg n8] at H
 have au3 : (!(g9 == d5) || (!(h0 == d6) || (!(h1 == g6) || (!(h2 == g7))))) = false := by simpa using n8
 clear n8
 by_cases n9 : c3 < 0
 ·(
 rw [if_pos n9] at H
 exact absurd H (by cases b0 <;> simp [laws_FnBeamsEndOfAll.j1, HT_l.out])
 )
 rw [if_neg n9] at H
 have au4 : decide (c3 < 0) = false := decide_eq_false n9
 clear n9
 by_cases o0 : c3 ≥ b5
 ·(
 rw [if_pos o0] at H
 exact absurd H (by cases b0 <;> simp [laws_FnBeamsEndOfAll.j1, HT_l.out])
 )
 rw [if_neg o0] at H
 have au5 : decide (b5 ≤ c3) = false := decide_eq_false o0
 clear o0
 by_cases o1 : d4 < 0
 ·(
 rw [if_pos o1] at H
 exact absurd H (by cases b0 <;> simp [laws_FnBeamsEndOfAll.j1, HT_l.out])
 )
 rw [if_neg o1] at H
 have au6 : decide (d4 < 0) = false := decide_eq_false o1
 clear o1
 have H' := Aside0.mk H
 clear H
 have au7 := c9.out
 have au8 := d0.out
 have au9 := c1.out
 have av0 := c2.out
 have av1 := d9.out
 have av2 := e0.out
 have av3 := e3.out
 have av4 := e4.out
 obtain ⟨a35, a36, a37, a38⟩ := cf2 a0
 have av5 := e2.out
 have av6 := e1.out
 have av7 := g0.out
 have av8 := e9.out
 have av9 := g3.out
 have aw0 := g4.out
 obtain ⟨a39, a40, a41, a42, a43, a44, a45, a46⟩ := cf4 c0
 have aw1 := e6.out
 have aw2 := e5.out
 have aw3 := g2.out
 have aw4 := g1.out
 obtain ⟨a47, a48, a49, a50, a51, a52, a53, a54⟩ := cf4 d3
 repeat (go_not_at_region 32; go_not_at_region 47; first | (with_reducible refine rgl ?_) | go_skip | go_guarded | go_step | go_upon)
 go_meet
 case rel => exact ⟨_, (decide ((wrap64 (2 * d4)) > b5)), sR, H', ⟨laws_FnBeamsEndOfAll.jx⟩, (bA a0), (bA a1), (bA a2), (bA c0), (bA d3), ⟨bB⟩⟩
 )
 replace n7 := Bool.eq_false_iff.mpr n7
 subst n7
 rw [if_neg nft] at H
 exact absurd H (by cases b0 <;> simp [laws_FnBeamsEndOfAll.j1, HT_l.out])
 )
 rw [if_neg n6] at H
 exact absurd H (by cases b0 <;> simp [laws_FnBeamsEndOfAll.j1, HT_l.out])
 )
 rw [if_neg n5] at H
 exact absurd H (by cases b0 <;> simp [laws_FnBeamsEndOfAll.j1, HT_l.out])
 )
 replace n4 := Bool.eq_false_iff.mpr n4
 subst n4
 rw [if_neg nft] at H
 exact absurd H (by cases b0 <;> simp [laws_FnBeamsEndOfAll.j1, HT_l.out])
 )
 rw [if_neg l4] at H
 obtain ⟨U3, U4⟩ := nE l4
 by_cases o2 : g5 = a0_1
 ·(
 rw [if_pos o2] at H
 obtain ⟨aw5, aw6⟩ := yE o2
 clear o2
 by_cases o3 : l2 = true
 ·(
 subst o3
 rw [if_pos rfl] at H
 by_cases o4 : d5 = h3
 ·(
 rw [if_pos o4] at H
 obtain ⟨aw7, aw8⟩ := yE o4
 clear o4
 by_cases o5 : d6 = g5
 ·(
 rw [if_pos o5] at H
 obtain ⟨aw9, ax0⟩ := yE o5
 clear o5
 by_cases o6 : l3 = true
 ·(
 subst o6
 rw [if_pos rfl] at H
 by_cases o7 : (!(g9 == d5) || (!(h0 == d6) || (!(h1 == g6) || (!(h2 == g7))))) = true
 ·(
 rw [if_pos o7] at H
 exact absurd H (by cases b0 <;> simp [laws_FnBeamsEndOfAll.j1, HT_l.out])
 )
 rw [if_neg o7] at H
 have ax1 : (!(g9 == d5) || (!(h0 == d6) || (!(h1 == g6) || (!(h2 == g7))))) = false := by simpa using o7
 clear o7
 by_cases o8 : c3 < 0
 ·(
 rw [if_pos o8] at H
 exact absurd H (by cases b0 <;> simp [laws_FnBeamsEndOfAll.j1, HT_l.out])
 )
 rw [if_neg o8] at H
 have ax2 : decide (c3 < 0) = false := decide_eq_false o8
 clear o8
 by_cases o9 : c3 ≥ b5
 ·(
 rw [if_pos o9] at H
 exact absurd H (by cases b0 <;> simp [laws_FnBeamsEndOfAll.j1, HT_l.out])
 )
 rw [if_neg o9] at H
 have ax3 : decide (b5 ≤ c3) = false := decide_eq_false o9
 clear o9
 by_cases p0 : d4 < 0
 ·(
 rw [if_pos p0] at H
 exact absurd H (by cases b0 <;> simp [laws_FnBeamsEndOfAll.j1, HT_l.out])
 )
 rw [if_neg p0] at H
 have ax4 : decide (d4 < 0) = false := decide_eq_false p0
 clear p0
 have H' := Aside0.mk H
 clear H
 have ax5 := c9.out
 have ax6 := d0.out
 have ax7 := c1.out
 have ax8 := c2.out
 have ax9 := d9.out
 have ay0 := e0.out
 have ay1 := e3.out
 have ay2 := e4.out
 obtain ⟨a55, a56, a57, a58⟩ := cf2 a0
 have ay3 := e2.out
 have ay4 := e1.out
 have ay5 := g0.out
 have ay6 := e9.out
 have ay7 := g3.out
 have ay8 := g4.out
 obtain ⟨a59, a60, a61, a62, a63, a64, a65, a66⟩ := cf4 c0
 have ay9 := e6.out
 have az0 := e5.out
 have az1 := g2.out
 have az2 := g1.out
 obtain ⟨a67, a68, a69, a70, a71, a72, a73, a74⟩ := cf4 d3
 repeat (go_not_at_region 32; go_not_at_region 47; first | (with_reducible refine rgl ?_) | go_skip | go_guarded | go_step | go_upon)
 go_meet
 case rel => exact ⟨_, (decide ((wrap64 (2 * d4)) > b5)), sR, H', ⟨laws_FnBeamsEndOfAll.jx⟩, (bA a0), (bA a1), (bA a2), (bA c0), (bA d3), ⟨bB⟩⟩
 )
 replace o6 := Bool.eq_false_iff.mpr o6
 subst o6
 rw [if_neg nft] at H
 exact absurd H (by cases b0 <;> simp [laws_FnBeamsEndOfAll.j1, HT_l.out])
 )
 rw [if_neg o5] at H
 exact absurd H (by cases b0 <;> simp [laws_FnBeamsEndOfAll.j1, HT_l.out])
 )
 rw [if_neg o4] at H
 exact absurd H (by cases b0 <;> simp [laws_FnBeamsEndOfAll.j1, HT_l.out])
 )
 replace o3 := Bool.eq_false_iff.mpr o3
 subst o3
 rw [if_neg nft] at H
 exact absurd H (by cases b0 <;> simp [laws_FnBeamsEndOfAll.j1, HT_l.out])
 )
 rw [if_neg o2] at H
 exact absurd H (by cases b0 <;> simp [laws_FnBeamsEndOfAll.j1, HT_l.out])
 )
 rw [if_neg n3] at H
 exact absurd H (by cases b0 <;> simp [laws_FnBeamsEndOfAll.j1, HT_l.out])
 )
 )
 clear A5
 obtain ⟨kq, j0, rfl, HA, HJ64, a0, a1, a2, c0, d3, HB⟩ := hcut
 (try clear bi2); (try clear bi3); (try clear bi4); (try clear bi5); (try clear al0); (try clear al1); (try clear al2); (try clear al3); (try clear bi6); (try clear bi7); (try clear al4); (try clear al5); (try clear al6); (try clear al7); (try clear al8); (try clear al9); (try clear am0); (try clear am1); (try clear am2); (try clear am3); (try clear am4); (try clear am5); (try clear am6); (try clear am7); (try clear am8); (try clear am9); (try clear an0); (try clear an1); (try clear an2); (try clear an3); (try clear an4); (try clear an5); (try clear an6); (try clear an7); (try clear an8); (try clear an9); (try clear ao0); (try clear ao1); (try clear ao2); (try clear ao3); (try clear ao4); (try clear ao5); (try clear ao6); (try clear ao7); (try clear ao8); (try clear ao9); (try clear bj0); (try clear bj1); (try clear bj2); (try clear bj3); (try clear bj4); (try clear bj5); (try clear bj8); (try clear bj9); (try clear bk0); (try clear bk1); (try clear bk2); (try clear bk3); (try clear bk4); (try clear bk5)
 cases kq with
 | zero => exact absurd HA.out (by simp [laws_FnBeamsEndOfAll.j1])
 | succ bn2 => (
 as_aux_lemma => (
 have H := HA.out
 clear HA
 simp only [laws_FnBeamsEndOfAll.j1] at H
 by_cases p1 : j0 = true
 ·(
 subst p1
 rw [if_pos rfl] at H
 exact fy HT_l H
 )
 replace p1 := Bool.eq_false_iff.mpr p1
 subst p1
 rw [if_neg nft] at H
 by_cases j8 : b5 ≤ 1000
 ·(
 rw [if_pos j8] at H
 have U5 : decide (b5 ≤ 1000) = true := decide_eq_true j8
 clear j8
 replace H := Option.bind_eq_some_iff.mp H; obtain ⟨⟨U6, a75⟩, D9, H⟩ := H; (try dsimp only at H); have a76 := Aside0.mk D9; clear D9
 by_cases p2 : a75 = true
 ·(
 subst p2
 rw [if_pos rfl] at H
 by_cases p3 : (U6.size : Int) = c3
 ·(
 rw [if_pos p3] at H
 obtain ⟨az3, az4⟩ := yE p3
 clear p3
 have H' := Aside0.mk H
 clear H
 have az5 := c9.out
 have az6 := d0.out
 have az7 := c1.out
 have az8 := c2.out
 have az9 := d9.out
 have b00 := e0.out
 have b01 := e3.out
 have b02 := e4.out
 obtain ⟨a77, a78, a79, a80⟩ := cf2 a0
 have b03 := d7.out
 have b04 := d8.out
 have b05 := e1.out
 have b06 := e2.out
 have b07 := e5.out
 have b08 := e6.out
 obtain ⟨a81, a82, a83, a84, a85, a86, a87, a88⟩ := cf4 a1
 repeat (go_not_at_region 32; go_not_at_region 47; first | ((with_reducible refine gate_callee (f := 13) rfl ?_); refine goesL_ (some 275) rfl rfl Tryd.func13 kr rfl #[.agg #[.int .i64 a0_0, .int .i64 a0_1], .agg #[.int .i64 a1_0, .int .i64 a1_1, .bool a1_2, .bool a1_3], .int .i64 b5] rfl sM ?_; (with_reducible refine (impl_BouncesWithin.calls a0_0 a0_1 a1_0 a1_1 a1_2 a1_3 b5 U6 true _ a76.out).mono ?_); rintro e bn3 ⟨rfl, hb⟩; refine ⟨_, rfl, ?_⟩; replace a0 := bQ a0 hb; replace a1 := bQ a1 hb; replace a2 := bQ a2 hb; replace c0 := bQ c0 hb; replace d3 := bQ d3 hb; replace HB := Aside0.mk (below_step bB hb); (try clear hb)) | (with_reducible refine rgl ?_) | go_skip | go_guarded | go_step | go_upon)
 go_meet
 case rel => exact ⟨_, H', ⟨laws_FnBeamsEndOfAll.jx⟩, (bA a0), (bA a1), (bA a2), ⟨bB⟩⟩
 )
 rw [if_neg p3] at H
 exact fy HT_l H
 )
 replace p2 := Bool.eq_false_iff.mpr p2
 subst p2
 rw [if_neg nft] at H
 exact fy HT_l H
 )
 rw [if_neg j8] at H
 have U5 : decide (b5 ≤ 1000) = false := decide_eq_false j8
 clear j8
 have H' := Aside0.mk H
 clear H
 repeat (go_not_at_region 32; go_not_at_region 47; first | (with_reducible refine rgl ?_) | go_skip | go_guarded | go_step | go_upon)
 go_meet
 case rel => exact ⟨_, H', ⟨laws_FnBeamsEndOfAll.jx⟩, (bA a0), (bA a1), (bA a2), ⟨bB⟩⟩
 )
 )
 )
 replace C8 := Bool.eq_false_iff.mpr C8
 subst C8
 rw [if_neg nft] at H
 have H' := Aside0.mk H
 clear H
 repeat (go_not_at_region 32; go_not_at_region 47; first | (with_reducible refine rgl ?_) | go_skip | go_guarded | go_step | go_upon)
 go_meet
 case rel => exact ⟨_, H', ⟨laws_FnBeamsEndOfAll.jx⟩, (bA a0), (bA a1), (bA a2), ⟨bB⟩⟩
 )
 )
 clear A4
 obtain ⟨kq, HA, HJ60, a0, a1, a2, HB⟩ := hcut
 rename_i K_ aK_
 exact aK_ _ _ (hR_ k a0_0 a0_1 a1_0 a1_1 a1_2 a1_3 a2_0 a2_1 a3 a4 r w b5 j1 S5 S6 h3 g5 A0 S9 T0 T1 c3 A1 T4 T5 d4 A2 T8 T9 c4 g8 b9 u129 u130 u131 u132 u133 u134 u135 u136 u137 u138 u139 u140 u141 u142 u143 u144 u145 u146 u147 u148 u149 u150 u151 u152 u153 u154 u155 u156 u157 u158 u159 u160 u161 u162 u163 u164 u165 u166 u167 u168 u169 u170 u171 u172 u173 u174 u175 u176 u177 u178 u179 u180 u181 u182 u183 u184 u185 b0 wc u10 u29 u30 u31 u32 u33 u34 u187 u188 u189 u190 u191 u192 u193 u194 u195 u196 u197 u198 u199 u200 u201 u202 u203 u204 u205 u206 u207 u208 u209 u210 u211 u212 u213 u214 u215 u216 u217 u218 u219 u220 u221 u222 u223 u224 u225 u226 u227 u228 u229 u230 u231 u232 u233 u234 u235 u236 u237 u238 u239 u240 u241 u242 u243 u244 u245 u246 u247 u248 u249 u250 u251 u252 u253 u254 u255 u256 u257 u258 u259 u260 u261 u262 u263 u264 u265 u266 u267 u268 u269 u270 u271 u272 u273 u274 u275 u276 u277 u278 u279 u280 u281 u282 u283 u284 u285 kq HM HT_l A10 A11 A12 A13 A14 A15 A16 A17 X5 X6 X7 X8 c9 d0 X9 Y0 c1 c2 d7 d8 HJ17 HA HJ60 a0 a1 a2 HB)
 )
 )
end Go.Proofs.YtlmiaadpnbehgaaDoor.PFnBeamsEndOfAll
