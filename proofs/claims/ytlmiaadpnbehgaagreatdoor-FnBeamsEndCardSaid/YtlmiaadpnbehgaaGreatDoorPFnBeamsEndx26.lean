-- Written by split3.py: the law's walk up to its first cut.
import Derived.Test.YtlmiaadpnbehgaaGreatDoorVM
import Derived.Test.YtlmiaadpnbehgaaGreatDoorVF
import Derived.Test.YtlmiaadpnbehgaaGreatDoorVS
import Derived.Test.YtlmiaadpnbehgaaGreatDoorPFnBeamsEndx0
import Derived.Test.YtlmiaadpnbehgaaGreatDoorPFnBeamsEndx1
import Derived.Test.YtlmiaadpnbehgaaGreatDoorPFnBeamsEndx2
import Derived.Test.YtlmiaadpnbehgaaGreatDoorPFnBeamsEndx3
import Derived.Test.YtlmiaadpnbehgaaGreatDoorPFnBeamsEndx6
import Derived.Test.YtlmiaadpnbehgaaGreatDoorPFnBeamsEndx9
import Derived.Test.YtlmiaadpnbehgaaGreatDoorPFnBeamsEndx13
import Derived.Test.YtlmiaadpnbehgaaGreatDoorPFnBeamsEndx14
import Derived.Test.YtlmiaadpnbehgaaGreatDoorPFnBeamsEndx15
import Derived.Test.YtlmiaadpnbehgaaGreatDoorPFnBeamsEndx16
import Derived.Test.YtlmiaadpnbehgaaGreatDoorPFnBeamsEndx17
import Derived.Test.YtlmiaadpnbehgaaGreatDoorPFnBeamsEndx20
import Derived.Test.YtlmiaadpnbehgaaGreatDoorPFnBeamsEndx21
import Derived.Test.YtlmiaadpnbehgaaGreatDoorPFnBeamsEndx22
namespace Go.Proofs.YtlmiaadpnbehgaaGreatDoor.PFnBeamsEnd
open Go.Proofs.YtlmiaadpnbehgaaGreatDoorV Go.RowKit Go.Proofs.YtlmiaadpnbehgaaGreatDoorW.PrintWords Go.Proofs.YtlmiaadpnbehgaaGreatDoorW.PrintLast Go.Proofs.YtlmiaadpnbehgaaGreatDoorW.PrintMore
attribute [local go_sem] max2_int min2_int max_two min_two max_three min_three max_four min_four   -- for this text's walks alone
attribute [local go_sem ↓] rdl_zero rdl_succ eval_lit
set_option linter.unusedVariables false
set_option linter.unusedSimpArgs false
attribute [local go_sem high] eqA25 eqA27
set_option maxHeartbeats 100000000 in
set_option maxRecDepth 100000 in
theorem laws_FnBeamsEnd.calls0 (hR_ : laws_FnBeamsEnd.RestSaid1) (k : Nat) (A0 : Option Addr) (c0 : Nat) (l0 : List Int) (A1 : Option Addr) (c1 : Nat) (l1 : List Int) (r : Bool) (w : World) (hr0 : Kd.C (Kd.int .u8) w A0 l0.length l0) (hc0 : l0.length ≤ c0) (hr1 : Kd.C (Kd.int .u8) w A1 l1.length l1) (hc1 : l1.length ≤ c1) (h : laws_FnBeamsEnd.f k l0 l1 = some r) (ht : r = true) (hw_ : PtW w) :
    Calls Tryz.prog 3 #[.slice A0 l0.length c0, .slice A1 l1.length c1] w fun e w' => e = .returned (.bool r) ∧ Below w.heap.size w w' := by
 have HM := Aside0.mk hw_
 clear hw_
 have bm2 := Tryz.underlying25
 have bm3 := Tryz.underlying27
 have V1 := Aside0.mk hr0
 have V2 := Aside0.mk hc0
 clear hr0 hc0
 have x4 := Aside0.mk hr1
 have x5 := Aside0.mk hc1
 clear hr1 hc1
 have HB := Aside0.mk (Below.refl w.heap.size w)
 have H := h
 unfold laws_FnBeamsEnd.f at H
 clear h
 have HT_l := Aside0.mk ht
 clear ht
 replace H := Option.bind_eq_some_iff.mp H; obtain ⟨a22, A30, H⟩ := H; (try dsimp only at H); have A3 := Aside0.mk A30; clear A30
 by_cases c4 : a22 = true
 ·(
 subst c4
 rw [if_pos rfl] at H
 obtain rfl := Option.some.inj H
 go_enter Tryz.func3, Tryz.ntmps3
 repeat (go_not_at_region 36; go_not_at_region 51; first | ((with_reducible refine gate_callee (f := 4) rfl ?_); refine goesL_ (some 77) rfl rfl Tryz.func4 kr rfl #[.slice A0 l0.length c0, .slice A1 l1.length c1] rfl sM ?_; (with_reducible refine (laws_big.calls _ _ l0 _ _ l1 true _ ?side1 ?side2 ?side3 ?side4 A3.out).mono ?_); (case side1 => repeat (first | exact V1.out | (with_reducible refine Kd.C_alloc ?_ _) | (with_reducible refine Kd.C_drewN ?_ _) | (with_reducible refine Kd.C_drew ?_))); (case side2 => exact V2.out); (case side3 => repeat (first | exact x4.out | (with_reducible refine Kd.C_alloc ?_ _) | (with_reducible refine Kd.C_drewN ?_ _) | (with_reducible refine Kd.C_drew ?_))); (case side4 => exact x5.out); rintro e w' ⟨rfl, ⟨nd, rfl⟩⟩; refine ⟨_, rfl, ?_⟩) | (with_reducible refine rgl ?_) | go_skip | go_guarded | go_step | go_upon)
 go_ret
 exact ⟨sE, bI⟩
 )
 replace c4 := Bool.eq_false_iff.mpr c4
 subst c4
 rw [if_neg nft] at H
 replace H := Option.bind_eq_some_iff.mp H; obtain ⟨⟨b5, b3, b6, b7, b8, b9⟩, A50, H⟩ := H; (try dsimp only at H); have A5 := Aside0.mk A50; clear A50
 replace H := Option.bind_eq_some_iff.mp H; obtain ⟨⟨c6, j6⟩, A60, H⟩ := H; (try dsimp only at H); have A6 := Aside0.mk A60; clear A60
 replace H := Option.bind_eq_some_iff.mp H; obtain ⟨⟨V3, V4⟩, A70, H⟩ := H; (try dsimp only at H); have A7 := Aside0.mk A70; clear A70
 replace H := Option.bind_eq_some_iff.mp H; obtain ⟨⟨h5, g7, C0⟩, A80, H⟩ := H; (try dsimp only at H); have A8 := Aside0.mk A80; clear A80
 replace H := Option.bind_eq_some_iff.mp H; obtain ⟨⟨V5, V6, V7⟩, A90, H⟩ := H; (try dsimp only at H); have A9 := Aside0.mk A90; clear A90
 replace H := Option.bind_eq_some_iff.mp H; obtain ⟨⟨d1, C1⟩, V8, H⟩ := H; (try dsimp only at H); have A10 := Aside0.mk V8; clear V8
 replace H := Option.bind_eq_some_iff.mp H; obtain ⟨⟨V9, X0⟩, X1, H⟩ := H; (try dsimp only at H); have A11 := Aside0.mk X1; clear X1
 replace H := Option.bind_eq_some_iff.mp H; obtain ⟨⟨e0, C2⟩, X2, H⟩ := H; (try dsimp only at H); have A12 := Aside0.mk X2; clear X2
 replace H := Option.bind_eq_some_iff.mp H; obtain ⟨⟨X3, X4⟩, X5, H⟩ := H; (try dsimp only at H); have A13 := Aside0.mk X5; clear X5
 have C3 := Aside0.mk H
 clear H
 go_enter Tryz.func3, Tryz.ntmps3
 go_upto_region 12 with (first | ((with_reducible refine gate_callee (f := 4) rfl ?_); refine goesL_ (some 77) rfl rfl Tryz.func4 kr rfl #[.slice A0 l0.length c0, .slice A1 l1.length c1] rfl sM ?_; (with_reducible refine (laws_big.calls _ _ l0 _ _ l1 false _ ?side1 ?side2 ?side3 ?side4 A3.out).mono ?_); (case side1 => repeat (first | exact V1.out | (with_reducible refine Kd.C_alloc ?_ _) | (with_reducible refine Kd.C_drewN ?_ _) | (with_reducible refine Kd.C_drew ?_))); (case side2 => exact V2.out); (case side3 => repeat (first | exact x4.out | (with_reducible refine Kd.C_alloc ?_ _) | (with_reducible refine Kd.C_drewN ?_ _) | (with_reducible refine Kd.C_drew ?_))); (case side4 => exact x5.out); rintro e w' ⟨rfl, ⟨nd, rfl⟩⟩; refine ⟨_, rfl, ?_⟩) | ((with_reducible refine gate_callee (f := 5) rfl ?_); refine goesL_ (some 80) rfl rfl Tryz.func5 kr rfl #[.slice A0 l0.length c0] rfl sM ?_; (with_reducible refine (spec_DrawStepsToCorner.calls _ _ l0 b5 b3 b6 b7 b8 b9 _ ?side1 ?side2 A5.out).mono ?_); (case side1 => repeat (first | exact V1.out | (with_reducible refine Kd.C_alloc ?_ _) | (with_reducible refine Kd.C_drewN ?_ _) | (with_reducible refine Kd.C_drew ?_))); (case side2 => exact V2.out); rintro e w15 ⟨rfl, hb⟩; refine ⟨_, rfl, ?_⟩; replace HB := Aside0.mk (below_step bB hb); (try clear hb)) | ((with_reducible refine gate_dst (N := 5) rfl ?_); (try (refine gate_guard (by rfl) ?_; dsimp only)); refine box_ (cs := #[.int .i64 0, .int .i64 0]) (t := 25) fun d3 hg w16 hbox hb => ?_; have a2 := Aside0.mk (hbox); have bd7 := bS HB hg; have bd8 := bS HB hg; replace HB := Aside0.mk (below_step bB hb); clear hb hbox hg) | ((with_reducible refine gate_dst (N := 6) rfl ?_); (try (refine gate_guard (by rfl) ?_; dsimp only)); refine box_ (cs := #[.int .i64 0, .int .i64 0, .bool false, .bool false]) (t := 27) fun h6 hg w17 hbox hb => ?_; have a3 := Aside0.mk (hbox); have bd9 := bS HB hg; have be0 := bS HB hg; have e3 := bL a2 hg; have e4 := bM a2 hg; replace a2 := bQ a2 hb; replace HB := Aside0.mk (below_step bB hb); clear hb hbox hg; have be1 := e3.out; have be2 := e4.out; obtain ⟨K3, K4, K5, K6⟩ := cf2 a2; obtain ⟨K7, K8, K9, L0, L1, L2, L3, L4⟩ := cf4 a3) | ((with_reducible refine gate_callee (f := 6) rfl ?_); refine goesL_ (some 86) rfl rfl Tryz.func6 kr rfl #[.agg #[.int .i64 b5, .int .i64 b3], .agg #[.int .i64 b6, .int .i64 b7, .bool b8, .bool b9]] rfl sM ?_; (with_reducible refine (impl_StepsToCorner.calls b5 b3 b6 b7 b8 b9 c6 j6 _ A6.out).mono ?_); rintro e w21 ⟨rfl, hb⟩; refine ⟨_, rfl, ?_⟩; replace a2 := (bP (.cells #[.int .i64 b5, .int .i64 b3] 25 (0, 0)) a2 hb); replace a3 := (bP (.cells #[.int .i64 b6, .int .i64 b7, .bool b8, .bool b9] 27 (0, 0)) a3 hb); replace HB := Aside0.mk (below_step bB hb); (try clear hb); obtain ⟨L5, L6, L7, L8⟩ := cf2 a2; obtain ⟨L9, M0, M1, M2, M3, M4, M5, M6⟩ := cf4 a3) | ((with_reducible refine gate_callee (f := 7) rfl ?_); refine goesL_ (some 92) rfl rfl Tryz.func7 kr rfl #[.agg #[.int .i64 b5, .int .i64 b3], .agg #[.int .i64 b6, .int .i64 b7, .bool b8, .bool b9]] rfl sM ?_; (with_reducible refine (spec_StepsToCorner.calls k b5 b3 b6 b7 b8 b9 V3 V4 _ A7.out).mono ?_); rintro e w24 ⟨rfl, hb⟩; refine ⟨_, rfl, ?_⟩; replace a2 := bQ a2 hb; replace a3 := bQ a3 hb; replace HB := Aside0.mk (below_step bB hb); (try clear hb); obtain ⟨M7, M8, M9, N0⟩ := cf2 a2; obtain ⟨N1, N2, N3, N4, N5, N6, N7, N8⟩ := cf4 a3) | ((with_reducible refine gate_callee (f := 8) rfl ?_); refine goesL_ (some 98) rfl rfl Tryz.func8 kr rfl #[.agg #[.int .i64 b5, .int .i64 b3], .agg #[.int .i64 b6, .int .i64 b7, .bool b8, .bool b9]] rfl sM ?_; (with_reducible refine (impl_CornerOf.calls b5 b3 b6 b7 b8 b9 h5 g7 C0 _ A8.out).mono ?_); rintro e w27 ⟨rfl, hb⟩; refine ⟨_, rfl, ?_⟩; replace a2 := bQ a2 hb; replace a3 := bQ a3 hb; replace HB := Aside0.mk (below_step bB hb); (try clear hb); obtain ⟨N9, O0, O1, O2⟩ := cf2 a2; obtain ⟨O3, O4, O5, O6, O7, O8, O9, P0⟩ := cf4 a3) | ((with_reducible refine gate_callee (f := 9) rfl ?_); refine goesL_ (some 105) rfl rfl Tryz.func9 kr rfl #[.agg #[.int .i64 b5, .int .i64 b3], .agg #[.int .i64 b6, .int .i64 b7, .bool b8, .bool b9]] rfl sM ?_; (with_reducible refine (spec_CornerOf.calls k b5 b3 b6 b7 b8 b9 V5 V6 V7 _ A9.out).mono ?_); rintro e w30 ⟨rfl, hb⟩; refine ⟨_, rfl, ?_⟩; replace a2 := bQ a2 hb; replace a3 := bQ a3 hb; replace HB := Aside0.mk (below_step bB hb); (try clear hb); obtain ⟨P1, P2, P3, P4⟩ := cf2 a2; obtain ⟨P5, P6, P7, P8, P9, R0, R1, R2⟩ := cf4 a3) | ((with_reducible refine gate_callee (f := 10) rfl ?_); refine goesL_ (some 112) rfl rfl Tryz.func10 kr rfl #[.agg #[.int .i64 b5, .int .i64 b3], .agg #[.int .i64 b6, .int .i64 b7, .bool b8, .bool b9]] rfl sM ?_; (with_reducible refine (impl_BouncesToCorner.calls b5 b3 b6 b7 b8 b9 d1 C1 _ A10.out).mono ?_); rintro e w33 ⟨rfl, hb⟩; refine ⟨_, rfl, ?_⟩; replace a2 := bQ a2 hb; replace a3 := bQ a3 hb; replace HB := Aside0.mk (below_step bB hb); (try clear hb); obtain ⟨R3, R4, R5, R6⟩ := cf2 a2; obtain ⟨R7, R8, R9, S0, S1, S2, S3, S4⟩ := cf4 a3) | ((with_reducible refine gate_callee (f := 11) rfl ?_); refine goesL_ (some 118) rfl rfl Tryz.func11 kr rfl #[.agg #[.int .i64 b5, .int .i64 b3], .agg #[.int .i64 b6, .int .i64 b7, .bool b8, .bool b9]] rfl sM ?_; (with_reducible refine (spec_BouncesToCorner.calls k b5 b3 b6 b7 b8 b9 V9 X0 _ A11.out).mono ?_); rintro e w36 ⟨rfl, hb⟩; refine ⟨_, rfl, ?_⟩; replace a2 := bQ a2 hb; replace a3 := bQ a3 hb; replace HB := Aside0.mk (below_step bB hb); (try clear hb); obtain ⟨S5, S6, S7, S8⟩ := cf2 a2; obtain ⟨S9, T0, T1, T2, T3, T4, T5, T6⟩ := cf4 a3) | ((with_reducible refine gate_callee (f := 12) rfl ?_); refine goesL_ (some 124) rfl rfl Tryz.func12 kr rfl #[.agg #[.int .i64 b5, .int .i64 b3], .agg #[.int .i64 b6, .int .i64 b7, .bool b8, .bool b9]] rfl sM ?_; (with_reducible refine (impl_CountCrossings.calls b5 b3 b6 b7 b8 b9 e0 C2 _ A12.out).mono ?_); rintro e w39 ⟨rfl, hb⟩; refine ⟨_, rfl, ?_⟩; replace a2 := bQ a2 hb; replace a3 := bQ a3 hb; replace HB := Aside0.mk (below_step bB hb); (try clear hb); obtain ⟨T7, T8, T9, U0⟩ := cf2 a2; obtain ⟨U1, U2, U3, U4, U5, U6, U7, U8⟩ := cf4 a3) | ((with_reducible refine gate_callee (f := 13) rfl ?_); refine goesL_ (some 130) rfl rfl Tryz.func13 kr rfl #[.agg #[.int .i64 b5, .int .i64 b3], .agg #[.int .i64 b6, .int .i64 b7, .bool b8, .bool b9]] rfl sM ?_; (with_reducible refine (spec_CountCrossings.calls k b5 b3 b6 b7 b8 b9 X3 X4 _ A13.out).mono ?_); rintro e w42 ⟨rfl, hb⟩; refine ⟨_, rfl, ?_⟩; replace a2 := bQ a2 hb; replace a3 := bQ a3 hb; replace HB := Aside0.mk (below_step bB hb); (try clear hb)))
 (try simp only [Act.put, List.setIfInBounds_toArray, List.set_cons_zero, List.set_cons_succ])
 go_cut [190] from 190 to 190 (fun a23 wc => ∃ (kq : Nat) (j4 : Bool), a23 = .bool j4 ∧ Aside0 (laws_FnBeamsEnd.j0 kq l1 c6 j6 h5 g7 d1 e0 j4 b5 b3 b6 b7 b8 b9 = some r) ∧ Aside0 (kq ≤ k) ∧ Aside0 (wc.heap[d3]? = some (.cells #[.int .i64 b5, .int .i64 b3] 25 (0, 0))) ∧ Aside0 (wc.heap[h6]? = some (.cells #[.int .i64 b6, .int .i64 b7, .bool b8, .bool b9] 27 (0, 0))) ∧ Aside0 (Below w.heap.size w wc))
 case first => (
 as_aux_lemma => (
 have H := C3.out
 clear C3
 by_cases D5 : (j6 != V4) = true
 ·(
 rw [if_pos D5] at H
 exact absurd H (by cases k <;> simp [laws_FnBeamsEnd.j0, HT_l.out])
 )
 rw [if_neg D5] at H
 obtain ⟨D6, be3, be4⟩ := nf D5
 clear D5
 (first | rw [D6] | (simp only [i64_w, i32_w]; rw [D6]) | skip)
 by_cases D7 : c6 = V3
 ·(
 rw [if_pos D7] at H
 obtain ⟨be5, be6⟩ := yE D7
 clear D7
 by_cases D8 : (C0 != V7) = true
 ·(
 rw [if_pos D8] at H
 exact absurd H (by cases k <;> simp [laws_FnBeamsEnd.j0, HT_l.out])
 )
 rw [if_neg D8] at H
 obtain ⟨be7, be8, be9⟩ := nf D8
 clear D8
 by_cases D9 : h5 = V5
 ·(
 rw [if_pos D9] at H
 obtain ⟨bf0, bf1⟩ := yE D9
 clear D9
 by_cases E0 : g7 = V6
 ·(
 rw [if_pos E0] at H
 obtain ⟨bf2, bf3⟩ := yE E0
 clear E0
 by_cases E1 : (C1 != X0) = true
 ·(
 rw [if_pos E1] at H
 exact absurd H (by cases k <;> simp [laws_FnBeamsEnd.j0, HT_l.out])
 )
 rw [if_neg E1] at H
 obtain ⟨bf4, bf5, bf6⟩ := nf E1
 clear E1
 by_cases E2 : d1 = V9
 ·(
 rw [if_pos E2] at H
 obtain ⟨bf7, bf8⟩ := yE E2
 clear E2
 by_cases E3 : (C2 != X4) = true
 ·(
 rw [if_pos E3] at H
 exact absurd H (by cases k <;> simp [laws_FnBeamsEnd.j0, HT_l.out])
 )
 rw [if_neg E3] at H
 obtain ⟨bf9, bg0, bg1⟩ := nf E3
 clear E3
 by_cases E4 : e0 = X3
 ·(
 rw [if_pos E4] at H
 obtain ⟨bg2, bg3⟩ := yE E4
 clear E4
 by_cases E5 : (C0 != j6) = true
 ·(
 rw [if_pos E5] at H
 exact absurd H (by cases k <;> simp [laws_FnBeamsEnd.j0, HT_l.out])
 )
 rw [if_neg E5] at H
 obtain ⟨bg4, bg5, bg6⟩ := nf E5
 clear E5
 by_cases E6 : (C1 != j6) = true
 ·(
 rw [if_pos E6] at H
 exact absurd H (by cases k <;> simp [laws_FnBeamsEnd.j0, HT_l.out])
 )
 rw [if_neg E6] at H
 obtain ⟨bg7, bg8, bg9⟩ := nf E6
 clear E6
 have H' := Aside0.mk H
 clear H
 repeat (go_not_at_region 36; go_not_at_region 51; first | (with_reducible refine rgl ?_) | go_skip | go_guarded | go_step | go_upon)
 go_meet
 case rel => exact ⟨_, ((C2 != j6)), sR, H', ⟨by first | exact Nat.le_refl _ | omega⟩, (bA a2), (bA a3), ⟨bB⟩⟩
 )
 rw [if_neg E4] at H
 exact absurd H (by cases k <;> simp [laws_FnBeamsEnd.j0, HT_l.out])
 )
 rw [if_neg E2] at H
 exact absurd H (by cases k <;> simp [laws_FnBeamsEnd.j0, HT_l.out])
 )
 rw [if_neg E0] at H
 exact absurd H (by cases k <;> simp [laws_FnBeamsEnd.j0, HT_l.out])
 )
 rw [if_neg D9] at H
 exact absurd H (by cases k <;> simp [laws_FnBeamsEnd.j0, HT_l.out])
 )
 rw [if_neg D7] at H
 exact absurd H (by cases k <;> simp [laws_FnBeamsEnd.j0, HT_l.out])
 )
 )
 clear C3
 try clear K3
 try clear K4
 try clear K7
 try clear K8
 try clear K9
 try clear L0
 try clear L5
 try clear L6
 try clear L9
 try clear M0
 try clear M1
 try clear M2
 try clear M7
 try clear M8
 try clear N1
 try clear N2
 try clear N3
 try clear N4
 try clear N9
 try clear O0
 try clear O3
 try clear O4
 try clear O5
 try clear O6
 try clear P1
 try clear P2
 try clear P5
 try clear P6
 try clear P7
 try clear P8
 try clear R3
 try clear R4
 try clear R7
 try clear R8
 try clear R9
 try clear S0
 try clear S5
 try clear S6
 try clear S9
 try clear T0
 try clear T1
 try clear T2
 try clear T7
 try clear T8
 try clear U1
 try clear U2
 try clear U3
 try clear U4
 try clear K5
 try clear K6
 try clear L1
 try clear L2
 try clear L3
 try clear L4
 try clear L7
 try clear L8
 try clear M3
 try clear M4
 try clear M5
 try clear M6
 try clear M9
 try clear N0
 try clear N5
 try clear N6
 try clear N7
 try clear N8
 try clear O1
 try clear O2
 try clear O7
 try clear O8
 try clear O9
 try clear P0
 try clear P3
 try clear P4
 try clear P9
 try clear R0
 try clear R1
 try clear R2
 try clear R5
 try clear R6
 try clear S1
 try clear S2
 try clear S3
 try clear S4
 try clear S7
 try clear S8
 try clear T3
 try clear T4
 try clear T5
 try clear T6
 try clear T9
 try clear U0
 try clear U5
 try clear U6
 try clear U7
 try clear U8
 obtain ⟨kq, j4, rfl, HA, HJ13, a2, a3, HB⟩ := hcut
 (try clear K3); (try clear K4); (try clear K5); (try clear K6); (try clear K7); (try clear K8); (try clear K9); (try clear L0); (try clear L1); (try clear L2); (try clear L3); (try clear L4); (try clear L5); (try clear L6); (try clear L7); (try clear L8); (try clear L9); (try clear M0); (try clear M1); (try clear M2); (try clear M3); (try clear M4); (try clear M5); (try clear M6); (try clear M7); (try clear M8); (try clear M9); (try clear N0); (try clear N1); (try clear N2); (try clear N3); (try clear N4); (try clear N5); (try clear N6); (try clear N7); (try clear N8); (try clear N9); (try clear O0); (try clear O1); (try clear O2); (try clear O3); (try clear O4); (try clear O5); (try clear O6); (try clear O7); (try clear O8); (try clear O9); (try clear P0); (try clear P1); (try clear P2); (try clear P3); (try clear P4); (try clear P5); (try clear P6); (try clear P7); (try clear P8); (try clear P9); (try clear R0); (try clear R1); (try clear R2); (try clear R3); (try clear R4); (try clear R5); (try clear R6); (try clear R7); (try clear R8); (try clear R9); (try clear S0); (try clear S1); (try clear S2); (try clear S3); (try clear S4); (try clear S5); (try clear S6); (try clear S7); (try clear S8); (try clear S9); (try clear T0); (try clear T1); (try clear T2); (try clear T3); (try clear T4); (try clear T5); (try clear T6); (try clear T7); (try clear T8); (try clear T9); (try clear U0); (try clear U1); (try clear U2); (try clear U3); (try clear U4); (try clear U5); (try clear U6); (try clear U7); (try clear U8); (try clear be1); (try clear be2)
 cases kq with
 | zero => exact absurd HA.out (by simp [laws_FnBeamsEnd.j0])
 | succ b2 => (
 as_aux_lemma => (
 have H := HA.out
 clear HA
 simp only [laws_FnBeamsEnd.j0] at H
 by_cases E7 : j4 = true
 ·(
 subst E7
 rw [if_pos rfl] at H
 exact fy HT_l H
 )
 replace E7 := Bool.eq_false_iff.mpr E7
 subst E7
 rw [if_neg nft] at H
 have C4 := Aside0.mk H
 clear H
 repeat (go_not_at_if 191; first | (with_reducible refine rgl ?_) | go_skip | go_guarded | go_step | go_upon)
 go_cut [191] from 191 to 191 (fun bm4 wc => ∃ (kq : Nat), Aside0 (laws_FnBeamsEnd.j2 kq l1 = some r) ∧ Aside0 (kq ≤ b2) ∧ Aside0 (wc.heap[d3]? = some (.cells #[.int .i64 b5, .int .i64 b3] 25 (0, 0))) ∧ Aside0 (wc.heap[h6]? = some (.cells #[.int .i64 b6, .int .i64 b7, .bool b8, .bool b9] 27 (0, 0))) ∧ Aside0 (Below w.heap.size w wc))
 case first => (
 as_aux_lemma => (
 have H := C4.out
 clear C4
 by_cases E8 : j6 = true
 ·(
 subst E8
 rw [if_pos rfl] at H
 replace H := Option.bind_eq_some_iff.mp H; obtain ⟨⟨e1, e2, g8, g9, m3⟩, X6, H⟩ := H; (try dsimp only at H); have A57 := Aside0.mk X6; clear X6
 replace H := Option.bind_eq_some_iff.mp H; obtain ⟨⟨h0, h2, h3, h4, m4⟩, X7, H⟩ := H; (try dsimp only at H); have A58 := Aside0.mk X7; clear X7
 have C5 := Aside0.mk H
 clear H
 have bh0 := e3.out
 have bh1 := e4.out
 obtain ⟨am3, am4, am5, am6⟩ := cf2 a2
 obtain ⟨am7, am8, am9, an0, an1, an2, an3, an4⟩ := cf4 a3
 go_upto_region 17 with (first | ((with_reducible refine gate_callee (f := 14) rfl ?_); refine goesL_ (some 196) rfl rfl Tryz.func14 kr rfl #[.agg #[.int .i64 b5, .int .i64 b3], .agg #[.int .i64 b6, .int .i64 b7, .bool b8, .bool b9], .int .i64 c6] rfl sM ?_; (with_reducible refine (impl_BeamAfter.calls b5 b3 b6 b7 b8 b9 c6 e1 e2 g8 g9 m3 _ A57.out).mono ?_); rintro e w63 ⟨rfl, hb⟩; refine ⟨_, rfl, ?_⟩; replace a2 := bQ a2 hb; replace a3 := bQ a3 hb; replace HB := Aside0.mk (below_step bB hb); (try clear hb)) | ((with_reducible refine gate_dst (N := 25) rfl ?_); (try (refine gate_guard (by rfl) ?_; dsimp only)); refine box_ (cs := #[.int .i64 0, .int .i64 0, .bool false, .bool false]) (t := 27) fun a00 hg w64 hbox hb => ?_; have d0 := Aside0.mk (hbox); have bh2 := bS HB hg; have bh3 := bS HB hg; have e5 := bL a2 hg; have e6 := bM a2 hg; have e7 := bL a3 hg; have e8 := bM a3 hg; replace a2 := bQ a2 hb; replace a3 := bQ a3 hb; replace HB := Aside0.mk (below_step bB hb); clear hb hbox hg; have bh4 := e6.out; have bh5 := e5.out; have bh6 := e8.out; have bh7 := e7.out; obtain ⟨an5, an6, an7, an8, an9, ao0, ao1, ao2⟩ := cf4 d0; obtain ⟨ao3, ao4, ao5, ao6⟩ := cf2 a2; obtain ⟨ao7, ao8, ao9, ap0, ap1, ap2, ap3, ap4⟩ := cf4 a3) | ((with_reducible refine gate_callee (f := 14) rfl ?_); refine goesL_ (some 204) rfl rfl Tryz.func14 kr rfl #[.agg #[.int .i64 b5, .int .i64 b3], .agg #[.int .i64 b6, .int .i64 b7, .bool b8, .bool b9], .int .i64 (wrap64 (c6 + 1))] rfl sM ?_; (with_reducible refine (impl_BeamAfter.calls b5 b3 b6 b7 b8 b9 (wrap64 (c6 + 1)) h0 h2 h3 h4 m4 _ A58.out).mono ?_); rintro e w70 ⟨rfl, hb⟩; refine ⟨_, rfl, ?_⟩; replace a2 := bQ a2 hb; replace a3 := bQ a3 hb; replace d0 := (bP (.cells #[.int .i64 e1, .int .i64 e2, .bool g8, .bool g9] 27 (0, 0)) d0 hb); replace HB := Aside0.mk (below_step bB hb); (try clear hb)) | ((with_reducible refine gate_dst (N := 27) rfl ?_); (try (refine gate_guard (by rfl) ?_; dsimp only)); refine box_ (cs := #[.int .i64 0, .int .i64 0, .bool false, .bool false]) (t := 27) fun a01 hg w71 hbox hb => ?_; have d9 := Aside0.mk (hbox); have bh8 := bS HB hg; have bh9 := bS HB hg; have e9 := bL a2 hg; have g0 := bM a2 hg; have g1 := bL a3 hg; have g2 := bM a3 hg; have g5 := bL d0 hg; have g6 := bM d0 hg; replace a2 := bQ a2 hb; replace a3 := bQ a3 hb; replace d0 := bQ d0 hb; replace HB := Aside0.mk (below_step bB hb); clear hb hbox hg; have bi0 := g0.out; have bi1 := e9.out; have bi2 := g2.out; have bi3 := g1.out; have bi4 := g6.out; have bi5 := g5.out; obtain ⟨ap5, ap6, ap7, ap8, ap9, aq0, aq1, aq2⟩ := cf4 d9))
 (try simp only [Act.put, List.setIfInBounds_toArray, List.set_cons_zero, List.set_cons_succ])
 go_cut [272] from 272 to 272 (fun a24 wc => ∃ (kq : Nat) (j5 : Bool), a24 = .bool j5 ∧ Aside0 (laws_FnBeamsEnd.j1 kq l1 c6 d1 j5 b5 b3 b6 b7 b8 b9 = some r) ∧ Aside0 (kq ≤ b2) ∧ Aside0 (wc.heap[d3]? = some (.cells #[.int .i64 b5, .int .i64 b3] 25 (0, 0))) ∧ Aside0 (wc.heap[h6]? = some (.cells #[.int .i64 b6, .int .i64 b7, .bool b8, .bool b9] 27 (0, 0))) ∧ Aside0 (wc.heap[a00]? = some (.cells #[.int .i64 e1, .int .i64 e2, .bool g8, .bool g9] 27 (0, 0))) ∧ Aside0 (wc.heap[a01]? = some (.cells #[.int .i64 h0, .int .i64 h2, .bool h3, .bool h4] 27 (0, 0))) ∧ Aside0 (Below w.heap.size w wc))
 case first => (
 as_aux_lemma => (
 have H := C5.out
 clear C5
 by_cases E9 : c6 < 1
 ·(
 rw [if_pos E9] at H
 exact absurd H (by cases b2 <;> simp [laws_FnBeamsEnd.j1, HT_l.out])
 )
 rw [if_neg E9] at H
 have F0 : decide (c6 < 1) = false := decide_eq_false E9
 clear E9
 (first | rw [F0] | (simp only [i64_w, i32_w]; rw [F0]) | skip)
 by_cases x6 : h5 = 0
 ·(
 rw [if_pos x6] at H
 obtain ⟨a02, a03⟩ := yE x6
 clear x6
 by_cases x9 : g7 = 0
 ·(
 rw [if_pos x9] at H
 obtain ⟨a04, a05⟩ := yE x9
 clear x9
 by_cases F1 : m3 = true
 ·(
 subst F1
 rw [if_pos rfl] at H
 by_cases F2 : e1 = h5
 ·(
 rw [if_pos F2] at H
 obtain ⟨bi6, bi7⟩ := yE F2
 clear F2
 by_cases F3 : e2 = g7
 ·(
 rw [if_pos F3] at H
 obtain ⟨bi8, bi9⟩ := yE F3
 clear F3
 by_cases F4 : m4 = true
 ·(
 subst F4
 rw [if_pos rfl] at H
 by_cases F5 : (!(h0 == e1) || (!(h2 == e2) || (!(h3 == g8) || (!(h4 == g9))))) = true
 ·(
 rw [if_pos F5] at H
 exact absurd H (by cases b2 <;> simp [laws_FnBeamsEnd.j1, HT_l.out])
 )
 rw [if_neg F5] at H
 have bj0 : (!(h0 == e1) || (!(h2 == e2) || (!(h3 == g8) || (!(h4 == g9))))) = false := by simpa using F5
 clear F5
 by_cases F6 : d1 < 0
 ·(
 rw [if_pos F6] at H
 exact absurd H (by cases b2 <;> simp [laws_FnBeamsEnd.j1, HT_l.out])
 )
 rw [if_neg F6] at H
 have bj1 : decide (d1 < 0) = false := decide_eq_false F6
 clear F6
 by_cases F7 : d1 ≥ c6
 ·(
 rw [if_pos F7] at H
 exact absurd H (by cases b2 <;> simp [laws_FnBeamsEnd.j1, HT_l.out])
 )
 rw [if_neg F7] at H
 have bj2 : decide (c6 ≤ d1) = false := decide_eq_false F7
 clear F7
 by_cases F8 : e0 < 0
 ·(
 rw [if_pos F8] at H
 exact absurd H (by cases b2 <;> simp [laws_FnBeamsEnd.j1, HT_l.out])
 )
 rw [if_neg F8] at H
 have bj3 : decide (e0 < 0) = false := decide_eq_false F8
 clear F8
 have H' := Aside0.mk H
 clear H
 have bj4 := e6.out
 have bj5 := e5.out
 have bj6 := e8.out
 have bj7 := e7.out
 have bj8 := g5.out
 have bj9 := g6.out
 obtain ⟨aq3, aq4, aq5, aq6, aq7, aq8, aq9, ar0⟩ := cf4 d0
 have bk0 := g0.out
 have bk1 := e9.out
 have bk2 := g2.out
 have bk3 := g1.out
 obtain ⟨ar1, ar2, ar3, ar4, ar5, ar6, ar7, ar8⟩ := cf4 d9
 repeat (go_not_at_region 36; go_not_at_region 51; first | (with_reducible refine rgl ?_) | go_skip | go_guarded | go_step | go_upon)
 go_meet
 case rel => exact ⟨_, (decide ((wrap64 (2 * e0)) > c6)), sR, H', ⟨laws_FnBeamsEnd.jx⟩, (bA a2), (bA a3), (bA d0), (bA d9), ⟨bB⟩⟩
 )
 replace F4 := Bool.eq_false_iff.mpr F4
 subst F4
 rw [if_neg nft] at H
 exact absurd H (by cases b2 <;> simp [laws_FnBeamsEnd.j1, HT_l.out])
 )
 rw [if_neg F3] at H
 exact absurd H (by cases b2 <;> simp [laws_FnBeamsEnd.j1, HT_l.out])
 )
 rw [if_neg F2] at H
 exact absurd H (by cases b2 <;> simp [laws_FnBeamsEnd.j1, HT_l.out])
 )
 replace F1 := Bool.eq_false_iff.mpr F1
 subst F1
 rw [if_neg nft] at H
 exact absurd H (by cases b2 <;> simp [laws_FnBeamsEnd.j1, HT_l.out])
 )
 rw [if_neg x9] at H
 obtain ⟨a04, a05⟩ := nE x9
 by_cases F9 : g7 = b3
 ·(
 rw [if_pos F9] at H
 obtain ⟨bk4, bk5⟩ := yE F9
 clear F9
 by_cases G0 : m3 = true
 ·(
 subst G0
 rw [if_pos rfl] at H
 by_cases G1 : e1 = h5
 ·(
 rw [if_pos G1] at H
 obtain ⟨bk6, bk7⟩ := yE G1
 clear G1
 by_cases G2 : e2 = g7
 ·(
 rw [if_pos G2] at H
 obtain ⟨bk8, bk9⟩ := yE G2
 clear G2
 by_cases G3 : m4 = true
 ·(
 subst G3
 rw [if_pos rfl] at H
 by_cases G4 : (!(h0 == e1) || (!(h2 == e2) || (!(h3 == g8) || (!(h4 == g9))))) = true
 ·(
 rw [if_pos G4] at H
 exact absurd H (by cases b2 <;> simp [laws_FnBeamsEnd.j1, HT_l.out])
 )
 rw [if_neg G4] at H
 have bl0 : (!(h0 == e1) || (!(h2 == e2) || (!(h3 == g8) || (!(h4 == g9))))) = false := by simpa using G4
 clear G4
 by_cases n5 : d1 < 0
 ·(
 rw [if_pos n5] at H
 exact absurd H (by cases b2 <;> simp [laws_FnBeamsEnd.j1, HT_l.out])
 )
 rw [if_neg n5] at H
 have as6 : decide (d1 < 0) = false := decide_eq_false n5
 clear n5
 by_cases n6 : d1 ≥ c6
 ·(
 rw [if_pos n6] at H
 exact absurd H (by cases b2 <;> simp [laws_FnBeamsEnd.j1, HT_l.out])
 )
 rw [if_neg n6] at H
 have as7 : decide (c6 ≤ d1) = false := decide_eq_false n6
 clear n6
 by_cases n7 : e0 < 0
 ·(
 rw [if_pos n7] at H
 exact absurd H (by cases b2 <;> simp [laws_FnBeamsEnd.j1, HT_l.out])
 )
 rw [if_neg n7] at H
 have as8 : decide (e0 < 0) = false := decide_eq_false n7
 clear n7
 have H' := Aside0.mk H
 clear H
 have as9 := e3.out
 have at0 := e4.out
 have at1 := e5.out
 have at2 := e6.out
 have at3 := e9.out
 have at4 := g0.out
 obtain ⟨a25, a26, a27, a28⟩ := cf2 a2
 have at5 := e8.out
 have at6 := e7.out
 have at7 := g5.out
 have at8 := g6.out
 obtain ⟨a29, a30, a31, a32, a33, a34, a35, a36⟩ := cf4 d0
 have at9 := g2.out
 have au0 := g1.out
 obtain ⟨a37, a38, a39, a40, a41, a42, a43, a44⟩ := cf4 d9
 repeat (go_not_at_region 36; go_not_at_region 51; first | (with_reducible refine rgl ?_) | go_skip | go_guarded | go_step | go_upon)
 go_meet
 case rel => exact ⟨_, (decide ((wrap64 (2 * e0)) > c6)), sR, H', ⟨laws_FnBeamsEnd.jx⟩, (bA a2), (bA a3), (bA d0), (bA d9), ⟨bB⟩⟩
 )
 replace G3 := Bool.eq_false_iff.mpr G3
 subst G3
 rw [if_neg nft] at H
 exact absurd H (by cases b2 <;> simp [laws_FnBeamsEnd.j1, HT_l.out])
 )
 rw [if_neg G2] at H
 exact absurd H (by cases b2 <;> simp [laws_FnBeamsEnd.j1, HT_l.out])
 )
 rw [if_neg G1] at H
 exact absurd H (by cases b2 <;> simp [laws_FnBeamsEnd.j1, HT_l.out])
 )
 replace G0 := Bool.eq_false_iff.mpr G0
 subst G0
 rw [if_neg nft] at H
 exact absurd H (by cases b2 <;> simp [laws_FnBeamsEnd.j1, HT_l.out])
 )
 rw [if_neg F9] at H
 exact absurd H (by cases b2 <;> simp [laws_FnBeamsEnd.j1, HT_l.out])
 )
 rw [if_neg x6] at H
 obtain ⟨a02, a03⟩ := nE x6
 by_cases n8 : h5 = b5
 ·(
 rw [if_pos n8] at H
 obtain ⟨au1, au2⟩ := yE n8
 clear n8
 by_cases m5 : g7 = 0
 ·(
 rw [if_pos m5] at H
 obtain ⟨X8, X9⟩ := yE m5
 clear m5
 by_cases n9 : m3 = true
 ·(
 subst n9
 rw [if_pos rfl] at H
 by_cases o0 : e1 = h5
 ·(
 rw [if_pos o0] at H
 obtain ⟨au3, au4⟩ := yE o0
 clear o0
 by_cases o1 : e2 = g7
 ·(
 rw [if_pos o1] at H
 obtain ⟨au5, au6⟩ := yE o1
 clear o1
 by_cases o2 : m4 = true
 ·(
 subst o2
 rw [if_pos rfl] at H
 by_cases o3 : (!(h0 == e1) || (!(h2 == e2) || (!(h3 == g8) || (!(h4 == g9))))) = true
 ·(
 rw [if_pos o3] at H
 exact absurd H (by cases b2 <;> simp [laws_FnBeamsEnd.j1, HT_l.out])
 )
 rw [if_neg o3] at H
 have au7 : (!(h0 == e1) || (!(h2 == e2) || (!(h3 == g8) || (!(h4 == g9))))) = false := by simpa using o3
 clear o3
 by_cases o4 : d1 < 0
 ·(
 rw [if_pos o4] at H
 exact absurd H (by cases b2 <;> simp [laws_FnBeamsEnd.j1, HT_l.out])
 )
 rw [if_neg o4] at H
 have au8 : decide (d1 < 0) = false := decide_eq_false o4
 clear o4
 by_cases o5 : d1 ≥ c6
 ·(
 rw [if_pos o5] at H
 exact absurd H (by cases b2 <;> simp [laws_FnBeamsEnd.j1, HT_l.out])
 )
 rw [if_neg o5] at H
 have au9 : decide (c6 ≤ d1) = false := decide_eq_false o5
 clear o5
 by_cases o6 : e0 < 0
 ·(
 rw [if_pos o6] at H
 exact absurd H (by cases b2 <;> simp [laws_FnBeamsEnd.j1, HT_l.out])
 )
 rw [if_neg o6] at H
 have av0 : decide (e0 < 0) = false := decide_eq_false o6
 clear o6
 have H' := Aside0.mk H
 clear H
 have av1 := e3.out
 have av2 := e4.out
 have av3 := e5.out
 have av4 := e6.out
 have av5 := e9.out
 have av6 := g0.out
 obtain ⟨a45, a46, a47, a48⟩ := cf2 a2
 have av7 := e8.out
 have av8 := e7.out
 have av9 := g5.out
 have aw0 := g6.out
 obtain ⟨a49, a50, a51, a52, a53, a54, a55, a56⟩ := cf4 d0
 have aw1 := g2.out
 have aw2 := g1.out
 obtain ⟨a57, a58, a59, a60, a61, a62, a63, a64⟩ := cf4 d9
 repeat (go_not_at_region 36; go_not_at_region 51; first | (with_reducible refine rgl ?_) | go_skip | go_guarded | go_step | go_upon)
 go_meet
 case rel => exact ⟨_, (decide ((wrap64 (2 * e0)) > c6)), sR, H', ⟨laws_FnBeamsEnd.jx⟩, (bA a2), (bA a3), (bA d0), (bA d9), ⟨bB⟩⟩
 )
 replace o2 := Bool.eq_false_iff.mpr o2
 subst o2
 rw [if_neg nft] at H
 exact absurd H (by cases b2 <;> simp [laws_FnBeamsEnd.j1, HT_l.out])
 )
 rw [if_neg o1] at H
 exact absurd H (by cases b2 <;> simp [laws_FnBeamsEnd.j1, HT_l.out])
 )
 rw [if_neg o0] at H
 exact absurd H (by cases b2 <;> simp [laws_FnBeamsEnd.j1, HT_l.out])
 )
 replace n9 := Bool.eq_false_iff.mpr n9
 subst n9
 rw [if_neg nft] at H
 exact absurd H (by cases b2 <;> simp [laws_FnBeamsEnd.j1, HT_l.out])
 )
 rw [if_neg m5] at H
 obtain ⟨X8, X9⟩ := nE m5
 by_cases o7 : g7 = b3
 ·(
 rw [if_pos o7] at H
 obtain ⟨aw3, aw4⟩ := yE o7
 clear o7
 by_cases o8 : m3 = true
 ·(
 subst o8
 rw [if_pos rfl] at H
 by_cases o9 : e1 = h5
 ·(
 rw [if_pos o9] at H
 obtain ⟨aw5, aw6⟩ := yE o9
 clear o9
 by_cases p0 : e2 = g7
 ·(
 rw [if_pos p0] at H
 obtain ⟨aw7, aw8⟩ := yE p0
 clear p0
 by_cases p1 : m4 = true
 ·(
 subst p1
 rw [if_pos rfl] at H
 by_cases p2 : (!(h0 == e1) || (!(h2 == e2) || (!(h3 == g8) || (!(h4 == g9))))) = true
 ·(
 rw [if_pos p2] at H
 exact absurd H (by cases b2 <;> simp [laws_FnBeamsEnd.j1, HT_l.out])
 )
 rw [if_neg p2] at H
 have aw9 : (!(h0 == e1) || (!(h2 == e2) || (!(h3 == g8) || (!(h4 == g9))))) = false := by simpa using p2
 clear p2
 by_cases p3 : d1 < 0
 ·(
 rw [if_pos p3] at H
 exact absurd H (by cases b2 <;> simp [laws_FnBeamsEnd.j1, HT_l.out])
 )
 rw [if_neg p3] at H
 have ax0 : decide (d1 < 0) = false := decide_eq_false p3
 clear p3
 by_cases p4 : d1 ≥ c6
 ·(
 rw [if_pos p4] at H
 exact absurd H (by cases b2 <;> simp [laws_FnBeamsEnd.j1, HT_l.out])
 )
 rw [if_neg p4] at H
 have ax1 : decide (c6 ≤ d1) = false := decide_eq_false p4
 clear p4
 by_cases p5 : e0 < 0
 ·(
 rw [if_pos p5] at H
 exact absurd H (by cases b2 <;> simp [laws_FnBeamsEnd.j1, HT_l.out])
 )
 rw [if_neg p5] at H
 have ax2 : decide (e0 < 0) = false := decide_eq_false p5
 clear p5
 have H' := Aside0.mk H
 clear H
 have ax3 := e3.out
 have ax4 := e4.out
 have ax5 := e5.out
 have ax6 := e6.out
 have ax7 := e9.out
 have ax8 := g0.out
 obtain ⟨a65, a66, a67, a68⟩ := cf2 a2
 have ax9 := e8.out
 have ay0 := e7.out
 have ay1 := g5.out
 have ay2 := g6.out
 obtain ⟨a69, a70, a71, a72, a73, a74, a75, a76⟩ := cf4 d0
 have ay3 := g2.out
 have ay4 := g1.out
 obtain ⟨a77, a78, a79, a80, a81, a82, a83, a84⟩ := cf4 d9
 repeat (go_not_at_region 36; go_not_at_region 51; first | (with_reducible refine rgl ?_) | go_skip | go_guarded | go_step | go_upon)
 go_meet
 case rel => exact ⟨_, (decide ((wrap64 (2 * e0)) > c6)), sR, H', ⟨laws_FnBeamsEnd.jx⟩, (bA a2), (bA a3), (bA d0), (bA d9), ⟨bB⟩⟩
 )
 replace p1 := Bool.eq_false_iff.mpr p1
 subst p1
 rw [if_neg nft] at H
 exact absurd H (by cases b2 <;> simp [laws_FnBeamsEnd.j1, HT_l.out])
 )
 rw [if_neg p0] at H
 exact absurd H (by cases b2 <;> simp [laws_FnBeamsEnd.j1, HT_l.out])
 )
 rw [if_neg o9] at H
 exact absurd H (by cases b2 <;> simp [laws_FnBeamsEnd.j1, HT_l.out])
 )
 replace o8 := Bool.eq_false_iff.mpr o8
 subst o8
 rw [if_neg nft] at H
 exact absurd H (by cases b2 <;> simp [laws_FnBeamsEnd.j1, HT_l.out])
 )
 rw [if_neg o7] at H
 exact absurd H (by cases b2 <;> simp [laws_FnBeamsEnd.j1, HT_l.out])
 )
 rw [if_neg n8] at H
 exact absurd H (by cases b2 <;> simp [laws_FnBeamsEnd.j1, HT_l.out])
 )
 )
 clear C5
 obtain ⟨kq, j5, rfl, HA, HJ58, a2, a3, d0, d9, HB⟩ := hcut
 (try clear bh0); (try clear bh1); (try clear am3); (try clear am4); (try clear am5); (try clear am6); (try clear am7); (try clear am8); (try clear am9); (try clear an0); (try clear an1); (try clear an2); (try clear an3); (try clear an4); (try clear an5); (try clear an6); (try clear an7); (try clear an8); (try clear an9); (try clear ao0); (try clear ao1); (try clear ao2); (try clear ao3); (try clear ao4); (try clear ao5); (try clear ao6); (try clear ao7); (try clear ao8); (try clear ao9); (try clear ap0); (try clear ap1); (try clear ap2); (try clear ap3); (try clear ap4); (try clear ap5); (try clear ap6); (try clear ap7); (try clear ap8); (try clear ap9); (try clear aq0); (try clear aq1); (try clear aq2); (try clear bh4); (try clear bh5); (try clear bh6); (try clear bh7); (try clear bi0); (try clear bi1); (try clear bi2); (try clear bi3); (try clear bi4); (try clear bi5)
 cases kq with
 | zero => exact absurd HA.out (by simp [laws_FnBeamsEnd.j1])
 | succ bm5 => (
 as_aux_lemma => (
 have H := HA.out
 clear HA
 simp only [laws_FnBeamsEnd.j1] at H
 by_cases p6 : j5 = true
 ·(
 subst p6
 rw [if_pos rfl] at H
 exact fy HT_l H
 )
 replace p6 := Bool.eq_false_iff.mpr p6
 subst p6
 rw [if_neg nft] at H
 by_cases k3 : c6 ≤ 1000
 ·(
 rw [if_pos k3] at H
 have Y0 : decide (c6 ≤ 1000) = true := decide_eq_true k3
 clear k3
 replace H := Option.bind_eq_some_iff.mp H; obtain ⟨⟨Y1, a85⟩, G5, H⟩ := H; (try dsimp only at H); have a86 := Aside0.mk G5; clear G5
 by_cases p7 : a85 = true
 ·(
 subst p7
 rw [if_pos rfl] at H
 by_cases p8 : (Y1.size : Int) = d1
 ·(
 rw [if_pos p8] at H
 obtain ⟨ay5, ay6⟩ := yE p8
 clear p8
 have H' := Aside0.mk H
 clear H
 have ay7 := e3.out
 have ay8 := e4.out
 have ay9 := e5.out
 have az0 := e6.out
 have az1 := e9.out
 have az2 := g0.out
 obtain ⟨a87, a88, a89, a90⟩ := cf2 a2
 have az3 := e7.out
 have az4 := e8.out
 have az5 := g1.out
 have az6 := g2.out
 obtain ⟨a91, a92, a93, a94, a95, a96, a97, a98⟩ := cf4 a3
 repeat (go_not_at_region 36; go_not_at_region 51; first | ((with_reducible refine gate_callee (f := 15) rfl ?_); refine goesL_ (some 279) rfl rfl Tryz.func15 kr rfl #[.agg #[.int .i64 b5, .int .i64 b3], .agg #[.int .i64 b6, .int .i64 b7, .bool b8, .bool b9], .int .i64 c6] rfl sM ?_; (with_reducible refine (impl_BouncesWithin.calls b5 b3 b6 b7 b8 b9 c6 Y1 true _ a86.out).mono ?_); rintro e bm6 ⟨rfl, hb⟩; refine ⟨_, rfl, ?_⟩; replace a2 := bQ a2 hb; replace a3 := bQ a3 hb; replace d0 := bQ d0 hb; replace d9 := bQ d9 hb; replace HB := Aside0.mk (below_step bB hb); (try clear hb)) | (with_reducible refine rgl ?_) | go_skip | go_guarded | go_step | go_upon)
 go_meet
 case rel => exact ⟨_, H', ⟨laws_FnBeamsEnd.jx⟩, (bA a2), (bA a3), ⟨bB⟩⟩
 )
 rw [if_neg p8] at H
 exact fy HT_l H
 )
 replace p7 := Bool.eq_false_iff.mpr p7
 subst p7
 rw [if_neg nft] at H
 exact fy HT_l H
 )
 rw [if_neg k3] at H
 have Y0 : decide (c6 ≤ 1000) = false := decide_eq_false k3
 clear k3
 have H' := Aside0.mk H
 clear H
 repeat (go_not_at_region 36; go_not_at_region 51; first | (with_reducible refine rgl ?_) | go_skip | go_guarded | go_step | go_upon)
 go_meet
 case rel => exact ⟨_, H', ⟨laws_FnBeamsEnd.jx⟩, (bA a2), (bA a3), ⟨bB⟩⟩
 )
 )
 )
 replace E8 := Bool.eq_false_iff.mpr E8
 subst E8
 rw [if_neg nft] at H
 have H' := Aside0.mk H
 clear H
 repeat (go_not_at_region 36; go_not_at_region 51; first | (with_reducible refine rgl ?_) | go_skip | go_guarded | go_step | go_upon)
 go_meet
 case rel => exact ⟨_, H', ⟨laws_FnBeamsEnd.jx⟩, (bA a2), (bA a3), ⟨bB⟩⟩
 )
 )
 clear C4
 obtain ⟨kq, HA, HJ54, a2, a3, HB⟩ := hcut
 rename_i K_ aK_
 exact aK_ _ _ (hR_ k A0 c0 l0 A1 c1 l1 r w b5 b3 b6 b7 b8 b9 c6 j6 V3 V4 h5 g7 C0 V5 V6 V7 d1 C1 V9 X0 e0 C2 X3 X4 d3 h6 u133 u134 u135 u136 u137 u138 u139 u140 u141 u142 u143 u144 u145 u146 u147 u148 u149 u150 u151 u152 u153 u154 u155 u156 u157 u158 u159 u160 u161 u162 u163 u164 u165 u166 u167 u168 u169 u170 u171 u172 u173 u174 u175 u176 u177 u178 u179 u180 u181 u182 u183 u184 u185 u186 u187 u188 u189 b2 wc u4 u25 u26 u27 u28 u29 u30 u191 u192 u193 u194 u195 u196 u197 u198 u199 u200 u201 u202 u203 u204 u205 u206 u207 u208 u209 u210 u211 u212 u213 u214 u215 u216 u217 u218 u219 u220 u221 u222 u223 u224 u225 u226 u227 u228 u229 u230 u231 u232 u233 u234 u235 u236 u237 u238 u239 u240 u241 u242 u243 u244 u245 u246 u247 u248 u249 u250 u251 u252 u253 u254 u255 u256 u257 u258 u259 u260 u261 u262 u263 u264 u265 u266 u267 u268 u269 u270 u271 u272 u273 u274 u275 u276 u277 u278 u279 u280 u281 u282 u283 u284 u285 u286 u287 u288 u289 kq HM V1 V2 x4 x5 HT_l A3 A5 A6 A7 A8 A9 A10 A11 A12 A13 bd7 bd8 bd9 be0 e3 e4 HJ13 HA HJ54 a2 a3 HB)
 )
 )
end Go.Proofs.YtlmiaadpnbehgaaGreatDoor.PFnBeamsEnd
