-- Written by split3.py: the law's walk up to its first cut.
import Derived.Test.YthfbjofmcniogaaVM
import Derived.Test.YthfbjofmcniogaaVF
import Derived.Test.YthfbjofmcniogaaPFnBeamsGoOfAllx0
import Derived.Test.YthfbjofmcniogaaPFnBeamsGoOfAllx1
import Derived.Test.YthfbjofmcniogaaPFnBeamsGoOfAllx6
import Derived.Test.YthfbjofmcniogaaPFnBeamsGoOfAllx9
import Derived.Test.YthfbjofmcniogaaPFnBeamsGoOfAllx10
import Derived.Test.YthfbjofmcniogaaPFnBeamsGoOfAllx11
import Derived.Test.YthfbjofmcniogaaPFnBeamsGoOfAllx12
import Derived.Test.YthfbjofmcniogaaPFnBeamsGoOfAllx13
import Derived.Test.YthfbjofmcniogaaPFnBeamsGoOfAllx14
import Derived.Test.YthfbjofmcniogaaPFnBeamsGoOfAllx15
import Derived.Test.YthfbjofmcniogaaPFnBeamsGoOfAllx16
import Derived.Test.YthfbjofmcniogaaPFnBeamsGoOfAllx17
import Derived.Test.YthfbjofmcniogaaPFnBeamsGoOfAllx18
namespace Go.Proofs.Ythfbjofmcniogaa.PFnBeamsGoOfAll
open Go.Proofs.YthfbjofmcniogaaV Go.RowKit Go.Proofs.YthfbjofmcniogaaW.PrintWords Go.Proofs.YthfbjofmcniogaaW.PrintLast Go.Proofs.YthfbjofmcniogaaW.PrintMore
attribute [local go_sem] max2_int min2_int max_two min_two max_three min_three max_four min_four   -- for this text's walks alone
attribute [local go_sem ↓] rdl_zero rdl_succ eval_lit
set_option linter.unusedVariables false
set_option linter.unusedSimpArgs false
attribute [local go_sem high] eqA30
set_option maxHeartbeats 100000000 in
set_option maxRecDepth 100000 in
theorem laws_FnBeamsGoOfAll.calls0 (hR_ : laws_FnBeamsGoOfAll.RestSaid1) (k : Nat) (a0_0 : Int) (a0_1 : Int) (a1_0 : Int) (a1_1 : Int) (a1_2 : Bool) (a1_3 : Bool) (a2 : Int) (a3_0 : Int) (a3_1 : Int) (a4_0 : Int) (a4_1 : Int) (a4_2 : Bool) (a4_3 : Bool) (a5 : Int) (a6 : Int) (a7_0 : Int) (a7_1 : Int) (a8_0 : Int) (a8_1 : Int) (a8_2 : Bool) (a8_3 : Bool) (a9 : Int) (r : Bool) (w : World) (h : laws_FnBeamsGoOfAll.f k a0_0 a0_1 a1_0 a1_1 a1_2 a1_3 a2 a3_0 a3_1 a4_0 a4_1 a4_2 a4_3 a5 a6 a7_0 a7_1 a8_0 a8_1 a8_2 a8_3 a9 = some r) (ht : r = true) :
    Calls Try.prog 5 #[.agg #[.int .i64 a0_0, .int .i64 a0_1], .agg #[.int .i64 a1_0, .int .i64 a1_1, .bool a1_2, .bool a1_3], .int .i64 a2, .agg #[.int .i64 a3_0, .int .i64 a3_1], .agg #[.int .i64 a4_0, .int .i64 a4_1, .bool a4_2, .bool a4_3], .int .i64 a5, .int .i64 a6, .agg #[.int .i64 a7_0, .int .i64 a7_1], .agg #[.int .i64 a8_0, .int .i64 a8_1, .bool a8_2, .bool a8_3], .int .i64 a9] w fun e w' => e = .returned (.bool r) ∧ Below w.heap.size w w' := by
 have h41 := Try.underlying28
 have h42 := Try.underlying30
 have HB := Aside0.mk (Below.refl w.heap.size w)
 have H := h
 unfold laws_FnBeamsGoOfAll.f at H
 clear h
 have HT_l := Aside0.mk ht
 clear ht
 replace H := Option.bind_eq_some_iff.mp H; obtain ⟨⟨a0, C9⟩, b49, H⟩ := H; (try dsimp only at H); have A11 := Aside0.mk b49; clear b49
 replace H := Option.bind_eq_some_iff.mp H; obtain ⟨⟨P1, b50⟩, b51, H⟩ := H; (try dsimp only at H); have A12 := Aside0.mk b51; clear b51
 replace H := Option.bind_eq_some_iff.mp H; obtain ⟨⟨n7, n8⟩, b52, H⟩ := H; (try dsimp only at H); have A13 := Aside0.mk b52; clear b52
 replace H := Option.bind_eq_some_iff.mp H; obtain ⟨⟨b53, b54⟩, b55, H⟩ := H; (try dsimp only at H); have A14 := Aside0.mk b55; clear b55
 replace H := Option.bind_eq_some_iff.mp H; obtain ⟨⟨l3, l9⟩, b56, H⟩ := H; (try dsimp only at H); have A15 := Aside0.mk b56; clear b56
 replace H := Option.bind_eq_some_iff.mp H; obtain ⟨⟨b57, b58⟩, b59, H⟩ := H; (try dsimp only at H); have A16 := Aside0.mk b59; clear b59
 replace H := Option.bind_eq_some_iff.mp H; obtain ⟨⟨l4, l7⟩, b60, H⟩ := H; (try dsimp only at H); have A17 := Aside0.mk b60; clear b60
 replace H := Option.bind_eq_some_iff.mp H; obtain ⟨⟨b61, b62⟩, b63, H⟩ := H; (try dsimp only at H); have A18 := Aside0.mk b63; clear b63
 replace H := Option.bind_eq_some_iff.mp H; obtain ⟨⟨g5, g6, g7, g8, ae1⟩, b64, H⟩ := H; (try dsimp only at H); have A19 := Aside0.mk b64; clear b64
 replace H := Option.bind_eq_some_iff.mp H; obtain ⟨⟨h8, h9, i0, i1, b65⟩, b66, H⟩ := H; (try dsimp only at H); have A20 := Aside0.mk b66; clear b66
 have ae2 := Aside0.mk H
 clear H
 go_enter Try.func5, Try.ntmps5
 go_upto_region 11 with (first | ((with_reducible refine gate_dst (N := 10) rfl ?_); refine box_ (cs := #[.int .i64 a0_0, .int .i64 a0_1]) (t := 28) fun e9 hg w22 hbox hb => ?_; have a1 := Aside0.mk (hbox); have gq9 := bS HB hg; have gr0 := bS HB hg; replace HB := Aside0.mk (below_step bB hb); clear hb hbox hg) | ((with_reducible refine gate_dst (N := 11) rfl ?_); refine box_ (cs := #[.int .i64 a1_0, .int .i64 a1_1, .bool a1_2, .bool a1_3]) (t := 30) fun h2 hg w23 hbox hb => ?_; have a4 := Aside0.mk (hbox); have gr1 := bS HB hg; have gr2 := bS HB hg; have d6 := bL a1 hg; have d7 := bM a1 hg; replace a1 := bQ a1 hb; replace HB := Aside0.mk (below_step bB hb); clear hb hbox hg) | ((with_reducible refine gate_dst (N := 13) rfl ?_); refine box_ (cs := #[.int .i64 a3_0, .int .i64 a3_1]) (t := 28) fun k0 hg w24 hbox hb => ?_; have a7 := Aside0.mk (hbox); have gr3 := bS HB hg; have gr4 := bS HB hg; have d1 := bL a1 hg; have d2 := bM a1 hg; have o1 := bL a4 hg; have o2 := bM a4 hg; replace a1 := bQ a1 hb; replace a4 := bQ a4 hb; replace HB := Aside0.mk (below_step bB hb); clear hb hbox hg) | ((with_reducible refine gate_dst (N := 14) rfl ?_); refine box_ (cs := #[.int .i64 a4_0, .int .i64 a4_1, .bool a4_2, .bool a4_3]) (t := 30) fun k1 hg w25 hbox hb => ?_; have b0 := Aside0.mk (hbox); have gr5 := bS HB hg; have gr6 := bS HB hg; have d3 := bL a1 hg; have d4 := bM a1 hg; have o3 := bL a4 hg; have o4 := bM a4 hg; have G8 := bL a7 hg; have G9 := bM a7 hg; replace a1 := bQ a1 hb; replace a4 := bQ a4 hb; replace a7 := bQ a7 hb; replace HB := Aside0.mk (below_step bB hb); clear hb hbox hg) | ((with_reducible refine gate_dst (N := 17) rfl ?_); refine box_ (cs := #[.int .i64 a7_0, .int .i64 a7_1]) (t := 28) fun h4 hg w26 hbox hb => ?_; have a8 := Aside0.mk (hbox); have gr7 := bS HB hg; have gr8 := bS HB hg; have c2 := bL a1 hg; have c3 := bM a1 hg; have h6 := bL a4 hg; have h7 := bM a4 hg; have k3 := bL a7 hg; have k4 := bM a7 hg; have k6 := bL b0 hg; have k7 := bM b0 hg; replace a1 := bQ a1 hb; replace a4 := bQ a4 hb; replace a7 := bQ a7 hb; replace b0 := bQ b0 hb; replace HB := Aside0.mk (below_step bB hb); clear hb hbox hg) | ((with_reducible refine gate_dst (N := 18) rfl ?_); refine box_ (cs := #[.int .i64 a8_0, .int .i64 a8_1, .bool a8_2, .bool a8_3]) (t := 30) fun k2 hg w27 hbox hb => ?_; have b1 := Aside0.mk (hbox); have gr9 := bS HB hg; have gs0 := bS HB hg; have c6 := bL a1 hg; have c7 := bM a1 hg; have m0 := bL a4 hg; have m1 := bM a4 hg; have s4 := bL a7 hg; have s5 := bM a7 hg; have s6 := bL b0 hg; have s7 := bM b0 hg; have l5 := bL a8 hg; have l6 := bM a8 hg; replace a1 := bQ a1 hb; replace a4 := bQ a4 hb; replace a7 := bQ a7 hb; replace b0 := bQ b0 hb; replace a8 := bQ a8 hb; replace HB := Aside0.mk (below_step bB hb); clear hb hbox hg; have gs1 := d6.out; have gs2 := d7.out; have gs3 := d1.out; have gs4 := d2.out; have gs5 := d3.out; have gs6 := d4.out; have gs7 := c2.out; have gs8 := c3.out; have gs9 := c6.out; have gt0 := c7.out; obtain ⟨ch5, ch6, ch7, ch8⟩ := cf2 a1; have gt1 := o1.out; have gt2 := o2.out; have gt3 := o3.out; have gt4 := o4.out; have gt5 := h6.out; have gt6 := h7.out; have gt7 := m0.out; have gt8 := m1.out; obtain ⟨ch9, ci0, ci1, ci2, ci3, ci4, ci5, ci6⟩ := cf4 a4) | ((with_reducible refine gate_callee (f := 13) rfl ?_); refine goesL_ (some 90) rfl rfl Try.func13 kr rfl #[.agg #[.int .i64 a0_0, .int .i64 a0_1], .agg #[.int .i64 a1_0, .int .i64 a1_1, .bool a1_2, .bool a1_3], .int .i64 a2] rfl sM ?_; (with_reducible refine (impl_PlacesOfBeam.calls a0_0 a0_1 a1_0 a1_1 a1_2 a1_3 a2 a0 C9 _ A11.out).mono ?_); rintro e w39 ⟨D0, rfl, N8, hb⟩; refine ⟨_, rfl, ?_⟩; have d8 := Aside0.mk (Kd.S_lower N8 (below_size bB)); replace a1 := bQ a1 hb; replace a4 := bQ a4 hb; replace a7 := bQ a7 hb; replace b0 := bQ b0 hb; replace a8 := bQ a8 hb; replace b1 := bQ b1 hb; replace HB := Aside0.mk (below_step bB hb); (try clear hb); (try clear N8); obtain ⟨ci7, ci8, ci9, cj0⟩ := cf2 a1; obtain ⟨cj1, cj2, cj3, cj4, cj5, cj6, cj7, cj8⟩ := cf4 a4) | ((with_reducible refine gate_callee (f := 14) rfl ?_); refine goesL_ (some 97) rfl rfl Try.func14 kr rfl #[.agg #[.int .i64 a0_0, .int .i64 a0_1], .agg #[.int .i64 a1_0, .int .i64 a1_1, .bool a1_2, .bool a1_3], .int .i64 a2] rfl sM ?_; (with_reducible refine (spec_PlacesOfBeam.calls k a0_0 a0_1 a1_0 a1_1 a1_2 a1_3 a2 P1 b50 _ A12.out).mono ?_); rintro e w42 ⟨b67, rfl, N8, hb⟩; refine ⟨_, rfl, ?_⟩; have g0 := Aside0.mk (Kd.S_lower (Kd.S_new' N8 (Kd.S_lt (oS d8))) (below_size bB)); replace d8 := Aside0.mk (Kd.S_elder' (oS d8) (Kd.S_base N8) hb); replace a1 := bQ a1 hb; replace a4 := bQ a4 hb; replace a7 := bQ a7 hb; replace b0 := bQ b0 hb; replace a8 := bQ a8 hb; replace b1 := bQ b1 hb; replace HB := Aside0.mk (below_step bB hb); (try clear hb); (try clear N8); obtain ⟨cj9, ck0, ck1, ck2⟩ := cf2 a1; obtain ⟨ck3, ck4, ck5, ck6, ck7, ck8, ck9, cl0⟩ := cf4 a4) | ((with_reducible refine gate_callee (f := 15) rfl ?_); refine goesL_ (some 103) rfl rfl Try.func15 kr rfl #[.agg #[.int .i64 a0_0, .int .i64 a0_1], .agg #[.int .i64 a1_0, .int .i64 a1_1, .bool a1_2, .bool a1_3]] rfl sM ?_; (with_reducible refine (impl_StepsToCorner.calls a0_0 a0_1 a1_0 a1_1 a1_2 a1_3 n7 n8 _ A13.out).mono ?_); rintro e w45 ⟨rfl, hb⟩; refine ⟨_, rfl, ?_⟩; replace d8 := Aside0.mk (Kd.S_below (oS d8) hb); replace g0 := Aside0.mk (Kd.S_below (oS g0) hb); replace a1 := bQ a1 hb; replace a4 := bQ a4 hb; replace a7 := bQ a7 hb; replace b0 := bQ b0 hb; replace a8 := bQ a8 hb; replace b1 := bQ b1 hb; replace HB := Aside0.mk (below_step bB hb); (try clear hb); obtain ⟨cl1, cl2, cl3, cl4⟩ := cf2 a1; obtain ⟨cl5, cl6, cl7, cl8, cl9, cm0, cm1, cm2⟩ := cf4 a4) | ((with_reducible refine gate_callee (f := 16) rfl ?_); refine goesL_ (some 109) rfl rfl Try.func16 kr rfl #[.agg #[.int .i64 a0_0, .int .i64 a0_1], .agg #[.int .i64 a1_0, .int .i64 a1_1, .bool a1_2, .bool a1_3]] rfl sM ?_; (with_reducible refine (spec_StepsToCorner.calls k a0_0 a0_1 a1_0 a1_1 a1_2 a1_3 b53 b54 _ A14.out).mono ?_); rintro e w48 ⟨rfl, hb⟩; refine ⟨_, rfl, ?_⟩; replace d8 := Aside0.mk (Kd.S_below (oS d8) hb); replace g0 := Aside0.mk (Kd.S_below (oS g0) hb); replace a1 := bQ a1 hb; replace a4 := bQ a4 hb; replace a7 := bQ a7 hb; replace b0 := bQ b0 hb; replace a8 := bQ a8 hb; replace b1 := bQ b1 hb; replace HB := Aside0.mk (below_step bB hb); (try clear hb); obtain ⟨cm3, cm4, cm5, cm6⟩ := cf2 a1; obtain ⟨cm7, cm8, cm9, cn0, cn1, cn2, cn3, cn4⟩ := cf4 a4) | ((with_reducible refine gate_callee (f := 17) rfl ?_); refine goesL_ (some 115) rfl rfl Try.func17 kr rfl #[.agg #[.int .i64 a0_0, .int .i64 a0_1], .agg #[.int .i64 a1_0, .int .i64 a1_1, .bool a1_2, .bool a1_3]] rfl sM ?_; (with_reducible refine (impl_PeriodOfBeam.calls a0_0 a0_1 a1_0 a1_1 a1_2 a1_3 l3 l9 _ A15.out).mono ?_); rintro e w51 ⟨rfl, hb⟩; refine ⟨_, rfl, ?_⟩; replace d8 := Aside0.mk (Kd.S_below (oS d8) hb); replace g0 := Aside0.mk (Kd.S_below (oS g0) hb); replace a1 := bQ a1 hb; replace a4 := bQ a4 hb; replace a7 := bQ a7 hb; replace b0 := bQ b0 hb; replace a8 := bQ a8 hb; replace b1 := bQ b1 hb; replace HB := Aside0.mk (below_step bB hb); (try clear hb); obtain ⟨cn5, cn6, cn7, cn8⟩ := cf2 a1; obtain ⟨cn9, co0, co1, co2, co3, co4, co5, co6⟩ := cf4 a4) | ((with_reducible refine gate_callee (f := 18) rfl ?_); refine goesL_ (some 121) rfl rfl Try.func18 kr rfl #[.agg #[.int .i64 a0_0, .int .i64 a0_1], .agg #[.int .i64 a1_0, .int .i64 a1_1, .bool a1_2, .bool a1_3]] rfl sM ?_; (with_reducible refine (spec_PeriodOfBeam.calls k a0_0 a0_1 a1_0 a1_1 a1_2 a1_3 b57 b58 _ A16.out).mono ?_); rintro e w54 ⟨rfl, hb⟩; refine ⟨_, rfl, ?_⟩; replace d8 := Aside0.mk (Kd.S_below (oS d8) hb); replace g0 := Aside0.mk (Kd.S_below (oS g0) hb); replace a1 := bQ a1 hb; replace a4 := bQ a4 hb; replace a7 := bQ a7 hb; replace b0 := bQ b0 hb; replace a8 := bQ a8 hb; replace b1 := bQ b1 hb; replace HB := Aside0.mk (below_step bB hb); (try clear hb); obtain ⟨co7, co8, co9, cp0⟩ := cf2 a1; obtain ⟨cp1, cp2, cp3, cp4, cp5, cp6, cp7, cp8⟩ := cf4 a4) | ((with_reducible refine gate_callee (f := 10) rfl ?_); refine goesL_ (some 127) rfl rfl Try.func10 kr rfl #[.agg #[.int .i64 a0_0, .int .i64 a0_1], .agg #[.int .i64 a1_0, .int .i64 a1_1, .bool a1_2, .bool a1_3]] rfl sM ?_; (with_reducible refine (impl_CountPlaces.calls a0_0 a0_1 a1_0 a1_1 a1_2 a1_3 l4 l7 _ A17.out).mono ?_); rintro e w57 ⟨rfl, hb⟩; refine ⟨_, rfl, ?_⟩; replace d8 := Aside0.mk (Kd.S_below (oS d8) hb); replace g0 := Aside0.mk (Kd.S_below (oS g0) hb); replace a1 := bQ a1 hb; replace a4 := bQ a4 hb; replace a7 := bQ a7 hb; replace b0 := bQ b0 hb; replace a8 := bQ a8 hb; replace b1 := bQ b1 hb; replace HB := Aside0.mk (below_step bB hb); (try clear hb); obtain ⟨cp9, cq0, cq1, cq2⟩ := cf2 a1; obtain ⟨cq3, cq4, cq5, cq6, cq7, cq8, cq9, cr0⟩ := cf4 a4) | ((with_reducible refine gate_callee (f := 7) rfl ?_); refine goesL_ (some 133) rfl rfl Try.func7 kr rfl #[.agg #[.int .i64 a0_0, .int .i64 a0_1], .agg #[.int .i64 a1_0, .int .i64 a1_1, .bool a1_2, .bool a1_3]] rfl sM ?_; (with_reducible refine (spec_CountPlaces.calls k a0_0 a0_1 a1_0 a1_1 a1_2 a1_3 b61 b62 _ A18.out).mono ?_); rintro e w60 ⟨rfl, hb⟩; refine ⟨_, rfl, ?_⟩; replace d8 := Aside0.mk (Kd.S_below (oS d8) hb); replace g0 := Aside0.mk (Kd.S_below (oS g0) hb); replace a1 := bQ a1 hb; replace a4 := bQ a4 hb; replace a7 := bQ a7 hb; replace b0 := bQ b0 hb; replace a8 := bQ a8 hb; replace b1 := bQ b1 hb; replace HB := Aside0.mk (below_step bB hb); (try clear hb); obtain ⟨cr1, cr2, cr3, cr4⟩ := cf2 a1; obtain ⟨cr5, cr6, cr7, cr8, cr9, cs0, cs1, cs2⟩ := cf4 a4) | ((with_reducible refine gate_callee (f := 19) rfl ?_); refine goesL_ (some 139) rfl rfl Try.func19 kr rfl #[.agg #[.int .i64 a0_0, .int .i64 a0_1], .agg #[.int .i64 a1_0, .int .i64 a1_1, .bool a1_2, .bool a1_3]] rfl sM ?_; (with_reducible refine (impl_BackBeam.calls a0_0 a0_1 a1_0 a1_1 a1_2 a1_3 g5 g6 g7 g8 ae1 _ A19.out).mono ?_); rintro e w63 ⟨rfl, hb⟩; refine ⟨_, rfl, ?_⟩; replace d8 := Aside0.mk (Kd.S_below (oS d8) hb); replace g0 := Aside0.mk (Kd.S_below (oS g0) hb); replace a1 := bQ a1 hb; replace a4 := bQ a4 hb; replace a7 := bQ a7 hb; replace b0 := bQ b0 hb; replace a8 := bQ a8 hb; replace b1 := bQ b1 hb; replace HB := Aside0.mk (below_step bB hb); (try clear hb)) | ((with_reducible refine gate_dst (N := 37) rfl ?_); refine box_ (cs := #[.int .i64 0, .int .i64 0, .bool false, .bool false]) (t := 30) fun g9 hg w64 hbox hb => ?_; have b2 := Aside0.mk (hbox); have gt9 := bS HB hg; have gu0 := bS HB hg; have d9 := bL a1 hg; have e0 := bM a1 hg; have s8 := bL a4 hg; have s9 := bM a4 hg; have u0 := bL a7 hg; have u1 := bM a7 hg; have u2 := bL b0 hg; have u3 := bM b0 hg; have j1 := bL a8 hg; have j2 := bM a8 hg; have q0 := bL b1 hg; have q1 := bM b1 hg; replace d8 := Aside0.mk (Kd.S_below (oS d8) hb); replace g0 := Aside0.mk (Kd.S_below (oS g0) hb); replace a1 := bQ a1 hb; replace a4 := bQ a4 hb; replace a7 := bQ a7 hb; replace b0 := bQ b0 hb; replace a8 := bQ a8 hb; replace b1 := bQ b1 hb; replace HB := Aside0.mk (below_step bB hb); clear hb hbox hg; have gu1 := e0.out; have gu2 := d9.out; have gu3 := s9.out; have gu4 := s8.out; have gu5 := u1.out; have gu6 := u0.out; have gu7 := u3.out; have gu8 := u2.out; have gu9 := j2.out; have gv0 := j1.out; have gv1 := q1.out; have gv2 := q0.out; obtain ⟨cs3, cs4, cs5, cs6, cs7, cs8, cs9, ct0⟩ := cf4 b2; obtain ⟨ct1, ct2, ct3, ct4⟩ := cf2 a1; obtain ⟨ct5, ct6, ct7, ct8, ct9, cu0, cu1, cu2⟩ := cf4 a4) | ((with_reducible refine gate_callee (f := 20) rfl ?_); refine goesL_ (some 145) rfl rfl Try.func20 kr rfl #[.agg #[.int .i64 a0_0, .int .i64 a0_1], .agg #[.int .i64 a1_0, .int .i64 a1_1, .bool a1_2, .bool a1_3]] rfl sM ?_; (with_reducible refine (spec_BackBeam.calls a0_0 a0_1 a1_0 a1_1 a1_2 a1_3 h8 h9 i0 i1 b65 _ A20.out).mono ?_); rintro e w74 ⟨rfl, hb⟩; refine ⟨_, rfl, ?_⟩; replace d8 := Aside0.mk (Kd.S_below (by (with_reducible repeat (first | apply Kd.S_alloc | apply Kd.S_drewN | apply Kd.S_drew)); exact (Kd.S_mono (Kd.S_far (p := ⟨g9, 3, none⟩) (Kd.S_far (p := ⟨g9, 2, none⟩) (Kd.S_far (p := ⟨g9, 1, none⟩) (Kd.S_far (p := ⟨g9, 0, none⟩) (Kd.S_types d8.out b2.out (by decide)) (fun _ hk => hk.2) (.int .i64 g5)) (fun _ hk => hk.2) (.int .i64 g6)) (fun _ hk => hk.2) (.bool g7)) (fun _ hk => hk.2) (.bool g8)) (fun _ h_ => h_.1))) hb); replace g0 := Aside0.mk (Kd.S_below (by (with_reducible repeat (first | apply Kd.S_alloc | apply Kd.S_drewN | apply Kd.S_drew)); exact (Kd.S_mono (Kd.S_far (p := ⟨g9, 3, none⟩) (Kd.S_far (p := ⟨g9, 2, none⟩) (Kd.S_far (p := ⟨g9, 1, none⟩) (Kd.S_far (p := ⟨g9, 0, none⟩) (Kd.S_types g0.out b2.out (by decide)) (fun _ hk => hk.2) (.int .i64 g5)) (fun _ hk => hk.2) (.int .i64 g6)) (fun _ hk => hk.2) (.bool g7)) (fun _ hk => hk.2) (.bool g8)) (fun _ h_ => h_.1))) hb); replace a1 := bQ a1 hb; replace a4 := bQ a4 hb; replace a7 := bQ a7 hb; replace b0 := bQ b0 hb; replace a8 := bQ a8 hb; replace b1 := bQ b1 hb; replace b2 := (bP (.cells #[.int .i64 g5, .int .i64 g6, .bool g7, .bool g8] 30 (0, 0)) b2 hb); replace HB := Aside0.mk (below_step bB hb); (try clear hb); (try clear hk)) | ((with_reducible refine gate_dst (N := 39) rfl ?_); refine box_ (cs := #[.int .i64 0, .int .i64 0, .bool false, .bool false]) (t := 30) fun e3 hg w75 hbox hb => ?_; have b3 := Aside0.mk (hbox); have gv3 := bS HB hg; have gv4 := bS HB hg; have e1 := bL a1 hg; have e2 := bM a1 hg; have u4 := bL a4 hg; have u5 := bM a4 hg; have z1 := bL a7 hg; have z2 := bM a7 hg; have z3 := bL b0 hg; have z4 := bM b0 hg; have k8 := bL a8 hg; have k9 := bM a8 hg; have u6 := bL b1 hg; have u7 := bM b1 hg; have I0 := bL b2 hg; have I1 := bM b2 hg; replace d8 := Aside0.mk (Kd.S_below (oS d8) hb); replace g0 := Aside0.mk (Kd.S_below (oS g0) hb); replace a1 := bQ a1 hb; replace a4 := bQ a4 hb; replace a7 := bQ a7 hb; replace b0 := bQ b0 hb; replace a8 := bQ a8 hb; replace b1 := bQ b1 hb; replace b2 := bQ b2 hb; replace HB := Aside0.mk (below_step bB hb); clear hb hbox hg; have gv5 := e2.out; have gv6 := e1.out; have gv7 := u5.out; have gv8 := u4.out; have gv9 := z2.out; have gw0 := z1.out; have gw1 := z4.out; have gw2 := z3.out; have gw3 := k9.out; have gw4 := k8.out; have gw5 := u7.out; have gw6 := u6.out; have gw7 := I1.out; have gw8 := I0.out; obtain ⟨cu3, cu4, cu5, cu6, cu7, cu8, cu9, cv0⟩ := cf4 b3))
 (try simp only [Act.put, List.setIfInBounds_toArray, List.set_cons_zero, List.set_cons_succ])
 go_cut [255] from 255 to 255 (fun bk1 wc => ∃ (kq : Nat) (B2 : Bool), bk1 = .bool B2 ∧ Aside0 (laws_FnBeamsGoOfAll.j0 kq a2 a5 a6 a9 a0 C9 n7 n8 l3 l9 l4 l7 B2 a0_0 a0_1 a1_0 a1_1 a1_2 a1_3 a3_0 a3_1 a4_0 a4_1 a4_2 a4_3 a7_0 a7_1 a8_0 a8_1 a8_2 a8_3 g5 g6 g7 g8 = some r) ∧ Aside0 (kq ≤ k) ∧ Aside0 (Kd.S (Kd.slice 3 (Kd.int .i64)) 40 wc w.heap.size (fun _ => True) D0 a0) ∧ Aside0 (wc.heap[e9]? = some (.cells #[.int .i64 a0_0, .int .i64 a0_1] 28 (0, 0))) ∧ Aside0 (wc.heap[h2]? = some (.cells #[.int .i64 a1_0, .int .i64 a1_1, .bool a1_2, .bool a1_3] 30 (0, 0))) ∧ Aside0 (wc.heap[k0]? = some (.cells #[.int .i64 a3_0, .int .i64 a3_1] 28 (0, 0))) ∧ Aside0 (wc.heap[k1]? = some (.cells #[.int .i64 a4_0, .int .i64 a4_1, .bool a4_2, .bool a4_3] 30 (0, 0))) ∧ Aside0 (wc.heap[h4]? = some (.cells #[.int .i64 a7_0, .int .i64 a7_1] 28 (0, 0))) ∧ Aside0 (wc.heap[k2]? = some (.cells #[.int .i64 a8_0, .int .i64 a8_1, .bool a8_2, .bool a8_3] 30 (0, 0))) ∧ Aside0 (wc.heap[g9]? = some (.cells #[.int .i64 g5, .int .i64 g6, .bool g7, .bool g8] 30 (0, 0))) ∧ Aside0 (wc.heap[e3]? = some (.cells #[.int .i64 h8, .int .i64 h9, .bool i0, .bool i1] 30 (0, 0))) ∧ Aside0 (Below w.heap.size w wc))
 case first => (
 as_aux_lemma => (
 have H := ae2.out
 clear ae2
 by_cases c84 : (C9 != b50) = true
 ·(
 rw [if_pos c84] at H
 exact absurd H (by cases k <;> simp [laws_FnBeamsGoOfAll.j0, HT_l.out])
 )
 rw [if_neg c84] at H
 obtain ⟨az8, gw9, gx0⟩ := nf c84
 clear c84
 (first | rw [az8] | (simp only [i64_w, i32_w]; rw [az8]) | skip)
 replace H := Option.bind_eq_some_iff.mp H; obtain ⟨bk2, b69, H⟩ := H; (try dsimp only at H); have A85 := Aside0.mk b69; clear b69
 by_cases c86 : bk2 = true
 ·(
 subst c86
 rw [if_pos rfl] at H
 by_cases c87 : (n8 != b54) = true
 ·(
 rw [if_pos c87] at H
 exact absurd H (by cases k <;> simp [laws_FnBeamsGoOfAll.j0, HT_l.out])
 )
 rw [if_neg c87] at H
 obtain ⟨gx1, gx2, gx3⟩ := nf c87
 clear c87
 by_cases c88 : n7 = b53
 ·(
 rw [if_pos c88] at H
 obtain ⟨gx4, gx5⟩ := yE c88
 clear c88
 by_cases c89 : (l9 != b58) = true
 ·(
 rw [if_pos c89] at H
 exact absurd H (by cases k <;> simp [laws_FnBeamsGoOfAll.j0, HT_l.out])
 )
 rw [if_neg c89] at H
 obtain ⟨gx6, gx7, gx8⟩ := nf c89
 clear c89
 by_cases c90 : l3 = b57
 ·(
 rw [if_pos c90] at H
 obtain ⟨gx9, gy0⟩ := yE c90
 clear c90
 by_cases c91 : (l7 != b62) = true
 ·(
 rw [if_pos c91] at H
 exact absurd H (by cases k <;> simp [laws_FnBeamsGoOfAll.j0, HT_l.out])
 )
 rw [if_neg c91] at H
 obtain ⟨gy1, gy2, gy3⟩ := nf c91
 clear c91
 by_cases c92 : l4 = b61
 ·(
 rw [if_pos c92] at H
 obtain ⟨gy4, gy5⟩ := yE c92
 clear c92
 by_cases c93 : (ae1 != b65) = true
 ·(
 rw [if_pos c93] at H
 exact absurd H (by cases k <;> simp [laws_FnBeamsGoOfAll.j0, HT_l.out])
 )
 rw [if_neg c93] at H
 obtain ⟨gy6, gy7, gy8⟩ := nf c93
 clear c93
 by_cases c94 : (!(g5 == h8) || (!(g6 == h9) || (!(g7 == i0) || (!(g8 == i1))))) = true
 ·(
 rw [if_pos c94] at H
 exact absurd H (by cases k <;> simp [laws_FnBeamsGoOfAll.j0, HT_l.out])
 )
 rw [if_neg c94] at H
 have gy9 : (!(g5 == h8) || (!(g6 == h9) || (!(g7 == i0) || (!(g8 == i1))))) = false := by simpa using c94
 clear c94
 replace H := Option.bind_eq_some_iff.mp H; obtain ⟨b70, b71, H⟩ := H; (try dsimp only at H); have A95 := Aside0.mk b71; clear b71
 by_cases c96 : (l7 != b70) = true
 ·(
 rw [if_pos c96] at H
 exact absurd H (by cases k <;> simp [laws_FnBeamsGoOfAll.j0, HT_l.out])
 )
 rw [if_neg c96] at H
 obtain ⟨gz0, gz1, gz2⟩ := nf c96
 clear c96
 replace H := Option.bind_eq_some_iff.mp H; obtain ⟨b72, b73, H⟩ := H; (try dsimp only at H); have A97 := Aside0.mk b73; clear b73
 replace H := Option.bind_eq_some_iff.mp H; obtain ⟨b74, b75, H⟩ := H; (try dsimp only at H); have A98 := Aside0.mk b75; clear b75
 by_cases c99 : (b72 != b74) = true
 ·(
 rw [if_pos c99] at H
 exact absurd H (by cases k <;> simp [laws_FnBeamsGoOfAll.j0, HT_l.out])
 )
 rw [if_neg c99] at H
 obtain ⟨gz3, gz4, gz5⟩ := nf c99
 clear c99
 by_cases P2 : (ae1 != l7) = true
 ·(
 rw [if_pos P2] at H
 exact absurd H (by cases k <;> simp [laws_FnBeamsGoOfAll.j0, HT_l.out])
 )
 rw [if_neg P2] at H
 obtain ⟨cx5, cx6, cx7⟩ := nf P2
 clear P2
 have HQ_ := Aside0.mk H
 clear H
 repeat' (go_not_at_region 11; go_not_at_region 17; go_not_at_region 26; go_not_at_region 27; go_not_at_region 42; go_not_at_region 78; go_not_at_region 81; first | go_skip | go_guarded | go_step | go_upon)
 have n0_ : Aside0 (Kd.S (Kd.slice 3 (Kd.int .i64)) 40 ((((w75.setCell ⟨e3, 0, none⟩ (.int .i64 h8)).setCell ⟨e3, 1, none⟩ (.int .i64 h9)).setCell ⟨e3, 2, none⟩ (.bool i0)).setCell ⟨e3, 3, none⟩ (.bool i1)) w.heap.size (fun k_ => some k_ ≠ (b67 : Value).ownBlock) D0 a0) := ⟨by (with_reducible repeat (first | apply Kd.S_alloc | apply Kd.S_drewN | apply Kd.S_drew)); exact Kd.S_mono (Kd.S_far (p := ⟨e3, 3, none⟩) (Kd.S_far (p := ⟨e3, 2, none⟩) (Kd.S_far (p := ⟨e3, 1, none⟩) (Kd.S_far (p := ⟨e3, 0, none⟩) (Kd.S_types d8.out b3.out (by decide)) (fun _ hk => hk.2) (.int .i64 h8)) (fun _ hk => hk.2) (.int .i64 h9)) (fun _ hk => hk.2) (.bool i0)) (fun _ hk => hk.2) (.bool i1)) (fun _ hk => hk.1.2)⟩
 have n1_ : Aside0 (Kd.S (Kd.slice 3 (Kd.int .i64)) 40 ((((w75.setCell ⟨e3, 0, none⟩ (.int .i64 h8)).setCell ⟨e3, 1, none⟩ (.int .i64 h9)).setCell ⟨e3, 2, none⟩ (.bool i0)).setCell ⟨e3, 3, none⟩ (.bool i1)) w.heap.size (fun k_ => some k_ ≠ (D0 : Value).ownBlock) b67 P1) := ⟨by (with_reducible repeat (first | apply Kd.S_alloc | apply Kd.S_drewN | apply Kd.S_drew)); exact Kd.S_mono (Kd.S_far (p := ⟨e3, 3, none⟩) (Kd.S_far (p := ⟨e3, 2, none⟩) (Kd.S_far (p := ⟨e3, 1, none⟩) (Kd.S_far (p := ⟨e3, 0, none⟩) (Kd.S_types g0.out b3.out (by decide)) (fun _ hk => hk.2) (.int .i64 h8)) (fun _ hk => hk.2) (.int .i64 h9)) (fun _ hk => hk.2) (.bool i0)) (fun _ hk => hk.2) (.bool i1)) (fun _ hk => hk.1.2)⟩
 generalize hW_ : ((((w75.setCell ⟨e3, 0, none⟩ (.int .i64 h8)).setCell ⟨e3, 1, none⟩ (.int .i64 h9)).setCell ⟨e3, 2, none⟩ (.bool i0)).setCell ⟨e3, 3, none⟩ (.bool i1)) = bk3 at n0_ n1_ ⊢
 have nB_ := bG HB hW_
 replace a1 := bF hW_ a1
 replace a4 := bF hW_ a4
 replace a7 := bF hW_ a7
 replace b0 := bF hW_ b0
 replace a8 := bF hW_ a8
 replace b1 := bF hW_ b1
 replace b2 := bF hW_ b2
 replace b3 := bFp hW_ (.cells #[.int .i64 h8, .int .i64 h9, .bool i0, .bool i1] 30 (0, 0)) b3
 try clear d8
 have d8 := n0_
 clear n0_
 try clear g0
 have g0 := n1_
 clear n1_ HB
 have HB := nB_
 clear nB_ hW_
 replace d8 := Aside0.mk (Kd.S_drew d8.out)
 replace g0 := Aside0.mk (Kd.S_drew g0.out)
 replace a1 := bD1 a1
 replace a4 := bD1 a4
 replace a7 := bD1 a7
 replace b0 := bD1 b0
 replace a8 := bD1 a8
 replace b1 := bD1 b1
 replace b2 := bD1 b2
 replace b3 := bD1 b3
 replace HB := Aside0.mk (below_drew1 HB.out)
 obtain ⟨bg8, bg9, b10⟩ := Kd.S_slice d8.out
 (first | subst b10 | (injection b10 with f1_ f2_ f3_; have f4_ := f1_.symm; have f5_ := f3_.symm; clear f1_ f2_ f3_; subst f4_; subst f5_))
 obtain ⟨bh0, bh1, b11⟩ := Kd.S_slice g0.out
 (first | subst b11 | (injection b11 with f1_ f2_ f3_; have f4_ := f1_.symm; have f5_ := f3_.symm; clear f1_ f2_ f3_; subst f4_; subst f5_))
 refine st_ 108 laws_FnBeamsGoOfAll.pl0 (S := fun w' => w'.cell? ⟨g9, 0, none⟩ = some (.int .i64 g5) ∧ w'.cell? ⟨g9, 1, none⟩ = some (.int .i64 g6) ∧ w'.cell? ⟨g9, 2, none⟩ = some (.bool g7) ∧ w'.cell? ⟨g9, 3, none⟩ = some (.bool g8) ∧ w'.cell? ⟨e3, 0, none⟩ = some (.int .i64 h8) ∧ w'.cell? ⟨e3, 1, none⟩ = some (.int .i64 h9) ∧ w'.cell? ⟨e3, 2, none⟩ = some (.bool i0) ∧ w'.cell? ⟨e3, 3, none⟩ = some (.bool i1) ∧ w'.cell? ⟨e9, 0, none⟩ = some (.int .i64 a0_0) ∧ w'.cell? ⟨e9, 1, none⟩ = some (.int .i64 a0_1) ∧ w'.cell? ⟨h2, 0, none⟩ = some (.int .i64 a1_0) ∧ w'.cell? ⟨h2, 1, none⟩ = some (.int .i64 a1_1) ∧ w'.cell? ⟨h2, 2, none⟩ = some (.bool a1_2) ∧ w'.cell? ⟨h2, 3, none⟩ = some (.bool a1_3)) (ds := []) laws_FnBeamsGoOfAll.tab11 laws_FnBeamsGoOfAll.bits11 cS (fun hHeld HT_ HW_ => ?_)
 generalize bk3.drew = h43 at d8 g0 a1 a4 a7 b0 a8 b1 b2 b3 HB hHeld ⊢
 (try clear ch5); (try clear ch6); (try clear ch7); (try clear ch8); (try clear ch9); (try clear ci0); (try clear ci1); (try clear ci2); (try clear ci3); (try clear ci4); (try clear ci5); (try clear ci6); (try clear ci7); (try clear ci8); (try clear ci9); (try clear cj0); (try clear cj1); (try clear cj2); (try clear cj3); (try clear cj4); (try clear cj5); (try clear cj6); (try clear cj7); (try clear cj8); (try clear cj9); (try clear ck0); (try clear ck1); (try clear ck2); (try clear ck3); (try clear ck4); (try clear ck5); (try clear ck6); (try clear ck7); (try clear ck8); (try clear ck9); (try clear cl0); (try clear cl1); (try clear cl2); (try clear cl3); (try clear cl4); (try clear cl5); (try clear cl6); (try clear cl7); (try clear cl8); (try clear cl9); (try clear cm0); (try clear cm1); (try clear cm2); (try clear cm3); (try clear cm4); (try clear cm5); (try clear cm6); (try clear cm7); (try clear cm8); (try clear cm9); (try clear cn0); (try clear cn1); (try clear cn2); (try clear cn3); (try clear cn4); (try clear cn5); (try clear cn6); (try clear cn7); (try clear cn8); (try clear cn9); (try clear co0); (try clear co1); (try clear co2); (try clear co3); (try clear co4); (try clear co5); (try clear co6); (try clear co7); (try clear co8); (try clear co9); (try clear cp0); (try clear cp1); (try clear cp2); (try clear cp3); (try clear cp4); (try clear cp5); (try clear cp6); (try clear cp7); (try clear cp8); (try clear cp9); (try clear cq0); (try clear cq1); (try clear cq2); (try clear cq3); (try clear cq4); (try clear cq5); (try clear cq6); (try clear cq7); (try clear cq8); (try clear cq9); (try clear cr0); (try clear cr1); (try clear cr2); (try clear cr3); (try clear cr4); (try clear cr5); (try clear cr6); (try clear cr7); (try clear cr8); (try clear cr9); (try clear cs0); (try clear cs1); (try clear cs2); (try clear cs3); (try clear cs4); (try clear cs5); (try clear cs6); (try clear cs7); (try clear cs8); (try clear cs9); (try clear ct0); (try clear ct1); (try clear ct2); (try clear ct3); (try clear ct4); (try clear ct5); (try clear ct6); (try clear ct7); (try clear ct8); (try clear ct9); (try clear cu0); (try clear cu1); (try clear cu2); (try clear cu3); (try clear cu4); (try clear cu5); (try clear cu6); (try clear cu7); (try clear cu8); (try clear cu9); (try clear cv0); (try clear gs1); (try clear gs2); (try clear gs3); (try clear gs4); (try clear gs5); (try clear gs6); (try clear gs7); (try clear gs8); (try clear gs9); (try clear gt0); (try clear gt1); (try clear gt2); (try clear gt3); (try clear gt4); (try clear gt5); (try clear gt6); (try clear gt7); (try clear gt8); (try clear gu1); (try clear gu2); (try clear gu3); (try clear gu4); (try clear gu5); (try clear gu6); (try clear gu7); (try clear gu8); (try clear gu9); (try clear gv0); (try clear gv1); (try clear gv2); (try clear gv5); (try clear gv6); (try clear gv7); (try clear gv8); (try clear gv9); (try clear gw0); (try clear gw1); (try clear gw2); (try clear gw3); (try clear gw4); (try clear gw5); (try clear gw6); (try clear gw7); (try clear gw8)
 iterate 6 refine pA HT_ ?_
 refine pO HT_ fun K hK => ?_
 refine goes_ Try.func21 kr rfl #[.slice bg8 a0.length bg9, .slice bh0 P1.length bh1] (by rfl) rfl rfl sM ?_
 with_reducible refine (laws_jRows.calls k _ _ a0 _ _ P1 true _ ?side1 ?side2 ?side3 ?side4 A85.out).mono ?_
 (case side1 => repeat (first | exact (Kd.S_reads' d8.out).2.2 | (with_reducible refine Kd.C_alloc ?_ _) | (with_reducible refine Kd.C_drewN ?_ _) | (with_reducible refine Kd.C_drew ?_)))
 (case side2 => exact (Kd.S_reads' d8.out).2.1)
 (case side3 => repeat (first | exact (Kd.S_reads' g0.out).2.2 | (with_reducible refine Kd.C_alloc ?_ _) | (with_reducible refine Kd.C_drewN ?_ _) | (with_reducible refine Kd.C_drew ?_)))
 (case side4 => exact (Kd.S_reads' g0.out).2.1)
 rintro e w' ⟨rfl, ⟨nd, rfl⟩⟩
 refine ⟨_, rfl, ?_⟩
 refine hK.out _ _ cS (fun hHeld => ?_)
 clear hK K
 refine nP ?_
 iterate 46 (first | refine pA HT_ ?_ | refine pT HT_ HW_ hHeld ?_)
 refine pO HT_ fun K hK => ?_
 refine goes_ Try.func22 kr rfl #[.agg #[.int .i64 a0_0, .int .i64 a0_1], .agg #[.int .i64 a1_0, .int .i64 a1_1, .bool a1_2, .bool a1_3]] (by rfl) rfl rfl sM ?_
 with_reducible refine (impl_IsBeam.calls a0_0 a0_1 a1_0 a1_1 a1_2 a1_3 b70 _ A95.out).mono ?_
 rintro e h44 ⟨rfl, hb⟩
 refine ⟨_, rfl, ?_⟩
 replace d8 := Aside0.mk (Kd.S_below (oS d8) hb)
 replace g0 := Aside0.mk (Kd.S_below (oS g0) hb)
 replace a1 := bQ a1 hb
 replace a4 := bQ a4 hb
 replace a7 := bQ a7 hb
 replace b0 := bQ b0 hb
 replace a8 := bQ a8 hb
 replace b1 := bQ b1 hb
 replace b2 := bQ b2 hb
 replace b3 := bQ b3 hb
 replace HB := Aside0.mk (below_step bB hb)
 try clear hb
 refine hK.out _ _ cS (fun hHeld => ?_)
 clear hK K
 refine nP ?_
 iterate 7 (first | refine pA HT_ ?_ | refine pT HT_ HW_ hHeld ?_)
 refine pO HT_ fun K hK => ?_
 refine goes_ Try.func22 kr rfl #[.agg #[.int .i64 a0_0, .int .i64 a0_1], .agg #[.int .i64 a1_0, .int .i64 a1_1, .bool a1_2, .bool a1_3]] (by rfl) rfl rfl sM ?_
 with_reducible refine (impl_IsBeam.calls a0_0 a0_1 a1_0 a1_1 a1_2 a1_3 b72 _ A97.out).mono ?_
 rintro e h45 ⟨rfl, hb⟩
 refine ⟨_, rfl, ?_⟩
 replace d8 := Aside0.mk (Kd.S_below (oS d8) hb)
 replace g0 := Aside0.mk (Kd.S_below (oS g0) hb)
 replace a1 := bQ a1 hb
 replace a4 := bQ a4 hb
 replace a7 := bQ a7 hb
 replace b0 := bQ b0 hb
 replace a8 := bQ a8 hb
 replace b1 := bQ b1 hb
 replace b2 := bQ b2 hb
 replace b3 := bQ b3 hb
 replace HB := Aside0.mk (below_step bB hb)
 try clear hb
 refine hK.out _ _ cS (fun hHeld => ?_)
 clear hK K
 refine nP ?_
 refine pO HT_ fun K hK => ?_
 refine goes_ Try.func23 kr rfl #[.agg #[.int .i64 a0_0, .int .i64 a0_1], .agg #[.int .i64 a1_0, .int .i64 a1_1, .bool a1_2, .bool a1_3]] (by rfl) rfl rfl sM ?_
 with_reducible refine (spec_IsBeam.calls a0_0 a0_1 a1_0 a1_1 a1_2 a1_3 b74 _ A98.out).mono ?_
 rintro e h46 ⟨rfl, hb⟩
 refine ⟨_, rfl, ?_⟩
 replace d8 := Aside0.mk (Kd.S_below (oS d8) hb)
 replace g0 := Aside0.mk (Kd.S_below (oS g0) hb)
 replace a1 := bQ a1 hb
 replace a4 := bQ a4 hb
 replace a7 := bQ a7 hb
 replace b0 := bQ b0 hb
 replace a8 := bQ a8 hb
 replace b1 := bQ b1 hb
 replace b2 := bQ b2 hb
 replace b3 := bQ b3 hb
 replace HB := Aside0.mk (below_step bB hb)
 try clear hb
 refine hK.out _ _ cS (fun hHeld => ?_)
 clear hK K
 refine nP ?_
 have H := HQ_.out
 clear HQ_
 by_cases P3 : n8 = true
 ·(
 subst P3
 rw [if_pos rfl] at H
 by_cases P4 : l7 = true
 ·(
 subst P4
 rw [if_pos rfl] at H
 by_cases P5 : l9 = true
 ·(
 subst P5
 rw [if_pos rfl] at H
 exact absurd H (by cases k <;> simp [laws_FnBeamsGoOfAll.j0, HT_l.out])
 )
 replace P5 := Bool.eq_false_iff.mpr P5
 subst P5
 rw [if_neg nft] at H
 by_cases P6 : C9 = true
 ·(
 subst P6
 rw [if_pos rfl] at H
 have H' := Aside0.mk H
 clear H
 iterate 45 (first | refine pA HT_ ?_ | refine pB HT_ ?_)
 refine pD HT_ ?_
 repeat' (go_not_at_region 11; go_not_at_region 17; go_not_at_region 26; go_not_at_region 27; go_not_at_region 42; go_not_at_region 78; go_not_at_region 81; first | go_skip | go_guarded | go_step | go_upon)
 (try rw [dSet])
 go_meet
 case rel => exact ⟨_, (!true), sR, H', ⟨by first | exact Nat.le_refl _ | omega⟩, ⟨by (with_reducible repeat (first | apply Kd.S_alloc | apply Kd.S_drewN | apply Kd.S_drew)); exact Kd.S_mono d8.out (fun _ hk => trivial)⟩, (bA a1), (bA a4), (bA a7), (bA b0), (bA a8), (bA b1), (bA b2), (bA b3), ⟨bB⟩⟩
 )
 replace P6 := Bool.eq_false_iff.mpr P6
 subst P6
 rw [if_neg nft] at H
 have H' := Aside0.mk H
 clear H
 iterate 45 (first | refine pA HT_ ?_ | refine pB HT_ ?_)
 refine pD HT_ ?_
 repeat' (go_not_at_region 11; go_not_at_region 17; go_not_at_region 26; go_not_at_region 27; go_not_at_region 42; go_not_at_region 78; go_not_at_region 81; first | go_skip | go_guarded | go_step | go_upon)
 (try rw [dSet])
 go_meet
 case rel => exact ⟨_, (false), sR, H', ⟨by first | exact Nat.le_refl _ | omega⟩, ⟨by (with_reducible repeat (first | apply Kd.S_alloc | apply Kd.S_drewN | apply Kd.S_drew)); exact Kd.S_mono d8.out (fun _ hk => trivial)⟩, (bA a1), (bA a4), (bA a7), (bA b0), (bA a8), (bA b1), (bA b2), (bA b3), ⟨bB⟩⟩
 )
 replace P4 := Bool.eq_false_iff.mpr P4
 subst P4
 rw [if_neg nft] at H
 exact absurd H (by cases k <;> simp [laws_FnBeamsGoOfAll.j0, HT_l.out])
 )
 replace P3 := Bool.eq_false_iff.mpr P3
 subst P3
 rw [if_neg nft] at H
 by_cases P7 : l9 = true
 ·(
 subst P7
 rw [if_pos rfl] at H
 by_cases P8 : l7 = true
 ·(
 subst P8
 rw [if_pos rfl] at H
 by_cases P9 : C9 = true
 ·(
 subst P9
 rw [if_pos rfl] at H
 have H' := Aside0.mk H
 clear H
 iterate 45 (first | refine pA HT_ ?_ | refine pB HT_ ?_)
 refine pD HT_ ?_
 repeat' (go_not_at_region 11; go_not_at_region 17; go_not_at_region 26; go_not_at_region 27; go_not_at_region 42; go_not_at_region 78; go_not_at_region 81; first | go_skip | go_guarded | go_step | go_upon)
 (try rw [dSet])
 go_meet
 case rel => exact ⟨_, (!true), sR, H', ⟨by first | exact Nat.le_refl _ | omega⟩, ⟨by (with_reducible repeat (first | apply Kd.S_alloc | apply Kd.S_drewN | apply Kd.S_drew)); exact Kd.S_mono d8.out (fun _ hk => trivial)⟩, (bA a1), (bA a4), (bA a7), (bA b0), (bA a8), (bA b1), (bA b2), (bA b3), ⟨bB⟩⟩
 )
 replace P9 := Bool.eq_false_iff.mpr P9
 subst P9
 rw [if_neg nft] at H
 have H' := Aside0.mk H
 clear H
 iterate 45 (first | refine pA HT_ ?_ | refine pB HT_ ?_)
 refine pD HT_ ?_
 repeat' (go_not_at_region 11; go_not_at_region 17; go_not_at_region 26; go_not_at_region 27; go_not_at_region 42; go_not_at_region 78; go_not_at_region 81; first | go_skip | go_guarded | go_step | go_upon)
 (try rw [dSet])
 go_meet
 case rel => exact ⟨_, (false), sR, H', ⟨by first | exact Nat.le_refl _ | omega⟩, ⟨by (with_reducible repeat (first | apply Kd.S_alloc | apply Kd.S_drewN | apply Kd.S_drew)); exact Kd.S_mono d8.out (fun _ hk => trivial)⟩, (bA a1), (bA a4), (bA a7), (bA b0), (bA a8), (bA b1), (bA b2), (bA b3), ⟨bB⟩⟩
 )
 replace P8 := Bool.eq_false_iff.mpr P8
 subst P8
 rw [if_neg nft] at H
 exact absurd H (by cases k <;> simp [laws_FnBeamsGoOfAll.j0, HT_l.out])
 )
 replace P7 := Bool.eq_false_iff.mpr P7
 subst P7
 rw [if_neg nft] at H
 by_cases R0 : l7 = true
 ·(
 subst R0
 rw [if_pos rfl] at H
 exact absurd H (by cases k <;> simp [laws_FnBeamsGoOfAll.j0, HT_l.out])
 )
 replace R0 := Bool.eq_false_iff.mpr R0
 subst R0
 rw [if_neg nft] at H
 by_cases R1 : C9 = true
 ·(
 subst R1
 rw [if_pos rfl] at H
 have H' := Aside0.mk H
 clear H
 iterate 45 (first | refine pA HT_ ?_ | refine pB HT_ ?_)
 refine pD HT_ ?_
 repeat' (go_not_at_region 11; go_not_at_region 17; go_not_at_region 26; go_not_at_region 27; go_not_at_region 42; go_not_at_region 78; go_not_at_region 81; first | go_skip | go_guarded | go_step | go_upon)
 (try rw [dSet])
 go_meet
 case rel => exact ⟨_, (!false), sR, H', ⟨by first | exact Nat.le_refl _ | omega⟩, ⟨by (with_reducible repeat (first | apply Kd.S_alloc | apply Kd.S_drewN | apply Kd.S_drew)); exact Kd.S_mono d8.out (fun _ hk => trivial)⟩, (bA a1), (bA a4), (bA a7), (bA b0), (bA a8), (bA b1), (bA b2), (bA b3), ⟨bB⟩⟩
 )
 replace R1 := Bool.eq_false_iff.mpr R1
 subst R1
 rw [if_neg nft] at H
 have H' := Aside0.mk H
 clear H
 iterate 45 (first | refine pA HT_ ?_ | refine pB HT_ ?_)
 refine pD HT_ ?_
 repeat' (go_not_at_region 11; go_not_at_region 17; go_not_at_region 26; go_not_at_region 27; go_not_at_region 42; go_not_at_region 78; go_not_at_region 81; first | go_skip | go_guarded | go_step | go_upon)
 (try rw [dSet])
 go_meet
 case rel => exact ⟨_, (false), sR, H', ⟨by first | exact Nat.le_refl _ | omega⟩, ⟨by (with_reducible repeat (first | apply Kd.S_alloc | apply Kd.S_drewN | apply Kd.S_drew)); exact Kd.S_mono d8.out (fun _ hk => trivial)⟩, (bA a1), (bA a4), (bA a7), (bA b0), (bA a8), (bA b1), (bA b2), (bA b3), ⟨bB⟩⟩
 )
 rw [if_neg c92] at H
 exact absurd H (by cases k <;> simp [laws_FnBeamsGoOfAll.j0, HT_l.out])
 )
 rw [if_neg c90] at H
 exact absurd H (by cases k <;> simp [laws_FnBeamsGoOfAll.j0, HT_l.out])
 )
 rw [if_neg c88] at H
 exact absurd H (by cases k <;> simp [laws_FnBeamsGoOfAll.j0, HT_l.out])
 )
 replace c86 := Bool.eq_false_iff.mpr c86
 subst c86
 rw [if_neg nft] at H
 exact absurd H (by cases k <;> simp [laws_FnBeamsGoOfAll.j0, HT_l.out])
 )
 )
 clear ae2
 obtain ⟨kq, B2, rfl, HA, HJ20, b5, a1, a4, a7, b0, a8, b1, b2, b3, HB⟩ := hcut
 rename_i K1_ aK1_ K_ aK_
 exact aK_ _ _ (hR_ k a0_0 a0_1 a1_0 a1_1 a1_2 a1_3 a2 a3_0 a3_1 a4_0 a4_1 a4_2 a4_3 a5 a6 a7_0 a7_1 a8_0 a8_1 a8_2 a8_3 a9 r w a0 C9 P1 b50 n7 n8 b53 b54 l3 l9 b57 b58 l4 l7 b61 b62 g5 g6 g7 g8 ae1 h8 h9 i0 i1 b65 e9 h2 k0 k1 h4 k2 D0 b67 g9 e3 wc u148 u149 u150 u151 u152 u153 u154 u155 u156 u157 u158 u159 u160 u161 u162 u163 u164 u165 u166 u167 u168 u169 u170 u171 u172 u173 u174 u175 u176 u177 u178 u179 u180 u181 u182 u183 u184 u185 u186 u187 u188 u189 u190 u191 u192 u193 u194 u195 u196 u197 u198 u199 u200 u201 u202 u203 u204 u205 u206 u207 u208 u209 u210 u211 u212 u213 u214 u215 u216 u217 u218 u219 u220 u221 u222 u223 u224 u225 u226 u227 u228 u229 u230 u231 u232 u233 u234 u235 u236 u237 u238 u239 u240 u241 u242 u243 u244 u245 u246 u247 u248 u249 u250 u251 u252 u253 u254 kq B2 HT_l A11 A12 A13 A14 A15 A16 A17 A18 A19 A20 gq9 gr0 gr1 gr2 d6 d7 gr3 gr4 d1 d2 o1 o2 gr5 gr6 d3 d4 o3 o4 G8 G9 gr7 gr8 c2 c3 h6 h7 k3 k4 k6 k7 gr9 gs0 c6 c7 m0 m1 s4 s5 s6 s7 l5 l6 gt9 gu0 d9 e0 s8 s9 u0 u1 u2 u3 j1 j2 q0 q1 gv3 gv4 e1 e2 u4 u5 z1 z2 z3 z4 k8 k9 u6 u7 I0 I1 HA HJ20 b5 a1 a4 a7 b0 a8 b1 b2 b3 HB K1_ aK1_)
end Go.Proofs.Ythfbjofmcniogaa.PFnBeamsGoOfAll
