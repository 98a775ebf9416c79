-- Written by split3.py: the law's walk up to its first cut.
import Derived.Test.YthfbjofmcniogaaVN
import Derived.Test.YthfbjofmcniogaaVG
import Derived.Test.YthfbjofmcniogaaPFnBeamsGox0
import Derived.Test.YthfbjofmcniogaaPFnBeamsGox1
import Derived.Test.YthfbjofmcniogaaPFnBeamsGox6
import Derived.Test.YthfbjofmcniogaaPFnBeamsGox9
import Derived.Test.YthfbjofmcniogaaPFnBeamsGox10
import Derived.Test.YthfbjofmcniogaaPFnBeamsGox11
import Derived.Test.YthfbjofmcniogaaPFnBeamsGox12
import Derived.Test.YthfbjofmcniogaaPFnBeamsGox13
import Derived.Test.YthfbjofmcniogaaPFnBeamsGox14
import Derived.Test.YthfbjofmcniogaaPFnBeamsGox15
import Derived.Test.YthfbjofmcniogaaPFnBeamsGox16
import Derived.Test.YthfbjofmcniogaaPFnBeamsGox18
import Derived.Test.YthfbjofmcniogaaPFnBeamsGox19
import Derived.Test.YthfbjofmcniogaaPFnBeamsGox20
namespace Go.Proofs.Ythfbjofmcniogaa.PFnBeamsGo
open Go.Proofs.YthfbjofmcniogaaV Go.RowKit Go.Proofs.YthfbjofmcniogaaW.PrintWords Go.Proofs.YthfbjofmcniogaaW.PrintLast Go.Proofs.YthfbjofmcniogaaW.PrintMore
attribute [local go_sem] max2_int min2_int max_two min_two max_three min_three max_four min_four   -- for this text's walks alone
attribute [local go_sem ↓] rdl_zero rdl_succ eval_lit
set_option linter.unusedVariables false
set_option linter.unusedSimpArgs false
attribute [local go_sem high] eqA30
set_option maxHeartbeats 100000000 in
set_option maxRecDepth 100000 in
theorem laws_FnBeamsGo.calls0 (hR_ : laws_FnBeamsGo.RestSaid1) (k : Nat) (A0 : Option Addr) (c0 : Nat) (l0 : List Int) (A1 : Option Addr) (c1 : Nat) (l1 : List Int) (r : Bool) (w : World) (hr0 : Kd.C (Kd.int .u8) w A0 l0.length l0) (hc0 : l0.length ≤ c0) (hr1 : Kd.C (Kd.int .u8) w A1 l1.length l1) (hc1 : l1.length ≤ c1) (h : laws_FnBeamsGo.f k l0 l1 = some r) (ht : r = true) :
    Calls Try.prog 6 #[.slice A0 l0.length c0, .slice A1 l1.length c1] w fun e w' => e = .returned (.bool r) ∧ Below w.heap.size w w' := by
 have gf8 := Try.underlying28
 have gf9 := Try.underlying30
 have HR0 := Aside0.mk hr0
 have HC0 := Aside0.mk hc0
 clear hr0 hc0
 have HR1 := Aside0.mk hr1
 have HC1 := Aside0.mk hc1
 clear hr1 hc1
 have HB := Aside0.mk (Below.refl w.heap.size w)
 have H := h
 unfold laws_FnBeamsGo.f at H
 clear h
 have HT_l := Aside0.mk ht
 clear ht
 replace H := Option.bind_eq_some_iff.mp H; obtain ⟨bl9, A30, H⟩ := H; (try dsimp only at H); have A3 := Aside0.mk A30; clear A30
 by_cases c4 : bl9 = true
 ·(
 subst c4
 rw [if_pos rfl] at H
 obtain rfl := Option.some.inj H
 go_enter Try.func6, Try.ntmps6
 repeat (go_not_at_region 14; go_not_at_region 20; go_not_at_region 29; go_not_at_region 30; go_not_at_region 45; go_not_at_region 83; go_not_at_region 86; first | ((with_reducible refine gate_callee (f := 34) rfl ?_); refine goesL_ (some 82) rfl rfl Try.func34 kr rfl #[.slice A0 l0.length c0, .slice A1 l1.length c1] rfl sM ?_; (with_reducible refine (laws_big.calls _ _ l0 _ _ l1 true _ ?side1 ?side2 ?side3 ?side4 A3.out).mono ?_); (case side1 => repeat (first | exact HR0.out | (with_reducible refine Kd.C_alloc ?_ _) | (with_reducible refine Kd.C_drewN ?_ _) | (with_reducible refine Kd.C_drew ?_))); (case side2 => exact HC0.out); (case side3 => repeat (first | exact HR1.out | (with_reducible refine Kd.C_alloc ?_ _) | (with_reducible refine Kd.C_drewN ?_ _) | (with_reducible refine Kd.C_drew ?_))); (case side4 => exact HC1.out); rintro e w' ⟨rfl, ⟨nd, rfl⟩⟩; refine ⟨_, rfl, ?_⟩) | go_skip | go_guarded | go_step | go_upon)
 go_ret
 exact ⟨sE, bI⟩
 )
 replace c4 := Bool.eq_false_iff.mpr c4
 subst c4
 rw [if_neg nft] at H
 replace H := Option.bind_eq_some_iff.mp H; obtain ⟨⟨b9, b6, c7, c8, c9, d0, q4⟩, A50, H⟩ := H; (try dsimp only at H); have A5 := Aside0.mk A50; clear A50
 replace H := Option.bind_eq_some_iff.mp H; obtain ⟨⟨a2, E8⟩, A60, H⟩ := H; (try dsimp only at H); have A6 := Aside0.mk A60; clear A60
 replace H := Option.bind_eq_some_iff.mp H; obtain ⟨⟨T9, b67⟩, A70, H⟩ := H; (try dsimp only at H); have A7 := Aside0.mk A70; clear A70
 replace H := Option.bind_eq_some_iff.mp H; obtain ⟨⟨o8, o9⟩, A80, H⟩ := H; (try dsimp only at H); have A8 := Aside0.mk A80; clear A80
 replace H := Option.bind_eq_some_iff.mp H; obtain ⟨⟨b68, b69⟩, A90, H⟩ := H; (try dsimp only at H); have A9 := Aside0.mk A90; clear A90
 replace H := Option.bind_eq_some_iff.mp H; obtain ⟨⟨k9, n1⟩, b70, H⟩ := H; (try dsimp only at H); have A10 := Aside0.mk b70; clear b70
 replace H := Option.bind_eq_some_iff.mp H; obtain ⟨⟨b71, b72⟩, b73, H⟩ := H; (try dsimp only at H); have A11 := Aside0.mk b73; clear b73
 replace H := Option.bind_eq_some_iff.mp H; obtain ⟨⟨l2, m3⟩, b74, H⟩ := H; (try dsimp only at H); have A12 := Aside0.mk b74; clear b74
 replace H := Option.bind_eq_some_iff.mp H; obtain ⟨⟨b75, b76⟩, b77, H⟩ := H; (try dsimp only at H); have A13 := Aside0.mk b77; clear b77
 replace H := Option.bind_eq_some_iff.mp H; obtain ⟨⟨g6, g7, g8, g9, ae7⟩, b78, H⟩ := H; (try dsimp only at H); have A14 := Aside0.mk b78; clear b78
 replace H := Option.bind_eq_some_iff.mp H; obtain ⟨⟨h7, h8, h9, i0, b79⟩, b80, H⟩ := H; (try dsimp only at H); have A15 := Aside0.mk b80; clear b80
 have ae8 := Aside0.mk H
 clear H
 go_enter Try.func6, Try.ntmps6
 go_upto_region 14 with (first | ((with_reducible refine gate_callee (f := 34) rfl ?_); refine goesL_ (some 82) rfl rfl Try.func34 kr rfl #[.slice A0 l0.length c0, .slice A1 l1.length c1] rfl sM ?_; (with_reducible refine (laws_big.calls _ _ l0 _ _ l1 false _ ?side1 ?side2 ?side3 ?side4 A3.out).mono ?_); (case side1 => repeat (first | exact HR0.out | (with_reducible refine Kd.C_alloc ?_ _) | (with_reducible refine Kd.C_drewN ?_ _) | (with_reducible refine Kd.C_drew ?_))); (case side2 => exact HC0.out); (case side3 => repeat (first | exact HR1.out | (with_reducible refine Kd.C_alloc ?_ _) | (with_reducible refine Kd.C_drewN ?_ _) | (with_reducible refine Kd.C_drew ?_))); (case side4 => exact HC1.out); rintro e w' ⟨rfl, ⟨nd, rfl⟩⟩; refine ⟨_, rfl, ?_⟩) | ((with_reducible refine gate_callee (f := 35) rfl ?_); refine goesL_ (some 85) rfl rfl Try.func35 kr rfl #[.slice A0 l0.length c0] rfl sM ?_; (with_reducible refine (spec_DrawPlacesOfBeam.calls _ _ l0 b9 b6 c7 c8 c9 d0 q4 _ ?side1 ?side2 A5.out).mono ?_); (case side1 => repeat (first | exact HR0.out | (with_reducible refine Kd.C_alloc ?_ _) | (with_reducible refine Kd.C_drewN ?_ _) | (with_reducible refine Kd.C_drew ?_))); (case side2 => exact HC0.out); rintro e w17 ⟨rfl, hb⟩; refine ⟨_, rfl, ?_⟩; replace HB := Aside0.mk (below_step bB hb); (try clear hb)) | ((with_reducible refine gate_dst (N := 5) rfl ?_); refine box_ (cs := #[.int .i64 0, .int .i64 0]) (t := 28) fun e8 hg w18 hbox hb => ?_; have a3 := Aside0.mk (hbox); have g55 := bS HB hg; have g56 := bS HB hg; replace HB := Aside0.mk (below_step bB hb); clear hb hbox hg) | ((with_reducible refine gate_dst (N := 6) rfl ?_); refine box_ (cs := #[.int .i64 0, .int .i64 0, .bool false, .bool false]) (t := 30) fun h4 hg w19 hbox hb => ?_; have a5 := Aside0.mk (hbox); have g57 := bS HB hg; have g58 := bS HB hg; have d5 := bL a3 hg; have d6 := bM a3 hg; replace a3 := bQ a3 hb; replace HB := Aside0.mk (below_step bB hb); clear hb hbox hg; have g59 := d5.out; have g60 := d6.out; obtain ⟨ck7, ck8, ck9, cl0⟩ := cf2 a3; obtain ⟨cl1, cl2, cl3, cl4, cl5, cl6, cl7, cl8⟩ := cf4 a5) | ((with_reducible refine gate_callee (f := 13) rfl ?_); refine goesL_ (some 93) rfl rfl Try.func13 kr rfl #[.agg #[.int .i64 b9, .int .i64 b6], .agg #[.int .i64 c7, .int .i64 c8, .bool c9, .bool d0], .int .i64 q4] rfl sM ?_; (with_reducible refine (impl_PlacesOfBeam.calls b9 b6 c7 c8 c9 d0 q4 a2 E8 _ A6.out).mono ?_); rintro e w23 ⟨E9, rfl, S6, hb⟩; refine ⟨_, rfl, ?_⟩; have d7 := Aside0.mk (Kd.S_lower S6 (below_size bB)); replace a3 := (bP (.cells #[.int .i64 b9, .int .i64 b6] 28 (0, 0)) a3 hb); replace a5 := (bP (.cells #[.int .i64 c7, .int .i64 c8, .bool c9, .bool d0] 30 (0, 0)) a5 hb); replace HB := Aside0.mk (below_step bB hb); (try clear hb); (try clear S6); obtain ⟨cl9, cm0, cm1, cm2⟩ := cf2 a3; obtain ⟨cm3, cm4, cm5, cm6, cm7, cm8, cm9, cn0⟩ := cf4 a5) | ((with_reducible refine gate_callee (f := 14) rfl ?_); refine goesL_ (some 100) rfl rfl Try.func14 kr rfl #[.agg #[.int .i64 b9, .int .i64 b6], .agg #[.int .i64 c7, .int .i64 c8, .bool c9, .bool d0], .int .i64 q4] rfl sM ?_; (with_reducible refine (spec_PlacesOfBeam.calls k b9 b6 c7 c8 c9 d0 q4 T9 b67 _ A7.out).mono ?_); rintro e w26 ⟨b81, rfl, S6, hb⟩; refine ⟨_, rfl, ?_⟩; have e9 := Aside0.mk (Kd.S_lower (Kd.S_new' S6 (Kd.S_lt (oS d7))) (below_size bB)); replace d7 := Aside0.mk (Kd.S_elder' (oS d7) (Kd.S_base S6) hb); replace a3 := bQ a3 hb; replace a5 := bQ a5 hb; replace HB := Aside0.mk (below_step bB hb); (try clear hb); (try clear S6); obtain ⟨cn1, cn2, cn3, cn4⟩ := cf2 a3; obtain ⟨cn5, cn6, cn7, cn8, cn9, co0, co1, co2⟩ := cf4 a5) | ((with_reducible refine gate_callee (f := 15) rfl ?_); refine goesL_ (some 106) rfl rfl Try.func15 kr rfl #[.agg #[.int .i64 b9, .int .i64 b6], .agg #[.int .i64 c7, .int .i64 c8, .bool c9, .bool d0]] rfl sM ?_; (with_reducible refine (impl_StepsToCorner.calls b9 b6 c7 c8 c9 d0 o8 o9 _ A8.out).mono ?_); rintro e w29 ⟨rfl, hb⟩; refine ⟨_, rfl, ?_⟩; replace d7 := Aside0.mk (Kd.S_below (oS d7) hb); replace e9 := Aside0.mk (Kd.S_below (oS e9) hb); replace a3 := bQ a3 hb; replace a5 := bQ a5 hb; replace HB := Aside0.mk (below_step bB hb); (try clear hb); obtain ⟨co3, co4, co5, co6⟩ := cf2 a3; obtain ⟨co7, co8, co9, cp0, cp1, cp2, cp3, cp4⟩ := cf4 a5) | ((with_reducible refine gate_callee (f := 16) rfl ?_); refine goesL_ (some 112) rfl rfl Try.func16 kr rfl #[.agg #[.int .i64 b9, .int .i64 b6], .agg #[.int .i64 c7, .int .i64 c8, .bool c9, .bool d0]] rfl sM ?_; (with_reducible refine (spec_StepsToCorner.calls k b9 b6 c7 c8 c9 d0 b68 b69 _ A9.out).mono ?_); rintro e w32 ⟨rfl, hb⟩; refine ⟨_, rfl, ?_⟩; replace d7 := Aside0.mk (Kd.S_below (oS d7) hb); replace e9 := Aside0.mk (Kd.S_below (oS e9) hb); replace a3 := bQ a3 hb; replace a5 := bQ a5 hb; replace HB := Aside0.mk (below_step bB hb); (try clear hb); obtain ⟨cp5, cp6, cp7, cp8⟩ := cf2 a3; obtain ⟨cp9, cq0, cq1, cq2, cq3, cq4, cq5, cq6⟩ := cf4 a5) | ((with_reducible refine gate_callee (f := 17) rfl ?_); refine goesL_ (some 118) rfl rfl Try.func17 kr rfl #[.agg #[.int .i64 b9, .int .i64 b6], .agg #[.int .i64 c7, .int .i64 c8, .bool c9, .bool d0]] rfl sM ?_; (with_reducible refine (impl_PeriodOfBeam.calls b9 b6 c7 c8 c9 d0 k9 n1 _ A10.out).mono ?_); rintro e w35 ⟨rfl, hb⟩; refine ⟨_, rfl, ?_⟩; replace d7 := Aside0.mk (Kd.S_below (oS d7) hb); replace e9 := Aside0.mk (Kd.S_below (oS e9) hb); replace a3 := bQ a3 hb; replace a5 := bQ a5 hb; replace HB := Aside0.mk (below_step bB hb); (try clear hb); obtain ⟨cq7, cq8, cq9, cr0⟩ := cf2 a3; obtain ⟨cr1, cr2, cr3, cr4, cr5, cr6, cr7, cr8⟩ := cf4 a5) | ((with_reducible refine gate_callee (f := 18) rfl ?_); refine goesL_ (some 124) rfl rfl Try.func18 kr rfl #[.agg #[.int .i64 b9, .int .i64 b6], .agg #[.int .i64 c7, .int .i64 c8, .bool c9, .bool d0]] rfl sM ?_; (with_reducible refine (spec_PeriodOfBeam.calls k b9 b6 c7 c8 c9 d0 b71 b72 _ A11.out).mono ?_); rintro e w38 ⟨rfl, hb⟩; refine ⟨_, rfl, ?_⟩; replace d7 := Aside0.mk (Kd.S_below (oS d7) hb); replace e9 := Aside0.mk (Kd.S_below (oS e9) hb); replace a3 := bQ a3 hb; replace a5 := bQ a5 hb; replace HB := Aside0.mk (below_step bB hb); (try clear hb); obtain ⟨cr9, cs0, cs1, cs2⟩ := cf2 a3; obtain ⟨cs3, cs4, cs5, cs6, cs7, cs8, cs9, ct0⟩ := cf4 a5) | ((with_reducible refine gate_callee (f := 10) rfl ?_); refine goesL_ (some 130) rfl rfl Try.func10 kr rfl #[.agg #[.int .i64 b9, .int .i64 b6], .agg #[.int .i64 c7, .int .i64 c8, .bool c9, .bool d0]] rfl sM ?_; (with_reducible refine (impl_CountPlaces.calls b9 b6 c7 c8 c9 d0 l2 m3 _ A12.out).mono ?_); rintro e w41 ⟨rfl, hb⟩; refine ⟨_, rfl, ?_⟩; replace d7 := Aside0.mk (Kd.S_below (oS d7) hb); replace e9 := Aside0.mk (Kd.S_below (oS e9) hb); replace a3 := bQ a3 hb; replace a5 := bQ a5 hb; replace HB := Aside0.mk (below_step bB hb); (try clear hb); obtain ⟨ct1, ct2, ct3, ct4⟩ := cf2 a3; obtain ⟨ct5, ct6, ct7, ct8, ct9, cu0, cu1, cu2⟩ := cf4 a5) | ((with_reducible refine gate_callee (f := 7) rfl ?_); refine goesL_ (some 136) rfl rfl Try.func7 kr rfl #[.agg #[.int .i64 b9, .int .i64 b6], .agg #[.int .i64 c7, .int .i64 c8, .bool c9, .bool d0]] rfl sM ?_; (with_reducible refine (spec_CountPlaces.calls k b9 b6 c7 c8 c9 d0 b75 b76 _ A13.out).mono ?_); rintro e w44 ⟨rfl, hb⟩; refine ⟨_, rfl, ?_⟩; replace d7 := Aside0.mk (Kd.S_below (oS d7) hb); replace e9 := Aside0.mk (Kd.S_below (oS e9) hb); replace a3 := bQ a3 hb; replace a5 := bQ a5 hb; replace HB := Aside0.mk (below_step bB hb); (try clear hb); obtain ⟨cu3, cu4, cu5, cu6⟩ := cf2 a3; obtain ⟨cu7, cu8, cu9, cv0, cv1, cv2, cv3, cv4⟩ := cf4 a5) | ((with_reducible refine gate_callee (f := 19) rfl ?_); refine goesL_ (some 142) rfl rfl Try.func19 kr rfl #[.agg #[.int .i64 b9, .int .i64 b6], .agg #[.int .i64 c7, .int .i64 c8, .bool c9, .bool d0]] rfl sM ?_; (with_reducible refine (impl_BackBeam.calls b9 b6 c7 c8 c9 d0 g6 g7 g8 g9 ae7 _ A14.out).mono ?_); rintro e w47 ⟨rfl, hb⟩; refine ⟨_, rfl, ?_⟩; replace d7 := Aside0.mk (Kd.S_below (oS d7) hb); replace e9 := Aside0.mk (Kd.S_below (oS e9) hb); replace a3 := bQ a3 hb; replace a5 := bQ a5 hb; replace HB := Aside0.mk (below_step bB hb); (try clear hb)) | ((with_reducible refine gate_dst (N := 24) rfl ?_); refine box_ (cs := #[.int .i64 0, .int .i64 0, .bool false, .bool false]) (t := 30) fun h0 hg w48 hbox hb => ?_; have a6 := Aside0.mk (hbox); have g61 := bS HB hg; have g62 := bS HB hg; have d8 := bL a3 hg; have d9 := bM a3 hg; have uz3 := bL a5 hg; have uz4 := bM a5 hg; replace d7 := Aside0.mk (Kd.S_below (oS d7) hb); replace e9 := Aside0.mk (Kd.S_below (oS e9) hb); replace a3 := bQ a3 hb; replace a5 := bQ a5 hb; replace HB := Aside0.mk (below_step bB hb); clear hb hbox hg; have g63 := d9.out; have g64 := d8.out; have g65 := uz4.out; have g66 := uz3.out; obtain ⟨cv5, cv6, cv7, cv8, cv9, cw0, cw1, cw2⟩ := cf4 a6; obtain ⟨cw3, cw4, cw5, cw6⟩ := cf2 a3; obtain ⟨cw7, cw8, cw9, cx0, cx1, cx2, cx3, cx4⟩ := cf4 a5) | ((with_reducible refine gate_callee (f := 20) rfl ?_); refine goesL_ (some 148) rfl rfl Try.func20 kr rfl #[.agg #[.int .i64 b9, .int .i64 b6], .agg #[.int .i64 c7, .int .i64 c8, .bool c9, .bool d0]] rfl sM ?_; (with_reducible refine (spec_BackBeam.calls b9 b6 c7 c8 c9 d0 h7 h8 h9 i0 b79 _ A15.out).mono ?_); rintro e w54 ⟨rfl, hb⟩; refine ⟨_, rfl, ?_⟩; replace d7 := Aside0.mk (Kd.S_below (by (with_reducible repeat (first | apply Kd.S_alloc | apply Kd.S_drewN | apply Kd.S_drew)); exact (Kd.S_mono (Kd.S_far (p := ⟨h0, 3, none⟩) (Kd.S_far (p := ⟨h0, 2, none⟩) (Kd.S_far (p := ⟨h0, 1, none⟩) (Kd.S_far (p := ⟨h0, 0, none⟩) (Kd.S_types d7.out a6.out (by decide)) (fun _ hk => hk.2) (.int .i64 g6)) (fun _ hk => hk.2) (.int .i64 g7)) (fun _ hk => hk.2) (.bool g8)) (fun _ hk => hk.2) (.bool g9)) (fun _ h_ => h_.1))) hb); replace e9 := Aside0.mk (Kd.S_below (by (with_reducible repeat (first | apply Kd.S_alloc | apply Kd.S_drewN | apply Kd.S_drew)); exact (Kd.S_mono (Kd.S_far (p := ⟨h0, 3, none⟩) (Kd.S_far (p := ⟨h0, 2, none⟩) (Kd.S_far (p := ⟨h0, 1, none⟩) (Kd.S_far (p := ⟨h0, 0, none⟩) (Kd.S_types e9.out a6.out (by decide)) (fun _ hk => hk.2) (.int .i64 g6)) (fun _ hk => hk.2) (.int .i64 g7)) (fun _ hk => hk.2) (.bool g8)) (fun _ hk => hk.2) (.bool g9)) (fun _ h_ => h_.1))) hb); replace a3 := bQ a3 hb; replace a5 := bQ a5 hb; replace a6 := (bP (.cells #[.int .i64 g6, .int .i64 g7, .bool g8, .bool g9] 30 (0, 0)) a6 hb); replace HB := Aside0.mk (below_step bB hb); (try clear hb); (try clear hk)) | ((with_reducible refine gate_dst (N := 26) rfl ?_); refine box_ (cs := #[.int .i64 0, .int .i64 0, .bool false, .bool false]) (t := 30) fun e2 hg w55 hbox hb => ?_; have a7 := Aside0.mk (hbox); have g67 := bS HB hg; have g68 := bS HB hg; have e0 := bL a3 hg; have e1 := bM a3 hg; have uz5 := bL a5 hg; have uz6 := bM a5 hg; have K0 := bL a6 hg; have K1 := bM a6 hg; replace d7 := Aside0.mk (Kd.S_below (oS d7) hb); replace e9 := Aside0.mk (Kd.S_below (oS e9) hb); replace a3 := bQ a3 hb; replace a5 := bQ a5 hb; replace a6 := bQ a6 hb; replace HB := Aside0.mk (below_step bB hb); clear hb hbox hg; have g69 := e1.out; have g70 := e0.out; have g71 := uz6.out; have g72 := uz5.out; have g73 := K1.out; have g74 := K0.out; obtain ⟨cx5, cx6, cx7, cx8, cx9, cy0, cy1, cy2⟩ := cf4 a7))
 (try simp only [Act.put, List.setIfInBounds_toArray, List.set_cons_zero, List.set_cons_succ])
 go_cut [258] from 258 to 258 (fun bm0 wc => ∃ (kq : Nat) (D1 : Bool), bm0 = .bool D1 ∧ Aside0 (laws_FnBeamsGo.j0 kq l1 q4 a2 E8 o8 o9 k9 n1 l2 m3 D1 b9 b6 c7 c8 c9 d0 g6 g7 g8 g9 = some r) ∧ Aside0 (kq ≤ k) ∧ Aside0 (Kd.S (Kd.slice 3 (Kd.int .i64)) 40 wc w.heap.size (fun _ => True) E9 a2) ∧ Aside0 (wc.heap[e8]? = some (.cells #[.int .i64 b9, .int .i64 b6] 28 (0, 0))) ∧ Aside0 (wc.heap[h4]? = some (.cells #[.int .i64 c7, .int .i64 c8, .bool c9, .bool d0] 30 (0, 0))) ∧ Aside0 (wc.heap[h0]? = some (.cells #[.int .i64 g6, .int .i64 g7, .bool g8, .bool g9] 30 (0, 0))) ∧ Aside0 (wc.heap[e2]? = some (.cells #[.int .i64 h7, .int .i64 h8, .bool h9, .bool i0] 30 (0, 0))) ∧ Aside0 (Below w.heap.size w wc))
 case first => (
 as_aux_lemma => (
 have H := ae8.out
 clear ae8
 by_cases c60 : (E8 != b67) = true
 ·(
 rw [if_pos c60] at H
 exact absurd H (by cases k <;> simp [laws_FnBeamsGo.j0, HT_l.out])
 )
 rw [if_neg c60] at H
 obtain ⟨b06, g75, g76⟩ := nf c60
 clear c60
 (first | rw [b06] | (simp only [i64_w, i32_w]; rw [b06]) | skip)
 replace H := Option.bind_eq_some_iff.mp H; obtain ⟨bm1, b83, H⟩ := H; (try dsimp only at H); have A61 := Aside0.mk b83; clear b83
 by_cases c62 : bm1 = true
 ·(
 subst c62
 rw [if_pos rfl] at H
 by_cases c63 : (o9 != b69) = true
 ·(
 rw [if_pos c63] at H
 exact absurd H (by cases k <;> simp [laws_FnBeamsGo.j0, HT_l.out])
 )
 rw [if_neg c63] at H
 obtain ⟨g77, g78, g79⟩ := nf c63
 clear c63
 by_cases c64 : o8 = b68
 ·(
 rw [if_pos c64] at H
 obtain ⟨g80, g81⟩ := yE c64
 clear c64
 by_cases c65 : (n1 != b72) = true
 ·(
 rw [if_pos c65] at H
 exact absurd H (by cases k <;> simp [laws_FnBeamsGo.j0, HT_l.out])
 )
 rw [if_neg c65] at H
 obtain ⟨g82, g83, g84⟩ := nf c65
 clear c65
 by_cases c66 : k9 = b71
 ·(
 rw [if_pos c66] at H
 obtain ⟨g85, g86⟩ := yE c66
 clear c66
 by_cases c67 : (m3 != b76) = true
 ·(
 rw [if_pos c67] at H
 exact absurd H (by cases k <;> simp [laws_FnBeamsGo.j0, HT_l.out])
 )
 rw [if_neg c67] at H
 obtain ⟨g87, g88, g89⟩ := nf c67
 clear c67
 by_cases c68 : l2 = b75
 ·(
 rw [if_pos c68] at H
 obtain ⟨g90, g91⟩ := yE c68
 clear c68
 by_cases c69 : (ae7 != b79) = true
 ·(
 rw [if_pos c69] at H
 exact absurd H (by cases k <;> simp [laws_FnBeamsGo.j0, HT_l.out])
 )
 rw [if_neg c69] at H
 obtain ⟨g92, g93, g94⟩ := nf c69
 clear c69
 by_cases c70 : (!(g6 == h7) || (!(g7 == h8) || (!(g8 == h9) || (!(g9 == i0))))) = true
 ·(
 rw [if_pos c70] at H
 exact absurd H (by cases k <;> simp [laws_FnBeamsGo.j0, HT_l.out])
 )
 rw [if_neg c70] at H
 have g95 : (!(g6 == h7) || (!(g7 == h8) || (!(g8 == h9) || (!(g9 == i0))))) = false := by simpa using c70
 clear c70
 replace H := Option.bind_eq_some_iff.mp H; obtain ⟨b84, b85, H⟩ := H; (try dsimp only at H); have A71 := Aside0.mk b85; clear b85
 by_cases c72 : (m3 != b84) = true
 ·(
 rw [if_pos c72] at H
 exact absurd H (by cases k <;> simp [laws_FnBeamsGo.j0, HT_l.out])
 )
 rw [if_neg c72] at H
 obtain ⟨g96, g97, g98⟩ := nf c72
 clear c72
 replace H := Option.bind_eq_some_iff.mp H; obtain ⟨b86, b87, H⟩ := H; (try dsimp only at H); have A73 := Aside0.mk b87; clear b87
 replace H := Option.bind_eq_some_iff.mp H; obtain ⟨b88, b89, H⟩ := H; (try dsimp only at H); have A74 := Aside0.mk b89; clear b89
 by_cases c75 : (b86 != b88) = true
 ·(
 rw [if_pos c75] at H
 exact absurd H (by cases k <;> simp [laws_FnBeamsGo.j0, HT_l.out])
 )
 rw [if_neg c75] at H
 obtain ⟨g99, ga0, ga1⟩ := nf c75
 clear c75
 by_cases c76 : (ae7 != m3) = true
 ·(
 rw [if_pos c76] at H
 exact absurd H (by cases k <;> simp [laws_FnBeamsGo.j0, HT_l.out])
 )
 rw [if_neg c76] at H
 obtain ⟨ga2, ga3, ga4⟩ := nf c76
 clear c76
 have HQ_ := Aside0.mk H
 clear H
 repeat (go_not_at_region 14; go_not_at_region 20; go_not_at_region 29; go_not_at_region 30; go_not_at_region 45; go_not_at_region 83; go_not_at_region 86; first | go_skip | go_guarded | go_step | go_upon)
 have n0_ : Aside0 (Kd.S (Kd.slice 3 (Kd.int .i64)) 40 ((((w55.setCell ⟨e2, 0, none⟩ (.int .i64 h7)).setCell ⟨e2, 1, none⟩ (.int .i64 h8)).setCell ⟨e2, 2, none⟩ (.bool h9)).setCell ⟨e2, 3, none⟩ (.bool i0)) w.heap.size (fun k_ => some k_ ≠ (b81 : Value).ownBlock) E9 a2) := ⟨by (with_reducible repeat (first | apply Kd.S_alloc | apply Kd.S_drewN | apply Kd.S_drew)); exact Kd.S_mono (Kd.S_far (p := ⟨e2, 3, none⟩) (Kd.S_far (p := ⟨e2, 2, none⟩) (Kd.S_far (p := ⟨e2, 1, none⟩) (Kd.S_far (p := ⟨e2, 0, none⟩) (Kd.S_types d7.out a7.out (by decide)) (fun _ hk => hk.2) (.int .i64 h7)) (fun _ hk => hk.2) (.int .i64 h8)) (fun _ hk => hk.2) (.bool h9)) (fun _ hk => hk.2) (.bool i0)) (fun _ hk => hk.1.2)⟩
 have n1_ : Aside0 (Kd.S (Kd.slice 3 (Kd.int .i64)) 40 ((((w55.setCell ⟨e2, 0, none⟩ (.int .i64 h7)).setCell ⟨e2, 1, none⟩ (.int .i64 h8)).setCell ⟨e2, 2, none⟩ (.bool h9)).setCell ⟨e2, 3, none⟩ (.bool i0)) w.heap.size (fun k_ => some k_ ≠ (E9 : Value).ownBlock) b81 T9) := ⟨by (with_reducible repeat (first | apply Kd.S_alloc | apply Kd.S_drewN | apply Kd.S_drew)); exact Kd.S_mono (Kd.S_far (p := ⟨e2, 3, none⟩) (Kd.S_far (p := ⟨e2, 2, none⟩) (Kd.S_far (p := ⟨e2, 1, none⟩) (Kd.S_far (p := ⟨e2, 0, none⟩) (Kd.S_types e9.out a7.out (by decide)) (fun _ hk => hk.2) (.int .i64 h7)) (fun _ hk => hk.2) (.int .i64 h8)) (fun _ hk => hk.2) (.bool h9)) (fun _ hk => hk.2) (.bool i0)) (fun _ hk => hk.1.2)⟩
 generalize hW_ : ((((w55.setCell ⟨e2, 0, none⟩ (.int .i64 h7)).setCell ⟨e2, 1, none⟩ (.int .i64 h8)).setCell ⟨e2, 2, none⟩ (.bool h9)).setCell ⟨e2, 3, none⟩ (.bool i0)) = w81 at n0_ n1_ ⊢
 have nB_ := bG HB hW_
 replace a3 := bF hW_ a3
 replace a5 := bF hW_ a5
 replace a6 := bF hW_ a6
 replace a7 := bFp hW_ (.cells #[.int .i64 h7, .int .i64 h8, .bool h9, .bool i0] 30 (0, 0)) a7
 try clear d7
 have d7 := n0_
 clear n0_
 try clear e9
 have e9 := n1_
 clear n1_ HB
 have HB := nB_
 clear nB_ hW_
 replace d7 := Aside0.mk (Kd.S_drew d7.out)
 replace e9 := Aside0.mk (Kd.S_drew e9.out)
 replace a3 := bD1 a3
 replace a5 := bD1 a5
 replace a6 := bD1 a6
 replace a7 := bD1 a7
 replace HB := Aside0.mk (below_drew1 HB.out)
 obtain ⟨bm2, bm3, b90⟩ := Kd.S_slice d7.out
 (first | subst b90 | (injection b90 with f1_ f2_ f3_; have f4_ := f1_.symm; have f5_ := f3_.symm; clear f1_ f2_ f3_; subst f4_; subst f5_))
 obtain ⟨bm4, bm5, b91⟩ := Kd.S_slice e9.out
 (first | subst b91 | (injection b91 with f1_ f2_ f3_; have f4_ := f1_.symm; have f5_ := f3_.symm; clear f1_ f2_ f3_; subst f4_; subst f5_))
 refine st_ 108 laws_FnBeamsGo.pl0 (S := fun w' => w'.cell? ⟨h0, 0, none⟩ = some (.int .i64 g6) ∧ w'.cell? ⟨h0, 1, none⟩ = some (.int .i64 g7) ∧ w'.cell? ⟨h0, 2, none⟩ = some (.bool g8) ∧ w'.cell? ⟨h0, 3, none⟩ = some (.bool g9) ∧ w'.cell? ⟨e2, 0, none⟩ = some (.int .i64 h7) ∧ w'.cell? ⟨e2, 1, none⟩ = some (.int .i64 h8) ∧ w'.cell? ⟨e2, 2, none⟩ = some (.bool h9) ∧ w'.cell? ⟨e2, 3, none⟩ = some (.bool i0) ∧ w'.cell? ⟨e8, 0, none⟩ = some (.int .i64 b9) ∧ w'.cell? ⟨e8, 1, none⟩ = some (.int .i64 b6) ∧ w'.cell? ⟨h4, 0, none⟩ = some (.int .i64 c7) ∧ w'.cell? ⟨h4, 1, none⟩ = some (.int .i64 c8) ∧ w'.cell? ⟨h4, 2, none⟩ = some (.bool c9) ∧ w'.cell? ⟨h4, 3, none⟩ = some (.bool d0)) (ds := []) laws_FnBeamsGo.tab14 laws_FnBeamsGo.bits14 cS (fun hHeld HT_ HW_ => ?_)
 generalize w81.drew = w82 at d7 e9 a3 a5 a6 a7 HB hHeld ⊢
 (try clear ck7); (try clear ck8); (try clear ck9); (try clear cl0); (try clear cl1); (try clear cl2); (try clear cl3); (try clear cl4); (try clear cl5); (try clear cl6); (try clear cl7); (try clear cl8); (try clear cl9); (try clear cm0); (try clear cm1); (try clear cm2); (try clear cm3); (try clear cm4); (try clear cm5); (try clear cm6); (try clear cm7); (try clear cm8); (try clear cm9); (try clear cn0); (try clear cn1); (try clear cn2); (try clear cn3); (try clear cn4); (try clear cn5); (try clear cn6); (try clear cn7); (try clear cn8); (try clear cn9); (try clear co0); (try clear co1); (try clear co2); (try clear co3); (try clear co4); (try clear co5); (try clear co6); (try clear co7); (try clear co8); (try clear co9); (try clear cp0); (try clear cp1); (try clear cp2); (try clear cp3); (try clear cp4); (try clear cp5); (try clear cp6); (try clear cp7); (try clear cp8); (try clear cp9); (try clear cq0); (try clear cq1); (try clear cq2); (try clear cq3); (try clear cq4); (try clear cq5); (try clear cq6); (try clear cq7); (try clear cq8); (try clear cq9); (try clear cr0); (try clear cr1); (try clear cr2); (try clear cr3); (try clear cr4); (try clear cr5); (try clear cr6); (try clear cr7); (try clear cr8); (try clear cr9); (try clear cs0); (try clear cs1); (try clear cs2); (try clear cs3); (try clear cs4); (try clear cs5); (try clear cs6); (try clear cs7); (try clear cs8); (try clear cs9); (try clear ct0); (try clear ct1); (try clear ct2); (try clear ct3); (try clear ct4); (try clear ct5); (try clear ct6); (try clear ct7); (try clear ct8); (try clear ct9); (try clear cu0); (try clear cu1); (try clear cu2); (try clear cu3); (try clear cu4); (try clear cu5); (try clear cu6); (try clear cu7); (try clear cu8); (try clear cu9); (try clear cv0); (try clear cv1); (try clear cv2); (try clear cv3); (try clear cv4); (try clear cv5); (try clear cv6); (try clear cv7); (try clear cv8); (try clear cv9); (try clear cw0); (try clear cw1); (try clear cw2); (try clear cw3); (try clear cw4); (try clear cw5); (try clear cw6); (try clear cw7); (try clear cw8); (try clear cw9); (try clear cx0); (try clear cx1); (try clear cx2); (try clear cx3); (try clear cx4); (try clear cx5); (try clear cx6); (try clear cx7); (try clear cx8); (try clear cx9); (try clear cy0); (try clear cy1); (try clear cy2); (try clear g59); (try clear g60); (try clear g63); (try clear g64); (try clear g65); (try clear g66); (try clear g69); (try clear g70); (try clear g71); (try clear g72); (try clear g73); (try clear g74)
 iterate 6 refine pA HT_ ?_
 refine pO HT_ fun K hK => ?_
 refine goes_ Try.func21 kr rfl #[.slice bm2 a2.length bm3, .slice bm4 T9.length bm5] (by rfl) rfl rfl sM ?_
 with_reducible refine (laws_jRows.calls k _ _ a2 _ _ T9 true _ ?side1 ?side2 ?side3 ?side4 A61.out).mono ?_
 (case side1 => repeat (first | exact (Kd.S_reads' d7.out).2.2 | (with_reducible refine Kd.C_alloc ?_ _) | (with_reducible refine Kd.C_drewN ?_ _) | (with_reducible refine Kd.C_drew ?_)))
 (case side2 => exact (Kd.S_reads' d7.out).2.1)
 (case side3 => repeat (first | exact (Kd.S_reads' e9.out).2.2 | (with_reducible refine Kd.C_alloc ?_ _) | (with_reducible refine Kd.C_drewN ?_ _) | (with_reducible refine Kd.C_drew ?_)))
 (case side4 => exact (Kd.S_reads' e9.out).2.1)
 rintro e w' ⟨rfl, ⟨nd, rfl⟩⟩
 refine ⟨_, rfl, ?_⟩
 refine hK.out _ _ cS (fun hHeld => ?_)
 clear hK K
 refine nP ?_
 iterate 46 (first | refine pA HT_ ?_ | refine pT HT_ HW_ hHeld ?_)
 refine pO HT_ fun K hK => ?_
 refine goes_ Try.func22 kr rfl #[.agg #[.int .i64 b9, .int .i64 b6], .agg #[.int .i64 c7, .int .i64 c8, .bool c9, .bool d0]] (by rfl) rfl rfl sM ?_
 with_reducible refine (impl_IsBeam.calls b9 b6 c7 c8 c9 d0 b84 _ A71.out).mono ?_
 rintro e w85 ⟨rfl, hb⟩
 refine ⟨_, rfl, ?_⟩
 replace d7 := Aside0.mk (Kd.S_below (oS d7) hb)
 replace e9 := Aside0.mk (Kd.S_below (oS e9) hb)
 replace a3 := bQ a3 hb
 replace a5 := bQ a5 hb
 replace a6 := bQ a6 hb
 replace a7 := bQ a7 hb
 replace HB := Aside0.mk (below_step bB hb)
 try clear hb
 refine hK.out _ _ cS (fun hHeld => ?_)
 clear hK K
 refine nP ?_
 iterate 7 (first | refine pA HT_ ?_ | refine pT HT_ HW_ hHeld ?_)
 refine pO HT_ fun K hK => ?_
 refine goes_ Try.func22 kr rfl #[.agg #[.int .i64 b9, .int .i64 b6], .agg #[.int .i64 c7, .int .i64 c8, .bool c9, .bool d0]] (by rfl) rfl rfl sM ?_
 with_reducible refine (impl_IsBeam.calls b9 b6 c7 c8 c9 d0 b86 _ A73.out).mono ?_
 rintro e w86 ⟨rfl, hb⟩
 refine ⟨_, rfl, ?_⟩
 replace d7 := Aside0.mk (Kd.S_below (oS d7) hb)
 replace e9 := Aside0.mk (Kd.S_below (oS e9) hb)
 replace a3 := bQ a3 hb
 replace a5 := bQ a5 hb
 replace a6 := bQ a6 hb
 replace a7 := bQ a7 hb
 replace HB := Aside0.mk (below_step bB hb)
 try clear hb
 refine hK.out _ _ cS (fun hHeld => ?_)
 clear hK K
 refine nP ?_
 refine pO HT_ fun K hK => ?_
 refine goes_ Try.func23 kr rfl #[.agg #[.int .i64 b9, .int .i64 b6], .agg #[.int .i64 c7, .int .i64 c8, .bool c9, .bool d0]] (by rfl) rfl rfl sM ?_
 with_reducible refine (spec_IsBeam.calls b9 b6 c7 c8 c9 d0 b88 _ A74.out).mono ?_
 rintro e w87 ⟨rfl, hb⟩
 refine ⟨_, rfl, ?_⟩
 replace d7 := Aside0.mk (Kd.S_below (oS d7) hb)
 replace e9 := Aside0.mk (Kd.S_below (oS e9) hb)
 replace a3 := bQ a3 hb
 replace a5 := bQ a5 hb
 replace a6 := bQ a6 hb
 replace a7 := bQ a7 hb
 replace HB := Aside0.mk (below_step bB hb)
 try clear hb
 refine hK.out _ _ cS (fun hHeld => ?_)
 clear hK K
 refine nP ?_
 have H := HQ_.out
 clear HQ_
 by_cases c77 : o9 = true
 ·(
 subst c77
 rw [if_pos rfl] at H
 by_cases c78 : m3 = true
 ·(
 subst c78
 rw [if_pos rfl] at H
 by_cases c79 : n1 = true
 ·(
 subst c79
 rw [if_pos rfl] at H
 exact absurd H (by cases k <;> simp [laws_FnBeamsGo.j0, HT_l.out])
 )
 replace c79 := Bool.eq_false_iff.mpr c79
 subst c79
 rw [if_neg nft] at H
 by_cases c80 : E8 = true
 ·(
 subst c80
 rw [if_pos rfl] at H
 have H' := Aside0.mk H
 clear H
 iterate 45 (first | refine pA HT_ ?_ | refine pB HT_ ?_)
 refine pD HT_ ?_
 repeat (go_not_at_region 14; go_not_at_region 20; go_not_at_region 29; go_not_at_region 30; go_not_at_region 45; go_not_at_region 83; go_not_at_region 86; first | go_skip | go_guarded | go_step | go_upon)
 (try rw [dSet])
 go_meet
 case rel => exact ⟨_, (!true), sR, H', ⟨by first | exact Nat.le_refl _ | omega⟩, ⟨by (with_reducible repeat (first | apply Kd.S_alloc | apply Kd.S_drewN | apply Kd.S_drew)); exact Kd.S_mono d7.out (fun _ hk => trivial)⟩, (bA a3), (bA a5), (bA a6), (bA a7), ⟨bB⟩⟩
 )
 replace c80 := Bool.eq_false_iff.mpr c80
 subst c80
 rw [if_neg nft] at H
 have H' := Aside0.mk H
 clear H
 iterate 45 (first | refine pA HT_ ?_ | refine pB HT_ ?_)
 refine pD HT_ ?_
 repeat (go_not_at_region 14; go_not_at_region 20; go_not_at_region 29; go_not_at_region 30; go_not_at_region 45; go_not_at_region 83; go_not_at_region 86; first | go_skip | go_guarded | go_step | go_upon)
 (try rw [dSet])
 go_meet
 case rel => exact ⟨_, (false), sR, H', ⟨by first | exact Nat.le_refl _ | omega⟩, ⟨by (with_reducible repeat (first | apply Kd.S_alloc | apply Kd.S_drewN | apply Kd.S_drew)); exact Kd.S_mono d7.out (fun _ hk => trivial)⟩, (bA a3), (bA a5), (bA a6), (bA a7), ⟨bB⟩⟩
 )
 replace c78 := Bool.eq_false_iff.mpr c78
 subst c78
 rw [if_neg nft] at H
 exact absurd H (by cases k <;> simp [laws_FnBeamsGo.j0, HT_l.out])
 )
 replace c77 := Bool.eq_false_iff.mpr c77
 subst c77
 rw [if_neg nft] at H
 by_cases c95 : n1 = true
 ·(
 subst c95
 rw [if_pos rfl] at H
 by_cases c96 : m3 = true
 ·(
 subst c96
 rw [if_pos rfl] at H
 by_cases c97 : E8 = true
 ·(
 subst c97
 rw [if_pos rfl] at H
 have H' := Aside0.mk H
 clear H
 iterate 45 (first | refine pA HT_ ?_ | refine pB HT_ ?_)
 refine pD HT_ ?_
 repeat (go_not_at_region 14; go_not_at_region 20; go_not_at_region 29; go_not_at_region 30; go_not_at_region 45; go_not_at_region 83; go_not_at_region 86; first | go_skip | go_guarded | go_step | go_upon)
 (try rw [dSet])
 go_meet
 case rel => exact ⟨_, (!true), sR, H', ⟨by first | exact Nat.le_refl _ | omega⟩, ⟨by (with_reducible repeat (first | apply Kd.S_alloc | apply Kd.S_drewN | apply Kd.S_drew)); exact Kd.S_mono d7.out (fun _ hk => trivial)⟩, (bA a3), (bA a5), (bA a6), (bA a7), ⟨bB⟩⟩
 )
 replace c97 := Bool.eq_false_iff.mpr c97
 subst c97
 rw [if_neg nft] at H
 have H' := Aside0.mk H
 clear H
 iterate 45 (first | refine pA HT_ ?_ | refine pB HT_ ?_)
 refine pD HT_ ?_
 repeat (go_not_at_region 14; go_not_at_region 20; go_not_at_region 29; go_not_at_region 30; go_not_at_region 45; go_not_at_region 83; go_not_at_region 86; first | go_skip | go_guarded | go_step | go_upon)
 (try rw [dSet])
 go_meet
 case rel => exact ⟨_, (false), sR, H', ⟨by first | exact Nat.le_refl _ | omega⟩, ⟨by (with_reducible repeat (first | apply Kd.S_alloc | apply Kd.S_drewN | apply Kd.S_drew)); exact Kd.S_mono d7.out (fun _ hk => trivial)⟩, (bA a3), (bA a5), (bA a6), (bA a7), ⟨bB⟩⟩
 )
 replace c96 := Bool.eq_false_iff.mpr c96
 subst c96
 rw [if_neg nft] at H
 exact absurd H (by cases k <;> simp [laws_FnBeamsGo.j0, HT_l.out])
 )
 replace c95 := Bool.eq_false_iff.mpr c95
 subst c95
 rw [if_neg nft] at H
 by_cases U0 : m3 = true
 ·(
 subst U0
 rw [if_pos rfl] at H
 exact absurd H (by cases k <;> simp [laws_FnBeamsGo.j0, HT_l.out])
 )
 replace U0 := Bool.eq_false_iff.mpr U0
 subst U0
 rw [if_neg nft] at H
 by_cases U1 : E8 = true
 ·(
 subst U1
 rw [if_pos rfl] at H
 have H' := Aside0.mk H
 clear H
 iterate 45 (first | refine pA HT_ ?_ | refine pB HT_ ?_)
 refine pD HT_ ?_
 repeat (go_not_at_region 14; go_not_at_region 20; go_not_at_region 29; go_not_at_region 30; go_not_at_region 45; go_not_at_region 83; go_not_at_region 86; first | go_skip | go_guarded | go_step | go_upon)
 (try rw [dSet])
 go_meet
 case rel => exact ⟨_, (!false), sR, H', ⟨by first | exact Nat.le_refl _ | omega⟩, ⟨by (with_reducible repeat (first | apply Kd.S_alloc | apply Kd.S_drewN | apply Kd.S_drew)); exact Kd.S_mono d7.out (fun _ hk => trivial)⟩, (bA a3), (bA a5), (bA a6), (bA a7), ⟨bB⟩⟩
 )
 replace U1 := Bool.eq_false_iff.mpr U1
 subst U1
 rw [if_neg nft] at H
 have H' := Aside0.mk H
 clear H
 iterate 45 (first | refine pA HT_ ?_ | refine pB HT_ ?_)
 refine pD HT_ ?_
 repeat (go_not_at_region 14; go_not_at_region 20; go_not_at_region 29; go_not_at_region 30; go_not_at_region 45; go_not_at_region 83; go_not_at_region 86; first | go_skip | go_guarded | go_step | go_upon)
 (try rw [dSet])
 go_meet
 case rel => exact ⟨_, (false), sR, H', ⟨by first | exact Nat.le_refl _ | omega⟩, ⟨by (with_reducible repeat (first | apply Kd.S_alloc | apply Kd.S_drewN | apply Kd.S_drew)); exact Kd.S_mono d7.out (fun _ hk => trivial)⟩, (bA a3), (bA a5), (bA a6), (bA a7), ⟨bB⟩⟩
 )
 rw [if_neg c68] at H
 exact absurd H (by cases k <;> simp [laws_FnBeamsGo.j0, HT_l.out])
 )
 rw [if_neg c66] at H
 exact absurd H (by cases k <;> simp [laws_FnBeamsGo.j0, HT_l.out])
 )
 rw [if_neg c64] at H
 exact absurd H (by cases k <;> simp [laws_FnBeamsGo.j0, HT_l.out])
 )
 replace c62 := Bool.eq_false_iff.mpr c62
 subst c62
 rw [if_neg nft] at H
 exact absurd H (by cases k <;> simp [laws_FnBeamsGo.j0, HT_l.out])
 )
 )
 clear ae8
 obtain ⟨kq, D1, rfl, HA, HJ15, a9, a3, a5, a6, a7, HB⟩ := hcut
 rename_i K1_ aK1_ K_ aK_
 exact aK_ _ _ (hR_ k A0 c0 l0 A1 c1 l1 r w b9 b6 c7 c8 c9 d0 q4 a2 E8 T9 b67 o8 o9 b68 b69 k9 n1 b71 b72 l2 m3 b75 b76 g6 g7 g8 g9 ae7 h7 h8 h9 i0 b79 e8 h4 E9 b81 h0 e2 wc u151 u152 u153 u154 u155 u156 u157 u158 u159 u160 u161 u162 u163 u164 u165 u166 u167 u168 u169 u170 u171 u172 u173 u174 u175 u176 u177 u178 u179 u180 u181 u182 u183 u184 u185 u186 u187 u188 u189 u190 u191 u192 u193 u194 u195 u196 u197 u198 u199 u200 u201 u202 u203 u204 u205 u206 u207 u208 u209 u210 u211 u212 u213 u214 u215 u216 u217 u218 u219 u220 u221 u222 u223 u224 u225 u226 u227 u228 u229 u230 u231 u232 u233 u234 u235 u236 u237 u238 u239 u240 u241 u242 u243 u244 u245 u246 u247 u248 u249 u250 u251 u252 u253 u254 u255 u256 u257 kq D1 HR0 HC0 HR1 HC1 HT_l A3 A5 A6 A7 A8 A9 A10 A11 A12 A13 A14 A15 g55 g56 g57 g58 d5 d6 g61 g62 d8 d9 uz3 uz4 g67 g68 e0 e1 uz5 uz6 K0 K1 HA HJ15 a9 a3 a5 a6 a7 HB K1_ aK1_)
end Go.Proofs.Ythfbjofmcniogaa.PFnBeamsGo
