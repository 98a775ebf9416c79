-- Written by programs of this session (xprint.py, squeeze.py): the walk of the law.
import Derived.Test.YtcfknhmdhglmfaaDoorVM
import Derived.Test.YtcfknhmdhglmfaaDoorPFnLaddersCrossx0
import Derived.Test.YtcfknhmdhglmfaaDoorPFnLaddersCrossx1
import Derived.Test.YtcfknhmdhglmfaaDoorPFnLaddersCrossx2
import Derived.Test.YtcfknhmdhglmfaaDoorPFnLaddersCrossx3
import Derived.Test.YtcfknhmdhglmfaaDoorPFnLaddersCrossx4
import Derived.Test.YtcfknhmdhglmfaaDoorPFnLaddersCrossx5
import Derived.Test.YtcfknhmdhglmfaaDoorPFnLaddersCrossx6
import Derived.Test.YtcfknhmdhglmfaaDoorPFnLaddersCrossx7
import Derived.Test.YtcfknhmdhglmfaaDoorPFnLaddersCrossx8
import Derived.Test.YtcfknhmdhglmfaaDoorPFnLaddersCrossx9
namespace Go.Proofs.YtcfknhmdhglmfaaDoor.PFnLaddersCross
open Go.Proofs.YtcfknhmdhglmfaaDoorV Go.RowKit Go.Proofs.YtcfknhmdhglmfaaDoorW.PrintWords Go.Proofs.YtcfknhmdhglmfaaDoorW.PrintLast Go.Proofs.YtcfknhmdhglmfaaDoorW.PrintMore
attribute [local go_sem] max2_int min2_int max_two min_two max_three min_three max_four min_four   -- for this text's walks alone
set_option linter.unusedVariables false
set_option linter.unusedSimpArgs false
attribute [local go_sem high] eqA25
set_option maxHeartbeats 100000000 in
set_option maxRecDepth 100000 in
theorem laws_FnLaddersCross.calls (k : Nat) (A0 : Option Addr) (c0 : Nat) (l0 : List Int) (A1 : Option Addr) (c1 : Nat) (l1 : List Int) (r : Bool) (w : World) (hr0 : Kd.C (Kd.int .u8) w A0 l0.length l0) (hc0 : l0.length ≤ c0) (hr1 : Kd.C (Kd.int .u8) w A1 l1.length l1) (hc1 : l1.length ≤ c1) (h : laws_FnLaddersCross.f k l0 l1 = some r) (ht : r = true) (hw_ : PtW w) :
    Calls Tryd.prog 3 #[.slice A0 l0.length c0, .slice A1 l1.length c1] w fun e w' => e = .returned (.bool r) ∧ Below w.heap.size w w' := by
 have HM := Aside0.mk hw_
 clear hw_
 have bd6 := Tryd.underlying25
 have O7 := Aside0.mk hr0
 have O8 := Aside0.mk hc0
 clear hr0 hc0
 have u7 := Aside0.mk hr1
 have u9 := Aside0.mk hc1
 clear hr1 hc1
 have HB := Aside0.mk (Below.refl w.heap.size w)
 have H := h
 unfold laws_FnLaddersCross.f at H
 clear h
 have HT_l := Aside0.mk ht
 clear ht
 replace H := Option.bind_eq_some_iff.mp H; obtain ⟨Y0, X4, H⟩ := H; (try dsimp only at H); have A3 := Aside0.mk X4; clear X4
 by_cases c4 : Y0 = true
 ·(
 subst c4
 rw [if_pos rfl] at H
 obtain rfl := Option.some.inj H
 go_enter Tryd.func3, Tryd.ntmps3
 go_wp2_with (first | ((with_reducible refine gate_callee (f := 4) rfl ?_); refine goesL_ (some 97) rfl rfl Tryd.func4 kr rfl #[.slice A0 l0.length c0, .slice A1 l1.length c1] rfl sM ?_; (with_reducible refine (laws_big.calls _ _ l0 _ _ l1 true _ ?side1 ?side2 ?side3 ?side4 A3.out).mono ?_); (case side1 => repeat (first | exact O7.out | (with_reducible refine Kd.C_alloc ?_ _) | (with_reducible refine Kd.C_drewN ?_ _) | (with_reducible refine Kd.C_drew ?_))); (case side2 => exact O8.out); (case side3 => repeat (first | exact u7.out | (with_reducible refine Kd.C_alloc ?_ _) | (with_reducible refine Kd.C_drewN ?_ _) | (with_reducible refine Kd.C_drew ?_))); (case side4 => exact u9.out); rintro e w' ⟨rfl, ⟨nd, rfl⟩⟩; refine ⟨_, rfl, ?_⟩))
 go_ret
 exact ⟨sE, bI⟩
 )
 replace c4 := Bool.eq_false_iff.mpr c4
 subst c4
 rw [if_neg nft] at H
 replace H := Option.bind_eq_some_iff.mp H; obtain ⟨⟨a8, a6, a7⟩, X5, H⟩ := H; (try dsimp only at H); have A5 := Aside0.mk X5; clear X5
 replace H := Option.bind_eq_some_iff.mp H; obtain ⟨⟨c7, d7, e5⟩, X6, H⟩ := H; (try dsimp only at H); have A6 := Aside0.mk X6; clear X6
 replace H := Option.bind_eq_some_iff.mp H; obtain ⟨⟨O9, P0, P1⟩, X7, H⟩ := H; (try dsimp only at H); have A7 := Aside0.mk X7; clear X7
 replace H := Option.bind_eq_some_iff.mp H; obtain ⟨⟨n0, k0, y5⟩, X8, H⟩ := H; (try dsimp only at H); have A8 := Aside0.mk X8; clear X8
 replace H := Option.bind_eq_some_iff.mp H; obtain ⟨⟨P2, P3, P4⟩, X9, H⟩ := H; (try dsimp only at H); have A9 := Aside0.mk X9; clear X9
 replace H := Option.bind_eq_some_iff.mp H; obtain ⟨⟨j7, g9, y6⟩, P5, H⟩ := H; (try dsimp only at H); have A10 := Aside0.mk P5; clear P5
 replace H := Option.bind_eq_some_iff.mp H; obtain ⟨⟨P6, P7, P8⟩, P9, H⟩ := H; (try dsimp only at H); have A11 := Aside0.mk P9; clear P9
 replace H := Option.bind_eq_some_iff.mp H; obtain ⟨⟨k1, j8, y7⟩, R0, H⟩ := H; (try dsimp only at H); have A12 := Aside0.mk R0; clear R0
 replace H := Option.bind_eq_some_iff.mp H; obtain ⟨⟨R1, R2, R3⟩, R4, H⟩ := H; (try dsimp only at H); have A13 := Aside0.mk R4; clear R4
 replace H := Option.bind_eq_some_iff.mp H; obtain ⟨⟨n7, y8⟩, R5, H⟩ := H; (try dsimp only at H); have A14 := Aside0.mk R5; clear R5
 replace H := Option.bind_eq_some_iff.mp H; obtain ⟨⟨R6, R7⟩, R8, H⟩ := H; (try dsimp only at H); have A15 := Aside0.mk R8; clear R8
 replace H := Option.bind_eq_some_iff.mp H; obtain ⟨⟨n1, y9⟩, n8, H⟩ := H; (try dsimp only at H); have A16 := Aside0.mk n8; clear n8
 replace H := Option.bind_eq_some_iff.mp H; obtain ⟨⟨R9, S0⟩, S1, H⟩ := H; (try dsimp only at H); have A17 := Aside0.mk S1; clear S1
 replace H := Option.bind_eq_some_iff.mp H; obtain ⟨⟨b7, b8, b9, z2⟩, S2, H⟩ := H; (try dsimp only at H); have A18 := Aside0.mk S2; clear S2
 replace H := Option.bind_eq_some_iff.mp H; obtain ⟨⟨c8, c9, d0, S3⟩, S4, H⟩ := H; (try dsimp only at H); have A19 := Aside0.mk S4; clear S4
 have z3 := Aside0.mk H
 clear H
 go_enter Tryd.func3, Tryd.ntmps3
 go_upto_region 18 with (first | ((with_reducible refine gate_callee (f := 4) rfl ?_); refine goesL_ (some 97) rfl rfl Tryd.func4 kr rfl #[.slice A0 l0.length c0, .slice A1 l1.length c1] rfl sM ?_; (with_reducible refine (laws_big.calls _ _ l0 _ _ l1 false _ ?side1 ?side2 ?side3 ?side4 A3.out).mono ?_); (case side1 => repeat (first | exact O7.out | (with_reducible refine Kd.C_alloc ?_ _) | (with_reducible refine Kd.C_drewN ?_ _) | (with_reducible refine Kd.C_drew ?_))); (case side2 => exact O8.out); (case side3 => repeat (first | exact u7.out | (with_reducible refine Kd.C_alloc ?_ _) | (with_reducible refine Kd.C_drewN ?_ _) | (with_reducible refine Kd.C_drew ?_))); (case side4 => exact u9.out); rintro e w' ⟨rfl, ⟨nd, rfl⟩⟩; refine ⟨_, rfl, ?_⟩) | ((with_reducible refine gate_callee (f := 5) rfl ?_); refine goesL_ (some 99) rfl rfl Tryd.func5 kr rfl #[.slice A0 l0.length c0] rfl sM ?_; (with_reducible refine (spec_DrawCrossHeight.calls _ _ l0 a8 a6 a7 _ ?side1 ?side2 A5.out).mono ?_); (case side1 => repeat (first | exact O7.out | (with_reducible refine Kd.C_alloc ?_ _) | (with_reducible refine Kd.C_drewN ?_ _) | (with_reducible refine Kd.C_drew ?_))); (case side2 => exact O8.out); rintro e w21 ⟨rfl, hb⟩; refine ⟨_, rfl, ?_⟩; replace HB := Aside0.mk (below_step bB hb); (try clear hb)) | ((with_reducible refine gate_dst (N := 5) rfl ?_); refine box_ (cs := #[.int .i64 0, .int .i64 0, .int .i64 0]) (t := 25) fun d1 hg w22 hbox hb => ?_; have a2 := Aside0.mk (hbox); have b45 := bS HB hg; have b46 := bS HB hg; replace HB := Aside0.mk (below_step bB hb); clear hb hbox hg; obtain ⟨a93, a94, a95, a96, a97, a98⟩ := cf3 a2) | ((with_reducible refine gate_callee (f := 6) rfl ?_); refine goesL_ (some 102) rfl rfl Tryd.func6 kr rfl #[.agg #[.int .i64 a8, .int .i64 a6, .int .i64 a7]] rfl sM ?_; (with_reducible refine (impl_CrossHeight.calls k a8 a6 a7 c7 d7 e5 _ A6.out).mono ?_); rintro e w24 ⟨rfl, hb⟩; refine ⟨_, rfl, ?_⟩; replace a2 := (bP (.cells #[.int .i64 a8, .int .i64 a6, .int .i64 a7] 25 (0, 0)) a2 hb); replace HB := Aside0.mk (below_step bB hb); (try clear hb); obtain ⟨a99, aa0, aa1, aa2, aa3, aa4⟩ := cf3 a2) | ((with_reducible refine gate_callee (f := 7) rfl ?_); refine goesL_ (some 108) rfl rfl Tryd.func7 kr rfl #[.agg #[.int .i64 a8, .int .i64 a6, .int .i64 a7]] rfl sM ?_; (with_reducible refine (spec_CrossHeight.calls k a8 a6 a7 O9 P0 P1 _ A7.out).mono ?_); rintro e w26 ⟨rfl, hb⟩; refine ⟨_, rfl, ?_⟩; replace a2 := bQ a2 hb; replace HB := Aside0.mk (below_step bB hb); (try clear hb); obtain ⟨aa5, aa6, aa7, aa8, aa9, ab0⟩ := cf3 a2) | ((with_reducible refine gate_callee (f := 8) rfl ?_); refine goesL_ (some 114) rfl rfl Tryd.func8 kr rfl #[.agg #[.int .i64 a8, .int .i64 a6, .int .i64 a7]] rfl sM ?_; (with_reducible refine (impl_CrossPlace.calls k a8 a6 a7 n0 k0 y5 _ A8.out).mono ?_); rintro e w28 ⟨rfl, hb⟩; refine ⟨_, rfl, ?_⟩; replace a2 := bQ a2 hb; replace HB := Aside0.mk (below_step bB hb); (try clear hb); obtain ⟨ab1, ab2, ab3, ab4, ab5, ab6⟩ := cf3 a2) | ((with_reducible refine gate_callee (f := 9) rfl ?_); refine goesL_ (some 120) rfl rfl Tryd.func9 kr rfl #[.agg #[.int .i64 a8, .int .i64 a6, .int .i64 a7]] rfl sM ?_; (with_reducible refine (spec_CrossPlace.calls k a8 a6 a7 P2 P3 P4 _ A9.out).mono ?_); rintro e w30 ⟨rfl, hb⟩; refine ⟨_, rfl, ?_⟩; replace a2 := bQ a2 hb; replace HB := Aside0.mk (below_step bB hb); (try clear hb); obtain ⟨ab7, ab8, ab9, ac0, ac1, ac2⟩ := cf3 a2) | ((with_reducible refine gate_callee (f := 10) rfl ?_); refine goesL_ (some 126) rfl rfl Tryd.func10 kr rfl #[.agg #[.int .i64 a8, .int .i64 a6, .int .i64 a7]] rfl sM ?_; (with_reducible refine (impl_AreaBelow.calls k a8 a6 a7 j7 g9 y6 _ A10.out).mono ?_); rintro e w32 ⟨rfl, hb⟩; refine ⟨_, rfl, ?_⟩; replace a2 := bQ a2 hb; replace HB := Aside0.mk (below_step bB hb); (try clear hb); obtain ⟨ac3, ac4, ac5, ac6, ac7, ac8⟩ := cf3 a2) | ((with_reducible refine gate_callee (f := 11) rfl ?_); refine goesL_ (some 132) rfl rfl Tryd.func11 kr rfl #[.agg #[.int .i64 a8, .int .i64 a6, .int .i64 a7]] rfl sM ?_; (with_reducible refine (spec_AreaBelow.calls k a8 a6 a7 P6 P7 P8 _ A11.out).mono ?_); rintro e w34 ⟨rfl, hb⟩; refine ⟨_, rfl, ?_⟩; replace a2 := bQ a2 hb; replace HB := Aside0.mk (below_step bB hb); (try clear hb); obtain ⟨ac9, ad0, ad1, ad2, ad3, ad4⟩ := cf3 a2) | ((with_reducible refine gate_callee (f := 12) rfl ?_); refine goesL_ (some 138) rfl rfl Tryd.func12 kr rfl #[.agg #[.int .i64 a8, .int .i64 a6, .int .i64 a7]] rfl sM ?_; (with_reducible refine (impl_AreaBetween.calls k a8 a6 a7 k1 j8 y7 _ A12.out).mono ?_); rintro e w36 ⟨rfl, hb⟩; refine ⟨_, rfl, ?_⟩; replace a2 := bQ a2 hb; replace HB := Aside0.mk (below_step bB hb); (try clear hb); obtain ⟨ad5, ad6, ad7, ad8, ad9, ae0⟩ := cf3 a2) | ((with_reducible refine gate_callee (f := 13) rfl ?_); refine goesL_ (some 144) rfl rfl Tryd.func13 kr rfl #[.agg #[.int .i64 a8, .int .i64 a6, .int .i64 a7]] rfl sM ?_; (with_reducible refine (spec_AreaBetween.calls k a8 a6 a7 R1 R2 R3 _ A13.out).mono ?_); rintro e w38 ⟨rfl, hb⟩; refine ⟨_, rfl, ?_⟩; replace a2 := bQ a2 hb; replace HB := Aside0.mk (below_step bB hb); (try clear hb); obtain ⟨ae1, ae2, ae3, ae4, ae5, ae6⟩ := cf3 a2) | ((with_reducible refine gate_callee (f := 14) rfl ?_); refine goesL_ (some 150) rfl rfl Tryd.func14 kr rfl #[.agg #[.int .i64 a8, .int .i64 a6, .int .i64 a7]] rfl sM ?_; (with_reducible refine (impl_LongestStick.calls a8 a6 a7 n7 y8 _ A14.out).mono ?_); rintro e w40 ⟨rfl, hb⟩; refine ⟨_, rfl, ?_⟩; replace a2 := bQ a2 hb; replace HB := Aside0.mk (below_step bB hb); (try clear hb); obtain ⟨ae7, ae8, ae9, af0, af1, af2⟩ := cf3 a2) | ((with_reducible refine gate_callee (f := 15) rfl ?_); refine goesL_ (some 155) rfl rfl Tryd.func15 kr rfl #[.agg #[.int .i64 a8, .int .i64 a6, .int .i64 a7]] rfl sM ?_; (with_reducible refine (spec_LongestStick.calls a8 a6 a7 R6 R7 _ A15.out).mono ?_); rintro e w42 ⟨rfl, hb⟩; refine ⟨_, rfl, ?_⟩; replace a2 := bQ a2 hb; replace HB := Aside0.mk (below_step bB hb); (try clear hb); obtain ⟨af3, af4, af5, af6, af7, af8⟩ := cf3 a2) | ((with_reducible refine gate_callee (f := 16) rfl ?_); refine goesL_ (some 160) rfl rfl Tryd.func16 kr rfl #[.agg #[.int .i64 a8, .int .i64 a6, .int .i64 a7]] rfl sM ?_; (with_reducible refine (impl_LaddersText.calls a8 a6 a7 n1 y9 _ A16.out (HM.out.below (by repeat (first | (with_reducible first | exact HB.out | apply below_alloc | apply pw_below_drewN | apply below_drew1 | refine below_set ?_ (Aside0.out (by assumption))) | exact HB.out)))).mono ?_); rintro e w44 ⟨rfl, hb⟩; refine ⟨_, rfl, ?_⟩; replace a2 := bQ a2 hb; replace HB := Aside0.mk (below_step bB hb); (try clear hb); obtain ⟨af9, ag0, ag1, ag2, ag3, ag4⟩ := cf3 a2) | ((with_reducible refine gate_callee (f := 17) rfl ?_); refine goesL_ (some 165) rfl rfl Tryd.func17 kr rfl #[.agg #[.int .i64 a8, .int .i64 a6, .int .i64 a7]] rfl sM ?_; (with_reducible refine (spec_LaddersText.calls k a8 a6 a7 R9 S0 _ A17.out).mono ?_); rintro e w46 ⟨rfl, hb⟩; refine ⟨_, rfl, ?_⟩; replace a2 := bQ a2 hb; replace HB := Aside0.mk (below_step bB hb); (try clear hb); obtain ⟨ag5, ag6, ag7, ag8, ag9, ah0⟩ := cf3 a2) | ((with_reducible refine gate_callee (f := 18) rfl ?_); refine goesL_ (some 170) rfl rfl Tryd.func18 kr rfl #[.agg #[.int .i64 a8, .int .i64 a6, .int .i64 a7]] rfl sM ?_; (with_reducible refine (impl_MirrorLadders.calls a8 a6 a7 b7 b8 b9 z2 _ A18.out).mono ?_); rintro e w48 ⟨rfl, hb⟩; refine ⟨_, rfl, ?_⟩; replace a2 := bQ a2 hb; replace HB := Aside0.mk (below_step bB hb); (try clear hb)) | ((with_reducible refine gate_dst (N := 38) rfl ?_); refine box_ (cs := #[.int .i64 0, .int .i64 0, .int .i64 0]) (t := 25) fun d2 hg w49 hbox hb => ?_; have a3 := Aside0.mk (hbox); have b47 := bS HB hg; have b48 := bS HB hg; have d8 := bL a2 hg; have d9 := bM a2 hg; replace a2 := bQ a2 hb; replace HB := Aside0.mk (below_step bB hb); clear hb hbox hg; have b49 := d9.out; have b50 := d8.out; obtain ⟨ah1, ah2, ah3, ah4, ah5, ah6⟩ := cf3 a3; obtain ⟨ah7, ah8, ah9, ai0, ai1, ai2⟩ := cf3 a2) | ((with_reducible refine gate_callee (f := 19) rfl ?_); refine goesL_ (some 175) rfl rfl Tryd.func19 kr rfl #[.agg #[.int .i64 a8, .int .i64 a6, .int .i64 a7]] rfl sM ?_; (with_reducible refine (spec_MirrorLadders.calls a8 a6 a7 c8 c9 d0 S3 _ A19.out).mono ?_); rintro e w53 ⟨rfl, hb⟩; refine ⟨_, rfl, ?_⟩; replace a2 := bQ a2 hb; replace a3 := (bP (.cells #[.int .i64 b7, .int .i64 b8, .int .i64 b9] 25 (0, 0)) a3 hb); replace HB := Aside0.mk (below_step bB hb); (try clear hb)) | ((with_reducible refine gate_dst (N := 40) rfl ?_); refine box_ (cs := #[.int .i64 0, .int .i64 0, .int .i64 0]) (t := 25) fun c2 hg w54 hbox hb => ?_; have a4 := Aside0.mk (hbox); have b51 := bS HB hg; have b52 := bS HB hg; have e0 := bL a2 hg; have e1 := bM a2 hg; have k9 := bL a3 hg; have l2 := bM a3 hg; replace a2 := bQ a2 hb; replace a3 := bQ a3 hb; replace HB := Aside0.mk (below_step bB hb); clear hb hbox hg; have b53 := e1.out; have b54 := e0.out; have b55 := l2.out; have b56 := k9.out; obtain ⟨ai3, ai4, ai5, ai6, ai7, ai8⟩ := cf3 a4))
 (try simp only [Act.put, List.setIfInBounds_toArray, List.set_cons_zero, List.set_cons_succ])
 go_cut [308] from 308 to 308 (fun Y1 wc => ∃ (kq : Nat) (j5 : Bool), Y1 = .bool j5 ∧ Aside0 (laws_FnLaddersCross.j0 kq l1 c7 d7 e5 n0 k0 j7 g9 k1 j8 n7 n1 j5 a8 a6 a7 b7 b8 b9 = some r) ∧ Aside0 (kq ≤ k) ∧ Aside0 (wc.heap[d1]? = some (.cells #[.int .i64 a8, .int .i64 a6, .int .i64 a7] 25 (0, 0))) ∧ Aside0 (wc.heap[d2]? = some (.cells #[.int .i64 b7, .int .i64 b8, .int .i64 b9] 25 (0, 0))) ∧ Aside0 (wc.heap[c2]? = some (.cells #[.int .i64 c8, .int .i64 c9, .int .i64 d0] 25 (0, 0))) ∧ Aside0 (Below w.heap.size w wc))
 case first => (
 as_aux_lemma => (
 have H := z3.out
 clear z3
 by_cases J7 : (e5 != P1) = true
 ·(
 rw [if_pos J7] at H
 exact absurd H (by cases k <;> simp [laws_FnLaddersCross.j0, HT_l.out])
 )
 rw [if_neg J7] at H
 obtain ⟨J8, b57, b58⟩ := nf J7
 clear J7
 (first | rw [J8] | (simp only [i64_w, i32_w]; rw [J8]) | skip)
 by_cases J9 : c7 = O9
 ·(
 rw [if_pos J9] at H
 obtain ⟨b59, b60⟩ := yE J9
 clear J9
 by_cases K0 : d7 = P0
 ·(
 rw [if_pos K0] at H
 obtain ⟨b61, b62⟩ := yE K0
 clear K0
 by_cases K1 : (y5 != P4) = true
 ·(
 rw [if_pos K1] at H
 exact absurd H (by cases k <;> simp [laws_FnLaddersCross.j0, HT_l.out])
 )
 rw [if_neg K1] at H
 obtain ⟨b63, b64, b65⟩ := nf K1
 clear K1
 by_cases K2 : n0 = P2
 ·(
 rw [if_pos K2] at H
 obtain ⟨b66, b67⟩ := yE K2
 clear K2
 by_cases K3 : k0 = P3
 ·(
 rw [if_pos K3] at H
 obtain ⟨b68, b69⟩ := yE K3
 clear K3
 by_cases K4 : (y6 != P8) = true
 ·(
 rw [if_pos K4] at H
 exact absurd H (by cases k <;> simp [laws_FnLaddersCross.j0, HT_l.out])
 )
 rw [if_neg K4] at H
 obtain ⟨b70, b71, b72⟩ := nf K4
 clear K4
 by_cases K5 : j7 = P6
 ·(
 rw [if_pos K5] at H
 obtain ⟨b73, b74⟩ := yE K5
 clear K5
 by_cases K6 : g9 = P7
 ·(
 rw [if_pos K6] at H
 obtain ⟨b75, b76⟩ := yE K6
 clear K6
 by_cases K7 : (y7 != R3) = true
 ·(
 rw [if_pos K7] at H
 exact absurd H (by cases k <;> simp [laws_FnLaddersCross.j0, HT_l.out])
 )
 rw [if_neg K7] at H
 obtain ⟨b77, b78, b79⟩ := nf K7
 clear K7
 by_cases K8 : k1 = R1
 ·(
 rw [if_pos K8] at H
 obtain ⟨b80, b81⟩ := yE K8
 clear K8
 by_cases K9 : j8 = R2
 ·(
 rw [if_pos K9] at H
 obtain ⟨b82, b83⟩ := yE K9
 clear K9
 by_cases L0 : (y8 != R7) = true
 ·(
 rw [if_pos L0] at H
 exact absurd H (by cases k <;> simp [laws_FnLaddersCross.j0, HT_l.out])
 )
 rw [if_neg L0] at H
 obtain ⟨b84, b85, b86⟩ := nf L0
 clear L0
 by_cases L1 : n7 = R6
 ·(
 rw [if_pos L1] at H
 obtain ⟨b87, b88⟩ := yE L1
 clear L1
 by_cases L2 : (y9 != S0) = true
 ·(
 rw [if_pos L2] at H
 exact absurd H (by cases k <;> simp [laws_FnLaddersCross.j0, HT_l.out])
 )
 rw [if_neg L2] at H
 obtain ⟨b89, b90, b91⟩ := nf L2
 clear L2
 by_cases L3 : n1.toList = R9.toList
 ·(
 rw [if_pos L3] at H
 obtain ⟨b92, b93⟩ := yE L3
 clear L3
 by_cases L4 : (z2 != S3) = true
 ·(
 rw [if_pos L4] at H
 exact absurd H (by cases k <;> simp [laws_FnLaddersCross.j0, HT_l.out])
 )
 rw [if_neg L4] at H
 obtain ⟨b94, b95, b96⟩ := nf L4
 clear L4
 by_cases L5 : (!(b7 == c8) || (!(b8 == c9) || (!(b9 == d0)))) = true
 ·(
 rw [if_pos L5] at H
 exact absurd H (by cases k <;> simp [laws_FnLaddersCross.j0, HT_l.out])
 )
 rw [if_neg L5] at H
 have b97 : (!(b7 == c8) || (!(b8 == c9) || (!(b9 == d0)))) = false := by simpa using L5
 clear L5
 replace H := Option.bind_eq_some_iff.mp H; obtain ⟨S5, S6, H⟩ := H; (try dsimp only at H); have A76 := Aside0.mk S6; clear S6
 by_cases L6 : (e5 != S5) = true
 ·(
 rw [if_pos L6] at H
 exact absurd H (by cases k <;> simp [laws_FnLaddersCross.j0, HT_l.out])
 )
 rw [if_neg L6] at H
 obtain ⟨b98, b99, ba0⟩ := nf L6
 clear L6
 replace H := Option.bind_eq_some_iff.mp H; obtain ⟨S7, S8, H⟩ := H; (try dsimp only at H); have A78 := Aside0.mk S8; clear S8
 replace H := Option.bind_eq_some_iff.mp H; obtain ⟨S9, T0, H⟩ := H; (try dsimp only at H); have A79 := Aside0.mk T0; clear T0
 by_cases L7 : (S7 != S9) = true
 ·(
 rw [if_pos L7] at H
 exact absurd H (by cases k <;> simp [laws_FnLaddersCross.j0, HT_l.out])
 )
 rw [if_neg L7] at H
 obtain ⟨ba1, ba2, ba3⟩ := nf L7
 clear L7
 by_cases L8 : (y5 != e5) = true
 ·(
 rw [if_pos L8] at H
 exact absurd H (by cases k <;> simp [laws_FnLaddersCross.j0, HT_l.out])
 )
 rw [if_neg L8] at H
 obtain ⟨ba4, ba5, ba6⟩ := nf L8
 clear L8
 by_cases L9 : (y6 != e5) = true
 ·(
 rw [if_pos L9] at H
 exact absurd H (by cases k <;> simp [laws_FnLaddersCross.j0, HT_l.out])
 )
 rw [if_neg L9] at H
 obtain ⟨ba7, ba8, ba9⟩ := nf L9
 clear L9
 by_cases M0 : (y7 != e5) = true
 ·(
 rw [if_pos M0] at H
 exact absurd H (by cases k <;> simp [laws_FnLaddersCross.j0, HT_l.out])
 )
 rw [if_neg M0] at H
 obtain ⟨bb0, bb1, bb2⟩ := nf M0
 clear M0
 by_cases M1 : (y8 != e5) = true
 ·(
 rw [if_pos M1] at H
 exact absurd H (by cases k <;> simp [laws_FnLaddersCross.j0, HT_l.out])
 )
 rw [if_neg M1] at H
 obtain ⟨bb3, bb4, bb5⟩ := nf M1
 clear M1
 by_cases M2 : (y9 != e5) = true
 ·(
 rw [if_pos M2] at H
 exact absurd H (by cases k <;> simp [laws_FnLaddersCross.j0, HT_l.out])
 )
 rw [if_neg M2] at H
 obtain ⟨bb6, bb7, bb8⟩ := nf M2
 clear M2
 have H' := Aside0.mk H
 clear H
 try go_wp2
 generalize hW_ : (((w54.setCell ⟨c2, 0, none⟩ (.int .i64 c8)).setCell ⟨c2, 1, none⟩ (.int .i64 c9)).setCell ⟨c2, 2, none⟩ (.int .i64 d0)) = w86
 have nB_ := bG HB hW_
 replace a2 := bF hW_ a2
 replace a3 := bF hW_ a3
 replace a4 := bFp hW_ (.cells #[.int .i64 c8, .int .i64 c9, .int .i64 d0] 25 (0, 0)) a4
 clear HB
 have HB := nB_
 clear nB_ hW_
 replace a2 := bD1 a2
 replace a3 := bD1 a3
 replace a4 := bD1 a4
 replace HB := Aside0.mk (below_drew1 HB.out)
 refine st_ 131 laws_FnLaddersCross.pl0 (S := fun w' => w'.cell? ⟨d2, 0, none⟩ = some (.int .i64 b7) ∧ w'.cell? ⟨d2, 1, none⟩ = some (.int .i64 b8) ∧ w'.cell? ⟨d2, 2, none⟩ = some (.int .i64 b9) ∧ w'.cell? ⟨c2, 0, none⟩ = some (.int .i64 c8) ∧ w'.cell? ⟨c2, 1, none⟩ = some (.int .i64 c9) ∧ w'.cell? ⟨c2, 2, none⟩ = some (.int .i64 d0) ∧ w'.cell? ⟨d1, 0, none⟩ = some (.int .i64 a8) ∧ w'.cell? ⟨d1, 1, none⟩ = some (.int .i64 a6) ∧ w'.cell? ⟨d1, 2, none⟩ = some (.int .i64 a7)) (ds := []) laws_FnLaddersCross.tab18 laws_FnLaddersCross.bits18 cS (fun hHeld HT_ HW_ => ?_)
 generalize w86.drew = w87 at a2 a3 a4 HB hHeld ⊢
 (try clear a93); (try clear a94); (try clear a95); (try clear a96); (try clear a97); (try clear a98); (try clear a99); (try clear aa0); (try clear aa1); (try clear aa2); (try clear aa3); (try clear aa4); (try clear aa5); (try clear aa6); (try clear aa7); (try clear aa8); (try clear aa9); (try clear ab0); (try clear ab1); (try clear ab2); (try clear ab3); (try clear ab4); (try clear ab5); (try clear ab6); (try clear ab7); (try clear ab8); (try clear ab9); (try clear ac0); (try clear ac1); (try clear ac2); (try clear ac3); (try clear ac4); (try clear ac5); (try clear ac6); (try clear ac7); (try clear ac8); (try clear ac9); (try clear ad0); (try clear ad1); (try clear ad2); (try clear ad3); (try clear ad4); (try clear ad5); (try clear ad6); (try clear ad7); (try clear ad8); (try clear ad9); (try clear ae0); (try clear ae1); (try clear ae2); (try clear ae3); (try clear ae4); (try clear ae5); (try clear ae6); (try clear ae7); (try clear ae8); (try clear ae9); (try clear af0); (try clear af1); (try clear af2); (try clear af3); (try clear af4); (try clear af5); (try clear af6); (try clear af7); (try clear af8); (try clear af9); (try clear ag0); (try clear ag1); (try clear ag2); (try clear ag3); (try clear ag4); (try clear ag5); (try clear ag6); (try clear ag7); (try clear ag8); (try clear ag9); (try clear ah0); (try clear ah1); (try clear ah2); (try clear ah3); (try clear ah4); (try clear ah5); (try clear ah6); (try clear ah7); (try clear ah8); (try clear ah9); (try clear ai0); (try clear ai1); (try clear ai2); (try clear ai3); (try clear ai4); (try clear ai5); (try clear ai6); (try clear ai7); (try clear ai8); (try clear b49); (try clear b50); (try clear b53); (try clear b54); (try clear b55); (try clear b56)
 iterate 91 (first | refine pA HT_ ?_ | refine pT HT_ HW_ hHeld ?_)
 refine pO HT_ fun K hK => ?_
 refine goes_ Tryd.func20 kr rfl #[.agg #[.int .i64 a8, .int .i64 a6, .int .i64 a7]] (by rfl) rfl rfl sM ?_
 with_reducible refine (impl_AreLadders.calls a8 a6 a7 S5 _ A76.out).mono ?_
 rintro e w88 ⟨rfl, hb⟩
 refine ⟨_, rfl, ?_⟩
 replace a2 := bQ a2 hb
 replace a3 := bQ a3 hb
 replace a4 := bQ a4 hb
 replace HB := Aside0.mk (below_step bB hb)
 try clear hb
 refine hK.out _ _ cS (fun hHeld => ?_)
 clear hK K
 refine nP ?_
 iterate 5 (first | refine pA HT_ ?_ | refine pT HT_ HW_ hHeld ?_)
 refine pO HT_ fun K hK => ?_
 refine goes_ Tryd.func20 kr rfl #[.agg #[.int .i64 a8, .int .i64 a6, .int .i64 a7]] (by rfl) rfl rfl sM ?_
 with_reducible refine (impl_AreLadders.calls a8 a6 a7 S7 _ A78.out).mono ?_
 rintro e w89 ⟨rfl, hb⟩
 refine ⟨_, rfl, ?_⟩
 replace a2 := bQ a2 hb
 replace a3 := bQ a3 hb
 replace a4 := bQ a4 hb
 replace HB := Aside0.mk (below_step bB hb)
 try clear hb
 refine hK.out _ _ cS (fun hHeld => ?_)
 clear hK K
 refine nP ?_
 refine pO HT_ fun K hK => ?_
 refine goes_ Tryd.func21 kr rfl #[.agg #[.int .i64 a8, .int .i64 a6, .int .i64 a7]] (by rfl) rfl rfl sM ?_
 with_reducible refine (spec_AreLadders.calls a8 a6 a7 S9 _ A79.out).mono ?_
 rintro e w90 ⟨rfl, hb⟩
 refine ⟨_, rfl, ?_⟩
 replace a2 := bQ a2 hb
 replace a3 := bQ a3 hb
 replace a4 := bQ a4 hb
 replace HB := Aside0.mk (below_step bB hb)
 try clear hb
 refine hK.out _ _ cS (fun hHeld => ?_)
 clear hK K
 refine nP ?_
 iterate 32 refine pA HT_ ?_
 refine pD HT_ ?_
 try go_wp2
 (try rw [dSet])
 go_meet
 case rel => exact ⟨_, ((z2 != e5)), sR, H', ⟨by first | omega | exact Nat.le_refl _⟩, (bA a2), (bA a3), (bA a4), ⟨bB⟩⟩
 )
 rw [if_neg L3] at H
 exact absurd H (by cases k <;> simp [laws_FnLaddersCross.j0, HT_l.out])
 )
 rw [if_neg L1] at H
 exact absurd H (by cases k <;> simp [laws_FnLaddersCross.j0, HT_l.out])
 )
 rw [if_neg K9] at H
 exact absurd H (by cases k <;> simp [laws_FnLaddersCross.j0, HT_l.out])
 )
 rw [if_neg K8] at H
 exact absurd H (by cases k <;> simp [laws_FnLaddersCross.j0, HT_l.out])
 )
 rw [if_neg K6] at H
 exact absurd H (by cases k <;> simp [laws_FnLaddersCross.j0, HT_l.out])
 )
 rw [if_neg K5] at H
 exact absurd H (by cases k <;> simp [laws_FnLaddersCross.j0, HT_l.out])
 )
 rw [if_neg K3] at H
 exact absurd H (by cases k <;> simp [laws_FnLaddersCross.j0, HT_l.out])
 )
 rw [if_neg K2] at H
 exact absurd H (by cases k <;> simp [laws_FnLaddersCross.j0, HT_l.out])
 )
 rw [if_neg K0] at H
 exact absurd H (by cases k <;> simp [laws_FnLaddersCross.j0, HT_l.out])
 )
 rw [if_neg J9] at H
 exact absurd H (by cases k <;> simp [laws_FnLaddersCross.j0, HT_l.out])
 )
 )
 clear z3
 obtain ⟨kq, j5, rfl, HA, HJ19, a2, a3, a4, HB⟩ := hcut
 (try clear a93); (try clear a94); (try clear a95); (try clear a96); (try clear a97); (try clear a98); (try clear a99); (try clear aa0); (try clear aa1); (try clear aa2); (try clear aa3); (try clear aa4); (try clear aa5); (try clear aa6); (try clear aa7); (try clear aa8); (try clear aa9); (try clear ab0); (try clear ab1); (try clear ab2); (try clear ab3); (try clear ab4); (try clear ab5); (try clear ab6); (try clear ab7); (try clear ab8); (try clear ab9); (try clear ac0); (try clear ac1); (try clear ac2); (try clear ac3); (try clear ac4); (try clear ac5); (try clear ac6); (try clear ac7); (try clear ac8); (try clear ac9); (try clear ad0); (try clear ad1); (try clear ad2); (try clear ad3); (try clear ad4); (try clear ad5); (try clear ad6); (try clear ad7); (try clear ad8); (try clear ad9); (try clear ae0); (try clear ae1); (try clear ae2); (try clear ae3); (try clear ae4); (try clear ae5); (try clear ae6); (try clear ae7); (try clear ae8); (try clear ae9); (try clear af0); (try clear af1); (try clear af2); (try clear af3); (try clear af4); (try clear af5); (try clear af6); (try clear af7); (try clear af8); (try clear af9); (try clear ag0); (try clear ag1); (try clear ag2); (try clear ag3); (try clear ag4); (try clear ag5); (try clear ag6); (try clear ag7); (try clear ag8); (try clear ag9); (try clear ah0); (try clear ah1); (try clear ah2); (try clear ah3); (try clear ah4); (try clear ah5); (try clear ah6); (try clear ah7); (try clear ah8); (try clear ah9); (try clear ai0); (try clear ai1); (try clear ai2); (try clear ai3); (try clear ai4); (try clear ai5); (try clear ai6); (try clear ai7); (try clear ai8); (try clear b49); (try clear b50); (try clear b53); (try clear b54); (try clear b55); (try clear b56)
 cases kq with
 | zero => exact absurd HA.out (by simp [laws_FnLaddersCross.j0])
 | succ b2 => (
 as_aux_lemma => (
 have H := HA.out
 clear HA
 simp only [laws_FnLaddersCross.j0] at H
 by_cases M3 : j5 = true
 ·(
 subst M3
 rw [if_pos rfl] at H
 exact fy HT_l H
 )
 replace M3 := Bool.eq_false_iff.mpr M3
 subst M3
 rw [if_neg nft] at H
 have z4 := Aside0.mk H
 clear H
 go_upto_if 309 with (fail)
 go_cut [309] from 309 to 309 (fun bd7 wc => ∃ (kq : Nat), Aside0 (laws_FnLaddersCross.j3 kq l1 = some r) ∧ Aside0 (kq ≤ b2) ∧ Aside0 (wc.heap[d1]? = some (.cells #[.int .i64 a8, .int .i64 a6, .int .i64 a7] 25 (0, 0))) ∧ Aside0 (wc.heap[d2]? = some (.cells #[.int .i64 b7, .int .i64 b8, .int .i64 b9] 25 (0, 0))) ∧ Aside0 (wc.heap[c2]? = some (.cells #[.int .i64 c8, .int .i64 c9, .int .i64 d0] 25 (0, 0))) ∧ Aside0 (Below w.heap.size w wc))
 case first => (
 as_aux_lemma => (
 have H := z4.out
 clear z4
 by_cases v0 : e5 = true
 ·(
 subst v0
 rw [if_pos rfl] at H
 replace H := Option.bind_eq_some_iff.mp H; obtain ⟨⟨T1, T2, T3⟩, T4, H⟩ := H; (try dsimp only at H); have A94 := Aside0.mk T4; clear T4
 replace H := Option.bind_eq_some_iff.mp H; obtain ⟨⟨T5, T6, T7⟩, T8, H⟩ := H; (try dsimp only at H); have A95 := Aside0.mk T8; clear T8
 replace H := Option.bind_eq_some_iff.mp H; obtain ⟨⟨n9, o0, o1, T9⟩, U0, H⟩ := H; (try dsimp only at H); have A96 := Aside0.mk U0; clear U0
 have z5 := Aside0.mk H
 clear H
 have bb9 := d8.out
 have bc0 := d9.out
 have bc1 := e0.out
 have bc2 := e1.out
 obtain ⟨z6, z7, z8, z9, A2, A4⟩ := cf3 a2
 have ak7 := k9.out
 have ak8 := l2.out
 obtain ⟨B0, B1, B2, B3, B4, B5⟩ := cf3 a3
 go_upto_region 25 with (first | ((with_reducible refine gate_callee (f := 6) rfl ?_); refine goesL_ (some 317) rfl rfl Tryd.func6 kr rfl #[.agg #[.int .i64 b7, .int .i64 b8, .int .i64 b9]] rfl sM ?_; (with_reducible refine (impl_CrossHeight.calls b2 b7 b8 b9 T1 T2 T3 _ A94.out).mono ?_); rintro e bd8 ⟨rfl, hb⟩; refine ⟨_, rfl, ?_⟩; replace a2 := bQ a2 hb; replace a3 := bQ a3 hb; replace a4 := bQ a4 hb; replace HB := Aside0.mk (below_step bB hb); (try clear hb); obtain ⟨B6, B7, B8, B9, C0, C1⟩ := cf3 a3) | ((with_reducible refine gate_callee (f := 8) rfl ?_); refine goesL_ (some 323) rfl rfl Tryd.func8 kr rfl #[.agg #[.int .i64 b7, .int .i64 b8, .int .i64 b9]] rfl sM ?_; (with_reducible refine (impl_CrossPlace.calls b2 b7 b8 b9 T5 T6 T7 _ A95.out).mono ?_); rintro e bd9 ⟨rfl, hb⟩; refine ⟨_, rfl, ?_⟩; replace a2 := bQ a2 hb; replace a3 := bQ a3 hb; replace a4 := bQ a4 hb; replace HB := Aside0.mk (below_step bB hb); (try clear hb)) | ((with_reducible refine gate_callee (f := 22) rfl ?_); refine goesL_ (some 329) rfl rfl Tryd.func22 kr rfl #[.string n1] rfl sM ?_; (with_reducible refine (impl_ParseLadders.calls b2 n1 n9 o0 o1 T9 _ A96.out (HM.out.below (by repeat (first | (with_reducible first | exact HB.out | apply below_alloc | apply pw_below_drewN | apply below_drew1 | refine below_set ?_ (Aside0.out (by assumption))) | exact HB.out)))).mono ?_); rintro e be0 ⟨rfl, hb⟩; refine ⟨_, rfl, ?_⟩; replace a2 := bQ a2 hb; replace a3 := bQ a3 hb; replace a4 := bQ a4 hb; replace HB := Aside0.mk (below_step bB hb); (try clear hb)) | ((with_reducible refine gate_dst (N := 49) rfl ?_); refine box_ (cs := #[.int .i64 0, .int .i64 0, .int .i64 0]) (t := 25) fun M4 hg be1 hbox hb => ?_; have e4 := Aside0.mk (hbox); have bc3 := bS HB hg; have bc4 := bS HB hg; have e6 := bL a2 hg; have e7 := bM a2 hg; have l3 := bL a3 hg; have l4 := bM a3 hg; have l5 := bL a4 hg; have l6 := bM a4 hg; replace a2 := bQ a2 hb; replace a3 := bQ a3 hb; replace a4 := bQ a4 hb; replace HB := Aside0.mk (below_step bB hb); clear hb hbox hg; have ak9 := e7.out; have al0 := e6.out; have al1 := l4.out; have al2 := l3.out; have al3 := l6.out; have al4 := l5.out; obtain ⟨C2, C3, C4, C5, C6, C7⟩ := cf3 e4))
 (try simp only [Act.put, List.setIfInBounds_toArray, List.set_cons_zero, List.set_cons_succ])
 go_cut [427] from 427 to 427 (fun Y2 wc => ∃ (kq : Nat) (j6 : Bool), Y2 = .bool j6 ∧ Aside0 (laws_FnLaddersCross.j1 kq l1 c7 d7 j7 g9 k1 j8 (wrap64 (a6 + a7)) j6 a8 a6 a7 = some r) ∧ Aside0 (kq ≤ b2) ∧ Aside0 (wc.heap[d1]? = some (.cells #[.int .i64 a8, .int .i64 a6, .int .i64 a7] 25 (0, 0))) ∧ Aside0 (wc.heap[d2]? = some (.cells #[.int .i64 b7, .int .i64 b8, .int .i64 b9] 25 (0, 0))) ∧ Aside0 (wc.heap[c2]? = some (.cells #[.int .i64 c8, .int .i64 c9, .int .i64 d0] 25 (0, 0))) ∧ Aside0 (wc.heap[M4]? = some (.cells #[.int .i64 n9, .int .i64 o0, .int .i64 o1] 25 (0, 0))) ∧ Aside0 (Below w.heap.size w wc))
 case first => (
 as_aux_lemma => (
 have H := z5.out
 clear z5
 replace H := Option.bind_eq_some_iff.mp H; obtain ⟨Y3, M5, H⟩ := H; (try dsimp only at H); have Y4 := Aside0.mk M5; clear M5
 by_cases o2 : Y3 = true
 ·(
 subst o2
 rw [if_pos rfl] at H
 replace H := Option.bind_eq_some_iff.mp H; obtain ⟨Y5, M6, H⟩ := H; (try dsimp only at H); have Y6 := Aside0.mk M6; clear M6
 by_cases o3 : Y5 = true
 ·(
 subst o3
 rw [if_pos rfl] at H
 replace H := Option.bind_eq_some_iff.mp H; obtain ⟨Y7, M7, H⟩ := H; (try dsimp only at H); have Y8 := Aside0.mk M7; clear M7
 by_cases o4 : Y7 = true
 ·(
 subst o4
 rw [if_pos rfl] at H
 by_cases o5 : (wrap64 ((wrap64 (j7 * 2)) * d7)) = (wrap64 ((wrap64 (g9 * a8)) * c7))
 ·(
 rw [if_pos o5] at H
 obtain ⟨v1, al5⟩ := yE o5
 clear o5
 (first | rw [v1] | (simp only [i64_w, i32_w]; rw [v1]) | skip)
 replace H := Option.bind_eq_some_iff.mp H; obtain ⟨Y9, M8, H⟩ := H; (try dsimp only at H); have Z0 := Aside0.mk M8; clear M8
 by_cases o6 : Y9 = true
 ·(
 subst o6
 rw [if_pos rfl] at H
 by_cases C8 : d7 = 0
 ·(
 rw [if_pos C8] at H
 exact absurd H (by simp)
 )
 rw [if_neg C8] at H
 obtain ⟨al6, al7⟩ := nE C8
 by_cases o7 : n7 = (wrap64 (Int.tdiv c7 d7))
 ·(
 rw [if_pos o7] at H
 obtain ⟨al8, al9⟩ := yE o7
 clear o7
 by_cases o8 : T3 = true
 ·(
 subst o8
 rw [if_pos rfl] at H
 by_cases o9 : T1 = c7
 ·(
 rw [if_pos o9] at H
 obtain ⟨am0, am1⟩ := yE o9
 clear o9
 by_cases p0 : T2 = d7
 ·(
 rw [if_pos p0] at H
 obtain ⟨am2, am3⟩ := yE p0
 clear p0
 by_cases p1 : T7 = true
 ·(
 subst p1
 rw [if_pos rfl] at H
 by_cases p2 : T6 = k0
 ·(
 rw [if_pos p2] at H
 obtain ⟨am4, am5⟩ := yE p2
 clear p2
 by_cases p3 : (wrap64 (T5 + n0)) = (wrap64 (a8 * k0))
 ·(
 rw [if_pos p3] at H
 obtain ⟨am6, am7⟩ := yE p3
 clear p3
 by_cases p4 : T9 = true
 ·(
 subst p4
 rw [if_pos rfl] at H
 have H' := Aside0.mk H
 clear H
 have am8 := d8.out
 have am9 := d9.out
 have an0 := e0.out
 have an1 := e1.out
 have an2 := e6.out
 have an3 := e7.out
 obtain ⟨Z1, Z2, Z3, Z4, Z5, Z6⟩ := cf3 a2
 go_wp2_with (first | (go_at_call 23; (with_reducible refine (laws_jIs.calls b2 c7 d7 (wrap64 (a6 * a7)) (wrap64 (a6 + a7)) true _ Y4.out).mono ?_); rintro e w' ⟨rfl, ⟨nd, rfl⟩⟩) | (go_at_call 23; (with_reducible refine (laws_jIs.calls b2 n0 k0 (wrap64 (a8 * a6)) (wrap64 (a6 + a7)) true _ Y6.out).mono ?_); rintro e w' ⟨rfl, ⟨nd, rfl⟩⟩) | (go_at_call 24; (with_reducible refine (laws_jLow.calls b2 j7 g9 true _ Y8.out).mono ?_); rintro e w' ⟨rfl, ⟨nd, rfl⟩⟩) | (go_at_call 24; (with_reducible refine (laws_jLow.calls b2 k1 j8 true _ Z0.out).mono ?_); rintro e w' ⟨rfl, ⟨nd, rfl⟩⟩; have an4 := l4.out; have an5 := l3.out; have an6 := l6.out; have an7 := l5.out; obtain ⟨Z7, Z8, Z9, a00, a01, a02⟩ := cf3 e4))
 go_meet
 case rel => exact ⟨_, ((!(n9 == a8) || (!(o0 == a6) || (!(o1 == a7))))), sR, H', ⟨laws_FnLaddersCross.jx⟩, (bA a2), (bA a3), (bA a4), (bA e4), ⟨bB⟩⟩
 )
 replace p4 := Bool.eq_false_iff.mpr p4
 subst p4
 rw [if_neg nft] at H
 exact absurd H (by cases b2 <;> simp [laws_FnLaddersCross.j1, HT_l.out])
 )
 rw [if_neg p3] at H
 exact absurd H (by cases b2 <;> simp [laws_FnLaddersCross.j1, HT_l.out])
 )
 rw [if_neg p2] at H
 exact absurd H (by cases b2 <;> simp [laws_FnLaddersCross.j1, HT_l.out])
 )
 replace p1 := Bool.eq_false_iff.mpr p1
 subst p1
 rw [if_neg nft] at H
 exact absurd H (by cases b2 <;> simp [laws_FnLaddersCross.j1, HT_l.out])
 )
 rw [if_neg p0] at H
 exact absurd H (by cases b2 <;> simp [laws_FnLaddersCross.j1, HT_l.out])
 )
 rw [if_neg o9] at H
 exact absurd H (by cases b2 <;> simp [laws_FnLaddersCross.j1, HT_l.out])
 )
 replace o8 := Bool.eq_false_iff.mpr o8
 subst o8
 rw [if_neg nft] at H
 exact absurd H (by cases b2 <;> simp [laws_FnLaddersCross.j1, HT_l.out])
 )
 rw [if_neg o7] at H
 exact absurd H (by cases b2 <;> simp [laws_FnLaddersCross.j1, HT_l.out])
 )
 replace o6 := Bool.eq_false_iff.mpr o6
 subst o6
 rw [if_neg nft] at H
 exact absurd H (by cases b2 <;> simp [laws_FnLaddersCross.j1, HT_l.out])
 )
 rw [if_neg o5] at H
 exact absurd H (by cases b2 <;> simp [laws_FnLaddersCross.j1, HT_l.out])
 )
 replace o4 := Bool.eq_false_iff.mpr o4
 subst o4
 rw [if_neg nft] at H
 exact absurd H (by cases b2 <;> simp [laws_FnLaddersCross.j1, HT_l.out])
 )
 replace o3 := Bool.eq_false_iff.mpr o3
 subst o3
 rw [if_neg nft] at H
 exact absurd H (by cases b2 <;> simp [laws_FnLaddersCross.j1, HT_l.out])
 )
 replace o2 := Bool.eq_false_iff.mpr o2
 subst o2
 rw [if_neg nft] at H
 exact absurd H (by cases b2 <;> simp [laws_FnLaddersCross.j1, HT_l.out])
 )
 )
 clear z5
 try clear v0
 try clear z6
 try clear z7
 try clear z8
 try clear B0
 try clear B1
 try clear B2
 try clear B6
 try clear B7
 try clear B8
 try clear C2
 try clear C3
 try clear C4
 try clear z9
 try clear A2
 try clear A4
 try clear B3
 try clear B4
 try clear B5
 try clear B9
 try clear C0
 try clear C1
 try clear C5
 try clear C6
 try clear C7
 obtain ⟨kq, j6, rfl, HA, HJ96, a2, a3, a4, e4, HB⟩ := hcut
 (try clear bb9); (try clear bc0); (try clear bc1); (try clear bc2); (try clear z6); (try clear z7); (try clear z8); (try clear z9); (try clear A2); (try clear A4); (try clear ak7); (try clear ak8); (try clear B0); (try clear B1); (try clear B2); (try clear B3); (try clear B4); (try clear B5); (try clear B6); (try clear B7); (try clear B8); (try clear B9); (try clear C0); (try clear C1); (try clear C2); (try clear C3); (try clear C4); (try clear C5); (try clear C6); (try clear C7); (try clear ak9); (try clear al0); (try clear al1); (try clear al2); (try clear al3); (try clear al4)
 cases kq with
 | zero => exact absurd HA.out (by simp [laws_FnLaddersCross.j1])
 | succ a03 => (
 as_aux_lemma => (
 have H := HA.out
 clear HA
 simp only [laws_FnLaddersCross.j1] at H
 by_cases p5 : j6 = true
 ·(
 subst p5
 rw [if_pos rfl] at H
 exact fy HT_l H
 )
 replace p5 := Bool.eq_false_iff.mpr p5
 subst p5
 rw [if_neg nft] at H
 by_cases p6 : (wrap64 ((wrap64 ((wrap64 (k1 * g9)) * 2)) + (wrap64 ((wrap64 (j7 * j8)) * 2)))) = (wrap64 ((wrap64 ((wrap64 (a8 * (wrap64 (a6 + a7)))) * j8)) * g9))
 ·(
 rw [if_pos p6] at H
 obtain ⟨U1, U2⟩ := yE p6
 clear p6
 have p7 := Aside0.mk H
 clear H
 have an8 := d8.out
 have an9 := d9.out
 have ao0 := e0.out
 have ao1 := e1.out
 have ao2 := e6.out
 have ao3 := e7.out
 obtain ⟨C9, D0, D1, D2, D3, D4⟩ := cf3 a2
 go_upto_region 29 with (fail)
 go_cut [451] from 451 to 451 (fun a04 wc => ∃ (kq : Nat) (g4 : Bool), a04 = .bool g4 ∧ Aside0 (laws_FnLaddersCross.j2 kq l1 c7 d7 g4 a8 a6 a7 = some r) ∧ Aside0 (kq ≤ a03) ∧ Aside0 (wc.heap[d1]? = some (.cells #[.int .i64 a8, .int .i64 a6, .int .i64 a7] 25 (0, 0))) ∧ Aside0 (wc.heap[d2]? = some (.cells #[.int .i64 b7, .int .i64 b8, .int .i64 b9] 25 (0, 0))) ∧ Aside0 (wc.heap[c2]? = some (.cells #[.int .i64 c8, .int .i64 c9, .int .i64 d0] 25 (0, 0))) ∧ Aside0 (wc.heap[M4]? = some (.cells #[.int .i64 n9, .int .i64 o0, .int .i64 o1] 25 (0, 0))) ∧ Aside0 (Below w.heap.size w wc))
 case first => (
 as_aux_lemma => (
 have H := p7.out
 clear p7
 by_cases k2 : c7 ≤ 1000
 ·(
 rw [if_pos k2] at H
 have h0 : decide (c7 ≤ 1000) = true := decide_eq_true k2
 clear k2
 (first | rw [h0] | (simp only [i64_w, i32_w]; rw [h0]) | skip)
 have H' := Aside0.mk H
 clear H
 go_wp2
 go_meet
 case rel => exact ⟨_, (decide (d7 ≤ 1000)), sR, H', ⟨laws_FnLaddersCross.jx⟩, (bA a2), (bA a3), (bA a4), (bA e4), ⟨bB⟩⟩
 )
 rw [if_neg k2] at H
 have h0 : decide (c7 ≤ 1000) = false := decide_eq_false k2
 clear k2
 (first | rw [h0] | (simp only [i64_w, i32_w]; rw [h0]) | skip)
 have H' := Aside0.mk H
 clear H
 go_wp2
 go_meet
 case rel => exact ⟨_, (false), sR, H', ⟨laws_FnLaddersCross.jx⟩, (bA a2), (bA a3), (bA a4), (bA e4), ⟨bB⟩⟩
 )
 )
 clear p7
 try clear U1
 try clear U2
 try clear C9
 try clear D0
 try clear D1
 try clear D2
 try clear D3
 try clear D4
 obtain ⟨kq, g4, rfl, HA, HJ138, a2, a3, a4, e4, HB⟩ := hcut
 (try clear an8); (try clear an9); (try clear ao0); (try clear ao1); (try clear ao2); (try clear ao3); (try clear C9); (try clear D0); (try clear D1); (try clear D2); (try clear D3); (try clear D4)
 cases kq with
 | zero => exact absurd HA.out (by simp [laws_FnLaddersCross.j2])
 | succ X2 => (
 as_aux_lemma => (
 have H := HA.out
 clear HA
 simp only [laws_FnLaddersCross.j2] at H
 by_cases p8 : g4 = true
 ·(
 subst p8
 rw [if_pos rfl] at H
 replace H := Option.bind_eq_some_iff.mp H; obtain ⟨⟨U3, U4, a05⟩, M9, H⟩ := H; (try dsimp only at H); have a06 := Aside0.mk M9; clear M9
 by_cases p9 : a05 = true
 ·(
 subst p9
 rw [if_pos rfl] at H
 by_cases q0 : U3 = a7
 ·(
 rw [if_pos q0] at H
 obtain ⟨ao4, ao5⟩ := yE q0
 clear q0
 by_cases q1 : U4 = 1
 ·(
 rw [if_pos q1] at H
 obtain ⟨ao6, ao7⟩ := yE q1
 clear q1
 have H' := Aside0.mk H
 clear H
 have ao8 := d8.out
 have ao9 := d9.out
 have ap0 := e0.out
 have ap1 := e1.out
 have ap2 := e6.out
 have ap3 := e7.out
 obtain ⟨a07, a08, a09, a10, a11, a12⟩ := cf3 a2
 go_wp2_with (first | ((with_reducible refine gate_callee (f := 25) rfl ?_); refine goesL_ (some 457) rfl rfl Tryd.func25 kr rfl #[.int .i64 a6, .int .i64 c7, .int .i64 d7] rfl sM ?_; (with_reducible refine (impl_OtherHeight.calls X2 a6 c7 d7 U3 U4 true _ a06.out).mono ?_); rintro e be2 ⟨rfl, hb⟩; refine ⟨_, rfl, ?_⟩; replace a2 := bQ a2 hb; replace a3 := bQ a3 hb; replace a4 := bQ a4 hb; replace e4 := bQ e4 hb; replace HB := Aside0.mk (below_step bB hb); (try clear hb); obtain ⟨a13, a14, a15, a16, a17, a18⟩ := cf3 a2))
 go_meet
 case rel => exact ⟨_, H', ⟨laws_FnLaddersCross.jx⟩, (bA a2), (bA a3), (bA a4), ⟨bB⟩⟩
 )
 rw [if_neg q1] at H
 exact fy HT_l H
 )
 rw [if_neg q0] at H
 exact fy HT_l H
 )
 replace p9 := Bool.eq_false_iff.mpr p9
 subst p9
 rw [if_neg nft] at H
 exact fy HT_l H
 )
 replace p8 := Bool.eq_false_iff.mpr p8
 subst p8
 rw [if_neg nft] at H
 have H' := Aside0.mk H
 clear H
 go_wp2
 go_meet
 case rel => exact ⟨_, H', ⟨laws_FnLaddersCross.jx⟩, (bA a2), (bA a3), (bA a4), ⟨bB⟩⟩
 )
 )
 )
 rw [if_neg p6] at H
 exact fy HT_l H
 )
 )
 )
 replace v0 := Bool.eq_false_iff.mpr v0
 subst v0
 rw [if_neg nft] at H
 have H' := Aside0.mk H
 clear H
 go_wp2
 go_meet
 case rel => exact ⟨_, H', ⟨laws_FnLaddersCross.jx⟩, (bA a2), (bA a3), (bA a4), ⟨bB⟩⟩
 )
 )
 clear z4
 obtain ⟨kq, HA, HJ91, a2, a3, a4, HB⟩ := hcut
 cases kq with
 | zero => exact absurd HA.out (by simp [laws_FnLaddersCross.j3])
 | succ b3 => (
 as_aux_lemma => (
 have H := HA.out
 clear HA
 simp only [laws_FnLaddersCross.j3] at H
 replace H := Option.bind_eq_some_iff.mp H; obtain ⟨⟨b4, b5, b6, g2, d3⟩, N0, H⟩ := H; (try dsimp only at H); have a19 := Aside0.mk N0; clear N0
 replace H := Option.bind_eq_some_iff.mp H; obtain ⟨⟨k3, k4, n2⟩, N1, H⟩ := H; (try dsimp only at H); have a20 := Aside0.mk N1; clear N1
 replace H := Option.bind_eq_some_iff.mp H; obtain ⟨⟨U5, U6, U7⟩, N2, H⟩ := H; (try dsimp only at H); have a21 := Aside0.mk N2; clear N2
 replace H := Option.bind_eq_some_iff.mp H; obtain ⟨⟨g5, g6, D5⟩, N3, H⟩ := H; (try dsimp only at H); have a22 := Aside0.mk N3; clear N3
 replace H := Option.bind_eq_some_iff.mp H; obtain ⟨⟨U8, U9, V0⟩, N4, H⟩ := H; (try dsimp only at H); have n8 := Aside0.mk N4; clear N4
 replace H := Option.bind_eq_some_iff.mp H; obtain ⟨⟨g7, h2, h3⟩, N5, H⟩ := H; (try dsimp only at H); have a23 := Aside0.mk N5; clear N5
 replace H := Option.bind_eq_some_iff.mp H; obtain ⟨⟨h4, j9, n3⟩, N6, H⟩ := H; (try dsimp only at H); have a24 := Aside0.mk N6; clear N6
 replace H := Option.bind_eq_some_iff.mp H; obtain ⟨⟨V1, V2, V3⟩, N7, H⟩ := H; (try dsimp only at H); have a25 := Aside0.mk N7; clear N7
 replace H := Option.bind_eq_some_iff.mp H; obtain ⟨⟨c3, c5, c6, g3⟩, N8, H⟩ := H; (try dsimp only at H); have a26 := Aside0.mk N8; clear N8
 replace H := Option.bind_eq_some_iff.mp H; obtain ⟨⟨d4, d5, d6, k5⟩, N9, H⟩ := H; (try dsimp only at H); have a27 := Aside0.mk N9; clear N9
 replace H := Option.bind_eq_some_iff.mp H; obtain ⟨⟨k6, k7, k8, V4⟩, O0, H⟩ := H; (try dsimp only at H); have a28 := Aside0.mk O0; clear O0
 have q2 := Aside0.mk H
 clear H
 go_upto_region 44 with (first | ((with_reducible refine gate_callee (f := 26) rfl ?_); refine goesL_ (some 475) rfl rfl Tryd.func26 kr rfl #[.slice A1 l1.length c1] rfl sM ?_; (with_reducible refine (spec_DrawHeightAt.calls _ _ l1 b4 b5 b6 g2 d3 _ ?side1 ?side2 a19.out).mono ?_); (case side1 => repeat (first | exact (Kd.C_below u7.out HB.out) | (with_reducible refine Kd.C_alloc ?_ _) | (with_reducible refine Kd.C_drewN ?_ _) | (with_reducible refine Kd.C_drew ?_))); (case side2 => exact u9.out); rintro e be3 ⟨rfl, hb⟩; refine ⟨_, rfl, ?_⟩; replace a2 := bQ a2 hb; replace a3 := bQ a3 hb; replace a4 := bQ a4 hb; replace HB := Aside0.mk (below_step bB hb); (try clear hb)) | ((with_reducible refine gate_dst (N := 54) rfl ?_); refine box_ (cs := #[.int .i64 0, .int .i64 0, .int .i64 0]) (t := 25) fun m9 hg be4 hbox hb => ?_; have a5 := Aside0.mk (hbox); have bc5 := bS HB hg; have bc6 := bS HB hg; have h5 := bL a2 hg; have h6 := bM a2 hg; have h7 := bL a3 hg; have h8 := bM a3 hg; have h9 := bL a4 hg; have i0 := bM a4 hg; replace a2 := bQ a2 hb; replace a3 := bQ a3 hb; replace a4 := bQ a4 hb; replace HB := Aside0.mk (below_step bB hb); clear hb hbox hg; have ap4 := h6.out; have ap5 := h5.out; have ap6 := h8.out; have ap7 := h7.out; have ap8 := i0.out; have ap9 := h9.out; obtain ⟨D6, D7, D8, D9, E0, E1⟩ := cf3 a5) | ((with_reducible refine gate_callee (f := 27) rfl ?_); refine goesL_ (some 483) rfl rfl Tryd.func27 kr rfl #[.agg #[.int .i64 b4, .int .i64 b5, .int .i64 b6], .bool g2, .int .i64 d3] rfl sM ?_; (with_reducible refine (impl_HeightAt.calls b3 b4 b5 b6 g2 d3 k3 k4 n2 _ a20.out).mono ?_); rintro e be5 ⟨rfl, hb⟩; refine ⟨_, rfl, ?_⟩; replace a2 := bQ a2 hb; replace a3 := bQ a3 hb; replace a4 := bQ a4 hb; replace a5 := (bP (.cells #[.int .i64 b4, .int .i64 b5, .int .i64 b6] 25 (0, 0)) a5 hb); replace HB := Aside0.mk (below_step bB hb); (try clear hb); obtain ⟨E2, E3, E4, E5, E6, E7⟩ := cf3 a5) | ((with_reducible refine gate_callee (f := 28) rfl ?_); refine goesL_ (some 491) rfl rfl Tryd.func28 kr rfl #[.agg #[.int .i64 b4, .int .i64 b5, .int .i64 b6], .bool g2, .int .i64 d3] rfl sM ?_; (with_reducible refine (spec_HeightAt.calls b3 b4 b5 b6 g2 d3 U5 U6 U7 _ a21.out).mono ?_); rintro e be6 ⟨rfl, hb⟩; refine ⟨_, rfl, ?_⟩; replace a2 := bQ a2 hb; replace a3 := bQ a3 hb; replace a4 := bQ a4 hb; replace a5 := bQ a5 hb; replace HB := Aside0.mk (below_step bB hb); (try clear hb); obtain ⟨E8, E9, F0, F1, F2, F3⟩ := cf3 a5) | ((with_reducible refine gate_callee (f := 29) rfl ?_); refine goesL_ (some 498) rfl rfl Tryd.func29 kr rfl #[.agg #[.int .i64 b4, .int .i64 b5, .int .i64 b6], .int .i64 d3] rfl sM ?_; (with_reducible refine (impl_HighestAt.calls b3 b4 b5 b6 d3 g5 g6 D5 _ a22.out).mono ?_); rintro e be7 ⟨rfl, hb⟩; refine ⟨_, rfl, ?_⟩; replace a2 := bQ a2 hb; replace a3 := bQ a3 hb; replace a4 := bQ a4 hb; replace a5 := bQ a5 hb; replace HB := Aside0.mk (below_step bB hb); (try clear hb); obtain ⟨F4, F5, F6, F7, F8, F9⟩ := cf3 a5) | ((with_reducible refine gate_callee (f := 30) rfl ?_); refine goesL_ (some 505) rfl rfl Tryd.func30 kr rfl #[.agg #[.int .i64 b4, .int .i64 b5, .int .i64 b6], .int .i64 d3] rfl sM ?_; (with_reducible refine (spec_HighestAt.calls b3 b4 b5 b6 d3 U8 U9 V0 _ n8.out).mono ?_); rintro e be8 ⟨rfl, hb⟩; refine ⟨_, rfl, ?_⟩; replace a2 := bQ a2 hb; replace a3 := bQ a3 hb; replace a4 := bQ a4 hb; replace a5 := bQ a5 hb; replace HB := Aside0.mk (below_step bB hb); (try clear hb)) | ((with_reducible refine gate_callee (f := 31) rfl ?_); refine goesL_ (some 511) rfl rfl Tryd.func31 kr rfl #[.slice A1 l1.length c1] rfl sM ?_; (with_reducible refine (spec_DrawOtherHeight.calls _ _ l1 g7 h2 h3 _ ?side1 ?side2 a23.out).mono ?_); (case side1 => repeat (first | exact (Kd.C_below u7.out HB.out) | (with_reducible refine Kd.C_alloc ?_ _) | (with_reducible refine Kd.C_drewN ?_ _) | (with_reducible refine Kd.C_drew ?_))); (case side2 => exact u9.out); rintro e be9 ⟨rfl, hb⟩; refine ⟨_, rfl, ?_⟩; replace a2 := bQ a2 hb; replace a3 := bQ a3 hb; replace a4 := bQ a4 hb; replace a5 := bQ a5 hb; replace HB := Aside0.mk (below_step bB hb); (try clear hb)) | ((with_reducible refine gate_callee (f := 25) rfl ?_); refine goesL_ (some 519) rfl rfl Tryd.func25 kr rfl #[.int .i64 g7, .int .i64 h2, .int .i64 h3] rfl sM ?_; (with_reducible refine (impl_OtherHeight.calls b3 g7 h2 h3 h4 j9 n3 _ a24.out).mono ?_); rintro e i1 ⟨rfl, hb⟩; refine ⟨_, rfl, ?_⟩; replace a2 := bQ a2 hb; replace a3 := bQ a3 hb; replace a4 := bQ a4 hb; replace a5 := bQ a5 hb; replace HB := Aside0.mk (below_step bB hb); (try clear hb)) | ((with_reducible refine gate_callee (f := 32) rfl ?_); refine goesL_ (some 527) rfl rfl Tryd.func32 kr rfl #[.int .i64 g7, .int .i64 h2, .int .i64 h3] rfl sM ?_; (with_reducible refine (spec_OtherHeight.calls b3 g7 h2 h3 V1 V2 V3 _ a25.out).mono ?_); rintro e w' ⟨rfl, ⟨nd, rfl⟩⟩; refine ⟨_, rfl, ?_⟩; (try (rw [drewN_self i1]; generalize hq_ : World.drewN i1 _ = i1; replace a2 : Aside0 (i1.heap[d1]? = some (.cells #[.int .i64 a8, .int .i64 a6, .int .i64 a7] 25 (0, 0))) := ⟨by rw [← hq_]; exact (bK a2)⟩; replace a3 : Aside0 (i1.heap[d2]? = some (.cells #[.int .i64 b7, .int .i64 b8, .int .i64 b9] 25 (0, 0))) := ⟨by rw [← hq_]; exact (bK a3)⟩; replace a4 : Aside0 (i1.heap[c2]? = some (.cells #[.int .i64 c8, .int .i64 c9, .int .i64 d0] 25 (0, 0))) := ⟨by rw [← hq_]; exact (bK a4)⟩; replace a5 : Aside0 (i1.heap[m9]? = some (.cells #[.int .i64 b4, .int .i64 b5, .int .i64 b6] 25 (0, 0))) := ⟨by rw [← hq_]; exact (bK a5)⟩; replace HB : Aside0 (Below w.heap.size w i1) := ⟨by rw [← hq_]; exact bB⟩; clear hq_))) | ((with_reducible refine gate_callee (f := 33) rfl ?_); refine goesL_ (some 533) rfl rfl Tryd.func33 kr rfl #[.slice A1 l1.length c1] rfl sM ?_; (with_reducible refine (spec_DrawMoveWall.calls _ _ l1 c3 c5 c6 g3 _ ?side1 ?side2 a26.out).mono ?_); (case side1 => repeat (first | exact (Kd.C_below u7.out HB.out) | (with_reducible refine Kd.C_alloc ?_ _) | (with_reducible refine Kd.C_drewN ?_ _) | (with_reducible refine Kd.C_drew ?_))); (case side2 => exact u9.out); rintro e bf0 ⟨rfl, hb⟩; refine ⟨_, rfl, ?_⟩; replace a2 := bQ a2 hb; replace a3 := bQ a3 hb; replace a4 := bQ a4 hb; replace a5 := bQ a5 hb; replace HB := Aside0.mk (below_step bB hb); (try clear hb)) | ((with_reducible refine gate_dst (N := 78) rfl ?_); refine box_ (cs := #[.int .i64 0, .int .i64 0, .int .i64 0]) (t := 25) fun q3 hg bf1 hbox hb => ?_; have a9 := Aside0.mk (hbox); have bc7 := bS HB hg; have bc8 := bS HB hg; have l7 := bL a2 hg; have l8 := bM a2 hg; have l9 := bL a3 hg; have m0 := bM a3 hg; have m1 := bL a4 hg; have m2 := bM a4 hg; have e8 := bL a5 hg; have e9 := bM a5 hg; replace a2 := bQ a2 hb; replace a3 := bQ a3 hb; replace a4 := bQ a4 hb; replace a5 := bQ a5 hb; replace HB := Aside0.mk (below_step bB hb); clear hb hbox hg; have aq0 := l8.out; have aq1 := l7.out; have aq2 := m0.out; have aq3 := l9.out; have aq4 := m2.out; have aq5 := m1.out; have aq6 := e9.out; have aq7 := e8.out; obtain ⟨G0, G1, G2, G3, G4, G5⟩ := cf3 a9) | ((with_reducible refine gate_callee (f := 34) rfl ?_); refine goesL_ (some 539) rfl rfl Tryd.func34 kr rfl #[.agg #[.int .i64 c3, .int .i64 c5, .int .i64 c6], .int .i64 g3] rfl sM ?_; (with_reducible refine (impl_MoveWall.calls b3 c3 c5 c6 g3 d4 d5 d6 k5 _ a27.out).mono ?_); rintro e bf2 ⟨rfl, hb⟩; refine ⟨_, rfl, ?_⟩; replace a2 := bQ a2 hb; replace a3 := bQ a3 hb; replace a4 := bQ a4 hb; replace a5 := bQ a5 hb; replace a9 := (bP (.cells #[.int .i64 c3, .int .i64 c5, .int .i64 c6] 25 (0, 0)) a9 hb); replace HB := Aside0.mk (below_step bB hb); (try clear hb)) | ((with_reducible refine gate_dst (N := 80) rfl ?_); refine box_ (cs := #[.int .i64 0, .int .i64 0, .int .i64 0]) (t := 25) fun q4 hg bf3 hbox hb => ?_; have b0 := Aside0.mk (hbox); have bc9 := bS HB hg; have bd0 := bS HB hg; have i2 := bL a2 hg; have i3 := bM a2 hg; have i4 := bL a3 hg; have i5 := bM a3 hg; have i6 := bL a4 hg; have i7 := bM a4 hg; have e2 := bL a5 hg; have e3 := bM a5 hg; have i9 := bL a9 hg; have j0 := bM a9 hg; replace a2 := bQ a2 hb; replace a3 := bQ a3 hb; replace a4 := bQ a4 hb; replace a5 := bQ a5 hb; replace a9 := bQ a9 hb; replace HB := Aside0.mk (below_step bB hb); clear hb hbox hg; have aq8 := i3.out; have aq9 := i2.out; have ar0 := i5.out; have ar1 := i4.out; have ar2 := i7.out; have ar3 := i6.out; have ar4 := e3.out; have ar5 := e2.out; have ar6 := j0.out; have ar7 := i9.out; obtain ⟨G6, G7, G8, G9, I0, I1⟩ := cf3 b0; obtain ⟨I2, I3, I4, I5, I6, I7⟩ := cf3 a9) | ((with_reducible refine gate_callee (f := 35) rfl ?_); refine goesL_ (some 545) rfl rfl Tryd.func35 kr rfl #[.agg #[.int .i64 c3, .int .i64 c5, .int .i64 c6], .int .i64 g3] rfl sM ?_; (with_reducible refine (spec_MoveWall.calls c3 c5 c6 g3 k6 k7 k8 V4 _ a28.out).mono ?_); rintro e bf4 ⟨rfl, hb⟩; refine ⟨_, rfl, ?_⟩; replace a2 := bQ a2 hb; replace a3 := bQ a3 hb; replace a4 := bQ a4 hb; replace a5 := bQ a5 hb; replace a9 := bQ a9 hb; replace b0 := (bP (.cells #[.int .i64 d4, .int .i64 d5, .int .i64 d6] 25 (0, 0)) b0 hb); replace HB := Aside0.mk (below_step bB hb); (try clear hb)) | ((with_reducible refine gate_dst (N := 82) rfl ?_); refine box_ (cs := #[.int .i64 0, .int .i64 0, .int .i64 0]) (t := 25) fun q5 hg bf5 hbox hb => ?_; have b1 := Aside0.mk (hbox); have bd1 := bS HB hg; have bd2 := bS HB hg; have m3 := bL a2 hg; have m4 := bM a2 hg; have m5 := bL a3 hg; have m6 := bM a3 hg; have m7 := bL a4 hg; have m8 := bM a4 hg; have g0 := bL a5 hg; have g1 := bM a5 hg; have j1 := bL a9 hg; have j2 := bM a9 hg; have j3 := bL b0 hg; have j4 := bM b0 hg; replace a2 := bQ a2 hb; replace a3 := bQ a3 hb; replace a4 := bQ a4 hb; replace a5 := bQ a5 hb; replace a9 := bQ a9 hb; replace b0 := bQ b0 hb; replace HB := Aside0.mk (below_step bB hb); clear hb hbox hg; have ar8 := m4.out; have ar9 := m3.out; have as0 := m6.out; have as1 := m5.out; have as2 := m8.out; have as3 := m7.out; have as4 := g1.out; have as5 := g0.out; have as6 := j2.out; have as7 := j1.out; have as8 := j4.out; have as9 := j3.out; obtain ⟨I8, I9, J0, J1, J2, J3⟩ := cf3 b1))
 (try simp only [Act.put, List.setIfInBounds_toArray, List.set_cons_zero, List.set_cons_succ])
 go_cut [605] from 605 to 605 (fun a29 wc => ∃ (kq : Nat) (g8 : Bool), a29 = .bool g8 ∧ Aside0 (laws_FnLaddersCross.j4 kq g2 d3 k3 k4 n2 g5 g6 g7 h2 h3 h4 j9 n3 g3 k5 g8 b4 b5 b6 c3 c5 c6 d4 d5 d6 = some r) ∧ Aside0 (kq ≤ b3) ∧ Aside0 (wc.heap[d1]? = some (.cells #[.int .i64 a8, .int .i64 a6, .int .i64 a7] 25 (0, 0))) ∧ Aside0 (wc.heap[d2]? = some (.cells #[.int .i64 b7, .int .i64 b8, .int .i64 b9] 25 (0, 0))) ∧ Aside0 (wc.heap[c2]? = some (.cells #[.int .i64 c8, .int .i64 c9, .int .i64 d0] 25 (0, 0))) ∧ Aside0 (wc.heap[m9]? = some (.cells #[.int .i64 b4, .int .i64 b5, .int .i64 b6] 25 (0, 0))) ∧ Aside0 (wc.heap[q3]? = some (.cells #[.int .i64 c3, .int .i64 c5, .int .i64 c6] 25 (0, 0))) ∧ Aside0 (wc.heap[q4]? = some (.cells #[.int .i64 d4, .int .i64 d5, .int .i64 d6] 25 (0, 0))) ∧ Aside0 (wc.heap[q5]? = some (.cells #[.int .i64 k6, .int .i64 k7, .int .i64 k8] 25 (0, 0))) ∧ Aside0 (Below w.heap.size w wc))
 case first => (
 as_aux_lemma => (
 have H := q2.out
 clear q2
 by_cases q6 : (n2 != U7) = true
 ·(
 rw [if_pos q6] at H
 exact absurd H (by cases b3 <;> simp [laws_FnLaddersCross.j4, HT_l.out])
 )
 rw [if_neg q6] at H
 obtain ⟨v2, at0, at1⟩ := nf q6
 clear q6
 (first | rw [v2] | (simp only [i64_w, i32_w]; rw [v2]) | skip)
 by_cases q7 : k3 = U5
 ·(
 rw [if_pos q7] at H
 obtain ⟨at2, at3⟩ := yE q7
 clear q7
 by_cases q8 : k4 = U6
 ·(
 rw [if_pos q8] at H
 obtain ⟨at4, at5⟩ := yE q8
 clear q8
 by_cases q9 : (D5 != V0) = true
 ·(
 rw [if_pos q9] at H
 exact absurd H (by cases b3 <;> simp [laws_FnLaddersCross.j4, HT_l.out])
 )
 rw [if_neg q9] at H
 obtain ⟨at6, at7, at8⟩ := nf q9
 clear q9
 by_cases r0 : g5 = U8
 ·(
 rw [if_pos r0] at H
 obtain ⟨at9, au0⟩ := yE r0
 clear r0
 by_cases r1 : g6 = U9
 ·(
 rw [if_pos r1] at H
 obtain ⟨au1, au2⟩ := yE r1
 clear r1
 by_cases r2 : (n3 != V3) = true
 ·(
 rw [if_pos r2] at H
 exact absurd H (by cases b3 <;> simp [laws_FnLaddersCross.j4, HT_l.out])
 )
 rw [if_neg r2] at H
 obtain ⟨au3, au4, au5⟩ := nf r2
 clear r2
 by_cases r3 : h4 = V1
 ·(
 rw [if_pos r3] at H
 obtain ⟨au6, au7⟩ := yE r3
 clear r3
 by_cases r4 : j9 = V2
 ·(
 rw [if_pos r4] at H
 obtain ⟨au8, au9⟩ := yE r4
 clear r4
 by_cases r5 : (k5 != V4) = true
 ·(
 rw [if_pos r5] at H
 exact absurd H (by cases b3 <;> simp [laws_FnLaddersCross.j4, HT_l.out])
 )
 rw [if_neg r5] at H
 obtain ⟨av0, av1, av2⟩ := nf r5
 clear r5
 by_cases r6 : (!(d4 == k6) || (!(d5 == k7) || (!(d6 == k8)))) = true
 ·(
 rw [if_pos r6] at H
 exact absurd H (by cases b3 <;> simp [laws_FnLaddersCross.j4, HT_l.out])
 )
 rw [if_neg r6] at H
 have av3 : (!(d4 == k6) || (!(d5 == k7) || (!(d6 == k8)))) = false := by simpa using r6
 clear r6
 have H' := Aside0.mk H
 clear H
 have av4 := i3.out
 have av5 := i2.out
 have av6 := i5.out
 have av7 := i4.out
 have av8 := i7.out
 have av9 := i6.out
 have aw0 := e3.out
 have aw1 := e2.out
 have aw2 := j0.out
 have aw3 := i9.out
 have aw4 := j3.out
 have aw5 := j4.out
 obtain ⟨a30, a31, a32, a33, a34, a35⟩ := cf3 b0
 have aw6 := m4.out
 have aw7 := m3.out
 have aw8 := m6.out
 have aw9 := m5.out
 have ax0 := m8.out
 have ax1 := m7.out
 have ax2 := g1.out
 have ax3 := g0.out
 have ax4 := j2.out
 have ax5 := j1.out
 obtain ⟨a36, a37, a38, a39, a40, a41⟩ := cf3 b1
 go_wp2
 go_meet
 case rel => exact ⟨_, ((n2 != D5)), sR, H', ⟨laws_FnLaddersCross.jx⟩, (bA a2), (bA a3), (bA a4), (bA a5), (bA a9), (bA b0), (bA b1), ⟨bB⟩⟩
 )
 rw [if_neg r4] at H
 exact absurd H (by cases b3 <;> simp [laws_FnLaddersCross.j4, HT_l.out])
 )
 rw [if_neg r3] at H
 exact absurd H (by cases b3 <;> simp [laws_FnLaddersCross.j4, HT_l.out])
 )
 rw [if_neg r1] at H
 exact absurd H (by cases b3 <;> simp [laws_FnLaddersCross.j4, HT_l.out])
 )
 rw [if_neg r0] at H
 exact absurd H (by cases b3 <;> simp [laws_FnLaddersCross.j4, HT_l.out])
 )
 rw [if_neg q8] at H
 exact absurd H (by cases b3 <;> simp [laws_FnLaddersCross.j4, HT_l.out])
 )
 rw [if_neg q7] at H
 exact absurd H (by cases b3 <;> simp [laws_FnLaddersCross.j4, HT_l.out])
 )
 )
 clear q2
 try clear D6
 try clear D7
 try clear D8
 try clear E2
 try clear E3
 try clear E4
 try clear E8
 try clear E9
 try clear F0
 try clear F4
 try clear F5
 try clear F6
 try clear G0
 try clear G1
 try clear G2
 try clear G6
 try clear G7
 try clear G8
 try clear I2
 try clear I3
 try clear I4
 try clear I8
 try clear I9
 try clear J0
 try clear D9
 try clear E0
 try clear E1
 try clear E5
 try clear E6
 try clear E7
 try clear F1
 try clear F2
 try clear F3
 try clear F7
 try clear F8
 try clear F9
 try clear G3
 try clear G4
 try clear G5
 try clear G9
 try clear I0
 try clear I1
 try clear I5
 try clear I6
 try clear I7
 try clear J1
 try clear J2
 try clear J3
 obtain ⟨kq, g8, rfl, HA, HJ166, a2, a3, a4, a5, a9, b0, b1, HB⟩ := hcut
 (try clear D6); (try clear D7); (try clear D8); (try clear D9); (try clear E0); (try clear E1); (try clear E2); (try clear E3); (try clear E4); (try clear E5); (try clear E6); (try clear E7); (try clear E8); (try clear E9); (try clear F0); (try clear F1); (try clear F2); (try clear F3); (try clear F4); (try clear F5); (try clear F6); (try clear F7); (try clear F8); (try clear F9); (try clear G0); (try clear G1); (try clear G2); (try clear G3); (try clear G4); (try clear G5); (try clear G6); (try clear G7); (try clear G8); (try clear G9); (try clear I0); (try clear I1); (try clear I2); (try clear I3); (try clear I4); (try clear I5); (try clear I6); (try clear I7); (try clear I8); (try clear I9); (try clear J0); (try clear J1); (try clear J2); (try clear J3); (try clear ap4); (try clear ap5); (try clear ap6); (try clear ap7); (try clear ap8); (try clear ap9); (try clear aq0); (try clear aq1); (try clear aq2); (try clear aq3); (try clear aq4); (try clear aq5); (try clear aq6); (try clear aq7); (try clear aq8); (try clear aq9); (try clear ar0); (try clear ar1); (try clear ar2); (try clear ar3); (try clear ar4); (try clear ar5); (try clear ar6); (try clear ar7); (try clear ar8); (try clear ar9); (try clear as0); (try clear as1); (try clear as2); (try clear as3); (try clear as4); (try clear as5); (try clear as6); (try clear as7); (try clear as8); (try clear as9)
 cases kq with
 | zero => exact absurd HA.out (by simp [laws_FnLaddersCross.j4])
 | succ r7 => (
 as_aux_lemma => (
 have H := HA.out
 clear HA
 simp only [laws_FnLaddersCross.j4] at H
 by_cases r8 : g8 = true
 ·(
 subst r8
 rw [if_pos rfl] at H
 exact fy HT_l H
 )
 replace r8 := Bool.eq_false_iff.mpr r8
 subst r8
 rw [if_neg nft] at H
 have r9 := Aside0.mk H
 clear H
 go_upto_if 606 with (fail)
 go_cut [606] from 606 to 606 (fun bf6 wc => ∃ (kq : Nat), Aside0 (laws_FnLaddersCross.j5 kq g7 h2 h3 h4 j9 n3 g3 k5 c3 c5 c6 d4 d5 d6 = some r) ∧ Aside0 (kq ≤ r7) ∧ Aside0 (wc.heap[d1]? = some (.cells #[.int .i64 a8, .int .i64 a6, .int .i64 a7] 25 (0, 0))) ∧ Aside0 (wc.heap[d2]? = some (.cells #[.int .i64 b7, .int .i64 b8, .int .i64 b9] 25 (0, 0))) ∧ Aside0 (wc.heap[c2]? = some (.cells #[.int .i64 c8, .int .i64 c9, .int .i64 d0] 25 (0, 0))) ∧ Aside0 (wc.heap[m9]? = some (.cells #[.int .i64 b4, .int .i64 b5, .int .i64 b6] 25 (0, 0))) ∧ Aside0 (wc.heap[q3]? = some (.cells #[.int .i64 c3, .int .i64 c5, .int .i64 c6] 25 (0, 0))) ∧ Aside0 (wc.heap[q4]? = some (.cells #[.int .i64 d4, .int .i64 d5, .int .i64 d6] 25 (0, 0))) ∧ Aside0 (wc.heap[q5]? = some (.cells #[.int .i64 k6, .int .i64 k7, .int .i64 k8] 25 (0, 0))) ∧ Aside0 (Below w.heap.size w wc))
 case first => (
 as_aux_lemma => (
 have H := r9.out
 clear r9
 by_cases s0 : n2 = true
 ·(
 subst s0
 rw [if_pos rfl] at H
 replace H := Option.bind_eq_some_iff.mp H; obtain ⟨⟨n4, n5, a42⟩, O1, H⟩ := H; (try dsimp only at H); have V5 := Aside0.mk O1; clear O1
 by_cases s1 : a42 = true
 ·(
 subst s1
 rw [if_pos rfl] at H
 by_cases s2 : (wrap64 (g5 * k4)) < (wrap64 (k3 * g6))
 ·(
 rw [if_pos s2] at H
 exact fy HT_l H
 )
 rw [if_neg s2] at H
 have v3 : decide ((wrap64 (g5 * k4)) < (wrap64 (k3 * g6))) = false := decide_eq_false s2
 clear s2
 (first | rw [v3] | (simp only [i64_w, i32_w]; rw [v3]) | skip)
 by_cases s3 : (wrap64 (g5 * n5)) < (wrap64 (n4 * g6))
 ·(
 rw [if_pos s3] at H
 exact fy HT_l H
 )
 rw [if_neg s3] at H
 have ax6 : decide ((wrap64 (g5 * n5)) < (wrap64 (n4 * g6))) = false := decide_eq_false s3
 clear s3
 by_cases n6 : (wrap64 (g5 * k4)) = (wrap64 (k3 * g6))
 ·(
 rw [if_pos n6] at H
 obtain ⟨V6, V7⟩ := yE n6
 clear n6
 have H' := Aside0.mk H
 clear H
 have ax7 := h6.out
 have ax8 := h5.out
 have ax9 := h8.out
 have ay0 := h7.out
 have ay1 := i0.out
 have ay2 := h9.out
 have ay3 := e8.out
 have ay4 := e9.out
 have ay5 := e2.out
 have ay6 := e3.out
 have ay7 := g0.out
 have ay8 := g1.out
 obtain ⟨a43, a44, a45, a46, a47, a48⟩ := cf3 a5
 go_wp2_with (first | ((with_reducible refine gate_callee (f := 27) rfl ?_); refine goesL_ (some 612) rfl rfl Tryd.func27 kr rfl #[.agg #[.int .i64 b4, .int .i64 b5, .int .i64 b6], .bool (!g2), .int .i64 d3] rfl sM ?_; (with_reducible refine (impl_HeightAt.calls r7 b4 b5 b6 (!g2) d3 n4 n5 true _ V5.out).mono ?_); rintro e bf7 ⟨rfl, hb⟩; refine ⟨_, rfl, ?_⟩; replace a2 := bQ a2 hb; replace a3 := bQ a3 hb; replace a4 := bQ a4 hb; replace a5 := bQ a5 hb; replace a9 := bQ a9 hb; replace b0 := bQ b0 hb; replace b1 := bQ b1 hb; replace HB := Aside0.mk (below_step bB hb); (try clear hb)))
 go_meet
 case rel => exact ⟨_, H', ⟨laws_FnLaddersCross.jx⟩, (bA a2), (bA a3), (bA a4), (bA a5), (bA a9), (bA b0), (bA b1), ⟨bB⟩⟩
 )
 rw [if_neg n6] at H
 obtain ⟨V6, V7⟩ := nE n6
 by_cases s4 : (wrap64 (g5 * n5)) = (wrap64 (n4 * g6))
 ·(
 rw [if_pos s4] at H
 obtain ⟨ay9, az0⟩ := yE s4
 clear s4
 have H' := Aside0.mk H
 clear H
 have az1 := h6.out
 have az2 := h5.out
 have az3 := h8.out
 have az4 := h7.out
 have az5 := i0.out
 have az6 := h9.out
 have az7 := e8.out
 have az8 := e9.out
 have az9 := e2.out
 have b00 := e3.out
 have b01 := g0.out
 have b02 := g1.out
 obtain ⟨a49, a50, a51, a52, a53, a54⟩ := cf3 a5
 go_wp2_with (first | ((with_reducible refine gate_callee (f := 27) rfl ?_); refine goesL_ (some 612) rfl rfl Tryd.func27 kr rfl #[.agg #[.int .i64 b4, .int .i64 b5, .int .i64 b6], .bool (!g2), .int .i64 d3] rfl sM ?_; (with_reducible refine (impl_HeightAt.calls r7 b4 b5 b6 (!g2) d3 n4 n5 true _ V5.out).mono ?_); rintro e bf8 ⟨rfl, hb⟩; refine ⟨_, rfl, ?_⟩; replace a2 := bQ a2 hb; replace a3 := bQ a3 hb; replace a4 := bQ a4 hb; replace a5 := bQ a5 hb; replace a9 := bQ a9 hb; replace b0 := bQ b0 hb; replace b1 := bQ b1 hb; replace HB := Aside0.mk (below_step bB hb); (try clear hb)))
 go_meet
 case rel => exact ⟨_, H', ⟨laws_FnLaddersCross.jx⟩, (bA a2), (bA a3), (bA a4), (bA a5), (bA a9), (bA b0), (bA b1), ⟨bB⟩⟩
 )
 rw [if_neg s4] at H
 exact fy HT_l H
 )
 replace s1 := Bool.eq_false_iff.mpr s1
 subst s1
 rw [if_neg nft] at H
 exact fy HT_l H
 )
 replace s0 := Bool.eq_false_iff.mpr s0
 subst s0
 rw [if_neg nft] at H
 have H' := Aside0.mk H
 clear H
 go_wp2
 go_meet
 case rel => exact ⟨_, H', ⟨laws_FnLaddersCross.jx⟩, (bA a2), (bA a3), (bA a4), (bA a5), (bA a9), (bA b0), (bA b1), ⟨bB⟩⟩
 )
 )
 clear r9
 obtain ⟨kq, HA, HJ232, a2, a3, a4, a5, a9, b0, b1, HB⟩ := hcut
 cases kq with
 | zero => exact absurd HA.out (by simp [laws_FnLaddersCross.j5])
 | succ O2 => (
 as_aux_lemma => (
 have H := HA.out
 clear HA
 simp only [laws_FnLaddersCross.j5] at H
 have s5 := Aside0.mk H
 clear H
 go_upto_if 654 with (fail)
 go_cut [654] from 654 to 654 (fun bf9 wc => ∃ (kq : Nat), Aside0 (laws_FnLaddersCross.j6 kq g3 k5 c3 c5 c6 d4 d5 d6 = some r) ∧ Aside0 (kq ≤ O2) ∧ Aside0 (wc.heap[d1]? = some (.cells #[.int .i64 a8, .int .i64 a6, .int .i64 a7] 25 (0, 0))) ∧ Aside0 (wc.heap[d2]? = some (.cells #[.int .i64 b7, .int .i64 b8, .int .i64 b9] 25 (0, 0))) ∧ Aside0 (wc.heap[c2]? = some (.cells #[.int .i64 c8, .int .i64 c9, .int .i64 d0] 25 (0, 0))) ∧ Aside0 (wc.heap[m9]? = some (.cells #[.int .i64 b4, .int .i64 b5, .int .i64 b6] 25 (0, 0))) ∧ Aside0 (wc.heap[q3]? = some (.cells #[.int .i64 c3, .int .i64 c5, .int .i64 c6] 25 (0, 0))) ∧ Aside0 (wc.heap[q4]? = some (.cells #[.int .i64 d4, .int .i64 d5, .int .i64 d6] 25 (0, 0))) ∧ Aside0 (wc.heap[q5]? = some (.cells #[.int .i64 k6, .int .i64 k7, .int .i64 k8] 25 (0, 0))) ∧ Aside0 (Below w.heap.size w wc))
 case first => (
 as_aux_lemma => (
 have H := s5.out
 clear s5
 by_cases s6 : n3 = true
 ·(
 subst s6
 rw [if_pos rfl] at H
 replace H := Option.bind_eq_some_iff.mp H; obtain ⟨a55, O3, H⟩ := H; (try dsimp only at H); have a56 := Aside0.mk O3; clear O3
 by_cases s7 : a55 = true
 ·(
 subst s7
 rw [if_pos rfl] at H
 by_cases s8 : (wrap64 (h2 * (wrap64 (h4 + (wrap64 (g7 * j9)))))) = (wrap64 ((wrap64 (h3 * g7)) * h4))
 ·(
 rw [if_pos s8] at H
 obtain ⟨v4, b03⟩ := yE s8
 clear s8
 (first | rw [v4] | (simp only [i64_w, i32_w]; rw [v4]) | skip)
 have H' := Aside0.mk H
 clear H
 go_wp2_with (first | ((with_reducible refine gate_callee (f := 24) rfl ?_); refine goesL_ (some 657) rfl rfl Tryd.func24 kr rfl #[.int .i64 h4, .int .i64 j9] rfl sM ?_; (with_reducible refine (laws_jLow.calls O2 h4 j9 true _ a56.out).mono ?_); rintro e w' ⟨rfl, ⟨nd, rfl⟩⟩; refine ⟨_, rfl, ?_⟩))
 go_meet
 case rel => exact ⟨_, H', ⟨laws_FnLaddersCross.jx⟩, (bA a2), (bA a3), (bA a4), (bA a5), (bA a9), (bA b0), (bA b1), ⟨bB⟩⟩
 )
 rw [if_neg s8] at H
 exact fy HT_l H
 )
 replace s7 := Bool.eq_false_iff.mpr s7
 subst s7
 rw [if_neg nft] at H
 exact fy HT_l H
 )
 replace s6 := Bool.eq_false_iff.mpr s6
 subst s6
 rw [if_neg nft] at H
 have H' := Aside0.mk H
 clear H
 go_wp2
 go_meet
 case rel => exact ⟨_, H', ⟨laws_FnLaddersCross.jx⟩, (bA a2), (bA a3), (bA a4), (bA a5), (bA a9), (bA b0), (bA b1), ⟨bB⟩⟩
 )
 )
 clear s5
 obtain ⟨kq, HA, HJ256, a2, a3, a4, a5, a9, b0, b1, HB⟩ := hcut
 cases kq with
 | zero => exact absurd HA.out (by simp [laws_FnLaddersCross.j6])
 | succ s9 => (
 as_aux_lemma => (
 have H := HA.out
 clear HA
 simp only [laws_FnLaddersCross.j6] at H
 by_cases u0 : k5 = true
 ·(
 subst u0
 rw [if_pos rfl] at H
 replace H := Option.bind_eq_some_iff.mp H; obtain ⟨⟨V8, V9, a57⟩, O4, H⟩ := H; (try dsimp only at H); have a58 := Aside0.mk O4; clear O4
 replace H := Option.bind_eq_some_iff.mp H; obtain ⟨⟨X0, X1, a59⟩, O5, H⟩ := H; (try dsimp only at H); have a60 := Aside0.mk O5; clear O5
 replace H := Option.bind_eq_some_iff.mp H; obtain ⟨⟨J4, J5, J6, a61⟩, O6, H⟩ := H; (try dsimp only at H); have a62 := Aside0.mk O6; clear O6
 by_cases u1 : a57 = true
 ·(
 subst u1
 rw [if_pos rfl] at H
 by_cases u2 : a59 = true
 ·(
 subst u2
 rw [if_pos rfl] at H
 by_cases u3 : V8 = X0
 ·(
 rw [if_pos u3] at H
 obtain ⟨b04, b05⟩ := yE u3
 clear u3
 by_cases u4 : V9 = X1
 ·(
 rw [if_pos u4] at H
 obtain ⟨b06, b07⟩ := yE u4
 clear u4
 by_cases u5 : a61 = true
 ·(
 subst u5
 rw [if_pos rfl] at H
 by_cases u6 : (!(J4 == c3) || (!(J5 == c5) || (!(J6 == c6)))) = true
 ·(
 rw [if_pos u6] at H
 exact fy HT_l H
 )
 rw [if_neg u6] at H
 have b08 : (!(J4 == c3) || (!(J5 == c5) || (!(J6 == c6)))) = false := by simpa using u6
 clear u6
 obtain rfl := Option.some.inj H
 have b09 := l8.out
 have b10 := l7.out
 have b11 := m0.out
 have b12 := l9.out
 have b13 := m2.out
 have b14 := m1.out
 have b15 := e9.out
 have b16 := e8.out
 have b17 := i9.out
 have b18 := j0.out
 have b19 := j1.out
 have b20 := j2.out
 obtain ⟨a63, a64, a65, a66, a67, a68⟩ := cf3 a9
 go_wp2_with (first | ((with_reducible refine gate_callee (f := 6) rfl ?_); refine goesL_ (some 677) rfl rfl Tryd.func6 kr rfl #[.agg #[.int .i64 c3, .int .i64 c5, .int .i64 c6]] rfl sM ?_; (with_reducible refine (impl_CrossHeight.calls s9 c3 c5 c6 V8 V9 true _ a58.out).mono ?_); rintro e bg0 ⟨rfl, hb⟩; refine ⟨_, rfl, ?_⟩; replace a2 := bQ a2 hb; replace a3 := bQ a3 hb; replace a4 := bQ a4 hb; replace a5 := bQ a5 hb; replace a9 := bQ a9 hb; replace b0 := bQ b0 hb; replace b1 := bQ b1 hb; replace HB := Aside0.mk (below_step bB hb); (try clear hb); have b21 := i3.out; have b22 := i2.out; have b23 := i5.out; have b24 := i4.out; have b25 := i7.out; have b26 := i6.out; have b27 := e3.out; have b28 := e2.out; have b29 := j3.out; have b30 := j4.out; obtain ⟨a69, a70, a71, a72, a73, a74⟩ := cf3 b0) | ((with_reducible refine gate_callee (f := 6) rfl ?_); refine goesL_ (some 683) rfl rfl Tryd.func6 kr rfl #[.agg #[.int .i64 d4, .int .i64 d5, .int .i64 d6]] rfl sM ?_; (with_reducible refine (impl_CrossHeight.calls s9 d4 d5 d6 X0 X1 true _ a60.out).mono ?_); rintro e bg1 ⟨rfl, hb⟩; refine ⟨_, rfl, ?_⟩; replace a2 := bQ a2 hb; replace a3 := bQ a3 hb; replace a4 := bQ a4 hb; replace a5 := bQ a5 hb; replace a9 := bQ a9 hb; replace b0 := bQ b0 hb; replace b1 := bQ b1 hb; replace HB := Aside0.mk (below_step bB hb); (try clear hb); obtain ⟨a75, a76, a77, a78, a79, a80⟩ := cf3 b0) | ((with_reducible refine gate_callee (f := 34) rfl ?_); refine goesL_ (some 691) rfl rfl Tryd.func34 kr rfl #[.agg #[.int .i64 d4, .int .i64 d5, .int .i64 d6], .int .i64 (wrap64 (-g3))] rfl sM ?_; (with_reducible refine (impl_MoveWall.calls s9 d4 d5 d6 (wrap64 (-g3)) J4 J5 J6 true _ a62.out).mono ?_); rintro e bg2 ⟨rfl, hb⟩; refine ⟨_, rfl, ?_⟩; replace a2 := bQ a2 hb; replace a3 := bQ a3 hb; replace a4 := bQ a4 hb; replace a5 := bQ a5 hb; replace a9 := bQ a9 hb; replace b0 := bQ b0 hb; replace b1 := bQ b1 hb; replace HB := Aside0.mk (below_step bB hb); (try clear hb)) | ((with_reducible refine gate_dst (N := 93) rfl ?_); refine box_ (cs := #[.int .i64 0, .int .i64 0, .int .i64 0]) (t := 25) fun bd3 hg bg3 hbox hb => ?_; have X3 := Aside0.mk (hbox); have bd4 := bS HB hg; have bd5 := bS HB hg; have v5 := bL a2 hg; have v6 := bM a2 hg; have v7 := bL a3 hg; have v8 := bM a3 hg; have v9 := bL a4 hg; have x0 := bM a4 hg; have x2 := bL a5 hg; have x3 := bM a5 hg; have x4 := bL a9 hg; have x5 := bM a9 hg; have x9 := bL b0 hg; have y2 := bM b0 hg; have y3 := bL b1 hg; have y4 := bM b1 hg; replace a2 := bQ a2 hb; replace a3 := bQ a3 hb; replace a4 := bQ a4 hb; replace a5 := bQ a5 hb; replace a9 := bQ a9 hb; replace b0 := bQ b0 hb; replace b1 := bQ b1 hb; replace HB := Aside0.mk (below_step bB hb); clear hb hbox hg; have b31 := v6.out; have b32 := v5.out; have b33 := v8.out; have b34 := v7.out; have b35 := x0.out; have b36 := v9.out; have b37 := x3.out; have b38 := x2.out; have b39 := x5.out; have b40 := x4.out; have b41 := y2.out; have b42 := x9.out; have b43 := y4.out; have b44 := y3.out; obtain ⟨a81, a82, a83, a84, a85, a86⟩ := cf3 X3; obtain ⟨a87, a88, a89, a90, a91, a92⟩ := cf3 a9))
 go_ret
 exact ⟨sE, bI⟩
 )
 replace u5 := Bool.eq_false_iff.mpr u5
 subst u5
 rw [if_neg nft] at H
 exact fy HT_l H
 )
 rw [if_neg u4] at H
 exact fy HT_l H
 )
 rw [if_neg u3] at H
 exact fy HT_l H
 )
 replace u2 := Bool.eq_false_iff.mpr u2
 subst u2
 rw [if_neg nft] at H
 exact fy HT_l H
 )
 replace u1 := Bool.eq_false_iff.mpr u1
 subst u1
 rw [if_neg nft] at H
 exact fy HT_l H
 )
 replace u0 := Bool.eq_false_iff.mpr u0
 subst u0
 rw [if_neg nft] at H
 obtain rfl := Option.some.inj H
 go_wp2
 go_ret
 exact ⟨sE, bI⟩
 )
 )
 )
 )
 )
 )
 )
 )
 )
 )
/-- THE ONE PURE STATEMENT of laws_FnLaddersCross: yours. -/
theorem laws_FnLaddersCross.walk (P : laws_FnLaddersCross.Pure) (a0 : Option Addr) (len0 cap0 : Nat) (z0 : List Int) (a1 : Option Addr) (len1 cap1 : Nat) (z1 : List Int) (w : World) (w0 : (a0 = none ∧ len0 = 0 ∧ cap0 = 0 ∧ z0 = []) ∨ ∃ x, a0 = some x ∧ len0 ≤ cap0 ∧ cap0 ≤ maxLen ∧ z0.length = cap0 ∧ (∀ i, i < z0.length → w.cell? (x.add i) = some (.int .u8 (z0.getD i 0))) ∧ ∀ n ∈ z0, (Lit.int .u8 n).wf = true) (y0 : len0 * 1 ≤ 140737488351232) (w1 : (a1 = none ∧ len1 = 0 ∧ cap1 = 0 ∧ z1 = []) ∨ ∃ x, a1 = some x ∧ len1 ≤ cap1 ∧ cap1 ≤ maxLen ∧ z1.length = cap1 ∧ (∀ i, i < z1.length → w.cell? (x.add i) = some (.int .u8 (z1.getD i 0))) ∧ ∀ n ∈ z1, (Lit.int .u8 n).wf = true) (y1 : len1 * 1 ≤ 140737488351232) (hw_ : PtW w) :
    Calls Tryd.prog 3 #[.slice a0 len0 cap0, .slice a1 len1 cap1] w fun e w' => e = .returned (.bool true) ∧ Below w.heap.size w w' := by
  obtain ⟨l0, rfl, hr0, hm0, hw0, hc0⟩ := ReadsInt.ofRowC w0
  obtain ⟨l1, rfl, hr1, hm1, hw1, hc1⟩ := ReadsInt.ofRowC w1
  obtain ⟨k, h⟩ := P l0 l1 hm0 y0 hw0 hm1 y1 hw1
  refine (laws_FnLaddersCross.calls k _ _ l0 _ _ l1 true w (Kd.C_of_reads (d := (0 : Int)) (h1 := fun _ => rfl) hr0) hc0 (Kd.C_of_reads (d := (0 : Int)) (h1 := fun _ => rfl) hr1) hc1 h rfl hw_).mono ?_
  rintro e w' ⟨rfl, hd⟩
  exact ⟨rfl, hd⟩
end Go.Proofs.YtcfknhmdhglmfaaDoor.PFnLaddersCross

