-- Written by split3.py: the law's walk up to its first cut.
import Derived.Test.YtcfknhmdhglmfaaGreatDoorVM
import Derived.Test.YtcfknhmdhglmfaaGreatDoorVF
import Derived.Test.YtcfknhmdhglmfaaGreatDoorPFnLaddersWholex0
import Derived.Test.YtcfknhmdhglmfaaGreatDoorPFnLaddersWholex1
import Derived.Test.YtcfknhmdhglmfaaGreatDoorPFnLaddersWholex2
import Derived.Test.YtcfknhmdhglmfaaGreatDoorPFnLaddersWholex3
import Derived.Test.YtcfknhmdhglmfaaGreatDoorPFnLaddersWholex4
import Derived.Test.YtcfknhmdhglmfaaGreatDoorPFnLaddersWholex5
import Derived.Test.YtcfknhmdhglmfaaGreatDoorPFnLaddersWholex6
import Derived.Test.YtcfknhmdhglmfaaGreatDoorPFnLaddersWholex7
import Derived.Test.YtcfknhmdhglmfaaGreatDoorPFnLaddersWholex8
import Derived.Test.YtcfknhmdhglmfaaGreatDoorPFnLaddersWholex11
import Derived.Test.YtcfknhmdhglmfaaGreatDoorPFnLaddersWholex12
import Derived.Test.YtcfknhmdhglmfaaGreatDoorPFnLaddersWholex13
namespace Go.Proofs.YtcfknhmdhglmfaaGreatDoor.PFnLaddersWhole
open Go.Proofs.YtcfknhmdhglmfaaGreatDoorV Go.RowKit Go.Proofs.YtcfknhmdhglmfaaGreatDoorW.PrintWords Go.Proofs.YtcfknhmdhglmfaaGreatDoorW.PrintLast Go.Proofs.YtcfknhmdhglmfaaGreatDoorW.PrintMore
attribute [local go_sem] max2_int min2_int max_two min_two max_three min_three max_four min_four   -- for this text's walks alone
attribute [local go_sem ↓] rdl_zero rdl_succ eval_lit
set_option linter.unusedVariables false
set_option linter.unusedSimpArgs false
attribute [local go_sem high] eqA25
set_option maxHeartbeats 100000000 in
set_option maxRecDepth 100000 in
theorem laws_FnLaddersWhole.calls0 (hR_ : laws_FnLaddersWhole.RestSaid1) (k : Nat) (A0 : Option Addr) (c0 : Nat) (l0 : List Int) (A1 : Option Addr) (c1 : Nat) (l1 : List Int) (r : Bool) (w : World) (hr0 : Kd.C (Kd.int .u8) w A0 l0.length l0) (hc0 : l0.length ≤ c0) (hr1 : Kd.C (Kd.int .u8) w A1 l1.length l1) (hc1 : l1.length ≤ c1) (h : laws_FnLaddersWhole.f k l0 l1 = some r) (ht : r = true) (hw_ : PtW w) :
    Calls Tryz.prog 3 #[.slice A0 l0.length c0, .slice A1 l1.length c1] w fun e w' => e = .returned (.bool r) ∧ Below w.heap.size w w' := by
 have HM := Aside0.mk hw_
 clear hw_
 have cf2 := Tryz.underlying25
 have E4 := Aside0.mk hr0
 have E5 := Aside0.mk hc0
 clear hr0 hc0
 have p7 := Aside0.mk hr1
 have p8 := Aside0.mk hc1
 clear hr1 hc1
 have HB := Aside0.mk (Below.refl w.heap.size w)
 have H := h
 unfold laws_FnLaddersWhole.f at H
 clear h
 have HT_l := Aside0.mk ht
 clear ht
 replace H := Option.bind_eq_some_iff.mp H; obtain ⟨bs7, A30, H⟩ := H; (try dsimp only at H); have A3 := Aside0.mk A30; clear A30
 by_cases c4 : bs7 = true
 ·(
 subst c4
 rw [if_pos rfl] at H
 obtain rfl := Option.some.inj H
 go_enter Tryz.func3, Tryz.ntmps3
 repeat (go_not_at_region 40; first | (go_at_call 4; (with_reducible refine (laws_big.calls _ _ l0 _ _ l1 true _ ?side1 ?side2 ?side3 ?side4 A3.out).mono ?_); (case side1 => repeat (first | exact E4.out | (with_reducible refine Kd.C_alloc ?_ _) | (with_reducible refine Kd.C_drewN ?_ _) | (with_reducible refine Kd.C_drew ?_))); (case side2 => exact E5.out); (case side3 => repeat (first | exact p7.out | (with_reducible refine Kd.C_alloc ?_ _) | (with_reducible refine Kd.C_drewN ?_ _) | (with_reducible refine Kd.C_drew ?_))); (case side4 => exact p8.out); rintro e w' ⟨rfl, ⟨nd, rfl⟩⟩; dsimp only; (try first | exact ⟨rfl, _, World.drewN_drewN _ _ _⟩ | exact ⟨rfl, _, Eq.trans (World.drewN_drewN _ _ _) (congrArg (World.drewN _) (Nat.add_assoc _ _ _))⟩)) | (with_reducible refine rgl ?_) | go_skip | go_guarded | go_step | go_upon)
 repeat (go_quiet (first | (go_at_call 4; (with_reducible refine (laws_big.calls _ _ l0 _ _ l1 true _ ?side1 ?side2 ?side3 ?side4 A3.out).mono ?_); (case side1 => repeat (first | exact E4.out | (with_reducible refine Kd.C_alloc ?_ _) | (with_reducible refine Kd.C_drewN ?_ _) | (with_reducible refine Kd.C_drew ?_))); (case side2 => exact E5.out); (case side3 => repeat (first | exact p7.out | (with_reducible refine Kd.C_alloc ?_ _) | (with_reducible refine Kd.C_drewN ?_ _) | (with_reducible refine Kd.C_drew ?_))); (case side4 => exact p8.out); rintro e w' ⟨rfl, ⟨nd, rfl⟩⟩; dsimp only; (try first | exact ⟨rfl, _, World.drewN_drewN _ _ _⟩ | exact ⟨rfl, _, Eq.trans (World.drewN_drewN _ _ _) (congrArg (World.drewN _) (Nat.add_assoc _ _ _))⟩))); try go_wp2_with (first | (go_at_call 4; (with_reducible refine (laws_big.calls _ _ l0 _ _ l1 true _ ?side1 ?side2 ?side3 ?side4 A3.out).mono ?_); (case side1 => repeat (first | exact E4.out | (with_reducible refine Kd.C_alloc ?_ _) | (with_reducible refine Kd.C_drewN ?_ _) | (with_reducible refine Kd.C_drew ?_))); (case side2 => exact E5.out); (case side3 => repeat (first | exact p7.out | (with_reducible refine Kd.C_alloc ?_ _) | (with_reducible refine Kd.C_drewN ?_ _) | (with_reducible refine Kd.C_drew ?_))); (case side4 => exact p8.out); rintro e w' ⟨rfl, ⟨nd, rfl⟩⟩; dsimp only; (try first | exact ⟨rfl, _, World.drewN_drewN _ _ _⟩ | exact ⟨rfl, _, Eq.trans (World.drewN_drewN _ _ _) (congrArg (World.drewN _) (Nat.add_assoc _ _ _))⟩))))
 go_ret
 exact ⟨sE, bI⟩
 )
 replace c4 := Bool.eq_false_iff.mpr c4
 subst c4
 rw [if_neg nft] at H
 replace H := Option.bind_eq_some_iff.mp H; obtain ⟨⟨d2, d3, d4⟩, A50, H⟩ := H; (try dsimp only at H); have A5 := Aside0.mk A50; clear A50
 replace H := Option.bind_eq_some_iff.mp H; obtain ⟨⟨v9, x0, uz0⟩, A60, H⟩ := H; (try dsimp only at H); have A6 := Aside0.mk A60; clear A60
 replace H := Option.bind_eq_some_iff.mp H; obtain ⟨⟨a86, a87, a88⟩, A70, H⟩ := H; (try dsimp only at H); have A7 := Aside0.mk A70; clear A70
 replace H := Option.bind_eq_some_iff.mp H; obtain ⟨⟨uz1, uz2, x2⟩, A80, H⟩ := H; (try dsimp only at H); have A8 := Aside0.mk A80; clear A80
 replace H := Option.bind_eq_some_iff.mp H; obtain ⟨⟨a89, a90, a91⟩, A90, H⟩ := H; (try dsimp only at H); have A9 := Aside0.mk A90; clear A90
 replace H := Option.bind_eq_some_iff.mp H; obtain ⟨⟨x3, M1⟩, bg4, H⟩ := H; (try dsimp only at H); have A10 := Aside0.mk bg4; clear bg4
 replace H := Option.bind_eq_some_iff.mp H; obtain ⟨⟨a92, a93⟩, bg6, H⟩ := H; (try dsimp only at H); have A11 := Aside0.mk bg6; clear bg6
 have b72 := Aside0.mk H
 clear H
 go_enter Tryz.func3, Tryz.ntmps3
 go_upto_region 10 with (first | (go_at_call 4; (with_reducible refine (laws_big.calls _ _ l0 _ _ l1 false _ ?side1 ?side2 ?side3 ?side4 A3.out).mono ?_); (case side1 => repeat (first | exact E4.out | (with_reducible refine Kd.C_alloc ?_ _) | (with_reducible refine Kd.C_drewN ?_ _) | (with_reducible refine Kd.C_drew ?_))); (case side2 => exact E5.out); (case side3 => repeat (first | exact p7.out | (with_reducible refine Kd.C_alloc ?_ _) | (with_reducible refine Kd.C_drewN ?_ _) | (with_reducible refine Kd.C_drew ?_))); (case side4 => exact p8.out); rintro e w' ⟨rfl, ⟨nd, rfl⟩⟩; dsimp only; (try first | exact ⟨rfl, _, World.drewN_drewN _ _ _⟩ | exact ⟨rfl, _, Eq.trans (World.drewN_drewN _ _ _) (congrArg (World.drewN _) (Nat.add_assoc _ _ _))⟩)) | (go_at_call 5; (with_reducible refine (spec_DrawSquaresOf.calls _ _ l0 d2 d3 d4 _ ?side1 ?side2 A5.out).mono ?_); (case side1 => repeat (first | exact E4.out | (with_reducible refine Kd.C_alloc ?_ _) | (with_reducible refine Kd.C_drewN ?_ _) | (with_reducible refine Kd.C_drew ?_))); (case side2 => exact E5.out); rintro e w13 ⟨rfl, hb⟩; dsimp only; replace HB := Aside0.mk (below_step bB hb); (try clear hb)) | ((with_reducible refine gate_dst (N := 5) rfl ?_); (try (refine gate_guard (by rfl) ?_; dsimp only)); refine box_ (cs := #[.int .i64 0, .int .i64 0, .int .i64 0]) (t := 25) fun e0 hg w14 hbox hb => ?_; have a2 := Aside0.mk (hbox); have b94 := bS HB hg; have b95 := bS HB hg; replace HB := Aside0.mk (below_step bB hb); clear hb hbox hg; obtain ⟨F5, F6, F7, F8, F9, G0⟩ := cf3 a2) | (go_at_call 6; (with_reducible refine (impl_SquaresOf.calls d2 d3 d4 v9 x0 uz0 _ A6.out).mono ?_); rintro e w16 ⟨rfl, hb⟩; dsimp only; replace a2 := (bP (.cells #[.int .i64 d2, .int .i64 d3, .int .i64 d4] 25 (0, 0)) a2 hb); replace HB := Aside0.mk (below_step bB hb); (try clear hb); obtain ⟨G1, G2, G3, G4, G5, G6⟩ := cf3 a2) | (go_at_call 7; (with_reducible refine (spec_SquaresOf.calls d2 d3 d4 a86 a87 a88 _ A7.out).mono ?_); rintro e w18 ⟨rfl, hb⟩; dsimp only; replace a2 := bQ a2 hb; replace HB := Aside0.mk (below_step bB hb); (try clear hb); obtain ⟨G7, G8, G9, I0, I1, I2⟩ := cf3 a2) | (go_at_call 8; (with_reducible refine (impl_LengthsOf.calls k d2 d3 d4 uz1 uz2 x2 _ A8.out).mono ?_); rintro e w20 ⟨rfl, hb⟩; dsimp only; replace a2 := bQ a2 hb; replace HB := Aside0.mk (below_step bB hb); (try clear hb); obtain ⟨I3, I4, I5, I6, I7, I8⟩ := cf3 a2) | (go_at_call 9; (with_reducible refine (spec_LengthsOf.calls k d2 d3 d4 a89 a90 a91 _ A9.out).mono ?_); rintro e w22 ⟨rfl, hb⟩; dsimp only; replace a2 := bQ a2 hb; replace HB := Aside0.mk (below_step bB hb); (try clear hb); obtain ⟨I9, J0, J1, J2, J3, J4⟩ := cf3 a2) | (go_at_call 10; (with_reducible refine (impl_IsWholeCrossing.calls k d2 d3 d4 x3 M1 _ A10.out).mono ?_); rintro e w24 ⟨rfl, hb⟩; dsimp only; replace a2 := bQ a2 hb; replace HB := Aside0.mk (below_step bB hb); (try clear hb); obtain ⟨J5, J6, J7, J8, J9, K0⟩ := cf3 a2) | (go_at_call 11; (with_reducible refine (spec_IsWholeCrossing.calls k d2 d3 d4 a92 a93 _ A11.out).mono ?_); rintro e w26 ⟨rfl, hb⟩; dsimp only; replace a2 := bQ a2 hb; replace HB := Aside0.mk (below_step bB hb); (try clear hb)))
 repeat (go_quiet (first | (go_at_call 4; (with_reducible refine (laws_big.calls _ _ l0 _ _ l1 false _ ?side1 ?side2 ?side3 ?side4 A3.out).mono ?_); (case side1 => repeat (first | exact E4.out | (with_reducible refine Kd.C_alloc ?_ _) | (with_reducible refine Kd.C_drewN ?_ _) | (with_reducible refine Kd.C_drew ?_))); (case side2 => exact E5.out); (case side3 => repeat (first | exact p7.out | (with_reducible refine Kd.C_alloc ?_ _) | (with_reducible refine Kd.C_drewN ?_ _) | (with_reducible refine Kd.C_drew ?_))); (case side4 => exact p8.out); rintro e w' ⟨rfl, ⟨nd, rfl⟩⟩; dsimp only; (try first | exact ⟨rfl, _, World.drewN_drewN _ _ _⟩ | exact ⟨rfl, _, Eq.trans (World.drewN_drewN _ _ _) (congrArg (World.drewN _) (Nat.add_assoc _ _ _))⟩)) | (go_at_call 5; (with_reducible refine (spec_DrawSquaresOf.calls _ _ l0 d2 d3 d4 _ ?side1 ?side2 A5.out).mono ?_); (case side1 => repeat (first | exact E4.out | (with_reducible refine Kd.C_alloc ?_ _) | (with_reducible refine Kd.C_drewN ?_ _) | (with_reducible refine Kd.C_drew ?_))); (case side2 => exact E5.out); rintro e w13 ⟨rfl, hb⟩; dsimp only; replace HB := Aside0.mk (below_step bB hb); (try clear hb)) | ((with_reducible refine gate_dst (N := 5) rfl ?_); (try (refine gate_guard (by rfl) ?_; dsimp only)); refine box_ (cs := #[.int .i64 0, .int .i64 0, .int .i64 0]) (t := 25) fun e0 hg w14 hbox hb => ?_; have a2 := Aside0.mk (hbox); have b94 := bS HB hg; have b95 := bS HB hg; replace HB := Aside0.mk (below_step bB hb); clear hb hbox hg; obtain ⟨F5, F6, F7, F8, F9, G0⟩ := cf3 a2) | (go_at_call 6; (with_reducible refine (impl_SquaresOf.calls d2 d3 d4 v9 x0 uz0 _ A6.out).mono ?_); rintro e w16 ⟨rfl, hb⟩; dsimp only; replace a2 := (bP (.cells #[.int .i64 d2, .int .i64 d3, .int .i64 d4] 25 (0, 0)) a2 hb); replace HB := Aside0.mk (below_step bB hb); (try clear hb); obtain ⟨G1, G2, G3, G4, G5, G6⟩ := cf3 a2) | (go_at_call 7; (with_reducible refine (spec_SquaresOf.calls d2 d3 d4 a86 a87 a88 _ A7.out).mono ?_); rintro e w18 ⟨rfl, hb⟩; dsimp only; replace a2 := bQ a2 hb; replace HB := Aside0.mk (below_step bB hb); (try clear hb); obtain ⟨G7, G8, G9, I0, I1, I2⟩ := cf3 a2) | (go_at_call 8; (with_reducible refine (impl_LengthsOf.calls k d2 d3 d4 uz1 uz2 x2 _ A8.out).mono ?_); rintro e w20 ⟨rfl, hb⟩; dsimp only; replace a2 := bQ a2 hb; replace HB := Aside0.mk (below_step bB hb); (try clear hb); obtain ⟨I3, I4, I5, I6, I7, I8⟩ := cf3 a2) | (go_at_call 9; (with_reducible refine (spec_LengthsOf.calls k d2 d3 d4 a89 a90 a91 _ A9.out).mono ?_); rintro e w22 ⟨rfl, hb⟩; dsimp only; replace a2 := bQ a2 hb; replace HB := Aside0.mk (below_step bB hb); (try clear hb); obtain ⟨I9, J0, J1, J2, J3, J4⟩ := cf3 a2) | (go_at_call 10; (with_reducible refine (impl_IsWholeCrossing.calls k d2 d3 d4 x3 M1 _ A10.out).mono ?_); rintro e w24 ⟨rfl, hb⟩; dsimp only; replace a2 := bQ a2 hb; replace HB := Aside0.mk (below_step bB hb); (try clear hb); obtain ⟨J5, J6, J7, J8, J9, K0⟩ := cf3 a2) | (go_at_call 11; (with_reducible refine (spec_IsWholeCrossing.calls k d2 d3 d4 a92 a93 _ A11.out).mono ?_); rintro e w26 ⟨rfl, hb⟩; dsimp only; replace a2 := bQ a2 hb; replace HB := Aside0.mk (below_step bB hb); (try clear hb))); go_upto_region 10 with (first | (go_at_call 4; (with_reducible refine (laws_big.calls _ _ l0 _ _ l1 false _ ?side1 ?side2 ?side3 ?side4 A3.out).mono ?_); (case side1 => repeat (first | exact E4.out | (with_reducible refine Kd.C_alloc ?_ _) | (with_reducible refine Kd.C_drewN ?_ _) | (with_reducible refine Kd.C_drew ?_))); (case side2 => exact E5.out); (case side3 => repeat (first | exact p7.out | (with_reducible refine Kd.C_alloc ?_ _) | (with_reducible refine Kd.C_drewN ?_ _) | (with_reducible refine Kd.C_drew ?_))); (case side4 => exact p8.out); rintro e w' ⟨rfl, ⟨nd, rfl⟩⟩; dsimp only; (try first | exact ⟨rfl, _, World.drewN_drewN _ _ _⟩ | exact ⟨rfl, _, Eq.trans (World.drewN_drewN _ _ _) (congrArg (World.drewN _) (Nat.add_assoc _ _ _))⟩)) | (go_at_call 5; (with_reducible refine (spec_DrawSquaresOf.calls _ _ l0 d2 d3 d4 _ ?side1 ?side2 A5.out).mono ?_); (case side1 => repeat (first | exact E4.out | (with_reducible refine Kd.C_alloc ?_ _) | (with_reducible refine Kd.C_drewN ?_ _) | (with_reducible refine Kd.C_drew ?_))); (case side2 => exact E5.out); rintro e w13 ⟨rfl, hb⟩; dsimp only; replace HB := Aside0.mk (below_step bB hb); (try clear hb)) | ((with_reducible refine gate_dst (N := 5) rfl ?_); (try (refine gate_guard (by rfl) ?_; dsimp only)); refine box_ (cs := #[.int .i64 0, .int .i64 0, .int .i64 0]) (t := 25) fun e0 hg w14 hbox hb => ?_; have a2 := Aside0.mk (hbox); have b94 := bS HB hg; have b95 := bS HB hg; replace HB := Aside0.mk (below_step bB hb); clear hb hbox hg; obtain ⟨F5, F6, F7, F8, F9, G0⟩ := cf3 a2) | (go_at_call 6; (with_reducible refine (impl_SquaresOf.calls d2 d3 d4 v9 x0 uz0 _ A6.out).mono ?_); rintro e w16 ⟨rfl, hb⟩; dsimp only; replace a2 := (bP (.cells #[.int .i64 d2, .int .i64 d3, .int .i64 d4] 25 (0, 0)) a2 hb); replace HB := Aside0.mk (below_step bB hb); (try clear hb); obtain ⟨G1, G2, G3, G4, G5, G6⟩ := cf3 a2) | (go_at_call 7; (with_reducible refine (spec_SquaresOf.calls d2 d3 d4 a86 a87 a88 _ A7.out).mono ?_); rintro e w18 ⟨rfl, hb⟩; dsimp only; replace a2 := bQ a2 hb; replace HB := Aside0.mk (below_step bB hb); (try clear hb); obtain ⟨G7, G8, G9, I0, I1, I2⟩ := cf3 a2) | (go_at_call 8; (with_reducible refine (impl_LengthsOf.calls k d2 d3 d4 uz1 uz2 x2 _ A8.out).mono ?_); rintro e w20 ⟨rfl, hb⟩; dsimp only; replace a2 := bQ a2 hb; replace HB := Aside0.mk (below_step bB hb); (try clear hb); obtain ⟨I3, I4, I5, I6, I7, I8⟩ := cf3 a2) | (go_at_call 9; (with_reducible refine (spec_LengthsOf.calls k d2 d3 d4 a89 a90 a91 _ A9.out).mono ?_); rintro e w22 ⟨rfl, hb⟩; dsimp only; replace a2 := bQ a2 hb; replace HB := Aside0.mk (below_step bB hb); (try clear hb); obtain ⟨I9, J0, J1, J2, J3, J4⟩ := cf3 a2) | (go_at_call 10; (with_reducible refine (impl_IsWholeCrossing.calls k d2 d3 d4 x3 M1 _ A10.out).mono ?_); rintro e w24 ⟨rfl, hb⟩; dsimp only; replace a2 := bQ a2 hb; replace HB := Aside0.mk (below_step bB hb); (try clear hb); obtain ⟨J5, J6, J7, J8, J9, K0⟩ := cf3 a2) | (go_at_call 11; (with_reducible refine (spec_IsWholeCrossing.calls k d2 d3 d4 a92 a93 _ A11.out).mono ?_); rintro e w26 ⟨rfl, hb⟩; dsimp only; replace a2 := bQ a2 hb; replace HB := Aside0.mk (below_step bB hb); (try clear hb))))
 (try simp only [Act.put, List.setIfInBounds_toArray, List.set_cons_zero, List.set_cons_succ])
 go_cut [177] from 177 to 177 (fun bs8 wc => ∃ (kq : Nat) (v3 : Bool), bs8 = .bool v3 ∧ Aside0 (laws_FnLaddersWhole.j0 kq l1 v9 x0 uz0 uz1 uz2 x2 x3 v3 d2 d3 d4 = some r) ∧ Aside0 (kq ≤ k) ∧ Aside0 (wc.heap[e0]? = some (.cells #[.int .i64 d2, .int .i64 d3, .int .i64 d4] 25 (0, 0))) ∧ Aside0 (Below w.heap.size w wc))
 case first => (
 as_aux_lemma => (
 have H := b72.out
 clear b72
 by_cases c27 : (uz0 != a88) = true
 ·(
 rw [if_pos c27] at H
 exact absurd H (by cases k <;> simp [laws_FnLaddersWhole.j0, HT_l.out])
 )
 rw [if_neg c27] at H
 obtain ⟨b97, ca3, ca4⟩ := nf c27
 clear c27
 (first | rw [b97] | (simp only [i64_w, i32_w]; rw [b97]) | skip)
 by_cases c28 : v9 = a86
 ·(
 rw [if_pos c28] at H
 obtain ⟨ca5, ca6⟩ := yE c28
 clear c28
 by_cases c29 : x0 = a87
 ·(
 rw [if_pos c29] at H
 obtain ⟨ca7, ca8⟩ := yE c29
 clear c29
 by_cases c30 : (x2 != a91) = true
 ·(
 rw [if_pos c30] at H
 exact absurd H (by cases k <;> simp [laws_FnLaddersWhole.j0, HT_l.out])
 )
 rw [if_neg c30] at H
 obtain ⟨ca9, cb0, cb1⟩ := nf c30
 clear c30
 by_cases c31 : uz1 = a89
 ·(
 rw [if_pos c31] at H
 obtain ⟨cb2, cb3⟩ := yE c31
 clear c31
 by_cases c32 : uz2 = a90
 ·(
 rw [if_pos c32] at H
 obtain ⟨cb4, cb5⟩ := yE c32
 clear c32
 by_cases c33 : (M1 != a93) = true
 ·(
 rw [if_pos c33] at H
 exact absurd H (by cases k <;> simp [laws_FnLaddersWhole.j0, HT_l.out])
 )
 rw [if_neg c33] at H
 obtain ⟨cb6, cb7, cb8⟩ := nf c33
 clear c33
 by_cases c34 : (x3 != a92) = true
 ·(
 rw [if_pos c34] at H
 exact absurd H (by cases k <;> simp [laws_FnLaddersWhole.j0, HT_l.out])
 )
 rw [if_neg c34] at H
 obtain ⟨cb9, cc0, cc1⟩ := nf c34
 clear c34
 replace H := Option.bind_eq_some_iff.mp H; obtain ⟨x4, bg8, H⟩ := H; (try dsimp only at H); have A35 := Aside0.mk bg8; clear bg8
 by_cases c36 : (uz0 != x4) = true
 ·(
 rw [if_pos c36] at H
 exact absurd H (by cases k <;> simp [laws_FnLaddersWhole.j0, HT_l.out])
 )
 rw [if_neg c36] at H
 obtain ⟨cc2, cc3, cc4⟩ := nf c36
 clear c36
 by_cases c37 : (M1 != uz0) = true
 ·(
 rw [if_pos c37] at H
 exact absurd H (by cases k <;> simp [laws_FnLaddersWhole.j0, HT_l.out])
 )
 rw [if_neg c37] at H
 obtain ⟨cc5, cc6, cc7⟩ := nf c37
 clear c37
 by_cases c38 : x2 = true
 ·(
 subst c38
 rw [if_pos rfl] at H
 have H' := Aside0.mk H
 clear H
 obtain ⟨bv9, bw0, bw1, bw2, bw3, bw4⟩ := cf3 a2
 repeat (go_not_at_region 40; first | (go_at_call 12; (with_reducible refine (impl_AreLadders.calls d2 d3 d4 x4 _ A35.out).mono ?_); rintro e w40 ⟨rfl, hb⟩; dsimp only; replace a2 := bQ a2 hb; replace HB := Aside0.mk (below_step bB hb); (try clear hb)) | (with_reducible refine rgl ?_) | go_skip | go_guarded | go_step | go_upon)
 repeat (go_quiet (first | (go_at_call 12; (with_reducible refine (impl_AreLadders.calls d2 d3 d4 x4 _ A35.out).mono ?_); rintro e w40 ⟨rfl, hb⟩; dsimp only; replace a2 := bQ a2 hb; replace HB := Aside0.mk (below_step bB hb); (try clear hb))); try go_wp2_with (first | (go_at_call 12; (with_reducible refine (impl_AreLadders.calls d2 d3 d4 x4 _ A35.out).mono ?_); rintro e w40 ⟨rfl, hb⟩; dsimp only; replace a2 := bQ a2 hb; replace HB := Aside0.mk (below_step bB hb); (try clear hb))))
 go_meet
 case rel => exact ⟨_, (!uz0), sR, H', ⟨by first | exact Nat.le_refl _ | omega⟩, (bA a2), ⟨bB⟩⟩
 )
 replace c38 := Bool.eq_false_iff.mpr c38
 subst c38
 rw [if_neg nft] at H
 have H' := Aside0.mk H
 clear H
 obtain ⟨bw5, bw6, bw7, bw8, bw9, bx0⟩ := cf3 a2
 repeat (go_not_at_region 40; first | (go_at_call 12; (with_reducible refine (impl_AreLadders.calls d2 d3 d4 x4 _ A35.out).mono ?_); rintro e w42 ⟨rfl, hb⟩; dsimp only; replace a2 := bQ a2 hb; replace HB := Aside0.mk (below_step bB hb); (try clear hb)) | (with_reducible refine rgl ?_) | go_skip | go_guarded | go_step | go_upon)
 repeat (go_quiet (first | (go_at_call 12; (with_reducible refine (impl_AreLadders.calls d2 d3 d4 x4 _ A35.out).mono ?_); rintro e w42 ⟨rfl, hb⟩; dsimp only; replace a2 := bQ a2 hb; replace HB := Aside0.mk (below_step bB hb); (try clear hb))); try go_wp2_with (first | (go_at_call 12; (with_reducible refine (impl_AreLadders.calls d2 d3 d4 x4 _ A35.out).mono ?_); rintro e w42 ⟨rfl, hb⟩; dsimp only; replace a2 := bQ a2 hb; replace HB := Aside0.mk (below_step bB hb); (try clear hb))))
 go_meet
 case rel => exact ⟨_, (false), sR, H', ⟨by first | exact Nat.le_refl _ | omega⟩, (bA a2), ⟨bB⟩⟩
 )
 rw [if_neg c32] at H
 exact absurd H (by cases k <;> simp [laws_FnLaddersWhole.j0, HT_l.out])
 )
 rw [if_neg c31] at H
 exact absurd H (by cases k <;> simp [laws_FnLaddersWhole.j0, HT_l.out])
 )
 rw [if_neg c29] at H
 exact absurd H (by cases k <;> simp [laws_FnLaddersWhole.j0, HT_l.out])
 )
 rw [if_neg c28] at H
 exact absurd H (by cases k <;> simp [laws_FnLaddersWhole.j0, HT_l.out])
 )
 )
 clear b72
 try clear F5
 try clear F6
 try clear F7
 try clear G1
 try clear G2
 try clear G3
 try clear G7
 try clear G8
 try clear G9
 try clear I3
 try clear I4
 try clear I5
 try clear I9
 try clear J0
 try clear J1
 try clear J5
 try clear J6
 try clear J7
 try clear F8
 try clear F9
 try clear G0
 try clear G4
 try clear G5
 try clear G6
 try clear I0
 try clear I1
 try clear I2
 try clear I6
 try clear I7
 try clear I8
 try clear J2
 try clear J3
 try clear J4
 try clear J8
 try clear J9
 try clear K0
 obtain ⟨kq, v3, rfl, HA, HJ11, a2, HB⟩ := hcut
 (try clear F5); (try clear F6); (try clear F7); (try clear F8); (try clear F9); (try clear G0); (try clear G1); (try clear G2); (try clear G3); (try clear G4); (try clear G5); (try clear G6); (try clear G7); (try clear G8); (try clear G9); (try clear I0); (try clear I1); (try clear I2); (try clear I3); (try clear I4); (try clear I5); (try clear I6); (try clear I7); (try clear I8); (try clear I9); (try clear J0); (try clear J1); (try clear J2); (try clear J3); (try clear J4); (try clear J5); (try clear J6); (try clear J7); (try clear J8); (try clear J9); (try clear K0)
 cases kq with
 | zero => exact absurd HA.out (by simp [laws_FnLaddersWhole.j0])
 | succ x5 => (
 as_aux_lemma => (
 have H := HA.out
 clear HA
 simp only [laws_FnLaddersWhole.j0] at H
 by_cases c43 : v3 = true
 ·(
 subst c43
 rw [if_pos rfl] at H
 exact fy HT_l H
 )
 replace c43 := Bool.eq_false_iff.mpr c43
 subst c43
 rw [if_neg nft] at H
 have b73 := Aside0.mk H
 clear H
 repeat (go_not_at_if 178; first | (with_reducible refine rgl ?_) | go_skip | go_guarded | go_step | go_upon)
 repeat (go_quiet (fail); go_upto_if 178 with (fail))
 go_cut [] from 0 to 0 (fun wc => ∃ (kq : Nat), Aside0 (laws_FnLaddersWhole.j1 kq l1 = some r) ∧ Aside0 (kq ≤ x5) ∧ Aside0 (wc.heap[e0]? = some (.cells #[.int .i64 d2, .int .i64 d3, .int .i64 d4] 25 (0, 0))) ∧ Aside0 (Below w.heap.size w wc))
 case first => (
 as_aux_lemma => (
 have H := b73.out
 clear b73
 by_cases c45 : uz0 = true
 ·(
 subst c45
 rw [if_pos rfl] at H
 replace H := Option.bind_eq_some_iff.mp H; obtain ⟨⟨r7, x9, bg9⟩, bh0, H⟩ := H; (try dsimp only at H); have A46 := Aside0.mk bh0; clear bh0
 by_cases c47 : v9 = (wrap64 ((wrap64 (d2 * d2)) + (wrap64 (d3 * d3))))
 ·(
 rw [if_pos c47] at H
 obtain ⟨bb1, cc8⟩ := yE c47
 clear c47
 (first | rw [bb1] | (simp only [i64_w, i32_w]; rw [bb1]) | skip)
 by_cases c48 : x0 = (wrap64 ((wrap64 (d2 * d2)) + (wrap64 (d4 * d4))))
 ·(
 rw [if_pos c48] at H
 obtain ⟨cc9, cd0⟩ := yE c48
 clear c48
 by_cases c49 : x2 = true
 ·(
 subst c49
 rw [if_pos rfl] at H
 by_cases c50 : (wrap64 (uz1 * uz1)) = v9
 ·(
 rw [if_pos c50] at H
 obtain ⟨cd1, cd2⟩ := yE c50
 clear c50
 by_cases c51 : (wrap64 (uz2 * uz2)) = x0
 ·(
 rw [if_pos c51] at H
 obtain ⟨cd3, cd4⟩ := yE c51
 clear c51
 by_cases c52 : uz1 ≤ d2
 ·(
 rw [if_pos c52] at H
 exact fy HT_l H
 )
 rw [if_neg c52] at H
 have cd5 : decide (uz1 ≤ d2) = false := decide_eq_false c52
 clear c52
 by_cases c53 : uz2 ≤ d2
 ·(
 rw [if_pos c53] at H
 exact fy HT_l H
 )
 rw [if_neg c53] at H
 have cd6 : decide (uz2 ≤ d2) = false := decide_eq_false c53
 clear c53
 by_cases c54 : bg9 = true
 ·(
 subst c54
 rw [if_pos rfl] at H
 by_cases c55 : r7 < 1
 ·(
 rw [if_pos c55] at H
 exact fy HT_l H
 )
 rw [if_neg c55] at H
 have cd7 : decide (r7 < 1) = false := decide_eq_false c55
 clear c55
 by_cases c56 : (x3 != (x9 == 1)) = true
 ·(
 rw [if_pos c56] at H
 exact fy HT_l H
 )
 rw [if_neg c56] at H
 obtain ⟨cd8, cd9, ce0⟩ := nf c56
 clear c56
 have H' := Aside0.mk H
 clear H
 obtain ⟨bx1, bx2, bx3, bx4, bx5, bx6⟩ := cf3 a2
 repeat (go_not_at_region 40; first | (go_at_call 13; (with_reducible refine (impl_CrossHeight.calls x5 d2 d3 d4 r7 x9 true _ A46.out).mono ?_); rintro e w58 ⟨rfl, hb⟩; dsimp only; replace a2 := bQ a2 hb; replace HB := Aside0.mk (below_step bB hb); (try clear hb); obtain ⟨a67, a68, a69, a70, a71, a72⟩ := cf3 a2) | (with_reducible refine rgl ?_) | go_skip | go_guarded | go_step | go_upon)
 repeat (go_quiet (first | (go_at_call 13; (with_reducible refine (impl_CrossHeight.calls x5 d2 d3 d4 r7 x9 true _ A46.out).mono ?_); rintro e w58 ⟨rfl, hb⟩; dsimp only; replace a2 := bQ a2 hb; replace HB := Aside0.mk (below_step bB hb); (try clear hb); obtain ⟨a67, a68, a69, a70, a71, a72⟩ := cf3 a2)); try go_wp2_with (first | (go_at_call 13; (with_reducible refine (impl_CrossHeight.calls x5 d2 d3 d4 r7 x9 true _ A46.out).mono ?_); rintro e w58 ⟨rfl, hb⟩; dsimp only; replace a2 := bQ a2 hb; replace HB := Aside0.mk (below_step bB hb); (try clear hb); obtain ⟨a67, a68, a69, a70, a71, a72⟩ := cf3 a2)))
 go_meet
 case rel => exact ⟨_, H', ⟨laws_FnLaddersWhole.jx⟩, (bA a2), ⟨bB⟩⟩
 )
 replace c54 := Bool.eq_false_iff.mpr c54
 subst c54
 rw [if_neg nft] at H
 exact fy HT_l H
 )
 rw [if_neg c51] at H
 exact fy HT_l H
 )
 rw [if_neg c50] at H
 exact fy HT_l H
 )
 replace c49 := Bool.eq_false_iff.mpr c49
 subst c49
 rw [if_neg nft] at H
 by_cases c60 : bg9 = true
 ·(
 subst c60
 rw [if_pos rfl] at H
 by_cases c61 : r7 < 1
 ·(
 rw [if_pos c61] at H
 exact fy HT_l H
 )
 rw [if_neg c61] at H
 have ce1 : decide (r7 < 1) = false := decide_eq_false c61
 clear c61
 by_cases c62 : (x3 != false) = true
 ·(
 rw [if_pos c62] at H
 exact fy HT_l H
 )
 rw [if_neg c62] at H
 obtain ⟨ce2, ce3, ce4⟩ := nf c62
 clear c62
 have H' := Aside0.mk H
 clear H
 obtain ⟨bx7, bx8, bx9, by0, by1, by2⟩ := cf3 a2
 repeat (go_not_at_region 40; first | (go_at_call 13; (with_reducible refine (impl_CrossHeight.calls x5 d2 d3 d4 r7 x9 true _ A46.out).mono ?_); rintro e w64 ⟨rfl, hb⟩; dsimp only; replace a2 := bQ a2 hb; replace HB := Aside0.mk (below_step bB hb); (try clear hb); obtain ⟨a73, a74, a75, a76, a77, a78⟩ := cf3 a2) | (with_reducible refine rgl ?_) | go_skip | go_guarded | go_step | go_upon)
 repeat (go_quiet (first | (go_at_call 13; (with_reducible refine (impl_CrossHeight.calls x5 d2 d3 d4 r7 x9 true _ A46.out).mono ?_); rintro e w64 ⟨rfl, hb⟩; dsimp only; replace a2 := bQ a2 hb; replace HB := Aside0.mk (below_step bB hb); (try clear hb); obtain ⟨a73, a74, a75, a76, a77, a78⟩ := cf3 a2)); try go_wp2_with (first | (go_at_call 13; (with_reducible refine (impl_CrossHeight.calls x5 d2 d3 d4 r7 x9 true _ A46.out).mono ?_); rintro e w64 ⟨rfl, hb⟩; dsimp only; replace a2 := bQ a2 hb; replace HB := Aside0.mk (below_step bB hb); (try clear hb); obtain ⟨a73, a74, a75, a76, a77, a78⟩ := cf3 a2)))
 go_meet
 case rel => exact ⟨_, H', ⟨laws_FnLaddersWhole.jx⟩, (bA a2), ⟨bB⟩⟩
 )
 replace c60 := Bool.eq_false_iff.mpr c60
 subst c60
 rw [if_neg nft] at H
 exact fy HT_l H
 )
 rw [if_neg c48] at H
 exact fy HT_l H
 )
 rw [if_neg c47] at H
 exact fy HT_l H
 )
 replace c45 := Bool.eq_false_iff.mpr c45
 subst c45
 rw [if_neg nft] at H
 have H' := Aside0.mk H
 clear H
 repeat (go_not_at_region 40; first | (with_reducible refine rgl ?_) | go_skip | go_guarded | go_step | go_upon)
 repeat (go_quiet (fail); try go_wp2)
 go_meet
 case rel => exact ⟨_, H', ⟨laws_FnLaddersWhole.jx⟩, (bA a2), ⟨bB⟩⟩
 )
 )
 clear b73
 obtain ⟨kq, HA, HJ43, a2, HB⟩ := hcut
 rename_i K_ aK_
 exact aK_ _ _ (hR_ k A0 c0 l0 A1 c1 l1 r w d2 d3 d4 v9 x0 uz0 a86 a87 a88 uz1 uz2 x2 a89 a90 a91 x3 M1 a92 a93 e0 u122 u123 u124 u125 u126 u127 u128 u129 u130 u131 u132 u133 u134 u135 u136 u137 u138 u139 u140 u141 u142 u143 u144 u145 u146 u147 u148 u149 u150 u151 u152 u153 u154 u155 u156 u157 u158 u159 u160 u161 u162 u163 u164 u165 u166 u167 u168 u169 u170 u171 u172 u173 u174 u175 u176 x5 wc u0 u4 u22 u23 u24 u179 u180 u181 u182 u183 u184 u185 u186 u187 u188 u189 u190 u191 u192 u193 u194 u195 u196 u197 u198 u199 u200 u201 u202 u203 u204 u205 u206 u207 u208 u209 u210 u211 u212 u213 u214 u215 u216 u217 u218 u219 u220 u221 u222 u223 u224 u225 u226 u227 u228 u229 u230 u231 u232 u233 u234 u235 u236 u237 u238 u239 u240 u241 u242 u243 u244 u245 u246 u247 u248 u249 u250 u251 u252 u253 u254 u255 u256 u257 u258 kq HM E4 E5 p7 p8 HT_l A3 A5 A6 A7 A8 A9 A10 A11 b94 b95 HJ11 HA HJ43 a2 HB)
 )
 )
end Go.Proofs.YtcfknhmdhglmfaaGreatDoor.PFnLaddersWhole
