-- Written by programs of this session (xprint.py, squeeze.py): the walk of the law.
import Derived.Test.YtnmhefdjakjngaaGreatDoorVM
import Derived.Test.YtnmhefdjakjngaaGreatDoorVF
import Derived.Test.YtnmhefdjakjngaaGreatDoorPFnMirrorsFacex0
import Derived.Test.YtnmhefdjakjngaaGreatDoorPFnMirrorsFacex1
import Derived.Test.YtnmhefdjakjngaaGreatDoorPFnMirrorsFacex2
import Derived.Test.YtnmhefdjakjngaaGreatDoorPFnMirrorsFacex3
import Derived.Test.YtnmhefdjakjngaaGreatDoorPFnMirrorsFacex4
import Derived.Test.YtnmhefdjakjngaaGreatDoorPFnMirrorsFacex5
import Derived.Test.YtnmhefdjakjngaaGreatDoorPFnMirrorsFacex7
import Derived.Test.YtnmhefdjakjngaaGreatDoorPFnMirrorsFacex8
import Derived.Test.YtnmhefdjakjngaaGreatDoorPFnMirrorsFacex9
import Derived.Test.YtnmhefdjakjngaaGreatDoorPFnMirrorsFacex10
import Derived.Test.YtnmhefdjakjngaaGreatDoorPFnMirrorsFacex11
import Derived.Test.YtnmhefdjakjngaaGreatDoorPFnMirrorsFacex12
import Derived.Test.YtnmhefdjakjngaaGreatDoorPFnMirrorsFacex13
namespace Go.Proofs.YtnmhefdjakjngaaGreatDoor.PFnMirrorsFace
open Go.Proofs.YtnmhefdjakjngaaGreatDoorV Go.RowKit Go.Proofs.YtnmhefdjakjngaaGreatDoorW.PrintWords Go.Proofs.YtnmhefdjakjngaaGreatDoorW.PrintLast Go.Proofs.YtnmhefdjakjngaaGreatDoorW.PrintMore
attribute [local go_sem] max2_int min2_int max_two min_two max_three min_three max_four min_four   -- for this text's walks alone
attribute [local go_sem ↓] rdl_zero rdl_succ eval_lit
set_option linter.unusedVariables false
set_option linter.unusedSimpArgs false
theorem zz_bools (l : List UInt8) (y : Bool) (h : ((l == ([] : List UInt8)) != y) = false) : (!(l.isEmpty == y)) = false := by cases l <;> cases y <;> simp_all
set_option maxHeartbeats 100000000 in
set_option maxRecDepth 100000 in
theorem laws_FnMirrorsFace.calls (k : Nat) (A0 : Option Addr) (c0 : Nat) (l0 : List Int) (A1 : Option Addr) (c1 : Nat) (l1 : List Int) (r : Bool) (w : World) (hr0 : Kd.C (Kd.int .u8) w A0 l0.length l0) (hc0 : l0.length ≤ c0) (hr1 : Kd.C (Kd.int .u8) w A1 l1.length l1) (hc1 : l1.length ≤ c1) (h : laws_FnMirrorsFace.f k l0 l1 = some r) (ht : r = true) (hw_ : PtW w) :
    Calls Tryz.prog 3 #[.slice A0 l0.length c0, .slice A1 l1.length c1] w fun e w' => e = .returned (.bool r) ∧ Below w.heap.size w w' := by
 have HM := Aside0.mk hw_
 clear hw_
 have C2 := Aside0.mk hr0
 have C3 := Aside0.mk hc0
 clear hr0 hc0
 have h9 := Aside0.mk hr1
 have i0 := Aside0.mk hc1
 clear hr1 hc1
 have HB := Aside0.mk (Below.refl w.heap.size w)
 have H := h
 unfold laws_FnMirrorsFace.f at H
 clear h
 have HT_l := Aside0.mk ht
 clear ht
 replace H := Option.bind_eq_some_iff.mp H; obtain ⟨N4, N0, H⟩ := H; (try dsimp only at H); have A3 := Aside0.mk N0; clear N0
 by_cases c4 : N4 = true
 ·(
 subst c4
 rw [if_pos rfl] at H
 obtain rfl := Option.some.inj H
 go_enter Tryz.func3, Tryz.ntmps3
 repeat (go_not_at_region 9999; first | ((with_reducible refine gate_callee (f := 4) rfl ?_); refine goesL_ (some 94) rfl rfl Tryz.func4 kr rfl #[.slice A0 l0.length c0, .slice A1 l1.length c1] rfl sM ?_; (with_reducible refine (laws_big.calls _ _ l0 _ _ l1 true _ ?side1 ?side2 ?side3 ?side4 A3.out).mono ?_); (case side1 => repeat (first | exact C2.out | (with_reducible refine Kd.C_alloc ?_ _) | (with_reducible refine Kd.C_drewN ?_ _) | (with_reducible refine Kd.C_drew ?_))); (case side2 => exact C3.out); (case side3 => repeat (first | exact h9.out | (with_reducible refine Kd.C_alloc ?_ _) | (with_reducible refine Kd.C_drewN ?_ _) | (with_reducible refine Kd.C_drew ?_))); (case side4 => exact i0.out); rintro e w' ⟨rfl, ⟨nd, rfl⟩⟩; refine ⟨_, rfl, ?_⟩) | (with_reducible refine rgl ?_) | go_skip | go_guarded | go_step | go_upon)
 go_ret
 exact ⟨sE, bI⟩
 )
 replace c4 := Bool.eq_false_iff.mpr c4
 subst c4
 rw [if_neg nft] at H
 replace H := Option.bind_eq_some_iff.mp H; obtain ⟨⟨d5, d6, c3⟩, v3, H⟩ := H; (try dsimp only at H); have A5 := Aside0.mk v3; clear v3
 replace H := Option.bind_eq_some_iff.mp H; obtain ⟨⟨b2, l7⟩, v4, H⟩ := H; (try dsimp only at H); have A6 := Aside0.mk v4; clear v4
 replace H := Option.bind_eq_some_iff.mp H; obtain ⟨⟨C4, C5⟩, N1, H⟩ := H; (try dsimp only at H); have A7 := Aside0.mk N1; clear N1
 have C6 := Aside0.mk H
 clear H
 go_enter Tryz.func3, Tryz.ntmps3
 go_upto_region 6 with (first | ((with_reducible refine gate_callee (f := 4) rfl ?_); refine goesL_ (some 94) rfl rfl Tryz.func4 kr rfl #[.slice A0 l0.length c0, .slice A1 l1.length c1] rfl sM ?_; (with_reducible refine (laws_big.calls _ _ l0 _ _ l1 false _ ?side1 ?side2 ?side3 ?side4 A3.out).mono ?_); (case side1 => repeat (first | exact C2.out | (with_reducible refine Kd.C_alloc ?_ _) | (with_reducible refine Kd.C_drewN ?_ _) | (with_reducible refine Kd.C_drew ?_))); (case side2 => exact C3.out); (case side3 => repeat (first | exact h9.out | (with_reducible refine Kd.C_alloc ?_ _) | (with_reducible refine Kd.C_drewN ?_ _) | (with_reducible refine Kd.C_drew ?_))); (case side4 => exact i0.out); rintro e w' ⟨rfl, ⟨nd, rfl⟩⟩; refine ⟨_, rfl, ?_⟩) | ((with_reducible refine gate_callee (f := 5) rfl ?_); refine goesL_ (some 97) rfl rfl Tryz.func5 kr rfl #[.slice A0 l0.length c0] rfl sM ?_; (with_reducible refine (spec_DrawImagesUpTo.calls _ _ l0 d5 d6 c3 _ ?side1 ?side2 A5.out).mono ?_); (case side1 => repeat (first | exact C2.out | (with_reducible refine Kd.C_alloc ?_ _) | (with_reducible refine Kd.C_drewN ?_ _) | (with_reducible refine Kd.C_drew ?_))); (case side2 => exact C3.out); rintro e w9 ⟨rfl, hb⟩; refine ⟨_, rfl, ?_⟩; replace HB := Aside0.mk (below_step bB hb); (try clear hb)) | ((with_reducible refine gate_callee (f := 6) rfl ?_); refine goesL_ (some 105) rfl rfl Tryz.func6 kr rfl #[.int .i64 d5, .int .i64 d6, .int .i64 c3] rfl sM ?_; (with_reducible refine (impl_ImagesUpTo.calls k d5 d6 c3 b2 l7 _ A6.out).mono ?_); rintro e w10 ⟨C7, rfl, b7, hb⟩; refine ⟨_, rfl, ?_⟩; have g0 := Aside0.mk (Kd.R_lower b7 (below_size bB)); replace HB := Aside0.mk (below_step bB hb); (try clear hb); (try clear b7)) | ((with_reducible refine gate_callee (f := 7) rfl ?_); refine goesL_ (some 112) rfl rfl Tryz.func7 kr rfl #[.int .i64 d5, .int .i64 d6, .int .i64 c3] rfl sM ?_; (with_reducible refine (spec_ImagesUpTo.calls k d5 d6 c3 C4 C5 _ A7.out).mono ?_); rintro e w11 ⟨a67, rfl, b7, hb⟩; refine ⟨_, rfl, ?_⟩; have l8 := Aside0.mk (Kd.R_lower (Kd.R_new' b7 (Kd.R_lt (oR g0))) (below_size bB)); replace g0 := Aside0.mk (Kd.R_elder' (oR g0) (Kd.R_base b7) hb); replace HB := Aside0.mk (below_step bB hb); (try clear hb); (try clear b7)))
 (try simp only [Act.put, List.setIfInBounds_toArray, List.set_cons_zero, List.set_cons_succ])
 go_cut [123] from 123 to 123 (fun N5 wc => ∃ (kq : Nat) (i1 : Bool), N5 = .bool i1 ∧ Aside0 (laws_FnMirrorsFace.j0 kq l1 d5 d6 c3 b2 l7 i1 = some r) ∧ Aside0 (kq ≤ k) ∧ Aside0 (Kd.R (Kd.int .i64) 3 wc w.heap.size (fun _ => True) C7 b2) ∧ Aside0 (Below w.heap.size w wc))
 case first => (
 as_aux_lemma => (
 have H := C6.out
 clear C6
 by_cases v5 : (l7 != C5) = true
 ·(
 rw [if_pos v5] at H
 exact absurd H (by cases k <;> simp [laws_FnMirrorsFace.j0, HT_l.out])
 )
 rw [if_neg v5] at H
 obtain ⟨v6, a12, a13⟩ := nf v5
 clear v5
 (first | rw [v6] | (simp only [i64_w, i32_w]; rw [v6]) | skip)
 replace H := Option.bind_eq_some_iff.mp H; obtain ⟨C8, C9, H⟩ := H; (try dsimp only at H); have S9 := Aside0.mk C9; clear C9
 have H' := Aside0.mk H
 clear H
 obtain ⟨a68, a69, N6⟩ := Kd.R_slice g0.out
 subst N6
 obtain ⟨a70, a71, N7⟩ := Kd.R_slice l8.out
 subst N7
 repeat (go_not_at_region 9999; first | (go_at_call 8; (with_reducible refine (laws_ySame.calls k _ _ b2 _ _ C4 C8 _ ?side1 ?side2 ?side3 ?side4 S9.out).mono ?_); (case side1 => repeat (first | exact (Kd.R_reads' g0.out).2.2 | (with_reducible refine Kd.C_alloc ?_ _) | (with_reducible refine Kd.C_drewN ?_ _) | (with_reducible refine Kd.C_drew ?_))); (case side2 => exact (Kd.R_reads' g0.out).2.1); (case side3 => repeat (first | exact (Kd.R_reads' l8.out).2.2 | (with_reducible refine Kd.C_alloc ?_ _) | (with_reducible refine Kd.C_drewN ?_ _) | (with_reducible refine Kd.C_drew ?_))); (case side4 => exact (Kd.R_reads' l8.out).2.1); rintro e w' ⟨rfl, ⟨nd, rfl⟩⟩; dsimp only) | (with_reducible refine rgl ?_) | go_skip | go_guarded | go_step | go_upon)
 go_meet
 case rel => exact ⟨_, (!C8), sR, H', ⟨by first | exact Nat.le_refl _ | omega⟩, ⟨by (with_reducible repeat (first | apply Kd.R_alloc | apply Kd.R_drewN | apply Kd.R_drew)); exact Kd.R_mono g0.out (fun _ hk => trivial)⟩, ⟨bB⟩⟩
 )
 )
 clear C6
 obtain ⟨kq, i1, rfl, HA, HJ7, d9, HB⟩ := hcut
 cases kq with
 | zero => exact absurd HA.out (by simp [laws_FnMirrorsFace.j0])
 | succ l3 => (
 as_aux_lemma => (
 have H := HA.out
 clear HA
 simp only [laws_FnMirrorsFace.j0] at H
 by_cases v7 : i1 = true
 ·(
 subst v7
 rw [if_pos rfl] at H
 exact fy HT_l H
 )
 replace v7 := Bool.eq_false_iff.mpr v7
 subst v7
 rw [if_neg nft] at H
 have uz0 := Aside0.mk H
 clear H
 repeat (go_not_at_if 124; first | (with_reducible refine rgl ?_) | go_skip | go_guarded | go_step | go_upon)
 go_cut [124] from 124 to 124 (fun a72 wc => ∃ (kq : Nat), Aside0 (laws_FnMirrorsFace.j3 kq l1 = some r) ∧ Aside0 (kq ≤ l3) ∧ Aside0 (Below w.heap.size w wc))
 case first => (
 as_aux_lemma => (
 have H := uz0.out
 clear uz0
 by_cases s4 : l7 = true
 ·(
 subst s4
 rw [if_pos rfl] at H
 have uz1 := Aside0.mk H
 clear H
 repeat (go_not_at_region 9; first | (with_reducible refine rgl ?_) | go_skip | go_guarded | go_step | go_upon)
 go_cut [144] from 144 to 144 (fun N8 wc => ∃ (kq : Nat) (h2 : Bool), N8 = .bool h2 ∧ Aside0 (laws_FnMirrorsFace.j1 kq l1 d5 d6 c3 b2 h2 = some r) ∧ Aside0 (kq ≤ l3) ∧ Aside0 (Kd.R (Kd.int .i64) 3 wc w.heap.size (fun _ => True) C7 b2) ∧ Aside0 (Below w.heap.size w wc))
 case first => (
 as_aux_lemma => (
 have H := uz1.out
 clear uz1
 replace H := Option.bind_eq_some_iff.mp H; obtain ⟨N9, D0, H⟩ := H; (try dsimp only at H); have N2 := Aside0.mk D0; clear D0
 by_cases v8 : N9 = true
 ·(
 subst v8
 rw [if_pos rfl] at H
 by_cases v9 : (b2.length : Int) > (wrap64 (2 * c3))
 ·(
 rw [if_pos v9] at H
 exact absurd H (by cases l3 <;> simp [laws_FnMirrorsFace.j1, HT_l.out])
 )
 rw [if_neg v9] at H
 have x0 : decide ((wrap64 (2 * c3)) < (b2.length : Int)) = false := decide_eq_false v9
 clear v9
 (first | rw [x0] | (simp only [i64_w, i32_w]; rw [x0]) | skip)
 by_cases l4 : c3 > 0
 ·(
 rw [if_pos l4] at H
 have L0 : decide (0 < c3) = true := decide_eq_true l4
 clear l4
 have H' := Aside0.mk H
 clear H
 obtain ⟨O0, O1, O2⟩ := Kd.R_slice d9.out
 subst O2
 repeat (go_not_at_region 9999; first | ((with_reducible refine gate_callee (f := 9) rfl ?_); refine goesL_ (some 126) rfl rfl Tryz.func9 kr rfl #[.slice O0 b2.length O1] rfl sM ?_; (with_reducible refine (laws_yRises.calls l3 _ _ b2 true _ ?side1 ?side2 N2.out).mono ?_); (case side1 => repeat (first | exact (Kd.R_reads' d9.out).2.2 | (with_reducible refine Kd.C_alloc ?_ _) | (with_reducible refine Kd.C_drewN ?_ _) | (with_reducible refine Kd.C_drew ?_))); (case side2 => exact (Kd.R_reads' d9.out).2.1); rintro e w' ⟨rfl, ⟨nd, rfl⟩⟩; refine ⟨_, rfl, ?_⟩) | (with_reducible refine rgl ?_) | go_skip | go_guarded | go_step | go_upon)
 go_meet
 case rel => exact ⟨_, (decide ((b2.length : Int) < c3)), sR, H', ⟨laws_FnMirrorsFace.jx⟩, ⟨oR d9⟩, ⟨bB⟩⟩
 )
 rw [if_neg l4] at H
 have L0 : decide (0 < c3) = false := decide_eq_false l4
 clear l4
 have H' := Aside0.mk H
 clear H
 obtain ⟨O3, O4, O5⟩ := Kd.R_slice d9.out
 subst O5
 repeat (go_not_at_region 9999; first | ((with_reducible refine gate_callee (f := 9) rfl ?_); refine goesL_ (some 126) rfl rfl Tryz.func9 kr rfl #[.slice O3 b2.length O4] rfl sM ?_; (with_reducible refine (laws_yRises.calls l3 _ _ b2 true _ ?side1 ?side2 N2.out).mono ?_); (case side1 => repeat (first | exact (Kd.R_reads' d9.out).2.2 | (with_reducible refine Kd.C_alloc ?_ _) | (with_reducible refine Kd.C_drewN ?_ _) | (with_reducible refine Kd.C_drew ?_))); (case side2 => exact (Kd.R_reads' d9.out).2.1); rintro e w' ⟨rfl, ⟨nd, rfl⟩⟩; refine ⟨_, rfl, ?_⟩) | (with_reducible refine rgl ?_) | go_skip | go_guarded | go_step | go_upon)
 go_meet
 case rel => exact ⟨_, (false), sR, H', ⟨laws_FnMirrorsFace.jx⟩, ⟨oR d9⟩, ⟨bB⟩⟩
 )
 replace v8 := Bool.eq_false_iff.mpr v8
 subst v8
 rw [if_neg nft] at H
 exact absurd H (by cases l3 <;> simp [laws_FnMirrorsFace.j1, HT_l.out])
 )
 )
 clear uz1
 try clear s4
 obtain ⟨kq, h2, rfl, HA, HJ18, d9, HB⟩ := hcut
 cases kq with
 | zero => exact absurd HA.out (by simp [laws_FnMirrorsFace.j1])
 | succ D1 => (
 as_aux_lemma => (
 have H := HA.out
 clear HA
 simp only [laws_FnMirrorsFace.j1] at H
 by_cases x2 : h2 = true
 ·(
 subst x2
 rw [if_pos rfl] at H
 exact fy HT_l H
 )
 replace x2 := Bool.eq_false_iff.mpr x2
 subst x2
 rw [if_neg nft] at H
 have H' := Aside0.mk H
 clear H
 obtain ⟨O6, O7, O8⟩ := Kd.R_slice d9.out
 subst O8
 repeat (go_not_at_region 9999; first | (with_reducible refine rgl ?_) | go_skip | go_guarded | go_step | go_upon)
 go_loopg [147] D1 (fun kq O9 w' => ∃ (b3 : Int), O9 = .int .i64 b3 ∧ Aside0 (laws_FnMirrorsFace.l0 kq l1 d5 d6 c3 b2 (b2.length : Int) b3 = some r) ∧ Aside0 (kq ≤ D1) ∧ Aside0 (Kd.R (Kd.int .i64) 3 w' w.heap.size (fun _ => True) (.slice O6 b2.length O7) b2) ∧ Aside0 (Below w.heap.size w w'))
 case atStart => exact ⟨(0), sR, H', ⟨Nat.le_refl _⟩, ⟨oR d9⟩, ⟨bB⟩⟩
 case round => (
 clear H'
 obtain ⟨b3, rfl, HA, HK3, e9, HB⟩ := hrel
 cases gk with
 | zero => exact absurd HA.out (by simp [laws_FnMirrorsFace.l0])
 | succ k3 => (
 have H := HA.out
 clear HA
 simp only [laws_FnMirrorsFace.l0] at H
 by_cases l5 : b3 < (b2.length : Int)
 ·(
 rw [if_pos l5] at H
 have L1 : decide (b3 < (b2.length : Int)) = true := decide_eq_true l5
 clear l5
 by_cases x3 : 0 ≤ b3
 ·(
 rw [if_pos x3] at H
 have a14 : decide (0 ≤ b3) = true := decide_eq_true x3
 clear x3
 by_cases x4 : b3 < (b2.length : Int)
 ·(
 rw [if_pos x4] at H
 have a15 : decide (b3 < (b2.length : Int)) = true := decide_eq_true x4
 clear x4
 replace H := Option.bind_eq_some_iff.mp H; obtain ⟨⟨j2, P0⟩, D2, H⟩ := H; (try dsimp only at H); have T0 := Aside0.mk D2; clear D2
 replace H := Option.bind_eq_some_iff.mp H; obtain ⟨⟨D3, P1⟩, D4, H⟩ := H; (try dsimp only at H); have T1 := Aside0.mk D4; clear D4
 by_cases y2 : P0 = true
 ·(
 subst y2
 rw [if_pos rfl] at H
 by_cases y3 : (j2.size : Int) > c3
 ·(
 rw [if_pos y3] at H
 exact fy HT_l H
 )
 rw [if_neg y3] at H
 have a16 : decide (c3 < (j2.size : Int)) = false := decide_eq_false y3
 clear y3
 by_cases y4 : P1 = true
 ·(
 subst y4
 rw [if_pos rfl] at H
 by_cases y5 : D3 = (rd b2 b3)
 ·(
 rw [if_pos y5] at H
 obtain ⟨a17, a18⟩ := yE y5
 clear y5
 have H' := Aside0.mk H
 clear H
 have uz2 : 0 ≤ (b3 : Int) := of_decide_eq_true asm
 have uz3 : b3 < (b2.length : Int) := of_decide_eq_true (by first | exact a15 | exact L1 | exact asm)
 obtain ⟨a19, P2, S7⟩ := Kd.at_int (Kd.R_reads' e9.out).2.2 b3 uz2 uz3
 cases P2
 replace uz2 := eq_true uz2
 replace uz3 := eq_true uz3
 repeat (go_not_at_region 9999; first | ((with_reducible refine gate_callee (f := 10) rfl ?_); refine goesL_ (some 155) rfl rfl Tryz.func10 kr rfl #[.int .i64 d5, .int .i64 d6, .int .i64 (rd b2 b3)] rfl sM ?_; (with_reducible refine (impl_WordOfImage.calls k3 d5 d6 (rd b2 b3) j2 true _ T0.out).mono ?_); rintro e w37 ⟨rfl, hb⟩; refine ⟨_, rfl, ?_⟩; replace e9 := Aside0.mk (Kd.R_below (oR e9) hb); replace HB := Aside0.mk (below_step bB hb); (try clear hb)) | ((with_reducible refine gate_callee (f := 11) rfl ?_); refine goesL_ (some 162) rfl rfl Tryz.func11 kr rfl #[.int .i64 d5, .int .i64 d6, .string j2] rfl sM ?_; (with_reducible refine (impl_ImageAfter.calls k3 d5 d6 j2 D3 true _ T1.out (HM.out.below (by repeat (first | (with_reducible first | exact HB.out | apply below_alloc | apply pw_below_drewN | apply below_drew1 | refine below_set ?_ (Aside0.out (by assumption))) | exact HB.out)))).mono ?_); rintro e w38 ⟨rfl, hb⟩; refine ⟨_, rfl, ?_⟩; replace e9 := Aside0.mk (Kd.R_below (oR e9) hb); replace HB := Aside0.mk (below_step bB hb); (try clear hb)) | (with_reducible refine rgl ?_) | go_skip | go_guarded | go_step | go_upon)
 go_roundg k3
 case measure => exact laws_FnMirrorsFace.jx
 case rel => exact ⟨(wrap64 (b3 + 1)), sR, H', ⟨laws_FnMirrorsFace.jx⟩, ⟨oR e9⟩, ⟨bB⟩⟩
 )
 rw [if_neg y5] at H
 exact fy HT_l H
 )
 replace y4 := Bool.eq_false_iff.mpr y4
 subst y4
 rw [if_neg nft] at H
 exact fy HT_l H
 )
 replace y2 := Bool.eq_false_iff.mpr y2
 subst y2
 rw [if_neg nft] at H
 exact fy HT_l H
 )
 rw [if_neg x4] at H
 exact absurd H (by simp)
 )
 rw [if_neg x3] at H
 exact absurd H (by simp)
 )
 rw [if_neg l5] at H
 have L1 : decide (b3 < (b2.length : Int)) = false := decide_eq_false l5
 clear l5
 have H' := Aside0.mk H
 clear H
 repeat (go_not_at_region 9999; first | (with_reducible refine rgl ?_) | go_skip | go_guarded | go_step | go_upon)
 go_meet
 case rel => exact ⟨_, H', ⟨laws_FnMirrorsFace.jx⟩, ⟨bB⟩⟩
 )
 )
 )
 )
 )
 replace s4 := Bool.eq_false_iff.mpr s4
 subst s4
 rw [if_neg nft] at H
 have H' := Aside0.mk H
 clear H
 repeat (go_not_at_region 9999; first | (with_reducible refine rgl ?_) | go_skip | go_guarded | go_step | go_upon)
 go_meet
 case rel => exact ⟨_, H', ⟨laws_FnMirrorsFace.jx⟩, ⟨bB⟩⟩
 )
 )
 clear uz0
 obtain ⟨kq, HA, HJ16, HB⟩ := hcut
 cases kq with
 | zero => exact absurd HA.out (by simp [laws_FnMirrorsFace.j3])
 | succ a4 => (
 as_aux_lemma => (
 have H := HA.out
 clear HA
 simp only [laws_FnMirrorsFace.j3] at H
 replace H := Option.bind_eq_some_iff.mp H; obtain ⟨⟨c2, d0, a6⟩, D5, H⟩ := H; (try dsimp only at H); have T2 := Aside0.mk D5; clear D5
 replace H := Option.bind_eq_some_iff.mp H; obtain ⟨⟨h6, l9⟩, D6, H⟩ := H; (try dsimp only at H); have T3 := Aside0.mk D6; clear D6
 replace H := Option.bind_eq_some_iff.mp H; obtain ⟨⟨D7, D8⟩, D9, H⟩ := H; (try dsimp only at H); have T4 := Aside0.mk D9; clear D9
 replace H := Option.bind_eq_some_iff.mp H; obtain ⟨⟨e5, e0, e6⟩, E0, H⟩ := H; (try dsimp only at H); have T5 := Aside0.mk E0; clear E0
 replace H := Option.bind_eq_some_iff.mp H; obtain ⟨⟨g7, i4⟩, E1, H⟩ := H; (try dsimp only at H); have T6 := Aside0.mk E1; clear E1
 replace H := Option.bind_eq_some_iff.mp H; obtain ⟨⟨E2, E3⟩, E4, H⟩ := H; (try dsimp only at H); have T7 := Aside0.mk E4; clear E4
 replace H := Option.bind_eq_some_iff.mp H; obtain ⟨⟨c5, c6, c7, c8⟩, E5, H⟩ := H; (try dsimp only at H); have T8 := Aside0.mk E5; clear E5
 replace H := Option.bind_eq_some_iff.mp H; obtain ⟨⟨b8, h7⟩, E6, H⟩ := H; (try dsimp only at H); have T9 := Aside0.mk E6; clear E6
 replace H := Option.bind_eq_some_iff.mp H; obtain ⟨⟨E7, E8⟩, E9, H⟩ := H; (try dsimp only at H); have U0 := Aside0.mk E9; clear E9
 replace H := Option.bind_eq_some_iff.mp H; obtain ⟨⟨b4, b5, b0, j3⟩, F0, H⟩ := H; (try dsimp only at H); have U1 := Aside0.mk F0; clear F0
 replace H := Option.bind_eq_some_iff.mp H; obtain ⟨⟨d2, d3⟩, F1, H⟩ := H; (try dsimp only at H); have U2 := Aside0.mk F1; clear F1
 replace H := Option.bind_eq_some_iff.mp H; obtain ⟨⟨F2, F3⟩, F4, H⟩ := H; (try dsimp only at H); have v3 := Aside0.mk F4; clear F4
 replace H := Option.bind_eq_some_iff.mp H; obtain ⟨⟨d1, d7⟩, F5, H⟩ := H; (try dsimp only at H); have U3 := Aside0.mk F5; clear F5
 replace H := Option.bind_eq_some_iff.mp H; obtain ⟨⟨F6, F7⟩, F8, H⟩ := H; (try dsimp only at H); have U4 := Aside0.mk F8; clear F8
 replace H := Option.bind_eq_some_iff.mp H; obtain ⟨⟨b1, b6⟩, F9, H⟩ := H; (try dsimp only at H); have U5 := Aside0.mk F9; clear F9
 replace H := Option.bind_eq_some_iff.mp H; obtain ⟨⟨a5, d4⟩, G0, H⟩ := H; (try dsimp only at H); have U6 := Aside0.mk G0; clear G0
 replace H := Option.bind_eq_some_iff.mp H; obtain ⟨⟨uz4, G1⟩, G2, H⟩ := H; (try dsimp only at H); have U7 := Aside0.mk G2; clear G2
 replace H := Option.bind_eq_some_iff.mp H; obtain ⟨⟨b9, uz5⟩, G3, H⟩ := H; (try dsimp only at H); have U8 := Aside0.mk G3; clear G3
 replace H := Option.bind_eq_some_iff.mp H; obtain ⟨⟨G4, G5⟩, G6, H⟩ := H; (try dsimp only at H); have U9 := Aside0.mk G6; clear G6
 replace H := Option.bind_eq_some_iff.mp H; obtain ⟨⟨j4, j5, j6⟩, G7, H⟩ := H; (try dsimp only at H); have V0 := Aside0.mk G7; clear G7
 replace H := Option.bind_eq_some_iff.mp H; obtain ⟨⟨G8, G9⟩, I0, H⟩ := H; (try dsimp only at H); have V1 := Aside0.mk I0; clear I0
 replace H := Option.bind_eq_some_iff.mp H; obtain ⟨⟨I1, I2⟩, I3, H⟩ := H; (try dsimp only at H); have v4 := Aside0.mk I3; clear I3
 replace H := Option.bind_eq_some_iff.mp H; obtain ⟨j7, I4, H⟩ := H; (try dsimp only at H); have V2 := Aside0.mk I4; clear I4
 replace H := Option.bind_eq_some_iff.mp H; obtain ⟨⟨uz6, I5⟩, I6, H⟩ := H; (try dsimp only at H); have V3 := Aside0.mk I6; clear I6
 replace H := Option.bind_eq_some_iff.mp H; obtain ⟨⟨uz7, I7⟩, I8, H⟩ := H; (try dsimp only at H); have V4 := Aside0.mk I8; clear I8
 have uz9 := Aside0.mk H
 clear H
 go_upto_region 44 with (first | ((with_reducible refine gate_callee (f := 12) rfl ?_); refine goesL_ (some 185) rfl rfl Tryz.func12 kr rfl #[.slice A1 l1.length c1] rfl sM ?_; (with_reducible refine (spec_DrawImageAfter.calls a4 _ _ l1 c2 d0 a6 _ ?side1 ?side2 T2.out).mono ?_); (case side1 => repeat (first | exact (Kd.C_below h9.out HB.out) | (with_reducible refine Kd.C_alloc ?_ _) | (with_reducible refine Kd.C_drewN ?_ _) | (with_reducible refine Kd.C_drew ?_))); (case side2 => exact i0.out); rintro e w65 ⟨rfl, hb⟩; refine ⟨_, rfl, ?_⟩; replace HB := Aside0.mk (below_step bB hb); (try clear hb)) | ((with_reducible refine gate_callee (f := 11) rfl ?_); refine goesL_ (some 193) rfl rfl Tryz.func11 kr rfl #[.int .i64 c2, .int .i64 d0, .string a6] rfl sM ?_; (with_reducible refine (impl_ImageAfter.calls a4 c2 d0 a6 h6 l9 _ T3.out (HM.out.below (by repeat (first | (with_reducible first | exact HB.out | apply below_alloc | apply pw_below_drewN | apply below_drew1 | refine below_set ?_ (Aside0.out (by assumption))) | exact HB.out)))).mono ?_); rintro e w66 ⟨rfl, hb⟩; refine ⟨_, rfl, ?_⟩; replace HB := Aside0.mk (below_step bB hb); (try clear hb)) | ((with_reducible refine gate_callee (f := 13) rfl ?_); refine goesL_ (some 200) rfl rfl Tryz.func13 kr rfl #[.int .i64 c2, .int .i64 d0, .string a6] rfl sM ?_; (with_reducible refine (spec_ImageAfter.calls a4 c2 d0 a6 D7 D8 _ T4.out).mono ?_); rintro e w' ⟨rfl, ⟨nd, rfl⟩⟩; refine ⟨_, rfl, ?_⟩) | ((with_reducible refine gate_callee (f := 14) rfl ?_); refine goesL_ (some 205) rfl rfl Tryz.func14 kr rfl #[.slice A1 l1.length c1] rfl sM ?_; (with_reducible refine (spec_DrawWordOfImage.calls a4 _ _ l1 e5 e0 e6 _ ?side1 ?side2 T5.out).mono ?_); (case side1 => repeat (first | exact (Kd.C_below h9.out bB) | (with_reducible refine Kd.C_alloc ?_ _) | (with_reducible refine Kd.C_drewN ?_ _) | (with_reducible refine Kd.C_drew ?_))); (case side2 => exact i0.out); rintro e w67 ⟨rfl, hb⟩; refine ⟨_, rfl, ?_⟩; replace HB := Aside0.mk (below_step bB hb); (try clear hb)) | ((with_reducible refine gate_callee (f := 10) rfl ?_); refine goesL_ (some 213) rfl rfl Tryz.func10 kr rfl #[.int .i64 e5, .int .i64 e0, .int .i64 e6] rfl sM ?_; (with_reducible refine (impl_WordOfImage.calls a4 e5 e0 e6 g7 i4 _ T6.out).mono ?_); rintro e w68 ⟨rfl, hb⟩; refine ⟨_, rfl, ?_⟩; replace HB := Aside0.mk (below_step bB hb); (try clear hb)) | ((with_reducible refine gate_callee (f := 15) rfl ?_); refine goesL_ (some 220) rfl rfl Tryz.func15 kr rfl #[.int .i64 e5, .int .i64 e0, .int .i64 e6] rfl sM ?_; (with_reducible refine (spec_WordOfImage.calls a4 e5 e0 e6 E2 E3 _ T7.out).mono ?_); rintro e w69 ⟨rfl, hb⟩; refine ⟨_, rfl, ?_⟩; replace HB := Aside0.mk (below_step bB hb); (try clear hb)) | ((with_reducible refine gate_callee (f := 16) rfl ?_); refine goesL_ (some 225) rfl rfl Tryz.func16 kr rfl #[.slice A1 l1.length c1] rfl sM ?_; (with_reducible refine (spec_DrawCountNear.calls _ _ l1 c5 c6 c7 c8 _ ?side1 ?side2 T8.out).mono ?_); (case side1 => repeat (first | exact (Kd.C_below h9.out HB.out) | (with_reducible refine Kd.C_alloc ?_ _) | (with_reducible refine Kd.C_drewN ?_ _) | (with_reducible refine Kd.C_drew ?_))); (case side2 => exact i0.out); rintro e w70 ⟨rfl, hb⟩; refine ⟨_, rfl, ?_⟩; replace HB := Aside0.mk (below_step bB hb); (try clear hb)) | ((with_reducible refine gate_callee (f := 17) rfl ?_); refine goesL_ (some 235) rfl rfl Tryz.func17 kr rfl #[.int .i64 c5, .int .i64 c6, .int .i64 c7, .int .i64 c8] rfl sM ?_; (with_reducible refine (impl_CountNear.calls a4 c5 c6 c7 c8 b8 h7 _ T9.out).mono ?_); rintro e w71 ⟨rfl, hb⟩; refine ⟨_, rfl, ?_⟩; replace HB := Aside0.mk (below_step bB hb); (try clear hb)) | ((with_reducible refine gate_callee (f := 18) rfl ?_); refine goesL_ (some 243) rfl rfl Tryz.func18 kr rfl #[.int .i64 c5, .int .i64 c6, .int .i64 c7, .int .i64 c8] rfl sM ?_; (with_reducible refine (spec_CountNear.calls a4 c5 c6 c7 c8 E7 E8 _ U0.out).mono ?_); rintro e w' ⟨rfl, ⟨nd, rfl⟩⟩; refine ⟨_, rfl, ?_⟩) | ((with_reducible refine gate_callee (f := 19) rfl ?_); refine goesL_ (some 248) rfl rfl Tryz.func19 kr rfl #[.slice A1 l1.length c1] rfl sM ?_; (with_reducible refine (spec_DrawFarthestOf.calls _ _ l1 b4 b5 b0 j3 _ ?side1 ?side2 U1.out).mono ?_); (case side1 => repeat (first | exact (Kd.C_below h9.out bB) | (with_reducible refine Kd.C_alloc ?_ _) | (with_reducible refine Kd.C_drewN ?_ _) | (with_reducible refine Kd.C_drew ?_))); (case side2 => exact i0.out); rintro e w72 ⟨rfl, hb⟩; refine ⟨_, rfl, ?_⟩; replace HB := Aside0.mk (below_step bB hb); (try clear hb)) | ((with_reducible refine gate_callee (f := 20) rfl ?_); refine goesL_ (some 258) rfl rfl Tryz.func20 kr rfl #[.int .i64 b4, .int .i64 b5, .int .i64 b0, .int .i64 j3] rfl sM ?_; (with_reducible refine (impl_FarthestOf.calls a4 b4 b5 b0 j3 d2 d3 _ U2.out).mono ?_); rintro e w73 ⟨rfl, hb⟩; refine ⟨_, rfl, ?_⟩; replace HB := Aside0.mk (below_step bB hb); (try clear hb)) | ((with_reducible refine gate_callee (f := 21) rfl ?_); refine goesL_ (some 266) rfl rfl Tryz.func21 kr rfl #[.int .i64 b4, .int .i64 b5, .int .i64 b0, .int .i64 j3] rfl sM ?_; (with_reducible refine (spec_FarthestOf.calls a4 b4 b5 b0 j3 F2 F3 _ v3.out).mono ?_); rintro e w74 ⟨rfl, hb⟩; refine ⟨_, rfl, ?_⟩; replace HB := Aside0.mk (below_step bB hb); (try clear hb)) | ((with_reducible refine gate_callee (f := 22) rfl ?_); refine goesL_ (some 273) rfl rfl Tryz.func22 kr rfl #[.int .i64 b4, .int .i64 b5, .int .i64 b0] rfl sM ?_; (with_reducible refine (impl_NearestImage.calls a4 b4 b5 b0 d1 d7 _ U3.out).mono ?_); rintro e w75 ⟨rfl, hb⟩; refine ⟨_, rfl, ?_⟩; replace HB := Aside0.mk (below_step bB hb); (try clear hb)) | ((with_reducible refine gate_callee (f := 23) rfl ?_); refine goesL_ (some 280) rfl rfl Tryz.func23 kr rfl #[.int .i64 b4, .int .i64 b5, .int .i64 b0] rfl sM ?_; (with_reducible refine (spec_NearestImage.calls a4 b4 b5 b0 F6 F7 _ U4.out).mono ?_); rintro e w76 ⟨rfl, hb⟩; refine ⟨_, rfl, ?_⟩; replace HB := Aside0.mk (below_step bB hb); (try clear hb)) | ((with_reducible refine gate_callee (f := 24) rfl ?_); refine goesL_ (some 285) rfl rfl Tryz.func24 kr rfl #[.slice A1 l1.length c1] rfl sM ?_; (with_reducible refine (spec_DrawWedgeImages.calls _ _ l1 b1 b6 _ ?side1 ?side2 U5.out).mono ?_); (case side1 => repeat (first | exact (Kd.C_below h9.out HB.out) | (with_reducible refine Kd.C_alloc ?_ _) | (with_reducible refine Kd.C_drewN ?_ _) | (with_reducible refine Kd.C_drew ?_))); (case side2 => exact i0.out); rintro e w77 ⟨rfl, hb⟩; refine ⟨_, rfl, ?_⟩; replace HB := Aside0.mk (below_step bB hb); (try clear hb)) | ((with_reducible refine gate_callee (f := 25) rfl ?_); refine goesL_ (some 291) rfl rfl Tryz.func25 kr rfl #[.int .i64 b1, .int .i64 b6] rfl sM ?_; (with_reducible refine (impl_WedgeImages.calls a4 b1 b6 a5 d4 _ U6.out).mono ?_); rintro e w78 ⟨e7, rfl, b7, hb⟩; refine ⟨_, rfl, ?_⟩; have a7 := Aside0.mk (Kd.R_lower b7 (below_size bB)); replace HB := Aside0.mk (below_step bB hb); (try clear hb); (try clear b7)) | ((with_reducible refine gate_callee (f := 26) rfl ?_); refine goesL_ (some 297) rfl rfl Tryz.func26 kr rfl #[.int .i64 b1, .int .i64 b6] rfl sM ?_; (with_reducible refine (spec_WedgeImages.calls a4 b1 b6 uz4 G1 _ U7.out).mono ?_); rintro e w79 ⟨a73, rfl, b7, hb⟩; refine ⟨_, rfl, ?_⟩; have a9 := Aside0.mk (Kd.R_lower (Kd.R_new' b7 (Kd.R_lt (oR a7))) (below_size bB)); replace a7 := Aside0.mk (Kd.R_elder' (oR a7) (Kd.R_base b7) hb); replace HB := Aside0.mk (below_step bB hb); (try clear hb); (try clear b7)) | ((with_reducible refine gate_callee (f := 27) rfl ?_); refine goesL_ (some 303) rfl rfl Tryz.func27 kr rfl #[.int .i64 b1, .int .i64 b6] rfl sM ?_; (with_reducible refine (impl_CountWedge.calls a4 b1 b6 b9 uz5 _ U8.out).mono ?_); rintro e w80 ⟨rfl, hb⟩; refine ⟨_, rfl, ?_⟩; replace a7 := Aside0.mk (Kd.R_below (oR a7) hb); replace a9 := Aside0.mk (Kd.R_below (oR a9) hb); replace HB := Aside0.mk (below_step bB hb); (try clear hb)) | ((with_reducible refine gate_callee (f := 28) rfl ?_); refine goesL_ (some 309) rfl rfl Tryz.func28 kr rfl #[.int .i64 b1, .int .i64 b6] rfl sM ?_; (with_reducible refine (spec_CountWedge.calls a4 b1 b6 G4 G5 _ U9.out).mono ?_); rintro e w81 ⟨rfl, hb⟩; refine ⟨_, rfl, ?_⟩; replace a7 := Aside0.mk (Kd.R_below (oR a7) hb); replace a9 := Aside0.mk (Kd.R_below (oR a9) hb); replace HB := Aside0.mk (below_step bB hb); (try clear hb)) | ((with_reducible refine gate_callee (f := 29) rfl ?_); refine goesL_ (some 314) rfl rfl Tryz.func29 kr rfl #[.slice A1 l1.length c1] rfl sM ?_; (with_reducible refine (spec_DrawWedgeSteps.calls a4 _ _ l1 j4 j5 j6 _ ?side1 ?side2 V0.out).mono ?_); (case side1 => repeat (first | exact (Kd.C_below h9.out HB.out) | (with_reducible refine Kd.C_alloc ?_ _) | (with_reducible refine Kd.C_drewN ?_ _) | (with_reducible refine Kd.C_drew ?_))); (case side2 => exact i0.out); rintro e w82 ⟨rfl, hb⟩; refine ⟨_, rfl, ?_⟩; replace a7 := Aside0.mk (Kd.R_below (oR a7) hb); replace a9 := Aside0.mk (Kd.R_below (oR a9) hb); replace HB := Aside0.mk (below_step bB hb); (try clear hb)) | ((with_reducible refine gate_callee (f := 30) rfl ?_); refine goesL_ (some 322) rfl rfl Tryz.func30 kr rfl #[.int .i64 j4, .int .i64 j5, .int .i64 j6] rfl sM ?_; (with_reducible refine (impl_WedgeSteps.calls a4 j4 j5 j6 G8 G9 _ V1.out).mono ?_); rintro e w83 ⟨rfl, hb⟩; refine ⟨_, rfl, ?_⟩; replace a7 := Aside0.mk (Kd.R_below (oR a7) hb); replace a9 := Aside0.mk (Kd.R_below (oR a9) hb); replace HB := Aside0.mk (below_step bB hb); (try clear hb)) | ((with_reducible refine gate_callee (f := 31) rfl ?_); refine goesL_ (some 329) rfl rfl Tryz.func31 kr rfl #[.int .i64 j4, .int .i64 j5, .int .i64 j6] rfl sM ?_; (with_reducible refine (spec_WedgeSteps.calls a4 j4 j5 j6 I1 I2 _ v4.out).mono ?_); rintro e w84 ⟨rfl, hb⟩; refine ⟨_, rfl, ?_⟩; replace a7 := Aside0.mk (Kd.R_below (oR a7) hb); replace a9 := Aside0.mk (Kd.R_below (oR a9) hb); replace HB := Aside0.mk (below_step bB hb); (try clear hb)) | ((with_reducible refine gate_callee (f := 32) rfl ?_); refine goesL_ (some 333) rfl rfl Tryz.func32 kr rfl #[.slice A1 l1.length c1] rfl sM ?_; (with_reducible refine (spec_DrawAnglesFor.calls _ _ l1 j7 _ ?side1 ?side2 V2.out).mono ?_); (case side1 => repeat (first | exact (Kd.C_below h9.out HB.out) | (with_reducible refine Kd.C_alloc ?_ _) | (with_reducible refine Kd.C_drewN ?_ _) | (with_reducible refine Kd.C_drew ?_))); (case side2 => exact i0.out); rintro e w85 ⟨rfl, hb⟩; refine ⟨_, rfl, ?_⟩; replace a7 := Aside0.mk (Kd.R_below (oR a7) hb); replace a9 := Aside0.mk (Kd.R_below (oR a9) hb); replace HB := Aside0.mk (below_step bB hb); (try clear hb)) | ((with_reducible refine gate_callee (f := 33) rfl ?_); refine goesL_ (some 336) rfl rfl Tryz.func33 kr rfl #[.int .i64 j7] rfl sM ?_; (with_reducible refine (impl_AnglesFor.calls a4 j7 uz6 I5 _ V3.out).mono ?_); rintro e w86 ⟨a74, rfl, b7, hb⟩; refine ⟨_, rfl, ?_⟩; have d8 := Aside0.mk (Kd.R_lower (Kd.R_new' (Kd.R_new' b7 (Kd.R_lt (oR a7))) (Kd.R_lt (oR a9))) (below_size bB)); replace a7 := Aside0.mk (Kd.R_elder' (oR a7) (Kd.R_base b7) hb); replace a9 := Aside0.mk (Kd.R_elder' (oR a9) (Kd.R_base b7) hb); replace HB := Aside0.mk (below_step bB hb); (try clear hb); (try clear b7)) | ((with_reducible refine gate_callee (f := 34) rfl ?_); refine goesL_ (some 341) rfl rfl Tryz.func34 kr rfl #[.int .i64 j7] rfl sM ?_; (with_reducible refine (spec_AnglesFor.calls a4 j7 uz7 I7 _ V4.out).mono ?_); rintro e w87 ⟨a75, rfl, b7, hb⟩; refine ⟨_, rfl, ?_⟩; have h3 := Aside0.mk (Kd.R_lower (Kd.R_new' (Kd.R_new' (Kd.R_new' b7 (Kd.R_lt (oR a7))) (Kd.R_lt (oR a9))) (Kd.R_lt (oR d8))) (below_size bB)); replace a7 := Aside0.mk (Kd.R_elder' (oR a7) (Kd.R_base b7) hb); replace a9 := Aside0.mk (Kd.R_elder' (oR a9) (Kd.R_base b7) hb); replace d8 := Aside0.mk (Kd.R_elder' (oR d8) (Kd.R_base b7) hb); replace HB := Aside0.mk (below_step bB hb); (try clear hb); (try clear b7)))
 (try simp only [Act.put, List.setIfInBounds_toArray, List.set_cons_zero, List.set_cons_succ])
 go_cut [445] from 445 to 445 (fun P3 wc => ∃ (kq : Nat) (h4 : Bool), P3 = .bool h4 ∧ Aside0 (laws_FnMirrorsFace.j4 kq c2 d0 a6 h6 l9 e5 e0 e6 g7 i4 c5 c6 c7 c8 b8 h7 b4 b5 b0 d2 d3 d1 d7 b1 b6 a5 d4 b9 h4 = some r) ∧ Aside0 (kq ≤ a4) ∧ Aside0 (Kd.R (Kd.int .i64) 3 wc w.heap.size (fun _ => True) e7 a5) ∧ Aside0 (Below w.heap.size w wc))
 case first => (
 as_aux_lemma => (
 have H := uz9.out
 clear uz9
 by_cases y6 : (l9 != D8) = true
 ·(
 rw [if_pos y6] at H
 exact absurd H (by cases a4 <;> simp [laws_FnMirrorsFace.j4, HT_l.out])
 )
 rw [if_neg y6] at H
 obtain ⟨y7, a20, a21⟩ := nf y6
 clear y6
 (first | rw [y7] | (simp only [i64_w, i32_w]; rw [y7]) | skip)
 by_cases y8 : h6 = D7
 ·(
 rw [if_pos y8] at H
 obtain ⟨a22, a23⟩ := yE y8
 clear y8
 by_cases y9 : (i4 != E3) = true
 ·(
 rw [if_pos y9] at H
 exact absurd H (by cases a4 <;> simp [laws_FnMirrorsFace.j4, HT_l.out])
 )
 rw [if_neg y9] at H
 obtain ⟨a24, a25, a26⟩ := nf y9
 clear y9
 by_cases z2 : g7.toList = E2.toList
 ·(
 rw [if_pos z2] at H
 obtain ⟨a27, a28⟩ := yE z2
 clear z2
 by_cases z3 : (h7 != E8) = true
 ·(
 rw [if_pos z3] at H
 exact absurd H (by cases a4 <;> simp [laws_FnMirrorsFace.j4, HT_l.out])
 )
 rw [if_neg z3] at H
 obtain ⟨a29, a30, a31⟩ := nf z3
 clear z3
 by_cases z4 : b8 = E7
 ·(
 rw [if_pos z4] at H
 obtain ⟨a32, a33⟩ := yE z4
 clear z4
 by_cases z5 : (d3 != F3) = true
 ·(
 rw [if_pos z5] at H
 exact absurd H (by cases a4 <;> simp [laws_FnMirrorsFace.j4, HT_l.out])
 )
 rw [if_neg z5] at H
 obtain ⟨a34, a35, a36⟩ := nf z5
 clear z5
 by_cases z6 : d2 = F2
 ·(
 rw [if_pos z6] at H
 obtain ⟨a37, a38⟩ := yE z6
 clear z6
 by_cases z7 : (d7 != F7) = true
 ·(
 rw [if_pos z7] at H
 exact absurd H (by cases a4 <;> simp [laws_FnMirrorsFace.j4, HT_l.out])
 )
 rw [if_neg z7] at H
 obtain ⟨a39, a40, a41⟩ := nf z7
 clear z7
 by_cases z8 : d1 = F6
 ·(
 rw [if_pos z8] at H
 obtain ⟨a42, a43⟩ := yE z8
 clear z8
 by_cases z9 : (d4 != G1) = true
 ·(
 rw [if_pos z9] at H
 exact absurd H (by cases a4 <;> simp [laws_FnMirrorsFace.j4, HT_l.out])
 )
 rw [if_neg z9] at H
 obtain ⟨a44, a45, a46⟩ := nf z9
 clear z9
 replace H := Option.bind_eq_some_iff.mp H; obtain ⟨P4, I9, H⟩ := H; (try dsimp only at H); have N3 := Aside0.mk I9; clear I9
 by_cases m0 : P4 = true
 ·(
 subst m0
 rw [if_pos rfl] at H
 by_cases m1 : (uz5 != G5) = true
 ·(
 rw [if_pos m1] at H
 exact absurd H (by cases a4 <;> simp [laws_FnMirrorsFace.j4, HT_l.out])
 )
 rw [if_neg m1] at H
 obtain ⟨V5, V6, V7⟩ := nf m1
 clear m1
 by_cases m2 : b9 = G4
 ·(
 rw [if_pos m2] at H
 obtain ⟨V8, V9⟩ := yE m2
 clear m2
 by_cases m3 : (uz5 != d4) = true
 ·(
 rw [if_pos m3] at H
 exact absurd H (by cases a4 <;> simp [laws_FnMirrorsFace.j4, HT_l.out])
 )
 rw [if_neg m3] at H
 obtain ⟨X0, X1, X2⟩ := nf m3
 clear m3
 by_cases m4 : (G9 != I2) = true
 ·(
 rw [if_pos m4] at H
 exact absurd H (by cases a4 <;> simp [laws_FnMirrorsFace.j4, HT_l.out])
 )
 rw [if_neg m4] at H
 obtain ⟨X3, X4, X5⟩ := nf m4
 clear m4
 by_cases m5 : G8 = I1
 ·(
 rw [if_pos m5] at H
 obtain ⟨X6, X7⟩ := yE m5
 clear m5
 by_cases m6 : (I5 != I7) = true
 ·(
 rw [if_pos m6] at H
 exact absurd H (by cases a4 <;> simp [laws_FnMirrorsFace.j4, HT_l.out])
 )
 rw [if_neg m6] at H
 obtain ⟨X8, X9, Y0⟩ := nf m6
 clear m6
 replace H := Option.bind_eq_some_iff.mp H; obtain ⟨P5, A2, H⟩ := H; (try dsimp only at H); have J0 := Aside0.mk A2; clear A2
 by_cases m7 : P5 = true
 ·(
 subst m7
 rw [if_pos rfl] at H
 by_cases m8 : d3 = true
 ·(
 subst m8
 rw [if_pos rfl] at H
 have H' := Aside0.mk H
 clear H
 obtain ⟨a47, a48, L2⟩ := Kd.R_slice a7.out
 subst L2
 obtain ⟨a49, a50, L3⟩ := Kd.R_slice a9.out
 subst L3
 repeat (go_not_at_region 9999; first | (go_at_call 8; (with_reducible refine (laws_ySame.calls a4 _ _ a5 _ _ uz4 true _ ?side1 ?side2 ?side3 ?side4 N3.out).mono ?_); (case side1 => repeat (first | exact (Kd.R_reads' a7.out).2.2 | (with_reducible refine Kd.C_alloc ?_ _) | (with_reducible refine Kd.C_drewN ?_ _) | (with_reducible refine Kd.C_drew ?_))); (case side2 => exact (Kd.R_reads' a7.out).2.1); (case side3 => repeat (first | exact (Kd.R_reads' a9.out).2.2 | (with_reducible refine Kd.C_alloc ?_ _) | (with_reducible refine Kd.C_drewN ?_ _) | (with_reducible refine Kd.C_drew ?_))); (case side4 => exact (Kd.R_reads' a9.out).2.1); rintro e w' ⟨rfl, ⟨nd, rfl⟩⟩; dsimp only; obtain ⟨a51, a52, L4⟩ := Kd.R_slice d8.out; subst L4; obtain ⟨a53, a54, L5⟩ := Kd.R_slice h3.out; subst L5) | (go_at_call 8; (with_reducible refine (laws_ySame.calls a4 _ _ uz6 _ _ uz7 true _ ?side1 ?side2 ?side3 ?side4 J0.out).mono ?_); (case side1 => repeat (first | exact (Kd.R_reads' d8.out).2.2 | (with_reducible refine Kd.C_alloc ?_ _) | (with_reducible refine Kd.C_drewN ?_ _) | (with_reducible refine Kd.C_drew ?_))); (case side2 => exact (Kd.R_reads' d8.out).2.1); (case side3 => repeat (first | exact (Kd.R_reads' h3.out).2.2 | (with_reducible refine Kd.C_alloc ?_ _) | (with_reducible refine Kd.C_drewN ?_ _) | (with_reducible refine Kd.C_drew ?_))); (case side4 => exact (Kd.R_reads' h3.out).2.1); rintro e w' ⟨rfl, ⟨nd, rfl⟩⟩; dsimp only) | (with_reducible refine rgl ?_) | go_skip | go_guarded | go_step | go_upon)
 go_meet
 case rel => exact ⟨_, (!d7), sR, H', ⟨laws_FnMirrorsFace.jx⟩, ⟨by (with_reducible repeat (first | apply Kd.R_alloc | apply Kd.R_drewN | apply Kd.R_drew)); exact Kd.R_mono a7.out (fun _ hk => trivial)⟩, ⟨bB⟩⟩
 )
 replace m8 := Bool.eq_false_iff.mpr m8
 subst m8
 rw [if_neg nft] at H
 have H' := Aside0.mk H
 clear H
 obtain ⟨a55, a56, L6⟩ := Kd.R_slice a7.out
 subst L6
 obtain ⟨a57, a58, L7⟩ := Kd.R_slice a9.out
 subst L7
 repeat (go_not_at_region 9999; first | (go_at_call 8; (with_reducible refine (laws_ySame.calls a4 _ _ a5 _ _ uz4 true _ ?side1 ?side2 ?side3 ?side4 N3.out).mono ?_); (case side1 => repeat (first | exact (Kd.R_reads' a7.out).2.2 | (with_reducible refine Kd.C_alloc ?_ _) | (with_reducible refine Kd.C_drewN ?_ _) | (with_reducible refine Kd.C_drew ?_))); (case side2 => exact (Kd.R_reads' a7.out).2.1); (case side3 => repeat (first | exact (Kd.R_reads' a9.out).2.2 | (with_reducible refine Kd.C_alloc ?_ _) | (with_reducible refine Kd.C_drewN ?_ _) | (with_reducible refine Kd.C_drew ?_))); (case side4 => exact (Kd.R_reads' a9.out).2.1); rintro e w' ⟨rfl, ⟨nd, rfl⟩⟩; dsimp only; obtain ⟨a59, a60, L8⟩ := Kd.R_slice d8.out; subst L8; obtain ⟨a61, a62, L9⟩ := Kd.R_slice h3.out; subst L9) | (go_at_call 8; (with_reducible refine (laws_ySame.calls a4 _ _ uz6 _ _ uz7 true _ ?side1 ?side2 ?side3 ?side4 J0.out).mono ?_); (case side1 => repeat (first | exact (Kd.R_reads' d8.out).2.2 | (with_reducible refine Kd.C_alloc ?_ _) | (with_reducible refine Kd.C_drewN ?_ _) | (with_reducible refine Kd.C_drew ?_))); (case side2 => exact (Kd.R_reads' d8.out).2.1); (case side3 => repeat (first | exact (Kd.R_reads' h3.out).2.2 | (with_reducible refine Kd.C_alloc ?_ _) | (with_reducible refine Kd.C_drewN ?_ _) | (with_reducible refine Kd.C_drew ?_))); (case side4 => exact (Kd.R_reads' h3.out).2.1); rintro e w' ⟨rfl, ⟨nd, rfl⟩⟩; dsimp only) | (with_reducible refine rgl ?_) | go_skip | go_guarded | go_step | go_upon)
 go_meet
 case rel => exact ⟨_, (false), sR, H', ⟨laws_FnMirrorsFace.jx⟩, ⟨by (with_reducible repeat (first | apply Kd.R_alloc | apply Kd.R_drewN | apply Kd.R_drew)); exact Kd.R_mono a7.out (fun _ hk => trivial)⟩, ⟨bB⟩⟩
 )
 replace m7 := Bool.eq_false_iff.mpr m7
 subst m7
 rw [if_neg nft] at H
 exact absurd H (by cases a4 <;> simp [laws_FnMirrorsFace.j4, HT_l.out])
 )
 rw [if_neg m5] at H
 exact absurd H (by cases a4 <;> simp [laws_FnMirrorsFace.j4, HT_l.out])
 )
 rw [if_neg m2] at H
 exact absurd H (by cases a4 <;> simp [laws_FnMirrorsFace.j4, HT_l.out])
 )
 replace m0 := Bool.eq_false_iff.mpr m0
 subst m0
 rw [if_neg nft] at H
 exact absurd H (by cases a4 <;> simp [laws_FnMirrorsFace.j4, HT_l.out])
 )
 rw [if_neg z8] at H
 exact absurd H (by cases a4 <;> simp [laws_FnMirrorsFace.j4, HT_l.out])
 )
 rw [if_neg z6] at H
 exact absurd H (by cases a4 <;> simp [laws_FnMirrorsFace.j4, HT_l.out])
 )
 rw [if_neg z4] at H
 exact absurd H (by cases a4 <;> simp [laws_FnMirrorsFace.j4, HT_l.out])
 )
 rw [if_neg z2] at H
 exact absurd H (by cases a4 <;> simp [laws_FnMirrorsFace.j4, HT_l.out])
 )
 rw [if_neg y8] at H
 exact absurd H (by cases a4 <;> simp [laws_FnMirrorsFace.j4, HT_l.out])
 )
 )
 clear uz9
 obtain ⟨kq, h4, rfl, HA, HJ63, a2, HB⟩ := hcut
 cases kq with
 | zero => exact absurd HA.out (by simp [laws_FnMirrorsFace.j4])
 | succ P6 => (
 as_aux_lemma => (
 have H := HA.out
 clear HA
 simp only [laws_FnMirrorsFace.j4] at H
 by_cases m9 : h4 = true
 ·(
 subst m9
 rw [if_pos rfl] at H
 exact fy HT_l H
 )
 replace m9 := Bool.eq_false_iff.mpr m9
 subst m9
 rw [if_neg nft] at H
 have n0 := Aside0.mk H
 clear H
 repeat (go_not_at_region 46; first | (with_reducible refine rgl ?_) | go_skip | go_guarded | go_step | go_upon)
 go_cut [451] from 451 to 451 (fun J1 wc => ∃ (kq : Nat) (g1 : Bool), J1 = .bool g1 ∧ Aside0 (laws_FnMirrorsFace.j5 kq c2 d0 a6 h6 e5 e0 e6 g7 i4 c5 c6 c7 c8 b8 h7 b4 b5 b0 d2 d3 d1 d7 b1 b6 a5 d4 b9 g1 = some r) ∧ Aside0 (kq ≤ P6) ∧ Aside0 (Kd.R (Kd.int .i64) 3 wc w.heap.size (fun _ => True) e7 a5) ∧ Aside0 (Below w.heap.size w wc))
 case first => (
 as_aux_lemma => (
 have H := n0.out
 clear n0
 by_cases n1 : l9 = true
 ·(
 subst n1
 rw [if_pos rfl] at H
 have H' := Aside0.mk H
 clear H
 repeat (go_not_at_region 9999; first | (with_reducible refine rgl ?_) | go_skip | go_guarded | go_step | go_upon)
 go_meet
 case rel => exact ⟨_, (decide ((a6.size : Int) > 0)), sR, H', ⟨laws_FnMirrorsFace.jx⟩, ⟨oR a2⟩, ⟨bB⟩⟩
 )
 replace n1 := Bool.eq_false_iff.mpr n1
 subst n1
 rw [if_neg nft] at H
 have H' := Aside0.mk H
 clear H
 repeat (go_not_at_region 9999; first | (with_reducible refine rgl ?_) | go_skip | go_guarded | go_step | go_upon)
 go_meet
 case rel => exact ⟨_, (false), sR, H', ⟨laws_FnMirrorsFace.jx⟩, ⟨oR a2⟩, ⟨bB⟩⟩
 )
 )
 clear n0
 obtain ⟨kq, g1, rfl, HA, HJ118, a2, HB⟩ := hcut
 cases kq with
 | zero => exact absurd HA.out (by simp [laws_FnMirrorsFace.j5])
 | succ i2 => (
 as_aux_lemma => (
 have H := HA.out
 clear HA
 simp only [laws_FnMirrorsFace.j5] at H
 have n2 := Aside0.mk H
 clear H
 repeat (go_not_at_if 451; first | (with_reducible refine rgl ?_) | go_skip | go_guarded | go_step | go_upon)
 go_cut [451] from 451 to 451 (fun J1 wc => ∃ (kq : Nat), Aside0 (laws_FnMirrorsFace.j6 kq e5 e0 e6 g7 i4 c5 c6 c7 c8 b8 h7 b4 b5 b0 d2 d3 d1 d7 b1 b6 a5 d4 b9 = some r) ∧ Aside0 (kq ≤ i2) ∧ Aside0 (Kd.R (Kd.int .i64) 3 wc w.heap.size (fun _ => True) e7 a5) ∧ Aside0 (Below w.heap.size w wc))
 case first => (
 as_aux_lemma => (
 have H := n2.out
 clear n2
 by_cases n3 : g1 = true
 ·(
 subst n3
 rw [if_pos rfl] at H
 obtain ⟨a3, e1⟩ : ∃ j_ : Int, (wrap64 ((a6.size : Int) - 1)) = j_ := ⟨_, rfl⟩
 (first | rw [e1] at H | simp only [e1] at H)
 have S8 : (IntKind.i64.wrap ((a6.size : Int) - 1)) = a3 := (i64_w _).trans e1
 by_cases j8 : 0 ≤ (a3)
 ·(
 rw [if_pos j8] at H
 have Y1 := eq_true j8
 have Y2 : decide (0 ≤ (a3)) = true := decide_eq_true j8
 clear j8
 by_cases j9 : (a3) ≤ (a6.size : Int)
 ·(
 rw [if_pos j9] at H
 have Y3 := eq_true j9
 have Y4 : decide ((a3) ≤ (a6.size : Int)) = true := decide_eq_true j9
 clear j9
 replace H := Option.bind_eq_some_iff.mp H; obtain ⟨⟨h8, P7⟩, A4, H⟩ := H; (try dsimp only at H); have n4 := Aside0.mk A4; clear A4
 by_cases n5 : P7 = true
 ·(
 subst n5
 rw [if_pos rfl] at H
 by_cases n6 : (a3) < (a6.size : Int)
 ·(
 rw [if_pos n6] at H
 have s5 : decide ((a3) < (a6.size : Int)) = true := decide_eq_true n6
 clear n6
 (first | rw [s5] | (simp only [i64_w, i32_w]; rw [s5]) | skip)
 by_cases k0 : (bt a6 (a3)) = 108
 ·(
 rw [if_pos k0] at H
 obtain ⟨J2, J3⟩ := yE k0
 clear k0
 by_cases n7 : h6 = (wrap64 (-h8))
 ·(
 rw [if_pos n7] at H
 obtain ⟨Y5, Y6⟩ := yE n7
 clear n7
 by_cases k1 : (bt a6 (a3)) = 114
 ·(
 rw [if_pos k1] at H
 obtain ⟨J4, J5⟩ := yE k1
 clear k1
 by_cases n8 : h6 = (wrap64 ((wrap64 (2 * c2)) - h8))
 ·(
 rw [if_pos n8] at H
 obtain ⟨Y7, Y8⟩ := yE n8
 clear n8
 have H' := Aside0.mk H
 clear H
 repeat (go_not_at_region 9999; first | ((with_reducible refine gate_callee (f := 11) rfl ?_); refine goesL_ (some 460) rfl rfl Tryz.func11 kr rfl #[.int .i64 c2, .int .i64 d0, .string (a6.extract 0 ((a3) : Int).toNat)] rfl (by (try simp only [List.map_toArray, List.map_cons, List.map_nil]); first | done | (simp only [e1]; rfl) | rfl | (simp only [List.length_drop, List.length_take]; rfl)) ?_; (with_reducible refine (impl_ImageAfter.calls i2 c2 d0 (a6.extract 0 ((a3) : Int).toNat) h8 true _ n4.out (HM.out.below (by repeat (first | (with_reducible first | exact HB.out | apply below_alloc | apply pw_below_drewN | apply below_drew1 | refine below_set ?_ (Aside0.out (by assumption))) | exact HB.out)))).mono ?_); rintro e a76 ⟨rfl, hb⟩; refine ⟨_, rfl, ?_⟩; replace a2 := Aside0.mk (Kd.R_below (oR a2) hb); replace HB := Aside0.mk (below_step bB hb); (try clear hb); have e2 : 0 ≤ ((a3) : Int) := of_decide_eq_true asm; have e3 : (a3) < (a6.size : Int) := of_decide_eq_true (by first | exact s5 | exact asm); have n9 := bt_at a6 (a3); replace e2 := eq_true e2; replace e3 := eq_true e3; have k2 : 0 ≤ ((a3) : Int) := of_decide_eq_true asm; have k4 : (a3) < (a6.size : Int) := of_decide_eq_true (by first | exact s5 | exact asm); have M0 := bt_at a6 (a3); replace k2 := eq_true k2; replace k4 := eq_true k4) | (go_at_call 11; (with_reducible refine (impl_ImageAfter.calls i2 c2 d0 (a6.extract 0 ((a3) : Int).toNat) h8 true _ n4.out (HM.out.below (by repeat (first | (with_reducible first | exact HB.out | apply below_alloc | apply pw_below_drewN | apply below_drew1 | refine below_set ?_ (Aside0.out (by assumption))) | exact HB.out)))).mono ?_); rintro e a76 ⟨rfl, hb⟩; dsimp only; replace a2 := Aside0.mk (Kd.R_below (oR a2) hb); replace HB := Aside0.mk (below_step bB hb); (try clear hb); have e2 : 0 ≤ ((a3) : Int) := of_decide_eq_true asm; have e3 : (a3) < (a6.size : Int) := of_decide_eq_true (by first | exact s5 | exact asm); have n9 := bt_at a6 (a3); replace e2 := eq_true e2; replace e3 := eq_true e3; have k2 : 0 ≤ ((a3) : Int) := of_decide_eq_true asm; have k4 : (a3) < (a6.size : Int) := of_decide_eq_true (by first | exact s5 | exact asm); have M0 := bt_at a6 (a3); replace k2 := eq_true k2; replace k4 := eq_true k4) | (with_reducible refine rgl ?_) | go_skip | go_guarded | go_step | go_upon)
 go_meet
 case rel => exact ⟨_, H', ⟨laws_FnMirrorsFace.jx⟩, ⟨oR a2⟩, ⟨bB⟩⟩
 )
 rw [if_neg n8] at H
 exact fy HT_l H
 )
 rw [if_neg k1] at H
 obtain ⟨J4, J5⟩ := nE k1
 have H' := Aside0.mk H
 clear H
 repeat (go_not_at_region 9999; first | ((with_reducible refine gate_callee (f := 11) rfl ?_); refine goesL_ (some 460) rfl rfl Tryz.func11 kr rfl #[.int .i64 c2, .int .i64 d0, .string (a6.extract 0 ((a3) : Int).toNat)] rfl (by (try simp only [List.map_toArray, List.map_cons, List.map_nil]); first | done | (simp only [e1]; rfl) | rfl | (simp only [List.length_drop, List.length_take]; rfl)) ?_; (with_reducible refine (impl_ImageAfter.calls i2 c2 d0 (a6.extract 0 ((a3) : Int).toNat) h8 true _ n4.out (HM.out.below (by repeat (first | (with_reducible first | exact HB.out | apply below_alloc | apply pw_below_drewN | apply below_drew1 | refine below_set ?_ (Aside0.out (by assumption))) | exact HB.out)))).mono ?_); rintro e a77 ⟨rfl, hb⟩; refine ⟨_, rfl, ?_⟩; replace a2 := Aside0.mk (Kd.R_below (oR a2) hb); replace HB := Aside0.mk (below_step bB hb); (try clear hb); have e2 : 0 ≤ ((a3) : Int) := of_decide_eq_true asm; have e3 : (a3) < (a6.size : Int) := of_decide_eq_true (by first | exact s5 | exact asm); have n9 := bt_at a6 (a3); replace e2 := eq_true e2; replace e3 := eq_true e3; have k2 : 0 ≤ ((a3) : Int) := of_decide_eq_true asm; have k4 : (a3) < (a6.size : Int) := of_decide_eq_true (by first | exact s5 | exact asm); have M0 := bt_at a6 (a3); replace k2 := eq_true k2; replace k4 := eq_true k4) | (go_at_call 11; (with_reducible refine (impl_ImageAfter.calls i2 c2 d0 (a6.extract 0 ((a3) : Int).toNat) h8 true _ n4.out (HM.out.below (by repeat (first | (with_reducible first | exact HB.out | apply below_alloc | apply pw_below_drewN | apply below_drew1 | refine below_set ?_ (Aside0.out (by assumption))) | exact HB.out)))).mono ?_); rintro e a77 ⟨rfl, hb⟩; dsimp only; replace a2 := Aside0.mk (Kd.R_below (oR a2) hb); replace HB := Aside0.mk (below_step bB hb); (try clear hb); have e2 : 0 ≤ ((a3) : Int) := of_decide_eq_true asm; have e3 : (a3) < (a6.size : Int) := of_decide_eq_true (by first | exact s5 | exact asm); have n9 := bt_at a6 (a3); replace e2 := eq_true e2; replace e3 := eq_true e3; have k2 : 0 ≤ ((a3) : Int) := of_decide_eq_true asm; have k4 : (a3) < (a6.size : Int) := of_decide_eq_true (by first | exact s5 | exact asm); have M0 := bt_at a6 (a3); replace k2 := eq_true k2; replace k4 := eq_true k4) | (with_reducible refine rgl ?_) | go_skip | go_guarded | go_step | go_upon)
 go_meet
 case rel => exact ⟨_, H', ⟨laws_FnMirrorsFace.jx⟩, ⟨oR a2⟩, ⟨bB⟩⟩
 )
 rw [if_neg n7] at H
 exact fy HT_l H
 )
 rw [if_neg k0] at H
 obtain ⟨J2, J3⟩ := nE k0
 by_cases k5 : (bt a6 (a3)) = 114
 ·(
 rw [if_pos k5] at H
 obtain ⟨J6, J7⟩ := yE k5
 clear k5
 by_cases o0 : h6 = (wrap64 ((wrap64 (2 * c2)) - h8))
 ·(
 rw [if_pos o0] at H
 obtain ⟨Y9, Z0⟩ := yE o0
 clear o0
 have H' := Aside0.mk H
 clear H
 repeat (go_not_at_region 9999; first | ((with_reducible refine gate_callee (f := 11) rfl ?_); refine goesL_ (some 460) rfl rfl Tryz.func11 kr rfl #[.int .i64 c2, .int .i64 d0, .string (a6.extract 0 ((a3) : Int).toNat)] rfl (by (try simp only [List.map_toArray, List.map_cons, List.map_nil]); first | done | (simp only [e1]; rfl) | rfl | (simp only [List.length_drop, List.length_take]; rfl)) ?_; (with_reducible refine (impl_ImageAfter.calls i2 c2 d0 (a6.extract 0 ((a3) : Int).toNat) h8 true _ n4.out (HM.out.below (by repeat (first | (with_reducible first | exact HB.out | apply below_alloc | apply pw_below_drewN | apply below_drew1 | refine below_set ?_ (Aside0.out (by assumption))) | exact HB.out)))).mono ?_); rintro e a78 ⟨rfl, hb⟩; refine ⟨_, rfl, ?_⟩; replace a2 := Aside0.mk (Kd.R_below (oR a2) hb); replace HB := Aside0.mk (below_step bB hb); (try clear hb); have e2 : 0 ≤ ((a3) : Int) := of_decide_eq_true asm; have e3 : (a3) < (a6.size : Int) := of_decide_eq_true (by first | exact s5 | exact asm); have n9 := bt_at a6 (a3); replace e2 := eq_true e2; replace e3 := eq_true e3; have k6 : 0 ≤ ((a3) : Int) := of_decide_eq_true asm; have k7 : (a3) < (a6.size : Int) := of_decide_eq_true (by first | exact s5 | exact asm); have M1 := bt_at a6 (a3); replace k6 := eq_true k6; replace k7 := eq_true k7) | (go_at_call 11; (with_reducible refine (impl_ImageAfter.calls i2 c2 d0 (a6.extract 0 ((a3) : Int).toNat) h8 true _ n4.out (HM.out.below (by repeat (first | (with_reducible first | exact HB.out | apply below_alloc | apply pw_below_drewN | apply below_drew1 | refine below_set ?_ (Aside0.out (by assumption))) | exact HB.out)))).mono ?_); rintro e a78 ⟨rfl, hb⟩; dsimp only; replace a2 := Aside0.mk (Kd.R_below (oR a2) hb); replace HB := Aside0.mk (below_step bB hb); (try clear hb); have e2 : 0 ≤ ((a3) : Int) := of_decide_eq_true asm; have e3 : (a3) < (a6.size : Int) := of_decide_eq_true (by first | exact s5 | exact asm); have n9 := bt_at a6 (a3); replace e2 := eq_true e2; replace e3 := eq_true e3; have k6 : 0 ≤ ((a3) : Int) := of_decide_eq_true asm; have k7 : (a3) < (a6.size : Int) := of_decide_eq_true (by first | exact s5 | exact asm); have M1 := bt_at a6 (a3); replace k6 := eq_true k6; replace k7 := eq_true k7) | (with_reducible refine rgl ?_) | go_skip | go_guarded | go_step | go_upon)
 go_meet
 case rel => exact ⟨_, H', ⟨laws_FnMirrorsFace.jx⟩, ⟨oR a2⟩, ⟨bB⟩⟩
 )
 rw [if_neg o0] at H
 exact fy HT_l H
 )
 rw [if_neg k5] at H
 obtain ⟨J6, J7⟩ := nE k5
 have H' := Aside0.mk H
 clear H
 repeat (go_not_at_region 9999; first | ((with_reducible refine gate_callee (f := 11) rfl ?_); refine goesL_ (some 460) rfl rfl Tryz.func11 kr rfl #[.int .i64 c2, .int .i64 d0, .string (a6.extract 0 ((a3) : Int).toNat)] rfl (by (try simp only [List.map_toArray, List.map_cons, List.map_nil]); first | done | (simp only [e1]; rfl) | rfl | (simp only [List.length_drop, List.length_take]; rfl)) ?_; (with_reducible refine (impl_ImageAfter.calls i2 c2 d0 (a6.extract 0 ((a3) : Int).toNat) h8 true _ n4.out (HM.out.below (by repeat (first | (with_reducible first | exact HB.out | apply below_alloc | apply pw_below_drewN | apply below_drew1 | refine below_set ?_ (Aside0.out (by assumption))) | exact HB.out)))).mono ?_); rintro e a79 ⟨rfl, hb⟩; refine ⟨_, rfl, ?_⟩; replace a2 := Aside0.mk (Kd.R_below (oR a2) hb); replace HB := Aside0.mk (below_step bB hb); (try clear hb); have e2 : 0 ≤ ((a3) : Int) := of_decide_eq_true asm; have e3 : (a3) < (a6.size : Int) := of_decide_eq_true (by first | exact s5 | exact asm); have n9 := bt_at a6 (a3); replace e2 := eq_true e2; replace e3 := eq_true e3; have k6 : 0 ≤ ((a3) : Int) := of_decide_eq_true asm; have k7 : (a3) < (a6.size : Int) := of_decide_eq_true (by first | exact s5 | exact asm); have M1 := bt_at a6 (a3); replace k6 := eq_true k6; replace k7 := eq_true k7) | (go_at_call 11; (with_reducible refine (impl_ImageAfter.calls i2 c2 d0 (a6.extract 0 ((a3) : Int).toNat) h8 true _ n4.out (HM.out.below (by repeat (first | (with_reducible first | exact HB.out | apply below_alloc | apply pw_below_drewN | apply below_drew1 | refine below_set ?_ (Aside0.out (by assumption))) | exact HB.out)))).mono ?_); rintro e a79 ⟨rfl, hb⟩; dsimp only; replace a2 := Aside0.mk (Kd.R_below (oR a2) hb); replace HB := Aside0.mk (below_step bB hb); (try clear hb); have e2 : 0 ≤ ((a3) : Int) := of_decide_eq_true asm; have e3 : (a3) < (a6.size : Int) := of_decide_eq_true (by first | exact s5 | exact asm); have n9 := bt_at a6 (a3); replace e2 := eq_true e2; replace e3 := eq_true e3; have k6 : 0 ≤ ((a3) : Int) := of_decide_eq_true asm; have k7 : (a3) < (a6.size : Int) := of_decide_eq_true (by first | exact s5 | exact asm); have M1 := bt_at a6 (a3); replace k6 := eq_true k6; replace k7 := eq_true k7) | (with_reducible refine rgl ?_) | go_skip | go_guarded | go_step | go_upon)
 go_meet
 case rel => exact ⟨_, H', ⟨laws_FnMirrorsFace.jx⟩, ⟨oR a2⟩, ⟨bB⟩⟩
 )
 rw [if_neg n6] at H
 exact absurd H (by simp)
 )
 replace n5 := Bool.eq_false_iff.mpr n5
 subst n5
 rw [if_neg nft] at H
 exact fy HT_l H
 )
 rw [if_neg j9] at H
 exact absurd H (by simp)
 )
 rw [if_neg j8] at H
 exact absurd H (by simp)
 )
 replace n3 := Bool.eq_false_iff.mpr n3
 subst n3
 rw [if_neg nft] at H
 have H' := Aside0.mk H
 clear H
 repeat (go_not_at_region 9999; first | (with_reducible refine rgl ?_) | go_skip | go_guarded | go_step | go_upon)
 go_meet
 case rel => exact ⟨_, H', ⟨laws_FnMirrorsFace.jx⟩, ⟨oR a2⟩, ⟨bB⟩⟩
 )
 )
 clear n2
 obtain ⟨kq, HA, HJ120, a2, HB⟩ := hcut
 cases kq with
 | zero => exact absurd HA.out (by simp [laws_FnMirrorsFace.j6])
 | succ A8 => (
 as_aux_lemma => (
 have H := HA.out
 clear HA
 simp only [laws_FnMirrorsFace.j6] at H
 have o1 := Aside0.mk H
 clear H
 repeat (go_not_at_if 495; first | (with_reducible refine rgl ?_) | go_skip | go_guarded | go_step | go_upon)
 go_cut [495] from 495 to 495 (fun a80 wc => ∃ (kq : Nat), Aside0 (laws_FnMirrorsFace.j7 kq c5 c6 c7 c8 b8 h7 b4 b5 b0 d2 d3 d1 d7 b1 b6 a5 d4 b9 = some r) ∧ Aside0 (kq ≤ A8) ∧ Aside0 (Kd.R (Kd.int .i64) 3 wc w.heap.size (fun _ => True) e7 a5) ∧ Aside0 (Below w.heap.size w wc))
 case first => (
 as_aux_lemma => (
 have H := o1.out
 clear o1
 by_cases o2 : i4 = true
 ·(
 subst o2
 rw [if_pos rfl] at H
 replace H := Option.bind_eq_some_iff.mp H; obtain ⟨⟨J8, P8⟩, A9, H⟩ := H; (try dsimp only at H); have P9 := Aside0.mk A9; clear A9
 by_cases o3 : P8 = true
 ·(
 subst o3
 rw [if_pos rfl] at H
 by_cases o4 : J8 = e6
 ·(
 rw [if_pos o4] at H
 obtain ⟨s6, Z1⟩ := yE o4
 clear o4
 (first | rw [s6] | (simp only [i64_w, i32_w]; rw [s6]) | skip)
 by_cases o5 : ((g7.toList == ([] : List UInt8)) != (e6 == e0)) = true
 ·(
 rw [if_pos o5] at H
 exact fy HT_l H
 )
 rw [if_neg o5] at H
 obtain ⟨Z2, Z3, Z4⟩ := nf o5
 have ZZ5 := zz_bools _ _ Z2
 clear o5
 have H' := Aside0.mk H
 clear H
 repeat (go_not_at_region 9999; first | ((with_reducible refine gate_callee (f := 11) rfl ?_); refine goesL_ (some 500) rfl rfl Tryz.func11 kr rfl #[.int .i64 e5, .int .i64 e0, .string g7] rfl sM ?_; (with_reducible refine (impl_ImageAfter.calls A8 e5 e0 g7 J8 true _ P9.out (HM.out.below (by repeat (first | (with_reducible first | exact HB.out | apply below_alloc | apply pw_below_drewN | apply below_drew1 | refine below_set ?_ (Aside0.out (by assumption))) | exact HB.out)))).mono ?_); rintro e a81 ⟨rfl, hb⟩; refine ⟨_, rfl, ?_⟩; replace a2 := Aside0.mk (Kd.R_below (oR a2) hb); replace HB := Aside0.mk (below_step bB hb); (try clear hb)) | (with_reducible refine rgl ?_) | go_skip | go_guarded | go_step | go_upon)
 go_meet
 case rel => exact ⟨_, H', ⟨laws_FnMirrorsFace.jx⟩, ⟨oR a2⟩, ⟨bB⟩⟩
 )
 rw [if_neg o4] at H
 exact fy HT_l H
 )
 replace o3 := Bool.eq_false_iff.mpr o3
 subst o3
 rw [if_neg nft] at H
 exact fy HT_l H
 )
 replace o2 := Bool.eq_false_iff.mpr o2
 subst o2
 rw [if_neg nft] at H
 have H' := Aside0.mk H
 clear H
 repeat (go_not_at_region 9999; first | (with_reducible refine rgl ?_) | go_skip | go_guarded | go_step | go_upon)
 go_meet
 case rel => exact ⟨_, H', ⟨laws_FnMirrorsFace.jx⟩, ⟨oR a2⟩, ⟨bB⟩⟩
 )
 )
 clear o1
 obtain ⟨kq, HA, HJ141, a2, HB⟩ := hcut
 cases kq with
 | zero => exact absurd HA.out (by simp [laws_FnMirrorsFace.j7])
 | succ M2 => (
 as_aux_lemma => (
 have H := HA.out
 clear HA
 simp only [laws_FnMirrorsFace.j7] at H
 have o6 := Aside0.mk H
 clear H
 repeat (go_not_at_region 54; first | (with_reducible refine rgl ?_) | go_skip | go_guarded | go_step | go_upon)
 go_cut [522] from 522 to 522 (fun J9 wc => ∃ (kq : Nat) (g2 : Bool), J9 = .bool g2 ∧ Aside0 (laws_FnMirrorsFace.j8 kq c5 c6 c7 c8 b8 b4 b5 b0 d2 d3 d1 d7 b1 b6 a5 d4 b9 g2 = some r) ∧ Aside0 (kq ≤ M2) ∧ Aside0 (Kd.R (Kd.int .i64) 3 wc w.heap.size (fun _ => True) e7 a5) ∧ Aside0 (Below w.heap.size w wc))
 case first => (
 as_aux_lemma => (
 have H := o6.out
 clear o6
 by_cases o7 : h7 = true
 ·(
 subst o7
 rw [if_pos rfl] at H
 have H' := Aside0.mk H
 clear H
 repeat (go_not_at_region 9999; first | (with_reducible refine rgl ?_) | go_skip | go_guarded | go_step | go_upon)
 go_meet
 case rel => exact ⟨_, (decide (c8 ≤ 40)), sR, H', ⟨laws_FnMirrorsFace.jx⟩, ⟨oR a2⟩, ⟨bB⟩⟩
 )
 replace o7 := Bool.eq_false_iff.mpr o7
 subst o7
 rw [if_neg nft] at H
 have H' := Aside0.mk H
 clear H
 repeat (go_not_at_region 9999; first | (with_reducible refine rgl ?_) | go_skip | go_guarded | go_step | go_upon)
 go_meet
 case rel => exact ⟨_, (false), sR, H', ⟨laws_FnMirrorsFace.jx⟩, ⟨oR a2⟩, ⟨bB⟩⟩
 )
 )
 clear o6
 obtain ⟨kq, g2, rfl, HA, HJ148, a2, HB⟩ := hcut
 cases kq with
 | zero => exact absurd HA.out (by simp [laws_FnMirrorsFace.j8])
 | succ j1 => (
 as_aux_lemma => (
 have H := HA.out
 clear HA
 simp only [laws_FnMirrorsFace.j8] at H
 have o8 := Aside0.mk H
 clear H
 repeat (go_not_at_if 522; first | (with_reducible refine rgl ?_) | go_skip | go_guarded | go_step | go_upon)
 go_cut [522] from 522 to 522 (fun J9 wc => ∃ (kq : Nat), Aside0 (laws_FnMirrorsFace.j11 kq b4 b5 b0 d2 d3 d1 d7 b1 b6 a5 d4 b9 = some r) ∧ Aside0 (kq ≤ j1) ∧ Aside0 (Kd.R (Kd.int .i64) 3 wc w.heap.size (fun _ => True) e7 a5) ∧ Aside0 (Below w.heap.size w wc))
 case first => (
 as_aux_lemma => (
 have H := o8.out
 clear o8
 by_cases k8 : g2 = true
 ·(
 subst k8
 rw [if_pos rfl] at H
 replace H := Option.bind_eq_some_iff.mp H; obtain ⟨⟨K0, K1⟩, B0, H⟩ := H; (try dsimp only at H); have R0 := Aside0.mk B0; clear B0
 have o9 := Aside0.mk H
 clear H
 go_upto_region 56 with (first | ((with_reducible refine gate_callee (f := 20) rfl ?_); refine goesL_ (some 529) rfl rfl Tryz.func20 kr rfl #[.int .i64 c5, .int .i64 c6, .int .i64 c7, .int .i64 (wrap64 (b8 + 1))] rfl sM ?_; (with_reducible refine (impl_FarthestOf.calls j1 c5 c6 c7 (wrap64 (b8 + 1)) K0 K1 _ R0.out).mono ?_); rintro e a82 ⟨rfl, hb⟩; refine ⟨_, rfl, ?_⟩; replace a2 := Aside0.mk (Kd.R_below (oR a2) hb); replace HB := Aside0.mk (below_step bB hb); (try clear hb)))
 (try simp only [Act.put, List.setIfInBounds_toArray, List.set_cons_zero, List.set_cons_succ])
 go_cut [542] from 542 to 542 (fun R1 wc => ∃ (kq : Nat) (g3 : Bool), R1 = .bool g3 ∧ Aside0 (laws_FnMirrorsFace.j9 kq c5 c6 c7 c8 b8 b4 b5 b0 d2 d3 d1 d7 b1 b6 a5 d4 b9 g3 = some r) ∧ Aside0 (kq ≤ j1) ∧ Aside0 (Kd.R (Kd.int .i64) 3 wc w.heap.size (fun _ => True) e7 a5) ∧ Aside0 (Below w.heap.size w wc))
 case first => (
 as_aux_lemma => (
 have H := o9.out
 clear o9
 by_cases i5 : b8 < 40
 ·(
 rw [if_pos i5] at H
 have g8 : decide (b8 < 40) = true := decide_eq_true i5
 clear i5
 (first | rw [g8] | (simp only [i64_w, i32_w]; rw [g8]) | skip)
 by_cases p0 : K1 = true
 ·(
 subst p0
 rw [if_pos rfl] at H
 have H' := Aside0.mk H
 clear H
 repeat (go_not_at_region 9999; first | (with_reducible refine rgl ?_) | go_skip | go_guarded | go_step | go_upon)
 go_meet
 case rel => exact ⟨_, (decide (K0 ≤ c8)), sR, H', ⟨laws_FnMirrorsFace.jx⟩, ⟨oR a2⟩, ⟨bB⟩⟩
 )
 replace p0 := Bool.eq_false_iff.mpr p0
 subst p0
 rw [if_neg nft] at H
 exact absurd H (by cases j1 <;> simp [laws_FnMirrorsFace.j9, HT_l.out])
 )
 rw [if_neg i5] at H
 have g8 : decide (b8 < 40) = false := decide_eq_false i5
 clear i5
 (first | rw [g8] | (simp only [i64_w, i32_w]; rw [g8]) | skip)
 have H' := Aside0.mk H
 clear H
 repeat (go_not_at_region 9999; first | (with_reducible refine rgl ?_) | go_skip | go_guarded | go_step | go_upon)
 go_meet
 case rel => exact ⟨_, (false), sR, H', ⟨laws_FnMirrorsFace.jx⟩, ⟨oR a2⟩, ⟨bB⟩⟩
 )
 )
 clear o9
 try clear k8
 obtain ⟨kq, g3, rfl, HA, HJ153, a2, HB⟩ := hcut
 cases kq with
 | zero => exact absurd HA.out (by simp [laws_FnMirrorsFace.j9])
 | succ M3 => (
 as_aux_lemma => (
 have H := HA.out
 clear HA
 simp only [laws_FnMirrorsFace.j9] at H
 by_cases p1 : g3 = true
 ·(
 subst p1
 rw [if_pos rfl] at H
 exact fy HT_l H
 )
 replace p1 := Bool.eq_false_iff.mpr p1
 subst p1
 rw [if_neg nft] at H
 have p2 := Aside0.mk H
 clear H
 repeat (go_not_at_region 58; first | (with_reducible refine rgl ?_) | go_skip | go_guarded | go_step | go_upon)
 go_cut [548] from 548 to 548 (fun R2 wc => ∃ (kq : Nat) (g4 : Bool), R2 = .bool g4 ∧ Aside0 (laws_FnMirrorsFace.j10 kq c5 c6 c7 c8 b8 b4 b5 b0 d2 d3 d1 d7 b1 b6 a5 d4 b9 g4 = some r) ∧ Aside0 (kq ≤ M3) ∧ Aside0 (Kd.R (Kd.int .i64) 3 wc w.heap.size (fun _ => True) e7 a5) ∧ Aside0 (Below w.heap.size w wc))
 case first => (
 as_aux_lemma => (
 have H := p2.out
 clear p2
 by_cases i6 : b8 > 0
 ·(
 rw [if_pos i6] at H
 have g9 : decide (0 < b8) = true := decide_eq_true i6
 clear i6
 (first | rw [g9] | (simp only [i64_w, i32_w]; rw [g9]) | skip)
 have H' := Aside0.mk H
 clear H
 repeat (go_not_at_region 9999; first | (with_reducible refine rgl ?_) | go_skip | go_guarded | go_step | go_upon)
 go_meet
 case rel => exact ⟨_, (decide (b8 ≤ 40)), sR, H', ⟨laws_FnMirrorsFace.jx⟩, ⟨oR a2⟩, ⟨bB⟩⟩
 )
 rw [if_neg i6] at H
 have g9 : decide (0 < b8) = false := decide_eq_false i6
 clear i6
 (first | rw [g9] | (simp only [i64_w, i32_w]; rw [g9]) | skip)
 have H' := Aside0.mk H
 clear H
 repeat (go_not_at_region 9999; first | (with_reducible refine rgl ?_) | go_skip | go_guarded | go_step | go_upon)
 go_meet
 case rel => exact ⟨_, (false), sR, H', ⟨laws_FnMirrorsFace.jx⟩, ⟨oR a2⟩, ⟨bB⟩⟩
 )
 )
 clear p2
 obtain ⟨kq, g4, rfl, HA, HJ158, a2, HB⟩ := hcut
 cases kq with
 | zero => exact absurd HA.out (by simp [laws_FnMirrorsFace.j10])
 | succ M4 => (
 as_aux_lemma => (
 have H := HA.out
 clear HA
 simp only [laws_FnMirrorsFace.j10] at H
 by_cases p3 : g4 = true
 ·(
 subst p3
 rw [if_pos rfl] at H
 replace H := Option.bind_eq_some_iff.mp H; obtain ⟨⟨v0, R3⟩, B1, H⟩ := H; (try dsimp only at H); have R4 := Aside0.mk B1; clear B1
 by_cases p4 : R3 = true
 ·(
 subst p4
 rw [if_pos rfl] at H
 by_cases p5 : v0 > c8
 ·(
 rw [if_pos p5] at H
 exact fy HT_l H
 )
 rw [if_neg p5] at H
 have Z5 : decide (c8 < v0) = false := decide_eq_false p5
 clear p5
 have H' := Aside0.mk H
 clear H
 repeat (go_not_at_region 9999; first | ((with_reducible refine gate_callee (f := 20) rfl ?_); refine goesL_ (some 554) rfl rfl Tryz.func20 kr rfl #[.int .i64 c5, .int .i64 c6, .int .i64 c7, .int .i64 b8] rfl sM ?_; (with_reducible refine (impl_FarthestOf.calls M4 c5 c6 c7 b8 v0 true _ R4.out).mono ?_); rintro e a83 ⟨rfl, hb⟩; refine ⟨_, rfl, ?_⟩; replace a2 := Aside0.mk (Kd.R_below (oR a2) hb); replace HB := Aside0.mk (below_step bB hb); (try clear hb)) | (with_reducible refine rgl ?_) | go_skip | go_guarded | go_step | go_upon)
 go_meet
 case rel => exact ⟨_, H', ⟨laws_FnMirrorsFace.jx⟩, ⟨oR a2⟩, ⟨bB⟩⟩
 )
 replace p4 := Bool.eq_false_iff.mpr p4
 subst p4
 rw [if_neg nft] at H
 exact fy HT_l H
 )
 replace p3 := Bool.eq_false_iff.mpr p3
 subst p3
 rw [if_neg nft] at H
 have H' := Aside0.mk H
 clear H
 repeat (go_not_at_region 9999; first | (with_reducible refine rgl ?_) | go_skip | go_guarded | go_step | go_upon)
 go_meet
 case rel => exact ⟨_, H', ⟨laws_FnMirrorsFace.jx⟩, ⟨oR a2⟩, ⟨bB⟩⟩
 )
 )
 )
 )
 )
 replace k8 := Bool.eq_false_iff.mpr k8
 subst k8
 rw [if_neg nft] at H
 have H' := Aside0.mk H
 clear H
 repeat (go_not_at_region 9999; first | (with_reducible refine rgl ?_) | go_skip | go_guarded | go_step | go_upon)
 go_meet
 case rel => exact ⟨_, H', ⟨laws_FnMirrorsFace.jx⟩, ⟨oR a2⟩, ⟨bB⟩⟩
 )
 )
 clear o8
 obtain ⟨kq, HA, HJ150, a2, HB⟩ := hcut
 cases kq with
 | zero => exact absurd HA.out (by simp [laws_FnMirrorsFace.j11])
 | succ i3 => (
 as_aux_lemma => (
 have H := HA.out
 clear HA
 simp only [laws_FnMirrorsFace.j11] at H
 have p6 := Aside0.mk H
 clear H
 repeat (go_not_at_if 564; first | (with_reducible refine rgl ?_) | go_skip | go_guarded | go_step | go_upon)
 go_cut [564] from 564 to 564 (fun a84 wc => ∃ (kq : Nat), Aside0 (laws_FnMirrorsFace.j12 kq b1 b6 a5 d4 b9 = some r) ∧ Aside0 (kq ≤ i3) ∧ Aside0 (Kd.R (Kd.int .i64) 3 wc w.heap.size (fun _ => True) e7 a5) ∧ Aside0 (Below w.heap.size w wc))
 case first => (
 as_aux_lemma => (
 have H := p6.out
 clear p6
 by_cases p7 : d7 = true
 ·(
 subst p7
 rw [if_pos rfl] at H
 replace H := Option.bind_eq_some_iff.mp H; obtain ⟨⟨e8, K2⟩, B2, H⟩ := H; (try dsimp only at H); have p8 := Aside0.mk B2; clear B2
 by_cases i7 : (wrap64 (d1 - b0)) < 0
 ·(
 rw [if_pos i7] at H
 have h0 : decide ((wrap64 (d1 - b0)) < 0) = true := decide_eq_true i7
 clear i7
 (first | rw [h0] | (simp only [i64_w, i32_w]; rw [h0]) | skip)
 by_cases p9 : K2 = true
 ·(
 subst p9
 rw [if_pos rfl] at H
 by_cases q0 : (wrap64 (-(wrap64 (d1 - b0)))) = e8
 ·(
 rw [if_pos q0] at H
 obtain ⟨Z6, Z7⟩ := yE q0
 clear q0
 by_cases q1 : d3 = true
 ·(
 subst q1
 rw [if_pos rfl] at H
 by_cases q2 : d2 < e8
 ·(
 rw [if_pos q2] at H
 exact fy HT_l H
 )
 rw [if_neg q2] at H
 have Z8 : decide (d2 < e8) = false := decide_eq_false q2
 clear q2
 have H' := Aside0.mk H
 clear H
 repeat (go_not_at_region 9999; first | ((with_reducible refine gate_callee (f := 20) rfl ?_); refine goesL_ (some 569) rfl rfl Tryz.func20 kr rfl #[.int .i64 b4, .int .i64 b5, .int .i64 b0, .int .i64 1] rfl sM ?_; (with_reducible refine (impl_FarthestOf.calls i3 b4 b5 b0 1 e8 true _ p8.out).mono ?_); rintro e a85 ⟨rfl, hb⟩; refine ⟨_, rfl, ?_⟩; replace a2 := Aside0.mk (Kd.R_below (oR a2) hb); replace HB := Aside0.mk (below_step bB hb); (try clear hb)) | (with_reducible refine rgl ?_) | go_skip | go_guarded | go_step | go_upon)
 go_meet
 case rel => exact ⟨_, H', ⟨laws_FnMirrorsFace.jx⟩, ⟨oR a2⟩, ⟨bB⟩⟩
 )
 replace q1 := Bool.eq_false_iff.mpr q1
 subst q1
 rw [if_neg nft] at H
 have H' := Aside0.mk H
 clear H
 repeat (go_not_at_region 9999; first | ((with_reducible refine gate_callee (f := 20) rfl ?_); refine goesL_ (some 569) rfl rfl Tryz.func20 kr rfl #[.int .i64 b4, .int .i64 b5, .int .i64 b0, .int .i64 1] rfl sM ?_; (with_reducible refine (impl_FarthestOf.calls i3 b4 b5 b0 1 e8 true _ p8.out).mono ?_); rintro e a86 ⟨rfl, hb⟩; refine ⟨_, rfl, ?_⟩; replace a2 := Aside0.mk (Kd.R_below (oR a2) hb); replace HB := Aside0.mk (below_step bB hb); (try clear hb)) | (with_reducible refine rgl ?_) | go_skip | go_guarded | go_step | go_upon)
 go_meet
 case rel => exact ⟨_, H', ⟨laws_FnMirrorsFace.jx⟩, ⟨oR a2⟩, ⟨bB⟩⟩
 )
 rw [if_neg q0] at H
 exact fy HT_l H
 )
 replace p9 := Bool.eq_false_iff.mpr p9
 subst p9
 rw [if_neg nft] at H
 exact fy HT_l H
 )
 rw [if_neg i7] at H
 have h0 : decide ((wrap64 (d1 - b0)) < 0) = false := decide_eq_false i7
 clear i7
 (first | rw [h0] | (simp only [i64_w, i32_w]; rw [h0]) | skip)
 by_cases q3 : K2 = true
 ·(
 subst q3
 rw [if_pos rfl] at H
 by_cases q4 : (wrap64 (d1 - b0)) = e8
 ·(
 rw [if_pos q4] at H
 obtain ⟨Z9, a00⟩ := yE q4
 clear q4
 by_cases q5 : d3 = true
 ·(
 subst q5
 rw [if_pos rfl] at H
 by_cases q6 : d2 < e8
 ·(
 rw [if_pos q6] at H
 exact fy HT_l H
 )
 rw [if_neg q6] at H
 have a01 : decide (d2 < e8) = false := decide_eq_false q6
 clear q6
 have H' := Aside0.mk H
 clear H
 repeat (go_not_at_region 9999; first | ((with_reducible refine gate_callee (f := 20) rfl ?_); refine goesL_ (some 569) rfl rfl Tryz.func20 kr rfl #[.int .i64 b4, .int .i64 b5, .int .i64 b0, .int .i64 1] rfl sM ?_; (with_reducible refine (impl_FarthestOf.calls i3 b4 b5 b0 1 e8 true _ p8.out).mono ?_); rintro e a87 ⟨rfl, hb⟩; refine ⟨_, rfl, ?_⟩; replace a2 := Aside0.mk (Kd.R_below (oR a2) hb); replace HB := Aside0.mk (below_step bB hb); (try clear hb)) | (with_reducible refine rgl ?_) | go_skip | go_guarded | go_step | go_upon)
 go_meet
 case rel => exact ⟨_, H', ⟨laws_FnMirrorsFace.jx⟩, ⟨oR a2⟩, ⟨bB⟩⟩
 )
 replace q5 := Bool.eq_false_iff.mpr q5
 subst q5
 rw [if_neg nft] at H
 have H' := Aside0.mk H
 clear H
 repeat (go_not_at_region 9999; first | ((with_reducible refine gate_callee (f := 20) rfl ?_); refine goesL_ (some 569) rfl rfl Tryz.func20 kr rfl #[.int .i64 b4, .int .i64 b5, .int .i64 b0, .int .i64 1] rfl sM ?_; (with_reducible refine (impl_FarthestOf.calls i3 b4 b5 b0 1 e8 true _ p8.out).mono ?_); rintro e a88 ⟨rfl, hb⟩; refine ⟨_, rfl, ?_⟩; replace a2 := Aside0.mk (Kd.R_below (oR a2) hb); replace HB := Aside0.mk (below_step bB hb); (try clear hb)) | (with_reducible refine rgl ?_) | go_skip | go_guarded | go_step | go_upon)
 go_meet
 case rel => exact ⟨_, H', ⟨laws_FnMirrorsFace.jx⟩, ⟨oR a2⟩, ⟨bB⟩⟩
 )
 rw [if_neg q4] at H
 exact fy HT_l H
 )
 replace q3 := Bool.eq_false_iff.mpr q3
 subst q3
 rw [if_neg nft] at H
 exact fy HT_l H
 )
 replace p7 := Bool.eq_false_iff.mpr p7
 subst p7
 rw [if_neg nft] at H
 have H' := Aside0.mk H
 clear H
 repeat (go_not_at_region 9999; first | (with_reducible refine rgl ?_) | go_skip | go_guarded | go_step | go_upon)
 go_meet
 case rel => exact ⟨_, H', ⟨laws_FnMirrorsFace.jx⟩, ⟨oR a2⟩, ⟨bB⟩⟩
 )
 )
 clear p6
 obtain ⟨kq, HA, HJ165, a2, HB⟩ := hcut
 cases kq with
 | zero => exact absurd HA.out (by simp [laws_FnMirrorsFace.j12])
 | succ h5 => (
 as_aux_lemma => (
 have H := HA.out
 clear HA
 simp only [laws_FnMirrorsFace.j12] at H
 by_cases k9 : d4 = true
 ·(
 subst k9
 rw [if_pos rfl] at H
 have q7 := Aside0.mk H
 clear H
 repeat (go_not_at_region 70; first | (with_reducible refine rgl ?_) | go_skip | go_guarded | go_step | go_upon)
 go_cut [615] from 615 to 615 (fun R5 wc => ∃ (kq : Nat) (g5 : Bool), R5 = .bool g5 ∧ Aside0 (laws_FnMirrorsFace.j13 kq b1 b6 a5 b9 g5 = some r) ∧ Aside0 (kq ≤ h5) ∧ Aside0 (Kd.R (Kd.int .i64) 3 wc w.heap.size (fun _ => True) e7 a5) ∧ Aside0 (Below w.heap.size w wc))
 case first => (
 as_aux_lemma => (
 have H := q7.out
 clear q7
 by_cases q8 : b9 = (a5.length : Int)
 ·(
 rw [if_pos q8] at H
 obtain ⟨s7, a02⟩ := yE q8
 clear q8
 (first | rw [s7] | (simp only [i64_w, i32_w]; rw [s7]) | skip)
 by_cases v1 : b1 = 0
 ·(
 rw [if_pos v1] at H
 exact absurd H (by simp)
 )
 rw [if_neg v1] at H
 obtain ⟨a03, a04⟩ := nE v1
 by_cases q9 : b9 = (wrap64 ((wrap64 ((360 : Int) / b1)) - 1))
 ·(
 rw [if_pos q9] at H
 obtain ⟨a05, a06⟩ := yE q9
 have ZZ6 : (b9 == (wrap64 ((wrap64 (Int.tdiv 360 b1)) - 1))) = true := by (rw [Int.tdiv_eq_ediv_of_nonneg (by decide)]; exact a05)
 have ZZ7 : (b9 != (wrap64 ((wrap64 (Int.tdiv 360 b1)) - 1))) = false := by (rw [Int.tdiv_eq_ediv_of_nonneg (by decide)]; exact a06)
 clear q9
 replace H := Option.bind_eq_some_iff.mp H; obtain ⟨R6, B3, H⟩ := H; (try dsimp only at H); have R7 := Aside0.mk B3; clear B3
 by_cases r0 : R6 = true
 ·(
 subst r0
 rw [if_pos rfl] at H
 replace H := Option.bind_eq_some_iff.mp H; obtain ⟨K3, B4, H⟩ := H; (try dsimp only at H); have R8 := Aside0.mk B4; clear B4
 have H' := Aside0.mk H
 clear H
 obtain ⟨a63, a64, M5⟩ := Kd.R_slice a2.out
 subst M5
 repeat (go_not_at_region 9999; first | (go_at_call 9; (with_reducible refine (laws_yRises.calls h5 _ _ a5 true _ ?side1 ?side2 R7.out).mono ?_); (case side1 => repeat (first | exact (Kd.R_reads' a2.out).2.2 | (with_reducible refine Kd.C_alloc ?_ _) | (with_reducible refine Kd.C_drewN ?_ _) | (with_reducible refine Kd.C_drew ?_))); (case side2 => exact (Kd.R_reads' a2.out).2.1); rintro e w' ⟨rfl, ⟨nd, rfl⟩⟩; dsimp only) | (go_at_call 35; (with_reducible refine (laws_yHas.calls h5 _ _ a5 b6 K3 _ ?side1 ?side2 R8.out).mono ?_); (case side1 => repeat (first | exact (Kd.R_reads' a2.out).2.2 | (with_reducible refine Kd.C_alloc ?_ _) | (with_reducible refine Kd.C_drewN ?_ _) | (with_reducible refine Kd.C_drew ?_))); (case side2 => exact (Kd.R_reads' a2.out).2.1); rintro e w' ⟨rfl, ⟨nd, rfl⟩⟩; dsimp only) | (with_reducible refine rgl ?_) | go_skip | go_guarded | go_step | go_upon)
 go_meet
 case rel => exact ⟨_, (K3), sR, H', ⟨laws_FnMirrorsFace.jx⟩, ⟨oR a2⟩, ⟨bB⟩⟩
 )
 replace r0 := Bool.eq_false_iff.mpr r0
 subst r0
 rw [if_neg nft] at H
 exact absurd H (by cases h5 <;> simp [laws_FnMirrorsFace.j13, HT_l.out])
 )
 rw [if_neg q9] at H
 exact absurd H (by cases h5 <;> simp [laws_FnMirrorsFace.j13, HT_l.out])
 )
 rw [if_neg q8] at H
 exact absurd H (by cases h5 <;> simp [laws_FnMirrorsFace.j13, HT_l.out])
 )
 )
 clear q7
 try clear k9
 obtain ⟨kq, g5, rfl, HA, HJ182, a2, HB⟩ := hcut
 cases kq with
 | zero => exact absurd HA.out (by simp [laws_FnMirrorsFace.j13])
 | succ B5 => (
 as_aux_lemma => (
 have H := HA.out
 clear HA
 simp only [laws_FnMirrorsFace.j13] at H
 by_cases r1 : g5 = true
 ·(
 subst r1
 rw [if_pos rfl] at H
 exact fy HT_l H
 )
 replace r1 := Bool.eq_false_iff.mpr r1
 subst r1
 rw [if_neg nft] at H
 have H' := Aside0.mk H
 clear H
 obtain ⟨M6, B6, M7⟩ := Kd.R_slice a2.out
 subst M7
 repeat (go_not_at_region 9999; first | (with_reducible refine rgl ?_) | go_skip | go_guarded | go_step | go_upon)
 go_loopg [85, 618] B5 (fun kq v85 R9 w' => ∃ (e4 : Int) (a8 : Int), v85 = .int .i64 e4 ∧ R9 = .int .i64 a8 ∧ Aside0 (laws_FnMirrorsFace.l1 kq b1 b6 b9 e4 a5 (a5.length : Int) a8 = some r) ∧ Aside0 (kq ≤ B5) ∧ Aside0 (Kd.R (Kd.int .i64) 3 w' w.heap.size (fun _ => True) (.slice M6 a5.length B6) a5) ∧ Aside0 (Below w.heap.size w w'))
 case atStart => exact ⟨(0), (0), sR, sR, H', ⟨Nat.le_refl _⟩, ⟨oR a2⟩, ⟨bB⟩⟩
 case round => (
 clear H'
 obtain ⟨e4, a8, rfl, rfl, HA, HK11, c9, HB⟩ := hrel
 cases gk with
 | zero => exact absurd HA.out (by simp [laws_FnMirrorsFace.l1])
 | succ l6 => (
 have H := HA.out
 clear HA
 simp only [laws_FnMirrorsFace.l1] at H
 by_cases i9 : a8 < (a5.length : Int)
 ·(
 rw [if_pos i9] at H
 have s8 : decide (a8 < (a5.length : Int)) = true := decide_eq_true i9
 clear i9
 by_cases r2 : 0 ≤ a8
 ·(
 rw [if_pos r2] at H
 have K4 : decide (0 ≤ a8) = true := decide_eq_true r2
 clear r2
 by_cases r3 : a8 < (a5.length : Int)
 ·(
 rw [if_pos r3] at H
 have K5 : decide (a8 < (a5.length : Int)) = true := decide_eq_true r3
 clear r3
 replace H := Option.bind_eq_some_iff.mp H; obtain ⟨⟨j0, K6⟩, B7, H⟩ := H; (try dsimp only at H); have S0 := Aside0.mk B7; clear B7
 have r4 := Aside0.mk H
 clear H
 have r5 : 0 ≤ (a8 : Int) := of_decide_eq_true asm
 have r6 : a8 < (a5.length : Int) := of_decide_eq_true (by first | exact K5 | exact s8 | exact asm)
 obtain ⟨M8, S1, C1⟩ := Kd.at_int (Kd.R_reads' c9.out).2.2 a8 r5 r6
 cases S1
 replace r5 := eq_true r5
 replace r6 := eq_true r6
 go_upto_region 77 with (first | ((with_reducible refine gate_callee (f := 30) rfl ?_); refine goesL_ (some 626) rfl rfl Tryz.func30 kr rfl #[.int .i64 b1, .int .i64 b6, .int .i64 (rd a5 a8)] rfl sM ?_; (with_reducible refine (impl_WedgeSteps.calls l6 b1 b6 (rd a5 a8) j0 K6 _ S0.out).mono ?_); rintro e a89 ⟨rfl, hb⟩; refine ⟨_, rfl, ?_⟩; replace c9 := Aside0.mk (Kd.R_below (oR c9) hb); replace HB := Aside0.mk (below_step bB hb); (try clear hb)))
 (try simp only [Act.put, List.setIfInBounds_toArray, List.set_cons_zero, List.set_cons_succ])
 go_cut [640] from 640 to 640 (fun S2 wc => ∃ (kq : Nat) (g6 : Bool), S2 = .bool g6 ∧ Aside0 (laws_FnMirrorsFace.j15 kq b1 b6 b9 e4 j0 a5 (a5.length : Int) a8 g6 = some r) ∧ Aside0 (kq ≤ l6) ∧ Aside0 (Kd.R (Kd.int .i64) 3 wc w.heap.size (fun _ => True) (.slice (some M8) a5.length B6) a5) ∧ Aside0 (Below w.heap.size w wc))
 case first => (
 as_aux_lemma => (
 have H := r4.out
 clear r4
 by_cases r7 : K6 = true
 ·(
 subst r7
 rw [if_pos rfl] at H
 by_cases r8 : j0 < 1
 ·(
 rw [if_pos r8] at H
 exact absurd H (by cases l6 <;> simp [laws_FnMirrorsFace.j15, HT_l.out])
 )
 rw [if_neg r8] at H
 have s9 : decide (j0 < 1) = false := decide_eq_false r8
 clear r8
 (first | rw [s9] | (simp only [i64_w, i32_w]; rw [s9]) | skip)
 by_cases v2 : b1 = 0
 ·(
 rw [if_pos v2] at H
 exact absurd H (by simp)
 )
 rw [if_neg v2] at H
 obtain ⟨a08, a09⟩ := nE v2
 have H' := Aside0.mk H
 clear H
 repeat (go_not_at_region 9999; first | (with_reducible refine rgl ?_) | go_skip | go_guarded | go_step | go_upon)
 go_meet
 case rel => exact ⟨_, (decide (j0 > (wrap64 ((180 : Int) / b1)))), (by first | rfl | (simp; done) | (simp [Int.tdiv_eq_ediv_of_nonneg]; done) | (simp [*]; done)), H', ⟨laws_FnMirrorsFace.jx⟩, ⟨oR c9⟩, ⟨bB⟩⟩
 )
 replace r7 := Bool.eq_false_iff.mpr r7
 subst r7
 rw [if_neg nft] at H
 exact absurd H (by cases l6 <;> simp [laws_FnMirrorsFace.j15, HT_l.out])
 )
 )
 clear r4
 try clear s8
 try clear K4
 try clear K5
 try clear C1
 try clear r5
 try clear r6
 obtain ⟨kq, g6, rfl, HA, HJ196, c9, HB⟩ := hcut
 cases kq with
 | zero => exact absurd HA.out (by simp [laws_FnMirrorsFace.j15])
 | succ B8 => (
 as_aux_lemma => (
 have H := HA.out
 clear HA
 simp only [laws_FnMirrorsFace.j15] at H
 by_cases r9 : g6 = true
 ·(
 subst r9
 rw [if_pos rfl] at H
 exact fy HT_l H
 )
 replace r9 := Bool.eq_false_iff.mpr r9
 subst r9
 rw [if_neg nft] at H
 by_cases l2 : j0 = 1
 ·(
 rw [if_pos l2] at H
 obtain ⟨K7, K8⟩ := yE l2
 clear l2
 have H' := Aside0.mk H
 clear H
 repeat (go_not_at_region 9999; first | (with_reducible refine rgl ?_) | go_skip | go_guarded | go_step | go_upon)
 go_roundg B8
 case measure => exact laws_FnMirrorsFace.jx
 case rel => exact ⟨(wrap64 (e4 + 1)), (wrap64 (a8 + 1)), sR, sR, H', ⟨laws_FnMirrorsFace.jx⟩, ⟨oR c9⟩, ⟨bB⟩⟩
 )
 rw [if_neg l2] at H
 obtain ⟨K7, K8⟩ := nE l2
 have H' := Aside0.mk H
 clear H
 repeat (go_not_at_region 9999; first | (with_reducible refine rgl ?_) | go_skip | go_guarded | go_step | go_upon)
 go_roundg B8
 case measure => exact laws_FnMirrorsFace.jx
 case rel => exact ⟨(e4), (wrap64 (a8 + 1)), sR, sR, H', ⟨laws_FnMirrorsFace.jx⟩, ⟨oR c9⟩, ⟨bB⟩⟩
 )
 )
 )
 rw [if_neg r3] at H
 exact absurd H (by simp)
 )
 rw [if_neg r2] at H
 exact absurd H (by simp)
 )
 rw [if_neg i9] at H
 have s8 : decide (a8 < (a5.length : Int)) = false := decide_eq_false i9
 clear i9
 replace H := Option.bind_eq_some_iff.mp H; obtain ⟨⟨K9, S3⟩, B9, H⟩ := H; (try dsimp only at H); have S4 := Aside0.mk B9; clear B9
 by_cases s0 : e4 = 2
 ·(
 rw [if_pos s0] at H
 obtain ⟨a10, a11⟩ := yE s0
 clear s0
 by_cases s1 : S3 = true
 ·(
 subst s1
 rw [if_pos rfl] at H
 replace H := Option.bind_eq_some_iff.mp H; obtain ⟨S5, C0, H⟩ := H; (try dsimp only at H); have S6 := Aside0.mk C0; clear C0
 by_cases s2 : S5 = true
 ·(
 subst s2
 rw [if_pos rfl] at H
 obtain rfl := Option.some.inj H
 repeat (go_not_at_region 9999; first | ((with_reducible refine gate_callee (f := 33) rfl ?_); refine goesL_ (some 648) rfl rfl Tryz.func33 kr rfl #[.int .i64 b9] rfl sM ?_; (with_reducible refine (impl_AnglesFor.calls l6 b9 K9 true _ S4.out).mono ?_); rintro e a90 ⟨a91, rfl, b7, hb⟩; refine ⟨_, rfl, ?_⟩; have s3 := Aside0.mk (Kd.R_lower (Kd.R_new' b7 (Kd.R_lt (oR c9))) (below_size bB)); replace c9 := Aside0.mk (Kd.R_elder' (oR c9) (Kd.R_base b7) hb); replace HB := Aside0.mk (below_step bB hb); (try clear hb); (try clear b7); obtain ⟨a65, a66, M9⟩ := Kd.R_slice s3.out; subst M9) | (go_at_call 35; (with_reducible refine (laws_yHas.calls l6 _ _ K9 b1 true _ ?side1 ?side2 S6.out).mono ?_); (case side1 => repeat (first | exact (Kd.R_reads' s3.out).2.2 | (with_reducible refine Kd.C_alloc ?_ _) | (with_reducible refine Kd.C_drewN ?_ _) | (with_reducible refine Kd.C_drew ?_))); (case side2 => exact (Kd.R_reads' s3.out).2.1); rintro e w' ⟨rfl, ⟨nd, rfl⟩⟩; dsimp only) | (with_reducible refine rgl ?_) | go_skip | go_guarded | go_step | go_upon)
 go_ret
 exact ⟨sE, bI⟩
 )
 replace s2 := Bool.eq_false_iff.mpr s2
 subst s2
 rw [if_neg nft] at H
 exact fy HT_l H
 )
 replace s1 := Bool.eq_false_iff.mpr s1
 subst s1
 rw [if_neg nft] at H
 exact fy HT_l H
 )
 rw [if_neg s0] at H
 exact fy HT_l H
 )
 )
 )
 )
 )
 replace k9 := Bool.eq_false_iff.mpr k9
 subst k9
 rw [if_neg nft] at H
 obtain rfl := Option.some.inj H
 repeat (go_not_at_region 9999; first | (with_reducible refine rgl ?_) | go_skip | go_guarded | go_step | go_upon)
 go_ret
 exact ⟨sE, bI⟩
 )
 )
 )
 )
 )
 )
 )
 )
 )
 )
 )
 )
 )
 )
 )
 )
 )
 )
/-- THE ONE PURE STATEMENT of laws_FnMirrorsFace: yours. -/
theorem laws_FnMirrorsFace.walk (P : laws_FnMirrorsFace.Pure) (a0 : Option Addr) (len0 cap0 : Nat) (z0 : List Int) (a1 : Option Addr) (len1 cap1 : Nat) (z1 : List Int) (w : World) (w0 : (a0 = none ∧ len0 = 0 ∧ cap0 = 0 ∧ z0 = []) ∨ ∃ x, a0 = some x ∧ len0 ≤ cap0 ∧ cap0 ≤ maxLen ∧ z0.length = cap0 ∧ (∀ i, i < z0.length → w.cell? (x.add i) = some (.int .u8 (z0.getD i 0))) ∧ ∀ n ∈ z0, (Lit.int .u8 n).wf = true) (y0 : len0 * 1 ≤ 140737488351232) (w1 : (a1 = none ∧ len1 = 0 ∧ cap1 = 0 ∧ z1 = []) ∨ ∃ x, a1 = some x ∧ len1 ≤ cap1 ∧ cap1 ≤ maxLen ∧ z1.length = cap1 ∧ (∀ i, i < z1.length → w.cell? (x.add i) = some (.int .u8 (z1.getD i 0))) ∧ ∀ n ∈ z1, (Lit.int .u8 n).wf = true) (y1 : len1 * 1 ≤ 140737488351232) (hw_ : PtW w) :
    Calls Tryz.prog 3 #[.slice a0 len0 cap0, .slice a1 len1 cap1] w fun e w' => e = .returned (.bool true) ∧ Below w.heap.size w w' := by
  obtain ⟨l0, rfl, hr0, hm0, hw0, hc0⟩ := ReadsInt.ofRowC w0
  obtain ⟨l1, rfl, hr1, hm1, hw1, hc1⟩ := ReadsInt.ofRowC w1
  obtain ⟨k, h⟩ := P l0 l1 hm0 y0 hw0 hm1 y1 hw1
  refine (laws_FnMirrorsFace.calls k _ _ l0 _ _ l1 true w (Kd.C_of_reads (d := (0 : Int)) (h1 := fun _ => rfl) hr0) hc0 (Kd.C_of_reads (d := (0 : Int)) (h1 := fun _ => rfl) hr1) hc1 h rfl hw_).mono ?_
  rintro e w' ⟨rfl, hd⟩
  exact ⟨rfl, hd⟩
end Go.Proofs.YtnmhefdjakjngaaGreatDoor.PFnMirrorsFace

