-- Written by xprint.py, a program of this session, for this seat; Lean checks it.
import Derived.Test.YtlmiaadpnbehgaaGreatDoorVM
import Derived.Test.YtlmiaadpnbehgaaGreatDoorPFnBeamsEndx0
import Derived.Test.YtlmiaadpnbehgaaGreatDoorPFnBeamsEndx6
namespace Go.Proofs.YtlmiaadpnbehgaaGreatDoor.PFnBeamsEnd
open Go.Proofs.YtlmiaadpnbehgaaGreatDoorV Go.RowKit Go.Proofs.YtlmiaadpnbehgaaGreatDoorW.PrintWords Go.Proofs.YtlmiaadpnbehgaaGreatDoorW.PrintLast Go.Proofs.YtlmiaadpnbehgaaGreatDoorW.PrintMore
attribute [local go_sem] max2_int min2_int max_two min_two max_three min_three max_four min_four   -- for this text's walks alone
set_option linter.unusedVariables false
set_option linter.unusedSimpArgs false

/-! ### impl_next: function 70 -/
def impl_next.f (a0_0 : Int) (a0_1 : Int) (a1_0 : Int) (a1_1 : Int) (a1_2 : Bool) (a1_3 : Bool) : Option (Int × Int × Bool × Bool × ByteArray) := (impl_sign.f a1_2).bind fun t231 => ((impl_sign.f a1_3).bind fun t232 => ((impl_isCorner.f a0_0 a0_1 (wrap64 (a1_0 + t231)) (wrap64 (a1_1 + t232)) a1_2 a1_3).bind fun t233 => (if t233 = true then (some (wrap64 (a1_0 + t231), wrap64 (a1_1 + t232), a1_2, a1_3, (⟨#[]⟩ : ByteArray))) else (if (wrap64 (a1_0 + t231)) = a0_0 then ((impl_inward.f a0_0 a0_1 (wrap64 (a1_0 + t231)) (wrap64 (a1_1 + t232)) a1_2 a1_3).bind fun bt234 => (some (bt234.1, bt234.2.1, bt234.2.2.1, bt234.2.2.2, (⟨#[114]⟩ : ByteArray)))) else (if (wrap64 (a1_0 + t231)) = 0 then ((impl_inward.f a0_0 a0_1 (wrap64 (a1_0 + t231)) (wrap64 (a1_1 + t232)) a1_2 a1_3).bind fun bt238 => (some (bt238.1, bt238.2.1, bt238.2.2.1, bt238.2.2.2, (⟨#[108]⟩ : ByteArray)))) else (if (wrap64 (a1_1 + t232)) = a0_1 then ((impl_inward.f a0_0 a0_1 (wrap64 (a1_0 + t231)) (wrap64 (a1_1 + t232)) a1_2 a1_3).bind fun bt242 => (some (bt242.1, bt242.2.1, bt242.2.2.1, bt242.2.2.2, (⟨#[117]⟩ : ByteArray)))) else (if (wrap64 (a1_1 + t232)) = 0 then ((impl_inward.f a0_0 a0_1 (wrap64 (a1_0 + t231)) (wrap64 (a1_1 + t232)) a1_2 a1_3).bind fun bt246 => (some (bt246.1, bt246.2.1, bt246.2.2.1, bt246.2.2.2, (⟨#[100]⟩ : ByteArray)))) else (some (wrap64 (a1_0 + t231), wrap64 (a1_1 + t232), a1_2, a1_3, (⟨#[]⟩ : ByteArray))))))))))
def impl_next.T1 : Bool × List (List Nat × List Nat) := (true, [([], []), ([0], [0]), ([], []), ([2], [2]), ([3], [3]), ([1, 4], [1, 4]), ([0, 1, 2, 3, 4, 5], []), ([6, 5, 4, 0, 1, 2, 3, 4, 5], [5, 6])])
def impl_next.B1 : List Nat := [0, 1, 0, 4, 12, 31, 63, 127]
theorem impl_next.tab1 : rtab .any (opsOf Tryz.f70 1) = impl_next.T1 := by kernel_rfl
theorem impl_next.bits1 : waitsOk impl_next.T1.2 impl_next.B1 = true := by kernel_rfl
def impl_next.T2 : Bool × List (List Nat × List Nat) := (true, [([], []), ([0], [0]), ([], []), ([2], [2]), ([3], [3]), ([1, 4], [1, 4]), ([0, 1, 2, 3, 4, 5], []), ([6, 5, 4, 0, 1, 2, 3, 4, 5], [5, 6])])
def impl_next.B2 : List Nat := [0, 1, 0, 4, 12, 31, 63, 127]
theorem impl_next.tab2 : rtab .any (opsOf Tryz.f70 2) = impl_next.T2 := by kernel_rfl
theorem impl_next.bits2 : waitsOk impl_next.T2.2 impl_next.B2 = true := by kernel_rfl
abbrev impl_next.pl0 : List (Nat × Option Tmp × Nat) := [q 0 6, q 2 8, qt 1 7, qt 3 9, qo 4 10, q 5 11, q 6 12, qn 7 3]
abbrev impl_next.pl1 : List (Nat × Option Tmp × Nat) := [q 0 13, q 2 15, qt 1 14, qt 3 16, qo 4 17, q 5 18, q 6 19, qn 7 3]
set_option maxHeartbeats 8000000 in
set_option maxRecDepth 100000 in
theorem impl_next.calls (a0_0 : Int) (a0_1 : Int) (a1_0 : Int) (a1_1 : Int) (a1_2 : Bool) (a1_3 : Bool) (r1 : Int) (r2 : Int) (r3 : Bool) (r4 : Bool) (r5 : ByteArray) (w : World) (h : impl_next.f a0_0 a0_1 a1_0 a1_1 a1_2 a1_3 = some (r1, r2, r3, r4, r5)) :
    Calls Tryz.prog 70 #[.agg #[.int .i64 a0_0, .int .i64 a0_1], .agg #[.int .i64 a1_0, .int .i64 a1_1, .bool a1_2, .bool a1_3]] w fun e w' => e = .returned (.tuple #[.agg #[.int .i64 r1, .int .i64 r2, .bool r3, .bool r4], .string r5]) ∧ Below w.heap.size w w' := by
 have m1 := Tryz.underlying25
 have m2 := Tryz.underlying27
 have HB := Aside0.mk (Below.refl w.heap.size w)
 have H := h
 unfold impl_next.f at H
 clear h
 obtain ⟨a3, A3, H⟩ := bD H
 try dsimp only at H
 obtain ⟨a4, A4, H⟩ := bD H
 try dsimp only at H
 obtain ⟨i1, A5, H⟩ := bD H
 try dsimp only at H
 have HQ_ := Aside0.mk H
 clear H
 go_enter Tryz.func70, Tryz.ntmps70
 try go_wp2_with (first | ((with_reducible refine gate_dst (N := 2) rfl ?_); refine box_ (cs := #[.int .i64 a0_0, .int .i64 a0_1]) (t := 25) fun e5 hg n1 hbox hb => ?_; have a1 := Aside0.mk (hbox); have m3 := bS HB hg; have m4 := bS HB hg; replace HB := Aside0.mk (below_step bB hb); clear hb hbox hg) | ((with_reducible refine gate_dst (N := 3) rfl ?_); refine box_ (cs := #[.int .i64 a1_0, .int .i64 a1_1, .bool a1_2, .bool a1_3]) (t := 27) fun a5 hg n2 hbox hb => ?_; have a0 := Aside0.mk (hbox); have m5 := bS HB hg; have m6 := bS HB hg; have c8 := bL a1 hg; have c9 := bM a1 hg; replace a1 := bQ a1 hb; replace HB := Aside0.mk (below_step bB hb); clear hb hbox hg) | ((with_reducible refine gate_dst (N := 4) rfl ?_); refine box_ (cs := #[.int .i64 0, .int .i64 0, .bool false, .bool false]) (t := 27) fun b8 hg k7 hbox hb => ?_; have a2 := Aside0.mk (hbox); have m7 := bS HB hg; have m8 := bS HB hg; have d9 := bL a1 hg; have e0 := bM a1 hg; have d0 := bL a0 hg; have d1 := bM a0 hg; replace a1 := bQ a1 hb; replace a0 := bQ a0 hb; replace HB := Aside0.mk (below_step bB hb); clear hb hbox hg))
 replace a1 := bD1 a1
 replace a0 := bD1 a0
 replace a2 := bD1 a2
 replace HB := Aside0.mk (below_drew1 HB.out)
 refine st_ 8 impl_next.pl0 (S := fun w' => w'.cell? ⟨a5, 0, none⟩ = some (.int .i64 a1_0) ∧ w'.cell? ⟨a5, 1, none⟩ = some (.int .i64 a1_1) ∧ w'.cell? ⟨a5, 2, none⟩ = some (.bool a1_2) ∧ w'.cell? ⟨a5, 3, none⟩ = some (.bool a1_3)) (ds := [7]) impl_next.tab1 impl_next.bits1 cS (fun hHeld HT_ HW_ => ?_)
 generalize k7.drew = d3 at a1 a0 a2 HB hHeld ⊢
 iterate 4 (first | refine pA HT_ ?_ | refine pT HT_ HW_ hHeld ?_)
 refine pO HT_ fun K hK => ?_
 refine goes_ Tryz.func83 kr rfl #[.bool a1_2] (by rfl) rfl rfl sM ?_
 with_reducible refine (impl_sign.calls a1_2 a3 _ A3.out).mono ?_
 rintro e w' ⟨rfl, ⟨nd, rfl⟩⟩
 refine ⟨_, rfl, ?_⟩
 refine hK.out _ _ cS (fun hHeld => ?_)
 clear hK K
 refine nP ?_
 iterate 2 refine pA HT_ ?_
 refine pL HT_ fun K hK => ?_
 have m9 : d3.cell? ⟨a5, 0, none⟩ = some (.int .i64 a1_0) := (blk_cell a0.out 0).trans rfl
 have l3 := blk_frozen a0.out 0
 have i2 := c8.out
 have i3 := d1.out
 have i4 := c9.out
 have i5 := d0.out
 refine skip_ (w1 := ?_) (by rfl) rfl ?_ ?_
 rotate_left
 ·(
 go_simp
 rfl
 )
 refine hK.out _ _ ?_
 clear hK K
 refine pD HT_ ?_
 try go_wp2
 (try rw [dSet])
 have e1 : Aside0 ((d3.setCell ⟨a5, 0, none⟩ (.int .i64 (wrap64 (a1_0 + a3)))).heap[e5]? = some (.cells #[.int .i64 a0_0, .int .i64 a0_1] 25 (0, 0))) := (bA a1)
 have e2 : Aside0 ((d3.setCell ⟨a5, 0, none⟩ (.int .i64 (wrap64 (a1_0 + a3)))).heap[a5]? = some (.cells #[.int .i64 (wrap64 (a1_0 + a3)), .int .i64 a1_1, .bool a1_2, .bool a1_3] 27 (0, 0))) := (bA a0)
 have e3 : Aside0 ((d3.setCell ⟨a5, 0, none⟩ (.int .i64 (wrap64 (a1_0 + a3)))).heap[b8]? = some (.cells #[.int .i64 0, .int .i64 0, .bool false, .bool false] 27 (0, 0))) := (bA a2)
 have e4 : Aside0 (Below w.heap.size w (d3.setCell ⟨a5, 0, none⟩ (.int .i64 (wrap64 (a1_0 + a3))))) := ⟨bB⟩
 try clear a1
 try clear a0
 try clear a2
 (try clear HB)
 generalize (d3.setCell ⟨a5, 0, none⟩ (.int .i64 (wrap64 (a1_0 + a3)))) = d2 at e1 e2 e3 e4 ⊢
 have a1 := e1
 have a0 := e2
 have a2 := e3
 have HB := e4
 clear e1 e2 e3 e4
 (try (rw [drewN_self d2]; generalize hq_ : World.drewN d2 _ = d2; replace a1 : Aside0 (d2.heap[e5]? = some (.cells #[.int .i64 a0_0, .int .i64 a0_1] 25 (0, 0))) := ⟨by rw [← hq_]; exact (bK a1)⟩; replace a0 : Aside0 (d2.heap[a5]? = some (.cells #[.int .i64 (wrap64 (a1_0 + a3)), .int .i64 a1_1, .bool a1_2, .bool a1_3] 27 (0, 0))) := ⟨by rw [← hq_]; exact (bK a0)⟩; replace a2 : Aside0 (d2.heap[b8]? = some (.cells #[.int .i64 0, .int .i64 0, .bool false, .bool false] 27 (0, 0))) := ⟨by rw [← hq_]; exact (bK a2)⟩; replace HB : Aside0 (Below w.heap.size w d2) := ⟨by rw [← hq_]; exact bB⟩; clear hq_))
 replace a1 := bD1 a1
 replace a0 := bD1 a0
 replace a2 := bD1 a2
 replace HB := Aside0.mk (below_drew1 HB.out)
 refine st_ 8 impl_next.pl1 (S := fun w' => w'.cell? ⟨a5, 0, none⟩ = some (.int .i64 (wrap64 (a1_0 + a3))) ∧ w'.cell? ⟨a5, 1, none⟩ = some (.int .i64 a1_1) ∧ w'.cell? ⟨a5, 2, none⟩ = some (.bool a1_2) ∧ w'.cell? ⟨a5, 3, none⟩ = some (.bool a1_3)) (ds := [7]) impl_next.tab2 impl_next.bits2 cS (fun hHeld HT_ HW_ => ?_)
 generalize d2.drew = k8 at a1 a0 a2 HB hHeld ⊢
 iterate 4 (first | refine pA HT_ ?_ | refine pT HT_ HW_ hHeld ?_)
 refine pO HT_ fun K hK => ?_
 refine goes_ Tryz.func83 kr rfl #[.bool a1_3] (by rfl) rfl rfl sM ?_
 with_reducible refine (impl_sign.calls a1_3 a4 _ A4.out).mono ?_
 rintro e w' ⟨rfl, ⟨nd, rfl⟩⟩
 refine ⟨_, rfl, ?_⟩
 refine hK.out _ _ cS (fun hHeld => ?_)
 clear hK K
 refine nP ?_
 iterate 2 refine pA HT_ ?_
 refine pL HT_ fun K hK => ?_
 have n0 : k8.cell? ⟨a5, 1, none⟩ = some (.int .i64 a1_1) := (blk_cell a0.out 1).trans rfl
 have l4 := blk_frozen a0.out 1
 have i6 := c8.out
 have i7 := d1.out
 have i9 := c9.out
 have j0 := d0.out
 refine skip_ (w1 := ?_) (by rfl) rfl ?_ ?_
 rotate_left
 ·(
 go_simp
 rfl
 )
 refine hK.out _ _ ?_
 clear hK K
 refine pD HT_ ?_
 have l5 := c8.out
 have l6 := c9.out
 have l7 := d9.out
 have l8 := e0.out
 obtain ⟨j1, j2, j3, j4⟩ := cf2 a1
 have l9 := d0.out
 have m0 := d1.out
 obtain ⟨j5, j6, j7, j8, j9, k0, k1, k2⟩ := cf4 a0
 have H := HQ_.out
 clear HQ_
 by_cases c6 : i1 = true
 ·(
 subst c6
 rw [if_pos rfl] at H
 simp only [Option.some.injEq, Prod.mk.injEq] at H
 obtain ⟨rfl, rfl, rfl, rfl, rfl⟩ := H
 try go_wp2_with (first | ((with_reducible refine gate_callee (f := 64) rfl ?_); refine goesL_ (some 23) rfl rfl Tryz.func64 kr rfl #[.agg #[.int .i64 a0_0, .int .i64 a0_1], .agg #[.int .i64 (wrap64 (a1_0 + a3)), .int .i64 (wrap64 (a1_1 + a4)), .bool a1_2, .bool a1_3]] rfl sM ?_; (with_reducible refine (impl_isCorner.calls a0_0 a0_1 (wrap64 (a1_0 + a3)) (wrap64 (a1_1 + a4)) a1_2 a1_3 true _ A5.out).mono ?_); rintro e d4 ⟨rfl, hb⟩; refine ⟨_, rfl, ?_⟩; replace a1 := bQ a1 hb; replace a0 := (bP (.cells #[.int .i64 (wrap64 (a1_0 + a3)), .int .i64 (wrap64 (a1_1 + a4)), .bool a1_2, .bool a1_3] 27 (0, 0)) a0 hb); replace a2 := bQ a2 hb; replace HB := Aside0.mk (below_step bB hb); (try clear hb); obtain ⟨a6, a7, a8, a9, b0, b1, b2, b3⟩ := cf4 a0; obtain ⟨b4, b5, k3, k4, b6, b7, k5, k6⟩ := cf4 a2))
 refine bodyPost_ret (results_ct rfl _ _ b8 27 #[.int .i64 (wrap64 (a1_0 + a3)), .int .i64 (wrap64 (a1_1 + a4)), .bool a1_2, .bool a1_3] (0, 0) _ rfl (bK a2) Tryz.underlying27 rfl kr) rfl ?_
 exact ⟨sE, bI⟩
 )
 ·(
 replace c6 := Bool.eq_false_iff.mpr c6
 subst c6
 rw [if_neg nft] at H
 by_cases d5 : (wrap64 (a1_0 + a3)) = a0_0
 ·(
 rw [if_pos d5] at H
 obtain ⟨h3, h4⟩ := yE d5
 clear d5
 obtain ⟨⟨e6, e7, e8, e9⟩, k9, H⟩ := bD H
 try dsimp only at H
 simp only [Option.some.injEq, Prod.mk.injEq] at H
 obtain ⟨rfl, rfl, rfl, rfl, rfl⟩ := H
 try go_wp2_with (first | ((with_reducible refine gate_callee (f := 64) rfl ?_); refine goesL_ (some 23) rfl rfl Tryz.func64 kr rfl #[.agg #[.int .i64 a0_0, .int .i64 a0_1], .agg #[.int .i64 (wrap64 (a1_0 + a3)), .int .i64 (wrap64 (a1_1 + a4)), .bool a1_2, .bool a1_3]] rfl sM ?_; (with_reducible refine (impl_isCorner.calls a0_0 a0_1 (wrap64 (a1_0 + a3)) (wrap64 (a1_1 + a4)) a1_2 a1_3 false _ A5.out).mono ?_); rintro e d4 ⟨rfl, hb⟩; refine ⟨_, rfl, ?_⟩; replace a1 := bQ a1 hb; replace a0 := (bP (.cells #[.int .i64 (wrap64 (a1_0 + a3)), .int .i64 (wrap64 (a1_1 + a4)), .bool a1_2, .bool a1_3] 27 (0, 0)) a0 hb); replace a2 := bQ a2 hb; replace HB := Aside0.mk (below_step bB hb); (try clear hb); obtain ⟨a6, a7, a8, a9, b0, b1, b2, b3⟩ := cf4 a0; obtain ⟨b4, b5, b6, b7⟩ := cf2 a1) | ((with_reducible refine gate_callee (f := 69) rfl ?_); refine goesL_ (some 33) rfl rfl Tryz.func69 kr rfl #[.agg #[.int .i64 a0_0, .int .i64 a0_1], .agg #[.int .i64 (wrap64 (a1_0 + a3)), .int .i64 (wrap64 (a1_1 + a4)), .bool a1_2, .bool a1_3]] rfl sM ?_; (with_reducible refine (impl_inward.calls a0_0 a0_1 (wrap64 (a1_0 + a3)) (wrap64 (a1_1 + a4)) a1_2 a1_3 e6 e7 e8 e9 _ k9.out).mono ?_); rintro e g0 ⟨rfl, hb⟩; refine ⟨_, rfl, ?_⟩; replace a1 := bQ a1 hb; replace a0 := bQ a0 hb; replace a2 := bQ a2 hb; replace HB := Aside0.mk (below_step bB hb); (try clear hb); obtain ⟨b9, c0, c1, c2, c3, c4, c5, c7⟩ := cf4 a2))
 refine bodyPost_ret (results_ct rfl _ _ b8 27 #[.int .i64 e6, .int .i64 e7, .bool e8, .bool e9] (0, 0) _ rfl (bK a2) Tryz.underlying27 rfl kr) rfl ?_
 exact ⟨sE, bI⟩
 )
 ·(
 rw [if_neg d5] at H
 obtain ⟨h3, h4⟩ := nE d5
 by_cases d6 : (wrap64 (a1_0 + a3)) = 0
 ·(
 rw [if_pos d6] at H
 obtain ⟨h5, h6⟩ := yE d6
 clear d6
 obtain ⟨⟨g1, g2, g3, g4⟩, l0, H⟩ := bD H
 try dsimp only at H
 simp only [Option.some.injEq, Prod.mk.injEq] at H
 obtain ⟨rfl, rfl, rfl, rfl, rfl⟩ := H
 try go_wp2_with (first | ((with_reducible refine gate_callee (f := 64) rfl ?_); refine goesL_ (some 23) rfl rfl Tryz.func64 kr rfl #[.agg #[.int .i64 a0_0, .int .i64 a0_1], .agg #[.int .i64 (wrap64 (a1_0 + a3)), .int .i64 (wrap64 (a1_1 + a4)), .bool a1_2, .bool a1_3]] rfl sM ?_; (with_reducible refine (impl_isCorner.calls a0_0 a0_1 (wrap64 (a1_0 + a3)) (wrap64 (a1_1 + a4)) a1_2 a1_3 false _ A5.out).mono ?_); rintro e d4 ⟨rfl, hb⟩; refine ⟨_, rfl, ?_⟩; replace a1 := bQ a1 hb; replace a0 := (bP (.cells #[.int .i64 (wrap64 (a1_0 + a3)), .int .i64 (wrap64 (a1_1 + a4)), .bool a1_2, .bool a1_3] 27 (0, 0)) a0 hb); replace a2 := bQ a2 hb; replace HB := Aside0.mk (below_step bB hb); (try clear hb); obtain ⟨a6, a7, a8, a9, b0, b1, b2, b3⟩ := cf4 a0; obtain ⟨b4, b5, b6, b7⟩ := cf2 a1) | ((with_reducible refine gate_callee (f := 69) rfl ?_); refine goesL_ (some 40) rfl rfl Tryz.func69 kr rfl #[.agg #[.int .i64 a0_0, .int .i64 a0_1], .agg #[.int .i64 (wrap64 (a1_0 + a3)), .int .i64 (wrap64 (a1_1 + a4)), .bool a1_2, .bool a1_3]] rfl sM ?_; (with_reducible refine (impl_inward.calls a0_0 a0_1 (wrap64 (a1_0 + a3)) (wrap64 (a1_1 + a4)) a1_2 a1_3 g1 g2 g3 g4 _ l0.out).mono ?_); rintro e g0 ⟨rfl, hb⟩; refine ⟨_, rfl, ?_⟩; replace a1 := bQ a1 hb; replace a0 := bQ a0 hb; replace a2 := bQ a2 hb; replace HB := Aside0.mk (below_step bB hb); (try clear hb); obtain ⟨b9, c0, c1, c2, c3, c4, c5, c7⟩ := cf4 a2))
 refine bodyPost_ret (results_ct rfl _ _ b8 27 #[.int .i64 g1, .int .i64 g2, .bool g3, .bool g4] (0, 0) _ rfl (bK a2) Tryz.underlying27 rfl kr) rfl ?_
 exact ⟨sE, bI⟩
 )
 ·(
 rw [if_neg d6] at H
 obtain ⟨h5, h6⟩ := nE d6
 by_cases d7 : (wrap64 (a1_1 + a4)) = a0_1
 ·(
 rw [if_pos d7] at H
 obtain ⟨h7, h8⟩ := yE d7
 clear d7
 obtain ⟨⟨g5, g6, g7, g8⟩, l1, H⟩ := bD H
 try dsimp only at H
 simp only [Option.some.injEq, Prod.mk.injEq] at H
 obtain ⟨rfl, rfl, rfl, rfl, rfl⟩ := H
 try go_wp2_with (first | ((with_reducible refine gate_callee (f := 64) rfl ?_); refine goesL_ (some 23) rfl rfl Tryz.func64 kr rfl #[.agg #[.int .i64 a0_0, .int .i64 a0_1], .agg #[.int .i64 (wrap64 (a1_0 + a3)), .int .i64 (wrap64 (a1_1 + a4)), .bool a1_2, .bool a1_3]] rfl sM ?_; (with_reducible refine (impl_isCorner.calls a0_0 a0_1 (wrap64 (a1_0 + a3)) (wrap64 (a1_1 + a4)) a1_2 a1_3 false _ A5.out).mono ?_); rintro e d4 ⟨rfl, hb⟩; refine ⟨_, rfl, ?_⟩; replace a1 := bQ a1 hb; replace a0 := (bP (.cells #[.int .i64 (wrap64 (a1_0 + a3)), .int .i64 (wrap64 (a1_1 + a4)), .bool a1_2, .bool a1_3] 27 (0, 0)) a0 hb); replace a2 := bQ a2 hb; replace HB := Aside0.mk (below_step bB hb); (try clear hb); obtain ⟨a6, a7, a8, a9, b0, b1, b2, b3⟩ := cf4 a0; obtain ⟨b4, b5, b6, b7⟩ := cf2 a1) | ((with_reducible refine gate_callee (f := 69) rfl ?_); refine goesL_ (some 49) rfl rfl Tryz.func69 kr rfl #[.agg #[.int .i64 a0_0, .int .i64 a0_1], .agg #[.int .i64 (wrap64 (a1_0 + a3)), .int .i64 (wrap64 (a1_1 + a4)), .bool a1_2, .bool a1_3]] rfl sM ?_; (with_reducible refine (impl_inward.calls a0_0 a0_1 (wrap64 (a1_0 + a3)) (wrap64 (a1_1 + a4)) a1_2 a1_3 g5 g6 g7 g8 _ l1.out).mono ?_); rintro e g0 ⟨rfl, hb⟩; refine ⟨_, rfl, ?_⟩; replace a1 := bQ a1 hb; replace a0 := bQ a0 hb; replace a2 := bQ a2 hb; replace HB := Aside0.mk (below_step bB hb); (try clear hb); obtain ⟨b9, c0, c1, c2, c3, c4, c5, c7⟩ := cf4 a2))
 refine bodyPost_ret (results_ct rfl _ _ b8 27 #[.int .i64 g5, .int .i64 g6, .bool g7, .bool g8] (0, 0) _ rfl (bK a2) Tryz.underlying27 rfl kr) rfl ?_
 exact ⟨sE, bI⟩
 )
 ·(
 rw [if_neg d7] at H
 obtain ⟨h7, h8⟩ := nE d7
 by_cases d8 : (wrap64 (a1_1 + a4)) = 0
 ·(
 rw [if_pos d8] at H
 obtain ⟨h9, i0⟩ := yE d8
 clear d8
 obtain ⟨⟨g9, h0, h1, h2⟩, l2, H⟩ := bD H
 try dsimp only at H
 simp only [Option.some.injEq, Prod.mk.injEq] at H
 obtain ⟨rfl, rfl, rfl, rfl, rfl⟩ := H
 try go_wp2_with (first | ((with_reducible refine gate_callee (f := 64) rfl ?_); refine goesL_ (some 23) rfl rfl Tryz.func64 kr rfl #[.agg #[.int .i64 a0_0, .int .i64 a0_1], .agg #[.int .i64 (wrap64 (a1_0 + a3)), .int .i64 (wrap64 (a1_1 + a4)), .bool a1_2, .bool a1_3]] rfl sM ?_; (with_reducible refine (impl_isCorner.calls a0_0 a0_1 (wrap64 (a1_0 + a3)) (wrap64 (a1_1 + a4)) a1_2 a1_3 false _ A5.out).mono ?_); rintro e d4 ⟨rfl, hb⟩; refine ⟨_, rfl, ?_⟩; replace a1 := bQ a1 hb; replace a0 := (bP (.cells #[.int .i64 (wrap64 (a1_0 + a3)), .int .i64 (wrap64 (a1_1 + a4)), .bool a1_2, .bool a1_3] 27 (0, 0)) a0 hb); replace a2 := bQ a2 hb; replace HB := Aside0.mk (below_step bB hb); (try clear hb); obtain ⟨a6, a7, a8, a9, b0, b1, b2, b3⟩ := cf4 a0; obtain ⟨b4, b5, b6, b7⟩ := cf2 a1) | ((with_reducible refine gate_callee (f := 69) rfl ?_); refine goesL_ (some 56) rfl rfl Tryz.func69 kr rfl #[.agg #[.int .i64 a0_0, .int .i64 a0_1], .agg #[.int .i64 (wrap64 (a1_0 + a3)), .int .i64 (wrap64 (a1_1 + a4)), .bool a1_2, .bool a1_3]] rfl sM ?_; (with_reducible refine (impl_inward.calls a0_0 a0_1 (wrap64 (a1_0 + a3)) (wrap64 (a1_1 + a4)) a1_2 a1_3 g9 h0 h1 h2 _ l2.out).mono ?_); rintro e g0 ⟨rfl, hb⟩; refine ⟨_, rfl, ?_⟩; replace a1 := bQ a1 hb; replace a0 := bQ a0 hb; replace a2 := bQ a2 hb; replace HB := Aside0.mk (below_step bB hb); (try clear hb); obtain ⟨b9, c0, c1, c2, c3, c4, c5, c7⟩ := cf4 a2))
 refine bodyPost_ret (results_ct rfl _ _ b8 27 #[.int .i64 g9, .int .i64 h0, .bool h1, .bool h2] (0, 0) _ rfl (bK a2) Tryz.underlying27 rfl kr) rfl ?_
 exact ⟨sE, bI⟩
 )
 ·(
 rw [if_neg d8] at H
 obtain ⟨h9, i0⟩ := nE d8
 simp only [Option.some.injEq, Prod.mk.injEq] at H
 obtain ⟨rfl, rfl, rfl, rfl, rfl⟩ := H
 try go_wp2_with (first | ((with_reducible refine gate_callee (f := 64) rfl ?_); refine goesL_ (some 23) rfl rfl Tryz.func64 kr rfl #[.agg #[.int .i64 a0_0, .int .i64 a0_1], .agg #[.int .i64 (wrap64 (a1_0 + a3)), .int .i64 (wrap64 (a1_1 + a4)), .bool a1_2, .bool a1_3]] rfl sM ?_; (with_reducible refine (impl_isCorner.calls a0_0 a0_1 (wrap64 (a1_0 + a3)) (wrap64 (a1_1 + a4)) a1_2 a1_3 false _ A5.out).mono ?_); rintro e d4 ⟨rfl, hb⟩; refine ⟨_, rfl, ?_⟩; replace a1 := bQ a1 hb; replace a0 := (bP (.cells #[.int .i64 (wrap64 (a1_0 + a3)), .int .i64 (wrap64 (a1_1 + a4)), .bool a1_2, .bool a1_3] 27 (0, 0)) a0 hb); replace a2 := bQ a2 hb; replace HB := Aside0.mk (below_step bB hb); (try clear hb); obtain ⟨a6, a7, a8, a9, b0, b1, b2, b3⟩ := cf4 a0; obtain ⟨b4, b5, b6, b7⟩ := cf2 a1; obtain ⟨b9, c0, c1, c2, c3, c4, c5, c7⟩ := cf4 a2))
 refine bodyPost_ret (results_ct rfl _ _ b8 27 #[.int .i64 (wrap64 (a1_0 + a3)), .int .i64 (wrap64 (a1_1 + a4)), .bool a1_2, .bool a1_3] (0, 0) _ rfl (bK a2) Tryz.underlying27 rfl kr) rfl ?_
 exact ⟨sE, bI⟩
 )
 )
 )
 )
 )

end Go.Proofs.YtlmiaadpnbehgaaGreatDoor.PFnBeamsEnd
