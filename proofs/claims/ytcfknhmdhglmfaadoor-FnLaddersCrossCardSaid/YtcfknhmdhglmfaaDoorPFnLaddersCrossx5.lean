-- Written by xprint.py, a program of this session, for this seat; Lean checks it.
import Derived.Test.YtcfknhmdhglmfaaDoorVM
import Derived.Test.YtcfknhmdhglmfaaDoorPFnLaddersCrossx0
import Derived.Test.YtcfknhmdhglmfaaDoorPFnLaddersCrossx3
import Derived.Test.YtcfknhmdhglmfaaDoorPFnLaddersCrossx4
namespace Go.Proofs.YtcfknhmdhglmfaaDoor.PFnLaddersCross
open Go.Proofs.YtcfknhmdhglmfaaDoorV Go.RowKit Go.Proofs.YtcfknhmdhglmfaaDoorW.PrintWords Go.Proofs.YtcfknhmdhglmfaaDoorW.PrintLast Go.Proofs.YtcfknhmdhglmfaaDoorW.PrintMore
attribute [local go_sem] max2_int min2_int max_two min_two max_three min_three max_four min_four   -- for this text's walks alone
set_option linter.unusedVariables false
set_option linter.unusedSimpArgs false

/-! ### spec_clText: function 41 -/
def spec_clText.f (k : Nat) (a0_0 : Int) (a0_1 : Int) (a0_2 : Int) : Option (ByteArray) := (spec_l1Num.f k a0_0).bind fun t239 => (if t239.size + 1 ≤ 9223372036854775807 then ((spec_l1Num.f k a0_1).bind fun t240 => (if (t239 ++ (⟨#[58]⟩ : ByteArray)).size + t240.size ≤ 9223372036854775807 then (if ((t239 ++ (⟨#[58]⟩ : ByteArray)) ++ t240).size + 1 ≤ 9223372036854775807 then ((spec_l1Num.f k a0_2).bind fun t241 => (if (((t239 ++ (⟨#[58]⟩ : ByteArray)) ++ t240) ++ (⟨#[47]⟩ : ByteArray)).size + t241.size ≤ 9223372036854775807 then (some ((((t239 ++ (⟨#[58]⟩ : ByteArray)) ++ t240) ++ (⟨#[47]⟩ : ByteArray)) ++ t241)) else (none))) else (none)) else (none))) else (none))
theorem spec_clText.mono : ∀ a0 a1 a2 k, LeO (spec_clText.f k a0 a1 a2) (spec_clText.f (k + 1) a0 a1 a2) := by
  intro a0 a1 a2 k
  unfold spec_clText.f
  repeat' first
      | (with_reducible exact spec_l1Num.mono _ _)
      | (with_reducible exact LeO.refl _)
      | (with_reducible exact LeO.none _)
      | (with_reducible refine LeO.ite ?_ ?_)
      | (with_reducible refine LeO.bind ?_ (fun _ => ?_))
      | exact spec_l1Num.mono _ _
      | exact LeO.none _
      | refine LeO.ite ?_ ?_
      | refine LeO.bind ?_ (fun _ => ?_)
def spec_clText.T1 : Bool × List (List Nat × List Nat) := (true, [([], []), ([0], [0]), ([1], [1]), ([2], [2]), ([], []), ([4], [4]), ([5, 2], [5]), ([3, 6], [3, 6]), ([7], [7]), ([], []), ([9], [9]), ([10, 6], [10]), ([8, 11], [8, 11]), ([12, 11, 0, 1, 2, 3, 4, 5, 6, 7, 8, 9, 10, 11, 12], [12])])
def spec_clText.B1 : List Nat := [0, 1, 3, 7, 0, 16, 55, 127, 255, 0, 512, 1655, 4095, 8191]
theorem spec_clText.tab1 : rtab .any (opsOf Tryd.f41 1) = spec_clText.T1 := by kernel_rfl
theorem spec_clText.bits1 : waitsOk spec_clText.T1.2 spec_clText.B1 = true := by kernel_rfl
abbrev spec_clText.pl0 : List (Nat × Option Tmp × Nat) := [q 0 3, q 4 7, q 9 12, qt 1 4, qt 5 8, qt 10 13, qo 2 5, q 3 6, qo 6 9, q 7 10, q 8 11, qo 11 14, q 12 15, q 13 2]
set_option maxHeartbeats 8000000 in
set_option maxRecDepth 100000 in
theorem spec_clText.calls (k : Nat) (a0_0 : Int) (a0_1 : Int) (a0_2 : Int) (r : ByteArray) (w : World) (h : spec_clText.f k a0_0 a0_1 a0_2 = some r) :
    Calls Tryd.prog 41 #[.agg #[.int .i64 a0_0, .int .i64 a0_1, .int .i64 a0_2]] w fun e w' => e = .returned (.string r) ∧ Below w.heap.size w w' := by
 have b1 := Tryd.underlying25
 have HB := Aside0.mk (Below.refl w.heap.size w)
 have H := h
 unfold spec_clText.f at H
 clear h
 obtain ⟨a4, A2, H⟩ := bD H
 try dsimp only at H
 by_cases c3 : a4.size + 1 ≤ 9223372036854775807
 ·(
 rw [if_pos c3] at H
 have b2 := eq_true c3
 have b3 : decide (a4.size + 1 ≤ 9223372036854775807) = true := decide_eq_true c3
 try have b4 : (9223372036854775807 < a4.size + 1) = False := eq_false (Nat.not_lt.2 c3)
 obtain ⟨a5, A4, H⟩ := bD H
 try dsimp only at H
 by_cases c5 : (a4 ++ (⟨#[58]⟩ : ByteArray)).size + a5.size ≤ 9223372036854775807
 ·(
 rw [if_pos c5] at H
 have b5 := eq_true c5
 have b6 : decide ((a4 ++ (⟨#[58]⟩ : ByteArray)).size + a5.size ≤ 9223372036854775807) = true := decide_eq_true c5
 try have b7 : (9223372036854775807 < (a4 ++ (⟨#[58]⟩ : ByteArray)).size + a5.size) = False := eq_false (Nat.not_lt.2 c5)
 try have b8 : (9223372036854775807 < a4.size + 1 + a5.size) = False := eq_false (Nat.not_lt.2 (by have z_ := c5; rw [ByteArray.size_append] at z_; exact z_))
 by_cases c6 : ((a4 ++ (⟨#[58]⟩ : ByteArray)) ++ a5).size + 1 ≤ 9223372036854775807
 ·(
 rw [if_pos c6] at H
 have b9 := eq_true c6
 have c0 : decide (((a4 ++ (⟨#[58]⟩ : ByteArray)) ++ a5).size + 1 ≤ 9223372036854775807) = true := decide_eq_true c6
 try have c4 : (9223372036854775807 < ((a4 ++ (⟨#[58]⟩ : ByteArray)) ++ a5).size + 1) = False := eq_false (Nat.not_lt.2 c6)
 try have c7 : (9223372036854775807 < a4.size + 1 + a5.size + 1) = False := eq_false (Nat.not_lt.2 (by have z_ := c6; simp only [ByteArray.size_append] at z_; exact z_))
 obtain ⟨a7, A7, H⟩ := bD H
 try dsimp only at H
 by_cases c8 : (((a4 ++ (⟨#[58]⟩ : ByteArray)) ++ a5) ++ (⟨#[47]⟩ : ByteArray)).size + a7.size ≤ 9223372036854775807
 ·(
 rw [if_pos c8] at H
 have c9 := eq_true c8
 have d0 : decide ((((a4 ++ (⟨#[58]⟩ : ByteArray)) ++ a5) ++ (⟨#[47]⟩ : ByteArray)).size + a7.size ≤ 9223372036854775807) = true := decide_eq_true c8
 try have d1 : (9223372036854775807 < (((a4 ++ (⟨#[58]⟩ : ByteArray)) ++ a5) ++ (⟨#[47]⟩ : ByteArray)).size + a7.size) = False := eq_false (Nat.not_lt.2 c8)
 try have d2 : (9223372036854775807 < a4.size + 1 + a5.size + 1 + a7.size) = False := eq_false (Nat.not_lt.2 (by have z_ := c8; simp only [ByteArray.size_append] at z_; exact z_))
 obtain rfl := Option.some.inj H
 go_enter Tryd.func41, Tryd.ntmps41
 try go_wp2_with (first | ((with_reducible refine gate_dst (N := 1) rfl ?_); refine box_ (cs := #[.int .i64 a0_0, .int .i64 a0_1, .int .i64 a0_2]) (t := 25) fun a8 hg w9 hbox hb => ?_; have a6 := Aside0.mk (hbox); have a9 := bS HB hg; have b0 := bS HB hg; replace HB := Aside0.mk (below_step bB hb); clear hb hbox hg))
 replace a6 := bD1 a6
 replace HB := Aside0.mk (below_drew1 HB.out)
 refine st_ 14 spec_clText.pl0 (S := fun w' => w'.cell? ⟨a8, 0, none⟩ = some (.int .i64 a0_0) ∧ w'.cell? ⟨a8, 1, none⟩ = some (.int .i64 a0_1) ∧ w'.cell? ⟨a8, 2, none⟩ = some (.int .i64 a0_2)) (ds := []) spec_clText.tab1 spec_clText.bits1 cS (fun hHeld HT_ HW_ => ?_)
 generalize w9.drew = d3 at a6 HB hHeld ⊢
 iterate 6 (first | refine pA HT_ ?_ | refine pT HT_ HW_ hHeld ?_)
 refine pO HT_ fun K hK => ?_
 refine goes_ Tryd.func59 kr rfl #[.int .i64 a0_0] (by rfl) rfl rfl sM ?_
 with_reducible refine (spec_l1Num.calls k a0_0 a4 _ A2.out).mono ?_
 rintro e d4 ⟨rfl, hb⟩
 refine ⟨_, rfl, ?_⟩
 replace a6 := bQ a6 hb
 replace HB := Aside0.mk (below_step bB hb)
 try clear hb
 refine hK.out _ _ cS (fun hHeld => ?_)
 clear hK K
 refine nP ?_
 refine pA HT_ ?_
 refine pO HT_ fun K hK => ?_
 refine goes_ Tryd.func59 kr rfl #[.int .i64 a0_1] (by rfl) rfl rfl sM ?_
 with_reducible refine (spec_l1Num.calls k a0_1 a5 _ A4.out).mono ?_
 rintro e d5 ⟨rfl, hb⟩
 refine ⟨_, rfl, ?_⟩
 replace a6 := bQ a6 hb
 replace HB := Aside0.mk (below_step bB hb)
 try clear hb
 refine hK.out _ _ cS (fun hHeld => ?_)
 clear hK K
 refine nP ?_
 iterate 2 refine pA HT_ ?_
 refine pO HT_ fun K hK => ?_
 refine goes_ Tryd.func59 kr rfl #[.int .i64 a0_2] (by rfl) rfl rfl sM ?_
 with_reducible refine (spec_l1Num.calls k a0_2 a7 _ A7.out).mono ?_
 rintro e d6 ⟨rfl, hb⟩
 refine ⟨_, rfl, ?_⟩
 replace a6 := bQ a6 hb
 replace HB := Aside0.mk (below_step bB hb)
 try clear hb
 refine hK.out _ _ cS (fun hHeld => ?_)
 clear hK K
 refine nP ?_
 iterate 2 refine pA HT_ ?_
 refine pD HT_ ?_
 try go_wp2
 (try rw [dSet])
 go_ret
 exact ⟨sE, bI⟩
 )
 ·(
 rw [if_neg c8] at H
 exact absurd H (by simp)
 )
 )
 ·(
 rw [if_neg c6] at H
 exact absurd H (by simp)
 )
 )
 ·(
 rw [if_neg c5] at H
 exact absurd H (by simp)
 )
 )
 ·(
 rw [if_neg c3] at H
 exact absurd H (by simp)
 )

/-! ### spec_LaddersText: function 17 -/
def spec_LaddersText.f (k : Nat) (a0_0 : Int) (a0_1 : Int) (a0_2 : Int) : Option (ByteArray × Bool) := (spec_clGood.f a0_0 a0_1 a0_2).bind fun t243 => (if t243 = true then ((spec_clText.f k a0_0 a0_1 a0_2).bind fun t244 => (some (t244, true))) else (some ((⟨#[]⟩ : ByteArray), false)))
theorem spec_LaddersText.mono : ∀ a0 a1 a2 k, LeO (spec_LaddersText.f k a0 a1 a2) (spec_LaddersText.f (k + 1) a0 a1 a2) := by
  intro a0 a1 a2 k
  unfold spec_LaddersText.f
  repeat' first
      | (with_reducible exact spec_clText.mono _ _ _ _)
      | (with_reducible exact LeO.refl _)
      | (with_reducible exact LeO.none _)
      | (with_reducible refine LeO.ite ?_ ?_)
      | (with_reducible refine LeO.bind ?_ (fun _ => ?_))
      | exact spec_clText.mono _ _ _ _
      | exact LeO.none _
      | refine LeO.ite ?_ ?_
      | refine LeO.bind ?_ (fun _ => ?_)
set_option maxHeartbeats 8000000 in
set_option maxRecDepth 100000 in
theorem spec_LaddersText.calls (k : Nat) (a0_0 : Int) (a0_1 : Int) (a0_2 : Int) (r1 : ByteArray) (r2 : Bool) (w : World) (h : spec_LaddersText.f k a0_0 a0_1 a0_2 = some (r1, r2)) :
    Calls Tryd.prog 17 #[.agg #[.int .i64 a0_0, .int .i64 a0_1, .int .i64 a0_2]] w fun e w' => e = .returned (.tuple #[.string r1, .bool r2]) ∧ Below w.heap.size w w' := by
 have c0 := Tryd.underlying25
 have HB := Aside0.mk (Below.refl w.heap.size w)
 have H := h
 unfold spec_LaddersText.f at H
 clear h
 obtain ⟨a5, A2, H⟩ := bD H
 try dsimp only at H
 by_cases c3 : a5 = true
 subst c3
 rw [if_pos rfl] at H
 obtain ⟨a6, A4, H⟩ := bD H
 try dsimp only at H
 simp only [Option.some.injEq, Prod.mk.injEq] at H
 obtain ⟨rfl, rfl⟩ := H
 rotate_left
 replace c3 := Bool.eq_false_iff.mpr c3
 subst c3
 rw [if_neg nft] at H
 simp only [Option.some.injEq, Prod.mk.injEq] at H
 obtain ⟨rfl, rfl⟩ := H
 rotate_left
 all_goals (go_enter Tryd.func17, Tryd.ntmps17)
 all_goals (go_wp2_with (first | ((with_reducible refine gate_dst (N := 1) rfl ?_); refine box_ (cs := #[.int .i64 a0_0, .int .i64 a0_1, .int .i64 a0_2]) (t := 25) fun c4 hg c7 hbox hb => ?_; have a4 := Aside0.mk (hbox); have c5 := bS HB hg; have c6 := bS HB hg; replace HB := Aside0.mk (below_step bB hb); clear hb hbox hg; obtain ⟨a7, a8, a9, b0, b1, b2⟩ := cf3 a4) | ((with_reducible refine gate_callee (f := 38) rfl ?_); refine goesL_ (some 5) rfl rfl Tryd.func38 kr rfl #[.agg #[.int .i64 a0_0, .int .i64 a0_1, .int .i64 a0_2]] rfl sM ?_; (with_reducible refine (spec_clGood.calls a0_0 a0_1 a0_2 true _ A2.out).mono ?_); rintro e b9 ⟨rfl, hb⟩; refine ⟨_, rfl, ?_⟩; replace a4 := bQ a4 hb; replace HB := Aside0.mk (below_step bB hb); (try clear hb); obtain ⟨b3, b4, b5, b6, b7, b8⟩ := cf3 a4) | ((with_reducible refine gate_callee (f := 41) rfl ?_); refine goesL_ (some 8) rfl rfl Tryd.func41 kr rfl #[.agg #[.int .i64 a0_0, .int .i64 a0_1, .int .i64 a0_2]] rfl sM ?_; (with_reducible refine (spec_clText.calls k a0_0 a0_1 a0_2 a6 _ A4.out).mono ?_); rintro e c8 ⟨rfl, hb⟩; refine ⟨_, rfl, ?_⟩; replace a4 := bQ a4 hb; replace HB := Aside0.mk (below_step bB hb); (try clear hb)) | ((with_reducible refine gate_callee (f := 38) rfl ?_); refine goesL_ (some 5) rfl rfl Tryd.func38 kr rfl #[.agg #[.int .i64 a0_0, .int .i64 a0_1, .int .i64 a0_2]] rfl sM ?_; (with_reducible refine (spec_clGood.calls a0_0 a0_1 a0_2 false _ A2.out).mono ?_); rintro e b9 ⟨rfl, hb⟩; refine ⟨_, rfl, ?_⟩; replace a4 := bQ a4 hb; replace HB := Aside0.mk (below_step bB hb); (try clear hb))))
 all_goals go_ret2
 all_goals (exact ⟨sE, bI⟩)

/-! ### impl_checkedLadders: function 42 -/
def impl_checkedLadders.f (a0_0 : Int) (a0_1 : Int) (a0_2 : Int) : Option (Int × Int × Int × Bool) := (impl_AreLadders.f a0_0 a0_1 a0_2).bind fun t247 => (if t247 = true then (some (a0_0, a0_1, a0_2, true)) else (some (0, 0, 0, false)))
set_option maxHeartbeats 8000000 in
set_option maxRecDepth 100000 in
theorem impl_checkedLadders.calls (a0_0 : Int) (a0_1 : Int) (a0_2 : Int) (r1 : Int) (r2 : Int) (r3 : Int) (r4 : Bool) (w : World) (h : impl_checkedLadders.f a0_0 a0_1 a0_2 = some (r1, r2, r3, r4)) :
    Calls Tryd.prog 42 #[.agg #[.int .i64 a0_0, .int .i64 a0_1, .int .i64 a0_2]] w fun e w' => e = .returned (.tuple #[.agg #[.int .i64 r1, .int .i64 r2, .int .i64 r3], .bool r4]) ∧ Below w.heap.size w w' := by
 have d4 := Tryd.underlying25
 have HB := Aside0.mk (Below.refl w.heap.size w)
 have H := h
 unfold impl_checkedLadders.f at H
 clear h
 obtain ⟨b5, A2, H⟩ := bD H
 try dsimp only at H
 by_cases c3 : b5 = true
 subst c3
 rw [if_pos rfl] at H
 simp only [Option.some.injEq, Prod.mk.injEq] at H
 obtain ⟨rfl, rfl, rfl, rfl⟩ := H
 rotate_left
 replace c3 := Bool.eq_false_iff.mpr c3
 subst c3
 rw [if_neg nft] at H
 simp only [Option.some.injEq, Prod.mk.injEq] at H
 obtain ⟨rfl, rfl, rfl, rfl⟩ := H
 rotate_left
 all_goals (go_enter Tryd.func42, Tryd.ntmps42)
 all_goals (go_wp2_with (first | ((with_reducible refine gate_dst (N := 1) rfl ?_); refine box_ (cs := #[.int .i64 a0_0, .int .i64 a0_1, .int .i64 a0_2]) (t := 25) fun d5 hg e0 hbox hb => ?_; have a4 := Aside0.mk (hbox); have d6 := bS HB hg; have d7 := bS HB hg; replace HB := Aside0.mk (below_step bB hb); clear hb hbox hg) | ((with_reducible refine gate_dst (N := 2) rfl ?_); refine box_ (cs := #[.int .i64 0, .int .i64 0, .int .i64 0]) (t := 25) fun b4 hg e1 hbox hb => ?_; have a5 := Aside0.mk (hbox); have d8 := bS HB hg; have d9 := bS HB hg; have a6 := bL a4 hg; have a7 := bM a4 hg; replace a4 := bQ a4 hb; replace HB := Aside0.mk (below_step bB hb); clear hb hbox hg; have d2 := a6.out; have d3 := a7.out; obtain ⟨b6, b7, b8, b9, c0, c4⟩ := cf3 a4) | ((with_reducible refine gate_callee (f := 20) rfl ?_); refine goesL_ (some 5) rfl rfl Tryd.func20 kr rfl #[.agg #[.int .i64 a0_0, .int .i64 a0_1, .int .i64 a0_2]] rfl sM ?_; (with_reducible refine (impl_AreLadders.calls a0_0 a0_1 a0_2 true _ A2.out).mono ?_); rintro e d1 ⟨rfl, hb⟩; refine ⟨_, rfl, ?_⟩; replace a4 := bQ a4 hb; replace a5 := bQ a5 hb; replace HB := Aside0.mk (below_step bB hb); (try clear hb); obtain ⟨a8, a9, b0, b1, b2, b3⟩ := cf3 a4; obtain ⟨c5, c6, c7, c8, c9, d0⟩ := cf3 a5) | ((with_reducible refine gate_callee (f := 20) rfl ?_); refine goesL_ (some 5) rfl rfl Tryd.func20 kr rfl #[.agg #[.int .i64 a0_0, .int .i64 a0_1, .int .i64 a0_2]] rfl sM ?_; (with_reducible refine (impl_AreLadders.calls a0_0 a0_1 a0_2 false _ A2.out).mono ?_); rintro e d1 ⟨rfl, hb⟩; refine ⟨_, rfl, ?_⟩; replace a4 := bQ a4 hb; replace a5 := bQ a5 hb; replace HB := Aside0.mk (below_step bB hb); (try clear hb); obtain ⟨a8, a9, b0, b1, b2, b3⟩ := cf3 a5)))
 ·(
 refine bodyPost_ret (results_ct rfl _ _ b4 25 #[.int .i64 a0_0, .int .i64 a0_1, .int .i64 a0_2] (0, 0) _ rfl (bK a5) Tryd.underlying25 rfl kr) rfl ?_
 exact ⟨sE, bI⟩
 )
 ·(
 refine bodyPost_ret (results_ct rfl _ _ b4 25 #[.int .i64 0, .int .i64 0, .int .i64 0] (0, 0) _ rfl (bK a5) Tryd.underlying25 rfl kr) rfl ?_
 exact ⟨sE, bI⟩
 )

/-! ### impl_MirrorLadders: function 18 -/
def impl_MirrorLadders.f (a0_0 : Int) (a0_1 : Int) (a0_2 : Int) : Option (Int × Int × Int × Bool) := (impl_checkedLadders.f a0_0 a0_2 a0_1).bind fun bt250 => (some (bt250.1, bt250.2.1, bt250.2.2.1, bt250.2.2.2))
set_option maxHeartbeats 8000000 in
set_option maxRecDepth 100000 in
theorem impl_MirrorLadders.calls (a0_0 : Int) (a0_1 : Int) (a0_2 : Int) (r1 : Int) (r2 : Int) (r3 : Int) (r4 : Bool) (w : World) (h : impl_MirrorLadders.f a0_0 a0_1 a0_2 = some (r1, r2, r3, r4)) :
    Calls Tryd.prog 18 #[.agg #[.int .i64 a0_0, .int .i64 a0_1, .int .i64 a0_2]] w fun e w' => e = .returned (.tuple #[.agg #[.int .i64 r1, .int .i64 r2, .int .i64 r3], .bool r4]) ∧ Below w.heap.size w w' := by
 have d2 := Tryd.underlying25
 have HB := Aside0.mk (Below.refl w.heap.size w)
 have H := h
 unfold impl_MirrorLadders.f at H
 clear h
 obtain ⟨⟨a8, a9, b0, b2⟩, A2, H⟩ := bD H
 try dsimp only at H
 simp only [Option.some.injEq, Prod.mk.injEq] at H
 obtain ⟨rfl, rfl, rfl, rfl⟩ := H
 go_enter Tryd.func18, Tryd.ntmps18
 go_wp2_with (first | ((with_reducible refine gate_dst (N := 1) rfl ?_); refine box_ (cs := #[.int .i64 a0_0, .int .i64 a0_1, .int .i64 a0_2]) (t := 25) fun c7 hg w3 hbox hb => ?_; have a4 := Aside0.mk (hbox); have c8 := bS HB hg; have c9 := bS HB hg; replace HB := Aside0.mk (below_step bB hb); clear hb hbox hg) | ((with_reducible refine gate_dst (N := 2) rfl ?_); refine box_ (cs := #[.int .i64 0, .int .i64 0, .int .i64 0]) (t := 25) fun b1 hg w4 hbox hb => ?_; have a5 := Aside0.mk (hbox); have d0 := bS HB hg; have d1 := bS HB hg; have a6 := bL a4 hg; have a7 := bM a4 hg; replace a4 := bQ a4 hb; replace HB := Aside0.mk (below_step bB hb); clear hb hbox hg; have d3 := a6.out; have d4 := a7.out; obtain ⟨b3, b4, b5, b6, b7, b8⟩ := cf3 a4) | ((with_reducible refine gate_callee (f := 42) rfl ?_); refine goesL_ (some 11) rfl rfl Tryd.func42 kr rfl #[.agg #[.int .i64 a0_0, .int .i64 a0_2, .int .i64 a0_1]] rfl sM ?_; (with_reducible refine (impl_checkedLadders.calls a0_0 a0_2 a0_1 a8 a9 b0 b2 _ A2.out).mono ?_); rintro e w7 ⟨rfl, hb⟩; refine ⟨_, rfl, ?_⟩; replace a4 := bQ a4 hb; replace a5 := bQ a5 hb; replace HB := Aside0.mk (below_step bB hb); (try clear hb); obtain ⟨b9, c0, c3, c4, c5, c6⟩ := cf3 a5))
 refine bodyPost_ret (results_ct rfl _ _ b1 25 #[.int .i64 a8, .int .i64 a9, .int .i64 b0] (0, 0) _ rfl (bK a5) Tryd.underlying25 rfl kr) rfl ?_
 exact ⟨sE, bI⟩

/-! ### spec_MirrorLadders: function 19 -/
def spec_MirrorLadders.f (a0_0 : Int) (a0_1 : Int) (a0_2 : Int) : Option (Int × Int × Int × Bool) := (spec_clGood.f a0_0 a0_1 a0_2).bind fun t256 => (if t256 = true then (some (a0_0, a0_2, a0_1, true)) else (some (0, 0, 0, false)))
set_option maxHeartbeats 8000000 in
set_option maxRecDepth 100000 in
theorem spec_MirrorLadders.calls (a0_0 : Int) (a0_1 : Int) (a0_2 : Int) (r1 : Int) (r2 : Int) (r3 : Int) (r4 : Bool) (w : World) (h : spec_MirrorLadders.f a0_0 a0_1 a0_2 = some (r1, r2, r3, r4)) :
    Calls Tryd.prog 19 #[.agg #[.int .i64 a0_0, .int .i64 a0_1, .int .i64 a0_2]] w fun e w' => e = .returned (.tuple #[.agg #[.int .i64 r1, .int .i64 r2, .int .i64 r3], .bool r4]) ∧ Below w.heap.size w w' := by
 have d4 := Tryd.underlying25
 have HB := Aside0.mk (Below.refl w.heap.size w)
 have H := h
 unfold spec_MirrorLadders.f at H
 clear h
 obtain ⟨b5, A2, H⟩ := bD H
 try dsimp only at H
 by_cases c3 : b5 = true
 subst c3
 rw [if_pos rfl] at H
 simp only [Option.some.injEq, Prod.mk.injEq] at H
 obtain ⟨rfl, rfl, rfl, rfl⟩ := H
 rotate_left
 replace c3 := Bool.eq_false_iff.mpr c3
 subst c3
 rw [if_neg nft] at H
 simp only [Option.some.injEq, Prod.mk.injEq] at H
 obtain ⟨rfl, rfl, rfl, rfl⟩ := H
 rotate_left
 all_goals (go_enter Tryd.func19, Tryd.ntmps19)
 all_goals (go_wp2_with (first | ((with_reducible refine gate_dst (N := 1) rfl ?_); refine box_ (cs := #[.int .i64 a0_0, .int .i64 a0_1, .int .i64 a0_2]) (t := 25) fun d5 hg e0 hbox hb => ?_; have a4 := Aside0.mk (hbox); have d6 := bS HB hg; have d7 := bS HB hg; replace HB := Aside0.mk (below_step bB hb); clear hb hbox hg) | ((with_reducible refine gate_dst (N := 2) rfl ?_); refine box_ (cs := #[.int .i64 0, .int .i64 0, .int .i64 0]) (t := 25) fun b4 hg e1 hbox hb => ?_; have a5 := Aside0.mk (hbox); have d8 := bS HB hg; have d9 := bS HB hg; have a6 := bL a4 hg; have a7 := bM a4 hg; replace a4 := bQ a4 hb; replace HB := Aside0.mk (below_step bB hb); clear hb hbox hg; have d2 := a6.out; have d3 := a7.out; obtain ⟨b6, b7, b8, b9, c0, c4⟩ := cf3 a4) | ((with_reducible refine gate_callee (f := 38) rfl ?_); refine goesL_ (some 5) rfl rfl Tryd.func38 kr rfl #[.agg #[.int .i64 a0_0, .int .i64 a0_1, .int .i64 a0_2]] rfl sM ?_; (with_reducible refine (spec_clGood.calls a0_0 a0_1 a0_2 true _ A2.out).mono ?_); rintro e d1 ⟨rfl, hb⟩; refine ⟨_, rfl, ?_⟩; replace a4 := bQ a4 hb; replace a5 := bQ a5 hb; replace HB := Aside0.mk (below_step bB hb); (try clear hb); obtain ⟨a8, a9, b0, b1, b2, b3⟩ := cf3 a4; obtain ⟨c5, c6, c7, c8, c9, d0⟩ := cf3 a5) | ((with_reducible refine gate_callee (f := 38) rfl ?_); refine goesL_ (some 5) rfl rfl Tryd.func38 kr rfl #[.agg #[.int .i64 a0_0, .int .i64 a0_1, .int .i64 a0_2]] rfl sM ?_; (with_reducible refine (spec_clGood.calls a0_0 a0_1 a0_2 false _ A2.out).mono ?_); rintro e d1 ⟨rfl, hb⟩; refine ⟨_, rfl, ?_⟩; replace a4 := bQ a4 hb; replace a5 := bQ a5 hb; replace HB := Aside0.mk (below_step bB hb); (try clear hb); obtain ⟨a8, a9, b0, b1, b2, b3⟩ := cf3 a5)))
 ·(
 refine bodyPost_ret (results_ct rfl _ _ b4 25 #[.int .i64 a0_0, .int .i64 a0_2, .int .i64 a0_1] (0, 0) _ rfl (bK a5) Tryd.underlying25 rfl kr) rfl ?_
 exact ⟨sE, bI⟩
 )
 ·(
 refine bodyPost_ret (results_ct rfl _ _ b4 25 #[.int .i64 0, .int .i64 0, .int .i64 0] (0, 0) _ rfl (bK a5) Tryd.underlying25 rfl kr) rfl ?_
 exact ⟨sE, bI⟩
 )

/-! ### spec_AreLadders: function 21 -/
def spec_AreLadders.f (a0_0 : Int) (a0_1 : Int) (a0_2 : Int) : Option (Bool) := (spec_clGood.f a0_0 a0_1 a0_2).bind fun t258 => (some t258)
set_option maxHeartbeats 8000000 in
set_option maxRecDepth 100000 in
theorem spec_AreLadders.calls (a0_0 : Int) (a0_1 : Int) (a0_2 : Int) (r : Bool) (w : World) (h : spec_AreLadders.f a0_0 a0_1 a0_2 = some r) :
    Calls Tryd.prog 21 #[.agg #[.int .i64 a0_0, .int .i64 a0_1, .int .i64 a0_2]] w fun e w' => e = .returned (.bool r) ∧ Below w.heap.size w w' := by
 have b5 := Tryd.underlying25
 have HB := Aside0.mk (Below.refl w.heap.size w)
 have H := h
 unfold spec_AreLadders.f at H
 clear h
 obtain ⟨a5, A2, H⟩ := bD H
 try dsimp only at H
 obtain rfl := Option.some.inj H
 go_enter Tryd.func21, Tryd.ntmps21
 go_wp2_with (first | ((with_reducible refine gate_dst (N := 1) rfl ?_); refine box_ (cs := #[.int .i64 a0_0, .int .i64 a0_1, .int .i64 a0_2]) (t := 25) fun b2 hg w3 hbox hb => ?_; have a4 := Aside0.mk (hbox); have b3 := bS HB hg; have b4 := bS HB hg; replace HB := Aside0.mk (below_step bB hb); clear hb hbox hg; obtain ⟨a6, a7, a8, a9, b0, b1⟩ := cf3 a4) | ((with_reducible refine gate_callee (f := 38) rfl ?_); refine goesL_ (some 4) rfl rfl Tryd.func38 kr rfl #[.agg #[.int .i64 a0_0, .int .i64 a0_1, .int .i64 a0_2]] rfl sM ?_; (with_reducible refine (spec_clGood.calls a0_0 a0_1 a0_2 a5 _ A2.out).mono ?_); rintro e w5 ⟨rfl, hb⟩; refine ⟨_, rfl, ?_⟩; replace a4 := bQ a4 hb; replace HB := Aside0.mk (below_step bB hb); (try clear hb)))
 go_ret
 exact ⟨sE, bI⟩

/-! ### impl_number: function 45 -/
theorem pt_text (n : Int) (h0 : -9223372036854775808 ≤ n) (h1 : n ≤ 9223372036854775807) (w : World) (hw : PtW w) :
    Calls Tryd.prog 40 #[.int .i64 n] w fun e w' => e = .returned (.string ⟨(Lib.itoa n).toArray⟩) ∧ Below w.heap.size w w' := by
  have HT := Aside0.mk (Tryd.strconv_Itoa n h0 h1 w hw.tab)
  clear hw
  go_enter Tryd.func40, Tryd.ntmps40
  go_wp2_with (go_at_call 58; (refine HT.out.mono ?_); rintro e w1 ⟨rfl, k, os, rfl⟩)
  go_ret
  exact ⟨rfl, Lib.below_grow _ _ (Nat.le_refl _) _ _⟩
theorem atoi_range {l : List UInt8} {v : Int} (h : Lib.atoiAll l = .ok v) : -9223372036854775808 ≤ v ∧ v ≤ 9223372036854775807 := by
  unfold Lib.atoiAll at h
  split at h
  · cases h
  · simp only at h
    split at h
    · cases h
    · cases h
    · split at h
      · cases h
      · split at h
        · cases h
        · rename_i u _ c1 c2
          injection h with h
          subst h
          split <;> omega
/-- The number with a text, and whether there is one. -/
def numR (s : ByteArray) : Int × Bool := match Lib.atoiAll s.data.toList with
  | .ok v => (v, Lib.itoa v == s.toList)
  | .«syntax» => (0, false)
  | .range => (Lib.atoiSat s.data.toList, false)
def impl_number.f (a0 : ByteArray) : Option (Int × Bool) := if a0.size ≤ 281474976710656 then some (numR a0) else none
set_option maxHeartbeats 4000000 in
set_option maxRecDepth 100000 in
theorem impl_number.calls (a0 : ByteArray) (r1 : Int) (r2 : Bool) (w : World) (h : impl_number.f a0 = some (r1, r2)) (hw : PtW w) :
    Calls Tryd.prog 45 #[.string a0] w fun e w' => e = .returned (.tuple #[.int .i64 r1, .bool r2]) ∧ Below w.heap.size w w' := by
 unfold impl_number.f at h
 by_cases c : a0.size ≤ 281474976710656
 case neg => (
 rw [if_neg c] at h
 cases h
 )
 rw [if_pos c] at h
 have h := Option.some.inj h
 unfold numR at h
 have HW := Aside0.mk hw
 cases ha : Lib.atoiAll a0.data.toList with
 | ok v =>
  rw [ha] at h
  obtain ⟨rfl, rfl⟩ := Prod.mk.inj h
  have hv := atoi_range ha
  have HA := Aside0.mk (Tryd.strconv_Atoi_ok a0 (by omega) v ha w)
  have HT := Aside0.mk (fun (W : World) (hb : Below w.heap.size w W) => pt_text v hv.1 hv.2 W (HW.out.below hb))
  clear h ha c hw HW hv
  go_enter Tryd.func45, Tryd.ntmps45
  go_wp2_with (first | (go_at_call 61; (refine HA.out.mono ?_); rintro e w1 ⟨rfl, a5⟩; have a4 : Below w.heap.size w w1 := a5.elim (fun e => e ▸ Below.refl _ _) (fun ⟨t, e⟩ => e ▸ bytes_below (Below.refl _ _) (Nat.le_refl _) _ _); clear a5 HA) | (go_at_call 40; (refine (HT.out _ a4).mono ?_); rintro e w2 ⟨rfl, a6⟩))
  go_ret2
  exact ⟨rfl, below_step a4 a6⟩
 | «syntax» =>
  rw [ha] at h
  obtain ⟨rfl, rfl⟩ := Prod.mk.inj h
  obtain ⟨ev, he, hev⟩ := hw.syn
  have HA := Aside0.mk (Tryd.strconv_Atoi_syntax a0 c ha ev w he hev)
  clear h ha c hw HW he hev
  go_enter Tryd.func45, Tryd.ntmps45
  go_wp2_with (go_at_call 61; (refine HA.out.mono ?_); rintro e w1 ⟨N, rfl, _, _, a4⟩; clear HA)
  go_ret2
  exact ⟨rfl, a4⟩
 | range =>
  rw [ha] at h
  obtain ⟨rfl, rfl⟩ := Prod.mk.inj h
  obtain ⟨ev, he, hev⟩ := hw.rng
  have HA := Aside0.mk (Tryd.strconv_Atoi_range a0 c ha ev w he hev)
  clear h ha c hw HW he hev
  go_enter Tryd.func45, Tryd.ntmps45
  go_wp2_with (go_at_call 61; (refine HA.out.mono ?_); rintro e w1 ⟨N, rfl, _, _, a4⟩; clear HA)
  go_ret2
  exact ⟨rfl, a4⟩

/-! ### impl_ParseLadders: function 22 -/
def impl_ParseLadders.j0 : Nat → Int → Int → Int → Bool → Option (Int × Int × Int × Bool)
  | 0, _, _, _, _ => none
  | k + 1, x10, x12, x14, x52 => if x52 = true then (some (0, 0, 0, false)) else ((impl_checkedLadders.f x10 x12 x14).bind fun bt272 => (some (bt272.1, bt272.2.1, bt272.2.2.1, bt272.2.2.2)))
def impl_ParseLadders.f (k : Nat) (a0 : ByteArray) : Option (Int × Int × Int × Bool) := (strings_Cut.f a0 (⟨#[58]⟩ : ByteArray)).bind fun bt260 => ((strings_Cut.f bt260.2.1 (⟨#[47]⟩ : ByteArray)).bind fun bt263 => ((impl_number.f bt260.1).bind fun bt266 => ((impl_number.f bt263.1).bind fun bt268 => ((impl_number.f bt263.2.1).bind fun bt270 => (if bt266.2 = true then (if bt268.2 = true then (impl_ParseLadders.j0 k bt266.1 bt268.1 bt270.1 (!bt270.2)) else (impl_ParseLadders.j0 k bt266.1 bt268.1 bt270.1 true)) else (impl_ParseLadders.j0 k bt266.1 bt268.1 bt270.1 true))))))
theorem impl_ParseLadders.mono_l : ∀ k, (∀ y0 y1 y2 y3, LeO (impl_ParseLadders.j0 k y0 y1 y2 y3) (impl_ParseLadders.j0 (k + 1) y0 y1 y2 y3))
  | 0 => fun _ _ _ _ r h => by simp [impl_ParseLadders.j0] at h
  | k + 1 => by
    have ih0 := impl_ParseLadders.mono_l k
    · intro y0 y1 y2 y3
      unfold impl_ParseLadders.j0
      repeat' first
      | (with_reducible exact ih0 _ _ _ _)
      | (with_reducible exact LeO.refl _)
      | (with_reducible exact LeO.none _)
      | (with_reducible refine LeO.ite ?_ ?_)
      | (with_reducible refine LeO.bind ?_ (fun _ => ?_))
      | exact ih0 _ _ _ _
      | exact LeO.none _
      | refine LeO.ite ?_ ?_
      | refine LeO.bind ?_ (fun _ => ?_)
theorem impl_ParseLadders.mono : ∀ a0 k, LeO (impl_ParseLadders.f k a0) (impl_ParseLadders.f (k + 1) a0) := by
  intro a0 k
  have ih0 := impl_ParseLadders.mono_l k
  unfold impl_ParseLadders.f
  repeat' first
      | (with_reducible exact ih0 _ _ _ _)
      | (with_reducible exact LeO.refl _)
      | (with_reducible exact LeO.none _)
      | (with_reducible refine LeO.ite ?_ ?_)
      | (with_reducible refine LeO.bind ?_ (fun _ => ?_))
      | exact ih0 _ _ _ _
      | exact LeO.none _
      | refine LeO.ite ?_ ?_
      | refine LeO.bind ?_ (fun _ => ?_)
set_option maxHeartbeats 8000000 in
set_option maxRecDepth 100000 in
theorem impl_ParseLadders.calls (k : Nat) (a0 : ByteArray) (r1 : Int) (r2 : Int) (r3 : Int) (r4 : Bool) (w : World) (h : impl_ParseLadders.f k a0 = some (r1, r2, r3, r4)) (hw_ : PtW w) :
    Calls Tryd.prog 22 #[.string a0] w fun e w' => e = .returned (.tuple #[.agg #[.int .i64 r1, .int .i64 r2, .int .i64 r3], .bool r4]) ∧ Below w.heap.size w w' := by
 have HM := Aside0.mk hw_
 clear hw_
 have e5 := Tryd.underlying25
 have HB := Aside0.mk (Below.refl w.heap.size w)
 have H := h
 unfold impl_ParseLadders.f at H
 clear h
 obtain ⟨⟨b0, b1, c6⟩, A2, H⟩ := bD H
 try dsimp only at H
 obtain ⟨⟨b2, b3, c7⟩, A3, H⟩ := bD H
 try dsimp only at H
 obtain ⟨⟨a6, b7⟩, A4, H⟩ := bD H
 try dsimp only at H
 obtain ⟨⟨a7, b8⟩, A5, H⟩ := bD H
 try dsimp only at H
 obtain ⟨⟨a8, b9⟩, A6, H⟩ := bD H
 try dsimp only at H
 have c0 := Aside0.mk H
 clear H
 go_enter Tryd.func22, Tryd.ntmps22
 go_upto_region 6 with (first | ((with_reducible refine gate_dst (N := 2) rfl ?_); refine box_ (cs := #[.int .i64 0, .int .i64 0, .int .i64 0]) (t := 25) fun a9 hg w8 hbox hb => ?_; have a4 := Aside0.mk (hbox); have e3 := bS HB hg; have e4 := bS HB hg; replace HB := Aside0.mk (below_step bB hb); clear hb hbox hg) | ((with_reducible refine gate_callee (f := 44) rfl ?_); refine goesL_ (some 18) rfl rfl Tryd.func44 kr rfl #[.string a0, .string (⟨#[58]⟩ : ByteArray)] rfl sM ?_; (with_reducible refine (strings_Cut.calls a0 (⟨#[58]⟩ : ByteArray) b0 b1 c6 _ A2.out (HM.out.below (by repeat (first | (with_reducible first | exact HB.out | apply below_alloc | apply pw_below_drewN | apply below_drew1 | refine below_set ?_ (Aside0.out (by assumption))) | exact HB.out)))).mono ?_); rintro e w9 ⟨rfl, hb⟩; refine ⟨_, rfl, ?_⟩; replace a4 := bQ a4 hb; replace HB := Aside0.mk (below_step bB hb); (try clear hb)) | ((with_reducible refine gate_callee (f := 44) rfl ?_); refine goesL_ (some 24) rfl rfl Tryd.func44 kr rfl #[.string b1, .string (⟨#[47]⟩ : ByteArray)] rfl sM ?_; (with_reducible refine (strings_Cut.calls b1 (⟨#[47]⟩ : ByteArray) b2 b3 c7 _ A3.out (HM.out.below (by repeat (first | (with_reducible first | exact HB.out | apply below_alloc | apply pw_below_drewN | apply below_drew1 | refine below_set ?_ (Aside0.out (by assumption))) | exact HB.out)))).mono ?_); rintro e e6 ⟨rfl, hb⟩; refine ⟨_, rfl, ?_⟩; replace a4 := bQ a4 hb; replace HB := Aside0.mk (below_step bB hb); (try clear hb)) | ((with_reducible refine gate_callee (f := 45) rfl ?_); refine goesL_ (some 30) rfl rfl Tryd.func45 kr rfl #[.string b0] rfl sM ?_; (with_reducible refine (impl_number.calls b0 a6 b7 _ A4.out (HM.out.below (by repeat (first | (with_reducible first | exact HB.out | apply below_alloc | apply pw_below_drewN | apply below_drew1 | refine below_set ?_ (Aside0.out (by assumption))) | exact HB.out)))).mono ?_); rintro e e7 ⟨rfl, hb⟩; refine ⟨_, rfl, ?_⟩; replace a4 := bQ a4 hb; replace HB := Aside0.mk (below_step bB hb); (try clear hb)) | ((with_reducible refine gate_callee (f := 45) rfl ?_); refine goesL_ (some 35) rfl rfl Tryd.func45 kr rfl #[.string b2] rfl sM ?_; (with_reducible refine (impl_number.calls b2 a7 b8 _ A5.out (HM.out.below (by repeat (first | (with_reducible first | exact HB.out | apply below_alloc | apply pw_below_drewN | apply below_drew1 | refine below_set ?_ (Aside0.out (by assumption))) | exact HB.out)))).mono ?_); rintro e e8 ⟨rfl, hb⟩; refine ⟨_, rfl, ?_⟩; replace a4 := bQ a4 hb; replace HB := Aside0.mk (below_step bB hb); (try clear hb)) | ((with_reducible refine gate_callee (f := 45) rfl ?_); refine goesL_ (some 40) rfl rfl Tryd.func45 kr rfl #[.string b3] rfl sM ?_; (with_reducible refine (impl_number.calls b3 a8 b9 _ A6.out (HM.out.below (by repeat (first | (with_reducible first | exact HB.out | apply below_alloc | apply pw_below_drewN | apply below_drew1 | refine below_set ?_ (Aside0.out (by assumption))) | exact HB.out)))).mono ?_); rintro e e9 ⟨rfl, hb⟩; refine ⟨_, rfl, ?_⟩; replace a4 := bQ a4 hb; replace HB := Aside0.mk (below_step bB hb); (try clear hb)))
 (try simp only [Act.put, List.setIfInBounds_toArray, List.set_cons_zero, List.set_cons_succ])
 go_cut [52] (fun e1 wc => ∃ (kq : Nat) (a5 : Bool), e1 = .bool a5 ∧ Aside0 (impl_ParseLadders.j0 kq a6 a7 a8 a5 = some (r1, r2, r3, r4)) ∧ Aside0 (kq ≤ k) ∧ Aside0 (wc.heap[a9]? = some (.cells #[.int .i64 0, .int .i64 0, .int .i64 0] 25 (0, 0))) ∧ Aside0 (Below w.heap.size w wc))
 case first => (
 have H := c0.out
 clear c0
 by_cases b4 : b7 = true
 ·(
 subst b4
 rw [if_pos rfl] at H
 by_cases b5 : b8 = true
 ·(
 subst b5
 rw [if_pos rfl] at H
 have H' := Aside0.mk H
 clear H
 go_wp2
 go_meet
 case rel => exact ⟨_, (!b9), sR, H', ⟨by first | omega | exact Nat.le_refl _⟩, (bA a4), ⟨bB⟩⟩
 )
 ·(
 replace b5 := Bool.eq_false_iff.mpr b5
 subst b5
 rw [if_neg nft] at H
 have H' := Aside0.mk H
 clear H
 go_wp2
 go_meet
 case rel => exact ⟨_, (true), sR, H', ⟨by first | omega | exact Nat.le_refl _⟩, (bA a4), ⟨bB⟩⟩
 )
 )
 ·(
 replace b4 := Bool.eq_false_iff.mpr b4
 subst b4
 rw [if_neg nft] at H
 have H' := Aside0.mk H
 clear H
 go_wp2
 go_meet
 case rel => exact ⟨_, (true), sR, H', ⟨by first | omega | exact Nat.le_refl _⟩, (bA a4), ⟨bB⟩⟩
 )
 )
 case rest => (
 clear c0
 obtain ⟨kq, a5, rfl, HA, HJ6, a4, HB⟩ := hcut
 cases kq with
 | zero => exact absurd HA.out (by simp [impl_ParseLadders.j0])
 | succ g0 => (
 have H := HA.out
 clear HA
 simp only [impl_ParseLadders.j0] at H
 by_cases b6 : a5 = true
 ·(
 subst b6
 rw [if_pos rfl] at H
 simp only [Option.some.injEq, Prod.mk.injEq] at H
 obtain ⟨rfl, rfl, rfl, rfl⟩ := H
 obtain ⟨c9, d0, d1, d2, d3, d4⟩ := cf3 a4
 go_wp2
 refine bodyPost_ret (results_ct rfl _ _ a9 25 #[.int .i64 0, .int .i64 0, .int .i64 0] (0, 0) _ rfl (bK a4) Tryd.underlying25 rfl kr) rfl ?_
 exact ⟨sE, bI⟩
 )
 ·(
 replace b6 := Bool.eq_false_iff.mpr b6
 subst b6
 rw [if_neg nft] at H
 obtain ⟨⟨c3, c4, c5, c8⟩, e2, H⟩ := bD H
 try dsimp only at H
 simp only [Option.some.injEq, Prod.mk.injEq] at H
 obtain ⟨rfl, rfl, rfl, rfl⟩ := H
 go_wp2_with (first | ((with_reducible refine gate_callee (f := 42) rfl ?_); refine goesL_ (some 58) rfl rfl Tryd.func42 kr rfl #[.agg #[.int .i64 a6, .int .i64 a7, .int .i64 a8]] rfl sM ?_; (with_reducible refine (impl_checkedLadders.calls a6 a7 a8 c3 c4 c5 c8 _ e2.out).mono ?_); rintro e g1 ⟨rfl, hb⟩; refine ⟨_, rfl, ?_⟩; replace a4 := bQ a4 hb; replace HB := Aside0.mk (below_step bB hb); (try clear hb); obtain ⟨d5, d6, d7, d8, d9, e0⟩ := cf3 a4))
 refine bodyPost_ret (results_ct rfl _ _ a9 25 #[.int .i64 c3, .int .i64 c4, .int .i64 c5] (0, 0) _ rfl (bK a4) Tryd.underlying25 rfl kr) rfl ?_
 exact ⟨sE, bI⟩
 )
 )
 )

/-! ### laws_jLow: function 24 -/
mutual
def laws_jLow.j0 : Nat → Int → Int → Option (Bool)
  | 0, _, _ => none
  | k + 1, x5, x6 => laws_jLow.l0 k x5 x6
def laws_jLow.l0 : Nat → Int → Int → Option (Bool)
  | 0, _, _ => none
  | k + 1, x5, x6 => if x6 > 0 then (if x6 = 0 then (none) else (laws_jLow.l0 k x6 (Int.tmod x5 x6))) else (some (x5 == 1))
end
def laws_jLow.f (k : Nat) (a0 : Int) (a1 : Int) : Option (Bool) := if a1 < 1 then (some false) else (if a0 < 0 then (laws_jLow.j0 k (wrap64 (-a0)) a1) else (laws_jLow.j0 k a0 a1))
theorem laws_jLow.mono_l : ∀ k, (∀ y0 y1, LeO (laws_jLow.j0 k y0 y1) (laws_jLow.j0 (k + 1) y0 y1)) ∧ (∀ y0 y1, LeO (laws_jLow.l0 k y0 y1) (laws_jLow.l0 (k + 1) y0 y1))
  | 0 => ⟨fun _ _ r h => by simp [laws_jLow.j0] at h, fun _ _ r h => by simp [laws_jLow.l0] at h⟩
  | k + 1 => by
    obtain ⟨ih0, ih1⟩ := laws_jLow.mono_l k
    refine ⟨?_, ?_⟩
    · intro y0 y1
      unfold laws_jLow.j0
      repeat' first
      | (with_reducible exact ih0 _ _)
      | (with_reducible exact ih1 _ _)
      | (with_reducible exact LeO.refl _)
      | (with_reducible exact LeO.none _)
      | (with_reducible refine LeO.ite ?_ ?_)
      | (with_reducible refine LeO.bind ?_ (fun _ => ?_))
      | exact ih0 _ _
      | exact ih1 _ _
      | exact LeO.none _
      | refine LeO.ite ?_ ?_
      | refine LeO.bind ?_ (fun _ => ?_)
    · intro y0 y1
      unfold laws_jLow.l0
      repeat' first
      | (with_reducible exact ih0 _ _)
      | (with_reducible exact ih1 _ _)
      | (with_reducible exact LeO.refl _)
      | (with_reducible exact LeO.none _)
      | (with_reducible refine LeO.ite ?_ ?_)
      | (with_reducible refine LeO.bind ?_ (fun _ => ?_))
      | exact ih0 _ _
      | exact ih1 _ _
      | exact LeO.none _
      | refine LeO.ite ?_ ?_
      | refine LeO.bind ?_ (fun _ => ?_)
theorem laws_jLow.mono : ∀ a0 a1 k, LeO (laws_jLow.f k a0 a1) (laws_jLow.f (k + 1) a0 a1) := by
  intro a0 a1 k
  obtain ⟨ih0, ih1⟩ := laws_jLow.mono_l k
  unfold laws_jLow.f
  repeat' first
      | (with_reducible exact ih0 _ _)
      | (with_reducible exact ih1 _ _)
      | (with_reducible exact LeO.refl _)
      | (with_reducible exact LeO.none _)
      | (with_reducible refine LeO.ite ?_ ?_)
      | (with_reducible refine LeO.bind ?_ (fun _ => ?_))
      | exact ih0 _ _
      | exact ih1 _ _
      | exact LeO.none _
      | refine LeO.ite ?_ ?_
      | refine LeO.bind ?_ (fun _ => ?_)
set_option maxHeartbeats 8000000 in
set_option maxRecDepth 100000 in
theorem laws_jLow.calls (k : Nat) (a0 : Int) (a1 : Int) (r : Bool) (w : World) (h : laws_jLow.f k a0 a1 = some r) :
    Calls Tryd.prog 24 #[.int .i64 a0, .int .i64 a1] w fun e w' => e = .returned (.bool r) ∧ Drawn0 w w' := by
 have H := h
 unfold laws_jLow.f at H
 clear h
 by_cases c3 : a1 < 1
 ·(
 rw [if_pos c3] at H
 have a8 : decide (a1 < 1) = true := decide_eq_true c3
 clear c3
 obtain rfl := Option.some.inj H
 go_enter Tryd.func24, Tryd.ntmps24
 go_wp2
 repeat (go_quiet (fail); try go_wp2)
 go_ret
 exact ⟨by first | rfl | (simp; done) | (simp [*]; done), by repeat (first | exact Drawn0.refl _ | apply Drawn0.step)⟩
 )
 ·(
 rw [if_neg c3] at H
 have a8 : decide (a1 < 1) = false := decide_eq_false c3
 clear c3
 have a9 := Aside0.mk H
 clear H
 go_enter Tryd.func24, Tryd.ntmps24
 go_upto_if 12 with (fail)
 repeat (go_quiet (fail); go_upto_if 12 with (fail))
 go_cut [5] (fun v5 wc => ∃ (kq : Nat) (a6 : Int), v5 = .int .i64 a6 ∧ Aside0 (laws_jLow.j0 kq a6 a1 = some r) ∧ Aside0 (kq ≤ k) ∧ Drawn0 w wc)
 case first => (
 have H := a9.out
 clear a9
 by_cases c5 : a0 < 0
 ·(
 rw [if_pos c5] at H
 have a5 : decide (a0 < 0) = true := decide_eq_true c5
 clear c5
 (first | rw [a5] | (simp only [i64_w, i32_w]; rw [a5]) | skip)
 have H' := Aside0.mk H
 clear H
 go_wp2
 repeat (go_quiet (fail); try go_wp2)
 go_meet
 case rel => exact ⟨_, (wrap64 (-a0)), sR, H', ⟨by first | omega | exact Nat.le_refl _⟩, by repeat (first | exact Drawn0.refl _ | apply Drawn0.step)⟩
 )
 ·(
 rw [if_neg c5] at H
 have a5 : decide (a0 < 0) = false := decide_eq_false c5
 clear c5
 (first | rw [a5] | (simp only [i64_w, i32_w]; rw [a5]) | skip)
 have H' := Aside0.mk H
 clear H
 go_wp2
 repeat (go_quiet (fail); try go_wp2)
 go_meet
 case rel => exact ⟨_, (a0), sR, H', ⟨by first | omega | exact Nat.le_refl _⟩, by repeat (first | exact Drawn0.refl _ | apply Drawn0.step)⟩
 )
 )
 case rest => (
 clear a9
 try clear a8
 obtain ⟨kq, a6, rfl, HA, HJ3, ⟨b4, rfl⟩⟩ := hcut
 cases kq with
 | zero => exact absurd HA.out (by simp [laws_jLow.j0])
 | succ b0 => (
 have H := HA.out
 clear HA
 simp only [laws_jLow.j0] at H
 have H' := Aside0.mk H
 clear H
 go_wp2
 repeat (go_quiet (fail); try go_wp2)
 go_loopg [5, 6] b0 (fun kq v5 v6 w' => ∃ (a7 : Int) (a4 : Int), v5 = .int .i64 a7 ∧ v6 = .int .i64 a4 ∧ Aside0 (laws_jLow.l0 kq a7 a4 = some r) ∧ Aside0 (kq ≤ b0) ∧ Drawn0 w w')
 case atStart => exact ⟨(a6), (a1), sR, sR, H', ⟨Nat.le_refl _⟩, by repeat (first | exact Drawn0.refl _ | apply Drawn0.step)⟩
 case round => (
 clear H'
 obtain ⟨a7, a4, rfl, rfl, HA, HK2, ⟨m2, rfl⟩⟩ := hrel
 cases gk with
 | zero => exact absurd HA.out (by simp [laws_jLow.l0])
 | succ k2 => (
 have H := HA.out
 clear HA
 simp only [laws_jLow.l0] at H
 by_cases c6 : a4 > 0
 ·(
 rw [if_pos c6] at H
 have b1 : decide (0 < a4) = true := decide_eq_true c6
 clear c6
 by_cases c7 : a4 = 0
 ·(
 rw [if_pos c7] at H
 exact absurd H (by simp)
 )
 ·(
 rw [if_neg c7] at H
 obtain ⟨b2, b3⟩ := nE c7
 have H' := Aside0.mk H
 clear H
 go_wp2
 repeat (go_quiet (fail); try go_wp2)
 go_roundg k2
 case measure => have := HJ3.out; have := HK2.out; omega
 case rel => exact ⟨(a4), (Int.tmod a7 a4), sR, sR, H', ⟨by have := HJ3.out; have := HK2.out; omega⟩, by repeat (first | exact Drawn0.refl _ | apply Drawn0.step)⟩
 )
 )
 ·(
 rw [if_neg c6] at H
 have b1 : decide (0 < a4) = false := decide_eq_false c6
 clear c6
 obtain rfl := Option.some.inj H
 go_wp2
 repeat (go_quiet (fail); try go_wp2)
 go_ret
 exact ⟨by first | rfl | (simp; done) | (simp [*]; done), by repeat (first | exact Drawn0.refl _ | apply Drawn0.step)⟩
 )
 )
 )
 )
 )
 )

/-! ### laws_jIs: function 23 -/
def laws_jIs.f (k : Nat) (a0 : Int) (a1 : Int) (a2 : Int) (a3 : Int) : Option (Bool) := (laws_jLow.f k a0 a1).bind fun t276 => (if t276 = true then (some ((wrap64 (a0 * a3)) == (wrap64 (a2 * a1)))) else (some false))
theorem laws_jIs.mono : ∀ a0 a1 a2 a3 k, LeO (laws_jIs.f k a0 a1 a2 a3) (laws_jIs.f (k + 1) a0 a1 a2 a3) := by
  intro a0 a1 a2 a3 k
  unfold laws_jIs.f
  repeat' first
      | (with_reducible exact laws_jLow.mono _ _ _)
      | (with_reducible exact LeO.refl _)
      | (with_reducible exact LeO.none _)
      | (with_reducible refine LeO.ite ?_ ?_)
      | (with_reducible refine LeO.bind ?_ (fun _ => ?_))
      | exact laws_jLow.mono _ _ _
      | exact LeO.none _
      | refine LeO.ite ?_ ?_
      | refine LeO.bind ?_ (fun _ => ?_)
set_option maxHeartbeats 8000000 in
set_option maxRecDepth 100000 in
theorem laws_jIs.calls (k : Nat) (a0 : Int) (a1 : Int) (a2 : Int) (a3 : Int) (r : Bool) (w : World) (h : laws_jIs.f k a0 a1 a2 a3 = some r) :
    Calls Tryd.prog 23 #[.int .i64 a0, .int .i64 a1, .int .i64 a2, .int .i64 a3] w fun e w' => e = .returned (.bool r) ∧ Drawn0 w w' := by
 have H := h
 unfold laws_jIs.f at H
 clear h
 obtain ⟨a4, A5, H⟩ := bD H
 try dsimp only at H
 by_cases c6 : a4 = true
 ·(
 subst c6
 rw [if_pos rfl] at H
 obtain rfl := Option.some.inj H
 go_enter Tryd.func23, Tryd.ntmps23
 go_wp2_with (first | ((with_reducible refine gate_callee (f := 24) rfl ?_); refine goesL_ (some 11) rfl rfl Tryd.func24 kr rfl #[.int .i64 a0, .int .i64 a1] rfl sM ?_; (with_reducible refine (laws_jLow.calls k a0 a1 true _ A5.out).mono ?_); rintro e w' ⟨rfl, ⟨nd, rfl⟩⟩; refine ⟨_, rfl, ?_⟩))
 go_ret
 exact ⟨by first | rfl | (simp; done) | (simp [*]; done), by repeat (first | exact Drawn0.refl _ | apply Drawn0.step)⟩
 )
 ·(
 replace c6 := Bool.eq_false_iff.mpr c6
 subst c6
 rw [if_neg nft] at H
 obtain rfl := Option.some.inj H
 go_enter Tryd.func23, Tryd.ntmps23
 go_wp2_with (first | ((with_reducible refine gate_callee (f := 24) rfl ?_); refine goesL_ (some 11) rfl rfl Tryd.func24 kr rfl #[.int .i64 a0, .int .i64 a1] rfl sM ?_; (with_reducible refine (laws_jLow.calls k a0 a1 false _ A5.out).mono ?_); rintro e w' ⟨rfl, ⟨nd, rfl⟩⟩; refine ⟨_, rfl, ?_⟩))
 go_ret
 exact ⟨by first | rfl | (simp; done) | (simp [*]; done), by repeat (first | exact Drawn0.refl _ | apply Drawn0.step)⟩
 )

end Go.Proofs.YtcfknhmdhglmfaaDoor.PFnLaddersCross
