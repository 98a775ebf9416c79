-- Written by xprint.py, a program of this session, for this seat; Lean checks it.
import Derived.Test.YtcfknhmdhglmfaaGreatDoorVM
import Derived.Test.YtcfknhmdhglmfaaGreatDoorPFnLaddersWholex0
import Derived.Test.YtcfknhmdhglmfaaGreatDoorPFnLaddersWholex3
import Derived.Test.YtcfknhmdhglmfaaGreatDoorPFnLaddersWholex4
namespace Go.Proofs.YtcfknhmdhglmfaaGreatDoor.PFnLaddersWhole
open Go.Proofs.YtcfknhmdhglmfaaGreatDoorV Go.RowKit Go.Proofs.YtcfknhmdhglmfaaGreatDoorW.PrintWords Go.Proofs.YtcfknhmdhglmfaaGreatDoorW.PrintLast Go.Proofs.YtcfknhmdhglmfaaGreatDoorW.PrintMore
attribute [local go_sem] max2_int min2_int max_two min_two max_three min_three max_four min_four   -- for this text's walks alone
set_option linter.unusedVariables false
set_option linter.unusedSimpArgs false

/-! ### impl_checkedLadders: function 50 -/
def impl_checkedLadders.f (a0_0 : Int) (a0_1 : Int) (a0_2 : Int) : Option (Int × Int × Int × Bool) := (impl_AreLadders.f a0_0 a0_1 a0_2).bind fun t341 => (if t341 = true then (some (a0_0, a0_1, a0_2, true)) else (some (0, 0, 0, false)))
set_option maxHeartbeats 8000000 in
set_option maxRecDepth 100000 in
theorem impl_checkedLadders.calls (a0_0 : Int) (a0_1 : Int) (a0_2 : Int) (r1 : Int) (r2 : Int) (r3 : Int) (r4 : Bool) (w : World) (h : impl_checkedLadders.f a0_0 a0_1 a0_2 = some (r1, r2, r3, r4)) :
    Calls Tryz.prog 50 #[.agg #[.int .i64 a0_0, .int .i64 a0_1, .int .i64 a0_2]] w fun e w' => e = .returned (.tuple #[.agg #[.int .i64 r1, .int .i64 r2, .int .i64 r3], .bool r4]) ∧ Below w.heap.size w w' := by
 have d4 := Tryz.underlying25
 have HB := Aside0.mk (Below.refl w.heap.size w)
 have H := h
 unfold impl_checkedLadders.f at H
 clear h
 obtain ⟨b5, A2, H⟩ := bD H
 try dsimp only at H
 by_cases c3 : b5 = true
 subst c3
 rw [if_pos rfl] at H
 simp only [Option.some.injEq, Prod.mk.injEq] at H
 obtain ⟨rfl, rfl, rfl, rfl⟩ := H
 rotate_left
 replace c3 := Bool.eq_false_iff.mpr c3
 subst c3
 rw [if_neg nft] at H
 simp only [Option.some.injEq, Prod.mk.injEq] at H
 obtain ⟨rfl, rfl, rfl, rfl⟩ := H
 rotate_left
 all_goals (go_enter Tryz.func50, Tryz.ntmps50)
 all_goals (go_wp2_with (first | ((with_reducible refine gate_dst (N := 1) rfl ?_); refine box_ (cs := #[.int .i64 a0_0, .int .i64 a0_1, .int .i64 a0_2]) (t := 25) fun d5 hg e0 hbox hb => ?_; have a4 := Aside0.mk (hbox); have d6 := bS HB hg; have d7 := bS HB hg; replace HB := Aside0.mk (below_step bB hb); clear hb hbox hg) | ((with_reducible refine gate_dst (N := 2) rfl ?_); refine box_ (cs := #[.int .i64 0, .int .i64 0, .int .i64 0]) (t := 25) fun b4 hg e3 hbox hb => ?_; have a5 := Aside0.mk (hbox); have d8 := bS HB hg; have d9 := bS HB hg; have a6 := bL a4 hg; have a7 := bM a4 hg; replace a4 := bQ a4 hb; replace HB := Aside0.mk (below_step bB hb); clear hb hbox hg; have d2 := a6.out; have d3 := a7.out; obtain ⟨b6, b7, b8, b9, c0, c4⟩ := cf3 a4) | ((with_reducible refine gate_callee (f := 12) rfl ?_); refine goesL_ (some 5) rfl rfl Tryz.func12 kr rfl #[.agg #[.int .i64 a0_0, .int .i64 a0_1, .int .i64 a0_2]] rfl sM ?_; (with_reducible refine (impl_AreLadders.calls a0_0 a0_1 a0_2 true _ A2.out).mono ?_); rintro e d1 ⟨rfl, hb⟩; refine ⟨_, rfl, ?_⟩; replace a4 := bQ a4 hb; replace a5 := bQ a5 hb; replace HB := Aside0.mk (below_step bB hb); (try clear hb); obtain ⟨a8, a9, b0, b1, b2, b3⟩ := cf3 a4; obtain ⟨c5, c6, c7, c8, c9, d0⟩ := cf3 a5) | ((with_reducible refine gate_callee (f := 12) rfl ?_); refine goesL_ (some 5) rfl rfl Tryz.func12 kr rfl #[.agg #[.int .i64 a0_0, .int .i64 a0_1, .int .i64 a0_2]] rfl sM ?_; (with_reducible refine (impl_AreLadders.calls a0_0 a0_1 a0_2 false _ A2.out).mono ?_); rintro e d1 ⟨rfl, hb⟩; refine ⟨_, rfl, ?_⟩; replace a4 := bQ a4 hb; replace a5 := bQ a5 hb; replace HB := Aside0.mk (below_step bB hb); (try clear hb); obtain ⟨a8, a9, b0, b1, b2, b3⟩ := cf3 a5)))
 ·(
 refine bodyPost_ret (results_ct rfl _ _ b4 25 #[.int .i64 a0_0, .int .i64 a0_1, .int .i64 a0_2] (0, 0) _ rfl (bK a5) Tryz.underlying25 rfl kr) rfl ?_
 exact ⟨sE, bI⟩
 )
 ·(
 refine bodyPost_ret (results_ct rfl _ _ b4 25 #[.int .i64 0, .int .i64 0, .int .i64 0] (0, 0) _ rfl (bK a5) Tryz.underlying25 rfl kr) rfl ?_
 exact ⟨sE, bI⟩
 )

/-! ### impl_TimesLadders: function 25 -/
def impl_TimesLadders.j0 : Nat → Int → Bool → Int → Int → Int → Option (Int × Int × Int × Bool)
  | 0, _, _, _, _, _ => none
  | k + 1, x1, x13, x343000, x343001, x343002 => if x13 = true then (some (0, 0, 0, false)) else ((impl_checkedLadders.f (wrap64 (x1 * x343000)) (wrap64 (x1 * x343001)) (wrap64 (x1 * x343002))).bind fun bt346 => (some (bt346.1, bt346.2.1, bt346.2.2.1, bt346.2.2.2)))
def impl_TimesLadders.f (k : Nat) (a0_0 : Int) (a0_1 : Int) (a0_2 : Int) (a1 : Int) : Option (Int × Int × Int × Bool) := (impl_AreLadders.f a0_0 a0_1 a0_2).bind fun t344 => (if t344 = true then ((impl_isWide.f a1).bind fun t345 => (impl_TimesLadders.j0 k a1 (!t345) a0_0 a0_1 a0_2)) else (impl_TimesLadders.j0 k a1 true a0_0 a0_1 a0_2))
theorem impl_TimesLadders.mono_l : ∀ k, (∀ y0 y1 y2 y3 y4, LeO (impl_TimesLadders.j0 k y0 y1 y2 y3 y4) (impl_TimesLadders.j0 (k + 1) y0 y1 y2 y3 y4))
  | 0 => fun _ _ _ _ _ r h => by simp [impl_TimesLadders.j0] at h
  | k + 1 => by
    have ih0 := impl_TimesLadders.mono_l k
    · intro y0 y1 y2 y3 y4
      unfold impl_TimesLadders.j0
      repeat' first
      | (with_reducible exact ih0 _ _ _ _ _)
      | (with_reducible exact LeO.refl _)
      | (with_reducible exact LeO.none _)
      | (with_reducible refine LeO.ite ?_ ?_)
      | (with_reducible refine LeO.bind ?_ (fun _ => ?_))
      | exact ih0 _ _ _ _ _
      | exact LeO.none _
      | refine LeO.ite ?_ ?_
      | refine LeO.bind ?_ (fun _ => ?_)
theorem impl_TimesLadders.mono : ∀ a0 a1 a2 a3 k, LeO (impl_TimesLadders.f k a0 a1 a2 a3) (impl_TimesLadders.f (k + 1) a0 a1 a2 a3) := by
  intro a0 a1 a2 a3 k
  have ih0 := impl_TimesLadders.mono_l k
  unfold impl_TimesLadders.f
  repeat' first
      | (with_reducible exact ih0 _ _ _ _ _)
      | (with_reducible exact LeO.refl _)
      | (with_reducible exact LeO.none _)
      | (with_reducible refine LeO.ite ?_ ?_)
      | (with_reducible refine LeO.bind ?_ (fun _ => ?_))
      | exact ih0 _ _ _ _ _
      | exact LeO.none _
      | refine LeO.ite ?_ ?_
      | refine LeO.bind ?_ (fun _ => ?_)
set_option maxHeartbeats 8000000 in
set_option maxRecDepth 100000 in
theorem impl_TimesLadders.calls (k : Nat) (a0_0 : Int) (a0_1 : Int) (a0_2 : Int) (a1 : Int) (r1 : Int) (r2 : Int) (r3 : Int) (r4 : Bool) (w : World) (h : impl_TimesLadders.f k a0_0 a0_1 a0_2 a1 = some (r1, r2, r3, r4)) :
    Calls Tryz.prog 25 #[.agg #[.int .i64 a0_0, .int .i64 a0_1, .int .i64 a0_2], .int .i64 a1] w fun e w' => e = .returned (.tuple #[.agg #[.int .i64 r1, .int .i64 r2, .int .i64 r3], .bool r4]) ∧ Below w.heap.size w w' := by
 have i1 := Tryz.underlying25
 have HB := Aside0.mk (Below.refl w.heap.size w)
 have H := h
 unfold impl_TimesLadders.f at H
 clear h
 have b1 := Aside0.mk H
 clear H
 go_enter Tryz.func25, Tryz.ntmps25
 go_upto_region 1 with (first | ((with_reducible refine gate_dst (N := 2) rfl ?_); refine box_ (cs := #[.int .i64 a0_0, .int .i64 a0_1, .int .i64 a0_2]) (t := 25) fun b6 hg w4 hbox hb => ?_; have a4 := Aside0.mk (hbox); have g8 := bS HB hg; have g9 := bS HB hg; replace HB := Aside0.mk (below_step bB hb); clear hb hbox hg) | ((with_reducible refine gate_dst (N := 4) rfl ?_); refine box_ (cs := #[.int .i64 0, .int .i64 0, .int .i64 0]) (t := 25) fun a9 hg w5 hbox hb => ?_; have a5 := Aside0.mk (hbox); have h3 := bS HB hg; have h4 := bS HB hg; have a6 := bL a4 hg; have a7 := bM a4 hg; replace a4 := bQ a4 hb; replace HB := Aside0.mk (below_step bB hb); clear hb hbox hg))
 (try simp only [Act.put, List.setIfInBounds_toArray, List.set_cons_zero, List.set_cons_succ])
 go_cut [13] (fun g6 wc => ∃ (kq : Nat) (a8 : Bool), g6 = .bool a8 ∧ Aside0 (impl_TimesLadders.j0 kq a1 a8 a0_0 a0_1 a0_2 = some (r1, r2, r3, r4)) ∧ Aside0 (kq ≤ k) ∧ Aside0 (wc.heap[b6]? = some (.cells #[.int .i64 a0_0, .int .i64 a0_1, .int .i64 a0_2] 25 (0, 0))) ∧ Aside0 (wc.heap[a9]? = some (.cells #[.int .i64 0, .int .i64 0, .int .i64 0] 25 (0, 0))) ∧ Aside0 (Below w.heap.size w wc))
 case first => (
 have H := b1.out
 clear b1
 obtain ⟨b7, A6, H⟩ := bD H
 try dsimp only at H
 by_cases c7 : b7 = true
 ·(
 subst c7
 rw [if_pos rfl] at H
 obtain ⟨b2, A8, H⟩ := bD H
 try dsimp only at H
 have H' := Aside0.mk H
 clear H
 have i2 := a6.out
 have i3 := a7.out
 obtain ⟨b9, c0, c3, c4, c5, c6⟩ := cf3 a4
 go_wp2_with (first | ((with_reducible refine gate_callee (f := 12) rfl ?_); refine goesL_ (some 7) rfl rfl Tryz.func12 kr rfl #[.agg #[.int .i64 a0_0, .int .i64 a0_1, .int .i64 a0_2]] rfl sM ?_; (with_reducible refine (impl_AreLadders.calls a0_0 a0_1 a0_2 true _ A6.out).mono ?_); rintro e i4 ⟨rfl, hb⟩; refine ⟨_, rfl, ?_⟩; replace a4 := bQ a4 hb; replace a5 := bQ a5 hb; replace HB := Aside0.mk (below_step bB hb); (try clear hb)) | (go_at_call 40; (with_reducible refine (impl_isWide.calls a1 b2 _ A8.out).mono ?_); rintro e w' ⟨rfl, ⟨nd, rfl⟩⟩))
 go_meet
 case rel => exact ⟨_, (!b2), sR, H', ⟨by first | omega | exact Nat.le_refl _⟩, (bA a4), (bA a5), ⟨bB⟩⟩
 )
 ·(
 replace c7 := Bool.eq_false_iff.mpr c7
 subst c7
 rw [if_neg nft] at H
 have H' := Aside0.mk H
 clear H
 have h5 := a6.out
 have h6 := a7.out
 obtain ⟨c8, c9, d0, d1, d2, d3⟩ := cf3 a4
 go_wp2_with (first | ((with_reducible refine gate_callee (f := 12) rfl ?_); refine goesL_ (some 7) rfl rfl Tryz.func12 kr rfl #[.agg #[.int .i64 a0_0, .int .i64 a0_1, .int .i64 a0_2]] rfl sM ?_; (with_reducible refine (impl_AreLadders.calls a0_0 a0_1 a0_2 false _ A6.out).mono ?_); rintro e i5 ⟨rfl, hb⟩; refine ⟨_, rfl, ?_⟩; replace a4 := bQ a4 hb; replace a5 := bQ a5 hb; replace HB := Aside0.mk (below_step bB hb); (try clear hb)))
 go_meet
 case rel => exact ⟨_, (true), sR, H', ⟨by first | omega | exact Nat.le_refl _⟩, (bA a4), (bA a5), ⟨bB⟩⟩
 )
 )
 case rest => (
 clear b1
 obtain ⟨kq, a8, rfl, HA, HJ2, a4, a5, HB⟩ := hcut
 cases kq with
 | zero => exact absurd HA.out (by simp [impl_TimesLadders.j0])
 | succ i6 => (
 have H := HA.out
 clear HA
 simp only [impl_TimesLadders.j0] at H
 by_cases b0 : a8 = true
 ·(
 subst b0
 rw [if_pos rfl] at H
 simp only [Option.some.injEq, Prod.mk.injEq] at H
 obtain ⟨rfl, rfl, rfl, rfl⟩ := H
 have h7 := a7.out
 have h8 := a6.out
 obtain ⟨d4, d5, d6, d7, d8, d9⟩ := cf3 a5
 go_wp2
 refine bodyPost_ret (results_ct rfl _ _ a9 25 #[.int .i64 0, .int .i64 0, .int .i64 0] (0, 0) _ rfl (bK a5) Tryz.underlying25 rfl kr) rfl ?_
 exact ⟨sE, bI⟩
 )
 ·(
 replace b0 := Bool.eq_false_iff.mpr b0
 subst b0
 rw [if_neg nft] at H
 obtain ⟨⟨b3, b4, b5, b8⟩, g7, H⟩ := bD H
 try dsimp only at H
 simp only [Option.some.injEq, Prod.mk.injEq] at H
 obtain ⟨rfl, rfl, rfl, rfl⟩ := H
 have h9 := a6.out
 have i0 := a7.out
 obtain ⟨e0, e3, e4, e5, e6, e7⟩ := cf3 a4
 go_wp2_with (first | ((with_reducible refine gate_callee (f := 50) rfl ?_); refine goesL_ (some 28) rfl rfl Tryz.func50 kr rfl #[.agg #[.int .i64 (wrap64 (a1 * a0_0)), .int .i64 (wrap64 (a1 * a0_1)), .int .i64 (wrap64 (a1 * a0_2))]] rfl sM ?_; (with_reducible refine (impl_checkedLadders.calls (wrap64 (a1 * a0_0)) (wrap64 (a1 * a0_1)) (wrap64 (a1 * a0_2)) b3 b4 b5 b8 _ g7.out).mono ?_); rintro e i7 ⟨rfl, hb⟩; refine ⟨_, rfl, ?_⟩; replace a4 := bQ a4 hb; replace a5 := bQ a5 hb; replace HB := Aside0.mk (below_step bB hb); (try clear hb); obtain ⟨e8, e9, g0, g3, g4, g5⟩ := cf3 a5))
 refine bodyPost_ret (results_ct rfl _ _ a9 25 #[.int .i64 b3, .int .i64 b4, .int .i64 b5] (0, 0) _ rfl (bK a5) Tryz.underlying25 rfl kr) rfl ?_
 exact ⟨sE, bI⟩
 )
 )
 )

/-! ### spec_TimesLadders: function 26 -/
def spec_TimesLadders.j0 : Nat → Int → Bool → Int → Int → Int → Option (Int × Int × Int × Bool)
  | 0, _, _, _, _, _ => none
  | k + 1, x1, x14, x351000, x351001, x351002 => if x14 = true then (some (0, 0, 0, false)) else ((spec_clGood.f (wrap64 (x351000 * x1)) (wrap64 (x351001 * x1)) (wrap64 (x351002 * x1))).bind fun t355 => (if t355 = true then (some (wrap64 (x351000 * x1), wrap64 (x351001 * x1), wrap64 (x351002 * x1), true)) else (some (0, 0, 0, false))))
def spec_TimesLadders.f (k : Nat) (a0_0 : Int) (a0_1 : Int) (a0_2 : Int) (a1 : Int) : Option (Int × Int × Int × Bool) := (spec_clGood.f a0_0 a0_1 a0_2).bind fun t352 => (if t352 = true then ((spec_l1In.f a1 1 1000).bind fun t353 => (spec_TimesLadders.j0 k a1 (!t353) a0_0 a0_1 a0_2)) else (spec_TimesLadders.j0 k a1 true a0_0 a0_1 a0_2))
theorem spec_TimesLadders.mono_l : ∀ k, (∀ y0 y1 y2 y3 y4, LeO (spec_TimesLadders.j0 k y0 y1 y2 y3 y4) (spec_TimesLadders.j0 (k + 1) y0 y1 y2 y3 y4))
  | 0 => fun _ _ _ _ _ r h => by simp [spec_TimesLadders.j0] at h
  | k + 1 => by
    have ih0 := spec_TimesLadders.mono_l k
    · intro y0 y1 y2 y3 y4
      unfold spec_TimesLadders.j0
      repeat' first
      | (with_reducible exact ih0 _ _ _ _ _)
      | (with_reducible exact LeO.refl _)
      | (with_reducible exact LeO.none _)
      | (with_reducible refine LeO.ite ?_ ?_)
      | (with_reducible refine LeO.bind ?_ (fun _ => ?_))
      | exact ih0 _ _ _ _ _
      | exact LeO.none _
      | refine LeO.ite ?_ ?_
      | refine LeO.bind ?_ (fun _ => ?_)
theorem spec_TimesLadders.mono : ∀ a0 a1 a2 a3 k, LeO (spec_TimesLadders.f k a0 a1 a2 a3) (spec_TimesLadders.f (k + 1) a0 a1 a2 a3) := by
  intro a0 a1 a2 a3 k
  have ih0 := spec_TimesLadders.mono_l k
  unfold spec_TimesLadders.f
  repeat' first
      | (with_reducible exact ih0 _ _ _ _ _)
      | (with_reducible exact LeO.refl _)
      | (with_reducible exact LeO.none _)
      | (with_reducible refine LeO.ite ?_ ?_)
      | (with_reducible refine LeO.bind ?_ (fun _ => ?_))
      | exact ih0 _ _ _ _ _
      | exact LeO.none _
      | refine LeO.ite ?_ ?_
      | refine LeO.bind ?_ (fun _ => ?_)
set_option maxHeartbeats 8000000 in
set_option maxRecDepth 100000 in
theorem spec_TimesLadders.calls (k : Nat) (a0_0 : Int) (a0_1 : Int) (a0_2 : Int) (a1 : Int) (r1 : Int) (r2 : Int) (r3 : Int) (r4 : Bool) (w : World) (h : spec_TimesLadders.f k a0_0 a0_1 a0_2 a1 = some (r1, r2, r3, r4)) :
    Calls Tryz.prog 26 #[.agg #[.int .i64 a0_0, .int .i64 a0_1, .int .i64 a0_2], .int .i64 a1] w fun e w' => e = .returned (.tuple #[.agg #[.int .i64 r1, .int .i64 r2, .int .i64 r3], .bool r4]) ∧ Below w.heap.size w w' := by
 have m8 := Tryz.underlying25
 have HB := Aside0.mk (Below.refl w.heap.size w)
 have H := h
 unfold spec_TimesLadders.f at H
 clear h
 have b7 := Aside0.mk H
 clear H
 go_enter Tryz.func26, Tryz.ntmps26
 go_upto_region 1 with (first | ((with_reducible refine gate_dst (N := 2) rfl ?_); refine box_ (cs := #[.int .i64 a0_0, .int .i64 a0_1, .int .i64 a0_2]) (t := 25) fun b9 hg w4 hbox hb => ?_; have a4 := Aside0.mk (hbox); have k8 := bS HB hg; have k9 := bS HB hg; replace HB := Aside0.mk (below_step bB hb); clear hb hbox hg) | ((with_reducible refine gate_dst (N := 4) rfl ?_); refine box_ (cs := #[.int .i64 0, .int .i64 0, .int .i64 0]) (t := 25) fun b3 hg w5 hbox hb => ?_; have a5 := Aside0.mk (hbox); have l0 := bS HB hg; have l1 := bS HB hg; have a6 := bL a4 hg; have a7 := bM a4 hg; replace a4 := bQ a4 hb; replace HB := Aside0.mk (below_step bB hb); clear hb hbox hg))
 (try simp only [Act.put, List.setIfInBounds_toArray, List.set_cons_zero, List.set_cons_succ])
 go_cut [14] (fun k7 wc => ∃ (kq : Nat) (b4 : Bool), k7 = .bool b4 ∧ Aside0 (spec_TimesLadders.j0 kq a1 b4 a0_0 a0_1 a0_2 = some (r1, r2, r3, r4)) ∧ Aside0 (kq ≤ k) ∧ Aside0 (wc.heap[b9]? = some (.cells #[.int .i64 a0_0, .int .i64 a0_1, .int .i64 a0_2] 25 (0, 0))) ∧ Aside0 (wc.heap[b3]? = some (.cells #[.int .i64 0, .int .i64 0, .int .i64 0] 25 (0, 0))) ∧ Aside0 (Below w.heap.size w wc))
 case first => (
 have H := b7.out
 clear b7
 obtain ⟨c6, A6, H⟩ := bD H
 try dsimp only at H
 by_cases c7 : c6 = true
 ·(
 subst c7
 rw [if_pos rfl] at H
 obtain ⟨b8, A8, H⟩ := bD H
 try dsimp only at H
 have H' := Aside0.mk H
 clear H
 have m9 := a6.out
 have n0 := a7.out
 obtain ⟨c9, d0, d1, d2, d3, d4⟩ := cf3 a4
 go_wp2_with (first | ((with_reducible refine gate_callee (f := 34) rfl ?_); refine goesL_ (some 8) rfl rfl Tryz.func34 kr rfl #[.agg #[.int .i64 a0_0, .int .i64 a0_1, .int .i64 a0_2]] rfl sM ?_; (with_reducible refine (spec_clGood.calls a0_0 a0_1 a0_2 true _ A6.out).mono ?_); rintro e n1 ⟨rfl, hb⟩; refine ⟨_, rfl, ?_⟩; replace a4 := bQ a4 hb; replace a5 := bQ a5 hb; replace HB := Aside0.mk (below_step bB hb); (try clear hb)) | (go_at_call 46; (with_reducible refine (spec_l1In.calls a1 1 1000 b8 _ A8.out).mono ?_); rintro e w' ⟨rfl, ⟨nd, rfl⟩⟩))
 go_meet
 case rel => exact ⟨_, (!b8), sR, H', ⟨by first | omega | exact Nat.le_refl _⟩, (bA a4), (bA a5), ⟨bB⟩⟩
 )
 ·(
 replace c7 := Bool.eq_false_iff.mpr c7
 subst c7
 rw [if_neg nft] at H
 have H' := Aside0.mk H
 clear H
 have l2 := a6.out
 have l3 := a7.out
 obtain ⟨d5, d6, d7, d8, d9, e0⟩ := cf3 a4
 go_wp2_with (first | ((with_reducible refine gate_callee (f := 34) rfl ?_); refine goesL_ (some 8) rfl rfl Tryz.func34 kr rfl #[.agg #[.int .i64 a0_0, .int .i64 a0_1, .int .i64 a0_2]] rfl sM ?_; (with_reducible refine (spec_clGood.calls a0_0 a0_1 a0_2 false _ A6.out).mono ?_); rintro e n2 ⟨rfl, hb⟩; refine ⟨_, rfl, ?_⟩; replace a4 := bQ a4 hb; replace a5 := bQ a5 hb; replace HB := Aside0.mk (below_step bB hb); (try clear hb)))
 go_meet
 case rel => exact ⟨_, (true), sR, H', ⟨by first | omega | exact Nat.le_refl _⟩, (bA a4), (bA a5), ⟨bB⟩⟩
 )
 )
 case rest => (
 clear b7
 obtain ⟨kq, b4, rfl, HA, HJ2, a4, a5, HB⟩ := hcut
 cases kq with
 | zero => exact absurd HA.out (by simp [spec_TimesLadders.j0])
 | succ n3 => (
 have H := HA.out
 clear HA
 simp only [spec_TimesLadders.j0] at H
 by_cases b5 : b4 = true
 ·(
 subst b5
 rw [if_pos rfl] at H
 simp only [Option.some.injEq, Prod.mk.injEq] at H
 obtain ⟨rfl, rfl, rfl, rfl⟩ := H
 have l4 := a7.out
 have l5 := a6.out
 obtain ⟨e3, e4, e5, e6, e7, e8⟩ := cf3 a5
 go_wp2
 refine bodyPost_ret (results_ct rfl _ _ b3 25 #[.int .i64 0, .int .i64 0, .int .i64 0] (0, 0) _ rfl (bK a5) Tryz.underlying25 rfl kr) rfl ?_
 exact ⟨sE, bI⟩
 )
 ·(
 replace b5 := Bool.eq_false_iff.mpr b5
 subst b5
 rw [if_neg nft] at H
 obtain ⟨c8, c5, H⟩ := bD H
 try dsimp only at H
 by_cases b6 : c8 = true
 ·(
 subst b6
 rw [if_pos rfl] at H
 simp only [Option.some.injEq, Prod.mk.injEq] at H
 obtain ⟨rfl, rfl, rfl, rfl⟩ := H
 have l6 := a6.out
 have l7 := a7.out
 obtain ⟨e9, g0, g3, g4, g5, g6⟩ := cf3 a4
 go_wp2_with (first | ((with_reducible refine gate_dst (N := 6) rfl ?_); refine box_ (cs := #[.int .i64 0, .int .i64 0, .int .i64 0]) (t := 25) fun c0 hg n4 hbox hb => ?_; have a8 := Aside0.mk (hbox); have c3 := bS HB hg; have c4 := bS HB hg; have a9 := bL a4 hg; have b0 := bM a4 hg; have b1 := bL a5 hg; have b2 := bM a5 hg; replace a4 := bQ a4 hb; replace a5 := bQ a5 hb; replace HB := Aside0.mk (below_step bB hb); clear hb hbox hg; have l8 := b0.out; have l9 := a9.out; have m0 := b2.out; have m1 := b1.out; obtain ⟨g7, g8, g9, h3, h4, h5⟩ := cf3 a8) | ((with_reducible refine gate_callee (f := 34) rfl ?_); refine goesL_ (some 30) rfl rfl Tryz.func34 kr rfl #[.agg #[.int .i64 (wrap64 (a0_0 * a1)), .int .i64 (wrap64 (a0_1 * a1)), .int .i64 (wrap64 (a0_2 * a1))]] rfl sM ?_; (with_reducible refine (spec_clGood.calls (wrap64 (a0_0 * a1)) (wrap64 (a0_1 * a1)) (wrap64 (a0_2 * a1)) true _ c5.out).mono ?_); rintro e n5 ⟨rfl, hb⟩; refine ⟨_, rfl, ?_⟩; replace a4 := bQ a4 hb; replace a5 := bQ a5 hb; replace a8 := (bP (.cells #[.int .i64 (wrap64 (a0_0 * a1)), .int .i64 (wrap64 (a0_1 * a1)), .int .i64 (wrap64 (a0_2 * a1))] 25 (0, 0)) a8 hb); replace HB := Aside0.mk (below_step bB hb); (try clear hb); obtain ⟨h6, h7, h8, h9, i0, i1⟩ := cf3 a8; obtain ⟨i2, i3, i4, i5, i6, i7⟩ := cf3 a5))
 refine bodyPost_ret (results_ct rfl _ _ b3 25 #[.int .i64 (wrap64 (a0_0 * a1)), .int .i64 (wrap64 (a0_1 * a1)), .int .i64 (wrap64 (a0_2 * a1))] (0, 0) _ rfl (bK a5) Tryz.underlying25 rfl kr) rfl ?_
 exact ⟨sE, bI⟩
 )
 ·(
 replace b6 := Bool.eq_false_iff.mpr b6
 subst b6
 rw [if_neg nft] at H
 simp only [Option.some.injEq, Prod.mk.injEq] at H
 obtain ⟨rfl, rfl, rfl, rfl⟩ := H
 have m2 := a6.out
 have m3 := a7.out
 obtain ⟨i9, j0, j1, j2, j3, j4⟩ := cf3 a4
 go_wp2_with (first | ((with_reducible refine gate_dst (N := 6) rfl ?_); refine box_ (cs := #[.int .i64 0, .int .i64 0, .int .i64 0]) (t := 25) fun c0 hg n6 hbox hb => ?_; have a8 := Aside0.mk (hbox); have c3 := bS HB hg; have c4 := bS HB hg; have a9 := bL a4 hg; have b0 := bM a4 hg; have b1 := bL a5 hg; have b2 := bM a5 hg; replace a4 := bQ a4 hb; replace a5 := bQ a5 hb; replace HB := Aside0.mk (below_step bB hb); clear hb hbox hg; have m4 := b0.out; have m5 := a9.out; have m6 := b2.out; have m7 := b1.out; obtain ⟨j5, j6, j7, j8, j9, k0⟩ := cf3 a8) | ((with_reducible refine gate_callee (f := 34) rfl ?_); refine goesL_ (some 30) rfl rfl Tryz.func34 kr rfl #[.agg #[.int .i64 (wrap64 (a0_0 * a1)), .int .i64 (wrap64 (a0_1 * a1)), .int .i64 (wrap64 (a0_2 * a1))]] rfl sM ?_; (with_reducible refine (spec_clGood.calls (wrap64 (a0_0 * a1)) (wrap64 (a0_1 * a1)) (wrap64 (a0_2 * a1)) false _ c5.out).mono ?_); rintro e n7 ⟨rfl, hb⟩; refine ⟨_, rfl, ?_⟩; replace a4 := bQ a4 hb; replace a5 := bQ a5 hb; replace a8 := (bP (.cells #[.int .i64 (wrap64 (a0_0 * a1)), .int .i64 (wrap64 (a0_1 * a1)), .int .i64 (wrap64 (a0_2 * a1))] 25 (0, 0)) a8 hb); replace HB := Aside0.mk (below_step bB hb); (try clear hb); obtain ⟨k1, k2, k3, k4, k5, k6⟩ := cf3 a5))
 refine bodyPost_ret (results_ct rfl _ _ b3 25 #[.int .i64 0, .int .i64 0, .int .i64 0] (0, 0) _ rfl (bK a5) Tryz.underlying25 rfl kr) rfl ?_
 exact ⟨sE, bI⟩
 )
 )
 )
 )

/-! ### spec_DrawParseLadders: function 27 -/
-- (its text lies ahead)

/-! ### strings_Cut: function 54 -/
theorem pt_cell {w w' : World} {p : Addr} {v : Value} (h : Below w.heap.size w w') (hc : w.cell? p = some v) : w'.cell? p = some v := by
  have hb := World.block_lt_of_cell? _ _ hc
  have e := h.block _ hb
  unfold World.cell? at hc ⊢
  rw [e]
  exact hc
theorem pt_pow : Tryz.prog.globalNamed "internal/strconv.uint64pow10" = some 3 := by kernel_rfl
/-- What the library's variables hold, as far as texts and numbers ask. -/
structure PtW (w : World) : Prop where
  max : ∃ m, w.cell? ⟨0, 0, none⟩ = some (.int .i64 m)
  syn : ∃ ev, w.cell? ⟨1, 0, none⟩ = some ev ∧ (ev = .nilIface ∨ ∃ te pe, ev = .iface te pe)
  rng : ∃ ev, w.cell? ⟨2, 0, none⟩ = some ev ∧ (ev = .nilIface ∨ ∃ te pe, ev = .iface te pe)
  tab : Lib.TabIs Tryz.prog w "internal/strconv.uint64pow10" .u64 Lib.pow10Tab
theorem PtW.below {w w' : World} (h : PtW w) (k : Below w.heap.size w w') : PtW w' := by
  obtain ⟨m, hm⟩ := h.max
  obtain ⟨e1, h1, g1⟩ := h.syn
  obtain ⟨e2, h2, g2⟩ := h.rng
  exact ⟨⟨m, pt_cell k hm⟩, ⟨e1, pt_cell k h1, g1⟩, ⟨e2, pt_cell k h2, g2⟩, Go.Joins.var_stays pt_pow h.tab k (Nat.le_refl _)⟩
def strings_Cut.f (a0 : ByteArray) (a1 : ByteArray) : Option (ByteArray × ByteArray × Bool) := if a0.size < 4294967281 then some (⟨(Lib.cut a0.data.toList a1.data.toList).1.toArray⟩, ⟨(Lib.cut a0.data.toList a1.data.toList).2.1.toArray⟩, (Lib.cut a0.data.toList a1.data.toList).2.2) else none
theorem strings_Cut.calls (a0 : ByteArray) (a1 : ByteArray) (r1 : ByteArray) (r2 : ByteArray) (r3 : Bool) (w : World) (h : strings_Cut.f a0 a1 = some (r1, r2, r3)) (hw : PtW w) :
    Calls Tryz.prog 54 #[.string a0, .string a1] w fun e w' => e = .returned (.tuple #[.string r1, .string r2, .bool r3]) ∧ Below w.heap.size w w' := by
  unfold strings_Cut.f at h
  by_cases c : a0.size < 4294967281
  · rw [if_pos c] at h
    obtain ⟨rfl, rfl, rfl⟩ : _ ∧ _ ∧ _ := by simpa only [Option.some.injEq, Prod.mk.injEq] using h
    obtain ⟨m, hm⟩ := hw.max
    refine (Tryz.strings_Cut a0 a1 m w c hm).mono ?_
    rintro e w' ⟨rfl, k, rfl⟩
    exact ⟨rfl, pw_below_drewN (Below.refl _ _) k⟩
  · rw [if_neg c] at h
    cases h

/-! ### impl_number: function 55 -/
theorem pt_text (n : Int) (h0 : -9223372036854775808 ≤ n) (h1 : n ≤ 9223372036854775807) (w : World) (hw : PtW w) :
    Calls Tryz.prog 58 #[.int .i64 n] w fun e w' => e = .returned (.string ⟨(Lib.itoa n).toArray⟩) ∧ Below w.heap.size w w' := by
  have HT := Aside0.mk (Tryz.strconv_Itoa n h0 h1 w hw.tab)
  clear hw
  go_enter Tryz.func58, Tryz.ntmps58
  go_wp2_with (go_at_call 67; (refine HT.out.mono ?_); rintro e w1 ⟨rfl, k, os, rfl⟩)
  go_ret
  exact ⟨rfl, Lib.below_grow _ _ (Nat.le_refl _) _ _⟩
theorem atoi_range {l : List UInt8} {v : Int} (h : Lib.atoiAll l = .ok v) : -9223372036854775808 ≤ v ∧ v ≤ 9223372036854775807 := by
  unfold Lib.atoiAll at h
  split at h
  · cases h
  · simp only at h
    split at h
    · cases h
    · cases h
    · split at h
      · cases h
      · split at h
        · cases h
        · rename_i u _ c1 c2
          injection h with h
          subst h
          split <;> omega
/-- The number with a text, and whether there is one. -/
def numR (s : ByteArray) : Int × Bool := match Lib.atoiAll s.data.toList with
  | .ok v => (v, Lib.itoa v == s.toList)
  | .«syntax» => (0, false)
  | .range => (Lib.atoiSat s.data.toList, false)
def impl_number.f (a0 : ByteArray) : Option (Int × Bool) := if a0.size ≤ 281474976710656 then some (numR a0) else none
set_option maxHeartbeats 4000000 in
set_option maxRecDepth 100000 in
theorem impl_number.calls (a0 : ByteArray) (r1 : Int) (r2 : Bool) (w : World) (h : impl_number.f a0 = some (r1, r2)) (hw : PtW w) :
    Calls Tryz.prog 55 #[.string a0] w fun e w' => e = .returned (.tuple #[.int .i64 r1, .bool r2]) ∧ Below w.heap.size w w' := by
 unfold impl_number.f at h
 by_cases c : a0.size ≤ 281474976710656
 case neg => (
 rw [if_neg c] at h
 cases h
 )
 rw [if_pos c] at h
 have h := Option.some.inj h
 unfold numR at h
 have HW := Aside0.mk hw
 cases ha : Lib.atoiAll a0.data.toList with
 | ok v =>
  rw [ha] at h
  obtain ⟨rfl, rfl⟩ := Prod.mk.inj h
  have hv := atoi_range ha
  have HA := Aside0.mk (Tryz.strconv_Atoi_ok a0 (by omega) v ha w)
  have HT := Aside0.mk (fun (W : World) (hb : Below w.heap.size w W) => pt_text v hv.1 hv.2 W (HW.out.below hb))
  clear h ha c hw HW hv
  go_enter Tryz.func55, Tryz.ntmps55
  go_wp2_with (first | (go_at_call 64; (refine HA.out.mono ?_); rintro e w1 ⟨rfl, a5⟩; have a4 : Below w.heap.size w w1 := a5.elim (fun e => e ▸ Below.refl _ _) (fun ⟨t, e⟩ => e ▸ bytes_below (Below.refl _ _) (Nat.le_refl _) _ _); clear a5 HA) | (go_at_call 58; (refine (HT.out _ a4).mono ?_); rintro e w2 ⟨rfl, a6⟩))
  go_ret2
  exact ⟨rfl, below_step a4 a6⟩
 | «syntax» =>
  rw [ha] at h
  obtain ⟨rfl, rfl⟩ := Prod.mk.inj h
  obtain ⟨ev, he, hev⟩ := hw.syn
  have HA := Aside0.mk (Tryz.strconv_Atoi_syntax a0 c ha ev w he hev)
  clear h ha c hw HW he hev
  go_enter Tryz.func55, Tryz.ntmps55
  go_wp2_with (go_at_call 64; (refine HA.out.mono ?_); rintro e w1 ⟨N, rfl, _, _, a4⟩; clear HA)
  go_ret2
  exact ⟨rfl, a4⟩
 | range =>
  rw [ha] at h
  obtain ⟨rfl, rfl⟩ := Prod.mk.inj h
  obtain ⟨ev, he, hev⟩ := hw.rng
  have HA := Aside0.mk (Tryz.strconv_Atoi_range a0 c ha ev w he hev)
  clear h ha c hw HW he hev
  go_enter Tryz.func55, Tryz.ntmps55
  go_wp2_with (go_at_call 64; (refine HA.out.mono ?_); rintro e w1 ⟨N, rfl, _, _, a4⟩; clear HA)
  go_ret2
  exact ⟨rfl, a4⟩

/-! ### impl_ParseLadders: function 28 -/
def impl_ParseLadders.j0 : Nat → Int → Int → Int → Bool → Option (Int × Int × Int × Bool)
  | 0, _, _, _, _ => none
  | k + 1, x10, x12, x14, x52 => if x52 = true then (some (0, 0, 0, false)) else ((impl_checkedLadders.f x10 x12 x14).bind fun bt369 => (some (bt369.1, bt369.2.1, bt369.2.2.1, bt369.2.2.2)))
def impl_ParseLadders.f (k : Nat) (a0 : ByteArray) : Option (Int × Int × Int × Bool) := (strings_Cut.f a0 (⟨#[58]⟩ : ByteArray)).bind fun bt357 => ((strings_Cut.f bt357.2.1 (⟨#[47]⟩ : ByteArray)).bind fun bt360 => ((impl_number.f bt357.1).bind fun bt363 => ((impl_number.f bt360.1).bind fun bt365 => ((impl_number.f bt360.2.1).bind fun bt367 => (if bt363.2 = true then (if bt365.2 = true then (impl_ParseLadders.j0 k bt363.1 bt365.1 bt367.1 (!bt367.2)) else (impl_ParseLadders.j0 k bt363.1 bt365.1 bt367.1 true)) else (impl_ParseLadders.j0 k bt363.1 bt365.1 bt367.1 true))))))
theorem impl_ParseLadders.mono_l : ∀ k, (∀ y0 y1 y2 y3, LeO (impl_ParseLadders.j0 k y0 y1 y2 y3) (impl_ParseLadders.j0 (k + 1) y0 y1 y2 y3))
  | 0 => fun _ _ _ _ r h => by simp [impl_ParseLadders.j0] at h
  | k + 1 => by
    have ih0 := impl_ParseLadders.mono_l k
    · intro y0 y1 y2 y3
      unfold impl_ParseLadders.j0
      repeat' first
      | (with_reducible exact ih0 _ _ _ _)
      | (with_reducible exact LeO.refl _)
      | (with_reducible exact LeO.none _)
      | (with_reducible refine LeO.ite ?_ ?_)
      | (with_reducible refine LeO.bind ?_ (fun _ => ?_))
      | exact ih0 _ _ _ _
      | exact LeO.none _
      | refine LeO.ite ?_ ?_
      | refine LeO.bind ?_ (fun _ => ?_)
theorem impl_ParseLadders.mono : ∀ a0 k, LeO (impl_ParseLadders.f k a0) (impl_ParseLadders.f (k + 1) a0) := by
  intro a0 k
  have ih0 := impl_ParseLadders.mono_l k
  unfold impl_ParseLadders.f
  repeat' first
      | (with_reducible exact ih0 _ _ _ _)
      | (with_reducible exact LeO.refl _)
      | (with_reducible exact LeO.none _)
      | (with_reducible refine LeO.ite ?_ ?_)
      | (with_reducible refine LeO.bind ?_ (fun _ => ?_))
      | exact ih0 _ _ _ _
      | exact LeO.none _
      | refine LeO.ite ?_ ?_
      | refine LeO.bind ?_ (fun _ => ?_)
set_option maxHeartbeats 8000000 in
set_option maxRecDepth 100000 in
theorem impl_ParseLadders.calls (k : Nat) (a0 : ByteArray) (r1 : Int) (r2 : Int) (r3 : Int) (r4 : Bool) (w : World) (h : impl_ParseLadders.f k a0 = some (r1, r2, r3, r4)) (hw_ : PtW w) :
    Calls Tryz.prog 28 #[.string a0] w fun e w' => e = .returned (.tuple #[.agg #[.int .i64 r1, .int .i64 r2, .int .i64 r3], .bool r4]) ∧ Below w.heap.size w w' := by
 have HM := Aside0.mk hw_
 clear hw_
 have e7 := Tryz.underlying25
 have HB := Aside0.mk (Below.refl w.heap.size w)
 have H := h
 unfold impl_ParseLadders.f at H
 clear h
 obtain ⟨⟨b0, b1, c6⟩, A2, H⟩ := bD H
 try dsimp only at H
 obtain ⟨⟨b2, b3, c7⟩, A3, H⟩ := bD H
 try dsimp only at H
 obtain ⟨⟨a6, b7⟩, A4, H⟩ := bD H
 try dsimp only at H
 obtain ⟨⟨a7, b8⟩, A5, H⟩ := bD H
 try dsimp only at H
 obtain ⟨⟨a8, b9⟩, A6, H⟩ := bD H
 try dsimp only at H
 have c0 := Aside0.mk H
 clear H
 go_enter Tryz.func28, Tryz.ntmps28
 go_upto_region 6 with (first | ((with_reducible refine gate_dst (N := 2) rfl ?_); refine box_ (cs := #[.int .i64 0, .int .i64 0, .int .i64 0]) (t := 25) fun a9 hg w8 hbox hb => ?_; have a4 := Aside0.mk (hbox); have e5 := bS HB hg; have e6 := bS HB hg; replace HB := Aside0.mk (below_step bB hb); clear hb hbox hg) | ((with_reducible refine gate_callee (f := 54) rfl ?_); refine goesL_ (some 18) rfl rfl Tryz.func54 kr rfl #[.string a0, .string (⟨#[58]⟩ : ByteArray)] rfl sM ?_; (with_reducible refine (strings_Cut.calls a0 (⟨#[58]⟩ : ByteArray) b0 b1 c6 _ A2.out (HM.out.below (by repeat (first | (with_reducible first | exact HB.out | apply below_alloc | apply pw_below_drewN | apply below_drew1 | refine below_set ?_ (Aside0.out (by assumption))) | exact HB.out)))).mono ?_); rintro e w9 ⟨rfl, hb⟩; refine ⟨_, rfl, ?_⟩; replace a4 := bQ a4 hb; replace HB := Aside0.mk (below_step bB hb); (try clear hb)) | ((with_reducible refine gate_callee (f := 54) rfl ?_); refine goesL_ (some 24) rfl rfl Tryz.func54 kr rfl #[.string b1, .string (⟨#[47]⟩ : ByteArray)] rfl sM ?_; (with_reducible refine (strings_Cut.calls b1 (⟨#[47]⟩ : ByteArray) b2 b3 c7 _ A3.out (HM.out.below (by repeat (first | (with_reducible first | exact HB.out | apply below_alloc | apply pw_below_drewN | apply below_drew1 | refine below_set ?_ (Aside0.out (by assumption))) | exact HB.out)))).mono ?_); rintro e e8 ⟨rfl, hb⟩; refine ⟨_, rfl, ?_⟩; replace a4 := bQ a4 hb; replace HB := Aside0.mk (below_step bB hb); (try clear hb)) | ((with_reducible refine gate_callee (f := 55) rfl ?_); refine goesL_ (some 30) rfl rfl Tryz.func55 kr rfl #[.string b0] rfl sM ?_; (with_reducible refine (impl_number.calls b0 a6 b7 _ A4.out (HM.out.below (by repeat (first | (with_reducible first | exact HB.out | apply below_alloc | apply pw_below_drewN | apply below_drew1 | refine below_set ?_ (Aside0.out (by assumption))) | exact HB.out)))).mono ?_); rintro e e9 ⟨rfl, hb⟩; refine ⟨_, rfl, ?_⟩; replace a4 := bQ a4 hb; replace HB := Aside0.mk (below_step bB hb); (try clear hb)) | ((with_reducible refine gate_callee (f := 55) rfl ?_); refine goesL_ (some 35) rfl rfl Tryz.func55 kr rfl #[.string b2] rfl sM ?_; (with_reducible refine (impl_number.calls b2 a7 b8 _ A5.out (HM.out.below (by repeat (first | (with_reducible first | exact HB.out | apply below_alloc | apply pw_below_drewN | apply below_drew1 | refine below_set ?_ (Aside0.out (by assumption))) | exact HB.out)))).mono ?_); rintro e g0 ⟨rfl, hb⟩; refine ⟨_, rfl, ?_⟩; replace a4 := bQ a4 hb; replace HB := Aside0.mk (below_step bB hb); (try clear hb)) | ((with_reducible refine gate_callee (f := 55) rfl ?_); refine goesL_ (some 40) rfl rfl Tryz.func55 kr rfl #[.string b3] rfl sM ?_; (with_reducible refine (impl_number.calls b3 a8 b9 _ A6.out (HM.out.below (by repeat (first | (with_reducible first | exact HB.out | apply below_alloc | apply pw_below_drewN | apply below_drew1 | refine below_set ?_ (Aside0.out (by assumption))) | exact HB.out)))).mono ?_); rintro e g3 ⟨rfl, hb⟩; refine ⟨_, rfl, ?_⟩; replace a4 := bQ a4 hb; replace HB := Aside0.mk (below_step bB hb); (try clear hb)))
 (try simp only [Act.put, List.setIfInBounds_toArray, List.set_cons_zero, List.set_cons_succ])
 go_cut [52] (fun e3 wc => ∃ (kq : Nat) (a5 : Bool), e3 = .bool a5 ∧ Aside0 (impl_ParseLadders.j0 kq a6 a7 a8 a5 = some (r1, r2, r3, r4)) ∧ Aside0 (kq ≤ k) ∧ Aside0 (wc.heap[a9]? = some (.cells #[.int .i64 0, .int .i64 0, .int .i64 0] 25 (0, 0))) ∧ Aside0 (Below w.heap.size w wc))
 case first => (
 have H := c0.out
 clear c0
 by_cases b4 : b7 = true
 ·(
 subst b4
 rw [if_pos rfl] at H
 by_cases b5 : b8 = true
 ·(
 subst b5
 rw [if_pos rfl] at H
 have H' := Aside0.mk H
 clear H
 go_wp2
 go_meet
 case rel => exact ⟨_, (!b9), sR, H', ⟨by first | omega | exact Nat.le_refl _⟩, (bA a4), ⟨bB⟩⟩
 )
 ·(
 replace b5 := Bool.eq_false_iff.mpr b5
 subst b5
 rw [if_neg nft] at H
 have H' := Aside0.mk H
 clear H
 go_wp2
 go_meet
 case rel => exact ⟨_, (true), sR, H', ⟨by first | omega | exact Nat.le_refl _⟩, (bA a4), ⟨bB⟩⟩
 )
 )
 ·(
 replace b4 := Bool.eq_false_iff.mpr b4
 subst b4
 rw [if_neg nft] at H
 have H' := Aside0.mk H
 clear H
 go_wp2
 go_meet
 case rel => exact ⟨_, (true), sR, H', ⟨by first | omega | exact Nat.le_refl _⟩, (bA a4), ⟨bB⟩⟩
 )
 )
 case rest => (
 clear c0
 obtain ⟨kq, a5, rfl, HA, HJ6, a4, HB⟩ := hcut
 cases kq with
 | zero => exact absurd HA.out (by simp [impl_ParseLadders.j0])
 | succ g4 => (
 have H := HA.out
 clear HA
 simp only [impl_ParseLadders.j0] at H
 by_cases b6 : a5 = true
 ·(
 subst b6
 rw [if_pos rfl] at H
 simp only [Option.some.injEq, Prod.mk.injEq] at H
 obtain ⟨rfl, rfl, rfl, rfl⟩ := H
 obtain ⟨c9, d0, d1, d2, d3, d4⟩ := cf3 a4
 go_wp2
 refine bodyPost_ret (results_ct rfl _ _ a9 25 #[.int .i64 0, .int .i64 0, .int .i64 0] (0, 0) _ rfl (bK a4) Tryz.underlying25 rfl kr) rfl ?_
 exact ⟨sE, bI⟩
 )
 ·(
 replace b6 := Bool.eq_false_iff.mpr b6
 subst b6
 rw [if_neg nft] at H
 obtain ⟨⟨c3, c4, c5, c8⟩, e4, H⟩ := bD H
 try dsimp only at H
 simp only [Option.some.injEq, Prod.mk.injEq] at H
 obtain ⟨rfl, rfl, rfl, rfl⟩ := H
 go_wp2_with (first | ((with_reducible refine gate_callee (f := 50) rfl ?_); refine goesL_ (some 58) rfl rfl Tryz.func50 kr rfl #[.agg #[.int .i64 a6, .int .i64 a7, .int .i64 a8]] rfl sM ?_; (with_reducible refine (impl_checkedLadders.calls a6 a7 a8 c3 c4 c5 c8 _ e4.out).mono ?_); rintro e g5 ⟨rfl, hb⟩; refine ⟨_, rfl, ?_⟩; replace a4 := bQ a4 hb; replace HB := Aside0.mk (below_step bB hb); (try clear hb); obtain ⟨d5, d6, d7, d8, d9, e0⟩ := cf3 a4))
 refine bodyPost_ret (results_ct rfl _ _ a9 25 #[.int .i64 c3, .int .i64 c4, .int .i64 c5] (0, 0) _ rfl (bK a4) Tryz.underlying25 rfl kr) rfl ?_
 exact ⟨sE, bI⟩
 )
 )
 )

/-! ### spec_l1Split: function 65 -/
def spec_l1Split.l0 : Nat → ByteArray → Int → List ByteArray → Int → Int → Option (List ByteArray)
  | 0, _, _, _, _, _ => none
  | k + 1, x0, x1, x5, x6, x7 => if x7 < (x0.size : Int) then (if 0 ≤ x7 then (if (bt x0 x7) = x1 then (if 0 ≤ x6 then (if x6 ≤ x7 then (if x7 ≤ (x0.size : Int) then (if x5.length < 8796093022208 then (spec_l1Split.l0 k x0 x1 (x5 ++ [x0.extract (x6 : Int).toNat (x7 : Int).toNat]) (wrap64 (x7 + 1)) (wrap64 (x7 + 1))) else (none)) else (none)) else (none)) else (none)) else (spec_l1Split.l0 k x0 x1 x5 x6 (wrap64 (x7 + 1)))) else (none)) else (if 0 ≤ x6 then (if x6 ≤ (x0.size : Int) then (if x5.length < 8796093022208 then (some (x5 ++ [x0.extract (x6 : Int).toNat x0.size])) else (none)) else (none)) else (none))
def spec_l1Split.f (k : Nat) (a0 : ByteArray) (a1 : Int) : Option (List ByteArray) := spec_l1Split.l0 k a0 a1 ([] : List ByteArray) 0 0
theorem spec_l1Split.mono_l : ∀ k, (∀ y0 y1 y2 y3 y4, LeO (spec_l1Split.l0 k y0 y1 y2 y3 y4) (spec_l1Split.l0 (k + 1) y0 y1 y2 y3 y4))
  | 0 => fun _ _ _ _ _ r h => by simp [spec_l1Split.l0] at h
  | k + 1 => by
    have ih0 := spec_l1Split.mono_l k
    · intro y0 y1 y2 y3 y4
      unfold spec_l1Split.l0
      repeat' first
      | (with_reducible exact ih0 _ _ _ _ _)
      | (with_reducible exact LeO.refl _)
      | (with_reducible exact LeO.none _)
      | (with_reducible refine LeO.ite ?_ ?_)
      | (with_reducible refine LeO.bind ?_ (fun _ => ?_))
      | exact ih0 _ _ _ _ _
      | exact LeO.none _
      | refine LeO.ite ?_ ?_
      | refine LeO.bind ?_ (fun _ => ?_)
theorem spec_l1Split.mono : ∀ a0 a1 k, LeO (spec_l1Split.f k a0 a1) (spec_l1Split.f (k + 1) a0 a1) := by
  intro a0 a1 k
  have ih0 := spec_l1Split.mono_l k
  unfold spec_l1Split.f
  repeat' first
      | (with_reducible exact ih0 _ _ _ _ _)
      | (with_reducible exact LeO.refl _)
      | (with_reducible exact LeO.none _)
      | (with_reducible refine LeO.ite ?_ ?_)
      | (with_reducible refine LeO.bind ?_ (fun _ => ?_))
      | exact ih0 _ _ _ _ _
      | exact LeO.none _
      | refine LeO.ite ?_ ?_
      | refine LeO.bind ?_ (fun _ => ?_)
set_option maxHeartbeats 8000000 in
set_option maxRecDepth 100000 in
theorem spec_l1Split.calls (k : Nat) (a0 : ByteArray) (a1 : Int) (r : List ByteArray) (w : World) (h : spec_l1Split.f k a0 a1 = some r) :
    Calls Tryz.prog 65 #[.string a0, .int .u8 a1] w fun e w' => ∃ v0_ : Value, e = .returned (v0_) ∧ Kd.R Kd.string 9 w' w.heap.size (fun _ => True) v0_ r ∧ Below w.heap.size w w' := by
 have HB := Aside0.mk (Below.refl w.heap.size w)
 have H := h
 unfold spec_l1Split.f at H
 clear h
 have H' := Aside0.mk H
 clear H
 go_enter Tryz.func65, Tryz.ntmps65
 go_wp2
 go_loopg [5, 6, 7] k (fun kq v5 v6 v7 w' => ∃ (a6 : List ByteArray) (a5 : Int) (a4 : Int), v6 = .int .i64 a5 ∧ v7 = .int .i64 a4 ∧ Aside0 (spec_l1Split.l0 kq a0 a1 a6 a5 a4 = some r) ∧ Aside0 (kq ≤ k) ∧ Aside0 (Kd.R Kd.string 9 w' w.heap.size (fun _ => True) v5 a6) ∧ Aside0 (Below w.heap.size w w'))
 case atStart => exact ⟨(([] : List ByteArray)), (0), (0), sR, sR, H', ⟨Nat.le_refl _⟩, ⟨by first | exact Kd.R_nil _ _ _ _ _ | exact Kd.N_nil _ _ _ _ _ | exact Kd.V_nil _ _ _ _ _ | exact Kd.Q_nil _ _ _ _ _ | exact Kd.S_nil _ _ _ _ _⟩, ⟨bB⟩⟩
 case round => (
 clear H'
 obtain ⟨a6, a5, a4, rfl, rfl, HA, HK1, a9, HB⟩ := hrel
 cases gk with
 | zero => exact absurd HA.out (by simp [spec_l1Split.l0])
 | succ k1 => (
 have H := HA.out
 clear HA
 simp only [spec_l1Split.l0] at H
 by_cases c3 : a4 < (a0.size : Int)
 ·(
 rw [if_pos c3] at H
 have d0 : decide (a4 < (a0.size : Int)) = true := decide_eq_true c3
 clear c3
 by_cases c4 : 0 ≤ a4
 ·(
 rw [if_pos c4] at H
 have d9 : decide (0 ≤ a4) = true := decide_eq_true c4
 clear c4
 by_cases c6 : (bt a0 a4) = a1
 ·(
 rw [if_pos c6] at H
 obtain ⟨d1, d2⟩ := yE c6
 clear c6
 by_cases c7 : 0 ≤ a5
 ·(
 rw [if_pos c7] at H
 have e0 := eq_true c7
 have e3 : decide (0 ≤ a5) = true := decide_eq_true c7
 clear c7
 by_cases c8 : a5 ≤ a4
 ·(
 rw [if_pos c8] at H
 have e4 := eq_true c8
 have e5 : decide (a5 ≤ a4) = true := decide_eq_true c8
 clear c8
 by_cases c9 : a4 ≤ (a0.size : Int)
 ·(
 rw [if_pos c9] at H
 have e6 := eq_true c9
 have e7 : decide (a4 ≤ (a0.size : Int)) = true := decide_eq_true c9
 clear c9
 by_cases b3 : a6.length < 8796093022208
 ·(
 rw [if_pos b3] at H
 have b6 := Aside0.mk b3
 clear b3
 obtain ⟨b5, a7⟩ : ∃ y_ : List ByteArray, y_ = (a6 ++ [a0.extract (a5 : Int).toNat (a4 : Int).toNat]) := ⟨_, rfl⟩
 replace H : (spec_l1Split.l0 k1 a0 a1 b5 (wrap64 (a4 + 1)) (wrap64 (a4 + 1))) = some r := by first | (rw [a7]; with_reducible exact H) | (have b0 := (Option.bind_some _ _).symm.trans H; rw [a7]; with_reducible exact b0) | (have b0 := (Option.bind_some _ _).symm.trans H; with_reducible exact b0) | with_reducible exact H | (rw [a7]; exact H) | exact H
 have b7 := Aside0.mk a7
 clear a7
 have H' := Aside0.mk H
 clear H
 have p5 : 0 ≤ (a4 : Int) := of_decide_eq_true asm
 have q5 : a4 < (a0.size : Int) := of_decide_eq_true asm
 have d4 := bt_at a0 a4
 replace p5 := eq_true p5
 replace q5 := eq_true q5
 go_wp2_with (first | ((with_reducible refine gate_builtin (b := .append) (xs := #[.tmp 19, .tmp 24]) rfl ?_); at_builtin; refine Kd.R_append Kd.string (w0 := w) w.heap.size rfl (.tmp 19) (.tmp 24) 82 9 (.string ⟨#[]⟩) 16 rfl Tryz.underlying82 info9 rfl (by decide) (by omega) u5 a6 (a0.extract (a5 : Int).toNat (a4 : Int).toNat) [.string (a0.extract (a5 : Int).toNat (a4 : Int).toNat)] (fun _ => True) (fun _ => False) rfl rfl ?aP (fun _ hk => hk.elim) ?aF ?aO ?aB ?aS ?aL ?_; (case aP => exact rfl); (case aB => exact bB); (case aF => exact (fun _ _ => trivial)); (case aO => exact (oR a9)); (case aS => exact (below_size bB)); (case aL => have := b6.out; omega); intro e8 g0 ho hb hg hat; rw [← b7.out] at ho; have b8 := Aside0.mk (ho); replace HB := Aside0.mk (hb); clear a9 ho hb hg hat))
 go_roundg k1
 case measure => have := HK1.out; omega
 case rel => exact ⟨(b5), (wrap64 (a4 + 1)), (wrap64 (a4 + 1)), sR, sR, H', ⟨by have := HK1.out; omega⟩, ⟨oR b8⟩, ⟨bB⟩⟩
 )
 ·(
 rw [if_neg b3] at H
 exact absurd H (by simp)
 )
 )
 ·(
 rw [if_neg c9] at H
 exact absurd H (by simp)
 )
 )
 ·(
 rw [if_neg c8] at H
 exact absurd H (by simp)
 )
 )
 ·(
 rw [if_neg c7] at H
 exact absurd H (by simp)
 )
 )
 ·(
 rw [if_neg c6] at H
 obtain ⟨d1, d2⟩ := nE c6
 have H' := Aside0.mk H
 clear H
 have p5 : 0 ≤ (a4 : Int) := of_decide_eq_true asm
 have q5 : a4 < (a0.size : Int) := of_decide_eq_true asm
 have d4 := bt_at a0 a4
 replace p5 := eq_true p5
 replace q5 := eq_true q5
 go_wp2
 go_roundg k1
 case measure => have := HK1.out; omega
 case rel => exact ⟨(a6), (a5), (wrap64 (a4 + 1)), sR, sR, H', ⟨by have := HK1.out; omega⟩, ⟨oR a9⟩, ⟨bB⟩⟩
 )
 )
 ·(
 rw [if_neg c4] at H
 exact absurd H (by simp)
 )
 )
 ·(
 rw [if_neg c3] at H
 have d0 : decide (a4 < (a0.size : Int)) = false := decide_eq_false c3
 clear c3
 by_cases b1 : 0 ≤ a5
 ·(
 rw [if_pos b1] at H
 have d5 := eq_true b1
 have d6 : decide (0 ≤ a5) = true := decide_eq_true b1
 clear b1
 by_cases b2 : a5 ≤ (a0.size : Int)
 ·(
 rw [if_pos b2] at H
 have d7 := eq_true b2
 have d8 : decide (a5 ≤ (a0.size : Int)) = true := decide_eq_true b2
 clear b2
 by_cases b4 : a6.length < 8796093022208
 ·(
 rw [if_pos b4] at H
 have b9 := Aside0.mk b4
 clear b4
 obtain ⟨d3, a8⟩ : ∃ y_ : List ByteArray, y_ = (a6 ++ [a0.extract (a5 : Int).toNat a0.size]) := ⟨_, rfl⟩
 replace H : (some d3) = some r := by first | (rw [a8]; with_reducible exact H) | (have b0 := (Option.bind_some _ _).symm.trans H; rw [a8]; with_reducible exact b0) | (have b0 := (Option.bind_some _ _).symm.trans H; with_reducible exact b0) | with_reducible exact H | (rw [a8]; exact H) | exact H
 have c0 := Aside0.mk a8
 clear a8
 obtain rfl := Option.some.inj H
 go_wp2_with (first | ((with_reducible refine gate_builtin (b := .append) (xs := #[.tmp 28, .tmp 32]) rfl ?_); at_builtin; refine Kd.R_append Kd.string (w0 := w) w.heap.size rfl (.tmp 28) (.tmp 32) 82 9 (.string ⟨#[]⟩) 16 rfl Tryz.underlying82 info9 rfl (by decide) (by omega) u5 a6 (a0.extract (a5 : Int).toNat a0.size) [.string (a0.extract (a5 : Int).toNat a0.size)] (fun _ => True) (fun _ => False) rfl rfl ?aP (fun _ hk => hk.elim) ?aF ?aO ?aB ?aS ?aL ?_; (case aP => exact rfl); (case aB => exact bB); (case aF => exact (fun _ _ => trivial)); (case aO => exact (oR a9)); (case aS => exact (below_size bB)); (case aL => have := b9.out; omega); intro e9 g3 ho hb hg hat; rw [← c0.out] at ho; have c5 := Aside0.mk (ho); replace HB := Aside0.mk (hb); clear a9 ho hb hg hat))
 go_ret
 exact ⟨_, sE, by (with_reducible repeat (first | apply Kd.R_alloc | apply Kd.R_drewN | apply Kd.R_drew)); exact c5.out, bI⟩
 )
 ·(
 rw [if_neg b4] at H
 exact absurd H (by simp)
 )
 )
 ·(
 rw [if_neg b2] at H
 exact absurd H (by simp)
 )
 )
 ·(
 rw [if_neg b1] at H
 exact absurd H (by simp)
 )
 )
 )
 )

end Go.Proofs.YtcfknhmdhglmfaaGreatDoor.PFnLaddersWhole
