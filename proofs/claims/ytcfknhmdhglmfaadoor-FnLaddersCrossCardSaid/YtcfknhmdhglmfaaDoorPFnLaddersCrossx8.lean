-- Written by xprint.py, a program of this session, for this seat; Lean checks it.
import Derived.Test.YtcfknhmdhglmfaaDoorVM
import Derived.Test.YtcfknhmdhglmfaaDoorPFnLaddersCrossx0
import Derived.Test.YtcfknhmdhglmfaaDoorPFnLaddersCrossx2
import Derived.Test.YtcfknhmdhglmfaaDoorPFnLaddersCrossx3
import Derived.Test.YtcfknhmdhglmfaaDoorPFnLaddersCrossx5
namespace Go.Proofs.YtcfknhmdhglmfaaDoor.PFnLaddersCross
open Go.Proofs.YtcfknhmdhglmfaaDoorV Go.RowKit Go.Proofs.YtcfknhmdhglmfaaDoorW.PrintWords Go.Proofs.YtcfknhmdhglmfaaDoorW.PrintLast Go.Proofs.YtcfknhmdhglmfaaDoorW.PrintMore
attribute [local go_sem] max2_int min2_int max_two min_two max_three min_three max_four min_four   -- for this text's walks alone
set_option linter.unusedVariables false
set_option linter.unusedSimpArgs false

/-! ### impl_MoveWall: function 34 -/
def impl_MoveWall.j0 : Nat → Int → Bool → Int → Int → Int → Option (Int × Int × Int × Bool)
  | 0, _, _, _, _, _ => none
  | k + 1, x1, x13, x321000, x321001, x321002 => if x13 = true then (some (0, 0, 0, false)) else ((impl_checkedLadders.f (wrap64 (x321000 + x1)) x321001 x321002).bind fun bt324 => (some (bt324.1, bt324.2.1, bt324.2.2.1, bt324.2.2.2)))
def impl_MoveWall.f (k : Nat) (a0_0 : Int) (a0_1 : Int) (a0_2 : Int) (a1 : Int) : Option (Int × Int × Int × Bool) := (impl_AreLadders.f a0_0 a0_1 a0_2).bind fun t322 => (if t322 = true then ((impl_within.f a1 (-1000) 1000).bind fun t323 => (impl_MoveWall.j0 k a1 (!t323) a0_0 a0_1 a0_2)) else (impl_MoveWall.j0 k a1 true a0_0 a0_1 a0_2))
theorem impl_MoveWall.mono_l : ∀ k, (∀ y0 y1 y2 y3 y4, LeO (impl_MoveWall.j0 k y0 y1 y2 y3 y4) (impl_MoveWall.j0 (k + 1) y0 y1 y2 y3 y4))
  | 0 => fun _ _ _ _ _ r h => by simp [impl_MoveWall.j0] at h
  | k + 1 => by
    have ih0 := impl_MoveWall.mono_l k
    · intro y0 y1 y2 y3 y4
      unfold impl_MoveWall.j0
      repeat' first
      | (with_reducible exact ih0 _ _ _ _ _)
      | (with_reducible exact LeO.refl _)
      | (with_reducible exact LeO.none _)
      | (with_reducible refine LeO.ite ?_ ?_)
      | (with_reducible refine LeO.bind ?_ (fun _ => ?_))
      | exact ih0 _ _ _ _ _
      | exact LeO.none _
      | refine LeO.ite ?_ ?_
      | refine LeO.bind ?_ (fun _ => ?_)
theorem impl_MoveWall.mono : ∀ a0 a1 a2 a3 k, LeO (impl_MoveWall.f k a0 a1 a2 a3) (impl_MoveWall.f (k + 1) a0 a1 a2 a3) := by
  intro a0 a1 a2 a3 k
  have ih0 := impl_MoveWall.mono_l k
  unfold impl_MoveWall.f
  repeat' first
      | (with_reducible exact ih0 _ _ _ _ _)
      | (with_reducible exact LeO.refl _)
      | (with_reducible exact LeO.none _)
      | (with_reducible refine LeO.ite ?_ ?_)
      | (with_reducible refine LeO.bind ?_ (fun _ => ?_))
      | exact ih0 _ _ _ _ _
      | exact LeO.none _
      | refine LeO.ite ?_ ?_
      | refine LeO.bind ?_ (fun _ => ?_)
set_option maxHeartbeats 8000000 in
set_option maxRecDepth 100000 in
theorem impl_MoveWall.calls (k : Nat) (a0_0 : Int) (a0_1 : Int) (a0_2 : Int) (a1 : Int) (r1 : Int) (r2 : Int) (r3 : Int) (r4 : Bool) (w : World) (h : impl_MoveWall.f k a0_0 a0_1 a0_2 a1 = some (r1, r2, r3, r4)) :
    Calls Tryd.prog 34 #[.agg #[.int .i64 a0_0, .int .i64 a0_1, .int .i64 a0_2], .int .i64 a1] w fun e w' => e = .returned (.tuple #[.agg #[.int .i64 r1, .int .i64 r2, .int .i64 r3], .bool r4]) ∧ Below w.heap.size w w' := by
 have h2 := Tryd.underlying25
 have HB := Aside0.mk (Below.refl w.heap.size w)
 have H := h
 unfold impl_MoveWall.f at H
 clear h
 have b1 := Aside0.mk H
 clear H
 go_enter Tryd.func34, Tryd.ntmps34
 go_upto_region 1 with (first | ((with_reducible refine gate_dst (N := 2) rfl ?_); refine box_ (cs := #[.int .i64 a0_0, .int .i64 a0_1, .int .i64 a0_2]) (t := 25) fun b6 hg w4 hbox hb => ?_; have a4 := Aside0.mk (hbox); have g2 := bS HB hg; have g3 := bS HB hg; replace HB := Aside0.mk (below_step bB hb); clear hb hbox hg) | ((with_reducible refine gate_dst (N := 4) rfl ?_); refine box_ (cs := #[.int .i64 0, .int .i64 0, .int .i64 0]) (t := 25) fun a9 hg w5 hbox hb => ?_; have a5 := Aside0.mk (hbox); have g4 := bS HB hg; have g5 := bS HB hg; have a6 := bL a4 hg; have a7 := bM a4 hg; replace a4 := bQ a4 hb; replace HB := Aside0.mk (below_step bB hb); clear hb hbox hg))
 (try simp only [Act.put, List.setIfInBounds_toArray, List.set_cons_zero, List.set_cons_succ])
 go_cut [13] (fun g0 wc => ∃ (kq : Nat) (a8 : Bool), g0 = .bool a8 ∧ Aside0 (impl_MoveWall.j0 kq a1 a8 a0_0 a0_1 a0_2 = some (r1, r2, r3, r4)) ∧ Aside0 (kq ≤ k) ∧ Aside0 (wc.heap[b6]? = some (.cells #[.int .i64 a0_0, .int .i64 a0_1, .int .i64 a0_2] 25 (0, 0))) ∧ Aside0 (wc.heap[a9]? = some (.cells #[.int .i64 0, .int .i64 0, .int .i64 0] 25 (0, 0))) ∧ Aside0 (Below w.heap.size w wc))
 case first => (
 have H := b1.out
 clear b1
 obtain ⟨b7, A6, H⟩ := bD H
 try dsimp only at H
 by_cases c7 : b7 = true
 ·(
 subst c7
 rw [if_pos rfl] at H
 obtain ⟨b2, A8, H⟩ := bD H
 try dsimp only at H
 have H' := Aside0.mk H
 clear H
 have h3 := a6.out
 have h4 := a7.out
 obtain ⟨b9, c0, c1, c2, c3, c4⟩ := cf3 a4
 go_wp2_with (first | ((with_reducible refine gate_callee (f := 20) rfl ?_); refine goesL_ (some 7) rfl rfl Tryd.func20 kr rfl #[.agg #[.int .i64 a0_0, .int .i64 a0_1, .int .i64 a0_2]] rfl sM ?_; (with_reducible refine (impl_AreLadders.calls a0_0 a0_1 a0_2 true _ A6.out).mono ?_); rintro e h5 ⟨rfl, hb⟩; refine ⟨_, rfl, ?_⟩; replace a4 := bQ a4 hb; replace a5 := bQ a5 hb; replace HB := Aside0.mk (below_step bB hb); (try clear hb)) | (go_at_call 51; (with_reducible refine (impl_within.calls a1 (-1000) 1000 b2 _ A8.out).mono ?_); rintro e w' ⟨rfl, ⟨nd, rfl⟩⟩))
 go_meet
 case rel => exact ⟨_, (!b2), sR, H', ⟨by first | omega | exact Nat.le_refl _⟩, (bA a4), (bA a5), ⟨bB⟩⟩
 )
 ·(
 replace c7 := Bool.eq_false_iff.mpr c7
 subst c7
 rw [if_neg nft] at H
 have H' := Aside0.mk H
 clear H
 have g6 := a6.out
 have g7 := a7.out
 obtain ⟨c5, c6, c8, c9, d0, d1⟩ := cf3 a4
 go_wp2_with (first | ((with_reducible refine gate_callee (f := 20) rfl ?_); refine goesL_ (some 7) rfl rfl Tryd.func20 kr rfl #[.agg #[.int .i64 a0_0, .int .i64 a0_1, .int .i64 a0_2]] rfl sM ?_; (with_reducible refine (impl_AreLadders.calls a0_0 a0_1 a0_2 false _ A6.out).mono ?_); rintro e h6 ⟨rfl, hb⟩; refine ⟨_, rfl, ?_⟩; replace a4 := bQ a4 hb; replace a5 := bQ a5 hb; replace HB := Aside0.mk (below_step bB hb); (try clear hb)))
 go_meet
 case rel => exact ⟨_, (true), sR, H', ⟨by first | omega | exact Nat.le_refl _⟩, (bA a4), (bA a5), ⟨bB⟩⟩
 )
 )
 case rest => (
 clear b1
 obtain ⟨kq, a8, rfl, HA, HJ2, a4, a5, HB⟩ := hcut
 cases kq with
 | zero => exact absurd HA.out (by simp [impl_MoveWall.j0])
 | succ h7 => (
 have H := HA.out
 clear HA
 simp only [impl_MoveWall.j0] at H
 by_cases b0 : a8 = true
 ·(
 subst b0
 rw [if_pos rfl] at H
 simp only [Option.some.injEq, Prod.mk.injEq] at H
 obtain ⟨rfl, rfl, rfl, rfl⟩ := H
 have g8 := a7.out
 have g9 := a6.out
 obtain ⟨d2, d3, d4, d5, d6, d7⟩ := cf3 a5
 go_wp2
 refine bodyPost_ret (results_ct rfl _ _ a9 25 #[.int .i64 0, .int .i64 0, .int .i64 0] (0, 0) _ rfl (bK a5) Tryd.underlying25 rfl kr) rfl ?_
 exact ⟨sE, bI⟩
 )
 ·(
 replace b0 := Bool.eq_false_iff.mpr b0
 subst b0
 rw [if_neg nft] at H
 obtain ⟨⟨b3, b4, b5, b8⟩, g1, H⟩ := bD H
 try dsimp only at H
 simp only [Option.some.injEq, Prod.mk.injEq] at H
 obtain ⟨rfl, rfl, rfl, rfl⟩ := H
 have h0 := a6.out
 have h1 := a7.out
 obtain ⟨d8, d9, e0, e1, e2, e3⟩ := cf3 a4
 go_wp2_with (first | ((with_reducible refine gate_callee (f := 42) rfl ?_); refine goesL_ (some 24) rfl rfl Tryd.func42 kr rfl #[.agg #[.int .i64 (wrap64 (a0_0 + a1)), .int .i64 a0_1, .int .i64 a0_2]] rfl sM ?_; (with_reducible refine (impl_checkedLadders.calls (wrap64 (a0_0 + a1)) a0_1 a0_2 b3 b4 b5 b8 _ g1.out).mono ?_); rintro e h8 ⟨rfl, hb⟩; refine ⟨_, rfl, ?_⟩; replace a4 := bQ a4 hb; replace a5 := bQ a5 hb; replace HB := Aside0.mk (below_step bB hb); (try clear hb); obtain ⟨e4, e5, e6, e7, e8, e9⟩ := cf3 a5))
 refine bodyPost_ret (results_ct rfl _ _ a9 25 #[.int .i64 b3, .int .i64 b4, .int .i64 b5] (0, 0) _ rfl (bK a5) Tryd.underlying25 rfl kr) rfl ?_
 exact ⟨sE, bI⟩
 )
 )
 )

/-! ### spec_MoveWall: function 35 -/
def spec_MoveWall.f (a0_0 : Int) (a0_1 : Int) (a0_2 : Int) (a1 : Int) : Option (Int × Int × Int × Bool) := (spec_clGood.f a0_0 a0_1 a0_2).bind fun t330 => (if t330 = true then ((spec_l1In.f a1 (-1000) 1000).bind fun t331 => (if t331 = true then ((spec_l1In.f (wrap64 (a0_0 + a1)) 1 1000).bind fun t332 => (if t332 = true then (some (wrap64 (a0_0 + a1), a0_1, a0_2, true)) else (some (0, 0, 0, false)))) else (some (0, 0, 0, false)))) else (some (0, 0, 0, false)))
set_option maxHeartbeats 8000000 in
set_option maxRecDepth 100000 in
theorem spec_MoveWall.calls (a0_0 : Int) (a0_1 : Int) (a0_2 : Int) (a1 : Int) (r1 : Int) (r2 : Int) (r3 : Int) (r4 : Bool) (w : World) (h : spec_MoveWall.f a0_0 a0_1 a0_2 a1 = some (r1, r2, r3, r4)) :
    Calls Tryd.prog 35 #[.agg #[.int .i64 a0_0, .int .i64 a0_1, .int .i64 a0_2], .int .i64 a1] w fun e w' => e = .returned (.tuple #[.agg #[.int .i64 r1, .int .i64 r2, .int .i64 r3], .bool r4]) ∧ Below w.heap.size w w' := by
 have e3 := Tryd.underlying25
 have HB := Aside0.mk (Below.refl w.heap.size w)
 have H := h
 unfold spec_MoveWall.f at H
 clear h
 obtain ⟨d2, A3, H⟩ := bD H
 try dsimp only at H
 by_cases c4 : d2 = true
 subst c4
 rw [if_pos rfl] at H
 obtain ⟨d3, A5, H⟩ := bD H
 try dsimp only at H
 by_cases c6 : d3 = true
 subst c6
 rw [if_pos rfl] at H
 obtain ⟨d4, A7, H⟩ := bD H
 try dsimp only at H
 by_cases c8 : d4 = true
 subst c8
 rw [if_pos rfl] at H
 simp only [Option.some.injEq, Prod.mk.injEq] at H
 obtain ⟨rfl, rfl, rfl, rfl⟩ := H
 rotate_left
 replace c8 := Bool.eq_false_iff.mpr c8
 subst c8
 rw [if_neg nft] at H
 simp only [Option.some.injEq, Prod.mk.injEq] at H
 obtain ⟨rfl, rfl, rfl, rfl⟩ := H
 rotate_left
 replace c6 := Bool.eq_false_iff.mpr c6
 subst c6
 rw [if_neg nft] at H
 simp only [Option.some.injEq, Prod.mk.injEq] at H
 obtain ⟨rfl, rfl, rfl, rfl⟩ := H
 rotate_left
 replace c4 := Bool.eq_false_iff.mpr c4
 subst c4
 rw [if_neg nft] at H
 simp only [Option.some.injEq, Prod.mk.injEq] at H
 obtain ⟨rfl, rfl, rfl, rfl⟩ := H
 rotate_left
 all_goals (go_enter Tryd.func35, Tryd.ntmps35)
 all_goals (go_wp2_with (first | ((with_reducible refine gate_dst (N := 2) rfl ?_); refine box_ (cs := #[.int .i64 a0_0, .int .i64 a0_1, .int .i64 a0_2]) (t := 25) fun b4 hg e8 hbox hb => ?_; have a4 := Aside0.mk (hbox); have e4 := bS HB hg; have e5 := bS HB hg; replace HB := Aside0.mk (below_step bB hb); clear hb hbox hg) | ((with_reducible refine gate_dst (N := 4) rfl ?_); refine box_ (cs := #[.int .i64 0, .int .i64 0, .int .i64 0]) (t := 25) fun a7 hg e9 hbox hb => ?_; have a5 := Aside0.mk (hbox); have e6 := bS HB hg; have e7 := bS HB hg; have b5 := bL a4 hg; have b6 := bM a4 hg; replace a4 := bQ a4 hb; replace HB := Aside0.mk (below_step bB hb); clear hb hbox hg; have e1 := b5.out; have e2 := b6.out; obtain ⟨d5, d6, d7, d8, d9, e0⟩ := cf3 a4) | ((with_reducible refine gate_callee (f := 38) rfl ?_); refine goesL_ (some 7) rfl rfl Tryd.func38 kr rfl #[.agg #[.int .i64 a0_0, .int .i64 a0_1, .int .i64 a0_2]] rfl sM ?_; (with_reducible refine (spec_clGood.calls a0_0 a0_1 a0_2 true _ A3.out).mono ?_); rintro e a6 ⟨rfl, hb⟩; refine ⟨_, rfl, ?_⟩; replace a4 := bQ a4 hb; replace a5 := bQ a5 hb; replace HB := Aside0.mk (below_step bB hb); (try clear hb)) | (go_at_call 56; (with_reducible refine (spec_l1In.calls a1 (-1000) 1000 true _ A5.out).mono ?_); rintro e w' ⟨rfl, ⟨nd, rfl⟩⟩; (try (rw [drewN_self a6]; generalize hq_ : World.drewN a6 _ = a6; replace a4 : Aside0 (a6.heap[b4]? = some (.cells #[.int .i64 a0_0, .int .i64 a0_1, .int .i64 a0_2] 25 (0, 0))) := ⟨by rw [← hq_]; exact (bK a4)⟩; replace a5 : Aside0 (a6.heap[a7]? = some (.cells #[.int .i64 0, .int .i64 0, .int .i64 0] 25 (0, 0))) := ⟨by rw [← hq_]; exact (bK a5)⟩; replace HB : Aside0 (Below w.heap.size w a6) := ⟨by rw [← hq_]; exact bB⟩; clear hq_)); obtain ⟨a8, a9, b0, b1, b2, b3⟩ := cf3 a4) | (go_at_call 56; (with_reducible refine (spec_l1In.calls (wrap64 (a0_0 + a1)) 1 1000 true _ A7.out).mono ?_); rintro e w' ⟨rfl, ⟨nd, rfl⟩⟩; (try (rw [drewN_self a6]; generalize hq_ : World.drewN a6 _ = a6; replace a4 : Aside0 (a6.heap[b4]? = some (.cells #[.int .i64 a0_0, .int .i64 a0_1, .int .i64 a0_2] 25 (0, 0))) := ⟨by rw [← hq_]; exact (bK a4)⟩; replace a5 : Aside0 (a6.heap[a7]? = some (.cells #[.int .i64 0, .int .i64 0, .int .i64 0] 25 (0, 0))) := ⟨by rw [← hq_]; exact (bK a5)⟩; replace HB : Aside0 (Below w.heap.size w a6) := ⟨by rw [← hq_]; exact bB⟩; clear hq_)); obtain ⟨b7, b8, b9, c0, c1, c2⟩ := cf3 a5; obtain ⟨c3, c5, c7, c9, d0, d1⟩ := cf3 a4) | (go_at_call 56; (with_reducible refine (spec_l1In.calls (wrap64 (a0_0 + a1)) 1 1000 false _ A7.out).mono ?_); rintro e w' ⟨rfl, ⟨nd, rfl⟩⟩; (try (rw [drewN_self a6]; generalize hq_ : World.drewN a6 _ = a6; replace a4 : Aside0 (a6.heap[b4]? = some (.cells #[.int .i64 a0_0, .int .i64 a0_1, .int .i64 a0_2] 25 (0, 0))) := ⟨by rw [← hq_]; exact (bK a4)⟩; replace a5 : Aside0 (a6.heap[a7]? = some (.cells #[.int .i64 0, .int .i64 0, .int .i64 0] 25 (0, 0))) := ⟨by rw [← hq_]; exact (bK a5)⟩; replace HB : Aside0 (Below w.heap.size w a6) := ⟨by rw [← hq_]; exact bB⟩; clear hq_)); obtain ⟨b7, b8, b9, c0, c1, c2⟩ := cf3 a5; obtain ⟨c3, c5, c7, c9, d0, d1⟩ := cf3 a4) | (go_at_call 56; (with_reducible refine (spec_l1In.calls a1 (-1000) 1000 false _ A5.out).mono ?_); rintro e w' ⟨rfl, ⟨nd, rfl⟩⟩; (try (rw [drewN_self a6]; generalize hq_ : World.drewN a6 _ = a6; replace a4 : Aside0 (a6.heap[b4]? = some (.cells #[.int .i64 a0_0, .int .i64 a0_1, .int .i64 a0_2] 25 (0, 0))) := ⟨by rw [← hq_]; exact (bK a4)⟩; replace a5 : Aside0 (a6.heap[a7]? = some (.cells #[.int .i64 0, .int .i64 0, .int .i64 0] 25 (0, 0))) := ⟨by rw [← hq_]; exact (bK a5)⟩; replace HB : Aside0 (Below w.heap.size w a6) := ⟨by rw [← hq_]; exact bB⟩; clear hq_)); obtain ⟨a8, a9, b0, b1, b2, b3⟩ := cf3 a5) | ((with_reducible refine gate_callee (f := 38) rfl ?_); refine goesL_ (some 7) rfl rfl Tryd.func38 kr rfl #[.agg #[.int .i64 a0_0, .int .i64 a0_1, .int .i64 a0_2]] rfl sM ?_; (with_reducible refine (spec_clGood.calls a0_0 a0_1 a0_2 false _ A3.out).mono ?_); rintro e a6 ⟨rfl, hb⟩; refine ⟨_, rfl, ?_⟩; replace a4 := bQ a4 hb; replace a5 := bQ a5 hb; replace HB := Aside0.mk (below_step bB hb); (try clear hb); obtain ⟨a8, a9, b0, b1, b2, b3⟩ := cf3 a5)))
 ·(
 refine bodyPost_ret (results_ct rfl _ _ a7 25 #[.int .i64 (wrap64 (a0_0 + a1)), .int .i64 a0_1, .int .i64 a0_2] (0, 0) _ rfl (bK a5) Tryd.underlying25 rfl kr) rfl ?_
 exact ⟨sE, bI⟩
 )
 ·(
 refine bodyPost_ret (results_ct rfl _ _ a7 25 #[.int .i64 0, .int .i64 0, .int .i64 0] (0, 0) _ rfl (bK a5) Tryd.underlying25 rfl kr) rfl ?_
 exact ⟨sE, bI⟩
 )
 ·(
 refine bodyPost_ret (results_ct rfl _ _ a7 25 #[.int .i64 0, .int .i64 0, .int .i64 0] (0, 0) _ rfl (bK a5) Tryd.underlying25 rfl kr) rfl ?_
 exact ⟨sE, bI⟩
 )
 ·(
 refine bodyPost_ret (results_ct rfl _ _ a7 25 #[.int .i64 0, .int .i64 0, .int .i64 0] (0, 0) _ rfl (bK a5) Tryd.underlying25 rfl kr) rfl ?_
 exact ⟨sE, bI⟩
 )

end Go.Proofs.YtcfknhmdhglmfaaDoor.PFnLaddersCross
