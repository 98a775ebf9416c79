-- Written by xprint.py, a program of this session, for this seat; Lean checks it.
import Derived.Test.YtcfknhmdhglmfaaGreatDoorVM
import Derived.Test.YtcfknhmdhglmfaaGreatDoorPFnLaddersWholex0
import Derived.Test.YtcfknhmdhglmfaaGreatDoorPFnLaddersWholex3
import Derived.Test.YtcfknhmdhglmfaaGreatDoorPFnLaddersWholex4
namespace Go.Proofs.YtcfknhmdhglmfaaGreatDoor.PFnLaddersWhole
open Go.Proofs.YtcfknhmdhglmfaaGreatDoorV Go.RowKit Go.Proofs.YtcfknhmdhglmfaaGreatDoorW.PrintWords Go.Proofs.YtcfknhmdhglmfaaGreatDoorW.PrintLast Go.Proofs.YtcfknhmdhglmfaaGreatDoorW.PrintMore
attribute [local go_sem] max2_int min2_int max_two min_two max_three min_three max_four min_four   -- for this text's walks alone
set_option linter.unusedVariables false
set_option linter.unusedSimpArgs false

/-! ### impl_IsWholeCrossing: function 10 -/
def impl_IsWholeCrossing.f (k : Nat) (a0_0 : Int) (a0_1 : Int) (a0_2 : Int) : Option (Bool × Bool) := (impl_AreLadders.f a0_0 a0_1 a0_2).bind fun t240 => (if t240 = true then ((impl_isWholeCrossing.f k a0_0 a0_1 a0_2).bind fun t241 => ((impl_AreLadders.f a0_0 a0_1 a0_2).bind fun t242 => (some (t241, t242)))) else ((impl_AreLadders.f a0_0 a0_1 a0_2).bind fun t243 => (some (false, t243))))
theorem impl_IsWholeCrossing.mono : ∀ a0 a1 a2 k, LeO (impl_IsWholeCrossing.f k a0 a1 a2) (impl_IsWholeCrossing.f (k + 1) a0 a1 a2) := by
  intro a0 a1 a2 k
  unfold impl_IsWholeCrossing.f
  repeat' first
      | (with_reducible exact impl_isWholeCrossing.mono _ _ _ _)
      | (with_reducible exact LeO.refl _)
      | (with_reducible exact LeO.none _)
      | (with_reducible refine LeO.ite ?_ ?_)
      | (with_reducible refine LeO.bind ?_ (fun _ => ?_))
      | exact impl_isWholeCrossing.mono _ _ _ _
      | exact LeO.none _
      | refine LeO.ite ?_ ?_
      | refine LeO.bind ?_ (fun _ => ?_)
def impl_IsWholeCrossing.T1 : Bool × List (List Nat × List Nat) := (true, [([], []), ([0], [0]), ([1, 1], [1]), ([2], [2]), ([3, 2, 2], [2, 3]), ([2, 4], [2, 4]), ([], []), ([6, 4], [6]), ([5, 7, 0, 1, 2, 3, 4, 5], [5]), ([7, 8, 0, 1, 2, 3, 4, 5, 6, 7, 8], [7])])
def impl_IsWholeCrossing.B1 : List Nat := [0, 1, 3, 7, 15, 31, 0, 95, 255, 511]
theorem impl_IsWholeCrossing.tab1 : rtab .any (opsOf Tryz.f10 1) = impl_IsWholeCrossing.T1 := by kernel_rfl
theorem impl_IsWholeCrossing.bits1 : waitsOk impl_IsWholeCrossing.T1.2 impl_IsWholeCrossing.B1 = true := by kernel_rfl
set_option maxHeartbeats 8000000 in
set_option maxRecDepth 100000 in
theorem impl_IsWholeCrossing.calls (k : Nat) (a0_0 : Int) (a0_1 : Int) (a0_2 : Int) (r1 : Bool) (r2 : Bool) (w : World) (h : impl_IsWholeCrossing.f k a0_0 a0_1 a0_2 = some (r1, r2)) :
    Calls Tryz.prog 10 #[.agg #[.int .i64 a0_0, .int .i64 a0_1, .int .i64 a0_2]] w fun e w' => e = .returned (.tuple #[.bool r1, .bool r2]) ∧ Below w.heap.size w w' := by
 have b6 := Tryz.underlying25
 have HB := Aside0.mk (Below.refl w.heap.size w)
 have H := h
 unfold impl_IsWholeCrossing.f at H
 clear h
 obtain ⟨a8, A2, H⟩ := bD H
 try dsimp only at H
 have HQ_ := Aside0.mk H
 clear H
 go_enter Tryz.func10, Tryz.ntmps10
 try go_wp2_with (first | ((with_reducible refine gate_dst (N := 1) rfl ?_); refine box_ (cs := #[.int .i64 a0_0, .int .i64 a0_1, .int .i64 a0_2]) (t := 25) fun a4 hg b2 hbox hb => ?_; have a3 := Aside0.mk (hbox); have b7 := bS HB hg; have b8 := bS HB hg; replace HB := Aside0.mk (below_step bB hb); clear hb hbox hg))
 replace a3 := bD1 a3
 replace HB := Aside0.mk (below_drew1 HB.out)
 refine start_ (n := 10) (S := fun w' => w'.cell? ⟨a4, 0, none⟩ = some (.int .i64 a0_0) ∧ w'.cell? ⟨a4, 1, none⟩ = some (.int .i64 a0_1) ∧ w'.cell? ⟨a4, 2, none⟩ = some (.int .i64 a0_2)) (ds := []) #[false, false, false, false, false, false, false, false, false, false] kr rfl rfl cS (fun hHeld => ?_); refine with_tabW impl_IsWholeCrossing.tab1 impl_IsWholeCrossing.bits1 (fun HT_ HW_ => ?_)
 generalize b2.drew = b9 at a3 HB hHeld ⊢
 refine take_ (i := 0) (N := some 4) (v := ?_) (a' := ?_) #[true, false, false, false, false, false, false, false, false, false] rfl rfl (take_ofW HT_.out HW_.out kr) (fun _ _ _ h => h) (Or.inl ⟨by rfl, ?_⟩) hHeld ?_ ?_
 rotate_left
 ·(
 rintro w' ⟨a5, a6, a7⟩
 go_simp
 with_reducible rfl
 )
 rotate_left
 ·(
 simp only [Act.put, List.setIfInBounds_toArray, List.set_cons_zero, List.set_cons_succ, i64_w, i32_w]
 rfl
 )
 refine take_ (i := 6) (N := some 10) (v := ?_) (a' := ?_) #[true, false, false, false, false, false, true, false, false, false] rfl rfl (take_ofW HT_.out HW_.out kr) (fun _ _ _ h => h) (Or.inl ⟨by rfl, ?_⟩) hHeld ?_ ?_
 rotate_left
 ·(
 rintro w' ⟨a5, a6, a7⟩
 go_simp
 with_reducible rfl
 )
 rotate_left
 ·(
 simp only [Act.put, List.setIfInBounds_toArray, List.set_cons_zero, List.set_cons_succ, i64_w, i32_w]
 rfl
 )
 refine one_ (i := 1) (N := some 5) #[true, true, false, false, false, false, true, false, false, false] rfl rfl (one_of HT_.out kr) (by decide) (fun K hK => ?_)
 refine goes_ Tryz.func12 kr rfl #[.agg #[.int .i64 a0_0, .int .i64 a0_1, .int .i64 a0_2]] (by rfl) rfl rfl sM ?_
 have H := HQ_.out
 clear HQ_
 by_cases c3 : a8 = true
 ·(
 subst c3
 rw [if_pos rfl] at H
 obtain ⟨a9, A4, H⟩ := bD H
 try dsimp only at H
 obtain ⟨b0, A5, H⟩ := bD H
 try dsimp only at H
 simp only [Option.some.injEq, Prod.mk.injEq] at H
 obtain ⟨rfl, rfl⟩ := H
 with_reducible refine (impl_AreLadders.calls a0_0 a0_1 a0_2 true _ A2.out).mono ?_
 rintro e b3 ⟨rfl, hb⟩
 refine ⟨_, rfl, ?_⟩
 replace a3 := bQ a3 hb
 replace HB := Aside0.mk (below_step bB hb)
 try clear hb
 refine hK.out _ _ cS (fun hHeld => ?_)
 clear hK K
 refine norm_ (a' := ?_) ?_ ?_
 rotate_left
 · show Act.put _ (some 5) _ = _
   simp only [Act.put, List.setIfInBounds_toArray, List.set_cons_zero, List.set_cons_succ, i64_w, i32_w]
   rfl
 refine pure_ (i := 2) (N := some 6) (v := ?_) (a' := ?_) #[true, true, true, false, false, false, true, false, false, false] rfl rfl (any_of HT_.out kr) (fun _ _ _ h => h) (Or.inl ⟨by rfl, ?_⟩) ?_ ?_
 rotate_left
 ·(
 intro w'
 go_simp
 with_reducible rfl
 )
 rotate_left
 ·(
 simp only [Act.put, List.setIfInBounds_toArray, List.set_cons_zero, List.set_cons_succ, i64_w, i32_w]
 rfl
 )
 refine take_ (i := 3) (N := some 7) (v := ?_) (a' := ?_) #[true, true, true, true, false, false, true, false, false, false] rfl rfl (take_ofW HT_.out HW_.out kr) (fun _ _ _ h => h) (Or.inl ⟨by rfl, ?_⟩) hHeld ?_ ?_
 rotate_left
 ·(
 rintro w' ⟨a5, a6, a7⟩
 go_simp
 with_reducible rfl
 )
 rotate_left
 ·(
 simp only [Act.put, List.setIfInBounds_toArray, List.set_cons_zero, List.set_cons_succ, i64_w, i32_w]
 rfl
 )
 refine one_ (i := 4) (N := some 8) #[true, true, true, true, true, false, true, false, false, false] rfl rfl (one_of HT_.out kr) (by decide) (fun K hK => ?_)
 refine goes_ Tryz.func38 kr rfl #[.agg #[.int .i64 a0_0, .int .i64 a0_1, .int .i64 a0_2]] (by rfl) rfl rfl sM ?_
 with_reducible refine (impl_isWholeCrossing.calls k a0_0 a0_1 a0_2 a9 _ A4.out).mono ?_
 rintro e b4 ⟨rfl, hb⟩
 refine ⟨_, rfl, ?_⟩
 replace a3 := bQ a3 hb
 replace HB := Aside0.mk (below_step bB hb)
 try clear hb
 refine hK.out _ _ cS (fun hHeld => ?_)
 clear hK K
 refine norm_ (a' := ?_) ?_ ?_
 rotate_left
 · show Act.put _ (some 8) _ = _
   simp only [Act.put, List.setIfInBounds_toArray, List.set_cons_zero, List.set_cons_succ, i64_w, i32_w]
   rfl
 refine pure_ (i := 5) (N := some 9) (v := ?_) (a' := ?_) #[true, true, true, true, true, true, true, false, false, false] rfl rfl (any_of HT_.out kr) (fun _ _ _ h => h) (Or.inl ⟨by rfl, ?_⟩) ?_ ?_
 rotate_left
 ·(
 intro w'
 go_simp
 with_reducible rfl
 )
 rotate_left
 ·(
 simp only [Act.put, List.setIfInBounds_toArray, List.set_cons_zero, List.set_cons_succ, i64_w, i32_w]
 rfl
 )
 refine one_ (i := 7) (N := some 11) #[true, true, true, true, true, true, true, true, false, false] rfl rfl (one_of HT_.out kr) (by decide) (fun K hK => ?_)
 refine goes_ Tryz.func12 kr rfl #[.agg #[.int .i64 a0_0, .int .i64 a0_1, .int .i64 a0_2]] (by rfl) rfl rfl sM ?_
 with_reducible refine (impl_AreLadders.calls a0_0 a0_1 a0_2 b0 _ A5.out).mono ?_
 rintro e c0 ⟨rfl, hb⟩
 refine ⟨_, rfl, ?_⟩
 replace a3 := bQ a3 hb
 replace HB := Aside0.mk (below_step bB hb)
 try clear hb
 refine hK.out _ _ cS (fun hHeld => ?_)
 clear hK K
 refine norm_ (a' := ?_) ?_ ?_
 rotate_left
 · show Act.put _ (some 11) _ = _
   simp only [Act.put, List.setIfInBounds_toArray, List.set_cons_zero, List.set_cons_succ, i64_w, i32_w]
   rfl
 refine pure_ (i := 8) (N := some 2) (v := ?_) (a' := ?_) #[true, true, true, true, true, true, true, true, true, false] rfl rfl (any_of HT_.out kr) (fun _ _ _ h => h) (Or.inl ⟨by rfl, ?_⟩) ?_ ?_
 rotate_left
 ·(
 intro w'
 go_simp
 with_reducible rfl
 )
 rotate_left
 ·(
 simp only [Act.put, List.setIfInBounds_toArray, List.set_cons_zero, List.set_cons_succ, i64_w, i32_w]
 rfl
 )
 refine pure_ (i := 9) (N := some 3) (v := ?_) (a' := ?_) #[true, true, true, true, true, true, true, true, true, true] rfl rfl (any_of HT_.out kr) (fun _ _ _ h => h) (Or.inl ⟨by rfl, ?_⟩) ?_ ?_
 rotate_left
 ·(
 intro w'
 go_simp
 with_reducible rfl
 )
 rotate_left
 ·(
 simp only [Act.put, List.setIfInBounds_toArray, List.set_cons_zero, List.set_cons_succ, i64_w, i32_w]
 rfl
 )
 refine done_ (done_of HT_.out kr) ?_
 try go_wp2
 (try rw [dSet])
 go_ret2
 exact ⟨sE, bI⟩
 )
 ·(
 replace c3 := Bool.eq_false_iff.mpr c3
 subst c3
 rw [if_neg nft] at H
 obtain ⟨b1, b5, H⟩ := bD H
 try dsimp only at H
 simp only [Option.some.injEq, Prod.mk.injEq] at H
 obtain ⟨rfl, rfl⟩ := H
 with_reducible refine (impl_AreLadders.calls a0_0 a0_1 a0_2 false _ A2.out).mono ?_
 rintro e b3 ⟨rfl, hb⟩
 refine ⟨_, rfl, ?_⟩
 replace a3 := bQ a3 hb
 replace HB := Aside0.mk (below_step bB hb)
 try clear hb
 refine hK.out _ _ cS (fun hHeld => ?_)
 clear hK K
 refine norm_ (a' := ?_) ?_ ?_
 rotate_left
 · show Act.put _ (some 5) _ = _
   simp only [Act.put, List.setIfInBounds_toArray, List.set_cons_zero, List.set_cons_succ, i64_w, i32_w]
   rfl
 refine pure_ (i := 2) (N := some 6) (v := ?_) (a' := ?_) #[true, true, true, false, false, false, true, false, false, false] rfl rfl (any_of HT_.out kr) (fun _ _ _ h => h) (Or.inl ⟨by rfl, ?_⟩) ?_ ?_
 rotate_left
 ·(
 intro w'
 go_simp
 with_reducible rfl
 )
 rotate_left
 ·(
 simp only [Act.put, List.setIfInBounds_toArray, List.set_cons_zero, List.set_cons_succ, i64_w, i32_w]
 rfl
 )
 refine pure_ (i := 3) (N := some 7) (v := undef) (a' := ?_) #[true, true, true, true, false, false, true, false, false, false] rfl rfl (any_of HT_.out kr) (fun _ _ _ h => h) (Or.inr ⟨by rfl, rfl⟩) ?_ ?_
 rotate_left
 ·(
 simp only [Act.put, List.setIfInBounds_toArray, List.set_cons_zero, List.set_cons_succ, i64_w, i32_w]
 rfl
 )
 refine pure_ (i := 4) (N := some 8) (v := undef) (a' := ?_) #[true, true, true, true, true, false, true, false, false, false] rfl rfl (any_of HT_.out kr) (fun _ _ _ h => h) (Or.inr ⟨by rfl, rfl⟩) ?_ ?_
 rotate_left
 ·(
 simp only [Act.put, List.setIfInBounds_toArray, List.set_cons_zero, List.set_cons_succ, i64_w, i32_w]
 rfl
 )
 refine pure_ (i := 5) (N := some 9) (v := ?_) (a' := ?_) #[true, true, true, true, true, true, true, false, false, false] rfl rfl (any_of HT_.out kr) (fun _ _ _ h => h) (Or.inl ⟨by rfl, ?_⟩) ?_ ?_
 rotate_left
 ·(
 intro w'
 go_simp
 with_reducible rfl
 )
 rotate_left
 ·(
 simp only [Act.put, List.setIfInBounds_toArray, List.set_cons_zero, List.set_cons_succ, i64_w, i32_w]
 rfl
 )
 refine one_ (i := 7) (N := some 11) #[true, true, true, true, true, true, true, true, false, false] rfl rfl (one_of HT_.out kr) (by decide) (fun K hK => ?_)
 refine goes_ Tryz.func12 kr rfl #[.agg #[.int .i64 a0_0, .int .i64 a0_1, .int .i64 a0_2]] (by rfl) rfl rfl sM ?_
 with_reducible refine (impl_AreLadders.calls a0_0 a0_1 a0_2 b1 _ b5.out).mono ?_
 rintro e b4 ⟨rfl, hb⟩
 refine ⟨_, rfl, ?_⟩
 replace a3 := bQ a3 hb
 replace HB := Aside0.mk (below_step bB hb)
 try clear hb
 refine hK.out _ _ cS (fun hHeld => ?_)
 clear hK K
 refine norm_ (a' := ?_) ?_ ?_
 rotate_left
 · show Act.put _ (some 11) _ = _
   simp only [Act.put, List.setIfInBounds_toArray, List.set_cons_zero, List.set_cons_succ, i64_w, i32_w]
   rfl
 refine pure_ (i := 8) (N := some 2) (v := ?_) (a' := ?_) #[true, true, true, true, true, true, true, true, true, false] rfl rfl (any_of HT_.out kr) (fun _ _ _ h => h) (Or.inl ⟨by rfl, ?_⟩) ?_ ?_
 rotate_left
 ·(
 intro w'
 go_simp
 with_reducible rfl
 )
 rotate_left
 ·(
 simp only [Act.put, List.setIfInBounds_toArray, List.set_cons_zero, List.set_cons_succ, i64_w, i32_w]
 rfl
 )
 refine pure_ (i := 9) (N := some 3) (v := ?_) (a' := ?_) #[true, true, true, true, true, true, true, true, true, true] rfl rfl (any_of HT_.out kr) (fun _ _ _ h => h) (Or.inl ⟨by rfl, ?_⟩) ?_ ?_
 rotate_left
 ·(
 intro w'
 go_simp
 with_reducible rfl
 )
 rotate_left
 ·(
 simp only [Act.put, List.setIfInBounds_toArray, List.set_cons_zero, List.set_cons_succ, i64_w, i32_w]
 rfl
 )
 refine done_ (done_of HT_.out kr) ?_
 try go_wp2
 (try rw [dSet])
 go_ret2
 exact ⟨sE, bI⟩
 )

/-! ### spec_clWhole: function 39 -/
def spec_clWhole.f (k : Nat) (a0_0 : Int) (a0_1 : Int) (a0_2 : Int) : Option (Bool) := (spec_clLengths.f k a0_0 a0_1 a0_2).bind fun bt245 => (if bt245.2.2 = true then (if (wrap64 (a0_1 + a0_2)) = 0 then (none) else (some ((Int.tmod (wrap64 (a0_1 * a0_2)) (wrap64 (a0_1 + a0_2))) == 0))) else (some false))
theorem spec_clWhole.mono : ∀ a0 a1 a2 k, LeO (spec_clWhole.f k a0 a1 a2) (spec_clWhole.f (k + 1) a0 a1 a2) := by
  intro a0 a1 a2 k
  unfold spec_clWhole.f
  repeat' first
      | (with_reducible exact spec_clLengths.mono _ _ _ _)
      | (with_reducible exact LeO.refl _)
      | (with_reducible exact LeO.none _)
      | (with_reducible refine LeO.ite ?_ ?_)
      | (with_reducible refine LeO.bind ?_ (fun _ => ?_))
      | exact spec_clLengths.mono _ _ _ _
      | exact LeO.none _
      | refine LeO.ite ?_ ?_
      | refine LeO.bind ?_ (fun _ => ?_)
set_option maxHeartbeats 8000000 in
set_option maxRecDepth 100000 in
theorem spec_clWhole.calls (k : Nat) (a0_0 : Int) (a0_1 : Int) (a0_2 : Int) (r : Bool) (w : World) (h : spec_clWhole.f k a0_0 a0_1 a0_2 = some r) :
    Calls Tryz.prog 39 #[.agg #[.int .i64 a0_0, .int .i64 a0_1, .int .i64 a0_2]] w fun e w' => e = .returned (.bool r) ∧ Below w.heap.size w w' := by
 have c0 := Tryz.underlying25
 have HB := Aside0.mk (Below.refl w.heap.size w)
 have H := h
 unfold spec_clWhole.f at H
 clear h
 obtain ⟨⟨a4, a5, a6⟩, A2, H⟩ := bD H
 try dsimp only at H
 by_cases c3 : a6 = true
 subst c3
 rw [if_pos rfl] at H
 by_cases c4 : (wrap64 (a0_1 + a0_2)) = 0
 rw [if_pos c4] at H
 exact absurd H (by simp)
 rw [if_neg c4] at H
 obtain ⟨c1, c2⟩ := nE c4
 obtain rfl := Option.some.inj H
 rotate_left
 replace c3 := Bool.eq_false_iff.mpr c3
 subst c3
 rw [if_neg nft] at H
 obtain rfl := Option.some.inj H
 rotate_left
 all_goals (go_enter Tryz.func39, Tryz.ntmps39)
 all_goals (go_wp2_with (first | ((with_reducible refine gate_dst (N := 1) rfl ?_); refine box_ (cs := #[.int .i64 a0_0, .int .i64 a0_1, .int .i64 a0_2]) (t := 25) fun c5 hg c8 hbox hb => ?_; have a3 := Aside0.mk (hbox); have c6 := bS HB hg; have c7 := bS HB hg; replace HB := Aside0.mk (below_step bB hb); clear hb hbox hg; obtain ⟨a7, a8, a9, b0, b1, b2⟩ := cf3 a3) | ((with_reducible refine gate_callee (f := 37) rfl ?_); refine goesL_ (some 8) rfl rfl Tryz.func37 kr rfl #[.agg #[.int .i64 a0_0, .int .i64 a0_1, .int .i64 a0_2]] rfl sM ?_; (with_reducible refine (spec_clLengths.calls k a0_0 a0_1 a0_2 a4 a5 true _ A2.out).mono ?_); rintro e b9 ⟨rfl, hb⟩; refine ⟨_, rfl, ?_⟩; replace a3 := bQ a3 hb; replace HB := Aside0.mk (below_step bB hb); (try clear hb); obtain ⟨b3, b4, b5, b6, b7, b8⟩ := cf3 a3) | ((with_reducible refine gate_callee (f := 37) rfl ?_); refine goesL_ (some 8) rfl rfl Tryz.func37 kr rfl #[.agg #[.int .i64 a0_0, .int .i64 a0_1, .int .i64 a0_2]] rfl sM ?_; (with_reducible refine (spec_clLengths.calls k a0_0 a0_1 a0_2 a4 a5 false _ A2.out).mono ?_); rintro e b9 ⟨rfl, hb⟩; refine ⟨_, rfl, ?_⟩; replace a3 := bQ a3 hb; replace HB := Aside0.mk (below_step bB hb); (try clear hb))))
 all_goals go_ret
 all_goals (exact ⟨sE, bI⟩)

/-! ### spec_IsWholeCrossing: function 11 -/
def spec_IsWholeCrossing.f (k : Nat) (a0_0 : Int) (a0_1 : Int) (a0_2 : Int) : Option (Bool × Bool) := (spec_clGood.f a0_0 a0_1 a0_2).bind fun t249 => (if t249 = true then ((spec_clWhole.f k a0_0 a0_1 a0_2).bind fun t250 => (some (t250, true))) else (some (false, false)))
theorem spec_IsWholeCrossing.mono : ∀ a0 a1 a2 k, LeO (spec_IsWholeCrossing.f k a0 a1 a2) (spec_IsWholeCrossing.f (k + 1) a0 a1 a2) := by
  intro a0 a1 a2 k
  unfold spec_IsWholeCrossing.f
  repeat' first
      | (with_reducible exact spec_clWhole.mono _ _ _ _)
      | (with_reducible exact LeO.refl _)
      | (with_reducible exact LeO.none _)
      | (with_reducible refine LeO.ite ?_ ?_)
      | (with_reducible refine LeO.bind ?_ (fun _ => ?_))
      | exact spec_clWhole.mono _ _ _ _
      | exact LeO.none _
      | refine LeO.ite ?_ ?_
      | refine LeO.bind ?_ (fun _ => ?_)
set_option maxHeartbeats 8000000 in
set_option maxRecDepth 100000 in
theorem spec_IsWholeCrossing.calls (k : Nat) (a0_0 : Int) (a0_1 : Int) (a0_2 : Int) (r1 : Bool) (r2 : Bool) (w : World) (h : spec_IsWholeCrossing.f k a0_0 a0_1 a0_2 = some (r1, r2)) :
    Calls Tryz.prog 11 #[.agg #[.int .i64 a0_0, .int .i64 a0_1, .int .i64 a0_2]] w fun e w' => e = .returned (.tuple #[.bool r1, .bool r2]) ∧ Below w.heap.size w w' := by
 have b9 := Tryz.underlying25
 have HB := Aside0.mk (Below.refl w.heap.size w)
 have H := h
 unfold spec_IsWholeCrossing.f at H
 clear h
 obtain ⟨a4, A2, H⟩ := bD H
 try dsimp only at H
 by_cases c3 : a4 = true
 subst c3
 rw [if_pos rfl] at H
 obtain ⟨a5, A4, H⟩ := bD H
 try dsimp only at H
 simp only [Option.some.injEq, Prod.mk.injEq] at H
 obtain ⟨rfl, rfl⟩ := H
 rotate_left
 replace c3 := Bool.eq_false_iff.mpr c3
 subst c3
 rw [if_neg nft] at H
 simp only [Option.some.injEq, Prod.mk.injEq] at H
 obtain ⟨rfl, rfl⟩ := H
 rotate_left
 all_goals (go_enter Tryz.func11, Tryz.ntmps11)
 all_goals (go_wp2_with (first | ((with_reducible refine gate_dst (N := 1) rfl ?_); refine box_ (cs := #[.int .i64 a0_0, .int .i64 a0_1, .int .i64 a0_2]) (t := 25) fun c0 hg c4 hbox hb => ?_; have a3 := Aside0.mk (hbox); have c1 := bS HB hg; have c2 := bS HB hg; replace HB := Aside0.mk (below_step bB hb); clear hb hbox hg; obtain ⟨a6, a7, a8, a9, b0, b1⟩ := cf3 a3) | ((with_reducible refine gate_callee (f := 34) rfl ?_); refine goesL_ (some 5) rfl rfl Tryz.func34 kr rfl #[.agg #[.int .i64 a0_0, .int .i64 a0_1, .int .i64 a0_2]] rfl sM ?_; (with_reducible refine (spec_clGood.calls a0_0 a0_1 a0_2 true _ A2.out).mono ?_); rintro e b8 ⟨rfl, hb⟩; refine ⟨_, rfl, ?_⟩; replace a3 := bQ a3 hb; replace HB := Aside0.mk (below_step bB hb); (try clear hb); obtain ⟨b2, b3, b4, b5, b6, b7⟩ := cf3 a3) | ((with_reducible refine gate_callee (f := 39) rfl ?_); refine goesL_ (some 8) rfl rfl Tryz.func39 kr rfl #[.agg #[.int .i64 a0_0, .int .i64 a0_1, .int .i64 a0_2]] rfl sM ?_; (with_reducible refine (spec_clWhole.calls k a0_0 a0_1 a0_2 a5 _ A4.out).mono ?_); rintro e c5 ⟨rfl, hb⟩; refine ⟨_, rfl, ?_⟩; replace a3 := bQ a3 hb; replace HB := Aside0.mk (below_step bB hb); (try clear hb)) | ((with_reducible refine gate_callee (f := 34) rfl ?_); refine goesL_ (some 5) rfl rfl Tryz.func34 kr rfl #[.agg #[.int .i64 a0_0, .int .i64 a0_1, .int .i64 a0_2]] rfl sM ?_; (with_reducible refine (spec_clGood.calls a0_0 a0_1 a0_2 false _ A2.out).mono ?_); rintro e b8 ⟨rfl, hb⟩; refine ⟨_, rfl, ?_⟩; replace a3 := bQ a3 hb; replace HB := Aside0.mk (below_step bB hb); (try clear hb))))
 all_goals go_ret2
 all_goals (exact ⟨sE, bI⟩)

/-! ### impl_gcd: function 60 -/
def impl_gcd.l0 : Nat → Int → Int → Option (Int)
  | 0, _, _ => none
  | k + 1, x0, x1 => if x1 = 0 then (some (mx x0 (wrap64 (-x0)))) else (impl_gcd.l0 k x1 (Int.tmod x0 x1))
def impl_gcd.f (k : Nat) (a0 : Int) (a1 : Int) : Option (Int) := impl_gcd.l0 k a0 a1
theorem impl_gcd.mono_l : ∀ k, (∀ y0 y1, LeO (impl_gcd.l0 k y0 y1) (impl_gcd.l0 (k + 1) y0 y1))
  | 0 => fun _ _ r h => by simp [impl_gcd.l0] at h
  | k + 1 => by
    have ih0 := impl_gcd.mono_l k
    · intro y0 y1
      unfold impl_gcd.l0
      repeat' first
      | (with_reducible exact ih0 _ _)
      | (with_reducible exact LeO.refl _)
      | (with_reducible exact LeO.none _)
      | (with_reducible refine LeO.ite ?_ ?_)
      | (with_reducible refine LeO.bind ?_ (fun _ => ?_))
      | exact ih0 _ _
      | exact LeO.none _
      | refine LeO.ite ?_ ?_
      | refine LeO.bind ?_ (fun _ => ?_)
theorem impl_gcd.mono : ∀ a0 a1 k, LeO (impl_gcd.f k a0 a1) (impl_gcd.f (k + 1) a0 a1) := by
  intro a0 a1 k
  have ih0 := impl_gcd.mono_l k
  unfold impl_gcd.f
  repeat' first
      | (with_reducible exact ih0 _ _)
      | (with_reducible exact LeO.refl _)
      | (with_reducible exact LeO.none _)
      | (with_reducible refine LeO.ite ?_ ?_)
      | (with_reducible refine LeO.bind ?_ (fun _ => ?_))
      | exact ih0 _ _
      | exact LeO.none _
      | refine LeO.ite ?_ ?_
      | refine LeO.bind ?_ (fun _ => ?_)
set_option maxHeartbeats 8000000 in
set_option maxRecDepth 100000 in
theorem impl_gcd.calls (k : Nat) (a0 : Int) (a1 : Int) (r : Int) (w : World) (h : impl_gcd.f k a0 a1 = some r) :
    Calls Tryz.prog 60 #[.int .i64 a0, .int .i64 a1] w fun e w' => e = .returned (.int .i64 r) ∧ Below w.heap.size w w' := by
 have HB := Aside0.mk (Below.refl w.heap.size w)
 have H := h
 unfold impl_gcd.f at H
 clear h
 have H' := Aside0.mk H
 clear H
 go_enter Tryz.func60, Tryz.ntmps60
 go_wp2
 repeat (go_quiet (fail); try go_wp2)
 go_loopg [0, 1] k (fun kq v0 v1 w' => ∃ (a3 : Int) (a4 : Int), v0 = .int .i64 a3 ∧ v1 = .int .i64 a4 ∧ Aside0 (impl_gcd.l0 kq a3 a4 = some r) ∧ Aside0 (kq ≤ k) ∧ Aside0 (Below w.heap.size w w'))
 case atStart => exact ⟨(a0), (a1), sR, sR, H', ⟨Nat.le_refl _⟩, ⟨bB⟩⟩
 case round => (
 clear H'
 obtain ⟨a3, a4, rfl, rfl, HA, HK1, HB⟩ := hrel
 cases gk with
 | zero => exact absurd HA.out (by simp [impl_gcd.l0])
 | succ k1 => (
 have H := HA.out
 clear HA
 simp only [impl_gcd.l0] at H
 by_cases c3 : a4 = 0
 ·(
 rw [if_pos c3] at H
 obtain ⟨a6, a7⟩ := yE c3
 clear c3
 obtain ⟨a8, a5⟩ : ∃ j_ : Int, (mx a3 (wrap64 (-a3))) = j_ := ⟨_, rfl⟩
 (first | rw [a5] at H | simp only [a5] at H)
 have a9 : (if a3 < (wrap64 (-a3)) then (wrap64 (-a3)) else a3) = a8 := a5
 obtain rfl := Option.some.inj H
 go_wp2
 repeat (go_quiet (fail); try go_wp2)
 go_ret
 exact ⟨by first | rfl | (simp [errW_none, errW_some] <;> rfl) | (simp only [← a5]; first | rfl | (simp [errW_none, errW_some] <;> rfl)) | (simp [*, errW_none, errW_some] <;> rfl), bI⟩
 )
 ·(
 rw [if_neg c3] at H
 obtain ⟨a6, a7⟩ := nE c3
 have H' := Aside0.mk H
 clear H
 go_wp2
 repeat (go_quiet (fail); try go_wp2)
 go_roundg k1
 case measure => have := HK1.out; omega
 case rel => exact ⟨(a4), (Int.tmod a3 a4), sR, sR, H', ⟨by have := HK1.out; omega⟩, ⟨bB⟩⟩
 )
 )
 )

/-! ### impl_fraction: function 41 -/
def impl_fraction.f (k : Nat) (a0 : Int) (a1 : Int) : Option (Int × Int × Bool) := (impl_gcd.f k a0 a1).bind fun t251 => (if t251 = 0 then (none) else (some (wrap64 (Int.tdiv a0 t251), wrap64 (Int.tdiv a1 t251), true)))
theorem impl_fraction.mono : ∀ a0 a1 k, LeO (impl_fraction.f k a0 a1) (impl_fraction.f (k + 1) a0 a1) := by
  intro a0 a1 k
  unfold impl_fraction.f
  repeat' first
      | (with_reducible exact impl_gcd.mono _ _ _)
      | (with_reducible exact LeO.refl _)
      | (with_reducible exact LeO.none _)
      | (with_reducible refine LeO.ite ?_ ?_)
      | (with_reducible refine LeO.bind ?_ (fun _ => ?_))
      | exact impl_gcd.mono _ _ _
      | exact LeO.none _
      | refine LeO.ite ?_ ?_
      | refine LeO.bind ?_ (fun _ => ?_)
set_option maxHeartbeats 8000000 in
set_option maxRecDepth 100000 in
theorem impl_fraction.calls (k : Nat) (a0 : Int) (a1 : Int) (r1 : Int) (r2 : Int) (r3 : Bool) (w : World) (h : impl_fraction.f k a0 a1 = some (r1, r2, r3)) :
    Calls Tryz.prog 41 #[.int .i64 a0, .int .i64 a1] w fun e w' => e = .returned (.tuple #[.int .i64 r1, .int .i64 r2, .bool r3]) ∧ Below w.heap.size w w' := by
 have HB := Aside0.mk (Below.refl w.heap.size w)
 have H := h
 unfold impl_fraction.f at H
 clear h
 obtain ⟨a3, A3, H⟩ := bD H
 try dsimp only at H
 by_cases c4 : a3 = 0
 ·(
 rw [if_pos c4] at H
 exact absurd H (by simp)
 )
 ·(
 rw [if_neg c4] at H
 obtain ⟨a4, a5⟩ := nE c4
 simp only [Option.some.injEq, Prod.mk.injEq] at H
 obtain ⟨rfl, rfl, rfl⟩ := H
 go_enter Tryz.func41, Tryz.ntmps41
 go_wp2_with (first | (go_at_call 60; (with_reducible refine (impl_gcd.calls k a0 a1 a3 _ A3.out).mono ?_); rintro e w5 ⟨rfl, hb⟩; replace HB := Aside0.mk (below_step bB hb); (try clear hb)))
 repeat (go_quiet (first | (go_at_call 60; (with_reducible refine (impl_gcd.calls k a0 a1 a3 _ A3.out).mono ?_); rintro e w5 ⟨rfl, hb⟩; replace HB := Aside0.mk (below_step bB hb); (try clear hb))); try go_wp2_with (first | (go_at_call 60; (with_reducible refine (impl_gcd.calls k a0 a1 a3 _ A3.out).mono ?_); rintro e w5 ⟨rfl, hb⟩; replace HB := Aside0.mk (below_step bB hb); (try clear hb))))
 go_ret3
 exact ⟨sE, bI⟩
 )

/-! ### impl_CrossHeight: function 13 -/
def impl_CrossHeight.f (k : Nat) (a0_0 : Int) (a0_1 : Int) (a0_2 : Int) : Option (Int × Int × Bool) := (impl_AreLadders.f a0_0 a0_1 a0_2).bind fun t253 => (if t253 = true then ((impl_fraction.f k (wrap64 (a0_1 * a0_2)) (wrap64 (a0_1 + a0_2))).bind fun bt254 => (some (bt254.1, bt254.2.1, bt254.2.2))) else (some (0, 0, false)))
theorem impl_CrossHeight.mono : ∀ a0 a1 a2 k, LeO (impl_CrossHeight.f k a0 a1 a2) (impl_CrossHeight.f (k + 1) a0 a1 a2) := by
  intro a0 a1 a2 k
  unfold impl_CrossHeight.f
  repeat' first
      | (with_reducible exact impl_fraction.mono _ _ _)
      | (with_reducible exact LeO.refl _)
      | (with_reducible exact LeO.none _)
      | (with_reducible refine LeO.ite ?_ ?_)
      | (with_reducible refine LeO.bind ?_ (fun _ => ?_))
      | exact impl_fraction.mono _ _ _
      | exact LeO.none _
      | refine LeO.ite ?_ ?_
      | refine LeO.bind ?_ (fun _ => ?_)
set_option maxHeartbeats 8000000 in
set_option maxRecDepth 100000 in
theorem impl_CrossHeight.calls (k : Nat) (a0_0 : Int) (a0_1 : Int) (a0_2 : Int) (r1 : Int) (r2 : Int) (r3 : Bool) (w : World) (h : impl_CrossHeight.f k a0_0 a0_1 a0_2 = some (r1, r2, r3)) :
    Calls Tryz.prog 13 #[.agg #[.int .i64 a0_0, .int .i64 a0_1, .int .i64 a0_2]] w fun e w' => e = .returned (.tuple #[.int .i64 r1, .int .i64 r2, .bool r3]) ∧ Below w.heap.size w w' := by
 have c1 := Tryz.underlying25
 have HB := Aside0.mk (Below.refl w.heap.size w)
 have H := h
 unfold impl_CrossHeight.f at H
 clear h
 obtain ⟨a4, A2, H⟩ := bD H
 try dsimp only at H
 by_cases c3 : a4 = true
 subst c3
 rw [if_pos rfl] at H
 obtain ⟨⟨a5, a6, a7⟩, A4, H⟩ := bD H
 try dsimp only at H
 simp only [Option.some.injEq, Prod.mk.injEq] at H
 obtain ⟨rfl, rfl, rfl⟩ := H
 rotate_left
 replace c3 := Bool.eq_false_iff.mpr c3
 subst c3
 rw [if_neg nft] at H
 simp only [Option.some.injEq, Prod.mk.injEq] at H
 obtain ⟨rfl, rfl, rfl⟩ := H
 rotate_left
 all_goals (go_enter Tryz.func13, Tryz.ntmps13)
 all_goals (go_wp2_with (first | ((with_reducible refine gate_dst (N := 1) rfl ?_); refine box_ (cs := #[.int .i64 a0_0, .int .i64 a0_1, .int .i64 a0_2]) (t := 25) fun c2 hg c6 hbox hb => ?_; have a3 := Aside0.mk (hbox); have c4 := bS HB hg; have c5 := bS HB hg; replace HB := Aside0.mk (below_step bB hb); clear hb hbox hg; obtain ⟨a8, a9, b0, b1, b2, b3⟩ := cf3 a3) | ((with_reducible refine gate_callee (f := 12) rfl ?_); refine goesL_ (some 6) rfl rfl Tryz.func12 kr rfl #[.agg #[.int .i64 a0_0, .int .i64 a0_1, .int .i64 a0_2]] rfl sM ?_; (with_reducible refine (impl_AreLadders.calls a0_0 a0_1 a0_2 true _ A2.out).mono ?_); rintro e c0 ⟨rfl, hb⟩; refine ⟨_, rfl, ?_⟩; replace a3 := bQ a3 hb; replace HB := Aside0.mk (below_step bB hb); (try clear hb); obtain ⟨b4, b5, b6, b7, b8, b9⟩ := cf3 a3) | ((with_reducible refine gate_callee (f := 41) rfl ?_); refine goesL_ (some 18) rfl rfl Tryz.func41 kr rfl #[.int .i64 (wrap64 (a0_1 * a0_2)), .int .i64 (wrap64 (a0_1 + a0_2))] rfl sM ?_; (with_reducible refine (impl_fraction.calls k (wrap64 (a0_1 * a0_2)) (wrap64 (a0_1 + a0_2)) a5 a6 a7 _ A4.out).mono ?_); rintro e c7 ⟨rfl, hb⟩; refine ⟨_, rfl, ?_⟩; replace a3 := bQ a3 hb; replace HB := Aside0.mk (below_step bB hb); (try clear hb)) | ((with_reducible refine gate_callee (f := 12) rfl ?_); refine goesL_ (some 6) rfl rfl Tryz.func12 kr rfl #[.agg #[.int .i64 a0_0, .int .i64 a0_1, .int .i64 a0_2]] rfl sM ?_; (with_reducible refine (impl_AreLadders.calls a0_0 a0_1 a0_2 false _ A2.out).mono ?_); rintro e c0 ⟨rfl, hb⟩; refine ⟨_, rfl, ?_⟩; replace a3 := bQ a3 hb; replace HB := Aside0.mk (below_step bB hb); (try clear hb))))
 all_goals go_ret3
 all_goals (exact ⟨sE, bI⟩)

/-! ### spec_DrawPairsFor: function 14 -/
-- (its text lies ahead)

/-! ### impl_PairsFor: function 15 -/
def impl_PairsFor.l0 : Nat → Int → List (List Int) → Int → Option ((List (List Int)) × Bool)
  | 0, _, _, _ => none
  | k + 1, x0, x4, x5 => if x5 ≤ x0 then (if x5 = 0 then (none) else (if (Int.tmod (wrap64 (x0 * x0)) x5) = 0 then (if x4.length < 5864062014805 then (impl_PairsFor.l0 k x0 (x4 ++ [(([wrap64 (x0 + x5), wrap64 (x0 + (wrap64 (Int.tdiv (wrap64 (x0 * x0)) x5)))] : List Int))]) (wrap64 (x5 + 1))) else (none)) else (impl_PairsFor.l0 k x0 x4 (wrap64 (x5 + 1))))) else (some (x4, true))
def impl_PairsFor.f (k : Nat) (a0 : Int) : Option ((List (List Int)) × Bool) := (impl_within.f a0 1 200).bind fun t257 => (if t257 = true then (impl_PairsFor.l0 k a0 (([] : List (List Int))) 1) else (some (([] : List (List Int)), false)))
theorem impl_PairsFor.mono_l : ∀ k, (∀ y0 y1 y2, LeO (impl_PairsFor.l0 k y0 y1 y2) (impl_PairsFor.l0 (k + 1) y0 y1 y2))
  | 0 => fun _ _ _ r h => by simp [impl_PairsFor.l0] at h
  | k + 1 => by
    have ih0 := impl_PairsFor.mono_l k
    · intro y0 y1 y2
      unfold impl_PairsFor.l0
      repeat' first
      | (with_reducible exact ih0 _ _ _)
      | (with_reducible exact LeO.refl _)
      | (with_reducible exact LeO.none _)
      | (with_reducible refine LeO.ite ?_ ?_)
      | (with_reducible refine LeO.bind ?_ (fun _ => ?_))
      | exact ih0 _ _ _
      | exact LeO.none _
      | refine LeO.ite ?_ ?_
      | refine LeO.bind ?_ (fun _ => ?_)
theorem impl_PairsFor.mono : ∀ a0 k, LeO (impl_PairsFor.f k a0) (impl_PairsFor.f (k + 1) a0) := by
  intro a0 k
  have ih0 := impl_PairsFor.mono_l k
  unfold impl_PairsFor.f
  repeat' first
      | (with_reducible exact ih0 _ _ _)
      | (with_reducible exact LeO.refl _)
      | (with_reducible exact LeO.none _)
      | (with_reducible refine LeO.ite ?_ ?_)
      | (with_reducible refine LeO.bind ?_ (fun _ => ?_))
      | exact ih0 _ _ _
      | exact LeO.none _
      | refine LeO.ite ?_ ?_
      | refine LeO.bind ?_ (fun _ => ?_)
set_option maxHeartbeats 8000000 in
set_option maxRecDepth 100000 in
theorem impl_PairsFor.calls (k : Nat) (a0 : Int) (r1 : List (List Int)) (r2 : Bool) (w : World) (h : impl_PairsFor.f k a0 = some (r1, r2)) :
    Calls Tryz.prog 15 #[.int .i64 a0] w fun e w' => ∃ v0_ : Value, e = .returned (.tuple #[v0_, .bool r2]) ∧ Kd.S (Kd.slice 3 (Kd.int .i64)) 51 w' w.heap.size (fun _ => True) v0_ r1 ∧ Below w.heap.size w w' := by
 have HB := Aside0.mk (Below.refl w.heap.size w)
 have H := h
 unfold impl_PairsFor.f at H
 clear h
 obtain ⟨c4, A2, H⟩ := bD H
 try dsimp only at H
 by_cases c3 : c4 = true
 ·(
 subst c3
 rw [if_pos rfl] at H
 obtain ⟨b6, a7⟩ : ∃ y_ : List (List Int), y_ = (([] : List (List Int))) := ⟨_, rfl⟩
 replace H : (impl_PairsFor.l0 k a0 b6 1) = some (r1, r2) := by first | (rw [a7]; with_reducible exact H) | (have a5 := (Option.bind_some _ _).symm.trans H; rw [a7]; with_reducible exact a5) | (have a5 := (Option.bind_some _ _).symm.trans H; with_reducible exact a5) | with_reducible exact H | (rw [a7]; exact H) | exact H
 have b4 := Aside0.mk a7
 clear a7
 have H' := Aside0.mk H
 clear H
 go_enter Tryz.func15, Tryz.ntmps15
 go_wp2_with (first | ((with_reducible refine gate_callee (f := 45) rfl ?_); refine goesL_ (some 7) rfl rfl Tryz.func45 kr rfl #[.int .i64 a0, .int .i64 1, .int .i64 200] rfl sM ?_; (with_reducible refine (impl_within.calls a0 1 200 true _ A2.out).mono ?_); rintro e w' ⟨rfl, ⟨nd, rfl⟩⟩; refine ⟨_, rfl, ?_⟩) | ((with_reducible refine gate_dst (N := 9) rfl ?_); refine Kd.S_lit (Kd.slice 3 (Kd.int .i64)) _ 51 ?hg (N := 9) ?hd (xs := ([] : List (List Int))) (inner := []) (ok := fun _ => True) (okp := fun _ => True) ?hr ?hp (fun _ hk => hk) trivial (Below.refl _ _) (Nat.le_refl _) (by simp) ?_; (case hd => rfl); (case hg => rfl); (case hr => first | (go_simp; done) | (go_simp; rfl)); (case hp => exact (Reps.none _ _)); intro d4 w4 b3 hb hg_ hnew_; clear hg_ hnew_; (first | rw [← b4.out] at b3 | (simp only [Int.reduceToNat] at b3; rw [← b4.out] at b3)); have c0 := Aside0.mk (Kd.S_lower b3 (below_size bB)); replace HB := Aside0.mk (below_step bB hb); clear hb b3))
 go_loopg [4, 5] k (fun kq v4 v5 w' => ∃ (a4 : List (List Int)) (a3 : Int), v5 = .int .i64 a3 ∧ Aside0 (impl_PairsFor.l0 kq a0 a4 a3 = some (r1, r2)) ∧ Aside0 (kq ≤ k) ∧ Aside0 (Kd.S (Kd.slice 3 (Kd.int .i64)) 51 w' w.heap.size (fun _ => True) v4 a4) ∧ Aside0 (Below w.heap.size w w'))
 case atStart => exact ⟨(b6), (1), sR, H', ⟨Nat.le_refl _⟩, ⟨oS c0⟩, ⟨bB⟩⟩
 case round => (
 clear H'
 try clear c3
 obtain ⟨a4, a3, rfl, HA, HK1, a6, HB⟩ := hrel
 cases gk with
 | zero => exact absurd HA.out (by simp [impl_PairsFor.l0])
 | succ k1 => (
 have H := HA.out
 clear HA
 simp only [impl_PairsFor.l0] at H
 by_cases c6 : a3 ≤ a0
 ·(
 rw [if_pos c6] at H
 have c5 : decide (a3 ≤ a0) = true := decide_eq_true c6
 clear c6
 by_cases c7 : a3 = 0
 ·(
 rw [if_pos c7] at H
 exact absurd H (by simp)
 )
 ·(
 rw [if_neg c7] at H
 obtain ⟨d5, d6⟩ := nE c7
 by_cases c8 : (Int.tmod (wrap64 (a0 * a0)) a3) = 0
 ·(
 rw [if_pos c8] at H
 obtain ⟨d0, d1⟩ := yE c8
 clear c8
 obtain ⟨b2, a8⟩ : ∃ y_ : List Int, y_ = (([wrap64 (a0 + a3), wrap64 (a0 + (wrap64 (Int.tdiv (wrap64 (a0 * a0)) a3)))] : List Int)) := ⟨_, rfl⟩
 replace H : (if a4.length < 5864062014805 then (impl_PairsFor.l0 k1 a0 (a4 ++ [b2]) (wrap64 (a3 + 1))) else (none)) = some (r1, r2) := by first | (rw [a8]; with_reducible exact H) | (have a5 := (Option.bind_some _ _).symm.trans H; rw [a8]; with_reducible exact a5) | (have a5 := (Option.bind_some _ _).symm.trans H; with_reducible exact a5) | with_reducible exact H | (rw [a8]; exact H) | exact H
 have b5 := Aside0.mk a8
 clear a8
 by_cases c9 : a4.length < 5864062014805
 ·(
 rw [if_pos c9] at H
 have d2 := Aside0.mk c9
 clear c9
 obtain ⟨b7, a9⟩ : ∃ y_ : List (List Int), y_ = (a4 ++ [b2]) := ⟨_, rfl⟩
 replace H : (impl_PairsFor.l0 k1 a0 b7 (wrap64 (a3 + 1))) = some (r1, r2) := by first | (rw [a9]; with_reducible exact H) | (have a5 := (Option.bind_some _ _).symm.trans H; rw [a9]; with_reducible exact a5) | (have a5 := (Option.bind_some _ _).symm.trans H; with_reducible exact a5) | with_reducible exact H | (rw [a9]; exact H) | exact H
 have c1 := Aside0.mk a9
 clear a9
 have H' := Aside0.mk H
 clear H
 go_wp2_with (first | ((with_reducible refine gate_dst (N := 32) rfl ?_); refine Kd.R_lit (Kd.int .i64) _ 3 ?hg (N := 32) ?hd (xs := ([wrap64 (a0 + a3), wrap64 (a0 + (wrap64 (Int.tdiv (wrap64 (a0 * a0)) a3)))] : List Int)) (inner := [.int .i64 (wrap64 (a0 + a3)), .int .i64 (wrap64 (a0 + (wrap64 (Int.tdiv (wrap64 (a0 * a0)) a3))))]) (ok := fun _ => True) (okp := fun _ => True) ?hr ?hp (fun _ hk => hk) trivial (Below.refl _ _) (Nat.le_refl _) (by simp) ?_; (case hd => rfl); (case hg => rfl); (case hr => first | (go_simp; done) | (go_simp; rfl) | (obtain ⟨sa_, sc_, rfl⟩ := Kd.R_slice b0.out; first | (go_simp; done) | (go_simp; rfl))); (case hp => exact (Reps.one (show Kd.M (Kd.int .i64) _ _ _ (wrap64 (a0 + a3)) [.int .i64 (wrap64 (a0 + a3))] from rfl) (Reps.one (show Kd.M (Kd.int .i64) _ _ _ (wrap64 (a0 + (wrap64 (Int.tdiv (wrap64 (a0 * a0)) a3)))) [.int .i64 (wrap64 (a0 + (wrap64 (Int.tdiv (wrap64 (a0 * a0)) a3))))] from rfl) (Reps.none _ _)))); intro d7 d9 b1 hb hg_ hnew_; clear hg_ hnew_; (first | rw [← b5.out] at b1 | (simp only [Int.reduceToNat] at b1; rw [← b5.out] at b1)); have b0 := Aside0.mk (Kd.R_lower b1 (below_size bB)); replace a6 := Aside0.mk (Kd.S_elder' (oS a6) (Kd.R_base b1) hb); replace HB := Aside0.mk (below_step bB hb); clear hb b1; obtain ⟨b8, b9, d3⟩ := Kd.R_slice b0.out; subst d3) | ((with_reducible refine gate_builtin (b := .append) (xs := #[.tmp 21, .tmp 33]) rfl ?_); at_builtin; refine Kd.S_append (Kd.slice 3 (Kd.int .i64)) (w0 := w) w.heap.size rfl (.tmp 21) (.tmp 33) 33 51 (.slice none 0 0) 24 rfl Tryz.underlying33 info51 rfl (by decide) (by omega) u4 a4 b2 [.slice b8 b2.length b9] (fun _ => True) (fun k_ => some k_ = (.slice b8 b2.length b9 : Value).ownBlock) rfl rfl ?aP (fun k_ hk_ => ((Kd.R_mono (ok' := fun k_ => ((fun _ => True)) k_ ∧ some k_ ≠ (u4 : Value).ownBlock) (Kd.R_apart' (b0.out) (Kd.S_typed a6.out) (by decide)) (fun k_ hk => ⟨trivial, hk.2⟩))).1 k_ hk_.symm) ?aF ?aO ?aB ?aS ?aL ?_; (case aP => exact Kd.M_row (Kd.R_mono (Kd.R_tight rfl (Kd.R_mono (ok' := fun k_ => ((fun _ => True)) k_ ∧ some k_ ≠ (u4 : Value).ownBlock) (Kd.R_apart' (b0.out) (Kd.S_typed a6.out) (by decide)) (fun k_ hk => ⟨trivial, hk.2⟩))) (fun _ h_ => h_))); (case aB => exact bB); (case aF => exact (fun _ _ => trivial)); (case aO => exact (by (with_reducible repeat (first | apply Kd.S_alloc | apply Kd.S_drewN | apply Kd.S_drew)); exact Kd.S_mono a6.out (fun k_ hk => ⟨trivial, fun e_ => hk.2 e_⟩))); (case aS => exact (below_size bB)); (case aL => have := d2.out; omega); intro d8 e0 ho hb hg hat; rw [← c1.out] at ho; have c2 := Aside0.mk (ho); replace HB := Aside0.mk (hb); clear a6 b0 ho hb hg hat))
 go_roundg k1
 case measure => have := HK1.out; omega
 case rel => exact ⟨(b7), (wrap64 (a3 + 1)), sR, H', ⟨by have := HK1.out; omega⟩, ⟨oS c2⟩, ⟨bB⟩⟩
 )
 ·(
 rw [if_neg c9] at H
 exact absurd H (by simp)
 )
 )
 ·(
 rw [if_neg c8] at H
 obtain ⟨d0, d1⟩ := nE c8
 have H' := Aside0.mk H
 clear H
 go_wp2
 go_roundg k1
 case measure => have := HK1.out; omega
 case rel => exact ⟨(a4), (wrap64 (a3 + 1)), sR, H', ⟨by have := HK1.out; omega⟩, ⟨oS a6⟩, ⟨bB⟩⟩
 )
 )
 )
 ·(
 rw [if_neg c6] at H
 have c5 : decide (a3 ≤ a0) = false := decide_eq_false c6
 clear c6
 simp only [Option.some.injEq, Prod.mk.injEq] at H
 obtain ⟨rfl, rfl⟩ := H
 go_wp2
 go_ret2
 exact ⟨_, sE, by (with_reducible repeat (first | apply Kd.S_alloc | apply Kd.S_drewN | apply Kd.S_drew)); exact a6.out, bI⟩
 )
 )
 )
 )
 ·(
 replace c3 := Bool.eq_false_iff.mpr c3
 subst c3
 rw [if_neg nft] at H
 simp only [Option.some.injEq, Prod.mk.injEq] at H
 obtain ⟨rfl, rfl⟩ := H
 go_enter Tryz.func15, Tryz.ntmps15
 go_wp2_with (first | ((with_reducible refine gate_callee (f := 45) rfl ?_); refine goesL_ (some 7) rfl rfl Tryz.func45 kr rfl #[.int .i64 a0, .int .i64 1, .int .i64 200] rfl sM ?_; (with_reducible refine (impl_within.calls a0 1 200 false _ A2.out).mono ?_); rintro e w' ⟨rfl, ⟨nd, rfl⟩⟩; refine ⟨_, rfl, ?_⟩))
 go_ret2
 exact ⟨_, sE, by first | exact Kd.S_nil _ _ _ _ _ | exact Kd.N_nil _ _ _ _ _ | exact Kd.V_nil _ _ _ _ _ | exact Kd.Q_nil _ _ _ _ _ | exact Kd.R_nil _ _ _ _ _, bI⟩
 )

/-! ### spec_clPairs: function 47 -/
def spec_clPairs.l0 : Nat → Int → List (List Int) → Int → Option ((List (List Int)))
  | 0, _, _, _ => none
  | k + 1, x0, x3, x4 => if x4 ≤ x0 then (if x4 = 0 then (none) else (if (Int.tmod (wrap64 (x0 * x0)) x4) = 0 then (if x3.length < 5864062014805 then (spec_clPairs.l0 k x0 (x3 ++ [(([wrap64 (x0 + x4), wrap64 (x0 + (wrap64 (Int.tdiv (wrap64 (x0 * x0)) x4)))] : List Int))]) (wrap64 (x4 + 1))) else (none)) else (spec_clPairs.l0 k x0 x3 (wrap64 (x4 + 1))))) else (some x3)
def spec_clPairs.f (k : Nat) (a0 : Int) : Option ((List (List Int))) := spec_clPairs.l0 k a0 ([] : List (List Int)) 1
theorem spec_clPairs.mono_l : ∀ k, (∀ y0 y1 y2, LeO (spec_clPairs.l0 k y0 y1 y2) (spec_clPairs.l0 (k + 1) y0 y1 y2))
  | 0 => fun _ _ _ r h => by simp [spec_clPairs.l0] at h
  | k + 1 => by
    have ih0 := spec_clPairs.mono_l k
    · intro y0 y1 y2
      unfold spec_clPairs.l0
      repeat' first
      | (with_reducible exact ih0 _ _ _)
      | (with_reducible exact LeO.refl _)
      | (with_reducible exact LeO.none _)
      | (with_reducible refine LeO.ite ?_ ?_)
      | (with_reducible refine LeO.bind ?_ (fun _ => ?_))
      | exact ih0 _ _ _
      | exact LeO.none _
      | refine LeO.ite ?_ ?_
      | refine LeO.bind ?_ (fun _ => ?_)
theorem spec_clPairs.mono : ∀ a0 k, LeO (spec_clPairs.f k a0) (spec_clPairs.f (k + 1) a0) := by
  intro a0 k
  have ih0 := spec_clPairs.mono_l k
  unfold spec_clPairs.f
  repeat' first
      | (with_reducible exact ih0 _ _ _)
      | (with_reducible exact LeO.refl _)
      | (with_reducible exact LeO.none _)
      | (with_reducible refine LeO.ite ?_ ?_)
      | (with_reducible refine LeO.bind ?_ (fun _ => ?_))
      | exact ih0 _ _ _
      | exact LeO.none _
      | refine LeO.ite ?_ ?_
      | refine LeO.bind ?_ (fun _ => ?_)
set_option maxHeartbeats 8000000 in
set_option maxRecDepth 100000 in
theorem spec_clPairs.calls (k : Nat) (a0 : Int) (r : List (List Int)) (w : World) (h : spec_clPairs.f k a0 = some r) :
    Calls Tryz.prog 47 #[.int .i64 a0] w fun e w' => ∃ v0_ : Value, e = .returned (v0_) ∧ Kd.S (Kd.slice 3 (Kd.int .i64)) 51 w' w.heap.size (fun _ => True) v0_ r ∧ Below w.heap.size w w' := by
 have HB := Aside0.mk (Below.refl w.heap.size w)
 have H := h
 unfold spec_clPairs.f at H
 clear h
 have H' := Aside0.mk H
 clear H
 go_enter Tryz.func47, Tryz.ntmps47
 go_wp2
 go_loopg [3, 4] k (fun kq v3 v4 w' => ∃ (a4 : List (List Int)) (a3 : Int), v4 = .int .i64 a3 ∧ Aside0 (spec_clPairs.l0 kq a0 a4 a3 = some r) ∧ Aside0 (kq ≤ k) ∧ Aside0 (Kd.S (Kd.slice 3 (Kd.int .i64)) 51 w' w.heap.size (fun _ => True) v3 a4) ∧ Aside0 (Below w.heap.size w w'))
 case atStart => exact ⟨(([] : List (List Int))), (1), sR, H', ⟨Nat.le_refl _⟩, ⟨by first | exact Kd.S_nil _ _ _ _ _ | exact Kd.N_nil _ _ _ _ _ | exact Kd.V_nil _ _ _ _ _ | exact Kd.Q_nil _ _ _ _ _ | exact Kd.R_nil _ _ _ _ _⟩, ⟨bB⟩⟩
 case round => (
 clear H'
 obtain ⟨a4, a3, rfl, HA, HK1, a5, HB⟩ := hrel
 cases gk with
 | zero => exact absurd HA.out (by simp [spec_clPairs.l0])
 | succ k1 => (
 have H := HA.out
 clear HA
 simp only [spec_clPairs.l0] at H
 by_cases c2 : a3 ≤ a0
 ·(
 rw [if_pos c2] at H
 have b8 : decide (a3 ≤ a0) = true := decide_eq_true c2
 clear c2
 by_cases c3 : a3 = 0
 ·(
 rw [if_pos c3] at H
 exact absurd H (by simp)
 )
 ·(
 rw [if_neg c3] at H
 obtain ⟨c7, c8⟩ := nE c3
 by_cases c4 : (Int.tmod (wrap64 (a0 * a0)) a3) = 0
 ·(
 rw [if_pos c4] at H
 obtain ⟨b9, c0⟩ := yE c4
 clear c4
 obtain ⟨a9, a6⟩ : ∃ y_ : List Int, y_ = (([wrap64 (a0 + a3), wrap64 (a0 + (wrap64 (Int.tdiv (wrap64 (a0 * a0)) a3)))] : List Int)) := ⟨_, rfl⟩
 replace H : (if a4.length < 5864062014805 then (spec_clPairs.l0 k1 a0 (a4 ++ [a9]) (wrap64 (a3 + 1))) else (none)) = some r := by first | (rw [a6]; with_reducible exact H) | (have b0 := (Option.bind_some _ _).symm.trans H; rw [a6]; with_reducible exact b0) | (have b0 := (Option.bind_some _ _).symm.trans H; with_reducible exact b0) | with_reducible exact H | (rw [a6]; exact H) | exact H
 have b2 := Aside0.mk a6
 clear a6
 by_cases c5 : a4.length < 5864062014805
 ·(
 rw [if_pos c5] at H
 have c1 := Aside0.mk c5
 clear c5
 obtain ⟨b3, a7⟩ : ∃ y_ : List (List Int), y_ = (a4 ++ [a9]) := ⟨_, rfl⟩
 replace H : (spec_clPairs.l0 k1 a0 b3 (wrap64 (a3 + 1))) = some r := by first | (rw [a7]; with_reducible exact H) | (have b0 := (Option.bind_some _ _).symm.trans H; rw [a7]; with_reducible exact b0) | (have b0 := (Option.bind_some _ _).symm.trans H; with_reducible exact b0) | with_reducible exact H | (rw [a7]; exact H) | exact H
 have b4 := Aside0.mk a7
 clear a7
 have H' := Aside0.mk H
 clear H
 go_wp2_with (first | ((with_reducible refine gate_dst (N := 27) rfl ?_); refine Kd.R_lit (Kd.int .i64) _ 3 ?hg (N := 27) ?hd (xs := ([wrap64 (a0 + a3), wrap64 (a0 + (wrap64 (Int.tdiv (wrap64 (a0 * a0)) a3)))] : List Int)) (inner := [.int .i64 (wrap64 (a0 + a3)), .int .i64 (wrap64 (a0 + (wrap64 (Int.tdiv (wrap64 (a0 * a0)) a3))))]) (ok := fun _ => True) (okp := fun _ => True) ?hr ?hp (fun _ hk => hk) trivial (Below.refl _ _) (Nat.le_refl _) (by simp) ?_; (case hd => rfl); (case hg => rfl); (case hr => first | (go_simp; done) | (go_simp; rfl) | (obtain ⟨sa_, sc_, rfl⟩ := Kd.R_slice a8.out; first | (go_simp; done) | (go_simp; rfl))); (case hp => exact (Reps.one (show Kd.M (Kd.int .i64) _ _ _ (wrap64 (a0 + a3)) [.int .i64 (wrap64 (a0 + a3))] from rfl) (Reps.one (show Kd.M (Kd.int .i64) _ _ _ (wrap64 (a0 + (wrap64 (Int.tdiv (wrap64 (a0 * a0)) a3)))) [.int .i64 (wrap64 (a0 + (wrap64 (Int.tdiv (wrap64 (a0 * a0)) a3))))] from rfl) (Reps.none _ _)))); intro c9 w6 b1 hb hg_ hnew_; clear hg_ hnew_; (first | rw [← b2.out] at b1 | (simp only [Int.reduceToNat] at b1; rw [← b2.out] at b1)); have a8 := Aside0.mk (Kd.R_lower b1 (below_size bB)); replace a5 := Aside0.mk (Kd.S_elder' (oS a5) (Kd.R_base b1) hb); replace HB := Aside0.mk (below_step bB hb); clear hb b1; obtain ⟨b6, b7, c6⟩ := Kd.R_slice a8.out; subst c6) | ((with_reducible refine gate_builtin (b := .append) (xs := #[.tmp 16, .tmp 28]) rfl ?_); at_builtin; refine Kd.S_append (Kd.slice 3 (Kd.int .i64)) (w0 := w) w.heap.size rfl (.tmp 16) (.tmp 28) 33 51 (.slice none 0 0) 24 rfl Tryz.underlying33 info51 rfl (by decide) (by omega) u3 a4 a9 [.slice b6 a9.length b7] (fun _ => True) (fun k_ => some k_ = (.slice b6 a9.length b7 : Value).ownBlock) rfl rfl ?aP (fun k_ hk_ => ((Kd.R_mono (ok' := fun k_ => ((fun _ => True)) k_ ∧ some k_ ≠ (u3 : Value).ownBlock) (Kd.R_apart' (a8.out) (Kd.S_typed a5.out) (by decide)) (fun k_ hk => ⟨trivial, hk.2⟩))).1 k_ hk_.symm) ?aF ?aO ?aB ?aS ?aL ?_; (case aP => exact Kd.M_row (Kd.R_mono (Kd.R_tight rfl (Kd.R_mono (ok' := fun k_ => ((fun _ => True)) k_ ∧ some k_ ≠ (u3 : Value).ownBlock) (Kd.R_apart' (a8.out) (Kd.S_typed a5.out) (by decide)) (fun k_ hk => ⟨trivial, hk.2⟩))) (fun _ h_ => h_))); (case aB => exact bB); (case aF => exact (fun _ _ => trivial)); (case aO => exact (by (with_reducible repeat (first | apply Kd.S_alloc | apply Kd.S_drewN | apply Kd.S_drew)); exact Kd.S_mono a5.out (fun k_ hk => ⟨trivial, fun e_ => hk.2 e_⟩))); (case aS => exact (below_size bB)); (case aL => have := c1.out; omega); intro d0 w8 ho hb hg hat; rw [← b4.out] at ho; have b5 := Aside0.mk (ho); replace HB := Aside0.mk (hb); clear a5 a8 ho hb hg hat))
 go_roundg k1
 case measure => have := HK1.out; omega
 case rel => exact ⟨(b3), (wrap64 (a3 + 1)), sR, H', ⟨by have := HK1.out; omega⟩, ⟨oS b5⟩, ⟨bB⟩⟩
 )
 ·(
 rw [if_neg c5] at H
 exact absurd H (by simp)
 )
 )
 ·(
 rw [if_neg c4] at H
 obtain ⟨b9, c0⟩ := nE c4
 have H' := Aside0.mk H
 clear H
 go_wp2
 go_roundg k1
 case measure => have := HK1.out; omega
 case rel => exact ⟨(a4), (wrap64 (a3 + 1)), sR, H', ⟨by have := HK1.out; omega⟩, ⟨oS a5⟩, ⟨bB⟩⟩
 )
 )
 )
 ·(
 rw [if_neg c2] at H
 have b8 : decide (a3 ≤ a0) = false := decide_eq_false c2
 clear c2
 obtain rfl := Option.some.inj H
 go_wp2
 go_ret
 exact ⟨_, sE, by (with_reducible repeat (first | apply Kd.S_alloc | apply Kd.S_drewN | apply Kd.S_drew)); exact a5.out, bI⟩
 )
 )
 )

end Go.Proofs.YtcfknhmdhglmfaaGreatDoor.PFnLaddersWhole
