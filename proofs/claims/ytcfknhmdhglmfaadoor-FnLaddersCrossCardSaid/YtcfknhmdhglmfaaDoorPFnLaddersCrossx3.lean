-- Written by xprint.py, a program of this session, for this seat; Lean checks it.
import Derived.Test.YtcfknhmdhglmfaaDoorVM
import Derived.Test.YtcfknhmdhglmfaaDoorPFnLaddersCrossx0
import Derived.Test.YtcfknhmdhglmfaaDoorPFnLaddersCrossx2
namespace Go.Proofs.YtcfknhmdhglmfaaDoor.PFnLaddersCross
open Go.Proofs.YtcfknhmdhglmfaaDoorV Go.RowKit Go.Proofs.YtcfknhmdhglmfaaDoorW.PrintWords Go.Proofs.YtcfknhmdhglmfaaDoorW.PrintLast Go.Proofs.YtcfknhmdhglmfaaDoorW.PrintMore
attribute [local go_sem] max2_int min2_int max_two min_two max_three min_three max_four min_four   -- for this text's walks alone
set_option linter.unusedVariables false
set_option linter.unusedSimpArgs false

/-! ### impl_AreLadders: function 20 -/
def impl_AreLadders.f (a0_0 : Int) (a0_1 : Int) (a0_2 : Int) : Option (Bool) := (impl_isWide.f a0_0).bind fun t177 => (if t177 = true then ((impl_isWide.f a0_1).bind fun t178 => (if t178 = true then ((impl_isWide.f a0_2).bind fun t179 => (some t179)) else (some false))) else (some false))
set_option maxHeartbeats 8000000 in
set_option maxRecDepth 100000 in
theorem impl_AreLadders.calls (a0_0 : Int) (a0_1 : Int) (a0_2 : Int) (r : Bool) (w : World) (h : impl_AreLadders.f a0_0 a0_1 a0_2 = some r) :
    Calls Tryd.prog 20 #[.agg #[.int .i64 a0_0, .int .i64 a0_1, .int .i64 a0_2]] w fun e w' => e = .returned (.bool r) ∧ Below w.heap.size w w' := by
 have b3 := Tryd.underlying25
 have HB := Aside0.mk (Below.refl w.heap.size w)
 have H := h
 unfold impl_AreLadders.f at H
 clear h
 obtain ⟨a3, A2, H⟩ := bD H
 try dsimp only at H
 by_cases c3 : a3 = true
 subst c3
 rw [if_pos rfl] at H
 obtain ⟨a4, A4, H⟩ := bD H
 try dsimp only at H
 by_cases c5 : a4 = true
 subst c5
 rw [if_pos rfl] at H
 obtain ⟨a5, A6, H⟩ := bD H
 try dsimp only at H
 obtain rfl := Option.some.inj H
 rotate_left
 replace c5 := Bool.eq_false_iff.mpr c5
 subst c5
 rw [if_neg nft] at H
 obtain rfl := Option.some.inj H
 rotate_left
 replace c3 := Bool.eq_false_iff.mpr c3
 subst c3
 rw [if_neg nft] at H
 obtain rfl := Option.some.inj H
 rotate_left
 all_goals (go_enter Tryd.func20, Tryd.ntmps20)
 all_goals (go_wp2_with (first | ((with_reducible refine gate_dst (N := 1) rfl ?_); refine box_ (cs := #[.int .i64 a0_0, .int .i64 a0_1, .int .i64 a0_2]) (t := 25) fun b4 hg b7 hbox hb => ?_; have a6 := Aside0.mk (hbox); have b5 := bS HB hg; have b6 := bS HB hg; replace HB := Aside0.mk (below_step bB hb); clear hb hbox hg; obtain ⟨a7, a8, a9, b0, b1, b2⟩ := cf3 a6) | ((with_reducible refine gate_callee (f := 43) rfl ?_); refine goesL_ (some 5) rfl rfl Tryd.func43 kr rfl #[.int .i64 a0_0] rfl sM ?_; (with_reducible refine (impl_isWide.calls a0_0 true _ A2.out).mono ?_); rintro e w' ⟨rfl, ⟨nd, rfl⟩⟩; refine ⟨_, rfl, ?_⟩) | (go_at_call 43; (with_reducible refine (impl_isWide.calls a0_1 true _ A4.out).mono ?_); rintro e w' ⟨rfl, ⟨nd, rfl⟩⟩) | (go_at_call 43; (with_reducible refine (impl_isWide.calls a0_2 a5 _ A6.out).mono ?_); rintro e w' ⟨rfl, ⟨nd, rfl⟩⟩) | (go_at_call 43; (with_reducible refine (impl_isWide.calls a0_1 false _ A4.out).mono ?_); rintro e w' ⟨rfl, ⟨nd, rfl⟩⟩) | ((with_reducible refine gate_callee (f := 43) rfl ?_); refine goesL_ (some 5) rfl rfl Tryd.func43 kr rfl #[.int .i64 a0_0] rfl sM ?_; (with_reducible refine (impl_isWide.calls a0_0 false _ A2.out).mono ?_); rintro e w' ⟨rfl, ⟨nd, rfl⟩⟩; refine ⟨_, rfl, ?_⟩)))
 all_goals go_ret
 all_goals (exact ⟨sE, bI⟩)

/-! ### impl_gcd: function 57 -/
def impl_gcd.l0 : Nat → Int → Int → Option (Int)
  | 0, _, _ => none
  | k + 1, x0, x1 => if x1 = 0 then (some (mx x0 (wrap64 (-x0)))) else (impl_gcd.l0 k x1 (Int.tmod x0 x1))
def impl_gcd.f (k : Nat) (a0 : Int) (a1 : Int) : Option (Int) := impl_gcd.l0 k a0 a1
theorem impl_gcd.mono_l : ∀ k, (∀ y0 y1, LeO (impl_gcd.l0 k y0 y1) (impl_gcd.l0 (k + 1) y0 y1))
  | 0 => fun _ _ r h => by simp [impl_gcd.l0] at h
  | k + 1 => by
    have ih0 := impl_gcd.mono_l k
    · intro y0 y1
      unfold impl_gcd.l0
      repeat' first
      | (with_reducible exact ih0 _ _)
      | (with_reducible exact LeO.refl _)
      | (with_reducible exact LeO.none _)
      | (with_reducible refine LeO.ite ?_ ?_)
      | (with_reducible refine LeO.bind ?_ (fun _ => ?_))
      | exact ih0 _ _
      | exact LeO.none _
      | refine LeO.ite ?_ ?_
      | refine LeO.bind ?_ (fun _ => ?_)
theorem impl_gcd.mono : ∀ a0 a1 k, LeO (impl_gcd.f k a0 a1) (impl_gcd.f (k + 1) a0 a1) := by
  intro a0 a1 k
  have ih0 := impl_gcd.mono_l k
  unfold impl_gcd.f
  repeat' first
      | (with_reducible exact ih0 _ _)
      | (with_reducible exact LeO.refl _)
      | (with_reducible exact LeO.none _)
      | (with_reducible refine LeO.ite ?_ ?_)
      | (with_reducible refine LeO.bind ?_ (fun _ => ?_))
      | exact ih0 _ _
      | exact LeO.none _
      | refine LeO.ite ?_ ?_
      | refine LeO.bind ?_ (fun _ => ?_)
set_option maxHeartbeats 8000000 in
set_option maxRecDepth 100000 in
theorem impl_gcd.calls (k : Nat) (a0 : Int) (a1 : Int) (r : Int) (w : World) (h : impl_gcd.f k a0 a1 = some r) :
    Calls Tryd.prog 57 #[.int .i64 a0, .int .i64 a1] w fun e w' => e = .returned (.int .i64 r) ∧ Below w.heap.size w w' := by
 have HB := Aside0.mk (Below.refl w.heap.size w)
 have H := h
 unfold impl_gcd.f at H
 clear h
 have H' := Aside0.mk H
 clear H
 go_enter Tryd.func57, Tryd.ntmps57
 go_wp2
 repeat (go_quiet (fail); try go_wp2)
 go_loopg [0, 1] k (fun kq v0 v1 w' => ∃ (a3 : Int) (a4 : Int), v0 = .int .i64 a3 ∧ v1 = .int .i64 a4 ∧ Aside0 (impl_gcd.l0 kq a3 a4 = some r) ∧ Aside0 (kq ≤ k) ∧ Aside0 (Below w.heap.size w w'))
 case atStart => exact ⟨(a0), (a1), sR, sR, H', ⟨Nat.le_refl _⟩, ⟨bB⟩⟩
 case round => (
 clear H'
 obtain ⟨a3, a4, rfl, rfl, HA, HK1, HB⟩ := hrel
 cases gk with
 | zero => exact absurd HA.out (by simp [impl_gcd.l0])
 | succ k1 => (
 have H := HA.out
 clear HA
 simp only [impl_gcd.l0] at H
 by_cases c3 : a4 = 0
 ·(
 rw [if_pos c3] at H
 obtain ⟨a6, a7⟩ := yE c3
 clear c3
 obtain ⟨a8, a5⟩ : ∃ j_ : Int, (mx a3 (wrap64 (-a3))) = j_ := ⟨_, rfl⟩
 (first | rw [a5] at H | simp only [a5] at H)
 have a9 : (if a3 < (wrap64 (-a3)) then (wrap64 (-a3)) else a3) = a8 := a5
 obtain rfl := Option.some.inj H
 go_wp2
 repeat (go_quiet (fail); try go_wp2)
 go_ret
 exact ⟨by first | rfl | (simp [errW_none, errW_some] <;> rfl) | (simp only [← a5]; first | rfl | (simp [errW_none, errW_some] <;> rfl)) | (simp [*, errW_none, errW_some] <;> rfl), bI⟩
 )
 ·(
 rw [if_neg c3] at H
 obtain ⟨a6, a7⟩ := nE c3
 have H' := Aside0.mk H
 clear H
 go_wp2
 repeat (go_quiet (fail); try go_wp2)
 go_roundg k1
 case measure => have := HK1.out; omega
 case rel => exact ⟨(a4), (Int.tmod a3 a4), sR, sR, H', ⟨by have := HK1.out; omega⟩, ⟨bB⟩⟩
 )
 )
 )

/-! ### impl_fraction: function 37 -/
def impl_fraction.f (k : Nat) (a0 : Int) (a1 : Int) : Option (Int × Int × Bool) := (impl_gcd.f k a0 a1).bind fun t180 => (if t180 = 0 then (none) else (some (wrap64 (Int.tdiv a0 t180), wrap64 (Int.tdiv a1 t180), true)))
theorem impl_fraction.mono : ∀ a0 a1 k, LeO (impl_fraction.f k a0 a1) (impl_fraction.f (k + 1) a0 a1) := by
  intro a0 a1 k
  unfold impl_fraction.f
  repeat' first
      | (with_reducible exact impl_gcd.mono _ _ _)
      | (with_reducible exact LeO.refl _)
      | (with_reducible exact LeO.none _)
      | (with_reducible refine LeO.ite ?_ ?_)
      | (with_reducible refine LeO.bind ?_ (fun _ => ?_))
      | exact impl_gcd.mono _ _ _
      | exact LeO.none _
      | refine LeO.ite ?_ ?_
      | refine LeO.bind ?_ (fun _ => ?_)
set_option maxHeartbeats 8000000 in
set_option maxRecDepth 100000 in
theorem impl_fraction.calls (k : Nat) (a0 : Int) (a1 : Int) (r1 : Int) (r2 : Int) (r3 : Bool) (w : World) (h : impl_fraction.f k a0 a1 = some (r1, r2, r3)) :
    Calls Tryd.prog 37 #[.int .i64 a0, .int .i64 a1] w fun e w' => e = .returned (.tuple #[.int .i64 r1, .int .i64 r2, .bool r3]) ∧ Below w.heap.size w w' := by
 have HB := Aside0.mk (Below.refl w.heap.size w)
 have H := h
 unfold impl_fraction.f at H
 clear h
 obtain ⟨a3, A3, H⟩ := bD H
 try dsimp only at H
 by_cases c4 : a3 = 0
 ·(
 rw [if_pos c4] at H
 exact absurd H (by simp)
 )
 ·(
 rw [if_neg c4] at H
 obtain ⟨a4, a5⟩ := nE c4
 simp only [Option.some.injEq, Prod.mk.injEq] at H
 obtain ⟨rfl, rfl, rfl⟩ := H
 go_enter Tryd.func37, Tryd.ntmps37
 go_wp2_with (first | (go_at_call 57; (with_reducible refine (impl_gcd.calls k a0 a1 a3 _ A3.out).mono ?_); rintro e w5 ⟨rfl, hb⟩; replace HB := Aside0.mk (below_step bB hb); (try clear hb)))
 repeat (go_quiet (first | (go_at_call 57; (with_reducible refine (impl_gcd.calls k a0 a1 a3 _ A3.out).mono ?_); rintro e w5 ⟨rfl, hb⟩; replace HB := Aside0.mk (below_step bB hb); (try clear hb))); try go_wp2_with (first | (go_at_call 57; (with_reducible refine (impl_gcd.calls k a0 a1 a3 _ A3.out).mono ?_); rintro e w5 ⟨rfl, hb⟩; replace HB := Aside0.mk (below_step bB hb); (try clear hb))))
 go_ret3
 exact ⟨sE, bI⟩
 )

/-! ### impl_CrossHeight: function 6 -/
def impl_CrossHeight.f (k : Nat) (a0_0 : Int) (a0_1 : Int) (a0_2 : Int) : Option (Int × Int × Bool) := (impl_AreLadders.f a0_0 a0_1 a0_2).bind fun t182 => (if t182 = true then ((impl_fraction.f k (wrap64 (a0_1 * a0_2)) (wrap64 (a0_1 + a0_2))).bind fun bt183 => (some (bt183.1, bt183.2.1, bt183.2.2))) else (some (0, 0, false)))
theorem impl_CrossHeight.mono : ∀ a0 a1 a2 k, LeO (impl_CrossHeight.f k a0 a1 a2) (impl_CrossHeight.f (k + 1) a0 a1 a2) := by
  intro a0 a1 a2 k
  unfold impl_CrossHeight.f
  repeat' first
      | (with_reducible exact impl_fraction.mono _ _ _)
      | (with_reducible exact LeO.refl _)
      | (with_reducible exact LeO.none _)
      | (with_reducible refine LeO.ite ?_ ?_)
      | (with_reducible refine LeO.bind ?_ (fun _ => ?_))
      | exact impl_fraction.mono _ _ _
      | exact LeO.none _
      | refine LeO.ite ?_ ?_
      | refine LeO.bind ?_ (fun _ => ?_)
set_option maxHeartbeats 8000000 in
set_option maxRecDepth 100000 in
theorem impl_CrossHeight.calls (k : Nat) (a0_0 : Int) (a0_1 : Int) (a0_2 : Int) (r1 : Int) (r2 : Int) (r3 : Bool) (w : World) (h : impl_CrossHeight.f k a0_0 a0_1 a0_2 = some (r1, r2, r3)) :
    Calls Tryd.prog 6 #[.agg #[.int .i64 a0_0, .int .i64 a0_1, .int .i64 a0_2]] w fun e w' => e = .returned (.tuple #[.int .i64 r1, .int .i64 r2, .bool r3]) ∧ Below w.heap.size w w' := by
 have c1 := Tryd.underlying25
 have HB := Aside0.mk (Below.refl w.heap.size w)
 have H := h
 unfold impl_CrossHeight.f at H
 clear h
 obtain ⟨a4, A2, H⟩ := bD H
 try dsimp only at H
 by_cases c3 : a4 = true
 subst c3
 rw [if_pos rfl] at H
 obtain ⟨⟨a5, a6, a7⟩, A4, H⟩ := bD H
 try dsimp only at H
 simp only [Option.some.injEq, Prod.mk.injEq] at H
 obtain ⟨rfl, rfl, rfl⟩ := H
 rotate_left
 replace c3 := Bool.eq_false_iff.mpr c3
 subst c3
 rw [if_neg nft] at H
 simp only [Option.some.injEq, Prod.mk.injEq] at H
 obtain ⟨rfl, rfl, rfl⟩ := H
 rotate_left
 all_goals (go_enter Tryd.func6, Tryd.ntmps6)
 all_goals (go_wp2_with (first | ((with_reducible refine gate_dst (N := 1) rfl ?_); refine box_ (cs := #[.int .i64 a0_0, .int .i64 a0_1, .int .i64 a0_2]) (t := 25) fun c2 hg c6 hbox hb => ?_; have a3 := Aside0.mk (hbox); have c4 := bS HB hg; have c5 := bS HB hg; replace HB := Aside0.mk (below_step bB hb); clear hb hbox hg; obtain ⟨a8, a9, b0, b1, b2, b3⟩ := cf3 a3) | ((with_reducible refine gate_callee (f := 20) rfl ?_); refine goesL_ (some 6) rfl rfl Tryd.func20 kr rfl #[.agg #[.int .i64 a0_0, .int .i64 a0_1, .int .i64 a0_2]] rfl sM ?_; (with_reducible refine (impl_AreLadders.calls a0_0 a0_1 a0_2 true _ A2.out).mono ?_); rintro e c0 ⟨rfl, hb⟩; refine ⟨_, rfl, ?_⟩; replace a3 := bQ a3 hb; replace HB := Aside0.mk (below_step bB hb); (try clear hb); obtain ⟨b4, b5, b6, b7, b8, b9⟩ := cf3 a3) | ((with_reducible refine gate_callee (f := 37) rfl ?_); refine goesL_ (some 18) rfl rfl Tryd.func37 kr rfl #[.int .i64 (wrap64 (a0_1 * a0_2)), .int .i64 (wrap64 (a0_1 + a0_2))] rfl sM ?_; (with_reducible refine (impl_fraction.calls k (wrap64 (a0_1 * a0_2)) (wrap64 (a0_1 + a0_2)) a5 a6 a7 _ A4.out).mono ?_); rintro e c7 ⟨rfl, hb⟩; refine ⟨_, rfl, ?_⟩; replace a3 := bQ a3 hb; replace HB := Aside0.mk (below_step bB hb); (try clear hb)) | ((with_reducible refine gate_callee (f := 20) rfl ?_); refine goesL_ (some 6) rfl rfl Tryd.func20 kr rfl #[.agg #[.int .i64 a0_0, .int .i64 a0_1, .int .i64 a0_2]] rfl sM ?_; (with_reducible refine (impl_AreLadders.calls a0_0 a0_1 a0_2 false _ A2.out).mono ?_); rintro e c0 ⟨rfl, hb⟩; refine ⟨_, rfl, ?_⟩; replace a3 := bQ a3 hb; replace HB := Aside0.mk (below_step bB hb); (try clear hb))))
 all_goals go_ret3
 all_goals (exact ⟨sE, bI⟩)

/-! ### spec_l1In: function 56 -/
def spec_l1In.f (a0 : Int) (a1 : Int) (a2 : Int) : Option (Bool) := if a0 ≥ a1 then (some (decide (a0 ≤ a2))) else (some false)
set_option maxHeartbeats 8000000 in
set_option maxRecDepth 100000 in
theorem spec_l1In.calls (a0 : Int) (a1 : Int) (a2 : Int) (r : Bool) (w : World) (h : spec_l1In.f a0 a1 a2 = some r) :
    Calls Tryd.prog 56 #[.int .i64 a0, .int .i64 a1, .int .i64 a2] w fun e w' => e = .returned (.bool r) ∧ Drawn0 w w' := by
 have H := h
 unfold spec_l1In.f at H
 clear h
 by_cases c4 : a0 ≥ a1
 rw [if_pos c4] at H
 have a3 : decide (a1 ≤ a0) = true := decide_eq_true c4
 clear c4
 obtain rfl := Option.some.inj H
 rotate_left
 rw [if_neg c4] at H
 have a3 : decide (a1 ≤ a0) = false := decide_eq_false c4
 clear c4
 obtain rfl := Option.some.inj H
 rotate_left
 all_goals (go_enter Tryd.func56, Tryd.ntmps56)
 all_goals go_wp2
 all_goals go_ret
 all_goals (exact ⟨by first | rfl | (simp; done) | (simp [*]; done), by repeat (first | exact Drawn0.refl _ | apply Drawn0.step)⟩)

/-! ### spec_clGood: function 38 -/
def spec_clGood.f (a0_0 : Int) (a0_1 : Int) (a0_2 : Int) : Option (Bool) := (spec_l1In.f a0_0 1 1000).bind fun t187 => (if t187 = true then ((spec_l1In.f a0_1 1 1000).bind fun t188 => (if t188 = true then ((spec_l1In.f a0_2 1 1000).bind fun t189 => (some t189)) else (some false))) else (some false))
set_option maxHeartbeats 8000000 in
set_option maxRecDepth 100000 in
theorem spec_clGood.calls (a0_0 : Int) (a0_1 : Int) (a0_2 : Int) (r : Bool) (w : World) (h : spec_clGood.f a0_0 a0_1 a0_2 = some r) :
    Calls Tryd.prog 38 #[.agg #[.int .i64 a0_0, .int .i64 a0_1, .int .i64 a0_2]] w fun e w' => e = .returned (.bool r) ∧ Below w.heap.size w w' := by
 have b3 := Tryd.underlying25
 have HB := Aside0.mk (Below.refl w.heap.size w)
 have H := h
 unfold spec_clGood.f at H
 clear h
 obtain ⟨a3, A2, H⟩ := bD H
 try dsimp only at H
 by_cases c3 : a3 = true
 subst c3
 rw [if_pos rfl] at H
 obtain ⟨a4, A4, H⟩ := bD H
 try dsimp only at H
 by_cases c5 : a4 = true
 subst c5
 rw [if_pos rfl] at H
 obtain ⟨a5, A6, H⟩ := bD H
 try dsimp only at H
 obtain rfl := Option.some.inj H
 rotate_left
 replace c5 := Bool.eq_false_iff.mpr c5
 subst c5
 rw [if_neg nft] at H
 obtain rfl := Option.some.inj H
 rotate_left
 replace c3 := Bool.eq_false_iff.mpr c3
 subst c3
 rw [if_neg nft] at H
 obtain rfl := Option.some.inj H
 rotate_left
 all_goals (go_enter Tryd.func38, Tryd.ntmps38)
 all_goals (go_wp2_with (first | ((with_reducible refine gate_dst (N := 1) rfl ?_); refine box_ (cs := #[.int .i64 a0_0, .int .i64 a0_1, .int .i64 a0_2]) (t := 25) fun b4 hg b7 hbox hb => ?_; have a6 := Aside0.mk (hbox); have b5 := bS HB hg; have b6 := bS HB hg; replace HB := Aside0.mk (below_step bB hb); clear hb hbox hg; obtain ⟨a7, a8, a9, b0, b1, b2⟩ := cf3 a6) | ((with_reducible refine gate_callee (f := 56) rfl ?_); refine goesL_ (some 5) rfl rfl Tryd.func56 kr rfl #[.int .i64 a0_0, .int .i64 1, .int .i64 1000] rfl sM ?_; (with_reducible refine (spec_l1In.calls a0_0 1 1000 true _ A2.out).mono ?_); rintro e w' ⟨rfl, ⟨nd, rfl⟩⟩; refine ⟨_, rfl, ?_⟩) | (go_at_call 56; (with_reducible refine (spec_l1In.calls a0_1 1 1000 true _ A4.out).mono ?_); rintro e w' ⟨rfl, ⟨nd, rfl⟩⟩) | (go_at_call 56; (with_reducible refine (spec_l1In.calls a0_2 1 1000 a5 _ A6.out).mono ?_); rintro e w' ⟨rfl, ⟨nd, rfl⟩⟩) | (go_at_call 56; (with_reducible refine (spec_l1In.calls a0_1 1 1000 false _ A4.out).mono ?_); rintro e w' ⟨rfl, ⟨nd, rfl⟩⟩) | ((with_reducible refine gate_callee (f := 56) rfl ?_); refine goesL_ (some 5) rfl rfl Tryd.func56 kr rfl #[.int .i64 a0_0, .int .i64 1, .int .i64 1000] rfl sM ?_; (with_reducible refine (spec_l1In.calls a0_0 1 1000 false _ A2.out).mono ?_); rintro e w' ⟨rfl, ⟨nd, rfl⟩⟩; refine ⟨_, rfl, ?_⟩)))
 all_goals go_ret
 all_goals (exact ⟨sE, bI⟩)

/-! ### spec_clLow: function 39 -/
def spec_clLow.l0 : Nat → Int → Int → Int → Int → Option (Int × Int)
  | 0, _, _, _, _ => none
  | k + 1, x0, x1, x6, x7 => if x7 > 0 then (if x7 = 0 then (none) else (spec_clLow.l0 k x0 x1 x7 (Int.tmod x6 x7))) else (if x6 = 0 then (none) else (some (wrap64 (Int.tdiv x0 x6), wrap64 (Int.tdiv x1 x6))))
def spec_clLow.f (k : Nat) (a0 : Int) (a1 : Int) : Option (Int × Int) := spec_clLow.l0 k a0 a1 a0 a1
theorem spec_clLow.mono_l : ∀ k, (∀ y0 y1 y2 y3, LeO (spec_clLow.l0 k y0 y1 y2 y3) (spec_clLow.l0 (k + 1) y0 y1 y2 y3))
  | 0 => fun _ _ _ _ r h => by simp [spec_clLow.l0] at h
  | k + 1 => by
    have ih0 := spec_clLow.mono_l k
    · intro y0 y1 y2 y3
      unfold spec_clLow.l0
      repeat' first
      | (with_reducible exact ih0 _ _ _ _)
      | (with_reducible exact LeO.refl _)
      | (with_reducible exact LeO.none _)
      | (with_reducible refine LeO.ite ?_ ?_)
      | (with_reducible refine LeO.bind ?_ (fun _ => ?_))
      | exact ih0 _ _ _ _
      | exact LeO.none _
      | refine LeO.ite ?_ ?_
      | refine LeO.bind ?_ (fun _ => ?_)
theorem spec_clLow.mono : ∀ a0 a1 k, LeO (spec_clLow.f k a0 a1) (spec_clLow.f (k + 1) a0 a1) := by
  intro a0 a1 k
  have ih0 := spec_clLow.mono_l k
  unfold spec_clLow.f
  repeat' first
      | (with_reducible exact ih0 _ _ _ _)
      | (with_reducible exact LeO.refl _)
      | (with_reducible exact LeO.none _)
      | (with_reducible refine LeO.ite ?_ ?_)
      | (with_reducible refine LeO.bind ?_ (fun _ => ?_))
      | exact ih0 _ _ _ _
      | exact LeO.none _
      | refine LeO.ite ?_ ?_
      | refine LeO.bind ?_ (fun _ => ?_)
set_option maxHeartbeats 8000000 in
set_option maxRecDepth 100000 in
theorem spec_clLow.calls (k : Nat) (a0 : Int) (a1 : Int) (r1 : Int) (r2 : Int) (w : World) (h : spec_clLow.f k a0 a1 = some (r1, r2)) :
    Calls Tryd.prog 39 #[.int .i64 a0, .int .i64 a1] w fun e w' => e = .returned (.tuple #[.int .i64 r1, .int .i64 r2]) ∧ Drawn0 w w' := by
 have H := h
 unfold spec_clLow.f at H
 clear h
 have H' := Aside0.mk H
 clear H
 go_enter Tryd.func39, Tryd.ntmps39
 go_wp2
 repeat (go_quiet (fail); try go_wp2)
 go_loopg [6, 7] k (fun kq v6 v7 w' => ∃ (a4 : Int) (a3 : Int), v6 = .int .i64 a4 ∧ v7 = .int .i64 a3 ∧ Aside0 (spec_clLow.l0 kq a0 a1 a4 a3 = some (r1, r2)) ∧ Aside0 (kq ≤ k) ∧ Drawn0 w w')
 case atStart => exact ⟨(a0), (a1), sR, sR, H', ⟨Nat.le_refl _⟩, by repeat (first | exact Drawn0.refl _ | apply Drawn0.step)⟩
 case round => (
 clear H'
 obtain ⟨a4, a3, rfl, rfl, HA, HK1, ⟨m1, rfl⟩⟩ := hrel
 cases gk with
 | zero => exact absurd HA.out (by simp [spec_clLow.l0])
 | succ k1 => (
 have H := HA.out
 clear HA
 simp only [spec_clLow.l0] at H
 by_cases c3 : a3 > 0
 ·(
 rw [if_pos c3] at H
 have a5 : decide (0 < a3) = true := decide_eq_true c3
 clear c3
 by_cases c4 : a3 = 0
 ·(
 rw [if_pos c4] at H
 exact absurd H (by simp)
 )
 ·(
 rw [if_neg c4] at H
 obtain ⟨a6, a7⟩ := nE c4
 have H' := Aside0.mk H
 clear H
 go_wp2
 repeat (go_quiet (fail); try go_wp2)
 go_roundg k1
 case measure => have := HK1.out; omega
 case rel => exact ⟨(a3), (Int.tmod a4 a3), sR, sR, H', ⟨by have := HK1.out; omega⟩, by repeat (first | exact Drawn0.refl _ | apply Drawn0.step)⟩
 )
 )
 ·(
 rw [if_neg c3] at H
 have a5 : decide (0 < a3) = false := decide_eq_false c3
 clear c3
 by_cases c5 : a4 = 0
 ·(
 rw [if_pos c5] at H
 exact absurd H (by simp)
 )
 ·(
 rw [if_neg c5] at H
 obtain ⟨a8, a9⟩ := nE c5
 simp only [Option.some.injEq, Prod.mk.injEq] at H
 obtain ⟨rfl, rfl⟩ := H
 go_wp2
 repeat (go_quiet (fail); try go_wp2)
 go_ret2
 exact ⟨by first | rfl | (simp; done) | (simp [*]; done), by repeat (first | exact Drawn0.refl _ | apply Drawn0.step)⟩
 )
 )
 )
 )

/-! ### spec_CrossHeight: function 7 -/
def spec_CrossHeight.f (k : Nat) (a0_0 : Int) (a0_1 : Int) (a0_2 : Int) : Option (Int × Int × Bool) := (spec_clGood.f a0_0 a0_1 a0_2).bind fun t191 => (if t191 = true then ((spec_clLow.f k (wrap64 (a0_1 * a0_2)) (wrap64 (a0_1 + a0_2))).bind fun bt192 => (some (bt192.1, bt192.2, true))) else (some (0, 0, false)))
theorem spec_CrossHeight.mono : ∀ a0 a1 a2 k, LeO (spec_CrossHeight.f k a0 a1 a2) (spec_CrossHeight.f (k + 1) a0 a1 a2) := by
  intro a0 a1 a2 k
  unfold spec_CrossHeight.f
  repeat' first
      | (with_reducible exact spec_clLow.mono _ _ _)
      | (with_reducible exact LeO.refl _)
      | (with_reducible exact LeO.none _)
      | (with_reducible refine LeO.ite ?_ ?_)
      | (with_reducible refine LeO.bind ?_ (fun _ => ?_))
      | exact spec_clLow.mono _ _ _
      | exact LeO.none _
      | refine LeO.ite ?_ ?_
      | refine LeO.bind ?_ (fun _ => ?_)
set_option maxHeartbeats 8000000 in
set_option maxRecDepth 100000 in
theorem spec_CrossHeight.calls (k : Nat) (a0_0 : Int) (a0_1 : Int) (a0_2 : Int) (r1 : Int) (r2 : Int) (r3 : Bool) (w : World) (h : spec_CrossHeight.f k a0_0 a0_1 a0_2 = some (r1, r2, r3)) :
    Calls Tryd.prog 7 #[.agg #[.int .i64 a0_0, .int .i64 a0_1, .int .i64 a0_2]] w fun e w' => e = .returned (.tuple #[.int .i64 r1, .int .i64 r2, .bool r3]) ∧ Below w.heap.size w w' := by
 have c0 := Tryd.underlying25
 have HB := Aside0.mk (Below.refl w.heap.size w)
 have H := h
 unfold spec_CrossHeight.f at H
 clear h
 obtain ⟨a4, A2, H⟩ := bD H
 try dsimp only at H
 by_cases c3 : a4 = true
 subst c3
 rw [if_pos rfl] at H
 obtain ⟨⟨a5, a6⟩, A4, H⟩ := bD H
 try dsimp only at H
 simp only [Option.some.injEq, Prod.mk.injEq] at H
 obtain ⟨rfl, rfl, rfl⟩ := H
 rotate_left
 replace c3 := Bool.eq_false_iff.mpr c3
 subst c3
 rw [if_neg nft] at H
 simp only [Option.some.injEq, Prod.mk.injEq] at H
 obtain ⟨rfl, rfl, rfl⟩ := H
 rotate_left
 all_goals (go_enter Tryd.func7, Tryd.ntmps7)
 all_goals (go_wp2_with (first | ((with_reducible refine gate_dst (N := 1) rfl ?_); refine box_ (cs := #[.int .i64 a0_0, .int .i64 a0_1, .int .i64 a0_2]) (t := 25) fun c1 hg c5 hbox hb => ?_; have a3 := Aside0.mk (hbox); have c2 := bS HB hg; have c4 := bS HB hg; replace HB := Aside0.mk (below_step bB hb); clear hb hbox hg; obtain ⟨a7, a8, a9, b0, b1, b2⟩ := cf3 a3) | ((with_reducible refine gate_callee (f := 38) rfl ?_); refine goesL_ (some 8) rfl rfl Tryd.func38 kr rfl #[.agg #[.int .i64 a0_0, .int .i64 a0_1, .int .i64 a0_2]] rfl sM ?_; (with_reducible refine (spec_clGood.calls a0_0 a0_1 a0_2 true _ A2.out).mono ?_); rintro e b9 ⟨rfl, hb⟩; refine ⟨_, rfl, ?_⟩; replace a3 := bQ a3 hb; replace HB := Aside0.mk (below_step bB hb); (try clear hb); obtain ⟨b3, b4, b5, b6, b7, b8⟩ := cf3 a3) | ((with_reducible refine gate_callee (f := 39) rfl ?_); refine goesL_ (some 21) rfl rfl Tryd.func39 kr rfl #[.int .i64 (wrap64 (a0_1 * a0_2)), .int .i64 (wrap64 (a0_1 + a0_2))] rfl sM ?_; (with_reducible refine (spec_clLow.calls k (wrap64 (a0_1 * a0_2)) (wrap64 (a0_1 + a0_2)) a5 a6 _ A4.out).mono ?_); rintro e w' ⟨rfl, ⟨nd, rfl⟩⟩; refine ⟨_, rfl, ?_⟩) | ((with_reducible refine gate_callee (f := 38) rfl ?_); refine goesL_ (some 8) rfl rfl Tryd.func38 kr rfl #[.agg #[.int .i64 a0_0, .int .i64 a0_1, .int .i64 a0_2]] rfl sM ?_; (with_reducible refine (spec_clGood.calls a0_0 a0_1 a0_2 false _ A2.out).mono ?_); rintro e b9 ⟨rfl, hb⟩; refine ⟨_, rfl, ?_⟩; replace a3 := bQ a3 hb; replace HB := Aside0.mk (below_step bB hb); (try clear hb))))
 all_goals go_ret3
 all_goals (exact ⟨sE, bI⟩)

/-! ### impl_CrossPlace: function 8 -/
def impl_CrossPlace.f (k : Nat) (a0_0 : Int) (a0_1 : Int) (a0_2 : Int) : Option (Int × Int × Bool) := (impl_AreLadders.f a0_0 a0_1 a0_2).bind fun t195 => (if t195 = true then ((impl_fraction.f k (wrap64 (a0_1 * a0_0)) (wrap64 (a0_1 + a0_2))).bind fun bt196 => (some (bt196.1, bt196.2.1, bt196.2.2))) else (some (0, 0, false)))
theorem impl_CrossPlace.mono : ∀ a0 a1 a2 k, LeO (impl_CrossPlace.f k a0 a1 a2) (impl_CrossPlace.f (k + 1) a0 a1 a2) := by
  intro a0 a1 a2 k
  unfold impl_CrossPlace.f
  repeat' first
      | (with_reducible exact impl_fraction.mono _ _ _)
      | (with_reducible exact LeO.refl _)
      | (with_reducible exact LeO.none _)
      | (with_reducible refine LeO.ite ?_ ?_)
      | (with_reducible refine LeO.bind ?_ (fun _ => ?_))
      | exact impl_fraction.mono _ _ _
      | exact LeO.none _
      | refine LeO.ite ?_ ?_
      | refine LeO.bind ?_ (fun _ => ?_)
set_option maxHeartbeats 8000000 in
set_option maxRecDepth 100000 in
theorem impl_CrossPlace.calls (k : Nat) (a0_0 : Int) (a0_1 : Int) (a0_2 : Int) (r1 : Int) (r2 : Int) (r3 : Bool) (w : World) (h : impl_CrossPlace.f k a0_0 a0_1 a0_2 = some (r1, r2, r3)) :
    Calls Tryd.prog 8 #[.agg #[.int .i64 a0_0, .int .i64 a0_1, .int .i64 a0_2]] w fun e w' => e = .returned (.tuple #[.int .i64 r1, .int .i64 r2, .bool r3]) ∧ Below w.heap.size w w' := by
 have c1 := Tryd.underlying25
 have HB := Aside0.mk (Below.refl w.heap.size w)
 have H := h
 unfold impl_CrossPlace.f at H
 clear h
 obtain ⟨a4, A2, H⟩ := bD H
 try dsimp only at H
 by_cases c3 : a4 = true
 subst c3
 rw [if_pos rfl] at H
 obtain ⟨⟨a5, a6, a7⟩, A4, H⟩ := bD H
 try dsimp only at H
 simp only [Option.some.injEq, Prod.mk.injEq] at H
 obtain ⟨rfl, rfl, rfl⟩ := H
 rotate_left
 replace c3 := Bool.eq_false_iff.mpr c3
 subst c3
 rw [if_neg nft] at H
 simp only [Option.some.injEq, Prod.mk.injEq] at H
 obtain ⟨rfl, rfl, rfl⟩ := H
 rotate_left
 all_goals (go_enter Tryd.func8, Tryd.ntmps8)
 all_goals (go_wp2_with (first | ((with_reducible refine gate_dst (N := 1) rfl ?_); refine box_ (cs := #[.int .i64 a0_0, .int .i64 a0_1, .int .i64 a0_2]) (t := 25) fun c2 hg c6 hbox hb => ?_; have a3 := Aside0.mk (hbox); have c4 := bS HB hg; have c5 := bS HB hg; replace HB := Aside0.mk (below_step bB hb); clear hb hbox hg; obtain ⟨a8, a9, b0, b1, b2, b3⟩ := cf3 a3) | ((with_reducible refine gate_callee (f := 20) rfl ?_); refine goesL_ (some 6) rfl rfl Tryd.func20 kr rfl #[.agg #[.int .i64 a0_0, .int .i64 a0_1, .int .i64 a0_2]] rfl sM ?_; (with_reducible refine (impl_AreLadders.calls a0_0 a0_1 a0_2 true _ A2.out).mono ?_); rintro e c0 ⟨rfl, hb⟩; refine ⟨_, rfl, ?_⟩; replace a3 := bQ a3 hb; replace HB := Aside0.mk (below_step bB hb); (try clear hb); obtain ⟨b4, b5, b6, b7, b8, b9⟩ := cf3 a3) | ((with_reducible refine gate_callee (f := 37) rfl ?_); refine goesL_ (some 18) rfl rfl Tryd.func37 kr rfl #[.int .i64 (wrap64 (a0_1 * a0_0)), .int .i64 (wrap64 (a0_1 + a0_2))] rfl sM ?_; (with_reducible refine (impl_fraction.calls k (wrap64 (a0_1 * a0_0)) (wrap64 (a0_1 + a0_2)) a5 a6 a7 _ A4.out).mono ?_); rintro e c7 ⟨rfl, hb⟩; refine ⟨_, rfl, ?_⟩; replace a3 := bQ a3 hb; replace HB := Aside0.mk (below_step bB hb); (try clear hb)) | ((with_reducible refine gate_callee (f := 20) rfl ?_); refine goesL_ (some 6) rfl rfl Tryd.func20 kr rfl #[.agg #[.int .i64 a0_0, .int .i64 a0_1, .int .i64 a0_2]] rfl sM ?_; (with_reducible refine (impl_AreLadders.calls a0_0 a0_1 a0_2 false _ A2.out).mono ?_); rintro e c0 ⟨rfl, hb⟩; refine ⟨_, rfl, ?_⟩; replace a3 := bQ a3 hb; replace HB := Aside0.mk (below_step bB hb); (try clear hb))))
 all_goals go_ret3
 all_goals (exact ⟨sE, bI⟩)

/-! ### spec_CrossPlace: function 9 -/
def spec_CrossPlace.f (k : Nat) (a0_0 : Int) (a0_1 : Int) (a0_2 : Int) : Option (Int × Int × Bool) := (spec_clGood.f a0_0 a0_1 a0_2).bind fun t200 => (if t200 = true then ((spec_clLow.f k (wrap64 (a0_0 * a0_1)) (wrap64 (a0_1 + a0_2))).bind fun bt201 => (some (bt201.1, bt201.2, true))) else (some (0, 0, false)))
theorem spec_CrossPlace.mono : ∀ a0 a1 a2 k, LeO (spec_CrossPlace.f k a0 a1 a2) (spec_CrossPlace.f (k + 1) a0 a1 a2) := by
  intro a0 a1 a2 k
  unfold spec_CrossPlace.f
  repeat' first
      | (with_reducible exact spec_clLow.mono _ _ _)
      | (with_reducible exact LeO.refl _)
      | (with_reducible exact LeO.none _)
      | (with_reducible refine LeO.ite ?_ ?_)
      | (with_reducible refine LeO.bind ?_ (fun _ => ?_))
      | exact spec_clLow.mono _ _ _
      | exact LeO.none _
      | refine LeO.ite ?_ ?_
      | refine LeO.bind ?_ (fun _ => ?_)
set_option maxHeartbeats 8000000 in
set_option maxRecDepth 100000 in
theorem spec_CrossPlace.calls (k : Nat) (a0_0 : Int) (a0_1 : Int) (a0_2 : Int) (r1 : Int) (r2 : Int) (r3 : Bool) (w : World) (h : spec_CrossPlace.f k a0_0 a0_1 a0_2 = some (r1, r2, r3)) :
    Calls Tryd.prog 9 #[.agg #[.int .i64 a0_0, .int .i64 a0_1, .int .i64 a0_2]] w fun e w' => e = .returned (.tuple #[.int .i64 r1, .int .i64 r2, .bool r3]) ∧ Below w.heap.size w w' := by
 have c0 := Tryd.underlying25
 have HB := Aside0.mk (Below.refl w.heap.size w)
 have H := h
 unfold spec_CrossPlace.f at H
 clear h
 obtain ⟨a4, A2, H⟩ := bD H
 try dsimp only at H
 by_cases c3 : a4 = true
 subst c3
 rw [if_pos rfl] at H
 obtain ⟨⟨a5, a6⟩, A4, H⟩ := bD H
 try dsimp only at H
 simp only [Option.some.injEq, Prod.mk.injEq] at H
 obtain ⟨rfl, rfl, rfl⟩ := H
 rotate_left
 replace c3 := Bool.eq_false_iff.mpr c3
 subst c3
 rw [if_neg nft] at H
 simp only [Option.some.injEq, Prod.mk.injEq] at H
 obtain ⟨rfl, rfl, rfl⟩ := H
 rotate_left
 all_goals (go_enter Tryd.func9, Tryd.ntmps9)
 all_goals (go_wp2_with (first | ((with_reducible refine gate_dst (N := 1) rfl ?_); refine box_ (cs := #[.int .i64 a0_0, .int .i64 a0_1, .int .i64 a0_2]) (t := 25) fun c1 hg c5 hbox hb => ?_; have a3 := Aside0.mk (hbox); have c2 := bS HB hg; have c4 := bS HB hg; replace HB := Aside0.mk (below_step bB hb); clear hb hbox hg; obtain ⟨a7, a8, a9, b0, b1, b2⟩ := cf3 a3) | ((with_reducible refine gate_callee (f := 38) rfl ?_); refine goesL_ (some 8) rfl rfl Tryd.func38 kr rfl #[.agg #[.int .i64 a0_0, .int .i64 a0_1, .int .i64 a0_2]] rfl sM ?_; (with_reducible refine (spec_clGood.calls a0_0 a0_1 a0_2 true _ A2.out).mono ?_); rintro e b9 ⟨rfl, hb⟩; refine ⟨_, rfl, ?_⟩; replace a3 := bQ a3 hb; replace HB := Aside0.mk (below_step bB hb); (try clear hb); obtain ⟨b3, b4, b5, b6, b7, b8⟩ := cf3 a3) | ((with_reducible refine gate_callee (f := 39) rfl ?_); refine goesL_ (some 21) rfl rfl Tryd.func39 kr rfl #[.int .i64 (wrap64 (a0_0 * a0_1)), .int .i64 (wrap64 (a0_1 + a0_2))] rfl sM ?_; (with_reducible refine (spec_clLow.calls k (wrap64 (a0_0 * a0_1)) (wrap64 (a0_1 + a0_2)) a5 a6 _ A4.out).mono ?_); rintro e w' ⟨rfl, ⟨nd, rfl⟩⟩; refine ⟨_, rfl, ?_⟩) | ((with_reducible refine gate_callee (f := 38) rfl ?_); refine goesL_ (some 8) rfl rfl Tryd.func38 kr rfl #[.agg #[.int .i64 a0_0, .int .i64 a0_1, .int .i64 a0_2]] rfl sM ?_; (with_reducible refine (spec_clGood.calls a0_0 a0_1 a0_2 false _ A2.out).mono ?_); rintro e b9 ⟨rfl, hb⟩; refine ⟨_, rfl, ?_⟩; replace a3 := bQ a3 hb; replace HB := Aside0.mk (below_step bB hb); (try clear hb))))
 all_goals go_ret3
 all_goals (exact ⟨sE, bI⟩)

/-! ### impl_AreaBelow: function 10 -/
def impl_AreaBelow.f (k : Nat) (a0_0 : Int) (a0_1 : Int) (a0_2 : Int) : Option (Int × Int × Bool) := (impl_AreLadders.f a0_0 a0_1 a0_2).bind fun t204 => (if t204 = true then ((impl_fraction.f k (wrap64 ((wrap64 (a0_0 * a0_1)) * a0_2)) (wrap64 (2 * (wrap64 (a0_1 + a0_2))))).bind fun bt205 => (some (bt205.1, bt205.2.1, bt205.2.2))) else (some (0, 0, false)))
theorem impl_AreaBelow.mono : ∀ a0 a1 a2 k, LeO (impl_AreaBelow.f k a0 a1 a2) (impl_AreaBelow.f (k + 1) a0 a1 a2) := by
  intro a0 a1 a2 k
  unfold impl_AreaBelow.f
  repeat' first
      | (with_reducible exact impl_fraction.mono _ _ _)
      | (with_reducible exact LeO.refl _)
      | (with_reducible exact LeO.none _)
      | (with_reducible refine LeO.ite ?_ ?_)
      | (with_reducible refine LeO.bind ?_ (fun _ => ?_))
      | exact impl_fraction.mono _ _ _
      | exact LeO.none _
      | refine LeO.ite ?_ ?_
      | refine LeO.bind ?_ (fun _ => ?_)
set_option maxHeartbeats 8000000 in
set_option maxRecDepth 100000 in
theorem impl_AreaBelow.calls (k : Nat) (a0_0 : Int) (a0_1 : Int) (a0_2 : Int) (r1 : Int) (r2 : Int) (r3 : Bool) (w : World) (h : impl_AreaBelow.f k a0_0 a0_1 a0_2 = some (r1, r2, r3)) :
    Calls Tryd.prog 10 #[.agg #[.int .i64 a0_0, .int .i64 a0_1, .int .i64 a0_2]] w fun e w' => e = .returned (.tuple #[.int .i64 r1, .int .i64 r2, .bool r3]) ∧ Below w.heap.size w w' := by
 have c1 := Tryd.underlying25
 have HB := Aside0.mk (Below.refl w.heap.size w)
 have H := h
 unfold impl_AreaBelow.f at H
 clear h
 obtain ⟨a4, A2, H⟩ := bD H
 try dsimp only at H
 by_cases c3 : a4 = true
 subst c3
 rw [if_pos rfl] at H
 obtain ⟨⟨a5, a6, a7⟩, A4, H⟩ := bD H
 try dsimp only at H
 simp only [Option.some.injEq, Prod.mk.injEq] at H
 obtain ⟨rfl, rfl, rfl⟩ := H
 rotate_left
 replace c3 := Bool.eq_false_iff.mpr c3
 subst c3
 rw [if_neg nft] at H
 simp only [Option.some.injEq, Prod.mk.injEq] at H
 obtain ⟨rfl, rfl, rfl⟩ := H
 rotate_left
 all_goals (go_enter Tryd.func10, Tryd.ntmps10)
 all_goals (go_wp2_with (first | ((with_reducible refine gate_dst (N := 1) rfl ?_); refine box_ (cs := #[.int .i64 a0_0, .int .i64 a0_1, .int .i64 a0_2]) (t := 25) fun c2 hg c6 hbox hb => ?_; have a3 := Aside0.mk (hbox); have c4 := bS HB hg; have c5 := bS HB hg; replace HB := Aside0.mk (below_step bB hb); clear hb hbox hg; obtain ⟨a8, a9, b0, b1, b2, b3⟩ := cf3 a3) | ((with_reducible refine gate_callee (f := 20) rfl ?_); refine goesL_ (some 6) rfl rfl Tryd.func20 kr rfl #[.agg #[.int .i64 a0_0, .int .i64 a0_1, .int .i64 a0_2]] rfl sM ?_; (with_reducible refine (impl_AreLadders.calls a0_0 a0_1 a0_2 true _ A2.out).mono ?_); rintro e c0 ⟨rfl, hb⟩; refine ⟨_, rfl, ?_⟩; replace a3 := bQ a3 hb; replace HB := Aside0.mk (below_step bB hb); (try clear hb); obtain ⟨b4, b5, b6, b7, b8, b9⟩ := cf3 a3) | ((with_reducible refine gate_callee (f := 37) rfl ?_); refine goesL_ (some 22) rfl rfl Tryd.func37 kr rfl #[.int .i64 (wrap64 ((wrap64 (a0_0 * a0_1)) * a0_2)), .int .i64 (wrap64 (2 * (wrap64 (a0_1 + a0_2))))] rfl sM ?_; (with_reducible refine (impl_fraction.calls k (wrap64 ((wrap64 (a0_0 * a0_1)) * a0_2)) (wrap64 (2 * (wrap64 (a0_1 + a0_2)))) a5 a6 a7 _ A4.out).mono ?_); rintro e c7 ⟨rfl, hb⟩; refine ⟨_, rfl, ?_⟩; replace a3 := bQ a3 hb; replace HB := Aside0.mk (below_step bB hb); (try clear hb)) | ((with_reducible refine gate_callee (f := 20) rfl ?_); refine goesL_ (some 6) rfl rfl Tryd.func20 kr rfl #[.agg #[.int .i64 a0_0, .int .i64 a0_1, .int .i64 a0_2]] rfl sM ?_; (with_reducible refine (impl_AreLadders.calls a0_0 a0_1 a0_2 false _ A2.out).mono ?_); rintro e c0 ⟨rfl, hb⟩; refine ⟨_, rfl, ?_⟩; replace a3 := bQ a3 hb; replace HB := Aside0.mk (below_step bB hb); (try clear hb))))
 all_goals go_ret3
 all_goals (exact ⟨sE, bI⟩)

/-! ### spec_AreaBelow: function 11 -/
def spec_AreaBelow.f (k : Nat) (a0_0 : Int) (a0_1 : Int) (a0_2 : Int) : Option (Int × Int × Bool) := (spec_clGood.f a0_0 a0_1 a0_2).bind fun t209 => (if t209 = true then ((spec_clLow.f k (wrap64 ((wrap64 (a0_0 * a0_1)) * a0_2)) (wrap64 (2 * (wrap64 (a0_1 + a0_2))))).bind fun bt210 => (some (bt210.1, bt210.2, true))) else (some (0, 0, false)))
theorem spec_AreaBelow.mono : ∀ a0 a1 a2 k, LeO (spec_AreaBelow.f k a0 a1 a2) (spec_AreaBelow.f (k + 1) a0 a1 a2) := by
  intro a0 a1 a2 k
  unfold spec_AreaBelow.f
  repeat' first
      | (with_reducible exact spec_clLow.mono _ _ _)
      | (with_reducible exact LeO.refl _)
      | (with_reducible exact LeO.none _)
      | (with_reducible refine LeO.ite ?_ ?_)
      | (with_reducible refine LeO.bind ?_ (fun _ => ?_))
      | exact spec_clLow.mono _ _ _
      | exact LeO.none _
      | refine LeO.ite ?_ ?_
      | refine LeO.bind ?_ (fun _ => ?_)
set_option maxHeartbeats 8000000 in
set_option maxRecDepth 100000 in
theorem spec_AreaBelow.calls (k : Nat) (a0_0 : Int) (a0_1 : Int) (a0_2 : Int) (r1 : Int) (r2 : Int) (r3 : Bool) (w : World) (h : spec_AreaBelow.f k a0_0 a0_1 a0_2 = some (r1, r2, r3)) :
    Calls Tryd.prog 11 #[.agg #[.int .i64 a0_0, .int .i64 a0_1, .int .i64 a0_2]] w fun e w' => e = .returned (.tuple #[.int .i64 r1, .int .i64 r2, .bool r3]) ∧ Below w.heap.size w w' := by
 have c0 := Tryd.underlying25
 have HB := Aside0.mk (Below.refl w.heap.size w)
 have H := h
 unfold spec_AreaBelow.f at H
 clear h
 obtain ⟨a4, A2, H⟩ := bD H
 try dsimp only at H
 by_cases c3 : a4 = true
 subst c3
 rw [if_pos rfl] at H
 obtain ⟨⟨a5, a6⟩, A4, H⟩ := bD H
 try dsimp only at H
 simp only [Option.some.injEq, Prod.mk.injEq] at H
 obtain ⟨rfl, rfl, rfl⟩ := H
 rotate_left
 replace c3 := Bool.eq_false_iff.mpr c3
 subst c3
 rw [if_neg nft] at H
 simp only [Option.some.injEq, Prod.mk.injEq] at H
 obtain ⟨rfl, rfl, rfl⟩ := H
 rotate_left
 all_goals (go_enter Tryd.func11, Tryd.ntmps11)
 all_goals (go_wp2_with (first | ((with_reducible refine gate_dst (N := 1) rfl ?_); refine box_ (cs := #[.int .i64 a0_0, .int .i64 a0_1, .int .i64 a0_2]) (t := 25) fun c1 hg c5 hbox hb => ?_; have a3 := Aside0.mk (hbox); have c2 := bS HB hg; have c4 := bS HB hg; replace HB := Aside0.mk (below_step bB hb); clear hb hbox hg; obtain ⟨a7, a8, a9, b0, b1, b2⟩ := cf3 a3) | ((with_reducible refine gate_callee (f := 38) rfl ?_); refine goesL_ (some 8) rfl rfl Tryd.func38 kr rfl #[.agg #[.int .i64 a0_0, .int .i64 a0_1, .int .i64 a0_2]] rfl sM ?_; (with_reducible refine (spec_clGood.calls a0_0 a0_1 a0_2 true _ A2.out).mono ?_); rintro e b9 ⟨rfl, hb⟩; refine ⟨_, rfl, ?_⟩; replace a3 := bQ a3 hb; replace HB := Aside0.mk (below_step bB hb); (try clear hb); obtain ⟨b3, b4, b5, b6, b7, b8⟩ := cf3 a3) | ((with_reducible refine gate_callee (f := 39) rfl ?_); refine goesL_ (some 25) rfl rfl Tryd.func39 kr rfl #[.int .i64 (wrap64 ((wrap64 (a0_0 * a0_1)) * a0_2)), .int .i64 (wrap64 (2 * (wrap64 (a0_1 + a0_2))))] rfl sM ?_; (with_reducible refine (spec_clLow.calls k (wrap64 ((wrap64 (a0_0 * a0_1)) * a0_2)) (wrap64 (2 * (wrap64 (a0_1 + a0_2)))) a5 a6 _ A4.out).mono ?_); rintro e w' ⟨rfl, ⟨nd, rfl⟩⟩; refine ⟨_, rfl, ?_⟩) | ((with_reducible refine gate_callee (f := 38) rfl ?_); refine goesL_ (some 8) rfl rfl Tryd.func38 kr rfl #[.agg #[.int .i64 a0_0, .int .i64 a0_1, .int .i64 a0_2]] rfl sM ?_; (with_reducible refine (spec_clGood.calls a0_0 a0_1 a0_2 false _ A2.out).mono ?_); rintro e b9 ⟨rfl, hb⟩; refine ⟨_, rfl, ?_⟩; replace a3 := bQ a3 hb; replace HB := Aside0.mk (below_step bB hb); (try clear hb))))
 all_goals go_ret3
 all_goals (exact ⟨sE, bI⟩)

/-! ### impl_AreaBetween: function 12 -/
def impl_AreaBetween.f (k : Nat) (a0_0 : Int) (a0_1 : Int) (a0_2 : Int) : Option (Int × Int × Bool) := (impl_AreLadders.f a0_0 a0_1 a0_2).bind fun t213 => (if t213 = true then ((impl_fraction.f k (wrap64 (a0_0 * (wrap64 ((wrap64 ((wrap64 (a0_1 + a0_2)) * (wrap64 (a0_1 + a0_2)))) - (wrap64 (a0_1 * a0_2)))))) (wrap64 (2 * (wrap64 (a0_1 + a0_2))))).bind fun bt214 => (some (bt214.1, bt214.2.1, bt214.2.2))) else (some (0, 0, false)))
theorem impl_AreaBetween.mono : ∀ a0 a1 a2 k, LeO (impl_AreaBetween.f k a0 a1 a2) (impl_AreaBetween.f (k + 1) a0 a1 a2) := by
  intro a0 a1 a2 k
  unfold impl_AreaBetween.f
  repeat' first
      | (with_reducible exact impl_fraction.mono _ _ _)
      | (with_reducible exact LeO.refl _)
      | (with_reducible exact LeO.none _)
      | (with_reducible refine LeO.ite ?_ ?_)
      | (with_reducible refine LeO.bind ?_ (fun _ => ?_))
      | exact impl_fraction.mono _ _ _
      | exact LeO.none _
      | refine LeO.ite ?_ ?_
      | refine LeO.bind ?_ (fun _ => ?_)
set_option maxHeartbeats 8000000 in
set_option maxRecDepth 100000 in
theorem impl_AreaBetween.calls (k : Nat) (a0_0 : Int) (a0_1 : Int) (a0_2 : Int) (r1 : Int) (r2 : Int) (r3 : Bool) (w : World) (h : impl_AreaBetween.f k a0_0 a0_1 a0_2 = some (r1, r2, r3)) :
    Calls Tryd.prog 12 #[.agg #[.int .i64 a0_0, .int .i64 a0_1, .int .i64 a0_2]] w fun e w' => e = .returned (.tuple #[.int .i64 r1, .int .i64 r2, .bool r3]) ∧ Below w.heap.size w w' := by
 have c1 := Tryd.underlying25
 have HB := Aside0.mk (Below.refl w.heap.size w)
 have H := h
 unfold impl_AreaBetween.f at H
 clear h
 obtain ⟨a4, A2, H⟩ := bD H
 try dsimp only at H
 by_cases c3 : a4 = true
 subst c3
 rw [if_pos rfl] at H
 obtain ⟨⟨a5, a6, a7⟩, A4, H⟩ := bD H
 try dsimp only at H
 simp only [Option.some.injEq, Prod.mk.injEq] at H
 obtain ⟨rfl, rfl, rfl⟩ := H
 rotate_left
 replace c3 := Bool.eq_false_iff.mpr c3
 subst c3
 rw [if_neg nft] at H
 simp only [Option.some.injEq, Prod.mk.injEq] at H
 obtain ⟨rfl, rfl, rfl⟩ := H
 rotate_left
 all_goals (go_enter Tryd.func12, Tryd.ntmps12)
 all_goals (go_wp2_with (first | ((with_reducible refine gate_dst (N := 1) rfl ?_); refine box_ (cs := #[.int .i64 a0_0, .int .i64 a0_1, .int .i64 a0_2]) (t := 25) fun c2 hg c6 hbox hb => ?_; have a3 := Aside0.mk (hbox); have c4 := bS HB hg; have c5 := bS HB hg; replace HB := Aside0.mk (below_step bB hb); clear hb hbox hg; obtain ⟨a8, a9, b0, b1, b2, b3⟩ := cf3 a3) | ((with_reducible refine gate_callee (f := 20) rfl ?_); refine goesL_ (some 7) rfl rfl Tryd.func20 kr rfl #[.agg #[.int .i64 a0_0, .int .i64 a0_1, .int .i64 a0_2]] rfl sM ?_; (with_reducible refine (impl_AreLadders.calls a0_0 a0_1 a0_2 true _ A2.out).mono ?_); rintro e c0 ⟨rfl, hb⟩; refine ⟨_, rfl, ?_⟩; replace a3 := bQ a3 hb; replace HB := Aside0.mk (below_step bB hb); (try clear hb); obtain ⟨b4, b5, b6, b7, b8, b9⟩ := cf3 a3) | ((with_reducible refine gate_callee (f := 37) rfl ?_); refine goesL_ (some 28) rfl rfl Tryd.func37 kr rfl #[.int .i64 (wrap64 (a0_0 * (wrap64 ((wrap64 ((wrap64 (a0_1 + a0_2)) * (wrap64 (a0_1 + a0_2)))) - (wrap64 (a0_1 * a0_2)))))), .int .i64 (wrap64 (2 * (wrap64 (a0_1 + a0_2))))] rfl sM ?_; (with_reducible refine (impl_fraction.calls k (wrap64 (a0_0 * (wrap64 ((wrap64 ((wrap64 (a0_1 + a0_2)) * (wrap64 (a0_1 + a0_2)))) - (wrap64 (a0_1 * a0_2)))))) (wrap64 (2 * (wrap64 (a0_1 + a0_2)))) a5 a6 a7 _ A4.out).mono ?_); rintro e c7 ⟨rfl, hb⟩; refine ⟨_, rfl, ?_⟩; replace a3 := bQ a3 hb; replace HB := Aside0.mk (below_step bB hb); (try clear hb)) | ((with_reducible refine gate_callee (f := 20) rfl ?_); refine goesL_ (some 7) rfl rfl Tryd.func20 kr rfl #[.agg #[.int .i64 a0_0, .int .i64 a0_1, .int .i64 a0_2]] rfl sM ?_; (with_reducible refine (impl_AreLadders.calls a0_0 a0_1 a0_2 false _ A2.out).mono ?_); rintro e c0 ⟨rfl, hb⟩; refine ⟨_, rfl, ?_⟩; replace a3 := bQ a3 hb; replace HB := Aside0.mk (below_step bB hb); (try clear hb))))
 all_goals go_ret3
 all_goals (exact ⟨sE, bI⟩)

/-! ### spec_AreaBetween: function 13 -/
def spec_AreaBetween.f (k : Nat) (a0_0 : Int) (a0_1 : Int) (a0_2 : Int) : Option (Int × Int × Bool) := (spec_clGood.f a0_0 a0_1 a0_2).bind fun t218 => (if t218 = true then ((spec_clLow.f k (wrap64 (a0_0 * (wrap64 ((wrap64 ((wrap64 (a0_1 + a0_2)) * (wrap64 (a0_1 + a0_2)))) - (wrap64 (a0_1 * a0_2)))))) (wrap64 (2 * (wrap64 (a0_1 + a0_2))))).bind fun bt219 => (some (bt219.1, bt219.2, true))) else (some (0, 0, false)))
theorem spec_AreaBetween.mono : ∀ a0 a1 a2 k, LeO (spec_AreaBetween.f k a0 a1 a2) (spec_AreaBetween.f (k + 1) a0 a1 a2) := by
  intro a0 a1 a2 k
  unfold spec_AreaBetween.f
  repeat' first
      | (with_reducible exact spec_clLow.mono _ _ _)
      | (with_reducible exact LeO.refl _)
      | (with_reducible exact LeO.none _)
      | (with_reducible refine LeO.ite ?_ ?_)
      | (with_reducible refine LeO.bind ?_ (fun _ => ?_))
      | exact spec_clLow.mono _ _ _
      | exact LeO.none _
      | refine LeO.ite ?_ ?_
      | refine LeO.bind ?_ (fun _ => ?_)
set_option maxHeartbeats 8000000 in
set_option maxRecDepth 100000 in
theorem spec_AreaBetween.calls (k : Nat) (a0_0 : Int) (a0_1 : Int) (a0_2 : Int) (r1 : Int) (r2 : Int) (r3 : Bool) (w : World) (h : spec_AreaBetween.f k a0_0 a0_1 a0_2 = some (r1, r2, r3)) :
    Calls Tryd.prog 13 #[.agg #[.int .i64 a0_0, .int .i64 a0_1, .int .i64 a0_2]] w fun e w' => e = .returned (.tuple #[.int .i64 r1, .int .i64 r2, .bool r3]) ∧ Below w.heap.size w w' := by
 have c0 := Tryd.underlying25
 have HB := Aside0.mk (Below.refl w.heap.size w)
 have H := h
 unfold spec_AreaBetween.f at H
 clear h
 obtain ⟨a4, A2, H⟩ := bD H
 try dsimp only at H
 by_cases c3 : a4 = true
 subst c3
 rw [if_pos rfl] at H
 obtain ⟨⟨a5, a6⟩, A4, H⟩ := bD H
 try dsimp only at H
 simp only [Option.some.injEq, Prod.mk.injEq] at H
 obtain ⟨rfl, rfl, rfl⟩ := H
 rotate_left
 replace c3 := Bool.eq_false_iff.mpr c3
 subst c3
 rw [if_neg nft] at H
 simp only [Option.some.injEq, Prod.mk.injEq] at H
 obtain ⟨rfl, rfl, rfl⟩ := H
 rotate_left
 all_goals (go_enter Tryd.func13, Tryd.ntmps13)
 all_goals (go_wp2_with (first | ((with_reducible refine gate_dst (N := 1) rfl ?_); refine box_ (cs := #[.int .i64 a0_0, .int .i64 a0_1, .int .i64 a0_2]) (t := 25) fun c1 hg c5 hbox hb => ?_; have a3 := Aside0.mk (hbox); have c2 := bS HB hg; have c4 := bS HB hg; replace HB := Aside0.mk (below_step bB hb); clear hb hbox hg; obtain ⟨a7, a8, a9, b0, b1, b2⟩ := cf3 a3) | ((with_reducible refine gate_callee (f := 38) rfl ?_); refine goesL_ (some 9) rfl rfl Tryd.func38 kr rfl #[.agg #[.int .i64 a0_0, .int .i64 a0_1, .int .i64 a0_2]] rfl sM ?_; (with_reducible refine (spec_clGood.calls a0_0 a0_1 a0_2 true _ A2.out).mono ?_); rintro e b9 ⟨rfl, hb⟩; refine ⟨_, rfl, ?_⟩; replace a3 := bQ a3 hb; replace HB := Aside0.mk (below_step bB hb); (try clear hb); obtain ⟨b3, b4, b5, b6, b7, b8⟩ := cf3 a3) | ((with_reducible refine gate_callee (f := 39) rfl ?_); refine goesL_ (some 31) rfl rfl Tryd.func39 kr rfl #[.int .i64 (wrap64 (a0_0 * (wrap64 ((wrap64 ((wrap64 (a0_1 + a0_2)) * (wrap64 (a0_1 + a0_2)))) - (wrap64 (a0_1 * a0_2)))))), .int .i64 (wrap64 (2 * (wrap64 (a0_1 + a0_2))))] rfl sM ?_; (with_reducible refine (spec_clLow.calls k (wrap64 (a0_0 * (wrap64 ((wrap64 ((wrap64 (a0_1 + a0_2)) * (wrap64 (a0_1 + a0_2)))) - (wrap64 (a0_1 * a0_2)))))) (wrap64 (2 * (wrap64 (a0_1 + a0_2)))) a5 a6 _ A4.out).mono ?_); rintro e w' ⟨rfl, ⟨nd, rfl⟩⟩; refine ⟨_, rfl, ?_⟩) | ((with_reducible refine gate_callee (f := 38) rfl ?_); refine goesL_ (some 9) rfl rfl Tryd.func38 kr rfl #[.agg #[.int .i64 a0_0, .int .i64 a0_1, .int .i64 a0_2]] rfl sM ?_; (with_reducible refine (spec_clGood.calls a0_0 a0_1 a0_2 false _ A2.out).mono ?_); rintro e b9 ⟨rfl, hb⟩; refine ⟨_, rfl, ?_⟩; replace a3 := bQ a3 hb; replace HB := Aside0.mk (below_step bB hb); (try clear hb))))
 all_goals go_ret3
 all_goals (exact ⟨sE, bI⟩)

/-! ### impl_LongestStick: function 14 -/
def impl_LongestStick.f (a0_0 : Int) (a0_1 : Int) (a0_2 : Int) : Option (Int × Bool) := (impl_AreLadders.f a0_0 a0_1 a0_2).bind fun t222 => (if t222 = true then (if (wrap64 (a0_1 + a0_2)) = 0 then (none) else (some (wrap64 (Int.tdiv (wrap64 (a0_1 * a0_2)) (wrap64 (a0_1 + a0_2))), true))) else (some (0, false)))
set_option maxHeartbeats 8000000 in
set_option maxRecDepth 100000 in
theorem impl_LongestStick.calls (a0_0 : Int) (a0_1 : Int) (a0_2 : Int) (r1 : Int) (r2 : Bool) (w : World) (h : impl_LongestStick.f a0_0 a0_1 a0_2 = some (r1, r2)) :
    Calls Tryd.prog 14 #[.agg #[.int .i64 a0_0, .int .i64 a0_1, .int .i64 a0_2]] w fun e w' => e = .returned (.tuple #[.int .i64 r1, .bool r2]) ∧ Below w.heap.size w w' := by
 have b8 := Tryd.underlying25
 have HB := Aside0.mk (Below.refl w.heap.size w)
 have H := h
 unfold impl_LongestStick.f at H
 clear h
 obtain ⟨a4, A2, H⟩ := bD H
 try dsimp only at H
 by_cases c3 : a4 = true
 subst c3
 rw [if_pos rfl] at H
 by_cases c4 : (wrap64 (a0_1 + a0_2)) = 0
 rw [if_pos c4] at H
 exact absurd H (by simp)
 rw [if_neg c4] at H
 obtain ⟨b9, c0⟩ := nE c4
 simp only [Option.some.injEq, Prod.mk.injEq] at H
 obtain ⟨rfl, rfl⟩ := H
 rotate_left
 replace c3 := Bool.eq_false_iff.mpr c3
 subst c3
 rw [if_neg nft] at H
 simp only [Option.some.injEq, Prod.mk.injEq] at H
 obtain ⟨rfl, rfl⟩ := H
 rotate_left
 all_goals (go_enter Tryd.func14, Tryd.ntmps14)
 all_goals (go_wp2_with (first | ((with_reducible refine gate_dst (N := 1) rfl ?_); refine box_ (cs := #[.int .i64 a0_0, .int .i64 a0_1, .int .i64 a0_2]) (t := 25) fun c1 hg c6 hbox hb => ?_; have a3 := Aside0.mk (hbox); have c2 := bS HB hg; have c5 := bS HB hg; replace HB := Aside0.mk (below_step bB hb); clear hb hbox hg; obtain ⟨a5, a6, a7, a8, a9, b0⟩ := cf3 a3) | ((with_reducible refine gate_callee (f := 20) rfl ?_); refine goesL_ (some 5) rfl rfl Tryd.func20 kr rfl #[.agg #[.int .i64 a0_0, .int .i64 a0_1, .int .i64 a0_2]] rfl sM ?_; (with_reducible refine (impl_AreLadders.calls a0_0 a0_1 a0_2 true _ A2.out).mono ?_); rintro e b7 ⟨rfl, hb⟩; refine ⟨_, rfl, ?_⟩; replace a3 := bQ a3 hb; replace HB := Aside0.mk (below_step bB hb); (try clear hb); obtain ⟨b1, b2, b3, b4, b5, b6⟩ := cf3 a3) | ((with_reducible refine gate_callee (f := 20) rfl ?_); refine goesL_ (some 5) rfl rfl Tryd.func20 kr rfl #[.agg #[.int .i64 a0_0, .int .i64 a0_1, .int .i64 a0_2]] rfl sM ?_; (with_reducible refine (impl_AreLadders.calls a0_0 a0_1 a0_2 false _ A2.out).mono ?_); rintro e b7 ⟨rfl, hb⟩; refine ⟨_, rfl, ?_⟩; replace a3 := bQ a3 hb; replace HB := Aside0.mk (below_step bB hb); (try clear hb))))
 all_goals go_ret2
 all_goals (exact ⟨sE, bI⟩)

end Go.Proofs.YtcfknhmdhglmfaaDoor.PFnLaddersCross
