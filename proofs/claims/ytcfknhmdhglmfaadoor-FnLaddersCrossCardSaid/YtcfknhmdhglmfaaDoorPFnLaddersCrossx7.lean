-- Written by xprint.py, a program of this session, for this seat; Lean checks it.
import Derived.Test.YtcfknhmdhglmfaaDoorVM
import Derived.Test.YtcfknhmdhglmfaaDoorPFnLaddersCrossx0
import Derived.Test.YtcfknhmdhglmfaaDoorPFnLaddersCrossx2
import Derived.Test.YtcfknhmdhglmfaaDoorPFnLaddersCrossx3
import Derived.Test.YtcfknhmdhglmfaaDoorPFnLaddersCrossx6
namespace Go.Proofs.YtcfknhmdhglmfaaDoor.PFnLaddersCross
open Go.Proofs.YtcfknhmdhglmfaaDoorV Go.RowKit Go.Proofs.YtcfknhmdhglmfaaDoorW.PrintWords Go.Proofs.YtcfknhmdhglmfaaDoorW.PrintLast Go.Proofs.YtcfknhmdhglmfaaDoorW.PrintMore
attribute [local go_sem] max2_int min2_int max_two min_two max_three min_three max_four min_four   -- for this text's walks alone
set_option linter.unusedVariables false
set_option linter.unusedSimpArgs false

/-! ### impl_HighestAt: function 29 -/
def impl_HighestAt.j0 : Nat → Int → Bool → Int → Int → Int → Option (Int × Int × Bool)
  | 0, _, _, _, _, _ => none
  | k + 1, x1, x16, x301000, x301001, x301002 => if x16 = true then (some (0, 0, false)) else ((impl_heightAt.f x301000 x301001 x301002 false x1).bind fun t303 => ((impl_heightAt.f x301000 x301001 x301002 true x1).bind fun t304 => ((impl_fraction.f k (mx t303 t304) x301000).bind fun bt305 => (some (bt305.1, bt305.2.1, bt305.2.2)))))
def impl_HighestAt.f (k : Nat) (a0_0 : Int) (a0_1 : Int) (a0_2 : Int) (a1 : Int) : Option (Int × Int × Bool) := (impl_AreLadders.f a0_0 a0_1 a0_2).bind fun t301 => (if t301 = true then ((impl_within.f a1 0 a0_0).bind fun t302 => (impl_HighestAt.j0 k a1 (!t302) a0_0 a0_1 a0_2)) else (impl_HighestAt.j0 k a1 true a0_0 a0_1 a0_2))
theorem impl_HighestAt.mono_l : ∀ k, (∀ y0 y1 y2 y3 y4, LeO (impl_HighestAt.j0 k y0 y1 y2 y3 y4) (impl_HighestAt.j0 (k + 1) y0 y1 y2 y3 y4))
  | 0 => fun _ _ _ _ _ r h => by simp [impl_HighestAt.j0] at h
  | k + 1 => by
    have ih0 := impl_HighestAt.mono_l k
    · intro y0 y1 y2 y3 y4
      unfold impl_HighestAt.j0
      repeat' first
      | (with_reducible exact ih0 _ _ _ _ _)
      | (with_reducible exact impl_fraction.mono _ _ _)
      | (with_reducible exact LeO.refl _)
      | (with_reducible exact LeO.none _)
      | (with_reducible refine LeO.ite ?_ ?_)
      | (with_reducible refine LeO.bind ?_ (fun _ => ?_))
      | exact ih0 _ _ _ _ _
      | exact impl_fraction.mono _ _ _
      | exact LeO.none _
      | refine LeO.ite ?_ ?_
      | refine LeO.bind ?_ (fun _ => ?_)
theorem impl_HighestAt.mono : ∀ a0 a1 a2 a3 k, LeO (impl_HighestAt.f k a0 a1 a2 a3) (impl_HighestAt.f (k + 1) a0 a1 a2 a3) := by
  intro a0 a1 a2 a3 k
  have ih0 := impl_HighestAt.mono_l k
  unfold impl_HighestAt.f
  repeat' first
      | (with_reducible exact ih0 _ _ _ _ _)
      | (with_reducible exact impl_fraction.mono _ _ _)
      | (with_reducible exact LeO.refl _)
      | (with_reducible exact LeO.none _)
      | (with_reducible refine LeO.ite ?_ ?_)
      | (with_reducible refine LeO.bind ?_ (fun _ => ?_))
      | exact ih0 _ _ _ _ _
      | exact impl_fraction.mono _ _ _
      | exact LeO.none _
      | refine LeO.ite ?_ ?_
      | refine LeO.bind ?_ (fun _ => ?_)
def impl_HighestAt.T3 : Bool × List (List Nat × List Nat) := (true, [([], []), ([], []), ([0, 1], [0, 1]), ([], []), ([], []), ([3, 4, 2], [3, 4]), ([2, 5], [2, 5]), ([], []), ([7], [7]), ([6, 8, 5], [6, 8]), ([9], [9]), ([9], [9]), ([9], [9]), ([10, 9, 0, 1, 2, 3, 4, 5, 6, 7, 8, 9, 10, 11, 12], [10]), ([11, 13, 0, 1, 2, 3, 4, 5, 6, 7, 8, 9, 10, 11, 12, 13], [11]), ([12, 14, 0, 1, 2, 3, 4, 5, 6, 7, 8, 9, 10, 11, 12, 13, 14], [12])])
def impl_HighestAt.B3 : List Nat := [0, 0, 3, 0, 0, 31, 63, 0, 128, 511, 1023, 1023, 1023, 8191, 16383, 32767]
theorem impl_HighestAt.tab3 : rtab .any (opsOf Tryd.f29 3) = impl_HighestAt.T3 := by kernel_rfl
theorem impl_HighestAt.bits3 : waitsOk impl_HighestAt.T3.2 impl_HighestAt.B3 = true := by kernel_rfl
abbrev impl_HighestAt.pl0 : List (Nat × Option Tmp × Nat) := [q 1 18, q 4 21, q 7 24, qt 0 17, qt 3 20, qt 8 25, qo 2 19, qo 5 22, q 6 23, qo 9 26, q 10 27, q 11 28, q 12 29, q 13 4, q 14 5, q 15 6]
set_option maxHeartbeats 8000000 in
set_option maxRecDepth 100000 in
theorem impl_HighestAt.calls (k : Nat) (a0_0 : Int) (a0_1 : Int) (a0_2 : Int) (a1 : Int) (r1 : Int) (r2 : Int) (r3 : Bool) (w : World) (h : impl_HighestAt.f k a0_0 a0_1 a0_2 a1 = some (r1, r2, r3)) :
    Calls Tryd.prog 29 #[.agg #[.int .i64 a0_0, .int .i64 a0_1, .int .i64 a0_2], .int .i64 a1] w fun e w' => e = .returned (.tuple #[.int .i64 r1, .int .i64 r2, .bool r3]) ∧ Below w.heap.size w w' := by
 have e5 := Tryd.underlying25
 have HB := Aside0.mk (Below.refl w.heap.size w)
 have H := h
 unfold impl_HighestAt.f at H
 clear h
 have b2 := Aside0.mk H
 clear H
 go_enter Tryd.func29, Tryd.ntmps29
 go_upto_region 1 with (first | ((with_reducible refine gate_dst (N := 2) rfl ?_); refine box_ (cs := #[.int .i64 a0_0, .int .i64 a0_1, .int .i64 a0_2]) (t := 25) fun a6 hg w4 hbox hb => ?_; have a4 := Aside0.mk (hbox); have e3 := bS HB hg; have e4 := bS HB hg; replace HB := Aside0.mk (below_step bB hb); clear hb hbox hg))
 (try simp only [Act.put, List.setIfInBounds_toArray, List.set_cons_zero, List.set_cons_succ])
 go_cut [16] (fun d3 wc => ∃ (kq : Nat) (a7 : Bool), d3 = .bool a7 ∧ Aside0 (impl_HighestAt.j0 kq a1 a7 a0_0 a0_1 a0_2 = some (r1, r2, r3)) ∧ Aside0 (kq ≤ k) ∧ Aside0 (wc.heap[a6]? = some (.cells #[.int .i64 a0_0, .int .i64 a0_1, .int .i64 a0_2] 25 (0, 0))) ∧ Aside0 (Below w.heap.size w wc))
 case first => (
 have H := b2.out
 clear b2
 obtain ⟨b6, A5, H⟩ := bD H
 try dsimp only at H
 by_cases c6 : b6 = true
 ·(
 subst c6
 rw [if_pos rfl] at H
 obtain ⟨b3, A7, H⟩ := bD H
 try dsimp only at H
 have H' := Aside0.mk H
 clear H
 obtain ⟨d4, d5, d6, d7, d8, d9⟩ := cf3 a4
 go_wp2_with (first | ((with_reducible refine gate_callee (f := 20) rfl ?_); refine goesL_ (some 8) rfl rfl Tryd.func20 kr rfl #[.agg #[.int .i64 a0_0, .int .i64 a0_1, .int .i64 a0_2]] rfl sM ?_; (with_reducible refine (impl_AreLadders.calls a0_0 a0_1 a0_2 true _ A5.out).mono ?_); rintro e w9 ⟨rfl, hb⟩; refine ⟨_, rfl, ?_⟩; replace a4 := bQ a4 hb; replace HB := Aside0.mk (below_step bB hb); (try clear hb); obtain ⟨c0, c1, c2, c3, c4, c5⟩ := cf3 a4) | (go_at_call 51; (with_reducible refine (impl_within.calls a1 0 a0_0 b3 _ A7.out).mono ?_); rintro e w' ⟨rfl, ⟨nd, rfl⟩⟩))
 go_meet
 case rel => exact ⟨_, (!b3), sR, H', ⟨by first | omega | exact Nat.le_refl _⟩, (bA a4), ⟨bB⟩⟩
 )
 ·(
 replace c6 := Bool.eq_false_iff.mpr c6
 subst c6
 rw [if_neg nft] at H
 have H' := Aside0.mk H
 clear H
 obtain ⟨c7, c8, c9, d0, d1, d2⟩ := cf3 a4
 go_wp2_with (first | ((with_reducible refine gate_callee (f := 20) rfl ?_); refine goesL_ (some 8) rfl rfl Tryd.func20 kr rfl #[.agg #[.int .i64 a0_0, .int .i64 a0_1, .int .i64 a0_2]] rfl sM ?_; (with_reducible refine (impl_AreLadders.calls a0_0 a0_1 a0_2 false _ A5.out).mono ?_); rintro e e6 ⟨rfl, hb⟩; refine ⟨_, rfl, ?_⟩; replace a4 := bQ a4 hb; replace HB := Aside0.mk (below_step bB hb); (try clear hb)))
 go_meet
 case rel => exact ⟨_, (true), sR, H', ⟨by first | omega | exact Nat.le_refl _⟩, (bA a4), ⟨bB⟩⟩
 )
 )
 case rest => (
 clear b2
 obtain ⟨kq, a7, rfl, HA, HJ2, a4, HB⟩ := hcut
 cases kq with
 | zero => exact absurd HA.out (by simp [impl_HighestAt.j0])
 | succ e0 => (
 have H := HA.out
 clear HA
 simp only [impl_HighestAt.j0] at H
 by_cases b1 : a7 = true
 ·(
 subst b1
 rw [if_pos rfl] at H
 simp only [Option.some.injEq, Prod.mk.injEq] at H
 obtain ⟨rfl, rfl, rfl⟩ := H
 go_wp2
 go_ret3
 exact ⟨sE, bI⟩
 )
 ·(
 replace b1 := Bool.eq_false_iff.mpr b1
 subst b1
 rw [if_neg nft] at H
 obtain ⟨a8, b4, H⟩ := bD H
 try dsimp only at H
 obtain ⟨a9, b5, H⟩ := bD H
 try dsimp only at H
 obtain ⟨b0, a5⟩ : ∃ j_ : Int, (mx a8 a9) = j_ := ⟨_, rfl⟩
 (first | rw [a5] at H | simp only [a5] at H)
 (try rw [a5] at b4)
 (try rw [a5] at b5)
 have e1 : (if a8 < a9 then a9 else a8) = b0 := a5
 obtain ⟨⟨b7, b8, b9⟩, e2, H⟩ := bD H
 try dsimp only at H
 simp only [Option.some.injEq, Prod.mk.injEq] at H
 obtain ⟨rfl, rfl, rfl⟩ := H
 try go_wp2
 replace a4 := bD1 a4
 replace HB := Aside0.mk (below_drew1 HB.out)
 refine st_ 16 impl_HighestAt.pl0 (S := fun w' => w'.cell? ⟨a6, 0, none⟩ = some (.int .i64 a0_0) ∧ w'.cell? ⟨a6, 1, none⟩ = some (.int .i64 a0_1) ∧ w'.cell? ⟨a6, 2, none⟩ = some (.int .i64 a0_2)) (ds := []) impl_HighestAt.tab3 impl_HighestAt.bits3 cS (fun hHeld HT_ HW_ => ?_)
 generalize wc.drew = e7 at a4 HB hHeld ⊢
 iterate 6 (first | refine pA HT_ ?_ | refine pT HT_ HW_ hHeld ?_)
 refine pO HT_ fun K hK => ?_
 refine goes_ Tryd.func52 kr rfl #[.agg #[.int .i64 a0_0, .int .i64 a0_1, .int .i64 a0_2], .bool false, .int .i64 a1] (by rfl) rfl rfl sM ?_
 with_reducible refine (impl_heightAt.calls a0_0 a0_1 a0_2 false a1 a8 _ b4.out).mono ?_
 rintro e e8 ⟨rfl, hb⟩
 refine ⟨_, rfl, ?_⟩
 replace a4 := bQ a4 hb
 replace HB := Aside0.mk (below_step bB hb)
 try clear hb
 refine hK.out _ _ cS (fun hHeld => ?_)
 clear hK K
 refine nP ?_
 refine pO HT_ fun K hK => ?_
 refine goes_ Tryd.func52 kr rfl #[.agg #[.int .i64 a0_0, .int .i64 a0_1, .int .i64 a0_2], .bool true, .int .i64 a1] (by rfl) rfl rfl sM ?_
 with_reducible refine (impl_heightAt.calls a0_0 a0_1 a0_2 true a1 a9 _ b5.out).mono ?_
 rintro e e9 ⟨rfl, hb⟩
 refine ⟨_, rfl, ?_⟩
 replace a4 := bQ a4 hb
 replace HB := Aside0.mk (below_step bB hb)
 try clear hb
 refine hK.out _ _ cS (fun hHeld => ?_)
 clear hK K
 refine nP ?_
 refine pA HT_ ?_
 refine pO HT_ fun K hK => ?_
 refine goes_ Tryd.func37 kr rfl #[.int .i64 b0, .int .i64 a0_0] (by rfl) rfl rfl (by (try simp only [List.map_toArray, List.map_cons, List.map_nil]); first | done | (simp only [a5]; rfl) | rfl | (simp only [List.length_drop, List.length_take]; rfl)) ?_
 with_reducible refine (impl_fraction.calls e0 b0 a0_0 b7 b8 b9 _ e2.out).mono ?_
 rintro e g0 ⟨rfl, hb⟩
 refine ⟨_, rfl, ?_⟩
 replace a4 := bQ a4 hb
 replace HB := Aside0.mk (below_step bB hb)
 try clear hb
 refine hK.out _ _ cS (fun hHeld => ?_)
 clear hK K
 refine nP ?_
 iterate 6 refine pA HT_ ?_
 refine pD HT_ ?_
 try go_wp2
 (try rw [dSet])
 go_ret3
 exact ⟨by first | rfl | (simp [errW_none, errW_some] <;> rfl) | (simp only [← a5]; first | rfl | (simp [errW_none, errW_some] <;> rfl)) | (simp [*, errW_none, errW_some] <;> rfl), bI⟩
 )
 )
 )

/-! ### spec_HighestAt: function 30 -/
def spec_HighestAt.f (k : Nat) (a0_0 : Int) (a0_1 : Int) (a0_2 : Int) (a1 : Int) : Option (Int × Int × Bool) := (spec_clAsked.f a0_0 a0_1 a0_2 a1).bind fun t309 => (if t309 = true then ((spec_clAt.f a0_0 a0_1 a0_2 false a1).bind fun t310 => ((spec_clAt.f a0_0 a0_1 a0_2 true a1).bind fun t311 => ((spec_l1Most.f t310 t311).bind fun t312 => ((spec_clLow.f k t312 a0_0).bind fun bt313 => (some (bt313.1, bt313.2, true)))))) else (some (0, 0, false)))
theorem spec_HighestAt.mono : ∀ a0 a1 a2 a3 k, LeO (spec_HighestAt.f k a0 a1 a2 a3) (spec_HighestAt.f (k + 1) a0 a1 a2 a3) := by
  intro a0 a1 a2 a3 k
  unfold spec_HighestAt.f
  repeat' first
      | (with_reducible exact spec_clLow.mono _ _ _)
      | (with_reducible exact LeO.refl _)
      | (with_reducible exact LeO.none _)
      | (with_reducible refine LeO.ite ?_ ?_)
      | (with_reducible refine LeO.bind ?_ (fun _ => ?_))
      | exact spec_clLow.mono _ _ _
      | exact LeO.none _
      | refine LeO.ite ?_ ?_
      | refine LeO.bind ?_ (fun _ => ?_)
def spec_HighestAt.T3 : Bool × List (List Nat × List Nat) := (true, [([], []), ([], []), ([0, 1], [0, 1]), ([], []), ([], []), ([3, 4, 2], [3, 4]), ([2, 5, 5], [2, 5]), ([], []), ([7], [7]), ([6, 8, 6], [6, 8]), ([9], [9]), ([10], [10]), ([10], [10]), ([11, 9, 0, 1, 2, 3, 4, 5, 6, 7, 8, 9, 10, 11], [11]), ([12, 13, 0, 1, 2, 3, 4, 5, 6, 7, 8, 9, 10, 11, 12, 13], [12])])
def spec_HighestAt.B3 : List Nat := [0, 0, 3, 0, 0, 31, 63, 0, 128, 511, 1023, 2047, 2047, 4095, 16383]
theorem spec_HighestAt.tab3 : rtab .any (opsOf Tryd.f30 3) = spec_HighestAt.T3 := by kernel_rfl
theorem spec_HighestAt.bits3 : waitsOk spec_HighestAt.T3.2 spec_HighestAt.B3 = true := by kernel_rfl
abbrev spec_HighestAt.pl0 : List (Nat × Option Tmp × Nat) := [q 1 15, q 4 18, q 7 21, qt 0 14, qt 3 17, qt 8 22, qo 2 16, qo 5 19, qo 6 20, qo 9 23, q 10 13, q 11 24, q 12 25, q 13 7, q 14 8]
set_option maxHeartbeats 8000000 in
set_option maxRecDepth 100000 in
theorem spec_HighestAt.calls (k : Nat) (a0_0 : Int) (a0_1 : Int) (a0_2 : Int) (a1 : Int) (r1 : Int) (r2 : Int) (r3 : Bool) (w : World) (h : spec_HighestAt.f k a0_0 a0_1 a0_2 a1 = some (r1, r2, r3)) :
    Calls Tryd.prog 30 #[.agg #[.int .i64 a0_0, .int .i64 a0_1, .int .i64 a0_2], .int .i64 a1] w fun e w' => e = .returned (.tuple #[.int .i64 r1, .int .i64 r2, .bool r3]) ∧ Below w.heap.size w w' := by
 have c8 := Tryd.underlying25
 have HB := Aside0.mk (Below.refl w.heap.size w)
 have H := h
 unfold spec_HighestAt.f at H
 clear h
 obtain ⟨b1, A3, H⟩ := bD H
 try dsimp only at H
 by_cases c4 : b1 = true
 ·(
 subst c4
 rw [if_pos rfl] at H
 obtain ⟨a6, A5, H⟩ := bD H
 try dsimp only at H
 obtain ⟨a7, A6, H⟩ := bD H
 try dsimp only at H
 obtain ⟨a8, A7, H⟩ := bD H
 try dsimp only at H
 obtain ⟨⟨b2, b3⟩, A8, H⟩ := bD H
 try dsimp only at H
 simp only [Option.some.injEq, Prod.mk.injEq] at H
 obtain ⟨rfl, rfl, rfl⟩ := H
 go_enter Tryd.func30, Tryd.ntmps30
 try go_wp2_with (first | ((with_reducible refine gate_dst (N := 2) rfl ?_); refine box_ (cs := #[.int .i64 a0_0, .int .i64 a0_1, .int .i64 a0_2]) (t := 25) fun a5 hg w9 hbox hb => ?_; have a4 := Aside0.mk (hbox); have a9 := bS HB hg; have b0 := bS HB hg; replace HB := Aside0.mk (below_step bB hb); clear hb hbox hg; obtain ⟨b4, b5, b6, b7, b8, b9⟩ := cf3 a4) | ((with_reducible refine gate_callee (f := 53) rfl ?_); refine goesL_ (some 11) rfl rfl Tryd.func53 kr rfl #[.agg #[.int .i64 a0_0, .int .i64 a0_1, .int .i64 a0_2], .int .i64 a1] rfl sM ?_; (with_reducible refine (spec_clAsked.calls a0_0 a0_1 a0_2 a1 true _ A3.out).mono ?_); rintro e c7 ⟨rfl, hb⟩; refine ⟨_, rfl, ?_⟩; replace a4 := bQ a4 hb; replace HB := Aside0.mk (below_step bB hb); (try clear hb)))
 replace a4 := bD1 a4
 replace HB := Aside0.mk (below_drew1 HB.out)
 refine st_ 15 spec_HighestAt.pl0 (S := fun w' => w'.cell? ⟨a5, 0, none⟩ = some (.int .i64 a0_0) ∧ w'.cell? ⟨a5, 1, none⟩ = some (.int .i64 a0_1) ∧ w'.cell? ⟨a5, 2, none⟩ = some (.int .i64 a0_2)) (ds := []) spec_HighestAt.tab3 spec_HighestAt.bits3 cS (fun hHeld HT_ HW_ => ?_)
 generalize c7.drew = c9 at a4 HB hHeld ⊢
 iterate 6 (first | refine pA HT_ ?_ | refine pT HT_ HW_ hHeld ?_)
 refine pO HT_ fun K hK => ?_
 refine goes_ Tryd.func54 kr rfl #[.agg #[.int .i64 a0_0, .int .i64 a0_1, .int .i64 a0_2], .bool false, .int .i64 a1] (by rfl) rfl rfl sM ?_
 with_reducible refine (spec_clAt.calls a0_0 a0_1 a0_2 false a1 a6 _ A5.out).mono ?_
 rintro e d0 ⟨rfl, hb⟩
 refine ⟨_, rfl, ?_⟩
 replace a4 := bQ a4 hb
 replace HB := Aside0.mk (below_step bB hb)
 try clear hb
 refine hK.out _ _ cS (fun hHeld => ?_)
 clear hK K
 refine nP ?_
 refine pO HT_ fun K hK => ?_
 refine goes_ Tryd.func54 kr rfl #[.agg #[.int .i64 a0_0, .int .i64 a0_1, .int .i64 a0_2], .bool true, .int .i64 a1] (by rfl) rfl rfl sM ?_
 with_reducible refine (spec_clAt.calls a0_0 a0_1 a0_2 true a1 a7 _ A6.out).mono ?_
 rintro e d1 ⟨rfl, hb⟩
 refine ⟨_, rfl, ?_⟩
 replace a4 := bQ a4 hb
 replace HB := Aside0.mk (below_step bB hb)
 try clear hb
 refine hK.out _ _ cS (fun hHeld => ?_)
 clear hK K
 refine nP ?_
 refine pO HT_ fun K hK => ?_
 refine goes_ Tryd.func50 kr rfl #[.int .i64 a6, .int .i64 a7] (by rfl) rfl rfl sM ?_
 with_reducible refine (spec_l1Most.calls a6 a7 a8 _ A7.out).mono ?_
 rintro e w' ⟨rfl, ⟨nd, rfl⟩⟩
 refine ⟨_, rfl, ?_⟩
 refine hK.out _ _ cS (fun hHeld => ?_)
 clear hK K
 refine nP ?_
 refine pO HT_ fun K hK => ?_
 refine goes_ Tryd.func39 kr rfl #[.int .i64 a8, .int .i64 a0_0] (by rfl) rfl rfl sM ?_
 with_reducible refine (spec_clLow.calls k a8 a0_0 b2 b3 _ A8.out).mono ?_
 rintro e w' ⟨rfl, ⟨nd, rfl⟩⟩
 refine ⟨_, rfl, ?_⟩
 refine hK.out _ _ cS (fun hHeld => ?_)
 clear hK K
 refine nP ?_
 iterate 5 refine pA HT_ ?_
 refine pD HT_ ?_
 try go_wp2
 (try rw [dSet])
 go_ret3
 exact ⟨sE, bI⟩
 )
 ·(
 replace c4 := Bool.eq_false_iff.mpr c4
 subst c4
 rw [if_neg nft] at H
 simp only [Option.some.injEq, Prod.mk.injEq] at H
 obtain ⟨rfl, rfl, rfl⟩ := H
 go_enter Tryd.func30, Tryd.ntmps30
 go_wp2_with (first | ((with_reducible refine gate_dst (N := 2) rfl ?_); refine box_ (cs := #[.int .i64 a0_0, .int .i64 a0_1, .int .i64 a0_2]) (t := 25) fun a5 hg d2 hbox hb => ?_; have a4 := Aside0.mk (hbox); have a9 := bS HB hg; have b0 := bS HB hg; replace HB := Aside0.mk (below_step bB hb); clear hb hbox hg; obtain ⟨c0, c1, c2, c3, c5, c6⟩ := cf3 a4) | ((with_reducible refine gate_callee (f := 53) rfl ?_); refine goesL_ (some 11) rfl rfl Tryd.func53 kr rfl #[.agg #[.int .i64 a0_0, .int .i64 a0_1, .int .i64 a0_2], .int .i64 a1] rfl sM ?_; (with_reducible refine (spec_clAsked.calls a0_0 a0_1 a0_2 a1 false _ A3.out).mono ?_); rintro e d3 ⟨rfl, hb⟩; refine ⟨_, rfl, ?_⟩; replace a4 := bQ a4 hb; replace HB := Aside0.mk (below_step bB hb); (try clear hb)))
 go_ret3
 exact ⟨sE, bI⟩
 )

/-! ### spec_DrawOtherHeight: function 31 -/
-- (its text lies ahead)

/-! ### spec_OtherHeight: function 32 -/
def spec_OtherHeight.j0 : Nat → Int → Int → Int → Bool → Option (Int × Int × Bool)
  | 0, _, _, _, _ => none
  | k + 1, x0, x1, x2, x30 => if x30 = true then (some (0, 0, false)) else ((spec_clLow.f k (wrap64 (x0 * x1)) (wrap64 ((wrap64 (x0 * x2)) - x1))).bind fun bt318 => (some (bt318.1, bt318.2, true)))
def spec_OtherHeight.f (k : Nat) (a0 : Int) (a1 : Int) (a2 : Int) : Option (Int × Int × Bool) := (spec_l1In.f a0 1 1000).bind fun t315 => (if t315 = true then ((spec_l1In.f a1 1 1000).bind fun t316 => (if t316 = true then ((spec_l1In.f a2 1 1000).bind fun t317 => (if t317 = true then (spec_OtherHeight.j0 k a0 a1 a2 (decide (a1 ≥ (wrap64 (a0 * a2))))) else (spec_OtherHeight.j0 k a0 a1 a2 true))) else (spec_OtherHeight.j0 k a0 a1 a2 true))) else (spec_OtherHeight.j0 k a0 a1 a2 true))
theorem spec_OtherHeight.mono_l : ∀ k, (∀ y0 y1 y2 y3, LeO (spec_OtherHeight.j0 k y0 y1 y2 y3) (spec_OtherHeight.j0 (k + 1) y0 y1 y2 y3))
  | 0 => fun _ _ _ _ r h => by simp [spec_OtherHeight.j0] at h
  | k + 1 => by
    have ih0 := spec_OtherHeight.mono_l k
    · intro y0 y1 y2 y3
      unfold spec_OtherHeight.j0
      repeat' first
      | (with_reducible exact ih0 _ _ _ _)
      | (with_reducible exact spec_clLow.mono _ _ _)
      | (with_reducible exact LeO.refl _)
      | (with_reducible exact LeO.none _)
      | (with_reducible refine LeO.ite ?_ ?_)
      | (with_reducible refine LeO.bind ?_ (fun _ => ?_))
      | exact ih0 _ _ _ _
      | exact spec_clLow.mono _ _ _
      | exact LeO.none _
      | refine LeO.ite ?_ ?_
      | refine LeO.bind ?_ (fun _ => ?_)
theorem spec_OtherHeight.mono : ∀ a0 a1 a2 k, LeO (spec_OtherHeight.f k a0 a1 a2) (spec_OtherHeight.f (k + 1) a0 a1 a2) := by
  intro a0 a1 a2 k
  have ih0 := spec_OtherHeight.mono_l k
  unfold spec_OtherHeight.f
  repeat' first
      | (with_reducible exact ih0 _ _ _ _)
      | (with_reducible exact spec_clLow.mono _ _ _)
      | (with_reducible exact LeO.refl _)
      | (with_reducible exact LeO.none _)
      | (with_reducible refine LeO.ite ?_ ?_)
      | (with_reducible refine LeO.bind ?_ (fun _ => ?_))
      | exact ih0 _ _ _ _
      | exact spec_clLow.mono _ _ _
      | exact LeO.none _
      | refine LeO.ite ?_ ?_
      | refine LeO.bind ?_ (fun _ => ?_)
set_option maxHeartbeats 8000000 in
set_option maxRecDepth 100000 in
theorem spec_OtherHeight.calls (k : Nat) (a0 : Int) (a1 : Int) (a2 : Int) (r1 : Int) (r2 : Int) (r3 : Bool) (w : World) (h : spec_OtherHeight.f k a0 a1 a2 = some (r1, r2, r3)) :
    Calls Tryd.prog 32 #[.int .i64 a0, .int .i64 a1, .int .i64 a2] w fun e w' => e = .returned (.tuple #[.int .i64 r1, .int .i64 r2, .bool r3]) ∧ Drawn0 w w' := by
 have H := h
 unfold spec_OtherHeight.f at H
 clear h
 have a7 := Aside0.mk H
 clear H
 go_enter Tryd.func32, Tryd.ntmps32
 go_upto_region 1 with (fail)
 go_cut [30] (fun b3 wc => ∃ (kq : Nat) (a4 : Bool), b3 = .bool a4 ∧ Aside0 (spec_OtherHeight.j0 kq a0 a1 a2 a4 = some (r1, r2, r3)) ∧ Aside0 (kq ≤ k) ∧ Drawn0 w wc)
 case first => (
 have H := a7.out
 clear a7
 obtain ⟨a8, A5, H⟩ := bD H
 try dsimp only at H
 by_cases c6 : a8 = true
 subst c6
 rw [if_pos rfl] at H
 obtain ⟨a9, A7, H⟩ := bD H
 try dsimp only at H
 by_cases c8 : a9 = true
 subst c8
 rw [if_pos rfl] at H
 obtain ⟨b0, A9, H⟩ := bD H
 try dsimp only at H
 by_cases a5 : b0 = true
 subst a5
 rw [if_pos rfl] at H
 have H' := Aside0.mk H
 clear H
 rotate_left
 replace a5 := Bool.eq_false_iff.mpr a5
 subst a5
 rw [if_neg nft] at H
 have H' := Aside0.mk H
 clear H
 rotate_left
 replace c8 := Bool.eq_false_iff.mpr c8
 subst c8
 rw [if_neg nft] at H
 have H' := Aside0.mk H
 clear H
 rotate_left
 replace c6 := Bool.eq_false_iff.mpr c6
 subst c6
 rw [if_neg nft] at H
 have H' := Aside0.mk H
 clear H
 rotate_left
 all_goals (go_wp2_with (first | ((with_reducible refine gate_callee (f := 56) rfl ?_); refine goesL_ (some 12) rfl rfl Tryd.func56 kr rfl #[.int .i64 a0, .int .i64 1, .int .i64 1000] rfl sM ?_; (with_reducible refine (spec_l1In.calls a0 1 1000 true _ A5.out).mono ?_); rintro e w' ⟨rfl, ⟨nd, rfl⟩⟩; refine ⟨_, rfl, ?_⟩) | (go_at_call 56; (with_reducible refine (spec_l1In.calls a1 1 1000 true _ A7.out).mono ?_); rintro e w' ⟨rfl, ⟨nd, rfl⟩⟩) | (go_at_call 56; (with_reducible refine (spec_l1In.calls a2 1 1000 true _ A9.out).mono ?_); rintro e w' ⟨rfl, ⟨nd, rfl⟩⟩) | (go_at_call 56; (with_reducible refine (spec_l1In.calls a2 1 1000 false _ A9.out).mono ?_); rintro e w' ⟨rfl, ⟨nd, rfl⟩⟩) | (go_at_call 56; (with_reducible refine (spec_l1In.calls a1 1 1000 false _ A7.out).mono ?_); rintro e w' ⟨rfl, ⟨nd, rfl⟩⟩) | ((with_reducible refine gate_callee (f := 56) rfl ?_); refine goesL_ (some 12) rfl rfl Tryd.func56 kr rfl #[.int .i64 a0, .int .i64 1, .int .i64 1000] rfl sM ?_; (with_reducible refine (spec_l1In.calls a0 1 1000 false _ A5.out).mono ?_); rintro e w' ⟨rfl, ⟨nd, rfl⟩⟩; refine ⟨_, rfl, ?_⟩)))
 all_goals go_meet
 · case rel => exact ⟨_, (decide (a1 ≥ (wrap64 (a0 * a2)))), sR, H', ⟨by first | omega | exact Nat.le_refl _⟩, by repeat (first | exact Drawn0.refl _ | apply Drawn0.step)⟩
 · case rel => exact ⟨_, (true), sR, H', ⟨by first | omega | exact Nat.le_refl _⟩, by repeat (first | exact Drawn0.refl _ | apply Drawn0.step)⟩
 · case rel => exact ⟨_, (true), sR, H', ⟨by first | omega | exact Nat.le_refl _⟩, by repeat (first | exact Drawn0.refl _ | apply Drawn0.step)⟩
 · case rel => exact ⟨_, (true), sR, H', ⟨by first | omega | exact Nat.le_refl _⟩, by repeat (first | exact Drawn0.refl _ | apply Drawn0.step)⟩
 )
 case rest => (
 clear a7
 obtain ⟨kq, a4, rfl, HA, HJ3, ⟨b6, rfl⟩⟩ := hcut
 cases kq with
 | zero => exact absurd HA.out (by simp [spec_OtherHeight.j0])
 | succ b4 => (
 have H := HA.out
 clear HA
 simp only [spec_OtherHeight.j0] at H
 by_cases a6 : a4 = true
 ·(
 subst a6
 rw [if_pos rfl] at H
 simp only [Option.some.injEq, Prod.mk.injEq] at H
 obtain ⟨rfl, rfl, rfl⟩ := H
 go_wp2
 go_ret3
 exact ⟨by first | rfl | (simp; done) | (simp [*]; done), by repeat (first | exact Drawn0.refl _ | apply Drawn0.step)⟩
 )
 ·(
 replace a6 := Bool.eq_false_iff.mpr a6
 subst a6
 rw [if_neg nft] at H
 obtain ⟨⟨b1, b2⟩, b5, H⟩ := bD H
 try dsimp only at H
 simp only [Option.some.injEq, Prod.mk.injEq] at H
 obtain ⟨rfl, rfl, rfl⟩ := H
 go_wp2_with (first | ((with_reducible refine gate_callee (f := 39) rfl ?_); refine goesL_ (some 40) rfl rfl Tryd.func39 kr rfl #[.int .i64 (wrap64 (a0 * a1)), .int .i64 (wrap64 ((wrap64 (a0 * a2)) - a1))] rfl sM ?_; (with_reducible refine (spec_clLow.calls b4 (wrap64 (a0 * a1)) (wrap64 ((wrap64 (a0 * a2)) - a1)) b1 b2 _ b5.out).mono ?_); rintro e w' ⟨rfl, ⟨nd, rfl⟩⟩; refine ⟨_, rfl, ?_⟩))
 go_ret3
 exact ⟨by first | rfl | (simp; done) | (simp [*]; done), by repeat (first | exact Drawn0.refl _ | apply Drawn0.step)⟩
 )
 )
 )

/-! ### spec_DrawMoveWall: function 33 -/
-- (its text lies ahead)

end Go.Proofs.YtcfknhmdhglmfaaDoor.PFnLaddersCross
