-- Written by xprint.py, a program of this session, for this seat; Lean checks it.
import Derived.Test.YtlmiaadpnbehgaaDoorVM
import Derived.Test.YtlmiaadpnbehgaaDoorPFnBeamsEndOfAllx0
import Derived.Test.YtlmiaadpnbehgaaDoorPFnBeamsEndOfAllx3
import Derived.Test.YtlmiaadpnbehgaaDoorPFnBeamsEndOfAllx6
import Derived.Test.YtlmiaadpnbehgaaDoorPFnBeamsEndOfAllx13
namespace Go.Proofs.YtlmiaadpnbehgaaDoor.PFnBeamsEndOfAll
open Go.Proofs.YtlmiaadpnbehgaaDoorV Go.RowKit Go.Proofs.YtlmiaadpnbehgaaDoorW.PrintWords Go.Proofs.YtlmiaadpnbehgaaDoorW.PrintLast Go.Proofs.YtlmiaadpnbehgaaDoorW.PrintMore
attribute [local go_sem] max2_int min2_int max_two min_two max_three min_three max_four min_four   -- for this text's walks alone
set_option linter.unusedVariables false
set_option linter.unusedSimpArgs false

/-! ### impl_TableText: function 18 -/
def impl_TableText.f (a0_0 : Int) (a0_1 : Int) : Option (ByteArray × Bool) := (impl_IsTable.f a0_0 a0_1).bind fun t308 => (if t308 = true then ((impl_text.f a0_0).bind fun t309 => (if t309.size + 1 ≤ 9223372036854775807 then ((impl_text.f a0_1).bind fun t310 => (if (t309 ++ (⟨#[120]⟩ : ByteArray)).size + t310.size ≤ 9223372036854775807 then (some ((t309 ++ (⟨#[120]⟩ : ByteArray)) ++ t310, true)) else (none))) else (none))) else (some ((⟨#[]⟩ : ByteArray), false)))
def impl_TableText.T3 : Bool × List (List Nat × List Nat) := (true, [([], []), ([0], [0]), ([1], [1]), ([2], [2]), ([], []), ([4], [4]), ([5, 2], [5]), ([3, 6], [3, 6]), ([7, 6, 0, 1, 2, 3, 4, 5, 6, 7], [7]), ([8, 0, 1, 2, 3, 4, 5, 6, 7, 8], [])])
def impl_TableText.B3 : List Nat := [0, 1, 3, 7, 0, 16, 55, 127, 255, 511]
theorem impl_TableText.tab3 : rtab .any (opsOf Tryd.f18 3) = impl_TableText.T3 := by kernel_rfl
theorem impl_TableText.bits3 : waitsOk impl_TableText.T3.2 impl_TableText.B3 = true := by kernel_rfl
abbrev impl_TableText.pl0 : List (Nat × Option Tmp × Nat) := [q 0 7, q 4 11, qt 1 8, qt 5 12, qo 2 9, q 3 10, qo 6 13, q 7 14, q 8 2, q 9 3]
set_option maxHeartbeats 8000000 in
set_option maxRecDepth 100000 in
theorem impl_TableText.calls (a0_0 : Int) (a0_1 : Int) (r1 : ByteArray) (r2 : Bool) (w : World) (h : impl_TableText.f a0_0 a0_1 = some (r1, r2)) (hw_ : PtW w) :
    Calls Tryd.prog 18 #[.agg #[.int .i64 a0_0, .int .i64 a0_1]] w fun e w' => e = .returned (.tuple #[.string r1, .bool r2]) ∧ Below w.heap.size w w' := by
 have HM := Aside0.mk hw_
 clear hw_
 have b8 := Tryd.underlying23
 have HB := Aside0.mk (Below.refl w.heap.size w)
 have H := h
 unfold impl_TableText.f at H
 clear h
 obtain ⟨a8, A2, H⟩ := bD H
 try dsimp only at H
 by_cases c3 : a8 = true
 ·(
 subst c3
 rw [if_pos rfl] at H
 obtain ⟨a3, A4, H⟩ := bD H
 try dsimp only at H
 by_cases c5 : a3.size + 1 ≤ 9223372036854775807
 ·(
 rw [if_pos c5] at H
 have b9 := eq_true c5
 have c0 : decide (a3.size + 1 ≤ 9223372036854775807) = true := decide_eq_true c5
 try have c1 : (9223372036854775807 < a3.size + 1) = False := eq_false (Nat.not_lt.2 c5)
 obtain ⟨a4, A6, H⟩ := bD H
 try dsimp only at H
 by_cases c7 : (a3 ++ (⟨#[120]⟩ : ByteArray)).size + a4.size ≤ 9223372036854775807
 ·(
 rw [if_pos c7] at H
 have c2 := eq_true c7
 have c4 : decide ((a3 ++ (⟨#[120]⟩ : ByteArray)).size + a4.size ≤ 9223372036854775807) = true := decide_eq_true c7
 try have c6 : (9223372036854775807 < (a3 ++ (⟨#[120]⟩ : ByteArray)).size + a4.size) = False := eq_false (Nat.not_lt.2 c7)
 try have c8 : (9223372036854775807 < a3.size + 1 + a4.size) = False := eq_false (Nat.not_lt.2 (by have z_ := c7; rw [ByteArray.size_append] at z_; exact z_))
 simp only [Option.some.injEq, Prod.mk.injEq] at H
 obtain ⟨rfl, rfl⟩ := H
 go_enter Tryd.func18, Tryd.ntmps18
 try go_wp2_with (first | ((with_reducible refine gate_dst (N := 1) rfl ?_); refine box_ (cs := #[.int .i64 a0_0, .int .i64 a0_1]) (t := 23) fun a5 hg w8 hbox hb => ?_; have a2 := Aside0.mk (hbox); have a6 := bS HB hg; have a7 := bS HB hg; replace HB := Aside0.mk (below_step bB hb); clear hb hbox hg; obtain ⟨b3, b4, b5, b6⟩ := cf2 a2) | ((with_reducible refine gate_callee (f := 25) rfl ?_); refine goesL_ (some 5) rfl rfl Tryd.func25 kr rfl #[.agg #[.int .i64 a0_0, .int .i64 a0_1]] rfl sM ?_; (with_reducible refine (impl_IsTable.calls a0_0 a0_1 true _ A2.out).mono ?_); rintro e b7 ⟨rfl, hb⟩; refine ⟨_, rfl, ?_⟩; replace a2 := bQ a2 hb; replace HB := Aside0.mk (below_step bB hb); (try clear hb)))
 replace a2 := bD1 a2
 replace HB := Aside0.mk (below_drew1 HB.out)
 refine st_ 10 impl_TableText.pl0 (S := fun w' => w'.cell? ⟨a5, 0, none⟩ = some (.int .i64 a0_0) ∧ w'.cell? ⟨a5, 1, none⟩ = some (.int .i64 a0_1)) (ds := []) impl_TableText.tab3 impl_TableText.bits3 cS (fun hHeld HT_ HW_ => ?_)
 generalize b7.drew = c9 at a2 HB hHeld ⊢
 iterate 4 (first | refine pA HT_ ?_ | refine pT HT_ HW_ hHeld ?_)
 refine pO HT_ fun K hK => ?_
 refine goes_ Tryd.func41 kr rfl #[.int .i64 a0_0] (by rfl) rfl rfl sM ?_
 with_reducible refine (impl_text.calls a0_0 a3 _ A4.out (HM.out.below (by repeat (first | (with_reducible first | exact HB.out | apply below_alloc | apply pw_below_drewN | apply below_drew1 | refine below_set ?_ (Aside0.out (by assumption))) | exact HB.out)))).mono ?_
 rintro e d0 ⟨rfl, hb⟩
 refine ⟨_, rfl, ?_⟩
 replace a2 := bQ a2 hb
 replace HB := Aside0.mk (below_step bB hb)
 try clear hb
 refine hK.out _ _ cS (fun hHeld => ?_)
 clear hK K
 refine nP ?_
 refine pA HT_ ?_
 refine pO HT_ fun K hK => ?_
 refine goes_ Tryd.func41 kr rfl #[.int .i64 a0_1] (by rfl) rfl rfl sM ?_
 with_reducible refine (impl_text.calls a0_1 a4 _ A6.out (HM.out.below (by repeat (first | (with_reducible first | exact HB.out | apply below_alloc | apply pw_below_drewN | apply below_drew1 | refine below_set ?_ (Aside0.out (by assumption))) | exact HB.out)))).mono ?_
 rintro e d1 ⟨rfl, hb⟩
 refine ⟨_, rfl, ?_⟩
 replace a2 := bQ a2 hb
 replace HB := Aside0.mk (below_step bB hb)
 try clear hb
 refine hK.out _ _ cS (fun hHeld => ?_)
 clear hK K
 refine nP ?_
 iterate 3 refine pA HT_ ?_
 refine pD HT_ ?_
 try go_wp2
 (try rw [dSet])
 go_ret2
 exact ⟨sE, bI⟩
 )
 ·(
 rw [if_neg c7] at H
 exact absurd H (by simp)
 )
 )
 ·(
 rw [if_neg c5] at H
 exact absurd H (by simp)
 )
 )
 ·(
 replace c3 := Bool.eq_false_iff.mpr c3
 subst c3
 rw [if_neg nft] at H
 simp only [Option.some.injEq, Prod.mk.injEq] at H
 obtain ⟨rfl, rfl⟩ := H
 go_enter Tryd.func18, Tryd.ntmps18
 go_wp2_with (first | ((with_reducible refine gate_dst (N := 1) rfl ?_); refine box_ (cs := #[.int .i64 a0_0, .int .i64 a0_1]) (t := 23) fun a5 hg d2 hbox hb => ?_; have a2 := Aside0.mk (hbox); have a6 := bS HB hg; have a7 := bS HB hg; replace HB := Aside0.mk (below_step bB hb); clear hb hbox hg; obtain ⟨a9, b0, b1, b2⟩ := cf2 a2) | ((with_reducible refine gate_callee (f := 25) rfl ?_); refine goesL_ (some 5) rfl rfl Tryd.func25 kr rfl #[.agg #[.int .i64 a0_0, .int .i64 a0_1]] rfl sM ?_; (with_reducible refine (impl_IsTable.calls a0_0 a0_1 false _ A2.out).mono ?_); rintro e d3 ⟨rfl, hb⟩; refine ⟨_, rfl, ?_⟩; replace a2 := bQ a2 hb; replace HB := Aside0.mk (below_step bB hb); (try clear hb)))
 go_ret2
 exact ⟨sE, bI⟩
 )

/-! ### spec_l1Num: function 59 -/
def spec_l1Num.f : Nat → Int → Option (ByteArray)
  | 0, _ => none
  | k + 1, a0 => if a0 < 10 then (some (strOfNums (([(wrap64 (48 + a0)) % 256] : List Int)))) else ((spec_l1Num.f k (wrap64 (Int.tdiv a0 10))).bind fun t314 => ((some (([(wrap64 (48 + (Int.tmod a0 10))) % 256] : List Int) : List Int)).bind fun y315 => (if t314.size + (strOfNums y315).size ≤ 9223372036854775807 then (some (t314 ++ (strOfNums y315))) else (none))))
theorem spec_l1Num.mono_l : ∀ k, (∀ y0, LeO (spec_l1Num.f k y0) (spec_l1Num.f (k + 1) y0))
  | 0 => fun _ r h => by simp [spec_l1Num.f] at h
  | k + 1 => by
    have ih0 := spec_l1Num.mono_l k
    · intro y0
      unfold spec_l1Num.f
      repeat' first
      | (with_reducible exact ih0 _)
      | (with_reducible exact LeO.refl _)
      | (with_reducible exact LeO.none _)
      | (with_reducible refine LeO.ite ?_ ?_)
      | (with_reducible refine LeO.bind ?_ (fun _ => ?_))
      | exact ih0 _
      | exact LeO.none _
      | refine LeO.ite ?_ ?_
      | refine LeO.bind ?_ (fun _ => ?_)
theorem spec_l1Num.mono : ∀ a0 k, LeO (spec_l1Num.f k a0) (spec_l1Num.f (k + 1) a0) := by
  intro a0 k
  have ih0 := spec_l1Num.mono_l k
  exact ih0 a0
def spec_l1Num.T3 : Bool × List (List Nat × List Nat) := (true, [([], []), ([0], [0]), ([1], [1]), ([], []), ([3], [3]), ([4], [4]), ([5], [5]), ([6], [6]), ([7], [7]), ([2, 8], [2, 8]), ([9, 2, 0, 1, 2, 3, 4, 5, 6, 7, 8, 9], [9])])
def spec_l1Num.B3 : List Nat := [0, 1, 3, 0, 8, 24, 56, 120, 248, 511, 1023]
theorem spec_l1Num.tab3 : rtab .any (opsOf Tryd.f59 3) = spec_l1Num.T3 := by kernel_rfl
theorem spec_l1Num.bits3 : waitsOk spec_l1Num.T3.2 spec_l1Num.B3 = true := by kernel_rfl
set_option maxHeartbeats 8000000 in
set_option maxRecDepth 100000 in
theorem spec_l1Num.calls (k : Nat) : ∀ (a0 : Int) (r : ByteArray) (w : World) (h : spec_l1Num.f k a0 = some r),
    Calls Tryd.prog 59 #[.int .i64 a0] w fun e w' => e = .returned (.string r) ∧ Below w.heap.size w w' := by
 induction k using Nat.strongRecOn with
 | _ k ih =>
 intro a0 r w h
 cases k with
 | zero => exact absurd h (by simp [spec_l1Num.f])
 | succ k =>
 simp only [spec_l1Num.f] at h
 have HB := Aside0.mk (Below.refl w.heap.size w)
 have H := h
 clear h
 by_cases c2 : a0 < 10
 ·(
 rw [if_pos c2] at H
 have c0 : decide (a0 < 10) = true := decide_eq_true c2
 clear c2
 obtain ⟨c1, a5⟩ : ∃ y_ : List Int, y_ = (([(wrap64 (48 + a0)) % 256] : List Int)) := ⟨_, rfl⟩
 replace H : (some (strOfNums c1)) = some r := by first | (rw [a5]; with_reducible exact H) | (have a9 := (Option.bind_some _ _).symm.trans H; rw [a5]; with_reducible exact a9) | (have a9 := (Option.bind_some _ _).symm.trans H; with_reducible exact a9) | with_reducible exact H | (rw [a5]; exact H) | exact H
 have b4 := Aside0.mk a5
 clear a5
 obtain rfl := Option.some.inj H
 go_enter Tryd.func59, Tryd.ntmps59
 go_wp2_with (first | ((with_reducible refine gate_dst (N := 8) rfl ?_); refine Kd.R_lit (Kd.int .u8) _ 5 ?hg (N := 8) ?hd (xs := ([(wrap64 (48 + a0)) % 256] : List Int)) (inner := [.int .u8 ((wrap64 (48 + a0)) % 256)]) (ok := fun _ => True) (okp := fun _ => True) ?hr ?hp (fun _ hk => hk) trivial (Below.refl _ _) (Nat.le_refl _) (by simp) ?_; (case hd => rfl); (case hg => rfl); (case hr => first | (go_simp; done) | (go_simp; rfl)); (case hp => exact (Reps.one (show Kd.M (Kd.int .u8) _ _ _ ((wrap64 (48 + a0)) % 256) [.int .u8 ((wrap64 (48 + a0)) % 256)] from rfl) (Reps.none _ _))); intro c3 w3 b3 hb hg_ hnew_; clear hg_ hnew_; (first | rw [← b4.out] at b3 | (simp only [Int.reduceToNat] at b3; rw [← b4.out] at b3)); have b5 := Aside0.mk (Kd.R_lower b3 (below_size bB)); replace HB := Aside0.mk (below_step bB hb); clear hb b3; have c4 := own_string (P := Tryd.prog) Tryd.underlying82 Tryd.underlying5 Tryd.underlying9 (Kd.own_of_R b5.out)))
 go_ret
 exact ⟨sE, bI⟩
 )
 ·(
 rw [if_neg c2] at H
 have c0 : decide (a0 < 10) = false := decide_eq_false c2
 clear c2
 obtain ⟨a3, A6, H⟩ := bD H
 try dsimp only at H
 obtain ⟨a4, a6⟩ : ∃ y_ : List Int, y_ = (([(wrap64 (48 + (Int.tmod a0 10))) % 256] : List Int)) := ⟨_, rfl⟩
 replace H : (if a3.size + (strOfNums a4).size ≤ 9223372036854775807 then (some (a3 ++ (strOfNums a4))) else (none)) = some r := by first | (rw [a6]; with_reducible exact H) | (have a9 := (Option.bind_some _ _).symm.trans H; rw [a6]; with_reducible exact a9) | (have a9 := (Option.bind_some _ _).symm.trans H; with_reducible exact a9) | with_reducible exact H | (rw [a6]; exact H) | exact H
 have a8 := Aside0.mk a6
 clear a6
 by_cases c7 : a3.size + (strOfNums a4).size ≤ 9223372036854775807
 ·(
 rw [if_pos c7] at H
 have c5 := eq_true c7
 have c6 : decide (a3.size + (strOfNums a4).size ≤ 9223372036854775807) = true := decide_eq_true c7
 try have c8 : (9223372036854775807 < a3.size + (strOfNums a4).size) = False := eq_false (Nat.not_lt.2 c7)
 obtain rfl := Option.some.inj H
 go_enter Tryd.func59, Tryd.ntmps59
 try go_wp2
 replace HB := Aside0.mk (below_drew1 HB.out)
 refine start_ (n := 11) (S := fun w' => True) (ds := []) #[false, false, false, false, false, false, false, false, false, false, false] kr rfl rfl trivial (fun hHeld => ?_); refine with_tabW spec_l1Num.tab3 spec_l1Num.bits3 (fun HT_ HW_ => ?_)
 generalize w.drew = w8 at HB hHeld ⊢
 refine pure_ (i := 0) (N := some 10) (v := ?_) (a' := ?_) #[true, false, false, false, false, false, false, false, false, false, false] rfl rfl (any_of HT_.out kr) (fun _ _ _ h => h) (Or.inl ⟨by rfl, ?_⟩) ?_ ?_
 rotate_left
 ·(
 intro w'
 go_simp
 with_reducible rfl
 )
 rotate_left
 ·(
 simp only [Act.put, List.setIfInBounds_toArray, List.set_cons_zero, List.set_cons_succ, i64_w, i32_w]
 rfl
 )
 refine pure_ (i := 1) (N := some 11) (v := ?_) (a' := ?_) #[true, true, false, false, false, false, false, false, false, false, false] rfl rfl (any_of HT_.out kr) (fun _ _ _ h => h) (Or.inl ⟨by rfl, ?_⟩) ?_ ?_
 rotate_left
 ·(
 intro w'
 go_simp
 with_reducible rfl
 )
 rotate_left
 ·(
 simp only [Act.put, List.setIfInBounds_toArray, List.set_cons_zero, List.set_cons_succ, i64_w, i32_w]
 rfl
 )
 refine pure_ (i := 3) (N := some 13) (v := ?_) (a' := ?_) #[true, true, false, true, false, false, false, false, false, false, false] rfl rfl (any_of HT_.out kr) (fun _ _ _ h => h) (Or.inl ⟨by rfl, ?_⟩) ?_ ?_
 rotate_left
 ·(
 intro w'
 go_simp
 with_reducible rfl
 )
 rotate_left
 ·(
 simp only [Act.put, List.setIfInBounds_toArray, List.set_cons_zero, List.set_cons_succ, i64_w, i32_w]
 rfl
 )
 refine pure_ (i := 4) (N := some 14) (v := ?_) (a' := ?_) #[true, true, false, true, true, false, false, false, false, false, false] rfl rfl (any_of HT_.out kr) (fun _ _ _ h => h) (Or.inl ⟨by rfl, ?_⟩) ?_ ?_
 rotate_left
 ·(
 intro w'
 go_simp
 with_reducible rfl
 )
 rotate_left
 ·(
 simp only [Act.put, List.setIfInBounds_toArray, List.set_cons_zero, List.set_cons_succ, i64_w, i32_w]
 rfl
 )
 refine pure_ (i := 5) (N := some 15) (v := ?_) (a' := ?_) #[true, true, false, true, true, true, false, false, false, false, false] rfl rfl (any_of HT_.out kr) (fun _ _ _ h => h) (Or.inl ⟨by rfl, ?_⟩) ?_ ?_
 rotate_left
 ·(
 intro w'
 go_simp
 with_reducible rfl
 )
 rotate_left
 ·(
 simp only [Act.put, List.setIfInBounds_toArray, List.set_cons_zero, List.set_cons_succ, i64_w, i32_w]
 rfl
 )
 refine pure_ (i := 6) (N := some 16) (v := ?_) (a' := ?_) #[true, true, false, true, true, true, true, false, false, false, false] rfl rfl (any_of HT_.out kr) (fun _ _ _ h => h) (Or.inl ⟨by rfl, ?_⟩) ?_ ?_
 rotate_left
 ·(
 intro w'
 go_simp
 with_reducible rfl
 )
 rotate_left
 ·(
 simp only [Act.put, List.setIfInBounds_toArray, List.set_cons_zero, List.set_cons_succ, i64_w, i32_w]
 rfl
 )
 refine join_ (σ := Value) 2 #[true, true, true, true, true, true, true, true, true, false, false] (fun s_ => [(12, .string a3), (17, s_), (18, .string (strOfNums a4))]) (fun s_ w' => (Kd.R (Kd.int .u8) 5 w' w.heap.size (fun _ => True) s_ a4) ∧ (Below w.heap.size w w')) ?_ ?_
 rotate_left
 ·(
 intro hCont
 refine two_ (i := 2) (j := 7) (Ni := some 12) (Nj := some 17) #[true, true, true, true, true, true, true, false, false, false, false] #[true, true, false, true, true, true, true, true, false, false, false] rfl rfl rfl rfl (two_of HT_.out kr) (by decide) (by decide) (fun K hK => ?_) (fun K hK => ?_)
 ·(
 skip
 refine goes_ Tryd.func59 kr rfl #[.int .i64 (wrap64 (Int.tdiv a0 10))] (by rfl) rfl rfl sM ?_
 with_reducible refine (ih k (by omega) (wrap64 (Int.tdiv a0 10)) a3 _ A6.out).mono ?_
 rintro e w9 ⟨rfl, hb⟩
 refine ⟨_, rfl, ?_⟩
 replace HB := Aside0.mk (below_step bB hb)
 try clear hb
 refine hK.out _ _ trivial (fun hHeld => ?_)
 clear hK K
 refine norm_ (a' := ?_) ?_ ?_
 rotate_left
 · show Act.put _ (some 12) _ = _
   simp only [Act.put, List.setIfInBounds_toArray, List.set_cons_zero, List.set_cons_succ, i64_w, i32_w]
   rfl
 refine one_ (i := 7) (N := some 17) #[true, true, true, true, true, true, true, true, false, false, false] rfl rfl (one_of HT_.out kr) (by decide) (fun K hK => ?_)
 refine Kd.R_lit_step (Kd.int .u8) _ 5 ?hg (N := 17) ?hd (xs := ([(wrap64 (48 + (Int.tmod a0 10))) % 256] : List Int)) (inner := [.int .u8 ((wrap64 (48 + (Int.tmod a0 10))) % 256)]) (ok := fun _ => True) (okp := fun _ => True) ?hr ?hp (fun _ hk => hk) trivial (Below.refl _ _) (Nat.le_refl _) (by simp) ?_; (case hd => rfl); (case hg => rfl); (case hr => first | (go_simp; done) | (go_simp; rfl)); (case hp => exact (Reps.one (show Kd.M (Kd.int .u8) _ _ _ ((wrap64 (48 + (Int.tmod a0 10))) % 256) [.int .u8 ((wrap64 (48 + (Int.tmod a0 10))) % 256)] from rfl) (Reps.none _ _)))
 intro a7 c9 b0 hb hg_ hnew_
 clear hg_ hnew_
 (first | rw [← a8.out] at b0 | (simp only [Int.reduceToNat] at b0; rw [← a8.out] at b0))
 have a2 := Aside0.mk (Kd.R_lower b0 (below_size bB))
 replace HB := Aside0.mk (below_step bB hb)
 clear hb b0
 refine hK.out _ _ trivial (fun hHeld => ?_)
 clear hK K
 refine norm_ (a' := ?_) ?_ ?_
 rotate_left
 · show Act.put _ (some 17) _ = _
   simp only [Act.put, List.setIfInBounds_toArray, List.set_cons_zero, List.set_cons_succ, i64_w, i32_w]
   rfl
 refine one_ (i := 8) (N := some 18) #[true, true, true, true, true, true, true, true, true, false, false] rfl rfl (one_of HT_.out kr) (by decide) (fun K hK => ?_)
 have b2 := own_string (P := Tryd.prog) Tryd.underlying82 Tryd.underlying5 Tryd.underlying9 (Kd.own_of_R a2.out)
 refine value_ (w1 := ?_) (v := ?_) (by rfl) rfl ?_ ?_
 rotate_left 2
 ·(
 go_simp
 constructor
 · rfl
 · rfl
 )
 clear b2
 refine hK.out _ _ trivial (fun hHeld => ?_)
 clear hK K
 refine norm_ (a' := ?_) ?_ ?_
 rotate_left
 · show Act.put _ (some 18) _ = _
   simp only [Act.put, List.setIfInBounds_toArray, List.set_cons_zero, List.set_cons_succ, i64_w, i32_w]
   rfl
 exact norm_ (by simp only [putAll, Act.put, List.setIfInBounds_toArray, List.set_cons_zero, List.set_cons_succ]) (hCont (a7) _ ⟨(oR a2), bB⟩)
 )
 ·(
 skip
 refine Kd.R_lit_step (Kd.int .u8) _ 5 ?hg (N := 17) ?hd (xs := ([(wrap64 (48 + (Int.tmod a0 10))) % 256] : List Int)) (inner := [.int .u8 ((wrap64 (48 + (Int.tmod a0 10))) % 256)]) (ok := fun _ => True) (okp := fun _ => True) ?hr ?hp (fun _ hk => hk) trivial (Below.refl _ _) (Nat.le_refl _) (by simp) ?_; (case hd => rfl); (case hg => rfl); (case hr => first | (go_simp; done) | (go_simp; rfl)); (case hp => exact (Reps.one (show Kd.M (Kd.int .u8) _ _ _ ((wrap64 (48 + (Int.tmod a0 10))) % 256) [.int .u8 ((wrap64 (48 + (Int.tmod a0 10))) % 256)] from rfl) (Reps.none _ _)))
 intro a7 w9 b1 hb hg_ hnew_
 clear hg_ hnew_
 (first | rw [← a8.out] at b1 | (simp only [Int.reduceToNat] at b1; rw [← a8.out] at b1))
 have a2 := Aside0.mk (Kd.R_lower b1 (below_size bB))
 replace HB := Aside0.mk (below_step bB hb)
 clear hb b1
 refine hK.out _ _ trivial (fun hHeld => ?_)
 clear hK K
 refine norm_ (a' := ?_) ?_ ?_
 rotate_left
 · show Act.put _ (some 17) _ = _
   simp only [Act.put, List.setIfInBounds_toArray, List.set_cons_zero, List.set_cons_succ, i64_w, i32_w]
   rfl
 refine two_ (i := 2) (j := 8) (Ni := some 12) (Nj := some 18) #[true, true, true, true, true, true, true, true, false, false, false] #[true, true, false, true, true, true, true, true, true, false, false] rfl rfl rfl rfl (two_of HT_.out kr) (by decide) (by decide) (fun K hK => ?_) (fun K hK => ?_)
 ·(
 skip
 refine goes_ Tryd.func59 kr rfl #[.int .i64 (wrap64 (Int.tdiv a0 10))] (by rfl) rfl rfl sM ?_
 with_reducible refine (ih k (by omega) (wrap64 (Int.tdiv a0 10)) a3 _ A6.out).mono ?_
 rintro e d0 ⟨rfl, hb⟩
 refine ⟨_, rfl, ?_⟩
 replace a2 := Aside0.mk (Kd.R_below (oR a2) hb)
 replace HB := Aside0.mk (below_step bB hb)
 try clear hb
 refine hK.out _ _ trivial (fun hHeld => ?_)
 clear hK K
 refine norm_ (a' := ?_) ?_ ?_
 rotate_left
 · show Act.put _ (some 12) _ = _
   simp only [Act.put, List.setIfInBounds_toArray, List.set_cons_zero, List.set_cons_succ, i64_w, i32_w]
   rfl
 refine one_ (i := 8) (N := some 18) #[true, true, true, true, true, true, true, true, true, false, false] rfl rfl (one_of HT_.out kr) (by decide) (fun K hK => ?_)
 have b2 := own_string (P := Tryd.prog) Tryd.underlying82 Tryd.underlying5 Tryd.underlying9 (Kd.own_of_R a2.out)
 refine value_ (w1 := ?_) (v := ?_) (by rfl) rfl ?_ ?_
 rotate_left 2
 ·(
 go_simp
 constructor
 · rfl
 · rfl
 )
 clear b2
 refine hK.out _ _ trivial (fun hHeld => ?_)
 clear hK K
 refine norm_ (a' := ?_) ?_ ?_
 rotate_left
 · show Act.put _ (some 18) _ = _
   simp only [Act.put, List.setIfInBounds_toArray, List.set_cons_zero, List.set_cons_succ, i64_w, i32_w]
   rfl
 exact norm_ (by simp only [putAll, Act.put, List.setIfInBounds_toArray, List.set_cons_zero, List.set_cons_succ]) (hCont (a7) _ ⟨(oR a2), bB⟩)
 )
 ·(
 skip
 have b6 := own_string (P := Tryd.prog) Tryd.underlying82 Tryd.underlying5 Tryd.underlying9 (Kd.own_of_R a2.out)
 refine value_ (w1 := ?_) (v := ?_) (by rfl) rfl ?_ ?_
 rotate_left 2
 ·(
 go_simp
 constructor
 · rfl
 · rfl
 )
 clear b6
 refine hK.out _ _ trivial (fun hHeld => ?_)
 clear hK K
 refine norm_ (a' := ?_) ?_ ?_
 rotate_left
 · show Act.put _ (some 18) _ = _
   simp only [Act.put, List.setIfInBounds_toArray, List.set_cons_zero, List.set_cons_succ, i64_w, i32_w]
   rfl
 refine one_ (i := 2) (N := some 12) #[true, true, true, true, true, true, true, true, true, false, false] rfl rfl (one_of HT_.out kr) (by decide) (fun K hK => ?_)
 refine goes_ Tryd.func59 kr rfl #[.int .i64 (wrap64 (Int.tdiv a0 10))] (by rfl) rfl rfl sM ?_
 with_reducible refine (ih k (by omega) (wrap64 (Int.tdiv a0 10)) a3 _ A6.out).mono ?_
 rintro e d1 ⟨rfl, hb⟩
 refine ⟨_, rfl, ?_⟩
 replace a2 := Aside0.mk (Kd.R_below (oR a2) hb)
 replace HB := Aside0.mk (below_step bB hb)
 try clear hb
 refine hK.out _ _ trivial (fun hHeld => ?_)
 clear hK K
 refine norm_ (a' := ?_) ?_ ?_
 rotate_left
 · show Act.put _ (some 12) _ = _
   simp only [Act.put, List.setIfInBounds_toArray, List.set_cons_zero, List.set_cons_succ, i64_w, i32_w]
   rfl
 exact norm_ (by simp only [putAll, Act.put, List.setIfInBounds_toArray, List.set_cons_zero, List.set_cons_succ]) (hCont (a7) _ ⟨(oR a2), bB⟩)
 )
 )
 )
 rintro a7 b7 ⟨b8, b9⟩
 have a2 : Aside0 (Kd.R (Kd.int .u8) 5 b7 w.heap.size (fun _ => True) a7 a4) := ⟨b8⟩
 replace HB : Aside0 (Below w.heap.size w b7) := ⟨b9⟩
 clear b8 b9
 have hHeld := trivial
 refine norm_ (a' := ?_) ?_ ?_
 rotate_left
 ·(
 simp only [putAll, Act.put, List.setIfInBounds_toArray, List.set_cons_zero, List.set_cons_succ]
 rfl
 )
 refine pure_ (i := 9) (N := some 19) (v := ?_) (a' := ?_) #[true, true, true, true, true, true, true, true, true, true, false] rfl rfl (any_of HT_.out kr) (fun _ _ _ h => h) (Or.inl ⟨by rfl, ?_⟩) ?_ ?_
 rotate_left
 ·(
 intro w'
 go_simp
 with_reducible rfl
 )
 rotate_left
 ·(
 simp only [Act.put, List.setIfInBounds_toArray, List.set_cons_zero, List.set_cons_succ, i64_w, i32_w]
 rfl
 )
 refine pure_ (i := 10) (N := some 2) (v := ?_) (a' := ?_) #[true, true, true, true, true, true, true, true, true, true, true] rfl rfl (any_of HT_.out kr) (fun _ _ _ h => h) (Or.inl ⟨by rfl, ?_⟩) ?_ ?_
 rotate_left
 ·(
 intro w'
 go_simp
 with_reducible rfl
 )
 rotate_left
 ·(
 simp only [Act.put, List.setIfInBounds_toArray, List.set_cons_zero, List.set_cons_succ, i64_w, i32_w]
 rfl
 )
 refine done_ (done_of HT_.out kr) ?_
 try go_wp2
 (try rw [dSet])
 go_ret
 exact ⟨sE, bI⟩
 )
 ·(
 rw [if_neg c7] at H
 exact absurd H (by simp)
 )
 )

/-! ### spec_beText: function 42 -/
def spec_beText.f (k : Nat) (a0_0 : Int) (a0_1 : Int) : Option (ByteArray) := (spec_l1Num.f k a0_0).bind fun t319 => (if t319.size + 1 ≤ 9223372036854775807 then ((spec_l1Num.f k a0_1).bind fun t320 => (if (t319 ++ (⟨#[120]⟩ : ByteArray)).size + t320.size ≤ 9223372036854775807 then (some ((t319 ++ (⟨#[120]⟩ : ByteArray)) ++ t320)) else (none))) else (none))
theorem spec_beText.mono : ∀ a0 a1 k, LeO (spec_beText.f k a0 a1) (spec_beText.f (k + 1) a0 a1) := by
  intro a0 a1 k
  unfold spec_beText.f
  repeat' first
      | (with_reducible exact spec_l1Num.mono _ _)
      | (with_reducible exact LeO.refl _)
      | (with_reducible exact LeO.none _)
      | (with_reducible refine LeO.ite ?_ ?_)
      | (with_reducible refine LeO.bind ?_ (fun _ => ?_))
      | exact spec_l1Num.mono _ _
      | exact LeO.none _
      | refine LeO.ite ?_ ?_
      | refine LeO.bind ?_ (fun _ => ?_)
def spec_beText.T1 : Bool × List (List Nat × List Nat) := (true, [([], []), ([0], [0]), ([1], [1]), ([2], [2]), ([], []), ([4], [4]), ([5, 2], [5]), ([3, 6], [3, 6]), ([7, 6, 0, 1, 2, 3, 4, 5, 6, 7], [7])])
def spec_beText.B1 : List Nat := [0, 1, 3, 7, 0, 16, 55, 127, 255]
theorem spec_beText.tab1 : rtab .any (opsOf Tryd.f42 1) = spec_beText.T1 := by kernel_rfl
theorem spec_beText.bits1 : waitsOk spec_beText.T1.2 spec_beText.B1 = true := by kernel_rfl
abbrev spec_beText.pl0 : List (Nat × Option Tmp × Nat) := [q 0 3, q 4 7, qt 1 4, qt 5 8, qo 2 5, q 3 6, qo 6 9, q 7 10, q 8 2]
set_option maxHeartbeats 8000000 in
set_option maxRecDepth 100000 in
theorem spec_beText.calls (k : Nat) (a0_0 : Int) (a0_1 : Int) (r : ByteArray) (w : World) (h : spec_beText.f k a0_0 a0_1 = some r) :
    Calls Tryd.prog 42 #[.agg #[.int .i64 a0_0, .int .i64 a0_1]] w fun e w' => e = .returned (.string r) ∧ Below w.heap.size w w' := by
 have a8 := Tryd.underlying23
 have HB := Aside0.mk (Below.refl w.heap.size w)
 have H := h
 unfold spec_beText.f at H
 clear h
 obtain ⟨a3, A2, H⟩ := bD H
 try dsimp only at H
 by_cases c3 : a3.size + 1 ≤ 9223372036854775807
 ·(
 rw [if_pos c3] at H
 have a9 := eq_true c3
 have b0 : decide (a3.size + 1 ≤ 9223372036854775807) = true := decide_eq_true c3
 try have b1 : (9223372036854775807 < a3.size + 1) = False := eq_false (Nat.not_lt.2 c3)
 obtain ⟨a4, A4, H⟩ := bD H
 try dsimp only at H
 by_cases c5 : (a3 ++ (⟨#[120]⟩ : ByteArray)).size + a4.size ≤ 9223372036854775807
 ·(
 rw [if_pos c5] at H
 have b2 := eq_true c5
 have b3 : decide ((a3 ++ (⟨#[120]⟩ : ByteArray)).size + a4.size ≤ 9223372036854775807) = true := decide_eq_true c5
 try have b4 : (9223372036854775807 < (a3 ++ (⟨#[120]⟩ : ByteArray)).size + a4.size) = False := eq_false (Nat.not_lt.2 c5)
 try have b5 : (9223372036854775807 < a3.size + 1 + a4.size) = False := eq_false (Nat.not_lt.2 (by have z_ := c5; rw [ByteArray.size_append] at z_; exact z_))
 obtain rfl := Option.some.inj H
 go_enter Tryd.func42, Tryd.ntmps42
 try go_wp2_with (first | ((with_reducible refine gate_dst (N := 1) rfl ?_); refine box_ (cs := #[.int .i64 a0_0, .int .i64 a0_1]) (t := 23) fun a5 hg w6 hbox hb => ?_; have a2 := Aside0.mk (hbox); have a6 := bS HB hg; have a7 := bS HB hg; replace HB := Aside0.mk (below_step bB hb); clear hb hbox hg))
 replace a2 := bD1 a2
 replace HB := Aside0.mk (below_drew1 HB.out)
 refine st_ 9 spec_beText.pl0 (S := fun w' => w'.cell? ⟨a5, 0, none⟩ = some (.int .i64 a0_0) ∧ w'.cell? ⟨a5, 1, none⟩ = some (.int .i64 a0_1)) (ds := []) spec_beText.tab1 spec_beText.bits1 cS (fun hHeld HT_ HW_ => ?_)
 generalize w6.drew = w7 at a2 HB hHeld ⊢
 iterate 4 (first | refine pA HT_ ?_ | refine pT HT_ HW_ hHeld ?_)
 refine pO HT_ fun K hK => ?_
 refine goes_ Tryd.func59 kr rfl #[.int .i64 a0_0] (by rfl) rfl rfl sM ?_
 with_reducible refine (spec_l1Num.calls k a0_0 a3 _ A2.out).mono ?_
 rintro e w8 ⟨rfl, hb⟩
 refine ⟨_, rfl, ?_⟩
 replace a2 := bQ a2 hb
 replace HB := Aside0.mk (below_step bB hb)
 try clear hb
 refine hK.out _ _ cS (fun hHeld => ?_)
 clear hK K
 refine nP ?_
 refine pA HT_ ?_
 refine pO HT_ fun K hK => ?_
 refine goes_ Tryd.func59 kr rfl #[.int .i64 a0_1] (by rfl) rfl rfl sM ?_
 with_reducible refine (spec_l1Num.calls k a0_1 a4 _ A4.out).mono ?_
 rintro e w9 ⟨rfl, hb⟩
 refine ⟨_, rfl, ?_⟩
 replace a2 := bQ a2 hb
 replace HB := Aside0.mk (below_step bB hb)
 try clear hb
 refine hK.out _ _ cS (fun hHeld => ?_)
 clear hK K
 refine nP ?_
 iterate 2 refine pA HT_ ?_
 refine pD HT_ ?_
 try go_wp2
 (try rw [dSet])
 go_ret
 exact ⟨sE, bI⟩
 )
 ·(
 rw [if_neg c5] at H
 exact absurd H (by simp)
 )
 )
 ·(
 rw [if_neg c3] at H
 exact absurd H (by simp)
 )

/-! ### spec_TableText: function 19 -/
def spec_TableText.f (k : Nat) (a0_0 : Int) (a0_1 : Int) : Option (ByteArray × Bool) := (spec_beTable.f a0_0 a0_1).bind fun t322 => (if t322 = true then ((spec_beText.f k a0_0 a0_1).bind fun t323 => (some (t323, true))) else (some ((⟨#[]⟩ : ByteArray), false)))
theorem spec_TableText.mono : ∀ a0 a1 k, LeO (spec_TableText.f k a0 a1) (spec_TableText.f (k + 1) a0 a1) := by
  intro a0 a1 k
  unfold spec_TableText.f
  repeat' first
      | (with_reducible exact spec_beText.mono _ _ _)
      | (with_reducible exact LeO.refl _)
      | (with_reducible exact LeO.none _)
      | (with_reducible refine LeO.ite ?_ ?_)
      | (with_reducible refine LeO.bind ?_ (fun _ => ?_))
      | exact spec_beText.mono _ _ _
      | exact LeO.none _
      | refine LeO.ite ?_ ?_
      | refine LeO.bind ?_ (fun _ => ?_)
set_option maxHeartbeats 8000000 in
set_option maxRecDepth 100000 in
theorem spec_TableText.calls (k : Nat) (a0_0 : Int) (a0_1 : Int) (r1 : ByteArray) (r2 : Bool) (w : World) (h : spec_TableText.f k a0_0 a0_1 = some (r1, r2)) :
    Calls Tryd.prog 19 #[.agg #[.int .i64 a0_0, .int .i64 a0_1]] w fun e w' => e = .returned (.tuple #[.string r1, .bool r2]) ∧ Below w.heap.size w w' := by
 have b4 := Tryd.underlying23
 have HB := Aside0.mk (Below.refl w.heap.size w)
 have H := h
 unfold spec_TableText.f at H
 clear h
 obtain ⟨a3, A2, H⟩ := bD H
 try dsimp only at H
 by_cases c3 : a3 = true
 subst c3
 rw [if_pos rfl] at H
 obtain ⟨a4, A4, H⟩ := bD H
 try dsimp only at H
 simp only [Option.some.injEq, Prod.mk.injEq] at H
 obtain ⟨rfl, rfl⟩ := H
 rotate_left
 replace c3 := Bool.eq_false_iff.mpr c3
 subst c3
 rw [if_neg nft] at H
 simp only [Option.some.injEq, Prod.mk.injEq] at H
 obtain ⟨rfl, rfl⟩ := H
 rotate_left
 all_goals (go_enter Tryd.func19, Tryd.ntmps19)
 all_goals (go_wp2_with (first | ((with_reducible refine gate_dst (N := 1) rfl ?_); refine box_ (cs := #[.int .i64 a0_0, .int .i64 a0_1]) (t := 23) fun b5 hg b8 hbox hb => ?_; have a2 := Aside0.mk (hbox); have b6 := bS HB hg; have b7 := bS HB hg; replace HB := Aside0.mk (below_step bB hb); clear hb hbox hg; obtain ⟨a5, a6, a7, a8⟩ := cf2 a2) | ((with_reducible refine gate_callee (f := 39) rfl ?_); refine goesL_ (some 5) rfl rfl Tryd.func39 kr rfl #[.agg #[.int .i64 a0_0, .int .i64 a0_1]] rfl sM ?_; (with_reducible refine (spec_beTable.calls a0_0 a0_1 true _ A2.out).mono ?_); rintro e b3 ⟨rfl, hb⟩; refine ⟨_, rfl, ?_⟩; replace a2 := bQ a2 hb; replace HB := Aside0.mk (below_step bB hb); (try clear hb); obtain ⟨a9, b0, b1, b2⟩ := cf2 a2) | ((with_reducible refine gate_callee (f := 42) rfl ?_); refine goesL_ (some 8) rfl rfl Tryd.func42 kr rfl #[.agg #[.int .i64 a0_0, .int .i64 a0_1]] rfl sM ?_; (with_reducible refine (spec_beText.calls k a0_0 a0_1 a4 _ A4.out).mono ?_); rintro e b9 ⟨rfl, hb⟩; refine ⟨_, rfl, ?_⟩; replace a2 := bQ a2 hb; replace HB := Aside0.mk (below_step bB hb); (try clear hb)) | ((with_reducible refine gate_callee (f := 39) rfl ?_); refine goesL_ (some 5) rfl rfl Tryd.func39 kr rfl #[.agg #[.int .i64 a0_0, .int .i64 a0_1]] rfl sM ?_; (with_reducible refine (spec_beTable.calls a0_0 a0_1 false _ A2.out).mono ?_); rintro e b3 ⟨rfl, hb⟩; refine ⟨_, rfl, ?_⟩; replace a2 := bQ a2 hb; replace HB := Aside0.mk (below_step bB hb); (try clear hb))))
 all_goals go_ret2
 all_goals (exact ⟨sE, bI⟩)

/-! ### impl_TablesFor: function 20 -/
def impl_TablesFor.l0 : Nat → Int → List (S23) → Int → Option ((List (S23)) × Bool)
  | 0, _, _, _ => none
  | k + 1, x0, x4, x5 => if (wrap64 (2 * x5)) ≤ (wrap64 (x0 + 2)) then ((impl_IsTable.f x5 (wrap64 ((wrap64 (x0 + 2)) - x5))).bind fun t329 => (if t329 = true then ((impl_gcd.f k x5 (wrap64 ((wrap64 (x0 + 2)) - x5))).bind fun t330 => (if t330 = 1 then (if x4.length < 8796093022208 then (impl_TablesFor.l0 k x0 (x4 ++ [(⟨x5, wrap64 ((wrap64 (x0 + 2)) - x5)⟩ : S23)]) (wrap64 (x5 + 1))) else (none)) else (impl_TablesFor.l0 k x0 x4 (wrap64 (x5 + 1))))) else (impl_TablesFor.l0 k x0 x4 (wrap64 (x5 + 1))))) else (some (x4, true))
def impl_TablesFor.f (k : Nat) (a0 : Int) : Option ((List (S23)) × Bool) := (impl_within.f a0 0 100).bind fun t324 => (if t324 = true then (impl_TablesFor.l0 k a0 (([] : List (S23))) 1) else (some (([] : List (S23)), false)))
theorem impl_TablesFor.mono_l : ∀ k, (∀ y0 y1 y2, LeO (impl_TablesFor.l0 k y0 y1 y2) (impl_TablesFor.l0 (k + 1) y0 y1 y2))
  | 0 => fun _ _ _ r h => by simp [impl_TablesFor.l0] at h
  | k + 1 => by
    have ih0 := impl_TablesFor.mono_l k
    · intro y0 y1 y2
      unfold impl_TablesFor.l0
      repeat' first
      | (with_reducible exact ih0 _ _ _)
      | (with_reducible exact impl_gcd.mono _ _ _)
      | (with_reducible exact LeO.refl _)
      | (with_reducible exact LeO.none _)
      | (with_reducible refine LeO.ite ?_ ?_)
      | (with_reducible refine LeO.bind ?_ (fun _ => ?_))
      | exact ih0 _ _ _
      | exact impl_gcd.mono _ _ _
      | exact LeO.none _
      | refine LeO.ite ?_ ?_
      | refine LeO.bind ?_ (fun _ => ?_)
theorem impl_TablesFor.mono : ∀ a0 k, LeO (impl_TablesFor.f k a0) (impl_TablesFor.f (k + 1) a0) := by
  intro a0 k
  have ih0 := impl_TablesFor.mono_l k
  unfold impl_TablesFor.f
  repeat' first
      | (with_reducible exact ih0 _ _ _)
      | (with_reducible exact impl_gcd.mono _ _ _)
      | (with_reducible exact LeO.refl _)
      | (with_reducible exact LeO.none _)
      | (with_reducible refine LeO.ite ?_ ?_)
      | (with_reducible refine LeO.bind ?_ (fun _ => ?_))
      | exact ih0 _ _ _
      | exact impl_gcd.mono _ _ _
      | exact LeO.none _
      | refine LeO.ite ?_ ?_
      | refine LeO.bind ?_ (fun _ => ?_)
set_option maxHeartbeats 8000000 in
set_option maxRecDepth 100000 in
theorem impl_TablesFor.calls (k : Nat) (a0 : Int) (r1 : List (S23)) (r2 : Bool) (w : World) (h : impl_TablesFor.f k a0 = some (r1, r2)) :
    Calls Tryd.prog 20 #[.int .i64 a0] w fun e w' => ∃ v0_ : Value, e = .returned (.tuple #[v0_, .bool r2]) ∧ Kd.R k23 23 w' w.heap.size (fun _ => True) v0_ r1 ∧ Below w.heap.size w w' := by
 have g5 := Tryd.underlying23
 have HB := Aside0.mk (Below.refl w.heap.size w)
 have H := h
 unfold impl_TablesFor.f at H
 clear h
 obtain ⟨c7, A2, H⟩ := bD H
 try dsimp only at H
 by_cases c3 : c7 = true
 ·(
 subst c3
 rw [if_pos rfl] at H
 obtain ⟨b7, a7⟩ : ∃ y_ : List (S23), y_ = (([] : List (S23))) := ⟨_, rfl⟩
 replace H : (impl_TablesFor.l0 k a0 b7 1) = some (r1, r2) := by first | (rw [a7]; with_reducible exact H) | (have a9 := (Option.bind_some _ _).symm.trans H; rw [a7]; with_reducible exact a9) | (have a9 := (Option.bind_some _ _).symm.trans H; with_reducible exact a9) | with_reducible exact H | (rw [a7]; exact H) | exact H
 have b3 := Aside0.mk a7
 clear a7
 have H' := Aside0.mk H
 clear H
 go_enter Tryd.func20, Tryd.ntmps20
 go_wp2_with (first | ((with_reducible refine gate_callee (f := 31) rfl ?_); refine goesL_ (some 8) rfl rfl Tryd.func31 kr rfl #[.int .i64 a0, .int .i64 0, .int .i64 100] rfl sM ?_; (with_reducible refine (impl_within.calls a0 0 100 true _ A2.out).mono ?_); rintro e w' ⟨rfl, ⟨nd, rfl⟩⟩; refine ⟨_, rfl, ?_⟩) | ((with_reducible refine gate_dst (N := 10) rfl ?_); refine Kd.R_lit k23 _ 23 ?hg (N := 10) ?hd (xs := ([] : List (S23))) (inner := []) (ok := fun _ => True) (okp := fun _ => True) ?hr ?hp (fun _ hk => hk) trivial (Below.refl _ _) (Nat.le_refl _) (by simp) ?_; (case hd => rfl); (case hg => rfl); (case hr => first | (go_simp; done) | (go_simp; rfl)); (case hp => exact (Reps.none _ _)); intro g6 w4 b0 hb hg_ hnew_; clear hg_ hnew_; (first | rw [← b3.out] at b0 | (simp only [Int.reduceToNat] at b0; rw [← b3.out] at b0)); have b9 := Aside0.mk (Kd.R_lower b0 (below_size bB)); replace HB := Aside0.mk (below_step bB hb); clear hb b0))
 go_loopg [4, 5] k (fun kq v4 v5 w' => ∃ (a6 : List (S23)) (a2 : Int), v5 = .int .i64 a2 ∧ Aside0 (impl_TablesFor.l0 kq a0 a6 a2 = some (r1, r2)) ∧ Aside0 (kq ≤ k) ∧ Aside0 (Kd.R k23 23 w' w.heap.size (fun _ => True) v4 a6) ∧ Aside0 (Below w.heap.size w w'))
 case atStart => exact ⟨(b7), (1), sR, H', ⟨Nat.le_refl _⟩, ⟨oR b9⟩, ⟨bB⟩⟩
 case round => (
 clear H'
 try clear c3
 obtain ⟨a6, a2, rfl, HA, HK1, a4, HB⟩ := hrel
 cases gk with
 | zero => exact absurd HA.out (by simp [impl_TablesFor.l0])
 | succ k1 => (
 have H := HA.out
 clear HA
 simp only [impl_TablesFor.l0] at H
 by_cases c6 : (wrap64 (2 * a2)) ≤ (wrap64 (a0 + 2))
 ·(
 rw [if_pos c6] at H
 have c9 : decide ((wrap64 (2 * a2)) ≤ (wrap64 (a0 + 2))) = true := decide_eq_true c6
 clear c6
 obtain ⟨d0, A7, H⟩ := bD H
 try dsimp only at H
 by_cases c8 : d0 = true
 ·(
 subst c8
 rw [if_pos rfl] at H
 obtain ⟨b2, A9, H⟩ := bD H
 try dsimp only at H
 by_cases b1 : b2 = 1
 ·(
 rw [if_pos b1] at H
 obtain ⟨c0, c1⟩ := yE b1
 clear b1
 by_cases b4 : a6.length < 8796093022208
 ·(
 rw [if_pos b4] at H
 have c2 := Aside0.mk b4
 clear b4
 obtain ⟨b8, a8⟩ : ∃ y_ : List (S23), y_ = (a6 ++ [(⟨a2, wrap64 ((wrap64 (a0 + 2)) - a2)⟩ : S23)]) := ⟨_, rfl⟩
 replace H : (impl_TablesFor.l0 k1 a0 b8 (wrap64 (a2 + 1))) = some (r1, r2) := by first | (rw [a8]; with_reducible exact H) | (have a9 := (Option.bind_some _ _).symm.trans H; rw [a8]; with_reducible exact a9) | (have a9 := (Option.bind_some _ _).symm.trans H; with_reducible exact a9) | with_reducible exact H | (rw [a8]; exact H) | exact H
 have c4 := Aside0.mk a8
 clear a8
 have H' := Aside0.mk H
 clear H
 go_wp2_with (first | ((with_reducible refine gate_dst (N := 6) rfl ?_); refine box_ (cs := #[.int .i64 0, .int .i64 0]) (t := 23) fun a5 hg g8 hbox hb => ?_; have a3 := Aside0.mk (hbox); have b5 := bS HB hg; have b6 := bS HB hg; replace a4 := Aside0.mk (Kd.R_below (Kd.R_elderB (oR a4) a5 (Nat.le_of_eq hg.symm)) hb); replace HB := Aside0.mk (below_step bB hb); clear hb hbox hg; obtain ⟨d1, d2, d3, d4⟩ := cf2 a3) | ((with_reducible refine gate_callee (f := 25) rfl ?_); refine goesL_ (some 25) rfl rfl Tryd.func25 kr rfl #[.agg #[.int .i64 a2, .int .i64 (wrap64 ((wrap64 (a0 + 2)) - a2))]] rfl sM ?_; (with_reducible refine (impl_IsTable.calls a2 (wrap64 ((wrap64 (a0 + 2)) - a2)) true _ A7.out).mono ?_); rintro e g9 ⟨rfl, hb⟩; refine ⟨_, rfl, ?_⟩; replace a4 := Aside0.mk (Kd.R_below (by (with_reducible repeat (first | apply Kd.R_alloc | apply Kd.R_drewN | apply Kd.R_drew)); exact (Kd.R_mono (Kd.R_far (p := ⟨a5, 1, none⟩) (Kd.R_far (p := ⟨a5, 0, none⟩) (Kd.R_mono a4.out (fun k_ hk => (⟨hk, hk.2⟩ : _ ∧ k_ ≠ a5))) (fun _ hk => hk.2) (.int .i64 a2)) (fun _ hk => hk.2) (.int .i64 (wrap64 ((wrap64 (a0 + 2)) - a2)))) (fun _ h_ => h_.1))) hb); replace a3 := (bP (.cells #[.int .i64 a2, .int .i64 (wrap64 ((wrap64 (a0 + 2)) - a2))] 23 (0, 0)) a3 hb); replace HB := Aside0.mk (below_step bB hb); (try clear hb); (try clear hk); obtain ⟨d5, d6, d7, d8⟩ := cf2 a3) | (go_at_call 43; (with_reducible refine (impl_gcd.calls k1 a2 (wrap64 ((wrap64 (a0 + 2)) - a2)) b2 _ A9.out).mono ?_); rintro e h0 ⟨rfl, hb⟩; replace a4 := Aside0.mk (Kd.R_below (oR a4) hb); replace a3 := bQ a3 hb; replace HB := Aside0.mk (below_step bB hb); (try clear hb); obtain ⟨d9, e0, e1, e2⟩ := cf2 a3) | ((with_reducible refine gate_builtin (b := .append) (xs := #[.tmp 34, .tmp 36]) rfl ?_); at_builtin; refine Kd.R_append k23 (w0 := w) w.heap.size rfl (.tmp 34) (.tmp 36) 36 23 (.agg #[(.int .i64 0), (.int .i64 0)]) 16 rfl Tryd.underlying36 info23 rfl (by decide) (by omega) u4 a6 (⟨a2, wrap64 ((wrap64 (a0 + 2)) - a2)⟩ : S23) [.int .i64 a2, .int .i64 (wrap64 ((wrap64 (a0 + 2)) - a2))] (fun k_ => k_ ≠ a5) (fun _ => False) rfl rfl ?aP (fun _ hk => hk.elim) ?aF ?aO ?aB ?aS ?aL ?_; (case aP => exact k23_mkM _ _ _ (⟨a2, wrap64 ((wrap64 (a0 + 2)) - a2)⟩ : S23)); (case aB => exact bB); (case aF => exact (fun k_ hk => Kd.freshB (g := a5) (o := .cells #[.int .i64 a2, .int .i64 (wrap64 ((wrap64 (a0 + 2)) - a2))] 23 (0, 0)) (bK a3) k_ hk)); (case aO => exact (by (with_reducible repeat (first | apply Kd.R_alloc | apply Kd.R_drewN | apply Kd.R_drew)); exact Kd.R_mono a4.out (fun _ hk => hk.2))); (case aS => exact (below_size bB)); (case aL => have := c2.out; omega); intro g7 h1 ho hb hg hat; rw [← c4.out] at ho; have c5 := Aside0.mk (ho); replace a3 := Aside0.mk (blk_grown (g := a5) (o := .cells #[.int .i64 a2, .int .i64 (wrap64 ((wrap64 (a0 + 2)) - a2))] 23 (0, 0)) (bK a3) hg (Kd.R_away a4.out (fun _ hk => hk.2))); replace HB := Aside0.mk (hb); clear a4 ho hb hg hat))
 go_roundg k1
 case measure => have := HK1.out; omega
 case rel => exact ⟨(b8), (wrap64 (a2 + 1)), sR, H', ⟨by have := HK1.out; omega⟩, ⟨by (with_reducible repeat (first | apply Kd.R_alloc | apply Kd.R_drewN | apply Kd.R_drew)); exact Kd.R_mono c5.out (fun _ hk => trivial)⟩, ⟨bB⟩⟩
 )
 ·(
 rw [if_neg b4] at H
 exact absurd H (by simp)
 )
 )
 ·(
 rw [if_neg b1] at H
 obtain ⟨c0, c1⟩ := nE b1
 have H' := Aside0.mk H
 clear H
 go_wp2_with (first | ((with_reducible refine gate_dst (N := 6) rfl ?_); refine box_ (cs := #[.int .i64 0, .int .i64 0]) (t := 23) fun a5 hg h2 hbox hb => ?_; have a3 := Aside0.mk (hbox); have b5 := bS HB hg; have b6 := bS HB hg; replace a4 := Aside0.mk (Kd.R_below (Kd.R_elderB (oR a4) a5 (Nat.le_of_eq hg.symm)) hb); replace HB := Aside0.mk (below_step bB hb); clear hb hbox hg; obtain ⟨e3, e4, e5, e6⟩ := cf2 a3) | ((with_reducible refine gate_callee (f := 25) rfl ?_); refine goesL_ (some 25) rfl rfl Tryd.func25 kr rfl #[.agg #[.int .i64 a2, .int .i64 (wrap64 ((wrap64 (a0 + 2)) - a2))]] rfl sM ?_; (with_reducible refine (impl_IsTable.calls a2 (wrap64 ((wrap64 (a0 + 2)) - a2)) true _ A7.out).mono ?_); rintro e h3 ⟨rfl, hb⟩; refine ⟨_, rfl, ?_⟩; replace a4 := Aside0.mk (Kd.R_below (by (with_reducible repeat (first | apply Kd.R_alloc | apply Kd.R_drewN | apply Kd.R_drew)); exact (Kd.R_mono (Kd.R_far (p := ⟨a5, 1, none⟩) (Kd.R_far (p := ⟨a5, 0, none⟩) (Kd.R_mono a4.out (fun k_ hk => (⟨hk, hk.2⟩ : _ ∧ k_ ≠ a5))) (fun _ hk => hk.2) (.int .i64 a2)) (fun _ hk => hk.2) (.int .i64 (wrap64 ((wrap64 (a0 + 2)) - a2)))) (fun _ h_ => h_.1))) hb); replace a3 := (bP (.cells #[.int .i64 a2, .int .i64 (wrap64 ((wrap64 (a0 + 2)) - a2))] 23 (0, 0)) a3 hb); replace HB := Aside0.mk (below_step bB hb); (try clear hb); (try clear hk); obtain ⟨e7, e8, e9, g0⟩ := cf2 a3) | (go_at_call 43; (with_reducible refine (impl_gcd.calls k1 a2 (wrap64 ((wrap64 (a0 + 2)) - a2)) b2 _ A9.out).mono ?_); rintro e h4 ⟨rfl, hb⟩; replace a4 := Aside0.mk (Kd.R_below (oR a4) hb); replace a3 := bQ a3 hb; replace HB := Aside0.mk (below_step bB hb); (try clear hb)))
 go_roundg k1
 case measure => have := HK1.out; omega
 case rel => exact ⟨(a6), (wrap64 (a2 + 1)), sR, H', ⟨by have := HK1.out; omega⟩, ⟨by (with_reducible repeat (first | apply Kd.R_alloc | apply Kd.R_drewN | apply Kd.R_drew)); exact Kd.R_mono a4.out (fun _ hk => trivial)⟩, ⟨bB⟩⟩
 )
 )
 ·(
 replace c8 := Bool.eq_false_iff.mpr c8
 subst c8
 rw [if_neg nft] at H
 have H' := Aside0.mk H
 clear H
 go_wp2_with (first | ((with_reducible refine gate_dst (N := 6) rfl ?_); refine box_ (cs := #[.int .i64 0, .int .i64 0]) (t := 23) fun a5 hg h5 hbox hb => ?_; have a3 := Aside0.mk (hbox); have b5 := bS HB hg; have b6 := bS HB hg; replace a4 := Aside0.mk (Kd.R_below (Kd.R_elderB (oR a4) a5 (Nat.le_of_eq hg.symm)) hb); replace HB := Aside0.mk (below_step bB hb); clear hb hbox hg; obtain ⟨g1, g2, g3, g4⟩ := cf2 a3) | ((with_reducible refine gate_callee (f := 25) rfl ?_); refine goesL_ (some 25) rfl rfl Tryd.func25 kr rfl #[.agg #[.int .i64 a2, .int .i64 (wrap64 ((wrap64 (a0 + 2)) - a2))]] rfl sM ?_; (with_reducible refine (impl_IsTable.calls a2 (wrap64 ((wrap64 (a0 + 2)) - a2)) false _ A7.out).mono ?_); rintro e h6 ⟨rfl, hb⟩; refine ⟨_, rfl, ?_⟩; replace a4 := Aside0.mk (Kd.R_below (by (with_reducible repeat (first | apply Kd.R_alloc | apply Kd.R_drewN | apply Kd.R_drew)); exact (Kd.R_mono (Kd.R_far (p := ⟨a5, 1, none⟩) (Kd.R_far (p := ⟨a5, 0, none⟩) (Kd.R_mono a4.out (fun k_ hk => (⟨hk, hk.2⟩ : _ ∧ k_ ≠ a5))) (fun _ hk => hk.2) (.int .i64 a2)) (fun _ hk => hk.2) (.int .i64 (wrap64 ((wrap64 (a0 + 2)) - a2)))) (fun _ h_ => h_.1))) hb); replace a3 := (bP (.cells #[.int .i64 a2, .int .i64 (wrap64 ((wrap64 (a0 + 2)) - a2))] 23 (0, 0)) a3 hb); replace HB := Aside0.mk (below_step bB hb); (try clear hb); (try clear hk)))
 go_roundg k1
 case measure => have := HK1.out; omega
 case rel => exact ⟨(a6), (wrap64 (a2 + 1)), sR, H', ⟨by have := HK1.out; omega⟩, ⟨by (with_reducible repeat (first | apply Kd.R_alloc | apply Kd.R_drewN | apply Kd.R_drew)); exact Kd.R_mono a4.out (fun _ hk => trivial)⟩, ⟨bB⟩⟩
 )
 )
 ·(
 rw [if_neg c6] at H
 have c9 : decide ((wrap64 (2 * a2)) ≤ (wrap64 (a0 + 2))) = false := decide_eq_false c6
 clear c6
 simp only [Option.some.injEq, Prod.mk.injEq] at H
 obtain ⟨rfl, rfl⟩ := H
 go_wp2
 go_ret2
 exact ⟨_, sE, by (with_reducible repeat (first | apply Kd.R_alloc | apply Kd.R_drewN | apply Kd.R_drew)); exact a4.out, bI⟩
 )
 )
 )
 )
 ·(
 replace c3 := Bool.eq_false_iff.mpr c3
 subst c3
 rw [if_neg nft] at H
 simp only [Option.some.injEq, Prod.mk.injEq] at H
 obtain ⟨rfl, rfl⟩ := H
 go_enter Tryd.func20, Tryd.ntmps20
 go_wp2_with (first | ((with_reducible refine gate_callee (f := 31) rfl ?_); refine goesL_ (some 8) rfl rfl Tryd.func31 kr rfl #[.int .i64 a0, .int .i64 0, .int .i64 100] rfl sM ?_; (with_reducible refine (impl_within.calls a0 0 100 false _ A2.out).mono ?_); rintro e w' ⟨rfl, ⟨nd, rfl⟩⟩; refine ⟨_, rfl, ?_⟩))
 go_ret2
 exact ⟨_, sE, by first | exact Kd.R_nil _ _ _ _ _ | exact Kd.N_nil _ _ _ _ _ | exact Kd.V_nil _ _ _ _ _ | exact Kd.Q_nil _ _ _ _ _ | exact Kd.S_nil _ _ _ _ _, bI⟩
 )

end Go.Proofs.YtlmiaadpnbehgaaDoor.PFnBeamsEndOfAll
