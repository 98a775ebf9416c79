-- Written by xprint.py, a program of this session, for this seat; Lean checks it.
import Derived.Test.YtlmiaadpnbehgaaGreatDoorVM
import Derived.Test.YtlmiaadpnbehgaaGreatDoorPFnBeamsEndx0
import Derived.Test.YtlmiaadpnbehgaaGreatDoorPFnBeamsEndx3
import Derived.Test.YtlmiaadpnbehgaaGreatDoorPFnBeamsEndx6
import Derived.Test.YtlmiaadpnbehgaaGreatDoorPFnBeamsEndx9
import Derived.Test.YtlmiaadpnbehgaaGreatDoorPFnBeamsEndx16
namespace Go.Proofs.YtlmiaadpnbehgaaGreatDoor.PFnBeamsEnd
open Go.Proofs.YtlmiaadpnbehgaaGreatDoorV Go.RowKit Go.Proofs.YtlmiaadpnbehgaaGreatDoorW.PrintWords Go.Proofs.YtlmiaadpnbehgaaGreatDoorW.PrintLast Go.Proofs.YtlmiaadpnbehgaaGreatDoorW.PrintMore
attribute [local go_sem] max2_int min2_int max_two min_two max_three min_three max_four min_four   -- for this text's walks alone
set_option linter.unusedVariables false
set_option linter.unusedSimpArgs false

/-! ### impl_TableText: function 21 -/
def impl_TableText.f (a0_0 : Int) (a0_1 : Int) : Option (ByteArray × Bool) := (impl_IsTable.f a0_0 a0_1).bind fun t425 => (if t425 = true then ((impl_text.f a0_0).bind fun t426 => (if t426.size + 1 ≤ 9223372036854775807 then ((impl_text.f a0_1).bind fun t427 => (if (t426 ++ (⟨#[120]⟩ : ByteArray)).size + t427.size ≤ 9223372036854775807 then (some ((t426 ++ (⟨#[120]⟩ : ByteArray)) ++ t427, true)) else (none))) else (none))) else (some ((⟨#[]⟩ : ByteArray), false)))
def impl_TableText.T3 : Bool × List (List Nat × List Nat) := (true, [([], []), ([0], [0]), ([1], [1]), ([2], [2]), ([], []), ([4], [4]), ([5, 2], [5]), ([3, 6], [3, 6]), ([7, 6, 0, 1, 2, 3, 4, 5, 6, 7], [7]), ([8, 0, 1, 2, 3, 4, 5, 6, 7, 8], [])])
def impl_TableText.B3 : List Nat := [0, 1, 3, 7, 0, 16, 55, 127, 255, 511]
theorem impl_TableText.tab3 : rtab .any (opsOf Tryz.f21 3) = impl_TableText.T3 := by kernel_rfl
theorem impl_TableText.bits3 : waitsOk impl_TableText.T3.2 impl_TableText.B3 = true := by kernel_rfl
abbrev impl_TableText.pl0 : List (Nat × Option Tmp × Nat) := [q 0 7, q 4 11, qt 1 8, qt 5 12, qo 2 9, q 3 10, qo 6 13, q 7 14, q 8 2, q 9 3]
set_option maxHeartbeats 8000000 in
set_option maxRecDepth 100000 in
theorem impl_TableText.calls (a0_0 : Int) (a0_1 : Int) (r1 : ByteArray) (r2 : Bool) (w : World) (h : impl_TableText.f a0_0 a0_1 = some (r1, r2)) (hw_ : PtW w) :
    Calls Tryz.prog 21 #[.agg #[.int .i64 a0_0, .int .i64 a0_1]] w fun e w' => e = .returned (.tuple #[.string r1, .bool r2]) ∧ Below w.heap.size w w' := by
 have HM := Aside0.mk hw_
 clear hw_
 have b8 := Tryz.underlying25
 have HB := Aside0.mk (Below.refl w.heap.size w)
 have H := h
 unfold impl_TableText.f at H
 clear h
 obtain ⟨a8, A2, H⟩ := bD H
 try dsimp only at H
 by_cases c3 : a8 = true
 ·(
 subst c3
 rw [if_pos rfl] at H
 obtain ⟨a3, A4, H⟩ := bD H
 try dsimp only at H
 by_cases c5 : a3.size + 1 ≤ 9223372036854775807
 ·(
 rw [if_pos c5] at H
 have b9 := eq_true c5
 have c0 : decide (a3.size + 1 ≤ 9223372036854775807) = true := decide_eq_true c5
 try have c4 : (9223372036854775807 < a3.size + 1) = False := eq_false (Nat.not_lt.2 c5)
 obtain ⟨a4, A6, H⟩ := bD H
 try dsimp only at H
 by_cases c7 : (a3 ++ (⟨#[120]⟩ : ByteArray)).size + a4.size ≤ 9223372036854775807
 ·(
 rw [if_pos c7] at H
 have c6 := eq_true c7
 have c8 : decide ((a3 ++ (⟨#[120]⟩ : ByteArray)).size + a4.size ≤ 9223372036854775807) = true := decide_eq_true c7
 try have c9 : (9223372036854775807 < (a3 ++ (⟨#[120]⟩ : ByteArray)).size + a4.size) = False := eq_false (Nat.not_lt.2 c7)
 try have d0 : (9223372036854775807 < a3.size + 1 + a4.size) = False := eq_false (Nat.not_lt.2 (by have z_ := c7; rw [ByteArray.size_append] at z_; exact z_))
 simp only [Option.some.injEq, Prod.mk.injEq] at H
 obtain ⟨rfl, rfl⟩ := H
 go_enter Tryz.func21, Tryz.ntmps21
 try go_wp2_with (first | ((with_reducible refine gate_dst (N := 1) rfl ?_); refine box_ (cs := #[.int .i64 a0_0, .int .i64 a0_1]) (t := 25) fun a5 hg w8 hbox hb => ?_; have a2 := Aside0.mk (hbox); have a6 := bS HB hg; have a7 := bS HB hg; replace HB := Aside0.mk (below_step bB hb); clear hb hbox hg; obtain ⟨b3, b4, b5, b6⟩ := cf2 a2) | ((with_reducible refine gate_callee (f := 30) rfl ?_); refine goesL_ (some 5) rfl rfl Tryz.func30 kr rfl #[.agg #[.int .i64 a0_0, .int .i64 a0_1]] rfl sM ?_; (with_reducible refine (impl_IsTable.calls a0_0 a0_1 true _ A2.out).mono ?_); rintro e b7 ⟨rfl, hb⟩; refine ⟨_, rfl, ?_⟩; replace a2 := bQ a2 hb; replace HB := Aside0.mk (below_step bB hb); (try clear hb)))
 replace a2 := bD1 a2
 replace HB := Aside0.mk (below_drew1 HB.out)
 refine st_ 10 impl_TableText.pl0 (S := fun w' => w'.cell? ⟨a5, 0, none⟩ = some (.int .i64 a0_0) ∧ w'.cell? ⟨a5, 1, none⟩ = some (.int .i64 a0_1)) (ds := []) impl_TableText.tab3 impl_TableText.bits3 cS (fun hHeld HT_ HW_ => ?_)
 generalize b7.drew = d1 at a2 HB hHeld ⊢
 iterate 4 (first | refine pA HT_ ?_ | refine pT HT_ HW_ hHeld ?_)
 refine pO HT_ fun K hK => ?_
 refine goes_ Tryz.func48 kr rfl #[.int .i64 a0_0] (by rfl) rfl rfl sM ?_
 with_reducible refine (impl_text.calls a0_0 a3 _ A4.out (HM.out.below (by repeat (first | (with_reducible first | exact HB.out | apply below_alloc | apply pw_below_drewN | apply below_drew1 | refine below_set ?_ (Aside0.out (by assumption))) | exact HB.out)))).mono ?_
 rintro e d2 ⟨rfl, hb⟩
 refine ⟨_, rfl, ?_⟩
 replace a2 := bQ a2 hb
 replace HB := Aside0.mk (below_step bB hb)
 try clear hb
 refine hK.out _ _ cS (fun hHeld => ?_)
 clear hK K
 refine nP ?_
 refine pA HT_ ?_
 refine pO HT_ fun K hK => ?_
 refine goes_ Tryz.func48 kr rfl #[.int .i64 a0_1] (by rfl) rfl rfl sM ?_
 with_reducible refine (impl_text.calls a0_1 a4 _ A6.out (HM.out.below (by repeat (first | (with_reducible first | exact HB.out | apply below_alloc | apply pw_below_drewN | apply below_drew1 | refine below_set ?_ (Aside0.out (by assumption))) | exact HB.out)))).mono ?_
 rintro e d3 ⟨rfl, hb⟩
 refine ⟨_, rfl, ?_⟩
 replace a2 := bQ a2 hb
 replace HB := Aside0.mk (below_step bB hb)
 try clear hb
 refine hK.out _ _ cS (fun hHeld => ?_)
 clear hK K
 refine nP ?_
 iterate 3 refine pA HT_ ?_
 refine pD HT_ ?_
 try go_wp2
 (try rw [dSet])
 go_ret2
 exact ⟨sE, bI⟩
 )
 ·(
 rw [if_neg c7] at H
 exact absurd H (by simp)
 )
 )
 ·(
 rw [if_neg c5] at H
 exact absurd H (by simp)
 )
 )
 ·(
 replace c3 := Bool.eq_false_iff.mpr c3
 subst c3
 rw [if_neg nft] at H
 simp only [Option.some.injEq, Prod.mk.injEq] at H
 obtain ⟨rfl, rfl⟩ := H
 go_enter Tryz.func21, Tryz.ntmps21
 go_wp2_with (first | ((with_reducible refine gate_dst (N := 1) rfl ?_); refine box_ (cs := #[.int .i64 a0_0, .int .i64 a0_1]) (t := 25) fun a5 hg d4 hbox hb => ?_; have a2 := Aside0.mk (hbox); have a6 := bS HB hg; have a7 := bS HB hg; replace HB := Aside0.mk (below_step bB hb); clear hb hbox hg; obtain ⟨a9, b0, b1, b2⟩ := cf2 a2) | ((with_reducible refine gate_callee (f := 30) rfl ?_); refine goesL_ (some 5) rfl rfl Tryz.func30 kr rfl #[.agg #[.int .i64 a0_0, .int .i64 a0_1]] rfl sM ?_; (with_reducible refine (impl_IsTable.calls a0_0 a0_1 false _ A2.out).mono ?_); rintro e d5 ⟨rfl, hb⟩; refine ⟨_, rfl, ?_⟩; replace a2 := bQ a2 hb; replace HB := Aside0.mk (below_step bB hb); (try clear hb)))
 go_ret2
 exact ⟨sE, bI⟩
 )

/-! ### spec_TableText: function 22 -/
def spec_TableText.f (k : Nat) (a0_0 : Int) (a0_1 : Int) : Option (ByteArray × Bool) := (spec_beTable.f a0_0 a0_1).bind fun t429 => (if t429 = true then ((spec_beText.f k a0_0 a0_1).bind fun t430 => (some (t430, true))) else (some ((⟨#[]⟩ : ByteArray), false)))
theorem spec_TableText.mono : ∀ a0 a1 k, LeO (spec_TableText.f k a0 a1) (spec_TableText.f (k + 1) a0 a1) := by
  intro a0 a1 k
  unfold spec_TableText.f
  repeat' first
      | (with_reducible exact spec_beText.mono _ _ _)
      | (with_reducible exact LeO.refl _)
      | (with_reducible exact LeO.none _)
      | (with_reducible refine LeO.ite ?_ ?_)
      | (with_reducible refine LeO.bind ?_ (fun _ => ?_))
      | exact spec_beText.mono _ _ _
      | exact LeO.none _
      | refine LeO.ite ?_ ?_
      | refine LeO.bind ?_ (fun _ => ?_)
set_option maxHeartbeats 8000000 in
set_option maxRecDepth 100000 in
theorem spec_TableText.calls (k : Nat) (a0_0 : Int) (a0_1 : Int) (r1 : ByteArray) (r2 : Bool) (w : World) (h : spec_TableText.f k a0_0 a0_1 = some (r1, r2)) :
    Calls Tryz.prog 22 #[.agg #[.int .i64 a0_0, .int .i64 a0_1]] w fun e w' => e = .returned (.tuple #[.string r1, .bool r2]) ∧ Below w.heap.size w w' := by
 have b4 := Tryz.underlying25
 have HB := Aside0.mk (Below.refl w.heap.size w)
 have H := h
 unfold spec_TableText.f at H
 clear h
 obtain ⟨a3, A2, H⟩ := bD H
 try dsimp only at H
 by_cases c3 : a3 = true
 subst c3
 rw [if_pos rfl] at H
 obtain ⟨a4, A4, H⟩ := bD H
 try dsimp only at H
 simp only [Option.some.injEq, Prod.mk.injEq] at H
 obtain ⟨rfl, rfl⟩ := H
 rotate_left
 replace c3 := Bool.eq_false_iff.mpr c3
 subst c3
 rw [if_neg nft] at H
 simp only [Option.some.injEq, Prod.mk.injEq] at H
 obtain ⟨rfl, rfl⟩ := H
 rotate_left
 all_goals (go_enter Tryz.func22, Tryz.ntmps22)
 all_goals (go_wp2_with (first | ((with_reducible refine gate_dst (N := 1) rfl ?_); refine box_ (cs := #[.int .i64 a0_0, .int .i64 a0_1]) (t := 25) fun b5 hg b8 hbox hb => ?_; have a2 := Aside0.mk (hbox); have b6 := bS HB hg; have b7 := bS HB hg; replace HB := Aside0.mk (below_step bB hb); clear hb hbox hg; obtain ⟨a5, a6, a7, a8⟩ := cf2 a2) | ((with_reducible refine gate_callee (f := 46) rfl ?_); refine goesL_ (some 5) rfl rfl Tryz.func46 kr rfl #[.agg #[.int .i64 a0_0, .int .i64 a0_1]] rfl sM ?_; (with_reducible refine (spec_beTable.calls a0_0 a0_1 true _ A2.out).mono ?_); rintro e b3 ⟨rfl, hb⟩; refine ⟨_, rfl, ?_⟩; replace a2 := bQ a2 hb; replace HB := Aside0.mk (below_step bB hb); (try clear hb); obtain ⟨a9, b0, b1, b2⟩ := cf2 a2) | ((with_reducible refine gate_callee (f := 49) rfl ?_); refine goesL_ (some 8) rfl rfl Tryz.func49 kr rfl #[.agg #[.int .i64 a0_0, .int .i64 a0_1]] rfl sM ?_; (with_reducible refine (spec_beText.calls k a0_0 a0_1 a4 _ A4.out).mono ?_); rintro e b9 ⟨rfl, hb⟩; refine ⟨_, rfl, ?_⟩; replace a2 := bQ a2 hb; replace HB := Aside0.mk (below_step bB hb); (try clear hb)) | ((with_reducible refine gate_callee (f := 46) rfl ?_); refine goesL_ (some 5) rfl rfl Tryz.func46 kr rfl #[.agg #[.int .i64 a0_0, .int .i64 a0_1]] rfl sM ?_; (with_reducible refine (spec_beTable.calls a0_0 a0_1 false _ A2.out).mono ?_); rintro e b3 ⟨rfl, hb⟩; refine ⟨_, rfl, ?_⟩; replace a2 := bQ a2 hb; replace HB := Aside0.mk (below_step bB hb); (try clear hb))))
 all_goals go_ret2
 all_goals (exact ⟨sE, bI⟩)

/-! ### spec_DrawTablesFor: function 23 -/
-- (its text lies ahead)

/-! ### impl_TablesFor: function 24 -/
def impl_TablesFor.l0 : Nat → Int → List (S25) → Int → Option ((List (S25)) × Bool)
  | 0, _, _, _ => none
  | k + 1, x0, x4, x5 => if (wrap64 (2 * x5)) ≤ (wrap64 (x0 + 2)) then ((impl_IsTable.f x5 (wrap64 ((wrap64 (x0 + 2)) - x5))).bind fun t436 => (if t436 = true then ((impl_gcd.f k x5 (wrap64 ((wrap64 (x0 + 2)) - x5))).bind fun t437 => (if t437 = 1 then (if x4.length < 8796093022208 then (impl_TablesFor.l0 k x0 (x4 ++ [(⟨x5, wrap64 ((wrap64 (x0 + 2)) - x5)⟩ : S25)]) (wrap64 (x5 + 1))) else (none)) else (impl_TablesFor.l0 k x0 x4 (wrap64 (x5 + 1))))) else (impl_TablesFor.l0 k x0 x4 (wrap64 (x5 + 1))))) else (some (x4, true))
def impl_TablesFor.f (k : Nat) (a0 : Int) : Option ((List (S25)) × Bool) := (impl_within.f a0 0 100).bind fun t431 => (if t431 = true then (impl_TablesFor.l0 k a0 (([] : List (S25))) 1) else (some (([] : List (S25)), false)))
theorem impl_TablesFor.mono_l : ∀ k, (∀ y0 y1 y2, LeO (impl_TablesFor.l0 k y0 y1 y2) (impl_TablesFor.l0 (k + 1) y0 y1 y2))
  | 0 => fun _ _ _ r h => by simp [impl_TablesFor.l0] at h
  | k + 1 => by
    have ih0 := impl_TablesFor.mono_l k
    · intro y0 y1 y2
      unfold impl_TablesFor.l0
      repeat' first
      | (with_reducible exact ih0 _ _ _)
      | (with_reducible exact impl_gcd.mono _ _ _)
      | (with_reducible exact LeO.refl _)
      | (with_reducible exact LeO.none _)
      | (with_reducible refine LeO.ite ?_ ?_)
      | (with_reducible refine LeO.bind ?_ (fun _ => ?_))
      | exact ih0 _ _ _
      | exact impl_gcd.mono _ _ _
      | exact LeO.none _
      | refine LeO.ite ?_ ?_
      | refine LeO.bind ?_ (fun _ => ?_)
theorem impl_TablesFor.mono : ∀ a0 k, LeO (impl_TablesFor.f k a0) (impl_TablesFor.f (k + 1) a0) := by
  intro a0 k
  have ih0 := impl_TablesFor.mono_l k
  unfold impl_TablesFor.f
  repeat' first
      | (with_reducible exact ih0 _ _ _)
      | (with_reducible exact impl_gcd.mono _ _ _)
      | (with_reducible exact LeO.refl _)
      | (with_reducible exact LeO.none _)
      | (with_reducible refine LeO.ite ?_ ?_)
      | (with_reducible refine LeO.bind ?_ (fun _ => ?_))
      | exact ih0 _ _ _
      | exact impl_gcd.mono _ _ _
      | exact LeO.none _
      | refine LeO.ite ?_ ?_
      | refine LeO.bind ?_ (fun _ => ?_)
set_option maxHeartbeats 8000000 in
set_option maxRecDepth 100000 in
theorem impl_TablesFor.calls (k : Nat) (a0 : Int) (r1 : List (S25)) (r2 : Bool) (w : World) (h : impl_TablesFor.f k a0 = some (r1, r2)) :
    Calls Tryz.prog 24 #[.int .i64 a0] w fun e w' => ∃ v0_ : Value, e = .returned (.tuple #[v0_, .bool r2]) ∧ Kd.R k25 25 w' w.heap.size (fun _ => True) v0_ r1 ∧ Below w.heap.size w w' := by
 have g7 := Tryz.underlying25
 have HB := Aside0.mk (Below.refl w.heap.size w)
 have H := h
 unfold impl_TablesFor.f at H
 clear h
 obtain ⟨d0, A2, H⟩ := bD H
 try dsimp only at H
 by_cases c3 : d0 = true
 ·(
 subst c3
 rw [if_pos rfl] at H
 obtain ⟨b7, a7⟩ : ∃ y_ : List (S25), y_ = (([] : List (S25))) := ⟨_, rfl⟩
 replace H : (impl_TablesFor.l0 k a0 b7 1) = some (r1, r2) := by first | (rw [a7]; with_reducible exact H) | (have a9 := (Option.bind_some _ _).symm.trans H; rw [a7]; with_reducible exact a9) | (have a9 := (Option.bind_some _ _).symm.trans H; with_reducible exact a9) | with_reducible exact H | (rw [a7]; exact H) | exact H
 have b3 := Aside0.mk a7
 clear a7
 have H' := Aside0.mk H
 clear H
 go_enter Tryz.func24, Tryz.ntmps24
 go_wp2_with (first | ((with_reducible refine gate_callee (f := 37) rfl ?_); refine goesL_ (some 8) rfl rfl Tryz.func37 kr rfl #[.int .i64 a0, .int .i64 0, .int .i64 100] rfl sM ?_; (with_reducible refine (impl_within.calls a0 0 100 true _ A2.out).mono ?_); rintro e w' ⟨rfl, ⟨nd, rfl⟩⟩; refine ⟨_, rfl, ?_⟩) | ((with_reducible refine gate_dst (N := 10) rfl ?_); refine Kd.R_lit k25 _ 25 ?hg (N := 10) ?hd (xs := ([] : List (S25))) (inner := []) (ok := fun _ => True) (okp := fun _ => True) ?hr ?hp (fun _ hk => hk) trivial (Below.refl _ _) (Nat.le_refl _) (by simp) ?_; (case hd => rfl); (case hg => rfl); (case hr => first | (go_simp; done) | (go_simp; rfl)); (case hp => exact (Reps.none _ _)); intro g8 w4 b0 hb hg_ hnew_; clear hg_ hnew_; (first | rw [← b3.out] at b0 | (simp only [Int.reduceToNat] at b0; rw [← b3.out] at b0)); have b9 := Aside0.mk (Kd.R_lower b0 (below_size bB)); replace HB := Aside0.mk (below_step bB hb); clear hb b0))
 go_loopg [4, 5] k (fun kq v4 v5 w' => ∃ (a6 : List (S25)) (a2 : Int), v5 = .int .i64 a2 ∧ Aside0 (impl_TablesFor.l0 kq a0 a6 a2 = some (r1, r2)) ∧ Aside0 (kq ≤ k) ∧ Aside0 (Kd.R k25 25 w' w.heap.size (fun _ => True) v4 a6) ∧ Aside0 (Below w.heap.size w w'))
 case atStart => exact ⟨(b7), (1), sR, H', ⟨Nat.le_refl _⟩, ⟨oR b9⟩, ⟨bB⟩⟩
 case round => (
 clear H'
 try clear c3
 obtain ⟨a6, a2, rfl, HA, HK1, a4, HB⟩ := hrel
 cases gk with
 | zero => exact absurd HA.out (by simp [impl_TablesFor.l0])
 | succ k1 => (
 have H := HA.out
 clear HA
 simp only [impl_TablesFor.l0] at H
 by_cases c6 : (wrap64 (2 * a2)) ≤ (wrap64 (a0 + 2))
 ·(
 rw [if_pos c6] at H
 have d1 : decide ((wrap64 (2 * a2)) ≤ (wrap64 (a0 + 2))) = true := decide_eq_true c6
 clear c6
 obtain ⟨d2, A7, H⟩ := bD H
 try dsimp only at H
 by_cases c8 : d2 = true
 ·(
 subst c8
 rw [if_pos rfl] at H
 obtain ⟨b2, A9, H⟩ := bD H
 try dsimp only at H
 by_cases b1 : b2 = 1
 ·(
 rw [if_pos b1] at H
 obtain ⟨c0, c4⟩ := yE b1
 clear b1
 by_cases b4 : a6.length < 8796093022208
 ·(
 rw [if_pos b4] at H
 have c5 := Aside0.mk b4
 clear b4
 obtain ⟨b8, a8⟩ : ∃ y_ : List (S25), y_ = (a6 ++ [(⟨a2, wrap64 ((wrap64 (a0 + 2)) - a2)⟩ : S25)]) := ⟨_, rfl⟩
 replace H : (impl_TablesFor.l0 k1 a0 b8 (wrap64 (a2 + 1))) = some (r1, r2) := by first | (rw [a8]; with_reducible exact H) | (have a9 := (Option.bind_some _ _).symm.trans H; rw [a8]; with_reducible exact a9) | (have a9 := (Option.bind_some _ _).symm.trans H; with_reducible exact a9) | with_reducible exact H | (rw [a8]; exact H) | exact H
 have c7 := Aside0.mk a8
 clear a8
 have H' := Aside0.mk H
 clear H
 go_wp2_with (first | ((with_reducible refine gate_dst (N := 6) rfl ?_); refine box_ (cs := #[.int .i64 0, .int .i64 0]) (t := 25) fun a5 hg h2 hbox hb => ?_; have a3 := Aside0.mk (hbox); have b5 := bS HB hg; have b6 := bS HB hg; replace a4 := Aside0.mk (Kd.R_below (Kd.R_elderB (oR a4) a5 (Nat.le_of_eq hg.symm)) hb); replace HB := Aside0.mk (below_step bB hb); clear hb hbox hg; obtain ⟨d3, d4, d5, d6⟩ := cf2 a3) | ((with_reducible refine gate_callee (f := 30) rfl ?_); refine goesL_ (some 25) rfl rfl Tryz.func30 kr rfl #[.agg #[.int .i64 a2, .int .i64 (wrap64 ((wrap64 (a0 + 2)) - a2))]] rfl sM ?_; (with_reducible refine (impl_IsTable.calls a2 (wrap64 ((wrap64 (a0 + 2)) - a2)) true _ A7.out).mono ?_); rintro e h3 ⟨rfl, hb⟩; refine ⟨_, rfl, ?_⟩; replace a4 := Aside0.mk (Kd.R_below (by (with_reducible repeat (first | apply Kd.R_alloc | apply Kd.R_drewN | apply Kd.R_drew)); exact (Kd.R_mono (Kd.R_far (p := ⟨a5, 1, none⟩) (Kd.R_far (p := ⟨a5, 0, none⟩) (Kd.R_mono a4.out (fun k_ hk => (⟨hk, hk.2⟩ : _ ∧ k_ ≠ a5))) (fun _ hk => hk.2) (.int .i64 a2)) (fun _ hk => hk.2) (.int .i64 (wrap64 ((wrap64 (a0 + 2)) - a2)))) (fun _ h_ => h_.1))) hb); replace a3 := (bP (.cells #[.int .i64 a2, .int .i64 (wrap64 ((wrap64 (a0 + 2)) - a2))] 25 (0, 0)) a3 hb); replace HB := Aside0.mk (below_step bB hb); (try clear hb); (try clear hk); obtain ⟨d7, d8, d9, e0⟩ := cf2 a3) | (go_at_call 53; (with_reducible refine (impl_gcd.calls k1 a2 (wrap64 ((wrap64 (a0 + 2)) - a2)) b2 _ A9.out).mono ?_); rintro e h4 ⟨rfl, hb⟩; replace a4 := Aside0.mk (Kd.R_below (oR a4) hb); replace a3 := bQ a3 hb; replace HB := Aside0.mk (below_step bB hb); (try clear hb); obtain ⟨e1, e2, e3, e4⟩ := cf2 a3) | ((with_reducible refine gate_builtin (b := .append) (xs := #[.tmp 34, .tmp 36]) rfl ?_); at_builtin; refine Kd.R_append k25 (w0 := w) w.heap.size rfl (.tmp 34) (.tmp 36) 42 25 (.agg #[(.int .i64 0), (.int .i64 0)]) 16 rfl Tryz.underlying42 info25 rfl (by decide) (by omega) u4 a6 (⟨a2, wrap64 ((wrap64 (a0 + 2)) - a2)⟩ : S25) [.int .i64 a2, .int .i64 (wrap64 ((wrap64 (a0 + 2)) - a2))] (fun k_ => k_ ≠ a5) (fun _ => False) rfl rfl ?aP (fun _ hk => hk.elim) ?aF ?aO ?aB ?aS ?aL ?_; (case aP => exact k25_mkM _ _ _ (⟨a2, wrap64 ((wrap64 (a0 + 2)) - a2)⟩ : S25)); (case aB => exact bB); (case aF => exact (fun k_ hk => Kd.freshB (g := a5) (o := .cells #[.int .i64 a2, .int .i64 (wrap64 ((wrap64 (a0 + 2)) - a2))] 25 (0, 0)) (bK a3) k_ hk)); (case aO => exact (by (with_reducible repeat (first | apply Kd.R_alloc | apply Kd.R_drewN | apply Kd.R_drew)); exact Kd.R_mono a4.out (fun _ hk => hk.2))); (case aS => exact (below_size bB)); (case aL => have := c5.out; omega); intro g9 h5 ho hb hg hat; rw [← c7.out] at ho; have c9 := Aside0.mk (ho); replace a3 := Aside0.mk (blk_grown (g := a5) (o := .cells #[.int .i64 a2, .int .i64 (wrap64 ((wrap64 (a0 + 2)) - a2))] 25 (0, 0)) (bK a3) hg (Kd.R_away a4.out (fun _ hk => hk.2))); replace HB := Aside0.mk (hb); clear a4 ho hb hg hat))
 go_roundg k1
 case measure => have := HK1.out; omega
 case rel => exact ⟨(b8), (wrap64 (a2 + 1)), sR, H', ⟨by have := HK1.out; omega⟩, ⟨by (with_reducible repeat (first | apply Kd.R_alloc | apply Kd.R_drewN | apply Kd.R_drew)); exact Kd.R_mono c9.out (fun _ hk => trivial)⟩, ⟨bB⟩⟩
 )
 ·(
 rw [if_neg b4] at H
 exact absurd H (by simp)
 )
 )
 ·(
 rw [if_neg b1] at H
 obtain ⟨c0, c4⟩ := nE b1
 have H' := Aside0.mk H
 clear H
 go_wp2_with (first | ((with_reducible refine gate_dst (N := 6) rfl ?_); refine box_ (cs := #[.int .i64 0, .int .i64 0]) (t := 25) fun a5 hg h6 hbox hb => ?_; have a3 := Aside0.mk (hbox); have b5 := bS HB hg; have b6 := bS HB hg; replace a4 := Aside0.mk (Kd.R_below (Kd.R_elderB (oR a4) a5 (Nat.le_of_eq hg.symm)) hb); replace HB := Aside0.mk (below_step bB hb); clear hb hbox hg; obtain ⟨e5, e6, e7, e8⟩ := cf2 a3) | ((with_reducible refine gate_callee (f := 30) rfl ?_); refine goesL_ (some 25) rfl rfl Tryz.func30 kr rfl #[.agg #[.int .i64 a2, .int .i64 (wrap64 ((wrap64 (a0 + 2)) - a2))]] rfl sM ?_; (with_reducible refine (impl_IsTable.calls a2 (wrap64 ((wrap64 (a0 + 2)) - a2)) true _ A7.out).mono ?_); rintro e h7 ⟨rfl, hb⟩; refine ⟨_, rfl, ?_⟩; replace a4 := Aside0.mk (Kd.R_below (by (with_reducible repeat (first | apply Kd.R_alloc | apply Kd.R_drewN | apply Kd.R_drew)); exact (Kd.R_mono (Kd.R_far (p := ⟨a5, 1, none⟩) (Kd.R_far (p := ⟨a5, 0, none⟩) (Kd.R_mono a4.out (fun k_ hk => (⟨hk, hk.2⟩ : _ ∧ k_ ≠ a5))) (fun _ hk => hk.2) (.int .i64 a2)) (fun _ hk => hk.2) (.int .i64 (wrap64 ((wrap64 (a0 + 2)) - a2)))) (fun _ h_ => h_.1))) hb); replace a3 := (bP (.cells #[.int .i64 a2, .int .i64 (wrap64 ((wrap64 (a0 + 2)) - a2))] 25 (0, 0)) a3 hb); replace HB := Aside0.mk (below_step bB hb); (try clear hb); (try clear hk); obtain ⟨e9, g0, g1, g2⟩ := cf2 a3) | (go_at_call 53; (with_reducible refine (impl_gcd.calls k1 a2 (wrap64 ((wrap64 (a0 + 2)) - a2)) b2 _ A9.out).mono ?_); rintro e h8 ⟨rfl, hb⟩; replace a4 := Aside0.mk (Kd.R_below (oR a4) hb); replace a3 := bQ a3 hb; replace HB := Aside0.mk (below_step bB hb); (try clear hb)))
 go_roundg k1
 case measure => have := HK1.out; omega
 case rel => exact ⟨(a6), (wrap64 (a2 + 1)), sR, H', ⟨by have := HK1.out; omega⟩, ⟨by (with_reducible repeat (first | apply Kd.R_alloc | apply Kd.R_drewN | apply Kd.R_drew)); exact Kd.R_mono a4.out (fun _ hk => trivial)⟩, ⟨bB⟩⟩
 )
 )
 ·(
 replace c8 := Bool.eq_false_iff.mpr c8
 subst c8
 rw [if_neg nft] at H
 have H' := Aside0.mk H
 clear H
 go_wp2_with (first | ((with_reducible refine gate_dst (N := 6) rfl ?_); refine box_ (cs := #[.int .i64 0, .int .i64 0]) (t := 25) fun a5 hg h9 hbox hb => ?_; have a3 := Aside0.mk (hbox); have b5 := bS HB hg; have b6 := bS HB hg; replace a4 := Aside0.mk (Kd.R_below (Kd.R_elderB (oR a4) a5 (Nat.le_of_eq hg.symm)) hb); replace HB := Aside0.mk (below_step bB hb); clear hb hbox hg; obtain ⟨g3, g4, g5, g6⟩ := cf2 a3) | ((with_reducible refine gate_callee (f := 30) rfl ?_); refine goesL_ (some 25) rfl rfl Tryz.func30 kr rfl #[.agg #[.int .i64 a2, .int .i64 (wrap64 ((wrap64 (a0 + 2)) - a2))]] rfl sM ?_; (with_reducible refine (impl_IsTable.calls a2 (wrap64 ((wrap64 (a0 + 2)) - a2)) false _ A7.out).mono ?_); rintro e i0 ⟨rfl, hb⟩; refine ⟨_, rfl, ?_⟩; replace a4 := Aside0.mk (Kd.R_below (by (with_reducible repeat (first | apply Kd.R_alloc | apply Kd.R_drewN | apply Kd.R_drew)); exact (Kd.R_mono (Kd.R_far (p := ⟨a5, 1, none⟩) (Kd.R_far (p := ⟨a5, 0, none⟩) (Kd.R_mono a4.out (fun k_ hk => (⟨hk, hk.2⟩ : _ ∧ k_ ≠ a5))) (fun _ hk => hk.2) (.int .i64 a2)) (fun _ hk => hk.2) (.int .i64 (wrap64 ((wrap64 (a0 + 2)) - a2)))) (fun _ h_ => h_.1))) hb); replace a3 := (bP (.cells #[.int .i64 a2, .int .i64 (wrap64 ((wrap64 (a0 + 2)) - a2))] 25 (0, 0)) a3 hb); replace HB := Aside0.mk (below_step bB hb); (try clear hb); (try clear hk)))
 go_roundg k1
 case measure => have := HK1.out; omega
 case rel => exact ⟨(a6), (wrap64 (a2 + 1)), sR, H', ⟨by have := HK1.out; omega⟩, ⟨by (with_reducible repeat (first | apply Kd.R_alloc | apply Kd.R_drewN | apply Kd.R_drew)); exact Kd.R_mono a4.out (fun _ hk => trivial)⟩, ⟨bB⟩⟩
 )
 )
 ·(
 rw [if_neg c6] at H
 have d1 : decide ((wrap64 (2 * a2)) ≤ (wrap64 (a0 + 2))) = false := decide_eq_false c6
 clear c6
 simp only [Option.some.injEq, Prod.mk.injEq] at H
 obtain ⟨rfl, rfl⟩ := H
 go_wp2
 go_ret2
 exact ⟨_, sE, by (with_reducible repeat (first | apply Kd.R_alloc | apply Kd.R_drewN | apply Kd.R_drew)); exact a4.out, bI⟩
 )
 )
 )
 )
 ·(
 replace c3 := Bool.eq_false_iff.mpr c3
 subst c3
 rw [if_neg nft] at H
 simp only [Option.some.injEq, Prod.mk.injEq] at H
 obtain ⟨rfl, rfl⟩ := H
 go_enter Tryz.func24, Tryz.ntmps24
 go_wp2_with (first | ((with_reducible refine gate_callee (f := 37) rfl ?_); refine goesL_ (some 8) rfl rfl Tryz.func37 kr rfl #[.int .i64 a0, .int .i64 0, .int .i64 100] rfl sM ?_; (with_reducible refine (impl_within.calls a0 0 100 false _ A2.out).mono ?_); rintro e w' ⟨rfl, ⟨nd, rfl⟩⟩; refine ⟨_, rfl, ?_⟩))
 go_ret2
 exact ⟨_, sE, by first | exact Kd.R_nil _ _ _ _ _ | exact Kd.N_nil _ _ _ _ _ | exact Kd.V_nil _ _ _ _ _ | exact Kd.Q_nil _ _ _ _ _ | exact Kd.S_nil _ _ _ _ _, bI⟩
 )

/-! ### spec_TablesFor: function 25 -/
def spec_TablesFor.l0 : Nat → Int → List (S25) → Int → Option ((List (S25)) × Bool)
  | 0, _, _, _ => none
  | k + 1, x0, x4, x5 => if (wrap64 (2 * x5)) ≤ (wrap64 (x0 + 2)) then ((spec_clLow.f k x5 (wrap64 ((wrap64 (x0 + 2)) - x5))).bind fun bt442 => (if bt442.1 = x5 then (if (wrap64 ((wrap64 (x0 + 2)) - x5)) ≤ 60 then (if x4.length < 8796093022208 then (spec_TablesFor.l0 k x0 (x4 ++ [(⟨x5, wrap64 ((wrap64 (x0 + 2)) - x5)⟩ : S25)]) (wrap64 (x5 + 1))) else (none)) else (spec_TablesFor.l0 k x0 x4 (wrap64 (x5 + 1)))) else (spec_TablesFor.l0 k x0 x4 (wrap64 (x5 + 1))))) else (some (x4, true))
def spec_TablesFor.f (k : Nat) (a0 : Int) : Option ((List (S25)) × Bool) := (spec_l1In.f a0 0 100).bind fun t441 => (if t441 = true then (spec_TablesFor.l0 k a0 ([] : List (S25)) 1) else (some (([] : List (S25)), false)))
theorem spec_TablesFor.mono_l : ∀ k, (∀ y0 y1 y2, LeO (spec_TablesFor.l0 k y0 y1 y2) (spec_TablesFor.l0 (k + 1) y0 y1 y2))
  | 0 => fun _ _ _ r h => by simp [spec_TablesFor.l0] at h
  | k + 1 => by
    have ih0 := spec_TablesFor.mono_l k
    · intro y0 y1 y2
      unfold spec_TablesFor.l0
      repeat' first
      | (with_reducible exact ih0 _ _ _)
      | (with_reducible exact spec_clLow.mono _ _ _)
      | (with_reducible exact LeO.refl _)
      | (with_reducible exact LeO.none _)
      | (with_reducible refine LeO.ite ?_ ?_)
      | (with_reducible refine LeO.bind ?_ (fun _ => ?_))
      | exact ih0 _ _ _
      | exact spec_clLow.mono _ _ _
      | exact LeO.none _
      | refine LeO.ite ?_ ?_
      | refine LeO.bind ?_ (fun _ => ?_)
theorem spec_TablesFor.mono : ∀ a0 k, LeO (spec_TablesFor.f k a0) (spec_TablesFor.f (k + 1) a0) := by
  intro a0 k
  have ih0 := spec_TablesFor.mono_l k
  unfold spec_TablesFor.f
  repeat' first
      | (with_reducible exact ih0 _ _ _)
      | (with_reducible exact spec_clLow.mono _ _ _)
      | (with_reducible exact LeO.refl _)
      | (with_reducible exact LeO.none _)
      | (with_reducible refine LeO.ite ?_ ?_)
      | (with_reducible refine LeO.bind ?_ (fun _ => ?_))
      | exact ih0 _ _ _
      | exact spec_clLow.mono _ _ _
      | exact LeO.none _
      | refine LeO.ite ?_ ?_
      | refine LeO.bind ?_ (fun _ => ?_)
set_option maxHeartbeats 8000000 in
set_option maxRecDepth 100000 in
theorem spec_TablesFor.calls (k : Nat) (a0 : Int) (r1 : List (S25)) (r2 : Bool) (w : World) (h : spec_TablesFor.f k a0 = some (r1, r2)) :
    Calls Tryz.prog 25 #[.int .i64 a0] w fun e w' => ∃ v0_ : Value, e = .returned (.tuple #[v0_, .bool r2]) ∧ Kd.R k25 25 w' w.heap.size (fun _ => True) v0_ r1 ∧ Below w.heap.size w w' := by
 have b8 := Tryz.underlying25
 have HB := Aside0.mk (Below.refl w.heap.size w)
 have H := h
 unfold spec_TablesFor.f at H
 clear h
 obtain ⟨b2, A2, H⟩ := bD H
 try dsimp only at H
 by_cases c3 : b2 = true
 ·(
 subst c3
 rw [if_pos rfl] at H
 have H' := Aside0.mk H
 clear H
 go_enter Tryz.func25, Tryz.ntmps25
 go_wp2_with (first | ((with_reducible refine gate_callee (f := 54) rfl ?_); refine goesL_ (some 10) rfl rfl Tryz.func54 kr rfl #[.int .i64 a0, .int .i64 0, .int .i64 100] rfl sM ?_; (with_reducible refine (spec_l1In.calls a0 0 100 true _ A2.out).mono ?_); rintro e w' ⟨rfl, ⟨nd, rfl⟩⟩; refine ⟨_, rfl, ?_⟩))
 go_loopg [4, 5] k (fun kq v4 v5 w' => ∃ (a3 : List (S25)) (a2 : Int), v5 = .int .i64 a2 ∧ Aside0 (spec_TablesFor.l0 kq a0 a3 a2 = some (r1, r2)) ∧ Aside0 (kq ≤ k) ∧ Aside0 (Kd.R k25 25 w' w.heap.size (fun _ => True) v4 a3) ∧ Aside0 (Below w.heap.size w w'))
 case atStart => exact ⟨(([] : List (S25))), (1), sR, H', ⟨Nat.le_refl _⟩, ⟨by first | exact Kd.R_nil _ _ _ _ _ | exact Kd.N_nil _ _ _ _ _ | exact Kd.V_nil _ _ _ _ _ | exact Kd.Q_nil _ _ _ _ _ | exact Kd.S_nil _ _ _ _ _⟩, ⟨bB⟩⟩
 case round => (
 clear H'
 try clear c3
 obtain ⟨a3, a2, rfl, HA, HK1, a5, HB⟩ := hrel
 cases gk with
 | zero => exact absurd HA.out (by simp [spec_TablesFor.l0])
 | succ k1 => (
 have H := HA.out
 clear HA
 simp only [spec_TablesFor.l0] at H
 by_cases c4 : (wrap64 (2 * a2)) ≤ (wrap64 (a0 + 2))
 ·(
 rw [if_pos c4] at H
 have b3 : decide ((wrap64 (2 * a2)) ≤ (wrap64 (a0 + 2))) = true := decide_eq_true c4
 clear c4
 obtain ⟨⟨a6, a7⟩, A5, H⟩ := bD H
 try dsimp only at H
 by_cases c6 : a6 = a2
 ·(
 rw [if_pos c6] at H
 obtain ⟨b4, b5⟩ := yE c6
 clear c6
 by_cases c7 : (wrap64 ((wrap64 (a0 + 2)) - a2)) ≤ 60
 ·(
 rw [if_pos c7] at H
 have b6 : decide ((wrap64 ((wrap64 (a0 + 2)) - a2)) ≤ 60) = true := decide_eq_true c7
 clear c7
 by_cases c8 : a3.length < 8796093022208
 ·(
 rw [if_pos c8] at H
 have b7 := Aside0.mk c8
 clear c8
 obtain ⟨a8, a4⟩ : ∃ y_ : List (S25), y_ = (a3 ++ [(⟨a2, wrap64 ((wrap64 (a0 + 2)) - a2)⟩ : S25)]) := ⟨_, rfl⟩
 replace H : (spec_TablesFor.l0 k1 a0 a8 (wrap64 (a2 + 1))) = some (r1, r2) := by first | (rw [a4]; with_reducible exact H) | (have a9 := (Option.bind_some _ _).symm.trans H; rw [a4]; with_reducible exact a9) | (have a9 := (Option.bind_some _ _).symm.trans H; with_reducible exact a9) | with_reducible exact H | (rw [a4]; exact H) | exact H
 have b0 := Aside0.mk a4
 clear a4
 have H' := Aside0.mk H
 clear H
 go_wp2_with (first | ((with_reducible refine gate_callee (f := 55) rfl ?_); refine goesL_ (some 26) rfl rfl Tryz.func55 kr rfl #[.int .i64 a2, .int .i64 (wrap64 ((wrap64 (a0 + 2)) - a2))] rfl sM ?_; (with_reducible refine (spec_clLow.calls k1 a2 (wrap64 ((wrap64 (a0 + 2)) - a2)) a6 a7 _ A5.out).mono ?_); rintro e w' ⟨rfl, ⟨nd, rfl⟩⟩; refine ⟨_, rfl, ?_⟩) | ((with_reducible refine gate_builtin (b := .append) (xs := #[.tmp 36, .tmp 40]) rfl ?_); at_builtin; refine Kd.R_append k25 (w0 := w) w.heap.size rfl (.tmp 36) (.tmp 40) 42 25 (.agg #[(.int .i64 0), (.int .i64 0)]) 16 rfl Tryz.underlying42 info25 rfl (by decide) (by omega) u4 a3 (⟨a2, wrap64 ((wrap64 (a0 + 2)) - a2)⟩ : S25) [.int .i64 a2, .int .i64 (wrap64 ((wrap64 (a0 + 2)) - a2))] (fun _ => True) (fun _ => False) rfl rfl ?aP (fun _ hk => hk.elim) ?aF ?aO ?aB ?aS ?aL ?_; (case aP => exact k25_mkM _ _ _ (⟨a2, wrap64 ((wrap64 (a0 + 2)) - a2)⟩ : S25)); (case aB => exact bB); (case aF => exact (fun _ _ => trivial)); (case aO => exact (oR a5)); (case aS => exact (below_size bB)); (case aL => have := b7.out; omega); intro b9 w9 ho hb hg hat; rw [← b0.out] at ho; have b1 := Aside0.mk (ho); replace HB := Aside0.mk (hb); clear a5 ho hb hg hat))
 go_roundg k1
 case measure => have := HK1.out; omega
 case rel => exact ⟨(a8), (wrap64 (a2 + 1)), sR, H', ⟨by have := HK1.out; omega⟩, ⟨oR b1⟩, ⟨bB⟩⟩
 )
 ·(
 rw [if_neg c8] at H
 exact absurd H (by simp)
 )
 )
 ·(
 rw [if_neg c7] at H
 have b6 : decide ((wrap64 ((wrap64 (a0 + 2)) - a2)) ≤ 60) = false := decide_eq_false c7
 clear c7
 have H' := Aside0.mk H
 clear H
 go_wp2_with (first | ((with_reducible refine gate_callee (f := 55) rfl ?_); refine goesL_ (some 26) rfl rfl Tryz.func55 kr rfl #[.int .i64 a2, .int .i64 (wrap64 ((wrap64 (a0 + 2)) - a2))] rfl sM ?_; (with_reducible refine (spec_clLow.calls k1 a2 (wrap64 ((wrap64 (a0 + 2)) - a2)) a6 a7 _ A5.out).mono ?_); rintro e w' ⟨rfl, ⟨nd, rfl⟩⟩; refine ⟨_, rfl, ?_⟩))
 go_roundg k1
 case measure => have := HK1.out; omega
 case rel => exact ⟨(a3), (wrap64 (a2 + 1)), sR, H', ⟨by have := HK1.out; omega⟩, ⟨oR a5⟩, ⟨bB⟩⟩
 )
 )
 ·(
 rw [if_neg c6] at H
 obtain ⟨b4, b5⟩ := nE c6
 have H' := Aside0.mk H
 clear H
 go_wp2_with (first | ((with_reducible refine gate_callee (f := 55) rfl ?_); refine goesL_ (some 26) rfl rfl Tryz.func55 kr rfl #[.int .i64 a2, .int .i64 (wrap64 ((wrap64 (a0 + 2)) - a2))] rfl sM ?_; (with_reducible refine (spec_clLow.calls k1 a2 (wrap64 ((wrap64 (a0 + 2)) - a2)) a6 a7 _ A5.out).mono ?_); rintro e w' ⟨rfl, ⟨nd, rfl⟩⟩; refine ⟨_, rfl, ?_⟩))
 go_roundg k1
 case measure => have := HK1.out; omega
 case rel => exact ⟨(a3), (wrap64 (a2 + 1)), sR, H', ⟨by have := HK1.out; omega⟩, ⟨oR a5⟩, ⟨bB⟩⟩
 )
 )
 ·(
 rw [if_neg c4] at H
 have b3 : decide ((wrap64 (2 * a2)) ≤ (wrap64 (a0 + 2))) = false := decide_eq_false c4
 clear c4
 simp only [Option.some.injEq, Prod.mk.injEq] at H
 obtain ⟨rfl, rfl⟩ := H
 go_wp2
 go_ret2
 exact ⟨_, sE, by (with_reducible repeat (first | apply Kd.R_alloc | apply Kd.R_drewN | apply Kd.R_drew)); exact a5.out, bI⟩
 )
 )
 )
 )
 ·(
 replace c3 := Bool.eq_false_iff.mpr c3
 subst c3
 rw [if_neg nft] at H
 simp only [Option.some.injEq, Prod.mk.injEq] at H
 obtain ⟨rfl, rfl⟩ := H
 go_enter Tryz.func25, Tryz.ntmps25
 go_wp2_with (first | ((with_reducible refine gate_callee (f := 54) rfl ?_); refine goesL_ (some 10) rfl rfl Tryz.func54 kr rfl #[.int .i64 a0, .int .i64 0, .int .i64 100] rfl sM ?_; (with_reducible refine (spec_l1In.calls a0 0 100 false _ A2.out).mono ?_); rintro e w' ⟨rfl, ⟨nd, rfl⟩⟩; refine ⟨_, rfl, ?_⟩))
 go_ret2
 exact ⟨_, sE, by first | exact Kd.R_nil _ _ _ _ _ | exact Kd.N_nil _ _ _ _ _ | exact Kd.V_nil _ _ _ _ _ | exact Kd.Q_nil _ _ _ _ _ | exact Kd.S_nil _ _ _ _ _, bI⟩
 )

/-! ### spec_DrawParseTable: function 26 -/
-- (its text lies ahead)

/-! ### impl_number: function 59 -/
theorem pt_text (n : Int) (h0 : -9223372036854775808 ≤ n) (h1 : n ≤ 9223372036854775807) (w : World) (hw : PtW w) :
    Calls Tryz.prog 48 #[.int .i64 n] w fun e w' => e = .returned (.string ⟨(Lib.itoa n).toArray⟩) ∧ Below w.heap.size w w' := by
  have HT := Aside0.mk (Tryz.strconv_Itoa n h0 h1 w hw.tab)
  clear hw
  go_enter Tryz.func48, Tryz.ntmps48
  go_wp2_with (go_at_call 72; (refine HT.out.mono ?_); rintro e w1 ⟨rfl, k, os, rfl⟩)
  go_ret
  exact ⟨rfl, Lib.below_grow _ _ (Nat.le_refl _) _ _⟩
theorem atoi_range {l : List UInt8} {v : Int} (h : Lib.atoiAll l = .ok v) : -9223372036854775808 ≤ v ∧ v ≤ 9223372036854775807 := by
  unfold Lib.atoiAll at h
  split at h
  · cases h
  · simp only at h
    split at h
    · cases h
    · cases h
    · split at h
      · cases h
      · split at h
        · cases h
        · rename_i u _ c1 c2
          injection h with h
          subst h
          split <;> omega
/-- The number with a text, and whether there is one. -/
def numR (s : ByteArray) : Int × Bool := match Lib.atoiAll s.data.toList with
  | .ok v => (v, Lib.itoa v == s.toList)
  | .«syntax» => (0, false)
  | .range => (Lib.atoiSat s.data.toList, false)
def impl_number.f (a0 : ByteArray) : Option (Int × Bool) := if a0.size ≤ 281474976710656 then some (numR a0) else none
set_option maxHeartbeats 4000000 in
set_option maxRecDepth 100000 in
theorem impl_number.calls (a0 : ByteArray) (r1 : Int) (r2 : Bool) (w : World) (h : impl_number.f a0 = some (r1, r2)) (hw : PtW w) :
    Calls Tryz.prog 59 #[.string a0] w fun e w' => e = .returned (.tuple #[.int .i64 r1, .bool r2]) ∧ Below w.heap.size w w' := by
 unfold impl_number.f at h
 by_cases c : a0.size ≤ 281474976710656
 case neg => (
 rw [if_neg c] at h
 cases h
 )
 rw [if_pos c] at h
 have h := Option.some.inj h
 unfold numR at h
 have HW := Aside0.mk hw
 cases ha : Lib.atoiAll a0.data.toList with
 | ok v =>
  rw [ha] at h
  obtain ⟨rfl, rfl⟩ := Prod.mk.inj h
  have hv := atoi_range ha
  have HA := Aside0.mk (Tryz.strconv_Atoi_ok a0 (by omega) v ha w)
  have HT := Aside0.mk (fun (W : World) (hb : Below w.heap.size w W) => pt_text v hv.1 hv.2 W (HW.out.below hb))
  clear h ha c hw HW hv
  go_enter Tryz.func59, Tryz.ntmps59
  go_wp2_with (first | (go_at_call 76; (refine HA.out.mono ?_); rintro e w1 ⟨rfl, a3⟩; have a2 : Below w.heap.size w w1 := a3.elim (fun e => e ▸ Below.refl _ _) (fun ⟨t, e⟩ => e ▸ bytes_below (Below.refl _ _) (Nat.le_refl _) _ _); clear a3 HA) | (go_at_call 48; (refine (HT.out _ a2).mono ?_); rintro e w2 ⟨rfl, a4⟩))
  go_ret2
  exact ⟨rfl, below_step a2 a4⟩
 | «syntax» =>
  rw [ha] at h
  obtain ⟨rfl, rfl⟩ := Prod.mk.inj h
  obtain ⟨ev, he, hev⟩ := hw.syn
  have HA := Aside0.mk (Tryz.strconv_Atoi_syntax a0 c ha ev w he hev)
  clear h ha c hw HW he hev
  go_enter Tryz.func59, Tryz.ntmps59
  go_wp2_with (go_at_call 76; (refine HA.out.mono ?_); rintro e w1 ⟨N, rfl, _, _, a2⟩; clear HA)
  go_ret2
  exact ⟨rfl, a2⟩
 | range =>
  rw [ha] at h
  obtain ⟨rfl, rfl⟩ := Prod.mk.inj h
  obtain ⟨ev, he, hev⟩ := hw.rng
  have HA := Aside0.mk (Tryz.strconv_Atoi_range a0 c ha ev w he hev)
  clear h ha c hw HW he hev
  go_enter Tryz.func59, Tryz.ntmps59
  go_wp2_with (go_at_call 76; (refine HA.out.mono ?_); rintro e w1 ⟨N, rfl, _, _, a2⟩; clear HA)
  go_ret2
  exact ⟨rfl, a2⟩

/-! ### impl_ParseTable: function 27 -/
def impl_ParseTable.f (a0 : ByteArray) : Option (Int × Int × Bool) := (strings_Cut.f a0 (⟨#[120]⟩ : ByteArray)).bind fun bt448 => ((impl_number.f bt448.1).bind fun bt451 => ((impl_number.f bt448.2.1).bind fun bt453 => (if bt451.2 = true then (if bt453.2 = true then ((impl_IsTable.f bt451.1 bt453.1).bind fun t455 => (if t455 = true then (some (bt451.1, bt453.1, true)) else (some (0, 0, false)))) else (some (0, 0, false))) else (some (0, 0, false)))))
set_option maxHeartbeats 8000000 in
set_option maxRecDepth 100000 in
theorem impl_ParseTable.calls (a0 : ByteArray) (r1 : Int) (r2 : Int) (r3 : Bool) (w : World) (h : impl_ParseTable.f a0 = some (r1, r2, r3)) (hw_ : PtW w) :
    Calls Tryz.prog 27 #[.string a0] w fun e w' => e = .returned (.tuple #[.agg #[.int .i64 r1, .int .i64 r2], .bool r3]) ∧ Below w.heap.size w w' := by
 have HM := Aside0.mk hw_
 clear hw_
 have b9 := Tryz.underlying25
 have HB := Aside0.mk (Below.refl w.heap.size w)
 have H := h
 unfold impl_ParseTable.f at H
 clear h
 obtain ⟨⟨a9, a3, b4⟩, A2, H⟩ := bD H
 try dsimp only at H
 obtain ⟨⟨b0, b5⟩, A3, H⟩ := bD H
 try dsimp only at H
 obtain ⟨⟨a4, b2⟩, A4, H⟩ := bD H
 try dsimp only at H
 by_cases c5 : b5 = true
 subst c5
 rw [if_pos rfl] at H
 by_cases c6 : b2 = true
 subst c6
 rw [if_pos rfl] at H
 obtain ⟨b6, A7, H⟩ := bD H
 try dsimp only at H
 by_cases c8 : b6 = true
 subst c8
 rw [if_pos rfl] at H
 simp only [Option.some.injEq, Prod.mk.injEq] at H
 obtain ⟨rfl, rfl, rfl⟩ := H
 rotate_left
 replace c8 := Bool.eq_false_iff.mpr c8
 subst c8
 rw [if_neg nft] at H
 simp only [Option.some.injEq, Prod.mk.injEq] at H
 obtain ⟨rfl, rfl, rfl⟩ := H
 rotate_left
 replace c6 := Bool.eq_false_iff.mpr c6
 subst c6
 rw [if_neg nft] at H
 simp only [Option.some.injEq, Prod.mk.injEq] at H
 obtain ⟨rfl, rfl, rfl⟩ := H
 rotate_left
 replace c5 := Bool.eq_false_iff.mpr c5
 subst c5
 rw [if_neg nft] at H
 simp only [Option.some.injEq, Prod.mk.injEq] at H
 obtain ⟨rfl, rfl, rfl⟩ := H
 rotate_left
 all_goals (go_enter Tryz.func27, Tryz.ntmps27)
 all_goals (go_wp2_with (first | ((with_reducible refine gate_dst (N := 2) rfl ?_); refine box_ (cs := #[.int .i64 0, .int .i64 0]) (t := 25) fun b1 hg c4 hbox hb => ?_; have a2 := Aside0.mk (hbox); have c0 := bS HB hg; have c3 := bS HB hg; replace HB := Aside0.mk (below_step bB hb); clear hb hbox hg) | ((with_reducible refine gate_callee (f := 58) rfl ?_); refine goesL_ (some 13) rfl rfl Tryz.func58 kr rfl #[.string a0, .string (⟨#[120]⟩ : ByteArray)] rfl sM ?_; (with_reducible refine (strings_Cut.calls a0 (⟨#[120]⟩ : ByteArray) a9 a3 b4 _ A2.out (HM.out.below (by repeat (first | (with_reducible first | exact HB.out | apply below_alloc | apply pw_below_drewN | apply below_drew1 | refine below_set ?_ (Aside0.out (by assumption))) | exact HB.out)))).mono ?_); rintro e c7 ⟨rfl, hb⟩; refine ⟨_, rfl, ?_⟩; replace a2 := bQ a2 hb; replace HB := Aside0.mk (below_step bB hb); (try clear hb)) | ((with_reducible refine gate_callee (f := 59) rfl ?_); refine goesL_ (some 19) rfl rfl Tryz.func59 kr rfl #[.string a9] rfl sM ?_; (with_reducible refine (impl_number.calls a9 b0 true _ A3.out (HM.out.below (by repeat (first | (with_reducible first | exact HB.out | apply below_alloc | apply pw_below_drewN | apply below_drew1 | refine below_set ?_ (Aside0.out (by assumption))) | exact HB.out)))).mono ?_); rintro e b7 ⟨rfl, hb⟩; refine ⟨_, rfl, ?_⟩; replace a2 := bQ a2 hb; replace HB := Aside0.mk (below_step bB hb); (try clear hb)) | ((with_reducible refine gate_callee (f := 59) rfl ?_); refine goesL_ (some 24) rfl rfl Tryz.func59 kr rfl #[.string a3] rfl sM ?_; (with_reducible refine (impl_number.calls a3 a4 true _ A4.out (HM.out.below (by repeat (first | (with_reducible first | exact HB.out | apply below_alloc | apply pw_below_drewN | apply below_drew1 | refine below_set ?_ (Aside0.out (by assumption))) | exact HB.out)))).mono ?_); rintro e b3 ⟨rfl, hb⟩; refine ⟨_, rfl, ?_⟩; replace a2 := bQ a2 hb; replace HB := Aside0.mk (below_step bB hb); (try clear hb)) | (go_at_call 30; (with_reducible refine (impl_IsTable.calls b0 a4 true _ A7.out).mono ?_); rintro e b8 ⟨rfl, hb⟩; replace a2 := bQ a2 hb; replace HB := Aside0.mk (below_step bB hb); (try clear hb); obtain ⟨a5, a6, a7, a8⟩ := cf2 a2) | (go_at_call 30; (with_reducible refine (impl_IsTable.calls b0 a4 false _ A7.out).mono ?_); rintro e b8 ⟨rfl, hb⟩; replace a2 := bQ a2 hb; replace HB := Aside0.mk (below_step bB hb); (try clear hb); obtain ⟨a5, a6, a7, a8⟩ := cf2 a2) | ((with_reducible refine gate_callee (f := 59) rfl ?_); refine goesL_ (some 24) rfl rfl Tryz.func59 kr rfl #[.string a3] rfl sM ?_; (with_reducible refine (impl_number.calls a3 a4 false _ A4.out (HM.out.below (by repeat (first | (with_reducible first | exact HB.out | apply below_alloc | apply pw_below_drewN | apply below_drew1 | refine below_set ?_ (Aside0.out (by assumption))) | exact HB.out)))).mono ?_); rintro e b3 ⟨rfl, hb⟩; refine ⟨_, rfl, ?_⟩; replace a2 := bQ a2 hb; replace HB := Aside0.mk (below_step bB hb); (try clear hb); obtain ⟨a5, a6, a7, a8⟩ := cf2 a2) | ((with_reducible refine gate_callee (f := 59) rfl ?_); refine goesL_ (some 19) rfl rfl Tryz.func59 kr rfl #[.string a9] rfl sM ?_; (with_reducible refine (impl_number.calls a9 b0 false _ A3.out (HM.out.below (by repeat (first | (with_reducible first | exact HB.out | apply below_alloc | apply pw_below_drewN | apply below_drew1 | refine below_set ?_ (Aside0.out (by assumption))) | exact HB.out)))).mono ?_); rintro e b7 ⟨rfl, hb⟩; refine ⟨_, rfl, ?_⟩; replace a2 := bQ a2 hb; replace HB := Aside0.mk (below_step bB hb); (try clear hb)) | ((with_reducible refine gate_callee (f := 59) rfl ?_); refine goesL_ (some 24) rfl rfl Tryz.func59 kr rfl #[.string a3] rfl sM ?_; (with_reducible refine (impl_number.calls a3 a4 b2 _ A4.out (HM.out.below (by repeat (first | (with_reducible first | exact HB.out | apply below_alloc | apply pw_below_drewN | apply below_drew1 | refine below_set ?_ (Aside0.out (by assumption))) | exact HB.out)))).mono ?_); rintro e b3 ⟨rfl, hb⟩; refine ⟨_, rfl, ?_⟩; replace a2 := bQ a2 hb; replace HB := Aside0.mk (below_step bB hb); (try clear hb); obtain ⟨a5, a6, a7, a8⟩ := cf2 a2)))
 ·(
 refine bodyPost_ret (results_ct rfl _ _ b1 25 #[.int .i64 b0, .int .i64 a4] (0, 0) _ rfl (bK a2) Tryz.underlying25 rfl kr) rfl ?_
 exact ⟨sE, bI⟩
 )
 ·(
 refine bodyPost_ret (results_ct rfl _ _ b1 25 #[.int .i64 0, .int .i64 0] (0, 0) _ rfl (bK a2) Tryz.underlying25 rfl kr) rfl ?_
 exact ⟨sE, bI⟩
 )
 ·(
 refine bodyPost_ret (results_ct rfl _ _ b1 25 #[.int .i64 0, .int .i64 0] (0, 0) _ rfl (bK a2) Tryz.underlying25 rfl kr) rfl ?_
 exact ⟨sE, bI⟩
 )
 ·(
 refine bodyPost_ret (results_ct rfl _ _ b1 25 #[.int .i64 0, .int .i64 0] (0, 0) _ rfl (bK a2) Tryz.underlying25 rfl kr) rfl ?_
 exact ⟨sE, bI⟩
 )

/-! ### spec_l1Split: function 77 -/
def spec_l1Split.l0 : Nat → ByteArray → Int → List ByteArray → Int → Int → Option (List ByteArray)
  | 0, _, _, _, _, _ => none
  | k + 1, x0, x1, x5, x6, x7 => if x7 < (x0.size : Int) then (if 0 ≤ x7 then (if (bt x0 x7) = x1 then (if 0 ≤ x6 then (if x6 ≤ x7 then (if x7 ≤ (x0.size : Int) then (if x5.length < 8796093022208 then (spec_l1Split.l0 k x0 x1 (x5 ++ [x0.extract (x6 : Int).toNat (x7 : Int).toNat]) (wrap64 (x7 + 1)) (wrap64 (x7 + 1))) else (none)) else (none)) else (none)) else (none)) else (spec_l1Split.l0 k x0 x1 x5 x6 (wrap64 (x7 + 1)))) else (none)) else (if 0 ≤ x6 then (if x6 ≤ (x0.size : Int) then (if x5.length < 8796093022208 then (some (x5 ++ [x0.extract (x6 : Int).toNat x0.size])) else (none)) else (none)) else (none))
def spec_l1Split.f (k : Nat) (a0 : ByteArray) (a1 : Int) : Option (List ByteArray) := spec_l1Split.l0 k a0 a1 ([] : List ByteArray) 0 0
theorem spec_l1Split.mono_l : ∀ k, (∀ y0 y1 y2 y3 y4, LeO (spec_l1Split.l0 k y0 y1 y2 y3 y4) (spec_l1Split.l0 (k + 1) y0 y1 y2 y3 y4))
  | 0 => fun _ _ _ _ _ r h => by simp [spec_l1Split.l0] at h
  | k + 1 => by
    have ih0 := spec_l1Split.mono_l k
    · intro y0 y1 y2 y3 y4
      unfold spec_l1Split.l0
      repeat' first
      | (with_reducible exact ih0 _ _ _ _ _)
      | (with_reducible exact LeO.refl _)
      | (with_reducible exact LeO.none _)
      | (with_reducible refine LeO.ite ?_ ?_)
      | (with_reducible refine LeO.bind ?_ (fun _ => ?_))
      | exact ih0 _ _ _ _ _
      | exact LeO.none _
      | refine LeO.ite ?_ ?_
      | refine LeO.bind ?_ (fun _ => ?_)
theorem spec_l1Split.mono : ∀ a0 a1 k, LeO (spec_l1Split.f k a0 a1) (spec_l1Split.f (k + 1) a0 a1) := by
  intro a0 a1 k
  have ih0 := spec_l1Split.mono_l k
  unfold spec_l1Split.f
  repeat' first
      | (with_reducible exact ih0 _ _ _ _ _)
      | (with_reducible exact LeO.refl _)
      | (with_reducible exact LeO.none _)
      | (with_reducible refine LeO.ite ?_ ?_)
      | (with_reducible refine LeO.bind ?_ (fun _ => ?_))
      | exact ih0 _ _ _ _ _
      | exact LeO.none _
      | refine LeO.ite ?_ ?_
      | refine LeO.bind ?_ (fun _ => ?_)
set_option maxHeartbeats 8000000 in
set_option maxRecDepth 100000 in
theorem spec_l1Split.calls (k : Nat) (a0 : ByteArray) (a1 : Int) (r : List ByteArray) (w : World) (h : spec_l1Split.f k a0 a1 = some r) :
    Calls Tryz.prog 77 #[.string a0, .int .u8 a1] w fun e w' => ∃ v0_ : Value, e = .returned (v0_) ∧ Kd.R Kd.string 9 w' w.heap.size (fun _ => True) v0_ r ∧ Below w.heap.size w w' := by
 have HB := Aside0.mk (Below.refl w.heap.size w)
 have H := h
 unfold spec_l1Split.f at H
 clear h
 have H' := Aside0.mk H
 clear H
 go_enter Tryz.func77, Tryz.ntmps77
 go_wp2
 go_loopg [5, 6, 7] k (fun kq v5 v6 v7 w' => ∃ (a4 : List ByteArray) (a3 : Int) (a2 : Int), v6 = .int .i64 a3 ∧ v7 = .int .i64 a2 ∧ Aside0 (spec_l1Split.l0 kq a0 a1 a4 a3 a2 = some r) ∧ Aside0 (kq ≤ k) ∧ Aside0 (Kd.R Kd.string 9 w' w.heap.size (fun _ => True) v5 a4) ∧ Aside0 (Below w.heap.size w w'))
 case atStart => exact ⟨(([] : List ByteArray)), (0), (0), sR, sR, H', ⟨Nat.le_refl _⟩, ⟨by first | exact Kd.R_nil _ _ _ _ _ | exact Kd.N_nil _ _ _ _ _ | exact Kd.V_nil _ _ _ _ _ | exact Kd.Q_nil _ _ _ _ _ | exact Kd.S_nil _ _ _ _ _⟩, ⟨bB⟩⟩
 case round => (
 clear H'
 obtain ⟨a4, a3, a2, rfl, rfl, HA, HK1, a7, HB⟩ := hrel
 cases gk with
 | zero => exact absurd HA.out (by simp [spec_l1Split.l0])
 | succ k1 => (
 have H := HA.out
 clear HA
 simp only [spec_l1Split.l0] at H
 by_cases c3 : a2 < (a0.size : Int)
 ·(
 rw [if_pos c3] at H
 have c0 : decide (a2 < (a0.size : Int)) = true := decide_eq_true c3
 clear c3
 by_cases c4 : 0 ≤ a2
 ·(
 rw [if_pos c4] at H
 have d7 : decide (0 ≤ a2) = true := decide_eq_true c4
 clear c4
 by_cases c6 : (bt a0 a2) = a1
 ·(
 rw [if_pos c6] at H
 obtain ⟨c5, d0⟩ := yE c6
 clear c6
 by_cases c7 : 0 ≤ a3
 ·(
 rw [if_pos c7] at H
 have d8 := eq_true c7
 have d9 : decide (0 ≤ a3) = true := decide_eq_true c7
 clear c7
 by_cases c8 : a3 ≤ a2
 ·(
 rw [if_pos c8] at H
 have e0 := eq_true c8
 have e1 : decide (a3 ≤ a2) = true := decide_eq_true c8
 clear c8
 by_cases c9 : a2 ≤ (a0.size : Int)
 ·(
 rw [if_pos c9] at H
 have e2 := eq_true c9
 have e3 : decide (a2 ≤ (a0.size : Int)) = true := decide_eq_true c9
 clear c9
 by_cases b1 : a4.length < 8796093022208
 ·(
 rw [if_pos b1] at H
 have b4 := Aside0.mk b1
 clear b1
 obtain ⟨b3, a5⟩ : ∃ y_ : List ByteArray, y_ = (a4 ++ [a0.extract (a3 : Int).toNat (a2 : Int).toNat]) := ⟨_, rfl⟩
 replace H : (spec_l1Split.l0 k1 a0 a1 b3 (wrap64 (a2 + 1)) (wrap64 (a2 + 1))) = some r := by first | (rw [a5]; with_reducible exact H) | (have a8 := (Option.bind_some _ _).symm.trans H; rw [a5]; with_reducible exact a8) | (have a8 := (Option.bind_some _ _).symm.trans H; with_reducible exact a8) | with_reducible exact H | (rw [a5]; exact H) | exact H
 have b5 := Aside0.mk a5
 clear a5
 have H' := Aside0.mk H
 clear H
 have p5 : 0 ≤ (a2 : Int) := of_decide_eq_true asm
 have q5 : a2 < (a0.size : Int) := of_decide_eq_true asm
 have d2 := bt_at a0 a2
 replace p5 := eq_true p5
 replace q5 := eq_true q5
 go_wp2_with (first | ((with_reducible refine gate_builtin (b := .append) (xs := #[.tmp 19, .tmp 24]) rfl ?_); at_builtin; refine Kd.R_append Kd.string (w0 := w) w.heap.size rfl (.tmp 19) (.tmp 24) 94 9 (.string ⟨#[]⟩) 16 rfl Tryz.underlying94 info9 rfl (by decide) (by omega) u5 a4 (a0.extract (a3 : Int).toNat (a2 : Int).toNat) [.string (a0.extract (a3 : Int).toNat (a2 : Int).toNat)] (fun _ => True) (fun _ => False) rfl rfl ?aP (fun _ hk => hk.elim) ?aF ?aO ?aB ?aS ?aL ?_; (case aP => exact rfl); (case aB => exact bB); (case aF => exact (fun _ _ => trivial)); (case aO => exact (oR a7)); (case aS => exact (below_size bB)); (case aL => have := b4.out; omega); intro e4 e6 ho hb hg hat; rw [← b5.out] at ho; have b6 := Aside0.mk (ho); replace HB := Aside0.mk (hb); clear a7 ho hb hg hat))
 go_roundg k1
 case measure => have := HK1.out; omega
 case rel => exact ⟨(b3), (wrap64 (a2 + 1)), (wrap64 (a2 + 1)), sR, sR, H', ⟨by have := HK1.out; omega⟩, ⟨oR b6⟩, ⟨bB⟩⟩
 )
 ·(
 rw [if_neg b1] at H
 exact absurd H (by simp)
 )
 )
 ·(
 rw [if_neg c9] at H
 exact absurd H (by simp)
 )
 )
 ·(
 rw [if_neg c8] at H
 exact absurd H (by simp)
 )
 )
 ·(
 rw [if_neg c7] at H
 exact absurd H (by simp)
 )
 )
 ·(
 rw [if_neg c6] at H
 obtain ⟨c5, d0⟩ := nE c6
 have H' := Aside0.mk H
 clear H
 have p5 : 0 ≤ (a2 : Int) := of_decide_eq_true asm
 have q5 : a2 < (a0.size : Int) := of_decide_eq_true asm
 have d2 := bt_at a0 a2
 replace p5 := eq_true p5
 replace q5 := eq_true q5
 go_wp2
 go_roundg k1
 case measure => have := HK1.out; omega
 case rel => exact ⟨(a4), (a3), (wrap64 (a2 + 1)), sR, sR, H', ⟨by have := HK1.out; omega⟩, ⟨oR a7⟩, ⟨bB⟩⟩
 )
 )
 ·(
 rw [if_neg c4] at H
 exact absurd H (by simp)
 )
 )
 ·(
 rw [if_neg c3] at H
 have c0 : decide (a2 < (a0.size : Int)) = false := decide_eq_false c3
 clear c3
 by_cases a9 : 0 ≤ a3
 ·(
 rw [if_pos a9] at H
 have d3 := eq_true a9
 have d4 : decide (0 ≤ a3) = true := decide_eq_true a9
 clear a9
 by_cases b0 : a3 ≤ (a0.size : Int)
 ·(
 rw [if_pos b0] at H
 have d5 := eq_true b0
 have d6 : decide (a3 ≤ (a0.size : Int)) = true := decide_eq_true b0
 clear b0
 by_cases b2 : a4.length < 8796093022208
 ·(
 rw [if_pos b2] at H
 have b7 := Aside0.mk b2
 clear b2
 obtain ⟨d1, a6⟩ : ∃ y_ : List ByteArray, y_ = (a4 ++ [a0.extract (a3 : Int).toNat a0.size]) := ⟨_, rfl⟩
 replace H : (some d1) = some r := by first | (rw [a6]; with_reducible exact H) | (have a8 := (Option.bind_some _ _).symm.trans H; rw [a6]; with_reducible exact a8) | (have a8 := (Option.bind_some _ _).symm.trans H; with_reducible exact a8) | with_reducible exact H | (rw [a6]; exact H) | exact H
 have b8 := Aside0.mk a6
 clear a6
 obtain rfl := Option.some.inj H
 go_wp2_with (first | ((with_reducible refine gate_builtin (b := .append) (xs := #[.tmp 28, .tmp 32]) rfl ?_); at_builtin; refine Kd.R_append Kd.string (w0 := w) w.heap.size rfl (.tmp 28) (.tmp 32) 94 9 (.string ⟨#[]⟩) 16 rfl Tryz.underlying94 info9 rfl (by decide) (by omega) u5 a4 (a0.extract (a3 : Int).toNat a0.size) [.string (a0.extract (a3 : Int).toNat a0.size)] (fun _ => True) (fun _ => False) rfl rfl ?aP (fun _ hk => hk.elim) ?aF ?aO ?aB ?aS ?aL ?_; (case aP => exact rfl); (case aB => exact bB); (case aF => exact (fun _ _ => trivial)); (case aO => exact (oR a7)); (case aS => exact (below_size bB)); (case aL => have := b7.out; omega); intro e5 e7 ho hb hg hat; rw [← b8.out] at ho; have b9 := Aside0.mk (ho); replace HB := Aside0.mk (hb); clear a7 ho hb hg hat))
 go_ret
 exact ⟨_, sE, by (with_reducible repeat (first | apply Kd.R_alloc | apply Kd.R_drewN | apply Kd.R_drew)); exact b9.out, bI⟩
 )
 ·(
 rw [if_neg b2] at H
 exact absurd H (by simp)
 )
 )
 ·(
 rw [if_neg b0] at H
 exact absurd H (by simp)
 )
 )
 ·(
 rw [if_neg a9] at H
 exact absurd H (by simp)
 )
 )
 )
 )

end Go.Proofs.YtlmiaadpnbehgaaGreatDoor.PFnBeamsEnd
