-- Written by xprint.py, a program of this session, for this seat; Lean checks it.
import Derived.Test.YthfbjofmcniogaaVN
import Derived.Test.YthfbjofmcniogaaPFnBeamsGox0
import Derived.Test.YthfbjofmcniogaaPFnBeamsGox1
import Derived.Test.YthfbjofmcniogaaPFnBeamsGox2
import Derived.Test.YthfbjofmcniogaaPFnBeamsGox5
import Derived.Test.YthfbjofmcniogaaPFnBeamsGox6
import Derived.Test.YthfbjofmcniogaaPFnBeamsGox8
import Derived.Test.YthfbjofmcniogaaPFnBeamsGox10
namespace Go.Proofs.Ythfbjofmcniogaa.PFnBeamsGo
open Go.Proofs.YthfbjofmcniogaaV Go.RowKit Go.Proofs.YthfbjofmcniogaaW.PrintWords Go.Proofs.YthfbjofmcniogaaW.PrintLast Go.Proofs.YthfbjofmcniogaaW.PrintMore
attribute [local go_sem] max2_int min2_int max_two min_two max_three min_three max_four min_four   -- for this text's walks alone
set_option linter.unusedVariables false
set_option linter.unusedSimpArgs false

attribute [local go_sem high] eqA30
/-! ### spec_beEnd: function 43 -/
def spec_beEnd.f (k : Nat) (a0_0 : Int) (a0_1 : Int) (a1_0 : Int) (a1_1 : Int) (a1_2 : Bool) (a1_3 : Bool) : Option ((List (S30)) × ByteArray × Bool) := (spec_beLong.f a0_0 a0_1).bind fun t253 => ((spec_beRun.f k a0_0 a0_1 a1_0 a1_1 a1_2 a1_3 t253).bind fun bt254 => (if 0 ≤ (wrap64 ((bt254.1.length : Int) - 1)) then (if (wrap64 ((bt254.1.length : Int) - 1)) < (bt254.1.length : Int) then ((spec_beCorner.f a0_0 a0_1 ((rd_T30 bt254.1 (wrap64 ((bt254.1.length : Int) - 1))).f0) ((rd_T30 bt254.1 (wrap64 ((bt254.1.length : Int) - 1))).f1) ((rd_T30 bt254.1 (wrap64 ((bt254.1.length : Int) - 1))).f2) ((rd_T30 bt254.1 (wrap64 ((bt254.1.length : Int) - 1))).f3)).bind fun t259 => (some (bt254.1, bt254.2, t259))) else (none)) else (none)))
theorem spec_beEnd.mono : ∀ a0 a1 a2 a3 a4 a5 k, LeO (spec_beEnd.f k a0 a1 a2 a3 a4 a5) (spec_beEnd.f (k + 1) a0 a1 a2 a3 a4 a5) := by
  intro a0 a1 a2 a3 a4 a5 k
  unfold spec_beEnd.f
  repeat' first
      | (with_reducible exact spec_beRun.mono _ _ _ _ _ _ _ _)
      | (with_reducible exact LeO.refl _)
      | (with_reducible exact LeO.none _)
      | (with_reducible refine LeO.ite ?_ ?_)
      | (with_reducible refine LeO.bind ?_ (fun _ => ?_))
      | exact spec_beRun.mono _ _ _ _ _ _ _ _
      | exact LeO.none _
      | refine LeO.ite ?_ ?_
      | refine LeO.bind ?_ (fun _ => ?_)
def spec_beEnd.T1 : Bool × List (List Nat × List Nat) := (true, [([], []), ([], []), ([], []), ([2], [2]), ([0, 1, 3, 3], [0, 1, 3]), ([4], [4]), ([5], [5]), ([5], [5]), ([6, 4, 0, 1, 2, 3, 4, 5, 6], [6]), ([7, 8, 0, 1, 2, 3, 4, 5, 6, 7, 8], [7])])
def spec_beEnd.B1 : List Nat := [0, 0, 0, 4, 15, 31, 63, 63, 127, 511]
theorem spec_beEnd.tab1 : rtab .any (opsOf Try.f43 1) = spec_beEnd.T1 := by kernel_rfl
theorem spec_beEnd.bits1 : waitsOk spec_beEnd.T1.2 spec_beEnd.B1 = true := by kernel_rfl
def spec_beEnd.T2 : Bool × List (List Nat × List Nat) := (true, [([], []), ([], []), ([], []), ([], []), ([], []), ([4], [4]), ([5], [5]), ([3, 6], [3, 6]), ([7], [7]), ([2, 8], [2, 8]), ([0, 9, 0], [0]), ([1, 10, 0, 1, 10], [1]), ([9, 11, 0, 1, 2, 3, 4, 5, 6, 7, 8, 9, 10, 11], [9])])
def spec_beEnd.B2 : List Nat := [0, 0, 0, 0, 0, 16, 48, 120, 248, 508, 1021, 2047, 4095]
theorem spec_beEnd.tab2 : rtab .any (opsOf Try.f43 2) = spec_beEnd.T2 := by kernel_rfl
theorem spec_beEnd.bits2 : waitsOk spec_beEnd.T2.2 spec_beEnd.B2 = true := by kernel_rfl
abbrev spec_beEnd.pl0 : List (Nat × Option Tmp × Nat) := [qt 0 10, qt 1 11, qt 2 12, qo 3 13, qo 4 14, q 5 9, q 6 15, q 7 16, q 8 7, q 9 8]
abbrev spec_beEnd.pl1 : List (Nat × Option Tmp × Nat) := [q 0 17, q 1 18, q 3 20, q 4 21, q 5 22, q 6 23, q 7 24, qt 2 19, qt 8 25, qo 9 26, q 10 4, q 11 5, q 12 6]
set_option maxHeartbeats 8000000 in
set_option maxRecDepth 100000 in
theorem spec_beEnd.calls (k : Nat) (a0_0 : Int) (a0_1 : Int) (a1_0 : Int) (a1_1 : Int) (a1_2 : Bool) (a1_3 : Bool) (r1 : List (S30)) (r2 : ByteArray) (r3 : Bool) (w : World) (h : spec_beEnd.f k a0_0 a0_1 a1_0 a1_1 a1_2 a1_3 = some (r1, r2, r3)) :
    Calls Try.prog 43 #[.agg #[.int .i64 a0_0, .int .i64 a0_1], .agg #[.int .i64 a1_0, .int .i64 a1_1, .bool a1_2, .bool a1_3]] w fun e w' => ∃ v0_ : Value, e = .returned (.tuple #[v0_, .string r2, .bool r3]) ∧ Kd.R k30 30 w' w.heap.size (fun _ => True) v0_ r1 ∧ Below w.heap.size w w' := by
 have e4 := Try.underlying28
 have e5 := Try.underlying30
 have HB := Aside0.mk (Below.refl w.heap.size w)
 have H := h
 unfold spec_beEnd.f at H
 clear h
 obtain ⟨b9, A3, H⟩ := bD H
 try dsimp only at H
 obtain ⟨⟨a8, d3⟩, A4, H⟩ := bD H
 try dsimp only at H
 obtain ⟨a7, b2⟩ : ∃ j_ : Int, (wrap64 ((a8.length : Int) - 1)) = j_ := ⟨_, rfl⟩
 (first | rw [b2] at H | simp only [b2] at H)
 (try rw [b2] at A3)
 (try rw [b2] at A4)
 have d8 : (IntKind.i64.wrap ((a8.length : Int) - 1)) = a7 := (i64_w _).trans b2
 by_cases c6 : 0 ≤ (a7)
 ·(
 rw [if_pos c6] at H
 have e6 : decide (0 ≤ (a7)) = true := decide_eq_true c6
 clear c6
 by_cases c7 : (a7) < (a8.length : Int)
 ·(
 rw [if_pos c7] at H
 have e7 : decide ((a7) < (a8.length : Int)) = true := decide_eq_true c7
 clear c7
 obtain ⟨d4, A8, H⟩ := bD H
 try dsimp only at H
 simp only [Option.some.injEq, Prod.mk.injEq] at H
 obtain ⟨rfl, rfl, rfl⟩ := H
 go_enter Try.func43, Try.ntmps43
 try go_wp2_with (first | ((with_reducible refine gate_dst (N := 2) rfl ?_); refine box_ (cs := #[.int .i64 a0_0, .int .i64 a0_1]) (t := 28) fun b4 hg w9 hbox hb => ?_; have a6 := Aside0.mk (hbox); have d9 := bS HB hg; have e0 := bS HB hg; replace HB := Aside0.mk (below_step bB hb); clear hb hbox hg) | ((with_reducible refine gate_dst (N := 3) rfl ?_); refine box_ (cs := #[.int .i64 a1_0, .int .i64 a1_1, .bool a1_2, .bool a1_3]) (t := 30) fun b3 hg d6 hbox hb => ?_; have a9 := Aside0.mk (hbox); have e2 := bS HB hg; have e3 := bS HB hg; have c9 := bL a6 hg; have d1 := bM a6 hg; replace a6 := bQ a6 hb; replace HB := Aside0.mk (below_step bB hb); clear hb hbox hg))
 replace a6 := bD1 a6
 replace a9 := bD1 a9
 replace HB := Aside0.mk (below_drew1 HB.out)
 refine st_ 10 spec_beEnd.pl0 (S := fun w' => w'.cell? ⟨b4, 0, none⟩ = some (.int .i64 a0_0) ∧ w'.cell? ⟨b4, 1, none⟩ = some (.int .i64 a0_1) ∧ w'.cell? ⟨b3, 0, none⟩ = some (.int .i64 a1_0) ∧ w'.cell? ⟨b3, 1, none⟩ = some (.int .i64 a1_1) ∧ w'.cell? ⟨b3, 2, none⟩ = some (.bool a1_2) ∧ w'.cell? ⟨b3, 3, none⟩ = some (.bool a1_3)) (ds := []) spec_beEnd.tab1 spec_beEnd.bits1 cS (fun hHeld HT_ HW_ => ?_)
 generalize d6.drew = g5 at a6 a9 HB hHeld ⊢
 iterate 3 refine pT HT_ HW_ hHeld ?_
 refine pO HT_ fun K hK => ?_
 refine goes_ Try.func40 kr rfl #[.agg #[.int .i64 a0_0, .int .i64 a0_1]] (by rfl) rfl rfl sM ?_
 with_reducible refine (spec_beLong.calls a0_0 a0_1 b9 _ A3.out).mono ?_
 rintro e g6 ⟨rfl, hb⟩
 refine ⟨_, rfl, ?_⟩
 replace a6 := bQ a6 hb
 replace a9 := bQ a9 hb
 replace HB := Aside0.mk (below_step bB hb)
 try clear hb
 refine hK.out _ _ cS (fun hHeld => ?_)
 clear hK K
 refine nP ?_
 refine pO HT_ fun K hK => ?_
 refine goes_ Try.func39 kr rfl #[.agg #[.int .i64 a0_0, .int .i64 a0_1], .agg #[.int .i64 a1_0, .int .i64 a1_1, .bool a1_2, .bool a1_3], .int .i64 b9] (by rfl) rfl rfl sM ?_
 with_reducible refine (spec_beRun.calls k a0_0 a0_1 a1_0 a1_1 a1_2 a1_3 b9 a8 d3 _ A4.out).mono ?_
 rintro e d7 ⟨e8, rfl, d2, hb⟩
 refine ⟨_, rfl, ?_⟩
 have b0 := Aside0.mk (Kd.R_lower (Kd.R_newB d2 (g := b3) (o := .cells #[.int .i64 a1_0, .int .i64 a1_1, .bool a1_2, .bool a1_3] 30 (0, 0)) (bK a9)) (below_size bB))
 replace a6 := bQ a6 hb
 replace a9 := bQ a9 hb
 replace HB := Aside0.mk (below_step bB hb)
 try clear hb
 (try clear d2)
 refine hK.out _ _ cS (fun hHeld => ?_)
 clear hK K
 refine nP ?_
 iterate 5 refine pA HT_ ?_
 refine pD HT_ ?_
 try go_wp2
 (try rw [dSet])
 replace b0 := Aside0.mk (Kd.R_drew b0.out)
 replace a6 := bD1 a6
 replace a9 := bD1 a9
 replace HB := Aside0.mk (below_drew1 HB.out)
 obtain ⟨e9, g4, c8⟩ := Kd.R_slice b0.out
 (first | subst c8 | (injection c8 with f1_ f2_ f3_; have f4_ := f1_.symm; have f5_ := f3_.symm; clear f1_ f2_ f3_; subst f4_; subst f5_))
 have c0 : 0 ≤ ((a7) : Int) := of_decide_eq_true asm
 have c5 : (a7) < (a8.length : Int) := of_decide_eq_true asm
 obtain ⟨b1, d5, b5, b6, b7, b8⟩ := at_T30 (Kd.R_reads' b0.out).2.2 (a7) c0 c5
 cases d5
 replace c0 := eq_true c0
 replace c5 := eq_true c5
 refine st_ 13 spec_beEnd.pl1 (S := fun w' => w'.cell? ⟨b4, 0, none⟩ = some (.int .i64 a0_0) ∧ w'.cell? ⟨b4, 1, none⟩ = some (.int .i64 a0_1) ∧ w'.cell? (b1.add (((a7)).toNat * 4)) = some (.int .i64 ((rd_T30 a8 (a7)).f0)) ∧ w'.cell? ⟨(b1.add (((a7)).toNat * 4)).block, (b1.add (((a7)).toNat * 4)).off + 1, none⟩ = some (.int .i64 ((rd_T30 a8 (a7)).f1)) ∧ w'.cell? ⟨(b1.add (((a7)).toNat * 4)).block, (b1.add (((a7)).toNat * 4)).off + 2, none⟩ = some (.bool ((rd_T30 a8 (a7)).f2)) ∧ w'.cell? ⟨(b1.add (((a7)).toNat * 4)).block, (b1.add (((a7)).toNat * 4)).off + 3, none⟩ = some (.bool ((rd_T30 a8 (a7)).f3))) (ds := []) spec_beEnd.tab2 spec_beEnd.bits2 ⟨cb a6 0, cb a6 1, b5, b6, b7, b8⟩ (fun hHeld HT_ HW_ => ?_)
 generalize d7.drew = g7 at b0 a6 a9 HB b5 b6 b7 b8 hHeld ⊢
 iterate 9 (first | refine pA HT_ ?_ | refine pT HT_ HW_ hHeld ?_)
 refine pO HT_ fun K hK => ?_
 refine goes_ Try.func63 kr rfl #[.agg #[.int .i64 a0_0, .int .i64 a0_1], .agg #[.int .i64 ((rd_T30 a8 (a7)).f0), .int .i64 ((rd_T30 a8 (a7)).f1), .bool ((rd_T30 a8 (a7)).f2), .bool ((rd_T30 a8 (a7)).f3)]] (by rfl) rfl rfl (by (try simp only [List.map_toArray, List.map_cons, List.map_nil]); first | done | (simp only [b2]; rfl) | rfl | (simp only [List.length_drop, List.length_take]; rfl)) ?_
 with_reducible refine (spec_beCorner.calls a0_0 a0_1 ((rd_T30 a8 (a7)).f0) ((rd_T30 a8 (a7)).f1) ((rd_T30 a8 (a7)).f2) ((rd_T30 a8 (a7)).f3) d4 _ A8.out).mono ?_
 rintro e g8 ⟨rfl, hb⟩
 have HS2_ := (hb.cell (World.block_lt_of_cell? _ _ (hHeld.2.2.1))).trans (hHeld.2.2.1)
 have HS3_ := (hb.cell (World.block_lt_of_cell? _ _ (hHeld.2.2.2.1))).trans (hHeld.2.2.2.1)
 have HS4_ := (hb.cell (World.block_lt_of_cell? _ _ (hHeld.2.2.2.2.1))).trans (hHeld.2.2.2.2.1)
 have HS5_ := (hb.cell (World.block_lt_of_cell? _ _ (hHeld.2.2.2.2.2))).trans (hHeld.2.2.2.2.2)
 refine ⟨_, rfl, ?_⟩
 replace b0 := Aside0.mk (Kd.R_below (oR b0) hb)
 replace a6 := bQ a6 hb
 replace a9 := bQ a9 hb
 replace HB := Aside0.mk (below_step bB hb)
 try clear hb
 refine hK.out _ _ ⟨cb a6 0, cb a6 1, HS2_, HS3_, HS4_, HS5_⟩ (fun hHeld => ?_)
 clear hK K
 refine nP ?_
 iterate 3 refine pA HT_ ?_
 refine pD HT_ ?_
 try go_wp2
 (try rw [dSet])
 go_ret3
 exact ⟨_, by first | rfl | (simp [errW_none, errW_some] <;> rfl) | (simp only [← b2]; first | rfl | (simp [errW_none, errW_some] <;> rfl)) | (simp [*, errW_none, errW_some] <;> rfl), by (with_reducible repeat (first | apply Kd.R_alloc | apply Kd.R_drewN | apply Kd.R_drew)); exact Kd.R_mono b0.out (fun _ hk => trivial), bI⟩
 )
 ·(
 rw [if_neg c7] at H
 exact absurd H (by simp)
 )
 )
 ·(
 rw [if_neg c6] at H
 exact absurd H (by simp)
 )

/-! ### spec_StepsToCorner: function 16 -/
def spec_StepsToCorner.f (k : Nat) (a0_0 : Int) (a0_1 : Int) (a1_0 : Int) (a1_1 : Int) (a1_2 : Bool) (a1_3 : Bool) : Option (Int × Bool) := (spec_beGood.f a0_0 a0_1 a1_0 a1_1 a1_2 a1_3).bind fun t262 => (if t262 = true then ((spec_beEnd.f k a0_0 a0_1 a1_0 a1_1 a1_2 a1_3).bind fun bt263 => (if bt263.2.2 = true then (some (wrap64 ((bt263.1.length : Int) - 1), true)) else (some (0, false)))) else (some (0, false)))
theorem spec_StepsToCorner.mono : ∀ a0 a1 a2 a3 a4 a5 k, LeO (spec_StepsToCorner.f k a0 a1 a2 a3 a4 a5) (spec_StepsToCorner.f (k + 1) a0 a1 a2 a3 a4 a5) := by
  intro a0 a1 a2 a3 a4 a5 k
  unfold spec_StepsToCorner.f
  repeat' first
      | (with_reducible exact spec_beEnd.mono _ _ _ _ _ _ _)
      | (with_reducible exact LeO.refl _)
      | (with_reducible exact LeO.none _)
      | (with_reducible refine LeO.ite ?_ ?_)
      | (with_reducible refine LeO.bind ?_ (fun _ => ?_))
      | exact spec_beEnd.mono _ _ _ _ _ _ _
      | exact LeO.none _
      | refine LeO.ite ?_ ?_
      | refine LeO.bind ?_ (fun _ => ?_)
set_option maxHeartbeats 8000000 in
set_option maxRecDepth 100000 in
theorem spec_StepsToCorner.calls (k : Nat) (a0_0 : Int) (a0_1 : Int) (a1_0 : Int) (a1_1 : Int) (a1_2 : Bool) (a1_3 : Bool) (r1 : Int) (r2 : Bool) (w : World) (h : spec_StepsToCorner.f k a0_0 a0_1 a1_0 a1_1 a1_2 a1_3 = some (r1, r2)) :
    Calls Try.prog 16 #[.agg #[.int .i64 a0_0, .int .i64 a0_1], .agg #[.int .i64 a1_0, .int .i64 a1_1, .bool a1_2, .bool a1_3]] w fun e w' => e = .returned (.tuple #[.int .i64 r1, .bool r2]) ∧ Below w.heap.size w w' := by
 have g8 := Try.underlying28
 have g9 := Try.underlying30
 have HB := Aside0.mk (Below.refl w.heap.size w)
 have H := h
 unfold spec_StepsToCorner.f at H
 clear h
 obtain ⟨b5, A3, H⟩ := bD H
 try dsimp only at H
 by_cases c4 : b5 = true
 subst c4
 rw [if_pos rfl] at H
 obtain ⟨⟨b1, b2, b6⟩, A5, H⟩ := bD H
 try dsimp only at H
 by_cases c6 : b6 = true
 subst c6
 rw [if_pos rfl] at H
 simp only [Option.some.injEq, Prod.mk.injEq] at H
 obtain ⟨rfl, rfl⟩ := H
 rotate_left
 replace c6 := Bool.eq_false_iff.mpr c6
 subst c6
 rw [if_neg nft] at H
 simp only [Option.some.injEq, Prod.mk.injEq] at H
 obtain ⟨rfl, rfl⟩ := H
 rotate_left
 replace c4 := Bool.eq_false_iff.mpr c4
 subst c4
 rw [if_neg nft] at H
 simp only [Option.some.injEq, Prod.mk.injEq] at H
 obtain ⟨rfl, rfl⟩ := H
 rotate_left
 all_goals (go_enter Try.func16, Try.ntmps16)
 all_goals (go_wp2_with (first | ((with_reducible refine gate_dst (N := 2) rfl ?_); refine box_ (cs := #[.int .i64 a0_0, .int .i64 a0_1]) (t := 28) fun h3 hg i0 hbox hb => ?_; have a6 := Aside0.mk (hbox); have h4 := bS HB hg; have h5 := bS HB hg; replace HB := Aside0.mk (below_step bB hb); clear hb hbox hg) | ((with_reducible refine gate_dst (N := 3) rfl ?_); refine box_ (cs := #[.int .i64 a1_0, .int .i64 a1_1, .bool a1_2, .bool a1_3]) (t := 30) fun b3 hg i1 hbox hb => ?_; have a7 := Aside0.mk (hbox); have h6 := bS HB hg; have h7 := bS HB hg; have a9 := bL a6 hg; have b0 := bM a6 hg; replace a6 := bQ a6 hb; replace HB := Aside0.mk (below_step bB hb); clear hb hbox hg; have g6 := a9.out; have g7 := b0.out; obtain ⟨b8, b9, c0, c5⟩ := cf2 a6; obtain ⟨c7, c8, c9, d1, d2, d3, d4, d5⟩ := cf4 a7) | ((with_reducible refine gate_callee (f := 38) rfl ?_); refine goesL_ (some 11) rfl rfl Try.func38 kr rfl #[.agg #[.int .i64 a0_0, .int .i64 a0_1], .agg #[.int .i64 a1_0, .int .i64 a1_1, .bool a1_2, .bool a1_3]] rfl sM ?_; (with_reducible refine (spec_beGood.calls a0_0 a0_1 a1_0 a1_1 a1_2 a1_3 true _ A3.out).mono ?_); rintro e e9 ⟨rfl, hb⟩; refine ⟨_, rfl, ?_⟩; replace a6 := bQ a6 hb; replace a7 := bQ a7 hb; replace HB := Aside0.mk (below_step bB hb); (try clear hb); obtain ⟨d6, d7, d8, d9⟩ := cf2 a6; obtain ⟨e0, e2, e3, e4, e5, e6, e7, e8⟩ := cf4 a7) | ((with_reducible refine gate_callee (f := 43) rfl ?_); refine goesL_ (some 16) rfl rfl Try.func43 kr rfl #[.agg #[.int .i64 a0_0, .int .i64 a0_1], .agg #[.int .i64 a1_0, .int .i64 a1_1, .bool a1_2, .bool a1_3]] rfl sM ?_; (with_reducible refine (spec_beEnd.calls k a0_0 a0_1 a1_0 a1_1 a1_2 a1_3 b1 b2 true _ A5.out).mono ?_); rintro e g4 ⟨g5, rfl, a8, hb⟩; refine ⟨_, rfl, ?_⟩; have b4 := Aside0.mk (Kd.R_lower (Kd.R_newB a8 (g := b3) (o := .cells #[.int .i64 a1_0, .int .i64 a1_1, .bool a1_2, .bool a1_3] 30 (0, 0)) (bK a7)) (below_size bB)); replace a6 := bQ a6 hb; replace a7 := bQ a7 hb; replace HB := Aside0.mk (below_step bB hb); (try clear hb); (try clear a8); obtain ⟨h8, h9, b7⟩ := Kd.R_slice b4.out; subst b7) | ((with_reducible refine gate_callee (f := 43) rfl ?_); refine goesL_ (some 16) rfl rfl Try.func43 kr rfl #[.agg #[.int .i64 a0_0, .int .i64 a0_1], .agg #[.int .i64 a1_0, .int .i64 a1_1, .bool a1_2, .bool a1_3]] rfl sM ?_; (with_reducible refine (spec_beEnd.calls k a0_0 a0_1 a1_0 a1_1 a1_2 a1_3 b1 b2 false _ A5.out).mono ?_); rintro e g4 ⟨g5, rfl, a8, hb⟩; refine ⟨_, rfl, ?_⟩; have b4 := Aside0.mk (Kd.R_lower (Kd.R_newB a8 (g := b3) (o := .cells #[.int .i64 a1_0, .int .i64 a1_1, .bool a1_2, .bool a1_3] 30 (0, 0)) (bK a7)) (below_size bB)); replace a6 := bQ a6 hb; replace a7 := bQ a7 hb; replace HB := Aside0.mk (below_step bB hb); (try clear hb); (try clear a8)) | ((with_reducible refine gate_callee (f := 38) rfl ?_); refine goesL_ (some 11) rfl rfl Try.func38 kr rfl #[.agg #[.int .i64 a0_0, .int .i64 a0_1], .agg #[.int .i64 a1_0, .int .i64 a1_1, .bool a1_2, .bool a1_3]] rfl sM ?_; (with_reducible refine (spec_beGood.calls a0_0 a0_1 a1_0 a1_1 a1_2 a1_3 false _ A3.out).mono ?_); rintro e e9 ⟨rfl, hb⟩; refine ⟨_, rfl, ?_⟩; replace a6 := bQ a6 hb; replace a7 := bQ a7 hb; replace HB := Aside0.mk (below_step bB hb); (try clear hb))))
 all_goals go_ret2
 all_goals (exact ⟨sE, bI⟩)

/-! ### impl_PeriodOfBeam: function 17 -/
theorem pb_eqA (d : Nat) (w : World) (x0 y0 : Int) (x1 y1 : Int) (x2 y2 : Bool) (x3 y3 : Bool) :
    (Op.equalIn (d + 2) 30 (.agg #[.int .i64 x0, .int .i64 x1, .bool x2, .bool x3]) (.agg #[.int .i64 y0, .int .i64 y1, .bool y2, .bool y3])).run Try.prog w = .ok (x0 == y0 && (x1 == y1 && (x2 == y2 && (x3 == y3)))) w := by
  refine eqA_of Try.underlying30 kr ?_
  refine eqf_cons (by rfl) (by go_simp; rfl) (by go_simp; rfl) (by go_simp) ?_
  refine eqf_cons (by rfl) (by go_simp; rfl) (by go_simp; rfl) (by go_simp) ?_
  refine eqf_cons (by rfl) (by go_simp; rfl) (by go_simp; rfl) (by go_simp) ?_
  exact eqf_last (by rfl) (by go_simp; rfl) (by go_simp; rfl) (by go_simp)
def pbEq (a b : S30) : Bool := a.f0 == b.f0 && (a.f1 == b.f1 && (a.f2 == b.f2 && (a.f3 == b.f3)))
/-- Is the beam behind k steps as at first? -/
def pbStop (W H : Int) (b : S30) (k : Nat) : Bool := decide (0 < k) && pbEq (fwSt W H b k).1 (fwInw W H b)
def pbN (W H : Int) (b : S30) : Nat := fwN W H b (2 * W * H) (pbStop W H b)
def impl_PeriodOfBeam.f (a0_0 : Int) (a0_1 : Int) (a1_0 : Int) (a1_1 : Int) (a1_2 : Bool) (a1_3 : Bool) : Option (Int × Bool) :=
  (impl_toCorner.f a0_0 a0_1 a1_0 a1_1 a1_2 a1_3).bind fun t => if t.2.2.2.2.2.2 = true then some (0, false) else
    (impl_IsBeam.f a0_0 a0_1 a1_0 a1_1 a1_2 a1_3).bind fun b => if b = true then
      some (if pbStop a0_0 a0_1 ⟨a1_0, a1_1, a1_2, a1_3⟩ (pbN a0_0 a0_1 ⟨a1_0, a1_1, a1_2, a1_3⟩) = true then (pbN a0_0 a0_1 ⟨a1_0, a1_1, a1_2, a1_3⟩ : Int) else 0, true)
    else some (0, false)
section
attribute [local go_sem high] pb_eqA
set_option maxHeartbeats 4000000 in
theorem impl_PeriodOfBeam.one (fb cb : Nat) (k v v' : Int) (ok : Bool) (s g : S30) (sd : ByteArray) (w : World) (hf : fb < w.heap.size) (hlt : cb < w.heap.size) (hc : w.heap[cb]? = some (.cells #[.int .i64 v] 3 (0, 0))) (hg : w.heap[fb]? = some (.cells #[.int .i64 g.f0, .int .i64 g.f1, .bool g.f2, .bool g.f3] 30 (0, 0))) (hk : 0 ≤ k) (hv : v = 0) (hok : (decide (0 < k) && pbEq s g) = ok) (hv' : v' = if ok = true then k else 0) :
    Calls Try.prog 51 #[.int .i64 k, .agg #[.int .i64 s.f0, .int .i64 s.f1, .bool s.f2, .bool s.f3], .string sd, .pointer (some ⟨fb, 0, none⟩), .pointer (some ⟨cb, 0, none⟩)] w fun e w' => e = .returned (.bool ok) ∧ w'.heap[cb]? = some (.cells #[.int .i64 v'] 3 (0, 0)) ∧ FwMv cb w w' := by
  subst hv
  obtain ⟨x, y, r, u⟩ := s
  obtain ⟨x1, y1, r1, u1⟩ := g
  have hal := below_alloc (Below.refl _ w) (.cells #[.int .i64 x, .int .i64 y, .bool r, .bool u] 30 (0, 0))
  have q1 := (hal.block _ hlt).trans hc
  have q2 := (hal.block _ hf).trans hg
  have c1 := (fw_cells q1 0).1
  have f1 := (fw_cells q1 0).2
  have g0 := (fw_cells q2 0).1
  have g1 := (fw_cells q2 1).1
  have g2 := (fw_cells q2 2).1
  have g3 := (fw_cells q2 3).1
  simp at c1 g0 g1 g2 g3
  have hb2 := below_alloc (Below.refl _ (w.setCell ⟨cb, 0, none⟩ (.int .i64 k))) (.cells #[.int .i64 x, .int .i64 y, .bool r, .bool u] 30 (0, 0))
  have hs := (hb2.block cb (by simpa using hlt)).trans (heap_setCell_same _ cb 0 _ 3 (.int .i64 k) hc)
  have HS := Aside0.mk hs
  have HM := Aside0.mk ((fw_set (w := w) (g := cb) (i := 0) (.int .i64 k)).trans (FwMv.of_below hb2))
  have HA := Aside0.mk hal
  have HQ := Aside0.mk q1
  clear hc hg q1 q2 hal hs hb2
  by_cases h0 : 0 < k
  · have d0 : decide (0 < k) = true := decide_eq_true h0
    by_cases he : x = x1 ∧ y = y1 ∧ r = r1 ∧ u = u1
    · obtain ⟨rfl, rfl, rfl, rfl⟩ := he
      have e1 : ok = true := by rw [← hok, d0]; simp [pbEq]
      subst e1
      rw [if_pos rfl] at hv'
      subst hv'
      have c3 := (fw_cells HS.out 0).1
      simp at c3
      clear h0 hk hok
      go_enter Try.func51, Try.ntmps51
      go_wp2
      all_goals go_ret
      all_goals exact ⟨rfl, HS.out, HM.out⟩
    · have he2 : (x == x1 && (y == y1 && (r == r1 && (u == u1)))) = false := by
        cases h : (x == x1 && (y == y1 && (r == r1 && (u == u1))))
        · rfl
        · simp at h; exact absurd h he
      have e1 : ok = false := by rw [← hok, d0]; exact he2
      subst e1
      rw [if_neg (by simp)] at hv'
      subst hv'
      clear he hok
      go_enter Try.func51, Try.ntmps51
      go_wp2
      all_goals go_ret
      all_goals exact ⟨rfl, HQ.out, FwMv.of_below HA.out⟩
  · have d0 : decide (0 < k) = false := decide_eq_false h0
    have e1 : ok = false := by rw [← hok, d0]; rfl
    subst e1
    rw [if_neg (by simp)] at hv'
    subst hv'
    have hk0 : k = 0 := by omega
    subst hk0
    clear hok d0 h0 hk
    go_enter Try.func51, Try.ntmps51
    go_wp2
    all_goals go_ret
    all_goals exact ⟨rfl, HQ.out, FwMv.of_below HA.out⟩
end
def pbV (stop : Nat → Bool) : Nat → Int
  | 0 => 0
  | k + 1 => if stop k = true then (k : Int) else 0
theorem pb_bounds {W H : Int} (h : (1 ≤ W ∧ W ≤ 60) ∧ 1 ≤ H ∧ H ≤ 60) : 0 ≤ 2 * W * H ∧ 2 * W * H ≤ 7200 ∧ wrap64 (wrap64 (2 * W) * H) = 2 * W * H := by
  have e1 : wrap64 (2 * W) = 2 * W := by unfold wrap64; omega
  have h1 : (2 * W * H).natAbs ≤ 120 * 60 := by rw [Int.natAbs_mul]; exact Nat.mul_le_mul (by omega) (by omega)
  have h2 : 0 ≤ 2 * W * H := Int.mul_nonneg (by omega) (by omega)
  refine ⟨h2, by omega, ?_⟩
  rw [e1]
  unfold wrap64
  omega
theorem pb_IsBeam_true {W H x y : Int} {r u : Bool} (h : impl_IsBeam.f W H x y r u = some true) : (1 ≤ W ∧ W ≤ 60) ∧ 1 ≤ H ∧ H ≤ 60 := by
  have within_is : ∀ x a b : Int, impl_within.f x a b = some (decide (a ≤ x) && decide (x ≤ b)) := fun x a b => by
    unfold impl_within.f
    by_cases c : x ≥ a
    · rw [if_pos c, decide_eq_true (by omega : a ≤ x)]; rfl
    · rw [if_neg c, decide_eq_false (by omega : ¬ a ≤ x)]; rfl
  unfold impl_IsBeam.f impl_IsTable.f at h
  simp only [within_is, Option.bind_some] at h
  by_cases c1 : 1 ≤ W <;> by_cases c2 : W ≤ 60 <;> by_cases c3 : 1 ≤ H <;> by_cases c4 : H ≤ 60 <;> simp [c1, c2, c3, c4] at h <;> exact ⟨⟨c1, c2⟩, c3, c4⟩
structure pbI (wb : World) (cb : Nat) (v : Nat → Int) (k : Nat) (wr : World) : Prop where
  old : FwOld (fun i => i = cb) wb wr
  cell : wr.heap[cb]? = some (.cells #[.int .i64 (v k)] 3 (0, 0))
/-- The way with the closure that looks for the first beam. -/
theorem impl_PeriodOfBeam.way (W H x y : Int) (r u : Bool) (hh : (1 ≤ W ∧ W ≤ 60) ∧ 1 ≤ H ∧ H ≤ 60) (fb cb : Nat) (wb : World) (hlt : cb < wb.heap.size) (hf : fb < wb.heap.size) (hne : fb ≠ cb) (hc : wb.heap[cb]? = some (.cells #[.int .i64 0] 3 (0, 0)))
    (hcf : wb.heap[fb]? = some (.cells #[.int .i64 (fwInw W H ⟨x, y, r, u⟩).f0, .int .i64 (fwInw W H ⟨x, y, r, u⟩).f1, .bool (fwInw W H ⟨x, y, r, u⟩).f2, .bool (fwInw W H ⟨x, y, r, u⟩).f3] 30 (0, 0))) :
    Calls Try.prog 46 #[.agg #[.int .i64 W, .int .i64 H], .agg #[.int .i64 x, .int .i64 y, .bool r, .bool u], .int .i64 (2 * W * H), .func (.func 51) #[] #[.pointer (some ⟨fb, 0, none⟩), .pointer (some ⟨cb, 0, none⟩)]] wb fun e w' =>
      e = .returned (.tuple #[]) ∧ FwOld (fun i => i = cb) wb w' ∧ w'.heap[cb]? = some (.cells #[.int .i64 (if pbStop W H ⟨x, y, r, u⟩ (pbN W H ⟨x, y, r, u⟩) = true then (pbN W H ⟨x, y, r, u⟩ : Int) else 0)] 3 (0, 0)) := by
  have hb := pb_bounds hh
  obtain ⟨n1, n2, n3⟩ := fwN_is W H ⟨x, y, r, u⟩ (2 * W * H) (pbStop W H ⟨x, y, r, u⟩) hb.1
  refine (impl_follow.calls W H x y r u (2 * W * H) 51 #[.pointer (some ⟨fb, 0, none⟩), .pointer (some ⟨cb, 0, none⟩)] (fw_enters Try.func51 kr rfl) (pbI wb cb (pbV (pbStop W H ⟨x, y, r, u⟩))) (pbStop W H ⟨x, y, r, u⟩) (pbN W H ⟨x, y, r, u⟩) wb (by unfold pbN; omega) n3 n2 ⟨FwOld.refl _ _, hc⟩ ?_ ?_).mono ?_
  · intro k W1 W2 hI hm
    exact ⟨hI.old.mv hm (.inl (by omega)), (hm.block cb (Nat.lt_of_lt_of_le hlt hI.old.size) (by omega)).trans hI.cell⟩
  · intro k Wd hk hz hI
    have hv : pbV (pbStop W H ⟨x, y, r, u⟩) k = 0 := by
      cases k with
      | zero => rfl
      | succ j =>
        have := (n3 j hk).1
        simp only [pbV, this, Bool.false_eq_true, if_false]
    refine (impl_PeriodOfBeam.one fb cb (k : Int) _ _ _ (fwSt W H ⟨x, y, r, u⟩ k).1 (fwInw W H ⟨x, y, r, u⟩) _ Wd (Nat.lt_of_lt_of_le hf hI.old.size) (Nat.lt_of_lt_of_le hlt hI.old.size) hI.cell ((hI.old.block fb hf hne).trans hcf) (by omega) hv rfl rfl).mono ?_
    have hs : (decide (0 < (k : Int)) && pbEq (fwSt W H ⟨x, y, r, u⟩ k).1 (fwInw W H ⟨x, y, r, u⟩)) = pbStop W H ⟨x, y, r, u⟩ k := by
      unfold pbStop
      congr 1
      simp
    rintro e w2 ⟨rfl, hc2, hm2⟩
    rw [hs] at hc2 ⊢
    exact ⟨rfl, ⟨hI.old.mv hm2 (.inr rfl), hc2⟩, ⟨hm2.size, hm2.block _ (by omega) (by omega), hm2.block _ hz (by omega)⟩⟩
  · rintro e w2 ⟨rfl, hI⟩
    exact ⟨rfl, hI.old, hI.cell⟩
set_option maxHeartbeats 8000000 in
set_option maxRecDepth 100000 in
theorem impl_PeriodOfBeam.calls (a0_0 : Int) (a0_1 : Int) (a1_0 : Int) (a1_1 : Int) (a1_2 : Bool) (a1_3 : Bool) (r1 : Int) (r2 : Bool) (w : World) (h : impl_PeriodOfBeam.f a0_0 a0_1 a1_0 a1_1 a1_2 a1_3 = some (r1, r2)) :
    Calls Try.prog 17 #[.agg #[.int .i64 a0_0, .int .i64 a0_1], .agg #[.int .i64 a1_0, .int .i64 a1_1, .bool a1_2, .bool a1_3]] w fun e w' => e = .returned (.tuple #[.int .i64 r1, .bool r2]) ∧ Below w.heap.size w w' := by
 unfold impl_PeriodOfBeam.f at h
 obtain ⟨⟨z1, z2, z3, z4, z5, z6, z7⟩, hT, h⟩ := Option.bind_eq_some_iff.mp h
 have HT := Aside0.mk hT
 obtain ⟨p1, p2, ps⟩ := fw_two w (.cells #[.int .i64 a0_0, .int .i64 a0_1] 28 (0, 0)) (.cells #[.int .i64 a1_0, .int .i64 a1_1, .bool a1_2, .bool a1_3] 30 (0, 0))
 have b8 := Aside0.mk (below_alloc (below_alloc (Below.refl _ w) (.cells #[.int .i64 a0_0, .int .i64 a0_1] 28 (0, 0))) (.cells #[.int .i64 a1_0, .int .i64 a1_1, .bool a1_2, .bool a1_3] 30 (0, 0)))
 have P := Aside0.mk (And.intro p1 (And.intro p2 ps))
 have H := Aside0.mk h
 clear p1 p2 ps hT h
 go_enter Try.func17, Try.ntmps17
 go_wp2_with fail
 with_reducible refine (impl_toCorner.calls a0_0 a0_1 a1_0 a1_1 a1_2 a1_3 z1 z2 z3 z4 z5 z6 z7 _ HT.out).mono ?_
 rintro e w1 ⟨rfl, a6⟩
 have z : w.heap.size + 1 < w1.heap.size := Nat.lt_of_lt_of_le (by rw [P.out.2.2]; omega) a6.size
 have hal := below_alloc (Below.refl _ w1) (.cells #[.int .i64 z2, .int .i64 z3, .bool z4, .bool z5] 30 (0, 0))
 have q1 := (hal.block w.heap.size (by omega)).trans ((a6.block w.heap.size (by rw [P.out.2.2]; omega)).trans P.out.1)
 have q2 := (hal.block (w.heap.size + 1) (by omega)).trans ((a6.block (w.heap.size + 1) (by rw [P.out.2.2]; omega)).trans P.out.2.1)
 have a9 := Aside0.mk (below_step b8.out (below_step a6 hal))
 have HZ : Aside0 (w.heap.size + 1 < (w1.alloc (.cells #[.int .i64 z2, .int .i64 z3, .bool z4, .bool z5] 30 (0, 0))).heap.size) := ⟨Nat.lt_of_lt_of_le z hal.size⟩
 have t0 := (fw_cells q1 0).1
 have t1 := (fw_cells q1 1).1
 have b0 := (fw_cells q2 0).1
 have b1 := (fw_cells q2 1).1
 have b2 := (fw_cells q2 2).1
 have b3 := (fw_cells q2 3).1
 simp at t0 t1 b0 b1 b2 b3
 have HQ := Aside0.mk (And.intro q1 q2)
 clear a6 z hal q1 q2 P b8
 cases z7 with
 | true =>
  have h := H.out
  rw [if_pos rfl] at h
  simp only [Option.some.injEq, Prod.mk.injEq] at h
  obtain ⟨rfl, rfl⟩ := h
  go_wp2_with fail
  go_ret2
  exact ⟨rfl, a9.out⟩
 | false =>
  have h := H.out
  rw [if_neg (by simp)] at h
  obtain ⟨ok, hok, h⟩ := Option.bind_eq_some_iff.mp h
  have HOK := Aside0.mk hok
  clear H hok
  go_wp2_with fail
  clear t0 t1 b0 b1 b2 b3
  generalize w1.alloc (.cells #[.int .i64 z2, .int .i64 z3, .bool z4, .bool z5] 30 (0, 0)) = w2 at HQ HZ a9 ⊢
  refine (impl_IsBeam.calls _ _ _ _ _ _ ok _ HOK.out).mono ?_
  rintro e w3 ⟨rfl, a7⟩
  have hz := HZ.out
  have q1 := (a7.block w.heap.size (by omega)).trans HQ.out.1
  have q2 := (a7.block (w.heap.size + 1) (by omega)).trans HQ.out.2
  have b6 := Aside0.mk (below_step a9.out a7)
  have b4 : Aside0 (w.heap.size + 1 < w3.heap.size) := ⟨Nat.lt_of_lt_of_le hz a7.size⟩
  clear hz HQ HZ a9 a7
  have t0 := (fw_cells q1 0).1
  have t1 := (fw_cells q1 1).1
  have b0 := (fw_cells q2 0).1
  have b1 := (fw_cells q2 1).1
  have b2 := (fw_cells q2 2).1
  have b3 := (fw_cells q2 3).1
  simp at t0 t1 b0 b1 b2 b3
  have HQ := Aside0.mk (And.intro q1 q2)
  clear q1 q2
  cases ok with
  | false =>
   rw [if_neg (by simp)] at h
   simp only [Option.some.injEq, Prod.mk.injEq] at h
   obtain ⟨rfl, rfl⟩ := h
   go_wp2_with fail
   go_ret2
   exact ⟨rfl, b6.out⟩
  | true =>
   rw [if_pos rfl] at h
   simp only [Option.some.injEq, Prod.mk.injEq] at h
   obtain ⟨hr, rfl⟩ := h
   have HR := Aside0.mk hr
   have hh := pb_IsBeam_true HOK.out
   have hb := pb_bounds hh
   have HH := Aside0.mk hh
   have HA : Aside0 (impl_around.f a0_0 a0_1 = some (2 * a0_0 * a0_1)) := ⟨by unfold impl_around.f; rw [hb.2.2]⟩
   have HIN := Aside0.mk (fwInw_eq a0_0 a0_1 a1_0 a1_1 a1_2 a1_3)
   obtain ⟨g, hg⟩ : ∃ s, fwInw a0_0 a0_1 ⟨a1_0, a1_1, a1_2, a1_3⟩ = s := ⟨_, rfl⟩
   rw [hg] at HIN
   have HG := Aside0.mk hg
   clear hr hh hb HOK hg
   obtain ⟨g0, g1, g2, g3⟩ := g
   go_wp2_with fail
   refine (impl_inward.calls _ _ _ _ _ _ _ _ _ _ _ HIN.out).mono ?_
   rintro e w5 ⟨rfl, a8⟩
   have b5 : w.heap.size + 1 < w5.heap.size := Nat.lt_of_lt_of_le b4.out a8.size
   obtain ⟨k1, k2, k3⟩ := fw_two w5 (.cells #[.int .i64 0] 3 (0, 0)) (.cells #[.int .i64 g0, .int .i64 g1, .bool g2, .bool g3] 30 (0, 0))
   have hal := below_alloc (below_alloc (Below.refl _ w5) (.cells #[.int .i64 0] 3 (0, 0))) (.cells #[.int .i64 g0, .int .i64 g1, .bool g2, .bool g3] 30 (0, 0))
   generalize b9 : (w5.alloc (.cells #[.int .i64 0] 3 (0, 0))).alloc (.cells #[.int .i64 g0, .int .i64 g1, .bool g2, .bool g3] 30 (0, 0)) = w6 at k1 k2 k3 hal
   have HD : Aside0 (w6.drew.heap[w.heap.size]? = some (.cells #[.int .i64 a0_0, .int .i64 a0_1] 28 (0, 0)) ∧ w6.drew.heap[w.heap.size + 1]? = some (.cells #[.int .i64 a1_0, .int .i64 a1_1, .bool a1_2, .bool a1_3] 30 (0, 0)) ∧ w6.drew.heap[w5.heap.size]? = some (.cells #[.int .i64 0] 3 (0, 0)) ∧ w6.drew.heap[w5.heap.size + 1]? = some (.cells #[.int .i64 g0, .int .i64 g1, .bool g2, .bool g3] 30 (0, 0)) ∧ w6.drew.heap.size = w5.heap.size + 2) :=
    ⟨⟨(hal.block _ (by omega)).trans ((a8.block _ (by have := b4.out; omega)).trans HQ.out.1), (hal.block _ (by omega)).trans ((a8.block _ b4.out).trans HQ.out.2), k1, k2, k3⟩⟩
   have HBD := Aside0.mk (below_step (below_step b6.out a8) (below_step hal (below_drew (Below.refl _ w6))))
   have c0 := Aside0.mk b9
   have c5 := Aside0.mk b5
   clear b9 k1 k2 k3 hal a8 b6 HQ b4 t0 t1 b0 b1 b2 b3 b5
   go_wp2_with fail
   rw [c0.out]
   clear c0
   have d1 := Try.underlying28
   have d2 := Try.underlying30
   have C1 := (fw_cells HD.out.1)
   have C2 := (fw_cells HD.out.2.1)
   refine st0_ 6 [q 4 34, qt 0 30, qt 1 31, qt 2 32, qo 3 33, qo 5 35] (S := fun w' => w'.cell? ⟨w.heap.size, 0, none⟩ = some (.int .i64 a0_0) ∧ w'.cell? ⟨w.heap.size, 1, none⟩ = some (.int .i64 a0_1) ∧ w'.cell? ⟨w.heap.size + 1, 0, none⟩ = some (.int .i64 a1_0) ∧ w'.cell? ⟨w.heap.size + 1, 1, none⟩ = some (.int .i64 a1_1) ∧ w'.cell? ⟨w.heap.size + 1, 2, none⟩ = some (.bool a1_2) ∧ w'.cell? ⟨w.heap.size + 1, 3, none⟩ = some (.bool a1_3)) (ds := [5]) ⟨(C1 0).1, (C1 1).1, (C2 0).1, (C2 1).1, (C2 2).1, (C2 3).1⟩ (fun hHeld HT_ HW_ => ?_)
   clear C1 C2
   generalize w6.drew = c8 at HD HBD hHeld ⊢
   iterate 4 (first | refine pA HT_ ?_ | refine pU HT_ hHeld ?_)
   refine pO HT_ fun K hK => ?_
   refine goes_ Try.func50 kr rfl #[.agg #[.int .i64 a0_0, .int .i64 a0_1]] (by rfl) rfl rfl sM ?_
   with_reducible refine (impl_around.calls a0_0 a0_1 (2 * a0_0 * a0_1) _ HA.out).mono ?_
   rintro e c6 ⟨rfl, hb⟩
   refine ⟨_, rfl, ?_⟩
   have b5 := c5.out
   have hz : c8.heap.size = w5.heap.size + 2 := HD.out.2.2.2.2
   have q1 := (hb.block w.heap.size (by omega)).trans HD.out.1
   have q2 := (hb.block (w.heap.size + 1) (by omega)).trans HD.out.2.1
   have q3 := (hb.block w5.heap.size (by omega)).trans HD.out.2.2.1
   have q4 := (hb.block (w5.heap.size + 1) (by omega)).trans HD.out.2.2.2.1
   have c9 : w5.heap.size + 1 < c6.heap.size := Nat.lt_of_lt_of_le (by omega) hb.size
   have b7 := Aside0.mk (below_step HBD.out hb)
   have HWAY := Aside0.mk (impl_PeriodOfBeam.way a0_0 a0_1 a1_0 a1_1 a1_2 a1_3 HH.out (w5.heap.size + 1) w5.heap.size c6 (by omega) (by omega) (by omega) q3 (by rw [HG.out]; exact q4))
   refine hK.out _ _ ⟨(fw_cells q1 0).1, (fw_cells q1 1).1, (fw_cells q2 0).1, (fw_cells q2 1).1, (fw_cells q2 2).1, (fw_cells q2 3).1⟩ (fun hHeld => ?_)
   clear hK K q1 q2 q3 q4 HD HBD hb hz c9 b5
   refine nP ?_
   refine pL HT_ fun K hK => ?_
   refine goes_ Try.func46 kr rfl #[.agg #[.int .i64 a0_0, .int .i64 a0_1], .agg #[.int .i64 a1_0, .int .i64 a1_1, .bool a1_2, .bool a1_3], .int .i64 (2 * a0_0 * a0_1), .func (.func 51) #[] #[.pointer (some ⟨w5.heap.size + 1, 0, none⟩), .pointer (some ⟨w5.heap.size, 0, none⟩)]] (by rfl) rfl rfl sM ?_
   refine HWAY.out.mono ?_
   rintro e d3 ⟨rfl, ho, hc⟩
   refine ⟨_, rfl, ?_⟩
   rw [HR.out] at hc
   have c1 := (fw_cells hc 0).1
   simp at c1
   have c7 := Aside0.mk (FwOld.below (S := fun i => i = w5.heap.size) b7.out ho (fun i hi => by have := c5.out; omega))
   refine hK.out _ _ ?_
   clear hK K hc ho HWAY b7 hHeld
   refine pD HT_ ?_
   go_wp2_with fail
   go_ret2
   exact ⟨rfl, c7.out⟩

/-! ### spec_bePeriod: function 52 -/
def spec_bePeriod.l0 : Nat → List (S30) → Int → Option (Int)
  | 0, _, _ => none
  | k + 1, x0, x3 => if 0 ≤ x3 then (if x3 < (x0.length : Int) then (if 0 < (x0.length : Int) then (if (!(((rd_T30 x0 x3).f0) == ((rd_T30 x0 0).f0)) || (!(((rd_T30 x0 x3).f1) == ((rd_T30 x0 0).f1)) || (!(((rd_T30 x0 x3).f2) == ((rd_T30 x0 0).f2)) || (!(((rd_T30 x0 x3).f3) == ((rd_T30 x0 0).f3)))))) = true then (spec_bePeriod.l0 k x0 (wrap64 (x3 + 1))) else (some x3)) else (none)) else (none)) else (none)
def spec_bePeriod.f (k : Nat) (l0 : List (S30)) : Option (Int) := spec_bePeriod.l0 k l0 1
theorem spec_bePeriod.mono_l : ∀ k, (∀ y0 y1, LeO (spec_bePeriod.l0 k y0 y1) (spec_bePeriod.l0 (k + 1) y0 y1))
  | 0 => fun _ _ r h => by simp [spec_bePeriod.l0] at h
  | k + 1 => by
    have ih0 := spec_bePeriod.mono_l k
    · intro y0 y1
      unfold spec_bePeriod.l0
      repeat' first
      | (with_reducible exact ih0 _ _)
      | (with_reducible exact LeO.refl _)
      | (with_reducible exact LeO.none _)
      | (with_reducible refine LeO.ite ?_ ?_)
      | (with_reducible refine LeO.bind ?_ (fun _ => ?_))
      | exact ih0 _ _
      | exact LeO.none _
      | refine LeO.ite ?_ ?_
      | refine LeO.bind ?_ (fun _ => ?_)
theorem spec_bePeriod.mono : ∀ a0 k, LeO (spec_bePeriod.f k a0) (spec_bePeriod.f (k + 1) a0) := by
  intro a0 k
  have ih0 := spec_bePeriod.mono_l k
  unfold spec_bePeriod.f
  repeat' first
      | (with_reducible exact ih0 _ _)
      | (with_reducible exact LeO.refl _)
      | (with_reducible exact LeO.none _)
      | (with_reducible refine LeO.ite ?_ ?_)
      | (with_reducible refine LeO.bind ?_ (fun _ => ?_))
      | exact ih0 _ _
      | exact LeO.none _
      | refine LeO.ite ?_ ?_
      | refine LeO.bind ?_ (fun _ => ?_)
set_option maxHeartbeats 8000000 in
set_option maxRecDepth 100000 in
theorem spec_bePeriod.calls (k : Nat) (A0 : Option Addr) (c0 : Nat) (l0 : List (S30)) (r : Int) (w : World) (hr0 : Kd.C k30 w A0 l0.length l0) (hc0 : l0.length ≤ c0) (h : spec_bePeriod.f k l0 = some r) :
    Calls Try.prog 52 #[.slice A0 l0.length c0] w fun e w' => e = .returned (.int .i64 r) ∧ Drawn0 w w' := by
 have d3 := Try.underlying30
 have b9 := Aside0.mk hr0
 have d8 := Aside0.mk hc0
 clear hr0 hc0
 have H := h
 unfold spec_bePeriod.f at H
 clear h
 have H' := Aside0.mk H
 clear H
 go_enter Try.func52, Try.ntmps52
 go_wp2
 repeat (go_quiet (fail); try go_wp2)
 go_loopg [3] k (fun kq v3 w' => ∃ (a6 : Int), v3 = .int .i64 a6 ∧ Aside0 (spec_bePeriod.l0 kq l0 a6 = some r) ∧ Aside0 (kq ≤ k) ∧ Drawn0 w w')
 case atStart => exact ⟨(1), sR, H', ⟨Nat.le_refl _⟩, by repeat (first | exact Drawn0.refl _ | apply Drawn0.step)⟩
 case round => (
 clear H'
 obtain ⟨a6, rfl, HA, HK1, ⟨m1, rfl⟩⟩ := hrel
 cases gk with
 | zero => exact absurd HA.out (by simp [spec_bePeriod.l0])
 | succ k1 => (
 have H := HA.out
 clear HA
 simp only [spec_bePeriod.l0] at H
 by_cases c2 : 0 ≤ a6
 ·(
 rw [if_pos c2] at H
 have d4 : decide (0 ≤ a6) = true := decide_eq_true c2
 clear c2
 by_cases c3 : a6 < (l0.length : Int)
 ·(
 rw [if_pos c3] at H
 have d5 : decide (a6 < (l0.length : Int)) = true := decide_eq_true c3
 clear c3
 by_cases c4 : 0 < (l0.length : Int)
 ·(
 rw [if_pos c4] at H
 have d6 : decide (0 < (l0.length : Int)) = true := decide_eq_true c4
 have d7 : decide (0 < l0.length) = true := decide_eq_true (by omega)
 clear c4
 by_cases c5 : (!(((rd_T30 l0 a6).f0) == ((rd_T30 l0 0).f0)) || (!(((rd_T30 l0 a6).f1) == ((rd_T30 l0 0).f1)) || (!(((rd_T30 l0 a6).f2) == ((rd_T30 l0 0).f2)) || (!(((rd_T30 l0 a6).f3) == ((rd_T30 l0 0).f3)))))) = true
 ·(
 rw [if_pos c5] at H
 have d2 : (!(((rd_T30 l0 a6).f0) == ((rd_T30 l0 0).f0)) || (!(((rd_T30 l0 a6).f1) == ((rd_T30 l0 0).f1)) || (!(((rd_T30 l0 a6).f2) == ((rd_T30 l0 0).f2)) || (!(((rd_T30 l0 a6).f3) == ((rd_T30 l0 0).f3)))))) = true := c5
 clear c5
 have H' := Aside0.mk H
 clear H
 have b1 : 0 ≤ (a6 : Int) := of_decide_eq_true asm
 have b2 : a6 < (l0.length : Int) := of_decide_eq_true asm
 obtain ⟨b5, b7, c6, c7, c8, c9⟩ := at_T30 b9.out a6 b1 b2
 cases b7
 replace b1 := eq_true b1
 replace b2 := eq_true b2
 have b3 : 0 ≤ (0 : Int) := (by omega)
 have b4 : 0 < (l0.length : Int) := of_decide_eq_true asm
 obtain ⟨b6, b8, a7, a8, a9, b0⟩ := at_T30 b9.out 0 b3 b4
 obtain rfl : b5 = b6 := (by injection b8)
 have d1 : (0 < l0.length) = True := eq_true (by omega)
 (try rw [show ((0 : Int)).toNat = 0 from rfl] at a7)
 (try rw [show 0 * 4 = 0 from rfl] at a7)
 (try rw [Addr.add_zero'] at a7)
 (try rw [show ((0 : Int)).toNat = 0 from rfl] at a8)
 (try rw [show 0 * 4 = 0 from rfl] at a8)
 (try rw [Addr.add_zero'] at a8)
 (try rw [show ((0 : Int)).toNat = 0 from rfl] at a9)
 (try rw [show 0 * 4 = 0 from rfl] at a9)
 (try rw [Addr.add_zero'] at a9)
 (try rw [show ((0 : Int)).toNat = 0 from rfl] at b0)
 (try rw [show 0 * 4 = 0 from rfl] at b0)
 (try rw [Addr.add_zero'] at b0)
 replace b3 := eq_true b3
 replace b4 := eq_true b4
 go_wp2
 repeat (go_quiet (fail); try go_wp2)
 go_roundg k1
 case measure => have := HK1.out; omega
 case rel => exact ⟨(wrap64 (a6 + 1)), sR, H', ⟨by have := HK1.out; omega⟩, by repeat (first | exact Drawn0.refl _ | apply Drawn0.step)⟩
 )
 ·(
 rw [if_neg c5] at H
 have d2 : (!(((rd_T30 l0 a6).f0) == ((rd_T30 l0 0).f0)) || (!(((rd_T30 l0 a6).f1) == ((rd_T30 l0 0).f1)) || (!(((rd_T30 l0 a6).f2) == ((rd_T30 l0 0).f2)) || (!(((rd_T30 l0 a6).f3) == ((rd_T30 l0 0).f3)))))) = false := by simpa using c5
 clear c5
 obtain rfl := Option.some.inj H
 have b1 : 0 ≤ (a6 : Int) := of_decide_eq_true asm
 have b2 : a6 < (l0.length : Int) := of_decide_eq_true asm
 obtain ⟨b5, b7, c6, c7, c8, c9⟩ := at_T30 b9.out a6 b1 b2
 cases b7
 replace b1 := eq_true b1
 replace b2 := eq_true b2
 have b3 : 0 ≤ (0 : Int) := (by omega)
 have b4 : 0 < (l0.length : Int) := of_decide_eq_true asm
 obtain ⟨b6, b8, a7, a8, a9, b0⟩ := at_T30 b9.out 0 b3 b4
 obtain rfl : b5 = b6 := (by injection b8)
 have d1 : (0 < l0.length) = True := eq_true (by omega)
 (try rw [show ((0 : Int)).toNat = 0 from rfl] at a7)
 (try rw [show 0 * 4 = 0 from rfl] at a7)
 (try rw [Addr.add_zero'] at a7)
 (try rw [show ((0 : Int)).toNat = 0 from rfl] at a8)
 (try rw [show 0 * 4 = 0 from rfl] at a8)
 (try rw [Addr.add_zero'] at a8)
 (try rw [show ((0 : Int)).toNat = 0 from rfl] at a9)
 (try rw [show 0 * 4 = 0 from rfl] at a9)
 (try rw [Addr.add_zero'] at a9)
 (try rw [show ((0 : Int)).toNat = 0 from rfl] at b0)
 (try rw [show 0 * 4 = 0 from rfl] at b0)
 (try rw [Addr.add_zero'] at b0)
 replace b3 := eq_true b3
 replace b4 := eq_true b4
 go_wp2
 repeat (go_quiet (fail); try go_wp2)
 go_ret
 exact ⟨by first | rfl | (simp; done) | (simp [*]; done), by repeat (first | exact Drawn0.refl _ | apply Drawn0.step)⟩
 )
 )
 ·(
 rw [if_neg c4] at H
 exact absurd H (by simp)
 )
 )
 ·(
 rw [if_neg c3] at H
 exact absurd H (by simp)
 )
 )
 ·(
 rw [if_neg c2] at H
 exact absurd H (by simp)
 )
 )
 )

end Go.Proofs.Ythfbjofmcniogaa.PFnBeamsGo
