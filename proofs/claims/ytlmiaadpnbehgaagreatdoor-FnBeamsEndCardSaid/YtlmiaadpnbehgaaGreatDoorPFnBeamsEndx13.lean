-- Written by xprint.py, a program of this session, for this seat; Lean checks it.
import Derived.Test.YtlmiaadpnbehgaaGreatDoorVM
import Derived.Test.YtlmiaadpnbehgaaGreatDoorPFnBeamsEndx0
import Derived.Test.YtlmiaadpnbehgaaGreatDoorPFnBeamsEndx9
import Derived.Test.YtlmiaadpnbehgaaGreatDoorPFnBeamsEndx12
namespace Go.Proofs.YtlmiaadpnbehgaaGreatDoor.PFnBeamsEnd
open Go.Proofs.YtlmiaadpnbehgaaGreatDoorV Go.RowKit Go.Proofs.YtlmiaadpnbehgaaGreatDoorW.PrintWords Go.Proofs.YtlmiaadpnbehgaaGreatDoorW.PrintLast Go.Proofs.YtlmiaadpnbehgaaGreatDoorW.PrintMore
attribute [local go_sem] max2_int min2_int max_two min_two max_three min_three max_four min_four   -- for this text's walks alone
set_option linter.unusedVariables false
set_option linter.unusedSimpArgs false

/-! ### spec_beLong: function 66 -/
def spec_beLong.f (a0_0 : Int) (a0_1 : Int) : Option (Int) := some (wrap64 ((wrap64 ((wrap64 (4 * a0_0)) * a0_1)) + 1))
set_option maxHeartbeats 8000000 in
set_option maxRecDepth 100000 in
theorem spec_beLong.calls (a0_0 : Int) (a0_1 : Int) (r : Int) (w : World) (h : spec_beLong.f a0_0 a0_1 = some r) :
    Calls Tryz.prog 66 #[.agg #[.int .i64 a0_0, .int .i64 a0_1]] w fun e w' => e = .returned (.int .i64 r) ∧ Below w.heap.size w w' := by
 have b4 := Tryz.underlying25
 have HB := Aside0.mk (Below.refl w.heap.size w)
 have H := h
 unfold spec_beLong.f at H
 clear h
 obtain rfl := Option.some.inj H
 go_enter Tryz.func66, Tryz.ntmps66
 go_wp2_with (first | ((with_reducible refine gate_dst (N := 1) rfl ?_); refine box_ (cs := #[.int .i64 a0_0, .int .i64 a0_1]) (t := 25) fun b1 hg w2 hbox hb => ?_; have a6 := Aside0.mk (hbox); have b2 := bS HB hg; have b3 := bS HB hg; replace HB := Aside0.mk (below_step bB hb); clear hb hbox hg; obtain ⟨a7, a8, a9, b0⟩ := cf2 a6))
 go_ret
 exact ⟨sE, bI⟩

/-! ### spec_beEnd: function 35 -/
def spec_beEnd.f (k : Nat) (a0_0 : Int) (a0_1 : Int) (a1_0 : Int) (a1_1 : Int) (a1_2 : Bool) (a1_3 : Bool) : Option ((List (S27)) × ByteArray × Bool) := (spec_beLong.f a0_0 a0_1).bind fun t328 => ((spec_beRun.f k a0_0 a0_1 a1_0 a1_1 a1_2 a1_3 t328).bind fun bt329 => (if 0 ≤ (wrap64 ((bt329.1.length : Int) - 1)) then (if (wrap64 ((bt329.1.length : Int) - 1)) < (bt329.1.length : Int) then ((spec_beCorner.f a0_0 a0_1 ((rd_T27 bt329.1 (wrap64 ((bt329.1.length : Int) - 1))).f0) ((rd_T27 bt329.1 (wrap64 ((bt329.1.length : Int) - 1))).f1) ((rd_T27 bt329.1 (wrap64 ((bt329.1.length : Int) - 1))).f2) ((rd_T27 bt329.1 (wrap64 ((bt329.1.length : Int) - 1))).f3)).bind fun t334 => (some (bt329.1, bt329.2, t334))) else (none)) else (none)))
theorem spec_beEnd.mono : ∀ a0 a1 a2 a3 a4 a5 k, LeO (spec_beEnd.f k a0 a1 a2 a3 a4 a5) (spec_beEnd.f (k + 1) a0 a1 a2 a3 a4 a5) := by
  intro a0 a1 a2 a3 a4 a5 k
  unfold spec_beEnd.f
  repeat' first
      | (with_reducible exact spec_beRun.mono _ _ _ _ _ _ _ _)
      | (with_reducible exact LeO.refl _)
      | (with_reducible exact LeO.none _)
      | (with_reducible refine LeO.ite ?_ ?_)
      | (with_reducible refine LeO.bind ?_ (fun _ => ?_))
      | exact spec_beRun.mono _ _ _ _ _ _ _ _
      | exact LeO.none _
      | refine LeO.ite ?_ ?_
      | refine LeO.bind ?_ (fun _ => ?_)
def spec_beEnd.T1 : Bool × List (List Nat × List Nat) := (true, [([], []), ([], []), ([], []), ([2], [2]), ([0, 1, 3, 3], [0, 1, 3]), ([4], [4]), ([5], [5]), ([5], [5]), ([6, 4, 0, 1, 2, 3, 4, 5, 6], [6]), ([7, 8, 0, 1, 2, 3, 4, 5, 6, 7, 8], [7])])
def spec_beEnd.B1 : List Nat := [0, 0, 0, 4, 15, 31, 63, 63, 127, 511]
theorem spec_beEnd.tab1 : rtab .any (opsOf Tryz.f35 1) = spec_beEnd.T1 := by kernel_rfl
theorem spec_beEnd.bits1 : waitsOk spec_beEnd.T1.2 spec_beEnd.B1 = true := by kernel_rfl
def spec_beEnd.T2 : Bool × List (List Nat × List Nat) := (true, [([], []), ([], []), ([], []), ([], []), ([], []), ([4], [4]), ([5], [5]), ([3, 6], [3, 6]), ([7], [7]), ([2, 8], [2, 8]), ([0, 9, 0], [0]), ([1, 10, 0, 1, 10], [1]), ([9, 11, 0, 1, 2, 3, 4, 5, 6, 7, 8, 9, 10, 11], [9])])
def spec_beEnd.B2 : List Nat := [0, 0, 0, 0, 0, 16, 48, 120, 248, 508, 1021, 2047, 4095]
theorem spec_beEnd.tab2 : rtab .any (opsOf Tryz.f35 2) = spec_beEnd.T2 := by kernel_rfl
theorem spec_beEnd.bits2 : waitsOk spec_beEnd.T2.2 spec_beEnd.B2 = true := by kernel_rfl
abbrev spec_beEnd.pl0 : List (Nat × Option Tmp × Nat) := [qt 0 10, qt 1 11, qt 2 12, qo 3 13, qo 4 14, q 5 9, q 6 15, q 7 16, q 8 7, q 9 8]
abbrev spec_beEnd.pl1 : List (Nat × Option Tmp × Nat) := [q 0 17, q 1 18, q 3 20, q 4 21, q 5 22, q 6 23, q 7 24, qt 2 19, qt 8 25, qo 9 26, q 10 4, q 11 5, q 12 6]
set_option maxHeartbeats 8000000 in
set_option maxRecDepth 100000 in
theorem spec_beEnd.calls (k : Nat) (a0_0 : Int) (a0_1 : Int) (a1_0 : Int) (a1_1 : Int) (a1_2 : Bool) (a1_3 : Bool) (r1 : List (S27)) (r2 : ByteArray) (r3 : Bool) (w : World) (h : spec_beEnd.f k a0_0 a0_1 a1_0 a1_1 a1_2 a1_3 = some (r1, r2, r3)) :
    Calls Tryz.prog 35 #[.agg #[.int .i64 a0_0, .int .i64 a0_1], .agg #[.int .i64 a1_0, .int .i64 a1_1, .bool a1_2, .bool a1_3]] w fun e w' => ∃ v0_ : Value, e = .returned (.tuple #[v0_, .string r2, .bool r3]) ∧ Kd.R k27 27 w' w.heap.size (fun _ => True) v0_ r1 ∧ Below w.heap.size w w' := by
 have d8 := Tryz.underlying25
 have d9 := Tryz.underlying27
 have HB := Aside0.mk (Below.refl w.heap.size w)
 have H := h
 unfold spec_beEnd.f at H
 clear h
 obtain ⟨b9, A3, H⟩ := bD H
 try dsimp only at H
 obtain ⟨⟨a8, c8⟩, A4, H⟩ := bD H
 try dsimp only at H
 obtain ⟨a7, b2⟩ : ∃ j_ : Int, (wrap64 ((a8.length : Int) - 1)) = j_ := ⟨_, rfl⟩
 (first | rw [b2] at H | simp only [b2] at H)
 (try rw [b2] at A3)
 (try rw [b2] at A4)
 have d3 : (IntKind.i64.wrap ((a8.length : Int) - 1)) = a7 := (i64_w _).trans b2
 by_cases c6 : 0 ≤ (a7)
 ·(
 rw [if_pos c6] at H
 have e0 : decide (0 ≤ (a7)) = true := decide_eq_true c6
 clear c6
 by_cases c7 : (a7) < (a8.length : Int)
 ·(
 rw [if_pos c7] at H
 have e1 : decide ((a7) < (a8.length : Int)) = true := decide_eq_true c7
 clear c7
 obtain ⟨c9, A8, H⟩ := bD H
 try dsimp only at H
 simp only [Option.some.injEq, Prod.mk.injEq] at H
 obtain ⟨rfl, rfl, rfl⟩ := H
 go_enter Tryz.func35, Tryz.ntmps35
 try go_wp2_with (first | ((with_reducible refine gate_dst (N := 2) rfl ?_); refine box_ (cs := #[.int .i64 a0_0, .int .i64 a0_1]) (t := 25) fun b4 hg w9 hbox hb => ?_; have a6 := Aside0.mk (hbox); have d4 := bS HB hg; have d5 := bS HB hg; replace HB := Aside0.mk (below_step bB hb); clear hb hbox hg) | ((with_reducible refine gate_dst (N := 3) rfl ?_); refine box_ (cs := #[.int .i64 a1_0, .int .i64 a1_1, .bool a1_2, .bool a1_3]) (t := 27) fun b3 hg d1 hbox hb => ?_; have a9 := Aside0.mk (hbox); have d6 := bS HB hg; have d7 := bS HB hg; have c3 := bL a6 hg; have c4 := bM a6 hg; replace a6 := bQ a6 hb; replace HB := Aside0.mk (below_step bB hb); clear hb hbox hg))
 replace a6 := bD1 a6
 replace a9 := bD1 a9
 replace HB := Aside0.mk (below_drew1 HB.out)
 refine st_ 10 spec_beEnd.pl0 (S := fun w' => w'.cell? ⟨b4, 0, none⟩ = some (.int .i64 a0_0) ∧ w'.cell? ⟨b4, 1, none⟩ = some (.int .i64 a0_1) ∧ w'.cell? ⟨b3, 0, none⟩ = some (.int .i64 a1_0) ∧ w'.cell? ⟨b3, 1, none⟩ = some (.int .i64 a1_1) ∧ w'.cell? ⟨b3, 2, none⟩ = some (.bool a1_2) ∧ w'.cell? ⟨b3, 3, none⟩ = some (.bool a1_3)) (ds := []) spec_beEnd.tab1 spec_beEnd.bits1 cS (fun hHeld HT_ HW_ => ?_)
 generalize d1.drew = e5 at a6 a9 HB hHeld ⊢
 iterate 3 refine pT HT_ HW_ hHeld ?_
 refine pO HT_ fun K hK => ?_
 refine goes_ Tryz.func66 kr rfl #[.agg #[.int .i64 a0_0, .int .i64 a0_1]] (by rfl) rfl rfl sM ?_
 with_reducible refine (spec_beLong.calls a0_0 a0_1 b9 _ A3.out).mono ?_
 rintro e e6 ⟨rfl, hb⟩
 refine ⟨_, rfl, ?_⟩
 replace a6 := bQ a6 hb
 replace a9 := bQ a9 hb
 replace HB := Aside0.mk (below_step bB hb)
 try clear hb
 refine hK.out _ _ cS (fun hHeld => ?_)
 clear hK K
 refine nP ?_
 refine pO HT_ fun K hK => ?_
 refine goes_ Tryz.func65 kr rfl #[.agg #[.int .i64 a0_0, .int .i64 a0_1], .agg #[.int .i64 a1_0, .int .i64 a1_1, .bool a1_2, .bool a1_3], .int .i64 b9] (by rfl) rfl rfl sM ?_
 with_reducible refine (spec_beRun.calls k a0_0 a0_1 a1_0 a1_1 a1_2 a1_3 b9 a8 c8 _ A4.out).mono ?_
 rintro e d2 ⟨e2, rfl, c5, hb⟩
 refine ⟨_, rfl, ?_⟩
 have b0 := Aside0.mk (Kd.R_lower (Kd.R_newB c5 (g := b3) (o := .cells #[.int .i64 a1_0, .int .i64 a1_1, .bool a1_2, .bool a1_3] 27 (0, 0)) (bK a9)) (below_size bB))
 replace a6 := bQ a6 hb
 replace a9 := bQ a9 hb
 replace HB := Aside0.mk (below_step bB hb)
 try clear hb
 (try clear c5)
 refine hK.out _ _ cS (fun hHeld => ?_)
 clear hK K
 refine nP ?_
 iterate 5 refine pA HT_ ?_
 refine pD HT_ ?_
 try go_wp2
 (try rw [dSet])
 replace b0 := Aside0.mk (Kd.R_drew b0.out)
 replace a6 := bD1 a6
 replace a9 := bD1 a9
 replace HB := Aside0.mk (below_drew1 HB.out)
 obtain ⟨e3, e4, c2⟩ := Kd.R_slice b0.out
 (first | subst c2 | (injection c2 with f1_ f2_ f3_; have f4_ := f1_.symm; have f5_ := f3_.symm; clear f1_ f2_ f3_; subst f4_; subst f5_))
 have c0 : 0 ≤ ((a7) : Int) := of_decide_eq_true asm
 have c1 : (a7) < (a8.length : Int) := of_decide_eq_true asm
 obtain ⟨b1, d0, b5, b6, b7, b8⟩ := at_T27 (Kd.R_reads' b0.out).2.2 (a7) c0 c1
 cases d0
 replace c0 := eq_true c0
 replace c1 := eq_true c1
 refine st_ 13 spec_beEnd.pl1 (S := fun w' => w'.cell? ⟨b4, 0, none⟩ = some (.int .i64 a0_0) ∧ w'.cell? ⟨b4, 1, none⟩ = some (.int .i64 a0_1) ∧ w'.cell? (b1.add (((a7)).toNat * 4)) = some (.int .i64 ((rd_T27 a8 (a7)).f0)) ∧ w'.cell? ⟨(b1.add (((a7)).toNat * 4)).block, (b1.add (((a7)).toNat * 4)).off + 1, none⟩ = some (.int .i64 ((rd_T27 a8 (a7)).f1)) ∧ w'.cell? ⟨(b1.add (((a7)).toNat * 4)).block, (b1.add (((a7)).toNat * 4)).off + 2, none⟩ = some (.bool ((rd_T27 a8 (a7)).f2)) ∧ w'.cell? ⟨(b1.add (((a7)).toNat * 4)).block, (b1.add (((a7)).toNat * 4)).off + 3, none⟩ = some (.bool ((rd_T27 a8 (a7)).f3))) (ds := []) spec_beEnd.tab2 spec_beEnd.bits2 ⟨cb a6 0, cb a6 1, b5, b6, b7, b8⟩ (fun hHeld HT_ HW_ => ?_)
 generalize d2.drew = e7 at b0 a6 a9 HB b5 b6 b7 b8 hHeld ⊢
 iterate 9 (first | refine pA HT_ ?_ | refine pT HT_ HW_ hHeld ?_)
 refine pO HT_ fun K hK => ?_
 refine goes_ Tryz.func67 kr rfl #[.agg #[.int .i64 a0_0, .int .i64 a0_1], .agg #[.int .i64 ((rd_T27 a8 (a7)).f0), .int .i64 ((rd_T27 a8 (a7)).f1), .bool ((rd_T27 a8 (a7)).f2), .bool ((rd_T27 a8 (a7)).f3)]] (by rfl) rfl rfl (by (try simp only [List.map_toArray, List.map_cons, List.map_nil]); first | done | (simp only [b2]; rfl) | rfl | (simp only [List.length_drop, List.length_take]; rfl)) ?_
 with_reducible refine (spec_beCorner.calls a0_0 a0_1 ((rd_T27 a8 (a7)).f0) ((rd_T27 a8 (a7)).f1) ((rd_T27 a8 (a7)).f2) ((rd_T27 a8 (a7)).f3) c9 _ A8.out).mono ?_
 rintro e e8 ⟨rfl, hb⟩
 have HS2_ := (hb.cell (World.block_lt_of_cell? _ _ (hHeld.2.2.1))).trans (hHeld.2.2.1)
 have HS3_ := (hb.cell (World.block_lt_of_cell? _ _ (hHeld.2.2.2.1))).trans (hHeld.2.2.2.1)
 have HS4_ := (hb.cell (World.block_lt_of_cell? _ _ (hHeld.2.2.2.2.1))).trans (hHeld.2.2.2.2.1)
 have HS5_ := (hb.cell (World.block_lt_of_cell? _ _ (hHeld.2.2.2.2.2))).trans (hHeld.2.2.2.2.2)
 refine ⟨_, rfl, ?_⟩
 replace b0 := Aside0.mk (Kd.R_below (oR b0) hb)
 replace a6 := bQ a6 hb
 replace a9 := bQ a9 hb
 replace HB := Aside0.mk (below_step bB hb)
 try clear hb
 refine hK.out _ _ ⟨cb a6 0, cb a6 1, HS2_, HS3_, HS4_, HS5_⟩ (fun hHeld => ?_)
 clear hK K
 refine nP ?_
 iterate 3 refine pA HT_ ?_
 refine pD HT_ ?_
 try go_wp2
 (try rw [dSet])
 go_ret3
 exact ⟨_, by first | rfl | (simp [errW_none, errW_some] <;> rfl) | (simp only [← b2]; first | rfl | (simp [errW_none, errW_some] <;> rfl)) | (simp [*, errW_none, errW_some] <;> rfl), by (with_reducible repeat (first | apply Kd.R_alloc | apply Kd.R_drewN | apply Kd.R_drew)); exact Kd.R_mono b0.out (fun _ hk => trivial), bI⟩
 )
 ·(
 rw [if_neg c7] at H
 exact absurd H (by simp)
 )
 )
 ·(
 rw [if_neg c6] at H
 exact absurd H (by simp)
 )

/-! ### spec_StepsToCorner: function 7 -/
def spec_StepsToCorner.f (k : Nat) (a0_0 : Int) (a0_1 : Int) (a1_0 : Int) (a1_1 : Int) (a1_2 : Bool) (a1_3 : Bool) : Option (Int × Bool) := (spec_beGood.f a0_0 a0_1 a1_0 a1_1 a1_2 a1_3).bind fun t337 => (if t337 = true then ((spec_beEnd.f k a0_0 a0_1 a1_0 a1_1 a1_2 a1_3).bind fun bt338 => (if bt338.2.2 = true then (some (wrap64 ((bt338.1.length : Int) - 1), true)) else (some (0, false)))) else (some (0, false)))
theorem spec_StepsToCorner.mono : ∀ a0 a1 a2 a3 a4 a5 k, LeO (spec_StepsToCorner.f k a0 a1 a2 a3 a4 a5) (spec_StepsToCorner.f (k + 1) a0 a1 a2 a3 a4 a5) := by
  intro a0 a1 a2 a3 a4 a5 k
  unfold spec_StepsToCorner.f
  repeat' first
      | (with_reducible exact spec_beEnd.mono _ _ _ _ _ _ _)
      | (with_reducible exact LeO.refl _)
      | (with_reducible exact LeO.none _)
      | (with_reducible refine LeO.ite ?_ ?_)
      | (with_reducible refine LeO.bind ?_ (fun _ => ?_))
      | exact spec_beEnd.mono _ _ _ _ _ _ _
      | exact LeO.none _
      | refine LeO.ite ?_ ?_
      | refine LeO.bind ?_ (fun _ => ?_)
set_option maxHeartbeats 8000000 in
set_option maxRecDepth 100000 in
theorem spec_StepsToCorner.calls (k : Nat) (a0_0 : Int) (a0_1 : Int) (a1_0 : Int) (a1_1 : Int) (a1_2 : Bool) (a1_3 : Bool) (r1 : Int) (r2 : Bool) (w : World) (h : spec_StepsToCorner.f k a0_0 a0_1 a1_0 a1_1 a1_2 a1_3 = some (r1, r2)) :
    Calls Tryz.prog 7 #[.agg #[.int .i64 a0_0, .int .i64 a0_1], .agg #[.int .i64 a1_0, .int .i64 a1_1, .bool a1_2, .bool a1_3]] w fun e w' => e = .returned (.tuple #[.int .i64 r1, .bool r2]) ∧ Below w.heap.size w w' := by
 have e9 := Tryz.underlying25
 have g0 := Tryz.underlying27
 have HB := Aside0.mk (Below.refl w.heap.size w)
 have H := h
 unfold spec_StepsToCorner.f at H
 clear h
 obtain ⟨b5, A3, H⟩ := bD H
 try dsimp only at H
 by_cases c4 : b5 = true
 subst c4
 rw [if_pos rfl] at H
 obtain ⟨⟨b1, b2, b6⟩, A5, H⟩ := bD H
 try dsimp only at H
 by_cases c6 : b6 = true
 subst c6
 rw [if_pos rfl] at H
 simp only [Option.some.injEq, Prod.mk.injEq] at H
 obtain ⟨rfl, rfl⟩ := H
 rotate_left
 replace c6 := Bool.eq_false_iff.mpr c6
 subst c6
 rw [if_neg nft] at H
 simp only [Option.some.injEq, Prod.mk.injEq] at H
 obtain ⟨rfl, rfl⟩ := H
 rotate_left
 replace c4 := Bool.eq_false_iff.mpr c4
 subst c4
 rw [if_neg nft] at H
 simp only [Option.some.injEq, Prod.mk.injEq] at H
 obtain ⟨rfl, rfl⟩ := H
 rotate_left
 all_goals (go_enter Tryz.func7, Tryz.ntmps7)
 all_goals (go_wp2_with (first | ((with_reducible refine gate_dst (N := 2) rfl ?_); refine box_ (cs := #[.int .i64 a0_0, .int .i64 a0_1]) (t := 25) fun g1 hg g8 hbox hb => ?_; have a6 := Aside0.mk (hbox); have g2 := bS HB hg; have g3 := bS HB hg; replace HB := Aside0.mk (below_step bB hb); clear hb hbox hg) | ((with_reducible refine gate_dst (N := 3) rfl ?_); refine box_ (cs := #[.int .i64 a1_0, .int .i64 a1_1, .bool a1_2, .bool a1_3]) (t := 27) fun b3 hg g9 hbox hb => ?_; have a7 := Aside0.mk (hbox); have g4 := bS HB hg; have g5 := bS HB hg; have a9 := bL a6 hg; have b0 := bM a6 hg; replace a6 := bQ a6 hb; replace HB := Aside0.mk (below_step bB hb); clear hb hbox hg; have e7 := a9.out; have e8 := b0.out; obtain ⟨b8, b9, c0, c1⟩ := cf2 a6; obtain ⟨c2, c3, c5, c7, c8, c9, d0, d1⟩ := cf4 a7) | ((with_reducible refine gate_callee (f := 34) rfl ?_); refine goesL_ (some 11) rfl rfl Tryz.func34 kr rfl #[.agg #[.int .i64 a0_0, .int .i64 a0_1], .agg #[.int .i64 a1_0, .int .i64 a1_1, .bool a1_2, .bool a1_3]] rfl sM ?_; (with_reducible refine (spec_beGood.calls a0_0 a0_1 a1_0 a1_1 a1_2 a1_3 true _ A3.out).mono ?_); rintro e e4 ⟨rfl, hb⟩; refine ⟨_, rfl, ?_⟩; replace a6 := bQ a6 hb; replace a7 := bQ a7 hb; replace HB := Aside0.mk (below_step bB hb); (try clear hb); obtain ⟨d2, d3, d4, d5⟩ := cf2 a6; obtain ⟨d6, d7, d8, d9, e0, e1, e2, e3⟩ := cf4 a7) | ((with_reducible refine gate_callee (f := 35) rfl ?_); refine goesL_ (some 16) rfl rfl Tryz.func35 kr rfl #[.agg #[.int .i64 a0_0, .int .i64 a0_1], .agg #[.int .i64 a1_0, .int .i64 a1_1, .bool a1_2, .bool a1_3]] rfl sM ?_; (with_reducible refine (spec_beEnd.calls k a0_0 a0_1 a1_0 a1_1 a1_2 a1_3 b1 b2 true _ A5.out).mono ?_); rintro e e5 ⟨e6, rfl, a8, hb⟩; refine ⟨_, rfl, ?_⟩; have b4 := Aside0.mk (Kd.R_lower (Kd.R_newB a8 (g := b3) (o := .cells #[.int .i64 a1_0, .int .i64 a1_1, .bool a1_2, .bool a1_3] 27 (0, 0)) (bK a7)) (below_size bB)); replace a6 := bQ a6 hb; replace a7 := bQ a7 hb; replace HB := Aside0.mk (below_step bB hb); (try clear hb); (try clear a8); obtain ⟨g6, g7, b7⟩ := Kd.R_slice b4.out; subst b7) | ((with_reducible refine gate_callee (f := 35) rfl ?_); refine goesL_ (some 16) rfl rfl Tryz.func35 kr rfl #[.agg #[.int .i64 a0_0, .int .i64 a0_1], .agg #[.int .i64 a1_0, .int .i64 a1_1, .bool a1_2, .bool a1_3]] rfl sM ?_; (with_reducible refine (spec_beEnd.calls k a0_0 a0_1 a1_0 a1_1 a1_2 a1_3 b1 b2 false _ A5.out).mono ?_); rintro e e5 ⟨e6, rfl, a8, hb⟩; refine ⟨_, rfl, ?_⟩; have b4 := Aside0.mk (Kd.R_lower (Kd.R_newB a8 (g := b3) (o := .cells #[.int .i64 a1_0, .int .i64 a1_1, .bool a1_2, .bool a1_3] 27 (0, 0)) (bK a7)) (below_size bB)); replace a6 := bQ a6 hb; replace a7 := bQ a7 hb; replace HB := Aside0.mk (below_step bB hb); (try clear hb); (try clear a8)) | ((with_reducible refine gate_callee (f := 34) rfl ?_); refine goesL_ (some 11) rfl rfl Tryz.func34 kr rfl #[.agg #[.int .i64 a0_0, .int .i64 a0_1], .agg #[.int .i64 a1_0, .int .i64 a1_1, .bool a1_2, .bool a1_3]] rfl sM ?_; (with_reducible refine (spec_beGood.calls a0_0 a0_1 a1_0 a1_1 a1_2 a1_3 false _ A3.out).mono ?_); rintro e e4 ⟨rfl, hb⟩; refine ⟨_, rfl, ?_⟩; replace a6 := bQ a6 hb; replace a7 := bQ a7 hb; replace HB := Aside0.mk (below_step bB hb); (try clear hb))))
 all_goals go_ret2
 all_goals (exact ⟨sE, bI⟩)

/-! ### impl_CornerOf: function 8 -/
def impl_CornerOf.f (a0_0 : Int) (a0_1 : Int) (a1_0 : Int) (a1_1 : Int) (a1_2 : Bool) (a1_3 : Bool) : Option (Int × Int × Bool) := (impl_toCorner.f a0_0 a0_1 a1_0 a1_1 a1_2 a1_3).bind fun bt345 => (some (bt345.2.1, bt345.2.2.1, bt345.2.2.2.2.2.2))
set_option maxHeartbeats 8000000 in
set_option maxRecDepth 100000 in
theorem impl_CornerOf.calls (a0_0 : Int) (a0_1 : Int) (a1_0 : Int) (a1_1 : Int) (a1_2 : Bool) (a1_3 : Bool) (r1 : Int) (r2 : Int) (r3 : Bool) (w : World) (h : impl_CornerOf.f a0_0 a0_1 a1_0 a1_1 a1_2 a1_3 = some (r1, r2, r3)) :
    Calls Tryz.prog 8 #[.agg #[.int .i64 a0_0, .int .i64 a0_1], .agg #[.int .i64 a1_0, .int .i64 a1_1, .bool a1_2, .bool a1_3]] w fun e w' => e = .returned (.tuple #[.int .i64 r1, .int .i64 r2, .bool r3]) ∧ Below w.heap.size w w' := by
 have g8 := Tryz.underlying25
 have g9 := Tryz.underlying27
 have HB := Aside0.mk (Below.refl w.heap.size w)
 have H := h
 unfold impl_CornerOf.f at H
 clear h
 obtain ⟨⟨d5, d6, d7, d8, d9, e0, e1⟩, A3, H⟩ := bD H
 try dsimp only at H
 simp only [Option.some.injEq, Prod.mk.injEq] at H
 obtain ⟨rfl, rfl, rfl⟩ := H
 go_enter Tryz.func8, Tryz.ntmps8
 go_wp2_with (first | ((with_reducible refine gate_dst (N := 2) rfl ?_); refine box_ (cs := #[.int .i64 a0_0, .int .i64 a0_1]) (t := 25) fun e2 hg w4 hbox hb => ?_; have a6 := Aside0.mk (hbox); have e3 := bS HB hg; have e4 := bS HB hg; replace HB := Aside0.mk (below_step bB hb); clear hb hbox hg) | ((with_reducible refine gate_dst (N := 3) rfl ?_); refine box_ (cs := #[.int .i64 a1_0, .int .i64 a1_1, .bool a1_2, .bool a1_3]) (t := 27) fun e5 hg w5 hbox hb => ?_; have a7 := Aside0.mk (hbox); have e6 := bS HB hg; have e7 := bS HB hg; have a8 := bL a6 hg; have a9 := bM a6 hg; replace a6 := bQ a6 hb; replace HB := Aside0.mk (below_step bB hb); clear hb hbox hg; have g5 := a8.out; have g6 := a9.out; obtain ⟨c3, c4, c5, c6⟩ := cf2 a6; obtain ⟨c7, c8, c9, d0, d1, d2, d3, d4⟩ := cf4 a7) | (go_at_call 33; (with_reducible refine (impl_toCorner.calls a0_0 a0_1 a1_0 a1_1 a1_2 a1_3 d5 d6 d7 d8 d9 e0 e1 _ A3.out).mono ?_); rintro e w9 ⟨rfl, hb⟩; replace a6 := bQ a6 hb; replace a7 := bQ a7 hb; replace HB := Aside0.mk (below_step bB hb); (try clear hb)) | ((with_reducible refine gate_dst (N := 8) rfl ?_); refine box_ (cs := #[.int .i64 0, .int .i64 0, .bool false, .bool false]) (t := 27) fun e8 hg g7 hbox hb => ?_; have b4 := Aside0.mk (hbox); have e9 := bS HB hg; have g0 := bS HB hg; have b0 := bL a6 hg; have b1 := bM a6 hg; have b2 := bL a7 hg; have b3 := bM a7 hg; replace a6 := bQ a6 hb; replace a7 := bQ a7 hb; replace HB := Aside0.mk (below_step bB hb); clear hb hbox hg; have g1 := b1.out; have g2 := b0.out; have g3 := b3.out; have g4 := b2.out; obtain ⟨b5, b6, b7, b8, b9, c0, c1, c2⟩ := cf4 b4))
 repeat (go_quiet (first | ((with_reducible refine gate_dst (N := 2) rfl ?_); refine box_ (cs := #[.int .i64 a0_0, .int .i64 a0_1]) (t := 25) fun e2 hg w4 hbox hb => ?_; have a6 := Aside0.mk (hbox); have e3 := bS HB hg; have e4 := bS HB hg; replace HB := Aside0.mk (below_step bB hb); clear hb hbox hg) | ((with_reducible refine gate_dst (N := 3) rfl ?_); refine box_ (cs := #[.int .i64 a1_0, .int .i64 a1_1, .bool a1_2, .bool a1_3]) (t := 27) fun e5 hg w5 hbox hb => ?_; have a7 := Aside0.mk (hbox); have e6 := bS HB hg; have e7 := bS HB hg; have a8 := bL a6 hg; have a9 := bM a6 hg; replace a6 := bQ a6 hb; replace HB := Aside0.mk (below_step bB hb); clear hb hbox hg; have g5 := a8.out; have g6 := a9.out; obtain ⟨c3, c4, c5, c6⟩ := cf2 a6; obtain ⟨c7, c8, c9, d0, d1, d2, d3, d4⟩ := cf4 a7) | (go_at_call 33; (with_reducible refine (impl_toCorner.calls a0_0 a0_1 a1_0 a1_1 a1_2 a1_3 d5 d6 d7 d8 d9 e0 e1 _ A3.out).mono ?_); rintro e w9 ⟨rfl, hb⟩; replace a6 := bQ a6 hb; replace a7 := bQ a7 hb; replace HB := Aside0.mk (below_step bB hb); (try clear hb)) | ((with_reducible refine gate_dst (N := 8) rfl ?_); refine box_ (cs := #[.int .i64 0, .int .i64 0, .bool false, .bool false]) (t := 27) fun e8 hg g7 hbox hb => ?_; have b4 := Aside0.mk (hbox); have e9 := bS HB hg; have g0 := bS HB hg; have b0 := bL a6 hg; have b1 := bM a6 hg; have b2 := bL a7 hg; have b3 := bM a7 hg; replace a6 := bQ a6 hb; replace a7 := bQ a7 hb; replace HB := Aside0.mk (below_step bB hb); clear hb hbox hg; have g1 := b1.out; have g2 := b0.out; have g3 := b3.out; have g4 := b2.out; obtain ⟨b5, b6, b7, b8, b9, c0, c1, c2⟩ := cf4 b4)); try go_wp2_with (first | ((with_reducible refine gate_dst (N := 2) rfl ?_); refine box_ (cs := #[.int .i64 a0_0, .int .i64 a0_1]) (t := 25) fun e2 hg w4 hbox hb => ?_; have a6 := Aside0.mk (hbox); have e3 := bS HB hg; have e4 := bS HB hg; replace HB := Aside0.mk (below_step bB hb); clear hb hbox hg) | ((with_reducible refine gate_dst (N := 3) rfl ?_); refine box_ (cs := #[.int .i64 a1_0, .int .i64 a1_1, .bool a1_2, .bool a1_3]) (t := 27) fun e5 hg w5 hbox hb => ?_; have a7 := Aside0.mk (hbox); have e6 := bS HB hg; have e7 := bS HB hg; have a8 := bL a6 hg; have a9 := bM a6 hg; replace a6 := bQ a6 hb; replace HB := Aside0.mk (below_step bB hb); clear hb hbox hg; have g5 := a8.out; have g6 := a9.out; obtain ⟨c3, c4, c5, c6⟩ := cf2 a6; obtain ⟨c7, c8, c9, d0, d1, d2, d3, d4⟩ := cf4 a7) | (go_at_call 33; (with_reducible refine (impl_toCorner.calls a0_0 a0_1 a1_0 a1_1 a1_2 a1_3 d5 d6 d7 d8 d9 e0 e1 _ A3.out).mono ?_); rintro e w9 ⟨rfl, hb⟩; replace a6 := bQ a6 hb; replace a7 := bQ a7 hb; replace HB := Aside0.mk (below_step bB hb); (try clear hb)) | ((with_reducible refine gate_dst (N := 8) rfl ?_); refine box_ (cs := #[.int .i64 0, .int .i64 0, .bool false, .bool false]) (t := 27) fun e8 hg g7 hbox hb => ?_; have b4 := Aside0.mk (hbox); have e9 := bS HB hg; have g0 := bS HB hg; have b0 := bL a6 hg; have b1 := bM a6 hg; have b2 := bL a7 hg; have b3 := bM a7 hg; replace a6 := bQ a6 hb; replace a7 := bQ a7 hb; replace HB := Aside0.mk (below_step bB hb); clear hb hbox hg; have g1 := b1.out; have g2 := b0.out; have g3 := b3.out; have g4 := b2.out; obtain ⟨b5, b6, b7, b8, b9, c0, c1, c2⟩ := cf4 b4)))
 go_ret3
 exact ⟨sE, bI⟩

/-! ### spec_CornerOf: function 9 -/
def spec_CornerOf.f (k : Nat) (a0_0 : Int) (a0_1 : Int) (a1_0 : Int) (a1_1 : Int) (a1_2 : Bool) (a1_3 : Bool) : Option (Int × Int × Bool) := (spec_beGood.f a0_0 a0_1 a1_0 a1_1 a1_2 a1_3).bind fun t355 => (if t355 = true then ((spec_beEnd.f k a0_0 a0_1 a1_0 a1_1 a1_2 a1_3).bind fun bt356 => (if bt356.2.2 = true then (if 0 ≤ (wrap64 ((bt356.1.length : Int) - 1)) then (if (wrap64 ((bt356.1.length : Int) - 1)) < (bt356.1.length : Int) then (some ((rd_T27 bt356.1 (wrap64 ((bt356.1.length : Int) - 1))).f0, (rd_T27 bt356.1 (wrap64 ((bt356.1.length : Int) - 1))).f1, true)) else (none)) else (none)) else (some (0, 0, false)))) else (some (0, 0, false)))
theorem spec_CornerOf.mono : ∀ a0 a1 a2 a3 a4 a5 k, LeO (spec_CornerOf.f k a0 a1 a2 a3 a4 a5) (spec_CornerOf.f (k + 1) a0 a1 a2 a3 a4 a5) := by
  intro a0 a1 a2 a3 a4 a5 k
  unfold spec_CornerOf.f
  repeat' first
      | (with_reducible exact spec_beEnd.mono _ _ _ _ _ _ _)
      | (with_reducible exact LeO.refl _)
      | (with_reducible exact LeO.none _)
      | (with_reducible refine LeO.ite ?_ ?_)
      | (with_reducible refine LeO.bind ?_ (fun _ => ?_))
      | exact spec_beEnd.mono _ _ _ _ _ _ _
      | exact LeO.none _
      | refine LeO.ite ?_ ?_
      | refine LeO.bind ?_ (fun _ => ?_)
set_option maxHeartbeats 8000000 in
set_option maxRecDepth 100000 in
theorem spec_CornerOf.calls (k : Nat) (a0_0 : Int) (a0_1 : Int) (a1_0 : Int) (a1_1 : Int) (a1_2 : Bool) (a1_3 : Bool) (r1 : Int) (r2 : Int) (r3 : Bool) (w : World) (h : spec_CornerOf.f k a0_0 a0_1 a1_0 a1_1 a1_2 a1_3 = some (r1, r2, r3)) :
    Calls Tryz.prog 9 #[.agg #[.int .i64 a0_0, .int .i64 a0_1], .agg #[.int .i64 a1_0, .int .i64 a1_1, .bool a1_2, .bool a1_3]] w fun e w' => e = .returned (.tuple #[.int .i64 r1, .int .i64 r2, .bool r3]) ∧ Below w.heap.size w w' := by
 have p0 := Tryz.underlying25
 have p1 := Tryz.underlying27
 have HB := Aside0.mk (Below.refl w.heap.size w)
 have H := h
 unfold spec_CornerOf.f at H
 clear h
 obtain ⟨o7, A3, H⟩ := bD H
 try dsimp only at H
 by_cases c4 : o7 = true
 ·(
 subst c4
 rw [if_pos rfl] at H
 obtain ⟨⟨b2, d2, o8⟩, A5, H⟩ := bD H
 try dsimp only at H
 by_cases c6 : o8 = true
 ·(
 subst c6
 rw [if_pos rfl] at H
 obtain ⟨c0, d3⟩ : ∃ j_ : Int, (wrap64 ((b2.length : Int) - 1)) = j_ := ⟨_, rfl⟩
 (first | rw [d3] at H | simp only [d3] at H)
 (try rw [d3] at A3)
 (try rw [d3] at A5)
 have o9 : (IntKind.i64.wrap ((b2.length : Int) - 1)) = c0 := (i64_w _).trans d3
 by_cases c8 : 0 ≤ (c0)
 ·(
 rw [if_pos c8] at H
 have p2 : decide (0 ≤ (c0)) = true := decide_eq_true c8
 clear c8
 by_cases c9 : (c0) < (b2.length : Int)
 ·(
 rw [if_pos c9] at H
 have p3 : decide ((c0) < (b2.length : Int)) = true := decide_eq_true c9
 clear c9
 simp only [Option.some.injEq, Prod.mk.injEq] at H
 obtain ⟨rfl, rfl, rfl⟩ := H
 go_enter Tryz.func9, Tryz.ntmps9
 go_wp2_with (first | ((with_reducible refine gate_dst (N := 2) rfl ?_); refine box_ (cs := #[.int .i64 a0_0, .int .i64 a0_1]) (t := 25) fun c1 hg n5 hbox hb => ?_; have a6 := Aside0.mk (hbox); have c2 := bS HB hg; have c3 := bS HB hg; replace HB := Aside0.mk (below_step bB hb); clear hb hbox hg) | ((with_reducible refine gate_dst (N := 3) rfl ?_); refine box_ (cs := #[.int .i64 a1_0, .int .i64 a1_1, .bool a1_2, .bool a1_3]) (t := 27) fun b1 hg n6 hbox hb => ?_; have a7 := Aside0.mk (hbox); have c5 := bS HB hg; have c7 := bS HB hg; have a8 := bL a6 hg; have a9 := bM a6 hg; replace a6 := bQ a6 hb; replace HB := Aside0.mk (below_step bB hb); clear hb hbox hg; have m0 := a8.out; have m1 := a9.out; obtain ⟨d7, d8, d9, e0⟩ := cf2 a6; obtain ⟨e1, e2, e3, e4, e5, e6, e7, e8⟩ := cf4 a7) | (go_at_call 34; (with_reducible refine (spec_beGood.calls a0_0 a0_1 a1_0 a1_1 a1_2 a1_3 true _ A3.out).mono ?_); rintro e n7 ⟨rfl, hb⟩; replace a6 := bQ a6 hb; replace a7 := bQ a7 hb; replace HB := Aside0.mk (below_step bB hb); (try clear hb); obtain ⟨e9, g0, g1, g2⟩ := cf2 a6; obtain ⟨g3, g4, g5, g6, g7, g8, g9, h0⟩ := cf4 a7) | (go_at_call 35; (with_reducible refine (spec_beEnd.calls k a0_0 a0_1 a1_0 a1_1 a1_2 a1_3 b2 d2 true _ A5.out).mono ?_); rintro e n8 ⟨d4, rfl, b3, hb⟩; have b0 := Aside0.mk (Kd.R_lower (Kd.R_newB b3 (g := b1) (o := .cells #[.int .i64 a1_0, .int .i64 a1_1, .bool a1_2, .bool a1_3] 27 (0, 0)) (bK a7)) (below_size bB)); replace a6 := bQ a6 hb; replace a7 := bQ a7 hb; replace HB := Aside0.mk (below_step bB hb); (try clear hb); (try clear b3); obtain ⟨n3, n4, d5⟩ := Kd.R_slice b0.out; subst d5; have b8 : 0 ≤ ((c0) : Int) := of_decide_eq_true asm; have b9 : (c0) < (b2.length : Int) := of_decide_eq_true asm; obtain ⟨m2, d6, h1, h2, h3, h4⟩ := at_T27 (Kd.R_reads' b0.out).2.2 (c0) b8 b9; cases d6; replace b8 := eq_true b8; replace b9 := eq_true b9) | ((with_reducible refine gate_dst (N := 10) rfl ?_); refine box_ (cs := #[.int .i64 0, .int .i64 0, .bool false, .bool false]) (t := 27) fun d0 hg n9 hbox hb => ?_; have d1 := Aside0.mk (hbox); have m3 := bS HB hg; have m4 := bS HB hg; have b4 := bL a6 hg; have b5 := bM a6 hg; have b6 := bL a7 hg; have b7 := bM a7 hg; replace b0 := Aside0.mk (Kd.R_below (Kd.R_elderB (oR b0) d0 (Nat.le_of_eq hg.symm)) hb); replace a6 := bQ a6 hb; replace a7 := bQ a7 hb; replace HB := Aside0.mk (below_step bB hb); clear hb hbox hg; have m5 := b5.out; have m6 := b4.out; have m7 := b7.out; have m8 := b6.out; obtain ⟨h5, h6, h7, h8, h9, i0, i1, i2⟩ := cf4 d1))
 repeat (go_quiet (first | ((with_reducible refine gate_dst (N := 2) rfl ?_); refine box_ (cs := #[.int .i64 a0_0, .int .i64 a0_1]) (t := 25) fun c1 hg n5 hbox hb => ?_; have a6 := Aside0.mk (hbox); have c2 := bS HB hg; have c3 := bS HB hg; replace HB := Aside0.mk (below_step bB hb); clear hb hbox hg) | ((with_reducible refine gate_dst (N := 3) rfl ?_); refine box_ (cs := #[.int .i64 a1_0, .int .i64 a1_1, .bool a1_2, .bool a1_3]) (t := 27) fun b1 hg n6 hbox hb => ?_; have a7 := Aside0.mk (hbox); have c5 := bS HB hg; have c7 := bS HB hg; have a8 := bL a6 hg; have a9 := bM a6 hg; replace a6 := bQ a6 hb; replace HB := Aside0.mk (below_step bB hb); clear hb hbox hg; have m0 := a8.out; have m1 := a9.out; obtain ⟨d7, d8, d9, e0⟩ := cf2 a6; obtain ⟨e1, e2, e3, e4, e5, e6, e7, e8⟩ := cf4 a7) | (go_at_call 34; (with_reducible refine (spec_beGood.calls a0_0 a0_1 a1_0 a1_1 a1_2 a1_3 true _ A3.out).mono ?_); rintro e n7 ⟨rfl, hb⟩; replace a6 := bQ a6 hb; replace a7 := bQ a7 hb; replace HB := Aside0.mk (below_step bB hb); (try clear hb); obtain ⟨e9, g0, g1, g2⟩ := cf2 a6; obtain ⟨g3, g4, g5, g6, g7, g8, g9, h0⟩ := cf4 a7) | (go_at_call 35; (with_reducible refine (spec_beEnd.calls k a0_0 a0_1 a1_0 a1_1 a1_2 a1_3 b2 d2 true _ A5.out).mono ?_); rintro e n8 ⟨d4, rfl, b3, hb⟩; have b0 := Aside0.mk (Kd.R_lower (Kd.R_newB b3 (g := b1) (o := .cells #[.int .i64 a1_0, .int .i64 a1_1, .bool a1_2, .bool a1_3] 27 (0, 0)) (bK a7)) (below_size bB)); replace a6 := bQ a6 hb; replace a7 := bQ a7 hb; replace HB := Aside0.mk (below_step bB hb); (try clear hb); (try clear b3); obtain ⟨n3, n4, d5⟩ := Kd.R_slice b0.out; subst d5; have b8 : 0 ≤ ((c0) : Int) := of_decide_eq_true asm; have b9 : (c0) < (b2.length : Int) := of_decide_eq_true asm; obtain ⟨m2, d6, h1, h2, h3, h4⟩ := at_T27 (Kd.R_reads' b0.out).2.2 (c0) b8 b9; cases d6; replace b8 := eq_true b8; replace b9 := eq_true b9) | ((with_reducible refine gate_dst (N := 10) rfl ?_); refine box_ (cs := #[.int .i64 0, .int .i64 0, .bool false, .bool false]) (t := 27) fun d0 hg n9 hbox hb => ?_; have d1 := Aside0.mk (hbox); have m3 := bS HB hg; have m4 := bS HB hg; have b4 := bL a6 hg; have b5 := bM a6 hg; have b6 := bL a7 hg; have b7 := bM a7 hg; replace b0 := Aside0.mk (Kd.R_below (Kd.R_elderB (oR b0) d0 (Nat.le_of_eq hg.symm)) hb); replace a6 := bQ a6 hb; replace a7 := bQ a7 hb; replace HB := Aside0.mk (below_step bB hb); clear hb hbox hg; have m5 := b5.out; have m6 := b4.out; have m7 := b7.out; have m8 := b6.out; obtain ⟨h5, h6, h7, h8, h9, i0, i1, i2⟩ := cf4 d1)); try go_wp2_with (first | ((with_reducible refine gate_dst (N := 2) rfl ?_); refine box_ (cs := #[.int .i64 a0_0, .int .i64 a0_1]) (t := 25) fun c1 hg n5 hbox hb => ?_; have a6 := Aside0.mk (hbox); have c2 := bS HB hg; have c3 := bS HB hg; replace HB := Aside0.mk (below_step bB hb); clear hb hbox hg) | ((with_reducible refine gate_dst (N := 3) rfl ?_); refine box_ (cs := #[.int .i64 a1_0, .int .i64 a1_1, .bool a1_2, .bool a1_3]) (t := 27) fun b1 hg n6 hbox hb => ?_; have a7 := Aside0.mk (hbox); have c5 := bS HB hg; have c7 := bS HB hg; have a8 := bL a6 hg; have a9 := bM a6 hg; replace a6 := bQ a6 hb; replace HB := Aside0.mk (below_step bB hb); clear hb hbox hg; have m0 := a8.out; have m1 := a9.out; obtain ⟨d7, d8, d9, e0⟩ := cf2 a6; obtain ⟨e1, e2, e3, e4, e5, e6, e7, e8⟩ := cf4 a7) | (go_at_call 34; (with_reducible refine (spec_beGood.calls a0_0 a0_1 a1_0 a1_1 a1_2 a1_3 true _ A3.out).mono ?_); rintro e n7 ⟨rfl, hb⟩; replace a6 := bQ a6 hb; replace a7 := bQ a7 hb; replace HB := Aside0.mk (below_step bB hb); (try clear hb); obtain ⟨e9, g0, g1, g2⟩ := cf2 a6; obtain ⟨g3, g4, g5, g6, g7, g8, g9, h0⟩ := cf4 a7) | (go_at_call 35; (with_reducible refine (spec_beEnd.calls k a0_0 a0_1 a1_0 a1_1 a1_2 a1_3 b2 d2 true _ A5.out).mono ?_); rintro e n8 ⟨d4, rfl, b3, hb⟩; have b0 := Aside0.mk (Kd.R_lower (Kd.R_newB b3 (g := b1) (o := .cells #[.int .i64 a1_0, .int .i64 a1_1, .bool a1_2, .bool a1_3] 27 (0, 0)) (bK a7)) (below_size bB)); replace a6 := bQ a6 hb; replace a7 := bQ a7 hb; replace HB := Aside0.mk (below_step bB hb); (try clear hb); (try clear b3); obtain ⟨n3, n4, d5⟩ := Kd.R_slice b0.out; subst d5; have b8 : 0 ≤ ((c0) : Int) := of_decide_eq_true asm; have b9 : (c0) < (b2.length : Int) := of_decide_eq_true asm; obtain ⟨m2, d6, h1, h2, h3, h4⟩ := at_T27 (Kd.R_reads' b0.out).2.2 (c0) b8 b9; cases d6; replace b8 := eq_true b8; replace b9 := eq_true b9) | ((with_reducible refine gate_dst (N := 10) rfl ?_); refine box_ (cs := #[.int .i64 0, .int .i64 0, .bool false, .bool false]) (t := 27) fun d0 hg n9 hbox hb => ?_; have d1 := Aside0.mk (hbox); have m3 := bS HB hg; have m4 := bS HB hg; have b4 := bL a6 hg; have b5 := bM a6 hg; have b6 := bL a7 hg; have b7 := bM a7 hg; replace b0 := Aside0.mk (Kd.R_below (Kd.R_elderB (oR b0) d0 (Nat.le_of_eq hg.symm)) hb); replace a6 := bQ a6 hb; replace a7 := bQ a7 hb; replace HB := Aside0.mk (below_step bB hb); clear hb hbox hg; have m5 := b5.out; have m6 := b4.out; have m7 := b7.out; have m8 := b6.out; obtain ⟨h5, h6, h7, h8, h9, i0, i1, i2⟩ := cf4 d1)))
 go_ret3
 exact ⟨by first | rfl | (simp [errW_none, errW_some] <;> rfl) | (simp only [← d3]; first | rfl | (simp [errW_none, errW_some] <;> rfl)) | (simp [*, errW_none, errW_some] <;> rfl), bI⟩
 )
 ·(
 rw [if_neg c9] at H
 exact absurd H (by simp)
 )
 )
 ·(
 rw [if_neg c8] at H
 exact absurd H (by simp)
 )
 )
 ·(
 replace c6 := Bool.eq_false_iff.mpr c6
 subst c6
 rw [if_neg nft] at H
 simp only [Option.some.injEq, Prod.mk.injEq] at H
 obtain ⟨rfl, rfl, rfl⟩ := H
 go_enter Tryz.func9, Tryz.ntmps9
 go_wp2_with (first | ((with_reducible refine gate_dst (N := 2) rfl ?_); refine box_ (cs := #[.int .i64 a0_0, .int .i64 a0_1]) (t := 25) fun c1 hg o0 hbox hb => ?_; have a6 := Aside0.mk (hbox); have c2 := bS HB hg; have c3 := bS HB hg; replace HB := Aside0.mk (below_step bB hb); clear hb hbox hg) | ((with_reducible refine gate_dst (N := 3) rfl ?_); refine box_ (cs := #[.int .i64 a1_0, .int .i64 a1_1, .bool a1_2, .bool a1_3]) (t := 27) fun b1 hg o1 hbox hb => ?_; have a7 := Aside0.mk (hbox); have c5 := bS HB hg; have c7 := bS HB hg; have a8 := bL a6 hg; have a9 := bM a6 hg; replace a6 := bQ a6 hb; replace HB := Aside0.mk (below_step bB hb); clear hb hbox hg; have m9 := a8.out; have n0 := a9.out; obtain ⟨i3, i4, i5, i6⟩ := cf2 a6; obtain ⟨i7, i9, j0, j1, j2, j3, j4, j5⟩ := cf4 a7) | (go_at_call 34; (with_reducible refine (spec_beGood.calls a0_0 a0_1 a1_0 a1_1 a1_2 a1_3 true _ A3.out).mono ?_); rintro e o2 ⟨rfl, hb⟩; replace a6 := bQ a6 hb; replace a7 := bQ a7 hb; replace HB := Aside0.mk (below_step bB hb); (try clear hb); obtain ⟨j6, j7, j8, j9⟩ := cf2 a6; obtain ⟨k0, k1, k2, k3, k4, k5, k6, k7⟩ := cf4 a7) | (go_at_call 35; (with_reducible refine (spec_beEnd.calls k a0_0 a0_1 a1_0 a1_1 a1_2 a1_3 b2 d2 false _ A5.out).mono ?_); rintro e o3 ⟨d4, rfl, b3, hb⟩; have b0 := Aside0.mk (Kd.R_lower (Kd.R_newB b3 (g := b1) (o := .cells #[.int .i64 a1_0, .int .i64 a1_1, .bool a1_2, .bool a1_3] 27 (0, 0)) (bK a7)) (below_size bB)); replace a6 := bQ a6 hb; replace a7 := bQ a7 hb; replace HB := Aside0.mk (below_step bB hb); (try clear hb); (try clear b3)))
 repeat (go_quiet (first | ((with_reducible refine gate_dst (N := 2) rfl ?_); refine box_ (cs := #[.int .i64 a0_0, .int .i64 a0_1]) (t := 25) fun c1 hg o0 hbox hb => ?_; have a6 := Aside0.mk (hbox); have c2 := bS HB hg; have c3 := bS HB hg; replace HB := Aside0.mk (below_step bB hb); clear hb hbox hg) | ((with_reducible refine gate_dst (N := 3) rfl ?_); refine box_ (cs := #[.int .i64 a1_0, .int .i64 a1_1, .bool a1_2, .bool a1_3]) (t := 27) fun b1 hg o1 hbox hb => ?_; have a7 := Aside0.mk (hbox); have c5 := bS HB hg; have c7 := bS HB hg; have a8 := bL a6 hg; have a9 := bM a6 hg; replace a6 := bQ a6 hb; replace HB := Aside0.mk (below_step bB hb); clear hb hbox hg; have m9 := a8.out; have n0 := a9.out; obtain ⟨i3, i4, i5, i6⟩ := cf2 a6; obtain ⟨i7, i9, j0, j1, j2, j3, j4, j5⟩ := cf4 a7) | (go_at_call 34; (with_reducible refine (spec_beGood.calls a0_0 a0_1 a1_0 a1_1 a1_2 a1_3 true _ A3.out).mono ?_); rintro e o2 ⟨rfl, hb⟩; replace a6 := bQ a6 hb; replace a7 := bQ a7 hb; replace HB := Aside0.mk (below_step bB hb); (try clear hb); obtain ⟨j6, j7, j8, j9⟩ := cf2 a6; obtain ⟨k0, k1, k2, k3, k4, k5, k6, k7⟩ := cf4 a7) | (go_at_call 35; (with_reducible refine (spec_beEnd.calls k a0_0 a0_1 a1_0 a1_1 a1_2 a1_3 b2 d2 false _ A5.out).mono ?_); rintro e o3 ⟨d4, rfl, b3, hb⟩; have b0 := Aside0.mk (Kd.R_lower (Kd.R_newB b3 (g := b1) (o := .cells #[.int .i64 a1_0, .int .i64 a1_1, .bool a1_2, .bool a1_3] 27 (0, 0)) (bK a7)) (below_size bB)); replace a6 := bQ a6 hb; replace a7 := bQ a7 hb; replace HB := Aside0.mk (below_step bB hb); (try clear hb); (try clear b3))); try go_wp2_with (first | ((with_reducible refine gate_dst (N := 2) rfl ?_); refine box_ (cs := #[.int .i64 a0_0, .int .i64 a0_1]) (t := 25) fun c1 hg o0 hbox hb => ?_; have a6 := Aside0.mk (hbox); have c2 := bS HB hg; have c3 := bS HB hg; replace HB := Aside0.mk (below_step bB hb); clear hb hbox hg) | ((with_reducible refine gate_dst (N := 3) rfl ?_); refine box_ (cs := #[.int .i64 a1_0, .int .i64 a1_1, .bool a1_2, .bool a1_3]) (t := 27) fun b1 hg o1 hbox hb => ?_; have a7 := Aside0.mk (hbox); have c5 := bS HB hg; have c7 := bS HB hg; have a8 := bL a6 hg; have a9 := bM a6 hg; replace a6 := bQ a6 hb; replace HB := Aside0.mk (below_step bB hb); clear hb hbox hg; have m9 := a8.out; have n0 := a9.out; obtain ⟨i3, i4, i5, i6⟩ := cf2 a6; obtain ⟨i7, i9, j0, j1, j2, j3, j4, j5⟩ := cf4 a7) | (go_at_call 34; (with_reducible refine (spec_beGood.calls a0_0 a0_1 a1_0 a1_1 a1_2 a1_3 true _ A3.out).mono ?_); rintro e o2 ⟨rfl, hb⟩; replace a6 := bQ a6 hb; replace a7 := bQ a7 hb; replace HB := Aside0.mk (below_step bB hb); (try clear hb); obtain ⟨j6, j7, j8, j9⟩ := cf2 a6; obtain ⟨k0, k1, k2, k3, k4, k5, k6, k7⟩ := cf4 a7) | (go_at_call 35; (with_reducible refine (spec_beEnd.calls k a0_0 a0_1 a1_0 a1_1 a1_2 a1_3 b2 d2 false _ A5.out).mono ?_); rintro e o3 ⟨d4, rfl, b3, hb⟩; have b0 := Aside0.mk (Kd.R_lower (Kd.R_newB b3 (g := b1) (o := .cells #[.int .i64 a1_0, .int .i64 a1_1, .bool a1_2, .bool a1_3] 27 (0, 0)) (bK a7)) (below_size bB)); replace a6 := bQ a6 hb; replace a7 := bQ a7 hb; replace HB := Aside0.mk (below_step bB hb); (try clear hb); (try clear b3))))
 go_ret3
 exact ⟨sE, bI⟩
 )
 )
 ·(
 replace c4 := Bool.eq_false_iff.mpr c4
 subst c4
 rw [if_neg nft] at H
 simp only [Option.some.injEq, Prod.mk.injEq] at H
 obtain ⟨rfl, rfl, rfl⟩ := H
 go_enter Tryz.func9, Tryz.ntmps9
 go_wp2_with (first | ((with_reducible refine gate_dst (N := 2) rfl ?_); refine box_ (cs := #[.int .i64 a0_0, .int .i64 a0_1]) (t := 25) fun c1 hg o4 hbox hb => ?_; have a6 := Aside0.mk (hbox); have c2 := bS HB hg; have c3 := bS HB hg; replace HB := Aside0.mk (below_step bB hb); clear hb hbox hg) | ((with_reducible refine gate_dst (N := 3) rfl ?_); refine box_ (cs := #[.int .i64 a1_0, .int .i64 a1_1, .bool a1_2, .bool a1_3]) (t := 27) fun b1 hg o5 hbox hb => ?_; have a7 := Aside0.mk (hbox); have c5 := bS HB hg; have c7 := bS HB hg; have a8 := bL a6 hg; have a9 := bM a6 hg; replace a6 := bQ a6 hb; replace HB := Aside0.mk (below_step bB hb); clear hb hbox hg; have n1 := a8.out; have n2 := a9.out; obtain ⟨k8, k9, l0, l1⟩ := cf2 a6; obtain ⟨l2, l3, l4, l5, l6, l7, l8, l9⟩ := cf4 a7) | (go_at_call 34; (with_reducible refine (spec_beGood.calls a0_0 a0_1 a1_0 a1_1 a1_2 a1_3 false _ A3.out).mono ?_); rintro e o6 ⟨rfl, hb⟩; replace a6 := bQ a6 hb; replace a7 := bQ a7 hb; replace HB := Aside0.mk (below_step bB hb); (try clear hb)))
 repeat (go_quiet (first | ((with_reducible refine gate_dst (N := 2) rfl ?_); refine box_ (cs := #[.int .i64 a0_0, .int .i64 a0_1]) (t := 25) fun c1 hg o4 hbox hb => ?_; have a6 := Aside0.mk (hbox); have c2 := bS HB hg; have c3 := bS HB hg; replace HB := Aside0.mk (below_step bB hb); clear hb hbox hg) | ((with_reducible refine gate_dst (N := 3) rfl ?_); refine box_ (cs := #[.int .i64 a1_0, .int .i64 a1_1, .bool a1_2, .bool a1_3]) (t := 27) fun b1 hg o5 hbox hb => ?_; have a7 := Aside0.mk (hbox); have c5 := bS HB hg; have c7 := bS HB hg; have a8 := bL a6 hg; have a9 := bM a6 hg; replace a6 := bQ a6 hb; replace HB := Aside0.mk (below_step bB hb); clear hb hbox hg; have n1 := a8.out; have n2 := a9.out; obtain ⟨k8, k9, l0, l1⟩ := cf2 a6; obtain ⟨l2, l3, l4, l5, l6, l7, l8, l9⟩ := cf4 a7) | (go_at_call 34; (with_reducible refine (spec_beGood.calls a0_0 a0_1 a1_0 a1_1 a1_2 a1_3 false _ A3.out).mono ?_); rintro e o6 ⟨rfl, hb⟩; replace a6 := bQ a6 hb; replace a7 := bQ a7 hb; replace HB := Aside0.mk (below_step bB hb); (try clear hb))); try go_wp2_with (first | ((with_reducible refine gate_dst (N := 2) rfl ?_); refine box_ (cs := #[.int .i64 a0_0, .int .i64 a0_1]) (t := 25) fun c1 hg o4 hbox hb => ?_; have a6 := Aside0.mk (hbox); have c2 := bS HB hg; have c3 := bS HB hg; replace HB := Aside0.mk (below_step bB hb); clear hb hbox hg) | ((with_reducible refine gate_dst (N := 3) rfl ?_); refine box_ (cs := #[.int .i64 a1_0, .int .i64 a1_1, .bool a1_2, .bool a1_3]) (t := 27) fun b1 hg o5 hbox hb => ?_; have a7 := Aside0.mk (hbox); have c5 := bS HB hg; have c7 := bS HB hg; have a8 := bL a6 hg; have a9 := bM a6 hg; replace a6 := bQ a6 hb; replace HB := Aside0.mk (below_step bB hb); clear hb hbox hg; have n1 := a8.out; have n2 := a9.out; obtain ⟨k8, k9, l0, l1⟩ := cf2 a6; obtain ⟨l2, l3, l4, l5, l6, l7, l8, l9⟩ := cf4 a7) | (go_at_call 34; (with_reducible refine (spec_beGood.calls a0_0 a0_1 a1_0 a1_1 a1_2 a1_3 false _ A3.out).mono ?_); rintro e o6 ⟨rfl, hb⟩; replace a6 := bQ a6 hb; replace a7 := bQ a7 hb; replace HB := Aside0.mk (below_step bB hb); (try clear hb))))
 go_ret3
 exact ⟨sE, bI⟩
 )

/-! ### impl_BouncesToCorner: function 10 -/
def impl_BouncesToCorner.f (a0_0 : Int) (a0_1 : Int) (a1_0 : Int) (a1_1 : Int) (a1_2 : Bool) (a1_3 : Bool) : Option (Int × Bool) := (impl_toCorner.f a0_0 a0_1 a1_0 a1_1 a1_2 a1_3).bind fun bt365 => (if bt365.2.2.2.2.2.2 = true then (some ((bt365.2.2.2.2.2.1.size : Int), true)) else (some (0, false)))
set_option maxHeartbeats 8000000 in
set_option maxRecDepth 100000 in
theorem impl_BouncesToCorner.calls (a0_0 : Int) (a0_1 : Int) (a1_0 : Int) (a1_1 : Int) (a1_2 : Bool) (a1_3 : Bool) (r1 : Int) (r2 : Bool) (w : World) (h : impl_BouncesToCorner.f a0_0 a0_1 a1_0 a1_1 a1_2 a1_3 = some (r1, r2)) :
    Calls Tryz.prog 10 #[.agg #[.int .i64 a0_0, .int .i64 a0_1], .agg #[.int .i64 a1_0, .int .i64 a1_1, .bool a1_2, .bool a1_3]] w fun e w' => e = .returned (.tuple #[.int .i64 r1, .bool r2]) ∧ Below w.heap.size w w' := by
 have g0 := Tryz.underlying25
 have g1 := Tryz.underlying27
 have HB := Aside0.mk (Below.refl w.heap.size w)
 have H := h
 unfold impl_BouncesToCorner.f at H
 clear h
 obtain ⟨⟨b4, b5, b6, b7, b8, b9, c0⟩, A3, H⟩ := bD H
 try dsimp only at H
 by_cases c4 : c0 = true
 subst c4
 rw [if_pos rfl] at H
 simp only [Option.some.injEq, Prod.mk.injEq] at H
 obtain ⟨rfl, rfl⟩ := H
 rotate_left
 replace c4 := Bool.eq_false_iff.mpr c4
 subst c4
 rw [if_neg nft] at H
 simp only [Option.some.injEq, Prod.mk.injEq] at H
 obtain ⟨rfl, rfl⟩ := H
 rotate_left
 all_goals (go_enter Tryz.func10, Tryz.ntmps10)
 all_goals (go_wp2_with (first | ((with_reducible refine gate_dst (N := 2) rfl ?_); refine box_ (cs := #[.int .i64 a0_0, .int .i64 a0_1]) (t := 25) fun g2 hg h1 hbox hb => ?_; have a6 := Aside0.mk (hbox); have g3 := bS HB hg; have g4 := bS HB hg; replace HB := Aside0.mk (below_step bB hb); clear hb hbox hg) | ((with_reducible refine gate_dst (N := 3) rfl ?_); refine box_ (cs := #[.int .i64 a1_0, .int .i64 a1_1, .bool a1_2, .bool a1_3]) (t := 27) fun g5 hg h2 hbox hb => ?_; have a7 := Aside0.mk (hbox); have g6 := bS HB hg; have g7 := bS HB hg; have a8 := bL a6 hg; have a9 := bM a6 hg; replace a6 := bQ a6 hb; replace HB := Aside0.mk (below_step bB hb); clear hb hbox hg; have e4 := a8.out; have e5 := a9.out; obtain ⟨c2, c3, c5, c6⟩ := cf2 a6; obtain ⟨c7, c8, c9, d0, d1, d2, d3, d4⟩ := cf4 a7) | ((with_reducible refine gate_callee (f := 33) rfl ?_); refine goesL_ (some 13) rfl rfl Tryz.func33 kr rfl #[.agg #[.int .i64 a0_0, .int .i64 a0_1], .agg #[.int .i64 a1_0, .int .i64 a1_1, .bool a1_2, .bool a1_3]] rfl sM ?_; (with_reducible refine (impl_toCorner.calls a0_0 a0_1 a1_0 a1_1 a1_2 a1_3 b4 b5 b6 b7 b8 b9 true _ A3.out).mono ?_); rintro e e3 ⟨rfl, hb⟩; refine ⟨_, rfl, ?_⟩; replace a6 := bQ a6 hb; replace a7 := bQ a7 hb; replace HB := Aside0.mk (below_step bB hb); (try clear hb)) | ((with_reducible refine gate_dst (N := 7) rfl ?_); refine box_ (cs := #[.int .i64 0, .int .i64 0, .bool false, .bool false]) (t := 27) fun g8 hg h3 hbox hb => ?_; have c1 := Aside0.mk (hbox); have g9 := bS HB hg; have h0 := bS HB hg; have b0 := bL a6 hg; have b1 := bM a6 hg; have b2 := bL a7 hg; have b3 := bM a7 hg; replace a6 := bQ a6 hb; replace a7 := bQ a7 hb; replace HB := Aside0.mk (below_step bB hb); clear hb hbox hg; have e6 := b1.out; have e7 := b0.out; have e8 := b3.out; have e9 := b2.out; obtain ⟨d5, d6, d7, d8, d9, e0, e1, e2⟩ := cf4 c1) | ((with_reducible refine gate_callee (f := 33) rfl ?_); refine goesL_ (some 13) rfl rfl Tryz.func33 kr rfl #[.agg #[.int .i64 a0_0, .int .i64 a0_1], .agg #[.int .i64 a1_0, .int .i64 a1_1, .bool a1_2, .bool a1_3]] rfl sM ?_; (with_reducible refine (impl_toCorner.calls a0_0 a0_1 a1_0 a1_1 a1_2 a1_3 b4 b5 b6 b7 b8 b9 false _ A3.out).mono ?_); rintro e e3 ⟨rfl, hb⟩; refine ⟨_, rfl, ?_⟩; replace a6 := bQ a6 hb; replace a7 := bQ a7 hb; replace HB := Aside0.mk (below_step bB hb); (try clear hb))))
 all_goals go_ret2
 all_goals (exact ⟨sE, bI⟩)

/-! ### spec_BouncesToCorner: function 11 -/
def spec_BouncesToCorner.f (k : Nat) (a0_0 : Int) (a0_1 : Int) (a1_0 : Int) (a1_1 : Int) (a1_2 : Bool) (a1_3 : Bool) : Option (Int × Bool) := (spec_beGood.f a0_0 a0_1 a1_0 a1_1 a1_2 a1_3).bind fun t375 => (if t375 = true then ((spec_beEnd.f k a0_0 a0_1 a1_0 a1_1 a1_2 a1_3).bind fun bt376 => (if bt376.2.2 = true then (some ((bt376.2.1.size : Int), true)) else (some (0, false)))) else (some (0, false)))
theorem spec_BouncesToCorner.mono : ∀ a0 a1 a2 a3 a4 a5 k, LeO (spec_BouncesToCorner.f k a0 a1 a2 a3 a4 a5) (spec_BouncesToCorner.f (k + 1) a0 a1 a2 a3 a4 a5) := by
  intro a0 a1 a2 a3 a4 a5 k
  unfold spec_BouncesToCorner.f
  repeat' first
      | (with_reducible exact spec_beEnd.mono _ _ _ _ _ _ _)
      | (with_reducible exact LeO.refl _)
      | (with_reducible exact LeO.none _)
      | (with_reducible refine LeO.ite ?_ ?_)
      | (with_reducible refine LeO.bind ?_ (fun _ => ?_))
      | exact spec_beEnd.mono _ _ _ _ _ _ _
      | exact LeO.none _
      | refine LeO.ite ?_ ?_
      | refine LeO.bind ?_ (fun _ => ?_)
set_option maxHeartbeats 8000000 in
set_option maxRecDepth 100000 in
theorem spec_BouncesToCorner.calls (k : Nat) (a0_0 : Int) (a0_1 : Int) (a1_0 : Int) (a1_1 : Int) (a1_2 : Bool) (a1_3 : Bool) (r1 : Int) (r2 : Bool) (w : World) (h : spec_BouncesToCorner.f k a0_0 a0_1 a1_0 a1_1 a1_2 a1_3 = some (r1, r2)) :
    Calls Tryz.prog 11 #[.agg #[.int .i64 a0_0, .int .i64 a0_1], .agg #[.int .i64 a1_0, .int .i64 a1_1, .bool a1_2, .bool a1_3]] w fun e w' => e = .returned (.tuple #[.int .i64 r1, .bool r2]) ∧ Below w.heap.size w w' := by
 have e8 := Tryz.underlying25
 have e9 := Tryz.underlying27
 have HB := Aside0.mk (Below.refl w.heap.size w)
 have H := h
 unfold spec_BouncesToCorner.f at H
 clear h
 obtain ⟨b4, A3, H⟩ := bD H
 try dsimp only at H
 by_cases c4 : b4 = true
 subst c4
 rw [if_pos rfl] at H
 obtain ⟨⟨b1, b2, b5⟩, A5, H⟩ := bD H
 try dsimp only at H
 by_cases c6 : b5 = true
 subst c6
 rw [if_pos rfl] at H
 simp only [Option.some.injEq, Prod.mk.injEq] at H
 obtain ⟨rfl, rfl⟩ := H
 rotate_left
 replace c6 := Bool.eq_false_iff.mpr c6
 subst c6
 rw [if_neg nft] at H
 simp only [Option.some.injEq, Prod.mk.injEq] at H
 obtain ⟨rfl, rfl⟩ := H
 rotate_left
 replace c4 := Bool.eq_false_iff.mpr c4
 subst c4
 rw [if_neg nft] at H
 simp only [Option.some.injEq, Prod.mk.injEq] at H
 obtain ⟨rfl, rfl⟩ := H
 rotate_left
 all_goals (go_enter Tryz.func11, Tryz.ntmps11)
 all_goals (go_wp2_with (first | ((with_reducible refine gate_dst (N := 2) rfl ?_); refine box_ (cs := #[.int .i64 a0_0, .int .i64 a0_1]) (t := 25) fun g0 hg g5 hbox hb => ?_; have a6 := Aside0.mk (hbox); have g1 := bS HB hg; have g2 := bS HB hg; replace HB := Aside0.mk (below_step bB hb); clear hb hbox hg) | ((with_reducible refine gate_dst (N := 3) rfl ?_); refine box_ (cs := #[.int .i64 a1_0, .int .i64 a1_1, .bool a1_2, .bool a1_3]) (t := 27) fun b3 hg g6 hbox hb => ?_; have a7 := Aside0.mk (hbox); have g3 := bS HB hg; have g4 := bS HB hg; have a9 := bL a6 hg; have b0 := bM a6 hg; replace a6 := bQ a6 hb; replace HB := Aside0.mk (below_step bB hb); clear hb hbox hg; have e6 := a9.out; have e7 := b0.out; obtain ⟨b7, b8, b9, c0⟩ := cf2 a6; obtain ⟨c1, c2, c3, c5, c7, c8, c9, d0⟩ := cf4 a7) | ((with_reducible refine gate_callee (f := 34) rfl ?_); refine goesL_ (some 11) rfl rfl Tryz.func34 kr rfl #[.agg #[.int .i64 a0_0, .int .i64 a0_1], .agg #[.int .i64 a1_0, .int .i64 a1_1, .bool a1_2, .bool a1_3]] rfl sM ?_; (with_reducible refine (spec_beGood.calls a0_0 a0_1 a1_0 a1_1 a1_2 a1_3 true _ A3.out).mono ?_); rintro e e3 ⟨rfl, hb⟩; refine ⟨_, rfl, ?_⟩; replace a6 := bQ a6 hb; replace a7 := bQ a7 hb; replace HB := Aside0.mk (below_step bB hb); (try clear hb); obtain ⟨d1, d2, d3, d4⟩ := cf2 a6; obtain ⟨d5, d6, d7, d8, d9, e0, e1, e2⟩ := cf4 a7) | ((with_reducible refine gate_callee (f := 35) rfl ?_); refine goesL_ (some 16) rfl rfl Tryz.func35 kr rfl #[.agg #[.int .i64 a0_0, .int .i64 a0_1], .agg #[.int .i64 a1_0, .int .i64 a1_1, .bool a1_2, .bool a1_3]] rfl sM ?_; (with_reducible refine (spec_beEnd.calls k a0_0 a0_1 a1_0 a1_1 a1_2 a1_3 b1 b2 true _ A5.out).mono ?_); rintro e e4 ⟨e5, rfl, a8, hb⟩; refine ⟨_, rfl, ?_⟩; have b6 := Aside0.mk (Kd.R_lower (Kd.R_newB a8 (g := b3) (o := .cells #[.int .i64 a1_0, .int .i64 a1_1, .bool a1_2, .bool a1_3] 27 (0, 0)) (bK a7)) (below_size bB)); replace a6 := bQ a6 hb; replace a7 := bQ a7 hb; replace HB := Aside0.mk (below_step bB hb); (try clear hb); (try clear a8)) | ((with_reducible refine gate_callee (f := 35) rfl ?_); refine goesL_ (some 16) rfl rfl Tryz.func35 kr rfl #[.agg #[.int .i64 a0_0, .int .i64 a0_1], .agg #[.int .i64 a1_0, .int .i64 a1_1, .bool a1_2, .bool a1_3]] rfl sM ?_; (with_reducible refine (spec_beEnd.calls k a0_0 a0_1 a1_0 a1_1 a1_2 a1_3 b1 b2 false _ A5.out).mono ?_); rintro e e4 ⟨e5, rfl, a8, hb⟩; refine ⟨_, rfl, ?_⟩; have b6 := Aside0.mk (Kd.R_lower (Kd.R_newB a8 (g := b3) (o := .cells #[.int .i64 a1_0, .int .i64 a1_1, .bool a1_2, .bool a1_3] 27 (0, 0)) (bK a7)) (below_size bB)); replace a6 := bQ a6 hb; replace a7 := bQ a7 hb; replace HB := Aside0.mk (below_step bB hb); (try clear hb); (try clear a8)) | ((with_reducible refine gate_callee (f := 34) rfl ?_); refine goesL_ (some 11) rfl rfl Tryz.func34 kr rfl #[.agg #[.int .i64 a0_0, .int .i64 a0_1], .agg #[.int .i64 a1_0, .int .i64 a1_1, .bool a1_2, .bool a1_3]] rfl sM ?_; (with_reducible refine (spec_beGood.calls a0_0 a0_1 a1_0 a1_1 a1_2 a1_3 false _ A3.out).mono ?_); rintro e e3 ⟨rfl, hb⟩; refine ⟨_, rfl, ?_⟩; replace a6 := bQ a6 hb; replace a7 := bQ a7 hb; replace HB := Aside0.mk (below_step bB hb); (try clear hb))))
 all_goals go_ret2
 all_goals (exact ⟨sE, bI⟩)

end Go.Proofs.YtlmiaadpnbehgaaGreatDoor.PFnBeamsEnd
