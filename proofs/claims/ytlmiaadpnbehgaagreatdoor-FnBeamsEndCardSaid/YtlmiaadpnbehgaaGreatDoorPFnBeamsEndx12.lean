-- Written by xprint.py, a program of this session, for this seat; Lean checks it.
import Derived.Test.YtlmiaadpnbehgaaGreatDoorVM
import Derived.Test.YtlmiaadpnbehgaaGreatDoorPFnBeamsEndx0
import Derived.Test.YtlmiaadpnbehgaaGreatDoorPFnBeamsEndx9
import Derived.Test.YtlmiaadpnbehgaaGreatDoorPFnBeamsEndx10
import Derived.Test.YtlmiaadpnbehgaaGreatDoorPFnBeamsEndx11
namespace Go.Proofs.YtlmiaadpnbehgaaGreatDoor.PFnBeamsEnd
open Go.Proofs.YtlmiaadpnbehgaaGreatDoorV Go.RowKit Go.Proofs.YtlmiaadpnbehgaaGreatDoorW.PrintWords Go.Proofs.YtlmiaadpnbehgaaGreatDoorW.PrintLast Go.Proofs.YtlmiaadpnbehgaaGreatDoorW.PrintMore
attribute [local go_sem] max2_int min2_int max_two min_two max_three min_three max_four min_four   -- for this text's walks alone
set_option linter.unusedVariables false
set_option linter.unusedSimpArgs false

/-! ### spec_beRun: function 65 -/
mutual
def spec_beRun.l0 : Nat → Int → List (S27) → ByteArray → Int → Int → Int → Option ((List (S27)) × ByteArray)
  | 0, _, _, _, _, _, _ => none
  | k + 1, x2, x8, x9, x10, x305000, x305001 => if x10 < x2 then (if x10 = 0 then (spec_beRun.j1 k x2 x8 x9 x10 true x305000 x305001) else (if 0 ≤ x10 then (if x10 < (x8.length : Int) then ((spec_beCorner.f x305000 x305001 ((rd_T27 x8 x10).f0) ((rd_T27 x8 x10).f1) ((rd_T27 x8 x10).f2) ((rd_T27 x8 x10).f3)).bind fun t314 => (spec_beRun.j1 k x2 x8 x9 x10 (!t314) x305000 x305001)) else (none)) else (none))) else (spec_beRun.j1 k x2 x8 x9 x10 false x305000 x305001)
def spec_beRun.j1 : Nat → Int → List (S27) → ByteArray → Int → Bool → Int → Int → Option ((List (S27)) × ByteArray)
  | 0, _, _, _, _, _, _, _ => none
  | k + 1, x2, x8, x9, x10, x32, x305000, x305001 => if x32 = true then (if 0 ≤ x10 then (if x10 < (x8.length : Int) then ((spec_beStep.f k x305000 x305001 ((rd_T27 x8 x10).f0) ((rd_T27 x8 x10).f1) ((rd_T27 x8 x10).f2) ((rd_T27 x8 x10).f3)).bind fun bt316 => (if x8.length < 5864062014805 then (if x9.size + bt316.2.2.2.2.size ≤ 9223372036854775807 then (spec_beRun.l0 k x2 (x8 ++ [(⟨bt316.1, bt316.2.1, bt316.2.2.1, bt316.2.2.2.1⟩ : S27)]) (x9 ++ bt316.2.2.2.2) (wrap64 (x10 + 1)) x305000 x305001) else (none)) else (none))) else (none)) else (none)) else (some (x8, x9))
end
def spec_beRun.f (k : Nat) (a0_0 : Int) (a0_1 : Int) (a1_0 : Int) (a1_1 : Int) (a1_2 : Bool) (a1_3 : Bool) (a2 : Int) : Option ((List (S27)) × ByteArray) := (spec_beTurn.f k a0_0 a0_1 a1_0 a1_1 a1_2 a1_3).bind fun bt306 => (spec_beRun.l0 k a2 (([(⟨bt306.1, bt306.2.1, bt306.2.2.1, bt306.2.2.2⟩ : S27)] : List (S27))) (⟨#[]⟩ : ByteArray) 0 a0_0 a0_1)
theorem spec_beRun.mono_l : ∀ k, (∀ y0 y1 y2 y3 y4 y5, LeO (spec_beRun.l0 k y0 y1 y2 y3 y4 y5) (spec_beRun.l0 (k + 1) y0 y1 y2 y3 y4 y5)) ∧ (∀ y0 y1 y2 y3 y4 y5 y6, LeO (spec_beRun.j1 k y0 y1 y2 y3 y4 y5 y6) (spec_beRun.j1 (k + 1) y0 y1 y2 y3 y4 y5 y6))
  | 0 => ⟨fun _ _ _ _ _ _ r h => by simp [spec_beRun.l0] at h, fun _ _ _ _ _ _ _ r h => by simp [spec_beRun.j1] at h⟩
  | k + 1 => by
    obtain ⟨ih0, ih1⟩ := spec_beRun.mono_l k
    refine ⟨?_, ?_⟩
    · intro y0 y1 y2 y3 y4 y5
      unfold spec_beRun.l0
      repeat' first
      | (with_reducible exact ih0 _ _ _ _ _ _)
      | (with_reducible exact ih1 _ _ _ _ _ _ _)
      | (with_reducible exact spec_beStep.mono _ _ _ _ _ _ _)
      | (with_reducible exact spec_beTurn.mono _ _ _ _ _ _ _)
      | (with_reducible exact LeO.refl _)
      | (with_reducible exact LeO.none _)
      | (with_reducible refine LeO.ite ?_ ?_)
      | (with_reducible refine LeO.bind ?_ (fun _ => ?_))
      | exact ih0 _ _ _ _ _ _
      | exact ih1 _ _ _ _ _ _ _
      | exact spec_beStep.mono _ _ _ _ _ _ _
      | exact spec_beTurn.mono _ _ _ _ _ _ _
      | exact LeO.none _
      | refine LeO.ite ?_ ?_
      | refine LeO.bind ?_ (fun _ => ?_)
    · intro y0 y1 y2 y3 y4 y5 y6
      unfold spec_beRun.j1
      repeat' first
      | (with_reducible exact ih0 _ _ _ _ _ _)
      | (with_reducible exact ih1 _ _ _ _ _ _ _)
      | (with_reducible exact spec_beStep.mono _ _ _ _ _ _ _)
      | (with_reducible exact spec_beTurn.mono _ _ _ _ _ _ _)
      | (with_reducible exact LeO.refl _)
      | (with_reducible exact LeO.none _)
      | (with_reducible refine LeO.ite ?_ ?_)
      | (with_reducible refine LeO.bind ?_ (fun _ => ?_))
      | exact ih0 _ _ _ _ _ _
      | exact ih1 _ _ _ _ _ _ _
      | exact spec_beStep.mono _ _ _ _ _ _ _
      | exact spec_beTurn.mono _ _ _ _ _ _ _
      | exact LeO.none _
      | refine LeO.ite ?_ ?_
      | refine LeO.bind ?_ (fun _ => ?_)
theorem spec_beRun.mono : ∀ a0 a1 a2 a3 a4 a5 a6 k, LeO (spec_beRun.f k a0 a1 a2 a3 a4 a5 a6) (spec_beRun.f (k + 1) a0 a1 a2 a3 a4 a5 a6) := by
  intro a0 a1 a2 a3 a4 a5 a6 k
  obtain ⟨ih0, ih1⟩ := spec_beRun.mono_l k
  unfold spec_beRun.f
  repeat' first
      | (with_reducible exact ih0 _ _ _ _ _ _)
      | (with_reducible exact ih1 _ _ _ _ _ _ _)
      | (with_reducible exact spec_beStep.mono _ _ _ _ _ _ _)
      | (with_reducible exact spec_beTurn.mono _ _ _ _ _ _ _)
      | (with_reducible exact LeO.refl _)
      | (with_reducible exact LeO.none _)
      | (with_reducible refine LeO.ite ?_ ?_)
      | (with_reducible refine LeO.bind ?_ (fun _ => ?_))
      | exact ih0 _ _ _ _ _ _
      | exact ih1 _ _ _ _ _ _ _
      | exact spec_beStep.mono _ _ _ _ _ _ _
      | exact spec_beTurn.mono _ _ _ _ _ _ _
      | exact LeO.none _
      | refine LeO.ite ?_ ?_
      | refine LeO.bind ?_ (fun _ => ?_)
def spec_beRun.T4 : Bool × List (List Nat × List Nat) := (true, [([], []), ([], []), ([0, 1], [0, 1]), ([2], [2]), ([3], [3]), ([4, 3], [3, 4]), ([5, 3, 3], [3, 5]), ([6], [6]), ([6], [6]), ([6], [6]), ([8, 9, 6], [6, 8, 9]), ([10, 6], [6, 10]), ([7, 11, 6, 6], [6, 7, 11]), ([12, 6], [6, 12]), ([6, 13, 3], [3, 6, 13]), ([3, 14], [3, 14])])
def spec_beRun.B4 : List Nat := [0, 0, 3, 7, 15, 31, 63, 127, 127, 127, 895, 1919, 4095, 8191, 16383, 32767]
theorem spec_beRun.tab4 : rtab .any (opsOf Tryz.f65 4) = spec_beRun.T4 := by kernel_rfl
theorem spec_beRun.bits4 : waitsOk spec_beRun.T4.2 spec_beRun.B4 = true := by kernel_rfl
def spec_beRun.T6 : Bool × List (List Nat × List Nat) := (true, [([], []), ([], []), ([], []), ([1, 2], [1, 2]), ([3], [3]), ([0, 4], [0, 4]), ([5], [5]), ([6], [6]), ([6], [6]), ([], []), ([9, 7, 5, 0, 1, 2, 3, 4, 5, 6, 7, 9], [7, 9]), ([8, 10, 0, 1, 2, 3, 4, 5, 6, 7, 8, 9, 10], [8])])
def spec_beRun.B6 : List Nat := [0, 0, 0, 6, 14, 31, 63, 127, 127, 0, 767, 2047]
theorem spec_beRun.tab6 : rtab .any (opsOf Tryz.f65 6) = spec_beRun.T6 := by kernel_rfl
theorem spec_beRun.bits6 : waitsOk spec_beRun.T6.2 spec_beRun.B6 = true := by kernel_rfl
abbrev spec_beRun.pl0 : List (Nat × Option Tmp × Nat) := [q 0 17, q 1 18, q 2 19, q 3 20, q 4 21, q 5 22, q 6 23, qt 7 24, q 8 25, q 9 26, q 10 27, qt 11 28, q 12 29, q 13 30, q 14 31, q 15 32]
abbrev spec_beRun.pl1 : List (Nat × Option Tmp × Nat) := [q 0 17, q 1 18, q 2 19, q 3 20, q 4 21, q 5 22, q 6 23, q 8 25, q 9 26, q 10 27, qt 7 24, qt 11 28, qo 12 29, q 13 30, q 14 31, q 15 32]
set_option maxHeartbeats 8000000 in
set_option maxRecDepth 100000 in
theorem spec_beRun.calls (k : Nat) (a0_0 : Int) (a0_1 : Int) (a1_0 : Int) (a1_1 : Int) (a1_2 : Bool) (a1_3 : Bool) (a2 : Int) (r1 : List (S27)) (r2 : ByteArray) (w : World) (h : spec_beRun.f k a0_0 a0_1 a1_0 a1_1 a1_2 a1_3 a2 = some (r1, r2)) :
    Calls Tryz.prog 65 #[.agg #[.int .i64 a0_0, .int .i64 a0_1], .agg #[.int .i64 a1_0, .int .i64 a1_1, .bool a1_2, .bool a1_3], .int .i64 a2] w fun e w' => ∃ v0_ : Value, e = .returned (.tuple #[v0_, .string r2]) ∧ Kd.R k27 27 w' w.heap.size (fun _ => True) v0_ r1 ∧ Below w.heap.size w w' := by
 have q5 := Tryz.underlying25
 have q6 := Tryz.underlying27
 have HB := Aside0.mk (Below.refl w.heap.size w)
 have H := h
 unfold spec_beRun.f at H
 clear h
 obtain ⟨⟨c9, d0, d1, d2⟩, A4, H⟩ := bD H
 try dsimp only at H
 obtain ⟨h8, d3⟩ : ∃ y_ : List (S27), y_ = (([(⟨c9, d0, d1, d2⟩ : S27)] : List (S27))) := ⟨_, rfl⟩
 replace H : (spec_beRun.l0 k a2 h8 (⟨#[]⟩ : ByteArray) 0 a0_0 a0_1) = some (r1, r2) := by first | (rw [d3]; with_reducible exact H) | (have d9 := (Option.bind_some _ _).symm.trans H; rw [d3]; with_reducible exact d9) | (have d9 := (Option.bind_some _ _).symm.trans H; with_reducible exact d9) | with_reducible exact H | (rw [d3]; exact H) | exact H
 have h1 := Aside0.mk d3
 clear d3
 have H' := Aside0.mk H
 clear H
 go_enter Tryz.func65, Tryz.ntmps65
 go_wp2_with (first | ((with_reducible refine gate_dst (N := 3) rfl ?_); refine box_ (cs := #[.int .i64 a0_0, .int .i64 a0_1]) (t := 25) fun b6 hg w5 hbox hb => ?_; have a9 := Aside0.mk (hbox); have o6 := bS HB hg; have o7 := bS HB hg; replace HB := Aside0.mk (below_step bB hb); clear hb hbox hg) | ((with_reducible refine gate_dst (N := 4) rfl ?_); refine box_ (cs := #[.int .i64 a1_0, .int .i64 a1_1, .bool a1_2, .bool a1_3]) (t := 27) fun c0 hg w6 hbox hb => ?_; have b2 := Aside0.mk (hbox); have o8 := bS HB hg; have o9 := bS HB hg; have g1 := bL a9 hg; have g2 := bM a9 hg; replace a9 := bQ a9 hb; replace HB := Aside0.mk (below_step bB hb); clear hb hbox hg; have q7 := g1.out; have q8 := g2.out; obtain ⟨h9, i0, i1, i2⟩ := cf2 a9; obtain ⟨i3, i4, i5, i6, i7, i9, j0, j1⟩ := cf4 b2) | ((with_reducible refine gate_callee (f := 81) rfl ?_); refine goesL_ (some 15) rfl rfl Tryz.func81 kr rfl #[.agg #[.int .i64 a0_0, .int .i64 a0_1], .agg #[.int .i64 a1_0, .int .i64 a1_1, .bool a1_2, .bool a1_3]] rfl sM ?_; (with_reducible refine (spec_beTurn.calls k a0_0 a0_1 a1_0 a1_1 a1_2 a1_3 c9 d0 d1 d2 _ A4.out).mono ?_); rintro e s6 ⟨rfl, hb⟩; refine ⟨_, rfl, ?_⟩; replace a9 := bQ a9 hb; replace b2 := bQ b2 hb; replace HB := Aside0.mk (below_step bB hb); (try clear hb)) | ((with_reducible refine gate_dst (N := 16) rfl ?_); refine Kd.R_lit k27 _ 27 ?hg (N := 16) ?hd (xs := ([(⟨c9, d0, d1, d2⟩ : S27)] : List (S27))) (inner := [.int .i64 c9, .int .i64 d0, .bool d1, .bool d2]) (ok := fun _ => True) (okp := fun _ => True) ?hr ?hp (fun _ hk => hk) trivial (Below.refl _ _) (Nat.le_refl _) (by simp) ?_; (case hd => rfl); (case hg => rfl); (case hr => first | (go_simp; done) | (go_simp; rfl)); (case hp => exact (Reps.c4 (show Kd.M k27 _ _ _ (⟨c9, d0, d1, d2⟩ : S27) [.int .i64 c9, .int .i64 d0, .bool d1, .bool d2] from (k27_mkM _ _ _ (⟨c9, d0, d1, d2⟩ : S27) )) (Reps.none _ _))); intro q9 s7 e0 hb hg_ hnew_; clear hg_ hnew_; (first | rw [← h1.out] at e0 | (simp only [Int.reduceToNat] at e0; rw [← h1.out] at e0)); have j7 := Aside0.mk (Kd.R_lower (Kd.R_newB e0 (g := c0) (o := .cells #[.int .i64 a1_0, .int .i64 a1_1, .bool a1_2, .bool a1_3] 27 (0, 0)) (bK b2)) (below_size bB)); replace a9 := bQ a9 hb; replace b2 := bQ b2 hb; replace HB := Aside0.mk (below_step bB hb); clear hb e0))
 go_loopg [8, 9, 10] k (fun kq v8 v9 o1 w' => ∃ (b1 : List (S27)) (c7 : ByteArray) (a7 : Int), v9 = .string c7 ∧ o1 = .int .i64 a7 ∧ Aside0 (spec_beRun.l0 kq a2 b1 c7 a7 a0_0 a0_1 = some (r1, r2)) ∧ Aside0 (kq ≤ k) ∧ Aside0 (Kd.R k27 27 w' w.heap.size (fun k_ => k_ ≠ c0) v8 b1) ∧ Aside0 (w'.heap[b6]? = some (.cells #[.int .i64 a0_0, .int .i64 a0_1] 25 (0, 0))) ∧ Aside0 (w'.heap[c0]? = some (.cells #[.int .i64 a1_0, .int .i64 a1_1, .bool a1_2, .bool a1_3] 27 (0, 0))) ∧ Aside0 (Below w.heap.size w w'))
 case atStart => exact ⟨(h8), ((⟨#[]⟩ : ByteArray)), (0), sR, sR, H', ⟨Nat.le_refl _⟩, ⟨by (with_reducible repeat (first | apply Kd.R_alloc | apply Kd.R_drewN | apply Kd.R_drew)); exact Kd.R_mono j7.out (fun _ hk => hk.2)⟩, (bA a9), (bA b2), ⟨bB⟩⟩
 case round => (
 clear H'
 try clear h9
 try clear i0
 try clear i3
 try clear i4
 try clear i5
 try clear i6
 try clear i1
 try clear i2
 try clear i7
 try clear i9
 try clear j0
 try clear j1
 obtain ⟨b1, c7, a7, rfl, rfl, HA, HK1, a8, a9, b2, HB⟩ := hrel
 cases gk with
 | zero => exact absurd HA.out (by simp [spec_beRun.l0])
 | succ k1 => (
 have H := HA.out
 clear HA
 simp only [spec_beRun.l0] at H
 have g5 := Aside0.mk H
 clear H
 go_upto_region 4 with (fail)
 go_cut [32] (fun o2 wc => ∃ (kq : Nat) (d4 : Bool), o2 = .bool d4 ∧ Aside0 (spec_beRun.j1 kq a2 b1 c7 a7 d4 a0_0 a0_1 = some (r1, r2)) ∧ Aside0 (kq ≤ k1) ∧ Aside0 (Kd.R k27 27 wc w.heap.size (fun k_ => k_ ≠ c0) u8 b1) ∧ Aside0 (wc.heap[b6]? = some (.cells #[.int .i64 a0_0, .int .i64 a0_1] 25 (0, 0))) ∧ Aside0 (wc.heap[c0]? = some (.cells #[.int .i64 a1_0, .int .i64 a1_1, .bool a1_2, .bool a1_3] 27 (0, 0))) ∧ Aside0 (Below w.heap.size w wc))
 case first => (
 have H := g5.out
 clear g5
 by_cases e1 : a7 < a2
 ·(
 rw [if_pos e1] at H
 have d5 : decide (a7 < a2) = true := decide_eq_true e1
 clear e1
 (first | rw [d5] | (simp only [i64_w, i32_w]; rw [d5]) | skip)
 by_cases g3 : a7 = 0
 ·(
 rw [if_pos g3] at H
 obtain ⟨j8, j9⟩ := yE g3
 clear g3
 have H' := Aside0.mk H
 clear H
 try go_wp2
 replace a8 := Aside0.mk (Kd.R_drew a8.out)
 replace a9 := bD1 a9
 replace b2 := bD1 b2
 replace HB := Aside0.mk (below_drew1 HB.out)
 refine st_ 16 spec_beRun.pl0 (S := fun w' => True) (ds := []) spec_beRun.tab4 spec_beRun.bits4 trivial (fun hHeld HT_ HW_ => ?_)
 generalize wr.drew = s8 at a8 a9 b2 HB hHeld ⊢
 iterate 16 (first | refine pA HT_ ?_ | refine pB HT_ ?_)
 refine pD HT_ ?_
 try go_wp2
 (try rw [dSet])
 go_meet
 case rel => exact ⟨_, (true), sR, H', ⟨by have := HK1.out; first | omega | exact Nat.le_refl _⟩, ⟨oR a8⟩, (bA a9), (bA b2), ⟨bB⟩⟩
 )
 ·(
 rw [if_neg g3] at H
 obtain ⟨j8, j9⟩ := nE g3
 by_cases h2 : 0 ≤ a7
 ·(
 rw [if_pos h2] at H
 have p0 : decide (0 ≤ a7) = true := decide_eq_true h2
 clear h2
 by_cases h3 : a7 < (b1.length : Int)
 ·(
 rw [if_pos h3] at H
 have p1 : decide (a7 < (b1.length : Int)) = true := decide_eq_true h3
 clear h3
 obtain ⟨j2, o3, H⟩ := bD H
 try dsimp only at H
 have H' := Aside0.mk H
 clear H
 try go_wp2
 replace a8 := Aside0.mk (Kd.R_drew a8.out)
 replace a9 := bD1 a9
 replace b2 := bD1 b2
 replace HB := Aside0.mk (below_drew1 HB.out)
 obtain ⟨r0, r3, j3⟩ := Kd.R_slice a8.out
 (first | subst j3 | (injection j3 with f1_ f2_ f3_; have f4_ := f1_.symm; have f5_ := f3_.symm; clear f1_ f2_ f3_; subst f4_; subst f5_))
 have g6 : 0 ≤ (a7 : Int) := of_decide_eq_true asm
 have g7 : a7 < (b1.length : Int) := of_decide_eq_true asm
 obtain ⟨c8, l5, e2, e3, e4, e5⟩ := at_T27 (Kd.R_reads' a8.out).2.2 a7 g6 g7
 cases l5
 replace g6 := eq_true g6
 replace g7 := eq_true g7
 refine st_ 16 spec_beRun.pl1 (S := fun w' => w'.cell? ⟨b6, 0, none⟩ = some (.int .i64 a0_0) ∧ w'.cell? ⟨b6, 1, none⟩ = some (.int .i64 a0_1) ∧ w'.cell? (c8.add ((a7).toNat * 4)) = some (.int .i64 ((rd_T27 b1 a7).f0)) ∧ w'.cell? ⟨(c8.add ((a7).toNat * 4)).block, (c8.add ((a7).toNat * 4)).off + 1, none⟩ = some (.int .i64 ((rd_T27 b1 a7).f1)) ∧ w'.cell? ⟨(c8.add ((a7).toNat * 4)).block, (c8.add ((a7).toNat * 4)).off + 2, none⟩ = some (.bool ((rd_T27 b1 a7).f2)) ∧ w'.cell? ⟨(c8.add ((a7).toNat * 4)).block, (c8.add ((a7).toNat * 4)).off + 3, none⟩ = some (.bool ((rd_T27 b1 a7).f3))) (ds := []) spec_beRun.tab4 spec_beRun.bits4 ⟨cb a9 0, cb a9 1, e2, e3, e4, e5⟩ (fun hHeld HT_ HW_ => ?_)
 generalize wr.drew = s9 at a8 a9 b2 HB e2 e3 e4 e5 hHeld ⊢
 iterate 12 (first | refine pA HT_ ?_ | refine pT HT_ HW_ hHeld ?_)
 refine pO HT_ fun K hK => ?_
 refine goes_ Tryz.func67 kr rfl #[.agg #[.int .i64 a0_0, .int .i64 a0_1], .agg #[.int .i64 ((rd_T27 b1 a7).f0), .int .i64 ((rd_T27 b1 a7).f1), .bool ((rd_T27 b1 a7).f2), .bool ((rd_T27 b1 a7).f3)]] (by rfl) rfl rfl sM ?_
 with_reducible refine (spec_beCorner.calls a0_0 a0_1 ((rd_T27 b1 a7).f0) ((rd_T27 b1 a7).f1) ((rd_T27 b1 a7).f2) ((rd_T27 b1 a7).f3) j2 _ o3.out).mono ?_
 rintro e u0 ⟨rfl, hb⟩
 have HS2_ := (hb.cell (World.block_lt_of_cell? _ _ (hHeld.2.2.1))).trans (hHeld.2.2.1)
 have HS3_ := (hb.cell (World.block_lt_of_cell? _ _ (hHeld.2.2.2.1))).trans (hHeld.2.2.2.1)
 have HS4_ := (hb.cell (World.block_lt_of_cell? _ _ (hHeld.2.2.2.2.1))).trans (hHeld.2.2.2.2.1)
 have HS5_ := (hb.cell (World.block_lt_of_cell? _ _ (hHeld.2.2.2.2.2))).trans (hHeld.2.2.2.2.2)
 refine ⟨_, rfl, ?_⟩
 replace a8 := Aside0.mk (Kd.R_below (oR a8) hb)
 replace a9 := bQ a9 hb
 replace b2 := bQ b2 hb
 replace HB := Aside0.mk (below_step bB hb)
 try clear hb
 refine hK.out _ _ ⟨cb a9 0, cb a9 1, HS2_, HS3_, HS4_, HS5_⟩ (fun hHeld => ?_)
 clear hK K
 refine nP ?_
 iterate 3 refine pA HT_ ?_
 refine pD HT_ ?_
 try go_wp2
 (try rw [dSet])
 go_meet
 case rel => exact ⟨_, (!j2), sR, H', ⟨by have := HK1.out; first | omega | exact Nat.le_refl _⟩, ⟨oR a8⟩, (bA a9), (bA b2), ⟨bB⟩⟩
 )
 ·(
 rw [if_neg h3] at H
 exact absurd H (by simp)
 )
 )
 ·(
 rw [if_neg h2] at H
 exact absurd H (by simp)
 )
 )
 )
 ·(
 rw [if_neg e1] at H
 have d5 : decide (a7 < a2) = false := decide_eq_false e1
 clear e1
 (first | rw [d5] | (simp only [i64_w, i32_w]; rw [d5]) | skip)
 have H' := Aside0.mk H
 clear H
 try go_wp2
 replace a8 := Aside0.mk (Kd.R_drew a8.out)
 replace a9 := bD1 a9
 replace b2 := bD1 b2
 replace HB := Aside0.mk (below_drew1 HB.out)
 refine st_ 16 spec_beRun.pl0 (S := fun w' => True) (ds := []) spec_beRun.tab4 spec_beRun.bits4 trivial (fun hHeld HT_ HW_ => ?_)
 generalize wr.drew = u1 at a8 a9 b2 HB hHeld ⊢
 iterate 16 (first | refine pA HT_ ?_ | refine pB HT_ ?_)
 refine pD HT_ ?_
 try go_wp2
 (try rw [dSet])
 go_meet
 case rel => exact ⟨_, (false), sR, H', ⟨by have := HK1.out; first | omega | exact Nat.le_refl _⟩, ⟨oR a8⟩, (bA a9), (bA b2), ⟨bB⟩⟩
 )
 )
 case rest => (
 clear g5
 obtain ⟨kq, d4, rfl, HA, HJ12, a8, a9, b2, HB⟩ := hcut
 cases kq with
 | zero => exact absurd HA.out (by simp [spec_beRun.j1])
 | succ g0 => (
 have H := HA.out
 clear HA
 simp only [spec_beRun.j1] at H
 by_cases h4 : d4 = true
 ·(
 subst h4
 rw [if_pos rfl] at H
 by_cases h5 : 0 ≤ a7
 ·(
 rw [if_pos h5] at H
 have p2 : decide (0 ≤ a7) = true := decide_eq_true h5
 clear h5
 by_cases h6 : a7 < (b1.length : Int)
 ·(
 rw [if_pos h6] at H
 have p3 : decide (a7 < (b1.length : Int)) = true := decide_eq_true h6
 clear h6
 obtain ⟨⟨c1, c2, c3, c4, c5⟩, k4, H⟩ := bD H
 try dsimp only at H
 by_cases h7 : b1.length < 5864062014805
 ·(
 rw [if_pos h7] at H
 have k0 := Aside0.mk h7
 clear h7
 obtain ⟨j4, d6⟩ : ∃ y_ : List (S27), y_ = (b1 ++ [(⟨c1, c2, c3, c4⟩ : S27)]) := ⟨_, rfl⟩
 replace H : (if c7.size + c5.size ≤ 9223372036854775807 then (spec_beRun.l0 g0 a2 j4 (c7 ++ c5) (wrap64 (a7 + 1)) a0_0 a0_1) else (none)) = some (r1, r2) := by first | (rw [d6]; with_reducible exact H) | (have d9 := (Option.bind_some _ _).symm.trans H; rw [d6]; with_reducible exact d9) | (have d9 := (Option.bind_some _ _).symm.trans H; with_reducible exact d9) | with_reducible exact H | (rw [d6]; exact H) | exact H
 have k2 := Aside0.mk d6
 clear d6
 by_cases g4 : c7.size + c5.size ≤ 9223372036854775807
 ·(
 rw [if_pos g4] at H
 have p4 := eq_true g4
 have p5 : decide (c7.size + c5.size ≤ 9223372036854775807) = true := decide_eq_true g4
 try have p6 : (9223372036854775807 < c7.size + c5.size) = False := eq_false (Nat.not_lt.2 g4)
 have H' := Aside0.mk H
 clear H
 try go_wp2
 replace a8 := Aside0.mk (Kd.R_drew a8.out)
 replace a9 := bD1 a9
 replace b2 := bD1 b2
 replace HB := Aside0.mk (below_drew1 HB.out)
 obtain ⟨r4, g8, j5⟩ := Kd.R_slice a8.out
 (first | subst j5 | (injection j5 with f1_ f2_ f3_; have f4_ := f1_.symm; have f5_ := f3_.symm; clear f1_ f2_ f3_; subst f4_; subst f5_))
 have g9 : 0 ≤ (a7 : Int) := of_decide_eq_true asm
 have h0 : a7 < (b1.length : Int) := of_decide_eq_true asm
 obtain ⟨b4, l6, e6, e7, e8, e9⟩ := at_T27 (Kd.R_reads' a8.out).2.2 a7 g9 h0
 cases l6
 replace g9 := eq_true g9
 replace h0 := eq_true h0
 refine start_ (n := 12) (S := fun w' => w'.cell? ⟨b6, 0, none⟩ = some (.int .i64 a0_0) ∧ w'.cell? ⟨b6, 1, none⟩ = some (.int .i64 a0_1) ∧ w'.cell? (b4.add ((a7).toNat * 4)) = some (.int .i64 ((rd_T27 b1 a7).f0)) ∧ w'.cell? ⟨(b4.add ((a7).toNat * 4)).block, (b4.add ((a7).toNat * 4)).off + 1, none⟩ = some (.int .i64 ((rd_T27 b1 a7).f1)) ∧ w'.cell? ⟨(b4.add ((a7).toNat * 4)).block, (b4.add ((a7).toNat * 4)).off + 2, none⟩ = some (.bool ((rd_T27 b1 a7).f2)) ∧ w'.cell? ⟨(b4.add ((a7).toNat * 4)).block, (b4.add ((a7).toNat * 4)).off + 3, none⟩ = some (.bool ((rd_T27 b1 a7).f3))) (ds := []) #[false, false, false, false, false, false, false, false, false, false, false, false] kr rfl rfl ⟨cb a9 0, cb a9 1, e6, e7, e8, e9⟩ (fun hHeld => ?_); refine with_tabW spec_beRun.tab6 spec_beRun.bits6 (fun HT_ HW_ => ?_)
 generalize wc.drew = u2 at a8 a9 b2 HB e6 e7 e8 e9 hHeld ⊢
 refine pure_ (i := 1) (N := some 37) (v := ?_) (a' := ?_) #[false, true, false, false, false, false, false, false, false, false, false, false] rfl rfl (any_of HT_.out kr) (fun _ _ _ h => h) (Or.inl ⟨by rfl, ?_⟩) ?_ ?_
 rotate_left
 ·(
 intro w'
 go_simp
 with_reducible rfl
 )
 rotate_left
 ·(
 simp only [Act.put, List.setIfInBounds_toArray, List.set_cons_zero, List.set_cons_succ, i64_w, i32_w]
 rfl
 )
 refine pure_ (i := 2) (N := some 38) (v := ?_) (a' := ?_) #[false, true, true, false, false, false, false, false, false, false, false, false] rfl rfl (any_of HT_.out kr) (fun _ _ _ h => h) (Or.inl ⟨by rfl, ?_⟩) ?_ ?_
 rotate_left
 ·(
 intro w'
 go_simp
 with_reducible rfl
 )
 rotate_left
 ·(
 simp only [Act.put, List.setIfInBounds_toArray, List.set_cons_zero, List.set_cons_succ, i64_w, i32_w]
 rfl
 )
 refine pure_ (i := 3) (N := some 39) (v := ?_) (a' := ?_) #[false, true, true, true, false, false, false, false, false, false, false, false] rfl rfl (any_of HT_.out kr) (fun _ _ _ h => h) (Or.inl ⟨by rfl, ?_⟩) ?_ ?_
 rotate_left
 ·(
 intro w'
 go_simp
 with_reducible rfl
 )
 rotate_left
 ·(
 simp only [Act.put, List.setIfInBounds_toArray, List.set_cons_zero, List.set_cons_succ, i64_w, i32_w]
 rfl
 )
 refine take_ (i := 0) (N := some 36) (v := ?_) (a' := ?_) #[true, true, true, true, false, false, false, false, false, false, false, false] rfl rfl (take_ofW HT_.out HW_.out kr) (fun _ _ _ h => h) (Or.inl ⟨by rfl, ?_⟩) hHeld ?_ ?_
 rotate_left
 ·(
 rintro w' ⟨s0, s1, s2, s3, s4, s5⟩
 go_simp
 with_reducible rfl
 )
 rotate_left
 ·(
 simp only [Act.put, List.setIfInBounds_toArray, List.set_cons_zero, List.set_cons_succ, i64_w, i32_w]
 rfl
 )
 refine take_ (i := 4) (N := some 40) (v := ?_) (a' := ?_) #[true, true, true, true, true, false, false, false, false, false, false, false] rfl rfl (take_ofW HT_.out HW_.out kr) (fun _ _ _ h => h) (Or.inl ⟨by rfl, ?_⟩) hHeld ?_ ?_
 rotate_left
 ·(
 rintro w' ⟨s0, s1, s2, s3, s4, s5⟩
 go_simp
 with_reducible rfl
 )
 rotate_left
 ·(
 simp only [Act.put, List.setIfInBounds_toArray, List.set_cons_zero, List.set_cons_succ, i64_w, i32_w]
 rfl
 )
 refine join_ (σ := Nat) 2 #[true, true, true, true, true, true, true, true, true, true, false, false] (fun s_ => [(41, .tuple #[.agg #[.int .i64 c1, .int .i64 c2, .bool c3, .bool c4], .string c5]), (11, .pointer (some ⟨s_, 0, none⟩)), (35, .tuple #[.agg #[.int .i64 c1, .int .i64 c2, .bool c3, .bool c4], .string c5]), (42, .agg #[.int .i64 c1, .int .i64 c2, .bool c3, .bool c4]), (43, .string c5)]) (fun s_ w' => (w'.cell? ⟨b6, 0, none⟩ = some (.int .i64 a0_0) ∧ w'.cell? ⟨b6, 1, none⟩ = some (.int .i64 a0_1) ∧ w'.cell? (b4.add ((a7).toNat * 4)) = some (.int .i64 ((rd_T27 b1 a7).f0)) ∧ w'.cell? ⟨(b4.add ((a7).toNat * 4)).block, (b4.add ((a7).toNat * 4)).off + 1, none⟩ = some (.int .i64 ((rd_T27 b1 a7).f1)) ∧ w'.cell? ⟨(b4.add ((a7).toNat * 4)).block, (b4.add ((a7).toNat * 4)).off + 2, none⟩ = some (.bool ((rd_T27 b1 a7).f2)) ∧ w'.cell? ⟨(b4.add ((a7).toNat * 4)).block, (b4.add ((a7).toNat * 4)).off + 3, none⟩ = some (.bool ((rd_T27 b1 a7).f3))) ∧ (Kd.R k27 27 w' w.heap.size (fun k_ => k_ ≠ c0 ∧ k_ ≠ s_) (.slice (some b4) b1.length g8) b1) ∧ (w'.heap[b6]? = some (.cells #[.int .i64 a0_0, .int .i64 a0_1] 25 (0, 0))) ∧ (w'.heap[c0]? = some (.cells #[.int .i64 a1_0, .int .i64 a1_1, .bool a1_2, .bool a1_3] 27 (0, 0))) ∧ (w'.heap[s_]? = some (.cells #[.int .i64 0, .int .i64 0, .bool false, .bool false] 27 (0, 0))) ∧ (w.heap.size ≤ s_) ∧ (w.heap.size ≤ s_) ∧ (b6 ≠ s_) ∧ (s_ ≠ b6) ∧ (c0 ≠ s_) ∧ (s_ ≠ c0) ∧ (Below w.heap.size w w')) ?_ ?_
 rotate_left
 ·(
 intro hCont
 refine two_ (i := 5) (j := 9) (Ni := some 41) (Nj := some 11) #[true, true, true, true, true, true, false, false, false, false, false, false] #[true, true, true, true, true, false, false, false, false, true, false, false] rfl rfl rfl rfl (two_of HT_.out kr) (by decide) (by decide) (fun K hK => ?_) (fun K hK => ?_)
 ·(
 skip
 refine goes_ Tryz.func82 kr rfl #[.agg #[.int .i64 a0_0, .int .i64 a0_1], .agg #[.int .i64 ((rd_T27 b1 a7).f0), .int .i64 ((rd_T27 b1 a7).f1), .bool ((rd_T27 b1 a7).f2), .bool ((rd_T27 b1 a7).f3)]] (by rfl) rfl rfl sM ?_
 with_reducible refine (spec_beStep.calls g0 a0_0 a0_1 ((rd_T27 b1 a7).f0) ((rd_T27 b1 a7).f1) ((rd_T27 b1 a7).f2) ((rd_T27 b1 a7).f3) c1 c2 c3 c4 c5 _ k4.out).mono ?_
 rintro e o4 ⟨rfl, hb⟩
 have HS2_ := (hb.cell (World.block_lt_of_cell? _ _ (hHeld.2.2.1))).trans (hHeld.2.2.1)
 have HS3_ := (hb.cell (World.block_lt_of_cell? _ _ (hHeld.2.2.2.1))).trans (hHeld.2.2.2.1)
 have HS4_ := (hb.cell (World.block_lt_of_cell? _ _ (hHeld.2.2.2.2.1))).trans (hHeld.2.2.2.2.1)
 have HS5_ := (hb.cell (World.block_lt_of_cell? _ _ (hHeld.2.2.2.2.2))).trans (hHeld.2.2.2.2.2)
 refine ⟨_, rfl, ?_⟩
 replace a8 := Aside0.mk (Kd.R_below (oR a8) hb)
 replace a9 := bQ a9 hb
 replace b2 := bQ b2 hb
 replace HB := Aside0.mk (below_step bB hb)
 try clear hb
 refine hK.out _ _ ⟨cb a9 0, cb a9 1, HS2_, HS3_, HS4_, HS5_⟩ (fun hHeld => ?_)
 clear hK K
 refine norm_ (a' := ?_) ?_ ?_
 rotate_left
 · show Act.put _ (some 41) _ = _
   simp only [Act.put, List.setIfInBounds_toArray, List.set_cons_zero, List.set_cons_succ, i64_w, i32_w]
   rfl
 refine pure_ (i := 6) (N := some 35) (v := ?_) (a' := ?_) #[true, true, true, true, true, true, true, false, false, false, false, false] rfl rfl (any_of HT_.out kr) (fun _ _ _ h => h) (Or.inl ⟨by rfl, ?_⟩) ?_ ?_
 rotate_left
 ·(
 intro w'
 go_simp
 with_reducible rfl
 )
 rotate_left
 ·(
 simp only [Act.put, List.setIfInBounds_toArray, List.set_cons_zero, List.set_cons_succ, i64_w, i32_w]
 rfl
 )
 refine pure_ (i := 7) (N := some 42) (v := ?_) (a' := ?_) #[true, true, true, true, true, true, true, true, false, false, false, false] rfl rfl (any_of HT_.out kr) (fun _ _ _ h => h) (Or.inl ⟨by rfl, ?_⟩) ?_ ?_
 rotate_left
 ·(
 intro w'
 go_simp
 with_reducible rfl
 )
 rotate_left
 ·(
 simp only [Act.put, List.setIfInBounds_toArray, List.set_cons_zero, List.set_cons_succ, i64_w, i32_w]
 rfl
 )
 refine pure_ (i := 8) (N := some 43) (v := ?_) (a' := ?_) #[true, true, true, true, true, true, true, true, true, false, false, false] rfl rfl (any_of HT_.out kr) (fun _ _ _ h => h) (Or.inl ⟨by rfl, ?_⟩) ?_ ?_
 rotate_left
 ·(
 intro w'
 go_simp
 with_reducible rfl
 )
 rotate_left
 ·(
 simp only [Act.put, List.setIfInBounds_toArray, List.set_cons_zero, List.set_cons_succ, i64_w, i32_w]
 rfl
 )
 refine one_ (i := 9) (N := some 11) #[true, true, true, true, true, true, true, true, true, true, false, false] rfl rfl (one_of HT_.out kr) (by decide) (fun K hK => ?_)
 refine box_step ?hg (N := 11) ?hd (cs := #[.int .i64 0, .int .i64 0, .bool false, .bool false]) (t := 27) ?hr ?_; (case hd => rfl); (case hg => rfl); (case hr => first | (go_simp; done) | (go_simp; rfl))
 intro b0 hg o5 hbox hb
 have HS2_ := (hb.cell (World.block_lt_of_cell? _ _ (hHeld.2.2.1))).trans (hHeld.2.2.1)
 have HS3_ := (hb.cell (World.block_lt_of_cell? _ _ (hHeld.2.2.2.1))).trans (hHeld.2.2.2.1)
 have HS4_ := (hb.cell (World.block_lt_of_cell? _ _ (hHeld.2.2.2.2.1))).trans (hHeld.2.2.2.2.1)
 have HS5_ := (hb.cell (World.block_lt_of_cell? _ _ (hHeld.2.2.2.2.2))).trans (hHeld.2.2.2.2.2)
 have b5 := Aside0.mk (hbox)
 have d7 := bS HB hg
 have d8 := bS HB hg
 have b3 := bL a9 hg
 have b7 := bM a9 hg
 have b8 := bL b2 hg
 have b9 := bM b2 hg
 replace a8 := Aside0.mk (Kd.R_below (Kd.R_elderB (oR a8) b0 (Nat.le_of_eq hg.symm)) hb)
 replace a9 := bQ a9 hb
 replace b2 := bQ b2 hb
 replace HB := Aside0.mk (below_step bB hb)
 clear hb hbox hg
 refine hK.out _ _ ⟨cb a9 0, cb a9 1, HS2_, HS3_, HS4_, HS5_⟩ (fun hHeld => ?_)
 clear hK K
 refine norm_ (a' := ?_) ?_ ?_
 rotate_left
 · show Act.put _ (some 11) _ = _
   simp only [Act.put, List.setIfInBounds_toArray, List.set_cons_zero, List.set_cons_succ, i64_w, i32_w]
   rfl
 exact norm_ (by simp only [putAll, Act.put, List.setIfInBounds_toArray, List.set_cons_zero, List.set_cons_succ]) (hCont (b0) _ ⟨hHeld, (oR a8), (bK a9), (bK b2), (bK b5), d7.out, d8.out, b3.out, b7.out, b8.out, b9.out, bB⟩)
 )
 ·(
 skip
 refine box_step ?hg (N := 11) ?hd (cs := #[.int .i64 0, .int .i64 0, .bool false, .bool false]) (t := 27) ?hr ?_; (case hd => rfl); (case hg => rfl); (case hr => first | (go_simp; done) | (go_simp; rfl))
 intro b0 hg o4 hbox hb
 have HS2_ := (hb.cell (World.block_lt_of_cell? _ _ (hHeld.2.2.1))).trans (hHeld.2.2.1)
 have HS3_ := (hb.cell (World.block_lt_of_cell? _ _ (hHeld.2.2.2.1))).trans (hHeld.2.2.2.1)
 have HS4_ := (hb.cell (World.block_lt_of_cell? _ _ (hHeld.2.2.2.2.1))).trans (hHeld.2.2.2.2.1)
 have HS5_ := (hb.cell (World.block_lt_of_cell? _ _ (hHeld.2.2.2.2.2))).trans (hHeld.2.2.2.2.2)
 have b5 := Aside0.mk (hbox)
 have d7 := bS HB hg
 have d8 := bS HB hg
 have b3 := bL a9 hg
 have b7 := bM a9 hg
 have b8 := bL b2 hg
 have b9 := bM b2 hg
 replace a8 := Aside0.mk (Kd.R_below (Kd.R_elderB (oR a8) b0 (Nat.le_of_eq hg.symm)) hb)
 replace a9 := bQ a9 hb
 replace b2 := bQ b2 hb
 replace HB := Aside0.mk (below_step bB hb)
 clear hb hbox hg
 refine hK.out _ _ ⟨cb a9 0, cb a9 1, HS2_, HS3_, HS4_, HS5_⟩ (fun hHeld => ?_)
 clear hK K
 refine norm_ (a' := ?_) ?_ ?_
 rotate_left
 · show Act.put _ (some 11) _ = _
   simp only [Act.put, List.setIfInBounds_toArray, List.set_cons_zero, List.set_cons_succ, i64_w, i32_w]
   rfl
 refine one_ (i := 5) (N := some 41) #[true, true, true, true, true, true, false, false, false, true, false, false] rfl rfl (one_of HT_.out kr) (by decide) (fun K hK => ?_)
 refine goes_ Tryz.func82 kr rfl #[.agg #[.int .i64 a0_0, .int .i64 a0_1], .agg #[.int .i64 ((rd_T27 b1 a7).f0), .int .i64 ((rd_T27 b1 a7).f1), .bool ((rd_T27 b1 a7).f2), .bool ((rd_T27 b1 a7).f3)]] (by rfl) rfl rfl sM ?_
 with_reducible refine (spec_beStep.calls g0 a0_0 a0_1 ((rd_T27 b1 a7).f0) ((rd_T27 b1 a7).f1) ((rd_T27 b1 a7).f2) ((rd_T27 b1 a7).f3) c1 c2 c3 c4 c5 _ k4.out).mono ?_
 rintro e o5 ⟨rfl, hb⟩
 have HS2_ := (hb.cell (World.block_lt_of_cell? _ _ (hHeld.2.2.1))).trans (hHeld.2.2.1)
 have HS3_ := (hb.cell (World.block_lt_of_cell? _ _ (hHeld.2.2.2.1))).trans (hHeld.2.2.2.1)
 have HS4_ := (hb.cell (World.block_lt_of_cell? _ _ (hHeld.2.2.2.2.1))).trans (hHeld.2.2.2.2.1)
 have HS5_ := (hb.cell (World.block_lt_of_cell? _ _ (hHeld.2.2.2.2.2))).trans (hHeld.2.2.2.2.2)
 refine ⟨_, rfl, ?_⟩
 replace a8 := Aside0.mk (Kd.R_below (oR a8) hb)
 replace a9 := bQ a9 hb
 replace b2 := bQ b2 hb
 replace b5 := bQ b5 hb
 replace HB := Aside0.mk (below_step bB hb)
 try clear hb
 refine hK.out _ _ ⟨cb a9 0, cb a9 1, HS2_, HS3_, HS4_, HS5_⟩ (fun hHeld => ?_)
 clear hK K
 refine norm_ (a' := ?_) ?_ ?_
 rotate_left
 · show Act.put _ (some 41) _ = _
   simp only [Act.put, List.setIfInBounds_toArray, List.set_cons_zero, List.set_cons_succ, i64_w, i32_w]
   rfl
 refine pure_ (i := 6) (N := some 35) (v := ?_) (a' := ?_) #[true, true, true, true, true, true, true, false, false, true, false, false] rfl rfl (any_of HT_.out kr) (fun _ _ _ h => h) (Or.inl ⟨by rfl, ?_⟩) ?_ ?_
 rotate_left
 ·(
 intro w'
 go_simp
 with_reducible rfl
 )
 rotate_left
 ·(
 simp only [Act.put, List.setIfInBounds_toArray, List.set_cons_zero, List.set_cons_succ, i64_w, i32_w]
 rfl
 )
 refine pure_ (i := 7) (N := some 42) (v := ?_) (a' := ?_) #[true, true, true, true, true, true, true, true, false, true, false, false] rfl rfl (any_of HT_.out kr) (fun _ _ _ h => h) (Or.inl ⟨by rfl, ?_⟩) ?_ ?_
 rotate_left
 ·(
 intro w'
 go_simp
 with_reducible rfl
 )
 rotate_left
 ·(
 simp only [Act.put, List.setIfInBounds_toArray, List.set_cons_zero, List.set_cons_succ, i64_w, i32_w]
 rfl
 )
 refine pure_ (i := 8) (N := some 43) (v := ?_) (a' := ?_) #[true, true, true, true, true, true, true, true, true, true, false, false] rfl rfl (any_of HT_.out kr) (fun _ _ _ h => h) (Or.inl ⟨by rfl, ?_⟩) ?_ ?_
 rotate_left
 ·(
 intro w'
 go_simp
 with_reducible rfl
 )
 rotate_left
 ·(
 simp only [Act.put, List.setIfInBounds_toArray, List.set_cons_zero, List.set_cons_succ, i64_w, i32_w]
 rfl
 )
 exact norm_ (by simp only [putAll, Act.put, List.setIfInBounds_toArray, List.set_cons_zero, List.set_cons_succ]) (hCont (b0) _ ⟨hHeld, (oR a8), (bK a9), (bK b2), (bK b5), d7.out, d8.out, b3.out, b7.out, b8.out, b9.out, bB⟩)
 )
 )
 rintro b0 c6 ⟨hS_, k5, k6, k7, k8, k9, l0, l1, l2, l3, l4, j6⟩
 have b5 : Aside0 (c6.heap[b0]? = some (.cells #[.int .i64 0, .int .i64 0, .bool false, .bool false] 27 (0, 0))) := ⟨k8⟩
 have d7 : Aside0 (w.heap.size ≤ b0) := ⟨k9⟩
 have d8 : Aside0 (w.heap.size ≤ b0) := ⟨l0⟩
 have b3 : Aside0 (b6 ≠ b0) := ⟨l1⟩
 have b7 : Aside0 (b0 ≠ b6) := ⟨l2⟩
 have b8 : Aside0 (c0 ≠ b0) := ⟨l3⟩
 have b9 : Aside0 (b0 ≠ c0) := ⟨l4⟩
 replace a8 : Aside0 (Kd.R k27 27 c6 w.heap.size (fun k_ => k_ ≠ c0 ∧ k_ ≠ b0) (.slice (some b4) b1.length g8) b1) := ⟨k5⟩
 replace a9 : Aside0 (c6.heap[b6]? = some (.cells #[.int .i64 a0_0, .int .i64 a0_1] 25 (0, 0))) := ⟨k6⟩
 replace b2 : Aside0 (c6.heap[c0]? = some (.cells #[.int .i64 a1_0, .int .i64 a1_1, .bool a1_2, .bool a1_3] 27 (0, 0))) := ⟨k7⟩
 replace HB : Aside0 (Below w.heap.size w c6) := ⟨j6⟩
 clear k5 k6 k7 k8 k9 l0 l1 l2 l3 l4 j6
 have hHeld : c6.cell? ⟨b6, 0, none⟩ = some (.int .i64 a0_0) ∧ c6.cell? ⟨b6, 1, none⟩ = some (.int .i64 a0_1) ∧ c6.cell? (b4.add ((a7).toNat * 4)) = some (.int .i64 ((rd_T27 b1 a7).f0)) ∧ c6.cell? ⟨(b4.add ((a7).toNat * 4)).block, (b4.add ((a7).toNat * 4)).off + 1, none⟩ = some (.int .i64 ((rd_T27 b1 a7).f1)) ∧ c6.cell? ⟨(b4.add ((a7).toNat * 4)).block, (b4.add ((a7).toNat * 4)).off + 2, none⟩ = some (.bool ((rd_T27 b1 a7).f2)) ∧ c6.cell? ⟨(b4.add ((a7).toNat * 4)).block, (b4.add ((a7).toNat * 4)).off + 3, none⟩ = some (.bool ((rd_T27 b1 a7).f3)) := hS_
 refine norm_ (a' := ?_) ?_ ?_
 rotate_left
 ·(
 simp only [putAll, Act.put, List.setIfInBounds_toArray, List.set_cons_zero, List.set_cons_succ]
 rfl
 )
 refine one_ (i := 10) (N := none) #[true, true, true, true, true, true, true, true, true, true, true, false] rfl rfl (one_of HT_.out kr) (by decide) (fun K hK => ?_)
 have r5 : c6.cell? ⟨b0, 0, none⟩ = some (.int .i64 0) := (blk_cell b5.out 0).trans rfl
 have p7 := blk_frozen b5.out 0
 have l7 := b3.out
 have l8 := b8.out
 have l9 := b7.out
 have m0 := b9.out
 have r6 : c6.cell? ⟨b0, 1, none⟩ = some (.int .i64 0) := (blk_cell b5.out 1).trans rfl
 have p8 := blk_frozen b5.out 1
 have m1 := b3.out
 have m2 := b8.out
 have m3 := b7.out
 have m4 := b9.out
 have r7 : c6.cell? ⟨b0, 2, none⟩ = some (.bool false) := (blk_cell b5.out 2).trans rfl
 have p9 := blk_frozen b5.out 2
 have m5 := b3.out
 have m6 := b8.out
 have m7 := b7.out
 have m8 := b9.out
 have r8 : c6.cell? ⟨b0, 3, none⟩ = some (.bool false) := (blk_cell b5.out 3).trans rfl
 have q0 := blk_frozen b5.out 3
 have m9 := b3.out
 have n0 := b8.out
 have n1 := b7.out
 have n2 := b9.out
 refine skip_ (w1 := ?_) (by rfl) rfl ?_ ?_
 rotate_left
 ·(
 go_simp
 rfl
 )
 refine hK.out _ _ ⟨((cell_far (p := ⟨b0, _, none⟩) b3.out _).trans (((cell_far (p := ⟨b0, _, none⟩) b3.out _).trans (((cell_far (p := ⟨b0, _, none⟩) b3.out _).trans (((cell_far (p := ⟨b0, _, none⟩) b3.out _).trans (hHeld.1)))))))), ((cell_far (p := ⟨b0, _, none⟩) b3.out _).trans (((cell_far (p := ⟨b0, _, none⟩) b3.out _).trans (((cell_far (p := ⟨b0, _, none⟩) b3.out _).trans (((cell_far (p := ⟨b0, _, none⟩) b3.out _).trans (hHeld.2.1)))))))), ((cell_far (p := ⟨b0, _, none⟩) (by first | exact Kd.own_blk (Kd.R_away a8.out (fun _ hk => hk.2)) | (rw [add_block]; exact Kd.own_blk (Kd.R_away a8.out (fun _ hk => hk.2))) | (show (Addr.add _ _).block ≠ _; rw [add_block]; exact Kd.own_blk (Kd.R_away a8.out (fun _ hk => hk.2))) | (dsimp only; exact Kd.own_blk (Kd.R_away a8.out (fun _ hk => hk.2)))) _).trans (((cell_far (p := ⟨b0, _, none⟩) (by first | exact Kd.own_blk (Kd.R_away a8.out (fun _ hk => hk.2)) | (rw [add_block]; exact Kd.own_blk (Kd.R_away a8.out (fun _ hk => hk.2))) | (show (Addr.add _ _).block ≠ _; rw [add_block]; exact Kd.own_blk (Kd.R_away a8.out (fun _ hk => hk.2))) | (dsimp only; exact Kd.own_blk (Kd.R_away a8.out (fun _ hk => hk.2)))) _).trans (((cell_far (p := ⟨b0, _, none⟩) (by first | exact Kd.own_blk (Kd.R_away a8.out (fun _ hk => hk.2)) | (rw [add_block]; exact Kd.own_blk (Kd.R_away a8.out (fun _ hk => hk.2))) | (show (Addr.add _ _).block ≠ _; rw [add_block]; exact Kd.own_blk (Kd.R_away a8.out (fun _ hk => hk.2))) | (dsimp only; exact Kd.own_blk (Kd.R_away a8.out (fun _ hk => hk.2)))) _).trans (((cell_far (p := ⟨b0, _, none⟩) (by first | exact Kd.own_blk (Kd.R_away a8.out (fun _ hk => hk.2)) | (rw [add_block]; exact Kd.own_blk (Kd.R_away a8.out (fun _ hk => hk.2))) | (show (Addr.add _ _).block ≠ _; rw [add_block]; exact Kd.own_blk (Kd.R_away a8.out (fun _ hk => hk.2))) | (dsimp only; exact Kd.own_blk (Kd.R_away a8.out (fun _ hk => hk.2)))) _).trans (hHeld.2.2.1)))))))), ((cell_far (p := ⟨b0, _, none⟩) (by first | exact Kd.own_blk (Kd.R_away a8.out (fun _ hk => hk.2)) | (rw [add_block]; exact Kd.own_blk (Kd.R_away a8.out (fun _ hk => hk.2))) | (show (Addr.add _ _).block ≠ _; rw [add_block]; exact Kd.own_blk (Kd.R_away a8.out (fun _ hk => hk.2))) | (dsimp only; exact Kd.own_blk (Kd.R_away a8.out (fun _ hk => hk.2)))) _).trans (((cell_far (p := ⟨b0, _, none⟩) (by first | exact Kd.own_blk (Kd.R_away a8.out (fun _ hk => hk.2)) | (rw [add_block]; exact Kd.own_blk (Kd.R_away a8.out (fun _ hk => hk.2))) | (show (Addr.add _ _).block ≠ _; rw [add_block]; exact Kd.own_blk (Kd.R_away a8.out (fun _ hk => hk.2))) | (dsimp only; exact Kd.own_blk (Kd.R_away a8.out (fun _ hk => hk.2)))) _).trans (((cell_far (p := ⟨b0, _, none⟩) (by first | exact Kd.own_blk (Kd.R_away a8.out (fun _ hk => hk.2)) | (rw [add_block]; exact Kd.own_blk (Kd.R_away a8.out (fun _ hk => hk.2))) | (show (Addr.add _ _).block ≠ _; rw [add_block]; exact Kd.own_blk (Kd.R_away a8.out (fun _ hk => hk.2))) | (dsimp only; exact Kd.own_blk (Kd.R_away a8.out (fun _ hk => hk.2)))) _).trans (((cell_far (p := ⟨b0, _, none⟩) (by first | exact Kd.own_blk (Kd.R_away a8.out (fun _ hk => hk.2)) | (rw [add_block]; exact Kd.own_blk (Kd.R_away a8.out (fun _ hk => hk.2))) | (show (Addr.add _ _).block ≠ _; rw [add_block]; exact Kd.own_blk (Kd.R_away a8.out (fun _ hk => hk.2))) | (dsimp only; exact Kd.own_blk (Kd.R_away a8.out (fun _ hk => hk.2)))) _).trans (hHeld.2.2.2.1)))))))), ((cell_far (p := ⟨b0, _, none⟩) (by first | exact Kd.own_blk (Kd.R_away a8.out (fun _ hk => hk.2)) | (rw [add_block]; exact Kd.own_blk (Kd.R_away a8.out (fun _ hk => hk.2))) | (show (Addr.add _ _).block ≠ _; rw [add_block]; exact Kd.own_blk (Kd.R_away a8.out (fun _ hk => hk.2))) | (dsimp only; exact Kd.own_blk (Kd.R_away a8.out (fun _ hk => hk.2)))) _).trans (((cell_far (p := ⟨b0, _, none⟩) (by first | exact Kd.own_blk (Kd.R_away a8.out (fun _ hk => hk.2)) | (rw [add_block]; exact Kd.own_blk (Kd.R_away a8.out (fun _ hk => hk.2))) | (show (Addr.add _ _).block ≠ _; rw [add_block]; exact Kd.own_blk (Kd.R_away a8.out (fun _ hk => hk.2))) | (dsimp only; exact Kd.own_blk (Kd.R_away a8.out (fun _ hk => hk.2)))) _).trans (((cell_far (p := ⟨b0, _, none⟩) (by first | exact Kd.own_blk (Kd.R_away a8.out (fun _ hk => hk.2)) | (rw [add_block]; exact Kd.own_blk (Kd.R_away a8.out (fun _ hk => hk.2))) | (show (Addr.add _ _).block ≠ _; rw [add_block]; exact Kd.own_blk (Kd.R_away a8.out (fun _ hk => hk.2))) | (dsimp only; exact Kd.own_blk (Kd.R_away a8.out (fun _ hk => hk.2)))) _).trans (((cell_far (p := ⟨b0, _, none⟩) (by first | exact Kd.own_blk (Kd.R_away a8.out (fun _ hk => hk.2)) | (rw [add_block]; exact Kd.own_blk (Kd.R_away a8.out (fun _ hk => hk.2))) | (show (Addr.add _ _).block ≠ _; rw [add_block]; exact Kd.own_blk (Kd.R_away a8.out (fun _ hk => hk.2))) | (dsimp only; exact Kd.own_blk (Kd.R_away a8.out (fun _ hk => hk.2)))) _).trans (hHeld.2.2.2.2.1)))))))), ((cell_far (p := ⟨b0, _, none⟩) (by first | exact Kd.own_blk (Kd.R_away a8.out (fun _ hk => hk.2)) | (rw [add_block]; exact Kd.own_blk (Kd.R_away a8.out (fun _ hk => hk.2))) | (show (Addr.add _ _).block ≠ _; rw [add_block]; exact Kd.own_blk (Kd.R_away a8.out (fun _ hk => hk.2))) | (dsimp only; exact Kd.own_blk (Kd.R_away a8.out (fun _ hk => hk.2)))) _).trans (((cell_far (p := ⟨b0, _, none⟩) (by first | exact Kd.own_blk (Kd.R_away a8.out (fun _ hk => hk.2)) | (rw [add_block]; exact Kd.own_blk (Kd.R_away a8.out (fun _ hk => hk.2))) | (show (Addr.add _ _).block ≠ _; rw [add_block]; exact Kd.own_blk (Kd.R_away a8.out (fun _ hk => hk.2))) | (dsimp only; exact Kd.own_blk (Kd.R_away a8.out (fun _ hk => hk.2)))) _).trans (((cell_far (p := ⟨b0, _, none⟩) (by first | exact Kd.own_blk (Kd.R_away a8.out (fun _ hk => hk.2)) | (rw [add_block]; exact Kd.own_blk (Kd.R_away a8.out (fun _ hk => hk.2))) | (show (Addr.add _ _).block ≠ _; rw [add_block]; exact Kd.own_blk (Kd.R_away a8.out (fun _ hk => hk.2))) | (dsimp only; exact Kd.own_blk (Kd.R_away a8.out (fun _ hk => hk.2)))) _).trans (((cell_far (p := ⟨b0, _, none⟩) (by first | exact Kd.own_blk (Kd.R_away a8.out (fun _ hk => hk.2)) | (rw [add_block]; exact Kd.own_blk (Kd.R_away a8.out (fun _ hk => hk.2))) | (show (Addr.add _ _).block ≠ _; rw [add_block]; exact Kd.own_blk (Kd.R_away a8.out (fun _ hk => hk.2))) | (dsimp only; exact Kd.own_blk (Kd.R_away a8.out (fun _ hk => hk.2)))) _).trans (hHeld.2.2.2.2.2))))))))⟩ (fun hHeld => ?_)
 clear hK K
 refine pure_ (i := 11) (N := some 12) (v := ?_) (a' := ?_) #[true, true, true, true, true, true, true, true, true, true, true, true] rfl rfl (any_of HT_.out kr) (fun _ _ _ h => h) (Or.inl ⟨by rfl, ?_⟩) ?_ ?_
 rotate_left
 ·(
 intro w'
 go_simp
 with_reducible rfl
 )
 rotate_left
 ·(
 simp only [Act.put, List.setIfInBounds_toArray, List.set_cons_zero, List.set_cons_succ, i64_w, i32_w]
 rfl
 )
 refine done_ (done_of HT_.out kr) ?_
 have q1 := b7.out
 have q2 := b3.out
 have q3 := b9.out
 have q4 := b8.out
 obtain ⟨n3, n4, n5, n6, n7, n8, n9, o0⟩ := cf4 b5
 try go_wp2_with (first | ((with_reducible refine gate_builtin (b := .append) (xs := #[.tmp 44, .tmp 46]) rfl ?_); at_builtin; refine Kd.R_append k27 (w0 := w) w.heap.size rfl (.tmp 44) (.tmp 46) 53 27 (.agg #[(.int .i64 0), (.int .i64 0), (.bool false), (.bool false)]) 24 rfl Tryz.underlying53 info27 rfl (by decide) (by omega) (.slice (some b4) b1.length g8) b1 (⟨c1, c2, c3, c4⟩ : S27) [.int .i64 c1, .int .i64 c2, .bool c3, .bool c4] (fun k_ => k_ ≠ c0 ∧ k_ ≠ b0) (fun _ => False) rfl (by first | (go_simp; done) | (go_simp; rfl)) ?aP (fun _ hk => hk.elim) ?aF ?aO ?aB ?aS ?aL ?_; (case aP => exact k27_mkM _ _ _ (⟨c1, c2, c3, c4⟩ : S27)); (case aB => exact bB); (case aF => exact (fun k_ hk => ⟨Kd.freshB (g := c0) (o := .cells #[.int .i64 a1_0, .int .i64 a1_1, .bool a1_2, .bool a1_3] 27 (0, 0)) (bK b2) k_ hk, Kd.freshB (g := b0) (o := .cells #[.int .i64 c1, .int .i64 c2, .bool c3, .bool c4] 27 (0, 0)) (bK b5) k_ hk⟩)); (case aO => exact (by (with_reducible repeat (first | apply Kd.R_alloc | apply Kd.R_drewN | apply Kd.R_drew)); exact Kd.R_mono (Kd.R_far (p := ⟨b0, 3, none⟩) (Kd.R_far (p := ⟨b0, 2, none⟩) (Kd.R_far (p := ⟨b0, 1, none⟩) (Kd.R_far (p := ⟨b0, 0, none⟩) (Kd.R_mono a8.out (fun k_ hk => (⟨hk, hk.2⟩ : _ ∧ k_ ≠ b0))) (fun _ hk => hk.2) (.int .i64 c1)) (fun _ hk => hk.2) (.int .i64 c2)) (fun _ hk => hk.2) (.bool c3)) (fun _ hk => hk.2) (.bool c4)) (fun _ hk => ⟨hk.1.1, hk.1.2⟩))); (case aS => exact (below_size bB)); (case aL => have := k0.out; omega); intro r9 u3 ho hb hg hat; rw [← k2.out] at ho; have k3 := Aside0.mk (ho); replace a9 := Aside0.mk (blk_grown (g := b6) (o := .cells #[.int .i64 a0_0, .int .i64 a0_1] 25 (0, 0)) (bK a9) hg (Kd.R_ne a8.out a9.out (by decide))); replace b2 := Aside0.mk (blk_grown (g := c0) (o := .cells #[.int .i64 a1_0, .int .i64 a1_1, .bool a1_2, .bool a1_3] 27 (0, 0)) (bK b2) hg (Kd.R_away a8.out (fun _ hk => hk.1))); replace b5 := Aside0.mk (blk_grown (g := b0) (o := .cells #[.int .i64 c1, .int .i64 c2, .bool c3, .bool c4] 27 (0, 0)) (bK b5) hg (Kd.R_away a8.out (fun _ hk => hk.2))); replace HB := Aside0.mk (hb); clear a8 ho hb hg hat))
 go_roundg g0
 case measure => have := HK1.out; have := HJ12.out; omega
 case rel => exact ⟨(j4), (c7 ++ c5), (wrap64 (a7 + 1)), sR, sR, H', ⟨by have := HK1.out; have := HJ12.out; omega⟩, ⟨by (with_reducible repeat (first | apply Kd.R_alloc | apply Kd.R_drewN | apply Kd.R_drew)); exact Kd.R_mono k3.out (fun _ hk => hk.1)⟩, (bA a9), (bA b2), ⟨bB⟩⟩
 )
 ·(
 rw [if_neg g4] at H
 exact absurd H (by simp)
 )
 )
 ·(
 rw [if_neg h7] at H
 exact absurd H (by simp)
 )
 )
 ·(
 rw [if_neg h6] at H
 exact absurd H (by simp)
 )
 )
 ·(
 rw [if_neg h5] at H
 exact absurd H (by simp)
 )
 )
 ·(
 replace h4 := Bool.eq_false_iff.mpr h4
 subst h4
 rw [if_neg nft] at H
 simp only [Option.some.injEq, Prod.mk.injEq] at H
 obtain ⟨rfl, rfl⟩ := H
 go_wp2
 go_ret2
 exact ⟨_, sE, by (with_reducible repeat (first | apply Kd.R_alloc | apply Kd.R_drewN | apply Kd.R_drew)); exact Kd.R_mono a8.out (fun _ hk => trivial), bI⟩
 )
 )
 )
 )
 )

end Go.Proofs.YtlmiaadpnbehgaaGreatDoor.PFnBeamsEnd
