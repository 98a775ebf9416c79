-- Written by xprint.py, a program of this session, for this seat; Lean checks it.
import Derived.Test.YthfbjofmcniogaaVN
import Derived.Test.YthfbjofmcniogaaPFnBeamsGox0
import Derived.Test.YthfbjofmcniogaaPFnBeamsGox2
import Derived.Test.YthfbjofmcniogaaPFnBeamsGox5
namespace Go.Proofs.Ythfbjofmcniogaa.PFnBeamsGo
open Go.Proofs.YthfbjofmcniogaaV Go.RowKit Go.Proofs.YthfbjofmcniogaaW.PrintWords Go.Proofs.YthfbjofmcniogaaW.PrintLast Go.Proofs.YthfbjofmcniogaaW.PrintMore
attribute [local go_sem] max2_int min2_int max_two min_two max_three min_three max_four min_four   -- for this text's walks alone
set_option linter.unusedVariables false
set_option linter.unusedSimpArgs false

/-! ### spec_beLong: function 40 -/
def spec_beLong.f (a0_0 : Int) (a0_1 : Int) : Option (Int) := some (wrap64 ((wrap64 ((wrap64 (4 * a0_0)) * a0_1)) + 1))
set_option maxHeartbeats 8000000 in
set_option maxRecDepth 100000 in
theorem spec_beLong.calls (a0_0 : Int) (a0_1 : Int) (r : Int) (w : World) (h : spec_beLong.f a0_0 a0_1 = some r) :
    Calls Try.prog 40 #[.agg #[.int .i64 a0_0, .int .i64 a0_1]] w fun e w' => e = .returned (.int .i64 r) ∧ Below w.heap.size w w' := by
 have b4 := Try.underlying28
 have HB := Aside0.mk (Below.refl w.heap.size w)
 have H := h
 unfold spec_beLong.f at H
 clear h
 obtain rfl := Option.some.inj H
 go_enter Try.func40, Try.ntmps40
 go_wp2_with (first | ((with_reducible refine gate_dst (N := 1) rfl ?_); refine box_ (cs := #[.int .i64 a0_0, .int .i64 a0_1]) (t := 28) fun b1 hg w2 hbox hb => ?_; have a6 := Aside0.mk (hbox); have b2 := bS HB hg; have b3 := bS HB hg; replace HB := Aside0.mk (below_step bB hb); clear hb hbox hg; obtain ⟨a7, a8, a9, b0⟩ := cf2 a6))
 go_ret
 exact ⟨sE, bI⟩

/-! ### spec_beTimes: function 41 -/
def spec_beTimes.l0 : Nat → List Int → List (S30) → Int → Int → Int → Int → Option (List Int)
  | 0, _, _, _, _, _, _ => none
  | k + 1, x5, x16, x17, x18, x167000, x167001 => if x18 < x17 then (if 0 ≤ x18 then (if x18 < (x16.length : Int) then (if 0 ≤ (wrap64 ((wrap64 (((rd_T30 x16 x18).f0) * (wrap64 (x167001 + 1)))) + ((rd_T30 x16 x18).f1))) then (if (wrap64 ((wrap64 (((rd_T30 x16 x18).f0) * (wrap64 (x167001 + 1)))) + ((rd_T30 x16 x18).f1))) < (x5.length : Int) then (spec_beTimes.l0 k (x5.set ((wrap64 ((wrap64 (((rd_T30 x16 x18).f0) * (wrap64 (x167001 + 1)))) + ((rd_T30 x16 x18).f1))) : Int).toNat (wrap64 ((rd x5 (wrap64 ((wrap64 (((rd_T30 x16 x18).f0) * (wrap64 (x167001 + 1)))) + ((rd_T30 x16 x18).f1)))) + 1))) x16 x17 (wrap64 (x18 + 1)) x167000 x167001) else (none)) else (none)) else (none)) else (none)) else (some x5)
def spec_beTimes.f (k : Nat) (a0_0 : Int) (a0_1 : Int) (l1 : List (S30)) : Option (List Int) := if 0 ≤ (wrap64 ((wrap64 (a0_0 + 1)) * (wrap64 (a0_1 + 1)))) then (if (wrap64 ((wrap64 (a0_0 + 1)) * (wrap64 (a0_1 + 1))) : Int).toNat ≤ 35184372088832 then (spec_beTimes.l0 k (List.replicate (wrap64 ((wrap64 (a0_0 + 1)) * (wrap64 (a0_1 + 1))) : Int).toNat 0) l1 (l1.length : Int) 0 a0_0 a0_1) else (none)) else (none)
theorem spec_beTimes.mono_l : ∀ k, (∀ y0 y1 y2 y3 y4 y5, LeO (spec_beTimes.l0 k y0 y1 y2 y3 y4 y5) (spec_beTimes.l0 (k + 1) y0 y1 y2 y3 y4 y5))
  | 0 => fun _ _ _ _ _ _ r h => by simp [spec_beTimes.l0] at h
  | k + 1 => by
    have ih0 := spec_beTimes.mono_l k
    · intro y0 y1 y2 y3 y4 y5
      unfold spec_beTimes.l0
      repeat' first
      | (with_reducible exact ih0 _ _ _ _ _ _)
      | (with_reducible exact LeO.refl _)
      | (with_reducible exact LeO.none _)
      | (with_reducible refine LeO.ite ?_ ?_)
      | (with_reducible refine LeO.bind ?_ (fun _ => ?_))
      | exact ih0 _ _ _ _ _ _
      | exact LeO.none _
      | refine LeO.ite ?_ ?_
      | refine LeO.bind ?_ (fun _ => ?_)
theorem spec_beTimes.mono : ∀ a0 a1 a2 k, LeO (spec_beTimes.f k a0 a1 a2) (spec_beTimes.f (k + 1) a0 a1 a2) := by
  intro a0 a1 a2 k
  have ih0 := spec_beTimes.mono_l k
  unfold spec_beTimes.f
  repeat' first
      | (with_reducible exact ih0 _ _ _ _ _ _)
      | (with_reducible exact LeO.refl _)
      | (with_reducible exact LeO.none _)
      | (with_reducible refine LeO.ite ?_ ?_)
      | (with_reducible refine LeO.bind ?_ (fun _ => ?_))
      | exact ih0 _ _ _ _ _ _
      | exact LeO.none _
      | refine LeO.ite ?_ ?_
      | refine LeO.bind ?_ (fun _ => ?_)
set_option maxHeartbeats 8000000 in
set_option maxRecDepth 100000 in
theorem spec_beTimes.calls (k : Nat) (a0_0 : Int) (a0_1 : Int) (A1 : Option Addr) (c1 : Nat) (l1 : List (S30)) (r : List Int) (w : World) (hr1 : Kd.C k30 w A1 l1.length l1) (hc1 : l1.length ≤ c1) (h : spec_beTimes.f k a0_0 a0_1 l1 = some r) :
    Calls Try.prog 41 #[.agg #[.int .i64 a0_0, .int .i64 a0_1], .slice A1 l1.length c1] w fun e w' => ∃ v0_ : Value, e = .returned (v0_) ∧ Kd.R (Kd.int .i64) 3 w' w.heap.size (fun _ => True) v0_ r ∧ Below w.heap.size w w' := by
 have m4 := Try.underlying28
 have m5 := Try.underlying30
 have k2 := Aside0.mk hr1
 have n0 := Aside0.mk hc1
 clear hr1 hc1
 have HB := Aside0.mk (Below.refl w.heap.size w)
 have H := h
 unfold spec_beTimes.f at H
 clear h
 obtain ⟨b9, c6⟩ : ∃ j_ : Int, (wrap64 ((wrap64 (a0_0 + 1)) * (wrap64 (a0_1 + 1)))) = j_ := ⟨_, rfl⟩
 (first | rw [c6] at H | simp only [c6] at H)
 have k8 : (IntKind.i64.wrap ((wrap64 (a0_0 + 1)) * (wrap64 (a0_1 + 1)))) = b9 := (i64_w _).trans c6
 by_cases c4 : 0 ≤ (b9)
 ·(
 rw [if_pos c4] at H
 have h0 := eq_true c4
 have h1 : decide (0 ≤ (b9)) = true := decide_eq_true c4
 clear c4
 by_cases c5 : (b9 : Int).toNat ≤ 35184372088832
 ·(
 rw [if_pos c5] at H
 have h2 := eq_true c5
 have h3 : decide ((b9 : Int).toNat ≤ 35184372088832) = true := decide_eq_true c5
 clear c5
 obtain ⟨e5, b3⟩ : ∃ y_ : List Int, y_ = (List.replicate (b9 : Int).toNat 0) := ⟨_, rfl⟩
 replace H : (spec_beTimes.l0 k e5 l1 (l1.length : Int) 0 a0_0 a0_1) = some r := by first | (rw [b3]; with_reducible exact H) | (have c0 := (Option.bind_some _ _).symm.trans H; rw [b3]; with_reducible exact c0) | (have c0 := (Option.bind_some _ _).symm.trans H; with_reducible exact c0) | with_reducible exact H | (rw [b3]; exact H) | exact H
 have d9 := Aside0.mk b3
 clear b3
 have H' := Aside0.mk H
 clear H
 go_enter Try.func41, Try.ntmps41
 go_wp2_with (first | ((with_reducible refine gate_dst (N := 2) rfl ?_); refine box_ (cs := #[.int .i64 a0_0, .int .i64 a0_1]) (t := 28) fun c7 hg w6 hbox hb => ?_; have a7 := Aside0.mk (hbox); have k9 := bS HB hg; have l0 := bS HB hg; replace HB := Aside0.mk (below_step bB hb); clear hb hbox hg; obtain ⟨e6, e7, e8, e9⟩ := cf2 a7) | ((with_reducible refine gate_dst (N := 15) rfl ?_); refine Kd.R_make (Kd.int .i64) _ 3 rfl (N := 15) rfl 40 _ _ rfl b9 rfl rfl Try.underlying40 (.int .i64 0) 8 info3 rfl (by decide) (by omega) 0 (ok := fun _ => True) (okp := fun _ => True) rfl (fun _ hk => hk) trivial (of_decide_eq_true asm) (Nat.le_trans (Nat.mul_le_mul_right _ (of_decide_eq_true asm : b9.toNat ≤ 35184372088832)) (by omega)) (Below.refl _ _) (Nat.le_refl _) ?_; intro g0 w8 c9 hb hg_ hnew_; clear hg_ hnew_; (first | rw [← d9.out] at c9 | (simp only [Int.reduceToNat] at c9; rw [← d9.out] at c9)); have g7 := Aside0.mk (Kd.R_lower c9 (below_size bB)); replace a7 := bQ a7 hb; replace HB := Aside0.mk (below_step bB hb); clear hb c9))
 go_loopg [18] k (fun kq k3 w' => ∃ (b0 : List Int) (a6 : Int), k3 = .int .i64 a6 ∧ Aside0 (spec_beTimes.l0 kq b0 l1 (l1.length : Int) a6 a0_0 a0_1 = some r) ∧ Aside0 (kq ≤ k) ∧ Aside0 (Kd.R (Kd.int .i64) 3 w' w.heap.size (fun _ => True) g0 b0) ∧ Aside0 (w'.heap[c7]? = some (.cells #[.int .i64 a0_0, .int .i64 a0_1] 28 (0, 0))) ∧ Aside0 (Below w.heap.size w w'))
 case atStart => exact ⟨(e5), (0), sR, H', ⟨Nat.le_refl _⟩, ⟨oR g7⟩, (bA a7), ⟨bB⟩⟩
 case round => (
 clear H'
 try clear h0
 try clear h1
 try clear h2
 try clear h3
 try clear e6
 try clear e7
 try clear e8
 try clear e9
 obtain ⟨b0, a6, rfl, HA, HK1, a9, a7, HB⟩ := hrel
 cases gk with
 | zero => exact absurd HA.out (by simp [spec_beTimes.l0])
 | succ k1 => (
 have H := HA.out
 clear HA
 simp only [spec_beTimes.l0] at H
 by_cases c2 : a6 < (l1.length : Int)
 ·(
 rw [if_pos c2] at H
 have g8 : decide (a6 < (l1.length : Int)) = true := decide_eq_true c2
 clear c2
 by_cases e0 : 0 ≤ a6
 ·(
 rw [if_pos e0] at H
 have l2 : decide (0 ≤ a6) = true := decide_eq_true e0
 clear e0
 by_cases e1 : a6 < (l1.length : Int)
 ·(
 rw [if_pos e1] at H
 have l3 : decide (a6 < (l1.length : Int)) = true := decide_eq_true e1
 clear e1
 obtain ⟨a8, c8⟩ : ∃ j_ : Int, (wrap64 ((wrap64 (((rd_T30 l1 a6).f0) * (wrap64 (a0_1 + 1)))) + ((rd_T30 l1 a6).f1))) = j_ := ⟨_, rfl⟩
 (first | rw [c8] at H | simp only [c8] at H)
 have k4 : (IntKind.i64.wrap ((wrap64 (((rd_T30 l1 a6).f0) * (wrap64 (a0_1 + 1)))) + ((rd_T30 l1 a6).f1))) = a8 := (i64_w _).trans c8
 by_cases e2 : 0 ≤ (a8)
 ·(
 rw [if_pos e2] at H
 have l4 : decide (0 ≤ (a8)) = true := decide_eq_true e2
 clear e2
 by_cases e3 : (a8) < (b0.length : Int)
 ·(
 rw [if_pos e3] at H
 have l5 : decide ((a8) < (b0.length : Int)) = true := decide_eq_true e3
 clear e3
 obtain ⟨d2, b4⟩ : ∃ y_ : List Int, y_ = (b0.set ((a8) : Int).toNat (wrap64 ((rd b0 (a8)) + 1))) := ⟨_, rfl⟩
 replace H : (spec_beTimes.l0 k1 d2 l1 (l1.length : Int) (wrap64 (a6 + 1)) a0_0 a0_1) = some r := by first | (rw [b4]; with_reducible exact H) | (have c0 := (Option.bind_some _ _).symm.trans H; rw [b4]; with_reducible exact c0) | (have c0 := (Option.bind_some _ _).symm.trans H; with_reducible exact c0) | with_reducible exact H | (rw [b4]; exact H) | exact H
 have g9 := Aside0.mk b4
 clear b4
 have H' := Aside0.mk H
 clear H
 have d3 : 0 ≤ (a6 : Int) := of_decide_eq_true asm
 have d4 : a6 < (l1.length : Int) := of_decide_eq_true asm
 obtain ⟨l6, h4, b5, b6, b7, b8⟩ := at_T30 k2.out a6 d3 d4
 cases h4
 try replace b5 := (HB.out.cell (World.block_lt_of_cell? w _ b5)).trans b5
 try replace b6 := (HB.out.cell (World.block_lt_of_cell? w _ b6)).trans b6
 try replace b7 := (HB.out.cell (World.block_lt_of_cell? w _ b7)).trans b7
 try replace b8 := (HB.out.cell (World.block_lt_of_cell? w _ b8)).trans b8
 replace d3 := eq_true d3
 replace d4 := eq_true d4
 go_wp2_with (first | ((with_reducible refine gate_dst (N := 7) rfl ?_); refine box_ (cs := #[.int .i64 0, .int .i64 0, .bool false, .bool false]) (t := 30) fun b1 hg k5 hbox hb => ?_; have b2 := Aside0.mk (hbox); have l7 := bS HB hg; have l8 := bS HB hg; have d0 := bL a7 hg; have d1 := bM a7 hg; replace a9 := Aside0.mk (Kd.R_below (oR a9) hb); replace a7 := bQ a7 hb; replace HB := Aside0.mk (below_step bB hb); clear hb hbox hg; have l9 := d1.out; have m0 := d0.out; obtain ⟨i0, i1, i2, i3, i4, i5, i6, i7⟩ := cf4 b2) | ((with_reducible refine gate_store (t := 30) (p := 7) rfl ?_); refine store_event (t := 30) (p := 7) (v := ?vo_w20) (w1 := ((((k5.setCell ⟨b1, 0, none⟩ (.int .i64 ((rd_T30 l1 a6).f0))).setCell ⟨b1, 1, none⟩ (.int .i64 ((rd_T30 l1 a6).f1))).setCell ⟨b1, 2, none⟩ (.bool ((rd_T30 l1 a6).f2))).setCell ⟨b1, 3, none⟩ (.bool ((rd_T30 l1 a6).f3)))) ?hg ?ho ?hn ?hr ?_; (case ho => rfl); (case hg => rfl); (case hn => rfl); (case hr => first | (go_simp; done) | (go_simp; rfl)); intro c3 hw; replace a9 : Aside0 (Kd.R (Kd.int .i64) 3 c3 w.heap.size (fun _ => True) g0 b0) := ⟨(by rw [hw]; exact (by (with_reducible repeat (first | apply Kd.R_alloc | apply Kd.R_drewN | apply Kd.R_drew)); exact Kd.R_mono (Kd.R_far (p := ⟨b1, 3, none⟩) (Kd.R_far (p := ⟨b1, 2, none⟩) (Kd.R_far (p := ⟨b1, 1, none⟩) (Kd.R_far (p := ⟨b1, 0, none⟩) (Kd.R_types a9.out b2.out (by decide)) (fun _ hk => hk.2) (.int .i64 ((rd_T30 l1 a6).f0))) (fun _ hk => hk.2) (.int .i64 ((rd_T30 l1 a6).f1))) (fun _ hk => hk.2) (.bool ((rd_T30 l1 a6).f2))) (fun _ hk => hk.2) (.bool ((rd_T30 l1 a6).f3))) (fun _ hk => trivial)))⟩; replace a7 : Aside0 (c3.heap[c7]? = some (.cells #[.int .i64 a0_0, .int .i64 a0_1] 28 (0, 0))) := ⟨(by rw [hw]; exact (bK a7))⟩; replace b2 : Aside0 (c3.heap[b1]? = some (.cells #[.int .i64 ((rd_T30 l1 a6).f0), .int .i64 ((rd_T30 l1 a6).f1), .bool ((rd_T30 l1 a6).f2), .bool ((rd_T30 l1 a6).f3)] 30 (0, 0))) := ⟨(by rw [hw]; exact (bK b2))⟩; replace HB : Aside0 (Below w.heap.size w c3) := ⟨(by rw [hw]; exact bB)⟩; clear hw; obtain ⟨i9, j0, j1, j2, j3, j4, j5, j6⟩ := cf4 b2; obtain ⟨j7, j8, j9, k0⟩ := cf2 a7; obtain ⟨m6, h5, h6⟩ := Kd.R_slice a9.out; subst h6; have d5 : 0 ≤ ((a8) : Int) := of_decide_eq_true asm; have d6 : (a8) < (b0.length : Int) := of_decide_eq_true asm; obtain ⟨m1, h7, e4⟩ := Kd.at_int (Kd.R_reads' a9.out).2.2 (a8) d5 d6; cases h7; replace d5 := eq_true d5; replace d6 := eq_true d6; have g1 : 0 ≤ ((a8) : Int) := of_decide_eq_true asm; have g2 : ((a8) : Int) < ((b0.length : Int) : Int) := of_decide_eq_true asm; obtain ⟨d7, m7, g3, g4, h8, m8, g5⟩ := Kd.R_form a9.out (by omega); (first | cases g3 | (injection g3 with ea_ en_ ec_; (first | subst ea_ | (injection ea_ with ea_; subst ea_)); subst ec_; clear en_)); have h9 := Aside0.mk g4; have m9 := Aside0.mk g5; clear g4 h8 g5; (first | simp only [add_plain] at e4 | skip); obtain ⟨k6, k7⟩ := Kd.R_celln 0 a9.out ((a8) : Int) g1 g2; replace g1 := eq_true g1; replace g2 := eq_true g2; obtain ⟨m2, m3⟩ := Kd.R_celln 0 a9.out ((a8) : Int) (of_decide_eq_true asm) (of_decide_eq_true asm); have d8 := Kd.R_putg a9.out ((a8) : Int) (wrap64 ((rd b0 (a8)) + 1))) | ((with_reducible refine gate_store (t := 3) (p := 35) rfl ?_); refine store_event (t := 3) (p := 35) (v := ?vo_w25) (w1 := (c3.setCell ⟨d7, ((a8) : Int).toNat, none⟩ (.int .i64 (wrap64 ((rd b0 (a8)) + 1))))) ?hg ?ho ?hn ?hr ?_; (case ho => rfl); (case hg => rfl); (case hn => rfl); (case hr => first | (go_simp; done) | (go_simp; rfl)); intro g6 hw; have hg : c3.grownBy g6 (some d7) := (by rw [hw]; exact d8.2); have hp_ : Kd.R (Kd.int .i64) 3 g6 w.heap.size (fun _ => True) (.slice (some ⟨d7, 0, none⟩) b0.length h5) d2 := (by rw [hw, g9.out]; exact d8.1); clear d8; replace a7 := Aside0.mk (blk_grown (g := c7) (o := .cells #[.int .i64 a0_0, .int .i64 a0_1] 28 (0, 0)) (bK a7) hg (Kd.R_ne a9.out a7.out (by decide))); replace b2 := Aside0.mk (blk_grown (g := b1) (o := .cells #[.int .i64 ((rd_T30 l1 a6).f0), .int .i64 ((rd_T30 l1 a6).f1), .bool ((rd_T30 l1 a6).f2), .bool ((rd_T30 l1 a6).f3)] 30 (0, 0)) (bK b2) hg (Kd.R_ne a9.out b2.out (by decide))); replace a9 := Aside0.mk (hp_); replace HB := Aside0.mk ((by rw [hw]; exact below_set (HB.out) h9.out : Below w.heap.size w g6)); clear hg hw hp_))
 go_roundg k1
 case measure => have := HK1.out; omega
 case rel => exact ⟨(d2), (wrap64 (a6 + 1)), sR, H', ⟨by have := HK1.out; omega⟩, ⟨oR a9⟩, (bA a7), ⟨bB⟩⟩
 )
 ·(
 rw [if_neg e3] at H
 exact absurd H (by simp)
 )
 )
 ·(
 rw [if_neg e2] at H
 exact absurd H (by simp)
 )
 )
 ·(
 rw [if_neg e1] at H
 exact absurd H (by simp)
 )
 )
 ·(
 rw [if_neg e0] at H
 exact absurd H (by simp)
 )
 )
 ·(
 rw [if_neg c2] at H
 have g8 : decide (a6 < (l1.length : Int)) = false := decide_eq_false c2
 clear c2
 obtain rfl := Option.some.inj H
 go_wp2
 go_ret
 exact ⟨_, by first | rfl | (simp [errW_none, errW_some] <;> rfl) | (simp only [← c6]; first | rfl | (simp [errW_none, errW_some] <;> rfl)) | (simp [*, errW_none, errW_some] <;> rfl), by (with_reducible repeat (first | apply Kd.R_alloc | apply Kd.R_drewN | apply Kd.R_drew)); exact a9.out, bI⟩
 )
 )
 )
 )
 ·(
 rw [if_neg c5] at H
 exact absurd H (by simp)
 )
 )
 ·(
 rw [if_neg c4] at H
 exact absurd H (by simp)
 )

/-! ### spec_CountPlaces: function 7 -/
def spec_CountPlaces.l0 : Nat → Int → List Int → Int → Int → Option (Int × Bool)
  | 0, _, _, _, _ => none
  | k + 1, x8, x25, x26, x27 => if x27 < x26 then (if 0 ≤ x27 then (if x27 < (x25.length : Int) then (if (rd x25 x27) > 0 then (spec_CountPlaces.l0 k (wrap64 (x8 + 1)) x25 x26 (wrap64 (x27 + 1))) else (spec_CountPlaces.l0 k x8 x25 x26 (wrap64 (x27 + 1)))) else (none)) else (none)) else (some (x8, true))
def spec_CountPlaces.f (k : Nat) (a0_0 : Int) (a0_1 : Int) (a1_0 : Int) (a1_1 : Int) (a1_2 : Bool) (a1_3 : Bool) : Option (Int × Bool) := (spec_beGood.f a0_0 a0_1 a1_0 a1_1 a1_2 a1_3).bind fun t176 => (if t176 = true then ((spec_beLong.f a0_0 a0_1).bind fun t177 => ((spec_beRun.f k a0_0 a0_1 a1_0 a1_1 a1_2 a1_3 t177).bind fun bt178 => ((spec_beTimes.f k a0_0 a0_1 bt178.1).bind fun t182 => (spec_CountPlaces.l0 k 0 t182 (t182.length : Int) 0)))) else (some (0, false)))
theorem spec_CountPlaces.mono_l : ∀ k, (∀ y0 y1 y2 y3, LeO (spec_CountPlaces.l0 k y0 y1 y2 y3) (spec_CountPlaces.l0 (k + 1) y0 y1 y2 y3))
  | 0 => fun _ _ _ _ r h => by simp [spec_CountPlaces.l0] at h
  | k + 1 => by
    have ih0 := spec_CountPlaces.mono_l k
    · intro y0 y1 y2 y3
      unfold spec_CountPlaces.l0
      repeat' first
      | (with_reducible exact ih0 _ _ _ _)
      | (with_reducible exact spec_beRun.mono _ _ _ _ _ _ _ _)
      | (with_reducible exact spec_beTimes.mono _ _ _ _)
      | (with_reducible exact LeO.refl _)
      | (with_reducible exact LeO.none _)
      | (with_reducible refine LeO.ite ?_ ?_)
      | (with_reducible refine LeO.bind ?_ (fun _ => ?_))
      | exact ih0 _ _ _ _
      | exact spec_beRun.mono _ _ _ _ _ _ _ _
      | exact spec_beTimes.mono _ _ _ _
      | exact LeO.none _
      | refine LeO.ite ?_ ?_
      | refine LeO.bind ?_ (fun _ => ?_)
theorem spec_CountPlaces.mono : ∀ a0 a1 a2 a3 a4 a5 k, LeO (spec_CountPlaces.f k a0 a1 a2 a3 a4 a5) (spec_CountPlaces.f (k + 1) a0 a1 a2 a3 a4 a5) := by
  intro a0 a1 a2 a3 a4 a5 k
  have ih0 := spec_CountPlaces.mono_l k
  unfold spec_CountPlaces.f
  repeat' first
      | (with_reducible exact ih0 _ _ _ _)
      | (with_reducible exact spec_beRun.mono _ _ _ _ _ _ _ _)
      | (with_reducible exact spec_beTimes.mono _ _ _ _)
      | (with_reducible exact LeO.refl _)
      | (with_reducible exact LeO.none _)
      | (with_reducible refine LeO.ite ?_ ?_)
      | (with_reducible refine LeO.bind ?_ (fun _ => ?_))
      | exact ih0 _ _ _ _
      | exact spec_beRun.mono _ _ _ _ _ _ _ _
      | exact spec_beTimes.mono _ _ _ _
      | exact LeO.none _
      | refine LeO.ite ?_ ?_
      | refine LeO.bind ?_ (fun _ => ?_)
def spec_CountPlaces.T3 : Bool × List (List Nat × List Nat) := (true, [([], []), ([], []), ([], []), ([2], [2]), ([0, 1, 3, 3], [0, 1, 3]), ([4], [4]), ([5], [5]), ([5], [5]), ([6, 4, 0, 1, 2, 3, 4, 5, 6], [6]), ([7, 8, 0, 1, 2, 3, 4, 5, 6, 7, 8], [7])])
def spec_CountPlaces.B3 : List Nat := [0, 0, 0, 4, 15, 31, 63, 63, 127, 511]
theorem spec_CountPlaces.tab3 : rtab .any (opsOf Try.f7 3) = spec_CountPlaces.T3 := by kernel_rfl
theorem spec_CountPlaces.bits3 : waitsOk spec_CountPlaces.T3.2 spec_CountPlaces.B3 = true := by kernel_rfl
abbrev spec_CountPlaces.pl0 : List (Nat × Option Tmp × Nat) := [qt 0 16, qt 1 17, qt 2 18, qo 3 19, qo 4 20, q 5 15, q 6 21, q 7 22, q 8 6, q 9 7]
set_option maxHeartbeats 8000000 in
set_option maxRecDepth 100000 in
theorem spec_CountPlaces.calls (k : Nat) (a0_0 : Int) (a0_1 : Int) (a1_0 : Int) (a1_1 : Int) (a1_2 : Bool) (a1_3 : Bool) (r1 : Int) (r2 : Bool) (w : World) (h : spec_CountPlaces.f k a0_0 a0_1 a1_0 a1_1 a1_2 a1_3 = some (r1, r2)) :
    Calls Try.prog 7 #[.agg #[.int .i64 a0_0, .int .i64 a0_1], .agg #[.int .i64 a1_0, .int .i64 a1_1, .bool a1_2, .bool a1_3]] w fun e w' => e = .returned (.tuple #[.int .i64 r1, .bool r2]) ∧ Below w.heap.size w w' := by
 have j2 := Try.underlying28
 have j3 := Try.underlying30
 have HB := Aside0.mk (Below.refl w.heap.size w)
 have H := h
 unfold spec_CountPlaces.f at H
 clear h
 obtain ⟨g3, A3, H⟩ := bD H
 try dsimp only at H
 by_cases c4 : g3 = true
 ·(
 subst c4
 rw [if_pos rfl] at H
 obtain ⟨c2, A5, H⟩ := bD H
 try dsimp only at H
 obtain ⟨⟨c3, g4⟩, A6, H⟩ := bD H
 try dsimp only at H
 obtain ⟨a9, A7, H⟩ := bD H
 try dsimp only at H
 have H' := Aside0.mk H
 clear H
 go_enter Try.func7, Try.ntmps7
 try go_wp2_with (first | ((with_reducible refine gate_dst (N := 2) rfl ?_); refine box_ (cs := #[.int .i64 a0_0, .int .i64 a0_1]) (t := 28) fun b6 hg w8 hbox hb => ?_; have a6 := Aside0.mk (hbox); have e6 := bS HB hg; have e7 := bS HB hg; replace HB := Aside0.mk (below_step bB hb); clear hb hbox hg) | ((with_reducible refine gate_dst (N := 3) rfl ?_); refine box_ (cs := #[.int .i64 a1_0, .int .i64 a1_1, .bool a1_2, .bool a1_3]) (t := 30) fun b0 hg w9 hbox hb => ?_; have a7 := Aside0.mk (hbox); have e8 := bS HB hg; have e9 := bS HB hg; have b1 := bL a6 hg; have b2 := bM a6 hg; replace a6 := bQ a6 hb; replace HB := Aside0.mk (below_step bB hb); clear hb hbox hg; have i5 := b1.out; have i6 := b2.out; obtain ⟨c9, d0, d1, d2⟩ := cf2 a6; obtain ⟨d3, d4, d5, d6, d7, d8, d9, e0⟩ := cf4 a7) | ((with_reducible refine gate_callee (f := 38) rfl ?_); refine goesL_ (some 13) rfl rfl Try.func38 kr rfl #[.agg #[.int .i64 a0_0, .int .i64 a0_1], .agg #[.int .i64 a1_0, .int .i64 a1_1, .bool a1_2, .bool a1_3]] rfl sM ?_; (with_reducible refine (spec_beGood.calls a0_0 a0_1 a1_0 a1_1 a1_2 a1_3 true _ A3.out).mono ?_); rintro e i3 ⟨rfl, hb⟩; refine ⟨_, rfl, ?_⟩; replace a6 := bQ a6 hb; replace a7 := bQ a7 hb; replace HB := Aside0.mk (below_step bB hb); (try clear hb)))
 replace a6 := bD1 a6
 replace a7 := bD1 a7
 replace HB := Aside0.mk (below_drew1 HB.out)
 refine st_ 10 spec_CountPlaces.pl0 (S := fun w' => w'.cell? ⟨b6, 0, none⟩ = some (.int .i64 a0_0) ∧ w'.cell? ⟨b6, 1, none⟩ = some (.int .i64 a0_1) ∧ w'.cell? ⟨b0, 0, none⟩ = some (.int .i64 a1_0) ∧ w'.cell? ⟨b0, 1, none⟩ = some (.int .i64 a1_1) ∧ w'.cell? ⟨b0, 2, none⟩ = some (.bool a1_2) ∧ w'.cell? ⟨b0, 3, none⟩ = some (.bool a1_3)) (ds := []) spec_CountPlaces.tab3 spec_CountPlaces.bits3 cS (fun hHeld HT_ HW_ => ?_)
 generalize i3.drew = j6 at a6 a7 HB hHeld ⊢
 iterate 3 refine pT HT_ HW_ hHeld ?_
 refine pO HT_ fun K hK => ?_
 refine goes_ Try.func40 kr rfl #[.agg #[.int .i64 a0_0, .int .i64 a0_1]] (by rfl) rfl rfl sM ?_
 with_reducible refine (spec_beLong.calls a0_0 a0_1 c2 _ A5.out).mono ?_
 rintro e j7 ⟨rfl, hb⟩
 refine ⟨_, rfl, ?_⟩
 replace a6 := bQ a6 hb
 replace a7 := bQ a7 hb
 replace HB := Aside0.mk (below_step bB hb)
 try clear hb
 refine hK.out _ _ cS (fun hHeld => ?_)
 clear hK K
 refine nP ?_
 refine pO HT_ fun K hK => ?_
 refine goes_ Try.func39 kr rfl #[.agg #[.int .i64 a0_0, .int .i64 a0_1], .agg #[.int .i64 a1_0, .int .i64 a1_1, .bool a1_2, .bool a1_3], .int .i64 c2] (by rfl) rfl rfl sM ?_
 with_reducible refine (spec_beRun.calls k a0_0 a0_1 a1_0 a1_1 a1_2 a1_3 c2 c3 g4 _ A6.out).mono ?_
 rintro e j8 ⟨j4, rfl, c1, hb⟩
 refine ⟨_, rfl, ?_⟩
 have b5 := Aside0.mk (Kd.R_lower (Kd.R_newB c1 (g := b0) (o := .cells #[.int .i64 a1_0, .int .i64 a1_1, .bool a1_2, .bool a1_3] 30 (0, 0)) (bK a7)) (below_size bB))
 replace a6 := bQ a6 hb
 replace a7 := bQ a7 hb
 replace HB := Aside0.mk (below_step bB hb)
 try clear hb
 (try clear c1)
 refine hK.out _ _ cS (fun hHeld => ?_)
 clear hK K
 refine nP ?_
 iterate 5 refine pA HT_ ?_
 refine pD HT_ ?_
 obtain ⟨e1, e2, e3, e4⟩ := cf2 a6
 obtain ⟨g5, g6, g7⟩ := Kd.R_slice b5.out
 subst g7
 try go_wp2_with (first | ((with_reducible refine gate_callee (f := 41) rfl ?_); refine goesL_ (some 25) rfl rfl Try.func41 kr rfl #[.agg #[.int .i64 a0_0, .int .i64 a0_1], .slice g5 c3.length g6] rfl sM ?_; (with_reducible refine (spec_beTimes.calls k a0_0 a0_1 _ _ c3 a9 _ ?side1 ?side2 A7.out).mono ?_); (case side1 => repeat (first | exact (Kd.R_reads' b5.out).2.2 | (with_reducible refine Kd.C_alloc ?_ _) | (with_reducible refine Kd.C_drewN ?_ _) | (with_reducible refine Kd.C_drew ?_))); (case side2 => exact (Kd.R_reads' b5.out).2.1); rintro e j9 ⟨j5, rfl, c1, hb⟩; refine ⟨_, rfl, ?_⟩; have c6 := Aside0.mk (Kd.R_lower c1 (below_size bB)); replace b5 := Aside0.mk (Kd.R_below (oR b5) hb); replace a6 := bQ a6 hb; replace a7 := bQ a7 hb; replace HB := Aside0.mk (below_step bB hb); (try clear hb); (try clear c1); obtain ⟨g8, g9, h0⟩ := Kd.R_slice c6.out; subst h0))
 go_loopg [8, 27] k (fun kq v8 i4 w' => ∃ (b8 : Int) (a8 : Int), v8 = .int .i64 b8 ∧ i4 = .int .i64 a8 ∧ Aside0 (spec_CountPlaces.l0 kq b8 a9 (a9.length : Int) a8 = some (r1, r2)) ∧ Aside0 (kq ≤ k) ∧ Aside0 (Kd.R (Kd.int .i64) 3 w' w.heap.size (fun _ => True) (.slice g8 a9.length g9) a9) ∧ Aside0 (w'.heap[b6]? = some (.cells #[.int .i64 a0_0, .int .i64 a0_1] 28 (0, 0))) ∧ Aside0 (w'.heap[b0]? = some (.cells #[.int .i64 a1_0, .int .i64 a1_1, .bool a1_2, .bool a1_3] 30 (0, 0))) ∧ Aside0 (Below w.heap.size w w'))
 case atStart => exact ⟨(0), (0), sR, sR, H', ⟨Nat.le_refl _⟩, ⟨oR c6⟩, (bA a6), (bA a7), ⟨bB⟩⟩
 case round => (
 clear H'
 try clear c4
 try clear c9
 try clear d0
 try clear d3
 try clear d4
 try clear d5
 try clear d6
 try clear e1
 try clear e2
 try clear d1
 try clear d2
 try clear d7
 try clear d8
 try clear d9
 try clear e0
 try clear e3
 try clear e4
 obtain ⟨b8, a8, rfl, rfl, HA, HK1, b7, a6, a7, HB⟩ := hrel
 cases gk with
 | zero => exact absurd HA.out (by simp [spec_CountPlaces.l0])
 | succ k1 => (
 have H := HA.out
 clear HA
 simp only [spec_CountPlaces.l0] at H
 by_cases b9 : a8 < (a9.length : Int)
 ·(
 rw [if_pos b9] at H
 have g0 : decide (a8 < (a9.length : Int)) = true := decide_eq_true b9
 clear b9
 by_cases c7 : 0 ≤ a8
 ·(
 rw [if_pos c7] at H
 have i7 : decide (0 ≤ a8) = true := decide_eq_true c7
 clear c7
 by_cases c8 : a8 < (a9.length : Int)
 ·(
 rw [if_pos c8] at H
 have i9 : decide (a8 < (a9.length : Int)) = true := decide_eq_true c8
 clear c8
 by_cases c0 : (rd a9 a8) > 0
 ·(
 rw [if_pos c0] at H
 have g1 : decide (0 < (rd a9 a8)) = true := decide_eq_true c0
 clear c0
 have H' := Aside0.mk H
 clear H
 have b3 : 0 ≤ (a8 : Int) := of_decide_eq_true asm
 have b4 : a8 < (a9.length : Int) := of_decide_eq_true asm
 obtain ⟨g2, c5, e5⟩ := Kd.at_int (Kd.R_reads' b7.out).2.2 a8 b3 b4
 cases c5
 replace b3 := eq_true b3
 replace b4 := eq_true b4
 go_wp2
 go_roundg k1
 case measure => have := HK1.out; omega
 case rel => exact ⟨(wrap64 (b8 + 1)), (wrap64 (a8 + 1)), sR, sR, H', ⟨by have := HK1.out; omega⟩, ⟨oR b7⟩, (bA a6), (bA a7), ⟨bB⟩⟩
 )
 ·(
 rw [if_neg c0] at H
 have g1 : decide (0 < (rd a9 a8)) = false := decide_eq_false c0
 clear c0
 have H' := Aside0.mk H
 clear H
 have b3 : 0 ≤ (a8 : Int) := of_decide_eq_true asm
 have b4 : a8 < (a9.length : Int) := of_decide_eq_true asm
 obtain ⟨g2, c5, e5⟩ := Kd.at_int (Kd.R_reads' b7.out).2.2 a8 b3 b4
 cases c5
 replace b3 := eq_true b3
 replace b4 := eq_true b4
 go_wp2
 go_roundg k1
 case measure => have := HK1.out; omega
 case rel => exact ⟨(b8), (wrap64 (a8 + 1)), sR, sR, H', ⟨by have := HK1.out; omega⟩, ⟨oR b7⟩, (bA a6), (bA a7), ⟨bB⟩⟩
 )
 )
 ·(
 rw [if_neg c8] at H
 exact absurd H (by simp)
 )
 )
 ·(
 rw [if_neg c7] at H
 exact absurd H (by simp)
 )
 )
 ·(
 rw [if_neg b9] at H
 have g0 : decide (a8 < (a9.length : Int)) = false := decide_eq_false b9
 clear b9
 simp only [Option.some.injEq, Prod.mk.injEq] at H
 obtain ⟨rfl, rfl⟩ := H
 go_wp2
 go_ret2
 exact ⟨sE, bI⟩
 )
 )
 )
 )
 ·(
 replace c4 := Bool.eq_false_iff.mpr c4
 subst c4
 rw [if_neg nft] at H
 simp only [Option.some.injEq, Prod.mk.injEq] at H
 obtain ⟨rfl, rfl⟩ := H
 go_enter Try.func7, Try.ntmps7
 go_wp2_with (first | ((with_reducible refine gate_dst (N := 2) rfl ?_); refine box_ (cs := #[.int .i64 a0_0, .int .i64 a0_1]) (t := 28) fun b6 hg k0 hbox hb => ?_; have a6 := Aside0.mk (hbox); have e6 := bS HB hg; have e7 := bS HB hg; replace HB := Aside0.mk (below_step bB hb); clear hb hbox hg) | ((with_reducible refine gate_dst (N := 3) rfl ?_); refine box_ (cs := #[.int .i64 a1_0, .int .i64 a1_1, .bool a1_2, .bool a1_3]) (t := 30) fun b0 hg k2 hbox hb => ?_; have a7 := Aside0.mk (hbox); have e8 := bS HB hg; have e9 := bS HB hg; have b1 := bL a6 hg; have b2 := bM a6 hg; replace a6 := bQ a6 hb; replace HB := Aside0.mk (below_step bB hb); clear hb hbox hg; have j0 := b1.out; have j1 := b2.out; obtain ⟨h1, h2, h3, h4⟩ := cf2 a6; obtain ⟨h5, h6, h7, h8, h9, i0, i1, i2⟩ := cf4 a7) | ((with_reducible refine gate_callee (f := 38) rfl ?_); refine goesL_ (some 13) rfl rfl Try.func38 kr rfl #[.agg #[.int .i64 a0_0, .int .i64 a0_1], .agg #[.int .i64 a1_0, .int .i64 a1_1, .bool a1_2, .bool a1_3]] rfl sM ?_; (with_reducible refine (spec_beGood.calls a0_0 a0_1 a1_0 a1_1 a1_2 a1_3 false _ A3.out).mono ?_); rintro e k3 ⟨rfl, hb⟩; refine ⟨_, rfl, ?_⟩; replace a6 := bQ a6 hb; replace a7 := bQ a7 hb; replace HB := Aside0.mk (below_step bB hb); (try clear hb)))
 go_ret2
 exact ⟨sE, bI⟩
 )

/-! ### impl_within: function 45 -/
def impl_within.f (a0 : Int) (a1 : Int) (a2 : Int) : Option (Bool) := if a0 ≥ a1 then (some (decide (a0 ≤ a2))) else (some false)
set_option maxHeartbeats 8000000 in
set_option maxRecDepth 100000 in
theorem impl_within.calls (a0 : Int) (a1 : Int) (a2 : Int) (r : Bool) (w : World) (h : impl_within.f a0 a1 a2 = some r) :
    Calls Try.prog 45 #[.int .i64 a0, .int .i64 a1, .int .i64 a2] w fun e w' => e = .returned (.bool r) ∧ Drawn0 w w' := by
 have H := h
 unfold impl_within.f at H
 clear h
 by_cases c4 : a0 ≥ a1
 rw [if_pos c4] at H
 have a6 : decide (a1 ≤ a0) = true := decide_eq_true c4
 clear c4
 obtain rfl := Option.some.inj H
 rotate_left
 rw [if_neg c4] at H
 have a6 : decide (a1 ≤ a0) = false := decide_eq_false c4
 clear c4
 obtain rfl := Option.some.inj H
 rotate_left
 all_goals (go_enter Try.func45, Try.ntmps45)
 all_goals go_wp2
 all_goals go_ret
 all_goals (exact ⟨by first | rfl | (simp; done) | (simp [*]; done), by repeat (first | exact Drawn0.refl _ | apply Drawn0.step)⟩)

/-! ### impl_IsTable: function 54 -/
def impl_IsTable.f (a0_0 : Int) (a0_1 : Int) : Option (Bool) := (impl_within.f a0_0 1 60).bind fun t187 => (if t187 = true then ((impl_within.f a0_1 1 60).bind fun t188 => (some t188)) else (some false))
set_option maxHeartbeats 8000000 in
set_option maxRecDepth 100000 in
theorem impl_IsTable.calls (a0_0 : Int) (a0_1 : Int) (r : Bool) (w : World) (h : impl_IsTable.f a0_0 a0_1 = some r) :
    Calls Try.prog 54 #[.agg #[.int .i64 a0_0, .int .i64 a0_1]] w fun e w' => e = .returned (.bool r) ∧ Below w.heap.size w w' := by
 have b3 := Try.underlying28
 have HB := Aside0.mk (Below.refl w.heap.size w)
 have H := h
 unfold impl_IsTable.f at H
 clear h
 obtain ⟨a6, A2, H⟩ := bD H
 try dsimp only at H
 by_cases c3 : a6 = true
 subst c3
 rw [if_pos rfl] at H
 obtain ⟨a7, A4, H⟩ := bD H
 try dsimp only at H
 obtain rfl := Option.some.inj H
 rotate_left
 replace c3 := Bool.eq_false_iff.mpr c3
 subst c3
 rw [if_neg nft] at H
 obtain rfl := Option.some.inj H
 rotate_left
 all_goals (go_enter Try.func54, Try.ntmps54)
 all_goals (go_wp2_with (first | ((with_reducible refine gate_dst (N := 1) rfl ?_); refine box_ (cs := #[.int .i64 a0_0, .int .i64 a0_1]) (t := 28) fun b4 hg b7 hbox hb => ?_; have a8 := Aside0.mk (hbox); have b5 := bS HB hg; have b6 := bS HB hg; replace HB := Aside0.mk (below_step bB hb); clear hb hbox hg; obtain ⟨a9, b0, b1, b2⟩ := cf2 a8) | ((with_reducible refine gate_callee (f := 45) rfl ?_); refine goesL_ (some 5) rfl rfl Try.func45 kr rfl #[.int .i64 a0_0, .int .i64 1, .int .i64 60] rfl sM ?_; (with_reducible refine (impl_within.calls a0_0 1 60 true _ A2.out).mono ?_); rintro e w' ⟨rfl, ⟨nd, rfl⟩⟩; refine ⟨_, rfl, ?_⟩) | (go_at_call 45; (with_reducible refine (impl_within.calls a0_1 1 60 a7 _ A4.out).mono ?_); rintro e w' ⟨rfl, ⟨nd, rfl⟩⟩) | ((with_reducible refine gate_callee (f := 45) rfl ?_); refine goesL_ (some 5) rfl rfl Try.func45 kr rfl #[.int .i64 a0_0, .int .i64 1, .int .i64 60] rfl sM ?_; (with_reducible refine (impl_within.calls a0_0 1 60 false _ A2.out).mono ?_); rintro e w' ⟨rfl, ⟨nd, rfl⟩⟩; refine ⟨_, rfl, ?_⟩)))
 all_goals go_ret
 all_goals (exact ⟨sE, bI⟩)

/-! ### impl_IsBeam: function 22 -/
def impl_IsBeam.f (a0_0 : Int) (a0_1 : Int) (a1_0 : Int) (a1_1 : Int) (a1_2 : Bool) (a1_3 : Bool) : Option (Bool) := (impl_IsTable.f a0_0 a0_1).bind fun t191 => (if t191 = true then ((impl_within.f a1_0 0 a0_0).bind fun t192 => (if t192 = true then ((impl_within.f a1_1 0 a0_1).bind fun t193 => (some t193)) else (some false))) else (some false))
set_option maxHeartbeats 8000000 in
set_option maxRecDepth 100000 in
theorem impl_IsBeam.calls (a0_0 : Int) (a0_1 : Int) (a1_0 : Int) (a1_1 : Int) (a1_2 : Bool) (a1_3 : Bool) (r : Bool) (w : World) (h : impl_IsBeam.f a0_0 a0_1 a1_0 a1_1 a1_2 a1_3 = some r) :
    Calls Try.prog 22 #[.agg #[.int .i64 a0_0, .int .i64 a0_1], .agg #[.int .i64 a1_0, .int .i64 a1_1, .bool a1_2, .bool a1_3]] w fun e w' => e = .returned (.bool r) ∧ Below w.heap.size w w' := by
 have d4 := Try.underlying28
 have d5 := Try.underlying30
 have HB := Aside0.mk (Below.refl w.heap.size w)
 have H := h
 unfold impl_IsBeam.f at H
 clear h
 obtain ⟨b0, A3, H⟩ := bD H
 try dsimp only at H
 by_cases c4 : b0 = true
 subst c4
 rw [if_pos rfl] at H
 obtain ⟨b1, A5, H⟩ := bD H
 try dsimp only at H
 by_cases c6 : b1 = true
 subst c6
 rw [if_pos rfl] at H
 obtain ⟨b2, A7, H⟩ := bD H
 try dsimp only at H
 obtain rfl := Option.some.inj H
 rotate_left
 replace c6 := Bool.eq_false_iff.mpr c6
 subst c6
 rw [if_neg nft] at H
 obtain rfl := Option.some.inj H
 rotate_left
 replace c4 := Bool.eq_false_iff.mpr c4
 subst c4
 rw [if_neg nft] at H
 obtain rfl := Option.some.inj H
 rotate_left
 all_goals (go_enter Try.func22, Try.ntmps22)
 all_goals (go_wp2_with (first | ((with_reducible refine gate_dst (N := 2) rfl ?_); refine box_ (cs := #[.int .i64 a0_0, .int .i64 a0_1]) (t := 28) fun d6 hg e2 hbox hb => ?_; have a6 := Aside0.mk (hbox); have d7 := bS HB hg; have d8 := bS HB hg; replace HB := Aside0.mk (below_step bB hb); clear hb hbox hg) | ((with_reducible refine gate_dst (N := 3) rfl ?_); refine box_ (cs := #[.int .i64 a1_0, .int .i64 a1_1, .bool a1_2, .bool a1_3]) (t := 30) fun d9 hg e3 hbox hb => ?_; have a7 := Aside0.mk (hbox); have e0 := bS HB hg; have e1 := bS HB hg; have a8 := bL a6 hg; have a9 := bM a6 hg; replace a6 := bQ a6 hb; replace HB := Aside0.mk (below_step bB hb); clear hb hbox hg; have d2 := a8.out; have d3 := a9.out; obtain ⟨b3, b4, b5, b6⟩ := cf2 a6) | ((with_reducible refine gate_callee (f := 54) rfl ?_); refine goesL_ (some 6) rfl rfl Try.func54 kr rfl #[.agg #[.int .i64 a0_0, .int .i64 a0_1]] rfl sM ?_; (with_reducible refine (impl_IsTable.calls a0_0 a0_1 true _ A3.out).mono ?_); rintro e d1 ⟨rfl, hb⟩; refine ⟨_, rfl, ?_⟩; replace a6 := bQ a6 hb; replace a7 := bQ a7 hb; replace HB := Aside0.mk (below_step bB hb); (try clear hb); obtain ⟨b7, b8, b9, c0, c1, c2, c3, c5⟩ := cf4 a7; obtain ⟨c7, c8, c9, d0⟩ := cf2 a6) | (go_at_call 45; (with_reducible refine (impl_within.calls a1_0 0 a0_0 true _ A5.out).mono ?_); rintro e w' ⟨rfl, ⟨nd, rfl⟩⟩) | (go_at_call 45; (with_reducible refine (impl_within.calls a1_1 0 a0_1 b2 _ A7.out).mono ?_); rintro e w' ⟨rfl, ⟨nd, rfl⟩⟩) | (go_at_call 45; (with_reducible refine (impl_within.calls a1_0 0 a0_0 false _ A5.out).mono ?_); rintro e w' ⟨rfl, ⟨nd, rfl⟩⟩) | ((with_reducible refine gate_callee (f := 54) rfl ?_); refine goesL_ (some 6) rfl rfl Try.func54 kr rfl #[.agg #[.int .i64 a0_0, .int .i64 a0_1]] rfl sM ?_; (with_reducible refine (impl_IsTable.calls a0_0 a0_1 false _ A3.out).mono ?_); rintro e d1 ⟨rfl, hb⟩; refine ⟨_, rfl, ?_⟩; replace a6 := bQ a6 hb; replace a7 := bQ a7 hb; replace HB := Aside0.mk (below_step bB hb); (try clear hb))))
 all_goals go_ret
 all_goals (exact ⟨sE, bI⟩)

/-! ### impl_inward: function 49 -/
def impl_inward.f (a0_0 : Int) (a0_1 : Int) (a1_0 : Int) (a1_1 : Int) (a1_2 : Bool) (a1_3 : Bool) : Option (Int × Int × Bool × Bool) := if a1_0 = 0 then (if a1_1 = 0 then (some (a1_0, a1_1, true, true)) else (if a1_3 = true then (some (a1_0, a1_1, true, decide (a1_1 < a0_1))) else (some (a1_0, a1_1, true, false)))) else (if a1_2 = true then (if a1_1 = 0 then (some (a1_0, a1_1, decide (a1_0 < a0_0), true)) else (if a1_3 = true then (some (a1_0, a1_1, decide (a1_0 < a0_0), decide (a1_1 < a0_1))) else (some (a1_0, a1_1, decide (a1_0 < a0_0), false)))) else (if a1_1 = 0 then (some (a1_0, a1_1, false, true)) else (if a1_3 = true then (some (a1_0, a1_1, false, decide (a1_1 < a0_1))) else (some (a1_0, a1_1, false, false)))))
set_option maxHeartbeats 8000000 in
set_option maxRecDepth 100000 in
theorem impl_inward.calls (a0_0 : Int) (a0_1 : Int) (a1_0 : Int) (a1_1 : Int) (a1_2 : Bool) (a1_3 : Bool) (r1 : Int) (r2 : Int) (r3 : Bool) (r4 : Bool) (w : World) (h : impl_inward.f a0_0 a0_1 a1_0 a1_1 a1_2 a1_3 = some (r1, r2, r3, r4)) :
    Calls Try.prog 49 #[.agg #[.int .i64 a0_0, .int .i64 a0_1], .agg #[.int .i64 a1_0, .int .i64 a1_1, .bool a1_2, .bool a1_3]] w fun e w' => e = .returned (.agg #[.int .i64 r1, .int .i64 r2, .bool r3, .bool r4]) ∧ Below w.heap.size w w' := by
 have D9 := Try.underlying28
 have E0 := Try.underlying30
 have HB := Aside0.mk (Below.refl w.heap.size w)
 have H := h
 unfold impl_inward.f at H
 clear h
 by_cases c3 : a1_0 = 0
 ·(
 rw [if_pos c3] at H
 obtain ⟨d6, d7⟩ := yE c3
 clear c3
 by_cases c4 : a1_1 = 0
 ·(
 rw [if_pos c4] at H
 obtain ⟨d8, d9⟩ := yE c4
 clear c4
 simp only [Option.some.injEq, Prod.mk.injEq] at H
 obtain ⟨rfl, rfl, rfl, rfl⟩ := H
 go_enter Try.func49, Try.ntmps49
 go_wp2_with (first | ((with_reducible refine gate_dst (N := 2) rfl ?_); refine box_ (cs := #[.int .i64 a0_0, .int .i64 a0_1]) (t := 28) fun b6 hg w5 hbox hb => ?_; have a6 := Aside0.mk (hbox); have b7 := bS HB hg; have b8 := bS HB hg; replace HB := Aside0.mk (below_step bB hb); clear hb hbox hg) | ((with_reducible refine gate_dst (N := 3) rfl ?_); refine box_ (cs := #[.int .i64 a1_0, .int .i64 a1_1, .bool a1_2, .bool a1_3]) (t := 30) fun b9 hg w6 hbox hb => ?_; have a7 := Aside0.mk (hbox); have c0 := bS HB hg; have c1 := bS HB hg; have a8 := bL a6 hg; have a9 := bM a6 hg; replace a6 := bQ a6 hb; replace HB := Aside0.mk (below_step bB hb); clear hb hbox hg) | ((with_reducible refine gate_dst (N := 4) rfl ?_); refine box_ (cs := #[.int .i64 0, .int .i64 0, .bool false, .bool false]) (t := 30) fun b5 hg w7 hbox hb => ?_; have b4 := Aside0.mk (hbox); have c2 := bS HB hg; have c5 := bS HB hg; have b0 := bL a6 hg; have b1 := bM a6 hg; have b2 := bL a7 hg; have b3 := bM a7 hg; replace a6 := bQ a6 hb; replace a7 := bQ a7 hb; replace HB := Aside0.mk (below_step bB hb); clear hb hbox hg; have E1 := a9.out; have E2 := a8.out; have E3 := b2.out; have E4 := b3.out; obtain ⟨e0, e1, e2, e3, e4, e5, e6, e7⟩ := cf4 a7; have y9 := b1.out; have z0 := b0.out; obtain ⟨e8, e9, g0, g1, g2, g3, g4, g5⟩ := cf4 b4))
 refine bodyPost_ret (results_cell_row rfl _ _ b5 30 #[.int .i64 a1_0, .int .i64 a1_1, .bool true, .bool true] (0, 0) _ rfl (bK b4) Try.underlying30 rfl kr) rfl ?_
 exact ⟨sE, bI⟩
 )
 ·(
 rw [if_neg c4] at H
 obtain ⟨d8, d9⟩ := nE c4
 by_cases c8 : a1_3 = true
 ·(
 subst c8
 rw [if_pos rfl] at H
 simp only [Option.some.injEq, Prod.mk.injEq] at H
 obtain ⟨rfl, rfl, rfl, rfl⟩ := H
 go_enter Try.func49, Try.ntmps49
 go_wp2_with (first | ((with_reducible refine gate_dst (N := 2) rfl ?_); refine box_ (cs := #[.int .i64 a0_0, .int .i64 a0_1]) (t := 28) fun b6 hg E5 hbox hb => ?_; have a6 := Aside0.mk (hbox); have b7 := bS HB hg; have b8 := bS HB hg; replace HB := Aside0.mk (below_step bB hb); clear hb hbox hg) | ((with_reducible refine gate_dst (N := 3) rfl ?_); refine box_ (cs := #[.int .i64 a1_0, .int .i64 a1_1, .bool a1_2, .bool true]) (t := 30) fun b9 hg E6 hbox hb => ?_; have a7 := Aside0.mk (hbox); have c0 := bS HB hg; have c1 := bS HB hg; have a8 := bL a6 hg; have a9 := bM a6 hg; replace a6 := bQ a6 hb; replace HB := Aside0.mk (below_step bB hb); clear hb hbox hg) | ((with_reducible refine gate_dst (N := 4) rfl ?_); refine box_ (cs := #[.int .i64 0, .int .i64 0, .bool false, .bool false]) (t := 30) fun b5 hg E7 hbox hb => ?_; have b4 := Aside0.mk (hbox); have c2 := bS HB hg; have c5 := bS HB hg; have b0 := bL a6 hg; have b1 := bM a6 hg; have b2 := bL a7 hg; have b3 := bM a7 hg; replace a6 := bQ a6 hb; replace a7 := bQ a7 hb; replace HB := Aside0.mk (below_step bB hb); clear hb hbox hg; have z1 := a9.out; have z2 := a8.out; have z3 := b2.out; have z4 := b3.out; obtain ⟨g6, g7, g8, g9, h0, h1, h2, h3⟩ := cf4 a7; have z5 := b0.out; have z6 := b1.out; obtain ⟨h4, h5, h6, h7⟩ := cf2 a6; obtain ⟨h8, h9, i0, i1, i2, i3, i4, i5⟩ := cf4 b4))
 refine bodyPost_ret (results_cell_row rfl _ _ b5 30 #[.int .i64 a1_0, .int .i64 a1_1, .bool true, .bool (decide (a1_1 < a0_1))] (0, 0) _ rfl (bK b4) Try.underlying30 rfl kr) rfl ?_
 exact ⟨sE, bI⟩
 )
 ·(
 replace c8 := Bool.eq_false_iff.mpr c8
 subst c8
 rw [if_neg nft] at H
 simp only [Option.some.injEq, Prod.mk.injEq] at H
 obtain ⟨rfl, rfl, rfl, rfl⟩ := H
 go_enter Try.func49, Try.ntmps49
 go_wp2_with (first | ((with_reducible refine gate_dst (N := 2) rfl ?_); refine box_ (cs := #[.int .i64 a0_0, .int .i64 a0_1]) (t := 28) fun b6 hg E8 hbox hb => ?_; have a6 := Aside0.mk (hbox); have b7 := bS HB hg; have b8 := bS HB hg; replace HB := Aside0.mk (below_step bB hb); clear hb hbox hg) | ((with_reducible refine gate_dst (N := 3) rfl ?_); refine box_ (cs := #[.int .i64 a1_0, .int .i64 a1_1, .bool a1_2, .bool false]) (t := 30) fun b9 hg E9 hbox hb => ?_; have a7 := Aside0.mk (hbox); have c0 := bS HB hg; have c1 := bS HB hg; have a8 := bL a6 hg; have a9 := bM a6 hg; replace a6 := bQ a6 hb; replace HB := Aside0.mk (below_step bB hb); clear hb hbox hg) | ((with_reducible refine gate_dst (N := 4) rfl ?_); refine box_ (cs := #[.int .i64 0, .int .i64 0, .bool false, .bool false]) (t := 30) fun b5 hg F0 hbox hb => ?_; have b4 := Aside0.mk (hbox); have c2 := bS HB hg; have c5 := bS HB hg; have b0 := bL a6 hg; have b1 := bM a6 hg; have b2 := bL a7 hg; have b3 := bM a7 hg; replace a6 := bQ a6 hb; replace a7 := bQ a7 hb; replace HB := Aside0.mk (below_step bB hb); clear hb hbox hg; have z7 := a9.out; have z8 := a8.out; have z9 := b2.out; have A0 := b3.out; obtain ⟨i6, i7, i9, j0, j1, j2, j3, j4⟩ := cf4 a7; have A1 := b1.out; have A2 := b0.out; obtain ⟨j5, j6, j7, j8, j9, k0, k1, k2⟩ := cf4 b4))
 refine bodyPost_ret (results_cell_row rfl _ _ b5 30 #[.int .i64 a1_0, .int .i64 a1_1, .bool true, .bool false] (0, 0) _ rfl (bK b4) Try.underlying30 rfl kr) rfl ?_
 exact ⟨sE, bI⟩
 )
 )
 )
 ·(
 rw [if_neg c3] at H
 obtain ⟨d6, d7⟩ := nE c3
 by_cases c9 : a1_2 = true
 ·(
 subst c9
 rw [if_pos rfl] at H
 by_cases c6 : a1_1 = 0
 ·(
 rw [if_pos c6] at H
 obtain ⟨d2, d3⟩ := yE c6
 clear c6
 simp only [Option.some.injEq, Prod.mk.injEq] at H
 obtain ⟨rfl, rfl, rfl, rfl⟩ := H
 go_enter Try.func49, Try.ntmps49
 go_wp2_with (first | ((with_reducible refine gate_dst (N := 2) rfl ?_); refine box_ (cs := #[.int .i64 a0_0, .int .i64 a0_1]) (t := 28) fun b6 hg F1 hbox hb => ?_; have a6 := Aside0.mk (hbox); have b7 := bS HB hg; have b8 := bS HB hg; replace HB := Aside0.mk (below_step bB hb); clear hb hbox hg) | ((with_reducible refine gate_dst (N := 3) rfl ?_); refine box_ (cs := #[.int .i64 a1_0, .int .i64 a1_1, .bool true, .bool a1_3]) (t := 30) fun b9 hg F2 hbox hb => ?_; have a7 := Aside0.mk (hbox); have c0 := bS HB hg; have c1 := bS HB hg; have a8 := bL a6 hg; have a9 := bM a6 hg; replace a6 := bQ a6 hb; replace HB := Aside0.mk (below_step bB hb); clear hb hbox hg) | ((with_reducible refine gate_dst (N := 4) rfl ?_); refine box_ (cs := #[.int .i64 0, .int .i64 0, .bool false, .bool false]) (t := 30) fun b5 hg F3 hbox hb => ?_; have b4 := Aside0.mk (hbox); have c2 := bS HB hg; have c5 := bS HB hg; have b0 := bL a6 hg; have b1 := bM a6 hg; have b2 := bL a7 hg; have b3 := bM a7 hg; replace a6 := bQ a6 hb; replace a7 := bQ a7 hb; replace HB := Aside0.mk (below_step bB hb); clear hb hbox hg; have A3 := a9.out; have A4 := a8.out; have A5 := b2.out; have A6 := b3.out; obtain ⟨k3, k4, k5, k6, k7, k8, k9, l0⟩ := cf4 a7; have A7 := b0.out; have A8 := b1.out; obtain ⟨l2, l3, l4, l5⟩ := cf2 a6; obtain ⟨l6, l7, l8, l9, m0, m1, m2, m3⟩ := cf4 b4))
 refine bodyPost_ret (results_cell_row rfl _ _ b5 30 #[.int .i64 a1_0, .int .i64 a1_1, .bool (decide (a1_0 < a0_0)), .bool true] (0, 0) _ rfl (bK b4) Try.underlying30 rfl kr) rfl ?_
 exact ⟨sE, bI⟩
 )
 ·(
 rw [if_neg c6] at H
 obtain ⟨d2, d3⟩ := nE c6
 by_cases d0 : a1_3 = true
 ·(
 subst d0
 rw [if_pos rfl] at H
 simp only [Option.some.injEq, Prod.mk.injEq] at H
 obtain ⟨rfl, rfl, rfl, rfl⟩ := H
 go_enter Try.func49, Try.ntmps49
 go_wp2_with (first | ((with_reducible refine gate_dst (N := 2) rfl ?_); refine box_ (cs := #[.int .i64 a0_0, .int .i64 a0_1]) (t := 28) fun b6 hg F4 hbox hb => ?_; have a6 := Aside0.mk (hbox); have b7 := bS HB hg; have b8 := bS HB hg; replace HB := Aside0.mk (below_step bB hb); clear hb hbox hg) | ((with_reducible refine gate_dst (N := 3) rfl ?_); refine box_ (cs := #[.int .i64 a1_0, .int .i64 a1_1, .bool true, .bool true]) (t := 30) fun b9 hg F5 hbox hb => ?_; have a7 := Aside0.mk (hbox); have c0 := bS HB hg; have c1 := bS HB hg; have a8 := bL a6 hg; have a9 := bM a6 hg; replace a6 := bQ a6 hb; replace HB := Aside0.mk (below_step bB hb); clear hb hbox hg) | ((with_reducible refine gate_dst (N := 4) rfl ?_); refine box_ (cs := #[.int .i64 0, .int .i64 0, .bool false, .bool false]) (t := 30) fun b5 hg F6 hbox hb => ?_; have b4 := Aside0.mk (hbox); have c2 := bS HB hg; have c5 := bS HB hg; have b0 := bL a6 hg; have b1 := bM a6 hg; have b2 := bL a7 hg; have b3 := bM a7 hg; replace a6 := bQ a6 hb; replace a7 := bQ a7 hb; replace HB := Aside0.mk (below_step bB hb); clear hb hbox hg; have A9 := a9.out; have B0 := a8.out; have B1 := b2.out; have B2 := b3.out; obtain ⟨m4, m5, m6, m7, m8, m9, n0, n1⟩ := cf4 a7; have B3 := b0.out; have B4 := b1.out; obtain ⟨n2, n3, n4, n5⟩ := cf2 a6; obtain ⟨n6, n7, n8, n9, o0, o1, o2, o3⟩ := cf4 b4))
 refine bodyPost_ret (results_cell_row rfl _ _ b5 30 #[.int .i64 a1_0, .int .i64 a1_1, .bool (decide (a1_0 < a0_0)), .bool (decide (a1_1 < a0_1))] (0, 0) _ rfl (bK b4) Try.underlying30 rfl kr) rfl ?_
 exact ⟨sE, bI⟩
 )
 ·(
 replace d0 := Bool.eq_false_iff.mpr d0
 subst d0
 rw [if_neg nft] at H
 simp only [Option.some.injEq, Prod.mk.injEq] at H
 obtain ⟨rfl, rfl, rfl, rfl⟩ := H
 go_enter Try.func49, Try.ntmps49
 go_wp2_with (first | ((with_reducible refine gate_dst (N := 2) rfl ?_); refine box_ (cs := #[.int .i64 a0_0, .int .i64 a0_1]) (t := 28) fun b6 hg F7 hbox hb => ?_; have a6 := Aside0.mk (hbox); have b7 := bS HB hg; have b8 := bS HB hg; replace HB := Aside0.mk (below_step bB hb); clear hb hbox hg) | ((with_reducible refine gate_dst (N := 3) rfl ?_); refine box_ (cs := #[.int .i64 a1_0, .int .i64 a1_1, .bool true, .bool false]) (t := 30) fun b9 hg F8 hbox hb => ?_; have a7 := Aside0.mk (hbox); have c0 := bS HB hg; have c1 := bS HB hg; have a8 := bL a6 hg; have a9 := bM a6 hg; replace a6 := bQ a6 hb; replace HB := Aside0.mk (below_step bB hb); clear hb hbox hg) | ((with_reducible refine gate_dst (N := 4) rfl ?_); refine box_ (cs := #[.int .i64 0, .int .i64 0, .bool false, .bool false]) (t := 30) fun b5 hg F9 hbox hb => ?_; have b4 := Aside0.mk (hbox); have c2 := bS HB hg; have c5 := bS HB hg; have b0 := bL a6 hg; have b1 := bM a6 hg; have b2 := bL a7 hg; have b3 := bM a7 hg; replace a6 := bQ a6 hb; replace a7 := bQ a7 hb; replace HB := Aside0.mk (below_step bB hb); clear hb hbox hg; have B5 := a9.out; have B6 := a8.out; have B7 := b2.out; have B8 := b3.out; obtain ⟨o4, o5, o6, o7, o8, o9, p0, p1⟩ := cf4 a7; have B9 := b0.out; have C0 := b1.out; obtain ⟨p2, p3, p4, p5⟩ := cf2 a6; obtain ⟨p6, p7, p8, p9, q0, q1, q2, q3⟩ := cf4 b4))
 refine bodyPost_ret (results_cell_row rfl _ _ b5 30 #[.int .i64 a1_0, .int .i64 a1_1, .bool (decide (a1_0 < a0_0)), .bool false] (0, 0) _ rfl (bK b4) Try.underlying30 rfl kr) rfl ?_
 exact ⟨sE, bI⟩
 )
 )
 )
 ·(
 replace c9 := Bool.eq_false_iff.mpr c9
 subst c9
 rw [if_neg nft] at H
 by_cases c7 : a1_1 = 0
 ·(
 rw [if_pos c7] at H
 obtain ⟨d4, d5⟩ := yE c7
 clear c7
 simp only [Option.some.injEq, Prod.mk.injEq] at H
 obtain ⟨rfl, rfl, rfl, rfl⟩ := H
 go_enter Try.func49, Try.ntmps49
 go_wp2_with (first | ((with_reducible refine gate_dst (N := 2) rfl ?_); refine box_ (cs := #[.int .i64 a0_0, .int .i64 a0_1]) (t := 28) fun b6 hg G0 hbox hb => ?_; have a6 := Aside0.mk (hbox); have b7 := bS HB hg; have b8 := bS HB hg; replace HB := Aside0.mk (below_step bB hb); clear hb hbox hg) | ((with_reducible refine gate_dst (N := 3) rfl ?_); refine box_ (cs := #[.int .i64 a1_0, .int .i64 a1_1, .bool false, .bool a1_3]) (t := 30) fun b9 hg G1 hbox hb => ?_; have a7 := Aside0.mk (hbox); have c0 := bS HB hg; have c1 := bS HB hg; have a8 := bL a6 hg; have a9 := bM a6 hg; replace a6 := bQ a6 hb; replace HB := Aside0.mk (below_step bB hb); clear hb hbox hg) | ((with_reducible refine gate_dst (N := 4) rfl ?_); refine box_ (cs := #[.int .i64 0, .int .i64 0, .bool false, .bool false]) (t := 30) fun b5 hg G2 hbox hb => ?_; have b4 := Aside0.mk (hbox); have c2 := bS HB hg; have c5 := bS HB hg; have b0 := bL a6 hg; have b1 := bM a6 hg; have b2 := bL a7 hg; have b3 := bM a7 hg; replace a6 := bQ a6 hb; replace a7 := bQ a7 hb; replace HB := Aside0.mk (below_step bB hb); clear hb hbox hg; have C1 := a9.out; have C2 := a8.out; have C3 := b2.out; have C4 := b3.out; obtain ⟨q4, q5, q6, q7, q8, q9, r0, r5⟩ := cf4 a7; have C5 := b1.out; have C6 := b0.out; obtain ⟨r6, r7, r8, r9, s0, s1, s2, s3⟩ := cf4 b4))
 refine bodyPost_ret (results_cell_row rfl _ _ b5 30 #[.int .i64 a1_0, .int .i64 a1_1, .bool false, .bool true] (0, 0) _ rfl (bK b4) Try.underlying30 rfl kr) rfl ?_
 exact ⟨sE, bI⟩
 )
 ·(
 rw [if_neg c7] at H
 obtain ⟨d4, d5⟩ := nE c7
 by_cases d1 : a1_3 = true
 ·(
 subst d1
 rw [if_pos rfl] at H
 simp only [Option.some.injEq, Prod.mk.injEq] at H
 obtain ⟨rfl, rfl, rfl, rfl⟩ := H
 go_enter Try.func49, Try.ntmps49
 go_wp2_with (first | ((with_reducible refine gate_dst (N := 2) rfl ?_); refine box_ (cs := #[.int .i64 a0_0, .int .i64 a0_1]) (t := 28) fun b6 hg G3 hbox hb => ?_; have a6 := Aside0.mk (hbox); have b7 := bS HB hg; have b8 := bS HB hg; replace HB := Aside0.mk (below_step bB hb); clear hb hbox hg) | ((with_reducible refine gate_dst (N := 3) rfl ?_); refine box_ (cs := #[.int .i64 a1_0, .int .i64 a1_1, .bool false, .bool true]) (t := 30) fun b9 hg G4 hbox hb => ?_; have a7 := Aside0.mk (hbox); have c0 := bS HB hg; have c1 := bS HB hg; have a8 := bL a6 hg; have a9 := bM a6 hg; replace a6 := bQ a6 hb; replace HB := Aside0.mk (below_step bB hb); clear hb hbox hg) | ((with_reducible refine gate_dst (N := 4) rfl ?_); refine box_ (cs := #[.int .i64 0, .int .i64 0, .bool false, .bool false]) (t := 30) fun b5 hg G5 hbox hb => ?_; have b4 := Aside0.mk (hbox); have c2 := bS HB hg; have c5 := bS HB hg; have b0 := bL a6 hg; have b1 := bM a6 hg; have b2 := bL a7 hg; have b3 := bM a7 hg; replace a6 := bQ a6 hb; replace a7 := bQ a7 hb; replace HB := Aside0.mk (below_step bB hb); clear hb hbox hg; have C7 := a9.out; have C8 := a8.out; have C9 := b2.out; have D0 := b3.out; obtain ⟨s4, s5, s6, s7, s8, s9, u0, u1⟩ := cf4 a7; have D1 := b0.out; have D2 := b1.out; obtain ⟨u2, u3, u4, u5⟩ := cf2 a6; obtain ⟨u6, u7, u9, v0, v1, v2, v3, v4⟩ := cf4 b4))
 refine bodyPost_ret (results_cell_row rfl _ _ b5 30 #[.int .i64 a1_0, .int .i64 a1_1, .bool false, .bool (decide (a1_1 < a0_1))] (0, 0) _ rfl (bK b4) Try.underlying30 rfl kr) rfl ?_
 exact ⟨sE, bI⟩
 )
 ·(
 replace d1 := Bool.eq_false_iff.mpr d1
 subst d1
 rw [if_neg nft] at H
 simp only [Option.some.injEq, Prod.mk.injEq] at H
 obtain ⟨rfl, rfl, rfl, rfl⟩ := H
 go_enter Try.func49, Try.ntmps49
 go_wp2_with (first | ((with_reducible refine gate_dst (N := 2) rfl ?_); refine box_ (cs := #[.int .i64 a0_0, .int .i64 a0_1]) (t := 28) fun b6 hg G6 hbox hb => ?_; have a6 := Aside0.mk (hbox); have b7 := bS HB hg; have b8 := bS HB hg; replace HB := Aside0.mk (below_step bB hb); clear hb hbox hg) | ((with_reducible refine gate_dst (N := 3) rfl ?_); refine box_ (cs := #[.int .i64 a1_0, .int .i64 a1_1, .bool false, .bool false]) (t := 30) fun b9 hg G7 hbox hb => ?_; have a7 := Aside0.mk (hbox); have c0 := bS HB hg; have c1 := bS HB hg; have a8 := bL a6 hg; have a9 := bM a6 hg; replace a6 := bQ a6 hb; replace HB := Aside0.mk (below_step bB hb); clear hb hbox hg) | ((with_reducible refine gate_dst (N := 4) rfl ?_); refine box_ (cs := #[.int .i64 0, .int .i64 0, .bool false, .bool false]) (t := 30) fun b5 hg G8 hbox hb => ?_; have b4 := Aside0.mk (hbox); have c2 := bS HB hg; have c5 := bS HB hg; have b0 := bL a6 hg; have b1 := bM a6 hg; have b2 := bL a7 hg; have b3 := bM a7 hg; replace a6 := bQ a6 hb; replace a7 := bQ a7 hb; replace HB := Aside0.mk (below_step bB hb); clear hb hbox hg; have D3 := a9.out; have D4 := a8.out; have D5 := b2.out; have D6 := b3.out; obtain ⟨v5, v6, v7, v8, v9, x0, x1, x2⟩ := cf4 a7; have D7 := b1.out; have D8 := b0.out; obtain ⟨x3, x4, x6, x7, x9, y6, y7, y8⟩ := cf4 b4))
 refine bodyPost_ret (results_cell_row rfl _ _ b5 30 #[.int .i64 a1_0, .int .i64 a1_1, .bool false, .bool false] (0, 0) _ rfl (bK b4) Try.underlying30 rfl kr) rfl ?_
 exact ⟨sE, bI⟩
 )
 )
 )
 )

/-! ### impl_isCorner: function 76 -/
def impl_isCorner.f (a0_0 : Int) (a0_1 : Int) (a1_0 : Int) (a1_1 : Int) (a1_2 : Bool) (a1_3 : Bool) : Option (Bool) := if a1_0 = 0 then (if a1_1 = 0 then (some true) else (some (a1_1 == a0_1))) else (if a1_0 = a0_0 then (if a1_1 = 0 then (some true) else (some (a1_1 == a0_1))) else (some false))
set_option maxHeartbeats 8000000 in
set_option maxRecDepth 100000 in
theorem impl_isCorner.calls (a0_0 : Int) (a0_1 : Int) (a1_0 : Int) (a1_1 : Int) (a1_2 : Bool) (a1_3 : Bool) (r : Bool) (w : World) (h : impl_isCorner.f a0_0 a0_1 a1_0 a1_1 a1_2 a1_3 = some r) :
    Calls Try.prog 76 #[.agg #[.int .i64 a0_0, .int .i64 a0_1], .agg #[.int .i64 a1_0, .int .i64 a1_1, .bool a1_2, .bool a1_3]] w fun e w' => e = .returned (.bool r) ∧ Below w.heap.size w w' := by
 have d6 := Try.underlying28
 have d7 := Try.underlying30
 have HB := Aside0.mk (Below.refl w.heap.size w)
 have H := h
 unfold impl_isCorner.f at H
 clear h
 by_cases c3 : a1_0 = 0
 rw [if_pos c3] at H
 obtain ⟨b5, b6⟩ := yE c3
 clear c3
 by_cases c4 : a1_1 = 0
 rw [if_pos c4] at H
 obtain ⟨b7, b8⟩ := yE c4
 clear c4
 obtain rfl := Option.some.inj H
 rotate_left
 rw [if_neg c4] at H
 obtain ⟨b7, b8⟩ := nE c4
 obtain rfl := Option.some.inj H
 rotate_left
 rw [if_neg c3] at H
 obtain ⟨b5, b6⟩ := nE c3
 by_cases a7 : a1_0 = a0_0
 rw [if_pos a7] at H
 obtain ⟨b1, b2⟩ := yE a7
 clear a7
 by_cases a8 : a1_1 = 0
 rw [if_pos a8] at H
 obtain ⟨b3, b4⟩ := yE a8
 clear a8
 obtain rfl := Option.some.inj H
 rotate_left
 rw [if_neg a8] at H
 obtain ⟨b3, b4⟩ := nE a8
 obtain rfl := Option.some.inj H
 rotate_left
 rw [if_neg a7] at H
 obtain ⟨b1, b2⟩ := nE a7
 obtain rfl := Option.some.inj H
 rotate_left
 all_goals (go_enter Try.func76, Try.ntmps76)
 all_goals (go_wp2_with (first | ((with_reducible refine gate_dst (N := 2) rfl ?_); refine box_ (cs := #[.int .i64 a0_0, .int .i64 a0_1]) (t := 28) fun d8 hg e4 hbox hb => ?_; have a6 := Aside0.mk (hbox); have d9 := bS HB hg; have e0 := bS HB hg; replace HB := Aside0.mk (below_step bB hb); clear hb hbox hg) | ((with_reducible refine gate_dst (N := 3) rfl ?_); refine box_ (cs := #[.int .i64 a1_0, .int .i64 a1_1, .bool a1_2, .bool a1_3]) (t := 30) fun e1 hg e5 hbox hb => ?_; have b9 := Aside0.mk (hbox); have e2 := bS HB hg; have e3 := bS HB hg; have a9 := bL a6 hg; have b0 := bM a6 hg; replace a6 := bQ a6 hb; replace HB := Aside0.mk (below_step bB hb); clear hb hbox hg; have d4 := b0.out; have d5 := a9.out; obtain ⟨c0, c1, c2, c5, c6, c7, c8, c9⟩ := cf4 b9; obtain ⟨d0, d1, d2, d3⟩ := cf2 a6)))
 all_goals go_ret
 all_goals (exact ⟨sE, bI⟩)

/-! ### impl_sign: function 64 -/
def impl_sign.f (a0 : Bool) : Option (Int) := if a0 = true then (some 1) else (some (-1))
set_option maxHeartbeats 8000000 in
set_option maxRecDepth 100000 in
theorem impl_sign.calls (a0 : Bool) (r : Int) (w : World) (h : impl_sign.f a0 = some r) :
    Calls Try.prog 64 #[.bool a0] w fun e w' => e = .returned (.int .i64 r) ∧ Drawn0 w w' := by
 have H := h
 unfold impl_sign.f at H
 clear h
 by_cases c2 : a0 = true
 subst c2
 rw [if_pos rfl] at H
 obtain rfl := Option.some.inj H
 rotate_left
 replace c2 := Bool.eq_false_iff.mpr c2
 subst c2
 rw [if_neg nft] at H
 obtain rfl := Option.some.inj H
 rotate_left
 all_goals (go_enter Try.func64, Try.ntmps64)
 all_goals go_wp2
 all_goals go_ret
 all_goals (exact ⟨by first | rfl | (simp; done) | (simp [*]; done), by repeat (first | exact Drawn0.refl _ | apply Drawn0.step)⟩)

end Go.Proofs.Ythfbjofmcniogaa.PFnBeamsGo
