-- Written by xprint.py, a program of this session, for this seat; Lean checks it.
import Derived.Test.YtlmiaadpnbehgaaGreatDoorVM
import Derived.Test.YtlmiaadpnbehgaaGreatDoorPFnBeamsEndx0
import Derived.Test.YtlmiaadpnbehgaaGreatDoorPFnBeamsEndx6
import Derived.Test.YtlmiaadpnbehgaaGreatDoorPFnBeamsEndx8
import Derived.Test.YtlmiaadpnbehgaaGreatDoorPFnBeamsEndx9
import Derived.Test.YtlmiaadpnbehgaaGreatDoorPFnBeamsEndx13
namespace Go.Proofs.YtlmiaadpnbehgaaGreatDoor.PFnBeamsEnd
open Go.Proofs.YtlmiaadpnbehgaaGreatDoorV Go.RowKit Go.Proofs.YtlmiaadpnbehgaaGreatDoorW.PrintWords Go.Proofs.YtlmiaadpnbehgaaGreatDoorW.PrintLast Go.Proofs.YtlmiaadpnbehgaaGreatDoorW.PrintMore
attribute [local go_sem] max2_int min2_int max_two min_two max_three min_three max_four min_four   -- for this text's walks alone
set_option linter.unusedVariables false
set_option linter.unusedSimpArgs false

/-! ### spec_beTimes: function 38 -/
def spec_beTimes.l0 : Nat → List Int → List (S27) → Int → Int → Int → Int → Option (List Int)
  | 0, _, _, _, _, _, _ => none
  | k + 1, x5, x16, x17, x18, x382000, x382001 => if x18 < x17 then (if 0 ≤ x18 then (if x18 < (x16.length : Int) then (if 0 ≤ (wrap64 ((wrap64 (((rd_T27 x16 x18).f0) * (wrap64 (x382001 + 1)))) + ((rd_T27 x16 x18).f1))) then (if (wrap64 ((wrap64 (((rd_T27 x16 x18).f0) * (wrap64 (x382001 + 1)))) + ((rd_T27 x16 x18).f1))) < (x5.length : Int) then (spec_beTimes.l0 k (x5.set ((wrap64 ((wrap64 (((rd_T27 x16 x18).f0) * (wrap64 (x382001 + 1)))) + ((rd_T27 x16 x18).f1))) : Int).toNat (wrap64 ((rd x5 (wrap64 ((wrap64 (((rd_T27 x16 x18).f0) * (wrap64 (x382001 + 1)))) + ((rd_T27 x16 x18).f1)))) + 1))) x16 x17 (wrap64 (x18 + 1)) x382000 x382001) else (none)) else (none)) else (none)) else (none)) else (some x5)
def spec_beTimes.f (k : Nat) (a0_0 : Int) (a0_1 : Int) (l1 : List (S27)) : Option (List Int) := if 0 ≤ (wrap64 ((wrap64 (a0_0 + 1)) * (wrap64 (a0_1 + 1)))) then (if (wrap64 ((wrap64 (a0_0 + 1)) * (wrap64 (a0_1 + 1))) : Int).toNat ≤ 35184372088832 then (spec_beTimes.l0 k (List.replicate (wrap64 ((wrap64 (a0_0 + 1)) * (wrap64 (a0_1 + 1))) : Int).toNat 0) l1 (l1.length : Int) 0 a0_0 a0_1) else (none)) else (none)
theorem spec_beTimes.mono_l : ∀ k, (∀ y0 y1 y2 y3 y4 y5, LeO (spec_beTimes.l0 k y0 y1 y2 y3 y4 y5) (spec_beTimes.l0 (k + 1) y0 y1 y2 y3 y4 y5))
  | 0 => fun _ _ _ _ _ _ r h => by simp [spec_beTimes.l0] at h
  | k + 1 => by
    have ih0 := spec_beTimes.mono_l k
    · intro y0 y1 y2 y3 y4 y5
      unfold spec_beTimes.l0
      repeat' first
      | (with_reducible exact ih0 _ _ _ _ _ _)
      | (with_reducible exact LeO.refl _)
      | (with_reducible exact LeO.none _)
      | (with_reducible refine LeO.ite ?_ ?_)
      | (with_reducible refine LeO.bind ?_ (fun _ => ?_))
      | exact ih0 _ _ _ _ _ _
      | exact LeO.none _
      | refine LeO.ite ?_ ?_
      | refine LeO.bind ?_ (fun _ => ?_)
theorem spec_beTimes.mono : ∀ a0 a1 a2 k, LeO (spec_beTimes.f k a0 a1 a2) (spec_beTimes.f (k + 1) a0 a1 a2) := by
  intro a0 a1 a2 k
  have ih0 := spec_beTimes.mono_l k
  unfold spec_beTimes.f
  repeat' first
      | (with_reducible exact ih0 _ _ _ _ _ _)
      | (with_reducible exact LeO.refl _)
      | (with_reducible exact LeO.none _)
      | (with_reducible refine LeO.ite ?_ ?_)
      | (with_reducible refine LeO.bind ?_ (fun _ => ?_))
      | exact ih0 _ _ _ _ _ _
      | exact LeO.none _
      | refine LeO.ite ?_ ?_
      | refine LeO.bind ?_ (fun _ => ?_)
set_option maxHeartbeats 8000000 in
set_option maxRecDepth 100000 in
theorem spec_beTimes.calls (k : Nat) (a0_0 : Int) (a0_1 : Int) (A1 : Option Addr) (c1 : Nat) (l1 : List (S27)) (r : List Int) (w : World) (hr1 : Kd.C k27 w A1 l1.length l1) (hc1 : l1.length ≤ c1) (h : spec_beTimes.f k a0_0 a0_1 l1 = some r) :
    Calls Tryz.prog 38 #[.agg #[.int .i64 a0_0, .int .i64 a0_1], .slice A1 l1.length c1] w fun e w' => ∃ v0_ : Value, e = .returned (v0_) ∧ Kd.R (Kd.int .i64) 3 w' w.heap.size (fun _ => True) v0_ r ∧ Below w.heap.size w w' := by
 have n5 := Tryz.underlying25
 have n6 := Tryz.underlying27
 have l0 := Aside0.mk hr1
 have o1 := Aside0.mk hc1
 clear hr1 hc1
 have HB := Aside0.mk (Below.refl w.heap.size w)
 have H := h
 unfold spec_beTimes.f at H
 clear h
 obtain ⟨b9, c9⟩ : ∃ j_ : Int, (wrap64 ((wrap64 (a0_0 + 1)) * (wrap64 (a0_1 + 1)))) = j_ := ⟨_, rfl⟩
 (first | rw [c9] at H | simp only [c9] at H)
 have l7 : (IntKind.i64.wrap ((wrap64 (a0_0 + 1)) * (wrap64 (a0_1 + 1)))) = b9 := (i64_w _).trans c9
 by_cases c4 : 0 ≤ (b9)
 ·(
 rw [if_pos c4] at H
 have h8 := eq_true c4
 have h9 : decide (0 ≤ (b9)) = true := decide_eq_true c4
 clear c4
 by_cases c5 : (b9 : Int).toNat ≤ 35184372088832
 ·(
 rw [if_pos c5] at H
 have i0 := eq_true c5
 have i1 : decide ((b9 : Int).toNat ≤ 35184372088832) = true := decide_eq_true c5
 clear c5
 obtain ⟨e8, b3⟩ : ∃ y_ : List Int, y_ = (List.replicate (b9 : Int).toNat 0) := ⟨_, rfl⟩
 replace H : (spec_beTimes.l0 k e8 l1 (l1.length : Int) 0 a0_0 a0_1) = some r := by first | (rw [b3]; with_reducible exact H) | (have c6 := (Option.bind_some _ _).symm.trans H; rw [b3]; with_reducible exact c6) | (have c6 := (Option.bind_some _ _).symm.trans H; with_reducible exact c6) | with_reducible exact H | (rw [b3]; exact H) | exact H
 have e2 := Aside0.mk b3
 clear b3
 have H' := Aside0.mk H
 clear H
 go_enter Tryz.func38, Tryz.ntmps38
 go_wp2_with (first | ((with_reducible refine gate_dst (N := 2) rfl ?_); refine box_ (cs := #[.int .i64 a0_0, .int .i64 a0_1]) (t := 25) fun d0 hg w6 hbox hb => ?_; have a7 := Aside0.mk (hbox); have l8 := bS HB hg; have l9 := bS HB hg; replace HB := Aside0.mk (below_step bB hb); clear hb hbox hg; obtain ⟨e9, g0, g1, g2⟩ := cf2 a7) | ((with_reducible refine gate_dst (N := 15) rfl ?_); refine Kd.R_make (Kd.int .i64) _ 3 rfl (N := 15) rfl 60 _ _ rfl b9 rfl rfl Tryz.underlying60 (.int .i64 0) 8 info3 rfl (by decide) (by omega) 0 (ok := fun _ => True) (okp := fun _ => True) rfl (fun _ hk => hk) trivial (of_decide_eq_true asm) (Nat.le_trans (Nat.mul_le_mul_right _ (of_decide_eq_true asm : b9.toNat ≤ 35184372088832)) (by omega)) (Below.refl _ _) (Nat.le_refl _) ?_; intro g3 w8 d2 hb hg_ hnew_; clear hg_ hnew_; (first | rw [← e2.out] at d2 | (simp only [Int.reduceToNat] at d2; rw [← e2.out] at d2)); have h5 := Aside0.mk (Kd.R_lower d2 (below_size bB)); replace a7 := bQ a7 hb; replace HB := Aside0.mk (below_step bB hb); clear hb d2))
 go_loopg [18] k (fun kq l2 w' => ∃ (b0 : List Int) (a6 : Int), l2 = .int .i64 a6 ∧ Aside0 (spec_beTimes.l0 kq b0 l1 (l1.length : Int) a6 a0_0 a0_1 = some r) ∧ Aside0 (kq ≤ k) ∧ Aside0 (Kd.R (Kd.int .i64) 3 w' w.heap.size (fun _ => True) g3 b0) ∧ Aside0 (w'.heap[d0]? = some (.cells #[.int .i64 a0_0, .int .i64 a0_1] 25 (0, 0))) ∧ Aside0 (Below w.heap.size w w'))
 case atStart => exact ⟨(e8), (0), sR, H', ⟨Nat.le_refl _⟩, ⟨oR h5⟩, (bA a7), ⟨bB⟩⟩
 case round => (
 clear H'
 try clear h8
 try clear h9
 try clear i0
 try clear i1
 try clear e9
 try clear g0
 try clear g1
 try clear g2
 obtain ⟨b0, a6, rfl, HA, HK1, a9, a7, HB⟩ := hrel
 cases gk with
 | zero => exact absurd HA.out (by simp [spec_beTimes.l0])
 | succ k1 => (
 have H := HA.out
 clear HA
 simp only [spec_beTimes.l0] at H
 by_cases c7 : a6 < (l1.length : Int)
 ·(
 rw [if_pos c7] at H
 have h6 : decide (a6 < (l1.length : Int)) = true := decide_eq_true c7
 clear c7
 by_cases e3 : 0 ≤ a6
 ·(
 rw [if_pos e3] at H
 have m0 : decide (0 ≤ a6) = true := decide_eq_true e3
 clear e3
 by_cases e4 : a6 < (l1.length : Int)
 ·(
 rw [if_pos e4] at H
 have m1 : decide (a6 < (l1.length : Int)) = true := decide_eq_true e4
 clear e4
 obtain ⟨a8, d1⟩ : ∃ j_ : Int, (wrap64 ((wrap64 (((rd_T27 l1 a6).f0) * (wrap64 (a0_1 + 1)))) + ((rd_T27 l1 a6).f1))) = j_ := ⟨_, rfl⟩
 (first | rw [d1] at H | simp only [d1] at H)
 have l3 : (IntKind.i64.wrap ((wrap64 (((rd_T27 l1 a6).f0) * (wrap64 (a0_1 + 1)))) + ((rd_T27 l1 a6).f1))) = a8 := (i64_w _).trans d1
 by_cases e5 : 0 ≤ (a8)
 ·(
 rw [if_pos e5] at H
 have m2 : decide (0 ≤ (a8)) = true := decide_eq_true e5
 clear e5
 by_cases e6 : (a8) < (b0.length : Int)
 ·(
 rw [if_pos e6] at H
 have m3 : decide ((a8) < (b0.length : Int)) = true := decide_eq_true e6
 clear e6
 obtain ⟨d5, b4⟩ : ∃ y_ : List Int, y_ = (b0.set ((a8) : Int).toNat (wrap64 ((rd b0 (a8)) + 1))) := ⟨_, rfl⟩
 replace H : (spec_beTimes.l0 k1 d5 l1 (l1.length : Int) (wrap64 (a6 + 1)) a0_0 a0_1) = some r := by first | (rw [b4]; with_reducible exact H) | (have c6 := (Option.bind_some _ _).symm.trans H; rw [b4]; with_reducible exact c6) | (have c6 := (Option.bind_some _ _).symm.trans H; with_reducible exact c6) | with_reducible exact H | (rw [b4]; exact H) | exact H
 have h7 := Aside0.mk b4
 clear b4
 have H' := Aside0.mk H
 clear H
 have d6 : 0 ≤ (a6 : Int) := of_decide_eq_true asm
 have d7 : a6 < (l1.length : Int) := of_decide_eq_true asm
 obtain ⟨m4, i2, b5, b6, b7, b8⟩ := at_T27 l0.out a6 d6 d7
 cases i2
 try replace b5 := (HB.out.cell (World.block_lt_of_cell? w _ b5)).trans b5
 try replace b6 := (HB.out.cell (World.block_lt_of_cell? w _ b6)).trans b6
 try replace b7 := (HB.out.cell (World.block_lt_of_cell? w _ b7)).trans b7
 try replace b8 := (HB.out.cell (World.block_lt_of_cell? w _ b8)).trans b8
 replace d6 := eq_true d6
 replace d7 := eq_true d7
 go_wp2_with (first | ((with_reducible refine gate_dst (N := 7) rfl ?_); refine box_ (cs := #[.int .i64 0, .int .i64 0, .bool false, .bool false]) (t := 27) fun b1 hg l4 hbox hb => ?_; have b2 := Aside0.mk (hbox); have m5 := bS HB hg; have m6 := bS HB hg; have d3 := bL a7 hg; have d4 := bM a7 hg; replace a9 := Aside0.mk (Kd.R_below (oR a9) hb); replace a7 := bQ a7 hb; replace HB := Aside0.mk (below_step bB hb); clear hb hbox hg; have m7 := d4.out; have m8 := d3.out; obtain ⟨i9, j0, j1, j2, j3, j4, j5, j6⟩ := cf4 b2) | ((with_reducible refine gate_store (t := 27) (p := 7) rfl ?_); refine store_event (t := 27) (p := 7) (v := ?vo_w20) (w1 := ((((l4.setCell ⟨b1, 0, none⟩ (.int .i64 ((rd_T27 l1 a6).f0))).setCell ⟨b1, 1, none⟩ (.int .i64 ((rd_T27 l1 a6).f1))).setCell ⟨b1, 2, none⟩ (.bool ((rd_T27 l1 a6).f2))).setCell ⟨b1, 3, none⟩ (.bool ((rd_T27 l1 a6).f3)))) ?hg ?ho ?hn ?hr ?_; (case ho => rfl); (case hg => rfl); (case hn => rfl); (case hr => first | (go_simp; done) | (go_simp; rfl)); intro c8 hw; replace a9 : Aside0 (Kd.R (Kd.int .i64) 3 c8 w.heap.size (fun _ => True) g3 b0) := ⟨(by rw [hw]; exact (by (with_reducible repeat (first | apply Kd.R_alloc | apply Kd.R_drewN | apply Kd.R_drew)); exact Kd.R_mono (Kd.R_far (p := ⟨b1, 3, none⟩) (Kd.R_far (p := ⟨b1, 2, none⟩) (Kd.R_far (p := ⟨b1, 1, none⟩) (Kd.R_far (p := ⟨b1, 0, none⟩) (Kd.R_types a9.out b2.out (by decide)) (fun _ hk => hk.2) (.int .i64 ((rd_T27 l1 a6).f0))) (fun _ hk => hk.2) (.int .i64 ((rd_T27 l1 a6).f1))) (fun _ hk => hk.2) (.bool ((rd_T27 l1 a6).f2))) (fun _ hk => hk.2) (.bool ((rd_T27 l1 a6).f3))) (fun _ hk => trivial)))⟩; replace a7 : Aside0 (c8.heap[d0]? = some (.cells #[.int .i64 a0_0, .int .i64 a0_1] 25 (0, 0))) := ⟨(by rw [hw]; exact (bK a7))⟩; replace b2 : Aside0 (c8.heap[b1]? = some (.cells #[.int .i64 ((rd_T27 l1 a6).f0), .int .i64 ((rd_T27 l1 a6).f1), .bool ((rd_T27 l1 a6).f2), .bool ((rd_T27 l1 a6).f3)] 27 (0, 0))) := ⟨(by rw [hw]; exact (bK b2))⟩; replace HB : Aside0 (Below w.heap.size w c8) := ⟨(by rw [hw]; exact bB)⟩; clear hw; obtain ⟨j7, j8, j9, k0, k2, k3, k4, k5⟩ := cf4 b2; obtain ⟨k6, k7, k8, k9⟩ := cf2 a7; obtain ⟨n7, i3, i4⟩ := Kd.R_slice a9.out; subst i4; have d8 : 0 ≤ ((a8) : Int) := of_decide_eq_true asm; have d9 : (a8) < (b0.length : Int) := of_decide_eq_true asm; obtain ⟨m9, i5, e7⟩ := Kd.at_int (Kd.R_reads' a9.out).2.2 (a8) d8 d9; cases i5; replace d8 := eq_true d8; replace d9 := eq_true d9; have g4 : 0 ≤ ((a8) : Int) := of_decide_eq_true asm; have g5 : ((a8) : Int) < ((b0.length : Int) : Int) := of_decide_eq_true asm; obtain ⟨e0, n8, g6, g7, i6, n9, g8⟩ := Kd.R_form a9.out (by omega); (first | cases g6 | (injection g6 with ea_ en_ ec_; (first | subst ea_ | (injection ea_ with ea_; subst ea_)); subst ec_; clear en_)); have i7 := Aside0.mk g7; have o0 := Aside0.mk g8; clear g7 i6 g8; (first | simp only [add_plain] at e7 | skip); obtain ⟨l5, l6⟩ := Kd.R_celln 0 a9.out ((a8) : Int) g4 g5; replace g4 := eq_true g4; replace g5 := eq_true g5; obtain ⟨n0, n4⟩ := Kd.R_celln 0 a9.out ((a8) : Int) (of_decide_eq_true asm) (of_decide_eq_true asm); have e1 := Kd.R_putg a9.out ((a8) : Int) (wrap64 ((rd b0 (a8)) + 1))) | ((with_reducible refine gate_store (t := 3) (p := 35) rfl ?_); refine store_event (t := 3) (p := 35) (v := ?vo_w25) (w1 := (c8.setCell ⟨e0, ((a8) : Int).toNat, none⟩ (.int .i64 (wrap64 ((rd b0 (a8)) + 1))))) ?hg ?ho ?hn ?hr ?_; (case ho => rfl); (case hg => rfl); (case hn => rfl); (case hr => first | (go_simp; done) | (go_simp; rfl)); intro g9 hw; have hg : c8.grownBy g9 (some e0) := (by rw [hw]; exact e1.2); have hp_ : Kd.R (Kd.int .i64) 3 g9 w.heap.size (fun _ => True) (.slice (some ⟨e0, 0, none⟩) b0.length i3) d5 := (by rw [hw, h7.out]; exact e1.1); clear e1; replace a7 := Aside0.mk (blk_grown (g := d0) (o := .cells #[.int .i64 a0_0, .int .i64 a0_1] 25 (0, 0)) (bK a7) hg (Kd.R_ne a9.out a7.out (by decide))); replace b2 := Aside0.mk (blk_grown (g := b1) (o := .cells #[.int .i64 ((rd_T27 l1 a6).f0), .int .i64 ((rd_T27 l1 a6).f1), .bool ((rd_T27 l1 a6).f2), .bool ((rd_T27 l1 a6).f3)] 27 (0, 0)) (bK b2) hg (Kd.R_ne a9.out b2.out (by decide))); replace a9 := Aside0.mk (hp_); replace HB := Aside0.mk ((by rw [hw]; exact below_set (HB.out) i7.out : Below w.heap.size w g9)); clear hg hw hp_))
 go_roundg k1
 case measure => have := HK1.out; omega
 case rel => exact ⟨(d5), (wrap64 (a6 + 1)), sR, H', ⟨by have := HK1.out; omega⟩, ⟨oR a9⟩, (bA a7), ⟨bB⟩⟩
 )
 ·(
 rw [if_neg e6] at H
 exact absurd H (by simp)
 )
 )
 ·(
 rw [if_neg e5] at H
 exact absurd H (by simp)
 )
 )
 ·(
 rw [if_neg e4] at H
 exact absurd H (by simp)
 )
 )
 ·(
 rw [if_neg e3] at H
 exact absurd H (by simp)
 )
 )
 ·(
 rw [if_neg c7] at H
 have h6 : decide (a6 < (l1.length : Int)) = false := decide_eq_false c7
 clear c7
 obtain rfl := Option.some.inj H
 go_wp2
 go_ret
 exact ⟨_, by first | rfl | (simp [errW_none, errW_some] <;> rfl) | (simp only [← c9]; first | rfl | (simp [errW_none, errW_some] <;> rfl)) | (simp [*, errW_none, errW_some] <;> rfl), by (with_reducible repeat (first | apply Kd.R_alloc | apply Kd.R_drewN | apply Kd.R_drew)); exact a9.out, bI⟩
 )
 )
 )
 )
 ·(
 rw [if_neg c5] at H
 exact absurd H (by simp)
 )
 )
 ·(
 rw [if_neg c4] at H
 exact absurd H (by simp)
 )

/-! ### spec_CountCrossings: function 13 -/
def spec_CountCrossings.l0 : Nat → Int → List Int → Int → Int → Int → Int → Int → Int → Bool → Bool → Option (Int × Bool)
  | 0, _, _, _, _, _, _, _, _, _, _ => none
  | k + 1, x9, x29, x30, x31, x390000, x390001, x391000, x391001, x391002, x391003 => if x31 < x30 then (if 0 ≤ x31 then (if x31 < (x29.length : Int) then (if (wrap64 (x390001 + 1)) = 0 then (none) else (if (rd x29 x31) > 1 then (if (wrap64 (Int.tdiv x31 (wrap64 (x390001 + 1)))) > 0 then (if (wrap64 (Int.tdiv x31 (wrap64 (x390001 + 1)))) < x390000 then (if (Int.tmod x31 (wrap64 (x390001 + 1))) > 0 then (if (Int.tmod x31 (wrap64 (x390001 + 1))) < x390001 then (if (wrap64 (Int.tdiv x31 (wrap64 (x390001 + 1)))) = x391000 then (if (Int.tmod x31 (wrap64 (x390001 + 1))) = x391001 then (spec_CountCrossings.l0 k x9 x29 x30 (wrap64 (x31 + 1)) x390000 x390001 x391000 x391001 x391002 x391003) else (spec_CountCrossings.l0 k (wrap64 (x9 + 1)) x29 x30 (wrap64 (x31 + 1)) x390000 x390001 x391000 x391001 x391002 x391003)) else (spec_CountCrossings.l0 k (wrap64 (x9 + 1)) x29 x30 (wrap64 (x31 + 1)) x390000 x390001 x391000 x391001 x391002 x391003)) else (spec_CountCrossings.l0 k x9 x29 x30 (wrap64 (x31 + 1)) x390000 x390001 x391000 x391001 x391002 x391003)) else (spec_CountCrossings.l0 k x9 x29 x30 (wrap64 (x31 + 1)) x390000 x390001 x391000 x391001 x391002 x391003)) else (spec_CountCrossings.l0 k x9 x29 x30 (wrap64 (x31 + 1)) x390000 x390001 x391000 x391001 x391002 x391003)) else (spec_CountCrossings.l0 k x9 x29 x30 (wrap64 (x31 + 1)) x390000 x390001 x391000 x391001 x391002 x391003)) else (spec_CountCrossings.l0 k x9 x29 x30 (wrap64 (x31 + 1)) x390000 x390001 x391000 x391001 x391002 x391003))) else (none)) else (none)) else (some (x9, true))
def spec_CountCrossings.f (k : Nat) (a0_0 : Int) (a0_1 : Int) (a1_0 : Int) (a1_1 : Int) (a1_2 : Bool) (a1_3 : Bool) : Option (Int × Bool) := (spec_beGood.f a0_0 a0_1 a1_0 a1_1 a1_2 a1_3).bind fun t391 => (if t391 = true then ((spec_beEnd.f k a0_0 a0_1 a1_0 a1_1 a1_2 a1_3).bind fun bt392 => (if bt392.2.2 = true then ((spec_beTimes.f k a0_0 a0_1 bt392.1).bind fun t397 => (spec_CountCrossings.l0 k 0 t397 (t397.length : Int) 0 a0_0 a0_1 a1_0 a1_1 a1_2 a1_3)) else (some (0, false)))) else (some (0, false)))
theorem spec_CountCrossings.mono_l : ∀ k, (∀ y0 y1 y2 y3 y4 y5 y6 y7 y8 y9, LeO (spec_CountCrossings.l0 k y0 y1 y2 y3 y4 y5 y6 y7 y8 y9) (spec_CountCrossings.l0 (k + 1) y0 y1 y2 y3 y4 y5 y6 y7 y8 y9))
  | 0 => fun _ _ _ _ _ _ _ _ _ _ r h => by simp [spec_CountCrossings.l0] at h
  | k + 1 => by
    have ih0 := spec_CountCrossings.mono_l k
    · intro y0 y1 y2 y3 y4 y5 y6 y7 y8 y9
      unfold spec_CountCrossings.l0
      repeat' first
      | (with_reducible exact ih0 _ _ _ _ _ _ _ _ _ _)
      | (with_reducible exact spec_beEnd.mono _ _ _ _ _ _ _)
      | (with_reducible exact spec_beTimes.mono _ _ _ _)
      | (with_reducible exact LeO.refl _)
      | (with_reducible exact LeO.none _)
      | (with_reducible refine LeO.ite ?_ ?_)
      | (with_reducible refine LeO.bind ?_ (fun _ => ?_))
      | exact ih0 _ _ _ _ _ _ _ _ _ _
      | exact spec_beEnd.mono _ _ _ _ _ _ _
      | exact spec_beTimes.mono _ _ _ _
      | exact LeO.none _
      | refine LeO.ite ?_ ?_
      | refine LeO.bind ?_ (fun _ => ?_)
theorem spec_CountCrossings.mono : ∀ a0 a1 a2 a3 a4 a5 k, LeO (spec_CountCrossings.f k a0 a1 a2 a3 a4 a5) (spec_CountCrossings.f (k + 1) a0 a1 a2 a3 a4 a5) := by
  intro a0 a1 a2 a3 a4 a5 k
  have ih0 := spec_CountCrossings.mono_l k
  unfold spec_CountCrossings.f
  repeat' first
      | (with_reducible exact ih0 _ _ _ _ _ _ _ _ _ _)
      | (with_reducible exact spec_beEnd.mono _ _ _ _ _ _ _)
      | (with_reducible exact spec_beTimes.mono _ _ _ _)
      | (with_reducible exact LeO.refl _)
      | (with_reducible exact LeO.none _)
      | (with_reducible refine LeO.ite ?_ ?_)
      | (with_reducible refine LeO.bind ?_ (fun _ => ?_))
      | exact ih0 _ _ _ _ _ _ _ _ _ _
      | exact spec_beEnd.mono _ _ _ _ _ _ _
      | exact spec_beTimes.mono _ _ _ _
      | exact LeO.none _
      | refine LeO.ite ?_ ?_
      | refine LeO.bind ?_ (fun _ => ?_)
set_option maxHeartbeats 8000000 in
set_option maxRecDepth 100000 in
theorem spec_CountCrossings.calls (k : Nat) (a0_0 : Int) (a0_1 : Int) (a1_0 : Int) (a1_1 : Int) (a1_2 : Bool) (a1_3 : Bool) (r1 : Int) (r2 : Bool) (w : World) (h : spec_CountCrossings.f k a0_0 a0_1 a1_0 a1_1 a1_2 a1_3 = some (r1, r2)) :
    Calls Tryz.prog 13 #[.agg #[.int .i64 a0_0, .int .i64 a0_1], .agg #[.int .i64 a1_0, .int .i64 a1_1, .bool a1_2, .bool a1_3]] w fun e w' => e = .returned (.tuple #[.int .i64 r1, .bool r2]) ∧ Below w.heap.size w w' := by
 have C6 := Tryz.underlying25
 have C7 := Tryz.underlying27
 have HB := Aside0.mk (Below.refl w.heap.size w)
 have H := h
 unfold spec_CountCrossings.f at H
 clear h
 obtain ⟨q6, A3, H⟩ := bD H
 try dsimp only at H
 by_cases c4 : q6 = true
 ·(
 subst c4
 rw [if_pos rfl] at H
 obtain ⟨⟨d2, d5, q7⟩, A5, H⟩ := bD H
 try dsimp only at H
 by_cases c6 : q7 = true
 ·(
 subst c6
 rw [if_pos rfl] at H
 obtain ⟨b4, A7, H⟩ := bD H
 try dsimp only at H
 have H' := Aside0.mk H
 clear H
 go_enter Tryz.func13, Tryz.ntmps13
 go_wp2_with (first | ((with_reducible refine gate_dst (N := 2) rfl ?_); refine box_ (cs := #[.int .i64 a0_0, .int .i64 a0_1]) (t := 25) fun c5 hg w8 hbox hb => ?_; have a6 := Aside0.mk (hbox); have c8 := bS HB hg; have c9 := bS HB hg; replace HB := Aside0.mk (below_step bB hb); clear hb hbox hg) | ((with_reducible refine gate_dst (N := 3) rfl ?_); refine box_ (cs := #[.int .i64 a1_0, .int .i64 a1_1, .bool a1_2, .bool a1_3]) (t := 27) fun b7 hg w9 hbox hb => ?_; have a7 := Aside0.mk (hbox); have d0 := bS HB hg; have d1 := bS HB hg; have a9 := bL a6 hg; have b0 := bM a6 hg; replace a6 := bQ a6 hb; replace HB := Aside0.mk (below_step bB hb); clear hb hbox hg; have n4 := a9.out; have n5 := b0.out; obtain ⟨d6, d7, d8, d9⟩ := cf2 a6; obtain ⟨e0, e1, e2, e3, e4, e5, e6, e7⟩ := cf4 a7) | (go_at_call 34; (with_reducible refine (spec_beGood.calls a0_0 a0_1 a1_0 a1_1 a1_2 a1_3 true _ A3.out).mono ?_); rintro e p6 ⟨rfl, hb⟩; replace a6 := bQ a6 hb; replace a7 := bQ a7 hb; replace HB := Aside0.mk (below_step bB hb); (try clear hb); obtain ⟨e8, e9, g0, g1⟩ := cf2 a6; obtain ⟨g2, g3, g4, g5, g6, g7, g8, g9⟩ := cf4 a7) | (go_at_call 35; (with_reducible refine (spec_beEnd.calls k a0_0 a0_1 a1_0 a1_1 a1_2 a1_3 d2 d5 true _ A5.out).mono ?_); rintro e p7 ⟨h9, rfl, b6, hb⟩; have b3 := Aside0.mk (Kd.R_lower (Kd.R_newB b6 (g := b7) (o := .cells #[.int .i64 a1_0, .int .i64 a1_1, .bool a1_2, .bool a1_3] 27 (0, 0)) (bK a7)) (below_size bB)); replace a6 := bQ a6 hb; replace a7 := bQ a7 hb; replace HB := Aside0.mk (below_step bB hb); (try clear hb); (try clear b6); obtain ⟨h5, h6, h7, h8⟩ := cf2 a6; obtain ⟨o2, o3, i0⟩ := Kd.R_slice b3.out; subst i0) | (go_at_call 38; (with_reducible refine (spec_beTimes.calls k a0_0 a0_1 _ _ d2 b4 _ ?side1 ?side2 A7.out).mono ?_); (case side1 => repeat (first | exact (Kd.R_reads' b3.out).2.2 | (with_reducible refine Kd.C_alloc ?_ _) | (with_reducible refine Kd.C_drewN ?_ _) | (with_reducible refine Kd.C_drew ?_))); (case side2 => exact (Kd.R_reads' b3.out).2.1); rintro e p8 ⟨o4, rfl, b6, hb⟩; have d4 := Aside0.mk (Kd.R_lower b6 (below_size bB)); replace b3 := Aside0.mk (Kd.R_below (oR b3) hb); replace a6 := bQ a6 hb; replace a7 := bQ a7 hb; replace HB := Aside0.mk (below_step bB hb); (try clear hb); (try clear b6); obtain ⟨m9, n0, i1⟩ := Kd.R_slice d4.out; subst i1))
 repeat (go_quiet (first | ((with_reducible refine gate_dst (N := 2) rfl ?_); refine box_ (cs := #[.int .i64 a0_0, .int .i64 a0_1]) (t := 25) fun c5 hg w8 hbox hb => ?_; have a6 := Aside0.mk (hbox); have c8 := bS HB hg; have c9 := bS HB hg; replace HB := Aside0.mk (below_step bB hb); clear hb hbox hg) | ((with_reducible refine gate_dst (N := 3) rfl ?_); refine box_ (cs := #[.int .i64 a1_0, .int .i64 a1_1, .bool a1_2, .bool a1_3]) (t := 27) fun b7 hg w9 hbox hb => ?_; have a7 := Aside0.mk (hbox); have d0 := bS HB hg; have d1 := bS HB hg; have a9 := bL a6 hg; have b0 := bM a6 hg; replace a6 := bQ a6 hb; replace HB := Aside0.mk (below_step bB hb); clear hb hbox hg; have n4 := a9.out; have n5 := b0.out; obtain ⟨d6, d7, d8, d9⟩ := cf2 a6; obtain ⟨e0, e1, e2, e3, e4, e5, e6, e7⟩ := cf4 a7) | (go_at_call 34; (with_reducible refine (spec_beGood.calls a0_0 a0_1 a1_0 a1_1 a1_2 a1_3 true _ A3.out).mono ?_); rintro e p6 ⟨rfl, hb⟩; replace a6 := bQ a6 hb; replace a7 := bQ a7 hb; replace HB := Aside0.mk (below_step bB hb); (try clear hb); obtain ⟨e8, e9, g0, g1⟩ := cf2 a6; obtain ⟨g2, g3, g4, g5, g6, g7, g8, g9⟩ := cf4 a7) | (go_at_call 35; (with_reducible refine (spec_beEnd.calls k a0_0 a0_1 a1_0 a1_1 a1_2 a1_3 d2 d5 true _ A5.out).mono ?_); rintro e p7 ⟨h9, rfl, b6, hb⟩; have b3 := Aside0.mk (Kd.R_lower (Kd.R_newB b6 (g := b7) (o := .cells #[.int .i64 a1_0, .int .i64 a1_1, .bool a1_2, .bool a1_3] 27 (0, 0)) (bK a7)) (below_size bB)); replace a6 := bQ a6 hb; replace a7 := bQ a7 hb; replace HB := Aside0.mk (below_step bB hb); (try clear hb); (try clear b6); obtain ⟨h5, h6, h7, h8⟩ := cf2 a6; obtain ⟨o2, o3, i0⟩ := Kd.R_slice b3.out; subst i0) | (go_at_call 38; (with_reducible refine (spec_beTimes.calls k a0_0 a0_1 _ _ d2 b4 _ ?side1 ?side2 A7.out).mono ?_); (case side1 => repeat (first | exact (Kd.R_reads' b3.out).2.2 | (with_reducible refine Kd.C_alloc ?_ _) | (with_reducible refine Kd.C_drewN ?_ _) | (with_reducible refine Kd.C_drew ?_))); (case side2 => exact (Kd.R_reads' b3.out).2.1); rintro e p8 ⟨o4, rfl, b6, hb⟩; have d4 := Aside0.mk (Kd.R_lower b6 (below_size bB)); replace b3 := Aside0.mk (Kd.R_below (oR b3) hb); replace a6 := bQ a6 hb; replace a7 := bQ a7 hb; replace HB := Aside0.mk (below_step bB hb); (try clear hb); (try clear b6); obtain ⟨m9, n0, i1⟩ := Kd.R_slice d4.out; subst i1)); try go_wp2_with (first | ((with_reducible refine gate_dst (N := 2) rfl ?_); refine box_ (cs := #[.int .i64 a0_0, .int .i64 a0_1]) (t := 25) fun c5 hg w8 hbox hb => ?_; have a6 := Aside0.mk (hbox); have c8 := bS HB hg; have c9 := bS HB hg; replace HB := Aside0.mk (below_step bB hb); clear hb hbox hg) | ((with_reducible refine gate_dst (N := 3) rfl ?_); refine box_ (cs := #[.int .i64 a1_0, .int .i64 a1_1, .bool a1_2, .bool a1_3]) (t := 27) fun b7 hg w9 hbox hb => ?_; have a7 := Aside0.mk (hbox); have d0 := bS HB hg; have d1 := bS HB hg; have a9 := bL a6 hg; have b0 := bM a6 hg; replace a6 := bQ a6 hb; replace HB := Aside0.mk (below_step bB hb); clear hb hbox hg; have n4 := a9.out; have n5 := b0.out; obtain ⟨d6, d7, d8, d9⟩ := cf2 a6; obtain ⟨e0, e1, e2, e3, e4, e5, e6, e7⟩ := cf4 a7) | (go_at_call 34; (with_reducible refine (spec_beGood.calls a0_0 a0_1 a1_0 a1_1 a1_2 a1_3 true _ A3.out).mono ?_); rintro e p6 ⟨rfl, hb⟩; replace a6 := bQ a6 hb; replace a7 := bQ a7 hb; replace HB := Aside0.mk (below_step bB hb); (try clear hb); obtain ⟨e8, e9, g0, g1⟩ := cf2 a6; obtain ⟨g2, g3, g4, g5, g6, g7, g8, g9⟩ := cf4 a7) | (go_at_call 35; (with_reducible refine (spec_beEnd.calls k a0_0 a0_1 a1_0 a1_1 a1_2 a1_3 d2 d5 true _ A5.out).mono ?_); rintro e p7 ⟨h9, rfl, b6, hb⟩; have b3 := Aside0.mk (Kd.R_lower (Kd.R_newB b6 (g := b7) (o := .cells #[.int .i64 a1_0, .int .i64 a1_1, .bool a1_2, .bool a1_3] 27 (0, 0)) (bK a7)) (below_size bB)); replace a6 := bQ a6 hb; replace a7 := bQ a7 hb; replace HB := Aside0.mk (below_step bB hb); (try clear hb); (try clear b6); obtain ⟨h5, h6, h7, h8⟩ := cf2 a6; obtain ⟨o2, o3, i0⟩ := Kd.R_slice b3.out; subst i0) | (go_at_call 38; (with_reducible refine (spec_beTimes.calls k a0_0 a0_1 _ _ d2 b4 _ ?side1 ?side2 A7.out).mono ?_); (case side1 => repeat (first | exact (Kd.R_reads' b3.out).2.2 | (with_reducible refine Kd.C_alloc ?_ _) | (with_reducible refine Kd.C_drewN ?_ _) | (with_reducible refine Kd.C_drew ?_))); (case side2 => exact (Kd.R_reads' b3.out).2.1); rintro e p8 ⟨o4, rfl, b6, hb⟩; have d4 := Aside0.mk (Kd.R_lower b6 (below_size bB)); replace b3 := Aside0.mk (Kd.R_below (oR b3) hb); replace a6 := bQ a6 hb; replace a7 := bQ a7 hb; replace HB := Aside0.mk (below_step bB hb); (try clear hb); (try clear b6); obtain ⟨m9, n0, i1⟩ := Kd.R_slice d4.out; subst i1)))
 go_loopg [9, 31] k (fun kq v9 A2 w' => ∃ (c7 : Int) (a8 : Int), v9 = .int .i64 c7 ∧ A2 = .int .i64 a8 ∧ Aside0 (spec_CountCrossings.l0 kq c7 b4 (b4.length : Int) a8 a0_0 a0_1 a1_0 a1_1 a1_2 a1_3 = some (r1, r2)) ∧ Aside0 (kq ≤ k) ∧ Aside0 (Kd.R (Kd.int .i64) 3 w' w.heap.size (fun _ => True) (.slice m9 b4.length n0) b4) ∧ Aside0 (w'.heap[c5]? = some (.cells #[.int .i64 a0_0, .int .i64 a0_1] 25 (0, 0))) ∧ Aside0 (w'.heap[b7]? = some (.cells #[.int .i64 a1_0, .int .i64 a1_1, .bool a1_2, .bool a1_3] 27 (0, 0))) ∧ Aside0 (Below w.heap.size w w'))
 case atStart => exact ⟨(0), (0), sR, sR, H', ⟨Nat.le_refl _⟩, ⟨oR d4⟩, (bA a6), (bA a7), ⟨bB⟩⟩
 case round => (
 clear H'
 try clear c4
 try clear c6
 try clear d6
 try clear d7
 try clear e0
 try clear e1
 try clear e2
 try clear e3
 try clear e8
 try clear e9
 try clear g2
 try clear g3
 try clear g4
 try clear g5
 try clear h5
 try clear h6
 try clear d8
 try clear d9
 try clear e4
 try clear e5
 try clear e6
 try clear e7
 try clear g0
 try clear g1
 try clear g6
 try clear g7
 try clear g8
 try clear g9
 try clear h7
 try clear h8
 obtain ⟨c7, a8, rfl, rfl, HA, HK1, b5, a6, a7, HB⟩ := hrel
 cases gk with
 | zero => exact absurd HA.out (by simp [spec_CountCrossings.l0])
 | succ k1 => (
 have H := HA.out
 clear HA
 simp only [spec_CountCrossings.l0] at H
 by_cases i2 : a8 < (b4.length : Int)
 ·(
 rw [if_pos i2] at H
 have o6 : decide (a8 < (b4.length : Int)) = true := decide_eq_true i2
 clear i2
 by_cases n6 : 0 ≤ a8
 ·(
 rw [if_pos n6] at H
 have A4 : decide (0 ≤ a8) = true := decide_eq_true n6
 clear n6
 by_cases n7 : a8 < (b4.length : Int)
 ·(
 rw [if_pos n7] at H
 have A6 : decide (a8 < (b4.length : Int)) = true := decide_eq_true n7
 clear n7
 by_cases o5 : (wrap64 (a0_1 + 1)) = 0
 ·(
 rw [if_pos o5] at H
 exact absurd H (by simp)
 )
 ·(
 rw [if_neg o5] at H
 obtain ⟨A8, A9⟩ := nE o5
 by_cases i3 : (rd b4 a8) > 1
 ·(
 rw [if_pos i3] at H
 have o7 : decide (1 < (rd b4 a8)) = true := decide_eq_true i3
 clear i3
 by_cases i4 : (wrap64 (Int.tdiv a8 (wrap64 (a0_1 + 1)))) > 0
 ·(
 rw [if_pos i4] at H
 have o8 : decide (0 < (wrap64 (Int.tdiv a8 (wrap64 (a0_1 + 1))))) = true := decide_eq_true i4
 clear i4
 by_cases i5 : (wrap64 (Int.tdiv a8 (wrap64 (a0_1 + 1)))) < a0_0
 ·(
 rw [if_pos i5] at H
 have o9 : decide ((wrap64 (Int.tdiv a8 (wrap64 (a0_1 + 1)))) < a0_0) = true := decide_eq_true i5
 clear i5
 by_cases i6 : (Int.tmod a8 (wrap64 (a0_1 + 1))) > 0
 ·(
 rw [if_pos i6] at H
 have p0 : decide (0 < (Int.tmod a8 (wrap64 (a0_1 + 1)))) = true := decide_eq_true i6
 clear i6
 by_cases i7 : (Int.tmod a8 (wrap64 (a0_1 + 1))) < a0_1
 ·(
 rw [if_pos i7] at H
 have p1 : decide ((Int.tmod a8 (wrap64 (a0_1 + 1))) < a0_1) = true := decide_eq_true i7
 clear i7
 by_cases m7 : (wrap64 (Int.tdiv a8 (wrap64 (a0_1 + 1)))) = a1_0
 ·(
 rw [if_pos m7] at H
 obtain ⟨p2, p3⟩ := yE m7
 clear m7
 by_cases m8 : (Int.tmod a8 (wrap64 (a0_1 + 1))) = a1_1
 ·(
 rw [if_pos m8] at H
 obtain ⟨p4, p5⟩ := yE m8
 clear m8
 have H' := Aside0.mk H
 clear H
 have b1 : 0 ≤ (a8 : Int) := of_decide_eq_true asm
 have b2 : a8 < (b4.length : Int) := of_decide_eq_true asm
 obtain ⟨d3, b8, b9⟩ := Kd.at_int (Kd.R_reads' b5.out).2.2 a8 b1 b2
 cases b8
 replace b1 := eq_true b1
 replace b2 := eq_true b2
 have B0 := a9.out
 have B1 := b0.out
 obtain ⟨q8, q9, r0, r3⟩ := cf2 a6
 obtain ⟨r4, r5, r6, r7, r8, r9, s0, s1⟩ := cf4 a7
 go_wp2
 repeat (go_quiet (fail); try go_wp2)
 go_roundg k1
 case measure => have := HK1.out; omega
 case rel => exact ⟨(c7), (wrap64 (a8 + 1)), sR, sR, H', ⟨by have := HK1.out; omega⟩, ⟨oR b5⟩, (bA a6), (bA a7), ⟨bB⟩⟩
 )
 ·(
 rw [if_neg m8] at H
 obtain ⟨p4, p5⟩ := nE m8
 have H' := Aside0.mk H
 clear H
 have b1 : 0 ≤ (a8 : Int) := of_decide_eq_true asm
 have b2 : a8 < (b4.length : Int) := of_decide_eq_true asm
 obtain ⟨d3, b8, b9⟩ := Kd.at_int (Kd.R_reads' b5.out).2.2 a8 b1 b2
 cases b8
 replace b1 := eq_true b1
 replace b2 := eq_true b2
 have B2 := a9.out
 have B3 := b0.out
 obtain ⟨s2, s3, s4, s5⟩ := cf2 a6
 obtain ⟨s6, s7, s8, s9, u0, u2, u3, u4⟩ := cf4 a7
 go_wp2
 repeat (go_quiet (fail); try go_wp2)
 go_roundg k1
 case measure => have := HK1.out; omega
 case rel => exact ⟨(wrap64 (c7 + 1)), (wrap64 (a8 + 1)), sR, sR, H', ⟨by have := HK1.out; omega⟩, ⟨oR b5⟩, (bA a6), (bA a7), ⟨bB⟩⟩
 )
 )
 ·(
 rw [if_neg m7] at H
 obtain ⟨p2, p3⟩ := nE m7
 have H' := Aside0.mk H
 clear H
 have b1 : 0 ≤ (a8 : Int) := of_decide_eq_true asm
 have b2 : a8 < (b4.length : Int) := of_decide_eq_true asm
 obtain ⟨d3, b8, b9⟩ := Kd.at_int (Kd.R_reads' b5.out).2.2 a8 b1 b2
 cases b8
 replace b1 := eq_true b1
 replace b2 := eq_true b2
 have B4 := a9.out
 have B5 := b0.out
 obtain ⟨u5, u6, u7, u9⟩ := cf2 a6
 obtain ⟨v0, v1, v2, v3, v4, v5, v6, v7⟩ := cf4 a7
 go_wp2
 repeat (go_quiet (fail); try go_wp2)
 go_roundg k1
 case measure => have := HK1.out; omega
 case rel => exact ⟨(wrap64 (c7 + 1)), (wrap64 (a8 + 1)), sR, sR, H', ⟨by have := HK1.out; omega⟩, ⟨oR b5⟩, (bA a6), (bA a7), ⟨bB⟩⟩
 )
 )
 ·(
 rw [if_neg i7] at H
 have p1 : decide ((Int.tmod a8 (wrap64 (a0_1 + 1))) < a0_1) = false := decide_eq_false i7
 clear i7
 have H' := Aside0.mk H
 clear H
 have b1 : 0 ≤ (a8 : Int) := of_decide_eq_true asm
 have b2 : a8 < (b4.length : Int) := of_decide_eq_true asm
 obtain ⟨d3, b8, b9⟩ := Kd.at_int (Kd.R_reads' b5.out).2.2 a8 b1 b2
 cases b8
 replace b1 := eq_true b1
 replace b2 := eq_true b2
 have B6 := a9.out
 have B7 := b0.out
 obtain ⟨v8, x0, x2, x3⟩ := cf2 a6
 go_wp2
 repeat (go_quiet (fail); try go_wp2)
 go_roundg k1
 case measure => have := HK1.out; omega
 case rel => exact ⟨(c7), (wrap64 (a8 + 1)), sR, sR, H', ⟨by have := HK1.out; omega⟩, ⟨oR b5⟩, (bA a6), (bA a7), ⟨bB⟩⟩
 )
 )
 ·(
 rw [if_neg i6] at H
 have p0 : decide (0 < (Int.tmod a8 (wrap64 (a0_1 + 1)))) = false := decide_eq_false i6
 clear i6
 have H' := Aside0.mk H
 clear H
 have b1 : 0 ≤ (a8 : Int) := of_decide_eq_true asm
 have b2 : a8 < (b4.length : Int) := of_decide_eq_true asm
 obtain ⟨d3, b8, b9⟩ := Kd.at_int (Kd.R_reads' b5.out).2.2 a8 b1 b2
 cases b8
 replace b1 := eq_true b1
 replace b2 := eq_true b2
 have B8 := a9.out
 have B9 := b0.out
 obtain ⟨x4, x6, x7, x8⟩ := cf2 a6
 go_wp2
 repeat (go_quiet (fail); try go_wp2)
 go_roundg k1
 case measure => have := HK1.out; omega
 case rel => exact ⟨(c7), (wrap64 (a8 + 1)), sR, sR, H', ⟨by have := HK1.out; omega⟩, ⟨oR b5⟩, (bA a6), (bA a7), ⟨bB⟩⟩
 )
 )
 ·(
 rw [if_neg i5] at H
 have o9 : decide ((wrap64 (Int.tdiv a8 (wrap64 (a0_1 + 1)))) < a0_0) = false := decide_eq_false i5
 clear i5
 have H' := Aside0.mk H
 clear H
 have b1 : 0 ≤ (a8 : Int) := of_decide_eq_true asm
 have b2 : a8 < (b4.length : Int) := of_decide_eq_true asm
 obtain ⟨d3, b8, b9⟩ := Kd.at_int (Kd.R_reads' b5.out).2.2 a8 b1 b2
 cases b8
 replace b1 := eq_true b1
 replace b2 := eq_true b2
 have C0 := a9.out
 have C1 := b0.out
 obtain ⟨z0, z1, z2, z3⟩ := cf2 a6
 go_wp2
 repeat (go_quiet (fail); try go_wp2)
 go_roundg k1
 case measure => have := HK1.out; omega
 case rel => exact ⟨(c7), (wrap64 (a8 + 1)), sR, sR, H', ⟨by have := HK1.out; omega⟩, ⟨oR b5⟩, (bA a6), (bA a7), ⟨bB⟩⟩
 )
 )
 ·(
 rw [if_neg i4] at H
 have o8 : decide (0 < (wrap64 (Int.tdiv a8 (wrap64 (a0_1 + 1))))) = false := decide_eq_false i4
 clear i4
 have H' := Aside0.mk H
 clear H
 have b1 : 0 ≤ (a8 : Int) := of_decide_eq_true asm
 have b2 : a8 < (b4.length : Int) := of_decide_eq_true asm
 obtain ⟨d3, b8, b9⟩ := Kd.at_int (Kd.R_reads' b5.out).2.2 a8 b1 b2
 cases b8
 replace b1 := eq_true b1
 replace b2 := eq_true b2
 have C2 := a9.out
 have C3 := b0.out
 obtain ⟨z4, z5, z6, z7⟩ := cf2 a6
 go_wp2
 repeat (go_quiet (fail); try go_wp2)
 go_roundg k1
 case measure => have := HK1.out; omega
 case rel => exact ⟨(c7), (wrap64 (a8 + 1)), sR, sR, H', ⟨by have := HK1.out; omega⟩, ⟨oR b5⟩, (bA a6), (bA a7), ⟨bB⟩⟩
 )
 )
 ·(
 rw [if_neg i3] at H
 have o7 : decide (1 < (rd b4 a8)) = false := decide_eq_false i3
 clear i3
 have H' := Aside0.mk H
 clear H
 have b1 : 0 ≤ (a8 : Int) := of_decide_eq_true asm
 have b2 : a8 < (b4.length : Int) := of_decide_eq_true asm
 obtain ⟨d3, b8, b9⟩ := Kd.at_int (Kd.R_reads' b5.out).2.2 a8 b1 b2
 cases b8
 replace b1 := eq_true b1
 replace b2 := eq_true b2
 have C4 := a9.out
 have C5 := b0.out
 obtain ⟨z8, z9, A0, A1⟩ := cf2 a6
 go_wp2
 repeat (go_quiet (fail); try go_wp2)
 go_roundg k1
 case measure => have := HK1.out; omega
 case rel => exact ⟨(c7), (wrap64 (a8 + 1)), sR, sR, H', ⟨by have := HK1.out; omega⟩, ⟨oR b5⟩, (bA a6), (bA a7), ⟨bB⟩⟩
 )
 )
 )
 ·(
 rw [if_neg n7] at H
 exact absurd H (by simp)
 )
 )
 ·(
 rw [if_neg n6] at H
 exact absurd H (by simp)
 )
 )
 ·(
 rw [if_neg i2] at H
 have o6 : decide (a8 < (b4.length : Int)) = false := decide_eq_false i2
 clear i2
 simp only [Option.some.injEq, Prod.mk.injEq] at H
 obtain ⟨rfl, rfl⟩ := H
 go_wp2
 repeat (go_quiet (fail); try go_wp2)
 go_ret2
 exact ⟨sE, bI⟩
 )
 )
 )
 )
 ·(
 replace c6 := Bool.eq_false_iff.mpr c6
 subst c6
 rw [if_neg nft] at H
 simp only [Option.some.injEq, Prod.mk.injEq] at H
 obtain ⟨rfl, rfl⟩ := H
 go_enter Tryz.func13, Tryz.ntmps13
 go_wp2_with (first | ((with_reducible refine gate_dst (N := 2) rfl ?_); refine box_ (cs := #[.int .i64 a0_0, .int .i64 a0_1]) (t := 25) fun c5 hg p9 hbox hb => ?_; have a6 := Aside0.mk (hbox); have c8 := bS HB hg; have c9 := bS HB hg; replace HB := Aside0.mk (below_step bB hb); clear hb hbox hg) | ((with_reducible refine gate_dst (N := 3) rfl ?_); refine box_ (cs := #[.int .i64 a1_0, .int .i64 a1_1, .bool a1_2, .bool a1_3]) (t := 27) fun b7 hg q0 hbox hb => ?_; have a7 := Aside0.mk (hbox); have d0 := bS HB hg; have d1 := bS HB hg; have a9 := bL a6 hg; have b0 := bM a6 hg; replace a6 := bQ a6 hb; replace HB := Aside0.mk (below_step bB hb); clear hb hbox hg; have n8 := a9.out; have n9 := b0.out; obtain ⟨i9, j0, j1, j2⟩ := cf2 a6; obtain ⟨j3, j4, j5, j6, j7, j8, j9, k0⟩ := cf4 a7) | (go_at_call 34; (with_reducible refine (spec_beGood.calls a0_0 a0_1 a1_0 a1_1 a1_2 a1_3 true _ A3.out).mono ?_); rintro e q1 ⟨rfl, hb⟩; replace a6 := bQ a6 hb; replace a7 := bQ a7 hb; replace HB := Aside0.mk (below_step bB hb); (try clear hb); obtain ⟨k2, k3, k4, k5⟩ := cf2 a6; obtain ⟨k6, k7, k8, k9, l0, l2, l3, l4⟩ := cf4 a7) | (go_at_call 35; (with_reducible refine (spec_beEnd.calls k a0_0 a0_1 a1_0 a1_1 a1_2 a1_3 d2 d5 false _ A5.out).mono ?_); rintro e q2 ⟨h9, rfl, b6, hb⟩; have b3 := Aside0.mk (Kd.R_lower (Kd.R_newB b6 (g := b7) (o := .cells #[.int .i64 a1_0, .int .i64 a1_1, .bool a1_2, .bool a1_3] 27 (0, 0)) (bK a7)) (below_size bB)); replace a6 := bQ a6 hb; replace a7 := bQ a7 hb; replace HB := Aside0.mk (below_step bB hb); (try clear hb); (try clear b6)))
 repeat (go_quiet (first | ((with_reducible refine gate_dst (N := 2) rfl ?_); refine box_ (cs := #[.int .i64 a0_0, .int .i64 a0_1]) (t := 25) fun c5 hg p9 hbox hb => ?_; have a6 := Aside0.mk (hbox); have c8 := bS HB hg; have c9 := bS HB hg; replace HB := Aside0.mk (below_step bB hb); clear hb hbox hg) | ((with_reducible refine gate_dst (N := 3) rfl ?_); refine box_ (cs := #[.int .i64 a1_0, .int .i64 a1_1, .bool a1_2, .bool a1_3]) (t := 27) fun b7 hg q0 hbox hb => ?_; have a7 := Aside0.mk (hbox); have d0 := bS HB hg; have d1 := bS HB hg; have a9 := bL a6 hg; have b0 := bM a6 hg; replace a6 := bQ a6 hb; replace HB := Aside0.mk (below_step bB hb); clear hb hbox hg; have n8 := a9.out; have n9 := b0.out; obtain ⟨i9, j0, j1, j2⟩ := cf2 a6; obtain ⟨j3, j4, j5, j6, j7, j8, j9, k0⟩ := cf4 a7) | (go_at_call 34; (with_reducible refine (spec_beGood.calls a0_0 a0_1 a1_0 a1_1 a1_2 a1_3 true _ A3.out).mono ?_); rintro e q1 ⟨rfl, hb⟩; replace a6 := bQ a6 hb; replace a7 := bQ a7 hb; replace HB := Aside0.mk (below_step bB hb); (try clear hb); obtain ⟨k2, k3, k4, k5⟩ := cf2 a6; obtain ⟨k6, k7, k8, k9, l0, l2, l3, l4⟩ := cf4 a7) | (go_at_call 35; (with_reducible refine (spec_beEnd.calls k a0_0 a0_1 a1_0 a1_1 a1_2 a1_3 d2 d5 false _ A5.out).mono ?_); rintro e q2 ⟨h9, rfl, b6, hb⟩; have b3 := Aside0.mk (Kd.R_lower (Kd.R_newB b6 (g := b7) (o := .cells #[.int .i64 a1_0, .int .i64 a1_1, .bool a1_2, .bool a1_3] 27 (0, 0)) (bK a7)) (below_size bB)); replace a6 := bQ a6 hb; replace a7 := bQ a7 hb; replace HB := Aside0.mk (below_step bB hb); (try clear hb); (try clear b6))); try go_wp2_with (first | ((with_reducible refine gate_dst (N := 2) rfl ?_); refine box_ (cs := #[.int .i64 a0_0, .int .i64 a0_1]) (t := 25) fun c5 hg p9 hbox hb => ?_; have a6 := Aside0.mk (hbox); have c8 := bS HB hg; have c9 := bS HB hg; replace HB := Aside0.mk (below_step bB hb); clear hb hbox hg) | ((with_reducible refine gate_dst (N := 3) rfl ?_); refine box_ (cs := #[.int .i64 a1_0, .int .i64 a1_1, .bool a1_2, .bool a1_3]) (t := 27) fun b7 hg q0 hbox hb => ?_; have a7 := Aside0.mk (hbox); have d0 := bS HB hg; have d1 := bS HB hg; have a9 := bL a6 hg; have b0 := bM a6 hg; replace a6 := bQ a6 hb; replace HB := Aside0.mk (below_step bB hb); clear hb hbox hg; have n8 := a9.out; have n9 := b0.out; obtain ⟨i9, j0, j1, j2⟩ := cf2 a6; obtain ⟨j3, j4, j5, j6, j7, j8, j9, k0⟩ := cf4 a7) | (go_at_call 34; (with_reducible refine (spec_beGood.calls a0_0 a0_1 a1_0 a1_1 a1_2 a1_3 true _ A3.out).mono ?_); rintro e q1 ⟨rfl, hb⟩; replace a6 := bQ a6 hb; replace a7 := bQ a7 hb; replace HB := Aside0.mk (below_step bB hb); (try clear hb); obtain ⟨k2, k3, k4, k5⟩ := cf2 a6; obtain ⟨k6, k7, k8, k9, l0, l2, l3, l4⟩ := cf4 a7) | (go_at_call 35; (with_reducible refine (spec_beEnd.calls k a0_0 a0_1 a1_0 a1_1 a1_2 a1_3 d2 d5 false _ A5.out).mono ?_); rintro e q2 ⟨h9, rfl, b6, hb⟩; have b3 := Aside0.mk (Kd.R_lower (Kd.R_newB b6 (g := b7) (o := .cells #[.int .i64 a1_0, .int .i64 a1_1, .bool a1_2, .bool a1_3] 27 (0, 0)) (bK a7)) (below_size bB)); replace a6 := bQ a6 hb; replace a7 := bQ a7 hb; replace HB := Aside0.mk (below_step bB hb); (try clear hb); (try clear b6))))
 go_ret2
 exact ⟨sE, bI⟩
 )
 )
 ·(
 replace c4 := Bool.eq_false_iff.mpr c4
 subst c4
 rw [if_neg nft] at H
 simp only [Option.some.injEq, Prod.mk.injEq] at H
 obtain ⟨rfl, rfl⟩ := H
 go_enter Tryz.func13, Tryz.ntmps13
 go_wp2_with (first | ((with_reducible refine gate_dst (N := 2) rfl ?_); refine box_ (cs := #[.int .i64 a0_0, .int .i64 a0_1]) (t := 25) fun c5 hg q3 hbox hb => ?_; have a6 := Aside0.mk (hbox); have c8 := bS HB hg; have c9 := bS HB hg; replace HB := Aside0.mk (below_step bB hb); clear hb hbox hg) | ((with_reducible refine gate_dst (N := 3) rfl ?_); refine box_ (cs := #[.int .i64 a1_0, .int .i64 a1_1, .bool a1_2, .bool a1_3]) (t := 27) fun b7 hg q4 hbox hb => ?_; have a7 := Aside0.mk (hbox); have d0 := bS HB hg; have d1 := bS HB hg; have a9 := bL a6 hg; have b0 := bM a6 hg; replace a6 := bQ a6 hb; replace HB := Aside0.mk (below_step bB hb); clear hb hbox hg; have o0 := a9.out; have o1 := b0.out; obtain ⟨l5, l6, l7, l8⟩ := cf2 a6; obtain ⟨l9, m0, m1, m2, m3, m4, m5, m6⟩ := cf4 a7) | (go_at_call 34; (with_reducible refine (spec_beGood.calls a0_0 a0_1 a1_0 a1_1 a1_2 a1_3 false _ A3.out).mono ?_); rintro e q5 ⟨rfl, hb⟩; replace a6 := bQ a6 hb; replace a7 := bQ a7 hb; replace HB := Aside0.mk (below_step bB hb); (try clear hb)))
 repeat (go_quiet (first | ((with_reducible refine gate_dst (N := 2) rfl ?_); refine box_ (cs := #[.int .i64 a0_0, .int .i64 a0_1]) (t := 25) fun c5 hg q3 hbox hb => ?_; have a6 := Aside0.mk (hbox); have c8 := bS HB hg; have c9 := bS HB hg; replace HB := Aside0.mk (below_step bB hb); clear hb hbox hg) | ((with_reducible refine gate_dst (N := 3) rfl ?_); refine box_ (cs := #[.int .i64 a1_0, .int .i64 a1_1, .bool a1_2, .bool a1_3]) (t := 27) fun b7 hg q4 hbox hb => ?_; have a7 := Aside0.mk (hbox); have d0 := bS HB hg; have d1 := bS HB hg; have a9 := bL a6 hg; have b0 := bM a6 hg; replace a6 := bQ a6 hb; replace HB := Aside0.mk (below_step bB hb); clear hb hbox hg; have o0 := a9.out; have o1 := b0.out; obtain ⟨l5, l6, l7, l8⟩ := cf2 a6; obtain ⟨l9, m0, m1, m2, m3, m4, m5, m6⟩ := cf4 a7) | (go_at_call 34; (with_reducible refine (spec_beGood.calls a0_0 a0_1 a1_0 a1_1 a1_2 a1_3 false _ A3.out).mono ?_); rintro e q5 ⟨rfl, hb⟩; replace a6 := bQ a6 hb; replace a7 := bQ a7 hb; replace HB := Aside0.mk (below_step bB hb); (try clear hb))); try go_wp2_with (first | ((with_reducible refine gate_dst (N := 2) rfl ?_); refine box_ (cs := #[.int .i64 a0_0, .int .i64 a0_1]) (t := 25) fun c5 hg q3 hbox hb => ?_; have a6 := Aside0.mk (hbox); have c8 := bS HB hg; have c9 := bS HB hg; replace HB := Aside0.mk (below_step bB hb); clear hb hbox hg) | ((with_reducible refine gate_dst (N := 3) rfl ?_); refine box_ (cs := #[.int .i64 a1_0, .int .i64 a1_1, .bool a1_2, .bool a1_3]) (t := 27) fun b7 hg q4 hbox hb => ?_; have a7 := Aside0.mk (hbox); have d0 := bS HB hg; have d1 := bS HB hg; have a9 := bL a6 hg; have b0 := bM a6 hg; replace a6 := bQ a6 hb; replace HB := Aside0.mk (below_step bB hb); clear hb hbox hg; have o0 := a9.out; have o1 := b0.out; obtain ⟨l5, l6, l7, l8⟩ := cf2 a6; obtain ⟨l9, m0, m1, m2, m3, m4, m5, m6⟩ := cf4 a7) | (go_at_call 34; (with_reducible refine (spec_beGood.calls a0_0 a0_1 a1_0 a1_1 a1_2 a1_3 false _ A3.out).mono ?_); rintro e q5 ⟨rfl, hb⟩; replace a6 := bQ a6 hb; replace a7 := bQ a7 hb; replace HB := Aside0.mk (below_step bB hb); (try clear hb))))
 go_ret2
 exact ⟨sE, bI⟩
 )

/-! ### impl_isSteps: function 40 -/
def impl_isSteps.f (a0 : Int) : Option (Bool) := (impl_within.f a0 0 100000).bind fun t401 => (some t401)
set_option maxHeartbeats 8000000 in
set_option maxRecDepth 100000 in
theorem impl_isSteps.calls (a0 : Int) (r : Bool) (w : World) (h : impl_isSteps.f a0 = some r) :
    Calls Tryz.prog 40 #[.int .i64 a0] w fun e w' => e = .returned (.bool r) ∧ Drawn0 w w' := by
 have H := h
 unfold impl_isSteps.f at H
 clear h
 obtain ⟨a6, A2, H⟩ := bD H
 try dsimp only at H
 obtain rfl := Option.some.inj H
 go_enter Tryz.func40, Tryz.ntmps40
 go_wp2_with (first | ((with_reducible refine gate_callee (f := 37) rfl ?_); refine goesL_ (some 4) rfl rfl Tryz.func37 kr rfl #[.int .i64 a0, .int .i64 0, .int .i64 100000] rfl sM ?_; (with_reducible refine (impl_within.calls a0 0 100000 a6 _ A2.out).mono ?_); rintro e w' ⟨rfl, ⟨nd, rfl⟩⟩; refine ⟨_, rfl, ?_⟩))
 go_ret
 exact ⟨by first | rfl | (simp; done) | (simp [*]; done), by repeat (first | exact Drawn0.refl _ | apply Drawn0.step)⟩

/-! ### impl_BeamAfter: function 14 -/
/-- What the closure has kept behind k visits. -/
structure fwOut (wb : World) (cb : Nat) (v : Nat → S27) (k : Nat) (wr : World) : Prop where
  old : FwOld (fun i => i = cb) wb wr
  cell : wr.heap[cb]? = some (.cells #[.int .i64 (v k).f0, .int .i64 (v k).f1, .bool (v k).f2, .bool (v k).f3] 27 (0, 0))
def fwPrev (W H : Int) (b : S27) : Nat → S27
  | 0 => b
  | k + 1 => (fwSt W H b k).1
def impl_BeamAfter.f (a0_0 : Int) (a0_1 : Int) (a1_0 : Int) (a1_1 : Int) (a1_2 : Bool) (a1_3 : Bool) (a2 : Int) : Option (Int × Int × Bool × Bool × Bool) :=
  (impl_IsBeam.f a0_0 a0_1 a1_0 a1_1 a1_2 a1_3).bind fun t1 => if t1 = true then ((impl_isSteps.f a2).bind fun t2 => if t2 = true then
    some ((fwSt a0_0 a0_1 ⟨a1_0, a1_1, a1_2, a1_3⟩ (fwN a0_0 a0_1 ⟨a1_0, a1_1, a1_2, a1_3⟩ a2 fun _ => false)).1.f0, (fwSt a0_0 a0_1 ⟨a1_0, a1_1, a1_2, a1_3⟩ (fwN a0_0 a0_1 ⟨a1_0, a1_1, a1_2, a1_3⟩ a2 fun _ => false)).1.f1, (fwSt a0_0 a0_1 ⟨a1_0, a1_1, a1_2, a1_3⟩ (fwN a0_0 a0_1 ⟨a1_0, a1_1, a1_2, a1_3⟩ a2 fun _ => false)).1.f2, (fwSt a0_0 a0_1 ⟨a1_0, a1_1, a1_2, a1_3⟩ (fwN a0_0 a0_1 ⟨a1_0, a1_1, a1_2, a1_3⟩ a2 fun _ => false)).1.f3, true)
    else some (0, 0, false, false, false)) else some (0, 0, false, false, false)
set_option maxHeartbeats 4000000 in
theorem impl_BeamAfter.one (cb : Nat) (k x y x1 y1 : Int) (r u r1 u1 : Bool) (s : ByteArray) (w : World) (hlt : cb < w.heap.size) (hc : w.heap[cb]? = some (.cells #[.int .i64 x1, .int .i64 y1, .bool r1, .bool u1] 27 (0, 0))) :
    Calls Tryz.prog 42 #[.int .i64 k, .agg #[.int .i64 x, .int .i64 y, .bool r, .bool u], .string s, .pointer (some ⟨cb, 0, none⟩)] w fun e w' => e = .returned (.bool false) ∧ w'.heap[cb]? = some (.cells #[.int .i64 x, .int .i64 y, .bool r, .bool u] 27 (0, 0)) ∧ FwMv cb w w' := by
  have c0 := (fw_cells hc 0).1
  have c1 := (fw_cells hc 1).1
  have c2 := (fw_cells hc 2).1
  have c3 := (fw_cells hc 3).1
  have f0 := (fw_cells hc 0).2
  have f1 := (fw_cells hc 1).2
  have f2 := (fw_cells hc 2).2
  have f3 := (fw_cells hc 3).2
  simp at c0 c1 c2 c3
  have HC := Aside0.mk hc
  clear hc
  go_enter Tryz.func42, Tryz.ntmps42
  go_wp2
  go_ret
  have hs := fw_store (a' := .int .i64 x) (b' := .int .i64 y) (c' := .bool r) (d' := .bool u) HC.out
  have hb := below_alloc (Below.refl _ ((((w.setCell ⟨cb, 0, none⟩ (.int .i64 x)).setCell ⟨cb, 1, none⟩ (.int .i64 y)).setCell ⟨cb, 2, none⟩ (.bool r)).setCell ⟨cb, 3, none⟩ (.bool u))) (.cells #[.int .i64 x, .int .i64 y, .bool r, .bool u] 27 (0, 0))
  exact ⟨rfl, (hb.block cb (Nat.lt_of_lt_of_le hlt hs.2.size)).trans hs.1, hs.2.trans (FwMv.of_below hb)⟩
theorem within_some (x a b : Int) : ∃ r, impl_within.f x a b = some r := by unfold impl_within.f; split <;> exact ⟨_, rfl⟩
theorem IsBeam_some (W H x y : Int) (r u : Bool) : ∃ b, impl_IsBeam.f W H x y r u = some b := by
  obtain ⟨a1, h1⟩ := within_some W 1 60
  obtain ⟨a2, h2⟩ := within_some H 1 60
  obtain ⟨a3, h3⟩ := within_some x 0 W
  obtain ⟨a4, h4⟩ := within_some y 0 H
  unfold impl_IsBeam.f impl_IsTable.f
  cases a1 <;> cases a2 <;> cases a3 <;> cases a4 <;> simp [h1, h2, h3, h4]
theorem isSteps_some (x : Int) : ∃ b, impl_isSteps.f x = some b := by
  obtain ⟨a1, h1⟩ := within_some x 0 100000
  exact ⟨a1, by simp [impl_isSteps.f, h1]⟩
theorem isSteps_true {x : Int} (h : impl_isSteps.f x = some true) : 0 ≤ x ∧ x ≤ 100000 := by
  unfold impl_isSteps.f impl_within.f at h
  by_cases c : x ≥ 0
  · rw [if_pos c] at h
    simp at h
    omega
  · rw [if_neg c] at h
    simp at h
/-- The way with the closure that keeps the beam. -/
theorem impl_BeamAfter.way (W H x y : Int) (r u : Bool) (steps : Int) (h0 : 0 ≤ steps) (h1 : steps ≤ 100000) (cb : Nat) (wb : World) (hlt : cb < wb.heap.size) (hc : wb.heap[cb]? = some (.cells #[.int .i64 x, .int .i64 y, .bool r, .bool u] 27 (0, 0))) :
    Calls Tryz.prog 41 #[.agg #[.int .i64 W, .int .i64 H], .agg #[.int .i64 x, .int .i64 y, .bool r, .bool u], .int .i64 steps, .func (.func 42) #[] #[.pointer (some ⟨cb, 0, none⟩)]] wb fun e w' =>
      e = .returned (.tuple #[]) ∧ FwOld (fun i => i = cb) wb w' ∧ w'.heap[cb]? = some (.cells #[.int .i64 (fwSt W H ⟨x, y, r, u⟩ (fwN W H ⟨x, y, r, u⟩ steps fun _ => false)).1.f0, .int .i64 (fwSt W H ⟨x, y, r, u⟩ (fwN W H ⟨x, y, r, u⟩ steps fun _ => false)).1.f1, .bool (fwSt W H ⟨x, y, r, u⟩ (fwN W H ⟨x, y, r, u⟩ steps fun _ => false)).1.f2, .bool (fwSt W H ⟨x, y, r, u⟩ (fwN W H ⟨x, y, r, u⟩ steps fun _ => false)).1.f3] 27 (0, 0)) := by
  obtain ⟨n1, n2, n3⟩ := fwN_is W H ⟨x, y, r, u⟩ steps (fun _ => false) h0
  refine (impl_follow.calls W H x y r u steps 42 #[.pointer (some ⟨cb, 0, none⟩)] (fw_enters Tryz.func42 kr rfl) (fwOut wb cb (fwPrev W H ⟨x, y, r, u⟩)) (fun _ => false) (fwN W H ⟨x, y, r, u⟩ steps fun _ => false) wb (by omega) n3 n2 ⟨FwOld.refl _ _, hc⟩ ?_ ?_).mono ?_
  · intro k W1 W2 hI hm
    exact ⟨hI.old.mv hm (.inl (by omega)), (hm.block cb (Nat.lt_of_lt_of_le hlt hI.old.size) (by omega)).trans hI.cell⟩
  · intro k Wd hk hz hI
    refine (impl_BeamAfter.one cb (k : Int) _ _ _ _ _ _ _ _ _ Wd (Nat.lt_of_lt_of_le hlt hI.old.size) hI.cell).mono ?_
    rintro e w2 ⟨rfl, hc2, hm2⟩
    exact ⟨rfl, ⟨hI.old.mv hm2 (.inr rfl), hc2⟩, ⟨hm2.size, hm2.block _ (by omega) (by omega), hm2.block _ hz (by omega)⟩⟩
  · rintro e w2 ⟨rfl, hI⟩
    exact ⟨rfl, hI.old, hI.cell⟩
set_option maxHeartbeats 8000000 in
set_option maxRecDepth 100000 in
theorem impl_BeamAfter.calls (a0_0 : Int) (a0_1 : Int) (a1_0 : Int) (a1_1 : Int) (a1_2 : Bool) (a1_3 : Bool) (a2 : Int) (r1 : Int) (r2 : Int) (r3 : Bool) (r4 : Bool) (r5 : Bool) (w : World) (h : impl_BeamAfter.f a0_0 a0_1 a1_0 a1_1 a1_2 a1_3 a2 = some (r1, r2, r3, r4, r5)) :
    Calls Tryz.prog 14 #[.agg #[.int .i64 a0_0, .int .i64 a0_1], .agg #[.int .i64 a1_0, .int .i64 a1_1, .bool a1_2, .bool a1_3], .int .i64 a2] w fun e w' => e = .returned (.tuple #[.agg #[.int .i64 r1, .int .i64 r2, .bool r3, .bool r4], .bool r5]) ∧ Below w.heap.size w w' := by
 obtain ⟨t1, b5⟩ := IsBeam_some a0_0 a0_1 a1_0 a1_1 a1_2 a1_3
 obtain ⟨t2, a8⟩ := isSteps_some a2
 unfold impl_BeamAfter.f at h
 rw [b5, a8] at h
 simp only [Option.bind_some] at h
 have b7 := Aside0.mk b5
 have c7 := Aside0.mk a8
 clear b5
 obtain ⟨p1, p2, p3, ps⟩ := fw_three w (.cells #[.int .i64 a0_0, .int .i64 a0_1] 25 (0, 0)) (.cells #[.int .i64 a1_0, .int .i64 a1_1, .bool a1_2, .bool a1_3] 27 (0, 0)) (.cells #[.int .i64 0, .int .i64 0, .bool false, .bool false] 27 (0, 0))
 have P := Aside0.mk (And.intro p1 (And.intro p2 (And.intro p3 ps)))
 clear p1 p2 p3 ps
 cases t1 with
 | false =>
  simp at h
  obtain ⟨rfl, rfl, rfl, rfl, rfl⟩ := h
  clear a8
  go_enter Tryz.func14, Tryz.ntmps14
  go_wp2_with fail
  refine (impl_IsBeam.calls _ _ _ _ _ _ false _ b7.out).mono ?_
  rintro e w1 ⟨rfl, a6⟩
  have hz : w.heap.size + 2 < w1.heap.size := Nat.lt_of_lt_of_le (by rw [P.out.2.2.2]; omega) a6.size
  have q3 := (a6.block (w.heap.size + 2) (by rw [P.out.2.2.2]; omega)).trans P.out.2.2.1
  have a9 := (fw_cells q3 0).1
  have b0 := (fw_cells q3 1).1
  have b1 := (fw_cells q3 2).1
  have b2 := (fw_cells q3 3).1
  have b8 := (fw_cells q3 0).2
  have b9 := (fw_cells q3 1).2
  have c4 := (fw_cells q3 2).2
  have c5 := (fw_cells q3 3).2
  simp at a9 b0 b1 b2
  have b4 := Aside0.mk (below_step (below_alloc (below_alloc (below_alloc (Below.refl _ _) _) _) _) a6)
  have HS := Aside0.mk (fw_store (a' := .int .i64 0) (b' := .int .i64 0) (c' := .bool false) (d' := .bool false) q3)
  clear a6 q3
  go_wp2_with fail
  refine bodyPost_ret (results_ct rfl _ _ (w.heap.size + 2) 27 #[.int .i64 0, .int .i64 0, .bool false, .bool false] (0, 0) _ rfl HS.out.1 Tryz.underlying27 rfl kr) rfl ⟨rfl, ?_⟩
  exact FwOld.below (S := fun i => i = w.heap.size + 2) b4.out ((FwOld.refl _ _).mv HS.out.2 (.inr rfl)) (fun i hi => by omega)
 | true =>
  go_enter Tryz.func14, Tryz.ntmps14
  go_wp2_with fail
  refine (impl_IsBeam.calls _ _ _ _ _ _ true _ b7.out).mono ?_
  rintro e w1 ⟨rfl, a6⟩
  have hz : w.heap.size + 2 < w1.heap.size := Nat.lt_of_lt_of_le (by rw [P.out.2.2.2]; omega) a6.size
  have q1 := (a6.block w.heap.size (by rw [P.out.2.2.2]; omega)).trans P.out.1
  have q2 := (a6.block (w.heap.size + 1) (by rw [P.out.2.2.2]; omega)).trans P.out.2.1
  have q3 := (a6.block (w.heap.size + 2) (by rw [P.out.2.2.2]; omega)).trans P.out.2.2.1
  have b4 := Aside0.mk (below_step (below_alloc (below_alloc (below_alloc (Below.refl _ _) _) _) _) a6)
  have Q1 := Aside0.mk (And.intro q1 (And.intro q2 q3))
  clear a6 q1 q2 q3 P
  go_wp2_with fail
  refine (impl_isSteps.calls _ t2 _ c7.out).mono ?_
  rintro e w2 ⟨rfl, hd⟩
  have a7 : Below w1.heap.size w1 w2 := by
   obtain ⟨n, rfl⟩ := hd
   exact pw_below_drewN (Below.refl _ _) n
  have c8 : w.heap.size + 2 < w2.heap.size := Nat.lt_of_lt_of_le hz a7.size
  have q1 := (a7.block w.heap.size (by omega)).trans Q1.out.1
  have q2 := (a7.block (w.heap.size + 1) (by omega)).trans Q1.out.2.1
  have q3 := (a7.block (w.heap.size + 2) (by omega)).trans Q1.out.2.2
  have b6 := Aside0.mk (below_step b4.out a7)
  clear hd a7 b4 Q1 hz
  cases t2 with
  | false =>
   simp at h
   obtain ⟨rfl, rfl, rfl, rfl, rfl⟩ := h
   have a9 := (fw_cells q3 0).1
   have b0 := (fw_cells q3 1).1
   have b1 := (fw_cells q3 2).1
   have b2 := (fw_cells q3 3).1
   have b8 := (fw_cells q3 0).2
   have b9 := (fw_cells q3 1).2
   have c4 := (fw_cells q3 2).2
   have c5 := (fw_cells q3 3).2
   simp at a9 b0 b1 b2
   have HS := Aside0.mk (fw_store (a' := .int .i64 0) (b' := .int .i64 0) (c' := .bool false) (d' := .bool false) q3)
   clear q1 q2 q3
   go_wp2_with fail
   refine bodyPost_ret (results_ct rfl _ _ (w.heap.size + 2) 27 #[.int .i64 0, .int .i64 0, .bool false, .bool false] (0, 0) _ rfl HS.out.1 Tryz.underlying27 rfl kr) rfl ⟨rfl, ?_⟩
   exact FwOld.below (S := fun i => i = w.heap.size + 2) b6.out ((FwOld.refl _ _).mv HS.out.2 (.inr rfl)) (fun i hi => by omega)
  | true =>
   have hs := isSteps_true a8
   have HH := Aside0.mk h
   clear h a8
   have c9 := (fw_cells q2 0).1
   have d0 := (fw_cells q2 1).1
   have d1 := (fw_cells q2 2).1
   have d2 := (fw_cells q2 3).1
   simp at c9 d0 d1 d2
   have hal := below_alloc (Below.refl _ w2) (.cells #[.int .i64 a1_0, .int .i64 a1_1, .bool a1_2, .bool a1_3] 27 (0, 0))
   have a1 := (hal.block _ (by omega)).trans q1
   have b3 := (hal.block _ (by omega)).trans q2
   have a3 := (hal.block _ (by omega)).trans q3
   have a4 : (w2.alloc (.cells #[.int .i64 a1_0, .int .i64 a1_1, .bool a1_2, .bool a1_3] 27 (0, 0))).heap[w2.heap.size]? = some (.cells #[.int .i64 a1_0, .int .i64 a1_1, .bool a1_2, .bool a1_3] 27 (0, 0)) := by
    show (w2.heap.push _)[w2.heap.size]? = _
    rw [Array.getElem?_push, if_pos rfl]
   have a5 : w2.heap.size < (w2.alloc (.cells #[.int .i64 a1_0, .int .i64 a1_1, .bool a1_2, .bool a1_3] 27 (0, 0))).heap.size := by
    show _ < (w2.heap.push _).size
    simp
   have d3 := (fw_cells a1 0).1
   have d4 := (fw_cells a1 1).1
   have d5 := (fw_cells b3 0).1
   have d6 := (fw_cells b3 1).1
   have d7 := (fw_cells b3 2).1
   have d8 := (fw_cells b3 3).1
   simp at d3 d4 d5 d6 d7 d8
   have HWAY := Aside0.mk (impl_BeamAfter.way a0_0 a0_1 a1_0 a1_1 a1_2 a1_3 a2 hs.1 hs.2 w2.heap.size _ a5 a4)
   have Q3 := Aside0.mk (And.intro a3 hal)
   clear q1 q2 q3 a1 b3 a3 a4 a5 hal
   go_wp2_with fail
   refine HWAY.out.mono ?_
   rintro e w3 ⟨rfl, ho, hc⟩
   simp at HH
   obtain ⟨s, hs⟩ : ∃ s, (fwSt a0_0 a0_1 ⟨a1_0, a1_1, a1_2, a1_3⟩ (fwN a0_0 a0_1 ⟨a1_0, a1_1, a1_2, a1_3⟩ a2 fun _ => false)).1 = s := ⟨_, rfl⟩
   rw [hs] at hc
   have c6 := HH.out
   rw [hs] at c6
   obtain ⟨rfl, rfl, rfl, rfl, rfl⟩ := c6
   clear HH hs
   have hal := Q3.out.2
   have q3 := (ho.block (w.heap.size + 2) (Nat.lt_of_lt_of_le c8 hal.size) (by omega)).trans Q3.out.1
   have a9 := (fw_cells q3 0).1
   have b0 := (fw_cells q3 1).1
   have b1 := (fw_cells q3 2).1
   have b2 := (fw_cells q3 3).1
   have b8 := (fw_cells q3 0).2
   have b9 := (fw_cells q3 1).2
   have c4 := (fw_cells q3 2).2
   have c5 := (fw_cells q3 3).2
   have d9 := (fw_cells hc 0).1
   have e0 := (fw_cells hc 1).1
   have e1 := (fw_cells hc 2).1
   have e2 := (fw_cells hc 3).1
   simp at a9 b0 b1 b2 d9 e0 e1 e2
   have HS := Aside0.mk (fw_store (a' := .int .i64 s.f0) (b' := .int .i64 s.f1) (c' := .bool s.f2) (d' := .bool s.f3) q3)
   have e3 := Aside0.mk (FwOld.below (S := fun i => i = w2.heap.size) (below_step b6.out hal) ho (fun i hi => by omega))
   clear q3 hc ho hal HWAY Q3 b6
   go_wp2_with fail
   refine bodyPost_ret (results_ct rfl _ _ (w.heap.size + 2) 27 #[.int .i64 s.f0, .int .i64 s.f1, .bool s.f2, .bool s.f3] (0, 0) _ rfl HS.out.1 Tryz.underlying27 rfl kr) rfl ⟨rfl, ?_⟩
   exact FwOld.below (S := fun i => i = w.heap.size + 2) e3.out ((FwOld.refl _ _).mv HS.out.2 (.inr rfl)) (fun i hi => by omega)

end Go.Proofs.YtlmiaadpnbehgaaGreatDoor.PFnBeamsEnd
