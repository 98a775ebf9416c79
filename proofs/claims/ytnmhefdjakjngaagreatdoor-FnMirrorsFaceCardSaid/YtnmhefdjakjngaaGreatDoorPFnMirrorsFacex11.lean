-- Written by xprint.py, a program of this session, for this seat; Lean checks it.
import Derived.Test.YtnmhefdjakjngaaGreatDoorVM
import Derived.Test.YtnmhefdjakjngaaGreatDoorPFnMirrorsFacex0
import Derived.Test.YtnmhefdjakjngaaGreatDoorPFnMirrorsFacex5
import Derived.Test.YtnmhefdjakjngaaGreatDoorPFnMirrorsFacex6
import Derived.Test.YtnmhefdjakjngaaGreatDoorPFnMirrorsFacex10
namespace Go.Proofs.YtnmhefdjakjngaaGreatDoor.PFnMirrorsFace
open Go.Proofs.YtnmhefdjakjngaaGreatDoorV Go.RowKit Go.Proofs.YtnmhefdjakjngaaGreatDoorW.PrintWords Go.Proofs.YtnmhefdjakjngaaGreatDoorW.PrintLast Go.Proofs.YtnmhefdjakjngaaGreatDoorW.PrintMore
attribute [local go_sem] max2_int min2_int max_two min_two max_three min_three max_four min_four   -- for this text's walks alone
set_option linter.unusedVariables false
set_option linter.unusedSimpArgs false

/-! ### impl_wedgeSteps: function 64 -/
mutual
def impl_wedgeSteps.l0 : Nat → Int → List Int → List Int → Option (List Int)
  | 0, _, _, _ => none
  | k + 1, x0, x5, x6 => if (x6.length : Int) > 0 then (if 0 < (x6.length : Int) then ((some (([wrap64 (-(rd x6 0)), wrap64 ((wrap64 (2 * x0)) - (rd x6 0))] : List Int) : List Int)).bind fun y385 => (impl_wedgeSteps.l1 k x0 x5 x6 y385 (y385.length : Int) 0)) else (none)) else (some x5)
def impl_wedgeSteps.l1 : Nat → Int → List Int → List Int → List Int → Int → Int → Option (List Int)
  | 0, _, _, _, _, _, _ => none
  | k + 1, x0, x5, x6, x31, x32, x33 => if x33 < x32 then (if 0 ≤ x33 then (if x33 < (x31.length : Int) then (if 0 ≤ (Int.tmod (wrap64 ((rd x31 x33) + 360)) 360) then (if (Int.tmod (wrap64 ((rd x31 x33) + 360)) 360) < (x5.length : Int) then (if (rd x5 (Int.tmod (wrap64 ((rd x31 x33) + 360)) 360)) < 0 then (if 0 < (x6.length : Int) then (if 0 ≤ (rd x6 0) then (if (rd x6 0) < (x5.length : Int) then (if x6.length < 17592186044416 then (impl_wedgeSteps.l1 k x0 (x5.set ((Int.tmod (wrap64 ((rd x31 x33) + 360)) 360) : Int).toNat (wrap64 ((rd x5 (rd x6 0)) + 1))) (x6 ++ [Int.tmod (wrap64 ((rd x31 x33) + 360)) 360]) x31 x32 (wrap64 (x33 + 1))) else (none)) else (none)) else (none)) else (none)) else (impl_wedgeSteps.l1 k x0 x5 x6 x31 x32 (wrap64 (x33 + 1)))) else (none)) else (none)) else (none)) else (none)) else (if 1 ≤ (x6.length : Int) then (impl_wedgeSteps.l0 k x0 x5 (x6.drop (1 : Int).toNat)) else (none))
end
def impl_wedgeSteps.f (k : Nat) (a0 : Int) (a1 : Int) : Option (List Int) := (slices_Repeat_int_int.f (([(-1)] : List Int)) 360).bind fun t376 => (if 0 ≤ a1 then (if a1 < (t376.length : Int) then (impl_wedgeSteps.l0 k a0 (t376.set (a1 : Int).toNat 0) (([a1] : List Int))) else (none)) else (none))
theorem impl_wedgeSteps.mono_l : ∀ k, (∀ y0 y1 y2, LeO (impl_wedgeSteps.l0 k y0 y1 y2) (impl_wedgeSteps.l0 (k + 1) y0 y1 y2)) ∧ (∀ y0 y1 y2 y3 y4 y5, LeO (impl_wedgeSteps.l1 k y0 y1 y2 y3 y4 y5) (impl_wedgeSteps.l1 (k + 1) y0 y1 y2 y3 y4 y5))
  | 0 => ⟨fun _ _ _ r h => by simp [impl_wedgeSteps.l0] at h, fun _ _ _ _ _ _ r h => by simp [impl_wedgeSteps.l1] at h⟩
  | k + 1 => by
    obtain ⟨ih0, ih1⟩ := impl_wedgeSteps.mono_l k
    refine ⟨?_, ?_⟩
    · intro y0 y1 y2
      unfold impl_wedgeSteps.l0
      repeat' first
      | (with_reducible exact ih0 _ _ _)
      | (with_reducible exact ih1 _ _ _ _ _ _)
      | (with_reducible exact LeO.refl _)
      | (with_reducible exact LeO.none _)
      | (with_reducible refine LeO.ite ?_ ?_)
      | (with_reducible refine LeO.bind ?_ (fun _ => ?_))
      | exact ih0 _ _ _
      | exact ih1 _ _ _ _ _ _
      | exact LeO.none _
      | refine LeO.ite ?_ ?_
      | refine LeO.bind ?_ (fun _ => ?_)
    · intro y0 y1 y2 y3 y4 y5
      unfold impl_wedgeSteps.l1
      repeat' first
      | (with_reducible exact ih0 _ _ _)
      | (with_reducible exact ih1 _ _ _ _ _ _)
      | (with_reducible exact LeO.refl _)
      | (with_reducible exact LeO.none _)
      | (with_reducible refine LeO.ite ?_ ?_)
      | (with_reducible refine LeO.bind ?_ (fun _ => ?_))
      | exact ih0 _ _ _
      | exact ih1 _ _ _ _ _ _
      | exact LeO.none _
      | refine LeO.ite ?_ ?_
      | refine LeO.bind ?_ (fun _ => ?_)
theorem impl_wedgeSteps.mono : ∀ a0 a1 k, LeO (impl_wedgeSteps.f k a0 a1) (impl_wedgeSteps.f (k + 1) a0 a1) := by
  intro a0 a1 k
  obtain ⟨ih0, ih1⟩ := impl_wedgeSteps.mono_l k
  unfold impl_wedgeSteps.f
  repeat' first
      | (with_reducible exact ih0 _ _ _)
      | (with_reducible exact ih1 _ _ _ _ _ _)
      | (with_reducible exact LeO.refl _)
      | (with_reducible exact LeO.none _)
      | (with_reducible refine LeO.ite ?_ ?_)
      | (with_reducible refine LeO.bind ?_ (fun _ => ?_))
      | exact ih0 _ _ _
      | exact ih1 _ _ _ _ _ _
      | exact LeO.none _
      | refine LeO.ite ?_ ?_
      | refine LeO.bind ?_ (fun _ => ?_)
def impl_wedgeSteps.T6 : Bool × List (List Nat × List Nat) := (true, [([], []), ([0], [0]), ([1], [1]), ([2], [2]), ([], []), ([4], [4]), ([], []), ([6], [6]), ([7], [7]), ([5, 8], [5, 8]), ([3, 9], [3, 9]), ([10], [10]), ([], [])])
def impl_wedgeSteps.B6 : List Nat := [0, 1, 3, 7, 0, 16, 0, 64, 192, 496, 1023, 2047, 0]
theorem impl_wedgeSteps.tab6 : rtab .any (opsOf Tryz.f64 6) = impl_wedgeSteps.T6 := by kernel_rfl
theorem impl_wedgeSteps.bits6 : waitsOk impl_wedgeSteps.T6.2 impl_wedgeSteps.B6 = true := by kernel_rfl
abbrev impl_wedgeSteps.pl0 : List (Nat × Option Tmp × Nat) := [q 0 21, q 1 22, q 4 25, q 5 26, q 6 27, q 7 28, q 12 33, qt 2 23, q 3 24, qt 8 29, q 9 30, qo 10 31, q 11 32]
set_option maxHeartbeats 8000000 in
set_option maxRecDepth 100000 in
theorem impl_wedgeSteps.calls (k : Nat) (a0 : Int) (a1 : Int) (r : List Int) (w : World) (h : impl_wedgeSteps.f k a0 a1 = some r) :
    Calls Tryz.prog 64 #[.int .i64 a0, .int .i64 a1] w fun e w' => ∃ v0_ : Value, e = .returned (v0_) ∧ Kd.R (Kd.int .i64) 3 w' w.heap.size (fun _ => True) v0_ r ∧ Below w.heap.size w w' := by
 have HB := Aside0.mk (Below.refl w.heap.size w)
 have H := h
 unfold impl_wedgeSteps.f at H
 clear h
 obtain ⟨e4, d4⟩ : ∃ y_ : List Int, y_ = (([(-1)] : List Int)) := ⟨_, rfl⟩
 replace H : ((slices_Repeat_int_int.f e4 360).bind fun b7 => (if 0 ≤ a1 then (if a1 < (b7.length : Int) then (impl_wedgeSteps.l0 k a0 (b7.set (a1 : Int).toNat 0) (([a1] : List Int))) else (none)) else (none))) = some r := by first | (rw [d4]; with_reducible exact H) | (have b2 := (Option.bind_some _ _).symm.trans H; rw [d4]; with_reducible exact b2) | (have b2 := (Option.bind_some _ _).symm.trans H; with_reducible exact b2) | with_reducible exact H | (rw [d4]; exact H) | exact H
 have i6 := Aside0.mk d4
 clear d4
 obtain ⟨b7, A3, H⟩ := bD H
 try dsimp only at H
 by_cases c4 : 0 ≤ a1
 ·(
 rw [if_pos c4] at H
 have o4 : decide (0 ≤ a1) = true := decide_eq_true c4
 clear c4
 by_cases c5 : a1 < (b7.length : Int)
 ·(
 rw [if_pos c5] at H
 have o5 : decide (a1 < (b7.length : Int)) = true := decide_eq_true c5
 clear c5
 obtain ⟨g2, d5⟩ : ∃ y_ : List Int, y_ = (b7.set (a1 : Int).toNat 0) := ⟨_, rfl⟩
 replace H : (impl_wedgeSteps.l0 k a0 g2 (([a1] : List Int))) = some r := by first | (rw [d5]; with_reducible exact H) | (have b2 := (Option.bind_some _ _).symm.trans H; rw [d5]; with_reducible exact b2) | (have b2 := (Option.bind_some _ _).symm.trans H; with_reducible exact b2) | with_reducible exact H | (rw [d5]; exact H) | exact H
 have m4 := Aside0.mk d5
 clear d5
 obtain ⟨l1, d6⟩ : ∃ y_ : List Int, y_ = (([a1] : List Int)) := ⟨_, rfl⟩
 replace H : (impl_wedgeSteps.l0 k a0 g2 l1) = some r := by first | (rw [d6]; with_reducible exact H) | (have b2 := (Option.bind_some _ _).symm.trans H; rw [d6]; with_reducible exact b2) | (have b2 := (Option.bind_some _ _).symm.trans H; with_reducible exact b2) | with_reducible exact H | (rw [d6]; exact H) | exact H
 have i7 := Aside0.mk d6
 clear d6
 have H' := Aside0.mk H
 clear H
 go_enter Tryz.func64, Tryz.ntmps64
 go_wp2_with (first | ((with_reducible refine gate_dst (N := 9) rfl ?_); refine Kd.R_lit (Kd.int .i64) _ 3 ?hg (N := 9) ?hd (xs := ([(-1)] : List Int)) (inner := [.int .i64 (-1)]) (ok := fun _ => True) (okp := fun _ => True) ?hr ?hp (fun _ hk => hk) trivial (Below.refl _ _) (Nat.le_refl _) (by simp) ?_; (case hd => rfl); (case hg => rfl); (case hr => first | (go_simp; done) | (go_simp; rfl)); (case hp => exact (Reps.one (show Kd.M (Kd.int .i64) _ _ _ (-1) [.int .i64 (-1)] from rfl) (Reps.none _ _))); intro r7 w7 h3 hb hg_ hnew_; clear hg_ hnew_; (first | rw [← i6.out] at h3 | (simp only [Int.reduceToNat] at h3; rw [← i6.out] at h3)); have b6 := Aside0.mk (Kd.R_lower h3 (below_size bB)); replace HB := Aside0.mk (below_step bB hb); clear hb h3; obtain ⟨l2, l3, p4⟩ := Kd.R_slice b6.out; subst p4) | ((with_reducible refine gate_callee (f := 80) rfl ?_); refine goesL_ (some 10) rfl rfl Tryz.func80 kr rfl #[.slice l2 e4.length l3, .int .i64 360] rfl sM ?_; (with_reducible refine (slices_Repeat_int_int.calls _ _ e4 360 b7 _ ?side1 ?side2 A3.out).mono ?_); (case side1 => repeat (first | exact (Kd.R_reads' b6.out).2.2 | (with_reducible refine Kd.C_alloc ?_ _) | (with_reducible refine Kd.C_drewN ?_ _) | (with_reducible refine Kd.C_drew ?_))); (case side2 => exact (Kd.R_reads' b6.out).2.1); rintro e n7 ⟨r8, rfl, l4, hb⟩; refine ⟨_, rfl, ?_⟩; have b5 := Aside0.mk (Kd.R_lower (Kd.R_new' l4 (Kd.R_lt (oR b6))) (below_size bB)); replace b6 := Aside0.mk (Kd.R_elder' (oR b6) (Kd.R_base l4) hb); replace HB := Aside0.mk (below_step bB hb); (try clear hb); (try clear l4); have p6 : 0 ≤ (a1 : Int) := of_decide_eq_true asm; have q6 : (a1 : Int) < ((b7.length : Int) : Int) := of_decide_eq_true asm; obtain ⟨b3, b9, n8, n9, p5, s8, o0⟩ := Kd.R_form b5.out (by omega); (first | cases n8 | (injection n8 with ea_ en_ ec_; (first | subst ea_ | (injection ea_ with ea_; subst ea_)); subst ec_; clear en_)); have o1 := Aside0.mk n9; have s9 := Aside0.mk o0; clear n9 p5 o0; obtain ⟨m5, q0⟩ := Kd.R_celln 0 b5.out (a1 : Int) p6 q6; replace p6 := eq_true p6; replace q6 := eq_true q6; have n_ := Aside0.mk (Kd.R_mono (ok' := (fun k_ => some k_ ≠ (.slice l2 e4.length l3 : Value).ownBlock)) b5.out (fun k_ hk => hk.2)); clear b5; have b5 := n_; clear n_; obtain ⟨q1, q2⟩ := Kd.R_celln 0 b5.out (a1 : Int) (of_decide_eq_true asm) (of_decide_eq_true asm); have h5 := Kd.R_putg b5.out (a1 : Int) 0) | ((with_reducible refine gate_store (t := 3) (p := 13) rfl ?_); refine store_event (t := 3) (p := 13) (v := ?vo_w12) (w1 := (n7.setCell ⟨b3, (a1 : Int).toNat, none⟩ (.int .i64 0))) ?hg ?ho ?hn ?hr ?_; (case ho => rfl); (case hg => rfl); (case hn => rfl); (case hr => first | (go_simp; done) | (go_simp; rfl)); intro l5 hw; have hg : n7.grownBy l5 (some b3) := (by rw [hw]; exact h5.2); have hp_ : Kd.R (Kd.int .i64) 3 l5 w.heap.size (fun k_ => some k_ ≠ (.slice l2 e4.length l3 : Value).ownBlock) (.slice (some ⟨b3, 0, none⟩) b7.length b9) g2 := (by rw [hw, m4.out]; exact h5.1); clear h5; replace b6 := Aside0.mk (Kd.R_after (v := (.slice (some ⟨b3, 0, none⟩) b7.length b9)) (v1 := (.slice (some ⟨b3, 0, none⟩) b7.length b9)) (ok := (fun _ => True)) (oR b6) hg (.inl rfl)); replace b5 := Aside0.mk (hp_); replace HB := Aside0.mk ((by rw [hw]; exact below_set (HB.out) o1.out : Below w.heap.size w l5)); clear hg hw hp_) | ((with_reducible refine gate_dst (N := 15) rfl ?_); refine Kd.R_lit (Kd.int .i64) _ 3 ?hg (N := 15) ?hd (xs := ([a1] : List Int)) (inner := [.int .i64 a1]) (ok := fun _ => True) (okp := fun _ => True) ?hr ?hp (fun _ hk => hk) trivial (Below.refl _ _) (Nat.le_refl _) (by simp) ?_; (case hd => rfl); (case hg => rfl); (case hr => first | (go_simp; done) | (go_simp; rfl)); (case hp => exact (Reps.one (show Kd.M (Kd.int .i64) _ _ _ a1 [.int .i64 a1] from rfl) (Reps.none _ _))); intro r9 u0 c8 hb hg_ hnew_; clear hg_ hnew_; (first | rw [← i7.out] at c8 | (simp only [Int.reduceToNat] at c8; rw [← i7.out] at c8)); have m6 := Aside0.mk (Kd.R_lower (Kd.R_new' (Kd.R_new' c8 (Kd.R_lt (oR b6))) (Kd.R_lt (oR b5))) (below_size bB)); replace b6 := Aside0.mk (Kd.R_elder' (oR b6) (Kd.R_base c8) hb); replace b5 := Aside0.mk (Kd.R_elder' (oR b5) (Kd.R_base c8) hb); replace HB := Aside0.mk (below_step bB hb); clear hb c8))
 go_loopg [6] k (fun kq v6 w' => ∃ (c3 : List Int) (a4 : List Int), Aside0 (impl_wedgeSteps.l0 kq a0 c3 a4 = some r) ∧ Aside0 (kq ≤ k) ∧ Aside0 (Kd.R (Kd.int .i64) 3 w' w.heap.size (fun k_ => some k_ ≠ (v6 : Value).ownBlock) (.slice (some ⟨b3, 0, none⟩) b7.length b9) c3) ∧ Aside0 (Kd.Q (Kd.int .i64) 3 w' w.heap.size (fun k_ => some k_ ≠ ((.slice (some ⟨b3, 0, none⟩) b7.length b9) : Value).ownBlock) v6 a4) ∧ Aside0 (Below w.heap.size w w'))
 case atStart => exact ⟨(g2), (l1), H', ⟨Nat.le_refl _⟩, ⟨by (with_reducible repeat (first | apply Kd.R_alloc | apply Kd.R_drewN | apply Kd.R_drew)); exact Kd.R_mono b5.out (fun _ hk => hk.2)⟩, ⟨Kd.Q_of_R (by (with_reducible repeat (first | apply Kd.R_alloc | apply Kd.R_drewN | apply Kd.R_drew)); exact Kd.R_mono m6.out (fun _ hk => hk.2))⟩, ⟨bB⟩⟩
 case round => (
 clear H'
 try clear o4
 try clear o5
 try clear p6
 try clear q6
 try clear hf6
 try clear m5
 obtain ⟨c3, a4, HA, HK1, a6, a8, HB⟩ := hrel
 have b0 := (Kd.R_reads' a6.out).1
 rw [b0] at a6
 (try simp only [b0])
 (try simp only [b0] at a8)
 cases gk with
 | zero => exact absurd HA.out (by simp [impl_wedgeSteps.l0])
 | succ k1 => (
 have H := HA.out
 clear HA
 simp only [impl_wedgeSteps.l0] at H
 by_cases e8 : (a4.length : Int) > 0
 ·(
 rw [if_pos e8] at H
 have i9 : decide (0 < (a4.length : Int)) = true := decide_eq_true e8
 have j0 : decide (0 < a4.length) = true := decide_eq_true (by omega)
 clear e8
 by_cases j1 : 0 < (a4.length : Int)
 ·(
 rw [if_pos j1] at H
 have m7 : decide (0 < (a4.length : Int)) = true := decide_eq_true j1
 have m8 : decide (0 < a4.length) = true := decide_eq_true (by omega)
 clear j1
 obtain ⟨a7, d7⟩ : ∃ y_ : List Int, y_ = (([wrap64 (-(rd a4 0)), wrap64 ((wrap64 (2 * a0)) - (rd a4 0))] : List Int)) := ⟨_, rfl⟩
 replace H : (impl_wedgeSteps.l1 k1 a0 c3 a4 a7 (a7.length : Int) 0) = some r := by first | (rw [d7]; with_reducible exact H) | (have b2 := (Option.bind_some _ _).symm.trans H; rw [d7]; with_reducible exact b2) | (have b2 := (Option.bind_some _ _).symm.trans H; with_reducible exact b2) | with_reducible exact H | (rw [d7]; exact H) | exact H
 have j2 := Aside0.mk d7
 clear d7
 have H' := Aside0.mk H
 clear H
 obtain ⟨s0, s1, o6, _⟩ := Kd.Q_slice a8.out
 subst o6
 try go_wp2
 replace a6 := Aside0.mk (Kd.R_drew a6.out)
 replace a8 := Aside0.mk (Kd.Q_drew a8.out)
 replace HB := Aside0.mk (below_drew1 HB.out)
 have g3 : 0 ≤ (0 : Int) := (by omega)
 have g4 : 0 < (a4.length : Int) := of_decide_eq_true asm
 obtain ⟨g5, o7, c0⟩ := Kd.at_int (Kd.Q_reads' a8.out).2.2 0 g3 g4
 cases o7
 have q3 : (0 < a4.length) = True := eq_true (by omega)
 (try rw [show ((0 : Int)).toNat = 0 from rfl] at c0)
 (try rw [Addr.add_zero'] at c0)
 replace g3 := eq_true g3
 replace g4 := eq_true g4
 have g6 : 0 ≤ (0 : Int) := (by omega)
 have g7 : 0 < (a4.length : Int) := of_decide_eq_true asm
 obtain ⟨m9, o8, c2⟩ := Kd.at_int (Kd.Q_reads' a8.out).2.2 0 g6 g7
 obtain rfl : g5 = m9 := (by injection o8)
 have q4 : (0 < a4.length) = True := eq_true (by omega)
 (try rw [show ((0 : Int)).toNat = 0 from rfl] at c2)
 (try rw [Addr.add_zero'] at c2)
 replace g6 := eq_true g6
 replace g7 := eq_true g7
 refine st_ 13 impl_wedgeSteps.pl0 (S := fun w' => w'.cell? g5 = some (.int .i64 (rd a4 0)) ∧ w'.cell? g5 = some (.int .i64 (rd a4 0))) (ds := []) impl_wedgeSteps.tab6 impl_wedgeSteps.bits6 ⟨c0, c2⟩ (fun hHeld HT_ HW_ => ?_)
 generalize wr.drew = u1 at a6 a8 HB c0 c2 hHeld ⊢
 iterate 11 (first | refine pA HT_ ?_ | refine pT HT_ HW_ hHeld ?_)
 refine pO HT_ fun K hK => ?_
 refine Kd.R_lit_step (Kd.int .i64) _ 3 ?hg (N := 31) ?hd (xs := ([wrap64 (-(rd a4 0)), wrap64 ((wrap64 (2 * a0)) - (rd a4 0))] : List Int)) (inner := [.int .i64 (wrap64 (-(rd a4 0))), .int .i64 (wrap64 ((wrap64 (2 * a0)) - (rd a4 0)))]) (ok := fun _ => True) (okp := fun _ => True) ?hr ?hp (fun _ hk => hk) trivial (Below.refl _ _) (Nat.le_refl _) (by simp) ?_; (case hd => rfl); (case hg => rfl); (case hr => first | (go_simp; done) | (go_simp; rfl)); (case hp => exact (Reps.one (show Kd.M (Kd.int .i64) _ _ _ (wrap64 (-(rd a4 0))) [.int .i64 (wrap64 (-(rd a4 0)))] from rfl) (Reps.one (show Kd.M (Kd.int .i64) _ _ _ (wrap64 ((wrap64 (2 * a0)) - (rd a4 0))) [.int .i64 (wrap64 ((wrap64 (2 * a0)) - (rd a4 0)))] from rfl) (Reps.none _ _))))
 intro s2 u2 c9 hb hg_ hnew_
 have HS0_ := (hb.cell (World.block_lt_of_cell? _ _ (hHeld.1))).trans (hHeld.1)
 have HS1_ := (hb.cell (World.block_lt_of_cell? _ _ (hHeld.2))).trans (hHeld.2)
 clear hg_ hnew_
 (first | rw [← j2.out] at c9 | (simp only [Int.reduceToNat] at c9; rw [← j2.out] at c9))
 have j3 := Aside0.mk (Kd.R_lower (Kd.R_new' (Kd.R_new' c9 (Kd.R_lt (oR a6))) (Kd.Q_lt (by (with_reducible repeat (first | apply Kd.Q_alloc | apply Kd.Q_drewN | apply Kd.Q_drew)); exact a8.out))) (below_size bB))
 replace a6 := Aside0.mk (Kd.R_elder' (oR a6) (Kd.R_base c9) hb)
 replace a8 := Aside0.mk (Kd.Q_elder' (by (with_reducible repeat (first | apply Kd.Q_alloc | apply Kd.Q_drewN | apply Kd.Q_drew)); exact a8.out) (Kd.R_base c9) hb)
 replace HB := Aside0.mk (below_step bB hb)
 clear hb c9
 obtain ⟨e5, c6, l6⟩ := Kd.R_slice j3.out
 (first | subst l6 | (injection l6 with f1_ f2_ f3_; have f4_ := f1_.symm; have f5_ := f3_.symm; clear f1_ f2_ f3_; subst f4_; subst f5_))
 refine hK.out _ _ ⟨HS0_, HS1_⟩ (fun hHeld => ?_)
 clear hK K
 refine nP ?_
 refine pA HT_ ?_
 refine pD HT_ ?_
 try go_wp2
 (try rw [dSet])
 go_loopg [6, 33] k1 (fun kq v6 p7 w' => ∃ (a3 : List Int) (a2 : List Int) (a5 : Int), p7 = .int .i64 a5 ∧ Aside0 (impl_wedgeSteps.l1 kq a0 a3 a2 a7 (a7.length : Int) a5 = some r) ∧ Aside0 (kq ≤ k1) ∧ Aside0 (Kd.R (Kd.int .i64) 3 w' w.heap.size (fun k_ => some k_ ≠ (v6 : Value).ownBlock ∧ some k_ ≠ ((.slice e5 a7.length c6) : Value).ownBlock) (.slice (some ⟨b3, 0, none⟩) c3.length b9) a3) ∧ Aside0 (Kd.Q (Kd.int .i64) 3 w' w.heap.size (fun k_ => some k_ ≠ ((.slice (some ⟨b3, 0, none⟩) c3.length b9) : Value).ownBlock ∧ some k_ ≠ ((.slice e5 a7.length c6) : Value).ownBlock) v6 a2) ∧ Aside0 (Kd.R (Kd.int .i64) 3 w' w.heap.size (fun k_ => some k_ ≠ ((.slice (some ⟨b3, 0, none⟩) c3.length b9) : Value).ownBlock ∧ some k_ ≠ (v6 : Value).ownBlock) (.slice e5 a7.length c6) a7) ∧ Aside0 (Below w.heap.size w w'))
 case atStart => exact ⟨(c3), (a4), (0), sR, H', ⟨Nat.le_refl _⟩, ⟨by (try simp only [b0]); (with_reducible repeat (first | apply Kd.R_alloc | apply Kd.R_drewN | apply Kd.R_drew)); exact a6.out⟩, ⟨by (try simp only [b0]); (with_reducible repeat (first | apply Kd.Q_alloc | apply Kd.Q_drewN | apply Kd.Q_drew)); exact a8.out⟩, ⟨by (try simp only [b0]); (with_reducible repeat (first | apply Kd.R_alloc | apply Kd.R_drewN | apply Kd.R_drew)); exact Kd.R_mono j3.out (fun _ hk => ⟨hk.1.2, hk.2⟩)⟩, ⟨bB⟩⟩
 case round => (
 clear H'
 try clear hf6
 try clear i9
 try clear j0
 try clear m7
 try clear m8
 try clear c0
 try clear c2
 try clear g3
 try clear g6
 try clear g4
 try clear g7
 obtain ⟨a3, a2, a5, rfl, HA, HK2, a6, a8, b4, HB⟩ := hrel
 have b1 := (Kd.R_reads' a6.out).1
 rw [b1] at a6
 (try simp only [b1])
 (try simp only [b1] at a8)
 (try simp only [b1] at b4)
 cases gk with
 | zero => exact absurd HA.out (by simp [impl_wedgeSteps.l1])
 | succ k2 => (
 have H := HA.out
 clear HA
 simp only [impl_wedgeSteps.l1] at H
 by_cases e9 : a5 < (a7.length : Int)
 ·(
 rw [if_pos e9] at H
 have d8 : decide (a5 < (a7.length : Int)) = true := decide_eq_true e9
 clear e9
 by_cases j4 : 0 ≤ a5
 ·(
 rw [if_pos j4] at H
 have q5 : decide (0 ≤ a5) = true := decide_eq_true j4
 clear j4
 by_cases j5 : a5 < (a7.length : Int)
 ·(
 rw [if_pos j5] at H
 have q7 : decide (a5 < (a7.length : Int)) = true := decide_eq_true j5
 clear j5
 obtain ⟨a9, j6⟩ : ∃ j_ : Int, (Int.tmod (wrap64 ((rd a7 a5) + 360)) 360) = j_ := ⟨_, rfl⟩
 (first | rw [j6] at H | simp only [j6] at H)
 by_cases j7 : 0 ≤ (a9)
 ·(
 rw [if_pos j7] at H
 have q8 : decide (0 ≤ (a9)) = true := decide_eq_true j7
 clear j7
 by_cases j8 : (a9) < (a3.length : Int)
 ·(
 rw [if_pos j8] at H
 have q9 : decide ((a9) < (a3.length : Int)) = true := decide_eq_true j8
 clear j8
 by_cases g0 : (rd a3 (a9)) < 0
 ·(
 rw [if_pos g0] at H
 have n0 : decide ((rd a3 (a9)) < 0) = true := decide_eq_true g0
 clear g0
 by_cases j9 : 0 < (a2.length : Int)
 ·(
 rw [if_pos j9] at H
 have r0 : decide (0 < (a2.length : Int)) = true := decide_eq_true j9
 have r1 : decide (0 < a2.length) = true := decide_eq_true (by omega)
 clear j9
 by_cases k0 : 0 ≤ (rd a2 0)
 ·(
 rw [if_pos k0] at H
 have r2 : decide (0 ≤ (rd a2 0)) = true := decide_eq_true k0
 clear k0
 by_cases k3 : (rd a2 0) < (a3.length : Int)
 ·(
 rw [if_pos k3] at H
 have r3 : decide ((rd a2 0) < (a3.length : Int)) = true := decide_eq_true k3
 clear k3
 obtain ⟨g8, d9⟩ : ∃ y_ : List Int, y_ = (a3.set ((a9) : Int).toNat (wrap64 ((rd a3 (rd a2 0)) + 1))) := ⟨_, rfl⟩
 replace H : (if a2.length < 17592186044416 then (impl_wedgeSteps.l1 k2 a0 g8 (a2 ++ [a9]) a7 (a7.length : Int) (wrap64 (a5 + 1))) else (none)) = some r := by first | (rw [d9]; with_reducible exact H) | (have b2 := (Option.bind_some _ _).symm.trans H; rw [d9]; with_reducible exact b2) | (have b2 := (Option.bind_some _ _).symm.trans H; with_reducible exact b2) | with_reducible exact H | (rw [d9]; exact H) | exact H
 have n1 := Aside0.mk d9
 clear d9
 by_cases k4 : a2.length < 17592186044416
 ·(
 rw [if_pos k4] at H
 have n2 := Aside0.mk k4
 clear k4
 obtain ⟨l7, e0⟩ : ∃ y_ : List Int, y_ = (a2 ++ [a9]) := ⟨_, rfl⟩
 replace H : (impl_wedgeSteps.l1 k2 a0 g8 l7 a7 (a7.length : Int) (wrap64 (a5 + 1))) = some r := by first | (rw [e0]; with_reducible exact H) | (have b2 := (Option.bind_some _ _).symm.trans H; rw [e0]; with_reducible exact b2) | (have b2 := (Option.bind_some _ _).symm.trans H; with_reducible exact b2) | with_reducible exact H | (rw [e0]; exact H) | exact H
 have n3 := Aside0.mk e0
 clear e0
 have H' := Aside0.mk H
 clear H
 have d0 : 0 ≤ (a5 : Int) := of_decide_eq_true asm
 have d1 : a5 < (a7.length : Int) := of_decide_eq_true asm
 obtain ⟨e1, h6, l0⟩ := Kd.at_int (Kd.R_reads' b4.out).2.2 a5 d0 d1
 cases h6
 replace d0 := eq_true d0
 replace d1 := eq_true d1
 have d2 : 0 ≤ ((a9) : Int) := of_decide_eq_true asm
 have d3 : (a9) < (a3.length : Int) := of_decide_eq_true asm
 obtain ⟨g9, h7, b8⟩ := Kd.at_int (Kd.R_reads' a6.out).2.2 (a9) d2 d3
 obtain rfl : (⟨b3, 0, none⟩ : Addr) = g9 := (by injection h7)
 (first | simp only [add_plain] at b8 | simp only [add_at] at b8 | simp only [Addr.add, Nat.zero_add] at b8 | skip)
 replace d2 := eq_true d2
 replace d3 := eq_true d3
 obtain ⟨s3, h8, o9, _⟩ := Kd.Q_slice a8.out
 subst o9
 have h9 : 0 ≤ (0 : Int) := (by omega)
 have i0 : 0 < (a2.length : Int) := of_decide_eq_true asm
 obtain ⟨h0, p0, g1⟩ := Kd.at_int (Kd.Q_reads' a8.out).2.2 0 h9 i0
 cases p0
 have r4 : (0 < a2.length) = True := eq_true (by omega)
 (try rw [show ((0 : Int)).toNat = 0 from rfl] at g1)
 (try rw [Addr.add_zero'] at g1)
 replace h9 := eq_true h9
 replace i0 := eq_true i0
 have i1 : 0 ≤ ((rd a2 0) : Int) := of_decide_eq_true asm
 have i2 : (rd a2 0) < (a3.length : Int) := of_decide_eq_true asm
 obtain ⟨n4, p1, e3⟩ := Kd.at_int (Kd.R_reads' a6.out).2.2 (rd a2 0) i1 i2
 obtain rfl : (⟨b3, 0, none⟩ : Addr) = n4 := (by injection p1)
 (first | simp only [add_plain] at e3 | simp only [add_at] at e3 | simp only [Addr.add, Nat.zero_add] at e3 | skip)
 replace i1 := eq_true i1
 replace i2 := eq_true i2
 have l8 : 0 ≤ ((a9) : Int) := of_decide_eq_true asm
 have l9 : ((a9) : Int) < ((a3.length : Int) : Int) := of_decide_eq_true asm
 obtain ⟨p8, p9⟩ := Kd.R_celln 0 a6.out ((a9) : Int) l8 l9
 replace l8 := eq_true l8
 replace l9 := eq_true l9
 have i3 := Kd.R_putg a6.out ((a9) : Int) (wrap64 ((rd a3 (rd a2 0)) + 1))
 go_wp2_with (first | ((with_reducible refine gate_store (t := 3) (p := 54) rfl ?_); refine store_event (t := 3) (p := 54) (v := ?vo_w36) (w1 := (wr.setCell ⟨b3, ((a9) : Int).toNat, none⟩ (.int .i64 (wrap64 ((rd a3 (rd a2 0)) + 1))))) ?hg ?ho ?hn ?hr ?_; (case ho => rfl); (case hg => rfl); (case hn => rfl); (case hr => first | (go_simp; done) | (go_simp; rfl)); intro m0 hw; have hg : wr.grownBy m0 (some b3) := (by rw [hw]; exact i3.2); have hp_ : Kd.R (Kd.int .i64) 3 m0 w.heap.size (fun k_ => some k_ ≠ (.slice (some h0) a2.length h8 : Value).ownBlock ∧ some k_ ≠ (.slice (some e1) a7.length c6 : Value).ownBlock) (.slice (some ⟨b3, 0, none⟩) a3.length b9) g8 := (by rw [hw, n1.out]; exact i3.1); clear i3; replace a6 := Aside0.mk (hp_); replace a8 := Aside0.mk (Kd.Q_after (v := (.slice (some ⟨b3, 0, none⟩) a3.length b9)) (v1 := (.slice (some ⟨b3, 0, none⟩) a3.length b9)) (ok := (fun k_ => some k_ ≠ (.slice (some e1) a7.length c6 : Value).ownBlock)) (by (with_reducible repeat (first | apply Kd.Q_alloc | apply Kd.Q_drewN | apply Kd.Q_drew)); exact Kd.Q_mono a8.out (fun _ hk => ⟨hk.2, hk.1⟩)) hg (.inl rfl)); replace b4 := Aside0.mk (Kd.R_after (v := (.slice (some ⟨b3, 0, none⟩) a3.length b9)) (v1 := (.slice (some ⟨b3, 0, none⟩) a3.length b9)) (ok := (fun k_ => some k_ ≠ (.slice (some h0) a2.length h8 : Value).ownBlock)) (by (with_reducible repeat (first | apply Kd.R_alloc | apply Kd.R_drewN | apply Kd.R_drew)); exact Kd.R_mono b4.out (fun _ hk => ⟨hk.2, hk.1⟩)) hg (.inl rfl)); replace HB := Aside0.mk ((by rw [hw]; exact below_set (HB.out) o1.out : Below w.heap.size w m0)); clear hg hw hp_) | ((with_reducible refine gate_builtin (b := .append) (xs := #[.tmp 55, .tmp 57]) rfl ?_); at_builtin; refine Kd.Q_append (Kd.int .i64) (w0 := w) w.heap.size rfl (.tmp 55) (.tmp 57) 26 3 (.int .i64 0) 8 rfl Tryz.underlying26 info3 rfl (by decide) (by omega) (.slice (some h0) a2.length h8) a2 a9 [.int .i64 a9] (fun k_ => some k_ ≠ (.slice (some ⟨b3, 0, none⟩) a3.length b9 : Value).ownBlock ∧ some k_ ≠ (.slice (some e1) a7.length c6 : Value).ownBlock) (fun _ => False) rfl rfl ?aP (fun _ hk => hk.elim) ?aF ?aO ?aB ?aS ?aL ?_; (case aP => exact rfl); (case aB => exact bB); (case aF => exact (fun k_ hk => ⟨Kd.fresh' (Kd.R_lt (oR a6)) k_ hk, Kd.fresh' (Kd.R_lt (oR b4)) k_ hk⟩)); (case aO => exact (by (with_reducible repeat (first | apply Kd.Q_alloc | apply Kd.Q_drewN | apply Kd.Q_drew)); exact Kd.Q_mono a8.out (fun _ hk => ⟨hk.2, hk.1⟩))); (case aS => exact (below_size bB)); (case aL => have := n2.out; omega); intro s4 u3 ho hb hg hat; rw [← n3.out] at ho; have n5 := Aside0.mk (ho); replace a6 := Aside0.mk (Kd.R_after (ok := (fun k_ => some k_ ≠ (.slice (some e1) a7.length c6 : Value).ownBlock)) (by (with_reducible repeat (first | apply Kd.R_alloc | apply Kd.R_drewN | apply Kd.R_drew)); exact Kd.R_mono a6.out (fun _ hk => ⟨hk.2, hk.1⟩)) hg hat); replace b4 := Aside0.mk (Kd.R_after (ok := (fun k_ => some k_ ≠ (.slice (some ⟨b3, 0, none⟩) a3.length b9 : Value).ownBlock)) (by (with_reducible repeat (first | apply Kd.R_alloc | apply Kd.R_drewN | apply Kd.R_drew)); exact Kd.R_mono b4.out (fun _ hk => ⟨hk.2, hk.1⟩)) hg hat); replace HB := Aside0.mk (hb); clear a8 ho hb hg hat))
 (try simp only [← b1])
 go_roundg k2
 case measure => have := HK1.out; have := HK2.out; omega
 case rel => exact ⟨(g8), (l7), (wrap64 (a5 + 1)), sR, H', ⟨by have := HK1.out; have := HK2.out; omega⟩, ⟨by (try simp only [b0]); (try simp only [b1]); (with_reducible repeat (first | apply Kd.R_alloc | apply Kd.R_drewN | apply Kd.R_drew)); exact Kd.R_mono a6.out (fun _ hk => ⟨hk.2, hk.1⟩)⟩, ⟨by (try simp only [b0]); (try simp only [b1]); (with_reducible repeat (first | apply Kd.Q_alloc | apply Kd.Q_drewN | apply Kd.Q_drew)); exact n5.out⟩, ⟨by (try simp only [b0]); (try simp only [b1]); (with_reducible repeat (first | apply Kd.R_alloc | apply Kd.R_drewN | apply Kd.R_drew)); exact b4.out⟩, ⟨bB⟩⟩
 )
 ·(
 rw [if_neg k4] at H
 exact absurd H (by simp)
 )
 )
 ·(
 rw [if_neg k3] at H
 exact absurd H (by simp)
 )
 )
 ·(
 rw [if_neg k0] at H
 exact absurd H (by simp)
 )
 )
 ·(
 rw [if_neg j9] at H
 exact absurd H (by simp)
 )
 )
 ·(
 rw [if_neg g0] at H
 have n0 : decide ((rd a3 (a9)) < 0) = false := decide_eq_false g0
 clear g0
 have H' := Aside0.mk H
 clear H
 have d0 : 0 ≤ (a5 : Int) := of_decide_eq_true asm
 have d1 : a5 < (a7.length : Int) := of_decide_eq_true asm
 obtain ⟨e1, h6, l0⟩ := Kd.at_int (Kd.R_reads' b4.out).2.2 a5 d0 d1
 cases h6
 replace d0 := eq_true d0
 replace d1 := eq_true d1
 have d2 : 0 ≤ ((a9) : Int) := of_decide_eq_true asm
 have d3 : (a9) < (a3.length : Int) := of_decide_eq_true asm
 obtain ⟨g9, h7, b8⟩ := Kd.at_int (Kd.R_reads' a6.out).2.2 (a9) d2 d3
 obtain rfl : (⟨b3, 0, none⟩ : Addr) = g9 := (by injection h7)
 (first | simp only [add_plain] at b8 | simp only [add_at] at b8 | simp only [Addr.add, Nat.zero_add] at b8 | skip)
 replace d2 := eq_true d2
 replace d3 := eq_true d3
 go_wp2
 (try simp only [← b1])
 go_roundg k2
 case measure => have := HK1.out; have := HK2.out; omega
 case rel => exact ⟨(a3), (a2), (wrap64 (a5 + 1)), sR, H', ⟨by have := HK1.out; have := HK2.out; omega⟩, ⟨by (try simp only [b0]); (try simp only [b1]); (with_reducible repeat (first | apply Kd.R_alloc | apply Kd.R_drewN | apply Kd.R_drew)); exact a6.out⟩, ⟨by (try simp only [b0]); (try simp only [b1]); (with_reducible repeat (first | apply Kd.Q_alloc | apply Kd.Q_drewN | apply Kd.Q_drew)); exact a8.out⟩, ⟨by (try simp only [b0]); (try simp only [b1]); (with_reducible repeat (first | apply Kd.R_alloc | apply Kd.R_drewN | apply Kd.R_drew)); exact b4.out⟩, ⟨bB⟩⟩
 )
 )
 ·(
 rw [if_neg j8] at H
 exact absurd H (by simp)
 )
 )
 ·(
 rw [if_neg j7] at H
 exact absurd H (by simp)
 )
 )
 ·(
 rw [if_neg j5] at H
 exact absurd H (by simp)
 )
 )
 ·(
 rw [if_neg j4] at H
 exact absurd H (by simp)
 )
 )
 ·(
 rw [if_neg e9] at H
 have d8 : decide (a5 < (a7.length : Int)) = false := decide_eq_false e9
 (try have o2 : decide (a5 < (c3.length : Int)) = false := by first | (rw [b0]; exact d8) | (rw [← b0]; exact d8))
 (try have o3 : decide (a5 < (a3.length : Int)) = false := by first | (rw [b1]; exact d8) | (rw [← b1]; exact d8))
 clear e9
 by_cases h4 : 1 ≤ (a2.length : Int)
 ·(
 rw [if_pos h4] at H
 have r5 := eq_true h4
 have r6 : decide (1 ≤ (a2.length : Int)) = true := decide_eq_true h4
 clear h4
 obtain ⟨c7, e2⟩ : ∃ y_ : List Int, y_ = (a2.drop (1 : Int).toNat) := ⟨_, rfl⟩
 replace H : (impl_wedgeSteps.l0 k2 a0 a3 c7) = some r := by first | (rw [e2]; with_reducible exact H) | (have b2 := (Option.bind_some _ _).symm.trans H; rw [e2]; with_reducible exact b2) | (have b2 := (Option.bind_some _ _).symm.trans H; with_reducible exact b2) | with_reducible exact H | (rw [e2]; exact H) | exact H
 have k5 := Aside0.mk e2
 clear e2
 have H' := Aside0.mk H
 clear H
 obtain ⟨e6, h1, p2, _⟩ := Kd.Q_slice a8.out
 subst p2
 have m1 : (1 : Int) ≤ ((a2.length : Int) : Int) := of_decide_eq_true asm
 obtain ⟨s5, k6, _, k7, _⟩ := info_parts info3
 have m2 := cut_from (P := Tryz.prog) 26 3 .i64 Tryz.underlying26 k6 1 k7 e6 a2.length h1 1 (by omega) m1
 have e7 := Kd.Q_drop (k := (1 : Int).toNat) a8.out (by omega)
 obtain ⟨k8, h2⟩ : ∃ A1, A1 = (if h1 = (1 : Int).toNat then e6 else (e6 : Option Addr).map (·.add ((1 : Int).toNat * 1))) := ⟨_, rfl⟩
 obtain ⟨k9, i4⟩ : ∃ c1, c1 = h1 - (1 : Int).toNat := ⟨_, rfl⟩
 have i5 : c7.length = a2.length - (1 : Int).toNat := (by rw [k5.out, List.length_drop])
 rw [← k5.out] at e7
 rw [← i5, ← h2, ← i4] at m2
 replace e7 : Kd.Q (Kd.int .i64) 3 wr w.heap.size (fun k_ => some k_ ≠ (.slice (some ⟨b3, 0, none⟩) a3.length b9 : Value).ownBlock ∧ some k_ ≠ (.slice e5 a7.length c6 : Value).ownBlock) (.slice k8 c7.length k9) c7 := (by rw [h2, i4, i5]; exact e7)
 have m3 : Aside0 ((Value.slice k8 c7.length k9).ownBlock = (.slice e6 a2.length h1 : Value).ownBlock) := ⟨by rw [h2]; split <;> (cases (e6 : Option Addr) <;> rfl)⟩
 clear i5 k6 k7 a8 h2 i4
 have n6 := Aside0.mk e7
 clear e7
 replace m1 := eq_true m1
 have n_ := Aside0.mk (Kd.R_mono (ok' := fun k_ => (some k_ ≠ (.slice k8 c7.length k9 : Value).ownBlock ∧ some k_ ≠ (.slice e5 a7.length c6 : Value).ownBlock)) a6.out (fun k_ hk => ⟨(by rw [m3.out]; exact hk.1), hk.2⟩))
 clear a6
 have a6 := n_
 clear n_
 have n_ := Aside0.mk (Kd.R_mono (ok' := fun k_ => (some k_ ≠ (.slice (some ⟨b3, 0, none⟩) a3.length b9 : Value).ownBlock ∧ some k_ ≠ (.slice k8 c7.length k9 : Value).ownBlock)) b4.out (fun k_ hk => ⟨hk.1, (by rw [m3.out]; exact hk.2)⟩))
 clear b4
 have b4 := n_
 clear n_
 go_wp2
 (try simp only [← b0, ← b1])
 go_roundg k2
 case measure => have := HK1.out; have := HK2.out; omega
 case rel => exact ⟨(a3), (c7), H', ⟨by have := HK1.out; have := HK2.out; omega⟩, ⟨by (try simp only [b0]); (try simp only [b1]); (with_reducible repeat (first | apply Kd.R_alloc | apply Kd.R_drewN | apply Kd.R_drew)); exact Kd.R_mono a6.out (fun _ hk => hk.1)⟩, ⟨by (try simp only [b0]); (try simp only [b1]); (with_reducible repeat (first | apply Kd.Q_alloc | apply Kd.Q_drewN | apply Kd.Q_drew)); exact Kd.Q_mono n6.out (fun _ hk => hk.1)⟩, ⟨bB⟩⟩
 )
 ·(
 rw [if_neg h4] at H
 exact absurd H (by simp)
 )
 )
 )
 )
 )
 ·(
 rw [if_neg j1] at H
 exact absurd H (by simp)
 )
 )
 ·(
 rw [if_neg e8] at H
 have i9 : decide (0 < (a4.length : Int)) = false := decide_eq_false e8
 have j0 : decide (0 < a4.length) = false := decide_eq_false (by omega)
 clear e8
 obtain rfl := Option.some.inj H
 obtain ⟨s6, s7, p3, _⟩ := Kd.Q_slice a8.out
 subst p3
 go_wp2
 go_ret
 exact ⟨_, sE, by (with_reducible repeat (first | apply Kd.R_alloc | apply Kd.R_drewN | apply Kd.R_drew)); exact Kd.R_mono a6.out (fun _ hk => trivial), bI⟩
 )
 )
 )
 )
 ·(
 rw [if_neg c5] at H
 exact absurd H (by simp)
 )
 )
 ·(
 rw [if_neg c4] at H
 exact absurd H (by simp)
 )

/-! ### impl_WedgeImages: function 25 -/
def impl_WedgeImages.l0 : Nat → List Int → List Int → Int → Int → Option (List Int × Bool)
  | 0, _, _, _, _ => none
  | k + 1, x6, x16, x17, x18 => if x18 < x17 then (if 0 ≤ x18 then (if x18 < (x16.length : Int) then (if (rd x16 x18) > 0 then (if x6.length < 17592186044416 then (impl_WedgeImages.l0 k (x6 ++ [x18]) x16 x17 (wrap64 (x18 + 1))) else (none)) else (impl_WedgeImages.l0 k x6 x16 x17 (wrap64 (x18 + 1)))) else (none)) else (none)) else (some (x6, true))
def impl_WedgeImages.f (k : Nat) (a0 : Int) (a1 : Int) : Option (List Int × Bool) := (impl_isWedge.f a0 a1).bind fun t399 => (if t399 = true then ((impl_wedgeSteps.f k a0 a1).bind fun t403 => (impl_WedgeImages.l0 k (([] : List Int)) t403 (t403.length : Int) 0)) else (some (([] : List Int), false)))
theorem impl_WedgeImages.mono_l : ∀ k, (∀ y0 y1 y2 y3, LeO (impl_WedgeImages.l0 k y0 y1 y2 y3) (impl_WedgeImages.l0 (k + 1) y0 y1 y2 y3))
  | 0 => fun _ _ _ _ r h => by simp [impl_WedgeImages.l0] at h
  | k + 1 => by
    have ih0 := impl_WedgeImages.mono_l k
    · intro y0 y1 y2 y3
      unfold impl_WedgeImages.l0
      repeat' first
      | (with_reducible exact ih0 _ _ _ _)
      | (with_reducible exact impl_wedgeSteps.mono _ _ _)
      | (with_reducible exact LeO.refl _)
      | (with_reducible exact LeO.none _)
      | (with_reducible refine LeO.ite ?_ ?_)
      | (with_reducible refine LeO.bind ?_ (fun _ => ?_))
      | exact ih0 _ _ _ _
      | exact impl_wedgeSteps.mono _ _ _
      | exact LeO.none _
      | refine LeO.ite ?_ ?_
      | refine LeO.bind ?_ (fun _ => ?_)
theorem impl_WedgeImages.mono : ∀ a0 a1 k, LeO (impl_WedgeImages.f k a0 a1) (impl_WedgeImages.f (k + 1) a0 a1) := by
  intro a0 a1 k
  have ih0 := impl_WedgeImages.mono_l k
  unfold impl_WedgeImages.f
  repeat' first
      | (with_reducible exact ih0 _ _ _ _)
      | (with_reducible exact impl_wedgeSteps.mono _ _ _)
      | (with_reducible exact LeO.refl _)
      | (with_reducible exact LeO.none _)
      | (with_reducible refine LeO.ite ?_ ?_)
      | (with_reducible refine LeO.bind ?_ (fun _ => ?_))
      | exact ih0 _ _ _ _
      | exact impl_wedgeSteps.mono _ _ _
      | exact LeO.none _
      | refine LeO.ite ?_ ?_
      | refine LeO.bind ?_ (fun _ => ?_)
set_option maxHeartbeats 8000000 in
set_option maxRecDepth 100000 in
theorem impl_WedgeImages.calls (k : Nat) (a0 : Int) (a1 : Int) (r1 : List Int) (r2 : Bool) (w : World) (h : impl_WedgeImages.f k a0 a1 = some (r1, r2)) :
    Calls Tryz.prog 25 #[.int .i64 a0, .int .i64 a1] w fun e w' => ∃ v0_ : Value, e = .returned (.tuple #[v0_, .bool r2]) ∧ Kd.R (Kd.int .i64) 3 w' w.heap.size (fun _ => True) v0_ r1 ∧ Below w.heap.size w w' := by
 have HB := Aside0.mk (Below.refl w.heap.size w)
 have H := h
 unfold impl_WedgeImages.f at H
 clear h
 obtain ⟨d5, A3, H⟩ := bD H
 try dsimp only at H
 by_cases c4 : d5 = true
 ·(
 subst c4
 rw [if_pos rfl] at H
 obtain ⟨c5, a8⟩ : ∃ y_ : List Int, y_ = (([] : List Int)) := ⟨_, rfl⟩
 replace H : ((impl_wedgeSteps.f k a0 a1).bind fun a3 => (impl_WedgeImages.l0 k c5 a3 (a3.length : Int) 0)) = some (r1, r2) := by first | (rw [a8]; with_reducible exact H) | (have b1 := (Option.bind_some _ _).symm.trans H; rw [a8]; with_reducible exact b1) | (have b1 := (Option.bind_some _ _).symm.trans H; with_reducible exact b1) | with_reducible exact H | (rw [a8]; exact H) | exact H
 have b7 := Aside0.mk a8
 clear a8
 obtain ⟨a3, A5, H⟩ := bD H
 try dsimp only at H
 have H' := Aside0.mk H
 clear H
 go_enter Tryz.func25, Tryz.ntmps25
 go_wp2_with (first | ((with_reducible refine gate_callee (f := 63) rfl ?_); refine goesL_ (some 11) rfl rfl Tryz.func63 kr rfl #[.int .i64 a0, .int .i64 a1] rfl sM ?_; (with_reducible refine (impl_isWedge.calls a0 a1 true _ A3.out).mono ?_); rintro e w' ⟨rfl, ⟨nd, rfl⟩⟩; refine ⟨_, rfl, ?_⟩) | ((with_reducible refine gate_dst (N := 13) rfl ?_); refine Kd.R_lit (Kd.int .i64) _ 3 ?hg (N := 13) ?hd (xs := ([] : List Int)) (inner := []) (ok := fun _ => True) (okp := fun _ => True) ?hr ?hp (fun _ hk => hk) trivial (Below.refl _ _) (Nat.le_refl _) (by simp) ?_; (case hd => rfl); (case hg => rfl); (case hr => first | (go_simp; done) | (go_simp; rfl)); (case hp => exact (Reps.none _ _)); intro e0 w6 b5 hb hg_ hnew_; clear hg_ hnew_; (first | rw [← b7.out] at b5 | (simp only [Int.reduceToNat] at b5; rw [← b7.out] at b5)); have b0 := Aside0.mk (Kd.R_lower b5 (below_size bB)); replace HB := Aside0.mk (below_step bB hb); clear hb b5) | ((with_reducible refine gate_callee (f := 64) rfl ?_); refine goesL_ (some 16) rfl rfl Tryz.func64 kr rfl #[.int .i64 a0, .int .i64 a1] rfl sM ?_; (with_reducible refine (impl_wedgeSteps.calls k a0 a1 a3 _ A5.out).mono ?_); rintro e w8 ⟨e1, rfl, c6, hb⟩; refine ⟨_, rfl, ?_⟩; have b8 := Aside0.mk (Kd.R_lower (Kd.R_new' c6 (Kd.R_lt (oR b0))) (below_size bB)); replace b0 := Aside0.mk (Kd.R_elder' (oR b0) (Kd.R_base c6) hb); replace HB := Aside0.mk (below_step bB hb); (try clear hb); (try clear c6); obtain ⟨d4, c7, d6⟩ := Kd.R_slice b8.out; subst d6))
 go_loopg [6, 18] k (fun kq v6 d7 w' => ∃ (a5 : List Int) (a2 : Int), d7 = .int .i64 a2 ∧ Aside0 (impl_WedgeImages.l0 kq a5 a3 (a3.length : Int) a2 = some (r1, r2)) ∧ Aside0 (kq ≤ k) ∧ Aside0 (Kd.R (Kd.int .i64) 3 w' w.heap.size (fun k_ => some k_ ≠ ((.slice d4 a3.length c7) : Value).ownBlock) v6 a5) ∧ Aside0 (Kd.R (Kd.int .i64) 3 w' w.heap.size (fun k_ => some k_ ≠ (v6 : Value).ownBlock) (.slice d4 a3.length c7) a3) ∧ Aside0 (Below w.heap.size w w'))
 case atStart => exact ⟨(c5), (0), sR, H', ⟨Nat.le_refl _⟩, ⟨by (with_reducible repeat (first | apply Kd.R_alloc | apply Kd.R_drewN | apply Kd.R_drew)); exact Kd.R_mono b0.out (fun _ hk => hk.2)⟩, ⟨by (with_reducible repeat (first | apply Kd.R_alloc | apply Kd.R_drewN | apply Kd.R_drew)); exact Kd.R_mono b8.out (fun _ hk => hk.2)⟩, ⟨bB⟩⟩
 case round => (
 clear H'
 try clear c4
 obtain ⟨a5, a2, rfl, HA, HK1, b4, a4, HB⟩ := hrel
 cases gk with
 | zero => exact absurd HA.out (by simp [impl_WedgeImages.l0])
 | succ k1 => (
 have H := HA.out
 clear HA
 simp only [impl_WedgeImages.l0] at H
 by_cases b2 : a2 < (a3.length : Int)
 ·(
 rw [if_pos b2] at H
 have c9 : decide (a2 < (a3.length : Int)) = true := decide_eq_true b2
 clear b2
 by_cases b9 : 0 ≤ a2
 ·(
 rw [if_pos b9] at H
 have d8 : decide (0 ≤ a2) = true := decide_eq_true b9
 clear b9
 by_cases c0 : a2 < (a3.length : Int)
 ·(
 rw [if_pos c0] at H
 have d9 : decide (a2 < (a3.length : Int)) = true := decide_eq_true c0
 clear c0
 by_cases b3 : (rd a3 a2) > 0
 ·(
 rw [if_pos b3] at H
 have d0 : decide (0 < (rd a3 a2)) = true := decide_eq_true b3
 clear b3
 by_cases c1 : a5.length < 17592186044416
 ·(
 rw [if_pos c1] at H
 have d1 := Aside0.mk c1
 clear c1
 obtain ⟨c8, a9⟩ : ∃ y_ : List Int, y_ = (a5 ++ [a2]) := ⟨_, rfl⟩
 replace H : (impl_WedgeImages.l0 k1 c8 a3 (a3.length : Int) (wrap64 (a2 + 1))) = some (r1, r2) := by first | (rw [a9]; with_reducible exact H) | (have b1 := (Option.bind_some _ _).symm.trans H; rw [a9]; with_reducible exact b1) | (have b1 := (Option.bind_some _ _).symm.trans H; with_reducible exact b1) | with_reducible exact H | (rw [a9]; exact H) | exact H
 have d2 := Aside0.mk a9
 clear a9
 have H' := Aside0.mk H
 clear H
 have a6 : 0 ≤ (a2 : Int) := of_decide_eq_true asm
 have a7 : a2 < (a3.length : Int) := of_decide_eq_true asm
 obtain ⟨c2, b6, c3⟩ := Kd.at_int (Kd.R_reads' a4.out).2.2 a2 a6 a7
 cases b6
 replace a6 := eq_true a6
 replace a7 := eq_true a7
 go_wp2_with (first | ((with_reducible refine gate_builtin (b := .append) (xs := #[.tmp 25, .tmp 27]) rfl ?_); at_builtin; refine Kd.R_append (Kd.int .i64) (w0 := w) w.heap.size rfl (.tmp 25) (.tmp 27) 26 3 (.int .i64 0) 8 rfl Tryz.underlying26 info3 rfl (by decide) (by omega) u6 a5 a2 [.int .i64 a2] (fun k_ => some k_ ≠ (.slice (some c2) a3.length c7 : Value).ownBlock) (fun _ => False) rfl rfl ?aP (fun _ hk => hk.elim) ?aF ?aO ?aB ?aS ?aL ?_; (case aP => exact rfl); (case aB => exact bB); (case aF => exact (fun k_ hk => Kd.fresh' (Kd.R_lt (oR a4)) k_ hk)); (case aO => exact (oR b4)); (case aS => exact (below_size bB)); (case aL => have := d1.out; omega); intro e2 e3 ho hb hg hat; rw [← d2.out] at ho; have d3 := Aside0.mk (ho); replace a4 := Aside0.mk (Kd.R_after (ok := (fun _ => True)) (by (with_reducible repeat (first | apply Kd.R_alloc | apply Kd.R_drewN | apply Kd.R_drew)); exact Kd.R_mono a4.out (fun _ hk => ⟨trivial, hk⟩)) hg hat); replace HB := Aside0.mk (hb); clear b4 ho hb hg hat))
 go_roundg k1
 case measure => have := HK1.out; omega
 case rel => exact ⟨(c8), (wrap64 (a2 + 1)), sR, H', ⟨by have := HK1.out; omega⟩, ⟨oR d3⟩, ⟨by (with_reducible repeat (first | apply Kd.R_alloc | apply Kd.R_drewN | apply Kd.R_drew)); exact Kd.R_mono a4.out (fun _ hk => hk.2)⟩, ⟨bB⟩⟩
 )
 ·(
 rw [if_neg c1] at H
 exact absurd H (by simp)
 )
 )
 ·(
 rw [if_neg b3] at H
 have d0 : decide (0 < (rd a3 a2)) = false := decide_eq_false b3
 clear b3
 have H' := Aside0.mk H
 clear H
 have a6 : 0 ≤ (a2 : Int) := of_decide_eq_true asm
 have a7 : a2 < (a3.length : Int) := of_decide_eq_true asm
 obtain ⟨c2, b6, c3⟩ := Kd.at_int (Kd.R_reads' a4.out).2.2 a2 a6 a7
 cases b6
 replace a6 := eq_true a6
 replace a7 := eq_true a7
 go_wp2
 go_roundg k1
 case measure => have := HK1.out; omega
 case rel => exact ⟨(a5), (wrap64 (a2 + 1)), sR, H', ⟨by have := HK1.out; omega⟩, ⟨oR b4⟩, ⟨oR a4⟩, ⟨bB⟩⟩
 )
 )
 ·(
 rw [if_neg c0] at H
 exact absurd H (by simp)
 )
 )
 ·(
 rw [if_neg b9] at H
 exact absurd H (by simp)
 )
 )
 ·(
 rw [if_neg b2] at H
 have c9 : decide (a2 < (a3.length : Int)) = false := decide_eq_false b2
 clear b2
 simp only [Option.some.injEq, Prod.mk.injEq] at H
 obtain ⟨rfl, rfl⟩ := H
 go_wp2
 go_ret2
 exact ⟨_, sE, by (with_reducible repeat (first | apply Kd.R_alloc | apply Kd.R_drewN | apply Kd.R_drew)); exact Kd.R_mono b4.out (fun _ hk => trivial), bI⟩
 )
 )
 )
 )
 ·(
 replace c4 := Bool.eq_false_iff.mpr c4
 subst c4
 rw [if_neg nft] at H
 simp only [Option.some.injEq, Prod.mk.injEq] at H
 obtain ⟨rfl, rfl⟩ := H
 go_enter Tryz.func25, Tryz.ntmps25
 go_wp2_with (first | ((with_reducible refine gate_callee (f := 63) rfl ?_); refine goesL_ (some 11) rfl rfl Tryz.func63 kr rfl #[.int .i64 a0, .int .i64 a1] rfl sM ?_; (with_reducible refine (impl_isWedge.calls a0 a1 false _ A3.out).mono ?_); rintro e w' ⟨rfl, ⟨nd, rfl⟩⟩; refine ⟨_, rfl, ?_⟩))
 go_ret2
 exact ⟨_, sE, by first | exact Kd.R_nil _ _ _ _ _ | exact Kd.N_nil _ _ _ _ _ | exact Kd.V_nil _ _ _ _ _ | exact Kd.Q_nil _ _ _ _ _ | exact Kd.S_nil _ _ _ _ _, bI⟩
 )

/-! ### spec_WedgeImages: function 26 -/
def spec_WedgeImages.f (k : Nat) (a0 : Int) (a1 : Int) : Option (List Int × Bool) := (spec_miWedge.f a0 a1).bind fun t410 => (if t410 = true then ((spec_miImages.f k a0 a1).bind fun t411 => (some (t411, true))) else (some (([] : List Int), false)))
theorem spec_WedgeImages.mono : ∀ a0 a1 k, LeO (spec_WedgeImages.f k a0 a1) (spec_WedgeImages.f (k + 1) a0 a1) := by
  intro a0 a1 k
  unfold spec_WedgeImages.f
  repeat' first
      | (with_reducible exact spec_miImages.mono _ _ _)
      | (with_reducible exact LeO.refl _)
      | (with_reducible exact LeO.none _)
      | (with_reducible refine LeO.ite ?_ ?_)
      | (with_reducible refine LeO.bind ?_ (fun _ => ?_))
      | exact spec_miImages.mono _ _ _
      | exact LeO.none _
      | refine LeO.ite ?_ ?_
      | refine LeO.bind ?_ (fun _ => ?_)
set_option maxHeartbeats 8000000 in
set_option maxRecDepth 100000 in
theorem spec_WedgeImages.calls (k : Nat) (a0 : Int) (a1 : Int) (r1 : List Int) (r2 : Bool) (w : World) (h : spec_WedgeImages.f k a0 a1 = some (r1, r2)) :
    Calls Tryz.prog 26 #[.int .i64 a0, .int .i64 a1] w fun e w' => ∃ v0_ : Value, e = .returned (.tuple #[v0_, .bool r2]) ∧ Kd.R (Kd.int .i64) 3 w' w.heap.size (fun _ => True) v0_ r1 ∧ Below w.heap.size w w' := by
 have HB := Aside0.mk (Below.refl w.heap.size w)
 have H := h
 unfold spec_WedgeImages.f at H
 clear h
 obtain ⟨a4, A3, H⟩ := bD H
 try dsimp only at H
 by_cases c4 : a4 = true
 ·(
 subst c4
 rw [if_pos rfl] at H
 obtain ⟨a5, A5, H⟩ := bD H
 try dsimp only at H
 simp only [Option.some.injEq, Prod.mk.injEq] at H
 obtain ⟨rfl, rfl⟩ := H
 go_enter Tryz.func26, Tryz.ntmps26
 go_wp2_with (first | ((with_reducible refine gate_callee (f := 65) rfl ?_); refine goesL_ (some 8) rfl rfl Tryz.func65 kr rfl #[.int .i64 a0, .int .i64 a1] rfl sM ?_; (with_reducible refine (spec_miWedge.calls a0 a1 true _ A3.out).mono ?_); rintro e w' ⟨rfl, ⟨nd, rfl⟩⟩; refine ⟨_, rfl, ?_⟩) | ((with_reducible refine gate_callee (f := 66) rfl ?_); refine goesL_ (some 12) rfl rfl Tryz.func66 kr rfl #[.int .i64 a0, .int .i64 a1] rfl sM ?_; (with_reducible refine (spec_miImages.calls k a0 a1 a5 _ A5.out).mono ?_); rintro e w6 ⟨a6, rfl, a3, hb⟩; refine ⟨_, rfl, ?_⟩; have a2 := Aside0.mk (Kd.R_lower a3 (below_size bB)); replace HB := Aside0.mk (below_step bB hb); (try clear hb); (try clear a3)))
 go_ret2
 exact ⟨_, sE, by (with_reducible repeat (first | apply Kd.R_alloc | apply Kd.R_drewN | apply Kd.R_drew)); exact a2.out, bI⟩
 )
 ·(
 replace c4 := Bool.eq_false_iff.mpr c4
 subst c4
 rw [if_neg nft] at H
 simp only [Option.some.injEq, Prod.mk.injEq] at H
 obtain ⟨rfl, rfl⟩ := H
 go_enter Tryz.func26, Tryz.ntmps26
 go_wp2_with (first | ((with_reducible refine gate_callee (f := 65) rfl ?_); refine goesL_ (some 8) rfl rfl Tryz.func65 kr rfl #[.int .i64 a0, .int .i64 a1] rfl sM ?_; (with_reducible refine (spec_miWedge.calls a0 a1 false _ A3.out).mono ?_); rintro e w' ⟨rfl, ⟨nd, rfl⟩⟩; refine ⟨_, rfl, ?_⟩))
 go_ret2
 exact ⟨_, sE, by first | exact Kd.R_nil _ _ _ _ _ | exact Kd.N_nil _ _ _ _ _ | exact Kd.V_nil _ _ _ _ _ | exact Kd.Q_nil _ _ _ _ _ | exact Kd.S_nil _ _ _ _ _, bI⟩
 )

/-! ### impl_CountWedge: function 27 -/
def impl_CountWedge.f (k : Nat) (a0 : Int) (a1 : Int) : Option (Int × Bool) := (impl_WedgeImages.f k a0 a1).bind fun bt414 => (some ((bt414.1.length : Int), bt414.2))
theorem impl_CountWedge.mono : ∀ a0 a1 k, LeO (impl_CountWedge.f k a0 a1) (impl_CountWedge.f (k + 1) a0 a1) := by
  intro a0 a1 k
  unfold impl_CountWedge.f
  repeat' first
      | (with_reducible exact impl_WedgeImages.mono _ _ _)
      | (with_reducible exact LeO.refl _)
      | (with_reducible exact LeO.none _)
      | (with_reducible refine LeO.ite ?_ ?_)
      | (with_reducible refine LeO.bind ?_ (fun _ => ?_))
      | exact impl_WedgeImages.mono _ _ _
      | exact LeO.none _
      | refine LeO.ite ?_ ?_
      | refine LeO.bind ?_ (fun _ => ?_)
set_option maxHeartbeats 8000000 in
set_option maxRecDepth 100000 in
theorem impl_CountWedge.calls (k : Nat) (a0 : Int) (a1 : Int) (r1 : Int) (r2 : Bool) (w : World) (h : impl_CountWedge.f k a0 a1 = some (r1, r2)) :
    Calls Tryz.prog 27 #[.int .i64 a0, .int .i64 a1] w fun e w' => e = .returned (.tuple #[.int .i64 r1, .bool r2]) ∧ Below w.heap.size w w' := by
 have HB := Aside0.mk (Below.refl w.heap.size w)
 have H := h
 unfold impl_CountWedge.f at H
 clear h
 obtain ⟨⟨a4, a5⟩, A3, H⟩ := bD H
 try dsimp only at H
 simp only [Option.some.injEq, Prod.mk.injEq] at H
 obtain ⟨rfl, rfl⟩ := H
 go_enter Tryz.func27, Tryz.ntmps27
 go_wp2_with (first | ((with_reducible refine gate_callee (f := 25) rfl ?_); refine goesL_ (some 11) rfl rfl Tryz.func25 kr rfl #[.int .i64 a0, .int .i64 a1] rfl sM ?_; (with_reducible refine (impl_WedgeImages.calls k a0 a1 a4 a5 _ A3.out).mono ?_); rintro e w4 ⟨a7, rfl, a3, hb⟩; refine ⟨_, rfl, ?_⟩; have a2 := Aside0.mk (Kd.R_lower a3 (below_size bB)); replace HB := Aside0.mk (below_step bB hb); (try clear hb); (try clear a3); obtain ⟨a8, a9, a6⟩ := Kd.R_slice a2.out; subst a6))
 go_ret2
 exact ⟨sE, bI⟩

/-! ### spec_CountWedge: function 28 -/
def spec_CountWedge.f (k : Nat) (a0 : Int) (a1 : Int) : Option (Int × Bool) := (spec_miWedge.f a0 a1).bind fun t418 => (if t418 = true then ((spec_miImages.f k a0 a1).bind fun t419 => (some ((t419.length : Int), true))) else (some (0, false)))
theorem spec_CountWedge.mono : ∀ a0 a1 k, LeO (spec_CountWedge.f k a0 a1) (spec_CountWedge.f (k + 1) a0 a1) := by
  intro a0 a1 k
  unfold spec_CountWedge.f
  repeat' first
      | (with_reducible exact spec_miImages.mono _ _ _)
      | (with_reducible exact LeO.refl _)
      | (with_reducible exact LeO.none _)
      | (with_reducible refine LeO.ite ?_ ?_)
      | (with_reducible refine LeO.bind ?_ (fun _ => ?_))
      | exact spec_miImages.mono _ _ _
      | exact LeO.none _
      | refine LeO.ite ?_ ?_
      | refine LeO.bind ?_ (fun _ => ?_)
set_option maxHeartbeats 8000000 in
set_option maxRecDepth 100000 in
theorem spec_CountWedge.calls (k : Nat) (a0 : Int) (a1 : Int) (r1 : Int) (r2 : Bool) (w : World) (h : spec_CountWedge.f k a0 a1 = some (r1, r2)) :
    Calls Tryz.prog 28 #[.int .i64 a0, .int .i64 a1] w fun e w' => e = .returned (.tuple #[.int .i64 r1, .bool r2]) ∧ Below w.heap.size w w' := by
 have HB := Aside0.mk (Below.refl w.heap.size w)
 have H := h
 unfold spec_CountWedge.f at H
 clear h
 obtain ⟨a4, A3, H⟩ := bD H
 try dsimp only at H
 by_cases c4 : a4 = true
 ·(
 subst c4
 rw [if_pos rfl] at H
 obtain ⟨a5, A5, H⟩ := bD H
 try dsimp only at H
 simp only [Option.some.injEq, Prod.mk.injEq] at H
 obtain ⟨rfl, rfl⟩ := H
 go_enter Tryz.func28, Tryz.ntmps28
 go_wp2_with (first | ((with_reducible refine gate_callee (f := 65) rfl ?_); refine goesL_ (some 8) rfl rfl Tryz.func65 kr rfl #[.int .i64 a0, .int .i64 a1] rfl sM ?_; (with_reducible refine (spec_miWedge.calls a0 a1 true _ A3.out).mono ?_); rintro e w' ⟨rfl, ⟨nd, rfl⟩⟩; refine ⟨_, rfl, ?_⟩) | ((with_reducible refine gate_callee (f := 66) rfl ?_); refine goesL_ (some 12) rfl rfl Tryz.func66 kr rfl #[.int .i64 a0, .int .i64 a1] rfl sM ?_; (with_reducible refine (spec_miImages.calls k a0 a1 a5 _ A5.out).mono ?_); rintro e w6 ⟨a7, rfl, a3, hb⟩; refine ⟨_, rfl, ?_⟩; have a2 := Aside0.mk (Kd.R_lower a3 (below_size bB)); replace HB := Aside0.mk (below_step bB hb); (try clear hb); (try clear a3); obtain ⟨a8, a9, a6⟩ := Kd.R_slice a2.out; subst a6))
 go_ret2
 exact ⟨sE, bI⟩
 )
 ·(
 replace c4 := Bool.eq_false_iff.mpr c4
 subst c4
 rw [if_neg nft] at H
 simp only [Option.some.injEq, Prod.mk.injEq] at H
 obtain ⟨rfl, rfl⟩ := H
 go_enter Tryz.func28, Tryz.ntmps28
 go_wp2_with (first | ((with_reducible refine gate_callee (f := 65) rfl ?_); refine goesL_ (some 8) rfl rfl Tryz.func65 kr rfl #[.int .i64 a0, .int .i64 a1] rfl sM ?_; (with_reducible refine (spec_miWedge.calls a0 a1 false _ A3.out).mono ?_); rintro e w' ⟨rfl, ⟨nd, rfl⟩⟩; refine ⟨_, rfl, ?_⟩))
 go_ret2
 exact ⟨sE, bI⟩
 )

/-! ### spec_DrawWedgeSteps: function 29 -/
-- (its text lies ahead)

end Go.Proofs.YtnmhefdjakjngaaGreatDoor.PFnMirrorsFace
