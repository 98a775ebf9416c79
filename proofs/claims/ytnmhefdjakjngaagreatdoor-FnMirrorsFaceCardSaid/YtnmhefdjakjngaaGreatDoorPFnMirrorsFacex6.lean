-- Written by xprint.py, a program of this session, for this seat; Lean checks it.
import Derived.Test.YtnmhefdjakjngaaGreatDoorVM
import Derived.Test.YtnmhefdjakjngaaGreatDoorPFnMirrorsFacex0
namespace Go.Proofs.YtnmhefdjakjngaaGreatDoor.PFnMirrorsFace
open Go.Proofs.YtnmhefdjakjngaaGreatDoorV Go.RowKit Go.Proofs.YtnmhefdjakjngaaGreatDoorW.PrintWords Go.Proofs.YtnmhefdjakjngaaGreatDoorW.PrintLast Go.Proofs.YtnmhefdjakjngaaGreatDoorW.PrintMore
attribute [local go_sem] max2_int min2_int max_two min_two max_three min_three max_four min_four   -- for this text's walks alone
set_option linter.unusedVariables false
set_option linter.unusedSimpArgs false

/-! ### spec_miSteps: function 67 -/
mutual
def spec_miSteps.l0 : Nat → Int → Int → List Int → Int → Int → Option (List Int)
  | 0, _, _, _, _, _ => none
  | k + 1, x0, x1, x5, x16, x17 => if x17 < x16 then (if 0 ≤ x17 then (if x17 < (x5.length : Int) then (spec_miSteps.l0 k x0 x1 (x5.set (x17 : Int).toNat (-1)) x16 (wrap64 (x17 + 1))) else (none)) else (none)) else (if 0 ≤ x1 then (if x1 < (x5.length : Int) then (spec_miSteps.l1 k x0 (x5.set (x1 : Int).toNat 0) (([x1] : List Int)) 1) else (none)) else (none))
def spec_miSteps.l1 : Nat → Int → List Int → List Int → Int → Option (List Int)
  | 0, _, _, _, _ => none
  | k + 1, x0, x5, x7, x8 => if (x7.length : Int) > 0 then (spec_miSteps.l2 k x0 x5 x8 ([] : List Int) x7 (x7.length : Int) 0) else (some x5)
def spec_miSteps.l2 : Nat → Int → List Int → Int → List Int → List Int → Int → Int → Option (List Int)
  | 0, _, _, _, _, _, _, _ => none
  | k + 1, x0, x5, x8, x9, x34, x35, x36 => if x36 < x35 then (if 0 ≤ x36 then (if x36 < (x34.length : Int) then ((some (([Int.tmod (wrap64 (360 - (rd x34 x36))) 360, Int.tmod (wrap64 ((wrap64 ((wrap64 (2 * x0)) - (rd x34 x36))) + 360)) 360] : List Int) : List Int)).bind fun y288 => (spec_miSteps.l3 k x0 x5 x8 x9 x34 x35 x36 y288 (y288.length : Int) 0)) else (none)) else (none)) else (spec_miSteps.l1 k x0 x5 x9 (wrap64 (x8 + 1)))
def spec_miSteps.l3 : Nat → Int → List Int → Int → List Int → List Int → Int → Int → List Int → Int → Int → Option (List Int)
  | 0, _, _, _, _, _, _, _, _, _, _ => none
  | k + 1, x0, x5, x8, x9, x34, x35, x36, x49, x50, x51 => if x51 < x50 then (if 0 ≤ x51 then (if x51 < (x49.length : Int) then (if 0 ≤ (rd x49 x51) then (if (rd x49 x51) < (x5.length : Int) then (if (rd x5 (rd x49 x51)) < 0 then (if x9.length < 17592186044416 then (spec_miSteps.l3 k x0 (x5.set ((rd x49 x51) : Int).toNat x8) x8 (x9 ++ [rd x49 x51]) x34 x35 x36 x49 x50 (wrap64 (x51 + 1))) else (none)) else (spec_miSteps.l3 k x0 x5 x8 x9 x34 x35 x36 x49 x50 (wrap64 (x51 + 1)))) else (none)) else (none)) else (none)) else (none)) else (spec_miSteps.l2 k x0 x5 x8 x9 x34 x35 (wrap64 (x36 + 1)))
end
def spec_miSteps.f (k : Nat) (a0 : Int) (a1 : Int) : Option (List Int) := if 360 ≤ 35184372088832 then ((some (List.replicate 360 0 : List Int)).bind fun y279 => (spec_miSteps.l0 k a0 a1 y279 (y279.length : Int) 0)) else (none)
theorem spec_miSteps.mono_l : ∀ k, (∀ y0 y1 y2 y3 y4, LeO (spec_miSteps.l0 k y0 y1 y2 y3 y4) (spec_miSteps.l0 (k + 1) y0 y1 y2 y3 y4)) ∧ (∀ y0 y1 y2 y3, LeO (spec_miSteps.l1 k y0 y1 y2 y3) (spec_miSteps.l1 (k + 1) y0 y1 y2 y3)) ∧ (∀ y0 y1 y2 y3 y4 y5 y6, LeO (spec_miSteps.l2 k y0 y1 y2 y3 y4 y5 y6) (spec_miSteps.l2 (k + 1) y0 y1 y2 y3 y4 y5 y6)) ∧ (∀ y0 y1 y2 y3 y4 y5 y6 y7 y8 y9, LeO (spec_miSteps.l3 k y0 y1 y2 y3 y4 y5 y6 y7 y8 y9) (spec_miSteps.l3 (k + 1) y0 y1 y2 y3 y4 y5 y6 y7 y8 y9))
  | 0 => ⟨fun _ _ _ _ _ r h => by simp [spec_miSteps.l0] at h, fun _ _ _ _ r h => by simp [spec_miSteps.l1] at h, fun _ _ _ _ _ _ _ r h => by simp [spec_miSteps.l2] at h, fun _ _ _ _ _ _ _ _ _ _ r h => by simp [spec_miSteps.l3] at h⟩
  | k + 1 => by
    obtain ⟨ih0, ih1, ih2, ih3⟩ := spec_miSteps.mono_l k
    refine ⟨?_, ?_, ?_, ?_⟩
    · intro y0 y1 y2 y3 y4
      unfold spec_miSteps.l0
      repeat' first
      | (with_reducible exact ih0 _ _ _ _ _)
      | (with_reducible exact ih1 _ _ _ _)
      | (with_reducible exact ih2 _ _ _ _ _ _ _)
      | (with_reducible exact ih3 _ _ _ _ _ _ _ _ _ _)
      | (with_reducible exact LeO.refl _)
      | (with_reducible exact LeO.none _)
      | (with_reducible refine LeO.ite ?_ ?_)
      | (with_reducible refine LeO.bind ?_ (fun _ => ?_))
      | exact ih0 _ _ _ _ _
      | exact ih1 _ _ _ _
      | exact ih2 _ _ _ _ _ _ _
      | exact ih3 _ _ _ _ _ _ _ _ _ _
      | exact LeO.none _
      | refine LeO.ite ?_ ?_
      | refine LeO.bind ?_ (fun _ => ?_)
    · intro y0 y1 y2 y3
      unfold spec_miSteps.l1
      repeat' first
      | (with_reducible exact ih0 _ _ _ _ _)
      | (with_reducible exact ih1 _ _ _ _)
      | (with_reducible exact ih2 _ _ _ _ _ _ _)
      | (with_reducible exact ih3 _ _ _ _ _ _ _ _ _ _)
      | (with_reducible exact LeO.refl _)
      | (with_reducible exact LeO.none _)
      | (with_reducible refine LeO.ite ?_ ?_)
      | (with_reducible refine LeO.bind ?_ (fun _ => ?_))
      | exact ih0 _ _ _ _ _
      | exact ih1 _ _ _ _
      | exact ih2 _ _ _ _ _ _ _
      | exact ih3 _ _ _ _ _ _ _ _ _ _
      | exact LeO.none _
      | refine LeO.ite ?_ ?_
      | refine LeO.bind ?_ (fun _ => ?_)
    · intro y0 y1 y2 y3 y4 y5 y6
      unfold spec_miSteps.l2
      repeat' first
      | (with_reducible exact ih0 _ _ _ _ _)
      | (with_reducible exact ih1 _ _ _ _)
      | (with_reducible exact ih2 _ _ _ _ _ _ _)
      | (with_reducible exact ih3 _ _ _ _ _ _ _ _ _ _)
      | (with_reducible exact LeO.refl _)
      | (with_reducible exact LeO.none _)
      | (with_reducible refine LeO.ite ?_ ?_)
      | (with_reducible refine LeO.bind ?_ (fun _ => ?_))
      | exact ih0 _ _ _ _ _
      | exact ih1 _ _ _ _
      | exact ih2 _ _ _ _ _ _ _
      | exact ih3 _ _ _ _ _ _ _ _ _ _
      | exact LeO.none _
      | refine LeO.ite ?_ ?_
      | refine LeO.bind ?_ (fun _ => ?_)
    · intro y0 y1 y2 y3 y4 y5 y6 y7 y8 y9
      unfold spec_miSteps.l3
      repeat' first
      | (with_reducible exact ih0 _ _ _ _ _)
      | (with_reducible exact ih1 _ _ _ _)
      | (with_reducible exact ih2 _ _ _ _ _ _ _)
      | (with_reducible exact ih3 _ _ _ _ _ _ _ _ _ _)
      | (with_reducible exact LeO.refl _)
      | (with_reducible exact LeO.none _)
      | (with_reducible refine LeO.ite ?_ ?_)
      | (with_reducible refine LeO.bind ?_ (fun _ => ?_))
      | exact ih0 _ _ _ _ _
      | exact ih1 _ _ _ _
      | exact ih2 _ _ _ _ _ _ _
      | exact ih3 _ _ _ _ _ _ _ _ _ _
      | exact LeO.none _
      | refine LeO.ite ?_ ?_
      | refine LeO.bind ?_ (fun _ => ?_)
theorem spec_miSteps.mono : ∀ a0 a1 k, LeO (spec_miSteps.f k a0 a1) (spec_miSteps.f (k + 1) a0 a1) := by
  intro a0 a1 k
  obtain ⟨ih0, ih1, ih2, ih3⟩ := spec_miSteps.mono_l k
  unfold spec_miSteps.f
  repeat' first
      | (with_reducible exact ih0 _ _ _ _ _)
      | (with_reducible exact ih1 _ _ _ _)
      | (with_reducible exact ih2 _ _ _ _ _ _ _)
      | (with_reducible exact ih3 _ _ _ _ _ _ _ _ _ _)
      | (with_reducible exact LeO.refl _)
      | (with_reducible exact LeO.none _)
      | (with_reducible refine LeO.ite ?_ ?_)
      | (with_reducible refine LeO.bind ?_ (fun _ => ?_))
      | exact ih0 _ _ _ _ _
      | exact ih1 _ _ _ _
      | exact ih2 _ _ _ _ _ _ _
      | exact ih3 _ _ _ _ _ _ _ _ _ _
      | exact LeO.none _
      | refine LeO.ite ?_ ?_
      | refine LeO.bind ?_ (fun _ => ?_)
set_option maxHeartbeats 8000000 in
set_option maxRecDepth 100000 in
theorem spec_miSteps.calls (k : Nat) (a0 : Int) (a1 : Int) (r : List Int) (w : World) (h : spec_miSteps.f k a0 a1 = some r) :
    Calls Tryz.prog 67 #[.int .i64 a0, .int .i64 a1] w fun e w' => ∃ v0_ : Value, e = .returned (v0_) ∧ Kd.R (Kd.int .i64) 3 w' w.heap.size (fun _ => True) v0_ r ∧ Below w.heap.size w w' := by
 have HB := Aside0.mk (Below.refl w.heap.size w)
 have H := h
 unfold spec_miSteps.f at H
 clear h
 by_cases c3 : 360 ≤ 35184372088832
 ·(
 rw [if_pos c3] at H
 have n9 := eq_true c3
 have o0 : decide (360 ≤ 35184372088832) = true := decide_eq_true c3
 clear c3
 obtain ⟨d2, e0⟩ : ∃ y_ : List Int, y_ = (List.replicate 360 0) := ⟨_, rfl⟩
 replace H : (spec_miSteps.l0 k a0 a1 d2 (d2.length : Int) 0) = some r := by first | (rw [e0]; with_reducible exact H) | (have b5 := (Option.bind_some _ _).symm.trans H; rw [e0]; with_reducible exact b5) | (have b5 := (Option.bind_some _ _).symm.trans H; with_reducible exact b5) | with_reducible exact H | (rw [e0]; exact H) | exact H
 have i0 := Aside0.mk e0
 clear e0
 have H' := Aside0.mk H
 clear H
 go_enter Tryz.func67, Tryz.ntmps67
 go_wp2_with (first | ((with_reducible refine gate_dst (N := 14) rfl ?_); refine Kd.R_make (Kd.int .i64) _ 3 rfl (N := 14) rfl 26 _ _ rfl 360 rfl rfl Tryz.underlying26 (.int .i64 0) 8 info3 rfl (by decide) (by omega) 0 (ok := fun _ => True) (okp := fun _ => True) rfl (fun _ hk => hk) trivial (by omega) (by omega) (Below.refl _ _) (Nat.le_refl _) ?_; intro q3 w4 h1 hb hg_ hnew_; clear hg_ hnew_; (first | rw [← i0.out] at h1 | (simp only [Int.reduceToNat] at h1; rw [← i0.out] at h1)); have i1 := Aside0.mk (Kd.R_lower h1 (below_size bB)); replace HB := Aside0.mk (below_step bB hb); clear hb h1; obtain ⟨o9, b7, p0⟩ := Kd.R_slice i1.out; subst p0))
 go_loopg [17] k (fun kq p1 w' => ∃ (b6 : List Int) (b3 : Int), p1 = .int .i64 b3 ∧ Aside0 (spec_miSteps.l0 kq a0 a1 b6 (d2.length : Int) b3 = some r) ∧ Aside0 (kq ≤ k) ∧ Aside0 (Kd.R (Kd.int .i64) 3 w' w.heap.size (fun _ => True) (.slice o9 d2.length b7) b6) ∧ Aside0 (Below w.heap.size w w'))
 case atStart => exact ⟨(d2), (0), sR, H', ⟨Nat.le_refl _⟩, ⟨oR i1⟩, ⟨bB⟩⟩
 case round => (
 clear H'
 try clear n9
 try clear o0
 obtain ⟨b6, b3, rfl, HA, HK1, a5, HB⟩ := hrel
 have a6 := (Kd.R_reads' a5.out).1
 rw [a6] at a5
 (try simp only [a6])
 cases gk with
 | zero => exact absurd HA.out (by simp [spec_miSteps.l0])
 | succ k1 => (
 have H := HA.out
 clear HA
 simp only [spec_miSteps.l0] at H
 by_cases c7 : b3 < (d2.length : Int)
 ·(
 rw [if_pos c7] at H
 have g3 : decide (b3 < (d2.length : Int)) = true := decide_eq_true c7
 clear c7
 by_cases c8 : 0 ≤ b3
 ·(
 rw [if_pos c8] at H
 have q4 : decide (0 ≤ b3) = true := decide_eq_true c8
 clear c8
 by_cases c9 : b3 < (b6.length : Int)
 ·(
 rw [if_pos c9] at H
 have q5 : decide (b3 < (b6.length : Int)) = true := decide_eq_true c9
 clear c9
 obtain ⟨h2, e1⟩ : ∃ y_ : List Int, y_ = (b6.set (b3 : Int).toNat (-1)) := ⟨_, rfl⟩
 replace H : (spec_miSteps.l0 k1 a0 a1 h2 (d2.length : Int) (wrap64 (b3 + 1))) = some r := by first | (rw [e1]; with_reducible exact H) | (have b5 := (Option.bind_some _ _).symm.trans H; rw [e1]; with_reducible exact b5) | (have b5 := (Option.bind_some _ _).symm.trans H; with_reducible exact b5) | with_reducible exact H | (rw [e1]; exact H) | exact H
 have m3 := Aside0.mk e1
 clear e1
 have H' := Aside0.mk H
 clear H
 have k6 : 0 ≤ (b3 : Int) := of_decide_eq_true asm
 have k7 : (b3 : Int) < ((b6.length : Int) : Int) := of_decide_eq_true asm
 obtain ⟨h3, q6, k8, k9, o1, q7, l0⟩ := Kd.R_form a5.out (by omega)
 (first | cases k8 | (injection k8 with ea_ en_ ec_; (first | subst ea_ | (injection ea_ with ea_; subst ea_)); subst ec_; clear en_))
 have o2 := Aside0.mk k9
 have q8 := Aside0.mk l0
 clear k9 o1 l0
 obtain ⟨p2, p3⟩ := Kd.R_celln 0 a5.out (b3 : Int) k6 k7
 replace k6 := eq_true k6
 replace k7 := eq_true k7
 have h4 := Kd.R_putg a5.out (b3 : Int) (-1)
 go_wp2_with (first | ((with_reducible refine gate_store (t := 3) (p := 22) rfl ?_); refine store_event (t := 3) (p := 22) (v := ?vo_w12) (w1 := (wr.setCell ⟨h3, (b3 : Int).toNat, none⟩ (.int .i64 (-1)))) ?hg ?ho ?hn ?hr ?_; (case ho => rfl); (case hg => rfl); (case hn => rfl); (case hr => first | (go_simp; done) | (go_simp; rfl)); intro l1 hw; have hg : wr.grownBy l1 (some h3) := (by rw [hw]; exact h4.2); have hp_ : Kd.R (Kd.int .i64) 3 l1 w.heap.size (fun _ => True) (.slice (some ⟨h3, 0, none⟩) b6.length b7) h2 := (by rw [hw, m3.out]; exact h4.1); clear h4; replace a5 := Aside0.mk (hp_); replace HB := Aside0.mk ((by rw [hw]; exact below_set (HB.out) o2.out : Below w.heap.size w l1)); clear hg hw hp_))
 (try simp only [← a6])
 go_roundg k1
 case measure => have := HK1.out; omega
 case rel => exact ⟨(h2), (wrap64 (b3 + 1)), sR, H', ⟨by have := HK1.out; omega⟩, ⟨by (try simp only [a6]); (with_reducible repeat (first | apply Kd.R_alloc | apply Kd.R_drewN | apply Kd.R_drew)); exact a5.out⟩, ⟨bB⟩⟩
 )
 ·(
 rw [if_neg c9] at H
 exact absurd H (by simp)
 )
 )
 ·(
 rw [if_neg c8] at H
 exact absurd H (by simp)
 )
 )
 ·(
 rw [if_neg c7] at H
 have g3 : decide (b3 < (d2.length : Int)) = false := decide_eq_false c7
 (try have o3 : decide (b3 < (b6.length : Int)) = false := by first | (rw [a6]; exact g3) | (rw [← a6]; exact g3))
 clear c7
 by_cases i2 : 0 ≤ a1
 ·(
 rw [if_pos i2] at H
 have m4 : decide (0 ≤ a1) = true := decide_eq_true i2
 clear i2
 by_cases i3 : a1 < (b6.length : Int)
 ·(
 rw [if_pos i3] at H
 have m5 : decide (a1 < (b6.length : Int)) = true := decide_eq_true i3
 clear i3
 obtain ⟨g4, e2⟩ : ∃ y_ : List Int, y_ = (b6.set (a1 : Int).toNat 0) := ⟨_, rfl⟩
 replace H : (spec_miSteps.l1 k1 a0 g4 (([a1] : List Int)) 1) = some r := by first | (rw [e2]; with_reducible exact H) | (have b5 := (Option.bind_some _ _).symm.trans H; rw [e2]; with_reducible exact b5) | (have b5 := (Option.bind_some _ _).symm.trans H; with_reducible exact b5) | with_reducible exact H | (rw [e2]; exact H) | exact H
 have m6 := Aside0.mk e2
 clear e2
 obtain ⟨l2, e3⟩ : ∃ y_ : List Int, y_ = (([a1] : List Int)) := ⟨_, rfl⟩
 replace H : (spec_miSteps.l1 k1 a0 g4 l2 1) = some r := by first | (rw [e3]; with_reducible exact H) | (have b5 := (Option.bind_some _ _).symm.trans H; rw [e3]; with_reducible exact b5) | (have b5 := (Option.bind_some _ _).symm.trans H; with_reducible exact b5) | with_reducible exact H | (rw [e3]; exact H) | exact H
 have i4 := Aside0.mk e3
 clear e3
 have H' := Aside0.mk H
 clear H
 have i5 : 0 ≤ (a1 : Int) := of_decide_eq_true asm
 have i6 : (a1 : Int) < ((b6.length : Int) : Int) := of_decide_eq_true asm
 obtain ⟨b1, q9, l3, l4, o4, r0, l5⟩ := Kd.R_form a5.out (by omega)
 (first | cases l3 | (injection l3 with ea_ en_ ec_; (first | subst ea_ | (injection ea_ with ea_; subst ea_)); subst ec_; clear en_))
 have l6 := Aside0.mk l4
 have r1 := Aside0.mk l5
 clear l4 o4 l5
 obtain ⟨l7, p4⟩ := Kd.R_celln 0 a5.out (a1 : Int) i5 i6
 replace i5 := eq_true i5
 replace i6 := eq_true i6
 have h5 := Kd.R_putg a5.out (a1 : Int) 0
 go_wp2_with (first | ((with_reducible refine gate_store (t := 3) (p := 26) rfl ?_); refine store_event (t := 3) (p := 26) (v := ?vo_w17) (w1 := (wr.setCell ⟨b1, (a1 : Int).toNat, none⟩ (.int .i64 0))) ?hg ?ho ?hn ?hr ?_; (case ho => rfl); (case hg => rfl); (case hn => rfl); (case hr => first | (go_simp; done) | (go_simp; rfl)); intro l8 hw; have hg : wr.grownBy l8 (some b1) := (by rw [hw]; exact h5.2); have hp_ : Kd.R (Kd.int .i64) 3 l8 w.heap.size (fun _ => True) (.slice (some ⟨b1, 0, none⟩) b6.length b7) g4 := (by rw [hw, m6.out]; exact h5.1); clear h5; replace a5 := Aside0.mk (hp_); replace HB := Aside0.mk ((by rw [hw]; exact below_set (HB.out) l6.out : Below w.heap.size w l8)); clear hg hw hp_) | ((with_reducible refine gate_dst (N := 28) rfl ?_); refine Kd.R_lit (Kd.int .i64) _ 3 ?hg (N := 28) ?hd (xs := ([a1] : List Int)) (inner := [.int .i64 a1]) (ok := fun _ => True) (okp := fun _ => True) ?hr ?hp (fun _ hk => hk) trivial (Below.refl _ _) (Nat.le_refl _) (by simp) ?_; (case hd => rfl); (case hg => rfl); (case hr => first | (go_simp; done) | (go_simp; rfl)); (case hp => exact (Reps.one (show Kd.M (Kd.int .i64) _ _ _ a1 [.int .i64 a1] from rfl) (Reps.none _ _))); intro r2 r7 e7 hb hg_ hnew_; clear hg_ hnew_; (first | rw [← i4.out] at e7 | (simp only [Int.reduceToNat] at e7; rw [← i4.out] at e7)); have m7 := Aside0.mk (Kd.R_lower (Kd.R_new' e7 (Kd.R_lt (oR a5))) (below_size bB)); replace a5 := Aside0.mk (Kd.R_elder' (oR a5) (Kd.R_base e7) hb); replace HB := Aside0.mk (below_step bB hb); clear hb e7))
 go_loopg [7, 8] k1 (fun kq v7 v8 w' => ∃ (d4 : List Int) (a3 : List Int) (c4 : Int), v8 = .int .i64 c4 ∧ Aside0 (spec_miSteps.l1 kq a0 d4 a3 c4 = some r) ∧ Aside0 (kq ≤ k1) ∧ Aside0 (Kd.R (Kd.int .i64) 3 w' w.heap.size (fun k_ => some k_ ≠ (v7 : Value).ownBlock) (.slice (some ⟨b1, 0, none⟩) b6.length b7) d4) ∧ Aside0 (Kd.R (Kd.int .i64) 3 w' w.heap.size (fun k_ => some k_ ≠ ((.slice (some ⟨b1, 0, none⟩) b6.length b7) : Value).ownBlock) v7 a3) ∧ Aside0 (Below w.heap.size w w'))
 case atStart => exact ⟨(g4), (l2), (1), sR, H', ⟨Nat.le_refl _⟩, ⟨by (try simp only [a6]); (with_reducible repeat (first | apply Kd.R_alloc | apply Kd.R_drewN | apply Kd.R_drew)); exact Kd.R_mono a5.out (fun _ hk => hk.2)⟩, ⟨by (try simp only [a6]); (with_reducible repeat (first | apply Kd.R_alloc | apply Kd.R_drewN | apply Kd.R_drew)); exact Kd.R_mono m7.out (fun _ hk => hk.2)⟩, ⟨bB⟩⟩
 case round => (
 clear H'
 try clear g3
 try clear hf10
 try clear m4
 try clear m5
 try clear i5
 try clear i6
 try clear hf15
 try clear l7
 obtain ⟨d4, a3, c4, rfl, HA, HK2, a5, g5, HB⟩ := hrel
 have a8 := (Kd.R_reads' a5.out).1
 rw [a8] at a5
 (try simp only [a8])
 (try simp only [a8] at g5)
 cases gk with
 | zero => exact absurd HA.out (by simp [spec_miSteps.l1])
 | succ k2 => (
 have H := HA.out
 clear HA
 simp only [spec_miSteps.l1] at H
 by_cases e9 : (a3.length : Int) > 0
 ·(
 rw [if_pos e9] at H
 have i7 : decide (0 < (a3.length : Int)) = true := decide_eq_true e9
 have i9 : decide (0 < a3.length) = true := decide_eq_true (by omega)
 clear e9
 have H' := Aside0.mk H
 clear H
 obtain ⟨h6, b9, o5⟩ := Kd.R_slice g5.out
 subst o5
 go_wp2
 go_loopg [9, 36] k2 (fun kq v9 p5 w' => ∃ (c6 : List Int) (e8 : List Int) (a7 : Int), p5 = .int .i64 a7 ∧ Aside0 (spec_miSteps.l2 kq a0 c6 c4 e8 a3 (a3.length : Int) a7 = some r) ∧ Aside0 (kq ≤ k2) ∧ Aside0 (Kd.R (Kd.int .i64) 3 w' w.heap.size (fun k_ => some k_ ≠ (v9 : Value).ownBlock ∧ some k_ ≠ ((.slice h6 a3.length b9) : Value).ownBlock) (.slice (some ⟨b1, 0, none⟩) d4.length b7) c6) ∧ Aside0 (Kd.R (Kd.int .i64) 3 w' w.heap.size (fun k_ => some k_ ≠ ((.slice (some ⟨b1, 0, none⟩) d4.length b7) : Value).ownBlock ∧ some k_ ≠ ((.slice h6 a3.length b9) : Value).ownBlock) v9 e8) ∧ Aside0 (Kd.R (Kd.int .i64) 3 w' w.heap.size (fun k_ => some k_ ≠ ((.slice (some ⟨b1, 0, none⟩) d4.length b7) : Value).ownBlock ∧ some k_ ≠ (v9 : Value).ownBlock) (.slice h6 a3.length b9) a3) ∧ Aside0 (Below w.heap.size w w'))
 case atStart => exact ⟨(d4), (([] : List Int)), (0), sR, H', ⟨Nat.le_refl _⟩, ⟨by (try simp only [a6]); (try simp only [a8]); (with_reducible repeat (first | apply Kd.R_alloc | apply Kd.R_drewN | apply Kd.R_drew)); exact Kd.R_mono a5.out (fun _ hk => ⟨(by simp [Value.ownBlock]), hk⟩)⟩, ⟨by (try simp only [a6]); (try simp only [a8]); first | exact Kd.R_nil _ _ _ _ _ | exact Kd.N_nil _ _ _ _ _ | exact Kd.V_nil _ _ _ _ _ | exact Kd.Q_nil _ _ _ _ _ | exact Kd.S_nil _ _ _ _ _⟩, ⟨by (try simp only [a6]); (try simp only [a8]); (with_reducible repeat (first | apply Kd.R_alloc | apply Kd.R_drewN | apply Kd.R_drew)); exact Kd.R_mono g5.out (fun _ hk => ⟨hk, (by simp [Value.ownBlock])⟩)⟩, ⟨bB⟩⟩
 case round => (
 clear H'
 try clear hf10
 try clear hf15
 try clear i7
 try clear i9
 obtain ⟨c6, e8, a7, rfl, HA, HK3, a5, b8, b4, HB⟩ := hrel
 have a9 := (Kd.R_reads' a5.out).1
 rw [a9] at a5
 (try simp only [a9])
 (try simp only [a9] at b8)
 (try simp only [a9] at b4)
 cases gk with
 | zero => exact absurd HA.out (by simp [spec_miSteps.l2])
 | succ k3 => (
 have H := HA.out
 clear HA
 simp only [spec_miSteps.l2] at H
 by_cases g0 : a7 < (a3.length : Int)
 ·(
 rw [if_pos g0] at H
 have j0 : decide (a7 < (a3.length : Int)) = true := decide_eq_true g0
 clear g0
 by_cases j1 : 0 ≤ a7
 ·(
 rw [if_pos j1] at H
 have m8 : decide (0 ≤ a7) = true := decide_eq_true j1
 clear j1
 by_cases j2 : a7 < (a3.length : Int)
 ·(
 rw [if_pos j2] at H
 have m9 : decide (a7 < (a3.length : Int)) = true := decide_eq_true j2
 clear j2
 obtain ⟨a4, e4⟩ : ∃ y_ : List Int, y_ = (([Int.tmod (wrap64 (360 - (rd a3 a7))) 360, Int.tmod (wrap64 ((wrap64 ((wrap64 (2 * a0)) - (rd a3 a7))) + 360)) 360] : List Int)) := ⟨_, rfl⟩
 replace H : (spec_miSteps.l3 k3 a0 c6 c4 e8 a3 (a3.length : Int) a7 a4 (a4.length : Int) 0) = some r := by first | (rw [e4]; with_reducible exact H) | (have b5 := (Option.bind_some _ _).symm.trans H; rw [e4]; with_reducible exact b5) | (have b5 := (Option.bind_some _ _).symm.trans H; with_reducible exact b5) | with_reducible exact H | (rw [e4]; exact H) | exact H
 have j3 := Aside0.mk e4
 clear e4
 have H' := Aside0.mk H
 clear H
 have g6 : 0 ≤ (a7 : Int) := of_decide_eq_true asm
 have g7 : a7 < (a3.length : Int) := of_decide_eq_true asm
 obtain ⟨c1, o6, k0⟩ := Kd.at_int (Kd.R_reads' b4.out).2.2 a7 g6 g7
 cases o6
 replace g6 := eq_true g6
 replace g7 := eq_true g7
 go_wp2_with (first | ((with_reducible refine gate_dst (N := 49) rfl ?_); refine Kd.R_lit (Kd.int .i64) _ 3 ?hg (N := 49) ?hd (xs := ([Int.tmod (wrap64 (360 - (rd a3 a7))) 360, Int.tmod (wrap64 ((wrap64 ((wrap64 (2 * a0)) - (rd a3 a7))) + 360)) 360] : List Int)) (inner := [.int .i64 (Int.tmod (wrap64 (360 - (rd a3 a7))) 360), .int .i64 (Int.tmod (wrap64 ((wrap64 ((wrap64 (2 * a0)) - (rd a3 a7))) + 360)) 360)]) (ok := fun _ => True) (okp := fun _ => True) ?hr ?hp (fun _ hk => hk) trivial (Below.refl _ _) (Nat.le_refl _) (by simp) ?_; (case hd => rfl); (case hg => rfl); (case hr => first | (go_simp; done) | (go_simp; rfl)); (case hp => exact (Reps.one (show Kd.M (Kd.int .i64) _ _ _ (Int.tmod (wrap64 (360 - (rd a3 a7))) 360) [.int .i64 (Int.tmod (wrap64 (360 - (rd a3 a7))) 360)] from rfl) (Reps.one (show Kd.M (Kd.int .i64) _ _ _ (Int.tmod (wrap64 ((wrap64 ((wrap64 (2 * a0)) - (rd a3 a7))) + 360)) 360) [.int .i64 (Int.tmod (wrap64 ((wrap64 ((wrap64 (2 * a0)) - (rd a3 a7))) + 360)) 360)] from rfl) (Reps.none _ _)))); intro r3 r8 d5 hb hg_ hnew_; clear hg_ hnew_; (first | rw [← j3.out] at d5 | (simp only [Int.reduceToNat] at d5; rw [← j3.out] at d5)); have j4 := Aside0.mk (Kd.R_lower (Kd.R_new' (Kd.R_new' (Kd.R_new' d5 (Kd.R_lt (oR a5))) (Kd.R_lt (oR b8))) (Kd.R_lt (oR b4))) (below_size bB)); replace a5 := Aside0.mk (Kd.R_elder' (oR a5) (Kd.R_base d5) hb); replace b8 := Aside0.mk (Kd.R_elder' (oR b8) (Kd.R_base d5) hb); replace b4 := Aside0.mk (Kd.R_elder' (oR b4) (Kd.R_base d5) hb); replace HB := Aside0.mk (below_step bB hb); clear hb d5; obtain ⟨g8, d0, o7⟩ := Kd.R_slice j4.out; subst o7))
 go_loopg [9, 51] k3 (fun kq v9 p6 w' => ∃ (b2 : List Int) (d1 : List Int) (a2 : Int), p6 = .int .i64 a2 ∧ Aside0 (spec_miSteps.l3 kq a0 b2 c4 d1 a3 (a3.length : Int) a7 a4 (a4.length : Int) a2 = some r) ∧ Aside0 (kq ≤ k3) ∧ Aside0 (Kd.R (Kd.int .i64) 3 w' w.heap.size (fun k_ => some k_ ≠ (v9 : Value).ownBlock ∧ some k_ ≠ ((.slice (some c1) a3.length b9) : Value).ownBlock ∧ some k_ ≠ ((.slice g8 a4.length d0) : Value).ownBlock) (.slice (some ⟨b1, 0, none⟩) c6.length b7) b2) ∧ Aside0 (Kd.R (Kd.int .i64) 3 w' w.heap.size (fun k_ => some k_ ≠ ((.slice (some ⟨b1, 0, none⟩) c6.length b7) : Value).ownBlock ∧ some k_ ≠ ((.slice (some c1) a3.length b9) : Value).ownBlock ∧ some k_ ≠ ((.slice g8 a4.length d0) : Value).ownBlock) v9 d1) ∧ Aside0 (Kd.R (Kd.int .i64) 3 w' w.heap.size (fun k_ => some k_ ≠ ((.slice (some ⟨b1, 0, none⟩) c6.length b7) : Value).ownBlock ∧ some k_ ≠ (v9 : Value).ownBlock ∧ some k_ ≠ ((.slice g8 a4.length d0) : Value).ownBlock) (.slice (some c1) a3.length b9) a3) ∧ Aside0 (Kd.R (Kd.int .i64) 3 w' w.heap.size (fun k_ => some k_ ≠ ((.slice (some ⟨b1, 0, none⟩) c6.length b7) : Value).ownBlock ∧ some k_ ≠ (v9 : Value).ownBlock ∧ some k_ ≠ ((.slice (some c1) a3.length b9) : Value).ownBlock) (.slice g8 a4.length d0) a4) ∧ Aside0 (Below w.heap.size w w'))
 case atStart => exact ⟨(c6), (e8), (0), sR, H', ⟨Nat.le_refl _⟩, ⟨by (try simp only [a6]); (try simp only [a8]); (try simp only [a9]); (with_reducible repeat (first | apply Kd.R_alloc | apply Kd.R_drewN | apply Kd.R_drew)); exact Kd.R_mono a5.out (fun _ hk => ⟨hk.1.1, ⟨hk.1.2, hk.2⟩⟩)⟩, ⟨by (try simp only [a6]); (try simp only [a8]); (try simp only [a9]); (with_reducible repeat (first | apply Kd.R_alloc | apply Kd.R_drewN | apply Kd.R_drew)); exact Kd.R_mono b8.out (fun _ hk => ⟨hk.1.1, ⟨hk.1.2, hk.2⟩⟩)⟩, ⟨by (try simp only [a6]); (try simp only [a8]); (try simp only [a9]); (with_reducible repeat (first | apply Kd.R_alloc | apply Kd.R_drewN | apply Kd.R_drew)); exact Kd.R_mono b4.out (fun _ hk => ⟨hk.1.1, ⟨hk.1.2, hk.2⟩⟩)⟩, ⟨by (try simp only [a6]); (try simp only [a8]); (try simp only [a9]); (with_reducible repeat (first | apply Kd.R_alloc | apply Kd.R_drewN | apply Kd.R_drew)); exact Kd.R_mono j4.out (fun _ hk => ⟨hk.1.1.2, ⟨hk.1.2, hk.2⟩⟩)⟩, ⟨bB⟩⟩
 case round => (
 clear H'
 try clear hf10
 try clear hf15
 try clear j0
 try clear m8
 try clear m9
 try clear k0
 try clear g6
 try clear g7
 obtain ⟨b2, d1, a2, rfl, HA, HK4, a5, b8, b4, c2, HB⟩ := hrel
 have b0 := (Kd.R_reads' a5.out).1
 rw [b0] at a5
 (try simp only [b0])
 (try simp only [b0] at b8)
 (try simp only [b0] at b4)
 (try simp only [b0] at c2)
 cases gk with
 | zero => exact absurd HA.out (by simp [spec_miSteps.l3])
 | succ k4 => (
 have H := HA.out
 clear HA
 simp only [spec_miSteps.l3] at H
 by_cases g1 : a2 < (a4.length : Int)
 ·(
 rw [if_pos g1] at H
 have c5 : decide (a2 < (a4.length : Int)) = true := decide_eq_true g1
 clear g1
 by_cases j5 : 0 ≤ a2
 ·(
 rw [if_pos j5] at H
 have p9 : decide (0 ≤ a2) = true := decide_eq_true j5
 clear j5
 by_cases j6 : a2 < (a4.length : Int)
 ·(
 rw [if_pos j6] at H
 have q0 : decide (a2 < (a4.length : Int)) = true := decide_eq_true j6
 clear j6
 by_cases j7 : 0 ≤ (rd a4 a2)
 ·(
 rw [if_pos j7] at H
 have q1 : decide (0 ≤ (rd a4 a2)) = true := decide_eq_true j7
 clear j7
 by_cases j8 : (rd a4 a2) < (b2.length : Int)
 ·(
 rw [if_pos j8] at H
 have q2 : decide ((rd a4 a2) < (b2.length : Int)) = true := decide_eq_true j8
 clear j8
 by_cases g2 : (rd b2 (rd a4 a2)) < 0
 ·(
 rw [if_pos g2] at H
 have n0 : decide ((rd b2 (rd a4 a2)) < 0) = true := decide_eq_true g2
 clear g2
 obtain ⟨g9, e5⟩ : ∃ y_ : List Int, y_ = (b2.set ((rd a4 a2) : Int).toNat c4) := ⟨_, rfl⟩
 replace H : (if d1.length < 17592186044416 then (spec_miSteps.l3 k4 a0 g9 c4 (d1 ++ [rd a4 a2]) a3 (a3.length : Int) a7 a4 (a4.length : Int) (wrap64 (a2 + 1))) else (none)) = some r := by first | (rw [e5]; with_reducible exact H) | (have b5 := (Option.bind_some _ _).symm.trans H; rw [e5]; with_reducible exact b5) | (have b5 := (Option.bind_some _ _).symm.trans H; with_reducible exact b5) | with_reducible exact H | (rw [e5]; exact H) | exact H
 have n1 := Aside0.mk e5
 clear e5
 by_cases j9 : d1.length < 17592186044416
 ·(
 rw [if_pos j9] at H
 have n2 := Aside0.mk j9
 clear j9
 obtain ⟨l9, e6⟩ : ∃ y_ : List Int, y_ = (d1 ++ [rd a4 a2]) := ⟨_, rfl⟩
 replace H : (spec_miSteps.l3 k4 a0 g9 c4 l9 a3 (a3.length : Int) a7 a4 (a4.length : Int) (wrap64 (a2 + 1))) = some r := by first | (rw [e6]; with_reducible exact H) | (have b5 := (Option.bind_some _ _).symm.trans H; rw [e6]; with_reducible exact b5) | (have b5 := (Option.bind_some _ _).symm.trans H; with_reducible exact b5) | with_reducible exact H | (rw [e6]; exact H) | exact H
 have n3 := Aside0.mk e6
 clear e6
 have H' := Aside0.mk H
 clear H
 have d6 : 0 ≤ (a2 : Int) := of_decide_eq_true asm
 have d7 : a2 < (a4.length : Int) := of_decide_eq_true asm
 obtain ⟨d3, h7, k5⟩ := Kd.at_int (Kd.R_reads' c2.out).2.2 a2 d6 d7
 cases h7
 replace d6 := eq_true d6
 replace d7 := eq_true d7
 have d8 : 0 ≤ ((rd a4 a2) : Int) := of_decide_eq_true asm
 have d9 : (rd a4 a2) < (b2.length : Int) := of_decide_eq_true asm
 obtain ⟨h0, h8, c0⟩ := Kd.at_int (Kd.R_reads' a5.out).2.2 (rd a4 a2) d8 d9
 obtain rfl : (⟨b1, 0, none⟩ : Addr) = h0 := (by injection h8)
 (first | simp only [add_plain] at c0 | simp only [add_at] at c0 | simp only [Addr.add, Nat.zero_add] at c0 | skip)
 replace d8 := eq_true d8
 replace d9 := eq_true d9
 have m0 : 0 ≤ ((rd a4 a2) : Int) := of_decide_eq_true asm
 have m1 : ((rd a4 a2) : Int) < ((b2.length : Int) : Int) := of_decide_eq_true asm
 obtain ⟨p7, p8⟩ := Kd.R_celln 0 a5.out ((rd a4 a2) : Int) m0 m1
 replace m0 := eq_true m0
 replace m1 := eq_true m1
 have h9 := Kd.R_putg a5.out ((rd a4 a2) : Int) c4
 go_wp2_with (first | ((with_reducible refine gate_store (t := 3) (p := 63) rfl ?_); refine store_event (t := 3) (p := 63) (v := ?vo_w37) (w1 := (wr.setCell ⟨b1, ((rd a4 a2) : Int).toNat, none⟩ (.int .i64 c4))) ?hg ?ho ?hn ?hr ?_; (case ho => rfl); (case hg => rfl); (case hn => rfl); (case hr => first | (go_simp; done) | (go_simp; rfl)); intro m2 hw; have hg : wr.grownBy m2 (some b1) := (by rw [hw]; exact h9.2); have hp_ : Kd.R (Kd.int .i64) 3 m2 w.heap.size (fun k_ => some k_ ≠ (u9 : Value).ownBlock ∧ some k_ ≠ (.slice (some c1) a3.length b9 : Value).ownBlock ∧ some k_ ≠ (.slice (some d3) a4.length d0 : Value).ownBlock) (.slice (some ⟨b1, 0, none⟩) b2.length b7) g9 := (by rw [hw, n1.out]; exact h9.1); clear h9; replace a5 := Aside0.mk (hp_); replace b8 := Aside0.mk (Kd.R_after (v := (.slice (some ⟨b1, 0, none⟩) b2.length b7)) (v1 := (.slice (some ⟨b1, 0, none⟩) b2.length b7)) (ok := (fun k_ => some k_ ≠ (.slice (some c1) a3.length b9 : Value).ownBlock ∧ some k_ ≠ (.slice (some d3) a4.length d0 : Value).ownBlock)) (by (with_reducible repeat (first | apply Kd.R_alloc | apply Kd.R_drewN | apply Kd.R_drew)); exact Kd.R_mono b8.out (fun _ hk => ⟨⟨hk.2.1, hk.2.2⟩, hk.1⟩)) hg (.inl rfl)); replace b4 := Aside0.mk (Kd.R_after (v := (.slice (some ⟨b1, 0, none⟩) b2.length b7)) (v1 := (.slice (some ⟨b1, 0, none⟩) b2.length b7)) (ok := (fun k_ => some k_ ≠ (u9 : Value).ownBlock ∧ some k_ ≠ (.slice (some d3) a4.length d0 : Value).ownBlock)) (by (with_reducible repeat (first | apply Kd.R_alloc | apply Kd.R_drewN | apply Kd.R_drew)); exact Kd.R_mono b4.out (fun _ hk => ⟨⟨hk.2.1, hk.2.2⟩, hk.1⟩)) hg (.inl rfl)); replace c2 := Aside0.mk (Kd.R_after (v := (.slice (some ⟨b1, 0, none⟩) b2.length b7)) (v1 := (.slice (some ⟨b1, 0, none⟩) b2.length b7)) (ok := (fun k_ => some k_ ≠ (u9 : Value).ownBlock ∧ some k_ ≠ (.slice (some c1) a3.length b9 : Value).ownBlock)) (by (with_reducible repeat (first | apply Kd.R_alloc | apply Kd.R_drewN | apply Kd.R_drew)); exact Kd.R_mono c2.out (fun _ hk => ⟨⟨hk.2.1, hk.2.2⟩, hk.1⟩)) hg (.inl rfl)); replace HB := Aside0.mk ((by rw [hw]; exact below_set (HB.out) l6.out : Below w.heap.size w m2)); clear hg hw hp_) | ((with_reducible refine gate_builtin (b := .append) (xs := #[.tmp 64, .tmp 66]) rfl ?_); at_builtin; refine Kd.R_append (Kd.int .i64) (w0 := w) w.heap.size rfl (.tmp 64) (.tmp 66) 26 3 (.int .i64 0) 8 rfl Tryz.underlying26 info3 rfl (by decide) (by omega) u9 d1 (rd a4 a2) [.int .i64 (rd a4 a2)] (fun k_ => some k_ ≠ (.slice (some ⟨b1, 0, none⟩) b2.length b7 : Value).ownBlock ∧ some k_ ≠ (.slice (some c1) a3.length b9 : Value).ownBlock ∧ some k_ ≠ (.slice (some d3) a4.length d0 : Value).ownBlock) (fun _ => False) rfl rfl ?aP (fun _ hk => hk.elim) ?aF ?aO ?aB ?aS ?aL ?_; (case aP => exact rfl); (case aB => exact bB); (case aF => exact (fun k_ hk => ⟨Kd.fresh' (Kd.R_lt (oR a5)) k_ hk, Kd.fresh' (Kd.R_lt (oR b4)) k_ hk, Kd.fresh' (Kd.R_lt (oR c2)) k_ hk⟩)); (case aO => exact (by (with_reducible repeat (first | apply Kd.R_alloc | apply Kd.R_drewN | apply Kd.R_drew)); exact Kd.R_mono b8.out (fun _ hk => ⟨hk.2, ⟨hk.1.1, hk.1.2⟩⟩))); (case aS => exact (below_size bB)); (case aL => have := n2.out; omega); intro r4 r9 ho hb hg hat; rw [← n3.out] at ho; have n4 := Aside0.mk (ho); replace a5 := Aside0.mk (Kd.R_after (ok := (fun k_ => some k_ ≠ (.slice (some c1) a3.length b9 : Value).ownBlock ∧ some k_ ≠ (.slice (some d3) a4.length d0 : Value).ownBlock)) (by (with_reducible repeat (first | apply Kd.R_alloc | apply Kd.R_drewN | apply Kd.R_drew)); exact Kd.R_mono a5.out (fun _ hk => ⟨⟨hk.2.1, hk.2.2⟩, hk.1⟩)) hg hat); replace b4 := Aside0.mk (Kd.R_after (ok := (fun k_ => some k_ ≠ (.slice (some ⟨b1, 0, none⟩) b2.length b7 : Value).ownBlock ∧ some k_ ≠ (.slice (some d3) a4.length d0 : Value).ownBlock)) (by (with_reducible repeat (first | apply Kd.R_alloc | apply Kd.R_drewN | apply Kd.R_drew)); exact Kd.R_mono b4.out (fun _ hk => ⟨⟨hk.2, hk.1.2⟩, hk.1.1⟩)) hg hat); replace c2 := Aside0.mk (Kd.R_after (ok := (fun k_ => some k_ ≠ (.slice (some ⟨b1, 0, none⟩) b2.length b7 : Value).ownBlock ∧ some k_ ≠ (.slice (some c1) a3.length b9 : Value).ownBlock)) (by (with_reducible repeat (first | apply Kd.R_alloc | apply Kd.R_drewN | apply Kd.R_drew)); exact Kd.R_mono c2.out (fun _ hk => ⟨⟨hk.2, hk.1.2⟩, hk.1.1⟩)) hg hat); replace HB := Aside0.mk (hb); clear b8 ho hb hg hat))
 (try simp only [← b0])
 go_roundg k4
 case measure => have := HK1.out; have := HK2.out; have := HK3.out; have := HK4.out; omega
 case rel => exact ⟨(g9), (l9), (wrap64 (a2 + 1)), sR, H', ⟨by have := HK1.out; have := HK2.out; have := HK3.out; have := HK4.out; omega⟩, ⟨by (try simp only [a6]); (try simp only [a8]); (try simp only [a9]); (try simp only [b0]); (with_reducible repeat (first | apply Kd.R_alloc | apply Kd.R_drewN | apply Kd.R_drew)); exact Kd.R_mono a5.out (fun _ hk => ⟨hk.2, ⟨hk.1.1, hk.1.2⟩⟩)⟩, ⟨by (try simp only [a6]); (try simp only [a8]); (try simp only [a9]); (try simp only [b0]); (with_reducible repeat (first | apply Kd.R_alloc | apply Kd.R_drewN | apply Kd.R_drew)); exact n4.out⟩, ⟨by (try simp only [a6]); (try simp only [a8]); (try simp only [a9]); (try simp only [b0]); (with_reducible repeat (first | apply Kd.R_alloc | apply Kd.R_drewN | apply Kd.R_drew)); exact Kd.R_mono b4.out (fun _ hk => ⟨hk.1.1, ⟨hk.2, hk.1.2⟩⟩)⟩, ⟨by (try simp only [a6]); (try simp only [a8]); (try simp only [a9]); (try simp only [b0]); (with_reducible repeat (first | apply Kd.R_alloc | apply Kd.R_drewN | apply Kd.R_drew)); exact Kd.R_mono c2.out (fun _ hk => ⟨hk.1.1, ⟨hk.2, hk.1.2⟩⟩)⟩, ⟨bB⟩⟩
 )
 ·(
 rw [if_neg j9] at H
 exact absurd H (by simp)
 )
 )
 ·(
 rw [if_neg g2] at H
 have n0 : decide ((rd b2 (rd a4 a2)) < 0) = false := decide_eq_false g2
 clear g2
 have H' := Aside0.mk H
 clear H
 have d6 : 0 ≤ (a2 : Int) := of_decide_eq_true asm
 have d7 : a2 < (a4.length : Int) := of_decide_eq_true asm
 obtain ⟨d3, h7, k5⟩ := Kd.at_int (Kd.R_reads' c2.out).2.2 a2 d6 d7
 cases h7
 replace d6 := eq_true d6
 replace d7 := eq_true d7
 have d8 : 0 ≤ ((rd a4 a2) : Int) := of_decide_eq_true asm
 have d9 : (rd a4 a2) < (b2.length : Int) := of_decide_eq_true asm
 obtain ⟨h0, h8, c0⟩ := Kd.at_int (Kd.R_reads' a5.out).2.2 (rd a4 a2) d8 d9
 obtain rfl : (⟨b1, 0, none⟩ : Addr) = h0 := (by injection h8)
 (first | simp only [add_plain] at c0 | simp only [add_at] at c0 | simp only [Addr.add, Nat.zero_add] at c0 | skip)
 replace d8 := eq_true d8
 replace d9 := eq_true d9
 go_wp2
 (try simp only [← b0])
 go_roundg k4
 case measure => have := HK1.out; have := HK2.out; have := HK3.out; have := HK4.out; omega
 case rel => exact ⟨(b2), (d1), (wrap64 (a2 + 1)), sR, H', ⟨by have := HK1.out; have := HK2.out; have := HK3.out; have := HK4.out; omega⟩, ⟨by (try simp only [a6]); (try simp only [a8]); (try simp only [a9]); (try simp only [b0]); (with_reducible repeat (first | apply Kd.R_alloc | apply Kd.R_drewN | apply Kd.R_drew)); exact a5.out⟩, ⟨by (try simp only [a6]); (try simp only [a8]); (try simp only [a9]); (try simp only [b0]); (with_reducible repeat (first | apply Kd.R_alloc | apply Kd.R_drewN | apply Kd.R_drew)); exact b8.out⟩, ⟨by (try simp only [a6]); (try simp only [a8]); (try simp only [a9]); (try simp only [b0]); (with_reducible repeat (first | apply Kd.R_alloc | apply Kd.R_drewN | apply Kd.R_drew)); exact b4.out⟩, ⟨by (try simp only [a6]); (try simp only [a8]); (try simp only [a9]); (try simp only [b0]); (with_reducible repeat (first | apply Kd.R_alloc | apply Kd.R_drewN | apply Kd.R_drew)); exact c2.out⟩, ⟨bB⟩⟩
 )
 )
 ·(
 rw [if_neg j8] at H
 exact absurd H (by simp)
 )
 )
 ·(
 rw [if_neg j7] at H
 exact absurd H (by simp)
 )
 )
 ·(
 rw [if_neg j6] at H
 exact absurd H (by simp)
 )
 )
 ·(
 rw [if_neg j5] at H
 exact absurd H (by simp)
 )
 )
 ·(
 rw [if_neg g1] at H
 have c5 : decide (a2 < (a4.length : Int)) = false := decide_eq_false g1
 (try have n5 : decide (a2 < (b6.length : Int)) = false := by first | (rw [a6]; exact c5) | (rw [← a6]; exact c5))
 (try have n6 : decide (a2 < (d4.length : Int)) = false := by first | (rw [a8]; exact c5) | (rw [← a8]; exact c5))
 (try have n7 : decide (a2 < (c6.length : Int)) = false := by first | (rw [a9]; exact c5) | (rw [← a9]; exact c5))
 (try have n8 : decide (a2 < (b2.length : Int)) = false := by first | (rw [b0]; exact c5) | (rw [← b0]; exact c5))
 clear g1
 have H' := Aside0.mk H
 clear H
 go_wp2
 (try simp only [← a9, ← b0])
 go_roundg k4
 case measure => have := HK1.out; have := HK2.out; have := HK3.out; have := HK4.out; omega
 case rel => exact ⟨(b2), (d1), (wrap64 (a7 + 1)), sR, H', ⟨by have := HK1.out; have := HK2.out; have := HK3.out; have := HK4.out; omega⟩, ⟨by (try simp only [a6]); (try simp only [a8]); (try simp only [a9]); (try simp only [b0]); (with_reducible repeat (first | apply Kd.R_alloc | apply Kd.R_drewN | apply Kd.R_drew)); exact Kd.R_mono a5.out (fun _ hk => ⟨hk.1, hk.2.1⟩)⟩, ⟨by (try simp only [a6]); (try simp only [a8]); (try simp only [a9]); (try simp only [b0]); (with_reducible repeat (first | apply Kd.R_alloc | apply Kd.R_drewN | apply Kd.R_drew)); exact Kd.R_mono b8.out (fun _ hk => ⟨hk.1, hk.2.1⟩)⟩, ⟨by (try simp only [a6]); (try simp only [a8]); (try simp only [a9]); (try simp only [b0]); (with_reducible repeat (first | apply Kd.R_alloc | apply Kd.R_drewN | apply Kd.R_drew)); exact Kd.R_mono b4.out (fun _ hk => ⟨hk.1, hk.2.1⟩)⟩, ⟨bB⟩⟩
 )
 )
 )
 )
 ·(
 rw [if_neg j2] at H
 exact absurd H (by simp)
 )
 )
 ·(
 rw [if_neg j1] at H
 exact absurd H (by simp)
 )
 )
 ·(
 rw [if_neg g0] at H
 have j0 : decide (a7 < (a3.length : Int)) = false := decide_eq_false g0
 clear g0
 have H' := Aside0.mk H
 clear H
 go_wp2
 (try simp only [← a8, ← a9])
 go_roundg k3
 case measure => have := HK1.out; have := HK2.out; have := HK3.out; omega
 case rel => exact ⟨(c6), (e8), (wrap64 (c4 + 1)), sR, H', ⟨by have := HK1.out; have := HK2.out; have := HK3.out; omega⟩, ⟨by (try simp only [a6]); (try simp only [a8]); (try simp only [a9]); (with_reducible repeat (first | apply Kd.R_alloc | apply Kd.R_drewN | apply Kd.R_drew)); exact Kd.R_mono a5.out (fun _ hk => hk.1)⟩, ⟨by (try simp only [a6]); (try simp only [a8]); (try simp only [a9]); (with_reducible repeat (first | apply Kd.R_alloc | apply Kd.R_drewN | apply Kd.R_drew)); exact Kd.R_mono b8.out (fun _ hk => hk.1)⟩, ⟨bB⟩⟩
 )
 )
 )
 )
 ·(
 rw [if_neg e9] at H
 have i7 : decide (0 < (a3.length : Int)) = false := decide_eq_false e9
 have i9 : decide (0 < a3.length) = false := decide_eq_false (by omega)
 clear e9
 obtain rfl := Option.some.inj H
 obtain ⟨r5, r6, o8⟩ := Kd.R_slice g5.out
 subst o8
 go_wp2
 go_ret
 exact ⟨_, sE, by (with_reducible repeat (first | apply Kd.R_alloc | apply Kd.R_drewN | apply Kd.R_drew)); exact Kd.R_mono a5.out (fun _ hk => trivial), bI⟩
 )
 )
 )
 )
 ·(
 rw [if_neg i3] at H
 exact absurd H (by simp)
 )
 )
 ·(
 rw [if_neg i2] at H
 exact absurd H (by simp)
 )
 )
 )
 )
 )
 ·(
 rw [if_neg c3] at H
 exact absurd H (by simp)
 )

/-! ### spec_miImages: function 66 -/
def spec_miImages.l0 : Nat → List Int → List Int → Int → Int → Option (List Int)
  | 0, _, _, _, _ => none
  | k + 1, x5, x10, x11, x12 => if x12 < x11 then (if 0 ≤ x12 then (if x12 < (x10.length : Int) then (if (rd x10 x12) > 0 then (if x5.length < 17592186044416 then (spec_miImages.l0 k (x5 ++ [x12]) x10 x11 (wrap64 (x12 + 1))) else (none)) else (spec_miImages.l0 k x5 x10 x11 (wrap64 (x12 + 1)))) else (none)) else (none)) else (some x5)
def spec_miImages.f (k : Nat) (a0 : Int) (a1 : Int) : Option (List Int) := (spec_miSteps.f k a0 a1).bind fun t297 => (spec_miImages.l0 k ([] : List Int) t297 (t297.length : Int) 0)
theorem spec_miImages.mono_l : ∀ k, (∀ y0 y1 y2 y3, LeO (spec_miImages.l0 k y0 y1 y2 y3) (spec_miImages.l0 (k + 1) y0 y1 y2 y3))
  | 0 => fun _ _ _ _ r h => by simp [spec_miImages.l0] at h
  | k + 1 => by
    have ih0 := spec_miImages.mono_l k
    · intro y0 y1 y2 y3
      unfold spec_miImages.l0
      repeat' first
      | (with_reducible exact ih0 _ _ _ _)
      | (with_reducible exact spec_miSteps.mono _ _ _)
      | (with_reducible exact LeO.refl _)
      | (with_reducible exact LeO.none _)
      | (with_reducible refine LeO.ite ?_ ?_)
      | (with_reducible refine LeO.bind ?_ (fun _ => ?_))
      | exact ih0 _ _ _ _
      | exact spec_miSteps.mono _ _ _
      | exact LeO.none _
      | refine LeO.ite ?_ ?_
      | refine LeO.bind ?_ (fun _ => ?_)
theorem spec_miImages.mono : ∀ a0 a1 k, LeO (spec_miImages.f k a0 a1) (spec_miImages.f (k + 1) a0 a1) := by
  intro a0 a1 k
  have ih0 := spec_miImages.mono_l k
  unfold spec_miImages.f
  repeat' first
      | (with_reducible exact ih0 _ _ _ _)
      | (with_reducible exact spec_miSteps.mono _ _ _)
      | (with_reducible exact LeO.refl _)
      | (with_reducible exact LeO.none _)
      | (with_reducible refine LeO.ite ?_ ?_)
      | (with_reducible refine LeO.bind ?_ (fun _ => ?_))
      | exact ih0 _ _ _ _
      | exact spec_miSteps.mono _ _ _
      | exact LeO.none _
      | refine LeO.ite ?_ ?_
      | refine LeO.bind ?_ (fun _ => ?_)
set_option maxHeartbeats 8000000 in
set_option maxRecDepth 100000 in
theorem spec_miImages.calls (k : Nat) (a0 : Int) (a1 : Int) (r : List Int) (w : World) (h : spec_miImages.f k a0 a1 = some r) :
    Calls Tryz.prog 66 #[.int .i64 a0, .int .i64 a1] w fun e w' => ∃ v0_ : Value, e = .returned (v0_) ∧ Kd.R (Kd.int .i64) 3 w' w.heap.size (fun _ => True) v0_ r ∧ Below w.heap.size w w' := by
 have HB := Aside0.mk (Below.refl w.heap.size w)
 have H := h
 unfold spec_miImages.f at H
 clear h
 obtain ⟨a3, A3, H⟩ := bD H
 try dsimp only at H
 have H' := Aside0.mk H
 clear H
 go_enter Tryz.func66, Tryz.ntmps66
 go_wp2_with (first | ((with_reducible refine gate_callee (f := 67) rfl ?_); refine goesL_ (some 10) rfl rfl Tryz.func67 kr rfl #[.int .i64 a0, .int .i64 a1] rfl sM ?_; (with_reducible refine (spec_miSteps.calls k a0 a1 a3 _ A3.out).mono ?_); rintro e w4 ⟨d1, rfl, c1, hb⟩; refine ⟨_, rfl, ?_⟩; have b1 := Aside0.mk (Kd.R_lower c1 (below_size bB)); replace HB := Aside0.mk (below_step bB hb); (try clear hb); (try clear c1); obtain ⟨c2, b5, c5⟩ := Kd.R_slice b1.out; subst c5))
 go_loopg [5, 12] k (fun kq v5 d0 w' => ∃ (a5 : List Int) (a2 : Int), d0 = .int .i64 a2 ∧ Aside0 (spec_miImages.l0 kq a5 a3 (a3.length : Int) a2 = some r) ∧ Aside0 (kq ≤ k) ∧ Aside0 (Kd.R (Kd.int .i64) 3 w' w.heap.size (fun k_ => some k_ ≠ ((.slice c2 a3.length b5) : Value).ownBlock) v5 a5) ∧ Aside0 (Kd.R (Kd.int .i64) 3 w' w.heap.size (fun k_ => some k_ ≠ (v5 : Value).ownBlock) (.slice c2 a3.length b5) a3) ∧ Aside0 (Below w.heap.size w w'))
 case atStart => exact ⟨(([] : List Int)), (0), sR, H', ⟨Nat.le_refl _⟩, ⟨by first | exact Kd.R_nil _ _ _ _ _ | exact Kd.N_nil _ _ _ _ _ | exact Kd.V_nil _ _ _ _ _ | exact Kd.Q_nil _ _ _ _ _ | exact Kd.S_nil _ _ _ _ _⟩, ⟨by (with_reducible repeat (first | apply Kd.R_alloc | apply Kd.R_drewN | apply Kd.R_drew)); exact Kd.R_mono b1.out (fun _ hk => (by simp [Value.ownBlock]))⟩, ⟨bB⟩⟩
 case round => (
 clear H'
 obtain ⟨a5, a2, rfl, HA, HK1, a9, a4, HB⟩ := hrel
 cases gk with
 | zero => exact absurd HA.out (by simp [spec_miImages.l0])
 | succ k1 => (
 have H := HA.out
 clear HA
 simp only [spec_miImages.l0] at H
 by_cases c6 : a2 < (a3.length : Int)
 ·(
 rw [if_pos c6] at H
 have c3 : decide (a2 < (a3.length : Int)) = true := decide_eq_true c6
 clear c6
 by_cases c7 : 0 ≤ a2
 ·(
 rw [if_pos c7] at H
 have d2 : decide (0 ≤ a2) = true := decide_eq_true c7
 clear c7
 by_cases c8 : a2 < (a3.length : Int)
 ·(
 rw [if_pos c8] at H
 have d3 : decide (a2 < (a3.length : Int)) = true := decide_eq_true c8
 clear c8
 by_cases c9 : (rd a3 a2) > 0
 ·(
 rw [if_pos c9] at H
 have c4 : decide (0 < (rd a3 a2)) = true := decide_eq_true c9
 clear c9
 by_cases b2 : a5.length < 17592186044416
 ·(
 rw [if_pos b2] at H
 have b8 := Aside0.mk b2
 clear b2
 obtain ⟨b6, a8⟩ : ∃ y_ : List Int, y_ = (a5 ++ [a2]) := ⟨_, rfl⟩
 replace H : (spec_miImages.l0 k1 b6 a3 (a3.length : Int) (wrap64 (a2 + 1))) = some r := by first | (rw [a8]; with_reducible exact H) | (have b7 := (Option.bind_some _ _).symm.trans H; rw [a8]; with_reducible exact b7) | (have b7 := (Option.bind_some _ _).symm.trans H; with_reducible exact b7) | with_reducible exact H | (rw [a8]; exact H) | exact H
 have b9 := Aside0.mk a8
 clear a8
 have H' := Aside0.mk H
 clear H
 have a6 : 0 ≤ (a2 : Int) := of_decide_eq_true asm
 have a7 : a2 < (a3.length : Int) := of_decide_eq_true asm
 obtain ⟨b3, b0, b4⟩ := Kd.at_int (Kd.R_reads' a4.out).2.2 a2 a6 a7
 cases b0
 replace a6 := eq_true a6
 replace a7 := eq_true a7
 go_wp2_with (first | ((with_reducible refine gate_builtin (b := .append) (xs := #[.tmp 19, .tmp 21]) rfl ?_); at_builtin; refine Kd.R_append (Kd.int .i64) (w0 := w) w.heap.size rfl (.tmp 19) (.tmp 21) 26 3 (.int .i64 0) 8 rfl Tryz.underlying26 info3 rfl (by decide) (by omega) u5 a5 a2 [.int .i64 a2] (fun k_ => some k_ ≠ (.slice (some b3) a3.length b5 : Value).ownBlock) (fun _ => False) rfl rfl ?aP (fun _ hk => hk.elim) ?aF ?aO ?aB ?aS ?aL ?_; (case aP => exact rfl); (case aB => exact bB); (case aF => exact (fun k_ hk => Kd.fresh' (Kd.R_lt (oR a4)) k_ hk)); (case aO => exact (oR a9)); (case aS => exact (below_size bB)); (case aL => have := b8.out; omega); intro d4 d5 ho hb hg hat; rw [← b9.out] at ho; have c0 := Aside0.mk (ho); replace a4 := Aside0.mk (Kd.R_after (ok := (fun _ => True)) (by (with_reducible repeat (first | apply Kd.R_alloc | apply Kd.R_drewN | apply Kd.R_drew)); exact Kd.R_mono a4.out (fun _ hk => ⟨trivial, hk⟩)) hg hat); replace HB := Aside0.mk (hb); clear a9 ho hb hg hat))
 go_roundg k1
 case measure => have := HK1.out; omega
 case rel => exact ⟨(b6), (wrap64 (a2 + 1)), sR, H', ⟨by have := HK1.out; omega⟩, ⟨oR c0⟩, ⟨by (with_reducible repeat (first | apply Kd.R_alloc | apply Kd.R_drewN | apply Kd.R_drew)); exact Kd.R_mono a4.out (fun _ hk => hk.2)⟩, ⟨bB⟩⟩
 )
 ·(
 rw [if_neg b2] at H
 exact absurd H (by simp)
 )
 )
 ·(
 rw [if_neg c9] at H
 have c4 : decide (0 < (rd a3 a2)) = false := decide_eq_false c9
 clear c9
 have H' := Aside0.mk H
 clear H
 have a6 : 0 ≤ (a2 : Int) := of_decide_eq_true asm
 have a7 : a2 < (a3.length : Int) := of_decide_eq_true asm
 obtain ⟨b3, b0, b4⟩ := Kd.at_int (Kd.R_reads' a4.out).2.2 a2 a6 a7
 cases b0
 replace a6 := eq_true a6
 replace a7 := eq_true a7
 go_wp2
 go_roundg k1
 case measure => have := HK1.out; omega
 case rel => exact ⟨(a5), (wrap64 (a2 + 1)), sR, H', ⟨by have := HK1.out; omega⟩, ⟨oR a9⟩, ⟨oR a4⟩, ⟨bB⟩⟩
 )
 )
 ·(
 rw [if_neg c8] at H
 exact absurd H (by simp)
 )
 )
 ·(
 rw [if_neg c7] at H
 exact absurd H (by simp)
 )
 )
 ·(
 rw [if_neg c6] at H
 have c3 : decide (a2 < (a3.length : Int)) = false := decide_eq_false c6
 clear c6
 obtain rfl := Option.some.inj H
 go_wp2
 go_ret
 exact ⟨_, sE, by (with_reducible repeat (first | apply Kd.R_alloc | apply Kd.R_drewN | apply Kd.R_drew)); exact Kd.R_mono a9.out (fun _ hk => trivial), bI⟩
 )
 )
 )

end Go.Proofs.YtnmhefdjakjngaaGreatDoor.PFnMirrorsFace
