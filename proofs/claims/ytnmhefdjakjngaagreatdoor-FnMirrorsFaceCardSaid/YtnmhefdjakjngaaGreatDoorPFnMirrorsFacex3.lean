-- Written by xprint.py, a program of this session, for this seat; Lean checks it.
import Derived.Test.YtnmhefdjakjngaaGreatDoorVM
import Derived.Test.YtnmhefdjakjngaaGreatDoorPFnMirrorsFacex0
import Derived.Test.YtnmhefdjakjngaaGreatDoorPFnMirrorsFacex1
import Derived.Test.YtnmhefdjakjngaaGreatDoorPFnMirrorsFacex2
namespace Go.Proofs.YtnmhefdjakjngaaGreatDoor.PFnMirrorsFace
open Go.Proofs.YtnmhefdjakjngaaGreatDoorV Go.RowKit Go.Proofs.YtnmhefdjakjngaaGreatDoorW.PrintWords Go.Proofs.YtnmhefdjakjngaaGreatDoorW.PrintLast Go.Proofs.YtnmhefdjakjngaaGreatDoorW.PrintMore
attribute [local go_sem] max2_int min2_int max_two min_two max_three min_three max_four min_four   -- for this text's walks alone
set_option linter.unusedVariables false
set_option linter.unusedSimpArgs false

/-! ### impl_ImagesUpTo: function 6 -/
mutual
def impl_ImagesUpTo.j0 : Nat → Int → Int → Int → Bool → Option (List Int × Bool)
  | 0, _, _, _, _ => none
  | k + 1, x0, x1, x2, x20 => if x20 = true then (some (([] : List Int), false)) else (impl_ImagesUpTo.l0 k x0 x1 x2 (([] : List Int)) 1)
def impl_ImagesUpTo.l0 : Nat → Int → Int → Int → List Int → Int → Option (List Int × Bool)
  | 0, _, _, _, _, _ => none
  | k + 1, x0, x1, x2, x8, x9 => if x9 ≤ x2 then ((impl_wordsOf.f x9).bind fun t195 => (impl_ImagesUpTo.l1 k x0 x1 x2 x8 x9 t195 (t195.length : Int) 0)) else ((impl_increasing.f x8).bind fun t192 => (some (t192, true)))
def impl_ImagesUpTo.l1 : Nat → Int → Int → Int → List Int → Int → List ByteArray → Int → Int → Option (List Int × Bool)
  | 0, _, _, _, _, _, _, _, _ => none
  | k + 1, x0, x1, x2, x8, x9, x28, x29, x30 => if x30 < x29 then (if 0 ≤ x30 then (if x30 < (x28.length : Int) then ((impl_imageAfter.f k x0 x1 (rdOf ByteArray.empty x28 x30)).bind fun t199 => (if x8.length < 17592186044416 then (impl_ImagesUpTo.l1 k x0 x1 x2 (x8 ++ [t199]) x9 x28 x29 (wrap64 (x30 + 1))) else (none))) else (none)) else (none)) else (impl_ImagesUpTo.l0 k x0 x1 x2 x8 (wrap64 (x9 + 1)))
end
def impl_ImagesUpTo.f (k : Nat) (a0 : Int) (a1 : Int) (a2 : Int) : Option (List Int × Bool) := (impl_isCorridor.f a0 a1).bind fun t187 => (if t187 = true then ((impl_within.f a2 0 40).bind fun t188 => (impl_ImagesUpTo.j0 k a0 a1 a2 (!t188))) else (impl_ImagesUpTo.j0 k a0 a1 a2 true))
theorem impl_ImagesUpTo.mono_l : ∀ k, (∀ y0 y1 y2 y3, LeO (impl_ImagesUpTo.j0 k y0 y1 y2 y3) (impl_ImagesUpTo.j0 (k + 1) y0 y1 y2 y3)) ∧ (∀ y0 y1 y2 y3 y4, LeO (impl_ImagesUpTo.l0 k y0 y1 y2 y3 y4) (impl_ImagesUpTo.l0 (k + 1) y0 y1 y2 y3 y4)) ∧ (∀ y0 y1 y2 y3 y4 y5 y6 y7, LeO (impl_ImagesUpTo.l1 k y0 y1 y2 y3 y4 y5 y6 y7) (impl_ImagesUpTo.l1 (k + 1) y0 y1 y2 y3 y4 y5 y6 y7))
  | 0 => ⟨fun _ _ _ _ r h => by simp [impl_ImagesUpTo.j0] at h, fun _ _ _ _ _ r h => by simp [impl_ImagesUpTo.l0] at h, fun _ _ _ _ _ _ _ _ r h => by simp [impl_ImagesUpTo.l1] at h⟩
  | k + 1 => by
    obtain ⟨ih0, ih1, ih2⟩ := impl_ImagesUpTo.mono_l k
    refine ⟨?_, ?_, ?_⟩
    · intro y0 y1 y2 y3
      unfold impl_ImagesUpTo.j0
      repeat' first
      | (with_reducible exact ih0 _ _ _ _)
      | (with_reducible exact ih1 _ _ _ _ _)
      | (with_reducible exact ih2 _ _ _ _ _ _ _ _)
      | (with_reducible exact impl_imageAfter.mono _ _ _ _)
      | (with_reducible exact LeO.refl _)
      | (with_reducible exact LeO.none _)
      | (with_reducible refine LeO.ite ?_ ?_)
      | (with_reducible refine LeO.bind ?_ (fun _ => ?_))
      | exact ih0 _ _ _ _
      | exact ih1 _ _ _ _ _
      | exact ih2 _ _ _ _ _ _ _ _
      | exact impl_imageAfter.mono _ _ _ _
      | exact LeO.none _
      | refine LeO.ite ?_ ?_
      | refine LeO.bind ?_ (fun _ => ?_)
    · intro y0 y1 y2 y3 y4
      unfold impl_ImagesUpTo.l0
      repeat' first
      | (with_reducible exact ih0 _ _ _ _)
      | (with_reducible exact ih1 _ _ _ _ _)
      | (with_reducible exact ih2 _ _ _ _ _ _ _ _)
      | (with_reducible exact impl_imageAfter.mono _ _ _ _)
      | (with_reducible exact LeO.refl _)
      | (with_reducible exact LeO.none _)
      | (with_reducible refine LeO.ite ?_ ?_)
      | (with_reducible refine LeO.bind ?_ (fun _ => ?_))
      | exact ih0 _ _ _ _
      | exact ih1 _ _ _ _ _
      | exact ih2 _ _ _ _ _ _ _ _
      | exact impl_imageAfter.mono _ _ _ _
      | exact LeO.none _
      | refine LeO.ite ?_ ?_
      | refine LeO.bind ?_ (fun _ => ?_)
    · intro y0 y1 y2 y3 y4 y5 y6 y7
      unfold impl_ImagesUpTo.l1
      repeat' first
      | (with_reducible exact ih0 _ _ _ _)
      | (with_reducible exact ih1 _ _ _ _ _)
      | (with_reducible exact ih2 _ _ _ _ _ _ _ _)
      | (with_reducible exact impl_imageAfter.mono _ _ _ _)
      | (with_reducible exact LeO.refl _)
      | (with_reducible exact LeO.none _)
      | (with_reducible refine LeO.ite ?_ ?_)
      | (with_reducible refine LeO.bind ?_ (fun _ => ?_))
      | exact ih0 _ _ _ _
      | exact ih1 _ _ _ _ _
      | exact ih2 _ _ _ _ _ _ _ _
      | exact impl_imageAfter.mono _ _ _ _
      | exact LeO.none _
      | refine LeO.ite ?_ ?_
      | refine LeO.bind ?_ (fun _ => ?_)
theorem impl_ImagesUpTo.mono : ∀ a0 a1 a2 k, LeO (impl_ImagesUpTo.f k a0 a1 a2) (impl_ImagesUpTo.f (k + 1) a0 a1 a2) := by
  intro a0 a1 a2 k
  obtain ⟨ih0, ih1, ih2⟩ := impl_ImagesUpTo.mono_l k
  unfold impl_ImagesUpTo.f
  repeat' first
      | (with_reducible exact ih0 _ _ _ _)
      | (with_reducible exact ih1 _ _ _ _ _)
      | (with_reducible exact ih2 _ _ _ _ _ _ _ _)
      | (with_reducible exact impl_imageAfter.mono _ _ _ _)
      | (with_reducible exact LeO.refl _)
      | (with_reducible exact LeO.none _)
      | (with_reducible refine LeO.ite ?_ ?_)
      | (with_reducible refine LeO.bind ?_ (fun _ => ?_))
      | exact ih0 _ _ _ _
      | exact ih1 _ _ _ _ _
      | exact ih2 _ _ _ _ _ _ _ _
      | exact impl_imageAfter.mono _ _ _ _
      | exact LeO.none _
      | refine LeO.ite ?_ ?_
      | refine LeO.bind ?_ (fun _ => ?_)
set_option maxHeartbeats 8000000 in
set_option maxRecDepth 100000 in
theorem impl_ImagesUpTo.calls (k : Nat) (a0 : Int) (a1 : Int) (a2 : Int) (r1 : List Int) (r2 : Bool) (w : World) (h : impl_ImagesUpTo.f k a0 a1 a2 = some (r1, r2)) :
    Calls Tryz.prog 6 #[.int .i64 a0, .int .i64 a1, .int .i64 a2] w fun e w' => ∃ v0_ : Value, e = .returned (.tuple #[v0_, .bool r2]) ∧ Kd.R (Kd.int .i64) 3 w' w.heap.size (fun _ => True) v0_ r1 ∧ Below w.heap.size w w' := by
 have HB := Aside0.mk (Below.refl w.heap.size w)
 have H := h
 unfold impl_ImagesUpTo.f at H
 clear h
 have d1 := Aside0.mk H
 clear H
 go_enter Tryz.func6, Tryz.ntmps6
 go_upto_region 1 with (fail)
 go_cut [20] (fun g0 wc => ∃ (kq : Nat) (b1 : Bool), g0 = .bool b1 ∧ Aside0 (impl_ImagesUpTo.j0 kq a0 a1 a2 b1 = some (r1, r2)) ∧ Aside0 (kq ≤ k) ∧ Aside0 (Below w.heap.size w wc))
 case first => (
 have H := d1.out
 clear d1
 obtain ⟨e2, A5, H⟩ := bD H
 try dsimp only at H
 by_cases c6 : e2 = true
 ·(
 subst c6
 rw [if_pos rfl] at H
 obtain ⟨d2, A7, H⟩ := bD H
 try dsimp only at H
 have H' := Aside0.mk H
 clear H
 go_wp2_with (first | ((with_reducible refine gate_callee (f := 38) rfl ?_); refine goesL_ (some 14) rfl rfl Tryz.func38 kr rfl #[.int .i64 a0, .int .i64 a1] rfl sM ?_; (with_reducible refine (impl_isCorridor.calls a0 a1 true _ A5.out).mono ?_); rintro e w' ⟨rfl, ⟨nd, rfl⟩⟩; refine ⟨_, rfl, ?_⟩) | (go_at_call 39; (with_reducible refine (impl_within.calls a2 0 40 d2 _ A7.out).mono ?_); rintro e w' ⟨rfl, ⟨nd, rfl⟩⟩))
 go_meet
 case rel => exact ⟨_, (!d2), sR, H', ⟨by first | omega | exact Nat.le_refl _⟩, ⟨bB⟩⟩
 )
 ·(
 replace c6 := Bool.eq_false_iff.mpr c6
 subst c6
 rw [if_neg nft] at H
 have H' := Aside0.mk H
 clear H
 go_wp2_with (first | ((with_reducible refine gate_callee (f := 38) rfl ?_); refine goesL_ (some 14) rfl rfl Tryz.func38 kr rfl #[.int .i64 a0, .int .i64 a1] rfl sM ?_; (with_reducible refine (impl_isCorridor.calls a0 a1 false _ A5.out).mono ?_); rintro e w' ⟨rfl, ⟨nd, rfl⟩⟩; refine ⟨_, rfl, ?_⟩))
 go_meet
 case rel => exact ⟨_, (true), sR, H', ⟨by first | omega | exact Nat.le_refl _⟩, ⟨bB⟩⟩
 )
 )
 case rest => (
 clear d1
 obtain ⟨kq, b1, rfl, HA, HJ3, HB⟩ := hcut
 cases kq with
 | zero => exact absurd HA.out (by simp [impl_ImagesUpTo.j0])
 | succ d3 => (
 have H := HA.out
 clear HA
 simp only [impl_ImagesUpTo.j0] at H
 by_cases c8 : b1 = true
 ·(
 subst c8
 rw [if_pos rfl] at H
 simp only [Option.some.injEq, Prod.mk.injEq] at H
 obtain ⟨rfl, rfl⟩ := H
 go_wp2
 go_ret2
 exact ⟨_, sE, by first | exact Kd.R_nil _ _ _ _ _ | exact Kd.N_nil _ _ _ _ _ | exact Kd.V_nil _ _ _ _ _ | exact Kd.Q_nil _ _ _ _ _ | exact Kd.S_nil _ _ _ _ _, bI⟩
 )
 ·(
 replace c8 := Bool.eq_false_iff.mpr c8
 subst c8
 rw [if_neg nft] at H
 obtain ⟨d4, a9⟩ : ∃ y_ : List Int, y_ = (([] : List Int)) := ⟨_, rfl⟩
 replace H : (impl_ImagesUpTo.l0 d3 a0 a1 a2 d4 1) = some (r1, r2) := by first | (rw [a9]; with_reducible exact H) | (have b3 := (Option.bind_some _ _).symm.trans H; rw [a9]; with_reducible exact b3) | (have b3 := (Option.bind_some _ _).symm.trans H; with_reducible exact b3) | with_reducible exact H | (rw [a9]; exact H) | exact H
 have c3 := Aside0.mk a9
 clear a9
 have H' := Aside0.mk H
 clear H
 go_wp2_with (first | ((with_reducible refine gate_dst (N := 21) rfl ?_); refine Kd.R_lit (Kd.int .i64) _ 3 ?hg (N := 21) ?hd (xs := ([] : List Int)) (inner := []) (ok := fun _ => True) (okp := fun _ => True) ?hr ?hp (fun _ hk => hk) trivial (Below.refl _ _) (Nat.le_refl _) (by simp) ?_; (case hd => rfl); (case hg => rfl); (case hr => first | (go_simp; done) | (go_simp; rfl)); (case hp => exact (Reps.none _ _)); intro g8 w9 b4 hb hg_ hnew_; clear hg_ hnew_; (first | rw [← c3.out] at b4 | (simp only [Int.reduceToNat] at b4; rw [← c3.out] at b4)); have d6 := Aside0.mk (Kd.R_lower b4 (below_size bB)); replace HB := Aside0.mk (below_step bB hb); clear hb b4))
 go_loopg [8, 9] d3 (fun kq v8 v9 w' => ∃ (a7 : List Int) (a5 : Int), v9 = .int .i64 a5 ∧ Aside0 (impl_ImagesUpTo.l0 kq a0 a1 a2 a7 a5 = some (r1, r2)) ∧ Aside0 (kq ≤ d3) ∧ Aside0 (Kd.R (Kd.int .i64) 3 w' w.heap.size (fun _ => True) v8 a7) ∧ Aside0 (Below w.heap.size w w'))
 case atStart => exact ⟨(d4), (1), sR, H', ⟨Nat.le_refl _⟩, ⟨oR d6⟩, ⟨bB⟩⟩
 case round => (
 clear H'
 obtain ⟨a7, a5, rfl, HA, HK2, a6, HB⟩ := hrel
 cases gk with
 | zero => exact absurd HA.out (by simp [impl_ImagesUpTo.l0])
 | succ k2 => (
 have H := HA.out
 clear HA
 simp only [impl_ImagesUpTo.l0] at H
 by_cases b5 : a5 ≤ a2
 ·(
 rw [if_pos b5] at H
 have c4 : decide (a5 ≤ a2) = true := decide_eq_true b5
 clear b5
 obtain ⟨a4, g1, H⟩ := bD H
 try dsimp only at H
 have H' := Aside0.mk H
 clear H
 go_wp2_with (first | ((with_reducible refine gate_callee (f := 40) rfl ?_); refine goesL_ (some 28) rfl rfl Tryz.func40 kr rfl #[.int .i64 a5] rfl sM ?_; (with_reducible refine (impl_wordsOf.calls a5 a4 _ g1.out).mono ?_); rintro e h2 ⟨g9, rfl, b8, hb⟩; refine ⟨_, rfl, ?_⟩; have c5 := Aside0.mk (Kd.R_lower b8 (below_size bB)); replace a6 := Aside0.mk (Kd.R_below (oR a6) hb); replace HB := Aside0.mk (below_step bB hb); (try clear hb); (try clear b8); obtain ⟨e3, e4, e5⟩ := Kd.R_slice c5.out; subst e5))
 go_loopg [8, 30] k2 (fun kq v8 g2 w' => ∃ (a8 : List Int) (a3 : Int), g2 = .int .i64 a3 ∧ Aside0 (impl_ImagesUpTo.l1 kq a0 a1 a2 a8 a5 a4 (a4.length : Int) a3 = some (r1, r2)) ∧ Aside0 (kq ≤ k2) ∧ Aside0 (Kd.R (Kd.int .i64) 3 w' w.heap.size (fun _ => True) v8 a8) ∧ Aside0 (Kd.R Kd.string 9 w' w.heap.size (fun _ => True) (.slice e3 a4.length e4) a4) ∧ Aside0 (Below w.heap.size w w'))
 case atStart => exact ⟨(a7), (0), sR, H', ⟨Nat.le_refl _⟩, ⟨oR a6⟩, ⟨oR c5⟩, ⟨bB⟩⟩
 case round => (
 clear H'
 try clear c4
 obtain ⟨a8, a3, rfl, HA, HK3, a6, b2, HB⟩ := hrel
 cases gk with
 | zero => exact absurd HA.out (by simp [impl_ImagesUpTo.l1])
 | succ k3 => (
 have H := HA.out
 clear HA
 simp only [impl_ImagesUpTo.l1] at H
 by_cases b6 : a3 < (a4.length : Int)
 ·(
 rw [if_pos b6] at H
 have d7 : decide (a3 < (a4.length : Int)) = true := decide_eq_true b6
 clear b6
 by_cases c7 : 0 ≤ a3
 ·(
 rw [if_pos c7] at H
 have g5 : decide (0 ≤ a3) = true := decide_eq_true c7
 clear c7
 by_cases c9 : a3 < (a4.length : Int)
 ·(
 rw [if_pos c9] at H
 have g6 : decide (a3 < (a4.length : Int)) = true := decide_eq_true c9
 clear c9
 obtain ⟨b7, g3, H⟩ := bD H
 try dsimp only at H
 by_cases d0 : a8.length < 17592186044416
 ·(
 rw [if_pos d0] at H
 have d8 := Aside0.mk d0
 clear d0
 obtain ⟨d5, b0⟩ : ∃ y_ : List Int, y_ = (a8 ++ [b7]) := ⟨_, rfl⟩
 replace H : (impl_ImagesUpTo.l1 k3 a0 a1 a2 d5 a5 a4 (a4.length : Int) (wrap64 (a3 + 1))) = some (r1, r2) := by first | (rw [b0]; with_reducible exact H) | (have b3 := (Option.bind_some _ _).symm.trans H; rw [b0]; with_reducible exact b3) | (have b3 := (Option.bind_some _ _).symm.trans H; with_reducible exact b3) | with_reducible exact H | (rw [b0]; exact H) | exact H
 have d9 := Aside0.mk b0
 clear b0
 have H' := Aside0.mk H
 clear H
 have b9 : 0 ≤ (a3 : Int) := of_decide_eq_true asm
 have c0 : a3 < (a4.length : Int) := of_decide_eq_true asm
 obtain ⟨g7, e6, e9⟩ := Kd.at_string (Kd.R_reads' b2.out).2.2 a3 b9 c0
 cases e6
 replace b9 := eq_true b9
 replace c0 := eq_true c0
 go_wp2_with (first | ((with_reducible refine gate_callee (f := 41) rfl ?_); refine goesL_ (some 38) rfl rfl Tryz.func41 kr rfl #[.int .i64 a0, .int .i64 a1, .string (rdOf ByteArray.empty a4 a3)] rfl sM ?_; (with_reducible refine (impl_imageAfter.calls k3 a0 a1 (rdOf ByteArray.empty a4 a3) b7 _ g3.out).mono ?_); rintro e w' ⟨rfl, ⟨nd, rfl⟩⟩; refine ⟨_, rfl, ?_⟩) | ((with_reducible refine gate_builtin (b := .append) (xs := #[.tmp 34, .tmp 39]) rfl ?_); at_builtin; refine Kd.R_append (Kd.int .i64) (w0 := w) w.heap.size rfl (.tmp 34) (.tmp 39) 26 3 (.int .i64 0) 8 rfl Tryz.underlying26 info3 rfl (by decide) (by omega) u8 a8 b7 [.int .i64 b7] (fun _ => True) (fun _ => False) rfl rfl ?aP (fun _ hk => hk.elim) ?aF ?aO ?aB ?aS ?aL ?_; (case aP => exact rfl); (case aB => exact bB); (case aF => exact (fun _ _ => trivial)); (case aO => exact (oR a6)); (case aS => exact (below_size bB)); (case aL => have := d8.out; omega); intro h0 h3 ho hb hg hat; rw [← d9.out] at ho; have e0 := Aside0.mk (ho); replace b2 := Aside0.mk (Kd.R_over' (oR b2) (Kd.R_typed (oR a6)) (by decide) hg); replace HB := Aside0.mk (hb); clear a6 ho hb hg hat))
 go_roundg k3
 case measure => have := HJ3.out; have := HK2.out; have := HK3.out; omega
 case rel => exact ⟨(d5), (wrap64 (a3 + 1)), sR, H', ⟨by have := HJ3.out; have := HK2.out; have := HK3.out; omega⟩, ⟨oR e0⟩, ⟨oR b2⟩, ⟨bB⟩⟩
 )
 ·(
 rw [if_neg d0] at H
 exact absurd H (by simp)
 )
 )
 ·(
 rw [if_neg c9] at H
 exact absurd H (by simp)
 )
 )
 ·(
 rw [if_neg c7] at H
 exact absurd H (by simp)
 )
 )
 ·(
 rw [if_neg b6] at H
 have d7 : decide (a3 < (a4.length : Int)) = false := decide_eq_false b6
 clear b6
 have H' := Aside0.mk H
 clear H
 go_wp2
 go_roundg k3
 case measure => have := HJ3.out; have := HK2.out; have := HK3.out; omega
 case rel => exact ⟨(a8), (wrap64 (a5 + 1)), sR, H', ⟨by have := HJ3.out; have := HK2.out; have := HK3.out; omega⟩, ⟨oR a6⟩, ⟨bB⟩⟩
 )
 )
 )
 )
 ·(
 rw [if_neg b5] at H
 have c4 : decide (a5 ≤ a2) = false := decide_eq_false b5
 clear b5
 obtain ⟨e7, g4, H⟩ := bD H
 try dsimp only at H
 simp only [Option.some.injEq, Prod.mk.injEq] at H
 obtain ⟨rfl, rfl⟩ := H
 obtain ⟨c1, c2, e8⟩ := Kd.R_slice a6.out
 subst e8
 go_wp2_with (first | ((with_reducible refine gate_callee (f := 42) rfl ?_); refine goesL_ (some 43) rfl rfl Tryz.func42 kr rfl #[.slice c1 a7.length c2] rfl sM ?_; (with_reducible refine (impl_increasing.calls (fun k_ => some k_ = (.slice c1 a7.length c2 : Value).ownBlock) (.slice c1 a7.length c2) a7 e7 w _ ?side1 ?side2 g4.out).mono ?_); (case side1 => exact bI); (case side2 => exact Kd.R_tight rfl a6.out); rintro e h4 ⟨h1, rfl, b8, hb, hkp⟩; refine ⟨_, rfl, ?_⟩; have e1 := Aside0.mk (Kd.R_mono (ok' := fun k_ => True) b8 (fun k_ hk_ => trivial)); replace HB := Aside0.mk (hb); clear a6; (try clear hb); (try clear hkp); (try clear b8)))
 go_ret2
 exact ⟨_, sE, by (with_reducible repeat (first | apply Kd.R_alloc | apply Kd.R_drewN | apply Kd.R_drew)); exact e1.out, bI⟩
 )
 )
 )
 )
 )
 )

/-! ### spec_l1In: function 44 -/
def spec_l1In.f (a0 : Int) (a1 : Int) (a2 : Int) : Option (Bool) := if a0 ≥ a1 then (some (decide (a0 ≤ a2))) else (some false)
set_option maxHeartbeats 8000000 in
set_option maxRecDepth 100000 in
theorem spec_l1In.calls (a0 : Int) (a1 : Int) (a2 : Int) (r : Bool) (w : World) (h : spec_l1In.f a0 a1 a2 = some r) :
    Calls Tryz.prog 44 #[.int .i64 a0, .int .i64 a1, .int .i64 a2] w fun e w' => e = .returned (.bool r) ∧ Drawn0 w w' := by
 have H := h
 unfold spec_l1In.f at H
 clear h
 by_cases c4 : a0 ≥ a1
 rw [if_pos c4] at H
 have a3 : decide (a1 ≤ a0) = true := decide_eq_true c4
 clear c4
 obtain rfl := Option.some.inj H
 rotate_left
 rw [if_neg c4] at H
 have a3 : decide (a1 ≤ a0) = false := decide_eq_false c4
 clear c4
 obtain rfl := Option.some.inj H
 rotate_left
 all_goals (go_enter Tryz.func44, Tryz.ntmps44)
 all_goals go_wp2
 all_goals go_ret
 all_goals (exact ⟨by first | rfl | (simp; done) | (simp [*]; done), by repeat (first | exact Drawn0.refl _ | apply Drawn0.step)⟩)

/-! ### spec_miGood: function 43 -/
def spec_miGood.f (a0 : Int) (a1 : Int) : Option (Bool) := (spec_l1In.f a0 1 500).bind fun t203 => (if t203 = true then ((spec_l1In.f a1 0 a0).bind fun t204 => (some t204)) else (some false))
set_option maxHeartbeats 8000000 in
set_option maxRecDepth 100000 in
theorem spec_miGood.calls (a0 : Int) (a1 : Int) (r : Bool) (w : World) (h : spec_miGood.f a0 a1 = some r) :
    Calls Tryz.prog 43 #[.int .i64 a0, .int .i64 a1] w fun e w' => e = .returned (.bool r) ∧ Drawn0 w w' := by
 have H := h
 unfold spec_miGood.f at H
 clear h
 obtain ⟨a3, A3, H⟩ := bD H
 try dsimp only at H
 by_cases c4 : a3 = true
 ·(
 subst c4
 rw [if_pos rfl] at H
 obtain ⟨a4, A5, H⟩ := bD H
 try dsimp only at H
 obtain rfl := Option.some.inj H
 go_enter Tryz.func43, Tryz.ntmps43
 go_wp2_with (first | ((with_reducible refine gate_callee (f := 44) rfl ?_); refine goesL_ (some 6) rfl rfl Tryz.func44 kr rfl #[.int .i64 a0, .int .i64 1, .int .i64 500] rfl sM ?_; (with_reducible refine (spec_l1In.calls a0 1 500 true _ A3.out).mono ?_); rintro e w' ⟨rfl, ⟨nd, rfl⟩⟩; refine ⟨_, rfl, ?_⟩) | (go_at_call 44; (with_reducible refine (spec_l1In.calls a1 0 a0 a4 _ A5.out).mono ?_); rintro e w' ⟨rfl, ⟨nd, rfl⟩⟩))
 go_ret
 exact ⟨by first | rfl | (simp; done) | (simp [*]; done), by repeat (first | exact Drawn0.refl _ | apply Drawn0.step)⟩
 )
 ·(
 replace c4 := Bool.eq_false_iff.mpr c4
 subst c4
 rw [if_neg nft] at H
 obtain rfl := Option.some.inj H
 go_enter Tryz.func43, Tryz.ntmps43
 go_wp2_with (first | ((with_reducible refine gate_callee (f := 44) rfl ?_); refine goesL_ (some 6) rfl rfl Tryz.func44 kr rfl #[.int .i64 a0, .int .i64 1, .int .i64 500] rfl sM ?_; (with_reducible refine (spec_l1In.calls a0 1 500 false _ A3.out).mono ?_); rintro e w' ⟨rfl, ⟨nd, rfl⟩⟩; refine ⟨_, rfl, ?_⟩))
 go_ret
 exact ⟨by first | rfl | (simp; done) | (simp [*]; done), by repeat (first | exact Drawn0.refl _ | apply Drawn0.step)⟩
 )

/-! ### spec_miAfter: function 49 -/
def spec_miAfter.l0 : Nat → Int → Int → ByteArray → Int → Option (Int)
  | 0, _, _, _, _ => none
  | k + 1, x0, x1, x2, x7 => if x7 < (x2.size : Int) then (if 0 ≤ x7 then (if (bt x2 x7) = 108 then (spec_miAfter.l0 k x0 (wrap64 (-x1)) x2 (wrap64 (x7 + 1))) else (spec_miAfter.l0 k x0 (wrap64 ((wrap64 (2 * x0)) - x1)) x2 (wrap64 (x7 + 1)))) else (none)) else (some x1)
def spec_miAfter.f (k : Nat) (a0 : Int) (a1 : Int) (a2 : ByteArray) : Option (Int) := spec_miAfter.l0 k a0 a1 a2 0
theorem spec_miAfter.mono_l : ∀ k, (∀ y0 y1 y2 y3, LeO (spec_miAfter.l0 k y0 y1 y2 y3) (spec_miAfter.l0 (k + 1) y0 y1 y2 y3))
  | 0 => fun _ _ _ _ r h => by simp [spec_miAfter.l0] at h
  | k + 1 => by
    have ih0 := spec_miAfter.mono_l k
    · intro y0 y1 y2 y3
      unfold spec_miAfter.l0
      repeat' first
      | (with_reducible exact ih0 _ _ _ _)
      | (with_reducible exact LeO.refl _)
      | (with_reducible exact LeO.none _)
      | (with_reducible refine LeO.ite ?_ ?_)
      | (with_reducible refine LeO.bind ?_ (fun _ => ?_))
      | exact ih0 _ _ _ _
      | exact LeO.none _
      | refine LeO.ite ?_ ?_
      | refine LeO.bind ?_ (fun _ => ?_)
theorem spec_miAfter.mono : ∀ a0 a1 a2 k, LeO (spec_miAfter.f k a0 a1 a2) (spec_miAfter.f (k + 1) a0 a1 a2) := by
  intro a0 a1 a2 k
  have ih0 := spec_miAfter.mono_l k
  unfold spec_miAfter.f
  repeat' first
      | (with_reducible exact ih0 _ _ _ _)
      | (with_reducible exact LeO.refl _)
      | (with_reducible exact LeO.none _)
      | (with_reducible refine LeO.ite ?_ ?_)
      | (with_reducible refine LeO.bind ?_ (fun _ => ?_))
      | exact ih0 _ _ _ _
      | exact LeO.none _
      | refine LeO.ite ?_ ?_
      | refine LeO.bind ?_ (fun _ => ?_)
set_option maxHeartbeats 8000000 in
set_option maxRecDepth 100000 in
theorem spec_miAfter.calls (k : Nat) (a0 : Int) (a1 : Int) (a2 : ByteArray) (r : Int) (w : World) (h : spec_miAfter.f k a0 a1 a2 = some r) :
    Calls Tryz.prog 49 #[.int .i64 a0, .int .i64 a1, .string a2] w fun e w' => e = .returned (.int .i64 r) ∧ Drawn0 w w' := by
 have H := h
 unfold spec_miAfter.f at H
 clear h
 have H' := Aside0.mk H
 clear H
 go_enter Tryz.func49, Tryz.ntmps49
 go_wp2
 go_loopg [1, 7] k (fun kq v1 v7 w' => ∃ (a4 : Int) (a3 : Int), v1 = .int .i64 a4 ∧ v7 = .int .i64 a3 ∧ Aside0 (spec_miAfter.l0 kq a0 a4 a2 a3 = some r) ∧ Aside0 (kq ≤ k) ∧ Drawn0 w w')
 case atStart => exact ⟨(a1), (0), sR, sR, H', ⟨Nat.le_refl _⟩, by repeat (first | exact Drawn0.refl _ | apply Drawn0.step)⟩
 case round => (
 clear H'
 obtain ⟨a4, a3, rfl, rfl, HA, HK1, ⟨m1, rfl⟩⟩ := hrel
 cases gk with
 | zero => exact absurd HA.out (by simp [spec_miAfter.l0])
 | succ k1 => (
 have H := HA.out
 clear HA
 simp only [spec_miAfter.l0] at H
 by_cases c4 : a3 < (a2.size : Int)
 ·(
 rw [if_pos c4] at H
 have a5 : decide (a3 < (a2.size : Int)) = true := decide_eq_true c4
 clear c4
 by_cases c5 : 0 ≤ a3
 ·(
 rw [if_pos c5] at H
 have a9 : decide (0 ≤ a3) = true := decide_eq_true c5
 clear c5
 by_cases c7 : (bt a2 a3) = 108
 ·(
 rw [if_pos c7] at H
 obtain ⟨a6, a7⟩ := yE c7
 clear c7
 have H' := Aside0.mk H
 clear H
 have p6 : 0 ≤ (a3 : Int) := of_decide_eq_true asm
 have q6 : a3 < (a2.size : Int) := of_decide_eq_true asm
 have a8 := bt_at a2 a3
 replace p6 := eq_true p6
 replace q6 := eq_true q6
 go_wp2
 go_roundg k1
 case measure => have := HK1.out; omega
 case rel => exact ⟨(wrap64 (-a4)), (wrap64 (a3 + 1)), sR, sR, H', ⟨by have := HK1.out; omega⟩, by repeat (first | exact Drawn0.refl _ | apply Drawn0.step)⟩
 )
 ·(
 rw [if_neg c7] at H
 obtain ⟨a6, a7⟩ := nE c7
 have H' := Aside0.mk H
 clear H
 have p6 : 0 ≤ (a3 : Int) := of_decide_eq_true asm
 have q6 : a3 < (a2.size : Int) := of_decide_eq_true asm
 have a8 := bt_at a2 a3
 replace p6 := eq_true p6
 replace q6 := eq_true q6
 go_wp2
 go_roundg k1
 case measure => have := HK1.out; omega
 case rel => exact ⟨(wrap64 ((wrap64 (2 * a0)) - a4)), (wrap64 (a3 + 1)), sR, sR, H', ⟨by have := HK1.out; omega⟩, by repeat (first | exact Drawn0.refl _ | apply Drawn0.step)⟩
 )
 )
 ·(
 rw [if_neg c5] at H
 exact absurd H (by simp)
 )
 )
 ·(
 rw [if_neg c4] at H
 have a5 : decide (a3 < (a2.size : Int)) = false := decide_eq_false c4
 clear c4
 obtain rfl := Option.some.inj H
 go_wp2
 go_ret
 exact ⟨by first | rfl | (simp; done) | (simp [*]; done), by repeat (first | exact Drawn0.refl _ | apply Drawn0.step)⟩
 )
 )
 )

/-! ### spec_l1Put: function 71 -/
def spec_l1Put.l0 : Nat → List Int → Int → Int → Option (List Int)
  | 0, _, _, _ => none
  | k + 1, x0, x1, x5 => if x5 < (x0.length : Int) then (if 0 ≤ x5 then (if (rd x0 x5) < x1 then (spec_l1Put.l0 k x0 x1 (wrap64 (x5 + 1))) else (if (rd x0 x5) = x1 then (some x0) else ((some (([] : List Int) : List Int)).bind fun y207 => (if x5 ≤ (x0.length : Int) then ((some (x0.take (x5 : Int).toNat : List Int)).bind fun y210 => (if y207.length + y210.length < 17592186044416 then ((some (y207 ++ y210 : List Int)).bind fun y214 => (if y214.length < 17592186044416 then ((some (y214 ++ [x1] : List Int)).bind fun y217 => ((some (x0.drop (x5 : Int).toNat : List Int)).bind fun y220 => (if y217.length + y220.length < 17592186044416 then (some (y217 ++ y220)) else (none)))) else (none))) else (none))) else (none))))) else (none)) else ((some (([] : List Int) : List Int)).bind fun y227 => (if 0 ≤ x5 then (if x5 ≤ (x0.length : Int) then ((some (x0.take (x5 : Int).toNat : List Int)).bind fun y230 => (if y227.length + y230.length < 17592186044416 then ((some (y227 ++ y230 : List Int)).bind fun y234 => (if y234.length < 17592186044416 then ((some (y234 ++ [x1] : List Int)).bind fun y237 => ((some (x0.drop (x5 : Int).toNat : List Int)).bind fun y240 => (if y237.length + y240.length < 17592186044416 then (some (y237 ++ y240)) else (none)))) else (none))) else (none))) else (none)) else (none)))
def spec_l1Put.f (k : Nat) (l0 : List Int) (a1 : Int) : Option (List Int) := spec_l1Put.l0 k l0 a1 0
theorem spec_l1Put.mono_l : ∀ k, (∀ y0 y1 y2, LeO (spec_l1Put.l0 k y0 y1 y2) (spec_l1Put.l0 (k + 1) y0 y1 y2))
  | 0 => fun _ _ _ r h => by simp [spec_l1Put.l0] at h
  | k + 1 => by
    have ih0 := spec_l1Put.mono_l k
    · intro y0 y1 y2
      unfold spec_l1Put.l0
      repeat' first
      | (with_reducible exact ih0 _ _ _)
      | (with_reducible exact LeO.refl _)
      | (with_reducible exact LeO.none _)
      | (with_reducible refine LeO.ite ?_ ?_)
      | (with_reducible refine LeO.bind ?_ (fun _ => ?_))
      | exact ih0 _ _ _
      | exact LeO.none _
      | refine LeO.ite ?_ ?_
      | refine LeO.bind ?_ (fun _ => ?_)
theorem spec_l1Put.mono : ∀ a0 a1 k, LeO (spec_l1Put.f k a0 a1) (spec_l1Put.f (k + 1) a0 a1) := by
  intro a0 a1 k
  have ih0 := spec_l1Put.mono_l k
  unfold spec_l1Put.f
  repeat' first
      | (with_reducible exact ih0 _ _ _)
      | (with_reducible exact LeO.refl _)
      | (with_reducible exact LeO.none _)
      | (with_reducible refine LeO.ite ?_ ?_)
      | (with_reducible refine LeO.bind ?_ (fun _ => ?_))
      | exact ih0 _ _ _
      | exact LeO.none _
      | refine LeO.ite ?_ ?_
      | refine LeO.bind ?_ (fun _ => ?_)
set_option maxHeartbeats 8000000 in
set_option maxRecDepth 100000 in
theorem spec_l1Put.calls (k : Nat) (P0_ : Nat → Prop) (u9000_ : Value) (l0 : List Int) (a1 : Int) (r : List Int) (w0 w : World) (hB : Below w0.heap.size w0 w) (ho0 : Kd.R (Kd.int .i64) 3 w w0.heap.size P0_ u9000_ l0) (h : spec_l1Put.f k l0 a1 = some r) :
    Calls Tryz.prog 71 #[u9000_, .int .i64 a1] w fun e w' => ∃ v0_ : Value, e = .returned (v0_) ∧ Kd.R (Kd.int .i64) 3 w' w0.heap.size (fun k_ => (P0_ k_ ∨ w.heap.size ≤ k_)) v0_ r ∧ Below w0.heap.size w0 w' ∧ Kept w w' (fun k_ => P0_ k_) := by
 have q2 := Aside0.mk (show Kd.R (Kd.int .i64) 3 w w0.heap.size (fun k_ => (P0_ k_ ∨ w.heap.size ≤ k_)) u9000_ l0 from Kd.R_mono ho0 (fun k_ hk => (.inl hk)))
 have HK := Aside0.mk (Kept.refl w (fun k_ => P0_ k_))
 have u9 := Aside0.mk hB.size
 have HB := Aside0.mk hB
 clear hB
 have H := h
 unfold spec_l1Put.f at H
 clear h
 have H' := Aside0.mk H
 clear H
 go_enter Tryz.func71, Tryz.ntmps71
 go_wp2
 go_loopg [5] k (fun kq v5 w' => ∃ (a3 : Int), v5 = .int .i64 a3 ∧ Aside0 (spec_l1Put.l0 kq l0 a1 a3 = some r) ∧ Aside0 (kq ≤ k) ∧ Aside0 (Kd.R (Kd.int .i64) 3 w' w0.heap.size (fun k_ => (P0_ k_ ∨ w.heap.size ≤ k_)) u9000_ l0) ∧ Aside0 (Kept w w' (fun k_ => P0_ k_)) ∧ Aside0 (Below w0.heap.size w0 w'))
 case atStart => exact ⟨(0), sR, H', ⟨Nat.le_refl _⟩, ⟨oR q2⟩, ⟨by repeat (first | (with_reducible first | exact HK.out | apply Kept.alloc | apply Kept.drewN | apply Kept.drew) | exact HK.out)⟩, ⟨bB⟩⟩
 case round => (
 clear H'
 obtain ⟨a3, rfl, HA, HK1, a4, HK, HB⟩ := hrel
 cases gk with
 | zero => exact absurd HA.out (by simp [spec_l1Put.l0])
 | succ k1 => (
 have H := HA.out
 clear HA
 simp only [spec_l1Put.l0] at H
 by_cases c3 : a3 < (l0.length : Int)
 ·(
 rw [if_pos c3] at H
 have o2 : decide (a3 < (l0.length : Int)) = true := decide_eq_true c3
 clear c3
 by_cases c4 : 0 ≤ a3
 ·(
 rw [if_pos c4] at H
 have s5 : decide (0 ≤ a3) = true := decide_eq_true c4
 clear c4
 by_cases c5 : (rd l0 a3) < a1
 ·(
 rw [if_pos c5] at H
 have o3 : decide ((rd l0 a3) < a1) = true := decide_eq_true c5
 clear c5
 have H' := Aside0.mk H
 clear H
 obtain ⟨v0, v1, q3⟩ := Kd.R_slice a4.out
 subst q3
 have b6 : 0 ≤ (a3 : Int) := of_decide_eq_true asm
 have b7 : a3 < (l0.length : Int) := of_decide_eq_true asm
 obtain ⟨a8, e9, g2⟩ := Kd.at_int (Kd.R_reads' a4.out).2.2 a3 b6 b7
 cases e9
 replace b6 := eq_true b6
 replace b7 := eq_true b7
 go_wp2
 go_roundg k1
 case measure => have := HK1.out; omega
 case rel => exact ⟨(wrap64 (a3 + 1)), sR, H', ⟨by have := HK1.out; omega⟩, ⟨oR a4⟩, ⟨by repeat (first | (with_reducible first | exact HK.out | apply Kept.alloc | apply Kept.drewN | apply Kept.drew) | exact HK.out)⟩, ⟨bB⟩⟩
 )
 ·(
 rw [if_neg c5] at H
 have o3 : decide ((rd l0 a3) < a1) = false := decide_eq_false c5
 clear c5
 by_cases c7 : (rd l0 a3) = a1
 ·(
 rw [if_pos c7] at H
 obtain ⟨o4, o5⟩ := yE c7
 clear c7
 obtain rfl := Option.some.inj H
 obtain ⟨v2, v3, q4⟩ := Kd.R_slice a4.out
 subst q4
 have b6 : 0 ≤ (a3 : Int) := of_decide_eq_true asm
 have b7 : a3 < (l0.length : Int) := of_decide_eq_true asm
 obtain ⟨a8, e9, g2⟩ := Kd.at_int (Kd.R_reads' a4.out).2.2 a3 b6 b7
 cases e9
 replace b6 := eq_true b6
 replace b7 := eq_true b7
 have c0 : 0 ≤ (a3 : Int) := of_decide_eq_true asm
 have c2 : a3 < (l0.length : Int) := of_decide_eq_true asm
 obtain ⟨g5, i1, k8⟩ := Kd.at_int (Kd.R_reads' a4.out).2.2 a3 c0 c2
 obtain rfl : a8 = g5 := (by injection i1)
 replace c0 := eq_true c0
 replace c2 := eq_true c2
 go_wp2
 go_ret
 exact ⟨_, sE, by (with_reducible repeat (first | apply Kd.R_alloc | apply Kd.R_drewN | apply Kd.R_drew)); exact a4.out, bI, by repeat (first | (with_reducible first | exact HK.out | apply Kept.alloc | apply Kept.drewN | apply Kept.drew) | exact HK.out)⟩
 )
 ·(
 rw [if_neg c7] at H
 obtain ⟨o4, o5⟩ := nE c7
 obtain ⟨c6, c9⟩ : ∃ y_ : List Int, y_ = (([] : List Int)) := ⟨_, rfl⟩
 replace H : (if a3 ≤ (l0.length : Int) then ((some (l0.take (a3 : Int).toNat : List Int)).bind fun a9 => (if c6.length + a9.length < 17592186044416 then ((some (c6 ++ a9 : List Int)).bind fun b8 => (if b8.length < 17592186044416 then ((some (b8 ++ [a1] : List Int)).bind fun b0 => ((some (l0.drop (a3 : Int).toNat : List Int)).bind fun a6 => (if b0.length + a6.length < 17592186044416 then (some (b0 ++ a6)) else (none)))) else (none))) else (none))) else (none)) = some r := by first | (rw [c9]; with_reducible exact H) | (have a5 := (Option.bind_some _ _).symm.trans H; rw [c9]; with_reducible exact a5) | (have a5 := (Option.bind_some _ _).symm.trans H; with_reducible exact a5) | with_reducible exact H | (rw [c9]; exact H) | exact H
 have j1 := Aside0.mk c9
 clear c9
 have s6 := eq_true (of_decide_eq_true asm : 0 ≤ a3)
 by_cases h8 : a3 ≤ (l0.length : Int)
 ·(
 rw [if_pos h8] at H
 have r1 := eq_true h8
 have r2 : decide (a3 ≤ (l0.length : Int)) = true := decide_eq_true h8
 clear h8
 obtain ⟨a9, d0⟩ : ∃ y_ : List Int, y_ = (l0.take (a3 : Int).toNat) := ⟨_, rfl⟩
 replace H : (if c6.length + a9.length < 17592186044416 then ((some (c6 ++ a9 : List Int)).bind fun b8 => (if b8.length < 17592186044416 then ((some (b8 ++ [a1] : List Int)).bind fun b0 => ((some (l0.drop (a3 : Int).toNat : List Int)).bind fun a6 => (if b0.length + a6.length < 17592186044416 then (some (b0 ++ a6)) else (none)))) else (none))) else (none)) = some r := by first | (rw [d0]; with_reducible exact H) | (have a5 := (Option.bind_some _ _).symm.trans H; rw [d0]; with_reducible exact a5) | (have a5 := (Option.bind_some _ _).symm.trans H; with_reducible exact a5) | with_reducible exact H | (rw [d0]; exact H) | exact H
 have d1 := Aside0.mk d0
 clear d0
 by_cases j2 : c6.length + a9.length < 17592186044416
 ·(
 rw [if_pos j2] at H
 have m2 := Aside0.mk j2
 clear j2
 obtain ⟨b8, d2⟩ : ∃ y_ : List Int, y_ = (c6 ++ a9) := ⟨_, rfl⟩
 replace H : (if b8.length < 17592186044416 then ((some (b8 ++ [a1] : List Int)).bind fun b0 => ((some (l0.drop (a3 : Int).toNat : List Int)).bind fun a6 => (if b0.length + a6.length < 17592186044416 then (some (b0 ++ a6)) else (none)))) else (none)) = some r := by first | (rw [d2]; with_reducible exact H) | (have a5 := (Option.bind_some _ _).symm.trans H; rw [d2]; with_reducible exact a5) | (have a5 := (Option.bind_some _ _).symm.trans H; with_reducible exact a5) | with_reducible exact H | (rw [d2]; exact H) | exact H
 have m3 := Aside0.mk d2
 clear d2
 by_cases j3 : b8.length < 17592186044416
 ·(
 rw [if_pos j3] at H
 have m4 := Aside0.mk j3
 clear j3
 obtain ⟨b0, d3⟩ : ∃ y_ : List Int, y_ = (b8 ++ [a1]) := ⟨_, rfl⟩
 replace H : ((some (l0.drop (a3 : Int).toNat : List Int)).bind fun a6 => (if b0.length + a6.length < 17592186044416 then (some (b0 ++ a6)) else (none))) = some r := by first | (rw [d3]; with_reducible exact H) | (have a5 := (Option.bind_some _ _).symm.trans H; rw [d3]; with_reducible exact a5) | (have a5 := (Option.bind_some _ _).symm.trans H; with_reducible exact a5) | with_reducible exact H | (rw [d3]; exact H) | exact H
 have m5 := Aside0.mk d3
 clear d3
 have r3 := eq_true (of_decide_eq_true asm : 0 ≤ a3)
 have r4 := eq_true (of_decide_eq_true asm : a3 ≤ (l0.length : Int))
 obtain ⟨a6, d4⟩ : ∃ y_ : List Int, y_ = (l0.drop (a3 : Int).toNat) := ⟨_, rfl⟩
 replace H : (if b0.length + a6.length < 17592186044416 then (some (b0 ++ a6)) else (none)) = some r := by first | (rw [d4]; with_reducible exact H) | (have a5 := (Option.bind_some _ _).symm.trans H; rw [d4]; with_reducible exact a5) | (have a5 := (Option.bind_some _ _).symm.trans H; with_reducible exact a5) | with_reducible exact H | (rw [d4]; exact H) | exact H
 have g6 := Aside0.mk d4
 clear d4
 by_cases j4 : b0.length + a6.length < 17592186044416
 ·(
 rw [if_pos j4] at H
 have m6 := Aside0.mk j4
 clear j4
 obtain ⟨o6, d5⟩ : ∃ y_ : List Int, y_ = (b0 ++ a6) := ⟨_, rfl⟩
 replace H : (some o6) = some r := by first | (rw [d5]; with_reducible exact H) | (have a5 := (Option.bind_some _ _).symm.trans H; rw [d5]; with_reducible exact a5) | (have a5 := (Option.bind_some _ _).symm.trans H; with_reducible exact a5) | with_reducible exact H | (rw [d5]; exact H) | exact H
 have m7 := Aside0.mk d5
 clear d5
 obtain rfl := Option.some.inj H
 obtain ⟨s7, b3, o7⟩ := Kd.R_slice a4.out
 subst o7
 have b6 : 0 ≤ (a3 : Int) := of_decide_eq_true asm
 have b7 : a3 < (l0.length : Int) := of_decide_eq_true asm
 obtain ⟨a8, e9, g2⟩ := Kd.at_int (Kd.R_reads' a4.out).2.2 a3 b6 b7
 cases e9
 replace b6 := eq_true b6
 replace b7 := eq_true b7
 have c0 : 0 ≤ (a3 : Int) := of_decide_eq_true asm
 have c2 : a3 < (l0.length : Int) := of_decide_eq_true asm
 obtain ⟨g5, i1, k8⟩ := Kd.at_int (Kd.R_reads' a4.out).2.2 a3 c0 c2
 obtain rfl : a8 = g5 := (by injection i1)
 replace c0 := eq_true c0
 replace c2 := eq_true c2
 go_wp2_with (first | ((with_reducible refine gate_dst (N := 34) rfl ?_); refine Kd.R_lit (Kd.int .i64) _ 3 ?hg (N := 34) ?hd (xs := ([] : List Int)) (inner := []) (ok := fun _ => True) (okp := fun _ => True) ?hr ?hp (fun _ hk => hk) trivial (Below.refl _ _) (Nat.le_refl _) (by simp) ?_; (case hd => rfl); (case hg => rfl); (case hr => first | (go_simp; done) | (go_simp; rfl)); (case hp => exact (Reps.none _ _)); intro o8 v4 e3 hb hg_ hnew_; clear hg_ hnew_; (first | rw [← j1.out] at e3 | (simp only [Int.reduceToNat] at e3; rw [← j1.out] at e3)); have g7 := Aside0.mk (Kd.R_lower (Kd.R_new' (Kd.R_newM (M := fun k_ => (P0_ k_ ∨ w.heap.size ≤ k_)) e3 (by first | exact HK.out.1 | exact (show Kept w _ (fun k_ => P0_ k_) from by repeat (first | (with_reducible first | exact HK.out | apply Kept.alloc | apply Kept.drewN | apply Kept.drew) | exact HK.out)).1) (fun k_ h_ => .inr h_)) (Kd.R_lt (oR a4))) (below_size bB)); replace a4 := Aside0.mk (Kd.R_elder' (oR a4) (Kd.R_base e3) hb); replace HK := Aside0.mk (Kept.below (S := (fun k_ => P0_ k_)) (by repeat (first | (with_reducible first | exact HK.out | apply Kept.alloc | apply Kept.drewN | apply Kept.drew) | exact HK.out)) hb); replace HB := Aside0.mk (below_step bB hb); clear hb e3; have k9 : (a3 : Int) ≤ ((l0.length : Int) : Int) := of_decide_eq_true asm; obtain ⟨s8, j5, _, m8, _⟩ := info_parts info3; have g3 : l0.length ≤ b3 := (Kd.R_reads' a4.out).2.1; have l1 : Kd.C (Kd.int .i64) _ (some a8) l0.length l0 := (Kd.R_reads' a4.out).2.2; have l2 := cut_to (P := Tryz.prog) 26 3 .i64 Tryz.underlying26 j5 (some a8) l0.length b3 a3 (of_decide_eq_true asm) k9 g3; have i2 := Kd.C_take (m := (a3 : Int).toNat) l1 (by omega); have i3 : a9.length = (a3 : Int).toNat := (by rw [d1.out, List.length_take]; omega); rw [← d1.out] at i2; rw [← i3] at l2; have e7 := Aside0.mk i2; have r5 := Aside0.mk (show a9.length ≤ b3 from by omega); clear i2 l1 g3 j5 m8; have s9 := Aside0.mk i3; clear i3; have i4 := Aside0.mk (show (a3 : Int).toNat ≤ l0.length from by omega); replace k9 := eq_true k9) | ((with_reducible refine gate_builtin (b := .append) (xs := #[.tmp 34, .tmp 37]) rfl ?_); at_builtin; refine Kd.R_append_rows (Kd.int .i64) (w0 := w0) w0.heap.size rfl (.tmp 34) (.tmp 37) 26 3 (.int .i64 0) 8 rfl Tryz.underlying26 info3 rfl (by decide) (by omega) o8 c6 a9 _ _ _ (fun k_ => (P0_ k_ ∨ w.heap.size ≤ k_) ∧ some k_ ≠ (.slice (some a8) l0.length b3 : Value).ownBlock) (fun _ => False) rfl rfl ?aO ?aR (fun _ _ h => h) (fun _ h => h.elim) ?aF ?aB ?aS ?aL ?_; (case aR => repeat (first | exact (cR e7) | (with_reducible refine Kd.C_alloc ?_ _) | (with_reducible refine Kd.C_drewN ?_ _) | (with_reducible refine Kd.C_drew ?_))); (case aB => exact bB); (case aF => exact (fun k_ hk => ⟨(.inr (Nat.le_trans (by first | exact HK.out.1 | exact (show Kept w _ (fun k_ => P0_ k_) from by repeat (first | (with_reducible first | exact HK.out | apply Kept.alloc | apply Kept.drewN | apply Kept.drew) | exact HK.out)).1) hk)), Kd.fresh' (Kd.R_lt (oR a4)) k_ hk⟩)); (case aO => exact (by (with_reducible repeat (first | apply Kd.R_alloc | apply Kd.R_drewN | apply Kd.R_drew)); exact Kd.R_mono g7.out (fun _ hk => ⟨hk.1.1, hk.2⟩))); (case aS => exact (below_size bB)); (case aL => have := m2.out; omega); intro o9 q5 ho hb hg hat; rw [← m3.out] at ho; have g8 := Aside0.mk (ho); replace HB := Aside0.mk (hb); replace HK := Aside0.mk (Kept.of_grown (S := (fun k_ => P0_ k_)) hg (by repeat (first | (with_reducible first | exact HK.out | apply Kept.alloc | apply Kept.drewN | apply Kept.drew) | exact HK.out)) (fun k_ e_ => (g7.out.1 k_ e_).1.1)); replace e7 := Aside0.mk ((show Kd.C (Kd.int .i64) q5 (some a8) a9.length a9 from by rw [d1.out]; exact Kd.C_take (m := (a3 : Int).toNat) ((Kd.R_reads' (Kd.R_after (ok := (fun k_ => (P0_ k_ ∨ w.heap.size ≤ k_))) (oR a4) hg hat)).2.2) i4.out)); replace a4 := Aside0.mk (Kd.R_after (ok := (fun k_ => (P0_ k_ ∨ w.heap.size ≤ k_))) (oR a4) hg hat); clear g7 ho hb hg hat) | ((with_reducible refine gate_builtin (b := .append) (xs := #[.tmp 39, .tmp 41]) rfl ?_); at_builtin; refine Kd.R_append (Kd.int .i64) (w0 := w0) w0.heap.size rfl (.tmp 39) (.tmp 41) 26 3 (.int .i64 0) 8 rfl Tryz.underlying26 info3 rfl (by decide) (by omega) o9 b8 a1 [.int .i64 a1] (fun k_ => (P0_ k_ ∨ w.heap.size ≤ k_) ∧ some k_ ≠ (.slice (some a8) l0.length b3 : Value).ownBlock) (fun _ => False) rfl rfl ?aP (fun _ hk => hk.elim) ?aF ?aO ?aB ?aS ?aL ?_; (case aP => exact rfl); (case aB => exact bB); (case aF => exact (fun k_ hk => ⟨(.inr (Nat.le_trans (by first | exact HK.out.1 | exact (show Kept w _ (fun k_ => P0_ k_) from by repeat (first | (with_reducible first | exact HK.out | apply Kept.alloc | apply Kept.drewN | apply Kept.drew) | exact HK.out)).1) hk)), Kd.fresh' (Kd.R_lt (oR a4)) k_ hk⟩)); (case aO => exact (oR g8)); (case aS => exact (below_size bB)); (case aL => have := m4.out; omega); intro p0 q6 ho hb hg hat; rw [← m5.out] at ho; have g9 := Aside0.mk (ho); replace HB := Aside0.mk (hb); replace HK := Aside0.mk (Kept.of_grown (S := (fun k_ => P0_ k_)) hg (by repeat (first | (with_reducible first | exact HK.out | apply Kept.alloc | apply Kept.drewN | apply Kept.drew) | exact HK.out)) (fun k_ e_ => (g8.out.1 k_ e_).1)); replace e7 := Aside0.mk ((show Kd.C (Kd.int .i64) q6 (some a8) a9.length a9 from by rw [d1.out]; exact Kd.C_take (m := (a3 : Int).toNat) ((Kd.R_reads' (Kd.R_after (ok := (fun k_ => (P0_ k_ ∨ w.heap.size ≤ k_))) (oR a4) hg hat)).2.2) i4.out)); replace a4 := Aside0.mk (Kd.R_after (ok := (fun k_ => (P0_ k_ ∨ w.heap.size ≤ k_))) (oR a4) hg hat); clear g8 ho hb hg hat; have l3 : (a3 : Int) ≤ ((l0.length : Int) : Int) := of_decide_eq_true asm; obtain ⟨u0, j6, _, j7, _⟩ := info_parts info3; have e4 : l0.length ≤ b3 := (Kd.R_reads' a4.out).2.1; have l4 : Kd.C (Kd.int .i64) _ (some a8) l0.length l0 := (Kd.R_reads' a4.out).2.2; have p1 : (0 : Int) ≤ (a3 : Int) := of_decide_eq_true asm; have l5 := cut_from (P := Tryz.prog) 26 3 .i64 Tryz.underlying26 j6 1 j7 (some a8) l0.length b3 a3 p1 l3; have g0 := Kd.C_drop (m := (a3 : Int).toNat) (c := b3) l4 (by omega) e4; obtain ⟨n8, h0⟩ : ∃ A1, A1 = (if b3 = (a3 : Int).toNat then (some a8) else ((some a8) : Option Addr).map (·.add ((a3 : Int).toNat * 1))) := ⟨_, rfl⟩; obtain ⟨q7, i5⟩ : ∃ c1, c1 = b3 - (a3 : Int).toNat := ⟨_, rfl⟩; have h1 : a6.length = l0.length - (a3 : Int).toNat := (by rw [g6.out, List.length_drop] <;> omega); rw [show (l0).drop (a3 : Int).toNat = a6 from g6.out.symm] at g0; replace g0 : Kd.C (Kd.int .i64) _ n8 a6.length a6 := (by rw [h0]; exact g0); rw [← h1, ← h0, ← i5] at l5; have j8 := Aside0.mk g0; have r6 := Aside0.mk (show a6.length ≤ q7 from by rw [h1, i5]; exact Nat.sub_le_sub_right e4 _); clear g0 l4 e4 j6 j7 i5; have u1 := Aside0.mk h1; have p2 := Aside0.mk h0; clear h1 h0; have p3 := Aside0.mk (show (a3 : Int).toNat ≤ l0.length from by omega); replace l3 := eq_true l3) | ((with_reducible refine gate_builtin (b := .append) (xs := #[.tmp 43, .tmp 46]) rfl ?_); at_builtin; refine Kd.R_append_rows (Kd.int .i64) (w0 := w0) w0.heap.size rfl (.tmp 43) (.tmp 46) 26 3 (.int .i64 0) 8 rfl Tryz.underlying26 info3 rfl (by decide) (by omega) p0 b0 a6 _ _ _ (fun k_ => (P0_ k_ ∨ w.heap.size ≤ k_) ∧ some k_ ≠ (.slice (some a8) l0.length b3 : Value).ownBlock) (fun _ => False) rfl rfl ?aO ?aR (fun _ _ h => h) (fun _ h => h.elim) ?aF ?aB ?aS ?aL ?_; (case aR => repeat (first | exact (cR j8) | (with_reducible refine Kd.C_alloc ?_ _) | (with_reducible refine Kd.C_drewN ?_ _) | (with_reducible refine Kd.C_drew ?_))); (case aB => exact bB); (case aF => exact (fun k_ hk => ⟨(.inr (Nat.le_trans (by first | exact HK.out.1 | exact (show Kept w _ (fun k_ => P0_ k_) from by repeat (first | (with_reducible first | exact HK.out | apply Kept.alloc | apply Kept.drewN | apply Kept.drew) | exact HK.out)).1) hk)), Kd.fresh' (Kd.R_lt (oR a4)) k_ hk⟩)); (case aO => exact (oR g9)); (case aS => exact (below_size bB)); (case aL => have := m6.out; omega); intro u2 n9 ho hb hg hat; rw [← m7.out] at ho; have m9 := Aside0.mk (ho); replace HB := Aside0.mk (hb); replace HK := Aside0.mk (Kept.of_grown (S := (fun k_ => P0_ k_)) hg (by repeat (first | (with_reducible first | exact HK.out | apply Kept.alloc | apply Kept.drewN | apply Kept.drew) | exact HK.out)) (fun k_ e_ => (g9.out.1 k_ e_).1)); replace e7 := Aside0.mk ((show Kd.C (Kd.int .i64) n9 (some a8) a9.length a9 from by rw [d1.out]; exact Kd.C_take (m := (a3 : Int).toNat) ((Kd.R_reads' (Kd.R_after (ok := (fun k_ => (P0_ k_ ∨ w.heap.size ≤ k_))) (oR a4) hg hat)).2.2) i4.out)); replace j8 := Aside0.mk ((show Kd.C (Kd.int .i64) n9 n8 a6.length a6 from by rw [g6.out, p2.out]; exact Kd.C_drop (m := (a3 : Int).toNat) (c := b3) ((Kd.R_reads' (Kd.R_after (ok := (fun k_ => (P0_ k_ ∨ w.heap.size ≤ k_))) (oR a4) hg hat)).2.2) p3.out ((Kd.R_reads' (Kd.R_after (ok := (fun k_ => (P0_ k_ ∨ w.heap.size ≤ k_))) (oR a4) hg hat)).2.1))); replace a4 := Aside0.mk (Kd.R_after (ok := (fun k_ => (P0_ k_ ∨ w.heap.size ≤ k_))) (oR a4) hg hat); clear g9 ho hb hg hat))
 go_ret
 exact ⟨_, sE, by (with_reducible repeat (first | apply Kd.R_alloc | apply Kd.R_drewN | apply Kd.R_drew)); exact Kd.R_mono m9.out (fun _ hk => hk.1), bI, by repeat (first | (with_reducible first | exact HK.out | apply Kept.alloc | apply Kept.drewN | apply Kept.drew) | exact HK.out)⟩
 )
 ·(
 rw [if_neg j4] at H
 exact absurd H (by simp)
 )
 )
 ·(
 rw [if_neg j3] at H
 exact absurd H (by simp)
 )
 )
 ·(
 rw [if_neg j2] at H
 exact absurd H (by simp)
 )
 )
 ·(
 rw [if_neg h8] at H
 exact absurd H (by simp)
 )
 )
 )
 )
 ·(
 rw [if_neg c4] at H
 exact absurd H (by simp)
 )
 )
 ·(
 rw [if_neg c3] at H
 have o2 : decide (a3 < (l0.length : Int)) = false := decide_eq_false c3
 clear c3
 obtain ⟨c8, d6⟩ : ∃ y_ : List Int, y_ = (([] : List Int)) := ⟨_, rfl⟩
 replace H : (if 0 ≤ a3 then (if a3 ≤ (l0.length : Int) then ((some (l0.take (a3 : Int).toNat : List Int)).bind fun b1 => (if c8.length + b1.length < 17592186044416 then ((some (c8 ++ b1 : List Int)).bind fun b9 => (if b9.length < 17592186044416 then ((some (b9 ++ [a1] : List Int)).bind fun b2 => ((some (l0.drop (a3 : Int).toNat : List Int)).bind fun a7 => (if b2.length + a7.length < 17592186044416 then (some (b2 ++ a7)) else (none)))) else (none))) else (none))) else (none)) else (none)) = some r := by first | (rw [d6]; with_reducible exact H) | (have a5 := (Option.bind_some _ _).symm.trans H; rw [d6]; with_reducible exact a5) | (have a5 := (Option.bind_some _ _).symm.trans H; with_reducible exact a5) | with_reducible exact H | (rw [d6]; exact H) | exact H
 have j9 := Aside0.mk d6
 clear d6
 by_cases h9 : 0 ≤ a3
 ·(
 rw [if_pos h9] at H
 have r7 := eq_true h9
 have r8 : decide (0 ≤ a3) = true := decide_eq_true h9
 clear h9
 by_cases i0 : a3 ≤ (l0.length : Int)
 ·(
 rw [if_pos i0] at H
 have r9 := eq_true i0
 have s0 : decide (a3 ≤ (l0.length : Int)) = true := decide_eq_true i0
 clear i0
 obtain ⟨b1, d7⟩ : ∃ y_ : List Int, y_ = (l0.take (a3 : Int).toNat) := ⟨_, rfl⟩
 replace H : (if c8.length + b1.length < 17592186044416 then ((some (c8 ++ b1 : List Int)).bind fun b9 => (if b9.length < 17592186044416 then ((some (b9 ++ [a1] : List Int)).bind fun b2 => ((some (l0.drop (a3 : Int).toNat : List Int)).bind fun a7 => (if b2.length + a7.length < 17592186044416 then (some (b2 ++ a7)) else (none)))) else (none))) else (none)) = some r := by first | (rw [d7]; with_reducible exact H) | (have a5 := (Option.bind_some _ _).symm.trans H; rw [d7]; with_reducible exact a5) | (have a5 := (Option.bind_some _ _).symm.trans H; with_reducible exact a5) | with_reducible exact H | (rw [d7]; exact H) | exact H
 have d8 := Aside0.mk d7
 clear d7
 by_cases k0 : c8.length + b1.length < 17592186044416
 ·(
 rw [if_pos k0] at H
 have n0 := Aside0.mk k0
 clear k0
 obtain ⟨b9, d9⟩ : ∃ y_ : List Int, y_ = (c8 ++ b1) := ⟨_, rfl⟩
 replace H : (if b9.length < 17592186044416 then ((some (b9 ++ [a1] : List Int)).bind fun b2 => ((some (l0.drop (a3 : Int).toNat : List Int)).bind fun a7 => (if b2.length + a7.length < 17592186044416 then (some (b2 ++ a7)) else (none)))) else (none)) = some r := by first | (rw [d9]; with_reducible exact H) | (have a5 := (Option.bind_some _ _).symm.trans H; rw [d9]; with_reducible exact a5) | (have a5 := (Option.bind_some _ _).symm.trans H; with_reducible exact a5) | with_reducible exact H | (rw [d9]; exact H) | exact H
 have n1 := Aside0.mk d9
 clear d9
 by_cases k2 : b9.length < 17592186044416
 ·(
 rw [if_pos k2] at H
 have n2 := Aside0.mk k2
 clear k2
 obtain ⟨b2, e0⟩ : ∃ y_ : List Int, y_ = (b9 ++ [a1]) := ⟨_, rfl⟩
 replace H : ((some (l0.drop (a3 : Int).toNat : List Int)).bind fun a7 => (if b2.length + a7.length < 17592186044416 then (some (b2 ++ a7)) else (none))) = some r := by first | (rw [e0]; with_reducible exact H) | (have a5 := (Option.bind_some _ _).symm.trans H; rw [e0]; with_reducible exact a5) | (have a5 := (Option.bind_some _ _).symm.trans H; with_reducible exact a5) | with_reducible exact H | (rw [e0]; exact H) | exact H
 have n3 := Aside0.mk e0
 clear e0
 have s1 := eq_true (of_decide_eq_true asm : 0 ≤ a3)
 have s2 := eq_true (of_decide_eq_true asm : a3 ≤ (l0.length : Int))
 obtain ⟨a7, e1⟩ : ∃ y_ : List Int, y_ = (l0.drop (a3 : Int).toNat) := ⟨_, rfl⟩
 replace H : (if b2.length + a7.length < 17592186044416 then (some (b2 ++ a7)) else (none)) = some r := by first | (rw [e1]; with_reducible exact H) | (have a5 := (Option.bind_some _ _).symm.trans H; rw [e1]; with_reducible exact a5) | (have a5 := (Option.bind_some _ _).symm.trans H; with_reducible exact a5) | with_reducible exact H | (rw [e1]; exact H) | exact H
 have h2 := Aside0.mk e1
 clear e1
 by_cases k3 : b2.length + a7.length < 17592186044416
 ·(
 rw [if_pos k3] at H
 have n4 := Aside0.mk k3
 clear k3
 obtain ⟨p4, e2⟩ : ∃ y_ : List Int, y_ = (b2 ++ a7) := ⟨_, rfl⟩
 replace H : (some p4) = some r := by first | (rw [e2]; with_reducible exact H) | (have a5 := (Option.bind_some _ _).symm.trans H; rw [e2]; with_reducible exact a5) | (have a5 := (Option.bind_some _ _).symm.trans H; with_reducible exact a5) | with_reducible exact H | (rw [e2]; exact H) | exact H
 have n5 := Aside0.mk e2
 clear e2
 obtain rfl := Option.some.inj H
 obtain ⟨b4, b5, p5⟩ := Kd.R_slice a4.out
 subst p5
 go_wp2_with (first | ((with_reducible refine gate_dst (N := 34) rfl ?_); refine Kd.R_lit (Kd.int .i64) _ 3 ?hg (N := 34) ?hd (xs := ([] : List Int)) (inner := []) (ok := fun _ => True) (okp := fun _ => True) ?hr ?hp (fun _ hk => hk) trivial (Below.refl _ _) (Nat.le_refl _) (by simp) ?_; (case hd => rfl); (case hg => rfl); (case hr => first | (go_simp; done) | (go_simp; rfl)); (case hp => exact (Reps.none _ _)); intro p6 v6 e5 hb hg_ hnew_; clear hg_ hnew_; (first | rw [← j9.out] at e5 | (simp only [Int.reduceToNat] at e5; rw [← j9.out] at e5)); have h3 := Aside0.mk (Kd.R_lower (Kd.R_new' (Kd.R_newM (M := fun k_ => (P0_ k_ ∨ w.heap.size ≤ k_)) e5 (by first | exact HK.out.1 | exact (show Kept w _ (fun k_ => P0_ k_) from by repeat (first | (with_reducible first | exact HK.out | apply Kept.alloc | apply Kept.drewN | apply Kept.drew) | exact HK.out)).1) (fun k_ h_ => .inr h_)) (Kd.R_lt (oR a4))) (below_size bB)); replace a4 := Aside0.mk (Kd.R_elder' (oR a4) (Kd.R_base e5) hb); replace HK := Aside0.mk (Kept.below (S := (fun k_ => P0_ k_)) (by repeat (first | (with_reducible first | exact HK.out | apply Kept.alloc | apply Kept.drewN | apply Kept.drew) | exact HK.out)) hb); replace HB := Aside0.mk (below_step bB hb); clear hb e5; have l6 : (a3 : Int) ≤ ((l0.length : Int) : Int) := of_decide_eq_true asm; obtain ⟨u3, k4, _, n6, _⟩ := info_parts info3; have g4 : l0.length ≤ b5 := (Kd.R_reads' a4.out).2.1; have l7 : Kd.C (Kd.int .i64) _ b4 l0.length l0 := (Kd.R_reads' a4.out).2.2; have l8 := cut_to (P := Tryz.prog) 26 3 .i64 Tryz.underlying26 k4 b4 l0.length b5 a3 (of_decide_eq_true asm) l6 g4; have i6 := Kd.C_take (m := (a3 : Int).toNat) l7 (by omega); have i7 : b1.length = (a3 : Int).toNat := (by rw [d8.out, List.length_take]; omega); rw [← d8.out] at i6; rw [← i7] at l8; have e8 := Aside0.mk i6; have s3 := Aside0.mk (show b1.length ≤ b5 from by omega); clear i6 l7 g4 k4 n6; have u4 := Aside0.mk i7; clear i7; have i9 := Aside0.mk (show (a3 : Int).toNat ≤ l0.length from by omega); replace l6 := eq_true l6) | ((with_reducible refine gate_builtin (b := .append) (xs := #[.tmp 34, .tmp 37]) rfl ?_); at_builtin; refine Kd.R_append_rows (Kd.int .i64) (w0 := w0) w0.heap.size rfl (.tmp 34) (.tmp 37) 26 3 (.int .i64 0) 8 rfl Tryz.underlying26 info3 rfl (by decide) (by omega) p6 c8 b1 _ _ _ (fun k_ => (P0_ k_ ∨ w.heap.size ≤ k_) ∧ some k_ ≠ (.slice b4 l0.length b5 : Value).ownBlock) (fun _ => False) rfl rfl ?aO ?aR (fun _ _ h => h) (fun _ h => h.elim) ?aF ?aB ?aS ?aL ?_; (case aR => repeat (first | exact (cR e8) | (with_reducible refine Kd.C_alloc ?_ _) | (with_reducible refine Kd.C_drewN ?_ _) | (with_reducible refine Kd.C_drew ?_))); (case aB => exact bB); (case aF => exact (fun k_ hk => ⟨(.inr (Nat.le_trans (by first | exact HK.out.1 | exact (show Kept w _ (fun k_ => P0_ k_) from by repeat (first | (with_reducible first | exact HK.out | apply Kept.alloc | apply Kept.drewN | apply Kept.drew) | exact HK.out)).1) hk)), Kd.fresh' (Kd.R_lt (oR a4)) k_ hk⟩)); (case aO => exact (by (with_reducible repeat (first | apply Kd.R_alloc | apply Kd.R_drewN | apply Kd.R_drew)); exact Kd.R_mono h3.out (fun _ hk => ⟨hk.1.1, hk.2⟩))); (case aS => exact (below_size bB)); (case aL => have := n0.out; omega); intro p7 q8 ho hb hg hat; rw [← n1.out] at ho; have h4 := Aside0.mk (ho); replace HB := Aside0.mk (hb); replace HK := Aside0.mk (Kept.of_grown (S := (fun k_ => P0_ k_)) hg (by repeat (first | (with_reducible first | exact HK.out | apply Kept.alloc | apply Kept.drewN | apply Kept.drew) | exact HK.out)) (fun k_ e_ => (h3.out.1 k_ e_).1.1)); replace e8 := Aside0.mk ((show Kd.C (Kd.int .i64) q8 b4 b1.length b1 from by rw [d8.out]; exact Kd.C_take (m := (a3 : Int).toNat) ((Kd.R_reads' (Kd.R_after (ok := (fun k_ => (P0_ k_ ∨ w.heap.size ≤ k_))) (oR a4) hg hat)).2.2) i9.out)); replace a4 := Aside0.mk (Kd.R_after (ok := (fun k_ => (P0_ k_ ∨ w.heap.size ≤ k_))) (oR a4) hg hat); clear h3 ho hb hg hat) | ((with_reducible refine gate_builtin (b := .append) (xs := #[.tmp 39, .tmp 41]) rfl ?_); at_builtin; refine Kd.R_append (Kd.int .i64) (w0 := w0) w0.heap.size rfl (.tmp 39) (.tmp 41) 26 3 (.int .i64 0) 8 rfl Tryz.underlying26 info3 rfl (by decide) (by omega) p7 b9 a1 [.int .i64 a1] (fun k_ => (P0_ k_ ∨ w.heap.size ≤ k_) ∧ some k_ ≠ (.slice b4 l0.length b5 : Value).ownBlock) (fun _ => False) rfl rfl ?aP (fun _ hk => hk.elim) ?aF ?aO ?aB ?aS ?aL ?_; (case aP => exact rfl); (case aB => exact bB); (case aF => exact (fun k_ hk => ⟨(.inr (Nat.le_trans (by first | exact HK.out.1 | exact (show Kept w _ (fun k_ => P0_ k_) from by repeat (first | (with_reducible first | exact HK.out | apply Kept.alloc | apply Kept.drewN | apply Kept.drew) | exact HK.out)).1) hk)), Kd.fresh' (Kd.R_lt (oR a4)) k_ hk⟩)); (case aO => exact (oR h4)); (case aS => exact (below_size bB)); (case aL => have := n2.out; omega); intro p8 q9 ho hb hg hat; rw [← n3.out] at ho; have h5 := Aside0.mk (ho); replace HB := Aside0.mk (hb); replace HK := Aside0.mk (Kept.of_grown (S := (fun k_ => P0_ k_)) hg (by repeat (first | (with_reducible first | exact HK.out | apply Kept.alloc | apply Kept.drewN | apply Kept.drew) | exact HK.out)) (fun k_ e_ => (h4.out.1 k_ e_).1)); replace e8 := Aside0.mk ((show Kd.C (Kd.int .i64) q9 b4 b1.length b1 from by rw [d8.out]; exact Kd.C_take (m := (a3 : Int).toNat) ((Kd.R_reads' (Kd.R_after (ok := (fun k_ => (P0_ k_ ∨ w.heap.size ≤ k_))) (oR a4) hg hat)).2.2) i9.out)); replace a4 := Aside0.mk (Kd.R_after (ok := (fun k_ => (P0_ k_ ∨ w.heap.size ≤ k_))) (oR a4) hg hat); clear h4 ho hb hg hat; have l9 : (a3 : Int) ≤ ((l0.length : Int) : Int) := of_decide_eq_true asm; obtain ⟨u5, k5, _, k6, _⟩ := info_parts info3; have e6 : l0.length ≤ b5 := (Kd.R_reads' a4.out).2.1; have m0 : Kd.C (Kd.int .i64) _ b4 l0.length l0 := (Kd.R_reads' a4.out).2.2; have p9 : (0 : Int) ≤ (a3 : Int) := of_decide_eq_true asm; have m1 := cut_from (P := Tryz.prog) 26 3 .i64 Tryz.underlying26 k5 1 k6 b4 l0.length b5 a3 p9 l9; have g1 := Kd.C_drop (m := (a3 : Int).toNat) (c := b5) m0 (by omega) e6; obtain ⟨o0, h6⟩ : ∃ A1, A1 = (if b5 = (a3 : Int).toNat then b4 else (b4 : Option Addr).map (·.add ((a3 : Int).toNat * 1))) := ⟨_, rfl⟩; obtain ⟨r0, j0⟩ : ∃ c1, c1 = b5 - (a3 : Int).toNat := ⟨_, rfl⟩; have h7 : a7.length = l0.length - (a3 : Int).toNat := (by rw [h2.out, List.length_drop] <;> omega); rw [show (l0).drop (a3 : Int).toNat = a7 from h2.out.symm] at g1; replace g1 : Kd.C (Kd.int .i64) _ o0 a7.length a7 := (by rw [h6]; exact g1); rw [← h7, ← h6, ← j0] at m1; have k7 := Aside0.mk g1; have s4 := Aside0.mk (show a7.length ≤ r0 from by rw [h7, j0]; exact Nat.sub_le_sub_right e6 _); clear g1 m0 e6 k5 k6 j0; have u6 := Aside0.mk h7; have q0 := Aside0.mk h6; clear h7 h6; have q1 := Aside0.mk (show (a3 : Int).toNat ≤ l0.length from by omega); replace l9 := eq_true l9) | ((with_reducible refine gate_builtin (b := .append) (xs := #[.tmp 43, .tmp 46]) rfl ?_); at_builtin; refine Kd.R_append_rows (Kd.int .i64) (w0 := w0) w0.heap.size rfl (.tmp 43) (.tmp 46) 26 3 (.int .i64 0) 8 rfl Tryz.underlying26 info3 rfl (by decide) (by omega) p8 b2 a7 _ _ _ (fun k_ => (P0_ k_ ∨ w.heap.size ≤ k_) ∧ some k_ ≠ (.slice b4 l0.length b5 : Value).ownBlock) (fun _ => False) rfl rfl ?aO ?aR (fun _ _ h => h) (fun _ h => h.elim) ?aF ?aB ?aS ?aL ?_; (case aR => repeat (first | exact (cR k7) | (with_reducible refine Kd.C_alloc ?_ _) | (with_reducible refine Kd.C_drewN ?_ _) | (with_reducible refine Kd.C_drew ?_))); (case aB => exact bB); (case aF => exact (fun k_ hk => ⟨(.inr (Nat.le_trans (by first | exact HK.out.1 | exact (show Kept w _ (fun k_ => P0_ k_) from by repeat (first | (with_reducible first | exact HK.out | apply Kept.alloc | apply Kept.drewN | apply Kept.drew) | exact HK.out)).1) hk)), Kd.fresh' (Kd.R_lt (oR a4)) k_ hk⟩)); (case aO => exact (oR h5)); (case aS => exact (below_size bB)); (case aL => have := n4.out; omega); intro u7 o1 ho hb hg hat; rw [← n5.out] at ho; have n7 := Aside0.mk (ho); replace HB := Aside0.mk (hb); replace HK := Aside0.mk (Kept.of_grown (S := (fun k_ => P0_ k_)) hg (by repeat (first | (with_reducible first | exact HK.out | apply Kept.alloc | apply Kept.drewN | apply Kept.drew) | exact HK.out)) (fun k_ e_ => (h5.out.1 k_ e_).1)); replace e8 := Aside0.mk ((show Kd.C (Kd.int .i64) o1 b4 b1.length b1 from by rw [d8.out]; exact Kd.C_take (m := (a3 : Int).toNat) ((Kd.R_reads' (Kd.R_after (ok := (fun k_ => (P0_ k_ ∨ w.heap.size ≤ k_))) (oR a4) hg hat)).2.2) i9.out)); replace k7 := Aside0.mk ((show Kd.C (Kd.int .i64) o1 o0 a7.length a7 from by rw [h2.out, q0.out]; exact Kd.C_drop (m := (a3 : Int).toNat) (c := b5) ((Kd.R_reads' (Kd.R_after (ok := (fun k_ => (P0_ k_ ∨ w.heap.size ≤ k_))) (oR a4) hg hat)).2.2) q1.out ((Kd.R_reads' (Kd.R_after (ok := (fun k_ => (P0_ k_ ∨ w.heap.size ≤ k_))) (oR a4) hg hat)).2.1))); replace a4 := Aside0.mk (Kd.R_after (ok := (fun k_ => (P0_ k_ ∨ w.heap.size ≤ k_))) (oR a4) hg hat); clear h5 ho hb hg hat))
 go_ret
 exact ⟨_, sE, by (with_reducible repeat (first | apply Kd.R_alloc | apply Kd.R_drewN | apply Kd.R_drew)); exact Kd.R_mono n7.out (fun _ hk => hk.1), bI, by repeat (first | (with_reducible first | exact HK.out | apply Kept.alloc | apply Kept.drewN | apply Kept.drew) | exact HK.out)⟩
 )
 ·(
 rw [if_neg k3] at H
 exact absurd H (by simp)
 )
 )
 ·(
 rw [if_neg k2] at H
 exact absurd H (by simp)
 )
 )
 ·(
 rw [if_neg k0] at H
 exact absurd H (by simp)
 )
 )
 ·(
 rw [if_neg i0] at H
 exact absurd H (by simp)
 )
 )
 ·(
 rw [if_neg h9] at H
 exact absurd H (by simp)
 )
 )
 )
 )

/-! ### spec_miUpTo: function 45 -/
mutual
def spec_miUpTo.l0 : Nat → Int → Int → Int → List Int → Int → Option (List Int)
  | 0, _, _, _, _, _ => none
  | k + 1, x0, x1, x2, x7, x8 => if x8 ≤ x2 then ((spec_miWords.f k x8).bind fun t247 => (spec_miUpTo.l1 k x0 x1 x2 x7 x8 t247 (t247.length : Int) 0)) else (some x7)
def spec_miUpTo.l1 : Nat → Int → Int → Int → List Int → Int → List ByteArray → Int → Int → Option (List Int)
  | 0, _, _, _, _, _, _, _, _ => none
  | k + 1, x0, x1, x2, x7, x8, x17, x18, x19 => if x19 < x18 then (if 0 ≤ x19 then (if x19 < (x17.length : Int) then ((spec_miAfter.f k x0 x1 (rdOf ByteArray.empty x17 x19)).bind fun t251 => ((spec_l1Put.f k x7 t251).bind fun t252 => (spec_miUpTo.l1 k x0 x1 x2 t252 x8 x17 x18 (wrap64 (x19 + 1))))) else (none)) else (none)) else (spec_miUpTo.l0 k x0 x1 x2 x7 (wrap64 (x8 + 1)))
end
def spec_miUpTo.f (k : Nat) (a0 : Int) (a1 : Int) (a2 : Int) : Option (List Int) := spec_miUpTo.l0 k a0 a1 a2 ([] : List Int) 1
theorem spec_miUpTo.mono_l : ∀ k, (∀ y0 y1 y2 y3 y4, LeO (spec_miUpTo.l0 k y0 y1 y2 y3 y4) (spec_miUpTo.l0 (k + 1) y0 y1 y2 y3 y4)) ∧ (∀ y0 y1 y2 y3 y4 y5 y6 y7, LeO (spec_miUpTo.l1 k y0 y1 y2 y3 y4 y5 y6 y7) (spec_miUpTo.l1 (k + 1) y0 y1 y2 y3 y4 y5 y6 y7))
  | 0 => ⟨fun _ _ _ _ _ r h => by simp [spec_miUpTo.l0] at h, fun _ _ _ _ _ _ _ _ r h => by simp [spec_miUpTo.l1] at h⟩
  | k + 1 => by
    obtain ⟨ih0, ih1⟩ := spec_miUpTo.mono_l k
    refine ⟨?_, ?_⟩
    · intro y0 y1 y2 y3 y4
      unfold spec_miUpTo.l0
      repeat' first
      | (with_reducible exact ih0 _ _ _ _ _)
      | (with_reducible exact ih1 _ _ _ _ _ _ _ _)
      | (with_reducible exact spec_l1Put.mono _ _ _)
      | (with_reducible exact spec_miAfter.mono _ _ _ _)
      | (with_reducible exact spec_miWords.mono _ _)
      | (with_reducible exact LeO.refl _)
      | (with_reducible exact LeO.none _)
      | (with_reducible refine LeO.ite ?_ ?_)
      | (with_reducible refine LeO.bind ?_ (fun _ => ?_))
      | exact ih0 _ _ _ _ _
      | exact ih1 _ _ _ _ _ _ _ _
      | exact spec_l1Put.mono _ _ _
      | exact spec_miAfter.mono _ _ _ _
      | exact spec_miWords.mono _ _
      | exact LeO.none _
      | refine LeO.ite ?_ ?_
      | refine LeO.bind ?_ (fun _ => ?_)
    · intro y0 y1 y2 y3 y4 y5 y6 y7
      unfold spec_miUpTo.l1
      repeat' first
      | (with_reducible exact ih0 _ _ _ _ _)
      | (with_reducible exact ih1 _ _ _ _ _ _ _ _)
      | (with_reducible exact spec_l1Put.mono _ _ _)
      | (with_reducible exact spec_miAfter.mono _ _ _ _)
      | (with_reducible exact spec_miWords.mono _ _)
      | (with_reducible exact LeO.refl _)
      | (with_reducible exact LeO.none _)
      | (with_reducible refine LeO.ite ?_ ?_)
      | (with_reducible refine LeO.bind ?_ (fun _ => ?_))
      | exact ih0 _ _ _ _ _
      | exact ih1 _ _ _ _ _ _ _ _
      | exact spec_l1Put.mono _ _ _
      | exact spec_miAfter.mono _ _ _ _
      | exact spec_miWords.mono _ _
      | exact LeO.none _
      | refine LeO.ite ?_ ?_
      | refine LeO.bind ?_ (fun _ => ?_)
theorem spec_miUpTo.mono : ∀ a0 a1 a2 k, LeO (spec_miUpTo.f k a0 a1 a2) (spec_miUpTo.f (k + 1) a0 a1 a2) := by
  intro a0 a1 a2 k
  obtain ⟨ih0, ih1⟩ := spec_miUpTo.mono_l k
  unfold spec_miUpTo.f
  repeat' first
      | (with_reducible exact ih0 _ _ _ _ _)
      | (with_reducible exact ih1 _ _ _ _ _ _ _ _)
      | (with_reducible exact spec_l1Put.mono _ _ _)
      | (with_reducible exact spec_miAfter.mono _ _ _ _)
      | (with_reducible exact spec_miWords.mono _ _)
      | (with_reducible exact LeO.refl _)
      | (with_reducible exact LeO.none _)
      | (with_reducible refine LeO.ite ?_ ?_)
      | (with_reducible refine LeO.bind ?_ (fun _ => ?_))
      | exact ih0 _ _ _ _ _
      | exact ih1 _ _ _ _ _ _ _ _
      | exact spec_l1Put.mono _ _ _
      | exact spec_miAfter.mono _ _ _ _
      | exact spec_miWords.mono _ _
      | exact LeO.none _
      | refine LeO.ite ?_ ?_
      | refine LeO.bind ?_ (fun _ => ?_)
set_option maxHeartbeats 8000000 in
set_option maxRecDepth 100000 in
theorem spec_miUpTo.calls (k : Nat) (a0 : Int) (a1 : Int) (a2 : Int) (r : List Int) (w : World) (h : spec_miUpTo.f k a0 a1 a2 = some r) :
    Calls Tryz.prog 45 #[.int .i64 a0, .int .i64 a1, .int .i64 a2] w fun e w' => ∃ v0_ : Value, e = .returned (v0_) ∧ Kd.R (Kd.int .i64) 3 w' w.heap.size (fun _ => True) v0_ r ∧ Below w.heap.size w w' := by
 have HB := Aside0.mk (Below.refl w.heap.size w)
 have H := h
 unfold spec_miUpTo.f at H
 clear h
 have H' := Aside0.mk H
 clear H
 go_enter Tryz.func45, Tryz.ntmps45
 go_wp2
 go_loopg [7, 8] k (fun kq v7 v8 w' => ∃ (a9 : List Int) (a5 : Int), v8 = .int .i64 a5 ∧ Aside0 (spec_miUpTo.l0 kq a0 a1 a2 a9 a5 = some r) ∧ Aside0 (kq ≤ k) ∧ Aside0 (Kd.R (Kd.int .i64) 3 w' w.heap.size (fun _ => True) v7 a9) ∧ Aside0 (Below w.heap.size w w'))
 case atStart => exact ⟨(([] : List Int)), (1), sR, H', ⟨Nat.le_refl _⟩, ⟨by first | exact Kd.R_nil _ _ _ _ _ | exact Kd.N_nil _ _ _ _ _ | exact Kd.V_nil _ _ _ _ _ | exact Kd.Q_nil _ _ _ _ _ | exact Kd.S_nil _ _ _ _ _⟩, ⟨bB⟩⟩
 case round => (
 clear H'
 obtain ⟨a9, a5, rfl, HA, HK1, a6, HB⟩ := hrel
 cases gk with
 | zero => exact absurd HA.out (by simp [spec_miUpTo.l0])
 | succ k1 => (
 have H := HA.out
 clear HA
 simp only [spec_miUpTo.l0] at H
 by_cases c4 : a5 ≤ a2
 ·(
 rw [if_pos c4] at H
 have b8 : decide (a5 ≤ a2) = true := decide_eq_true c4
 clear c4
 obtain ⟨a4, A5, H⟩ := bD H
 try dsimp only at H
 have H' := Aside0.mk H
 clear H
 go_wp2_with (first | ((with_reducible refine gate_callee (f := 51) rfl ?_); refine goesL_ (some 17) rfl rfl Tryz.func51 kr rfl #[.int .i64 a5] rfl sM ?_; (with_reducible refine (spec_miWords.calls k1 a5 a4 _ A5.out).mono ?_); rintro e w6 ⟨d6, rfl, b0, hb⟩; refine ⟨_, rfl, ?_⟩; have b6 := Aside0.mk (Kd.R_lower b0 (below_size bB)); replace a6 := Aside0.mk (Kd.R_below (oR a6) hb); replace HB := Aside0.mk (below_step bB hb); (try clear hb); (try clear b0); obtain ⟨c6, c7, d0⟩ := Kd.R_slice b6.out; subst d0))
 go_loopg [7, 19] k1 (fun kq v7 d1 w' => ∃ (a7 : List Int) (a3 : Int), d1 = .int .i64 a3 ∧ Aside0 (spec_miUpTo.l1 kq a0 a1 a2 a7 a5 a4 (a4.length : Int) a3 = some r) ∧ Aside0 (kq ≤ k1) ∧ Aside0 (Kd.R (Kd.int .i64) 3 w' w.heap.size (fun _ => True) v7 a7) ∧ Aside0 (Kd.R Kd.string 9 w' w.heap.size (fun _ => True) (.slice c6 a4.length c7) a4) ∧ Aside0 (Below w.heap.size w w'))
 case atStart => exact ⟨(a9), (0), sR, H', ⟨Nat.le_refl _⟩, ⟨oR a6⟩, ⟨oR b6⟩, ⟨bB⟩⟩
 case round => (
 clear H'
 try clear b8
 obtain ⟨a7, a3, rfl, HA, HK2, a6, a8, HB⟩ := hrel
 cases gk with
 | zero => exact absurd HA.out (by simp [spec_miUpTo.l1])
 | succ k2 => (
 have H := HA.out
 clear HA
 simp only [spec_miUpTo.l1] at H
 by_cases c8 : a3 < (a4.length : Int)
 ·(
 rw [if_pos c8] at H
 have c1 : decide (a3 < (a4.length : Int)) = true := decide_eq_true c8
 clear c8
 by_cases c9 : 0 ≤ a3
 ·(
 rw [if_pos c9] at H
 have d7 : decide (0 ≤ a3) = true := decide_eq_true c9
 clear c9
 by_cases b7 : a3 < (a4.length : Int)
 ·(
 rw [if_pos b7] at H
 have d4 : decide (a3 < (a4.length : Int)) = true := decide_eq_true b7
 clear b7
 obtain ⟨b1, d2, H⟩ := bD H
 try dsimp only at H
 obtain ⟨b9, d3, H⟩ := bD H
 try dsimp only at H
 have H' := Aside0.mk H
 clear H
 have b2 : 0 ≤ (a3 : Int) := of_decide_eq_true asm
 have b3 : a3 < (a4.length : Int) := of_decide_eq_true asm
 obtain ⟨d5, c2, c5⟩ := Kd.at_string (Kd.R_reads' a8.out).2.2 a3 b2 b3
 cases c2
 replace b2 := eq_true b2
 replace b3 := eq_true b3
 go_wp2_with (first | ((with_reducible refine gate_callee (f := 49) rfl ?_); refine goesL_ (some 27) rfl rfl Tryz.func49 kr rfl #[.int .i64 a0, .int .i64 a1, .string (rdOf ByteArray.empty a4 a3)] rfl sM ?_; (with_reducible refine (spec_miAfter.calls k2 a0 a1 (rdOf ByteArray.empty a4 a3) b1 _ d2.out).mono ?_); rintro e w' ⟨rfl, ⟨nd, rfl⟩⟩; refine ⟨_, rfl, ?_⟩; obtain ⟨b4, b5, c3⟩ := Kd.R_slice a6.out; subst c3) | ((with_reducible refine gate_callee (f := 71) rfl ?_); refine goesL_ (some 28) rfl rfl Tryz.func71 kr rfl #[.slice b4 a7.length b5, .int .i64 b1] rfl sM ?_; (with_reducible refine (spec_l1Put.calls k2 (fun k_ => some k_ = (.slice b4 a7.length b5 : Value).ownBlock) (.slice b4 a7.length b5) a7 b1 b9 w _ ?side1 ?side2 d3.out).mono ?_); (case side1 => exact bI); (case side2 => exact Kd.R_tight rfl a6.out); rintro e d9 ⟨d8, rfl, b0, hb, hkp⟩; refine ⟨_, rfl, ?_⟩; have c0 := Aside0.mk (Kd.R_mono (ok' := fun k_ => True) b0 (fun k_ hk_ => trivial)); replace a8 := Aside0.mk (Kd.R_mono (ok' := fun k_ => True) (Kd.R_keptB ((Kd.R_apart' a8.out (Kd.R_typed a6.out) (by decide))) hkp (fun k_ hk_ hs_ => (hk_.2) hs_)) (fun k_ hk_ => trivial)); replace HB := Aside0.mk (hb); clear a6; (try clear hb); (try clear hkp); (try clear b0)))
 go_roundg k2
 case measure => have := HK1.out; have := HK2.out; omega
 case rel => exact ⟨(b9), (wrap64 (a3 + 1)), sR, H', ⟨by have := HK1.out; have := HK2.out; omega⟩, ⟨oR c0⟩, ⟨oR a8⟩, ⟨bB⟩⟩
 )
 ·(
 rw [if_neg b7] at H
 exact absurd H (by simp)
 )
 )
 ·(
 rw [if_neg c9] at H
 exact absurd H (by simp)
 )
 )
 ·(
 rw [if_neg c8] at H
 have c1 : decide (a3 < (a4.length : Int)) = false := decide_eq_false c8
 clear c8
 have H' := Aside0.mk H
 clear H
 go_wp2
 go_roundg k2
 case measure => have := HK1.out; have := HK2.out; omega
 case rel => exact ⟨(a7), (wrap64 (a5 + 1)), sR, H', ⟨by have := HK1.out; have := HK2.out; omega⟩, ⟨oR a6⟩, ⟨bB⟩⟩
 )
 )
 )
 )
 ·(
 rw [if_neg c4] at H
 have b8 : decide (a5 ≤ a2) = false := decide_eq_false c4
 clear c4
 obtain rfl := Option.some.inj H
 go_wp2
 go_ret
 exact ⟨_, sE, by (with_reducible repeat (first | apply Kd.R_alloc | apply Kd.R_drewN | apply Kd.R_drew)); exact a6.out, bI⟩
 )
 )
 )

end Go.Proofs.YtnmhefdjakjngaaGreatDoor.PFnMirrorsFace
