-- Written by xprint.py, a program of this session, for this seat; Lean checks it.
import Derived.Test.YtnmhefdjakjngaaGreatDoorVM
import Derived.Test.YtnmhefdjakjngaaGreatDoorPFnMirrorsFacex0
import Derived.Test.YtnmhefdjakjngaaGreatDoorPFnMirrorsFacex1
namespace Go.Proofs.YtnmhefdjakjngaaGreatDoor.PFnMirrorsFace
open Go.Proofs.YtnmhefdjakjngaaGreatDoorV Go.RowKit Go.Proofs.YtnmhefdjakjngaaGreatDoorW.PrintWords Go.Proofs.YtnmhefdjakjngaaGreatDoorW.PrintLast Go.Proofs.YtnmhefdjakjngaaGreatDoorW.PrintMore
attribute [local go_sem] max2_int min2_int max_two min_two max_three min_three max_four min_four   -- for this text's walks alone
set_option linter.unusedVariables false
set_option linter.unusedSimpArgs false

/-! ### spec_DrawImagesUpTo: function 5 -/
theorem kQ {w W w1 : World} {g g' : Nat} {o : Obj} (x : Aside0 (w.heap[g]? = some o)) (hk : KeepBut W w1 g' none) (hne : Aside0 (g ≠ g')) (h : w.heap[g]? = some o → W.heap[g]? = some o := by (intro hx_; (with_reducible repeat (first | refine blk_drewN ?_ _ | refine blk_drew ?_ | refine blk_alloc ?_ _)); exact hx_)) : Aside0 (w1.heap[g]? = some o) :=
  ⟨(hk.2 g (blk_lt (h x.out)) hne.out (by simp)).trans (h x.out)⟩
def spec_DrawAnglesFor.f (l0 : List Int) : Option Int :=
  (spec_l1Cur_among.f l0 0 0 [1, 3, 5, 7, 9, 11, 17, 35, 119, 359, 360, 0, 2]).bind fun s => some s.1
set_option maxHeartbeats 8000000 in
set_option maxRecDepth 100000 in
theorem spec_DrawAnglesFor.calls (A0 : Option Addr) (c0 : Nat) (l0 : List Int) (r1 : Int) (w : World) (hr0 : Kd.C (Kd.int .u8) w A0 l0.length l0) (hc0 : l0.length ≤ c0) (h : spec_DrawAnglesFor.f l0 = some (r1)) :
    Calls Tryz.prog 32 #[.slice A0 l0.length c0] w fun e w' => e = .returned (.int .i64 r1) ∧ Below w.heap.size w w' := by
  unfold spec_DrawAnglesFor.f at h
  obtain ⟨⟨s, p', q'⟩, h2, h⟩ := Option.bind_eq_some_iff.mp h
  simp only [Option.some.injEq] at h
  subst h
  obtain ⟨ys, hyys⟩ : ∃ ys : List Int, ys = [1, 3, 5, 7, 9, 11, 17, 35, 119, 359, 360, 0, 2] := ⟨_, rfl⟩
  have H2 : Aside0 (spec_l1Cur_among.f l0 0 0 ys = some (s, p', q')) := ⟨by rw [hyys]; exact h2⟩
  have HYys := Aside0.mk hyys
  clear hyys h2
  have HR := Aside0.mk hr0
  clear hr0
  have HB := Aside0.mk (Below.refl w.heap.size w)
  go_enter Tryz.func32, Tryz.ntmps32
  go_wp2_with (first | ((with_reducible refine gate_dst (N := 6) rfl ?_); refine box_ (cs := #[.slice A0 l0.length c0, .int .i64 0, .int .u64 0]) (t := 51) fun gC hg w_C hbox hb => ?_; have BC := Aside0.mk hbox; have GEC := bS HB hg; replace HB := Aside0.mk (below_step bB hb); clear hb hbox hg) | ((with_reducible refine gate_dst (N := 8) rfl ?_); refine Kd.R_lit (Kd.int .i64) _ 3 ?hg (N := 8) ?hd (xs := ([1, 3, 5, 7, 9, 11, 17, 35, 119, 359, 360, 0, 2] : List Int)) (inner := [.int .i64 1, .int .i64 3, .int .i64 5, .int .i64 7, .int .i64 9, .int .i64 11, .int .i64 17, .int .i64 35, .int .i64 119, .int .i64 359, .int .i64 360, .int .i64 0, .int .i64 2]) (ok := fun _ => True) (okp := fun _ => True) ?hr ?hp (fun _ hk => hk) trivial (Below.refl _ _) (Nat.le_refl _) (by simp) ?_; (case hd => rfl); (case hg => rfl); (case hr => first | (go_simp; done) | (go_simp; rfl)); (case hp => exact (Reps.one (show Kd.M (Kd.int .i64) _ _ _ 1 [.int .i64 1] from rfl) (Reps.one (show Kd.M (Kd.int .i64) _ _ _ 3 [.int .i64 3] from rfl) (Reps.one (show Kd.M (Kd.int .i64) _ _ _ 5 [.int .i64 5] from rfl) (Reps.one (show Kd.M (Kd.int .i64) _ _ _ 7 [.int .i64 7] from rfl) (Reps.one (show Kd.M (Kd.int .i64) _ _ _ 9 [.int .i64 9] from rfl) (Reps.one (show Kd.M (Kd.int .i64) _ _ _ 11 [.int .i64 11] from rfl) (Reps.one (show Kd.M (Kd.int .i64) _ _ _ 17 [.int .i64 17] from rfl) (Reps.one (show Kd.M (Kd.int .i64) _ _ _ 35 [.int .i64 35] from rfl) (Reps.one (show Kd.M (Kd.int .i64) _ _ _ 119 [.int .i64 119] from rfl) (Reps.one (show Kd.M (Kd.int .i64) _ _ _ 359 [.int .i64 359] from rfl) (Reps.one (show Kd.M (Kd.int .i64) _ _ _ 360 [.int .i64 360] from rfl) (Reps.one (show Kd.M (Kd.int .i64) _ _ _ 0 [.int .i64 0] from rfl) (Reps.one (show Kd.M (Kd.int .i64) _ _ _ 2 [.int .i64 2] from rfl) (Reps.none _ _))))))))))))))); intro v5 w_l5 hr hb hg_ hnew_; clear hg_ hnew_; (first | rw [← HYys.out] at hr | (simp only [Int.reduceToNat] at hr; rw [← HYys.out] at hr)); have R5 := Aside0.mk (Kd.R_lower hr (below_size bB)); replace BC := bQ BC hb; replace HB := Aside0.mk (below_step bB hb); clear hr hb; obtain ⟨A5, cc5, ee5⟩ := Kd.R_slice R5.out; subst ee5) | ((with_reducible refine gate_callee (f := 37) rfl ?_); refine goesL_ (some 9) rfl rfl Tryz.func37 kr rfl #[.pointer (some ⟨gC, 0, none⟩), .slice A5 ys.length cc5] rfl sM ?_; (with_reducible refine (spec_l1Cur_among.calls gC l0 0 0 _ _ ys s p' q' w _ ?side1 ?side2 ?side3 ?side4 ?side5 H2.out).mono ?_); (case side1 => exact ⟨A0, c0, bK BC, GEC.out, HR.out⟩); (case side2 => exact bB); (case side3 => exact (Kd.R_reads' R5.out).2.2); (case side4 => exact (Kd.R_reads' R5.out).2.1); (case side5 => exact far_slice (IsS51.own_ne (show IsS51 w _ gC l0 0 0 from ⟨A0, c0, bK BC, GEC.out, HR.out⟩) R5.out (by decide))); rintro e w_c9 ⟨rfl, hi, hb, hk⟩; refine ⟨_, rfl, ?_⟩; clear BC; obtain ⟨A1, c1, hi1, hi2, hi3⟩ := hi; have BC := Aside0.mk hi1; have HR1 := Aside0.mk hi3; replace HB := Aside0.mk hb; clear hi1 hi2 hi3 hb hk))
  go_ret
  exact ⟨rfl, bB⟩
def spec_DrawWedgeImages.f (l0 : List Int) : Option (Int × Int) := (spec_l1Cur_wedge.f l0 0 0).bind fun t => some (t.1, t.2.1)
set_option maxHeartbeats 8000000 in
set_option maxRecDepth 100000 in
theorem spec_DrawWedgeImages.calls (A0 : Option Addr) (c0 : Nat) (l0 : List Int) (r1 r2 : Int) (w : World) (hr0 : Kd.C (Kd.int .u8) w A0 l0.length l0) (hc0 : l0.length ≤ c0) (h : spec_DrawWedgeImages.f l0 = some (r1, r2)) :
    Calls Tryz.prog 24 #[.slice A0 l0.length c0] w fun e w' => e = .returned (.tuple #[.int .i64 r1, .int .i64 r2]) ∧ Below w.heap.size w w' := by
  unfold spec_DrawWedgeImages.f at h
  obtain ⟨⟨t1, t2, c1_, d1_⟩, h1, h⟩ := Option.bind_eq_some_iff.mp h
  simp only [Option.some.injEq, Prod.mk.injEq] at h
  obtain ⟨rfl, rfl⟩ := h
  have H1 := Aside0.mk h1
  have HR := Aside0.mk hr0
  clear h1 hr0
  have HB := Aside0.mk (Below.refl w.heap.size w)
  go_enter Tryz.func24, Tryz.ntmps24
  go_wp2_with (first | ((with_reducible refine gate_dst (N := 7) rfl ?_); refine box_ (cs := #[.slice A0 l0.length c0, .int .i64 0, .int .u64 0]) (t := 51) fun gC hg w_C hbox hb => ?_; have BC := Aside0.mk hbox; have GEC := bS HB hg; replace HB := Aside0.mk (below_step bB hb); clear hb hbox hg) | ((with_reducible refine gate_callee (f := 62) rfl ?_); refine goesL_ (some 9) rfl rfl Tryz.func62 kr rfl #[.pointer (some ⟨gC, 0, none⟩)] rfl sM ?_; (with_reducible refine (spec_l1Cur_wedge.calls gC l0 0 0  t1 t2 c1_ d1_ w _ ?side1 ?side2 H1.out).mono ?_); (case side1 => exact ⟨A0, c0, bK BC, GEC.out, HR.out⟩); (case side2 => exact bB); rintro e w_c9 ⟨rfl, hi, hb, hk⟩; refine ⟨_, rfl, ?_⟩; clear BC; obtain ⟨A1, c1, hi1, hi2, hi3⟩ := hi; have BC := Aside0.mk hi1; have HR1 := Aside0.mk hi3; replace HB := Aside0.mk hb; clear hi1 hi2 hi3 hb hk))
  refine bodyPost_ret (results_list (rs := [.tmp 2, .tmp 3]) rfl (by simp) (.tmp (.tmp .nil))) rfl ?_
  exact ⟨rfl, bB⟩
def spec_DrawImagesUpTo.f (l0 : List Int) : Option (Int × Int × Int) :=
  (spec_l1Cur_corridor.f l0 0 0).bind fun t => (spec_l1Cur_among.f l0 t.2.2.1 t.2.2.2 [0, 1, 2, 3, 5, 40, 41, -1]).bind fun s => some (t.1, t.2.1, s.1)
set_option maxHeartbeats 8000000 in
set_option maxRecDepth 100000 in
theorem spec_DrawImagesUpTo.calls (A0 : Option Addr) (c0 : Nat) (l0 : List Int) (r1 r2 r3 : Int) (w : World) (hr0 : Kd.C (Kd.int .u8) w A0 l0.length l0) (hc0 : l0.length ≤ c0) (h : spec_DrawImagesUpTo.f l0 = some (r1, r2, r3)) :
    Calls Tryz.prog 5 #[.slice A0 l0.length c0] w fun e w' => e = .returned (.tuple #[.int .i64 r1, .int .i64 r2, .int .i64 r3]) ∧ Below w.heap.size w w' := by
  unfold spec_DrawImagesUpTo.f at h
  obtain ⟨⟨t1, t2, c1_, d1_⟩, h1, h⟩ := Option.bind_eq_some_iff.mp h
  obtain ⟨⟨s, p', q'⟩, h2, h⟩ := Option.bind_eq_some_iff.mp h
  simp only [Option.some.injEq, Prod.mk.injEq] at h
  obtain ⟨rfl, rfl, rfl⟩ := h
  obtain ⟨ys, hyys⟩ : ∃ ys : List Int, ys = [0, 1, 2, 3, 5, 40, 41, -1] := ⟨_, rfl⟩
  have H2 : Aside0 (spec_l1Cur_among.f l0 c1_ d1_ ys = some (s, p', q')) := ⟨by rw [hyys]; exact h2⟩
  have HYys := Aside0.mk hyys
  clear hyys h2
  have H1 := Aside0.mk h1
  have HR := Aside0.mk hr0
  clear h1 hr0
  have HB := Aside0.mk (Below.refl w.heap.size w)
  go_enter Tryz.func5, Tryz.ntmps5
  go_wp2_with (first | ((with_reducible refine gate_dst (N := 10) rfl ?_); refine box_ (cs := #[.slice A0 l0.length c0, .int .i64 0, .int .u64 0]) (t := 51) fun gC hg w_C hbox hb => ?_; have BC := Aside0.mk hbox; have GEC := bS HB hg; replace HB := Aside0.mk (below_step bB hb); clear hb hbox hg) | ((with_reducible refine gate_callee (f := 36) rfl ?_); refine goesL_ (some 13) rfl rfl Tryz.func36 kr rfl #[.pointer (some ⟨gC, 0, none⟩)] rfl sM ?_; (with_reducible refine (spec_l1Cur_corridor.calls gC l0 0 0  t1 t2 c1_ d1_ w _ ?side1 ?side2 H1.out).mono ?_); (case side1 => exact ⟨A0, c0, bK BC, GEC.out, HR.out⟩); (case side2 => exact bB); rintro e w_c13 ⟨rfl, hi, hb, hk⟩; refine ⟨_, rfl, ?_⟩; clear BC; obtain ⟨A1, c1, hi1, hi2, hi3⟩ := hi; have BC := Aside0.mk hi1; have HR1 := Aside0.mk hi3; replace HB := Aside0.mk hb; clear hi1 hi2 hi3 hb hk) | ((with_reducible refine gate_dst (N := 19) rfl ?_); refine Kd.R_lit (Kd.int .i64) _ 3 ?hg (N := 19) ?hd (xs := ([0, 1, 2, 3, 5, 40, 41, (-1)] : List Int)) (inner := [.int .i64 0, .int .i64 1, .int .i64 2, .int .i64 3, .int .i64 5, .int .i64 40, .int .i64 41, .int .i64 (-1)]) (ok := fun _ => True) (okp := fun _ => True) ?hr ?hp (fun _ hk => hk) trivial (Below.refl _ _) (Nat.le_refl _) (by simp) ?_; (case hd => rfl); (case hg => rfl); (case hr => first | (go_simp; done) | (go_simp; rfl)); (case hp => exact (Reps.one (show Kd.M (Kd.int .i64) _ _ _ 0 [.int .i64 0] from rfl) (Reps.one (show Kd.M (Kd.int .i64) _ _ _ 1 [.int .i64 1] from rfl) (Reps.one (show Kd.M (Kd.int .i64) _ _ _ 2 [.int .i64 2] from rfl) (Reps.one (show Kd.M (Kd.int .i64) _ _ _ 3 [.int .i64 3] from rfl) (Reps.one (show Kd.M (Kd.int .i64) _ _ _ 5 [.int .i64 5] from rfl) (Reps.one (show Kd.M (Kd.int .i64) _ _ _ 40 [.int .i64 40] from rfl) (Reps.one (show Kd.M (Kd.int .i64) _ _ _ 41 [.int .i64 41] from rfl) (Reps.one (show Kd.M (Kd.int .i64) _ _ _ (-1) [.int .i64 (-1)] from rfl) (Reps.none _ _)))))))))); intro v5 w_l5 hr hb hg_ hnew_; clear hg_ hnew_; (first | rw [← HYys.out] at hr | (simp only [Int.reduceToNat] at hr; rw [← HYys.out] at hr)); have R5 := Aside0.mk (Kd.R_lower hr (below_size bB)); replace BC := bQ BC hb; replace HB := Aside0.mk (below_step bB hb); clear hr hb; obtain ⟨A5, cc5, ee5⟩ := Kd.R_slice R5.out; subst ee5) | ((with_reducible refine gate_callee (f := 37) rfl ?_); refine goesL_ (some 20) rfl rfl Tryz.func37 kr rfl #[.pointer (some ⟨gC, 0, none⟩), .slice A5 ys.length cc5] rfl sM ?_; (with_reducible refine (spec_l1Cur_among.calls gC l0 c1_ d1_ _ _ ys s p' q' w _ ?side1 ?side2 ?side3 ?side4 ?side5 H2.out).mono ?_); (case side1 => exact ⟨A1, c1, bK BC, GEC.out, HR1.out⟩); (case side2 => exact bB); (case side3 => exact (Kd.R_reads' R5.out).2.2); (case side4 => exact (Kd.R_reads' R5.out).2.1); (case side5 => exact far_slice (IsS51.own_ne (show IsS51 w _ gC l0 c1_ d1_ from ⟨A1, c1, bK BC, GEC.out, HR1.out⟩) R5.out (by decide))); rintro e w_c20 ⟨rfl, hi, hb, hk⟩; refine ⟨_, rfl, ?_⟩; clear BC HR1 A1 c1; obtain ⟨A1, c1, hi1, hi2, hi3⟩ := hi; have BC := Aside0.mk hi1; have HR1 := Aside0.mk hi3; replace HB := Aside0.mk hb; clear hi1 hi2 hi3 hb hk))
  refine bodyPost_ret (results_list (rs := [.tmp 2, .tmp 3, .tmp 4]) rfl (by simp) (.tmp (.tmp (.tmp .nil)))) rfl ?_
  exact ⟨rfl, bB⟩
def spec_DrawImageAfter.f (k : Nat) (l0 : List Int) : Option (Int × Int × ByteArray) :=
  (spec_l1Cur_corridor.f l0 0 0).bind fun t => (spec_l1Cur_word.f k l0 t.2.2.1 t.2.2.2).bind fun s => some (t.1, t.2.1, s.1)
set_option maxHeartbeats 8000000 in
set_option maxRecDepth 100000 in
theorem spec_DrawImageAfter.calls (k : Nat) (A0 : Option Addr) (c0 : Nat) (l0 : List Int) (r1 r2 : Int) (r3 : ByteArray) (w : World) (hr0 : Kd.C (Kd.int .u8) w A0 l0.length l0) (hc0 : l0.length ≤ c0) (h : spec_DrawImageAfter.f k l0 = some (r1, r2, r3)) :
    Calls Tryz.prog 12 #[.slice A0 l0.length c0] w fun e w' => e = .returned (.tuple #[.int .i64 r1, .int .i64 r2, .string r3]) ∧ Below w.heap.size w w' := by
  unfold spec_DrawImageAfter.f at h
  obtain ⟨⟨t1, t2, c1_, d1_⟩, h1, h⟩ := Option.bind_eq_some_iff.mp h
  obtain ⟨⟨s, p', q'⟩, h2, h⟩ := Option.bind_eq_some_iff.mp h
  simp only [Option.some.injEq, Prod.mk.injEq] at h
  obtain ⟨rfl, rfl, rfl⟩ := h
  have H1 := Aside0.mk h1
  have H2 := Aside0.mk h2
  have HR := Aside0.mk hr0
  clear h1 h2 hr0
  have HB := Aside0.mk (Below.refl w.heap.size w)
  go_enter Tryz.func12, Tryz.ntmps12
  go_wp2_with (first | ((with_reducible refine gate_dst (N := 10) rfl ?_); refine box_ (cs := #[.slice A0 l0.length c0, .int .i64 0, .int .u64 0]) (t := 51) fun gC hg w_C hbox hb => ?_; have BC := Aside0.mk hbox; have GEC := bS HB hg; replace HB := Aside0.mk (below_step bB hb); clear hb hbox hg) | ((with_reducible refine gate_callee (f := 36) rfl ?_); refine goesL_ (some 13) rfl rfl Tryz.func36 kr rfl #[.pointer (some ⟨gC, 0, none⟩)] rfl sM ?_; (with_reducible refine (spec_l1Cur_corridor.calls gC l0 0 0  t1 t2 c1_ d1_ w _ ?side1 ?side2 H1.out).mono ?_); (case side1 => exact ⟨A0, c0, bK BC, GEC.out, HR.out⟩); (case side2 => exact bB); rintro e w_c13 ⟨rfl, hi, hb, hk⟩; refine ⟨_, rfl, ?_⟩; clear BC; obtain ⟨A1, c1, hi1, hi2, hi3⟩ := hi; have BC := Aside0.mk hi1; have HR1 := Aside0.mk hi3; replace HB := Aside0.mk hb; clear hi1 hi2 hi3 hb hk) | ((with_reducible refine gate_callee (f := 47) rfl ?_); refine goesL_ (some 19) rfl rfl Tryz.func47 kr rfl #[.pointer (some ⟨gC, 0, none⟩)] rfl sM ?_; (with_reducible refine (spec_l1Cur_word.calls k gC l0 c1_ d1_  s p' q' w _ ?side1 ?side2 H2.out).mono ?_); (case side1 => exact ⟨A1, c1, bK BC, GEC.out, HR1.out⟩); (case side2 => exact bB); rintro e w_c19 ⟨rfl, hi, hb, hk⟩; refine ⟨_, rfl, ?_⟩; clear BC HR1 A1 c1; obtain ⟨A1, c1, hi1, hi2, hi3⟩ := hi; have BC := Aside0.mk hi1; have HR1 := Aside0.mk hi3; replace HB := Aside0.mk hb; clear hi1 hi2 hi3 hb hk))
  refine bodyPost_ret (results_list (rs := [.tmp 2, .tmp 3, .tmp 4]) rfl (by simp) (.tmp (.tmp (.tmp .nil)))) rfl ?_
  exact ⟨rfl, bB⟩
def spec_DrawCountNear.f (l0 : List Int) : Option (Int × Int × Int × Int) :=
  (spec_l1Cur_corridor.f l0 0 0).bind fun t => (spec_l1Most.f t.1 0).bind fun m => (spec_l1Least.f m 10).bind fun n => (spec_l1Cur_pick.f l0 t.2.2.1 t.2.2.2 (wrap64 (n + 2))).bind fun a => (spec_l1Cur_among.f l0 a.2.1 a.2.2 [0, 1, 3, 10, 50, 10000, 10001, -1]).bind fun s => some (t.1, t.2.1, a.1, s.1)
set_option maxHeartbeats 8000000 in
set_option maxRecDepth 100000 in
theorem spec_DrawCountNear.calls (A0 : Option Addr) (c0 : Nat) (l0 : List Int) (r1 r2 r3 r4 : Int) (w : World) (hr0 : Kd.C (Kd.int .u8) w A0 l0.length l0) (hc0 : l0.length ≤ c0) (h : spec_DrawCountNear.f l0 = some (r1, r2, r3, r4)) :
    Calls Tryz.prog 16 #[.slice A0 l0.length c0] w fun e w' => e = .returned (.tuple #[.int .i64 r1, .int .i64 r2, .int .i64 r3, .int .i64 r4]) ∧ Below w.heap.size w w' := by
  unfold spec_DrawCountNear.f at h
  obtain ⟨⟨t1, t2, c1_, d1_⟩, h1, h⟩ := Option.bind_eq_some_iff.mp h
  obtain ⟨m1, h3, h⟩ := Option.bind_eq_some_iff.mp h
  obtain ⟨n1, h4, h⟩ := Option.bind_eq_some_iff.mp h
  obtain ⟨⟨a, c2_, d2_⟩, h5, h⟩ := Option.bind_eq_some_iff.mp h
  obtain ⟨⟨s, p', q'⟩, h2, h⟩ := Option.bind_eq_some_iff.mp h
  simp only [Option.some.injEq, Prod.mk.injEq] at h
  obtain ⟨rfl, rfl, rfl, rfl⟩ := h
  obtain ⟨ys, hyys⟩ : ∃ ys : List Int, ys = [0, 1, 3, 10, 50, 10000, 10001, -1] := ⟨_, rfl⟩
  have H2 : Aside0 (spec_l1Cur_among.f l0 c2_ d2_ ys = some (s, p', q')) := ⟨by rw [hyys]; exact h2⟩
  have HYys := Aside0.mk hyys
  clear hyys h2
  have H1 := Aside0.mk h1
  have H3 := Aside0.mk h3
  have H4 := Aside0.mk h4
  have H5 := Aside0.mk h5
  have HR := Aside0.mk hr0
  clear h1 h3 h4 h5 hr0
  have HB := Aside0.mk (Below.refl w.heap.size w)
  go_enter Tryz.func16, Tryz.ntmps16
  go_wp2_with (first | ((with_reducible refine gate_dst (N := 12) rfl ?_); refine box_ (cs := #[.slice A0 l0.length c0, .int .i64 0, .int .u64 0]) (t := 51) fun gC hg w_C hbox hb => ?_; have BC := Aside0.mk hbox; have GEC := bS HB hg; replace HB := Aside0.mk (below_step bB hb); clear hb hbox hg) | ((with_reducible refine gate_callee (f := 36) rfl ?_); refine goesL_ (some 15) rfl rfl Tryz.func36 kr rfl #[.pointer (some ⟨gC, 0, none⟩)] rfl sM ?_; (with_reducible refine (spec_l1Cur_corridor.calls gC l0 0 0  t1 t2 c1_ d1_ w _ ?side1 ?side2 H1.out).mono ?_); (case side1 => exact ⟨A0, c0, bK BC, GEC.out, HR.out⟩); (case side2 => exact bB); rintro e w_c15 ⟨rfl, hi, hb, hk⟩; refine ⟨_, rfl, ?_⟩; clear BC; obtain ⟨A1, c1, hi1, hi2, hi3⟩ := hi; have BC := Aside0.mk hi1; have HR1 := Aside0.mk hi3; replace HB := Aside0.mk hb; clear hi1 hi2 hi3 hb hk) | ((with_reducible refine gate_callee (f := 54) rfl ?_); refine goesL_ (some 20) rfl rfl Tryz.func54 kr rfl #[.int .i64 t1, .int .i64 0] rfl sM ?_; (with_reducible refine (spec_l1Most.calls t1 0 m1 _ H3.out).mono ?_); rintro e w' ⟨rfl, ⟨nd, rfl⟩⟩; refine ⟨_, rfl, ?_⟩) | ((with_reducible refine gate_callee (f := 53) rfl ?_); refine goesL_ (some 21) rfl rfl Tryz.func53 kr rfl #[.int .i64 m1, .int .i64 10] rfl sM ?_; (with_reducible refine (spec_l1Least.calls m1 10 n1 _ H4.out).mono ?_); rintro e w' ⟨rfl, ⟨nd, rfl⟩⟩; refine ⟨_, rfl, ?_⟩) | ((with_reducible refine gate_callee (f := 52) rfl ?_); refine goesL_ (some 23) rfl rfl Tryz.func52 kr rfl #[.pointer (some ⟨gC, 0, none⟩), .int .i64 (wrap64 (n1 + 2))] rfl sM ?_; (with_reducible refine (spec_l1Cur_pick.calls gC l0 c1_ d1_ (wrap64 (n1 + 2)) a c2_ d2_ w _ ?side1 ?side2 H5.out).mono ?_); (case side1 => exact ⟨A1, c1, bK BC, GEC.out, HR1.out⟩); (case side2 => exact bB); rintro e w_c23 ⟨rfl, hi, hb, hk⟩; refine ⟨_, rfl, ?_⟩; clear BC HR1 A1 c1; obtain ⟨A1, c1, hi1, hi2, hi3⟩ := hi; have BC := Aside0.mk hi1; have HR1 := Aside0.mk hi3; replace HB := Aside0.mk hb; clear hi1 hi2 hi3 hb hk) | ((with_reducible refine gate_dst (N := 28) rfl ?_); refine Kd.R_lit (Kd.int .i64) _ 3 ?hg (N := 28) ?hd (xs := ([0, 1, 3, 10, 50, 10000, 10001, (-1)] : List Int)) (inner := [.int .i64 0, .int .i64 1, .int .i64 3, .int .i64 10, .int .i64 50, .int .i64 10000, .int .i64 10001, .int .i64 (-1)]) (ok := fun _ => True) (okp := fun _ => True) ?hr ?hp (fun _ hk => hk) trivial (Below.refl _ _) (Nat.le_refl _) (by simp) ?_; (case hd => rfl); (case hg => rfl); (case hr => first | (go_simp; done) | (go_simp; rfl)); (case hp => exact (Reps.one (show Kd.M (Kd.int .i64) _ _ _ 0 [.int .i64 0] from rfl) (Reps.one (show Kd.M (Kd.int .i64) _ _ _ 1 [.int .i64 1] from rfl) (Reps.one (show Kd.M (Kd.int .i64) _ _ _ 3 [.int .i64 3] from rfl) (Reps.one (show Kd.M (Kd.int .i64) _ _ _ 10 [.int .i64 10] from rfl) (Reps.one (show Kd.M (Kd.int .i64) _ _ _ 50 [.int .i64 50] from rfl) (Reps.one (show Kd.M (Kd.int .i64) _ _ _ 10000 [.int .i64 10000] from rfl) (Reps.one (show Kd.M (Kd.int .i64) _ _ _ 10001 [.int .i64 10001] from rfl) (Reps.one (show Kd.M (Kd.int .i64) _ _ _ (-1) [.int .i64 (-1)] from rfl) (Reps.none _ _)))))))))); intro v5 w_l5 hr hb hg_ hnew_; clear hg_ hnew_; (first | rw [← HYys.out] at hr | (simp only [Int.reduceToNat] at hr; rw [← HYys.out] at hr)); have R5 := Aside0.mk (Kd.R_lower hr (below_size bB)); replace BC := bQ BC hb; replace HB := Aside0.mk (below_step bB hb); clear hr hb; obtain ⟨A5, cc5, ee5⟩ := Kd.R_slice R5.out; subst ee5) | ((with_reducible refine gate_callee (f := 37) rfl ?_); refine goesL_ (some 29) rfl rfl Tryz.func37 kr rfl #[.pointer (some ⟨gC, 0, none⟩), .slice A5 ys.length cc5] rfl sM ?_; (with_reducible refine (spec_l1Cur_among.calls gC l0 c2_ d2_ _ _ ys s p' q' w _ ?side1 ?side2 ?side3 ?side4 ?side5 H2.out).mono ?_); (case side1 => exact ⟨A1, c1, bK BC, GEC.out, HR1.out⟩); (case side2 => exact bB); (case side3 => exact (Kd.R_reads' R5.out).2.2); (case side4 => exact (Kd.R_reads' R5.out).2.1); (case side5 => exact far_slice (IsS51.own_ne (show IsS51 w _ gC l0 c2_ d2_ from ⟨A1, c1, bK BC, GEC.out, HR1.out⟩) R5.out (by decide))); rintro e w_c29 ⟨rfl, hi, hb, hk⟩; refine ⟨_, rfl, ?_⟩; clear BC HR1 A1 c1; obtain ⟨A1, c1, hi1, hi2, hi3⟩ := hi; have BC := Aside0.mk hi1; have HR1 := Aside0.mk hi3; replace HB := Aside0.mk hb; clear hi1 hi2 hi3 hb hk))
  refine bodyPost_ret (results_list (rs := [.tmp 2, .tmp 3, .tmp 4, .tmp 5]) rfl (by simp) (.tmp (.tmp (.tmp (.tmp .nil))))) rfl ?_
  exact ⟨rfl, bB⟩
def spec_DrawFarthestOf.f (l0 : List Int) : Option (Int × Int × Int × Int) :=
  (spec_l1Cur_corridor.f l0 0 0).bind fun t => (spec_l1Most.f t.1 0).bind fun m => (spec_l1Least.f m 10).bind fun n => (spec_l1Cur_pick.f l0 t.2.2.1 t.2.2.2 (wrap64 (n + 2))).bind fun a => (spec_l1Cur_among.f l0 a.2.1 a.2.2 [1, 2, 3, 5, 40, 41, 0]).bind fun s => some (t.1, t.2.1, a.1, s.1)
set_option maxHeartbeats 8000000 in
set_option maxRecDepth 100000 in
theorem spec_DrawFarthestOf.calls (A0 : Option Addr) (c0 : Nat) (l0 : List Int) (r1 r2 r3 r4 : Int) (w : World) (hr0 : Kd.C (Kd.int .u8) w A0 l0.length l0) (hc0 : l0.length ≤ c0) (h : spec_DrawFarthestOf.f l0 = some (r1, r2, r3, r4)) :
    Calls Tryz.prog 19 #[.slice A0 l0.length c0] w fun e w' => e = .returned (.tuple #[.int .i64 r1, .int .i64 r2, .int .i64 r3, .int .i64 r4]) ∧ Below w.heap.size w w' := by
  unfold spec_DrawFarthestOf.f at h
  obtain ⟨⟨t1, t2, c1_, d1_⟩, h1, h⟩ := Option.bind_eq_some_iff.mp h
  obtain ⟨m1, h3, h⟩ := Option.bind_eq_some_iff.mp h
  obtain ⟨n1, h4, h⟩ := Option.bind_eq_some_iff.mp h
  obtain ⟨⟨a, c2_, d2_⟩, h5, h⟩ := Option.bind_eq_some_iff.mp h
  obtain ⟨⟨s, p', q'⟩, h2, h⟩ := Option.bind_eq_some_iff.mp h
  simp only [Option.some.injEq, Prod.mk.injEq] at h
  obtain ⟨rfl, rfl, rfl, rfl⟩ := h
  obtain ⟨ys, hyys⟩ : ∃ ys : List Int, ys = [1, 2, 3, 5, 40, 41, 0] := ⟨_, rfl⟩
  have H2 : Aside0 (spec_l1Cur_among.f l0 c2_ d2_ ys = some (s, p', q')) := ⟨by rw [hyys]; exact h2⟩
  have HYys := Aside0.mk hyys
  clear hyys h2
  have H1 := Aside0.mk h1
  have H3 := Aside0.mk h3
  have H4 := Aside0.mk h4
  have H5 := Aside0.mk h5
  have HR := Aside0.mk hr0
  clear h1 h3 h4 h5 hr0
  have HB := Aside0.mk (Below.refl w.heap.size w)
  go_enter Tryz.func19, Tryz.ntmps19
  go_wp2_with (first | ((with_reducible refine gate_dst (N := 12) rfl ?_); refine box_ (cs := #[.slice A0 l0.length c0, .int .i64 0, .int .u64 0]) (t := 51) fun gC hg w_C hbox hb => ?_; have BC := Aside0.mk hbox; have GEC := bS HB hg; replace HB := Aside0.mk (below_step bB hb); clear hb hbox hg) | ((with_reducible refine gate_callee (f := 36) rfl ?_); refine goesL_ (some 15) rfl rfl Tryz.func36 kr rfl #[.pointer (some ⟨gC, 0, none⟩)] rfl sM ?_; (with_reducible refine (spec_l1Cur_corridor.calls gC l0 0 0  t1 t2 c1_ d1_ w _ ?side1 ?side2 H1.out).mono ?_); (case side1 => exact ⟨A0, c0, bK BC, GEC.out, HR.out⟩); (case side2 => exact bB); rintro e w_c15 ⟨rfl, hi, hb, hk⟩; refine ⟨_, rfl, ?_⟩; clear BC; obtain ⟨A1, c1, hi1, hi2, hi3⟩ := hi; have BC := Aside0.mk hi1; have HR1 := Aside0.mk hi3; replace HB := Aside0.mk hb; clear hi1 hi2 hi3 hb hk) | ((with_reducible refine gate_callee (f := 54) rfl ?_); refine goesL_ (some 20) rfl rfl Tryz.func54 kr rfl #[.int .i64 t1, .int .i64 0] rfl sM ?_; (with_reducible refine (spec_l1Most.calls t1 0 m1 _ H3.out).mono ?_); rintro e w' ⟨rfl, ⟨nd, rfl⟩⟩; refine ⟨_, rfl, ?_⟩) | ((with_reducible refine gate_callee (f := 53) rfl ?_); refine goesL_ (some 21) rfl rfl Tryz.func53 kr rfl #[.int .i64 m1, .int .i64 10] rfl sM ?_; (with_reducible refine (spec_l1Least.calls m1 10 n1 _ H4.out).mono ?_); rintro e w' ⟨rfl, ⟨nd, rfl⟩⟩; refine ⟨_, rfl, ?_⟩) | ((with_reducible refine gate_callee (f := 52) rfl ?_); refine goesL_ (some 23) rfl rfl Tryz.func52 kr rfl #[.pointer (some ⟨gC, 0, none⟩), .int .i64 (wrap64 (n1 + 2))] rfl sM ?_; (with_reducible refine (spec_l1Cur_pick.calls gC l0 c1_ d1_ (wrap64 (n1 + 2)) a c2_ d2_ w _ ?side1 ?side2 H5.out).mono ?_); (case side1 => exact ⟨A1, c1, bK BC, GEC.out, HR1.out⟩); (case side2 => exact bB); rintro e w_c23 ⟨rfl, hi, hb, hk⟩; refine ⟨_, rfl, ?_⟩; clear BC HR1 A1 c1; obtain ⟨A1, c1, hi1, hi2, hi3⟩ := hi; have BC := Aside0.mk hi1; have HR1 := Aside0.mk hi3; replace HB := Aside0.mk hb; clear hi1 hi2 hi3 hb hk) | ((with_reducible refine gate_dst (N := 28) rfl ?_); refine Kd.R_lit (Kd.int .i64) _ 3 ?hg (N := 28) ?hd (xs := ([1, 2, 3, 5, 40, 41, 0] : List Int)) (inner := [.int .i64 1, .int .i64 2, .int .i64 3, .int .i64 5, .int .i64 40, .int .i64 41, .int .i64 0]) (ok := fun _ => True) (okp := fun _ => True) ?hr ?hp (fun _ hk => hk) trivial (Below.refl _ _) (Nat.le_refl _) (by simp) ?_; (case hd => rfl); (case hg => rfl); (case hr => first | (go_simp; done) | (go_simp; rfl)); (case hp => exact (Reps.one (show Kd.M (Kd.int .i64) _ _ _ 1 [.int .i64 1] from rfl) (Reps.one (show Kd.M (Kd.int .i64) _ _ _ 2 [.int .i64 2] from rfl) (Reps.one (show Kd.M (Kd.int .i64) _ _ _ 3 [.int .i64 3] from rfl) (Reps.one (show Kd.M (Kd.int .i64) _ _ _ 5 [.int .i64 5] from rfl) (Reps.one (show Kd.M (Kd.int .i64) _ _ _ 40 [.int .i64 40] from rfl) (Reps.one (show Kd.M (Kd.int .i64) _ _ _ 41 [.int .i64 41] from rfl) (Reps.one (show Kd.M (Kd.int .i64) _ _ _ 0 [.int .i64 0] from rfl) (Reps.none _ _))))))))); intro v5 w_l5 hr hb hg_ hnew_; clear hg_ hnew_; (first | rw [← HYys.out] at hr | (simp only [Int.reduceToNat] at hr; rw [← HYys.out] at hr)); have R5 := Aside0.mk (Kd.R_lower hr (below_size bB)); replace BC := bQ BC hb; replace HB := Aside0.mk (below_step bB hb); clear hr hb; obtain ⟨A5, cc5, ee5⟩ := Kd.R_slice R5.out; subst ee5) | ((with_reducible refine gate_callee (f := 37) rfl ?_); refine goesL_ (some 29) rfl rfl Tryz.func37 kr rfl #[.pointer (some ⟨gC, 0, none⟩), .slice A5 ys.length cc5] rfl sM ?_; (with_reducible refine (spec_l1Cur_among.calls gC l0 c2_ d2_ _ _ ys s p' q' w _ ?side1 ?side2 ?side3 ?side4 ?side5 H2.out).mono ?_); (case side1 => exact ⟨A1, c1, bK BC, GEC.out, HR1.out⟩); (case side2 => exact bB); (case side3 => exact (Kd.R_reads' R5.out).2.2); (case side4 => exact (Kd.R_reads' R5.out).2.1); (case side5 => exact far_slice (IsS51.own_ne (show IsS51 w _ gC l0 c2_ d2_ from ⟨A1, c1, bK BC, GEC.out, HR1.out⟩) R5.out (by decide))); rintro e w_c29 ⟨rfl, hi, hb, hk⟩; refine ⟨_, rfl, ?_⟩; clear BC HR1 A1 c1; obtain ⟨A1, c1, hi1, hi2, hi3⟩ := hi; have BC := Aside0.mk hi1; have HR1 := Aside0.mk hi3; replace HB := Aside0.mk hb; clear hi1 hi2 hi3 hb hk))
  refine bodyPost_ret (results_list (rs := [.tmp 2, .tmp 3, .tmp 4, .tmp 5]) rfl (by simp) (.tmp (.tmp (.tmp (.tmp .nil))))) rfl ?_
  exact ⟨rfl, bB⟩

/-! ### impl_within: function 39 -/
def impl_within.f (a0 : Int) (a1 : Int) (a2 : Int) : Option (Bool) := if a0 ≥ a1 then (some (decide (a0 ≤ a2))) else (some false)
set_option maxHeartbeats 8000000 in
set_option maxRecDepth 100000 in
theorem impl_within.calls (a0 : Int) (a1 : Int) (a2 : Int) (r : Bool) (w : World) (h : impl_within.f a0 a1 a2 = some r) :
    Calls Tryz.prog 39 #[.int .i64 a0, .int .i64 a1, .int .i64 a2] w fun e w' => e = .returned (.bool r) ∧ Drawn0 w w' := by
  have H : (if a0 ≥ a1 then (some (decide (a0 ≤ a2))) else (some false)) = some r := h
  clear h
  by_cases c4 : a0 ≥ a1
  rw [if_pos c4] at H
  have c4b0 : decide (a1 ≤ a0) = true := decide_eq_true c4
  clear c4
  obtain rfl := Option.some.inj H
  rotate_left
  rw [if_neg c4] at H
  have c4b0 : decide (a1 ≤ a0) = false := decide_eq_false c4
  clear c4
  obtain rfl := Option.some.inj H
  rotate_left
  all_goals (go_enter Tryz.func39, Tryz.ntmps39)
  all_goals go_wp2
  all_goals go_ret
  all_goals (exact ⟨by first | rfl | (simp; done) | (simp [*]; done), by repeat (first | exact Drawn0.refl _ | apply Drawn0.step)⟩)

/-! ### impl_isCorridor: function 38 -/
def impl_isCorridor.f (a0 : Int) (a1 : Int) : Option (Bool) := (impl_within.f a0 1 500).bind fun t178 => (if t178 = true then ((impl_within.f a1 0 a0).bind fun t179 => (some t179)) else (some false))
set_option maxHeartbeats 8000000 in
set_option maxRecDepth 100000 in
theorem impl_isCorridor.calls (a0 : Int) (a1 : Int) (r : Bool) (w : World) (h : impl_isCorridor.f a0 a1 = some r) :
    Calls Tryz.prog 38 #[.int .i64 a0, .int .i64 a1] w fun e w' => e = .returned (.bool r) ∧ Drawn0 w w' := by
  have H : ((impl_within.f a0 1 500).bind fun t178 => (if t178 = true then ((impl_within.f a1 0 a0).bind fun t179 => (some t179)) else (some false))) = some r := h
  clear h
  replace H := Option.bind_eq_some_iff.mp H
  obtain ⟨t178, A30, H⟩ := H
  replace H : (if t178 = true then ((impl_within.f a1 0 a0).bind fun t179 => (some t179)) else (some false)) = some r := H
  have A3 := Aside0.mk A30
  clear A30
  by_cases c4 : t178 = true
  · subst c4
    have H1 : ((impl_within.f a1 0 a0).bind fun t179 => (some t179)) = some r := by rw [if_pos rfl] at H; exact H
    clear H
    have H := H1
    clear H1
    replace H := Option.bind_eq_some_iff.mp H
    obtain ⟨t179, A50, H⟩ := H
    replace H : (some t179) = some r := H
    have A5 := Aside0.mk A50
    clear A50
    obtain rfl := Option.some.inj H
    go_enter Tryz.func38, Tryz.ntmps38
    go_wp2_with (first | ((with_reducible refine gate_callee (f := 39) rfl ?_); refine goesL_ (some 6) rfl rfl Tryz.func39 (by kernel_rfl) rfl #[.int .i64 a0, .int .i64 1, .int .i64 500] rfl (by (try simp only [List.map_toArray, List.map_cons, List.map_nil]); first | done | rfl | (simp only [List.length_drop, List.length_take]; rfl)) ?_; (with_reducible refine (impl_within.calls a0 1 500 true _ A3.out).mono ?_); rintro e w' ⟨rfl, ⟨nd, rfl⟩⟩; refine ⟨_, rfl, ?_⟩) | (go_at_call 39; (with_reducible refine (impl_within.calls a1 0 a0 t179 _ A5.out).mono ?_); rintro e w' ⟨rfl, ⟨nd, rfl⟩⟩))
    go_ret
    exact ⟨by first | rfl | (simp; done) | (simp [*]; done), by repeat (first | exact Drawn0.refl _ | apply Drawn0.step)⟩
  · replace c4 := Bool.eq_false_iff.mpr c4
    subst c4
    have H1 : (some false) = some r := by rw [if_neg (show ¬ (false = true) by decide)] at H; exact H
    clear H
    have H := H1
    clear H1
    obtain rfl := Option.some.inj H
    go_enter Tryz.func38, Tryz.ntmps38
    go_wp2_with (first | ((with_reducible refine gate_callee (f := 39) rfl ?_); refine goesL_ (some 6) rfl rfl Tryz.func39 (by kernel_rfl) rfl #[.int .i64 a0, .int .i64 1, .int .i64 500] rfl (by (try simp only [List.map_toArray, List.map_cons, List.map_nil]); first | done | rfl | (simp only [List.length_drop, List.length_take]; rfl)) ?_; (with_reducible refine (impl_within.calls a0 1 500 false _ A3.out).mono ?_); rintro e w' ⟨rfl, ⟨nd, rfl⟩⟩; refine ⟨_, rfl, ?_⟩))
    go_ret
    exact ⟨by first | rfl | (simp; done) | (simp [*]; done), by repeat (first | exact Drawn0.refl _ | apply Drawn0.step)⟩

/-! ### strings_Repeat: function 69 -/
def strings_Repeat.f (a0 : ByteArray) (a1 : Int) : Option (ByteArray) := if a0.size ≤ 1000 ∧ 0 ≤ a1 ∧ a1 ≤ 1000000 then some ⟨(Lib.repeatL a0.data.toList a1.toNat).toArray⟩ else none
theorem strings_Repeat.calls (a0 : ByteArray) (a1 : Int) (r : ByteArray) (w : World) (h : strings_Repeat.f a0 a1 = some r) :
    Calls Tryz.prog 69 #[.string a0, .int .i64 a1] w fun e w' => e = .returned (.string r) ∧ Below w.heap.size w w' := by
  unfold strings_Repeat.f at h
  by_cases c : a0.size ≤ 1000 ∧ 0 ≤ a1 ∧ a1 ≤ 1000000
  · rw [if_pos c] at h
    obtain ⟨h0, h1, h2⟩ := c
    obtain ⟨n, rfl⟩ := Int.eq_ofNat_of_zero_le h1
    obtain rfl := Option.some.inj h
    have hb : a0.size * n ≤ 1000 * 1000000 := Nat.mul_le_mul h0 (by omega)
    exact Tryz.strings_Repeat a0 n w (by omega) (by omega)
  · rw [if_neg c] at h
    cases h

/-! ### impl_wordsOf: function 40 -/
def impl_wordsOf.f (a0 : Int) : Option (List ByteArray) := (strings_Repeat.f (⟨#[108, 114]⟩ : ByteArray) (wrap64 ((wrap64 (Int.tdiv a0 2)) + 1))).bind fun t180 => (if a0 = 0 then (some (([(⟨#[]⟩ : ByteArray)] : List ByteArray))) else (if 0 ≤ a0 then (if a0 ≤ (t180.size : Int) then (if 1 ≤ (wrap64 (a0 + 1)) then (if (wrap64 (a0 + 1)) ≤ (t180.size : Int) then (some (([t180.extract 0 (a0 : Int).toNat, t180.extract 1 ((wrap64 (a0 + 1)) : Int).toNat] : List ByteArray))) else (none)) else (none)) else (none)) else (none)))
def impl_wordsOf.T4 : Bool × List (List Nat × List Nat) := (true, [([], []), ([], []), ([0, 1], [0, 1]), ([], []), ([], []), ([4], [4]), ([3, 5], [3, 5]), ([2, 6], [2, 6]), ([7, 0, 1, 2, 3, 4, 5, 6, 7], [7])])
def impl_wordsOf.B4 : List Nat := [0, 0, 3, 0, 0, 16, 56, 127, 255]
theorem impl_wordsOf.tab4 : rtab .any (opsOf Tryz.f40 4) = impl_wordsOf.T4 := by kernel_rfl
theorem impl_wordsOf.bits4 : waitsOk impl_wordsOf.T4.2 impl_wordsOf.B4 = true := by kernel_rfl
set_option maxHeartbeats 8000000 in
set_option maxRecDepth 100000 in
theorem impl_wordsOf.calls (a0 : Int) (r : List ByteArray) (w : World) (h : impl_wordsOf.f a0 = some r) :
    Calls Tryz.prog 40 #[.int .i64 a0] w fun e w' => ∃ v0_ : Value, e = .returned (v0_) ∧ Kd.R Kd.string 9 w' w.heap.size (fun _ => True) v0_ r ∧ Below w.heap.size w w' := by
  have HB := Aside0.mk (Below.refl w.heap.size w)
  have H : ((strings_Repeat.f (⟨#[108, 114]⟩ : ByteArray) (wrap64 ((wrap64 (Int.tdiv a0 2)) + 1))).bind fun t180 => (if a0 = 0 then (some (([(⟨#[]⟩ : ByteArray)] : List ByteArray))) else (if 0 ≤ a0 then (if a0 ≤ (t180.size : Int) then (if 1 ≤ (wrap64 (a0 + 1)) then (if (wrap64 (a0 + 1)) ≤ (t180.size : Int) then (some (([t180.extract 0 (a0 : Int).toNat, t180.extract 1 ((wrap64 (a0 + 1)) : Int).toNat] : List ByteArray))) else (none)) else (none)) else (none)) else (none)))) = some r := h
  clear h
  replace H := Option.bind_eq_some_iff.mp H
  obtain ⟨t180, A20, H⟩ := H
  replace H : (if a0 = 0 then (some (([(⟨#[]⟩ : ByteArray)] : List ByteArray))) else (if 0 ≤ a0 then (if a0 ≤ (t180.size : Int) then (if 1 ≤ (wrap64 (a0 + 1)) then (if (wrap64 (a0 + 1)) ≤ (t180.size : Int) then (some (([t180.extract 0 (a0 : Int).toNat, t180.extract 1 ((wrap64 (a0 + 1)) : Int).toNat] : List ByteArray))) else (none)) else (none)) else (none)) else (none))) = some r := H
  have A2 := Aside0.mk A20
  clear A20
  by_cases c3 : a0 = 0
  · rw [if_pos c3] at H
    have c3b0 : (a0 == 0) = true := beq_iff_eq.mpr c3
    have c3b1 : (a0 != 0) = false := bne_eq_false_iff_eq.mpr c3
    clear c3
    obtain ⟨y181, hy181⟩ : ∃ y_ : List ByteArray, y_ = (([(⟨#[]⟩ : ByteArray)] : List ByteArray)) := ⟨_, rfl⟩
    replace H : (some y181) = some r := by first | (rw [hy181]; with_reducible exact H) | (have H2_ := (Option.bind_some _ _).symm.trans H; rw [hy181]; with_reducible exact H2_) | (have H2_ := (Option.bind_some _ _).symm.trans H; with_reducible exact H2_) | with_reducible exact H | (rw [hy181]; exact H) | exact H
    have Ny181 := Aside0.mk hy181
    clear hy181
    obtain rfl := Option.some.inj H
    go_enter Tryz.func40, Tryz.ntmps40
    go_wp2_with (first | ((with_reducible refine gate_callee (f := 69) rfl ?_); refine goesL_ (some 7) rfl rfl Tryz.func69 (by kernel_rfl) rfl #[.string (⟨#[108, 114]⟩ : ByteArray), .int .i64 (wrap64 ((wrap64 (Int.tdiv a0 2)) + 1))] rfl (by (try simp only [List.map_toArray, List.map_cons, List.map_nil]); first | done | rfl | (simp only [List.length_drop, List.length_take]; rfl)) ?_; (with_reducible refine (strings_Repeat.calls (⟨#[108, 114]⟩ : ByteArray) (wrap64 ((wrap64 (Int.tdiv a0 2)) + 1)) t180 _ A2.out).mono ?_); rintro e w4 ⟨rfl, hb⟩; refine ⟨_, rfl, ?_⟩; have n0_ := Aside0.mk (below_step (by repeat (first | (with_reducible first | exact HB.out | apply below_alloc | apply pw_below_drewN | apply below_drew1) | exact HB.out)) hb); clear HB; have HB := n0_; clear n0_; (try clear hb); (try clear hb2); (try clear hk); (try clear hi)) | ((with_reducible refine gate_dst (N := 10) rfl ?_); refine Kd.R_lit Kd.string _ 9 ?hg (N := 10) ?hd (xs := ([(⟨#[]⟩ : ByteArray)] : List ByteArray)) (inner := [.string (⟨#[]⟩ : ByteArray)]) (ok := fun _ => True) (okp := fun _ => True) ?hr ?hp (fun _ hk => hk) trivial (Below.refl _ _) (Nat.le_refl _) (by simp) ?_; (case hd => rfl); (case hg => rfl); (case hr => first | (go_simp; done) | (go_simp; rfl)); (case hp => exact (Reps.one (show Kd.M Kd.string _ _ _ (⟨#[]⟩ : ByteArray) [.string (⟨#[]⟩ : ByteArray)] from rfl) (Reps.none _ _))); intro v182 w5 ho6 hb hg_ hnew_; clear hg_ hnew_; (first | rw [← Ny181.out] at ho6 | (simp only [Int.reduceToNat] at ho6; rw [← Ny181.out] at ho6)); have n0_ := Aside0.mk (Kd.R_lower ho6 (below_size (by repeat (first | (with_reducible first | exact HB.out | apply below_alloc | apply pw_below_drewN | apply below_drew1) | exact HB.out)))); have n1_ := Aside0.mk (below_step (by repeat (first | (with_reducible first | exact HB.out | apply below_alloc | apply pw_below_drewN | apply below_drew1) | exact HB.out)) hb); clear HB; have HO183 := n0_; have HB := n1_; clear n0_ n1_; clear hb ho6))
    go_ret
    exact ⟨_, by first | rfl | (simp [errW_none, errW_some] <;> rfl) | (simp [*, errW_none, errW_some] <;> rfl), by (with_reducible repeat (first | apply Kd.R_alloc | apply Kd.R_drewN | apply Kd.R_drew)); exact HO183.out, by repeat (first | (with_reducible first | exact HB.out | apply below_alloc | apply pw_below_drewN | apply below_drew1) | exact HB.out)⟩
  · rw [if_neg c3] at H
    have c3b0 : (a0 == 0) = false := beq_eq_false_iff_ne.mpr c3
    have c3b1 : (a0 != 0) = true := bne_iff_ne.mpr c3
    by_cases c7 : 0 ≤ a0
    · rw [if_pos c7] at H
      have c7b0 := eq_true c7
      have c7b1 : decide (0 ≤ a0) = true := decide_eq_true c7
      clear c7
      by_cases c8 : a0 ≤ (t180.size : Int)
      · rw [if_pos c8] at H
        have c8b0 := eq_true c8
        have c8b1 : decide (a0 ≤ (t180.size : Int)) = true := decide_eq_true c8
        clear c8
        by_cases c9 : 1 ≤ (wrap64 (a0 + 1))
        · rw [if_pos c9] at H
          have c9b0 := eq_true c9
          have c9b1 : decide (1 ≤ (wrap64 (a0 + 1))) = true := decide_eq_true c9
          by_cases c10 : (wrap64 (a0 + 1)) ≤ (t180.size : Int)
          · rw [if_pos c10] at H
            have c10b0 := eq_true c10
            have c10b1 : decide ((wrap64 (a0 + 1)) ≤ (t180.size : Int)) = true := decide_eq_true c10
            obtain ⟨y184, hy184⟩ : ∃ y_ : List ByteArray, y_ = (([t180.extract 0 (a0 : Int).toNat, t180.extract 1 ((wrap64 (a0 + 1)) : Int).toNat] : List ByteArray)) := ⟨_, rfl⟩
            replace H : (some y184) = some r := by first | (rw [hy184]; with_reducible exact H) | (have H2_ := (Option.bind_some _ _).symm.trans H; rw [hy184]; with_reducible exact H2_) | (have H2_ := (Option.bind_some _ _).symm.trans H; with_reducible exact H2_) | with_reducible exact H | (rw [hy184]; exact H) | exact H
            have Ny184 := Aside0.mk hy184
            clear hy184
            obtain rfl := Option.some.inj H
            go_enter Tryz.func40, Tryz.ntmps40
            try go_wp2_with (first | ((with_reducible refine gate_callee (f := 69) rfl ?_); refine goesL_ (some 7) rfl rfl Tryz.func69 (by kernel_rfl) rfl #[.string (⟨#[108, 114]⟩ : ByteArray), .int .i64 (wrap64 ((wrap64 (Int.tdiv a0 2)) + 1))] rfl (by (try simp only [List.map_toArray, List.map_cons, List.map_nil]); first | done | rfl | (simp only [List.length_drop, List.length_take]; rfl)) ?_; (with_reducible refine (strings_Repeat.calls (⟨#[108, 114]⟩ : ByteArray) (wrap64 ((wrap64 (Int.tdiv a0 2)) + 1)) t180 _ A2.out).mono ?_); rintro e w11 ⟨rfl, hb⟩; refine ⟨_, rfl, ?_⟩; have n0_ := Aside0.mk (below_step (by repeat (first | (with_reducible first | exact HB.out | apply below_alloc | apply pw_below_drewN | apply below_drew1) | exact HB.out)) hb); clear HB; have HB := n0_; clear n0_; (try clear hb); (try clear hb2); (try clear hk); (try clear hi)))
            have n0_ := Aside0.mk (below_drew1 HB.out)
            clear HB
            have HB := n0_
            clear n0_
            refine start_ (n := 9) (S := fun w' => True) (ds := []) #[false, false, false, false, false, false, false, false, false] (by kernel_rfl) rfl rfl trivial (fun hHeld => ?_); refine with_tabW impl_wordsOf.tab4 impl_wordsOf.bits4 (fun HT_ HW_ => ?_)
            generalize w11.drew = w12 at HB hHeld ⊢
            refine pure_ (i := 0) (N := some 11) (v := ?_) (a' := ?_) #[true, false, false, false, false, false, false, false, false] rfl rfl (any_of HT_.out (by kernel_rfl)) (fun _ _ _ h => h) (Or.inl ⟨by rfl, ?_⟩) ?_ ?_
            rotate_left
            · intro w'
              go_simp
              with_reducible rfl
            rotate_left
            · simp only [Act.put, List.setIfInBounds_toArray, List.set_cons_zero, List.set_cons_succ, i64_w, i32_w]
              rfl
            refine pure_ (i := 1) (N := some 12) (v := ?_) (a' := ?_) #[true, true, false, false, false, false, false, false, false] rfl rfl (any_of HT_.out (by kernel_rfl)) (fun _ _ _ h => h) (Or.inl ⟨by rfl, ?_⟩) ?_ ?_
            rotate_left
            · intro w'
              go_simp
              with_reducible rfl
            rotate_left
            · simp only [Act.put, List.setIfInBounds_toArray, List.set_cons_zero, List.set_cons_succ, i64_w, i32_w]
              rfl
            refine pure_ (i := 2) (N := some 13) (v := ?_) (a' := ?_) #[true, true, true, false, false, false, false, false, false] rfl rfl (any_of HT_.out (by kernel_rfl)) (fun _ _ _ h => h) (Or.inl ⟨by rfl, ?_⟩) ?_ ?_
            rotate_left
            · intro w'
              go_simp
              with_reducible rfl
            rotate_left
            · simp only [Act.put, List.setIfInBounds_toArray, List.set_cons_zero, List.set_cons_succ, i64_w, i32_w]
              rfl
            refine pure_ (i := 3) (N := some 14) (v := ?_) (a' := ?_) #[true, true, true, true, false, false, false, false, false] rfl rfl (any_of HT_.out (by kernel_rfl)) (fun _ _ _ h => h) (Or.inl ⟨by rfl, ?_⟩) ?_ ?_
            rotate_left
            · intro w'
              go_simp
              with_reducible rfl
            rotate_left
            · simp only [Act.put, List.setIfInBounds_toArray, List.set_cons_zero, List.set_cons_succ, i64_w, i32_w]
              rfl
            refine pure_ (i := 4) (N := some 15) (v := ?_) (a' := ?_) #[true, true, true, true, true, false, false, false, false] rfl rfl (any_of HT_.out (by kernel_rfl)) (fun _ _ _ h => h) (Or.inl ⟨by rfl, ?_⟩) ?_ ?_
            rotate_left
            · intro w'
              go_simp
              with_reducible rfl
            rotate_left
            · simp only [Act.put, List.setIfInBounds_toArray, List.set_cons_zero, List.set_cons_succ, i64_w, i32_w]
              rfl
            refine pure_ (i := 5) (N := some 16) (v := ?_) (a' := ?_) #[true, true, true, true, true, true, false, false, false] rfl rfl (any_of HT_.out (by kernel_rfl)) (fun _ _ _ h => h) (Or.inl ⟨by rfl, ?_⟩) ?_ ?_
            rotate_left
            · intro w'
              go_simp
              with_reducible rfl
            rotate_left
            · simp only [Act.put, List.setIfInBounds_toArray, List.set_cons_zero, List.set_cons_succ, i64_w, i32_w]
              rfl
            refine pure_ (i := 6) (N := some 17) (v := ?_) (a' := ?_) #[true, true, true, true, true, true, true, false, false] rfl rfl (any_of HT_.out (by kernel_rfl)) (fun _ _ _ h => h) (Or.inl ⟨by rfl, ?_⟩) ?_ ?_
            rotate_left
            · intro w'
              go_simp
              with_reducible rfl
            rotate_left
            · simp only [Act.put, List.setIfInBounds_toArray, List.set_cons_zero, List.set_cons_succ, i64_w, i32_w]
              rfl
            refine one_ (i := 7) (N := some 18) #[true, true, true, true, true, true, true, true, false] rfl rfl (one_of HT_.out (by kernel_rfl)) (by decide) (fun K hK => ?_)
            refine Kd.R_lit_step Kd.string _ 9 ?hg (N := 18) ?hd (xs := ([t180.extract 0 (a0 : Int).toNat, t180.extract 1 ((wrap64 (a0 + 1)) : Int).toNat] : List ByteArray)) (inner := [.string (t180.extract 0 (a0 : Int).toNat), .string (t180.extract 1 ((wrap64 (a0 + 1)) : Int).toNat)]) (ok := fun _ => True) (okp := fun _ => True) ?hr ?hp (fun _ hk => hk) trivial (Below.refl _ _) (Nat.le_refl _) (by simp) ?_; (case hd => rfl); (case hg => rfl); (case hr => first | (go_simp; done) | (go_simp; rfl)); (case hp => exact (Reps.one (show Kd.M Kd.string _ _ _ (t180.extract 0 (a0 : Int).toNat) [.string (t180.extract 0 (a0 : Int).toNat)] from rfl) (Reps.one (show Kd.M Kd.string _ _ _ (t180.extract 1 ((wrap64 (a0 + 1)) : Int).toNat) [.string (t180.extract 1 ((wrap64 (a0 + 1)) : Int).toNat)] from rfl) (Reps.none _ _))))
            intro v185 w13 ho14 hb hg_ hnew_
            clear hg_ hnew_
            (first | rw [← Ny184.out] at ho14 | (simp only [Int.reduceToNat] at ho14; rw [← Ny184.out] at ho14))
            have n0_ := Aside0.mk (Kd.R_lower ho14 (below_size (by repeat (first | (with_reducible first | exact HB.out | apply below_alloc | apply pw_below_drewN | apply below_drew1) | exact HB.out))))
            have n1_ := Aside0.mk (below_step (by repeat (first | (with_reducible first | exact HB.out | apply below_alloc | apply pw_below_drewN | apply below_drew1) | exact HB.out)) hb)
            clear HB
            have HO186 := n0_
            have HB := n1_
            clear n0_ n1_
            clear hb ho14
            refine hK.out _ _ trivial (fun hHeld => ?_)
            clear hK K
            refine norm_ (a' := ?_) ?_ ?_
            rotate_left
            · show Act.put _ (some 18) _ = _
              simp only [Act.put, List.setIfInBounds_toArray, List.set_cons_zero, List.set_cons_succ, i64_w, i32_w]
              rfl
            refine pure_ (i := 8) (N := some 2) (v := ?_) (a' := ?_) #[true, true, true, true, true, true, true, true, true] rfl rfl (any_of HT_.out (by kernel_rfl)) (fun _ _ _ h => h) (Or.inl ⟨by rfl, ?_⟩) ?_ ?_
            rotate_left
            · intro w'
              go_simp
              with_reducible rfl
            rotate_left
            · simp only [Act.put, List.setIfInBounds_toArray, List.set_cons_zero, List.set_cons_succ, i64_w, i32_w]
              rfl
            refine done_ (done_of HT_.out (by kernel_rfl)) ?_
            try go_wp2
            (try rw [show ∀ (W_ : World) (n_ : Nat) (a_ : Addr) (v_ : Value), (W_.drewN n_).setCell a_ v_ = (W_.setCell a_ v_).drewN n_ from fun _ _ _ _ => rfl])
            go_ret
            exact ⟨_, by first | rfl | (simp [errW_none, errW_some] <;> rfl) | (simp [*, errW_none, errW_some] <;> rfl), by (with_reducible repeat (first | apply Kd.R_alloc | apply Kd.R_drewN | apply Kd.R_drew)); exact HO186.out, by repeat (first | (with_reducible first | exact HB.out | apply below_alloc | apply pw_below_drewN | apply below_drew1) | exact HB.out)⟩
          · rw [if_neg c10] at H
            exact absurd H (by simp)
        · rw [if_neg c9] at H
          exact absurd H (by simp)
      · rw [if_neg c8] at H
        exact absurd H (by simp)
    · rw [if_neg c7] at H
      exact absurd H (by simp)

/-! ### impl_imageAfter: function 41 -/
def impl_imageAfter.l0 : Nat → Int → Int → ByteArray → Int → Int → Option (Int)
  | 0, _, _, _, _, _ => none
  | k + 1, x0, x1, x2, x9, x10 => if x10 < x9 then (if 0 ≤ x10 then (if x10 < (x2.size : Int) then (if (bt x2 x10) = 114 then (impl_imageAfter.l0 k x0 (wrap64 ((wrap64 (-x1)) + (wrap64 (2 * x0)))) x2 x9 (wrap64 (x10 + 1))) else (impl_imageAfter.l0 k x0 (wrap64 (-x1)) x2 x9 (wrap64 (x10 + 1)))) else (none)) else (none)) else (some x1)
def impl_imageAfter.f (k : Nat) (a0 : Int) (a1 : Int) (a2 : ByteArray) : Option (Int) := impl_imageAfter.l0 k a0 a1 a2 (a2.size : Int) 0
theorem impl_imageAfter.mono_l : ∀ k, (∀ y0 y1 y2 y3 y4, LeO (impl_imageAfter.l0 k y0 y1 y2 y3 y4) (impl_imageAfter.l0 (k + 1) y0 y1 y2 y3 y4))
  | 0 => fun _ _ _ _ _ r h => by simp [impl_imageAfter.l0] at h
  | k + 1 => by
    have ih0 := impl_imageAfter.mono_l k
    · intro y0 y1 y2 y3 y4
      unfold impl_imageAfter.l0
      repeat' first
      | (with_reducible exact ih0 _ _ _ _ _)
      | (with_reducible exact LeO.refl _)
      | (with_reducible exact LeO.none _)
      | (with_reducible refine LeO.ite ?_ ?_)
      | (with_reducible refine LeO.bind ?_ (fun _ => ?_))
      | exact ih0 _ _ _ _ _
      | exact LeO.none _
      | refine LeO.ite ?_ ?_
      | refine LeO.bind ?_ (fun _ => ?_)
theorem impl_imageAfter.mono : ∀ a0 a1 a2 k, LeO (impl_imageAfter.f k a0 a1 a2) (impl_imageAfter.f (k + 1) a0 a1 a2) := by
  intro a0 a1 a2 k
  have ih0 := impl_imageAfter.mono_l k
  unfold impl_imageAfter.f
  repeat' first
      | (with_reducible exact ih0 _ _ _ _ _)
      | (with_reducible exact LeO.refl _)
      | (with_reducible exact LeO.none _)
      | (with_reducible refine LeO.ite ?_ ?_)
      | (with_reducible refine LeO.bind ?_ (fun _ => ?_))
      | exact ih0 _ _ _ _ _
      | exact LeO.none _
      | refine LeO.ite ?_ ?_
      | refine LeO.bind ?_ (fun _ => ?_)
set_option maxHeartbeats 8000000 in
set_option maxRecDepth 100000 in
theorem impl_imageAfter.calls (k : Nat) (a0 : Int) (a1 : Int) (a2 : ByteArray) (r : Int) (w : World) (h : impl_imageAfter.f k a0 a1 a2 = some r) :
    Calls Tryz.prog 41 #[.int .i64 a0, .int .i64 a1, .string a2] w fun e w' => e = .returned (.int .i64 r) ∧ Drawn0 w w' := by
  have H : (impl_imageAfter.l0 k a0 a1 a2 (a2.size : Int) 0) = some r := h
  clear h
  have H' := Aside0.mk H
  clear H
  go_enter Tryz.func41, Tryz.ntmps41
  go_wp2
  go_loopg [1, 10] k (fun kq v1 v10 w' => ∃ (x1_1 : Int) (x10_1 : Int), v1 = .int .i64 x1_1 ∧ v10 = .int .i64 x10_1 ∧ Aside0 (impl_imageAfter.l0 kq a0 x1_1 a2 (a2.size : Int) x10_1 = some r) ∧ Aside0 (kq ≤ k) ∧ Drawn0 w w')
  case atStart => exact ⟨(a1), (0), (by first | rfl | (simp; done) | (simp [*]; done)), (by first | rfl | (simp; done) | (simp [*]; done)), H', ⟨Nat.le_refl _⟩, by repeat (first | exact Drawn0.refl _ | apply Drawn0.step)⟩
  case round =>
    clear H'
    try clear p2
    obtain ⟨x1_1, x10_1, rfl, rfl, HA, HK1, ⟨m1, rfl⟩⟩ := hrel
    cases gk with
    | zero => exact absurd HA.out (by simp [impl_imageAfter.l0])
    | succ k1 =>
      have H := HA.out
      clear HA
      simp only [impl_imageAfter.l0] at H
      by_cases c4 : x10_1 < (a2.size : Int)
      · rw [if_pos c4] at H
        have c4b0 : decide (x10_1 < (a2.size : Int)) = true := decide_eq_true c4
        clear c4
        by_cases c5 : 0 ≤ x10_1
        · rw [if_pos c5] at H
          have c5b0 : decide (0 ≤ x10_1) = true := decide_eq_true c5
          clear c5
          by_cases c6 : x10_1 < (a2.size : Int)
          · rw [if_pos c6] at H
            have c6b0 : decide (x10_1 < (a2.size : Int)) = true := decide_eq_true c6
            clear c6
            by_cases c8 : (bt a2 x10_1) = 114
            · rw [if_pos c8] at H
              have c8b0 : ((bt a2 x10_1) == 114) = true := beq_iff_eq.mpr c8
              have c8b1 : ((bt a2 x10_1) != 114) = false := bne_eq_false_iff_eq.mpr c8
              clear c8
              have H' := Aside0.mk H
              clear H
              have p7 : 0 ≤ (x10_1 : Int) := of_decide_eq_true (by first | (with_reducible assumption) | assumption)
              have q7 : x10_1 < (a2.size : Int) := of_decide_eq_true (by first | (with_reducible assumption) | assumption)
              have hx7 := bt_at a2 x10_1
              replace p7 := eq_true p7
              replace q7 := eq_true q7
              go_wp2
              go_roundg k1
              case measure => have := HK1.out; omega
              case rel => exact ⟨(wrap64 ((wrap64 (-x1_1)) + (wrap64 (2 * a0)))), (wrap64 (x10_1 + 1)), (by first | rfl | (simp; done) | (simp [*]; done)), (by first | rfl | (simp; done) | (simp [*]; done)), H', ⟨by have := HK1.out; omega⟩, by repeat (first | exact Drawn0.refl _ | apply Drawn0.step)⟩
            · rw [if_neg c8] at H
              have c8b0 : ((bt a2 x10_1) == 114) = false := beq_eq_false_iff_ne.mpr c8
              have c8b1 : ((bt a2 x10_1) != 114) = true := bne_iff_ne.mpr c8
              have H' := Aside0.mk H
              clear H
              have p7 : 0 ≤ (x10_1 : Int) := of_decide_eq_true (by first | (with_reducible assumption) | assumption)
              have q7 : x10_1 < (a2.size : Int) := of_decide_eq_true (by first | (with_reducible assumption) | assumption)
              have hx7 := bt_at a2 x10_1
              replace p7 := eq_true p7
              replace q7 := eq_true q7
              go_wp2
              go_roundg k1
              case measure => have := HK1.out; omega
              case rel => exact ⟨(wrap64 (-x1_1)), (wrap64 (x10_1 + 1)), (by first | rfl | (simp; done) | (simp [*]; done)), (by first | rfl | (simp; done) | (simp [*]; done)), H', ⟨by have := HK1.out; omega⟩, by repeat (first | exact Drawn0.refl _ | apply Drawn0.step)⟩
          · rw [if_neg c6] at H
            exact absurd H (by simp)
        · rw [if_neg c5] at H
          exact absurd H (by simp)
      · rw [if_neg c4] at H
        have c4b0 : decide (x10_1 < (a2.size : Int)) = false := decide_eq_false c4
        clear c4
        obtain rfl := Option.some.inj H
        go_wp2
        go_ret
        exact ⟨by first | rfl | (simp; done) | (simp [*]; done), by repeat (first | exact Drawn0.refl _ | apply Drawn0.step)⟩

/-! ### impl_increasing: function 42 -/
open Go.Lib Go.Sort in
/-- A row of numbers, one block of the call's own. -/
structure IcRow (W : World) (g cap : Nat) (xs : List Int) : Prop where
  ex : ∃ cur, W.heap[g]? = some (.cells cur 3 (0, 0)) ∧ cur.size = cap ∧ xs.length ≤ cap ∧ cap ≤ maxLen ∧ cur.toList.take xs.length = xs.map (Value.int .i64)
theorem IcRow.cell {W : World} {g cap : Nat} {xs : List Int} (h : IcRow W g cap xs) (j : Nat) (hj : j < xs.length) : W.cell? ⟨g, j, none⟩ = some (.int .i64 (xs[j]!)) ∧ W.frozen? ⟨g, j, none⟩ = false := by
  obtain ⟨cur, h1, h2, h3, h4, h5⟩ := h.ex
  have e : cur[j]? = some (.int .i64 (xs[j]!)) := by
    have a : (cur.toList.take xs.length)[j]? = (xs.map (Value.int .i64))[j]? := by rw [h5]
    rw [List.getElem?_take, if_pos hj, List.getElem?_map, List.getElem?_eq_getElem hj] at a
    rw [← Array.getElem?_toList, a, getElem!_pos xs j hj]
    rfl
  constructor
  · simp [World.cell?, h1, e]
  · simp [World.frozen?, h1]
theorem IcRow.holds {W : World} {g cap : Nat} {xs : List Int} (h : IcRow W g cap xs) : Go.Sort.Holds (Value.int .i64) W g 0 xs.toArray := by
  intro j hj
  have hj' : j < xs.length := by simpa using hj
  have := h.cell j hj'
  rw [Nat.zero_add]
  have e : xs.toArray[j]! = xs[j]! := by simp
  rw [e]
  exact this
theorem ic_blk {W : World} {g cap : Nat} {xs : List Int} (h : IcRow W g cap xs) : g < W.heap.size := by
  obtain ⟨cur, h1, _⟩ := h.ex
  rcases Nat.lt_or_ge g W.heap.size with c | c
  · exact c
  · rw [Array.getElem?_eq_none c] at h1; cases h1
/-- The row written anew, as long as before. -/
theorem IcRow.put {W : World} {g cap : Nat} {xs ys : List Int} (h : IcRow W g cap xs) (q : Nat) (hl : ys.length ≤ cap) : IcRow (Go.Sort.putRow (Value.int .i64) (Go.Sort.ahead W q) g 0 ys.toArray) g cap ys := by
  obtain ⟨cur, h1, h2, h3, h4, h5⟩ := h.ex
  refine ⟨Go.Sort.putCells (Value.int .i64) 0 ys.toArray cur, ?_, ?_, hl, h4, ?_⟩
  · unfold Go.Sort.putRow Go.Sort.mapBlock Go.Sort.ahead
    simp only [Array.getElem?_modify, if_true, h1, Option.map_some, Go.Sort.onCells]
  · simp [Go.Sort.putCells, h2]
  · apply List.ext_getElem?
    intro j
    rw [List.getElem?_take, List.getElem?_map]
    by_cases hj : j < ys.length
    · rw [if_pos hj, Array.getElem?_toList]
      simp only [Go.Sort.putCells, Array.getElem?_mapIdx]
      have hc : j < cur.size := by omega
      rw [Array.getElem?_eq_getElem hc, Option.map_some, if_pos ⟨Nat.zero_le _, by simpa using hj⟩, List.getElem?_eq_getElem hj]
      simp [hj]
    · rw [if_neg hj, List.getElem?_eq_none (by omega)]
      rfl
theorem IcRow.pre {W : World} {g cap : Nat} {xs ys : List Int} (h : IcRow W g cap (xs ++ ys)) : IcRow W g cap xs := by
  obtain ⟨cur, h1, h2, h3, h4, h5⟩ := h.ex
  rw [List.length_append] at h3 h5
  refine ⟨cur, h1, h2, by omega, h4, ?_⟩
  have : (cur.toList.take (xs.length + ys.length)).take xs.length = ((xs ++ ys).map (Value.int .i64)).take xs.length := by rw [h5]
  rw [List.take_take, Nat.min_eq_left (by omega), List.map_append, List.take_left' (by rw [List.length_map])] at this
  exact this
theorem IcRow.grow {W : World} {g cap : Nat} {xs : List Int} (h : IcRow W g cap xs) (os : Array Obj) : IcRow (Go.Sort.grow W os) g cap xs := by
  have hb := ic_blk h
  obtain ⟨cur, h1, h2⟩ := h.ex
  exact ⟨cur, by rw [Go.Sort.heap_grow_old W os hb]; exact h1, h2⟩
theorem ic_below_put {B : Nat} {w W : World} (hb : Below B w W) (q g : Nat) (hg : B ≤ g) (ys : Array Int) : Below B w (Go.Sort.putRow (Value.int .i64) (Go.Sort.ahead W q) g 0 ys) :=
  ⟨hb.os, hb.tape, hb.output, by
    refine Nat.le_trans hb.size ?_
    show W.heap.size ≤ (W.heap.modify g _).size
    rw [Array.size_modify]; exact Nat.le_refl _, fun k hk => by
    show (W.heap.modify g _)[k]? = _
    rw [Array.getElem?_modify, if_neg (by omega)]
    exact hb.block k hk⟩
theorem ic_below_grow {B : Nat} {w W : World} (hb : Below B w W) (hB : B ≤ W.heap.size) (os : Array Obj) : Below B w (Go.Sort.grow W os) :=
  ⟨hb.os, hb.tape, hb.output, by
    refine Nat.le_trans hb.size ?_
    show W.heap.size ≤ (W.heap ++ os).size
    rw [Array.size_append]; omega, fun k hk => (Go.Sort.heap_grow_old W os (by omega)).trans (hb.block k hk)⟩
theorem ic_put_old {W : World} (q g : Nat) (ys : Array Int) {k : Nat} (hk : k ≠ g) : (Go.Sort.putRow (Value.int .i64) (Go.Sort.ahead W q) g 0 ys).heap[k]? = W.heap[k]? := by
  show (W.heap.modify g _)[k]? = _
  rw [Array.getElem?_modify, if_neg (by omega)]
theorem IcRow.kd {W : World} {g cap : Nat} {xs : List Int} (h : IcRow W g cap xs) {base : Nat} (hb : base ≤ g) : Kd.R (Kd.int .i64) 3 W base (fun _ => True) (.slice (some ⟨g, 0, none⟩) xs.length cap) xs := by
  obtain ⟨cur, h1, h2, h3, h4, h5⟩ := h.ex
  refine Kd.R_of_own (enc := Value.int .i64) (h1 := fun _ => rfl) ⟨?_, .inr ⟨g, cap, cur, rfl, hb, h1, h3, h4, by omega, ?_⟩⟩ (fun _ _ => trivial)
  · unfold encs; rw [List.length_map, Nat.mul_one]
  · rw [Nat.mul_one]; exact h5
theorem IcRow.of_kd {W : World} {base : Nat} {ok : Nat → Prop} {v : Value} {xs : List Int} (h : Kd.R (Kd.int .i64) 3 W base ok v xs) (hne : xs ≠ []) : ∃ g cap, v = .slice (some ⟨g, 0, none⟩) xs.length cap ∧ base ≤ g ∧ IcRow W g cap xs := by
  have ho := Kd.own_of_R (enc := Value.int .i64) (h1 := fun _ => rfl) h
  obtain ⟨h1, h2⟩ := ho
  rcases h2 with ⟨_, h2⟩ | ⟨g, cap, cur, rfl, hb, hg, hn, hc, hs, ht⟩
  · exact absurd (List.eq_nil_of_length_eq_zero h2) hne
  · exact ⟨g, cap, rfl, hb, cur, hg, by omega, hn, hc, by rw [Nat.mul_one] at ht; exact ht⟩
theorem ic_compact_len (zs : List Int) : (Lib.compact zs).length ≤ zs.length := by
  unfold Lib.compact Lib.compactUpTo
  rw [List.length_map]
  exact Nat.le_trans (List.length_filter_le _ _) (by rw [List.length_range]; exact Nat.le_refl _)
/-- A row sorted, each number once. -/
def IcInc (ys : List Int) : List Int := Lib.compact (ys.mergeSort fun x y => decide (x ≤ y))
set_option maxHeartbeats 1000000 in
theorem ic_increasing (g cap : Nat) (ys : List Int) (W : World) (hlen : ys.length ≤ 1000000) (h : IcRow W g cap ys) :
    Calls Tryz.prog 42 #[.slice (some ⟨g, 0, none⟩) ys.length cap] W fun e w' => e = .returned (.slice (some ⟨g, 0, none⟩) (IcInc ys).length cap) ∧ IcRow w' g cap (IcInc ys) ∧ (∀ (B : Nat) (w0 : World), Below B w0 W → B ≤ g → Below B w0 w') ∧ Kept W w' (fun k => k = g) := by
  have hcap : ys.length ≤ cap := by obtain ⟨cur, _, _, h3, _⟩ := h.ex; exact h3
  have hmax : cap ≤ 9223372036854775807 := by obtain ⟨cur, _, _, _, h4, _⟩ := h.ex; exact h4
  have hsz : (ys.mergeSort fun x y => decide (x ≤ y)).length = ys.length := List.length_mergeSort _
  have hg := ic_blk h
  have hs := Tryz.slices_Sort_int g 0 cap ys W h.holds hg (by omega)
  obtain ⟨zs, hzs⟩ : ∃ zs, (ys.mergeSort fun x y => decide (x ≤ y)) = zs := ⟨_, rfl⟩
  have hE : IcInc ys = Lib.compact zs := by unfold IcInc; rw [hzs]
  rw [hzs] at hsz hs
  rw [hE]
  have HS := Aside0.mk hs
  have HW := Aside0.mk h
  have HL := Aside0.mk hsz
  have HCP := Aside0.mk hcap
  have HMX := Aside0.mk hmax
  have HG := Aside0.mk hg
  clear h hs hsz hcap hmax hg hlen hE hzs
  go_enter Tryz.func42, Tryz.ntmps42
  go_wp2_with fail
  refine HS.out.mono ?_
  rintro e w1 ⟨rfl, q, os, rfl⟩
  have hr := (HW.out.put (ys := zs) q (by have := HL.out; have := HCP.out; omega)).grow os
  have hb : ∀ (B : Nat) (w0 : World), Below B w0 W → B ≤ g → Below B w0 (Go.Sort.grow (Go.Sort.putRow (Value.int .i64) (Go.Sort.ahead W q) g 0 zs.toArray) os) := fun B w0 hB hBg => by
    have := ic_below_put hB q g hBg zs.toArray
    refine ic_below_grow this ?_ os
    have h1 := HG.out
    show B ≤ (W.heap.modify g _).size
    rw [Array.size_modify]; omega
  have hk : Kept W (Go.Sort.grow (Go.Sort.putRow (Value.int .i64) (Go.Sort.ahead W q) g 0 zs.toArray) os) (fun k => k = g) := by
    have hs1 : (Go.Sort.putRow (Value.int .i64) (Go.Sort.ahead W q) g 0 zs.toArray).heap.size = W.heap.size := by
      show (W.heap.modify g _).size = _
      rw [Array.size_modify]
    refine ⟨?_, fun k hk hne => ?_⟩
    · show W.heap.size ≤ ((Go.Sort.putRow (Value.int .i64) (Go.Sort.ahead W q) g 0 zs.toArray).heap ++ os).size
      rw [Array.size_append]; omega
    · rw [Go.Sort.heap_grow_old _ os (by omega)]
      exact ic_put_old q g _ hne
  have HKP := Aside0.mk hk
  have hcm := Tryz.slices_Compact_int g 0 cap zs _ hr.holds (by have := HL.out; have := HCP.out; have := HMX.out; omega) (by have := HL.out; have := HCP.out; omega)
  rw [HL.out] at hcm
  have HCM := Aside0.mk hcm
  have HR := Aside0.mk hr
  have HBB := Aside0.mk hb
  clear hcm hr hb hk
  generalize Go.Sort.grow (Go.Sort.putRow (Value.int .i64) (Go.Sort.ahead W q) g 0 zs.toArray) os = w2 at HCM HR HBB HKP ⊢
  go_wp2_with fail
  refine HCM.out.mono ?_
  rintro e w3 ⟨rfl, q2, rfl⟩
  go_wp2_with fail
  go_ret
  have hc := ic_compact_len zs
  have hp := HR.out.put (ys := Lib.compact zs ++ List.replicate (ys.length - (Lib.compact zs).length) 0) q2 (by rw [List.length_append, List.length_replicate]; have := HL.out; have := HCP.out; omega)
  refine ⟨rfl, hp.pre, fun B w0 hB hBg => ic_below_put (HBB.out B w0 hB hBg) q2 g hBg _, HKP.out.then_ (S2 := fun k => k = g) ⟨?_, fun k hk hne => ic_put_old q2 g _ hne⟩ (fun k hk => .inl hk)⟩
  show w2.heap.size ≤ (w2.heap.modify g _).size
  rw [Array.size_modify]
  exact Nat.le_refl _
def impl_increasing.f (l0 : List Int) : Option (List Int) := if l0.length ≤ 1000000 then some (IcInc l0) else none
set_option maxHeartbeats 1000000 in
theorem ic_none (w : World) : Calls Tryz.prog 42 #[.slice none 0 0] w fun e w' => e = .returned (.slice none 0 0) ∧ w' = w := by
  go_enter Tryz.func42, Tryz.ntmps42
  go_wp2_with fail
  refine (Tryz.slices_Sort_int_none none 0 w).mono ?_
  rintro e w' ⟨rfl, rfl⟩
  go_wp2_with fail
  refine (Tryz.slices_Compact_int_empty none 0 w').mono ?_
  rintro e w'' ⟨rfl, rfl⟩
  go_wp2_with fail
  go_ret
  exact ⟨rfl, rfl⟩
theorem impl_increasing.calls (P0_ : Nat → Prop) (u9000_ : Value) (l0 : List Int) (r : List Int) (w0 w : World) (hB : Below w0.heap.size w0 w) (ho0 : Kd.R (Kd.int .i64) 3 w w0.heap.size P0_ u9000_ l0) (h : impl_increasing.f l0 = some r) :
    Calls Tryz.prog 42 #[u9000_] w fun e w' => ∃ v0_ : Value, e = .returned (v0_) ∧ Kd.R (Kd.int .i64) 3 w' w0.heap.size (fun k_ => (P0_ k_ ∨ w.heap.size ≤ k_)) v0_ r ∧ Below w0.heap.size w0 w' ∧ Kept w w' (fun k_ => P0_ k_) := by
  unfold impl_increasing.f at h
  by_cases c : l0.length ≤ 1000000
  · rw [if_pos c] at h
    obtain rfl := Option.some.inj h
    have ho := Kd.own_of_R (enc := Value.int .i64) (h1 := fun _ => rfl) ho0
    obtain ⟨h1, h2⟩ := ho
    rcases h2 with ⟨rfl, h2⟩ | ⟨g, cap, cur, rfl, hb, hg, hn, hc, hs, ht⟩
    · obtain rfl := List.eq_nil_of_length_eq_zero h2
      refine (ic_none w).mono ?_
      rintro e w' ⟨rfl, rfl⟩
      have e : IcInc [] = [] := by unfold IcInc; rw [List.mergeSort_nil]; rfl
      exact ⟨_, rfl, by rw [e]; exact Kd.R_nil _ _ _ _ _, hB, Kept.refl _ _⟩
    · have hrow : IcRow w g cap l0 := ⟨cur, hg, by omega, hn, hc, by rw [Nat.mul_one] at ht; exact ht⟩
      have hP : P0_ g := ho0.1 g rfl
      refine (ic_increasing g cap l0 w c hrow).mono ?_
      rintro e w' ⟨rfl, hr, hbw, hkp⟩
      refine ⟨_, rfl, ?_, hbw _ _ hB hb, hkp.mono (fun k hk => hk ▸ hP)⟩
      obtain ⟨cur2, k1, k2, k3, k4, k5⟩ := hr.ex
      refine Kd.R_of_own (enc := Value.int .i64) (h1 := fun _ => rfl) ⟨?_, .inr ⟨g, cap, cur2, rfl, hb, k1, k3, k4, by omega, ?_⟩⟩ (fun k hk => ?_)
      · unfold encs; rw [List.length_map, Nat.mul_one]
      · rw [Nat.mul_one]; exact k5
      · have : g = k := by simpa [Value.ownBlock] using hk
        exact .inl (this ▸ hP)
  · rw [if_neg c] at h
    cases h

end Go.Proofs.YtnmhefdjakjngaaGreatDoor.PFnMirrorsFace
