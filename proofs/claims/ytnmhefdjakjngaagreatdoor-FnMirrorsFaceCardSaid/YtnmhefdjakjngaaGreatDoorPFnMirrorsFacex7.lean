-- Written by xprint.py, a program of this session, for this seat; Lean checks it.
import Derived.Test.YtnmhefdjakjngaaGreatDoorVM
import Derived.Test.YtnmhefdjakjngaaGreatDoorPFnMirrorsFacex0
import Derived.Test.YtnmhefdjakjngaaGreatDoorPFnMirrorsFacex1
import Derived.Test.YtnmhefdjakjngaaGreatDoorPFnMirrorsFacex3
import Derived.Test.YtnmhefdjakjngaaGreatDoorPFnMirrorsFacex5
import Derived.Test.YtnmhefdjakjngaaGreatDoorPFnMirrorsFacex6
namespace Go.Proofs.YtnmhefdjakjngaaGreatDoor.PFnMirrorsFace
open Go.Proofs.YtnmhefdjakjngaaGreatDoorV Go.RowKit Go.Proofs.YtnmhefdjakjngaaGreatDoorW.PrintWords Go.Proofs.YtnmhefdjakjngaaGreatDoorW.PrintLast Go.Proofs.YtnmhefdjakjngaaGreatDoorW.PrintMore
attribute [local go_sem] max2_int min2_int max_two min_two max_three min_three max_four min_four   -- for this text's walks alone
set_option linter.unusedVariables false
set_option linter.unusedSimpArgs false

/-! ### spec_DrawWordOfImage: function 14 -/
def spec_DrawWordOfImage.f (k : Nat) (l0 : List Int) : Option (Int × Int × Int) :=
  (spec_l1Cur_corridor.f l0 0 0).bind fun t => (spec_miGood.f t.1 t.2.1).bind fun g => if g = true then (spec_l1Cur_one.f l0 t.2.2.1 t.2.2.2 4).bind fun o => if o.1 = true then (spec_l1Cur_among.f l0 o.2.1 o.2.2 [0, 1, -1, 7, 30, 100000, 100001, -100001]).bind fun s => some (t.1, t.2.1, s.1)
      else (spec_l1Cur_pick.f l0 o.2.1 o.2.2 8).bind fun a => (spec_miWords.f k a.1).bind fun ws => (spec_l1Cur_pick.f l0 a.2.1 a.2.2 2).bind fun b => if 0 ≤ b.1 then (if b.1 < (ws.length : Int) then (spec_miAfter.f k t.1 t.2.1 (rdOf ByteArray.empty ws b.1)).bind fun z => some (t.1, t.2.1, z) else none) else none
    else (spec_l1Cur_among.f l0 t.2.2.1 t.2.2.2 [0, 1, -1, 7, 30, 100000, 100001, -100001]).bind fun s => some (t.1, t.2.1, s.1)
set_option maxHeartbeats 8000000 in
set_option maxRecDepth 100000 in
theorem spec_DrawWordOfImage.calls (k : Nat) (A0 : Option Addr) (c0 : Nat) (l0 : List Int) (r1 r2 r3 : Int) (w : World) (hr0 : Kd.C (Kd.int .u8) w A0 l0.length l0) (hc0 : l0.length ≤ c0) (h : spec_DrawWordOfImage.f k l0 = some (r1, r2, r3)) :
    Calls Tryz.prog 14 #[.slice A0 l0.length c0] w fun e w' => e = .returned (.tuple #[.int .i64 r1, .int .i64 r2, .int .i64 r3]) ∧ Below w.heap.size w w' := by
 unfold spec_DrawWordOfImage.f at h
 obtain ⟨⟨t1, t2, a7, a8⟩, h1, h⟩ := Option.bind_eq_some_iff.mp h
 obtain ⟨g1, h2, h⟩ := Option.bind_eq_some_iff.mp h
 have HH := Aside0.mk h
 clear h
 have H1 := Aside0.mk h1
 have H2 := Aside0.mk h2
 have HR := Aside0.mk hr0
 clear h1 h2 hr0
 have HB := Aside0.mk (Below.refl w.heap.size w)
 cases g1 with
 | false =>
  have h := HH.out
  try dsimp only at h
  rw [if_neg (by simp)] at h
  obtain ⟨⟨s, p', q'⟩, h5, h⟩ := Option.bind_eq_some_iff.mp h
  simp only [Option.some.injEq, Prod.mk.injEq] at h
  obtain ⟨rfl, rfl, rfl⟩ := h
  obtain ⟨ys, hyys⟩ : ∃ ys : List Int, ys = [0, 1, -1, 7, 30, 100000, 100001, -100001] := ⟨_, rfl⟩
  have H5 : Aside0 (spec_l1Cur_among.f l0 a7 a8 ys = some (s, p', q')) := ⟨by rw [hyys]; exact h5⟩
  have HYys := Aside0.mk hyys
  clear hyys h5 HH
  go_enter Tryz.func14, Tryz.ntmps14
  go_wp2_with (first | ((with_reducible refine gate_dst (N := 10) rfl ?_); refine box_ (cs := #[.slice A0 l0.length c0, .int .i64 0, .int .u64 0]) (t := 51) fun gC hg w_C hbox hb => ?_; have BC := Aside0.mk hbox; have GEC := bS HB hg; replace HB := Aside0.mk (below_step bB hb); clear hb hbox hg) | ((with_reducible refine gate_callee (f := 36) rfl ?_); refine goesL_ (some 13) rfl rfl Tryz.func36 kr rfl #[.pointer (some ⟨gC, 0, none⟩)] rfl sM ?_; (with_reducible refine (spec_l1Cur_corridor.calls gC l0 0 0  t1 t2 a7 a8 w _ ?side1 ?side2 H1.out).mono ?_); (case side1 => exact ⟨A0, c0, bK BC, GEC.out, HR.out⟩); (case side2 => exact bB); rintro e b1 ⟨rfl, hi, hb, hk⟩; refine ⟨_, rfl, ?_⟩; clear BC; obtain ⟨A1, c1, a3, a6, a4⟩ := hi; have BC := Aside0.mk a3; have a5 := Aside0.mk a4; replace HB := Aside0.mk hb; clear a3 a6 a4 hb hk) | ((with_reducible refine gate_callee (f := 43) rfl ?_); refine goesL_ (some 18) rfl rfl Tryz.func43 kr rfl #[.int .i64 t1, .int .i64 t2] rfl sM ?_; (with_reducible refine (spec_miGood.calls t1 t2 false _ H2.out).mono ?_); rintro e w' ⟨rfl, ⟨nd, rfl⟩⟩; refine ⟨_, rfl, ?_⟩) | ((with_reducible refine gate_dst (N := 39) rfl ?_); refine Kd.R_lit (Kd.int .i64) _ 3 ?hg (N := 39) ?hd (xs := ([0, 1, (-1), 7, 30, 100000, 100001, (-100001)] : List Int)) (inner := [.int .i64 0, .int .i64 1, .int .i64 (-1), .int .i64 7, .int .i64 30, .int .i64 100000, .int .i64 100001, .int .i64 (-100001)]) (ok := fun _ => True) (okp := fun _ => True) ?hr ?hp (fun _ hk => hk) trivial (Below.refl _ _) (Nat.le_refl _) (by simp) ?_; (case hd => rfl); (case hg => rfl); (case hr => first | (go_simp; done) | (go_simp; rfl)); (case hp => exact (Reps.one (show Kd.M (Kd.int .i64) _ _ _ 0 [.int .i64 0] from rfl) (Reps.one (show Kd.M (Kd.int .i64) _ _ _ 1 [.int .i64 1] from rfl) (Reps.one (show Kd.M (Kd.int .i64) _ _ _ (-1) [.int .i64 (-1)] from rfl) (Reps.one (show Kd.M (Kd.int .i64) _ _ _ 7 [.int .i64 7] from rfl) (Reps.one (show Kd.M (Kd.int .i64) _ _ _ 30 [.int .i64 30] from rfl) (Reps.one (show Kd.M (Kd.int .i64) _ _ _ 100000 [.int .i64 100000] from rfl) (Reps.one (show Kd.M (Kd.int .i64) _ _ _ 100001 [.int .i64 100001] from rfl) (Reps.one (show Kd.M (Kd.int .i64) _ _ _ (-100001) [.int .i64 (-100001)] from rfl) (Reps.none _ _)))))))))); intro v5 b8 hr hb hg_ hnew_; clear hg_ hnew_; (first | rw [← HYys.out] at hr | (simp only [Int.reduceToNat] at hr; rw [← HYys.out] at hr)); have R5 := Aside0.mk (Kd.R_lower hr (below_size bB)); replace BC := bQ BC hb; replace HB := Aside0.mk (below_step bB hb); clear hr hb; obtain ⟨A5, b2, b3⟩ := Kd.R_slice R5.out; subst b3) | ((with_reducible refine gate_callee (f := 37) rfl ?_); refine goesL_ (some 40) rfl rfl Tryz.func37 kr rfl #[.pointer (some ⟨gC, 0, none⟩), .slice A5 ys.length b2] rfl sM ?_; (with_reducible refine (spec_l1Cur_among.calls gC l0 a7 a8 _ _ ys s p' q' w _ ?side1 ?side2 ?side3 ?side4 ?side5 H5.out).mono ?_); (case side1 => exact ⟨A1, c1, bK BC, GEC.out, a5.out⟩); (case side2 => exact bB); (case side3 => exact (Kd.R_reads' R5.out).2.2); (case side4 => exact (Kd.R_reads' R5.out).2.1); (case side5 => exact far_slice (IsS51.own_ne (show IsS51 w _ gC l0 a7 a8 from ⟨A1, c1, bK BC, GEC.out, a5.out⟩) R5.out (by decide))); rintro e b6 ⟨rfl, hi, hb, hk⟩; refine ⟨_, rfl, ?_⟩; clear BC a5 A1 c1; obtain ⟨A1, c1, a3, a6, a4⟩ := hi; have BC := Aside0.mk a3; have a5 := Aside0.mk a4; replace HB := Aside0.mk hb; clear a3 a6 a4 hb hk))
  refine bodyPost_ret (results_list (rs := [.tmp 2, .tmp 3, .tmp 4]) rfl (by simp) (.tmp (.tmp (.tmp .nil)))) rfl ?_
  exact ⟨rfl, bB⟩
 | true =>
  have h := HH.out
  try dsimp only at h
  rw [if_pos rfl] at h
  obtain ⟨⟨o1, a9, b0⟩, h3, h⟩ := Option.bind_eq_some_iff.mp h
  have H3 := Aside0.mk h3
  clear HH h3
  have HH := Aside0.mk h
  clear h
  cases o1 with
  | true =>
   have h := HH.out
   try dsimp only at h
   rw [if_pos rfl] at h
   obtain ⟨⟨s, p', q'⟩, h5, h⟩ := Option.bind_eq_some_iff.mp h
   simp only [Option.some.injEq, Prod.mk.injEq] at h
   obtain ⟨rfl, rfl, rfl⟩ := h
   obtain ⟨ys, hyys⟩ : ∃ ys : List Int, ys = [0, 1, -1, 7, 30, 100000, 100001, -100001] := ⟨_, rfl⟩
   have H5 : Aside0 (spec_l1Cur_among.f l0 a9 b0 ys = some (s, p', q')) := ⟨by rw [hyys]; exact h5⟩
   have HYys := Aside0.mk hyys
   clear hyys h5 HH
   go_enter Tryz.func14, Tryz.ntmps14
   go_wp2_with (first | ((with_reducible refine gate_dst (N := 10) rfl ?_); refine box_ (cs := #[.slice A0 l0.length c0, .int .i64 0, .int .u64 0]) (t := 51) fun gC hg w_C hbox hb => ?_; have BC := Aside0.mk hbox; have GEC := bS HB hg; replace HB := Aside0.mk (below_step bB hb); clear hb hbox hg) | ((with_reducible refine gate_callee (f := 36) rfl ?_); refine goesL_ (some 13) rfl rfl Tryz.func36 kr rfl #[.pointer (some ⟨gC, 0, none⟩)] rfl sM ?_; (with_reducible refine (spec_l1Cur_corridor.calls gC l0 0 0  t1 t2 a7 a8 w _ ?side1 ?side2 H1.out).mono ?_); (case side1 => exact ⟨A0, c0, bK BC, GEC.out, HR.out⟩); (case side2 => exact bB); rintro e b1 ⟨rfl, hi, hb, hk⟩; refine ⟨_, rfl, ?_⟩; clear BC; obtain ⟨A1, c1, a3, a6, a4⟩ := hi; have BC := Aside0.mk a3; have a5 := Aside0.mk a4; replace HB := Aside0.mk hb; clear a3 a6 a4 hb hk) | ((with_reducible refine gate_callee (f := 43) rfl ?_); refine goesL_ (some 18) rfl rfl Tryz.func43 kr rfl #[.int .i64 t1, .int .i64 t2] rfl sM ?_; (with_reducible refine (spec_miGood.calls t1 t2 true _ H2.out).mono ?_); rintro e w' ⟨rfl, ⟨nd, rfl⟩⟩; refine ⟨_, rfl, ?_⟩) | (go_at_call 50; (with_reducible refine (spec_l1Cur_one.calls gC l0 a7 a8 4 true a9 b0 w _ ?side1 ?side2 H3.out).mono ?_); (case side1 => exact ⟨A1, c1, bK BC, GEC.out, a5.out⟩); (case side2 => exact bB); rintro e b7 ⟨rfl, hi, hb, hk⟩; clear BC a5 A1 c1; obtain ⟨A1, c1, a3, a6, a4⟩ := hi; have BC := Aside0.mk a3; have a5 := Aside0.mk a4; replace HB := Aside0.mk hb; clear a3 a6 a4 hb hk) | ((with_reducible refine gate_dst (N := 39) rfl ?_); refine Kd.R_lit (Kd.int .i64) _ 3 ?hg (N := 39) ?hd (xs := ([0, 1, (-1), 7, 30, 100000, 100001, (-100001)] : List Int)) (inner := [.int .i64 0, .int .i64 1, .int .i64 (-1), .int .i64 7, .int .i64 30, .int .i64 100000, .int .i64 100001, .int .i64 (-100001)]) (ok := fun _ => True) (okp := fun _ => True) ?hr ?hp (fun _ hk => hk) trivial (Below.refl _ _) (Nat.le_refl _) (by simp) ?_; (case hd => rfl); (case hg => rfl); (case hr => first | (go_simp; done) | (go_simp; rfl)); (case hp => exact (Reps.one (show Kd.M (Kd.int .i64) _ _ _ 0 [.int .i64 0] from rfl) (Reps.one (show Kd.M (Kd.int .i64) _ _ _ 1 [.int .i64 1] from rfl) (Reps.one (show Kd.M (Kd.int .i64) _ _ _ (-1) [.int .i64 (-1)] from rfl) (Reps.one (show Kd.M (Kd.int .i64) _ _ _ 7 [.int .i64 7] from rfl) (Reps.one (show Kd.M (Kd.int .i64) _ _ _ 30 [.int .i64 30] from rfl) (Reps.one (show Kd.M (Kd.int .i64) _ _ _ 100000 [.int .i64 100000] from rfl) (Reps.one (show Kd.M (Kd.int .i64) _ _ _ 100001 [.int .i64 100001] from rfl) (Reps.one (show Kd.M (Kd.int .i64) _ _ _ (-100001) [.int .i64 (-100001)] from rfl) (Reps.none _ _)))))))))); intro v5 b8 hr hb hg_ hnew_; clear hg_ hnew_; (first | rw [← HYys.out] at hr | (simp only [Int.reduceToNat] at hr; rw [← HYys.out] at hr)); have R5 := Aside0.mk (Kd.R_lower hr (below_size bB)); replace BC := bQ BC hb; replace HB := Aside0.mk (below_step bB hb); clear hr hb; obtain ⟨A5, b2, b3⟩ := Kd.R_slice R5.out; subst b3) | ((with_reducible refine gate_callee (f := 37) rfl ?_); refine goesL_ (some 40) rfl rfl Tryz.func37 kr rfl #[.pointer (some ⟨gC, 0, none⟩), .slice A5 ys.length b2] rfl sM ?_; (with_reducible refine (spec_l1Cur_among.calls gC l0 a9 b0 _ _ ys s p' q' w _ ?side1 ?side2 ?side3 ?side4 ?side5 H5.out).mono ?_); (case side1 => exact ⟨A1, c1, bK BC, GEC.out, a5.out⟩); (case side2 => exact bB); (case side3 => exact (Kd.R_reads' R5.out).2.2); (case side4 => exact (Kd.R_reads' R5.out).2.1); (case side5 => exact far_slice (IsS51.own_ne (show IsS51 w _ gC l0 a9 b0 from ⟨A1, c1, bK BC, GEC.out, a5.out⟩) R5.out (by decide))); rintro e b6 ⟨rfl, hi, hb, hk⟩; refine ⟨_, rfl, ?_⟩; clear BC a5 A1 c1; obtain ⟨A1, c1, a3, a6, a4⟩ := hi; have BC := Aside0.mk a3; have a5 := Aside0.mk a4; replace HB := Aside0.mk hb; clear a3 a6 a4 hb hk))
   refine bodyPost_ret (results_list (rs := [.tmp 2, .tmp 3, .tmp 4]) rfl (by simp) (.tmp (.tmp (.tmp .nil)))) rfl ?_
   exact ⟨rfl, bB⟩
  | false =>
   have h := HH.out
   try dsimp only at h
   rw [if_neg (by simp)] at h
   obtain ⟨⟨a, b4, b5⟩, h4, h⟩ := Option.bind_eq_some_iff.mp h
   obtain ⟨ws, h5, h⟩ := Option.bind_eq_some_iff.mp h
   obtain ⟨⟨b, b9, c2⟩, h6, h⟩ := Option.bind_eq_some_iff.mp h
   try dsimp only at h
   by_cases e1 : 0 ≤ b
   ·(
   rw [if_pos e1] at h
   by_cases e2 : b < (ws.length : Int)
   ·(
   rw [if_pos e2] at h
   obtain ⟨z, h7, h⟩ := Option.bind_eq_some_iff.mp h
   simp only [Option.some.injEq, Prod.mk.injEq] at h
   obtain ⟨rfl, rfl, rfl⟩ := h
   have H4 := Aside0.mk h4
   have H5 := Aside0.mk h5
   have H6 := Aside0.mk h6
   have H7 := Aside0.mk h7
   have E1 := Aside0.mk e1
   have E2 := Aside0.mk e2
   clear HH h4 h5 h6 h7 e1 e2
   go_enter Tryz.func14, Tryz.ntmps14
   go_wp2_with (first | ((with_reducible refine gate_dst (N := 10) rfl ?_); refine box_ (cs := #[.slice A0 l0.length c0, .int .i64 0, .int .u64 0]) (t := 51) fun gC hg w_C hbox hb => ?_; have BC := Aside0.mk hbox; have GEC := bS HB hg; replace HB := Aside0.mk (below_step bB hb); clear hb hbox hg) | ((with_reducible refine gate_callee (f := 36) rfl ?_); refine goesL_ (some 13) rfl rfl Tryz.func36 kr rfl #[.pointer (some ⟨gC, 0, none⟩)] rfl sM ?_; (with_reducible refine (spec_l1Cur_corridor.calls gC l0 0 0  t1 t2 a7 a8 w _ ?side1 ?side2 H1.out).mono ?_); (case side1 => exact ⟨A0, c0, bK BC, GEC.out, HR.out⟩); (case side2 => exact bB); rintro e b1 ⟨rfl, hi, hb, hk⟩; refine ⟨_, rfl, ?_⟩; clear BC; obtain ⟨A1, c1, a3, a6, a4⟩ := hi; have BC := Aside0.mk a3; have a5 := Aside0.mk a4; replace HB := Aside0.mk hb; clear a3 a6 a4 hb hk) | ((with_reducible refine gate_callee (f := 43) rfl ?_); refine goesL_ (some 18) rfl rfl Tryz.func43 kr rfl #[.int .i64 t1, .int .i64 t2] rfl sM ?_; (with_reducible refine (spec_miGood.calls t1 t2 true _ H2.out).mono ?_); rintro e w' ⟨rfl, ⟨nd, rfl⟩⟩; refine ⟨_, rfl, ?_⟩) | (go_at_call 50; (with_reducible refine (spec_l1Cur_one.calls gC l0 a7 a8 4 false a9 b0 w _ ?side1 ?side2 H3.out).mono ?_); (case side1 => exact ⟨A1, c1, bK BC, GEC.out, a5.out⟩); (case side2 => exact bB); rintro e b7 ⟨rfl, hi, hb, hk⟩; clear BC a5 A1 c1; obtain ⟨A1, c1, a3, a6, a4⟩ := hi; have BC := Aside0.mk a3; have a5 := Aside0.mk a4; replace HB := Aside0.mk hb; clear a3 a6 a4 hb hk) | ((with_reducible refine gate_callee (f := 52) rfl ?_); refine goesL_ (some 29) rfl rfl Tryz.func52 kr rfl #[.pointer (some ⟨gC, 0, none⟩), .int .i64 8] rfl sM ?_; (with_reducible refine (spec_l1Cur_pick.calls gC l0 a9 b0 8 a b4 b5 w _ ?side1 ?side2 H4.out).mono ?_); (case side1 => exact ⟨A1, c1, bK BC, GEC.out, a5.out⟩); (case side2 => exact bB); rintro e c3 ⟨rfl, hi, hb, hk⟩; refine ⟨_, rfl, ?_⟩; clear BC a5 A1 c1; obtain ⟨A1, c1, a3, a6, a4⟩ := hi; have BC := Aside0.mk a3; have a5 := Aside0.mk a4; replace HB := Aside0.mk hb; clear a3 a6 a4 hb hk) | ((with_reducible refine gate_callee (f := 51) rfl ?_); refine goesL_ (some 30) rfl rfl Tryz.func51 kr rfl #[.int .i64 a] rfl sM ?_; (with_reducible refine (spec_miWords.calls k a ws _ H5.out).mono ?_); rintro e c4 ⟨vW, rfl, ho, hb⟩; refine ⟨_, rfl, ?_⟩; have RW := Aside0.mk (Kd.R_lower ho (below_size bB)); replace BC := bQ BC hb; replace HB := Aside0.mk (below_step bB hb); clear ho hb) | ((with_reducible refine gate_callee (f := 52) rfl ?_); refine goesL_ (some 32) rfl rfl Tryz.func52 kr rfl #[.pointer (some ⟨gC, 0, none⟩), .int .i64 2] rfl sM ?_; (with_reducible refine (spec_l1Cur_pick.calls gC l0 b4 b5 2 b b9 c2 w _ ?side1 ?side2 H6.out).mono ?_); (case side1 => exact ⟨A1, c1, bK BC, GEC.out, a5.out⟩); (case side2 => exact bB); rintro e c5 ⟨rfl, hi, hb, hk⟩; refine ⟨_, rfl, ?_⟩; replace RW := Aside0.mk (Kd.R_mono (Kd.R_keep (IsS51.apart (show IsS51 w _ gC l0 b4 b5 from ⟨A1, c1, bK BC, GEC.out, a5.out⟩) (oR RW) (by decide)) hk (fun _ h => h.2)) (fun _ h => h.1)); clear BC a5 A1 c1; obtain ⟨A1, c1, a3, a6, a4⟩ := hi; have BC := Aside0.mk a3; have a5 := Aside0.mk a4; replace HB := Aside0.mk hb; clear a3 a6 a4 hb hk; obtain ⟨AW, cW, eW⟩ := Kd.R_slice RW.out; subst eW; obtain ⟨ad, ead, hx⟩ := Kd.at_string (Kd.R_reads' RW.out).2.2 b E1.out E2.out; cases ead; have e1 := eq_true E1.out; have e2 := eq_true E2.out) | ((with_reducible refine gate_callee (f := 49) rfl ?_); refine goesL_ (some 35) rfl rfl Tryz.func49 kr rfl #[.int .i64 t1, .int .i64 t2, .string (rdOf ByteArray.empty ws b)] rfl sM ?_; (with_reducible refine (spec_miAfter.calls k t1 t2 (rdOf ByteArray.empty ws b) z _ H7.out).mono ?_); rintro e w' ⟨rfl, ⟨nd, rfl⟩⟩; refine ⟨_, rfl, ?_⟩))
   refine bodyPost_ret (results_list (rs := [.tmp 2, .tmp 3, .tmp 4]) rfl (by simp) (.tmp (.tmp (.tmp .nil)))) rfl ?_
   exact ⟨rfl, bB⟩
   )
   ·(
   rw [if_neg e2] at h
   cases h
   )
   )
   ·(
   rw [if_neg e1] at h
   cases h
   )
def spec_DrawWedgeSteps.f (k : Nat) (l0 : List Int) : Option (Int × Int × Int) :=
  (spec_l1Cur_wedge.f l0 0 0).bind fun t => (spec_miWedge.f t.1 t.2.1).bind fun g => if g = true then (spec_l1Cur_one.f l0 t.2.2.1 t.2.2.2 4).bind fun o => if o.1 = true then (spec_l1Cur_pick.f l0 o.2.1 o.2.2 400).bind fun s => some (t.1, t.2.1, wrap64 (s.1 - 20))
      else (spec_miImages.f k t.1 t.2.1).bind fun ws => (spec_l1Cur_pick.f l0 o.2.1 o.2.2 (ws.length : Int)).bind fun b => if 0 ≤ b.1 then (if b.1 < (ws.length : Int) then some (t.1, t.2.1, rd ws b.1) else none) else none
    else (spec_l1Cur_pick.f l0 t.2.2.1 t.2.2.2 400).bind fun s => some (t.1, t.2.1, wrap64 (s.1 - 20))
abbrev spec_DrawWedgeSteps.pl0 : List (Nat × Option Tmp × Nat) := [q 0 28, q 1 29, q 2 30, q 3 31, q 4 32, q 5 33, qo 6 34, q 7 35, q 9 2, q 10 3, qo 8 36, q 11 4]
set_option maxHeartbeats 8000000 in
set_option maxRecDepth 100000 in
theorem spec_DrawWedgeSteps.calls (k : Nat) (A0 : Option Addr) (c0 : Nat) (l0 : List Int) (r1 r2 r3 : Int) (w : World) (hr0 : Kd.C (Kd.int .u8) w A0 l0.length l0) (hc0 : l0.length ≤ c0) (h : spec_DrawWedgeSteps.f k l0 = some (r1, r2, r3)) :
    Calls Tryz.prog 29 #[.slice A0 l0.length c0] w fun e w' => e = .returned (.tuple #[.int .i64 r1, .int .i64 r2, .int .i64 r3]) ∧ Below w.heap.size w w' := by
 unfold spec_DrawWedgeSteps.f at h
 obtain ⟨⟨t1, t2, a7, a8⟩, h1, h⟩ := Option.bind_eq_some_iff.mp h
 obtain ⟨g1, h2, h⟩ := Option.bind_eq_some_iff.mp h
 have HH := Aside0.mk h
 clear h
 have H1 := Aside0.mk h1
 have H2 := Aside0.mk h2
 have HR := Aside0.mk hr0
 clear h1 h2 hr0
 have HB := Aside0.mk (Below.refl w.heap.size w)
 cases g1 with
 | false =>
  have h := HH.out
  try dsimp only at h
  rw [if_neg (by simp)] at h
  obtain ⟨⟨s, p', q'⟩, h5, h⟩ := Option.bind_eq_some_iff.mp h
  simp only [Option.some.injEq, Prod.mk.injEq] at h
  obtain ⟨rfl, rfl, rfl⟩ := h
  have H5 := Aside0.mk h5
  clear h5 HH
  go_enter Tryz.func29, Tryz.ntmps29
  go_wp2_with (first | ((with_reducible refine gate_dst (N := 11) rfl ?_); refine box_ (cs := #[.slice A0 l0.length c0, .int .i64 0, .int .u64 0]) (t := 51) fun gC hg w_C hbox hb => ?_; have BC := Aside0.mk hbox; have GEC := bS HB hg; replace HB := Aside0.mk (below_step bB hb); clear hb hbox hg) | ((with_reducible refine gate_callee (f := 62) rfl ?_); refine goesL_ (some 14) rfl rfl Tryz.func62 kr rfl #[.pointer (some ⟨gC, 0, none⟩)] rfl sM ?_; (with_reducible refine (spec_l1Cur_wedge.calls gC l0 0 0  t1 t2 a7 a8 w _ ?side1 ?side2 H1.out).mono ?_); (case side1 => exact ⟨A0, c0, bK BC, GEC.out, HR.out⟩); (case side2 => exact bB); rintro e b1 ⟨rfl, hi, hb, hk⟩; refine ⟨_, rfl, ?_⟩; clear BC; obtain ⟨A1, c1, a3, a6, a4⟩ := hi; have BC := Aside0.mk a3; have a5 := Aside0.mk a4; replace HB := Aside0.mk hb; clear a3 a6 a4 hb hk) | ((with_reducible refine gate_callee (f := 65) rfl ?_); refine goesL_ (some 19) rfl rfl Tryz.func65 kr rfl #[.int .i64 t1, .int .i64 t2] rfl sM ?_; (with_reducible refine (spec_miWedge.calls t1 t2 false _ H2.out).mono ?_); rintro e w' ⟨rfl, ⟨nd, rfl⟩⟩; refine ⟨_, rfl, ?_⟩) | ((with_reducible refine gate_callee (f := 52) rfl ?_); refine goesL_ (some 40) rfl rfl Tryz.func52 kr rfl #[.pointer (some ⟨gC, 0, none⟩), .int .i64 400] rfl sM ?_; (with_reducible refine (spec_l1Cur_pick.calls gC l0 a7 a8 400 s p' q' w _ ?side1 ?side2 H5.out).mono ?_); (case side1 => exact ⟨A1, c1, bK BC, GEC.out, a5.out⟩); (case side2 => exact bB); rintro e b2 ⟨rfl, hi, hb, hk⟩; refine ⟨_, rfl, ?_⟩; clear BC a5 A1 c1; obtain ⟨A1, c1, a3, a6, a4⟩ := hi; have BC := Aside0.mk a3; have a5 := Aside0.mk a4; replace HB := Aside0.mk hb; clear a3 a6 a4 hb hk))
  refine bodyPost_ret (results_list (rs := [.tmp 2, .tmp 3, .tmp 4]) rfl (by simp) (.tmp (.tmp (.tmp .nil)))) rfl ?_
  exact ⟨rfl, bB⟩
 | true =>
  have h := HH.out
  try dsimp only at h
  rw [if_pos rfl] at h
  obtain ⟨⟨o1, a9, b0⟩, h3, h⟩ := Option.bind_eq_some_iff.mp h
  have H3 := Aside0.mk h3
  clear HH h3
  have HH := Aside0.mk h
  clear h
  cases o1 with
  | true =>
   have h := HH.out
   try dsimp only at h
   rw [if_pos rfl] at h
   obtain ⟨⟨s, p', q'⟩, h5, h⟩ := Option.bind_eq_some_iff.mp h
   simp only [Option.some.injEq, Prod.mk.injEq] at h
   obtain ⟨rfl, rfl, rfl⟩ := h
   have H5 := Aside0.mk h5
   clear h5 HH
   go_enter Tryz.func29, Tryz.ntmps29
   go_wp2_with (first | ((with_reducible refine gate_dst (N := 11) rfl ?_); refine box_ (cs := #[.slice A0 l0.length c0, .int .i64 0, .int .u64 0]) (t := 51) fun gC hg w_C hbox hb => ?_; have BC := Aside0.mk hbox; have GEC := bS HB hg; replace HB := Aside0.mk (below_step bB hb); clear hb hbox hg) | ((with_reducible refine gate_callee (f := 62) rfl ?_); refine goesL_ (some 14) rfl rfl Tryz.func62 kr rfl #[.pointer (some ⟨gC, 0, none⟩)] rfl sM ?_; (with_reducible refine (spec_l1Cur_wedge.calls gC l0 0 0  t1 t2 a7 a8 w _ ?side1 ?side2 H1.out).mono ?_); (case side1 => exact ⟨A0, c0, bK BC, GEC.out, HR.out⟩); (case side2 => exact bB); rintro e b1 ⟨rfl, hi, hb, hk⟩; refine ⟨_, rfl, ?_⟩; clear BC; obtain ⟨A1, c1, a3, a6, a4⟩ := hi; have BC := Aside0.mk a3; have a5 := Aside0.mk a4; replace HB := Aside0.mk hb; clear a3 a6 a4 hb hk) | ((with_reducible refine gate_callee (f := 65) rfl ?_); refine goesL_ (some 19) rfl rfl Tryz.func65 kr rfl #[.int .i64 t1, .int .i64 t2] rfl sM ?_; (with_reducible refine (spec_miWedge.calls t1 t2 true _ H2.out).mono ?_); rintro e w' ⟨rfl, ⟨nd, rfl⟩⟩; refine ⟨_, rfl, ?_⟩) | (go_at_call 50; (with_reducible refine (spec_l1Cur_one.calls gC l0 a7 a8 4 true a9 b0 w _ ?side1 ?side2 H3.out).mono ?_); (case side1 => exact ⟨A1, c1, bK BC, GEC.out, a5.out⟩); (case side2 => exact bB); rintro e b3 ⟨rfl, hi, hb, hk⟩; clear BC a5 A1 c1; obtain ⟨A1, c1, a3, a6, a4⟩ := hi; have BC := Aside0.mk a3; have a5 := Aside0.mk a4; replace HB := Aside0.mk hb; clear a3 a6 a4 hb hk) | ((with_reducible refine gate_callee (f := 52) rfl ?_); refine goesL_ (some 40) rfl rfl Tryz.func52 kr rfl #[.pointer (some ⟨gC, 0, none⟩), .int .i64 400] rfl sM ?_; (with_reducible refine (spec_l1Cur_pick.calls gC l0 a9 b0 400 s p' q' w _ ?side1 ?side2 H5.out).mono ?_); (case side1 => exact ⟨A1, c1, bK BC, GEC.out, a5.out⟩); (case side2 => exact bB); rintro e b2 ⟨rfl, hi, hb, hk⟩; refine ⟨_, rfl, ?_⟩; clear BC a5 A1 c1; obtain ⟨A1, c1, a3, a6, a4⟩ := hi; have BC := Aside0.mk a3; have a5 := Aside0.mk a4; replace HB := Aside0.mk hb; clear a3 a6 a4 hb hk))
   refine bodyPost_ret (results_list (rs := [.tmp 2, .tmp 3, .tmp 4]) rfl (by simp) (.tmp (.tmp (.tmp .nil)))) rfl ?_
   exact ⟨rfl, bB⟩
  | false =>
   have h := HH.out
   try dsimp only at h
   rw [if_neg (by simp)] at h
   obtain ⟨ws, h5, h⟩ := Option.bind_eq_some_iff.mp h
   obtain ⟨⟨b, b4, b5⟩, h6, h⟩ := Option.bind_eq_some_iff.mp h
   try dsimp only at h
   by_cases e1 : 0 ≤ b
   ·(
   rw [if_pos e1] at h
   by_cases e2 : b < (ws.length : Int)
   ·(
   rw [if_pos e2] at h
   simp only [Option.some.injEq, Prod.mk.injEq] at h
   obtain ⟨rfl, rfl, rfl⟩ := h
   have H5 := Aside0.mk h5
   have H6 := Aside0.mk h6
   have E1 := Aside0.mk e1
   have E2 := Aside0.mk e2
   clear HH h5 h6 e1 e2
   go_enter Tryz.func29, Tryz.ntmps29
   go_wp2_with (first | ((with_reducible refine gate_dst (N := 11) rfl ?_); refine box_ (cs := #[.slice A0 l0.length c0, .int .i64 0, .int .u64 0]) (t := 51) fun gC hg w_C hbox hb => ?_; have BC := Aside0.mk hbox; have GEC := bS HB hg; replace HB := Aside0.mk (below_step bB hb); clear hb hbox hg) | ((with_reducible refine gate_callee (f := 62) rfl ?_); refine goesL_ (some 14) rfl rfl Tryz.func62 kr rfl #[.pointer (some ⟨gC, 0, none⟩)] rfl sM ?_; (with_reducible refine (spec_l1Cur_wedge.calls gC l0 0 0  t1 t2 a7 a8 w _ ?side1 ?side2 H1.out).mono ?_); (case side1 => exact ⟨A0, c0, bK BC, GEC.out, HR.out⟩); (case side2 => exact bB); rintro e b1 ⟨rfl, hi, hb, hk⟩; refine ⟨_, rfl, ?_⟩; clear BC; obtain ⟨A1, c1, a3, a6, a4⟩ := hi; have BC := Aside0.mk a3; have a5 := Aside0.mk a4; replace HB := Aside0.mk hb; clear a3 a6 a4 hb hk) | ((with_reducible refine gate_callee (f := 65) rfl ?_); refine goesL_ (some 19) rfl rfl Tryz.func65 kr rfl #[.int .i64 t1, .int .i64 t2] rfl sM ?_; (with_reducible refine (spec_miWedge.calls t1 t2 true _ H2.out).mono ?_); rintro e w' ⟨rfl, ⟨nd, rfl⟩⟩; refine ⟨_, rfl, ?_⟩) | (go_at_call 50; (with_reducible refine (spec_l1Cur_one.calls gC l0 a7 a8 4 false a9 b0 w _ ?side1 ?side2 H3.out).mono ?_); (case side1 => exact ⟨A1, c1, bK BC, GEC.out, a5.out⟩); (case side2 => exact bB); rintro e b3 ⟨rfl, hi, hb, hk⟩; clear BC a5 A1 c1; obtain ⟨A1, c1, a3, a6, a4⟩ := hi; have BC := Aside0.mk a3; have a5 := Aside0.mk a4; replace HB := Aside0.mk hb; clear a3 a6 a4 hb hk) | ((with_reducible refine gate_callee (f := 66) rfl ?_); refine goesL_ (some 27) rfl rfl Tryz.func66 kr rfl #[.int .i64 t1, .int .i64 t2] rfl sM ?_; (with_reducible refine (spec_miImages.calls k t1 t2 ws _ H5.out).mono ?_); rintro e b6 ⟨vW, rfl, ho, hb⟩; refine ⟨_, rfl, ?_⟩; have RW := Aside0.mk (Kd.R_lower ho (below_size bB)); replace BC := bQ BC hb; replace HB := Aside0.mk (below_step bB hb); clear ho hb; obtain ⟨AW, cW, eW⟩ := Kd.R_slice RW.out; subst eW))
   refine st0_ 12 spec_DrawWedgeSteps.pl0 (S := fun _ => True) (ds := []) trivial (fun hHeld HT_ HW_ => ?_)
   iterate 6 refine pA HT_ ?_
   refine pO HT_ fun K hK => ?_
   refine goes_ Tryz.func52 kr rfl #[.pointer (some ⟨gC, 0, none⟩), .int .i64 (ws.length : Int)] (by rfl) rfl rfl sM ?_
   (with_reducible refine (spec_l1Cur_pick.calls gC l0 a9 b0 (ws.length : Int) b b4 b5 w _ ?side1 ?side2 H6.out).mono ?_)
   (case side1 => exact ⟨A1, c1, bK BC, GEC.out, a5.out⟩)
   (case side2 => exact bB)
   rintro e b7 ⟨rfl, hi, hb, hk⟩
   refine ⟨_, rfl, ?_⟩
   replace RW := Aside0.mk (Kd.R_mono (Kd.R_keep (IsS51.apart (show IsS51 w _ gC l0 a9 b0 from ⟨A1, c1, bK BC, GEC.out, a5.out⟩) (oR RW) (by decide)) hk (fun _ h => h.2)) (fun _ h => h.1)); clear BC a5 A1 c1; obtain ⟨A1, c1, a3, a6, a4⟩ := hi; have BC := Aside0.mk a3; have a5 := Aside0.mk a4; replace HB := Aside0.mk hb; clear a3 a6 a4 hb hk
   obtain ⟨ad, ead, hx⟩ := Kd.at_int (Kd.R_reads' RW.out).2.2 b E1.out E2.out
   cases ead
   have e1 := eq_true E1.out
   have e2 := eq_true E2.out
   refine hK.out _ _ trivial (fun hHeld => ?_)
   clear hK K
   refine nP ?_
   iterate 3 refine pA HT_ ?_
   refine pO HT_ fun K hK => ?_
   go_simp
   refine hK.out _ _ trivial (fun hHeld => ?_)
   clear hK K
   refine pA HT_ ?_
   refine pD HT_ ?_
   go_wp2_with fail
   refine bodyPost_ret (results_list (rs := [.tmp 2, .tmp 3, .tmp 4]) rfl (by simp) (.tmp (.tmp (.tmp .nil)))) rfl ?_
   exact ⟨rfl, bB⟩
   )
   ·(
   rw [if_neg e2] at h
   cases h
   )
   )
   ·(
   rw [if_neg e1] at h
   cases h
   )

/-! ### spec_WordOfImage: function 15 -/
mutual
def spec_WordOfImage.j0 : Nat → Int → Int → Int → Bool → Option (ByteArray × Bool)
  | 0, _, _, _, _ => none
  | k + 1, x0, x1, x2, x19 => if x19 = true then (some ((⟨#[]⟩ : ByteArray), false)) else (if x2 = x1 then (some ((⟨#[]⟩ : ByteArray), true)) else (spec_WordOfImage.l0 k x0 x1 x2 1))
def spec_WordOfImage.l0 : Nat → Int → Int → Int → Int → Option (ByteArray × Bool)
  | 0, _, _, _, _ => none
  | k + 1, x0, x1, x2, x8 => if x8 ≤ 40 then ((spec_miWords.f k x8).bind fun t306 => (spec_WordOfImage.l1 k x0 x1 x2 x8 t306 (t306.length : Int) 0)) else (some ((⟨#[]⟩ : ByteArray), false))
def spec_WordOfImage.l1 : Nat → Int → Int → Int → Int → List ByteArray → Int → Int → Option (ByteArray × Bool)
  | 0, _, _, _, _, _, _, _ => none
  | k + 1, x0, x1, x2, x8, x28, x29, x30 => if x30 < x29 then (if 0 ≤ x30 then (if x30 < (x28.length : Int) then ((spec_miAfter.f k x0 x1 (rdOf ByteArray.empty x28 x30)).bind fun t310 => (if t310 = x2 then (some (rdOf ByteArray.empty x28 x30, true)) else (spec_WordOfImage.l1 k x0 x1 x2 x8 x28 x29 (wrap64 (x30 + 1))))) else (none)) else (none)) else (spec_WordOfImage.l0 k x0 x1 x2 (wrap64 (x8 + 1)))
end
def spec_WordOfImage.f (k : Nat) (a0 : Int) (a1 : Int) (a2 : Int) : Option (ByteArray × Bool) := (spec_miGood.f a0 a1).bind fun t304 => (if t304 = true then ((spec_l1In.f a2 (-100000) 100000).bind fun t305 => (spec_WordOfImage.j0 k a0 a1 a2 (!t305))) else (spec_WordOfImage.j0 k a0 a1 a2 true))
theorem spec_WordOfImage.mono_l : ∀ k, (∀ y0 y1 y2 y3, LeO (spec_WordOfImage.j0 k y0 y1 y2 y3) (spec_WordOfImage.j0 (k + 1) y0 y1 y2 y3)) ∧ (∀ y0 y1 y2 y3, LeO (spec_WordOfImage.l0 k y0 y1 y2 y3) (spec_WordOfImage.l0 (k + 1) y0 y1 y2 y3)) ∧ (∀ y0 y1 y2 y3 y4 y5 y6, LeO (spec_WordOfImage.l1 k y0 y1 y2 y3 y4 y5 y6) (spec_WordOfImage.l1 (k + 1) y0 y1 y2 y3 y4 y5 y6))
  | 0 => ⟨fun _ _ _ _ r h => by simp [spec_WordOfImage.j0] at h, fun _ _ _ _ r h => by simp [spec_WordOfImage.l0] at h, fun _ _ _ _ _ _ _ r h => by simp [spec_WordOfImage.l1] at h⟩
  | k + 1 => by
    obtain ⟨ih0, ih1, ih2⟩ := spec_WordOfImage.mono_l k
    refine ⟨?_, ?_, ?_⟩
    · intro y0 y1 y2 y3
      unfold spec_WordOfImage.j0
      repeat' first
      | (with_reducible exact ih0 _ _ _ _)
      | (with_reducible exact ih1 _ _ _ _)
      | (with_reducible exact ih2 _ _ _ _ _ _ _)
      | (with_reducible exact spec_miAfter.mono _ _ _ _)
      | (with_reducible exact spec_miWords.mono _ _)
      | (with_reducible exact LeO.refl _)
      | (with_reducible exact LeO.none _)
      | (with_reducible refine LeO.ite ?_ ?_)
      | (with_reducible refine LeO.bind ?_ (fun _ => ?_))
      | exact ih0 _ _ _ _
      | exact ih1 _ _ _ _
      | exact ih2 _ _ _ _ _ _ _
      | exact spec_miAfter.mono _ _ _ _
      | exact spec_miWords.mono _ _
      | exact LeO.none _
      | refine LeO.ite ?_ ?_
      | refine LeO.bind ?_ (fun _ => ?_)
    · intro y0 y1 y2 y3
      unfold spec_WordOfImage.l0
      repeat' first
      | (with_reducible exact ih0 _ _ _ _)
      | (with_reducible exact ih1 _ _ _ _)
      | (with_reducible exact ih2 _ _ _ _ _ _ _)
      | (with_reducible exact spec_miAfter.mono _ _ _ _)
      | (with_reducible exact spec_miWords.mono _ _)
      | (with_reducible exact LeO.refl _)
      | (with_reducible exact LeO.none _)
      | (with_reducible refine LeO.ite ?_ ?_)
      | (with_reducible refine LeO.bind ?_ (fun _ => ?_))
      | exact ih0 _ _ _ _
      | exact ih1 _ _ _ _
      | exact ih2 _ _ _ _ _ _ _
      | exact spec_miAfter.mono _ _ _ _
      | exact spec_miWords.mono _ _
      | exact LeO.none _
      | refine LeO.ite ?_ ?_
      | refine LeO.bind ?_ (fun _ => ?_)
    · intro y0 y1 y2 y3 y4 y5 y6
      unfold spec_WordOfImage.l1
      repeat' first
      | (with_reducible exact ih0 _ _ _ _)
      | (with_reducible exact ih1 _ _ _ _)
      | (with_reducible exact ih2 _ _ _ _ _ _ _)
      | (with_reducible exact spec_miAfter.mono _ _ _ _)
      | (with_reducible exact spec_miWords.mono _ _)
      | (with_reducible exact LeO.refl _)
      | (with_reducible exact LeO.none _)
      | (with_reducible refine LeO.ite ?_ ?_)
      | (with_reducible refine LeO.bind ?_ (fun _ => ?_))
      | exact ih0 _ _ _ _
      | exact ih1 _ _ _ _
      | exact ih2 _ _ _ _ _ _ _
      | exact spec_miAfter.mono _ _ _ _
      | exact spec_miWords.mono _ _
      | exact LeO.none _
      | refine LeO.ite ?_ ?_
      | refine LeO.bind ?_ (fun _ => ?_)
theorem spec_WordOfImage.mono : ∀ a0 a1 a2 k, LeO (spec_WordOfImage.f k a0 a1 a2) (spec_WordOfImage.f (k + 1) a0 a1 a2) := by
  intro a0 a1 a2 k
  obtain ⟨ih0, ih1, ih2⟩ := spec_WordOfImage.mono_l k
  unfold spec_WordOfImage.f
  repeat' first
      | (with_reducible exact ih0 _ _ _ _)
      | (with_reducible exact ih1 _ _ _ _)
      | (with_reducible exact ih2 _ _ _ _ _ _ _)
      | (with_reducible exact spec_miAfter.mono _ _ _ _)
      | (with_reducible exact spec_miWords.mono _ _)
      | (with_reducible exact LeO.refl _)
      | (with_reducible exact LeO.none _)
      | (with_reducible refine LeO.ite ?_ ?_)
      | (with_reducible refine LeO.bind ?_ (fun _ => ?_))
      | exact ih0 _ _ _ _
      | exact ih1 _ _ _ _
      | exact ih2 _ _ _ _ _ _ _
      | exact spec_miAfter.mono _ _ _ _
      | exact spec_miWords.mono _ _
      | exact LeO.none _
      | refine LeO.ite ?_ ?_
      | refine LeO.bind ?_ (fun _ => ?_)
set_option maxHeartbeats 8000000 in
set_option maxRecDepth 100000 in
theorem spec_WordOfImage.calls (k : Nat) (a0 : Int) (a1 : Int) (a2 : Int) (r1 : ByteArray) (r2 : Bool) (w : World) (h : spec_WordOfImage.f k a0 a1 a2 = some (r1, r2)) :
    Calls Tryz.prog 15 #[.int .i64 a0, .int .i64 a1, .int .i64 a2] w fun e w' => e = .returned (.tuple #[.string r1, .bool r2]) ∧ Below w.heap.size w w' := by
 have HB := Aside0.mk (Below.refl w.heap.size w)
 have H := h
 unfold spec_WordOfImage.f at H
 clear h
 have c0 := Aside0.mk H
 clear H
 go_enter Tryz.func15, Tryz.ntmps15
 go_upto_region 1 with (fail)
 go_cut [19] (fun d8 wc => ∃ (kq : Nat) (a8 : Bool), d8 = .bool a8 ∧ Aside0 (spec_WordOfImage.j0 kq a0 a1 a2 a8 = some (r1, r2)) ∧ Aside0 (kq ≤ k) ∧ Aside0 (Below w.heap.size w wc))
 case first => (
 have H := c0.out
 clear c0
 obtain ⟨d4, A5, H⟩ := bD H
 try dsimp only at H
 by_cases c6 : d4 = true
 ·(
 subst c6
 rw [if_pos rfl] at H
 obtain ⟨c1, A7, H⟩ := bD H
 try dsimp only at H
 have H' := Aside0.mk H
 clear H
 go_wp2_with (first | ((with_reducible refine gate_callee (f := 43) rfl ?_); refine goesL_ (some 13) rfl rfl Tryz.func43 kr rfl #[.int .i64 a0, .int .i64 a1] rfl sM ?_; (with_reducible refine (spec_miGood.calls a0 a1 true _ A5.out).mono ?_); rintro e w' ⟨rfl, ⟨nd, rfl⟩⟩; refine ⟨_, rfl, ?_⟩) | (go_at_call 44; (with_reducible refine (spec_l1In.calls a2 (-100000) 100000 c1 _ A7.out).mono ?_); rintro e w' ⟨rfl, ⟨nd, rfl⟩⟩))
 go_meet
 case rel => exact ⟨_, (!c1), sR, H', ⟨by first | omega | exact Nat.le_refl _⟩, ⟨bB⟩⟩
 )
 ·(
 replace c6 := Bool.eq_false_iff.mpr c6
 subst c6
 rw [if_neg nft] at H
 have H' := Aside0.mk H
 clear H
 go_wp2_with (first | ((with_reducible refine gate_callee (f := 43) rfl ?_); refine goesL_ (some 13) rfl rfl Tryz.func43 kr rfl #[.int .i64 a0, .int .i64 a1] rfl sM ?_; (with_reducible refine (spec_miGood.calls a0 a1 false _ A5.out).mono ?_); rintro e w' ⟨rfl, ⟨nd, rfl⟩⟩; refine ⟨_, rfl, ?_⟩))
 go_meet
 case rel => exact ⟨_, (true), sR, H', ⟨by first | omega | exact Nat.le_refl _⟩, ⟨bB⟩⟩
 )
 )
 case rest => (
 clear c0
 obtain ⟨kq, a8, rfl, HA, HJ3, HB⟩ := hcut
 cases kq with
 | zero => exact absurd HA.out (by simp [spec_WordOfImage.j0])
 | succ d1 => (
 have H := HA.out
 clear HA
 simp only [spec_WordOfImage.j0] at H
 by_cases c8 : a8 = true
 ·(
 subst c8
 rw [if_pos rfl] at H
 simp only [Option.some.injEq, Prod.mk.injEq] at H
 obtain ⟨rfl, rfl⟩ := H
 go_wp2
 go_ret2
 exact ⟨sE, bI⟩
 )
 ·(
 replace c8 := Bool.eq_false_iff.mpr c8
 subst c8
 rw [if_neg nft] at H
 by_cases c9 : a2 = a1
 ·(
 rw [if_pos c9] at H
 obtain ⟨c2, c3⟩ := yE c9
 clear c9
 simp only [Option.some.injEq, Prod.mk.injEq] at H
 obtain ⟨rfl, rfl⟩ := H
 go_wp2
 go_ret2
 exact ⟨sE, bI⟩
 )
 ·(
 rw [if_neg c9] at H
 obtain ⟨c2, c3⟩ := nE c9
 have H' := Aside0.mk H
 clear H
 go_wp2
 go_loopg [8] d1 (fun kq v8 w' => ∃ (a5 : Int), v8 = .int .i64 a5 ∧ Aside0 (spec_WordOfImage.l0 kq a0 a1 a2 a5 = some (r1, r2)) ∧ Aside0 (kq ≤ d1) ∧ Aside0 (Below w.heap.size w w'))
 case atStart => exact ⟨(1), sR, H', ⟨Nat.le_refl _⟩, ⟨bB⟩⟩
 case round => (
 clear H'
 try clear c9
 try clear c2
 try clear c3
 obtain ⟨a5, rfl, HA, HK2, HB⟩ := hrel
 cases gk with
 | zero => exact absurd HA.out (by simp [spec_WordOfImage.l0])
 | succ k2 => (
 have H := HA.out
 clear HA
 simp only [spec_WordOfImage.l0] at H
 by_cases a9 : a5 ≤ 40
 ·(
 rw [if_pos a9] at H
 have b5 : decide (a5 ≤ 40) = true := decide_eq_true a9
 clear a9
 obtain ⟨a4, d9, H⟩ := bD H
 try dsimp only at H
 have H' := Aside0.mk H
 clear H
 go_wp2_with (first | ((with_reducible refine gate_callee (f := 51) rfl ?_); refine goesL_ (some 28) rfl rfl Tryz.func51 kr rfl #[.int .i64 a5] rfl sM ?_; (with_reducible refine (spec_miWords.calls k2 a5 a4 _ d9.out).mono ?_); rintro e e4 ⟨e3, rfl, d2, hb⟩; refine ⟨_, rfl, ?_⟩; have b6 := Aside0.mk (Kd.R_lower d2 (below_size bB)); replace HB := Aside0.mk (below_step bB hb); (try clear hb); (try clear d2); obtain ⟨d5, d6, d7⟩ := Kd.R_slice b6.out; subst d7))
 go_loopg [30] k2 (fun kq e0 w' => ∃ (a3 : Int), e0 = .int .i64 a3 ∧ Aside0 (spec_WordOfImage.l1 kq a0 a1 a2 a5 a4 (a4.length : Int) a3 = some (r1, r2)) ∧ Aside0 (kq ≤ k2) ∧ Aside0 (Kd.R Kd.string 9 w' w.heap.size (fun _ => True) (.slice d5 a4.length d6) a4) ∧ Aside0 (Below w.heap.size w w'))
 case atStart => exact ⟨(0), sR, H', ⟨Nat.le_refl _⟩, ⟨oR b6⟩, ⟨bB⟩⟩
 case round => (
 clear H'
 try clear b5
 obtain ⟨a3, rfl, HA, HK3, b1, HB⟩ := hrel
 cases gk with
 | zero => exact absurd HA.out (by simp [spec_WordOfImage.l1])
 | succ k3 => (
 have H := HA.out
 clear HA
 simp only [spec_WordOfImage.l1] at H
 by_cases b0 : a3 < (a4.length : Int)
 ·(
 rw [if_pos b0] at H
 have c4 : decide (a3 < (a4.length : Int)) = true := decide_eq_true b0
 clear b0
 by_cases b7 : 0 ≤ a3
 ·(
 rw [if_pos b7] at H
 have e1 : decide (0 ≤ a3) = true := decide_eq_true b7
 clear b7
 by_cases b8 : a3 < (a4.length : Int)
 ·(
 rw [if_pos b8] at H
 have e2 : decide (a3 < (a4.length : Int)) = true := decide_eq_true b8
 clear b8
 obtain ⟨b3, d3, H⟩ := bD H
 try dsimp only at H
 by_cases b2 : b3 = a2
 ·(
 rw [if_pos b2] at H
 obtain ⟨c5, c7⟩ := yE b2
 clear b2
 simp only [Option.some.injEq, Prod.mk.injEq] at H
 obtain ⟨rfl, rfl⟩ := H
 have a6 : 0 ≤ (a3 : Int) := of_decide_eq_true asm
 have a7 : a3 < (a4.length : Int) := of_decide_eq_true asm
 obtain ⟨d0, b4, b9⟩ := Kd.at_string (Kd.R_reads' b1.out).2.2 a3 a6 a7
 cases b4
 replace a6 := eq_true a6
 replace a7 := eq_true a7
 go_wp2_with (first | ((with_reducible refine gate_callee (f := 49) rfl ?_); refine goesL_ (some 37) rfl rfl Tryz.func49 kr rfl #[.int .i64 a0, .int .i64 a1, .string (rdOf ByteArray.empty a4 a3)] rfl sM ?_; (with_reducible refine (spec_miAfter.calls k3 a0 a1 (rdOf ByteArray.empty a4 a3) b3 _ d3.out).mono ?_); rintro e w' ⟨rfl, ⟨nd, rfl⟩⟩; refine ⟨_, rfl, ?_⟩))
 go_ret2
 exact ⟨sE, bI⟩
 )
 ·(
 rw [if_neg b2] at H
 obtain ⟨c5, c7⟩ := nE b2
 have H' := Aside0.mk H
 clear H
 have a6 : 0 ≤ (a3 : Int) := of_decide_eq_true asm
 have a7 : a3 < (a4.length : Int) := of_decide_eq_true asm
 obtain ⟨d0, b4, b9⟩ := Kd.at_string (Kd.R_reads' b1.out).2.2 a3 a6 a7
 cases b4
 replace a6 := eq_true a6
 replace a7 := eq_true a7
 go_wp2_with (first | ((with_reducible refine gate_callee (f := 49) rfl ?_); refine goesL_ (some 37) rfl rfl Tryz.func49 kr rfl #[.int .i64 a0, .int .i64 a1, .string (rdOf ByteArray.empty a4 a3)] rfl sM ?_; (with_reducible refine (spec_miAfter.calls k3 a0 a1 (rdOf ByteArray.empty a4 a3) b3 _ d3.out).mono ?_); rintro e w' ⟨rfl, ⟨nd, rfl⟩⟩; refine ⟨_, rfl, ?_⟩))
 go_roundg k3
 case measure => have := HJ3.out; have := HK2.out; have := HK3.out; omega
 case rel => exact ⟨(wrap64 (a3 + 1)), sR, H', ⟨by have := HJ3.out; have := HK2.out; have := HK3.out; omega⟩, ⟨oR b1⟩, ⟨bB⟩⟩
 )
 )
 ·(
 rw [if_neg b8] at H
 exact absurd H (by simp)
 )
 )
 ·(
 rw [if_neg b7] at H
 exact absurd H (by simp)
 )
 )
 ·(
 rw [if_neg b0] at H
 have c4 : decide (a3 < (a4.length : Int)) = false := decide_eq_false b0
 clear b0
 have H' := Aside0.mk H
 clear H
 go_wp2
 go_roundg k3
 case measure => have := HJ3.out; have := HK2.out; have := HK3.out; omega
 case rel => exact ⟨(wrap64 (a5 + 1)), sR, H', ⟨by have := HJ3.out; have := HK2.out; have := HK3.out; omega⟩, ⟨bB⟩⟩
 )
 )
 )
 )
 ·(
 rw [if_neg a9] at H
 have b5 : decide (a5 ≤ 40) = false := decide_eq_false a9
 clear a9
 simp only [Option.some.injEq, Prod.mk.injEq] at H
 obtain ⟨rfl, rfl⟩ := H
 go_wp2
 go_ret2
 exact ⟨sE, bI⟩
 )
 )
 )
 )
 )
 )
 )

/-! ### spec_DrawCountNear: function 16 -/
-- (its text lies ahead)

/-! ### impl_distance: function 58 -/
def impl_distance.f (a0 : Int) (a1 : Int) : Option (Int) := some (mx (wrap64 (a0 - a1)) (wrap64 (a1 - a0)))
set_option maxHeartbeats 8000000 in
set_option maxRecDepth 100000 in
theorem impl_distance.calls (a0 : Int) (a1 : Int) (r : Int) (w : World) (h : impl_distance.f a0 a1 = some r) :
    Calls Tryz.prog 58 #[.int .i64 a0, .int .i64 a1] w fun e w' => e = .returned (.int .i64 r) ∧ Below w.heap.size w w' := by
 have HB := Aside0.mk (Below.refl w.heap.size w)
 have H := h
 unfold impl_distance.f at H
 clear h
 obtain ⟨a4, a3⟩ : ∃ j_ : Int, (mx (wrap64 (a0 - a1)) (wrap64 (a1 - a0))) = j_ := ⟨_, rfl⟩
 (first | rw [a3] at H | simp only [a3] at H)
 have a5 : (if (wrap64 (a0 - a1)) < (wrap64 (a1 - a0)) then (wrap64 (a1 - a0)) else (wrap64 (a0 - a1))) = a4 := a3
 obtain rfl := Option.some.inj H
 go_enter Tryz.func58, Tryz.ntmps58
 go_wp2
 go_ret
 exact ⟨by first | rfl | (simp [errW_none, errW_some] <;> rfl) | (simp only [← a3]; first | rfl | (simp [errW_none, errW_some] <;> rfl)) | (simp [*, errW_none, errW_some] <;> rfl), bI⟩

end Go.Proofs.YtnmhefdjakjngaaGreatDoor.PFnMirrorsFace
