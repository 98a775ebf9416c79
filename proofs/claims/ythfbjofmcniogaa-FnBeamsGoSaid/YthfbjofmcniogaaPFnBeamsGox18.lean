-- Written by xprint.py, a program of this session, for this seat; Lean checks it.
import Derived.Test.YthfbjofmcniogaaVN
import Derived.Test.YthfbjofmcniogaaPFnBeamsGox0
import Derived.Test.YthfbjofmcniogaaPFnBeamsGox14
import Derived.Test.YthfbjofmcniogaaPFnBeamsGox16
import Derived.Test.YthfbjofmcniogaaPFnBeamsGox17
namespace Go.Proofs.Ythfbjofmcniogaa.PFnBeamsGo
open Go.Proofs.YthfbjofmcniogaaV Go.RowKit Go.Proofs.YthfbjofmcniogaaW.PrintWords Go.Proofs.YthfbjofmcniogaaW.PrintLast Go.Proofs.YthfbjofmcniogaaW.PrintMore
attribute [local go_sem] max2_int min2_int max_two min_two max_three min_three max_four min_four   -- for this text's walks alone
set_option linter.unusedVariables false
set_option linter.unusedSimpArgs false

/-! ### spec_DrawPlacesOfBeam: function 35 -/
theorem kQ {w W w1 : World} {g g' : Nat} {o : Obj} (x : Aside0 (w.heap[g]? = some o)) (hk : KeepBut W w1 g' none) (hne : Aside0 (g ≠ g')) (h : w.heap[g]? = some o → W.heap[g]? = some o := by (intro hx_; (with_reducible repeat (first | refine blk_drewN ?_ _ | refine blk_drew ?_ | refine blk_alloc ?_ _)); exact hx_)) : Aside0 (w1.heap[g]? = some o) :=
  ⟨(hk.2 g (blk_lt (h x.out)) hne.out (by simp)).trans (h x.out)⟩
def spec_DrawPlacesOfBeam.f (l0 : List Int) : Option (Int × Int × Int × Int × Bool × Bool × Int) :=
  (spec_l1Cur_beam.f l0 0 0).bind fun t => (spec_l1Cur_among.f l0 t.2.2.2.2.2.2.1 t.2.2.2.2.2.2.2 [0, 1, 2, 5, 9, 20, 40, 300, 301, -1]).bind fun s => some (t.1, t.2.1, t.2.2.1, t.2.2.2.1, t.2.2.2.2.1, t.2.2.2.2.2.1, s.1)
set_option maxHeartbeats 8000000 in
set_option maxRecDepth 100000 in
theorem spec_DrawPlacesOfBeam.calls (A0 : Option Addr) (c0 : Nat) (l0 : List Int) (r1 r2 r3 r4 : Int) (r5 r6 : Bool) (r7 : Int) (w : World) (hr0 : Kd.C (Kd.int .u8) w A0 l0.length l0) (hc0 : l0.length ≤ c0) (h : spec_DrawPlacesOfBeam.f l0 = some (r1, r2, r3, r4, r5, r6, r7)) :
    Calls Try.prog 35 #[.slice A0 l0.length c0] w fun e w' => e = .returned (.tuple #[.agg #[.int .i64 r1, .int .i64 r2], .agg #[.int .i64 r3, .int .i64 r4, .bool r5, .bool r6], .int .i64 r7]) ∧ Below w.heap.size w w' := by
  unfold spec_DrawPlacesOfBeam.f at h
  obtain ⟨⟨t1, t2, t3, t4, t5, t6, c1_, d1_⟩, h1, h⟩ := Option.bind_eq_some_iff.mp h
  obtain ⟨⟨s, p', q'⟩, h2, h⟩ := Option.bind_eq_some_iff.mp h
  simp only [Option.some.injEq, Prod.mk.injEq] at h
  obtain ⟨rfl, rfl, rfl, rfl, rfl, rfl, rfl⟩ := h
  obtain ⟨ys, hys⟩ : ∃ ys : List Int, ys = [0, 1, 2, 5, 9, 20, 40, 300, 301, -1] := ⟨_, rfl⟩
  have H2 : Aside0 (spec_l1Cur_among.f l0 c1_ d1_ ys = some (s, p', q')) := ⟨by rw [hys]; exact h2⟩
  have HY := Aside0.mk hys
  have H1 := Aside0.mk h1
  have HR := Aside0.mk hr0
  clear h1 h2 hr0 hys
  have hu28 := Try.underlying28
  have hu30 := Try.underlying30
  have HB := Aside0.mk (Below.refl w.heap.size w)
  go_enter Try.func35, Try.ntmps35
  go_wp2_with (first | ((with_reducible refine gate_dst (N := 2) rfl ?_); refine box_ (cs := #[.int .i64 0, .int .i64 0]) (t := 28) fun g2 hg w2 hbox hb => ?_; have B2 := Aside0.mk hbox; have GE2 := bS HB hg; replace HB := Aside0.mk (below_step bB hb); clear hb hbox hg) | ((with_reducible refine gate_dst (N := 3) rfl ?_); refine box_ (cs := #[.int .i64 0, .int .i64 0, .bool false, .bool false]) (t := 30) fun g3 hg w3 hbox hb => ?_; have B3 := Aside0.mk hbox; have GE3 := bS HB hg; have NB23 := bL B2 hg; have NB32 := bM B2 hg; replace B2 := bQ B2 hb; replace HB := Aside0.mk (below_step bB hb); clear hb hbox hg) | ((with_reducible refine gate_dst (N := 10) rfl ?_); refine box_ (cs := #[.slice A0 l0.length c0, .int .i64 0, .int .u64 0]) (t := 84) fun gc hg w4 hbox hb => ?_; have BC := Aside0.mk hbox; have GEC := bS HB hg; have NB2C := bL B2 hg; have NBC2 := bM B2 hg; have NB3C := bL B3 hg; have NBC3 := bM B3 hg; replace B2 := bQ B2 hb; replace B3 := bQ B3 hb; replace HB := Aside0.mk (below_step bB hb); clear hb hbox hg) | ((with_reducible refine gate_callee (f := 65) rfl ?_); refine goesL_ (some 13) rfl rfl Try.func65 kr rfl #[.pointer (some ⟨gc, 0, none⟩)] rfl sM ?_; (with_reducible refine (spec_l1Cur_beam.calls gc l0 0 0 t1 t2 t3 t4 t5 t6 c1_ d1_ w _ ?side1 ?side2 H1.out).mono ?_); (case side1 => exact ⟨A0, c0, bK BC, GEC.out, HR.out⟩); (case side2 => exact bB); rintro e w5 ⟨rfl, hi, hb, hk⟩; refine ⟨_, rfl, ?_⟩; replace B2 := kQ B2 hk NB2C; replace B3 := kQ B3 hk NB3C; clear BC; obtain ⟨A1, c1, hi1, hi2, hi3⟩ := hi; have BC := Aside0.mk hi1; have HR1 := Aside0.mk hi3; replace HB := Aside0.mk hb; clear hi1 hi2 hi3 hb hk) | ((with_reducible refine gate_dst (N := 6) rfl ?_); refine box_ (cs := #[.int .i64 0, .int .i64 0]) (t := 28) fun g6 hg w6 hbox hb => ?_; have B6 := Aside0.mk hbox; have GE6 := bS HB hg; have NB26 := bL B2 hg; have NB36 := bL B3 hg; have NBC6 := bL BC hg; have NB62 := bM B2 hg; have NB63 := bM B3 hg; have NB6C := bM BC hg; replace B2 := bQ B2 hb; replace B3 := bQ B3 hb; replace BC := bQ BC hb; replace HB := Aside0.mk (below_step bB hb); clear hb hbox hg) | ((with_reducible refine gate_dst (N := 7) rfl ?_); refine box_ (cs := #[.int .i64 0, .int .i64 0, .bool false, .bool false]) (t := 30) fun g7 hg w7 hbox hb => ?_; have B7 := Aside0.mk hbox; have GE7 := bS HB hg; have NB27 := bL B2 hg; have NB37 := bL B3 hg; have NBC7 := bL BC hg; have NB67 := bL B6 hg; have NB72 := bM B2 hg; have NB73 := bM B3 hg; have NB7C := bM BC hg; have NB76 := bM B6 hg; replace B2 := bQ B2 hb; replace B3 := bQ B3 hb; replace BC := bQ BC hb; replace B6 := bQ B6 hb; replace HB := Aside0.mk (below_step bB hb); clear hb hbox hg; obtain ⟨z1, z2, z3, z4⟩ := cf2 B6; obtain ⟨z5, z6, z7, z8, z9, za, zb, zc⟩ := cf4 B7; have n67 := NB67.out; have n76 := NB76.out))
  generalize hW_ : (((((w7.setCell ⟨g6, 0, none⟩ (.int .i64 t1)).setCell ⟨g6, 1, none⟩ (.int .i64 t2)).setCell ⟨g7, 0, none⟩ (.int .i64 t3)).setCell ⟨g7, 1, none⟩ (.int .i64 t4)).setCell ⟨g7, 2, none⟩ (.bool t5)).setCell ⟨g7, 3, none⟩ (.bool t6) = W8
  have B6' := bFp hW_ (.cells #[.int .i64 t1, .int .i64 t2] 28 (0, 0)) B6
  have B7' := bFp hW_ (.cells #[.int .i64 t3, .int .i64 t4, .bool t5, .bool t6] 30 (0, 0)) B7
  replace B2 := bF hW_ B2
  replace B3 := bF hW_ B3
  replace BC := bF hW_ BC
  replace HB := bG HB hW_
  clear B6 B7 hW_ z1 z2 z3 z4 z5 z6 z7 z8 z9 za zb zc n67 n76
  replace B6 := bD1 B6'
  replace B7 := bD1 B7'
  replace B2 := bD1 B2
  replace B3 := bD1 B3
  replace BC := bD1 BC
  replace HB := Aside0.mk (below_drew1 HB.out)
  clear B6' B7'
  refine st0_ 8 [qt 0 16, qt 1 17, q 2 18, qo 3 19, qo 4 20, qn 5 3, qn 6 3, q 7 4] (S := fun w' => w'.cell? ⟨g6, 0, none⟩ = some (.int .i64 t1) ∧ w'.cell? ⟨g6, 1, none⟩ = some (.int .i64 t2) ∧ w'.cell? ⟨g7, 0, none⟩ = some (.int .i64 t3) ∧ w'.cell? ⟨g7, 1, none⟩ = some (.int .i64 t4) ∧ w'.cell? ⟨g7, 2, none⟩ = some (.bool t5) ∧ w'.cell? ⟨g7, 3, none⟩ = some (.bool t6)) (ds := []) cS (fun hHeld HT_ HW_ => ?_)
  generalize W8.drew = W9 at B2 B3 BC B6 B7 HB hHeld ⊢
  iterate 2 refine pU HT_ hHeld ?_
  refine pA HT_ ?_
  refine pO HT_ fun K hK => ?_
  refine Kd.R_lit_step (Kd.int .i64) _ 3 ?hw (N := 19) ?hd (xs := ([0, 1, 2, 5, 9, 20, 40, 300, 301, (-1)] : List Int)) (inner := [.int .i64 0, .int .i64 1, .int .i64 2, .int .i64 5, .int .i64 9, .int .i64 20, .int .i64 40, .int .i64 300, .int .i64 301, .int .i64 (-1)]) (ok := fun _ => True) (okp := fun _ => True) ?hr ?hp (fun _ hk => hk) trivial (Below.refl _ _) (Nat.le_refl _) (by simp) ?_
  case hw => rfl
  case hd => rfl
  case hr => first | (go_simp; done) | (go_simp; rfl)
  case hp => exact (Reps.one rfl (Reps.one rfl (Reps.one rfl (Reps.one rfl (Reps.one rfl (Reps.one rfl (Reps.one rfl (Reps.one rfl (Reps.one rfl (Reps.one rfl (Reps.none _ _)))))))))))
  intro v1 wA hr hb hg_ hnew_
  clear hg_ hnew_
  rw [← HY.out] at hr
  have R0 := Aside0.mk hr
  replace B2 := bQ B2 hb
  replace B3 := bQ B3 hb
  replace B6 := bQ B6 hb
  replace B7 := bQ B7 hb
  replace BC := bQ BC hb
  replace HB := Aside0.mk (below_step bB hb)
  clear hr hb
  obtain ⟨Ab, cb, eb⟩ := Kd.R_slice R0.out
  subst eb
  refine hK.out _ _ cS (fun hHeld => ?_)
  clear hK K
  refine nP ?_
  refine pO HT_ fun K hK => ?_
  have HI := Aside0.mk (show IsS84 w wA gc l0 c1_ d1_ from ⟨A1, c1, BC.out, GEC.out, HR1.out⟩)
  refine goes_ Try.func66 kr rfl #[.pointer (some ⟨gc, 0, none⟩), .slice Ab ys.length cb] (by rfl) rfl rfl sM ?_
  with_reducible refine (spec_l1Cur_among.calls gc l0 c1_ d1_ _ _ ys s p' q' w _ HI.out HB.out ?side3 ?side4 ?side5 H2.out).mono ?_
  case side3 => exact (Kd.R_reads' R0.out).2.2
  case side4 => exact (Kd.R_reads' R0.out).2.1
  case side5 => exact far_slice (IsS84.own_ne HI.out R0.out (by decide))
  rintro e wB ⟨rfl, hi, hb, hk⟩
  refine ⟨_, rfl, ?_⟩
  replace B2 := kQ B2 hk NB2C
  replace B3 := kQ B3 hk NB3C
  replace B6 := kQ B6 hk NB6C
  replace B7 := kQ B7 hk NB7C
  replace HB := Aside0.mk hb
  clear hi hb hk HI BC R0
  refine hK.out _ _ cS (fun hHeld => ?_)
  clear hK K
  refine nP ?_
  refine pO HT_ fun K hK => ?_
  obtain ⟨z1, z2, z3, z4⟩ := cf2 B2
  refine skip_ (w1 := ?_) (by rfl) rfl ?_ ?_
  rotate_left
  ·(
   go_simp
   rfl
  )
  refine hK.out _ _ ⟨(blk_cell (bK B6) 0).trans rfl, (blk_cell (bK B6) 1).trans rfl, (blk_cell (bK B7) 0).trans rfl, (blk_cell (bK B7) 1).trans rfl, (blk_cell (bK B7) 2).trans rfl, (blk_cell (bK B7) 3).trans rfl⟩ (fun hHeld => ?_)
  clear hK K z1 z2 z3 z4
  generalize hW_ : (wB.setCell ⟨g2, 0, none⟩ (.int .i64 t1)).setCell ⟨g2, 1, none⟩ (.int .i64 t2) = wC at hHeld ⊢
  replace B2 := bFp hW_ (.cells #[.int .i64 t1, .int .i64 t2] 28 (0, 0)) B2
  replace B3 := bF hW_ B3
  replace B6 := bF hW_ B6
  replace B7 := bF hW_ B7
  replace HB := bG HB hW_
  clear hW_
  refine pO HT_ fun K hK => ?_
  obtain ⟨z1, z2, z3, z4, z5, z6, z7, z8⟩ := cf4 B3
  refine skip_ (w1 := ?_) (by rfl) rfl ?_ ?_
  rotate_left
  ·(
   go_simp
   rfl
  )
  refine hK.out _ _ ⟨(blk_cell (bK B6) 0).trans rfl, (blk_cell (bK B6) 1).trans rfl, (blk_cell (bK B7) 0).trans rfl, (blk_cell (bK B7) 1).trans rfl, (blk_cell (bK B7) 2).trans rfl, (blk_cell (bK B7) 3).trans rfl⟩ (fun hHeld => ?_)
  clear hK K z1 z2 z3 z4 z5 z6 z7 z8
  generalize hW_ : (((wC.setCell ⟨g3, 0, none⟩ (.int .i64 t3)).setCell ⟨g3, 1, none⟩ (.int .i64 t4)).setCell ⟨g3, 2, none⟩ (.bool t5)).setCell ⟨g3, 3, none⟩ (.bool t6) = wD at hHeld ⊢
  replace B3 := bFp hW_ (.cells #[.int .i64 t3, .int .i64 t4, .bool t5, .bool t6] 30 (0, 0)) B3
  replace B2 := bF hW_ B2
  replace HB := bG HB hW_
  clear hW_
  refine pA HT_ ?_
  refine pD HT_ ?_
  try go_wp2
  refine bodyPost_ret (results_list (rs := [.cell 2 28, .cell 3 30, .tmp 4]) rfl (by simp) (.cell g2 28 _ (0, 0) _ rfl B2.out hu28 rfl kr (.cell g3 30 _ (0, 0) _ rfl B3.out hu30 rfl kr (.tmp .nil)))) rfl ?_
  exact ⟨rfl, HB.out⟩
-- the second draw
def spec_DrawFirstPass.f (l0 : List Int) : Option (Int × Int × Int × Int × Bool × Bool × Int × Int) :=
  (spec_l1Cur_beam.f l0 0 0).bind fun t => (spec_l1Most.f 0 t.1).bind fun m => (spec_l1Least.f 60 m).bind fun n => (spec_l1Cur_pick.f l0 t.2.2.2.2.2.2.1 t.2.2.2.2.2.2.2 (wrap64 (n + 2))).bind fun a => (spec_l1Cur_pick.f l0 a.2.1 a.2.2 9).bind fun b => (spec_l1Most.f 0 t.2.1).bind fun m2 => (spec_l1Least.f 60 m2).bind fun n2 => (spec_l1Cur_pick.f l0 b.2.1 b.2.2 (wrap64 (n2 + 2))).bind fun c => some (t.1, t.2.1, t.2.2.1, t.2.2.2.1, t.2.2.2.2.1, t.2.2.2.2.2.1, wrap64 (a.1 - wrap64 (b.1.tdiv 8)), c.1)
set_option maxHeartbeats 8000000 in
set_option maxRecDepth 100000 in
theorem spec_DrawFirstPass.calls (A0 : Option Addr) (c0 : Nat) (l0 : List Int) (r1 r2 r3 r4 : Int) (r5 r6 : Bool) (r7 r8 : Int) (w : World) (hr0 : Kd.C (Kd.int .u8) w A0 l0.length l0) (hc0 : l0.length ≤ c0) (h : spec_DrawFirstPass.f l0 = some (r1, r2, r3, r4, r5, r6, r7, r8)) :
    Calls Try.prog 36 #[.slice A0 l0.length c0] w fun e w' => e = .returned (.tuple #[.agg #[.int .i64 r1, .int .i64 r2], .agg #[.int .i64 r3, .int .i64 r4, .bool r5, .bool r6], .int .i64 r7, .int .i64 r8]) ∧ Below w.heap.size w w' := by
  unfold spec_DrawFirstPass.f at h
  obtain ⟨⟨t1, t2, t3, t4, t5, t6, c1_, d1_⟩, h1, h⟩ := Option.bind_eq_some_iff.mp h
  obtain ⟨m1, h2, h⟩ := Option.bind_eq_some_iff.mp h
  obtain ⟨n1, h3, h⟩ := Option.bind_eq_some_iff.mp h
  obtain ⟨⟨a1, c2_, d2_⟩, h4, h⟩ := Option.bind_eq_some_iff.mp h
  obtain ⟨⟨b1, c3_, d3_⟩, h5, h⟩ := Option.bind_eq_some_iff.mp h
  obtain ⟨m2, h6, h⟩ := Option.bind_eq_some_iff.mp h
  obtain ⟨n2, h7, h⟩ := Option.bind_eq_some_iff.mp h
  obtain ⟨⟨e1, c4_, d4_⟩, h8, h⟩ := Option.bind_eq_some_iff.mp h
  simp only [Option.some.injEq, Prod.mk.injEq] at h
  obtain ⟨rfl, rfl, rfl, rfl, rfl, rfl, rfl, rfl⟩ := h
  have H1 := Aside0.mk h1
  have H2 := Aside0.mk h2
  have H3 := Aside0.mk h3
  have H4 := Aside0.mk h4
  have H5 := Aside0.mk h5
  have H6 := Aside0.mk h6
  have H7 := Aside0.mk h7
  have H8 := Aside0.mk h8
  clear h1 h2 h3 h4 h5 h6 h7 h8
  have HR := Aside0.mk hr0
  clear hr0
  have hu28 := Try.underlying28
  have hu30 := Try.underlying30
  have HB := Aside0.mk (Below.refl w.heap.size w)
  go_enter Try.func36, Try.ntmps36
  go_wp2_with (first | ((with_reducible refine gate_dst (N := 2) rfl ?_); refine box_ (cs := #[.int .i64 0, .int .i64 0]) (t := 28) fun g2 hg w2 hbox hb => ?_; have B2 := Aside0.mk hbox; have GE2 := bS HB hg; replace HB := Aside0.mk (below_step bB hb); clear hb hbox hg) | ((with_reducible refine gate_dst (N := 3) rfl ?_); refine box_ (cs := #[.int .i64 0, .int .i64 0, .bool false, .bool false]) (t := 30) fun g3 hg w3 hbox hb => ?_; have B3 := Aside0.mk hbox; have GE3 := bS HB hg; have NB23 := bL B2 hg; have NB32 := bM B2 hg; replace B2 := bQ B2 hb; replace HB := Aside0.mk (below_step bB hb); clear hb hbox hg) | ((with_reducible refine gate_dst (N := 11) rfl ?_); refine box_ (cs := #[.slice A0 l0.length c0, .int .i64 0, .int .u64 0]) (t := 84) fun gc hg w4 hbox hb => ?_; have BC := Aside0.mk hbox; have GEC := bS HB hg; have NB2C := bL B2 hg; have NBC2 := bM B2 hg; have NB3C := bL B3 hg; have NBC3 := bM B3 hg; replace B2 := bQ B2 hb; replace B3 := bQ B3 hb; replace HB := Aside0.mk (below_step bB hb); clear hb hbox hg) | ((with_reducible refine gate_callee (f := 65) rfl ?_); refine goesL_ (some 14) rfl rfl Try.func65 kr rfl #[.pointer (some ⟨gc, 0, none⟩)] rfl sM ?_; (with_reducible refine (spec_l1Cur_beam.calls gc l0 0 0 t1 t2 t3 t4 t5 t6 c1_ d1_ w _ ?side1 ?side2 H1.out).mono ?_); (case side1 => exact ⟨A0, c0, bK BC, GEC.out, HR.out⟩); (case side2 => exact bB); rintro e w5 ⟨rfl, hi, hb, hk⟩; refine ⟨_, rfl, ?_⟩; replace B2 := kQ B2 hk NB2C; replace B3 := kQ B3 hk NB3C; clear BC; obtain ⟨A1, c1, hi1, hi2, hi3⟩ := hi; have BC := Aside0.mk hi1; have HR1 := Aside0.mk hi3; replace HB := Aside0.mk hb; clear hi1 hi2 hi3 hb hk) | ((with_reducible refine gate_dst (N := 7) rfl ?_); refine box_ (cs := #[.int .i64 0, .int .i64 0]) (t := 28) fun g6 hg w6 hbox hb => ?_; have B6 := Aside0.mk hbox; have GE6 := bS HB hg; have NB26 := bL B2 hg; have NB36 := bL B3 hg; have NBC6 := bL BC hg; have NB62 := bM B2 hg; have NB63 := bM B3 hg; have NB6C := bM BC hg; replace B2 := bQ B2 hb; replace B3 := bQ B3 hb; replace BC := bQ BC hb; replace HB := Aside0.mk (below_step bB hb); clear hb hbox hg) | ((with_reducible refine gate_dst (N := 8) rfl ?_); refine box_ (cs := #[.int .i64 0, .int .i64 0, .bool false, .bool false]) (t := 30) fun g7 hg w7 hbox hb => ?_; have B7 := Aside0.mk hbox; have GE7 := bS HB hg; have NB27 := bL B2 hg; have NB37 := bL B3 hg; have NBC7 := bL BC hg; have NB67 := bL B6 hg; have NB72 := bM B2 hg; have NB73 := bM B3 hg; have NB7C := bM BC hg; have NB76 := bM B6 hg; replace B2 := bQ B2 hb; replace B3 := bQ B3 hb; replace BC := bQ BC hb; replace B6 := bQ B6 hb; replace HB := Aside0.mk (below_step bB hb); clear hb hbox hg; obtain ⟨z1, z2, z3, z4⟩ := cf2 B6; obtain ⟨z5, z6, z7, z8, z9, za, zb, zc⟩ := cf4 B7; have n67 := NB67.out; have n76 := NB76.out))
  generalize hW_ : (((((w7.setCell ⟨g6, 0, none⟩ (.int .i64 t1)).setCell ⟨g6, 1, none⟩ (.int .i64 t2)).setCell ⟨g7, 0, none⟩ (.int .i64 t3)).setCell ⟨g7, 1, none⟩ (.int .i64 t4)).setCell ⟨g7, 2, none⟩ (.bool t5)).setCell ⟨g7, 3, none⟩ (.bool t6) = W8
  have B6' := bFp hW_ (.cells #[.int .i64 t1, .int .i64 t2] 28 (0, 0)) B6
  have B7' := bFp hW_ (.cells #[.int .i64 t3, .int .i64 t4, .bool t5, .bool t6] 30 (0, 0)) B7
  replace B2 := bF hW_ B2
  replace B3 := bF hW_ B3
  replace BC := bF hW_ BC
  replace HB := bG HB hW_
  clear B6 B7 hW_ z1 z2 z3 z4 z5 z6 z7 z8 z9 za zb zc n67 n76
  replace B6 := bD1 B6'
  replace B7 := bD1 B7'
  replace B2 := bD1 B2
  replace B3 := bD1 B3
  replace BC := bD1 BC
  replace HB := Aside0.mk (below_drew1 HB.out)
  clear B6' B7'
  refine st0_ 24 [qt 0 17, qt 1 18, q 2 19, q 3 20, qt 4 21, q 9 26, q 13 30, q 14 31, qt 15 32, qo 5 22, qo 6 23, q 7 24, qo 8 25, qo 10 27, q 11 28, q 12 29, qo 16 33, qo 17 34, q 18 35, qo 19 36, qn 20 3, qn 21 3, q 22 4, q 23 5] (S := fun w' => w'.cell? ⟨g6, 0, none⟩ = some (.int .i64 t1) ∧ w'.cell? ⟨g6, 1, none⟩ = some (.int .i64 t2) ∧ w'.cell? ⟨g7, 0, none⟩ = some (.int .i64 t3) ∧ w'.cell? ⟨g7, 1, none⟩ = some (.int .i64 t4) ∧ w'.cell? ⟨g7, 2, none⟩ = some (.bool t5) ∧ w'.cell? ⟨g7, 3, none⟩ = some (.bool t6)) (ds := []) cS (fun hHeld HT_ HW_ => ?_)
  generalize W8.drew = W9 at B2 B3 BC B6 B7 HB hHeld ⊢
  iterate 9 (first | refine pA HT_ ?_ | refine pU HT_ hHeld ?_)
  refine pO HT_ fun K hK => ?_
  refine goes_ Try.func68 kr rfl #[.int .i64 0, .int .i64 t1] (by rfl) rfl rfl sM ?_
  with_reducible refine (spec_l1Most.calls 0 t1 m1 _ H2.out).mono ?_
  rintro e wX ⟨rfl, hdr⟩
  refine ⟨_, rfl, ?_⟩
  replace B2 := bQ B2 hdr.below
  replace B3 := bQ B3 hdr.below
  replace B6 := bQ B6 hdr.below
  replace B7 := bQ B7 hdr.below
  replace BC := bQ BC hdr.below
  replace HB := Aside0.mk (below_step bB hdr.below)
  clear hdr
  refine hK.out _ _ cS (fun hHeld => ?_)
  clear hK K
  refine nP ?_
  refine pO HT_ fun K hK => ?_
  refine goes_ Try.func62 kr rfl #[.int .i64 60, .int .i64 m1] (by rfl) rfl rfl sM ?_
  with_reducible refine (spec_l1Least.calls 60 m1 n1 _ H3.out).mono ?_
  rintro e wY ⟨rfl, hdr⟩
  refine ⟨_, rfl, ?_⟩
  replace B2 := bQ B2 hdr.below
  replace B3 := bQ B3 hdr.below
  replace B6 := bQ B6 hdr.below
  replace B7 := bQ B7 hdr.below
  replace BC := bQ BC hdr.below
  replace HB := Aside0.mk (below_step bB hdr.below)
  clear hdr
  refine hK.out _ _ cS (fun hHeld => ?_)
  clear hK K
  refine nP ?_
  refine pA HT_ ?_
  refine pO HT_ fun K hK => ?_
  have HI := Aside0.mk (show IsS84 w wY gc l0 c1_ d1_ from ⟨A1, c1, BC.out, GEC.out, HR1.out⟩)
  refine goes_ Try.func67 kr rfl #[.pointer (some ⟨gc, 0, none⟩), .int .i64 (wrap64 (n1 + 2))] (by rfl) rfl rfl sM ?_
  with_reducible refine (spec_l1Cur_pick.calls gc l0 c1_ d1_ (wrap64 (n1 + 2)) a1 c2_ d2_ w _ HI.out HB.out H4.out).mono ?_
  rintro e wZ ⟨rfl, hi, hb, hk⟩
  refine ⟨_, rfl, ?_⟩
  replace B2 := kQ B2 hk NB2C
  replace B3 := kQ B3 hk NB3C
  replace B6 := kQ B6 hk NB6C
  replace B7 := kQ B7 hk NB7C
  replace HB := Aside0.mk hb
  clear HI BC HR1 A1 c1
  obtain ⟨A1, c1, hi1, hi2, hi3⟩ := hi
  have BC := Aside0.mk hi1
  have HR1 := Aside0.mk hi3
  clear hi1 hi2 hi3 hb hk
  refine hK.out _ _ cS (fun hHeld => ?_)
  clear hK K
  refine nP ?_
  refine pO HT_ fun K hK => ?_
  have HI := Aside0.mk (show IsS84 w wZ gc l0 c2_ d2_ from ⟨A1, c1, BC.out, GEC.out, HR1.out⟩)
  refine goes_ Try.func67 kr rfl #[.pointer (some ⟨gc, 0, none⟩), .int .i64 9] (by rfl) rfl rfl sM ?_
  with_reducible refine (spec_l1Cur_pick.calls gc l0 c2_ d2_ 9 b1 c3_ d3_ w _ HI.out HB.out H5.out).mono ?_
  rintro e xZ ⟨rfl, hi, hb, hk⟩
  refine ⟨_, rfl, ?_⟩
  replace B2 := kQ B2 hk NB2C
  replace B3 := kQ B3 hk NB3C
  replace B6 := kQ B6 hk NB6C
  replace B7 := kQ B7 hk NB7C
  replace HB := Aside0.mk hb
  clear HI BC HR1 A1 c1
  obtain ⟨A1, c1, hi1, hi2, hi3⟩ := hi
  have BC := Aside0.mk hi1
  have HR1 := Aside0.mk hi3
  clear hi1 hi2 hi3 hb hk
  refine hK.out _ _ cS (fun hHeld => ?_)
  clear hK K
  refine nP ?_
  iterate 2 refine pA HT_ ?_
  refine pO HT_ fun K hK => ?_
  refine goes_ Try.func68 kr rfl #[.int .i64 0, .int .i64 t2] (by rfl) rfl rfl sM ?_
  with_reducible refine (spec_l1Most.calls 0 t2 m2 _ H6.out).mono ?_
  rintro e xX ⟨rfl, hdr⟩
  refine ⟨_, rfl, ?_⟩
  replace B2 := bQ B2 hdr.below
  replace B3 := bQ B3 hdr.below
  replace B6 := bQ B6 hdr.below
  replace B7 := bQ B7 hdr.below
  replace BC := bQ BC hdr.below
  replace HB := Aside0.mk (below_step bB hdr.below)
  clear hdr
  refine hK.out _ _ cS (fun hHeld => ?_)
  clear hK K
  refine nP ?_
  refine pO HT_ fun K hK => ?_
  refine goes_ Try.func62 kr rfl #[.int .i64 60, .int .i64 m2] (by rfl) rfl rfl sM ?_
  with_reducible refine (spec_l1Least.calls 60 m2 n2 _ H7.out).mono ?_
  rintro e xY ⟨rfl, hdr⟩
  refine ⟨_, rfl, ?_⟩
  replace B2 := bQ B2 hdr.below
  replace B3 := bQ B3 hdr.below
  replace B6 := bQ B6 hdr.below
  replace B7 := bQ B7 hdr.below
  replace BC := bQ BC hdr.below
  replace HB := Aside0.mk (below_step bB hdr.below)
  clear hdr
  refine hK.out _ _ cS (fun hHeld => ?_)
  clear hK K
  refine nP ?_
  refine pA HT_ ?_
  refine pO HT_ fun K hK => ?_
  have HI := Aside0.mk (show IsS84 w xY gc l0 c3_ d3_ from ⟨A1, c1, BC.out, GEC.out, HR1.out⟩)
  refine goes_ Try.func67 kr rfl #[.pointer (some ⟨gc, 0, none⟩), .int .i64 (wrap64 (n2 + 2))] (by rfl) rfl rfl sM ?_
  with_reducible refine (spec_l1Cur_pick.calls gc l0 c3_ d3_ (wrap64 (n2 + 2)) e1 c4_ d4_ w _ HI.out HB.out H8.out).mono ?_
  rintro e wB ⟨rfl, hi, hb, hk⟩
  refine ⟨_, rfl, ?_⟩
  replace B2 := kQ B2 hk NB2C
  replace B3 := kQ B3 hk NB3C
  replace B6 := kQ B6 hk NB6C
  replace B7 := kQ B7 hk NB7C
  replace HB := Aside0.mk hb
  clear HI BC HR1 A1 c1
  obtain ⟨A1, c1, hi1, hi2, hi3⟩ := hi
  have BC := Aside0.mk hi1
  have HR1 := Aside0.mk hi3
  clear hi1 hi2 hi3 hb hk
  refine hK.out _ _ cS (fun hHeld => ?_)
  clear hK K
  refine nP ?_
  clear BC HR1
  refine pO HT_ fun K hK => ?_
  obtain ⟨z1, z2, z3, z4⟩ := cf2 B2
  refine skip_ (w1 := ?_) (by rfl) rfl ?_ ?_
  rotate_left
  ·(
   go_simp
   rfl
  )
  refine hK.out _ _ ⟨(blk_cell (bK B6) 0).trans rfl, (blk_cell (bK B6) 1).trans rfl, (blk_cell (bK B7) 0).trans rfl, (blk_cell (bK B7) 1).trans rfl, (blk_cell (bK B7) 2).trans rfl, (blk_cell (bK B7) 3).trans rfl⟩ (fun hHeld => ?_)
  clear hK K z1 z2 z3 z4
  generalize hW_ : (wB.setCell ⟨g2, 0, none⟩ (.int .i64 t1)).setCell ⟨g2, 1, none⟩ (.int .i64 t2) = wC at hHeld ⊢
  replace B2 := bFp hW_ (.cells #[.int .i64 t1, .int .i64 t2] 28 (0, 0)) B2
  replace B3 := bF hW_ B3
  replace B6 := bF hW_ B6
  replace B7 := bF hW_ B7
  replace HB := bG HB hW_
  clear hW_
  refine pO HT_ fun K hK => ?_
  obtain ⟨z1, z2, z3, z4, z5, z6, z7, z8⟩ := cf4 B3
  refine skip_ (w1 := ?_) (by rfl) rfl ?_ ?_
  rotate_left
  ·(
   go_simp
   rfl
  )
  refine hK.out _ _ ⟨(blk_cell (bK B6) 0).trans rfl, (blk_cell (bK B6) 1).trans rfl, (blk_cell (bK B7) 0).trans rfl, (blk_cell (bK B7) 1).trans rfl, (blk_cell (bK B7) 2).trans rfl, (blk_cell (bK B7) 3).trans rfl⟩ (fun hHeld => ?_)
  clear hK K z1 z2 z3 z4 z5 z6 z7 z8
  generalize hW_ : (((wC.setCell ⟨g3, 0, none⟩ (.int .i64 t3)).setCell ⟨g3, 1, none⟩ (.int .i64 t4)).setCell ⟨g3, 2, none⟩ (.bool t5)).setCell ⟨g3, 3, none⟩ (.bool t6) = wD at hHeld ⊢
  replace B3 := bFp hW_ (.cells #[.int .i64 t3, .int .i64 t4, .bool t5, .bool t6] 30 (0, 0)) B3
  replace B2 := bF hW_ B2
  replace HB := bG HB hW_
  clear hW_
  iterate 2 refine pA HT_ ?_
  refine pD HT_ ?_
  try go_wp2
  refine bodyPost_ret (results_list (rs := [.cell 2 28, .cell 3 30, .tmp 4, .tmp 5]) rfl (by simp) (.cell g2 28 _ (0, 0) _ rfl B2.out hu28 rfl kr (.cell g3 30 _ (0, 0) _ rfl B3.out hu30 rfl kr (.tmp (.tmp .nil))))) rfl ?_
  exact ⟨rfl, HB.out⟩
-- the third draw
def spec_DrawBeamAfter.f (l0 : List Int) : Option (Int × Int × Int × Int × Bool × Bool × Int) :=
  (spec_l1Cur_beam.f l0 0 0).bind fun t => (spec_l1Cur_one.f l0 t.2.2.2.2.2.2.1 t.2.2.2.2.2.2.2 6).bind fun o => if o.1 = true then (spec_l1Cur_among.f l0 o.2.1 o.2.2 [-1, 0, 1000, 99999, 100000, 100001]).bind fun s => some (t.1, t.2.1, t.2.2.1, t.2.2.2.1, t.2.2.2.2.1, t.2.2.2.2.2.1, s.1) else (spec_l1Cur_pick.f l0 o.2.1 o.2.2 60).bind fun s => some (t.1, t.2.1, t.2.2.1, t.2.2.2.1, t.2.2.2.2.1, t.2.2.2.2.2.1, s.1)
set_option maxHeartbeats 8000000 in
set_option maxRecDepth 100000 in
theorem spec_DrawBeamAfter.calls (A0 : Option Addr) (c0 : Nat) (l0 : List Int) (r1 r2 r3 r4 : Int) (r5 r6 : Bool) (r7 : Int) (w : World) (hr0 : Kd.C (Kd.int .u8) w A0 l0.length l0) (hc0 : l0.length ≤ c0) (h : spec_DrawBeamAfter.f l0 = some (r1, r2, r3, r4, r5, r6, r7)) :
    Calls Try.prog 37 #[.slice A0 l0.length c0] w fun e w' => e = .returned (.tuple #[.agg #[.int .i64 r1, .int .i64 r2], .agg #[.int .i64 r3, .int .i64 r4, .bool r5, .bool r6], .int .i64 r7]) ∧ Below w.heap.size w w' := by
  unfold spec_DrawBeamAfter.f at h
  obtain ⟨⟨t1, t2, t3, t4, t5, t6, c1_, d1_⟩, h1, h⟩ := Option.bind_eq_some_iff.mp h
  obtain ⟨⟨o1, c2_, d2_⟩, h2, h⟩ := Option.bind_eq_some_iff.mp h
  have H1 := Aside0.mk h1
  have H2 := Aside0.mk h2
  have HH := Aside0.mk h
  clear h1 h2 h
  have HR := Aside0.mk hr0
  clear hr0
  have hu28 := Try.underlying28
  have hu30 := Try.underlying30
  have HB := Aside0.mk (Below.refl w.heap.size w)
  go_enter Try.func37, Try.ntmps37
  go_wp2_with (first | ((with_reducible refine gate_dst (N := 2) rfl ?_); refine box_ (cs := #[.int .i64 0, .int .i64 0]) (t := 28) fun g2 hg w2 hbox hb => ?_; have B2 := Aside0.mk hbox; have GE2 := bS HB hg; replace HB := Aside0.mk (below_step bB hb); clear hb hbox hg) | ((with_reducible refine gate_dst (N := 3) rfl ?_); refine box_ (cs := #[.int .i64 0, .int .i64 0, .bool false, .bool false]) (t := 30) fun g3 hg w3 hbox hb => ?_; have B3 := Aside0.mk hbox; have GE3 := bS HB hg; have NB23 := bL B2 hg; have NB32 := bM B2 hg; replace B2 := bQ B2 hb; replace HB := Aside0.mk (below_step bB hb); clear hb hbox hg) | ((with_reducible refine gate_dst (N := 10) rfl ?_); refine box_ (cs := #[.slice A0 l0.length c0, .int .i64 0, .int .u64 0]) (t := 84) fun gc hg w4 hbox hb => ?_; have BC := Aside0.mk hbox; have GEC := bS HB hg; have NB2C := bL B2 hg; have NBC2 := bM B2 hg; have NB3C := bL B3 hg; have NBC3 := bM B3 hg; replace B2 := bQ B2 hb; replace B3 := bQ B3 hb; replace HB := Aside0.mk (below_step bB hb); clear hb hbox hg) | ((with_reducible refine gate_callee (f := 65) rfl ?_); refine goesL_ (some 13) rfl rfl Try.func65 kr rfl #[.pointer (some ⟨gc, 0, none⟩)] rfl sM ?_; (with_reducible refine (spec_l1Cur_beam.calls gc l0 0 0 t1 t2 t3 t4 t5 t6 c1_ d1_ w _ ?side1 ?side2 H1.out).mono ?_); (case side1 => exact ⟨A0, c0, bK BC, GEC.out, HR.out⟩); (case side2 => exact bB); rintro e w5 ⟨rfl, hi, hb, hk⟩; refine ⟨_, rfl, ?_⟩; replace B2 := kQ B2 hk NB2C; replace B3 := kQ B3 hk NB3C; clear BC; obtain ⟨A1, c1, hi1, hi2, hi3⟩ := hi; have BC := Aside0.mk hi1; have HR1 := Aside0.mk hi3; replace HB := Aside0.mk hb; clear hi1 hi2 hi3 hb hk) | ((with_reducible refine gate_dst (N := 6) rfl ?_); refine box_ (cs := #[.int .i64 0, .int .i64 0]) (t := 28) fun g6 hg w6 hbox hb => ?_; have B6 := Aside0.mk hbox; have GE6 := bS HB hg; have NB26 := bL B2 hg; have NB36 := bL B3 hg; have NBC6 := bL BC hg; have NB62 := bM B2 hg; have NB63 := bM B3 hg; have NB6C := bM BC hg; replace B2 := bQ B2 hb; replace B3 := bQ B3 hb; replace BC := bQ BC hb; replace HB := Aside0.mk (below_step bB hb); clear hb hbox hg) | ((with_reducible refine gate_dst (N := 7) rfl ?_); refine box_ (cs := #[.int .i64 0, .int .i64 0, .bool false, .bool false]) (t := 30) fun g7 hg w7 hbox hb => ?_; have B7 := Aside0.mk hbox; have GE7 := bS HB hg; have NB27 := bL B2 hg; have NB37 := bL B3 hg; have NBC7 := bL BC hg; have NB67 := bL B6 hg; have NB72 := bM B2 hg; have NB73 := bM B3 hg; have NB7C := bM BC hg; have NB76 := bM B6 hg; replace B2 := bQ B2 hb; replace B3 := bQ B3 hb; replace BC := bQ BC hb; replace B6 := bQ B6 hb; replace HB := Aside0.mk (below_step bB hb); clear hb hbox hg; obtain ⟨z1, z2, z3, z4⟩ := cf2 B6; obtain ⟨z5, z6, z7, z8, z9, za, zb, zc⟩ := cf4 B7; have n67 := NB67.out; have n76 := NB76.out))
  generalize hW_ : (((((w7.setCell ⟨g6, 0, none⟩ (.int .i64 t1)).setCell ⟨g6, 1, none⟩ (.int .i64 t2)).setCell ⟨g7, 0, none⟩ (.int .i64 t3)).setCell ⟨g7, 1, none⟩ (.int .i64 t4)).setCell ⟨g7, 2, none⟩ (.bool t5)).setCell ⟨g7, 3, none⟩ (.bool t6) = W8
  replace B6 := bFp hW_ (.cells #[.int .i64 t1, .int .i64 t2] 28 (0, 0)) B6
  replace B7 := bFp hW_ (.cells #[.int .i64 t3, .int .i64 t4, .bool t5, .bool t6] 30 (0, 0)) B7
  replace B2 := bF hW_ B2
  replace B3 := bF hW_ B3
  replace BC := bF hW_ BC
  replace HB := bG HB hW_
  clear hW_ z1 z2 z3 z4 z5 z6 z7 z8 z9 za zb zc n67 n76
  have HI := Aside0.mk (show IsS84 w W8 gc l0 c1_ d1_ from ⟨A1, c1, BC.out, GEC.out, HR1.out⟩)
  with_reducible refine (spec_l1Cur_one.calls gc l0 c1_ d1_ 6 o1 c2_ d2_ w _ HI.out HB.out H2.out).mono ?_
  rintro e w11 ⟨rfl, hi, hb, hk⟩
  replace B2 := kQ B2 hk NB2C
  replace B3 := kQ B3 hk NB3C
  replace B6 := kQ B6 hk NB6C
  replace B7 := kQ B7 hk NB7C
  clear HI BC HR1 A1 c1
  obtain ⟨A1, c1, hi1, hi2, hi3⟩ := hi
  have BC := Aside0.mk hi1
  have HR1 := Aside0.mk hi3
  replace HB := Aside0.mk hb
  clear hi1 hi2 hi3 hb hk
  cases o1 with
  | true =>
    have h := HH.out
    try dsimp only at h
    rw [if_pos rfl] at h
    obtain ⟨⟨s, p', q'⟩, h3, h⟩ := Option.bind_eq_some_iff.mp h
    simp only [Option.some.injEq, Prod.mk.injEq] at h
    obtain ⟨rfl, rfl, rfl, rfl, rfl, rfl, rfl⟩ := h
    obtain ⟨ys, hys⟩ : ∃ ys : List Int, ys = [-1, 0, 1000, 99999, 100000, 100001] := ⟨_, rfl⟩
    have H3 : Aside0 (spec_l1Cur_among.f l0 c2_ d2_ ys = some (s, p', q')) := ⟨by rw [hys]; exact h3⟩
    have HY := Aside0.mk hys
    clear h3 hys HH
    go_wp2_with fail
    replace B6 := bD1 B6
    replace B7 := bD1 B7
    replace B2 := bD1 B2
    replace B3 := bD1 B3
    replace BC := bD1 BC
    replace HB := Aside0.mk (below_drew1 HB.out)
    refine st0_ 8 [qt 0 18, qt 1 19, q 2 20, qo 3 21, qo 4 22, qn 5 3, qn 6 3, q 7 4] (S := fun w' => w'.cell? ⟨g6, 0, none⟩ = some (.int .i64 t1) ∧ w'.cell? ⟨g6, 1, none⟩ = some (.int .i64 t2) ∧ w'.cell? ⟨g7, 0, none⟩ = some (.int .i64 t3) ∧ w'.cell? ⟨g7, 1, none⟩ = some (.int .i64 t4) ∧ w'.cell? ⟨g7, 2, none⟩ = some (.bool t5) ∧ w'.cell? ⟨g7, 3, none⟩ = some (.bool t6)) (ds := []) cS (fun hHeld HT_ HW_ => ?_)
    generalize w11.drew = W9 at B2 B3 BC B6 B7 HB hHeld ⊢
    iterate 2 refine pU HT_ hHeld ?_
    refine pA HT_ ?_
    refine pO HT_ fun K hK => ?_
    refine Kd.R_lit_step (Kd.int .i64) _ 3 ?hw (N := 21) ?hd (xs := ([(-1), 0, 1000, 99999, 100000, 100001] : List Int)) (inner := [.int .i64 (-1), .int .i64 0, .int .i64 1000, .int .i64 99999, .int .i64 100000, .int .i64 100001]) (ok := fun _ => True) (okp := fun _ => True) ?hr ?hp (fun _ hk => hk) trivial (Below.refl _ _) (Nat.le_refl _) (by simp) ?_
    case hw => rfl
    case hd => rfl
    case hr => first | (go_simp; done) | (go_simp; rfl)
    case hp => exact (Reps.one rfl (Reps.one rfl (Reps.one rfl (Reps.one rfl (Reps.one rfl (Reps.one rfl (Reps.none _ _)))))))
    intro v1 wA hr hb hg_ hnew_
    clear hg_ hnew_
    rw [← HY.out] at hr
    have R0 := Aside0.mk hr
    replace B2 := bQ B2 hb
    replace B3 := bQ B3 hb
    replace B6 := bQ B6 hb
    replace B7 := bQ B7 hb
    replace BC := bQ BC hb
    replace HB := Aside0.mk (below_step bB hb)
    clear hr hb
    obtain ⟨Ab, cb, eb⟩ := Kd.R_slice R0.out
    subst eb
    refine hK.out _ _ cS (fun hHeld => ?_)
    clear hK K
    refine nP ?_
    refine pO HT_ fun K hK => ?_
    have HI := Aside0.mk (show IsS84 w wA gc l0 c2_ d2_ from ⟨A1, c1, BC.out, GEC.out, HR1.out⟩)
    refine goes_ Try.func66 kr rfl #[.pointer (some ⟨gc, 0, none⟩), .slice Ab ys.length cb] (by rfl) rfl rfl sM ?_
    with_reducible refine (spec_l1Cur_among.calls gc l0 c2_ d2_ _ _ ys s p' q' w _ HI.out HB.out ?side3 ?side4 ?side5 H3.out).mono ?_
    case side3 => exact (Kd.R_reads' R0.out).2.2
    case side4 => exact (Kd.R_reads' R0.out).2.1
    case side5 => exact far_slice (IsS84.own_ne HI.out R0.out (by decide))
    rintro e wB ⟨rfl, hi, hb, hk⟩
    refine ⟨_, rfl, ?_⟩
    replace B2 := kQ B2 hk NB2C
    replace B3 := kQ B3 hk NB3C
    replace B6 := kQ B6 hk NB6C
    replace B7 := kQ B7 hk NB7C
    replace HB := Aside0.mk hb
    clear hi hb hk HI BC R0
    refine hK.out _ _ cS (fun hHeld => ?_)
    clear hK K
    refine nP ?_
    refine pO HT_ fun K hK => ?_
    obtain ⟨z1, z2, z3, z4⟩ := cf2 B2
    refine skip_ (w1 := ?_) (by rfl) rfl ?_ ?_
    rotate_left
    ·(
     go_simp
     rfl
    )
    refine hK.out _ _ ⟨(blk_cell (bK B6) 0).trans rfl, (blk_cell (bK B6) 1).trans rfl, (blk_cell (bK B7) 0).trans rfl, (blk_cell (bK B7) 1).trans rfl, (blk_cell (bK B7) 2).trans rfl, (blk_cell (bK B7) 3).trans rfl⟩ (fun hHeld => ?_)
    clear hK K z1 z2 z3 z4
    generalize hW_ : (wB.setCell ⟨g2, 0, none⟩ (.int .i64 t1)).setCell ⟨g2, 1, none⟩ (.int .i64 t2) = wC at hHeld ⊢
    replace B2 := bFp hW_ (.cells #[.int .i64 t1, .int .i64 t2] 28 (0, 0)) B2
    replace B3 := bF hW_ B3
    replace B6 := bF hW_ B6
    replace B7 := bF hW_ B7
    replace HB := bG HB hW_
    clear hW_
    refine pO HT_ fun K hK => ?_
    obtain ⟨z1, z2, z3, z4, z5, z6, z7, z8⟩ := cf4 B3
    refine skip_ (w1 := ?_) (by rfl) rfl ?_ ?_
    rotate_left
    ·(
     go_simp
     rfl
    )
    refine hK.out _ _ ⟨(blk_cell (bK B6) 0).trans rfl, (blk_cell (bK B6) 1).trans rfl, (blk_cell (bK B7) 0).trans rfl, (blk_cell (bK B7) 1).trans rfl, (blk_cell (bK B7) 2).trans rfl, (blk_cell (bK B7) 3).trans rfl⟩ (fun hHeld => ?_)
    clear hK K z1 z2 z3 z4 z5 z6 z7 z8
    generalize hW_ : (((wC.setCell ⟨g3, 0, none⟩ (.int .i64 t3)).setCell ⟨g3, 1, none⟩ (.int .i64 t4)).setCell ⟨g3, 2, none⟩ (.bool t5)).setCell ⟨g3, 3, none⟩ (.bool t6) = wD at hHeld ⊢
    replace B3 := bFp hW_ (.cells #[.int .i64 t3, .int .i64 t4, .bool t5, .bool t6] 30 (0, 0)) B3
    replace B2 := bF hW_ B2
    replace HB := bG HB hW_
    clear hW_
    refine pA HT_ ?_
    refine pD HT_ ?_
    try go_wp2
    refine bodyPost_ret (results_list (rs := [.cell 2 28, .cell 3 30, .tmp 4]) rfl (by simp) (.cell g2 28 _ (0, 0) _ rfl B2.out hu28 rfl kr (.cell g3 30 _ (0, 0) _ rfl B3.out hu30 rfl kr (.tmp .nil)))) rfl ?_
    exact ⟨rfl, HB.out⟩
  | false =>
    have h := HH.out
    try dsimp only at h
    rw [if_neg (by simp)] at h
    obtain ⟨⟨s, p', q'⟩, h3, h⟩ := Option.bind_eq_some_iff.mp h
    simp only [Option.some.injEq, Prod.mk.injEq] at h
    obtain ⟨rfl, rfl, rfl, rfl, rfl, rfl, rfl⟩ := h
    have H3 := Aside0.mk h3
    clear h3 HH
    go_wp2_with fail
    replace B6 := bD1 B6
    replace B7 := bD1 B7
    replace B2 := bD1 B2
    replace B3 := bD1 B3
    replace BC := bD1 BC
    replace HB := Aside0.mk (below_drew1 HB.out)
    refine st0_ 7 [qt 0 23, qt 1 24, q 2 25, qo 3 26, qn 4 3, qn 5 3, q 6 4] (S := fun w' => w'.cell? ⟨g6, 0, none⟩ = some (.int .i64 t1) ∧ w'.cell? ⟨g6, 1, none⟩ = some (.int .i64 t2) ∧ w'.cell? ⟨g7, 0, none⟩ = some (.int .i64 t3) ∧ w'.cell? ⟨g7, 1, none⟩ = some (.int .i64 t4) ∧ w'.cell? ⟨g7, 2, none⟩ = some (.bool t5) ∧ w'.cell? ⟨g7, 3, none⟩ = some (.bool t6)) (ds := []) cS (fun hHeld HT_ HW_ => ?_)
    generalize w11.drew = W9 at B2 B3 BC B6 B7 HB hHeld ⊢
    iterate 2 refine pU HT_ hHeld ?_
    refine pA HT_ ?_
    refine pO HT_ fun K hK => ?_
    have HI := Aside0.mk (show IsS84 w W9 gc l0 c2_ d2_ from ⟨A1, c1, BC.out, GEC.out, HR1.out⟩)
    refine goes_ Try.func67 kr rfl #[.pointer (some ⟨gc, 0, none⟩), .int .i64 60] (by rfl) rfl rfl sM ?_
    with_reducible refine (spec_l1Cur_pick.calls gc l0 c2_ d2_ 60 s p' q' w _ HI.out HB.out H3.out).mono ?_
    rintro e wB ⟨rfl, hi, hb, hk⟩
    refine ⟨_, rfl, ?_⟩
    replace B2 := kQ B2 hk NB2C
    replace B3 := kQ B3 hk NB3C
    replace B6 := kQ B6 hk NB6C
    replace B7 := kQ B7 hk NB7C
    replace HB := Aside0.mk hb
    clear HI BC HR1 A1 c1
    obtain ⟨A1, c1, hi1, hi2, hi3⟩ := hi
    have BC := Aside0.mk hi1
    have HR1 := Aside0.mk hi3
    clear hi1 hi2 hi3 hb hk
    refine hK.out _ _ cS (fun hHeld => ?_)
    clear hK K
    refine nP ?_
    clear BC HR1
    refine pO HT_ fun K hK => ?_
    obtain ⟨z1, z2, z3, z4⟩ := cf2 B2
    refine skip_ (w1 := ?_) (by rfl) rfl ?_ ?_
    rotate_left
    ·(
     go_simp
     rfl
    )
    refine hK.out _ _ ⟨(blk_cell (bK B6) 0).trans rfl, (blk_cell (bK B6) 1).trans rfl, (blk_cell (bK B7) 0).trans rfl, (blk_cell (bK B7) 1).trans rfl, (blk_cell (bK B7) 2).trans rfl, (blk_cell (bK B7) 3).trans rfl⟩ (fun hHeld => ?_)
    clear hK K z1 z2 z3 z4
    generalize hW_ : (wB.setCell ⟨g2, 0, none⟩ (.int .i64 t1)).setCell ⟨g2, 1, none⟩ (.int .i64 t2) = wC at hHeld ⊢
    replace B2 := bFp hW_ (.cells #[.int .i64 t1, .int .i64 t2] 28 (0, 0)) B2
    replace B3 := bF hW_ B3
    replace B6 := bF hW_ B6
    replace B7 := bF hW_ B7
    replace HB := bG HB hW_
    clear hW_
    refine pO HT_ fun K hK => ?_
    obtain ⟨z1, z2, z3, z4, z5, z6, z7, z8⟩ := cf4 B3
    refine skip_ (w1 := ?_) (by rfl) rfl ?_ ?_
    rotate_left
    ·(
     go_simp
     rfl
    )
    refine hK.out _ _ ⟨(blk_cell (bK B6) 0).trans rfl, (blk_cell (bK B6) 1).trans rfl, (blk_cell (bK B7) 0).trans rfl, (blk_cell (bK B7) 1).trans rfl, (blk_cell (bK B7) 2).trans rfl, (blk_cell (bK B7) 3).trans rfl⟩ (fun hHeld => ?_)
    clear hK K z1 z2 z3 z4 z5 z6 z7 z8
    generalize hW_ : (((wC.setCell ⟨g3, 0, none⟩ (.int .i64 t3)).setCell ⟨g3, 1, none⟩ (.int .i64 t4)).setCell ⟨g3, 2, none⟩ (.bool t5)).setCell ⟨g3, 3, none⟩ (.bool t6) = wD at hHeld ⊢
    replace B3 := bFp hW_ (.cells #[.int .i64 t3, .int .i64 t4, .bool t5, .bool t6] 30 (0, 0)) B3
    replace B2 := bF hW_ B2
    replace HB := bG HB hW_
    clear hW_
    refine pA HT_ ?_
    refine pD HT_ ?_
    try go_wp2
    refine bodyPost_ret (results_list (rs := [.cell 2 28, .cell 3 30, .tmp 4]) rfl (by simp) (.cell g2 28 _ (0, 0) _ rfl B2.out hu28 rfl kr (.cell g3 30 _ (0, 0) _ rfl B3.out hu30 rfl kr (.tmp .nil)))) rfl ?_
    exact ⟨rfl, HB.out⟩

/-! ### spec_DrawFirstPass: function 36 -/
-- (its text lies ahead)

/-! ### spec_DrawBeamAfter: function 37 -/
-- (its text lies ahead)

end Go.Proofs.Ythfbjofmcniogaa.PFnBeamsGo
