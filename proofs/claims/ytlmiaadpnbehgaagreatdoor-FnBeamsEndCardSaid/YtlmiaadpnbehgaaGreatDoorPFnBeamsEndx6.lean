-- Written by xprint.py, a program of this session, for this seat; Lean checks it.
import Derived.Test.YtlmiaadpnbehgaaGreatDoorVM
import Derived.Test.YtlmiaadpnbehgaaGreatDoorPFnBeamsEndx0
import Derived.Test.YtlmiaadpnbehgaaGreatDoorPFnBeamsEndx3
import Derived.Test.YtlmiaadpnbehgaaGreatDoorPFnBeamsEndx4
import Derived.Test.YtlmiaadpnbehgaaGreatDoorPFnBeamsEndx5
namespace Go.Proofs.YtlmiaadpnbehgaaGreatDoor.PFnBeamsEnd
open Go.Proofs.YtlmiaadpnbehgaaGreatDoorV Go.RowKit Go.Proofs.YtlmiaadpnbehgaaGreatDoorW.PrintWords Go.Proofs.YtlmiaadpnbehgaaGreatDoorW.PrintLast Go.Proofs.YtlmiaadpnbehgaaGreatDoorW.PrintMore
attribute [local go_sem] max2_int min2_int max_two min_two max_three min_three max_four min_four   -- for this text's walks alone
set_option linter.unusedVariables false
set_option linter.unusedSimpArgs false

/-! ### spec_DrawIsBeam: function 32 -/
theorem kQ {w W w1 : World} {g g' : Nat} {o : Obj} (x : Aside0 (w.heap[g]? = some o)) (hk : KeepBut W w1 g' none) (hne : Aside0 (g ≠ g')) (h : w.heap[g]? = some o → W.heap[g]? = some o := by (intro hx_; (with_reducible repeat (first | refine blk_drewN ?_ _ | refine blk_drew ?_ | refine blk_alloc ?_ _)); exact hx_)) : Aside0 (w1.heap[g]? = some o) :=
  ⟨(hk.2 g (blk_lt (h x.out)) hne.out (by simp)).trans (h x.out)⟩
def spec_DrawIsTable.f (l0 : List Int) : Option (Int × Int) := (spec_l1Cur_table.f l0 0 0).bind fun t => some (t.1, t.2.1)
set_option maxHeartbeats 8000000 in
set_option maxRecDepth 100000 in
theorem spec_DrawIsTable.calls (A0 : Option Addr) (c0 : Nat) (l0 : List Int) (r1 r2 : Int) (w : World) (hr0 : Kd.C (Kd.int .u8) w A0 l0.length l0) (hc0 : l0.length ≤ c0) (h : spec_DrawIsTable.f l0 = some (r1, r2)) :
    Calls Tryz.prog 44 #[.slice A0 l0.length c0] w fun e w' => e = .returned (.agg #[.int .i64 r1, .int .i64 r2]) ∧ Below w.heap.size w w' := by
 unfold spec_DrawIsTable.f at h
 obtain ⟨⟨t1, t2, a6, a7⟩, h1, h⟩ := Option.bind_eq_some_iff.mp h
 simp only [Option.some.injEq, Prod.mk.injEq] at h
 obtain ⟨rfl, rfl⟩ := h
 have H1 := Aside0.mk h1
 have HR := Aside0.mk hr0
 clear h1 hr0
 have hu := Tryz.underlying25
 have HB := Aside0.mk (Below.refl w.heap.size w)
 go_enter Tryz.func44, Tryz.ntmps44
 go_wp2_with (first | ((with_reducible refine gate_dst (N := 2) rfl ?_); refine box_ (cs := #[.int .i64 0, .int .i64 0]) (t := 25) fun g2 hg b1 hbox hb => ?_; have B2 := Aside0.mk hbox; have b2 := bS HB hg; replace HB := Aside0.mk (below_step bB hb); clear hb hbox hg) | ((with_reducible refine gate_dst (N := 6) rfl ?_); refine box_ (cs := #[.slice A0 l0.length c0, .int .i64 0, .int .u64 0]) (t := 73) fun gC hg w_C hbox hb => ?_; have BC := Aside0.mk hbox; have GEC := bS HB hg; have a5 := bL B2 hg; have a9 := bM B2 hg; replace B2 := bQ B2 hb; replace HB := Aside0.mk (below_step bB hb); clear hb hbox hg) | ((with_reducible refine gate_callee (f := 71) rfl ?_); refine goesL_ (some 8) rfl rfl Tryz.func71 kr rfl #[.pointer (some ⟨gC, 0, none⟩)] rfl sM ?_; (with_reducible refine (spec_l1Cur_table.calls gC l0 0 0  t1 t2 a6 a7 w _ ?side1 ?side2 H1.out).mono ?_); (case side1 => exact ⟨A0, c0, bK BC, GEC.out, HR.out⟩); (case side2 => exact bB); rintro e b0 ⟨rfl, hi, hb, hk⟩; refine ⟨_, rfl, ?_⟩; replace B2 := kQ B2 hk a5; clear BC; obtain ⟨A1, c1, a3, a8, a4⟩ := hi; have BC := Aside0.mk a3; have b3 := Aside0.mk a4; replace HB := Aside0.mk hb; clear a3 a8 a4 hb hk; obtain ⟨z1, z2, z3, z4⟩ := cf2 B2))
 refine bodyPost_ret (results_cell_row rfl _ _ g2 25 #[.int .i64 t1, .int .i64 t2] (0, 0) _ rfl (bK B2) hu rfl kr) rfl ?_
 exact ⟨rfl, bB⟩
def spec_DrawIsBeam.f (l0 : List Int) : Option (Int × Int × Int × Int × Bool × Bool) := (spec_l1Cur_beam.f l0 0 0).bind fun t => some (t.1, t.2.1, t.2.2.1, t.2.2.2.1, t.2.2.2.2.1, t.2.2.2.2.2.1)
set_option maxHeartbeats 8000000 in
set_option maxRecDepth 100000 in
theorem spec_DrawIsBeam.calls (A0 : Option Addr) (c0 : Nat) (l0 : List Int) (r1 r2 r3 r4 : Int) (r5 r6 : Bool) (w : World) (hr0 : Kd.C (Kd.int .u8) w A0 l0.length l0) (hc0 : l0.length ≤ c0) (h : spec_DrawIsBeam.f l0 = some (r1, r2, r3, r4, r5, r6)) :
    Calls Tryz.prog 32 #[.slice A0 l0.length c0] w fun e w' => e = .returned (.tuple #[.agg #[.int .i64 r1, .int .i64 r2], .agg #[.int .i64 r3, .int .i64 r4, .bool r5, .bool r6]]) ∧ Below w.heap.size w w' := by
 unfold spec_DrawIsBeam.f at h
 obtain ⟨⟨t1, t2, t3, t4, t5, t6, a9, b0⟩, h1, h⟩ := Option.bind_eq_some_iff.mp h
 simp only [Option.some.injEq, Prod.mk.injEq] at h
 obtain ⟨rfl, rfl, rfl, rfl, rfl, rfl⟩ := h
 have H1 := Aside0.mk h1
 have HR := Aside0.mk hr0
 clear h1 hr0
 have hu := Tryz.underlying25
 have hv := Tryz.underlying27
 have HB := Aside0.mk (Below.refl w.heap.size w)
 go_enter Tryz.func32, Tryz.ntmps32
 go_wp2_with (first | ((with_reducible refine gate_dst (N := 2) rfl ?_); refine box_ (cs := #[.int .i64 0, .int .i64 0]) (t := 25) fun g2 hg b5 hbox hb => ?_; have B2 := Aside0.mk hbox; have b6 := bS HB hg; replace HB := Aside0.mk (below_step bB hb); clear hb hbox hg) | ((with_reducible refine gate_dst (N := 3) rfl ?_); refine box_ (cs := #[.int .i64 0, .int .i64 0, .bool false, .bool false]) (t := 27) fun g3 hg b7 hbox hb => ?_; have B3 := Aside0.mk hbox; have b8 := bS HB hg; have a5 := bL B2 hg; have a6 := bM B2 hg; replace B2 := bQ B2 hb; replace HB := Aside0.mk (below_step bB hb); clear hb hbox hg) | ((with_reducible refine gate_dst (N := 7) rfl ?_); refine box_ (cs := #[.slice A0 l0.length c0, .int .i64 0, .int .u64 0]) (t := 73) fun gC hg w_C hbox hb => ?_; have BC := Aside0.mk hbox; have GEC := bS HB hg; have a7 := bL B2 hg; have b2 := bM B2 hg; have a8 := bL B3 hg; have b3 := bM B3 hg; replace B2 := bQ B2 hb; replace B3 := bQ B3 hb; replace HB := Aside0.mk (below_step bB hb); clear hb hbox hg) | ((with_reducible refine gate_callee (f := 61) rfl ?_); refine goesL_ (some 9) rfl rfl Tryz.func61 kr rfl #[.pointer (some ⟨gC, 0, none⟩)] rfl sM ?_; (with_reducible refine (spec_l1Cur_beam.calls gC l0 0 0  t1 t2 t3 t4 t5 t6 a9 b0 w _ ?side1 ?side2 H1.out).mono ?_); (case side1 => exact ⟨A0, c0, bK BC, GEC.out, HR.out⟩); (case side2 => exact bB); rintro e b4 ⟨rfl, hi, hb, hk⟩; refine ⟨_, rfl, ?_⟩; replace B2 := kQ B2 hk a7; replace B3 := kQ B3 hk a8; clear BC; obtain ⟨A1, c1, a3, b1, a4⟩ := hi; have BC := Aside0.mk a3; have b9 := Aside0.mk a4; replace HB := Aside0.mk hb; clear a3 b1 a4 hb hk; obtain ⟨z1, z2, z3, z4⟩ := cf2 B2; obtain ⟨y1, y2, y3, y4, y5, y6, y7, y8⟩ := cf4 B3; have c2 := a5.out; have c3 := a6.out))
 refine bodyPost_ret (results_list (rs := [.cell 2 25, .cell 3 27]) rfl (by simp) (.cell g2 25 #[.int .i64 t1, .int .i64 t2] (0, 0) _ rfl (bK B2) hu rfl kr (.cell g3 27 #[.int .i64 t3, .int .i64 t4, .bool t5, .bool t6] (0, 0) _ rfl (bK B3) hv rfl kr .nil))) rfl ?_
 exact ⟨rfl, bB⟩
def spec_DrawTablesFor.f (l0 : List Int) : Option Int :=
  (spec_l1Cur_one.f l0 0 0 8).bind fun o => if o.1 = true then (spec_l1Cur_among.f l0 o.2.1 o.2.2 [-1, 0, 58, 59, 100, 101]).bind fun a => some a.1
    else (spec_l1Cur_pick.f l0 o.2.1 o.2.2 40).bind fun a => some a.1
set_option maxHeartbeats 8000000 in
set_option maxRecDepth 100000 in
theorem spec_DrawTablesFor.calls (A0 : Option Addr) (c0 : Nat) (l0 : List Int) (r1 : Int) (w : World) (hr0 : Kd.C (Kd.int .u8) w A0 l0.length l0) (hc0 : l0.length ≤ c0) (h : spec_DrawTablesFor.f l0 = some (r1)) :
    Calls Tryz.prog 23 #[.slice A0 l0.length c0] w fun e w' => e = .returned (.int .i64 r1) ∧ Below w.heap.size w w' := by
 unfold spec_DrawTablesFor.f at h
 obtain ⟨⟨o1, a7, a8⟩, h1, h⟩ := Option.bind_eq_some_iff.mp h
 have HH := Aside0.mk h
 clear h
 have H1 := Aside0.mk h1
 have HR := Aside0.mk hr0
 clear h1 hr0
 have HB := Aside0.mk (Below.refl w.heap.size w)
 cases o1 with
 | true =>
  have h := HH.out
  try dsimp only at h
  rw [if_pos rfl] at h
  obtain ⟨⟨a, p1, q1⟩, h2, h⟩ := Option.bind_eq_some_iff.mp h
  simp only [Option.some.injEq] at h
  subst h
  obtain ⟨ys, hys⟩ : ∃ ys : List Int, ys = [-1, 0, 58, 59, 100, 101] := ⟨_, rfl⟩
  have H2 : Aside0 (spec_l1Cur_among.f l0 a7 a8 ys = some (a, p1, q1)) := ⟨by rw [hys]; exact h2⟩
  have HYys := Aside0.mk hys
  clear hys h2 HH
  go_enter Tryz.func23, Tryz.ntmps23
  go_wp2_with (first | ((with_reducible refine gate_dst (N := 6) rfl ?_); refine box_ (cs := #[.slice A0 l0.length c0, .int .i64 0, .int .u64 0]) (t := 73) fun gC hg w_C hbox hb => ?_; have BC := Aside0.mk hbox; have GEC := bS HB hg; replace HB := Aside0.mk (below_step bB hb); clear hb hbox hg) | ((with_reducible refine gate_callee (f := 50) rfl ?_); refine goesL_ (some 8) rfl rfl Tryz.func50 kr rfl #[.pointer (some ⟨gC, 0, none⟩), .int .i64 8] rfl sM ?_; (with_reducible refine (spec_l1Cur_one.calls gC l0 0 0 8 true a7 a8 w _ ?side1 ?side2 H1.out).mono ?_); (case side1 => exact ⟨A0, c0, bK BC, GEC.out, HR.out⟩); (case side2 => exact bB); rintro e a9 ⟨rfl, hi, hb, hk⟩; refine ⟨_, rfl, ?_⟩; clear BC; obtain ⟨A1, c1, a3, a6, a4⟩ := hi; have BC := Aside0.mk a3; have a5 := Aside0.mk a4; replace HB := Aside0.mk hb; clear a3 a6 a4 hb hk) | ((with_reducible refine gate_dst (N := 10) rfl ?_); refine Kd.R_lit (Kd.int .i64) _ 3 ?hg (N := 10) ?hd (xs := ([(-1), 0, 58, 59, 100, 101] : List Int)) (inner := [.int .i64 (-1), .int .i64 0, .int .i64 58, .int .i64 59, .int .i64 100, .int .i64 101]) (ok := fun _ => True) (okp := fun _ => True) ?hr ?hp (fun _ hk => hk) trivial (Below.refl _ _) (Nat.le_refl _) (by simp) ?_; (case hd => rfl); (case hg => rfl); (case hr => first | (go_simp; done) | (go_simp; rfl)); (case hp => exact (Reps.one (show Kd.M (Kd.int .i64) _ _ _ (-1) [.int .i64 (-1)] from rfl) (Reps.one (show Kd.M (Kd.int .i64) _ _ _ 0 [.int .i64 0] from rfl) (Reps.one (show Kd.M (Kd.int .i64) _ _ _ 58 [.int .i64 58] from rfl) (Reps.one (show Kd.M (Kd.int .i64) _ _ _ 59 [.int .i64 59] from rfl) (Reps.one (show Kd.M (Kd.int .i64) _ _ _ 100 [.int .i64 100] from rfl) (Reps.one (show Kd.M (Kd.int .i64) _ _ _ 101 [.int .i64 101] from rfl) (Reps.none _ _)))))))); intro v5 b4 hr hb hg_ hnew_; clear hg_ hnew_; (first | rw [← HYys.out] at hr | (simp only [Int.reduceToNat] at hr; rw [← HYys.out] at hr)); have R5 := Aside0.mk (Kd.R_lower hr (below_size bB)); replace BC := bQ BC hb; replace HB := Aside0.mk (below_step bB hb); clear hr hb; obtain ⟨A5, b0, b1⟩ := Kd.R_slice R5.out; subst b1) | ((with_reducible refine gate_callee (f := 51) rfl ?_); refine goesL_ (some 11) rfl rfl Tryz.func51 kr rfl #[.pointer (some ⟨gC, 0, none⟩), .slice A5 ys.length b0] rfl sM ?_; (with_reducible refine (spec_l1Cur_among.calls gC l0 a7 a8 _ _ ys a p1 q1 w _ ?side1 ?side2 ?side3 ?side4 ?side5 H2.out).mono ?_); (case side1 => exact ⟨A1, c1, bK BC, GEC.out, a5.out⟩); (case side2 => exact bB); (case side3 => exact (Kd.R_reads' R5.out).2.2); (case side4 => exact (Kd.R_reads' R5.out).2.1); (case side5 => exact far_slice (IsS73.own_ne (show IsS73 w _ gC l0 a7 a8 from ⟨A1, c1, bK BC, GEC.out, a5.out⟩) R5.out (by decide))); rintro e b2 ⟨rfl, hi, hb, hk⟩; refine ⟨_, rfl, ?_⟩; clear BC a5 A1 c1; obtain ⟨A1, c1, a3, a6, a4⟩ := hi; have BC := Aside0.mk a3; have a5 := Aside0.mk a4; replace HB := Aside0.mk hb; clear a3 a6 a4 hb hk))
  go_ret
  exact ⟨rfl, bB⟩
 | false =>
  have h := HH.out
  try dsimp only at h
  rw [if_neg (by simp)] at h
  obtain ⟨⟨a, p1, q1⟩, h2, h⟩ := Option.bind_eq_some_iff.mp h
  simp only [Option.some.injEq] at h
  subst h
  have H2 := Aside0.mk h2
  clear h2 HH
  go_enter Tryz.func23, Tryz.ntmps23
  go_wp2_with (first | ((with_reducible refine gate_dst (N := 6) rfl ?_); refine box_ (cs := #[.slice A0 l0.length c0, .int .i64 0, .int .u64 0]) (t := 73) fun gC hg w_C hbox hb => ?_; have BC := Aside0.mk hbox; have GEC := bS HB hg; replace HB := Aside0.mk (below_step bB hb); clear hb hbox hg) | ((with_reducible refine gate_callee (f := 50) rfl ?_); refine goesL_ (some 8) rfl rfl Tryz.func50 kr rfl #[.pointer (some ⟨gC, 0, none⟩), .int .i64 8] rfl sM ?_; (with_reducible refine (spec_l1Cur_one.calls gC l0 0 0 8 false a7 a8 w _ ?side1 ?side2 H1.out).mono ?_); (case side1 => exact ⟨A0, c0, bK BC, GEC.out, HR.out⟩); (case side2 => exact bB); rintro e a9 ⟨rfl, hi, hb, hk⟩; refine ⟨_, rfl, ?_⟩; clear BC; obtain ⟨A1, c1, a3, a6, a4⟩ := hi; have BC := Aside0.mk a3; have a5 := Aside0.mk a4; replace HB := Aside0.mk hb; clear a3 a6 a4 hb hk) | ((with_reducible refine gate_callee (f := 52) rfl ?_); refine goesL_ (some 13) rfl rfl Tryz.func52 kr rfl #[.pointer (some ⟨gC, 0, none⟩), .int .i64 40] rfl sM ?_; (with_reducible refine (spec_l1Cur_pick.calls gC l0 a7 a8 40 a p1 q1 w _ ?side1 ?side2 H2.out).mono ?_); (case side1 => exact ⟨A1, c1, bK BC, GEC.out, a5.out⟩); (case side2 => exact bB); rintro e b3 ⟨rfl, hi, hb, hk⟩; refine ⟨_, rfl, ?_⟩; clear BC a5 A1 c1; obtain ⟨A1, c1, a3, a6, a4⟩ := hi; have BC := Aside0.mk a3; have a5 := Aside0.mk a4; replace HB := Aside0.mk hb; clear a3 a6 a4 hb hk))
  go_ret
  exact ⟨rfl, bB⟩
def spec_DrawParseTable.f (k : Nat) (l0 : List Int) : Option ByteArray :=
  (spec_l1Cur_sureTable.f l0 0 0).bind fun t => (spec_beText.f k t.1 t.2.1).bind fun s => (spec_l1Cur_one.f l0 t.2.2.1 t.2.2.2 3).bind fun o => if o.1 = true then (spec_l1Cur_spoilt.f k l0 o.2.1 o.2.2 s (⟨#[48, 49, 50, 54, 120, 88]⟩ : ByteArray)).bind fun z => some z.1 else some s
set_option maxHeartbeats 8000000 in
set_option maxRecDepth 100000 in
theorem spec_DrawParseTable.calls (k : Nat) (A0 : Option Addr) (c0 : Nat) (l0 : List Int) (r1 : ByteArray) (w : World) (hr0 : Kd.C (Kd.int .u8) w A0 l0.length l0) (hc0 : l0.length ≤ c0) (h : spec_DrawParseTable.f k l0 = some (r1)) :
    Calls Tryz.prog 26 #[.slice A0 l0.length c0] w fun e w' => e = .returned (.string r1) ∧ Below w.heap.size w w' := by
 unfold spec_DrawParseTable.f at h
 obtain ⟨⟨t1, t2, a7, a8⟩, h1, h⟩ := Option.bind_eq_some_iff.mp h
 obtain ⟨s1, h2, h⟩ := Option.bind_eq_some_iff.mp h
 obtain ⟨⟨o1, a9, b0⟩, h3, h⟩ := Option.bind_eq_some_iff.mp h
 have HH := Aside0.mk h
 clear h
 have H1 := Aside0.mk h1
 have H2 := Aside0.mk h2
 have H3 := Aside0.mk h3
 have HR := Aside0.mk hr0
 clear h1 h2 h3 hr0
 have HB := Aside0.mk (Below.refl w.heap.size w)
 cases o1 with
 | true =>
  have h := HH.out
  try dsimp only at h
  rw [if_pos rfl] at h
  obtain ⟨⟨z1, p1, q1⟩, h4, h⟩ := Option.bind_eq_some_iff.mp h
  simp only [Option.some.injEq] at h
  subst h
  have H4 := Aside0.mk h4
  clear h4 HH
  go_enter Tryz.func26, Tryz.ntmps26
  go_wp2_with (first | ((with_reducible refine gate_dst (N := 7) rfl ?_); refine box_ (cs := #[.slice A0 l0.length c0, .int .i64 0, .int .u64 0]) (t := 73) fun gC hg w_C hbox hb => ?_; have BC := Aside0.mk hbox; have GEC := bS HB hg; replace HB := Aside0.mk (below_step bB hb); clear hb hbox hg) | ((with_reducible refine gate_callee (f := 56) rfl ?_); refine goesL_ (some 9) rfl rfl Tryz.func56 kr rfl #[.pointer (some ⟨gC, 0, none⟩)] rfl sM ?_; (with_reducible refine (spec_l1Cur_sureTable.calls gC l0 0 0  t1 t2 a7 a8 w _ ?side1 ?side2 H1.out).mono ?_); (case side1 => exact ⟨A0, c0, bK BC, GEC.out, HR.out⟩); (case side2 => exact bB); rintro e b2 ⟨rfl, hi, hb, hk⟩; refine ⟨_, rfl, ?_⟩; clear BC; obtain ⟨A1, c1, a3, a6, a4⟩ := hi; have BC := Aside0.mk a3; have a5 := Aside0.mk a4; replace HB := Aside0.mk hb; clear a3 a6 a4 hb hk) | ((with_reducible refine gate_callee (f := 49) rfl ?_); refine goesL_ (some 10) rfl rfl Tryz.func49 kr rfl #[.agg #[.int .i64 t1, .int .i64 t2]] rfl sM ?_; (with_reducible refine (spec_beText.calls k t1 t2 s1 _ H2.out).mono ?_); rintro e w_t ⟨rfl, hb⟩; refine ⟨_, rfl, ?_⟩; replace BC := bQ BC hb; replace HB := Aside0.mk (below_step bB hb); clear hb) | ((with_reducible refine gate_callee (f := 50) rfl ?_); refine goesL_ (some 12) rfl rfl Tryz.func50 kr rfl #[.pointer (some ⟨gC, 0, none⟩), .int .i64 3] rfl sM ?_; (with_reducible refine (spec_l1Cur_one.calls gC l0 a7 a8 3 true a9 b0 w _ ?side1 ?side2 H3.out).mono ?_); (case side1 => exact ⟨A1, c1, bK BC, GEC.out, a5.out⟩); (case side2 => exact bB); rintro e b1 ⟨rfl, hi, hb, hk⟩; refine ⟨_, rfl, ?_⟩; clear BC a5 A1 c1; obtain ⟨A1, c1, a3, a6, a4⟩ := hi; have BC := Aside0.mk a3; have a5 := Aside0.mk a4; replace HB := Aside0.mk hb; clear a3 a6 a4 hb hk) | ((with_reducible refine gate_callee (f := 57) rfl ?_); refine goesL_ (some 15) rfl rfl Tryz.func57 kr rfl #[.pointer (some ⟨gC, 0, none⟩), .string s1, .string (⟨#[48, 49, 50, 54, 120, 88]⟩ : ByteArray)] rfl sM ?_; (with_reducible refine (spec_l1Cur_spoilt.calls k gC l0 a9 b0 s1 (⟨#[48, 49, 50, 54, 120, 88]⟩ : ByteArray) z1 p1 q1 w _ ?side1 ?side2 H4.out).mono ?_); (case side1 => exact ⟨A1, c1, bK BC, GEC.out, a5.out⟩); (case side2 => exact bB); rintro e w_s ⟨rfl, hi, hb, hk⟩; refine ⟨_, rfl, ?_⟩; clear BC a5 A1 c1 hi hk; replace HB := Aside0.mk hb; clear hb))
  go_ret
  exact ⟨rfl, bB⟩
 | false =>
  have h := HH.out
  try dsimp only at h
  rw [if_neg (by simp)] at h
  simp only [Option.some.injEq] at h
  subst h
  clear HH
  go_enter Tryz.func26, Tryz.ntmps26
  go_wp2_with (first | ((with_reducible refine gate_dst (N := 7) rfl ?_); refine box_ (cs := #[.slice A0 l0.length c0, .int .i64 0, .int .u64 0]) (t := 73) fun gC hg w_C hbox hb => ?_; have BC := Aside0.mk hbox; have GEC := bS HB hg; replace HB := Aside0.mk (below_step bB hb); clear hb hbox hg) | ((with_reducible refine gate_callee (f := 56) rfl ?_); refine goesL_ (some 9) rfl rfl Tryz.func56 kr rfl #[.pointer (some ⟨gC, 0, none⟩)] rfl sM ?_; (with_reducible refine (spec_l1Cur_sureTable.calls gC l0 0 0  t1 t2 a7 a8 w _ ?side1 ?side2 H1.out).mono ?_); (case side1 => exact ⟨A0, c0, bK BC, GEC.out, HR.out⟩); (case side2 => exact bB); rintro e b2 ⟨rfl, hi, hb, hk⟩; refine ⟨_, rfl, ?_⟩; clear BC; obtain ⟨A1, c1, a3, a6, a4⟩ := hi; have BC := Aside0.mk a3; have a5 := Aside0.mk a4; replace HB := Aside0.mk hb; clear a3 a6 a4 hb hk) | ((with_reducible refine gate_callee (f := 49) rfl ?_); refine goesL_ (some 10) rfl rfl Tryz.func49 kr rfl #[.agg #[.int .i64 t1, .int .i64 t2]] rfl sM ?_; (with_reducible refine (spec_beText.calls k t1 t2 s1 _ H2.out).mono ?_); rintro e w_t ⟨rfl, hb⟩; refine ⟨_, rfl, ?_⟩; replace BC := bQ BC hb; replace HB := Aside0.mk (below_step bB hb); clear hb) | ((with_reducible refine gate_callee (f := 50) rfl ?_); refine goesL_ (some 12) rfl rfl Tryz.func50 kr rfl #[.pointer (some ⟨gC, 0, none⟩), .int .i64 3] rfl sM ?_; (with_reducible refine (spec_l1Cur_one.calls gC l0 a7 a8 3 false a9 b0 w _ ?side1 ?side2 H3.out).mono ?_); (case side1 => exact ⟨A1, c1, bK BC, GEC.out, a5.out⟩); (case side2 => exact bB); rintro e b1 ⟨rfl, hi, hb, hk⟩; refine ⟨_, rfl, ?_⟩; clear BC a5 A1 c1; obtain ⟨A1, c1, a3, a6, a4⟩ := hi; have BC := Aside0.mk a3; have a5 := Aside0.mk a4; replace HB := Aside0.mk hb; clear a3 a6 a4 hb hk))
  go_ret
  exact ⟨rfl, bB⟩

/-! ### spec_DrawStepsToCorner: function 5 -/
def spec_DrawStepsToCorner.f (l0 : List Int) : Option (Int × Int × Int × Int × Bool × Bool) := (spec_DrawIsBeam.f l0).bind fun bt209 => (some (bt209.1, bt209.2.1, bt209.2.2.1, bt209.2.2.2.1, bt209.2.2.2.2.1, bt209.2.2.2.2.2))
set_option maxHeartbeats 8000000 in
set_option maxRecDepth 100000 in
theorem spec_DrawStepsToCorner.calls (A0 : Option Addr) (c0 : Nat) (l0 : List Int) (r1 : Int) (r2 : Int) (r3 : Int) (r4 : Int) (r5 : Bool) (r6 : Bool) (w : World) (hr0 : Kd.C (Kd.int .u8) w A0 l0.length l0) (hc0 : l0.length ≤ c0) (h : spec_DrawStepsToCorner.f l0 = some (r1, r2, r3, r4, r5, r6)) :
    Calls Tryz.prog 5 #[.slice A0 l0.length c0] w fun e w' => e = .returned (.tuple #[.agg #[.int .i64 r1, .int .i64 r2], .agg #[.int .i64 r3, .int .i64 r4, .bool r5, .bool r6]]) ∧ Below w.heap.size w w' := by
 have d4 := Tryz.underlying25
 have d5 := Tryz.underlying27
 have b5 := Aside0.mk hr0
 have b6 := Aside0.mk hc0
 clear hr0 hc0
 have HB := Aside0.mk (Below.refl w.heap.size w)
 have H := h
 unfold spec_DrawStepsToCorner.f at H
 clear h
 obtain ⟨⟨a7, a8, a9, b0, b1, b2⟩, A2, H⟩ := bD H
 try dsimp only at H
 simp only [Option.some.injEq, Prod.mk.injEq] at H
 obtain ⟨rfl, rfl, rfl, rfl, rfl, rfl⟩ := H
 go_enter Tryz.func5, Tryz.ntmps5
 go_wp2_with (first | ((with_reducible refine gate_dst (N := 2) rfl ?_); refine box_ (cs := #[.int .i64 0, .int .i64 0]) (t := 25) fun b3 hg w3 hbox hb => ?_; have a3 := Aside0.mk (hbox); have d0 := bS HB hg; have d1 := bS HB hg; replace HB := Aside0.mk (below_step bB hb); clear hb hbox hg) | ((with_reducible refine gate_dst (N := 3) rfl ?_); refine box_ (cs := #[.int .i64 0, .int .i64 0, .bool false, .bool false]) (t := 27) fun b4 hg w4 hbox hb => ?_; have a4 := Aside0.mk (hbox); have d2 := bS HB hg; have d3 := bS HB hg; have a5 := bL a3 hg; have a6 := bM a3 hg; replace a3 := bQ a3 hb; replace HB := Aside0.mk (below_step bB hb); clear hb hbox hg) | ((with_reducible refine gate_callee (f := 32) rfl ?_); refine goesL_ (some 5) rfl rfl Tryz.func32 kr rfl #[.slice A0 l0.length c0] rfl sM ?_; (with_reducible refine (spec_DrawIsBeam.calls _ _ l0 a7 a8 a9 b0 b1 b2 _ ?side1 ?side2 A2.out).mono ?_); (case side1 => repeat (first | exact (Kd.C_below b5.out HB.out) | (with_reducible refine Kd.C_alloc ?_ _) | (with_reducible refine Kd.C_drewN ?_ _) | (with_reducible refine Kd.C_drew ?_))); (case side2 => exact b6.out); rintro e w5 ⟨rfl, hb⟩; refine ⟨_, rfl, ?_⟩; replace a3 := bQ a3 hb; replace a4 := bQ a4 hb; replace HB := Aside0.mk (below_step bB hb); (try clear hb); have d6 := a5.out; have d7 := a6.out; obtain ⟨b7, b8, b9, c1⟩ := cf2 a3; obtain ⟨c2, c3, c4, c5, c6, c7, c8, c9⟩ := cf4 a4))
 refine bodyPost_ret (results_cc rfl _ _ b3 b4 25 27 #[.int .i64 a7, .int .i64 a8] #[.int .i64 a9, .int .i64 b0, .bool b1, .bool b2] (0, 0) (0, 0) _ _ rfl (bK a3) Tryz.underlying25 rfl kr rfl (bK a4) Tryz.underlying27 rfl kr) rfl ?_
 exact ⟨sE, bI⟩

/-! ### impl_within: function 37 -/
def impl_within.f (a0 : Int) (a1 : Int) (a2 : Int) : Option (Bool) := if a0 ≥ a1 then (some (decide (a0 ≤ a2))) else (some false)
set_option maxHeartbeats 8000000 in
set_option maxRecDepth 100000 in
theorem impl_within.calls (a0 : Int) (a1 : Int) (a2 : Int) (r : Bool) (w : World) (h : impl_within.f a0 a1 a2 = some r) :
    Calls Tryz.prog 37 #[.int .i64 a0, .int .i64 a1, .int .i64 a2] w fun e w' => e = .returned (.bool r) ∧ Drawn0 w w' := by
 have H := h
 unfold impl_within.f at H
 clear h
 by_cases c4 : a0 ≥ a1
 rw [if_pos c4] at H
 have a3 : decide (a1 ≤ a0) = true := decide_eq_true c4
 clear c4
 obtain rfl := Option.some.inj H
 rotate_left
 rw [if_neg c4] at H
 have a3 : decide (a1 ≤ a0) = false := decide_eq_false c4
 clear c4
 obtain rfl := Option.some.inj H
 rotate_left
 all_goals (go_enter Tryz.func37, Tryz.ntmps37)
 all_goals go_wp2
 all_goals go_ret
 all_goals (exact ⟨by first | rfl | (simp; done) | (simp [*]; done), by repeat (first | exact Drawn0.refl _ | apply Drawn0.step)⟩)

/-! ### impl_IsTable: function 30 -/
def impl_IsTable.f (a0_0 : Int) (a0_1 : Int) : Option (Bool) := (impl_within.f a0_0 1 60).bind fun t216 => (if t216 = true then ((impl_within.f a0_1 1 60).bind fun t217 => (some t217)) else (some false))
set_option maxHeartbeats 8000000 in
set_option maxRecDepth 100000 in
theorem impl_IsTable.calls (a0_0 : Int) (a0_1 : Int) (r : Bool) (w : World) (h : impl_IsTable.f a0_0 a0_1 = some r) :
    Calls Tryz.prog 30 #[.agg #[.int .i64 a0_0, .int .i64 a0_1]] w fun e w' => e = .returned (.bool r) ∧ Below w.heap.size w w' := by
 have b0 := Tryz.underlying25
 have HB := Aside0.mk (Below.refl w.heap.size w)
 have H := h
 unfold impl_IsTable.f at H
 clear h
 obtain ⟨a3, A2, H⟩ := bD H
 try dsimp only at H
 by_cases c3 : a3 = true
 subst c3
 rw [if_pos rfl] at H
 obtain ⟨a4, A4, H⟩ := bD H
 try dsimp only at H
 obtain rfl := Option.some.inj H
 rotate_left
 replace c3 := Bool.eq_false_iff.mpr c3
 subst c3
 rw [if_neg nft] at H
 obtain rfl := Option.some.inj H
 rotate_left
 all_goals (go_enter Tryz.func30, Tryz.ntmps30)
 all_goals (go_wp2_with (first | ((with_reducible refine gate_dst (N := 1) rfl ?_); refine box_ (cs := #[.int .i64 a0_0, .int .i64 a0_1]) (t := 25) fun b1 hg b4 hbox hb => ?_; have a5 := Aside0.mk (hbox); have b2 := bS HB hg; have b3 := bS HB hg; replace HB := Aside0.mk (below_step bB hb); clear hb hbox hg; obtain ⟨a6, a7, a8, a9⟩ := cf2 a5) | ((with_reducible refine gate_callee (f := 37) rfl ?_); refine goesL_ (some 5) rfl rfl Tryz.func37 kr rfl #[.int .i64 a0_0, .int .i64 1, .int .i64 60] rfl sM ?_; (with_reducible refine (impl_within.calls a0_0 1 60 true _ A2.out).mono ?_); rintro e w' ⟨rfl, ⟨nd, rfl⟩⟩; refine ⟨_, rfl, ?_⟩) | (go_at_call 37; (with_reducible refine (impl_within.calls a0_1 1 60 a4 _ A4.out).mono ?_); rintro e w' ⟨rfl, ⟨nd, rfl⟩⟩) | ((with_reducible refine gate_callee (f := 37) rfl ?_); refine goesL_ (some 5) rfl rfl Tryz.func37 kr rfl #[.int .i64 a0_0, .int .i64 1, .int .i64 60] rfl sM ?_; (with_reducible refine (impl_within.calls a0_0 1 60 false _ A2.out).mono ?_); rintro e w' ⟨rfl, ⟨nd, rfl⟩⟩; refine ⟨_, rfl, ?_⟩)))
 all_goals go_ret
 all_goals (exact ⟨sE, bI⟩)

/-! ### impl_IsBeam: function 39 -/
def impl_IsBeam.f (a0_0 : Int) (a0_1 : Int) (a1_0 : Int) (a1_1 : Int) (a1_2 : Bool) (a1_3 : Bool) : Option (Bool) := (impl_IsTable.f a0_0 a0_1).bind fun t220 => (if t220 = true then ((impl_within.f a1_0 0 a0_0).bind fun t221 => (if t221 = true then ((impl_within.f a1_1 0 a0_1).bind fun t222 => (some t222)) else (some false))) else (some false))
set_option maxHeartbeats 8000000 in
set_option maxRecDepth 100000 in
theorem impl_IsBeam.calls (a0_0 : Int) (a0_1 : Int) (a1_0 : Int) (a1_1 : Int) (a1_2 : Bool) (a1_3 : Bool) (r : Bool) (w : World) (h : impl_IsBeam.f a0_0 a0_1 a1_0 a1_1 a1_2 a1_3 = some r) :
    Calls Tryz.prog 39 #[.agg #[.int .i64 a0_0, .int .i64 a0_1], .agg #[.int .i64 a1_0, .int .i64 a1_1, .bool a1_2, .bool a1_3]] w fun e w' => e = .returned (.bool r) ∧ Below w.heap.size w w' := by
 have d1 := Tryz.underlying25
 have d2 := Tryz.underlying27
 have HB := Aside0.mk (Below.refl w.heap.size w)
 have H := h
 unfold impl_IsBeam.f at H
 clear h
 obtain ⟨a7, A3, H⟩ := bD H
 try dsimp only at H
 by_cases c4 : a7 = true
 subst c4
 rw [if_pos rfl] at H
 obtain ⟨a8, A5, H⟩ := bD H
 try dsimp only at H
 by_cases c6 : a8 = true
 subst c6
 rw [if_pos rfl] at H
 obtain ⟨a9, A7, H⟩ := bD H
 try dsimp only at H
 obtain rfl := Option.some.inj H
 rotate_left
 replace c6 := Bool.eq_false_iff.mpr c6
 subst c6
 rw [if_neg nft] at H
 obtain rfl := Option.some.inj H
 rotate_left
 replace c4 := Bool.eq_false_iff.mpr c4
 subst c4
 rw [if_neg nft] at H
 obtain rfl := Option.some.inj H
 rotate_left
 all_goals (go_enter Tryz.func39, Tryz.ntmps39)
 all_goals (go_wp2_with (first | ((with_reducible refine gate_dst (N := 2) rfl ?_); refine box_ (cs := #[.int .i64 a0_0, .int .i64 a0_1]) (t := 25) fun d3 hg d9 hbox hb => ?_; have a3 := Aside0.mk (hbox); have d4 := bS HB hg; have d5 := bS HB hg; replace HB := Aside0.mk (below_step bB hb); clear hb hbox hg) | ((with_reducible refine gate_dst (N := 3) rfl ?_); refine box_ (cs := #[.int .i64 a1_0, .int .i64 a1_1, .bool a1_2, .bool a1_3]) (t := 27) fun d6 hg e0 hbox hb => ?_; have a4 := Aside0.mk (hbox); have d7 := bS HB hg; have d8 := bS HB hg; have a5 := bL a3 hg; have a6 := bM a3 hg; replace a3 := bQ a3 hb; replace HB := Aside0.mk (below_step bB hb); clear hb hbox hg; have c9 := a5.out; have d0 := a6.out; obtain ⟨b0, b1, b2, b3⟩ := cf2 a3) | ((with_reducible refine gate_callee (f := 30) rfl ?_); refine goesL_ (some 6) rfl rfl Tryz.func30 kr rfl #[.agg #[.int .i64 a0_0, .int .i64 a0_1]] rfl sM ?_; (with_reducible refine (impl_IsTable.calls a0_0 a0_1 true _ A3.out).mono ?_); rintro e c8 ⟨rfl, hb⟩; refine ⟨_, rfl, ?_⟩; replace a3 := bQ a3 hb; replace a4 := bQ a4 hb; replace HB := Aside0.mk (below_step bB hb); (try clear hb); obtain ⟨b4, b5, b6, b7, b8, b9, c0, c1⟩ := cf4 a4; obtain ⟨c2, c3, c5, c7⟩ := cf2 a3) | (go_at_call 37; (with_reducible refine (impl_within.calls a1_0 0 a0_0 true _ A5.out).mono ?_); rintro e w' ⟨rfl, ⟨nd, rfl⟩⟩) | (go_at_call 37; (with_reducible refine (impl_within.calls a1_1 0 a0_1 a9 _ A7.out).mono ?_); rintro e w' ⟨rfl, ⟨nd, rfl⟩⟩) | (go_at_call 37; (with_reducible refine (impl_within.calls a1_0 0 a0_0 false _ A5.out).mono ?_); rintro e w' ⟨rfl, ⟨nd, rfl⟩⟩) | ((with_reducible refine gate_callee (f := 30) rfl ?_); refine goesL_ (some 6) rfl rfl Tryz.func30 kr rfl #[.agg #[.int .i64 a0_0, .int .i64 a0_1]] rfl sM ?_; (with_reducible refine (impl_IsTable.calls a0_0 a0_1 false _ A3.out).mono ?_); rintro e c8 ⟨rfl, hb⟩; refine ⟨_, rfl, ?_⟩; replace a3 := bQ a3 hb; replace a4 := bQ a4 hb; replace HB := Aside0.mk (below_step bB hb); (try clear hb))))
 all_goals go_ret
 all_goals (exact ⟨sE, bI⟩)

/-! ### impl_isCorner: function 64 -/
def impl_isCorner.f (a0_0 : Int) (a0_1 : Int) (a1_0 : Int) (a1_1 : Int) (a1_2 : Bool) (a1_3 : Bool) : Option (Bool) := if a1_0 = 0 then (if a1_1 = 0 then (some true) else (some (a1_1 == a0_1))) else (if a1_0 = a0_0 then (if a1_1 = 0 then (some true) else (some (a1_1 == a0_1))) else (some false))
set_option maxHeartbeats 8000000 in
set_option maxRecDepth 100000 in
theorem impl_isCorner.calls (a0_0 : Int) (a0_1 : Int) (a1_0 : Int) (a1_1 : Int) (a1_2 : Bool) (a1_3 : Bool) (r : Bool) (w : World) (h : impl_isCorner.f a0_0 a0_1 a1_0 a1_1 a1_2 a1_3 = some r) :
    Calls Tryz.prog 64 #[.agg #[.int .i64 a0_0, .int .i64 a0_1], .agg #[.int .i64 a1_0, .int .i64 a1_1, .bool a1_2, .bool a1_3]] w fun e w' => e = .returned (.bool r) ∧ Below w.heap.size w w' := by
 have d3 := Tryz.underlying25
 have d4 := Tryz.underlying27
 have HB := Aside0.mk (Below.refl w.heap.size w)
 have H := h
 unfold impl_isCorner.f at H
 clear h
 by_cases c3 : a1_0 = 0
 rw [if_pos c3] at H
 obtain ⟨b2, b3⟩ := yE c3
 clear c3
 by_cases c4 : a1_1 = 0
 rw [if_pos c4] at H
 obtain ⟨b4, b5⟩ := yE c4
 clear c4
 obtain rfl := Option.some.inj H
 rotate_left
 rw [if_neg c4] at H
 obtain ⟨b4, b5⟩ := nE c4
 obtain rfl := Option.some.inj H
 rotate_left
 rw [if_neg c3] at H
 obtain ⟨b2, b3⟩ := nE c3
 by_cases a4 : a1_0 = a0_0
 rw [if_pos a4] at H
 obtain ⟨a8, a9⟩ := yE a4
 clear a4
 by_cases a5 : a1_1 = 0
 rw [if_pos a5] at H
 obtain ⟨b0, b1⟩ := yE a5
 clear a5
 obtain rfl := Option.some.inj H
 rotate_left
 rw [if_neg a5] at H
 obtain ⟨b0, b1⟩ := nE a5
 obtain rfl := Option.some.inj H
 rotate_left
 rw [if_neg a4] at H
 obtain ⟨a8, a9⟩ := nE a4
 obtain rfl := Option.some.inj H
 rotate_left
 all_goals (go_enter Tryz.func64, Tryz.ntmps64)
 all_goals (go_wp2_with (first | ((with_reducible refine gate_dst (N := 2) rfl ?_); refine box_ (cs := #[.int .i64 a0_0, .int .i64 a0_1]) (t := 25) fun d5 hg e1 hbox hb => ?_; have a3 := Aside0.mk (hbox); have d6 := bS HB hg; have d7 := bS HB hg; replace HB := Aside0.mk (below_step bB hb); clear hb hbox hg) | ((with_reducible refine gate_dst (N := 3) rfl ?_); refine box_ (cs := #[.int .i64 a1_0, .int .i64 a1_1, .bool a1_2, .bool a1_3]) (t := 27) fun d8 hg e2 hbox hb => ?_; have b6 := Aside0.mk (hbox); have d9 := bS HB hg; have e0 := bS HB hg; have a6 := bL a3 hg; have a7 := bM a3 hg; replace a3 := bQ a3 hb; replace HB := Aside0.mk (below_step bB hb); clear hb hbox hg; have d1 := a7.out; have d2 := a6.out; obtain ⟨b7, b8, b9, c0, c1, c2, c5, c6⟩ := cf4 b6; obtain ⟨c7, c8, c9, d0⟩ := cf2 a3)))
 all_goals go_ret
 all_goals (exact ⟨sE, bI⟩)

/-! ### impl_inward: function 69 -/
def impl_inward.f (a0_0 : Int) (a0_1 : Int) (a1_0 : Int) (a1_1 : Int) (a1_2 : Bool) (a1_3 : Bool) : Option (Int × Int × Bool × Bool) := if a1_0 = 0 then (if a1_1 = 0 then (some (a1_0, a1_1, true, true)) else (if a1_3 = true then (some (a1_0, a1_1, true, decide (a1_1 < a0_1))) else (some (a1_0, a1_1, true, false)))) else (if a1_2 = true then (if a1_1 = 0 then (some (a1_0, a1_1, decide (a1_0 < a0_0), true)) else (if a1_3 = true then (some (a1_0, a1_1, decide (a1_0 < a0_0), decide (a1_1 < a0_1))) else (some (a1_0, a1_1, decide (a1_0 < a0_0), false)))) else (if a1_1 = 0 then (some (a1_0, a1_1, false, true)) else (if a1_3 = true then (some (a1_0, a1_1, false, decide (a1_1 < a0_1))) else (some (a1_0, a1_1, false, false)))))
set_option maxHeartbeats 8000000 in
set_option maxRecDepth 100000 in
theorem impl_inward.calls (a0_0 : Int) (a0_1 : Int) (a1_0 : Int) (a1_1 : Int) (a1_2 : Bool) (a1_3 : Bool) (r1 : Int) (r2 : Int) (r3 : Bool) (r4 : Bool) (w : World) (h : impl_inward.f a0_0 a0_1 a1_0 a1_1 a1_2 a1_3 = some (r1, r2, r3, r4)) :
    Calls Tryz.prog 69 #[.agg #[.int .i64 a0_0, .int .i64 a0_1], .agg #[.int .i64 a1_0, .int .i64 a1_1, .bool a1_2, .bool a1_3]] w fun e w' => e = .returned (.agg #[.int .i64 r1, .int .i64 r2, .bool r3, .bool r4]) ∧ Below w.heap.size w w' := by
 have C8 := Tryz.underlying25
 have C9 := Tryz.underlying27
 have HB := Aside0.mk (Below.refl w.heap.size w)
 have H := h
 unfold impl_inward.f at H
 clear h
 by_cases c3 : a1_0 = 0
 ·(
 rw [if_pos c3] at H
 obtain ⟨d3, d4⟩ := yE c3
 clear c3
 by_cases c4 : a1_1 = 0
 ·(
 rw [if_pos c4] at H
 obtain ⟨d5, d6⟩ := yE c4
 clear c4
 simp only [Option.some.injEq, Prod.mk.injEq] at H
 obtain ⟨rfl, rfl, rfl, rfl⟩ := H
 go_enter Tryz.func69, Tryz.ntmps69
 go_wp2_with (first | ((with_reducible refine gate_dst (N := 2) rfl ?_); refine box_ (cs := #[.int .i64 a0_0, .int .i64 a0_1]) (t := 25) fun b3 hg w5 hbox hb => ?_; have a3 := Aside0.mk (hbox); have b4 := bS HB hg; have b5 := bS HB hg; replace HB := Aside0.mk (below_step bB hb); clear hb hbox hg) | ((with_reducible refine gate_dst (N := 3) rfl ?_); refine box_ (cs := #[.int .i64 a1_0, .int .i64 a1_1, .bool a1_2, .bool a1_3]) (t := 27) fun b6 hg w6 hbox hb => ?_; have a4 := Aside0.mk (hbox); have b7 := bS HB hg; have b8 := bS HB hg; have a5 := bL a3 hg; have a6 := bM a3 hg; replace a3 := bQ a3 hb; replace HB := Aside0.mk (below_step bB hb); clear hb hbox hg) | ((with_reducible refine gate_dst (N := 4) rfl ?_); refine box_ (cs := #[.int .i64 0, .int .i64 0, .bool false, .bool false]) (t := 27) fun b2 hg w7 hbox hb => ?_; have b1 := Aside0.mk (hbox); have b9 := bS HB hg; have c0 := bS HB hg; have a7 := bL a3 hg; have a8 := bM a3 hg; have a9 := bL a4 hg; have b0 := bM a4 hg; replace a3 := bQ a3 hb; replace a4 := bQ a4 hb; replace HB := Aside0.mk (below_step bB hb); clear hb hbox hg; have D0 := a6.out; have D1 := a5.out; have D2 := a9.out; have D3 := b0.out; obtain ⟨d7, d8, d9, e0, e1, e2, e3, e4⟩ := cf4 a4; have x8 := a8.out; have x9 := a7.out; obtain ⟨e5, e6, e7, e8, e9, g0, g1, g2⟩ := cf4 b1))
 refine bodyPost_ret (results_cell_row rfl _ _ b2 27 #[.int .i64 a1_0, .int .i64 a1_1, .bool true, .bool true] (0, 0) _ rfl (bK b1) Tryz.underlying27 rfl kr) rfl ?_
 exact ⟨sE, bI⟩
 )
 ·(
 rw [if_neg c4] at H
 obtain ⟨d5, d6⟩ := nE c4
 by_cases c5 : a1_3 = true
 ·(
 subst c5
 rw [if_pos rfl] at H
 simp only [Option.some.injEq, Prod.mk.injEq] at H
 obtain ⟨rfl, rfl, rfl, rfl⟩ := H
 go_enter Tryz.func69, Tryz.ntmps69
 go_wp2_with (first | ((with_reducible refine gate_dst (N := 2) rfl ?_); refine box_ (cs := #[.int .i64 a0_0, .int .i64 a0_1]) (t := 25) fun b3 hg D4 hbox hb => ?_; have a3 := Aside0.mk (hbox); have b4 := bS HB hg; have b5 := bS HB hg; replace HB := Aside0.mk (below_step bB hb); clear hb hbox hg) | ((with_reducible refine gate_dst (N := 3) rfl ?_); refine box_ (cs := #[.int .i64 a1_0, .int .i64 a1_1, .bool a1_2, .bool true]) (t := 27) fun b6 hg D5 hbox hb => ?_; have a4 := Aside0.mk (hbox); have b7 := bS HB hg; have b8 := bS HB hg; have a5 := bL a3 hg; have a6 := bM a3 hg; replace a3 := bQ a3 hb; replace HB := Aside0.mk (below_step bB hb); clear hb hbox hg) | ((with_reducible refine gate_dst (N := 4) rfl ?_); refine box_ (cs := #[.int .i64 0, .int .i64 0, .bool false, .bool false]) (t := 27) fun b2 hg D6 hbox hb => ?_; have b1 := Aside0.mk (hbox); have b9 := bS HB hg; have c0 := bS HB hg; have a7 := bL a3 hg; have a8 := bM a3 hg; have a9 := bL a4 hg; have b0 := bM a4 hg; replace a3 := bQ a3 hb; replace a4 := bQ a4 hb; replace HB := Aside0.mk (below_step bB hb); clear hb hbox hg; have y0 := a6.out; have y1 := a5.out; have y2 := a9.out; have y3 := b0.out; obtain ⟨g3, g4, g5, g6, g7, g8, g9, h0⟩ := cf4 a4; have y4 := a7.out; have y5 := a8.out; obtain ⟨h1, h2, h3, h4⟩ := cf2 a3; obtain ⟨h5, h6, h7, h8, h9, i0, i1, i2⟩ := cf4 b1))
 refine bodyPost_ret (results_cell_row rfl _ _ b2 27 #[.int .i64 a1_0, .int .i64 a1_1, .bool true, .bool (decide (a1_1 < a0_1))] (0, 0) _ rfl (bK b1) Tryz.underlying27 rfl kr) rfl ?_
 exact ⟨sE, bI⟩
 )
 ·(
 replace c5 := Bool.eq_false_iff.mpr c5
 subst c5
 rw [if_neg nft] at H
 simp only [Option.some.injEq, Prod.mk.injEq] at H
 obtain ⟨rfl, rfl, rfl, rfl⟩ := H
 go_enter Tryz.func69, Tryz.ntmps69
 go_wp2_with (first | ((with_reducible refine gate_dst (N := 2) rfl ?_); refine box_ (cs := #[.int .i64 a0_0, .int .i64 a0_1]) (t := 25) fun b3 hg D7 hbox hb => ?_; have a3 := Aside0.mk (hbox); have b4 := bS HB hg; have b5 := bS HB hg; replace HB := Aside0.mk (below_step bB hb); clear hb hbox hg) | ((with_reducible refine gate_dst (N := 3) rfl ?_); refine box_ (cs := #[.int .i64 a1_0, .int .i64 a1_1, .bool a1_2, .bool false]) (t := 27) fun b6 hg D8 hbox hb => ?_; have a4 := Aside0.mk (hbox); have b7 := bS HB hg; have b8 := bS HB hg; have a5 := bL a3 hg; have a6 := bM a3 hg; replace a3 := bQ a3 hb; replace HB := Aside0.mk (below_step bB hb); clear hb hbox hg) | ((with_reducible refine gate_dst (N := 4) rfl ?_); refine box_ (cs := #[.int .i64 0, .int .i64 0, .bool false, .bool false]) (t := 27) fun b2 hg D9 hbox hb => ?_; have b1 := Aside0.mk (hbox); have b9 := bS HB hg; have c0 := bS HB hg; have a7 := bL a3 hg; have a8 := bM a3 hg; have a9 := bL a4 hg; have b0 := bM a4 hg; replace a3 := bQ a3 hb; replace a4 := bQ a4 hb; replace HB := Aside0.mk (below_step bB hb); clear hb hbox hg; have y6 := a6.out; have y7 := a5.out; have y8 := a9.out; have y9 := b0.out; obtain ⟨i3, i4, i5, i6, i7, i9, j0, j1⟩ := cf4 a4; have z0 := a8.out; have z1 := a7.out; obtain ⟨j2, j3, j4, j5, j6, j7, j8, j9⟩ := cf4 b1))
 refine bodyPost_ret (results_cell_row rfl _ _ b2 27 #[.int .i64 a1_0, .int .i64 a1_1, .bool true, .bool false] (0, 0) _ rfl (bK b1) Tryz.underlying27 rfl kr) rfl ?_
 exact ⟨sE, bI⟩
 )
 )
 )
 ·(
 rw [if_neg c3] at H
 obtain ⟨d3, d4⟩ := nE c3
 by_cases c6 : a1_2 = true
 ·(
 subst c6
 rw [if_pos rfl] at H
 by_cases c1 : a1_1 = 0
 ·(
 rw [if_pos c1] at H
 obtain ⟨c9, d0⟩ := yE c1
 clear c1
 simp only [Option.some.injEq, Prod.mk.injEq] at H
 obtain ⟨rfl, rfl, rfl, rfl⟩ := H
 go_enter Tryz.func69, Tryz.ntmps69
 go_wp2_with (first | ((with_reducible refine gate_dst (N := 2) rfl ?_); refine box_ (cs := #[.int .i64 a0_0, .int .i64 a0_1]) (t := 25) fun b3 hg E0 hbox hb => ?_; have a3 := Aside0.mk (hbox); have b4 := bS HB hg; have b5 := bS HB hg; replace HB := Aside0.mk (below_step bB hb); clear hb hbox hg) | ((with_reducible refine gate_dst (N := 3) rfl ?_); refine box_ (cs := #[.int .i64 a1_0, .int .i64 a1_1, .bool true, .bool a1_3]) (t := 27) fun b6 hg E1 hbox hb => ?_; have a4 := Aside0.mk (hbox); have b7 := bS HB hg; have b8 := bS HB hg; have a5 := bL a3 hg; have a6 := bM a3 hg; replace a3 := bQ a3 hb; replace HB := Aside0.mk (below_step bB hb); clear hb hbox hg) | ((with_reducible refine gate_dst (N := 4) rfl ?_); refine box_ (cs := #[.int .i64 0, .int .i64 0, .bool false, .bool false]) (t := 27) fun b2 hg E2 hbox hb => ?_; have b1 := Aside0.mk (hbox); have b9 := bS HB hg; have c0 := bS HB hg; have a7 := bL a3 hg; have a8 := bM a3 hg; have a9 := bL a4 hg; have b0 := bM a4 hg; replace a3 := bQ a3 hb; replace a4 := bQ a4 hb; replace HB := Aside0.mk (below_step bB hb); clear hb hbox hg; have z2 := a6.out; have z3 := a5.out; have z4 := a9.out; have z5 := b0.out; obtain ⟨k0, k1, k2, k3, k4, k5, k6, k7⟩ := cf4 a4; have z6 := a7.out; have z7 := a8.out; obtain ⟨k8, k9, l1, l2⟩ := cf2 a3; obtain ⟨l3, l4, l5, l6, l7, l8, l9, m0⟩ := cf4 b1))
 refine bodyPost_ret (results_cell_row rfl _ _ b2 27 #[.int .i64 a1_0, .int .i64 a1_1, .bool (decide (a1_0 < a0_0)), .bool true] (0, 0) _ rfl (bK b1) Tryz.underlying27 rfl kr) rfl ?_
 exact ⟨sE, bI⟩
 )
 ·(
 rw [if_neg c1] at H
 obtain ⟨c9, d0⟩ := nE c1
 by_cases c7 : a1_3 = true
 ·(
 subst c7
 rw [if_pos rfl] at H
 simp only [Option.some.injEq, Prod.mk.injEq] at H
 obtain ⟨rfl, rfl, rfl, rfl⟩ := H
 go_enter Tryz.func69, Tryz.ntmps69
 go_wp2_with (first | ((with_reducible refine gate_dst (N := 2) rfl ?_); refine box_ (cs := #[.int .i64 a0_0, .int .i64 a0_1]) (t := 25) fun b3 hg E3 hbox hb => ?_; have a3 := Aside0.mk (hbox); have b4 := bS HB hg; have b5 := bS HB hg; replace HB := Aside0.mk (below_step bB hb); clear hb hbox hg) | ((with_reducible refine gate_dst (N := 3) rfl ?_); refine box_ (cs := #[.int .i64 a1_0, .int .i64 a1_1, .bool true, .bool true]) (t := 27) fun b6 hg E4 hbox hb => ?_; have a4 := Aside0.mk (hbox); have b7 := bS HB hg; have b8 := bS HB hg; have a5 := bL a3 hg; have a6 := bM a3 hg; replace a3 := bQ a3 hb; replace HB := Aside0.mk (below_step bB hb); clear hb hbox hg) | ((with_reducible refine gate_dst (N := 4) rfl ?_); refine box_ (cs := #[.int .i64 0, .int .i64 0, .bool false, .bool false]) (t := 27) fun b2 hg E5 hbox hb => ?_; have b1 := Aside0.mk (hbox); have b9 := bS HB hg; have c0 := bS HB hg; have a7 := bL a3 hg; have a8 := bM a3 hg; have a9 := bL a4 hg; have b0 := bM a4 hg; replace a3 := bQ a3 hb; replace a4 := bQ a4 hb; replace HB := Aside0.mk (below_step bB hb); clear hb hbox hg; have z8 := a6.out; have z9 := a5.out; have A0 := a9.out; have A1 := b0.out; obtain ⟨m1, m2, m3, m4, m5, m6, m7, m8⟩ := cf4 a4; have A2 := a7.out; have A3 := a8.out; obtain ⟨m9, n0, n1, n2⟩ := cf2 a3; obtain ⟨n3, n4, n5, n6, n7, n8, n9, o0⟩ := cf4 b1))
 refine bodyPost_ret (results_cell_row rfl _ _ b2 27 #[.int .i64 a1_0, .int .i64 a1_1, .bool (decide (a1_0 < a0_0)), .bool (decide (a1_1 < a0_1))] (0, 0) _ rfl (bK b1) Tryz.underlying27 rfl kr) rfl ?_
 exact ⟨sE, bI⟩
 )
 ·(
 replace c7 := Bool.eq_false_iff.mpr c7
 subst c7
 rw [if_neg nft] at H
 simp only [Option.some.injEq, Prod.mk.injEq] at H
 obtain ⟨rfl, rfl, rfl, rfl⟩ := H
 go_enter Tryz.func69, Tryz.ntmps69
 go_wp2_with (first | ((with_reducible refine gate_dst (N := 2) rfl ?_); refine box_ (cs := #[.int .i64 a0_0, .int .i64 a0_1]) (t := 25) fun b3 hg E6 hbox hb => ?_; have a3 := Aside0.mk (hbox); have b4 := bS HB hg; have b5 := bS HB hg; replace HB := Aside0.mk (below_step bB hb); clear hb hbox hg) | ((with_reducible refine gate_dst (N := 3) rfl ?_); refine box_ (cs := #[.int .i64 a1_0, .int .i64 a1_1, .bool true, .bool false]) (t := 27) fun b6 hg E7 hbox hb => ?_; have a4 := Aside0.mk (hbox); have b7 := bS HB hg; have b8 := bS HB hg; have a5 := bL a3 hg; have a6 := bM a3 hg; replace a3 := bQ a3 hb; replace HB := Aside0.mk (below_step bB hb); clear hb hbox hg) | ((with_reducible refine gate_dst (N := 4) rfl ?_); refine box_ (cs := #[.int .i64 0, .int .i64 0, .bool false, .bool false]) (t := 27) fun b2 hg E8 hbox hb => ?_; have b1 := Aside0.mk (hbox); have b9 := bS HB hg; have c0 := bS HB hg; have a7 := bL a3 hg; have a8 := bM a3 hg; have a9 := bL a4 hg; have b0 := bM a4 hg; replace a3 := bQ a3 hb; replace a4 := bQ a4 hb; replace HB := Aside0.mk (below_step bB hb); clear hb hbox hg; have A4 := a6.out; have A5 := a5.out; have A6 := a9.out; have A7 := b0.out; obtain ⟨o1, o2, o3, o4, o5, o6, o7, o8⟩ := cf4 a4; have A8 := a7.out; have A9 := a8.out; obtain ⟨o9, p0, p1, p2⟩ := cf2 a3; obtain ⟨p3, p4, p5, p6, p7, p8, p9, q0⟩ := cf4 b1))
 refine bodyPost_ret (results_cell_row rfl _ _ b2 27 #[.int .i64 a1_0, .int .i64 a1_1, .bool (decide (a1_0 < a0_0)), .bool false] (0, 0) _ rfl (bK b1) Tryz.underlying27 rfl kr) rfl ?_
 exact ⟨sE, bI⟩
 )
 )
 )
 ·(
 replace c6 := Bool.eq_false_iff.mpr c6
 subst c6
 rw [if_neg nft] at H
 by_cases c2 : a1_1 = 0
 ·(
 rw [if_pos c2] at H
 obtain ⟨d1, d2⟩ := yE c2
 clear c2
 simp only [Option.some.injEq, Prod.mk.injEq] at H
 obtain ⟨rfl, rfl, rfl, rfl⟩ := H
 go_enter Tryz.func69, Tryz.ntmps69
 go_wp2_with (first | ((with_reducible refine gate_dst (N := 2) rfl ?_); refine box_ (cs := #[.int .i64 a0_0, .int .i64 a0_1]) (t := 25) fun b3 hg E9 hbox hb => ?_; have a3 := Aside0.mk (hbox); have b4 := bS HB hg; have b5 := bS HB hg; replace HB := Aside0.mk (below_step bB hb); clear hb hbox hg) | ((with_reducible refine gate_dst (N := 3) rfl ?_); refine box_ (cs := #[.int .i64 a1_0, .int .i64 a1_1, .bool false, .bool a1_3]) (t := 27) fun b6 hg F0 hbox hb => ?_; have a4 := Aside0.mk (hbox); have b7 := bS HB hg; have b8 := bS HB hg; have a5 := bL a3 hg; have a6 := bM a3 hg; replace a3 := bQ a3 hb; replace HB := Aside0.mk (below_step bB hb); clear hb hbox hg) | ((with_reducible refine gate_dst (N := 4) rfl ?_); refine box_ (cs := #[.int .i64 0, .int .i64 0, .bool false, .bool false]) (t := 27) fun b2 hg F1 hbox hb => ?_; have b1 := Aside0.mk (hbox); have b9 := bS HB hg; have c0 := bS HB hg; have a7 := bL a3 hg; have a8 := bM a3 hg; have a9 := bL a4 hg; have b0 := bM a4 hg; replace a3 := bQ a3 hb; replace a4 := bQ a4 hb; replace HB := Aside0.mk (below_step bB hb); clear hb hbox hg; have B0 := a6.out; have B1 := a5.out; have B2 := a9.out; have B3 := b0.out; obtain ⟨q1, q2, q3, q4, q5, q6, q7, q8⟩ := cf4 a4; have B4 := a8.out; have B5 := a7.out; obtain ⟨q9, r0, r5, r6, r7, r8, r9, s0⟩ := cf4 b1))
 refine bodyPost_ret (results_cell_row rfl _ _ b2 27 #[.int .i64 a1_0, .int .i64 a1_1, .bool false, .bool true] (0, 0) _ rfl (bK b1) Tryz.underlying27 rfl kr) rfl ?_
 exact ⟨sE, bI⟩
 )
 ·(
 rw [if_neg c2] at H
 obtain ⟨d1, d2⟩ := nE c2
 by_cases c8 : a1_3 = true
 ·(
 subst c8
 rw [if_pos rfl] at H
 simp only [Option.some.injEq, Prod.mk.injEq] at H
 obtain ⟨rfl, rfl, rfl, rfl⟩ := H
 go_enter Tryz.func69, Tryz.ntmps69
 go_wp2_with (first | ((with_reducible refine gate_dst (N := 2) rfl ?_); refine box_ (cs := #[.int .i64 a0_0, .int .i64 a0_1]) (t := 25) fun b3 hg F2 hbox hb => ?_; have a3 := Aside0.mk (hbox); have b4 := bS HB hg; have b5 := bS HB hg; replace HB := Aside0.mk (below_step bB hb); clear hb hbox hg) | ((with_reducible refine gate_dst (N := 3) rfl ?_); refine box_ (cs := #[.int .i64 a1_0, .int .i64 a1_1, .bool false, .bool true]) (t := 27) fun b6 hg F3 hbox hb => ?_; have a4 := Aside0.mk (hbox); have b7 := bS HB hg; have b8 := bS HB hg; have a5 := bL a3 hg; have a6 := bM a3 hg; replace a3 := bQ a3 hb; replace HB := Aside0.mk (below_step bB hb); clear hb hbox hg) | ((with_reducible refine gate_dst (N := 4) rfl ?_); refine box_ (cs := #[.int .i64 0, .int .i64 0, .bool false, .bool false]) (t := 27) fun b2 hg F4 hbox hb => ?_; have b1 := Aside0.mk (hbox); have b9 := bS HB hg; have c0 := bS HB hg; have a7 := bL a3 hg; have a8 := bM a3 hg; have a9 := bL a4 hg; have b0 := bM a4 hg; replace a3 := bQ a3 hb; replace a4 := bQ a4 hb; replace HB := Aside0.mk (below_step bB hb); clear hb hbox hg; have B6 := a6.out; have B7 := a5.out; have B8 := a9.out; have B9 := b0.out; obtain ⟨s1, s2, s3, s4, s5, s6, s7, s8⟩ := cf4 a4; have C0 := a7.out; have C1 := a8.out; obtain ⟨s9, u0, u1, u2⟩ := cf2 a3; obtain ⟨u3, u4, u5, u6, u7, u9, v0, v1⟩ := cf4 b1))
 refine bodyPost_ret (results_cell_row rfl _ _ b2 27 #[.int .i64 a1_0, .int .i64 a1_1, .bool false, .bool (decide (a1_1 < a0_1))] (0, 0) _ rfl (bK b1) Tryz.underlying27 rfl kr) rfl ?_
 exact ⟨sE, bI⟩
 )
 ·(
 replace c8 := Bool.eq_false_iff.mpr c8
 subst c8
 rw [if_neg nft] at H
 simp only [Option.some.injEq, Prod.mk.injEq] at H
 obtain ⟨rfl, rfl, rfl, rfl⟩ := H
 go_enter Tryz.func69, Tryz.ntmps69
 go_wp2_with (first | ((with_reducible refine gate_dst (N := 2) rfl ?_); refine box_ (cs := #[.int .i64 a0_0, .int .i64 a0_1]) (t := 25) fun b3 hg F5 hbox hb => ?_; have a3 := Aside0.mk (hbox); have b4 := bS HB hg; have b5 := bS HB hg; replace HB := Aside0.mk (below_step bB hb); clear hb hbox hg) | ((with_reducible refine gate_dst (N := 3) rfl ?_); refine box_ (cs := #[.int .i64 a1_0, .int .i64 a1_1, .bool false, .bool false]) (t := 27) fun b6 hg F6 hbox hb => ?_; have a4 := Aside0.mk (hbox); have b7 := bS HB hg; have b8 := bS HB hg; have a5 := bL a3 hg; have a6 := bM a3 hg; replace a3 := bQ a3 hb; replace HB := Aside0.mk (below_step bB hb); clear hb hbox hg) | ((with_reducible refine gate_dst (N := 4) rfl ?_); refine box_ (cs := #[.int .i64 0, .int .i64 0, .bool false, .bool false]) (t := 27) fun b2 hg F7 hbox hb => ?_; have b1 := Aside0.mk (hbox); have b9 := bS HB hg; have c0 := bS HB hg; have a7 := bL a3 hg; have a8 := bM a3 hg; have a9 := bL a4 hg; have b0 := bM a4 hg; replace a3 := bQ a3 hb; replace a4 := bQ a4 hb; replace HB := Aside0.mk (below_step bB hb); clear hb hbox hg; have C2 := a6.out; have C3 := a5.out; have C4 := a9.out; have C5 := b0.out; obtain ⟨v2, v3, v4, v5, v6, v7, v8, v9⟩ := cf4 a4; have C6 := a8.out; have C7 := a7.out; obtain ⟨x0, x1, x2, x3, x4, x5, x6, x7⟩ := cf4 b1))
 refine bodyPost_ret (results_cell_row rfl _ _ b2 27 #[.int .i64 a1_0, .int .i64 a1_1, .bool false, .bool false] (0, 0) _ rfl (bK b1) Tryz.underlying27 rfl kr) rfl ?_
 exact ⟨sE, bI⟩
 )
 )
 )
 )

/-! ### impl_sign: function 83 -/
def impl_sign.f (a0 : Bool) : Option (Int) := if a0 = true then (some 1) else (some (-1))
set_option maxHeartbeats 8000000 in
set_option maxRecDepth 100000 in
theorem impl_sign.calls (a0 : Bool) (r : Int) (w : World) (h : impl_sign.f a0 = some r) :
    Calls Tryz.prog 83 #[.bool a0] w fun e w' => e = .returned (.int .i64 r) ∧ Drawn0 w w' := by
 have H := h
 unfold impl_sign.f at H
 clear h
 by_cases c2 : a0 = true
 subst c2
 rw [if_pos rfl] at H
 obtain rfl := Option.some.inj H
 rotate_left
 replace c2 := Bool.eq_false_iff.mpr c2
 subst c2
 rw [if_neg nft] at H
 obtain rfl := Option.some.inj H
 rotate_left
 all_goals (go_enter Tryz.func83, Tryz.ntmps83)
 all_goals go_wp2
 all_goals go_ret
 all_goals (exact ⟨by first | rfl | (simp; done) | (simp [*]; done), by repeat (first | exact Drawn0.refl _ | apply Drawn0.step)⟩)

end Go.Proofs.YtlmiaadpnbehgaaGreatDoor.PFnBeamsEnd
