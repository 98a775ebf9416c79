-- Written by xprint.py, a program of this session, for this seat; Lean checks it.
import Derived.Test.YtlmiaadpnbehgaaGreatDoorVM
import Derived.Test.YtlmiaadpnbehgaaGreatDoorPFnBeamsEndx0
import Derived.Test.YtlmiaadpnbehgaaGreatDoorPFnBeamsEndx6
import Derived.Test.YtlmiaadpnbehgaaGreatDoorPFnBeamsEndx8
import Derived.Test.YtlmiaadpnbehgaaGreatDoorPFnBeamsEndx9
namespace Go.Proofs.YtlmiaadpnbehgaaGreatDoor.PFnBeamsEnd
open Go.Proofs.YtlmiaadpnbehgaaGreatDoorV Go.RowKit Go.Proofs.YtlmiaadpnbehgaaGreatDoorW.PrintWords Go.Proofs.YtlmiaadpnbehgaaGreatDoorW.PrintLast Go.Proofs.YtlmiaadpnbehgaaGreatDoorW.PrintMore
attribute [local go_sem] max2_int min2_int max_two min_two max_three min_three max_four min_four   -- for this text's walks alone
set_option linter.unusedVariables false
set_option linter.unusedSimpArgs false

/-! ### impl_BouncesWithin: function 15 -/
/-- What the closure has kept: the sides so far. -/
structure bwI (wb : World) (cb : Nat) (v : Nat → ByteArray) (k : Nat) (wr : World) : Prop where
  old : FwOld (fun i => i = cb) wb wr
  cell : wr.heap[cb]? = some (.cells #[.string (v k)] 9 (0, 0))
def bwTxt (W H : Int) (b : S27) : Nat → ByteArray
  | 0 => ⟨#[]⟩
  | k + 1 => fwSides W H b k
theorem bwTxt_step (W H : Int) (b : S27) : ∀ k, bwTxt W H b k ++ (fwSt W H b k).2 = bwTxt W H b (k + 1)
  | 0 => rfl
  | _ + 1 => rfl
theorem bwTxt_small (W H : Int) (b : S27) : ∀ k, (bwTxt W H b (k + 1)).size ≤ k := fun k => fwSides_small W H b k
def impl_BouncesWithin.f (a0_0 : Int) (a0_1 : Int) (a1_0 : Int) (a1_1 : Int) (a1_2 : Bool) (a1_3 : Bool) (a2 : Int) : Option (ByteArray × Bool) :=
  (impl_IsBeam.f a0_0 a0_1 a1_0 a1_1 a1_2 a1_3).bind fun t1 => if t1 = true then (impl_within.f a2 0 1000).bind fun t2 => if t2 = true then some (fwSides a0_0 a0_1 ⟨a1_0, a1_1, a1_2, a1_3⟩ (fwN a0_0 a0_1 ⟨a1_0, a1_1, a1_2, a1_3⟩ a2 fun _ => false), true) else some (⟨#[]⟩, false) else some (⟨#[]⟩, false)
set_option maxHeartbeats 4000000 in
theorem impl_BouncesWithin.one (cb : Nat) (k x y : Int) (r u : Bool) (txt sd : ByteArray) (w : World) (hsz : txt.size + sd.size ≤ 9223372036854775807) (hlt : cb < w.heap.size) (hc : w.heap[cb]? = some (.cells #[.string txt] 9 (0, 0))) :
    Calls Tryz.prog 43 #[.int .i64 k, .agg #[.int .i64 x, .int .i64 y, .bool r, .bool u], .string sd, .pointer (some ⟨cb, 0, none⟩)] w fun e w' => e = .returned (.bool false) ∧ w'.heap[cb]? = some (.cells #[.string (txt ++ sd)] 9 (0, 0)) ∧ FwMv cb w w' := by
  have c1 := (fw_cells hc 0).1
  have f1 := (fw_cells hc 0).2
  simp at c1
  have HC := Aside0.mk hc
  clear hc
  go_enter Tryz.func43, Tryz.ntmps43
  go_wp2
  all_goals go_ret
  have hs : (w.setCell ⟨cb, 0, none⟩ (.string (txt ++ sd))).heap[cb]? = some (.cells #[.string (txt ++ sd)] 9 (0, 0)) := heap_setCell_same w cb 0 _ 9 (.string (txt ++ sd)) HC.out
  have hm : FwMv cb w (w.setCell ⟨cb, 0, none⟩ (.string (txt ++ sd))) := fw_set (w := w) (g := cb) (i := 0) (.string (txt ++ sd))
  have hb := below_alloc (Below.refl _ (w.setCell ⟨cb, 0, none⟩ (.string (txt ++ sd)))) (.cells #[.int .i64 x, .int .i64 y, .bool r, .bool u] 27 (0, 0))
  exact ⟨rfl, (hb.block cb (Nat.lt_of_lt_of_le hlt hm.size)).trans hs, hm.trans (FwMv.of_below hb)⟩
/-- The way with the closure that keeps the sides. -/
theorem impl_BouncesWithin.way (W H x y : Int) (r u : Bool) (steps : Int) (h0 : 0 ≤ steps) (h1 : steps ≤ 1000) (cb : Nat) (wb : World) (hlt : cb < wb.heap.size) (hc : wb.heap[cb]? = some (.cells #[.string ⟨#[]⟩] 9 (0, 0))) :
    Calls Tryz.prog 41 #[.agg #[.int .i64 W, .int .i64 H], .agg #[.int .i64 x, .int .i64 y, .bool r, .bool u], .int .i64 steps, .func (.func 43) #[] #[.pointer (some ⟨cb, 0, none⟩)]] wb fun e w' =>
      e = .returned (.tuple #[]) ∧ FwOld (fun i => i = cb) wb w' ∧ w'.heap[cb]? = some (.cells #[.string (fwSides W H ⟨x, y, r, u⟩ (fwN W H ⟨x, y, r, u⟩ steps fun _ => false))] 9 (0, 0)) := by
  obtain ⟨n1, n2, n3⟩ := fwN_is W H ⟨x, y, r, u⟩ steps (fun _ => false) h0
  refine (impl_follow.calls W H x y r u steps 43 #[.pointer (some ⟨cb, 0, none⟩)] (fw_enters Tryz.func43 kr rfl) (bwI wb cb (bwTxt W H ⟨x, y, r, u⟩)) (fun _ => false) (fwN W H ⟨x, y, r, u⟩ steps fun _ => false) wb (by omega) n3 n2 ⟨FwOld.refl _ _, hc⟩ ?_ ?_).mono ?_
  · intro k W1 W2 hI hm
    exact ⟨hI.old.mv hm (.inl (by omega)), (hm.block cb (Nat.lt_of_lt_of_le hlt hI.old.size) (by omega)).trans hI.cell⟩
  · intro k Wd hk hz hI
    have hs : (bwTxt W H ⟨x, y, r, u⟩ k).size + (fwSt W H ⟨x, y, r, u⟩ k).2.size ≤ 9223372036854775807 := by
      have h2 := congrArg ByteArray.size (bwTxt_step W H ⟨x, y, r, u⟩ k)
      rw [ByteArray.size_append] at h2
      have h3 := bwTxt_small W H ⟨x, y, r, u⟩ k
      omega
    refine (impl_BouncesWithin.one cb (k : Int) _ _ _ _ _ _ Wd hs (Nat.lt_of_lt_of_le hlt hI.old.size) hI.cell).mono ?_
    rintro e w2 ⟨rfl, hc2, hm2⟩
    exact ⟨rfl, ⟨hI.old.mv hm2 (.inr rfl), by rw [← bwTxt_step]; exact hc2⟩, ⟨hm2.size, hm2.block _ (by omega) (by omega), hm2.block _ hz (by omega)⟩⟩
  · rintro e w2 ⟨rfl, hI⟩
    exact ⟨rfl, hI.old, hI.cell⟩
theorem bw_within {x a b : Int} (h : impl_within.f x a b = some true) : a ≤ x ∧ x ≤ b := by
  unfold impl_within.f at h
  by_cases c : x ≥ a
  · rw [if_pos c] at h
    exact ⟨c, of_decide_eq_true (Option.some.inj h)⟩
  · rw [if_neg c] at h
    cases h
set_option maxHeartbeats 8000000 in
set_option maxRecDepth 100000 in
theorem impl_BouncesWithin.calls (a0_0 : Int) (a0_1 : Int) (a1_0 : Int) (a1_1 : Int) (a1_2 : Bool) (a1_3 : Bool) (a2 : Int) (r1 : ByteArray) (r2 : Bool) (w : World) (h : impl_BouncesWithin.f a0_0 a0_1 a1_0 a1_1 a1_2 a1_3 a2 = some (r1, r2)) :
    Calls Tryz.prog 15 #[.agg #[.int .i64 a0_0, .int .i64 a0_1], .agg #[.int .i64 a1_0, .int .i64 a1_1, .bool a1_2, .bool a1_3], .int .i64 a2] w fun e w' => e = .returned (.tuple #[.string r1, .bool r2]) ∧ Below w.heap.size w w' := by
 unfold impl_BouncesWithin.f at h
 obtain ⟨t1, b1, h⟩ := Option.bind_eq_some_iff.mp h
 have b2 := Aside0.mk b1
 clear b1
 obtain ⟨p1, p2, ps⟩ := fw_two w (.cells #[.int .i64 a0_0, .int .i64 a0_1] 25 (0, 0)) (.cells #[.int .i64 a1_0, .int .i64 a1_1, .bool a1_2, .bool a1_3] 27 (0, 0))
 have b0 := Aside0.mk (below_alloc (below_alloc (Below.refl _ w) (.cells #[.int .i64 a0_0, .int .i64 a0_1] 25 (0, 0))) (.cells #[.int .i64 a1_0, .int .i64 a1_1, .bool a1_2, .bool a1_3] 27 (0, 0)))
 have P := Aside0.mk (And.intro p1 (And.intro p2 ps))
 clear p1 p2 ps
 cases t1 with
 | false =>
  rw [if_neg (by decide)] at h
  obtain ⟨rfl, rfl⟩ := Prod.mk.inj (Option.some.inj h)
  clear h
  go_enter Tryz.func15, Tryz.ntmps15
  go_wp2_with fail
  with_reducible refine (impl_IsBeam.calls _ _ _ _ _ _ false _ b2.out).mono ?_
  rintro e w1 ⟨rfl, a3⟩
  have a8 := Aside0.mk (below_step b0.out a3)
  clear a3
  go_wp2_with fail
  go_ret2
  exact ⟨rfl, a8.out⟩
 | true =>
  rw [if_pos rfl] at h
  obtain ⟨t2, b3, h⟩ := Option.bind_eq_some_iff.mp h
  have b4 := Aside0.mk b3
  clear b3
  have H := Aside0.mk h
  clear h
  go_enter Tryz.func15, Tryz.ntmps15
  go_wp2_with fail
  with_reducible refine (impl_IsBeam.calls _ _ _ _ _ _ true _ b2.out).mono ?_
  rintro e w1 ⟨rfl, a3⟩
  have a8 := Aside0.mk (below_step b0.out a3)
  have q1 := (a3.block w.heap.size (by rw [P.out.2.2]; omega)).trans P.out.1
  have q2 := (a3.block (w.heap.size + 1) (by rw [P.out.2.2]; omega)).trans P.out.2.1
  have z1 := Aside0.mk (show w.heap.size + 1 < w1.heap.size from Nat.lt_of_lt_of_le (by rw [P.out.2.2]; omega) a3.size)
  have Q1 := Aside0.mk (And.intro q1 q2)
  clear a3 q1 q2 P b0
  go_wp2_with fail
  with_reducible refine (impl_within.calls a2 0 1000 t2 _ b4.out).mono ?_
  rintro e w2 ⟨rfl, ⟨nd, hw⟩⟩
  have a6 : Below w1.heap.size w1 w2 := by rw [hw]; exact pw_below_drewN (Below.refl _ _) nd
  clear hw nd
  have a9 := Aside0.mk (below_step a8.out a6)
  have z2 := Aside0.mk (Nat.lt_of_lt_of_le z1.out a6.size)
  have q1 := (a6.block w.heap.size (by have := z1.out; omega)).trans Q1.out.1
  have q2 := (a6.block (w.heap.size + 1) z1.out).trans Q1.out.2
  clear a6 a8 z1 Q1
  cases t2 with
  | false =>
   have h := H.out
   rw [if_neg (by decide)] at h
   obtain ⟨rfl, rfl⟩ := Prod.mk.inj (Option.some.inj h)
   clear h H
   go_wp2_with fail
   go_ret2
   exact ⟨rfl, a9.out⟩
  | true =>
   have h := H.out
   rw [if_pos rfl] at h
   obtain ⟨rfl, rfl⟩ := Prod.mk.inj (Option.some.inj h)
   clear h H
   have hst := bw_within b4.out
   have b5 := z2.out
   have hal : Below w2.heap.size w2 (w2.alloc (.cells #[.string ⟨#[]⟩] 9 (0, 0))) := below_alloc (Below.refl _ w2) _
   have a1 := (hal.block _ (by omega)).trans q1
   have a7 := (hal.block _ (by omega)).trans q2
   have a4 : (w2.alloc (.cells #[.string ⟨#[]⟩] 9 (0, 0))).heap[w2.heap.size]? = some (.cells #[.string ⟨#[]⟩] 9 (0, 0)) := by
    show (w2.heap.push _)[w2.heap.size]? = _
    rw [Array.getElem?_push, if_pos rfl]
   have a5 : w2.heap.size < (w2.alloc (.cells #[.string ⟨#[]⟩] 9 (0, 0))).heap.size := by
    show _ < (w2.heap.push _).size
    simp
   have b6 := (fw_cells a1 0).1
   have b7 := (fw_cells a1 1).1
   have b8 := (fw_cells a7 0).1
   have b9 := (fw_cells a7 1).1
   have c0 := (fw_cells a7 2).1
   have c2 := (fw_cells a7 3).1
   simp at b6 b7 b8 b9 c0 c2
   have HWAY := Aside0.mk (impl_BouncesWithin.way a0_0 a0_1 a1_0 a1_1 a1_2 a1_3 a2 hst.1 hst.2 w2.heap.size _ a5 a4)
   have Q3 := Aside0.mk hal
   clear q1 q2 a1 a7 a4 a5 hal hst b5
   go_wp2_with fail
   refine HWAY.out.mono ?_
   rintro e w3 ⟨rfl, ho, hc⟩
   have c3 := (fw_cells hc 0).1
   have f3 := (fw_cells hc 0).2
   simp at c3
   have c4 := Aside0.mk (FwOld.below (S := fun i => i = w2.heap.size) (below_step a9.out Q3.out) ho (fun i hi => by have := a9.out.size; have := z2.out; omega))
   clear hc ho HWAY Q3 a9 z2
   go_wp2_with fail
   go_ret2
   exact ⟨rfl, c4.out⟩

/-! ### spec_DrawIsTable: function 44 -/
-- (its text lies ahead)

/-! ### spec_DrawMainBounces: function 16 -/
def spec_DrawMainBounces.f (l0 : List Int) : Option (Int × Int) := (spec_DrawIsTable.f l0).bind fun bt403 => (some (bt403.1, bt403.2))
set_option maxHeartbeats 8000000 in
set_option maxRecDepth 100000 in
theorem spec_DrawMainBounces.calls (A0 : Option Addr) (c0 : Nat) (l0 : List Int) (r1 : Int) (r2 : Int) (w : World) (hr0 : Kd.C (Kd.int .u8) w A0 l0.length l0) (hc0 : l0.length ≤ c0) (h : spec_DrawMainBounces.f l0 = some (r1, r2)) :
    Calls Tryz.prog 16 #[.slice A0 l0.length c0] w fun e w' => e = .returned (.agg #[.int .i64 r1, .int .i64 r2]) ∧ Below w.heap.size w w' := by
 have b5 := Tryz.underlying25
 have a7 := Aside0.mk hr0
 have a8 := Aside0.mk hc0
 clear hr0 hc0
 have HB := Aside0.mk (Below.refl w.heap.size w)
 have H := h
 unfold spec_DrawMainBounces.f at H
 clear h
 obtain ⟨⟨a4, a5⟩, A2, H⟩ := bD H
 try dsimp only at H
 simp only [Option.some.injEq, Prod.mk.injEq] at H
 obtain ⟨rfl, rfl⟩ := H
 go_enter Tryz.func16, Tryz.ntmps16
 go_wp2_with (first | ((with_reducible refine gate_dst (N := 2) rfl ?_); refine box_ (cs := #[.int .i64 0, .int .i64 0]) (t := 25) fun a6 hg w3 hbox hb => ?_; have a3 := Aside0.mk (hbox); have b3 := bS HB hg; have b4 := bS HB hg; replace HB := Aside0.mk (below_step bB hb); clear hb hbox hg) | ((with_reducible refine gate_callee (f := 44) rfl ?_); refine goesL_ (some 4) rfl rfl Tryz.func44 kr rfl #[.slice A0 l0.length c0] rfl sM ?_; (with_reducible refine (spec_DrawIsTable.calls _ _ l0 a4 a5 _ ?side1 ?side2 A2.out).mono ?_); (case side1 => repeat (first | exact (Kd.C_below a7.out HB.out) | (with_reducible refine Kd.C_alloc ?_ _) | (with_reducible refine Kd.C_drewN ?_ _) | (with_reducible refine Kd.C_drew ?_))); (case side2 => exact a8.out); rintro e w4 ⟨rfl, hb⟩; refine ⟨_, rfl, ?_⟩; replace a3 := bQ a3 hb; replace HB := Aside0.mk (below_step bB hb); (try clear hb); obtain ⟨a9, b0, b1, b2⟩ := cf2 a3))
 refine bodyPost_ret (results_cell_row rfl _ _ a6 25 #[.int .i64 a4, .int .i64 a5] (0, 0) _ rfl (bK a3) Tryz.underlying25 rfl kr) rfl ?_
 exact ⟨sE, bI⟩

/-! ### impl_gcd: function 53 -/
def impl_gcd.l0 : Nat → Int → Int → Option (Int)
  | 0, _, _ => none
  | k + 1, x0, x1 => if x1 = 0 then (some (mx x0 (wrap64 (-x0)))) else (impl_gcd.l0 k x1 (Int.tmod x0 x1))
def impl_gcd.f (k : Nat) (a0 : Int) (a1 : Int) : Option (Int) := impl_gcd.l0 k a0 a1
theorem impl_gcd.mono_l : ∀ k, (∀ y0 y1, LeO (impl_gcd.l0 k y0 y1) (impl_gcd.l0 (k + 1) y0 y1))
  | 0 => fun _ _ r h => by simp [impl_gcd.l0] at h
  | k + 1 => by
    have ih0 := impl_gcd.mono_l k
    · intro y0 y1
      unfold impl_gcd.l0
      repeat' first
      | (with_reducible exact ih0 _ _)
      | (with_reducible exact LeO.refl _)
      | (with_reducible exact LeO.none _)
      | (with_reducible refine LeO.ite ?_ ?_)
      | (with_reducible refine LeO.bind ?_ (fun _ => ?_))
      | exact ih0 _ _
      | exact LeO.none _
      | refine LeO.ite ?_ ?_
      | refine LeO.bind ?_ (fun _ => ?_)
theorem impl_gcd.mono : ∀ a0 a1 k, LeO (impl_gcd.f k a0 a1) (impl_gcd.f (k + 1) a0 a1) := by
  intro a0 a1 k
  have ih0 := impl_gcd.mono_l k
  unfold impl_gcd.f
  repeat' first
      | (with_reducible exact ih0 _ _)
      | (with_reducible exact LeO.refl _)
      | (with_reducible exact LeO.none _)
      | (with_reducible refine LeO.ite ?_ ?_)
      | (with_reducible refine LeO.bind ?_ (fun _ => ?_))
      | exact ih0 _ _
      | exact LeO.none _
      | refine LeO.ite ?_ ?_
      | refine LeO.bind ?_ (fun _ => ?_)
set_option maxHeartbeats 8000000 in
set_option maxRecDepth 100000 in
theorem impl_gcd.calls (k : Nat) (a0 : Int) (a1 : Int) (r : Int) (w : World) (h : impl_gcd.f k a0 a1 = some r) :
    Calls Tryz.prog 53 #[.int .i64 a0, .int .i64 a1] w fun e w' => e = .returned (.int .i64 r) ∧ Below w.heap.size w w' := by
 have HB := Aside0.mk (Below.refl w.heap.size w)
 have H := h
 unfold impl_gcd.f at H
 clear h
 have H' := Aside0.mk H
 clear H
 go_enter Tryz.func53, Tryz.ntmps53
 go_wp2
 repeat (go_quiet (fail); try go_wp2)
 go_loopg [0, 1] k (fun kq v0 v1 w' => ∃ (a3 : Int) (a4 : Int), v0 = .int .i64 a3 ∧ v1 = .int .i64 a4 ∧ Aside0 (impl_gcd.l0 kq a3 a4 = some r) ∧ Aside0 (kq ≤ k) ∧ Aside0 (Below w.heap.size w w'))
 case atStart => exact ⟨(a0), (a1), sR, sR, H', ⟨Nat.le_refl _⟩, ⟨bB⟩⟩
 case round => (
 clear H'
 obtain ⟨a3, a4, rfl, rfl, HA, HK1, HB⟩ := hrel
 cases gk with
 | zero => exact absurd HA.out (by simp [impl_gcd.l0])
 | succ k1 => (
 have H := HA.out
 clear HA
 simp only [impl_gcd.l0] at H
 by_cases c3 : a4 = 0
 ·(
 rw [if_pos c3] at H
 obtain ⟨a6, a7⟩ := yE c3
 clear c3
 obtain ⟨a8, a5⟩ : ∃ j_ : Int, (mx a3 (wrap64 (-a3))) = j_ := ⟨_, rfl⟩
 (first | rw [a5] at H | simp only [a5] at H)
 have a9 : (if a3 < (wrap64 (-a3)) then (wrap64 (-a3)) else a3) = a8 := a5
 obtain rfl := Option.some.inj H
 go_wp2
 repeat (go_quiet (fail); try go_wp2)
 go_ret
 exact ⟨by first | rfl | (simp [errW_none, errW_some] <;> rfl) | (simp only [← a5]; first | rfl | (simp [errW_none, errW_some] <;> rfl)) | (simp [*, errW_none, errW_some] <;> rfl), bI⟩
 )
 ·(
 rw [if_neg c3] at H
 obtain ⟨a6, a7⟩ := nE c3
 have H' := Aside0.mk H
 clear H
 go_wp2
 repeat (go_quiet (fail); try go_wp2)
 go_roundg k1
 case measure => have := HK1.out; omega
 case rel => exact ⟨(a4), (Int.tmod a3 a4), sR, sR, H', ⟨by have := HK1.out; omega⟩, ⟨bB⟩⟩
 )
 )
 )

/-! ### impl_lcm: function 45 -/
def impl_lcm.f (k : Nat) (a0 : Int) (a1 : Int) : Option (Int) := (impl_gcd.f k a0 a1).bind fun t405 => (if t405 = 0 then (none) else (some (wrap64 ((wrap64 (Int.tdiv a0 t405)) * a1))))
theorem impl_lcm.mono : ∀ a0 a1 k, LeO (impl_lcm.f k a0 a1) (impl_lcm.f (k + 1) a0 a1) := by
  intro a0 a1 k
  unfold impl_lcm.f
  repeat' first
      | (with_reducible exact impl_gcd.mono _ _ _)
      | (with_reducible exact LeO.refl _)
      | (with_reducible exact LeO.none _)
      | (with_reducible refine LeO.ite ?_ ?_)
      | (with_reducible refine LeO.bind ?_ (fun _ => ?_))
      | exact impl_gcd.mono _ _ _
      | exact LeO.none _
      | refine LeO.ite ?_ ?_
      | refine LeO.bind ?_ (fun _ => ?_)
set_option maxHeartbeats 8000000 in
set_option maxRecDepth 100000 in
theorem impl_lcm.calls (k : Nat) (a0 : Int) (a1 : Int) (r : Int) (w : World) (h : impl_lcm.f k a0 a1 = some r) :
    Calls Tryz.prog 45 #[.int .i64 a0, .int .i64 a1] w fun e w' => e = .returned (.int .i64 r) ∧ Below w.heap.size w w' := by
 have HB := Aside0.mk (Below.refl w.heap.size w)
 have H := h
 unfold impl_lcm.f at H
 clear h
 obtain ⟨a3, A3, H⟩ := bD H
 try dsimp only at H
 by_cases c4 : a3 = 0
 ·(
 rw [if_pos c4] at H
 exact absurd H (by simp)
 )
 ·(
 rw [if_neg c4] at H
 obtain ⟨a4, a5⟩ := nE c4
 obtain rfl := Option.some.inj H
 go_enter Tryz.func45, Tryz.ntmps45
 go_wp2_with (first | ((with_reducible refine gate_callee (f := 53) rfl ?_); refine goesL_ (some 8) rfl rfl Tryz.func53 kr rfl #[.int .i64 a0, .int .i64 a1] rfl sM ?_; (with_reducible refine (impl_gcd.calls k a0 a1 a3 _ A3.out).mono ?_); rintro e w5 ⟨rfl, hb⟩; refine ⟨_, rfl, ?_⟩; replace HB := Aside0.mk (below_step bB hb); (try clear hb)))
 go_ret
 exact ⟨sE, bI⟩
 )

/-! ### impl_MainBounces: function 17 -/
def impl_MainBounces.f (k : Nat) (a0_0 : Int) (a0_1 : Int) : Option (Int × Int × Bool) := (impl_IsTable.f a0_0 a0_1).bind fun t407 => (if t407 = true then ((impl_lcm.f k a0_0 a0_1).bind fun t408 => (if a0_0 = 0 then (none) else (if a0_1 = 0 then (none) else (some (wrap64 ((wrap64 (Int.tdiv t408 a0_0)) - 1), wrap64 ((wrap64 (Int.tdiv t408 a0_1)) - 1), true))))) else (some (0, 0, false)))
theorem impl_MainBounces.mono : ∀ a0 a1 k, LeO (impl_MainBounces.f k a0 a1) (impl_MainBounces.f (k + 1) a0 a1) := by
  intro a0 a1 k
  unfold impl_MainBounces.f
  repeat' first
      | (with_reducible exact impl_lcm.mono _ _ _)
      | (with_reducible exact LeO.refl _)
      | (with_reducible exact LeO.none _)
      | (with_reducible refine LeO.ite ?_ ?_)
      | (with_reducible refine LeO.bind ?_ (fun _ => ?_))
      | exact impl_lcm.mono _ _ _
      | exact LeO.none _
      | refine LeO.ite ?_ ?_
      | refine LeO.bind ?_ (fun _ => ?_)
set_option maxHeartbeats 8000000 in
set_option maxRecDepth 100000 in
theorem impl_MainBounces.calls (k : Nat) (a0_0 : Int) (a0_1 : Int) (r1 : Int) (r2 : Int) (r3 : Bool) (w : World) (h : impl_MainBounces.f k a0_0 a0_1 = some (r1, r2, r3)) :
    Calls Tryz.prog 17 #[.agg #[.int .i64 a0_0, .int .i64 a0_1]] w fun e w' => e = .returned (.tuple #[.int .i64 r1, .int .i64 r2, .bool r3]) ∧ Below w.heap.size w w' := by
 have d2 := Tryz.underlying25
 have HB := Aside0.mk (Below.refl w.heap.size w)
 have H := h
 unfold impl_MainBounces.f at H
 clear h
 obtain ⟨d1, A2, H⟩ := bD H
 try dsimp only at H
 by_cases c3 : d1 = true
 ·(
 subst c3
 rw [if_pos rfl] at H
 obtain ⟨c7, A4, H⟩ := bD H
 try dsimp only at H
 by_cases c5 : a0_0 = 0
 ·(
 rw [if_pos c5] at H
 exact absurd H (by simp)
 )
 ·(
 rw [if_neg c5] at H
 obtain ⟨d3, d4⟩ := nE c5
 by_cases c6 : a0_1 = 0
 ·(
 rw [if_pos c6] at H
 exact absurd H (by simp)
 )
 ·(
 rw [if_neg c6] at H
 obtain ⟨d5, d6⟩ := nE c6
 simp only [Option.some.injEq, Prod.mk.injEq] at H
 obtain ⟨rfl, rfl, rfl⟩ := H
 go_enter Tryz.func17, Tryz.ntmps17
 go_wp2_with (first | ((with_reducible refine gate_dst (N := 1) rfl ?_); refine box_ (cs := #[.int .i64 a0_0, .int .i64 a0_1]) (t := 25) fun a4 hg w7 hbox hb => ?_; have a3 := Aside0.mk (hbox); have a5 := bS HB hg; have a6 := bS HB hg; replace HB := Aside0.mk (below_step bB hb); clear hb hbox hg; obtain ⟨b9, c0, c2, c4⟩ := cf2 a3) | (go_at_call 30; (with_reducible refine (impl_IsTable.calls a0_0 a0_1 true _ A2.out).mono ?_); rintro e w9 ⟨rfl, hb⟩; replace a3 := bQ a3 hb; replace HB := Aside0.mk (below_step bB hb); (try clear hb); obtain ⟨a7, a8, a9, b0⟩ := cf2 a3) | (go_at_call 45; (with_reducible refine (impl_lcm.calls k a0_0 a0_1 c7 _ A4.out).mono ?_); rintro e c8 ⟨rfl, hb⟩; replace a3 := bQ a3 hb; replace HB := Aside0.mk (below_step bB hb); (try clear hb); obtain ⟨b1, b2, b3, b4⟩ := cf2 a3))
 repeat (go_quiet (first | ((with_reducible refine gate_dst (N := 1) rfl ?_); refine box_ (cs := #[.int .i64 a0_0, .int .i64 a0_1]) (t := 25) fun a4 hg w7 hbox hb => ?_; have a3 := Aside0.mk (hbox); have a5 := bS HB hg; have a6 := bS HB hg; replace HB := Aside0.mk (below_step bB hb); clear hb hbox hg; obtain ⟨b9, c0, c2, c4⟩ := cf2 a3) | (go_at_call 30; (with_reducible refine (impl_IsTable.calls a0_0 a0_1 true _ A2.out).mono ?_); rintro e w9 ⟨rfl, hb⟩; replace a3 := bQ a3 hb; replace HB := Aside0.mk (below_step bB hb); (try clear hb); obtain ⟨a7, a8, a9, b0⟩ := cf2 a3) | (go_at_call 45; (with_reducible refine (impl_lcm.calls k a0_0 a0_1 c7 _ A4.out).mono ?_); rintro e c8 ⟨rfl, hb⟩; replace a3 := bQ a3 hb; replace HB := Aside0.mk (below_step bB hb); (try clear hb); obtain ⟨b1, b2, b3, b4⟩ := cf2 a3)); try go_wp2_with (first | ((with_reducible refine gate_dst (N := 1) rfl ?_); refine box_ (cs := #[.int .i64 a0_0, .int .i64 a0_1]) (t := 25) fun a4 hg w7 hbox hb => ?_; have a3 := Aside0.mk (hbox); have a5 := bS HB hg; have a6 := bS HB hg; replace HB := Aside0.mk (below_step bB hb); clear hb hbox hg; obtain ⟨b9, c0, c2, c4⟩ := cf2 a3) | (go_at_call 30; (with_reducible refine (impl_IsTable.calls a0_0 a0_1 true _ A2.out).mono ?_); rintro e w9 ⟨rfl, hb⟩; replace a3 := bQ a3 hb; replace HB := Aside0.mk (below_step bB hb); (try clear hb); obtain ⟨a7, a8, a9, b0⟩ := cf2 a3) | (go_at_call 45; (with_reducible refine (impl_lcm.calls k a0_0 a0_1 c7 _ A4.out).mono ?_); rintro e c8 ⟨rfl, hb⟩; replace a3 := bQ a3 hb; replace HB := Aside0.mk (below_step bB hb); (try clear hb); obtain ⟨b1, b2, b3, b4⟩ := cf2 a3)))
 go_ret3
 exact ⟨sE, bI⟩
 )
 )
 )
 ·(
 replace c3 := Bool.eq_false_iff.mpr c3
 subst c3
 rw [if_neg nft] at H
 simp only [Option.some.injEq, Prod.mk.injEq] at H
 obtain ⟨rfl, rfl, rfl⟩ := H
 go_enter Tryz.func17, Tryz.ntmps17
 go_wp2_with (first | ((with_reducible refine gate_dst (N := 1) rfl ?_); refine box_ (cs := #[.int .i64 a0_0, .int .i64 a0_1]) (t := 25) fun a4 hg c9 hbox hb => ?_; have a3 := Aside0.mk (hbox); have a5 := bS HB hg; have a6 := bS HB hg; replace HB := Aside0.mk (below_step bB hb); clear hb hbox hg; obtain ⟨b5, b6, b7, b8⟩ := cf2 a3) | (go_at_call 30; (with_reducible refine (impl_IsTable.calls a0_0 a0_1 false _ A2.out).mono ?_); rintro e d0 ⟨rfl, hb⟩; replace a3 := bQ a3 hb; replace HB := Aside0.mk (below_step bB hb); (try clear hb)))
 repeat (go_quiet (first | ((with_reducible refine gate_dst (N := 1) rfl ?_); refine box_ (cs := #[.int .i64 a0_0, .int .i64 a0_1]) (t := 25) fun a4 hg c9 hbox hb => ?_; have a3 := Aside0.mk (hbox); have a5 := bS HB hg; have a6 := bS HB hg; replace HB := Aside0.mk (below_step bB hb); clear hb hbox hg; obtain ⟨b5, b6, b7, b8⟩ := cf2 a3) | (go_at_call 30; (with_reducible refine (impl_IsTable.calls a0_0 a0_1 false _ A2.out).mono ?_); rintro e d0 ⟨rfl, hb⟩; replace a3 := bQ a3 hb; replace HB := Aside0.mk (below_step bB hb); (try clear hb))); try go_wp2_with (first | ((with_reducible refine gate_dst (N := 1) rfl ?_); refine box_ (cs := #[.int .i64 a0_0, .int .i64 a0_1]) (t := 25) fun a4 hg c9 hbox hb => ?_; have a3 := Aside0.mk (hbox); have a5 := bS HB hg; have a6 := bS HB hg; replace HB := Aside0.mk (below_step bB hb); clear hb hbox hg; obtain ⟨b5, b6, b7, b8⟩ := cf2 a3) | (go_at_call 30; (with_reducible refine (impl_IsTable.calls a0_0 a0_1 false _ A2.out).mono ?_); rintro e d0 ⟨rfl, hb⟩; replace a3 := bQ a3 hb; replace HB := Aside0.mk (below_step bB hb); (try clear hb))))
 go_ret3
 exact ⟨sE, bI⟩
 )

/-! ### spec_clLow: function 55 -/
def spec_clLow.l0 : Nat → Int → Int → Int → Int → Option (Int × Int)
  | 0, _, _, _, _ => none
  | k + 1, x0, x1, x6, x7 => if x7 > 0 then (if x7 = 0 then (none) else (spec_clLow.l0 k x0 x1 x7 (Int.tmod x6 x7))) else (if x6 = 0 then (none) else (some (wrap64 (Int.tdiv x0 x6), wrap64 (Int.tdiv x1 x6))))
def spec_clLow.f (k : Nat) (a0 : Int) (a1 : Int) : Option (Int × Int) := spec_clLow.l0 k a0 a1 a0 a1
theorem spec_clLow.mono_l : ∀ k, (∀ y0 y1 y2 y3, LeO (spec_clLow.l0 k y0 y1 y2 y3) (spec_clLow.l0 (k + 1) y0 y1 y2 y3))
  | 0 => fun _ _ _ _ r h => by simp [spec_clLow.l0] at h
  | k + 1 => by
    have ih0 := spec_clLow.mono_l k
    · intro y0 y1 y2 y3
      unfold spec_clLow.l0
      repeat' first
      | (with_reducible exact ih0 _ _ _ _)
      | (with_reducible exact LeO.refl _)
      | (with_reducible exact LeO.none _)
      | (with_reducible refine LeO.ite ?_ ?_)
      | (with_reducible refine LeO.bind ?_ (fun _ => ?_))
      | exact ih0 _ _ _ _
      | exact LeO.none _
      | refine LeO.ite ?_ ?_
      | refine LeO.bind ?_ (fun _ => ?_)
theorem spec_clLow.mono : ∀ a0 a1 k, LeO (spec_clLow.f k a0 a1) (spec_clLow.f (k + 1) a0 a1) := by
  intro a0 a1 k
  have ih0 := spec_clLow.mono_l k
  unfold spec_clLow.f
  repeat' first
      | (with_reducible exact ih0 _ _ _ _)
      | (with_reducible exact LeO.refl _)
      | (with_reducible exact LeO.none _)
      | (with_reducible refine LeO.ite ?_ ?_)
      | (with_reducible refine LeO.bind ?_ (fun _ => ?_))
      | exact ih0 _ _ _ _
      | exact LeO.none _
      | refine LeO.ite ?_ ?_
      | refine LeO.bind ?_ (fun _ => ?_)
set_option maxHeartbeats 8000000 in
set_option maxRecDepth 100000 in
theorem spec_clLow.calls (k : Nat) (a0 : Int) (a1 : Int) (r1 : Int) (r2 : Int) (w : World) (h : spec_clLow.f k a0 a1 = some (r1, r2)) :
    Calls Tryz.prog 55 #[.int .i64 a0, .int .i64 a1] w fun e w' => e = .returned (.tuple #[.int .i64 r1, .int .i64 r2]) ∧ Drawn0 w w' := by
 have H := h
 unfold spec_clLow.f at H
 clear h
 have H' := Aside0.mk H
 clear H
 go_enter Tryz.func55, Tryz.ntmps55
 go_wp2
 repeat (go_quiet (fail); try go_wp2)
 go_loopg [6, 7] k (fun kq v6 v7 w' => ∃ (a4 : Int) (a3 : Int), v6 = .int .i64 a4 ∧ v7 = .int .i64 a3 ∧ Aside0 (spec_clLow.l0 kq a0 a1 a4 a3 = some (r1, r2)) ∧ Aside0 (kq ≤ k) ∧ Drawn0 w w')
 case atStart => exact ⟨(a0), (a1), sR, sR, H', ⟨Nat.le_refl _⟩, by repeat (first | exact Drawn0.refl _ | apply Drawn0.step)⟩
 case round => (
 clear H'
 obtain ⟨a4, a3, rfl, rfl, HA, HK1, ⟨m1, rfl⟩⟩ := hrel
 cases gk with
 | zero => exact absurd HA.out (by simp [spec_clLow.l0])
 | succ k1 => (
 have H := HA.out
 clear HA
 simp only [spec_clLow.l0] at H
 by_cases c3 : a3 > 0
 ·(
 rw [if_pos c3] at H
 have a5 : decide (0 < a3) = true := decide_eq_true c3
 clear c3
 by_cases c4 : a3 = 0
 ·(
 rw [if_pos c4] at H
 exact absurd H (by simp)
 )
 ·(
 rw [if_neg c4] at H
 obtain ⟨a6, a7⟩ := nE c4
 have H' := Aside0.mk H
 clear H
 go_wp2
 repeat (go_quiet (fail); try go_wp2)
 go_roundg k1
 case measure => have := HK1.out; omega
 case rel => exact ⟨(a3), (Int.tmod a4 a3), sR, sR, H', ⟨by have := HK1.out; omega⟩, by repeat (first | exact Drawn0.refl _ | apply Drawn0.step)⟩
 )
 )
 ·(
 rw [if_neg c3] at H
 have a5 : decide (0 < a3) = false := decide_eq_false c3
 clear c3
 by_cases c5 : a4 = 0
 ·(
 rw [if_pos c5] at H
 exact absurd H (by simp)
 )
 ·(
 rw [if_neg c5] at H
 obtain ⟨a8, a9⟩ := nE c5
 simp only [Option.some.injEq, Prod.mk.injEq] at H
 obtain ⟨rfl, rfl⟩ := H
 go_wp2
 repeat (go_quiet (fail); try go_wp2)
 go_ret2
 exact ⟨by first | rfl | (simp; done) | (simp [*]; done), by repeat (first | exact Drawn0.refl _ | apply Drawn0.step)⟩
 )
 )
 )
 )

/-! ### spec_beMain: function 47 -/
def spec_beMain.f (k : Nat) (a0_0 : Int) (a0_1 : Int) : Option (Int × Int) := (spec_clLow.f k a0_0 a0_1).bind fun bt410 => (some (bt410.1, bt410.2))
theorem spec_beMain.mono : ∀ a0 a1 k, LeO (spec_beMain.f k a0 a1) (spec_beMain.f (k + 1) a0 a1) := by
  intro a0 a1 k
  unfold spec_beMain.f
  repeat' first
      | (with_reducible exact spec_clLow.mono _ _ _)
      | (with_reducible exact LeO.refl _)
      | (with_reducible exact LeO.none _)
      | (with_reducible refine LeO.ite ?_ ?_)
      | (with_reducible refine LeO.bind ?_ (fun _ => ?_))
      | exact spec_clLow.mono _ _ _
      | exact LeO.none _
      | refine LeO.ite ?_ ?_
      | refine LeO.bind ?_ (fun _ => ?_)
set_option maxHeartbeats 8000000 in
set_option maxRecDepth 100000 in
theorem spec_beMain.calls (k : Nat) (a0_0 : Int) (a0_1 : Int) (r1 : Int) (r2 : Int) (w : World) (h : spec_beMain.f k a0_0 a0_1 = some (r1, r2)) :
    Calls Tryz.prog 47 #[.agg #[.int .i64 a0_0, .int .i64 a0_1]] w fun e w' => e = .returned (.tuple #[.int .i64 r1, .int .i64 r2]) ∧ Below w.heap.size w w' := by
 have b3 := Tryz.underlying25
 have HB := Aside0.mk (Below.refl w.heap.size w)
 have H := h
 unfold spec_beMain.f at H
 clear h
 obtain ⟨⟨a4, a5⟩, A2, H⟩ := bD H
 try dsimp only at H
 simp only [Option.some.injEq, Prod.mk.injEq] at H
 obtain ⟨rfl, rfl⟩ := H
 go_enter Tryz.func47, Tryz.ntmps47
 go_wp2_with (first | ((with_reducible refine gate_dst (N := 1) rfl ?_); refine box_ (cs := #[.int .i64 a0_0, .int .i64 a0_1]) (t := 25) fun b0 hg w3 hbox hb => ?_; have a3 := Aside0.mk (hbox); have b1 := bS HB hg; have b2 := bS HB hg; replace HB := Aside0.mk (below_step bB hb); clear hb hbox hg; obtain ⟨a6, a7, a8, a9⟩ := cf2 a3) | ((with_reducible refine gate_callee (f := 55) rfl ?_); refine goesL_ (some 8) rfl rfl Tryz.func55 kr rfl #[.int .i64 a0_0, .int .i64 a0_1] rfl sM ?_; (with_reducible refine (spec_clLow.calls k a0_0 a0_1 a4 a5 _ A2.out).mono ?_); rintro e w' ⟨rfl, ⟨nd, rfl⟩⟩; refine ⟨_, rfl, ?_⟩))
 go_ret2
 exact ⟨sE, bI⟩

/-! ### spec_MainBounces: function 18 -/
def spec_MainBounces.f (k : Nat) (a0_0 : Int) (a0_1 : Int) : Option (Int × Int × Bool) := (spec_beTable.f a0_0 a0_1).bind fun t413 => (if t413 = true then ((spec_beMain.f k a0_0 a0_1).bind fun bt414 => (some (wrap64 (bt414.2 - 1), wrap64 (bt414.1 - 1), true))) else (some (0, 0, false)))
theorem spec_MainBounces.mono : ∀ a0 a1 k, LeO (spec_MainBounces.f k a0 a1) (spec_MainBounces.f (k + 1) a0 a1) := by
  intro a0 a1 k
  unfold spec_MainBounces.f
  repeat' first
      | (with_reducible exact spec_beMain.mono _ _ _)
      | (with_reducible exact LeO.refl _)
      | (with_reducible exact LeO.none _)
      | (with_reducible refine LeO.ite ?_ ?_)
      | (with_reducible refine LeO.bind ?_ (fun _ => ?_))
      | exact spec_beMain.mono _ _ _
      | exact LeO.none _
      | refine LeO.ite ?_ ?_
      | refine LeO.bind ?_ (fun _ => ?_)
set_option maxHeartbeats 8000000 in
set_option maxRecDepth 100000 in
theorem spec_MainBounces.calls (k : Nat) (a0_0 : Int) (a0_1 : Int) (r1 : Int) (r2 : Int) (r3 : Bool) (w : World) (h : spec_MainBounces.f k a0_0 a0_1 = some (r1, r2, r3)) :
    Calls Tryz.prog 18 #[.agg #[.int .i64 a0_0, .int .i64 a0_1]] w fun e w' => e = .returned (.tuple #[.int .i64 r1, .int .i64 r2, .bool r3]) ∧ Below w.heap.size w w' := by
 have b6 := Tryz.underlying25
 have HB := Aside0.mk (Below.refl w.heap.size w)
 have H := h
 unfold spec_MainBounces.f at H
 clear h
 obtain ⟨a4, A2, H⟩ := bD H
 try dsimp only at H
 by_cases c3 : a4 = true
 subst c3
 rw [if_pos rfl] at H
 obtain ⟨⟨a5, a6⟩, A4, H⟩ := bD H
 try dsimp only at H
 simp only [Option.some.injEq, Prod.mk.injEq] at H
 obtain ⟨rfl, rfl, rfl⟩ := H
 rotate_left
 replace c3 := Bool.eq_false_iff.mpr c3
 subst c3
 rw [if_neg nft] at H
 simp only [Option.some.injEq, Prod.mk.injEq] at H
 obtain ⟨rfl, rfl, rfl⟩ := H
 rotate_left
 all_goals (go_enter Tryz.func18, Tryz.ntmps18)
 all_goals (go_wp2_with (first | ((with_reducible refine gate_dst (N := 1) rfl ?_); refine box_ (cs := #[.int .i64 a0_0, .int .i64 a0_1]) (t := 25) fun b7 hg c0 hbox hb => ?_; have a3 := Aside0.mk (hbox); have b8 := bS HB hg; have b9 := bS HB hg; replace HB := Aside0.mk (below_step bB hb); clear hb hbox hg; obtain ⟨a7, a8, a9, b0⟩ := cf2 a3) | ((with_reducible refine gate_callee (f := 46) rfl ?_); refine goesL_ (some 8) rfl rfl Tryz.func46 kr rfl #[.agg #[.int .i64 a0_0, .int .i64 a0_1]] rfl sM ?_; (with_reducible refine (spec_beTable.calls a0_0 a0_1 true _ A2.out).mono ?_); rintro e b5 ⟨rfl, hb⟩; refine ⟨_, rfl, ?_⟩; replace a3 := bQ a3 hb; replace HB := Aside0.mk (below_step bB hb); (try clear hb); obtain ⟨b1, b2, b3, b4⟩ := cf2 a3) | ((with_reducible refine gate_callee (f := 47) rfl ?_); refine goesL_ (some 12) rfl rfl Tryz.func47 kr rfl #[.agg #[.int .i64 a0_0, .int .i64 a0_1]] rfl sM ?_; (with_reducible refine (spec_beMain.calls k a0_0 a0_1 a5 a6 _ A4.out).mono ?_); rintro e c2 ⟨rfl, hb⟩; refine ⟨_, rfl, ?_⟩; replace a3 := bQ a3 hb; replace HB := Aside0.mk (below_step bB hb); (try clear hb)) | ((with_reducible refine gate_callee (f := 46) rfl ?_); refine goesL_ (some 8) rfl rfl Tryz.func46 kr rfl #[.agg #[.int .i64 a0_0, .int .i64 a0_1]] rfl sM ?_; (with_reducible refine (spec_beTable.calls a0_0 a0_1 false _ A2.out).mono ?_); rintro e b5 ⟨rfl, hb⟩; refine ⟨_, rfl, ?_⟩; replace a3 := bQ a3 hb; replace HB := Aside0.mk (below_step bB hb); (try clear hb))))
 all_goals go_ret3
 all_goals (exact ⟨sE, bI⟩)

/-! ### impl_MainCorner: function 19 -/
def impl_MainCorner.f (k : Nat) (a0_0 : Int) (a0_1 : Int) : Option (Int × Int × Bool) := (impl_IsTable.f a0_0 a0_1).bind fun t417 => (if t417 = true then ((impl_lcm.f k a0_0 a0_1).bind fun t418 => (if a0_0 = 0 then (none) else (if a0_1 = 0 then (none) else (some (wrap64 ((Int.tmod (wrap64 (Int.tdiv t418 a0_0)) 2) * a0_0), wrap64 ((Int.tmod (wrap64 (Int.tdiv t418 a0_1)) 2) * a0_1), true))))) else (some (0, 0, false)))
theorem impl_MainCorner.mono : ∀ a0 a1 k, LeO (impl_MainCorner.f k a0 a1) (impl_MainCorner.f (k + 1) a0 a1) := by
  intro a0 a1 k
  unfold impl_MainCorner.f
  repeat' first
      | (with_reducible exact impl_lcm.mono _ _ _)
      | (with_reducible exact LeO.refl _)
      | (with_reducible exact LeO.none _)
      | (with_reducible refine LeO.ite ?_ ?_)
      | (with_reducible refine LeO.bind ?_ (fun _ => ?_))
      | exact impl_lcm.mono _ _ _
      | exact LeO.none _
      | refine LeO.ite ?_ ?_
      | refine LeO.bind ?_ (fun _ => ?_)
set_option maxHeartbeats 8000000 in
set_option maxRecDepth 100000 in
theorem impl_MainCorner.calls (k : Nat) (a0_0 : Int) (a0_1 : Int) (r1 : Int) (r2 : Int) (r3 : Bool) (w : World) (h : impl_MainCorner.f k a0_0 a0_1 = some (r1, r2, r3)) :
    Calls Tryz.prog 19 #[.agg #[.int .i64 a0_0, .int .i64 a0_1]] w fun e w' => e = .returned (.tuple #[.int .i64 r1, .int .i64 r2, .bool r3]) ∧ Below w.heap.size w w' := by
 have d2 := Tryz.underlying25
 have HB := Aside0.mk (Below.refl w.heap.size w)
 have H := h
 unfold impl_MainCorner.f at H
 clear h
 obtain ⟨d1, A2, H⟩ := bD H
 try dsimp only at H
 by_cases c3 : d1 = true
 ·(
 subst c3
 rw [if_pos rfl] at H
 obtain ⟨c7, A4, H⟩ := bD H
 try dsimp only at H
 by_cases c5 : a0_0 = 0
 ·(
 rw [if_pos c5] at H
 exact absurd H (by simp)
 )
 ·(
 rw [if_neg c5] at H
 obtain ⟨d3, d4⟩ := nE c5
 by_cases c6 : a0_1 = 0
 ·(
 rw [if_pos c6] at H
 exact absurd H (by simp)
 )
 ·(
 rw [if_neg c6] at H
 obtain ⟨d5, d6⟩ := nE c6
 simp only [Option.some.injEq, Prod.mk.injEq] at H
 obtain ⟨rfl, rfl, rfl⟩ := H
 go_enter Tryz.func19, Tryz.ntmps19
 go_wp2_with (first | ((with_reducible refine gate_dst (N := 1) rfl ?_); refine box_ (cs := #[.int .i64 a0_0, .int .i64 a0_1]) (t := 25) fun a4 hg w7 hbox hb => ?_; have a3 := Aside0.mk (hbox); have a5 := bS HB hg; have a6 := bS HB hg; replace HB := Aside0.mk (below_step bB hb); clear hb hbox hg; obtain ⟨b9, c0, c2, c4⟩ := cf2 a3) | (go_at_call 30; (with_reducible refine (impl_IsTable.calls a0_0 a0_1 true _ A2.out).mono ?_); rintro e w9 ⟨rfl, hb⟩; replace a3 := bQ a3 hb; replace HB := Aside0.mk (below_step bB hb); (try clear hb); obtain ⟨a7, a8, a9, b0⟩ := cf2 a3) | (go_at_call 45; (with_reducible refine (impl_lcm.calls k a0_0 a0_1 c7 _ A4.out).mono ?_); rintro e c8 ⟨rfl, hb⟩; replace a3 := bQ a3 hb; replace HB := Aside0.mk (below_step bB hb); (try clear hb); obtain ⟨b1, b2, b3, b4⟩ := cf2 a3))
 repeat (go_quiet (first | ((with_reducible refine gate_dst (N := 1) rfl ?_); refine box_ (cs := #[.int .i64 a0_0, .int .i64 a0_1]) (t := 25) fun a4 hg w7 hbox hb => ?_; have a3 := Aside0.mk (hbox); have a5 := bS HB hg; have a6 := bS HB hg; replace HB := Aside0.mk (below_step bB hb); clear hb hbox hg; obtain ⟨b9, c0, c2, c4⟩ := cf2 a3) | (go_at_call 30; (with_reducible refine (impl_IsTable.calls a0_0 a0_1 true _ A2.out).mono ?_); rintro e w9 ⟨rfl, hb⟩; replace a3 := bQ a3 hb; replace HB := Aside0.mk (below_step bB hb); (try clear hb); obtain ⟨a7, a8, a9, b0⟩ := cf2 a3) | (go_at_call 45; (with_reducible refine (impl_lcm.calls k a0_0 a0_1 c7 _ A4.out).mono ?_); rintro e c8 ⟨rfl, hb⟩; replace a3 := bQ a3 hb; replace HB := Aside0.mk (below_step bB hb); (try clear hb); obtain ⟨b1, b2, b3, b4⟩ := cf2 a3)); try go_wp2_with (first | ((with_reducible refine gate_dst (N := 1) rfl ?_); refine box_ (cs := #[.int .i64 a0_0, .int .i64 a0_1]) (t := 25) fun a4 hg w7 hbox hb => ?_; have a3 := Aside0.mk (hbox); have a5 := bS HB hg; have a6 := bS HB hg; replace HB := Aside0.mk (below_step bB hb); clear hb hbox hg; obtain ⟨b9, c0, c2, c4⟩ := cf2 a3) | (go_at_call 30; (with_reducible refine (impl_IsTable.calls a0_0 a0_1 true _ A2.out).mono ?_); rintro e w9 ⟨rfl, hb⟩; replace a3 := bQ a3 hb; replace HB := Aside0.mk (below_step bB hb); (try clear hb); obtain ⟨a7, a8, a9, b0⟩ := cf2 a3) | (go_at_call 45; (with_reducible refine (impl_lcm.calls k a0_0 a0_1 c7 _ A4.out).mono ?_); rintro e c8 ⟨rfl, hb⟩; replace a3 := bQ a3 hb; replace HB := Aside0.mk (below_step bB hb); (try clear hb); obtain ⟨b1, b2, b3, b4⟩ := cf2 a3)))
 go_ret3
 exact ⟨sE, bI⟩
 )
 )
 )
 ·(
 replace c3 := Bool.eq_false_iff.mpr c3
 subst c3
 rw [if_neg nft] at H
 simp only [Option.some.injEq, Prod.mk.injEq] at H
 obtain ⟨rfl, rfl, rfl⟩ := H
 go_enter Tryz.func19, Tryz.ntmps19
 go_wp2_with (first | ((with_reducible refine gate_dst (N := 1) rfl ?_); refine box_ (cs := #[.int .i64 a0_0, .int .i64 a0_1]) (t := 25) fun a4 hg c9 hbox hb => ?_; have a3 := Aside0.mk (hbox); have a5 := bS HB hg; have a6 := bS HB hg; replace HB := Aside0.mk (below_step bB hb); clear hb hbox hg; obtain ⟨b5, b6, b7, b8⟩ := cf2 a3) | (go_at_call 30; (with_reducible refine (impl_IsTable.calls a0_0 a0_1 false _ A2.out).mono ?_); rintro e d0 ⟨rfl, hb⟩; replace a3 := bQ a3 hb; replace HB := Aside0.mk (below_step bB hb); (try clear hb)))
 repeat (go_quiet (first | ((with_reducible refine gate_dst (N := 1) rfl ?_); refine box_ (cs := #[.int .i64 a0_0, .int .i64 a0_1]) (t := 25) fun a4 hg c9 hbox hb => ?_; have a3 := Aside0.mk (hbox); have a5 := bS HB hg; have a6 := bS HB hg; replace HB := Aside0.mk (below_step bB hb); clear hb hbox hg; obtain ⟨b5, b6, b7, b8⟩ := cf2 a3) | (go_at_call 30; (with_reducible refine (impl_IsTable.calls a0_0 a0_1 false _ A2.out).mono ?_); rintro e d0 ⟨rfl, hb⟩; replace a3 := bQ a3 hb; replace HB := Aside0.mk (below_step bB hb); (try clear hb))); try go_wp2_with (first | ((with_reducible refine gate_dst (N := 1) rfl ?_); refine box_ (cs := #[.int .i64 a0_0, .int .i64 a0_1]) (t := 25) fun a4 hg c9 hbox hb => ?_; have a3 := Aside0.mk (hbox); have a5 := bS HB hg; have a6 := bS HB hg; replace HB := Aside0.mk (below_step bB hb); clear hb hbox hg; obtain ⟨b5, b6, b7, b8⟩ := cf2 a3) | (go_at_call 30; (with_reducible refine (impl_IsTable.calls a0_0 a0_1 false _ A2.out).mono ?_); rintro e d0 ⟨rfl, hb⟩; replace a3 := bQ a3 hb; replace HB := Aside0.mk (below_step bB hb); (try clear hb))))
 go_ret3
 exact ⟨sE, bI⟩
 )

/-! ### spec_MainCorner: function 20 -/
def spec_MainCorner.f (k : Nat) (a0_0 : Int) (a0_1 : Int) : Option (Int × Int × Bool) := (spec_beTable.f a0_0 a0_1).bind fun t420 => (if t420 = true then ((spec_beMain.f k a0_0 a0_1).bind fun bt421 => (some (wrap64 ((Int.tmod bt421.2 2) * a0_0), wrap64 ((Int.tmod bt421.1 2) * a0_1), true))) else (some (0, 0, false)))
theorem spec_MainCorner.mono : ∀ a0 a1 k, LeO (spec_MainCorner.f k a0 a1) (spec_MainCorner.f (k + 1) a0 a1) := by
  intro a0 a1 k
  unfold spec_MainCorner.f
  repeat' first
      | (with_reducible exact spec_beMain.mono _ _ _)
      | (with_reducible exact LeO.refl _)
      | (with_reducible exact LeO.none _)
      | (with_reducible refine LeO.ite ?_ ?_)
      | (with_reducible refine LeO.bind ?_ (fun _ => ?_))
      | exact spec_beMain.mono _ _ _
      | exact LeO.none _
      | refine LeO.ite ?_ ?_
      | refine LeO.bind ?_ (fun _ => ?_)
set_option maxHeartbeats 8000000 in
set_option maxRecDepth 100000 in
theorem spec_MainCorner.calls (k : Nat) (a0_0 : Int) (a0_1 : Int) (r1 : Int) (r2 : Int) (r3 : Bool) (w : World) (h : spec_MainCorner.f k a0_0 a0_1 = some (r1, r2, r3)) :
    Calls Tryz.prog 20 #[.agg #[.int .i64 a0_0, .int .i64 a0_1]] w fun e w' => e = .returned (.tuple #[.int .i64 r1, .int .i64 r2, .bool r3]) ∧ Below w.heap.size w w' := by
 have d0 := Tryz.underlying25
 have HB := Aside0.mk (Below.refl w.heap.size w)
 have H := h
 unfold spec_MainCorner.f at H
 clear h
 obtain ⟨c9, A2, H⟩ := bD H
 try dsimp only at H
 by_cases c3 : c9 = true
 ·(
 subst c3
 rw [if_pos rfl] at H
 obtain ⟨⟨c5, c6⟩, A4, H⟩ := bD H
 try dsimp only at H
 simp only [Option.some.injEq, Prod.mk.injEq] at H
 obtain ⟨rfl, rfl, rfl⟩ := H
 go_enter Tryz.func20, Tryz.ntmps20
 go_wp2_with (first | ((with_reducible refine gate_dst (N := 1) rfl ?_); refine box_ (cs := #[.int .i64 a0_0, .int .i64 a0_1]) (t := 25) fun a4 hg w5 hbox hb => ?_; have a3 := Aside0.mk (hbox); have a5 := bS HB hg; have a6 := bS HB hg; replace HB := Aside0.mk (below_step bB hb); clear hb hbox hg; obtain ⟨b5, b6, b7, b8⟩ := cf2 a3) | (go_at_call 46; (with_reducible refine (spec_beTable.calls a0_0 a0_1 true _ A2.out).mono ?_); rintro e w7 ⟨rfl, hb⟩; replace a3 := bQ a3 hb; replace HB := Aside0.mk (below_step bB hb); (try clear hb); obtain ⟨b9, c0, c2, c4⟩ := cf2 a3) | (go_at_call 47; (with_reducible refine (spec_beMain.calls k a0_0 a0_1 c5 c6 _ A4.out).mono ?_); rintro e w9 ⟨rfl, hb⟩; replace a3 := bQ a3 hb; replace HB := Aside0.mk (below_step bB hb); (try clear hb); obtain ⟨a7, a8, a9, b0⟩ := cf2 a3))
 repeat (go_quiet (first | ((with_reducible refine gate_dst (N := 1) rfl ?_); refine box_ (cs := #[.int .i64 a0_0, .int .i64 a0_1]) (t := 25) fun a4 hg w5 hbox hb => ?_; have a3 := Aside0.mk (hbox); have a5 := bS HB hg; have a6 := bS HB hg; replace HB := Aside0.mk (below_step bB hb); clear hb hbox hg; obtain ⟨b5, b6, b7, b8⟩ := cf2 a3) | (go_at_call 46; (with_reducible refine (spec_beTable.calls a0_0 a0_1 true _ A2.out).mono ?_); rintro e w7 ⟨rfl, hb⟩; replace a3 := bQ a3 hb; replace HB := Aside0.mk (below_step bB hb); (try clear hb); obtain ⟨b9, c0, c2, c4⟩ := cf2 a3) | (go_at_call 47; (with_reducible refine (spec_beMain.calls k a0_0 a0_1 c5 c6 _ A4.out).mono ?_); rintro e w9 ⟨rfl, hb⟩; replace a3 := bQ a3 hb; replace HB := Aside0.mk (below_step bB hb); (try clear hb); obtain ⟨a7, a8, a9, b0⟩ := cf2 a3)); try go_wp2_with (first | ((with_reducible refine gate_dst (N := 1) rfl ?_); refine box_ (cs := #[.int .i64 a0_0, .int .i64 a0_1]) (t := 25) fun a4 hg w5 hbox hb => ?_; have a3 := Aside0.mk (hbox); have a5 := bS HB hg; have a6 := bS HB hg; replace HB := Aside0.mk (below_step bB hb); clear hb hbox hg; obtain ⟨b5, b6, b7, b8⟩ := cf2 a3) | (go_at_call 46; (with_reducible refine (spec_beTable.calls a0_0 a0_1 true _ A2.out).mono ?_); rintro e w7 ⟨rfl, hb⟩; replace a3 := bQ a3 hb; replace HB := Aside0.mk (below_step bB hb); (try clear hb); obtain ⟨b9, c0, c2, c4⟩ := cf2 a3) | (go_at_call 47; (with_reducible refine (spec_beMain.calls k a0_0 a0_1 c5 c6 _ A4.out).mono ?_); rintro e w9 ⟨rfl, hb⟩; replace a3 := bQ a3 hb; replace HB := Aside0.mk (below_step bB hb); (try clear hb); obtain ⟨a7, a8, a9, b0⟩ := cf2 a3)))
 go_ret3
 exact ⟨sE, bI⟩
 )
 ·(
 replace c3 := Bool.eq_false_iff.mpr c3
 subst c3
 rw [if_neg nft] at H
 simp only [Option.some.injEq, Prod.mk.injEq] at H
 obtain ⟨rfl, rfl, rfl⟩ := H
 go_enter Tryz.func20, Tryz.ntmps20
 go_wp2_with (first | ((with_reducible refine gate_dst (N := 1) rfl ?_); refine box_ (cs := #[.int .i64 a0_0, .int .i64 a0_1]) (t := 25) fun a4 hg c7 hbox hb => ?_; have a3 := Aside0.mk (hbox); have a5 := bS HB hg; have a6 := bS HB hg; replace HB := Aside0.mk (below_step bB hb); clear hb hbox hg; obtain ⟨b1, b2, b3, b4⟩ := cf2 a3) | (go_at_call 46; (with_reducible refine (spec_beTable.calls a0_0 a0_1 false _ A2.out).mono ?_); rintro e c8 ⟨rfl, hb⟩; replace a3 := bQ a3 hb; replace HB := Aside0.mk (below_step bB hb); (try clear hb)))
 repeat (go_quiet (first | ((with_reducible refine gate_dst (N := 1) rfl ?_); refine box_ (cs := #[.int .i64 a0_0, .int .i64 a0_1]) (t := 25) fun a4 hg c7 hbox hb => ?_; have a3 := Aside0.mk (hbox); have a5 := bS HB hg; have a6 := bS HB hg; replace HB := Aside0.mk (below_step bB hb); clear hb hbox hg; obtain ⟨b1, b2, b3, b4⟩ := cf2 a3) | (go_at_call 46; (with_reducible refine (spec_beTable.calls a0_0 a0_1 false _ A2.out).mono ?_); rintro e c8 ⟨rfl, hb⟩; replace a3 := bQ a3 hb; replace HB := Aside0.mk (below_step bB hb); (try clear hb))); try go_wp2_with (first | ((with_reducible refine gate_dst (N := 1) rfl ?_); refine box_ (cs := #[.int .i64 a0_0, .int .i64 a0_1]) (t := 25) fun a4 hg c7 hbox hb => ?_; have a3 := Aside0.mk (hbox); have a5 := bS HB hg; have a6 := bS HB hg; replace HB := Aside0.mk (below_step bB hb); clear hb hbox hg; obtain ⟨b1, b2, b3, b4⟩ := cf2 a3) | (go_at_call 46; (with_reducible refine (spec_beTable.calls a0_0 a0_1 false _ A2.out).mono ?_); rintro e c8 ⟨rfl, hb⟩; replace a3 := bQ a3 hb; replace HB := Aside0.mk (below_step bB hb); (try clear hb))))
 go_ret3
 exact ⟨sE, bI⟩
 )

/-! ### strings_Cut: function 58 -/
theorem pt_cell {w w' : World} {p : Addr} {v : Value} (h : Below w.heap.size w w') (hc : w.cell? p = some v) : w'.cell? p = some v := by
  have hb := World.block_lt_of_cell? _ _ hc
  have e := h.block _ hb
  unfold World.cell? at hc ⊢
  rw [e]
  exact hc
theorem pt_pow : Tryz.prog.globalNamed "internal/strconv.uint64pow10" = some 3 := by kernel_rfl
/-- What the library's variables hold, as far as texts and numbers ask. -/
structure PtW (w : World) : Prop where
  max : ∃ m, w.cell? ⟨0, 0, none⟩ = some (.int .i64 m)
  syn : ∃ ev, w.cell? ⟨1, 0, none⟩ = some ev ∧ (ev = .nilIface ∨ ∃ te pe, ev = .iface te pe)
  rng : ∃ ev, w.cell? ⟨2, 0, none⟩ = some ev ∧ (ev = .nilIface ∨ ∃ te pe, ev = .iface te pe)
  tab : Lib.TabIs Tryz.prog w "internal/strconv.uint64pow10" .u64 Lib.pow10Tab
theorem PtW.below {w w' : World} (h : PtW w) (k : Below w.heap.size w w') : PtW w' := by
  obtain ⟨m, hm⟩ := h.max
  obtain ⟨e1, h1, g1⟩ := h.syn
  obtain ⟨e2, h2, g2⟩ := h.rng
  exact ⟨⟨m, pt_cell k hm⟩, ⟨e1, pt_cell k h1, g1⟩, ⟨e2, pt_cell k h2, g2⟩, Go.Joins.var_stays pt_pow h.tab k (Nat.le_refl _)⟩
def strings_Cut.f (a0 : ByteArray) (a1 : ByteArray) : Option (ByteArray × ByteArray × Bool) := if a0.size < 4294967281 then some (⟨(Lib.cut a0.data.toList a1.data.toList).1.toArray⟩, ⟨(Lib.cut a0.data.toList a1.data.toList).2.1.toArray⟩, (Lib.cut a0.data.toList a1.data.toList).2.2) else none
theorem strings_Cut.calls (a0 : ByteArray) (a1 : ByteArray) (r1 : ByteArray) (r2 : ByteArray) (r3 : Bool) (w : World) (h : strings_Cut.f a0 a1 = some (r1, r2, r3)) (hw : PtW w) :
    Calls Tryz.prog 58 #[.string a0, .string a1] w fun e w' => e = .returned (.tuple #[.string r1, .string r2, .bool r3]) ∧ Below w.heap.size w w' := by
  unfold strings_Cut.f at h
  by_cases c : a0.size < 4294967281
  · rw [if_pos c] at h
    obtain ⟨rfl, rfl, rfl⟩ : _ ∧ _ ∧ _ := by simpa only [Option.some.injEq, Prod.mk.injEq] using h
    obtain ⟨m, hm⟩ := hw.max
    refine (Tryz.strings_Cut a0 a1 m w c hm).mono ?_
    rintro e w' ⟨rfl, k, rfl⟩
    exact ⟨rfl, pw_below_drewN (Below.refl _ _) k⟩
  · rw [if_neg c] at h
    cases h

/-! ### strconv_Itoa: function 72 -/
def strconv_Itoa.f (a0 : Int) : Option ByteArray := if -9223372036854775808 ≤ a0 ∧ a0 ≤ 9223372036854775807 then some ⟨(Lib.itoa a0).toArray⟩ else none
theorem strconv_Itoa.calls (a0 : Int) (r : ByteArray) (w : World) (h : strconv_Itoa.f a0 = some r) (hw : PtW w) :
    Calls Tryz.prog 72 #[.int .i64 a0] w fun e w' => e = .returned (.string r) ∧ Below w.heap.size w w' := by
  unfold strconv_Itoa.f at h
  by_cases c : -9223372036854775808 ≤ a0 ∧ a0 ≤ 9223372036854775807
  · rw [if_pos c] at h
    obtain rfl := Option.some.inj h
    refine (Tryz.strconv_Itoa a0 c.1 c.2 w hw.tab).mono ?_
    rintro e w1 ⟨rfl, k, os, rfl⟩
    exact ⟨rfl, Lib.below_grow _ _ (Nat.le_refl _) _ _⟩
  · rw [if_neg c] at h
    cases h

/-! ### impl_text: function 48 -/
def impl_text.f (a0 : Int) : Option (ByteArray) := (strconv_Itoa.f a0).bind fun t423 => (some t423)
set_option maxHeartbeats 8000000 in
set_option maxRecDepth 100000 in
theorem impl_text.calls (a0 : Int) (r : ByteArray) (w : World) (h : impl_text.f a0 = some r) (hw_ : PtW w) :
    Calls Tryz.prog 48 #[.int .i64 a0] w fun e w' => e = .returned (.string r) ∧ Below w.heap.size w w' := by
 have HM := Aside0.mk hw_
 clear hw_
 have HB := Aside0.mk (Below.refl w.heap.size w)
 have H := h
 unfold impl_text.f at H
 clear h
 obtain ⟨a3, A2, H⟩ := bD H
 try dsimp only at H
 obtain rfl := Option.some.inj H
 go_enter Tryz.func48, Tryz.ntmps48
 go_wp2_with (first | ((with_reducible refine gate_callee (f := 72) rfl ?_); refine goesL_ (some 4) rfl rfl Tryz.func72 kr rfl #[.int .i64 a0] rfl sM ?_; (with_reducible refine (strconv_Itoa.calls a0 a3 _ A2.out (HM.out.below (by repeat (first | (with_reducible first | exact HB.out | apply below_alloc | apply pw_below_drewN | apply below_drew1 | refine below_set ?_ (Aside0.out (by assumption))) | exact HB.out)))).mono ?_); rintro e w3 ⟨rfl, hb⟩; refine ⟨_, rfl, ?_⟩; replace HB := Aside0.mk (below_step bB hb); (try clear hb)))
 go_ret
 exact ⟨sE, bI⟩

end Go.Proofs.YtlmiaadpnbehgaaGreatDoor.PFnBeamsEnd
