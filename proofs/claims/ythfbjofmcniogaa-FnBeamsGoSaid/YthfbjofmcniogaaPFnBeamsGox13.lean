-- Written by xprint.py, a program of this session, for this seat; Lean checks it.
import Derived.Test.YthfbjofmcniogaaVN
import Derived.Test.YthfbjofmcniogaaPFnBeamsGox0
import Derived.Test.YthfbjofmcniogaaPFnBeamsGox2
import Derived.Test.YthfbjofmcniogaaPFnBeamsGox5
import Derived.Test.YthfbjofmcniogaaPFnBeamsGox6
import Derived.Test.YthfbjofmcniogaaPFnBeamsGox8
import Derived.Test.YthfbjofmcniogaaPFnBeamsGox12
namespace Go.Proofs.Ythfbjofmcniogaa.PFnBeamsGo
open Go.Proofs.YthfbjofmcniogaaV Go.RowKit Go.Proofs.YthfbjofmcniogaaW.PrintWords Go.Proofs.YthfbjofmcniogaaW.PrintLast Go.Proofs.YthfbjofmcniogaaW.PrintMore
attribute [local go_sem] max2_int min2_int max_two min_two max_three min_three max_four min_four   -- for this text's walks alone
set_option linter.unusedVariables false
set_option linter.unusedSimpArgs false

/-! ### impl_BeamAfter: function 26 -/
/-- What the closure has kept behind k visits. -/
structure fwOut (wb : World) (cb : Nat) (v : Nat → S30) (k : Nat) (wr : World) : Prop where
  old : FwOld (fun i => i = cb) wb wr
  cell : wr.heap[cb]? = some (.cells #[.int .i64 (v k).f0, .int .i64 (v k).f1, .bool (v k).f2, .bool (v k).f3] 30 (0, 0))
def fwPrev (W H : Int) (b : S30) : Nat → S30
  | 0 => b
  | k + 1 => (fwSt W H b k).1
def impl_BeamAfter.f (a0_0 : Int) (a0_1 : Int) (a1_0 : Int) (a1_1 : Int) (a1_2 : Bool) (a1_3 : Bool) (a2 : Int) : Option (Int × Int × Bool × Bool × Bool) :=
  (impl_IsBeam.f a0_0 a0_1 a1_0 a1_1 a1_2 a1_3).bind fun t1 => if t1 = true then ((impl_isSteps.f a2).bind fun t2 => if t2 = true then
    some ((fwSt a0_0 a0_1 ⟨a1_0, a1_1, a1_2, a1_3⟩ (fwN a0_0 a0_1 ⟨a1_0, a1_1, a1_2, a1_3⟩ a2 fun _ => false)).1.f0, (fwSt a0_0 a0_1 ⟨a1_0, a1_1, a1_2, a1_3⟩ (fwN a0_0 a0_1 ⟨a1_0, a1_1, a1_2, a1_3⟩ a2 fun _ => false)).1.f1, (fwSt a0_0 a0_1 ⟨a1_0, a1_1, a1_2, a1_3⟩ (fwN a0_0 a0_1 ⟨a1_0, a1_1, a1_2, a1_3⟩ a2 fun _ => false)).1.f2, (fwSt a0_0 a0_1 ⟨a1_0, a1_1, a1_2, a1_3⟩ (fwN a0_0 a0_1 ⟨a1_0, a1_1, a1_2, a1_3⟩ a2 fun _ => false)).1.f3, true)
    else some (0, 0, false, false, false)) else some (0, 0, false, false, false)
set_option maxHeartbeats 4000000 in
theorem impl_BeamAfter.one (cb : Nat) (k x y x1 y1 : Int) (r u r1 u1 : Bool) (s : ByteArray) (w : World) (hlt : cb < w.heap.size) (hc : w.heap[cb]? = some (.cells #[.int .i64 x1, .int .i64 y1, .bool r1, .bool u1] 30 (0, 0))) :
    Calls Try.prog 57 #[.int .i64 k, .agg #[.int .i64 x, .int .i64 y, .bool r, .bool u], .string s, .pointer (some ⟨cb, 0, none⟩)] w fun e w' => e = .returned (.bool false) ∧ w'.heap[cb]? = some (.cells #[.int .i64 x, .int .i64 y, .bool r, .bool u] 30 (0, 0)) ∧ FwMv cb w w' := by
  have c0 := (fw_cells hc 0).1
  have c1 := (fw_cells hc 1).1
  have c2 := (fw_cells hc 2).1
  have c3 := (fw_cells hc 3).1
  have f0 := (fw_cells hc 0).2
  have f1 := (fw_cells hc 1).2
  have f2 := (fw_cells hc 2).2
  have f3 := (fw_cells hc 3).2
  simp at c0 c1 c2 c3
  have HC := Aside0.mk hc
  clear hc
  go_enter Try.func57, Try.ntmps57
  go_wp2
  go_ret
  have hs := fw_store (a' := .int .i64 x) (b' := .int .i64 y) (c' := .bool r) (d' := .bool u) HC.out
  have hb := below_alloc (Below.refl _ ((((w.setCell ⟨cb, 0, none⟩ (.int .i64 x)).setCell ⟨cb, 1, none⟩ (.int .i64 y)).setCell ⟨cb, 2, none⟩ (.bool r)).setCell ⟨cb, 3, none⟩ (.bool u))) (.cells #[.int .i64 x, .int .i64 y, .bool r, .bool u] 30 (0, 0))
  exact ⟨rfl, (hb.block cb (Nat.lt_of_lt_of_le hlt hs.2.size)).trans hs.1, hs.2.trans (FwMv.of_below hb)⟩
theorem within_some (x a b : Int) : ∃ r, impl_within.f x a b = some r := by unfold impl_within.f; split <;> exact ⟨_, rfl⟩
theorem IsBeam_some (W H x y : Int) (r u : Bool) : ∃ b, impl_IsBeam.f W H x y r u = some b := by
  obtain ⟨a1, h1⟩ := within_some W 1 60
  obtain ⟨a2, h2⟩ := within_some H 1 60
  obtain ⟨a3, h3⟩ := within_some x 0 W
  obtain ⟨a4, h4⟩ := within_some y 0 H
  unfold impl_IsBeam.f impl_IsTable.f
  cases a1 <;> cases a2 <;> cases a3 <;> cases a4 <;> simp [h1, h2, h3, h4]
theorem isSteps_some (x : Int) : ∃ b, impl_isSteps.f x = some b := by
  obtain ⟨a1, h1⟩ := within_some x 0 100000
  exact ⟨a1, by simp [impl_isSteps.f, h1]⟩
theorem isSteps_true {x : Int} (h : impl_isSteps.f x = some true) : 0 ≤ x ∧ x ≤ 100000 := by
  unfold impl_isSteps.f impl_within.f at h
  by_cases c : x ≥ 0
  · rw [if_pos c] at h
    simp at h
    omega
  · rw [if_neg c] at h
    simp at h
/-- The way with the closure that keeps the beam. -/
theorem impl_BeamAfter.way (W H x y : Int) (r u : Bool) (steps : Int) (h0 : 0 ≤ steps) (h1 : steps ≤ 100000) (cb : Nat) (wb : World) (hlt : cb < wb.heap.size) (hc : wb.heap[cb]? = some (.cells #[.int .i64 x, .int .i64 y, .bool r, .bool u] 30 (0, 0))) :
    Calls Try.prog 46 #[.agg #[.int .i64 W, .int .i64 H], .agg #[.int .i64 x, .int .i64 y, .bool r, .bool u], .int .i64 steps, .func (.func 57) #[] #[.pointer (some ⟨cb, 0, none⟩)]] wb fun e w' =>
      e = .returned (.tuple #[]) ∧ FwOld (fun i => i = cb) wb w' ∧ w'.heap[cb]? = some (.cells #[.int .i64 (fwSt W H ⟨x, y, r, u⟩ (fwN W H ⟨x, y, r, u⟩ steps fun _ => false)).1.f0, .int .i64 (fwSt W H ⟨x, y, r, u⟩ (fwN W H ⟨x, y, r, u⟩ steps fun _ => false)).1.f1, .bool (fwSt W H ⟨x, y, r, u⟩ (fwN W H ⟨x, y, r, u⟩ steps fun _ => false)).1.f2, .bool (fwSt W H ⟨x, y, r, u⟩ (fwN W H ⟨x, y, r, u⟩ steps fun _ => false)).1.f3] 30 (0, 0)) := by
  obtain ⟨n1, n2, n3⟩ := fwN_is W H ⟨x, y, r, u⟩ steps (fun _ => false) h0
  refine (impl_follow.calls W H x y r u steps 57 #[.pointer (some ⟨cb, 0, none⟩)] (fw_enters Try.func57 kr rfl) (fwOut wb cb (fwPrev W H ⟨x, y, r, u⟩)) (fun _ => false) (fwN W H ⟨x, y, r, u⟩ steps fun _ => false) wb (by omega) n3 n2 ⟨FwOld.refl _ _, hc⟩ ?_ ?_).mono ?_
  · intro k W1 W2 hI hm
    exact ⟨hI.old.mv hm (.inl (by omega)), (hm.block cb (Nat.lt_of_lt_of_le hlt hI.old.size) (by omega)).trans hI.cell⟩
  · intro k Wd hk hz hI
    refine (impl_BeamAfter.one cb (k : Int) _ _ _ _ _ _ _ _ _ Wd (Nat.lt_of_lt_of_le hlt hI.old.size) hI.cell).mono ?_
    rintro e w2 ⟨rfl, hc2, hm2⟩
    exact ⟨rfl, ⟨hI.old.mv hm2 (.inr rfl), hc2⟩, ⟨hm2.size, hm2.block _ (by omega) (by omega), hm2.block _ hz (by omega)⟩⟩
  · rintro e w2 ⟨rfl, hI⟩
    exact ⟨rfl, hI.old, hI.cell⟩
set_option maxHeartbeats 8000000 in
set_option maxRecDepth 100000 in
theorem impl_BeamAfter.calls (a0_0 : Int) (a0_1 : Int) (a1_0 : Int) (a1_1 : Int) (a1_2 : Bool) (a1_3 : Bool) (a2 : Int) (r1 : Int) (r2 : Int) (r3 : Bool) (r4 : Bool) (r5 : Bool) (w : World) (h : impl_BeamAfter.f a0_0 a0_1 a1_0 a1_1 a1_2 a1_3 a2 = some (r1, r2, r3, r4, r5)) :
    Calls Try.prog 26 #[.agg #[.int .i64 a0_0, .int .i64 a0_1], .agg #[.int .i64 a1_0, .int .i64 a1_1, .bool a1_2, .bool a1_3], .int .i64 a2] w fun e w' => e = .returned (.tuple #[.agg #[.int .i64 r1, .int .i64 r2, .bool r3, .bool r4], .bool r5]) ∧ Below w.heap.size w w' := by
 obtain ⟨t1, b7⟩ := IsBeam_some a0_0 a0_1 a1_0 a1_1 a1_2 a1_3
 obtain ⟨t2, b0⟩ := isSteps_some a2
 unfold impl_BeamAfter.f at h
 rw [b7, b0] at h
 simp only [Option.bind_some] at h
 have b9 := Aside0.mk b7
 have c9 := Aside0.mk b0
 clear b7
 obtain ⟨p1, p2, p3, ps⟩ := fw_three w (.cells #[.int .i64 a0_0, .int .i64 a0_1] 28 (0, 0)) (.cells #[.int .i64 a1_0, .int .i64 a1_1, .bool a1_2, .bool a1_3] 30 (0, 0)) (.cells #[.int .i64 0, .int .i64 0, .bool false, .bool false] 30 (0, 0))
 have P := Aside0.mk (And.intro p1 (And.intro p2 (And.intro p3 ps)))
 clear p1 p2 p3 ps
 cases t1 with
 | false =>
  simp at h
  obtain ⟨rfl, rfl, rfl, rfl, rfl⟩ := h
  clear b0
  go_enter Try.func26, Try.ntmps26
  go_wp2_with fail
  refine (impl_IsBeam.calls _ _ _ _ _ _ false _ b9.out).mono ?_
  rintro e w1 ⟨rfl, a8⟩
  have hz : w.heap.size + 2 < w1.heap.size := Nat.lt_of_lt_of_le (by rw [P.out.2.2.2]; omega) a8.size
  have q3 := (a8.block (w.heap.size + 2) (by rw [P.out.2.2.2]; omega)).trans P.out.2.2.1
  have b1 := (fw_cells q3 0).1
  have b2 := (fw_cells q3 1).1
  have b3 := (fw_cells q3 2).1
  have b4 := (fw_cells q3 3).1
  have c4 := (fw_cells q3 0).2
  have c5 := (fw_cells q3 1).2
  have c6 := (fw_cells q3 2).2
  have c7 := (fw_cells q3 3).2
  simp at b1 b2 b3 b4
  have b6 := Aside0.mk (below_step (below_alloc (below_alloc (below_alloc (Below.refl _ _) _) _) _) a8)
  have HS := Aside0.mk (fw_store (a' := .int .i64 0) (b' := .int .i64 0) (c' := .bool false) (d' := .bool false) q3)
  clear a8 q3
  go_wp2_with fail
  refine bodyPost_ret (results_ct rfl _ _ (w.heap.size + 2) 30 #[.int .i64 0, .int .i64 0, .bool false, .bool false] (0, 0) _ rfl HS.out.1 Try.underlying30 rfl kr) rfl ⟨rfl, ?_⟩
  exact FwOld.below (S := fun i => i = w.heap.size + 2) b6.out ((FwOld.refl _ _).mv HS.out.2 (.inr rfl)) (fun i hi => by omega)
 | true =>
  go_enter Try.func26, Try.ntmps26
  go_wp2_with fail
  refine (impl_IsBeam.calls _ _ _ _ _ _ true _ b9.out).mono ?_
  rintro e w1 ⟨rfl, a8⟩
  have hz : w.heap.size + 2 < w1.heap.size := Nat.lt_of_lt_of_le (by rw [P.out.2.2.2]; omega) a8.size
  have q1 := (a8.block w.heap.size (by rw [P.out.2.2.2]; omega)).trans P.out.1
  have q2 := (a8.block (w.heap.size + 1) (by rw [P.out.2.2.2]; omega)).trans P.out.2.1
  have q3 := (a8.block (w.heap.size + 2) (by rw [P.out.2.2.2]; omega)).trans P.out.2.2.1
  have b6 := Aside0.mk (below_step (below_alloc (below_alloc (below_alloc (Below.refl _ _) _) _) _) a8)
  have Q1 := Aside0.mk (And.intro q1 (And.intro q2 q3))
  clear a8 q1 q2 q3 P
  go_wp2_with fail
  refine (impl_isSteps.calls _ t2 _ c9.out).mono ?_
  rintro e w2 ⟨rfl, hd⟩
  have a9 : Below w1.heap.size w1 w2 := by
   obtain ⟨n, rfl⟩ := hd
   exact pw_below_drewN (Below.refl _ _) n
  have d0 : w.heap.size + 2 < w2.heap.size := Nat.lt_of_lt_of_le hz a9.size
  have q1 := (a9.block w.heap.size (by omega)).trans Q1.out.1
  have q2 := (a9.block (w.heap.size + 1) (by omega)).trans Q1.out.2.1
  have q3 := (a9.block (w.heap.size + 2) (by omega)).trans Q1.out.2.2
  have b8 := Aside0.mk (below_step b6.out a9)
  clear hd a9 b6 Q1 hz
  cases t2 with
  | false =>
   simp at h
   obtain ⟨rfl, rfl, rfl, rfl, rfl⟩ := h
   have b1 := (fw_cells q3 0).1
   have b2 := (fw_cells q3 1).1
   have b3 := (fw_cells q3 2).1
   have b4 := (fw_cells q3 3).1
   have c4 := (fw_cells q3 0).2
   have c5 := (fw_cells q3 1).2
   have c6 := (fw_cells q3 2).2
   have c7 := (fw_cells q3 3).2
   simp at b1 b2 b3 b4
   have HS := Aside0.mk (fw_store (a' := .int .i64 0) (b' := .int .i64 0) (c' := .bool false) (d' := .bool false) q3)
   clear q1 q2 q3
   go_wp2_with fail
   refine bodyPost_ret (results_ct rfl _ _ (w.heap.size + 2) 30 #[.int .i64 0, .int .i64 0, .bool false, .bool false] (0, 0) _ rfl HS.out.1 Try.underlying30 rfl kr) rfl ⟨rfl, ?_⟩
   exact FwOld.below (S := fun i => i = w.heap.size + 2) b8.out ((FwOld.refl _ _).mv HS.out.2 (.inr rfl)) (fun i hi => by omega)
  | true =>
   have hs := isSteps_true b0
   have HH := Aside0.mk h
   clear h b0
   have d1 := (fw_cells q2 0).1
   have d2 := (fw_cells q2 1).1
   have d6 := (fw_cells q2 2).1
   have d7 := (fw_cells q2 3).1
   simp at d1 d2 d6 d7
   have hal := below_alloc (Below.refl _ w2) (.cells #[.int .i64 a1_0, .int .i64 a1_1, .bool a1_2, .bool a1_3] 30 (0, 0))
   have a1 := (hal.block _ (by omega)).trans q1
   have b5 := (hal.block _ (by omega)).trans q2
   have a3 := (hal.block _ (by omega)).trans q3
   have a4 : (w2.alloc (.cells #[.int .i64 a1_0, .int .i64 a1_1, .bool a1_2, .bool a1_3] 30 (0, 0))).heap[w2.heap.size]? = some (.cells #[.int .i64 a1_0, .int .i64 a1_1, .bool a1_2, .bool a1_3] 30 (0, 0)) := by
    show (w2.heap.push _)[w2.heap.size]? = _
    rw [Array.getElem?_push, if_pos rfl]
   have a5 : w2.heap.size < (w2.alloc (.cells #[.int .i64 a1_0, .int .i64 a1_1, .bool a1_2, .bool a1_3] 30 (0, 0))).heap.size := by
    show _ < (w2.heap.push _).size
    simp
   have d8 := (fw_cells a1 0).1
   have d9 := (fw_cells a1 1).1
   have e0 := (fw_cells b5 0).1
   have e2 := (fw_cells b5 1).1
   have e3 := (fw_cells b5 2).1
   have e4 := (fw_cells b5 3).1
   simp at d8 d9 e0 e2 e3 e4
   have HWAY := Aside0.mk (impl_BeamAfter.way a0_0 a0_1 a1_0 a1_1 a1_2 a1_3 a2 hs.1 hs.2 w2.heap.size _ a5 a4)
   have Q3 := Aside0.mk (And.intro a3 hal)
   clear q1 q2 q3 a1 b5 a3 a4 a5 hal
   go_wp2_with fail
   refine HWAY.out.mono ?_
   rintro e w3 ⟨rfl, ho, hc⟩
   simp at HH
   obtain ⟨s, hs⟩ : ∃ s, (fwSt a0_0 a0_1 ⟨a1_0, a1_1, a1_2, a1_3⟩ (fwN a0_0 a0_1 ⟨a1_0, a1_1, a1_2, a1_3⟩ a2 fun _ => false)).1 = s := ⟨_, rfl⟩
   rw [hs] at hc
   have c8 := HH.out
   rw [hs] at c8
   obtain ⟨rfl, rfl, rfl, rfl, rfl⟩ := c8
   clear HH hs
   have hal := Q3.out.2
   have q3 := (ho.block (w.heap.size + 2) (Nat.lt_of_lt_of_le d0 hal.size) (by omega)).trans Q3.out.1
   have b1 := (fw_cells q3 0).1
   have b2 := (fw_cells q3 1).1
   have b3 := (fw_cells q3 2).1
   have b4 := (fw_cells q3 3).1
   have c4 := (fw_cells q3 0).2
   have c5 := (fw_cells q3 1).2
   have c6 := (fw_cells q3 2).2
   have c7 := (fw_cells q3 3).2
   have e5 := (fw_cells hc 0).1
   have e6 := (fw_cells hc 1).1
   have e7 := (fw_cells hc 2).1
   have e8 := (fw_cells hc 3).1
   simp at b1 b2 b3 b4 e5 e6 e7 e8
   have HS := Aside0.mk (fw_store (a' := .int .i64 s.f0) (b' := .int .i64 s.f1) (c' := .bool s.f2) (d' := .bool s.f3) q3)
   have e9 := Aside0.mk (FwOld.below (S := fun i => i = w2.heap.size) (below_step b8.out hal) ho (fun i hi => by omega))
   clear q3 hc ho hal HWAY Q3 b8
   go_wp2_with fail
   refine bodyPost_ret (results_ct rfl _ _ (w.heap.size + 2) 30 #[.int .i64 s.f0, .int .i64 s.f1, .bool s.f2, .bool s.f3] (0, 0) _ rfl HS.out.1 Try.underlying30 rfl kr) rfl ⟨rfl, ?_⟩
   exact FwOld.below (S := fun i => i = w.heap.size + 2) e9.out ((FwOld.refl _ _).mv HS.out.2 (.inr rfl)) (fun i hi => by omega)

/-! ### impl_areOn: function 58 -/
def impl_areOn.f (a0_0 : Int) (a0_1 : Int) (a1_0 : Int) (a1_1 : Int) (a1_2 : Bool) (a1_3 : Bool) (a2 : Int) (a3 : Int) : Option (Bool) := (impl_IsBeam.f a0_0 a0_1 a1_0 a1_1 a1_2 a1_3).bind fun t298 => (if t298 = true then ((impl_IsBeam.f a0_0 a0_1 a2 a3 false false).bind fun t299 => (some t299)) else (some false))
set_option maxHeartbeats 8000000 in
set_option maxRecDepth 100000 in
theorem impl_areOn.calls (a0_0 : Int) (a0_1 : Int) (a1_0 : Int) (a1_1 : Int) (a1_2 : Bool) (a1_3 : Bool) (a2 : Int) (a3 : Int) (r : Bool) (w : World) (h : impl_areOn.f a0_0 a0_1 a1_0 a1_1 a1_2 a1_3 a2 a3 = some r) :
    Calls Try.prog 58 #[.agg #[.int .i64 a0_0, .int .i64 a0_1], .agg #[.int .i64 a1_0, .int .i64 a1_1, .bool a1_2, .bool a1_3], .int .i64 a2, .int .i64 a3] w fun e w' => e = .returned (.bool r) ∧ Below w.heap.size w w' := by
 have e2 := Try.underlying28
 have e3 := Try.underlying30
 have HB := Aside0.mk (Below.refl w.heap.size w)
 have H := h
 unfold impl_areOn.f at H
 clear h
 obtain ⟨b2, A5, H⟩ := bD H
 try dsimp only at H
 by_cases c6 : b2 = true
 subst c6
 rw [if_pos rfl] at H
 obtain ⟨b3, A7, H⟩ := bD H
 try dsimp only at H
 obtain rfl := Option.some.inj H
 rotate_left
 replace c6 := Bool.eq_false_iff.mpr c6
 subst c6
 rw [if_neg nft] at H
 obtain rfl := Option.some.inj H
 rotate_left
 all_goals (go_enter Try.func58, Try.ntmps58)
 all_goals (go_wp2_with (first | ((with_reducible refine gate_dst (N := 4) rfl ?_); refine box_ (cs := #[.int .i64 a0_0, .int .i64 a0_1]) (t := 28) fun e4 hg g0 hbox hb => ?_; have a8 := Aside0.mk (hbox); have e5 := bS HB hg; have e6 := bS HB hg; replace HB := Aside0.mk (below_step bB hb); clear hb hbox hg) | ((with_reducible refine gate_dst (N := 5) rfl ?_); refine box_ (cs := #[.int .i64 a1_0, .int .i64 a1_1, .bool a1_2, .bool a1_3]) (t := 30) fun e7 hg g4 hbox hb => ?_; have a9 := Aside0.mk (hbox); have e8 := bS HB hg; have e9 := bS HB hg; have b0 := bL a8 hg; have b1 := bM a8 hg; replace a8 := bQ a8 hb; replace HB := Aside0.mk (below_step bB hb); clear hb hbox hg; have d9 := b0.out; have e0 := b1.out; obtain ⟨b4, b5, b6, b7⟩ := cf2 a8; obtain ⟨b8, b9, c4, c5, c7, c8, c9, d0⟩ := cf4 a9) | ((with_reducible refine gate_callee (f := 22) rfl ?_); refine goesL_ (some 11) rfl rfl Try.func22 kr rfl #[.agg #[.int .i64 a0_0, .int .i64 a0_1], .agg #[.int .i64 a1_0, .int .i64 a1_1, .bool a1_2, .bool a1_3]] rfl sM ?_; (with_reducible refine (impl_IsBeam.calls a0_0 a0_1 a1_0 a1_1 a1_2 a1_3 true _ A5.out).mono ?_); rintro e d8 ⟨rfl, hb⟩; refine ⟨_, rfl, ?_⟩; replace a8 := bQ a8 hb; replace a9 := bQ a9 hb; replace HB := Aside0.mk (below_step bB hb); (try clear hb); obtain ⟨d1, d2, d6, d7⟩ := cf2 a8) | (go_at_call 22; (with_reducible refine (impl_IsBeam.calls a0_0 a0_1 a2 a3 false false b3 _ A7.out).mono ?_); rintro e g5 ⟨rfl, hb⟩; replace a8 := bQ a8 hb; replace a9 := bQ a9 hb; replace HB := Aside0.mk (below_step bB hb); (try clear hb)) | ((with_reducible refine gate_callee (f := 22) rfl ?_); refine goesL_ (some 11) rfl rfl Try.func22 kr rfl #[.agg #[.int .i64 a0_0, .int .i64 a0_1], .agg #[.int .i64 a1_0, .int .i64 a1_1, .bool a1_2, .bool a1_3]] rfl sM ?_; (with_reducible refine (impl_IsBeam.calls a0_0 a0_1 a1_0 a1_1 a1_2 a1_3 false _ A5.out).mono ?_); rintro e d8 ⟨rfl, hb⟩; refine ⟨_, rfl, ?_⟩; replace a8 := bQ a8 hb; replace a9 := bQ a9 hb; replace HB := Aside0.mk (below_step bB hb); (try clear hb))))
 all_goals go_ret
 all_goals (exact ⟨sE, bI⟩)

/-! ### impl_firstPass: function 59 -/
/-- Is the beam behind k steps at this place? -/
def fwHit (W H : Int) (b : S30) (px py : Int) (k : Nat) : Bool := decide ((fwSt W H b k).1.f0 = px) && decide ((fwSt W H b k).1.f1 = py)
def fwPassN (W H : Int) (b : S30) (px py : Int) : Nat := fwN W H b (2 * W * H) (fwHit W H b px py)
def impl_firstPass.f (a0_0 : Int) (a0_1 : Int) (a1_0 : Int) (a1_1 : Int) (a1_2 : Bool) (a1_3 : Bool) (a2 : Int) (a3 : Int) : Option (Int) :=
  if (1 ≤ a0_0 ∧ a0_0 ≤ 60) ∧ 1 ≤ a0_1 ∧ a0_1 ≤ 60 then some (if fwHit a0_0 a0_1 ⟨a1_0, a1_1, a1_2, a1_3⟩ a2 a3 (fwPassN a0_0 a0_1 ⟨a1_0, a1_1, a1_2, a1_3⟩ a2 a3) = true then (fwPassN a0_0 a0_1 ⟨a1_0, a1_1, a1_2, a1_3⟩ a2 a3 : Int) else -1) else none
set_option maxHeartbeats 4000000 in
theorem impl_firstPass.one (cb xb yb : Nat) (k x y px py v : Int) (r u : Bool) (s : ByteArray) (w : World) (hlt : cb < w.heap.size) (hx : xb < w.heap.size) (hy : yb < w.heap.size) (hc : w.heap[cb]? = some (.cells #[.int .i64 v] 3 (0, 0))) (hcx : w.heap[xb]? = some (.cells #[.int .i64 px] 3 (0, 0))) (hcy : w.heap[yb]? = some (.cells #[.int .i64 py] 3 (0, 0))) (hk : 0 ≤ k) (hv : v = -1) :
    Calls Try.prog 78 #[.int .i64 k, .agg #[.int .i64 x, .int .i64 y, .bool r, .bool u], .string s, .pointer (some ⟨xb, 0, none⟩), .pointer (some ⟨yb, 0, none⟩), .pointer (some ⟨cb, 0, none⟩)] w fun e w' => e = .returned (.bool (decide (x = px) && decide (y = py))) ∧ w'.heap[cb]? = some (.cells #[.int .i64 (if (decide (x = px) && decide (y = py)) = true then k else v)] 3 (0, 0)) ∧ FwMv cb w w' := by
  subst hv
  have hal := below_alloc (Below.refl _ w) (.cells #[.int .i64 x, .int .i64 y, .bool r, .bool u] 30 (0, 0))
  have q1 := (hal.block _ hlt).trans hc
  have q2 := (hal.block _ hx).trans hcx
  have q3 := (hal.block _ hy).trans hcy
  have c1 := (fw_cells q1 0).1
  have c2 := (fw_cells q2 0).1
  have c3 := (fw_cells q3 0).1
  have f1 := (fw_cells q1 0).2
  simp at c1 c2 c3
  have HC := Aside0.mk hc
  have HW := Aside0.mk hal
  have HQ := Aside0.mk q1
  clear hc hcx hcy q1 q2 q3 hal
  by_cases h1 : x = px
  · by_cases h2 : y = py
    · subst h1 h2
      have d5 : decide (0 ≤ k) = true := decide_eq_true hk
      have g1 := heap_setCell_same w cb 0 _ 3 (.int .i64 k) HC.out
      have hb2 := below_alloc (Below.refl _ (w.setCell ⟨cb, 0, none⟩ (.int .i64 k))) (.cells #[.int .i64 x, .int .i64 y, .bool r, .bool u] 30 (0, 0))
      have g2 := (hb2.block cb (by simpa using hlt)).trans g1
      have g3 := (fw_cells g2 0).1
      simp at g3
      have G2 := Aside0.mk g2
      have HM := Aside0.mk ((fw_set (w := w) (g := cb) (i := 0) (.int .i64 k)).trans (FwMv.of_below hb2))
      clear g1 hb2 g2
      go_enter Try.func78, Try.ntmps78
      go_wp2
      all_goals go_ret
      all_goals exact ⟨by simp [hk], by simpa using G2.out, HM.out⟩
    · have d3 : (y == py) = false := by simpa using h2
      have d4 : decide (0 ≤ (-1 : Int)) = false := by decide
      subst h1
      go_enter Try.func78, Try.ntmps78
      go_wp2
      all_goals go_ret
      all_goals exact ⟨by simp [h2], by simpa [h2] using HQ.out, FwMv.of_below HW.out⟩
  · have d3 : (x == px) = false := by simpa using h1
    have d4 : decide (0 ≤ (-1 : Int)) = false := by decide
    go_enter Try.func78, Try.ntmps78
    go_wp2
    all_goals go_ret
    all_goals exact ⟨by simp [h1], by simpa [h1] using HQ.out, FwMv.of_below HW.out⟩
theorem fw_five (w : World) (o1 o2 o3 o4 o5 : Obj) : (((((w.alloc o1).alloc o2).alloc o3).alloc o4).alloc o5).heap[w.heap.size]? = some o1 ∧ (((((w.alloc o1).alloc o2).alloc o3).alloc o4).alloc o5).heap[w.heap.size + 1]? = some o2 ∧ (((((w.alloc o1).alloc o2).alloc o3).alloc o4).alloc o5).heap[w.heap.size + 2]? = some o3 ∧ (((((w.alloc o1).alloc o2).alloc o3).alloc o4).alloc o5).heap[w.heap.size + 3]? = some o4 ∧ (((((w.alloc o1).alloc o2).alloc o3).alloc o4).alloc o5).heap[w.heap.size + 4]? = some o5 ∧ (((((w.alloc o1).alloc o2).alloc o3).alloc o4).alloc o5).heap.size = w.heap.size + 5 := by
  obtain ⟨h1, h2, h3, h4⟩ := fw_three w o1 o2 o3
  obtain ⟨k1, k2, k3⟩ := fw_two (((w.alloc o1).alloc o2).alloc o3) o4 o5
  have b := below_alloc (below_alloc (Below.refl _ (((w.alloc o1).alloc o2).alloc o3)) o4) o5
  rw [h4] at k1 k2 k3 b
  exact ⟨(b.block _ (by omega)).trans h1, (b.block _ (by omega)).trans h2, (b.block _ (by omega)).trans h3, k1, k2, k3⟩
structure fpI (wb : World) (cb : Nat) (v : Nat → Int) (k : Nat) (wr : World) : Prop where
  old : FwOld (fun i => i = cb) wb wr
  cell : wr.heap[cb]? = some (.cells #[.int .i64 (v k)] 3 (0, 0))
def fpV (hit : Nat → Bool) : Nat → Int
  | 0 => -1
  | k + 1 => if hit k = true then (k : Int) else -1
theorem fp_bounds {W H : Int} (h : (1 ≤ W ∧ W ≤ 60) ∧ 1 ≤ H ∧ H ≤ 60) : 0 ≤ 2 * W * H ∧ 2 * W * H ≤ 7200 ∧ wrap64 (wrap64 (2 * W) * H) = 2 * W * H := by
  have e1 : wrap64 (2 * W) = 2 * W := by unfold wrap64; omega
  have h1 : (2 * W * H).natAbs ≤ 120 * 60 := by rw [Int.natAbs_mul]; exact Nat.mul_le_mul (by omega) (by omega)
  have h2 : 0 ≤ 2 * W * H := Int.mul_nonneg (by omega) (by omega)
  refine ⟨h2, by omega, ?_⟩
  rw [e1]
  unfold wrap64
  omega
/-- The way with the closure that looks for a place. -/
theorem impl_firstPass.way (W H x y : Int) (r u : Bool) (px py : Int) (hh : (1 ≤ W ∧ W ≤ 60) ∧ 1 ≤ H ∧ H ≤ 60) (cb xb yb : Nat) (wb : World) (hlt : cb < wb.heap.size) (hx : xb < wb.heap.size) (hy : yb < wb.heap.size) (hxc : xb ≠ cb) (hyc : yb ≠ cb) (hc : wb.heap[cb]? = some (.cells #[.int .i64 (-1)] 3 (0, 0))) (hcx : wb.heap[xb]? = some (.cells #[.int .i64 px] 3 (0, 0))) (hcy : wb.heap[yb]? = some (.cells #[.int .i64 py] 3 (0, 0))) :
    Calls Try.prog 46 #[.agg #[.int .i64 W, .int .i64 H], .agg #[.int .i64 x, .int .i64 y, .bool r, .bool u], .int .i64 (2 * W * H), .func (.func 78) #[] #[.pointer (some ⟨xb, 0, none⟩), .pointer (some ⟨yb, 0, none⟩), .pointer (some ⟨cb, 0, none⟩)]] wb fun e w' =>
      e = .returned (.tuple #[]) ∧ FwOld (fun i => i = cb) wb w' ∧ w'.heap[cb]? = some (.cells #[.int .i64 (if fwHit W H ⟨x, y, r, u⟩ px py (fwPassN W H ⟨x, y, r, u⟩ px py) = true then (fwPassN W H ⟨x, y, r, u⟩ px py : Int) else -1)] 3 (0, 0)) := by
  have hb := fp_bounds hh
  obtain ⟨n1, n2, n3⟩ := fwN_is W H ⟨x, y, r, u⟩ (2 * W * H) (fwHit W H ⟨x, y, r, u⟩ px py) hb.1
  refine (impl_follow.calls W H x y r u (2 * W * H) 78 #[.pointer (some ⟨xb, 0, none⟩), .pointer (some ⟨yb, 0, none⟩), .pointer (some ⟨cb, 0, none⟩)] (fw_enters Try.func78 kr rfl) (fpI wb cb (fpV (fwHit W H ⟨x, y, r, u⟩ px py))) (fwHit W H ⟨x, y, r, u⟩ px py) (fwPassN W H ⟨x, y, r, u⟩ px py) wb (by unfold fwPassN; omega) n3 n2 ⟨FwOld.refl _ _, hc⟩ ?_ ?_).mono ?_
  · intro k W1 W2 hI hm
    exact ⟨hI.old.mv hm (.inl (by omega)), (hm.block cb (Nat.lt_of_lt_of_le hlt hI.old.size) (by omega)).trans hI.cell⟩
  · intro k Wd hk hz hI
    have hv : fpV (fwHit W H ⟨x, y, r, u⟩ px py) k = -1 := by
      cases k with
      | zero => rfl
      | succ j =>
        have := (n3 j hk).1
        simp only [fpV, this, Bool.false_eq_true, if_false]
    refine (impl_firstPass.one cb xb yb (k : Int) _ _ px py _ _ _ _ Wd (Nat.lt_of_lt_of_le hlt hI.old.size) (Nat.lt_of_lt_of_le hx hI.old.size) (Nat.lt_of_lt_of_le hy hI.old.size) hI.cell ((hI.old.block xb hx hxc).trans hcx) ((hI.old.block yb hy hyc).trans hcy) (by omega) hv).mono ?_
    rintro e w2 ⟨rfl, hc2, hm2⟩
    rw [hv] at hc2
    exact ⟨rfl, ⟨hI.old.mv hm2 (.inr rfl), hc2⟩, ⟨hm2.size, hm2.block _ (by omega) (by omega), hm2.block _ hz (by omega)⟩⟩
  · rintro e w2 ⟨rfl, hI⟩
    exact ⟨rfl, hI.old, hI.cell⟩
set_option maxHeartbeats 8000000 in
set_option maxRecDepth 100000 in
theorem impl_firstPass.calls (a0_0 : Int) (a0_1 : Int) (a1_0 : Int) (a1_1 : Int) (a1_2 : Bool) (a1_3 : Bool) (a2 : Int) (a3 : Int) (r : Int) (w : World) (h : impl_firstPass.f a0_0 a0_1 a1_0 a1_1 a1_2 a1_3 a2 a3 = some r) :
    Calls Try.prog 59 #[.agg #[.int .i64 a0_0, .int .i64 a0_1], .agg #[.int .i64 a1_0, .int .i64 a1_1, .bool a1_2, .bool a1_3], .int .i64 a2, .int .i64 a3] w fun e w' => e = .returned (.int .i64 r) ∧ Below w.heap.size w w' := by
 unfold impl_firstPass.f at h
 by_cases hh : (1 ≤ a0_0 ∧ a0_0 ≤ 60) ∧ 1 ≤ a0_1 ∧ a0_1 ≤ 60
 ·(
 rw [if_pos hh] at h
 have HR := Aside0.mk (Option.some.inj h)
 have hb := fp_bounds hh
 have HH := Aside0.mk hh
 have HA : Aside0 (impl_around.f a0_0 a0_1 = some (2 * a0_0 * a0_1)) := ⟨by unfold impl_around.f; rw [hb.2.2]⟩
 clear h hh hb
 obtain ⟨p1, p2, p3, p4, p5, ps⟩ := fw_five w (.cells #[.int .i64 a0_0, .int .i64 a0_1] 28 (0, 0)) (.cells #[.int .i64 a1_0, .int .i64 a1_1, .bool a1_2, .bool a1_3] 30 (0, 0)) (.cells #[.int .i64 a2] 3 (0, 0)) (.cells #[.int .i64 a3] 3 (0, 0)) (.cells #[.int .i64 (-1)] 3 (0, 0))
 have HB := Aside0.mk (below_alloc (below_alloc (below_alloc (below_alloc (below_alloc (Below.refl _ w) (.cells #[.int .i64 a0_0, .int .i64 a0_1] 28 (0, 0))) (.cells #[.int .i64 a1_0, .int .i64 a1_1, .bool a1_2, .bool a1_3] 30 (0, 0))) (.cells #[.int .i64 a2] 3 (0, 0))) (.cells #[.int .i64 a3] 3 (0, 0))) (.cells #[.int .i64 (-1)] 3 (0, 0)))
 have P := Aside0.mk (And.intro p1 (And.intro p2 (And.intro p3 (And.intro p4 (And.intro p5 ps)))))
 clear p1 p2 p3 p4 p5 ps
 go_enter Try.func59, Try.ntmps59
 go_wp2_with fail
 have b4 := Try.underlying28
 have b5 := Try.underlying30
 obtain ⟨w5, a9⟩ : ∃ w5, w5 = (((((w.alloc (.cells #[.int .i64 a0_0, .int .i64 a0_1] 28 (0, 0))).alloc (.cells #[.int .i64 a1_0, .int .i64 a1_1, .bool a1_2, .bool a1_3] 30 (0, 0))).alloc (.cells #[.int .i64 a2] 3 (0, 0))).alloc (.cells #[.int .i64 a3] 3 (0, 0))).alloc (.cells #[.int .i64 (-1)] 3 (0, 0))) := ⟨_, rfl⟩
 rw [← a9] at P HB ⊢
 clear a9
 have HD : Aside0 (w5.drew.heap[w.heap.size]? = some (.cells #[.int .i64 a0_0, .int .i64 a0_1] 28 (0, 0)) ∧ w5.drew.heap[w.heap.size + 1]? = some (.cells #[.int .i64 a1_0, .int .i64 a1_1, .bool a1_2, .bool a1_3] 30 (0, 0)) ∧ w5.drew.heap[w.heap.size + 2]? = some (.cells #[.int .i64 a2] 3 (0, 0)) ∧ w5.drew.heap[w.heap.size + 3]? = some (.cells #[.int .i64 a3] 3 (0, 0)) ∧ w5.drew.heap[w.heap.size + 4]? = some (.cells #[.int .i64 (-1)] 3 (0, 0)) ∧ w5.drew.heap.size = w.heap.size + 5) := ⟨P.out⟩
 have HBD := Aside0.mk (below_step HB.out (below_drew (Below.refl _ w5)))
 clear P HB
 have C1 := (fw_cells HD.out.1)
 have C2 := (fw_cells HD.out.2.1)
 refine st0_ 6 [q 4 14, qt 0 10, qt 1 11, qt 2 12, qo 3 13, qo 5 15] (S := fun w' => w'.cell? ⟨w.heap.size, 0, none⟩ = some (.int .i64 a0_0) ∧ w'.cell? ⟨w.heap.size, 1, none⟩ = some (.int .i64 a0_1) ∧ w'.cell? ⟨w.heap.size + 1, 0, none⟩ = some (.int .i64 a1_0) ∧ w'.cell? ⟨w.heap.size + 1, 1, none⟩ = some (.int .i64 a1_1) ∧ w'.cell? ⟨w.heap.size + 1, 2, none⟩ = some (.bool a1_2) ∧ w'.cell? ⟨w.heap.size + 1, 3, none⟩ = some (.bool a1_3)) (ds := [5]) ⟨(C1 0).1, (C1 1).1, (C2 0).1, (C2 1).1, (C2 2).1, (C2 3).1⟩ (fun hHeld HT_ HW_ => ?_)
 clear C1 C2
 generalize w5.drew = b2 at HD HBD hHeld ⊢
 iterate 4 (first | refine pA HT_ ?_ | refine pU HT_ hHeld ?_)
 refine pO HT_ fun K hK => ?_
 refine goes_ Try.func50 kr rfl #[.agg #[.int .i64 a0_0, .int .i64 a0_1]] (by rfl) rfl rfl sM ?_
 with_reducible refine (impl_around.calls a0_0 a0_1 (2 * a0_0 * a0_1) _ HA.out).mono ?_
 rintro e b0 ⟨rfl, hb⟩
 refine ⟨_, rfl, ?_⟩
 have hz : w.heap.size + 4 < b2.heap.size := by rw [HD.out.2.2.2.2.2]; omega
 have q1 := (hb.block w.heap.size (by omega)).trans HD.out.1
 have q2 := (hb.block (w.heap.size + 1) (by omega)).trans HD.out.2.1
 have q3 := (hb.block (w.heap.size + 2) (by omega)).trans HD.out.2.2.1
 have q4 := (hb.block (w.heap.size + 3) (by omega)).trans HD.out.2.2.2.1
 have q5 := (hb.block (w.heap.size + 4) (by omega)).trans HD.out.2.2.2.2.1
 have b3 : w.heap.size + 4 < b0.heap.size := Nat.lt_of_lt_of_le hz hb.size
 have a8 := Aside0.mk (below_step HBD.out hb)
 have HWAY := Aside0.mk (impl_firstPass.way a0_0 a0_1 a1_0 a1_1 a1_2 a1_3 a2 a3 HH.out (w.heap.size + 4) (w.heap.size + 2) (w.heap.size + 3) b0 b3 (by omega) (by omega) (by omega) (by omega) q5 q3 q4)
 refine hK.out _ _ ⟨(fw_cells q1 0).1, (fw_cells q1 1).1, (fw_cells q2 0).1, (fw_cells q2 1).1, (fw_cells q2 2).1, (fw_cells q2 3).1⟩ (fun hHeld => ?_)
 clear hK K q1 q2 q3 q4 q5 HD HBD hb
 refine nP ?_
 refine pL HT_ fun K hK => ?_
 refine goes_ Try.func46 kr rfl #[.agg #[.int .i64 a0_0, .int .i64 a0_1], .agg #[.int .i64 a1_0, .int .i64 a1_1, .bool a1_2, .bool a1_3], .int .i64 (2 * a0_0 * a0_1), .func (.func 78) #[] #[.pointer (some ⟨w.heap.size + 2, 0, none⟩), .pointer (some ⟨w.heap.size + 3, 0, none⟩), .pointer (some ⟨w.heap.size + 4, 0, none⟩)]] (by rfl) rfl rfl sM ?_
 refine HWAY.out.mono ?_
 rintro e b6 ⟨rfl, ho, hc⟩
 refine ⟨_, rfl, ?_⟩
 rw [HR.out] at hc
 have c1 := (fw_cells hc 0).1
 simp at c1
 have b1 := Aside0.mk (FwOld.below (S := fun i => i = w.heap.size + 4) a8.out ho (fun i hi => by omega))
 refine hK.out _ _ ?_
 clear hK K hc ho HWAY a8 hHeld
 refine pD HT_ ?_
 go_wp2_with fail
 go_ret
 exact ⟨rfl, b1.out⟩
 )
 ·(
 rw [if_neg hh] at h
 cases h
 )

/-! ### impl_FirstPass: function 27 -/
def impl_FirstPass.f (a0_0 : Int) (a0_1 : Int) (a1_0 : Int) (a1_1 : Int) (a1_2 : Bool) (a1_3 : Bool) (a2 : Int) (a3 : Int) : Option (Int × Bool) := (impl_areOn.f a0_0 a0_1 a1_0 a1_1 a1_2 a1_3 a2 a3).bind fun t302 => (if t302 = true then ((impl_firstPass.f a0_0 a0_1 a1_0 a1_1 a1_2 a1_3 a2 a3).bind fun t303 => (some (mx 0 t303, decide (t303 ≥ 0)))) else (some (0, false)))
set_option maxHeartbeats 8000000 in
set_option maxRecDepth 100000 in
theorem impl_FirstPass.calls (a0_0 : Int) (a0_1 : Int) (a1_0 : Int) (a1_1 : Int) (a1_2 : Bool) (a1_3 : Bool) (a2 : Int) (a3 : Int) (r1 : Int) (r2 : Bool) (w : World) (h : impl_FirstPass.f a0_0 a0_1 a1_0 a1_1 a1_2 a1_3 a2 a3 = some (r1, r2)) :
    Calls Try.prog 27 #[.agg #[.int .i64 a0_0, .int .i64 a0_1], .agg #[.int .i64 a1_0, .int .i64 a1_1, .bool a1_2, .bool a1_3], .int .i64 a2, .int .i64 a3] w fun e w' => e = .returned (.tuple #[.int .i64 r1, .bool r2]) ∧ Below w.heap.size w w' := by
 have g8 := Try.underlying28
 have g9 := Try.underlying30
 have HB := Aside0.mk (Below.refl w.heap.size w)
 have H := h
 unfold impl_FirstPass.f at H
 clear h
 obtain ⟨b5, A5, H⟩ := bD H
 try dsimp only at H
 by_cases c6 : b5 = true
 subst c6
 rw [if_pos rfl] at H
 obtain ⟨b1, A7, H⟩ := bD H
 try dsimp only at H
 obtain ⟨b4, b0⟩ : ∃ j_ : Int, (mx 0 b1) = j_ := ⟨_, rfl⟩
 (first | rw [b0] at H | simp only [b0] at H)
 (try rw [b0] at A5)
 (try rw [b0] at A7)
 (try (have g0 : 0 ≤ b4 := by (rw [← b0]; unfold mx; (repeat' split) <;> omega)))
 (try (have g4 : 0 ≤ b4 := by omega))
 have g5 : (if 0 < b1 then b1 else 0) = b4 := b0
 simp only [Option.some.injEq, Prod.mk.injEq] at H
 obtain ⟨rfl, rfl⟩ := H
 rotate_left
 replace c6 := Bool.eq_false_iff.mpr c6
 subst c6
 rw [if_neg nft] at H
 simp only [Option.some.injEq, Prod.mk.injEq] at H
 obtain ⟨rfl, rfl⟩ := H
 rotate_left
 all_goals (go_enter Try.func27, Try.ntmps27)
 all_goals (go_wp2_with (first | ((with_reducible refine gate_dst (N := 4) rfl ?_); refine box_ (cs := #[.int .i64 a0_0, .int .i64 a0_1]) (t := 28) fun h5 hg i1 hbox hb => ?_; have a8 := Aside0.mk (hbox); have h6 := bS HB hg; have h7 := bS HB hg; replace HB := Aside0.mk (below_step bB hb); clear hb hbox hg) | ((with_reducible refine gate_dst (N := 5) rfl ?_); refine box_ (cs := #[.int .i64 a1_0, .int .i64 a1_1, .bool a1_2, .bool a1_3]) (t := 30) fun h8 hg i2 hbox hb => ?_; have a9 := Aside0.mk (hbox); have h9 := bS HB hg; have i0 := bS HB hg; have b2 := bL a8 hg; have b3 := bM a8 hg; replace a8 := bQ a8 hb; replace HB := Aside0.mk (below_step bB hb); clear hb hbox hg; have g6 := b2.out; have g7 := b3.out; obtain ⟨b6, b7, b8, b9⟩ := cf2 a8; obtain ⟨c4, c5, c7, c8, c9, d0, d1, d2⟩ := cf4 a9) | ((with_reducible refine gate_callee (f := 58) rfl ?_); refine goesL_ (some 15) rfl rfl Try.func58 kr rfl #[.agg #[.int .i64 a0_0, .int .i64 a0_1], .agg #[.int .i64 a1_0, .int .i64 a1_1, .bool a1_2, .bool a1_3], .int .i64 a2, .int .i64 a3] rfl sM ?_; (with_reducible refine (impl_areOn.calls a0_0 a0_1 a1_0 a1_1 a1_2 a1_3 a2 a3 true _ A5.out).mono ?_); rintro e e9 ⟨rfl, hb⟩; refine ⟨_, rfl, ?_⟩; replace a8 := bQ a8 hb; replace a9 := bQ a9 hb; replace HB := Aside0.mk (below_step bB hb); (try clear hb); obtain ⟨d6, d7, d8, d9⟩ := cf2 a8; obtain ⟨e0, e2, e3, e4, e5, e6, e7, e8⟩ := cf4 a9) | ((with_reducible refine gate_callee (f := 59) rfl ?_); refine goesL_ (some 21) rfl rfl Try.func59 kr rfl #[.agg #[.int .i64 a0_0, .int .i64 a0_1], .agg #[.int .i64 a1_0, .int .i64 a1_1, .bool a1_2, .bool a1_3], .int .i64 a2, .int .i64 a3] rfl sM ?_; (with_reducible refine (impl_firstPass.calls a0_0 a0_1 a1_0 a1_1 a1_2 a1_3 a2 a3 b1 _ A7.out).mono ?_); rintro e i3 ⟨rfl, hb⟩; refine ⟨_, rfl, ?_⟩; replace a8 := bQ a8 hb; replace a9 := bQ a9 hb; replace HB := Aside0.mk (below_step bB hb); (try clear hb)) | ((with_reducible refine gate_callee (f := 58) rfl ?_); refine goesL_ (some 15) rfl rfl Try.func58 kr rfl #[.agg #[.int .i64 a0_0, .int .i64 a0_1], .agg #[.int .i64 a1_0, .int .i64 a1_1, .bool a1_2, .bool a1_3], .int .i64 a2, .int .i64 a3] rfl sM ?_; (with_reducible refine (impl_areOn.calls a0_0 a0_1 a1_0 a1_1 a1_2 a1_3 a2 a3 false _ A5.out).mono ?_); rintro e e9 ⟨rfl, hb⟩; refine ⟨_, rfl, ?_⟩; replace a8 := bQ a8 hb; replace a9 := bQ a9 hb; replace HB := Aside0.mk (below_step bB hb); (try clear hb))))
 all_goals go_ret2
 · exact ⟨by first | rfl | (simp [errW_none, errW_some] <;> rfl) | (simp only [← b0]; first | rfl | (simp [errW_none, errW_some] <;> rfl)) | (simp [*, errW_none, errW_some] <;> rfl), bI⟩
 · exact ⟨sE, bI⟩

/-! ### spec_bePlace: function 60 -/
def spec_bePlace.f (a0_0 : Int) (a0_1 : Int) (a1_0 : Int) (a1_1 : Int) (a1_2 : Bool) (a1_3 : Bool) (a2 : Int) (a3 : Int) : Option (Bool) := (spec_beGood.f a0_0 a0_1 a1_0 a1_1 a1_2 a1_3).bind fun t306 => (if t306 = true then ((spec_l1In.f a2 0 a0_0).bind fun t307 => (if t307 = true then ((spec_l1In.f a3 0 a0_1).bind fun t308 => (some t308)) else (some false))) else (some false))
set_option maxHeartbeats 8000000 in
set_option maxRecDepth 100000 in
theorem spec_bePlace.calls (a0_0 : Int) (a0_1 : Int) (a1_0 : Int) (a1_1 : Int) (a1_2 : Bool) (a1_3 : Bool) (a2 : Int) (a3 : Int) (r : Bool) (w : World) (h : spec_bePlace.f a0_0 a0_1 a1_0 a1_1 a1_2 a1_3 a2 a3 = some r) :
    Calls Try.prog 60 #[.agg #[.int .i64 a0_0, .int .i64 a0_1], .agg #[.int .i64 a1_0, .int .i64 a1_1, .bool a1_2, .bool a1_3], .int .i64 a2, .int .i64 a3] w fun e w' => e = .returned (.bool r) ∧ Below w.heap.size w w' := by
 have e4 := Try.underlying28
 have e5 := Try.underlying30
 have HB := Aside0.mk (Below.refl w.heap.size w)
 have H := h
 unfold spec_bePlace.f at H
 clear h
 obtain ⟨b2, A5, H⟩ := bD H
 try dsimp only at H
 by_cases c6 : b2 = true
 subst c6
 rw [if_pos rfl] at H
 obtain ⟨b3, A7, H⟩ := bD H
 try dsimp only at H
 by_cases c8 : b3 = true
 subst c8
 rw [if_pos rfl] at H
 obtain ⟨b4, A9, H⟩ := bD H
 try dsimp only at H
 obtain rfl := Option.some.inj H
 rotate_left
 replace c8 := Bool.eq_false_iff.mpr c8
 subst c8
 rw [if_neg nft] at H
 obtain rfl := Option.some.inj H
 rotate_left
 replace c6 := Bool.eq_false_iff.mpr c6
 subst c6
 rw [if_neg nft] at H
 obtain rfl := Option.some.inj H
 rotate_left
 all_goals (go_enter Try.func60, Try.ntmps60)
 all_goals (go_wp2_with (first | ((with_reducible refine gate_dst (N := 4) rfl ?_); refine box_ (cs := #[.int .i64 a0_0, .int .i64 a0_1]) (t := 28) fun e6 hg g5 hbox hb => ?_; have a8 := Aside0.mk (hbox); have e7 := bS HB hg; have e8 := bS HB hg; replace HB := Aside0.mk (below_step bB hb); clear hb hbox hg) | ((with_reducible refine gate_dst (N := 5) rfl ?_); refine box_ (cs := #[.int .i64 a1_0, .int .i64 a1_1, .bool a1_2, .bool a1_3]) (t := 30) fun e9 hg g6 hbox hb => ?_; have a9 := Aside0.mk (hbox); have g0 := bS HB hg; have g4 := bS HB hg; have b0 := bL a8 hg; have b1 := bM a8 hg; replace a8 := bQ a8 hb; replace HB := Aside0.mk (below_step bB hb); clear hb hbox hg; have e2 := b0.out; have e3 := b1.out; obtain ⟨b5, b6, b7, b8⟩ := cf2 a8; obtain ⟨b9, c4, c5, c7, c9, d0, d1, d2⟩ := cf4 a9) | ((with_reducible refine gate_callee (f := 38) rfl ?_); refine goesL_ (some 11) rfl rfl Try.func38 kr rfl #[.agg #[.int .i64 a0_0, .int .i64 a0_1], .agg #[.int .i64 a1_0, .int .i64 a1_1, .bool a1_2, .bool a1_3]] rfl sM ?_; (with_reducible refine (spec_beGood.calls a0_0 a0_1 a1_0 a1_1 a1_2 a1_3 true _ A5.out).mono ?_); rintro e e0 ⟨rfl, hb⟩; refine ⟨_, rfl, ?_⟩; replace a8 := bQ a8 hb; replace a9 := bQ a9 hb; replace HB := Aside0.mk (below_step bB hb); (try clear hb); obtain ⟨d6, d7, d8, d9⟩ := cf2 a8) | (go_at_call 71; (with_reducible refine (spec_l1In.calls a2 0 a0_0 true _ A7.out).mono ?_); rintro e w' ⟨rfl, ⟨nd, rfl⟩⟩) | (go_at_call 71; (with_reducible refine (spec_l1In.calls a3 0 a0_1 b4 _ A9.out).mono ?_); rintro e w' ⟨rfl, ⟨nd, rfl⟩⟩) | (go_at_call 71; (with_reducible refine (spec_l1In.calls a2 0 a0_0 false _ A7.out).mono ?_); rintro e w' ⟨rfl, ⟨nd, rfl⟩⟩) | ((with_reducible refine gate_callee (f := 38) rfl ?_); refine goesL_ (some 11) rfl rfl Try.func38 kr rfl #[.agg #[.int .i64 a0_0, .int .i64 a0_1], .agg #[.int .i64 a1_0, .int .i64 a1_1, .bool a1_2, .bool a1_3]] rfl sM ?_; (with_reducible refine (spec_beGood.calls a0_0 a0_1 a1_0 a1_1 a1_2 a1_3 false _ A5.out).mono ?_); rintro e e0 ⟨rfl, hb⟩; refine ⟨_, rfl, ?_⟩; replace a8 := bQ a8 hb; replace a9 := bQ a9 hb; replace HB := Aside0.mk (below_step bB hb); (try clear hb))))
 all_goals go_ret
 all_goals (exact ⟨sE, bI⟩)

/-! ### spec_bePass: function 61 -/
def spec_bePass.l0 : Nat → Int → Int → List (S30) → Int → Int → Option (Int)
  | 0, _, _, _, _, _ => none
  | k + 1, x2, x3, x21, x22, x23 => if x23 < x22 then (if 0 ≤ x23 then (if x23 < (x21.length : Int) then (if ((rd_T30 x21 x23).f0) = x2 then (if ((rd_T30 x21 x23).f1) = x3 then (some x23) else (spec_bePass.l0 k x2 x3 x21 x22 (wrap64 (x23 + 1)))) else (spec_bePass.l0 k x2 x3 x21 x22 (wrap64 (x23 + 1)))) else (none)) else (none)) else (some (-1))
def spec_bePass.f (k : Nat) (a0_0 : Int) (a0_1 : Int) (a1_0 : Int) (a1_1 : Int) (a1_2 : Bool) (a1_3 : Bool) (a2 : Int) (a3 : Int) : Option (Int) := (spec_beLong.f a0_0 a0_1).bind fun t311 => ((spec_beRun.f k a0_0 a0_1 a1_0 a1_1 a1_2 a1_3 t311).bind fun bt312 => (spec_bePass.l0 k a2 a3 bt312.1 (bt312.1.length : Int) 0))
theorem spec_bePass.mono_l : ∀ k, (∀ y0 y1 y2 y3 y4, LeO (spec_bePass.l0 k y0 y1 y2 y3 y4) (spec_bePass.l0 (k + 1) y0 y1 y2 y3 y4))
  | 0 => fun _ _ _ _ _ r h => by simp [spec_bePass.l0] at h
  | k + 1 => by
    have ih0 := spec_bePass.mono_l k
    · intro y0 y1 y2 y3 y4
      unfold spec_bePass.l0
      repeat' first
      | (with_reducible exact ih0 _ _ _ _ _)
      | (with_reducible exact spec_beRun.mono _ _ _ _ _ _ _ _)
      | (with_reducible exact LeO.refl _)
      | (with_reducible exact LeO.none _)
      | (with_reducible refine LeO.ite ?_ ?_)
      | (with_reducible refine LeO.bind ?_ (fun _ => ?_))
      | exact ih0 _ _ _ _ _
      | exact spec_beRun.mono _ _ _ _ _ _ _ _
      | exact LeO.none _
      | refine LeO.ite ?_ ?_
      | refine LeO.bind ?_ (fun _ => ?_)
theorem spec_bePass.mono : ∀ a0 a1 a2 a3 a4 a5 a6 a7 k, LeO (spec_bePass.f k a0 a1 a2 a3 a4 a5 a6 a7) (spec_bePass.f (k + 1) a0 a1 a2 a3 a4 a5 a6 a7) := by
  intro a0 a1 a2 a3 a4 a5 a6 a7 k
  have ih0 := spec_bePass.mono_l k
  unfold spec_bePass.f
  repeat' first
      | (with_reducible exact ih0 _ _ _ _ _)
      | (with_reducible exact spec_beRun.mono _ _ _ _ _ _ _ _)
      | (with_reducible exact LeO.refl _)
      | (with_reducible exact LeO.none _)
      | (with_reducible refine LeO.ite ?_ ?_)
      | (with_reducible refine LeO.bind ?_ (fun _ => ?_))
      | exact ih0 _ _ _ _ _
      | exact spec_beRun.mono _ _ _ _ _ _ _ _
      | exact LeO.none _
      | refine LeO.ite ?_ ?_
      | refine LeO.bind ?_ (fun _ => ?_)
def spec_bePass.T1 : Bool × List (List Nat × List Nat) := (true, [([], []), ([], []), ([], []), ([2], [2]), ([0, 1, 3, 3], [0, 1, 3]), ([4], [4]), ([5], [5]), ([5], [5]), ([6, 4, 0, 1, 2, 3, 4, 5, 6], [6]), ([7, 8, 0, 1, 2, 3, 4, 5, 6, 7, 8], [7])])
def spec_bePass.B1 : List Nat := [0, 0, 0, 4, 15, 31, 63, 63, 127, 511]
theorem spec_bePass.tab1 : rtab .any (opsOf Try.f61 1) = spec_bePass.T1 := by kernel_rfl
theorem spec_bePass.bits1 : waitsOk spec_bePass.T1.2 spec_bePass.B1 = true := by kernel_rfl
abbrev spec_bePass.pl0 : List (Nat × Option Tmp × Nat) := [qt 0 14, qt 1 15, qt 2 16, qo 3 17, qo 4 18, q 5 13, q 6 19, q 7 20, q 8 9, q 9 10]
set_option maxHeartbeats 8000000 in
set_option maxRecDepth 100000 in
theorem spec_bePass.calls (k : Nat) (a0_0 : Int) (a0_1 : Int) (a1_0 : Int) (a1_1 : Int) (a1_2 : Bool) (a1_3 : Bool) (a2 : Int) (a3 : Int) (r : Int) (w : World) (h : spec_bePass.f k a0_0 a0_1 a1_0 a1_1 a1_2 a1_3 a2 a3 = some r) :
    Calls Try.prog 61 #[.agg #[.int .i64 a0_0, .int .i64 a0_1], .agg #[.int .i64 a1_0, .int .i64 a1_1, .bool a1_2, .bool a1_3], .int .i64 a2, .int .i64 a3] w fun e w' => e = .returned (.int .i64 r) ∧ Below w.heap.size w w' := by
 have m3 := Try.underlying28
 have m4 := Try.underlying30
 have HB := Aside0.mk (Below.refl w.heap.size w)
 have H := h
 unfold spec_bePass.f at H
 clear h
 obtain ⟨d8, A5, H⟩ := bD H
 try dsimp only at H
 obtain ⟨⟨b1, g7⟩, A6, H⟩ := bD H
 try dsimp only at H
 have H' := Aside0.mk H
 clear H
 go_enter Try.func61, Try.ntmps61
 try go_wp2_with (first | ((with_reducible refine gate_dst (N := 4) rfl ?_); refine box_ (cs := #[.int .i64 a0_0, .int .i64 a0_1]) (t := 28) fun d2 hg w7 hbox hb => ?_; have a9 := Aside0.mk (hbox); have k5 := bS HB hg; have k6 := bS HB hg; replace HB := Aside0.mk (below_step bB hb); clear hb hbox hg) | ((with_reducible refine gate_dst (N := 5) rfl ?_); refine box_ (cs := #[.int .i64 a1_0, .int .i64 a1_1, .bool a1_2, .bool a1_3]) (t := 30) fun c4 hg w8 hbox hb => ?_; have b0 := Aside0.mk (hbox); have k7 := bS HB hg; have k8 := bS HB hg; have g4 := bL a9 hg; have g5 := bM a9 hg; replace a9 := bQ a9 hb; replace HB := Aside0.mk (below_step bB hb); clear hb hbox hg))
 replace a9 := bD1 a9
 replace b0 := bD1 b0
 replace HB := Aside0.mk (below_drew1 HB.out)
 refine st_ 10 spec_bePass.pl0 (S := fun w' => w'.cell? ⟨d2, 0, none⟩ = some (.int .i64 a0_0) ∧ w'.cell? ⟨d2, 1, none⟩ = some (.int .i64 a0_1) ∧ w'.cell? ⟨c4, 0, none⟩ = some (.int .i64 a1_0) ∧ w'.cell? ⟨c4, 1, none⟩ = some (.int .i64 a1_1) ∧ w'.cell? ⟨c4, 2, none⟩ = some (.bool a1_2) ∧ w'.cell? ⟨c4, 3, none⟩ = some (.bool a1_3)) (ds := []) spec_bePass.tab1 spec_bePass.bits1 cS (fun hHeld HT_ HW_ => ?_)
 generalize w8.drew = w9 at a9 b0 HB hHeld ⊢
 iterate 3 refine pT HT_ HW_ hHeld ?_
 refine pO HT_ fun K hK => ?_
 refine goes_ Try.func40 kr rfl #[.agg #[.int .i64 a0_0, .int .i64 a0_1]] (by rfl) rfl rfl sM ?_
 with_reducible refine (spec_beLong.calls a0_0 a0_1 d8 _ A5.out).mono ?_
 rintro e m6 ⟨rfl, hb⟩
 refine ⟨_, rfl, ?_⟩
 replace a9 := bQ a9 hb
 replace b0 := bQ b0 hb
 replace HB := Aside0.mk (below_step bB hb)
 try clear hb
 refine hK.out _ _ cS (fun hHeld => ?_)
 clear hK K
 refine nP ?_
 refine pO HT_ fun K hK => ?_
 refine goes_ Try.func39 kr rfl #[.agg #[.int .i64 a0_0, .int .i64 a0_1], .agg #[.int .i64 a1_0, .int .i64 a1_1, .bool a1_2, .bool a1_3], .int .i64 d8] (by rfl) rfl rfl sM ?_
 with_reducible refine (spec_beRun.calls k a0_0 a0_1 a1_0 a1_1 a1_2 a1_3 d8 b1 g7 _ A6.out).mono ?_
 rintro e m7 ⟨m5, rfl, g6, hb⟩
 refine ⟨_, rfl, ?_⟩
 have d9 := Aside0.mk (Kd.R_lower (Kd.R_newB g6 (g := c4) (o := .cells #[.int .i64 a1_0, .int .i64 a1_1, .bool a1_2, .bool a1_3] 30 (0, 0)) (bK b0)) (below_size bB))
 replace a9 := bQ a9 hb
 replace b0 := bQ b0 hb
 replace HB := Aside0.mk (below_step bB hb)
 try clear hb
 (try clear g6)
 refine hK.out _ _ cS (fun hHeld => ?_)
 clear hK K
 refine nP ?_
 iterate 5 refine pA HT_ ?_
 refine pD HT_ ?_
 obtain ⟨g8, g9, h5⟩ := Kd.R_slice d9.out
 subst h5
 try go_wp2
 go_loopg [23] k (fun kq k4 w' => ∃ (a8 : Int), k4 = .int .i64 a8 ∧ Aside0 (spec_bePass.l0 kq a2 a3 b1 (b1.length : Int) a8 = some r) ∧ Aside0 (kq ≤ k) ∧ Aside0 (Kd.R k30 30 w' w.heap.size (fun k_ => k_ ≠ c4) (.slice g8 b1.length g9) b1) ∧ Aside0 (w'.heap[d2]? = some (.cells #[.int .i64 a0_0, .int .i64 a0_1] 28 (0, 0))) ∧ Aside0 (w'.heap[c4]? = some (.cells #[.int .i64 a1_0, .int .i64 a1_1, .bool a1_2, .bool a1_3] 30 (0, 0))) ∧ Aside0 (Below w.heap.size w w'))
 case atStart => exact ⟨(0), sR, H', ⟨Nat.le_refl _⟩, ⟨by (with_reducible repeat (first | apply Kd.R_alloc | apply Kd.R_drewN | apply Kd.R_drew)); exact Kd.R_mono d9.out (fun _ hk => hk.2)⟩, (bA a9), (bA b0), ⟨bB⟩⟩
 case round => (
 clear H'
 obtain ⟨a8, rfl, HA, HK1, b3, a9, b0, HB⟩ := hrel
 cases gk with
 | zero => exact absurd HA.out (by simp [spec_bePass.l0])
 | succ k1 => (
 have H := HA.out
 clear HA
 simp only [spec_bePass.l0] at H
 by_cases c7 : a8 < (b1.length : Int)
 ·(
 rw [if_pos c7] at H
 have e6 : decide (a8 < (b1.length : Int)) = true := decide_eq_true c7
 clear c7
 by_cases e0 : 0 ≤ a8
 ·(
 rw [if_pos e0] at H
 have k9 : decide (0 ≤ a8) = true := decide_eq_true e0
 clear e0
 by_cases e2 : a8 < (b1.length : Int)
 ·(
 rw [if_pos e2] at H
 have l0 : decide (a8 < (b1.length : Int)) = true := decide_eq_true e2
 clear e2
 by_cases d6 : ((rd_T30 b1 a8).f0) = a2
 ·(
 rw [if_pos d6] at H
 obtain ⟨e7, e8⟩ := yE d6
 clear d6
 by_cases d7 : ((rd_T30 b1 a8).f1) = a3
 ·(
 rw [if_pos d7] at H
 obtain ⟨e9, g0⟩ := yE d7
 clear d7
 obtain rfl := Option.some.inj H
 have b8 : 0 ≤ (a8 : Int) := of_decide_eq_true asm
 have b9 : a8 < (b1.length : Int) := of_decide_eq_true asm
 obtain ⟨e3, c6, c8, c9, d0, d1⟩ := at_T30 (Kd.R_reads' b3.out).2.2 a8 b8 b9
 cases c6
 replace b8 := eq_true b8
 replace b9 := eq_true b9
 go_wp2_with (first | ((with_reducible refine gate_dst (N := 12) rfl ?_); refine box_ (cs := #[.int .i64 0, .int .i64 0, .bool false, .bool false]) (t := 30) fun b2 hg m8 hbox hb => ?_; have c5 := Aside0.mk (hbox); have e4 := bS HB hg; have e5 := bS HB hg; have b4 := bL a9 hg; have b5 := bM a9 hg; have b6 := bL b0 hg; have b7 := bM b0 hg; replace b3 := Aside0.mk (Kd.R_below (Kd.R_elderB (oR b3) b2 (Nat.le_of_eq hg.symm)) hb); replace a9 := bQ a9 hb; replace b0 := bQ b0 hb; replace HB := Aside0.mk (below_step bB hb); clear hb hbox hg; have l1 := b5.out; have l2 := b4.out; have l3 := b7.out; have l4 := b6.out; obtain ⟨h6, h7, h8, h9, i0, i1, i2, i3⟩ := cf4 c5))
 go_ret
 exact ⟨sE, bI⟩
 )
 ·(
 rw [if_neg d7] at H
 obtain ⟨e9, g0⟩ := nE d7
 have H' := Aside0.mk H
 clear H
 have b8 : 0 ≤ (a8 : Int) := of_decide_eq_true asm
 have b9 : a8 < (b1.length : Int) := of_decide_eq_true asm
 obtain ⟨e3, c6, c8, c9, d0, d1⟩ := at_T30 (Kd.R_reads' b3.out).2.2 a8 b8 b9
 cases c6
 replace b8 := eq_true b8
 replace b9 := eq_true b9
 go_wp2_with (first | ((with_reducible refine gate_dst (N := 12) rfl ?_); refine box_ (cs := #[.int .i64 0, .int .i64 0, .bool false, .bool false]) (t := 30) fun b2 hg m9 hbox hb => ?_; have c5 := Aside0.mk (hbox); have e4 := bS HB hg; have e5 := bS HB hg; have b4 := bL a9 hg; have b5 := bM a9 hg; have b6 := bL b0 hg; have b7 := bM b0 hg; replace b3 := Aside0.mk (Kd.R_below (Kd.R_elderB (oR b3) b2 (Nat.le_of_eq hg.symm)) hb); replace a9 := bQ a9 hb; replace b0 := bQ b0 hb; replace HB := Aside0.mk (below_step bB hb); clear hb hbox hg; have l5 := b5.out; have l6 := b4.out; have l7 := b7.out; have l8 := b6.out; obtain ⟨i4, i5, i6, i7, i9, j0, j1, j2⟩ := cf4 c5))
 go_roundg k1
 case measure => have := HK1.out; omega
 case rel => exact ⟨(wrap64 (a8 + 1)), sR, H', ⟨by have := HK1.out; omega⟩, ⟨by (with_reducible repeat (first | apply Kd.R_alloc | apply Kd.R_drewN | apply Kd.R_drew)); exact Kd.R_mono (Kd.R_far (p := ⟨b2, 3, none⟩) (Kd.R_far (p := ⟨b2, 2, none⟩) (Kd.R_far (p := ⟨b2, 1, none⟩) (Kd.R_far (p := ⟨b2, 0, none⟩) (Kd.R_mono b3.out (fun k_ hk => (⟨hk, hk.2⟩ : _ ∧ k_ ≠ b2))) (fun _ hk => hk.2) (.int .i64 ((rd_T30 b1 a8).f0))) (fun _ hk => hk.2) (.int .i64 ((rd_T30 b1 a8).f1))) (fun _ hk => hk.2) (.bool ((rd_T30 b1 a8).f2))) (fun _ hk => hk.2) (.bool ((rd_T30 b1 a8).f3))) (fun _ hk => hk.1.1)⟩, (bA a9), (bA b0), ⟨bB⟩⟩
 )
 )
 ·(
 rw [if_neg d6] at H
 obtain ⟨e7, e8⟩ := nE d6
 have H' := Aside0.mk H
 clear H
 have b8 : 0 ≤ (a8 : Int) := of_decide_eq_true asm
 have b9 : a8 < (b1.length : Int) := of_decide_eq_true asm
 obtain ⟨e3, c6, c8, c9, d0, d1⟩ := at_T30 (Kd.R_reads' b3.out).2.2 a8 b8 b9
 cases c6
 replace b8 := eq_true b8
 replace b9 := eq_true b9
 go_wp2_with (first | ((with_reducible refine gate_dst (N := 12) rfl ?_); refine box_ (cs := #[.int .i64 0, .int .i64 0, .bool false, .bool false]) (t := 30) fun b2 hg n0 hbox hb => ?_; have c5 := Aside0.mk (hbox); have e4 := bS HB hg; have e5 := bS HB hg; have b4 := bL a9 hg; have b5 := bM a9 hg; have b6 := bL b0 hg; have b7 := bM b0 hg; replace b3 := Aside0.mk (Kd.R_below (Kd.R_elderB (oR b3) b2 (Nat.le_of_eq hg.symm)) hb); replace a9 := bQ a9 hb; replace b0 := bQ b0 hb; replace HB := Aside0.mk (below_step bB hb); clear hb hbox hg; have l9 := b5.out; have m0 := b4.out; have m1 := b7.out; have m2 := b6.out; obtain ⟨j3, j4, j5, j6, j7, j8, j9, k0⟩ := cf4 c5))
 go_roundg k1
 case measure => have := HK1.out; omega
 case rel => exact ⟨(wrap64 (a8 + 1)), sR, H', ⟨by have := HK1.out; omega⟩, ⟨by (with_reducible repeat (first | apply Kd.R_alloc | apply Kd.R_drewN | apply Kd.R_drew)); exact Kd.R_mono (Kd.R_far (p := ⟨b2, 3, none⟩) (Kd.R_far (p := ⟨b2, 2, none⟩) (Kd.R_far (p := ⟨b2, 1, none⟩) (Kd.R_far (p := ⟨b2, 0, none⟩) (Kd.R_mono b3.out (fun k_ hk => (⟨hk, hk.2⟩ : _ ∧ k_ ≠ b2))) (fun _ hk => hk.2) (.int .i64 ((rd_T30 b1 a8).f0))) (fun _ hk => hk.2) (.int .i64 ((rd_T30 b1 a8).f1))) (fun _ hk => hk.2) (.bool ((rd_T30 b1 a8).f2))) (fun _ hk => hk.2) (.bool ((rd_T30 b1 a8).f3))) (fun _ hk => hk.1.1)⟩, (bA a9), (bA b0), ⟨bB⟩⟩
 )
 )
 ·(
 rw [if_neg e2] at H
 exact absurd H (by simp)
 )
 )
 ·(
 rw [if_neg e0] at H
 exact absurd H (by simp)
 )
 )
 ·(
 rw [if_neg c7] at H
 have e6 : decide (a8 < (b1.length : Int)) = false := decide_eq_false c7
 clear c7
 obtain rfl := Option.some.inj H
 go_wp2
 go_ret
 exact ⟨sE, bI⟩
 )
 )
 )

end Go.Proofs.Ythfbjofmcniogaa.PFnBeamsGo
