-- Written by xprint.py, a program of this session, for this seat; Lean checks it.
import Derived.Test.YtikhifalfemimaaPFnExactPeriodOfBeamx0
import Derived.Test.YtikhifalfemimaaPFnExactPeriodOfBeamx2
import Derived.Test.YtikhifalfemimaaPFnExactPeriodOfBeamx6
import Derived.Test.YtikhifalfemimaaPFnExactPeriodOfBeamx9
import Derived.Test.YtikhifalfemimaaPFnExactPeriodOfBeamx10
namespace Go.Proofs.Ytikhifalfemimaa.PFnExactPeriodOfBeam
open Go.RowKit Go.Proofs.YtikhifalfemimaaW.PrintWords Go.Proofs.YtikhifalfemimaaW.PrintLast Go.Proofs.YtikhifalfemimaaW.PrintMore
attribute [local go_sem] max2_int min2_int max_two min_two   -- for this text's walks alone
set_option linter.unusedVariables false
set_option linter.unusedSimpArgs false

/-! ### impl_PeriodOfBeam: function 15 -/
theorem pb_eqA (d : Nat) (w : World) (x0 y0 : Int) (x1 y1 : Int) (x2 y2 : Bool) (x3 y3 : Bool) :
    (Op.equalIn (d + 2) 30 (.agg #[.int .i64 x0, .int .i64 x1, .bool x2, .bool x3]) (.agg #[.int .i64 y0, .int .i64 y1, .bool y2, .bool y3])).run Try.prog w = .ok (x0 == y0 && (x1 == y1 && (x2 == y2 && (x3 == y3)))) w := by
  refine eqA_of Try.underlying30 (by kernel_rfl) ?_
  refine eqf_cons (by rfl) (by go_simp; rfl) (by go_simp; rfl) (by go_simp) ?_
  refine eqf_cons (by rfl) (by go_simp; rfl) (by go_simp; rfl) (by go_simp) ?_
  refine eqf_cons (by rfl) (by go_simp; rfl) (by go_simp; rfl) (by go_simp) ?_
  exact eqf_last (by rfl) (by go_simp; rfl) (by go_simp; rfl) (by go_simp)
def pbEq (a b : S30) : Bool := a.f0 == b.f0 && (a.f1 == b.f1 && (a.f2 == b.f2 && (a.f3 == b.f3)))
/-- Is the beam behind k steps as at first? -/
def pbStop (W H : Int) (b : S30) (k : Nat) : Bool := decide (0 < k) && pbEq (fwSt W H b k).1 (fwInw W H b)
def pbN (W H : Int) (b : S30) : Nat := fwN W H b (2 * W * H) (pbStop W H b)
def impl_PeriodOfBeam.f (a0_0 : Int) (a0_1 : Int) (a1_0 : Int) (a1_1 : Int) (a1_2 : Bool) (a1_3 : Bool) : Option (Int × Bool) :=
  (impl_toCorner.f a0_0 a0_1 a1_0 a1_1 a1_2 a1_3).bind fun t => if t.2.2.2.2.2.2 = true then some (0, false) else
    (impl_IsBeam.f a0_0 a0_1 a1_0 a1_1 a1_2 a1_3).bind fun b => if b = true then
      some (if pbStop a0_0 a0_1 ⟨a1_0, a1_1, a1_2, a1_3⟩ (pbN a0_0 a0_1 ⟨a1_0, a1_1, a1_2, a1_3⟩) = true then (pbN a0_0 a0_1 ⟨a1_0, a1_1, a1_2, a1_3⟩ : Int) else 0, true)
    else some (0, false)
section
attribute [local go_sem high] pb_eqA
set_option maxHeartbeats 4000000 in
theorem impl_PeriodOfBeam.one (fb cb : Nat) (k v v' : Int) (ok : Bool) (s g : S30) (sd : ByteArray) (w : World) (hf : fb < w.heap.size) (hlt : cb < w.heap.size) (hc : w.heap[cb]? = some (.cells #[.int .i64 v] 3 (0, 0))) (hg : w.heap[fb]? = some (.cells #[.int .i64 g.f0, .int .i64 g.f1, .bool g.f2, .bool g.f3] 30 (0, 0))) (hk : 0 ≤ k) (hv : v = 0) (hok : (decide (0 < k) && pbEq s g) = ok) (hv' : v' = if ok = true then k else 0) :
    Calls Try.prog 35 #[.int .i64 k, .agg #[.int .i64 s.f0, .int .i64 s.f1, .bool s.f2, .bool s.f3], .string sd, .pointer (some ⟨fb, 0, none⟩), .pointer (some ⟨cb, 0, none⟩)] w fun e w' => e = .returned (.bool ok) ∧ w'.heap[cb]? = some (.cells #[.int .i64 v'] 3 (0, 0)) ∧ FwMv cb w w' := by
  subst hv
  obtain ⟨x, y, r, u⟩ := s
  obtain ⟨x1, y1, r1, u1⟩ := g
  have hal := below_alloc (Below.refl _ w) (.cells #[.int .i64 x, .int .i64 y, .bool r, .bool u] 30 (0, 0))
  have q1 := (hal.block _ hlt).trans hc
  have q2 := (hal.block _ hf).trans hg
  have c1 := (fw_cells q1 0).1
  have f1 := (fw_cells q1 0).2
  have g0 := (fw_cells q2 0).1
  have g1 := (fw_cells q2 1).1
  have g2 := (fw_cells q2 2).1
  have g3 := (fw_cells q2 3).1
  simp at c1 g0 g1 g2 g3
  have hb2 := below_alloc (Below.refl _ (w.setCell ⟨cb, 0, none⟩ (.int .i64 k))) (.cells #[.int .i64 x, .int .i64 y, .bool r, .bool u] 30 (0, 0))
  have hs := (hb2.block cb (by simpa using hlt)).trans (heap_setCell_same _ cb 0 _ 3 (.int .i64 k) hc)
  have HS := Aside0.mk hs
  have HM := Aside0.mk ((fw_set (w := w) (g := cb) (i := 0) (.int .i64 k)).trans (FwMv.of_below hb2))
  have HA := Aside0.mk hal
  have HQ := Aside0.mk q1
  clear hc hg q1 q2 hal hs hb2
  by_cases h0 : 0 < k
  · have d0 : decide (0 < k) = true := decide_eq_true h0
    by_cases he : x = x1 ∧ y = y1 ∧ r = r1 ∧ u = u1
    · obtain ⟨rfl, rfl, rfl, rfl⟩ := he
      have e1 : ok = true := by rw [← hok, d0]; simp [pbEq]
      subst e1
      rw [if_pos rfl] at hv'
      subst hv'
      have c3 := (fw_cells HS.out 0).1
      simp at c3
      clear h0 hk hok
      go_enter Try.func35, Try.ntmps35
      go_wp2
      all_goals go_ret
      all_goals exact ⟨rfl, HS.out, HM.out⟩
    · have he2 : (x == x1 && (y == y1 && (r == r1 && (u == u1)))) = false := by
        cases h : (x == x1 && (y == y1 && (r == r1 && (u == u1))))
        · rfl
        · simp at h; exact absurd h he
      have e1 : ok = false := by rw [← hok, d0]; exact he2
      subst e1
      rw [if_neg (by simp)] at hv'
      subst hv'
      clear he hok
      go_enter Try.func35, Try.ntmps35
      go_wp2
      all_goals go_ret
      all_goals exact ⟨rfl, HQ.out, FwMv.of_below HA.out⟩
  · have d0 : decide (0 < k) = false := decide_eq_false h0
    have e1 : ok = false := by rw [← hok, d0]; rfl
    subst e1
    rw [if_neg (by simp)] at hv'
    subst hv'
    have hk0 : k = 0 := by omega
    subst hk0
    clear hok d0 h0 hk
    go_enter Try.func35, Try.ntmps35
    go_wp2
    all_goals go_ret
    all_goals exact ⟨rfl, HQ.out, FwMv.of_below HA.out⟩
end
def pbV (stop : Nat → Bool) : Nat → Int
  | 0 => 0
  | k + 1 => if stop k = true then (k : Int) else 0
theorem pb_bounds {W H : Int} (h : (1 ≤ W ∧ W ≤ 60) ∧ 1 ≤ H ∧ H ≤ 60) : 0 ≤ 2 * W * H ∧ 2 * W * H ≤ 7200 ∧ wrap64 (wrap64 (2 * W) * H) = 2 * W * H := by
  have e1 : wrap64 (2 * W) = 2 * W := by unfold wrap64; omega
  have h1 : (2 * W * H).natAbs ≤ 120 * 60 := by rw [Int.natAbs_mul]; exact Nat.mul_le_mul (by omega) (by omega)
  have h2 : 0 ≤ 2 * W * H := Int.mul_nonneg (by omega) (by omega)
  refine ⟨h2, by omega, ?_⟩
  rw [e1]
  unfold wrap64
  omega
theorem pb_IsBeam_true {W H x y : Int} {r u : Bool} (h : impl_IsBeam.f W H x y r u = some true) : (1 ≤ W ∧ W ≤ 60) ∧ 1 ≤ H ∧ H ≤ 60 := by
  have within_is : ∀ x a b : Int, impl_within.f x a b = some (decide (a ≤ x) && decide (x ≤ b)) := fun x a b => by
    unfold impl_within.f
    by_cases c : x ≥ a
    · rw [if_pos c, decide_eq_true (by omega : a ≤ x)]; rfl
    · rw [if_neg c, decide_eq_false (by omega : ¬ a ≤ x)]; rfl
  unfold impl_IsBeam.f impl_IsTable.f at h
  simp only [within_is, Option.bind_some] at h
  by_cases c1 : 1 ≤ W <;> by_cases c2 : W ≤ 60 <;> by_cases c3 : 1 ≤ H <;> by_cases c4 : H ≤ 60 <;> simp [c1, c2, c3, c4] at h <;> exact ⟨⟨c1, c2⟩, c3, c4⟩
structure pbI (wb : World) (cb : Nat) (v : Nat → Int) (k : Nat) (wr : World) : Prop where
  old : FwOld (fun i => i = cb) wb wr
  cell : wr.heap[cb]? = some (.cells #[.int .i64 (v k)] 3 (0, 0))
/-- The way with the closure that looks for the first beam. -/
theorem impl_PeriodOfBeam.way (W H x y : Int) (r u : Bool) (hh : (1 ≤ W ∧ W ≤ 60) ∧ 1 ≤ H ∧ H ≤ 60) (fb cb : Nat) (wb : World) (hlt : cb < wb.heap.size) (hf : fb < wb.heap.size) (hne : fb ≠ cb) (hc : wb.heap[cb]? = some (.cells #[.int .i64 0] 3 (0, 0)))
    (hcf : wb.heap[fb]? = some (.cells #[.int .i64 (fwInw W H ⟨x, y, r, u⟩).f0, .int .i64 (fwInw W H ⟨x, y, r, u⟩).f1, .bool (fwInw W H ⟨x, y, r, u⟩).f2, .bool (fwInw W H ⟨x, y, r, u⟩).f3] 30 (0, 0))) :
    Calls Try.prog 33 #[.agg #[.int .i64 W, .int .i64 H], .agg #[.int .i64 x, .int .i64 y, .bool r, .bool u], .int .i64 (2 * W * H), .func (.func 35) #[] #[.pointer (some ⟨fb, 0, none⟩), .pointer (some ⟨cb, 0, none⟩)]] wb fun e w' =>
      e = .returned (.tuple #[]) ∧ FwOld (fun i => i = cb) wb w' ∧ w'.heap[cb]? = some (.cells #[.int .i64 (if pbStop W H ⟨x, y, r, u⟩ (pbN W H ⟨x, y, r, u⟩) = true then (pbN W H ⟨x, y, r, u⟩ : Int) else 0)] 3 (0, 0)) := by
  have hb := pb_bounds hh
  obtain ⟨n1, n2, n3⟩ := fwN_is W H ⟨x, y, r, u⟩ (2 * W * H) (pbStop W H ⟨x, y, r, u⟩) hb.1
  refine (impl_follow.calls W H x y r u (2 * W * H) 35 #[.pointer (some ⟨fb, 0, none⟩), .pointer (some ⟨cb, 0, none⟩)] (fw_enters Try.func35 (by kernel_rfl) rfl) (pbI wb cb (pbV (pbStop W H ⟨x, y, r, u⟩))) (pbStop W H ⟨x, y, r, u⟩) (pbN W H ⟨x, y, r, u⟩) wb (by unfold pbN; omega) n3 n2 ⟨FwOld.refl _ _, hc⟩ ?_ ?_).mono ?_
  · intro k W1 W2 hI hm
    exact ⟨hI.old.mv hm (.inl (by omega)), (hm.block cb (Nat.lt_of_lt_of_le hlt hI.old.size) (by omega)).trans hI.cell⟩
  · intro k Wd hk hz hI
    have hv : pbV (pbStop W H ⟨x, y, r, u⟩) k = 0 := by
      cases k with
      | zero => rfl
      | succ j =>
        have := (n3 j hk).1
        simp only [pbV, this, Bool.false_eq_true, if_false]
    refine (impl_PeriodOfBeam.one fb cb (k : Int) _ _ _ (fwSt W H ⟨x, y, r, u⟩ k).1 (fwInw W H ⟨x, y, r, u⟩) _ Wd (Nat.lt_of_lt_of_le hf hI.old.size) (Nat.lt_of_lt_of_le hlt hI.old.size) hI.cell ((hI.old.block fb hf hne).trans hcf) (by omega) hv rfl rfl).mono ?_
    have hs : (decide (0 < (k : Int)) && pbEq (fwSt W H ⟨x, y, r, u⟩ k).1 (fwInw W H ⟨x, y, r, u⟩)) = pbStop W H ⟨x, y, r, u⟩ k := by
      unfold pbStop
      congr 1
      simp
    rintro e w2 ⟨rfl, hc2, hm2⟩
    rw [hs] at hc2 ⊢
    exact ⟨rfl, ⟨hI.old.mv hm2 (.inr rfl), hc2⟩, ⟨hm2.size, hm2.block _ (by omega) (by omega), hm2.block _ hz (by omega)⟩⟩
  · rintro e w2 ⟨rfl, hI⟩
    exact ⟨rfl, hI.old, hI.cell⟩
set_option maxHeartbeats 8000000 in
set_option maxRecDepth 100000 in
theorem impl_PeriodOfBeam.calls (a0_0 : Int) (a0_1 : Int) (a1_0 : Int) (a1_1 : Int) (a1_2 : Bool) (a1_3 : Bool) (r1 : Int) (r2 : Bool) (w : World) (h : impl_PeriodOfBeam.f a0_0 a0_1 a1_0 a1_1 a1_2 a1_3 = some (r1, r2)) :
    Calls Try.prog 15 #[.agg #[.int .i64 a0_0, .int .i64 a0_1], .agg #[.int .i64 a1_0, .int .i64 a1_1, .bool a1_2, .bool a1_3]] w fun e w' => e = .returned (.tuple #[.int .i64 r1, .bool r2]) ∧ Below w.heap.size w w' := by
  unfold impl_PeriodOfBeam.f at h
  obtain ⟨⟨z1, z2, z3, z4, z5, z6, z7⟩, hT, h⟩ := Option.bind_eq_some_iff.mp h
  have HT := Aside0.mk hT
  obtain ⟨p1, p2, ps⟩ := fw_two w (.cells #[.int .i64 a0_0, .int .i64 a0_1] 28 (0, 0)) (.cells #[.int .i64 a1_0, .int .i64 a1_1, .bool a1_2, .bool a1_3] 30 (0, 0))
  have HB0 := Aside0.mk (below_alloc (below_alloc (Below.refl _ w) (.cells #[.int .i64 a0_0, .int .i64 a0_1] 28 (0, 0))) (.cells #[.int .i64 a1_0, .int .i64 a1_1, .bool a1_2, .bool a1_3] 30 (0, 0)))
  have P := Aside0.mk (And.intro p1 (And.intro p2 ps))
  have H := Aside0.mk h
  clear p1 p2 ps hT h
  go_enter Try.func15, Try.ntmps15
  go_wp2_with fail
  with_reducible refine (impl_toCorner.calls a0_0 a0_1 a1_0 a1_1 a1_2 a1_3 z1 z2 z3 z4 z5 z6 z7 _ HT.out).mono ?_
  rintro e w1 ⟨rfl, hb1⟩
  have z : w.heap.size + 1 < w1.heap.size := Nat.lt_of_lt_of_le (by rw [P.out.2.2]; omega) hb1.size
  have hal := below_alloc (Below.refl _ w1) (.cells #[.int .i64 z2, .int .i64 z3, .bool z4, .bool z5] 30 (0, 0))
  have q1 := (hal.block w.heap.size (by omega)).trans ((hb1.block w.heap.size (by rw [P.out.2.2]; omega)).trans P.out.1)
  have q2 := (hal.block (w.heap.size + 1) (by omega)).trans ((hb1.block (w.heap.size + 1) (by rw [P.out.2.2]; omega)).trans P.out.2.1)
  have HB1 := Aside0.mk (below_step HB0.out (below_step hb1 hal))
  have HZ : Aside0 (w.heap.size + 1 < (w1.alloc (.cells #[.int .i64 z2, .int .i64 z3, .bool z4, .bool z5] 30 (0, 0))).heap.size) := ⟨Nat.lt_of_lt_of_le z hal.size⟩
  have t0 := (fw_cells q1 0).1
  have t1 := (fw_cells q1 1).1
  have b0 := (fw_cells q2 0).1
  have b1 := (fw_cells q2 1).1
  have b2 := (fw_cells q2 2).1
  have b3 := (fw_cells q2 3).1
  simp at t0 t1 b0 b1 b2 b3
  have HQ := Aside0.mk (And.intro q1 q2)
  clear hb1 z hal q1 q2 P HB0
  cases z7 with
  | true =>
    have h := H.out
    rw [if_pos rfl] at h
    simp only [Option.some.injEq, Prod.mk.injEq] at h
    obtain ⟨rfl, rfl⟩ := h
    go_wp2_with fail
    go_ret2
    exact ⟨rfl, HB1.out⟩
  | false =>
    have h := H.out
    rw [if_neg (by simp)] at h
    obtain ⟨ok, hok, h⟩ := Option.bind_eq_some_iff.mp h
    have HOK := Aside0.mk hok
    clear H hok
    go_wp2_with fail
    clear t0 t1 b0 b1 b2 b3
    generalize w1.alloc (.cells #[.int .i64 z2, .int .i64 z3, .bool z4, .bool z5] 30 (0, 0)) = w2 at HQ HZ HB1 ⊢
    refine (impl_IsBeam.calls _ _ _ _ _ _ ok _ HOK.out).mono ?_
    rintro e w3 ⟨rfl, hb3⟩
    have hz := HZ.out
    have q1 := (hb3.block w.heap.size (by omega)).trans HQ.out.1
    have q2 := (hb3.block (w.heap.size + 1) (by omega)).trans HQ.out.2
    have HB3 := Aside0.mk (below_step HB1.out hb3)
    have HZ3 : Aside0 (w.heap.size + 1 < w3.heap.size) := ⟨Nat.lt_of_lt_of_le hz hb3.size⟩
    clear hz HQ HZ HB1 hb3
    have t0 := (fw_cells q1 0).1
    have t1 := (fw_cells q1 1).1
    have b0 := (fw_cells q2 0).1
    have b1 := (fw_cells q2 1).1
    have b2 := (fw_cells q2 2).1
    have b3 := (fw_cells q2 3).1
    simp at t0 t1 b0 b1 b2 b3
    have HQ := Aside0.mk (And.intro q1 q2)
    clear q1 q2
    cases ok with
    | false =>
      rw [if_neg (by simp)] at h
      simp only [Option.some.injEq, Prod.mk.injEq] at h
      obtain ⟨rfl, rfl⟩ := h
      go_wp2_with fail
      go_ret2
      exact ⟨rfl, HB3.out⟩
    | true =>
      rw [if_pos rfl] at h
      simp only [Option.some.injEq, Prod.mk.injEq] at h
      obtain ⟨hr, rfl⟩ := h
      have HR := Aside0.mk hr
      have hh := pb_IsBeam_true HOK.out
      have hb := pb_bounds hh
      have HH := Aside0.mk hh
      have HA : Aside0 (impl_around.f a0_0 a0_1 = some (2 * a0_0 * a0_1)) := ⟨by unfold impl_around.f; rw [hb.2.2]⟩
      have HIN := Aside0.mk (fwInw_eq a0_0 a0_1 a1_0 a1_1 a1_2 a1_3)
      obtain ⟨g, hg⟩ : ∃ s, fwInw a0_0 a0_1 ⟨a1_0, a1_1, a1_2, a1_3⟩ = s := ⟨_, rfl⟩
      rw [hg] at HIN
      have HG := Aside0.mk hg
      clear hr hh hb HOK hg
      obtain ⟨g0, g1, g2, g3⟩ := g
      go_wp2_with fail
      refine (impl_inward.calls _ _ _ _ _ _ _ _ _ _ _ HIN.out).mono ?_
      rintro e w5 ⟨rfl, hb5⟩
      have hz5 : w.heap.size + 1 < w5.heap.size := Nat.lt_of_lt_of_le HZ3.out hb5.size
      obtain ⟨k1, k2, k3⟩ := fw_two w5 (.cells #[.int .i64 0] 3 (0, 0)) (.cells #[.int .i64 g0, .int .i64 g1, .bool g2, .bool g3] 30 (0, 0))
      have hal := below_alloc (below_alloc (Below.refl _ w5) (.cells #[.int .i64 0] 3 (0, 0))) (.cells #[.int .i64 g0, .int .i64 g1, .bool g2, .bool g3] 30 (0, 0))
      generalize hw6 : (w5.alloc (.cells #[.int .i64 0] 3 (0, 0))).alloc (.cells #[.int .i64 g0, .int .i64 g1, .bool g2, .bool g3] 30 (0, 0)) = w6 at k1 k2 k3 hal
      have HD : Aside0 (w6.drew.heap[w.heap.size]? = some (.cells #[.int .i64 a0_0, .int .i64 a0_1] 28 (0, 0)) ∧ w6.drew.heap[w.heap.size + 1]? = some (.cells #[.int .i64 a1_0, .int .i64 a1_1, .bool a1_2, .bool a1_3] 30 (0, 0)) ∧ w6.drew.heap[w5.heap.size]? = some (.cells #[.int .i64 0] 3 (0, 0)) ∧ w6.drew.heap[w5.heap.size + 1]? = some (.cells #[.int .i64 g0, .int .i64 g1, .bool g2, .bool g3] 30 (0, 0)) ∧ w6.drew.heap.size = w5.heap.size + 2) :=
        ⟨⟨(hal.block _ (by omega)).trans ((hb5.block _ (by have := HZ3.out; omega)).trans HQ.out.1), (hal.block _ (by omega)).trans ((hb5.block _ HZ3.out).trans HQ.out.2), k1, k2, k3⟩⟩
      have HBD := Aside0.mk (below_step (below_step HB3.out hb5) (below_step hal (below_drew (Below.refl _ w6))))
      have HW6 := Aside0.mk hw6
      have HZ5 := Aside0.mk hz5
      clear hw6 k1 k2 k3 hal hb5 HB3 HQ HZ3 t0 t1 b0 b1 b2 b3 hz5
      go_wp2_with fail
      rw [HW6.out]
      clear HW6
      have hu28 := Try.underlying28
      have hu30 := Try.underlying30
      have C1 := (fw_cells HD.out.1)
      have C2 := (fw_cells HD.out.2.1)
      refine start_ (n := 6) (S := fun w' => w'.cell? ⟨w.heap.size, 0, none⟩ = some (.int .i64 a0_0) ∧ w'.cell? ⟨w.heap.size, 1, none⟩ = some (.int .i64 a0_1) ∧ w'.cell? ⟨w.heap.size + 1, 0, none⟩ = some (.int .i64 a1_0) ∧ w'.cell? ⟨w.heap.size + 1, 1, none⟩ = some (.int .i64 a1_1) ∧ w'.cell? ⟨w.heap.size + 1, 2, none⟩ = some (.bool a1_2) ∧ w'.cell? ⟨w.heap.size + 1, 3, none⟩ = some (.bool a1_3)) (ds := [5]) #[false, false, false, false, false, false] (by kernel_rfl) rfl rfl ⟨(C1 0).1, (C1 1).1, (C2 0).1, (C2 1).1, (C2 2).1, (C2 3).1⟩ (fun hHeld => ?_)
      clear C1 C2
      generalize w6.drew = w10 at HD HBD hHeld ⊢
      refine pure_ (i := 4) (N := some 34) (v := ?_) (a' := ?_) #[false, false, false, false, true, false] rfl rfl (by kernel_rfl) (fun _ _ _ h => h) (Or.inl ⟨by rfl, ?_⟩) ?_ ?_
      rotate_left
      · intro w'
        go_simp
        with_reducible rfl
      rotate_left
      · simp only [Act.put, List.setIfInBounds_toArray, List.set_cons_zero, List.set_cons_succ, i64_w, i32_w]
        rfl
      refine take_ (i := 0) (N := some 30) (v := ?_) (a' := ?_) #[true, false, false, false, true, false] rfl rfl (by kernel_rfl) (fun _ _ _ h => h) (Or.inl ⟨by rfl, ?_⟩) hHeld ?_ ?_
      rotate_left
      · rintro w' ⟨s0, s1, s2, s3, s4, s5⟩
        go_simp
        with_reducible rfl
      rotate_left
      · simp only [Act.put, List.setIfInBounds_toArray, List.set_cons_zero, List.set_cons_succ, i64_w, i32_w]
        rfl
      refine take_ (i := 1) (N := some 31) (v := ?_) (a' := ?_) #[true, true, false, false, true, false] rfl rfl (by kernel_rfl) (fun _ _ _ h => h) (Or.inl ⟨by rfl, ?_⟩) hHeld ?_ ?_
      rotate_left
      · rintro w' ⟨s0, s1, s2, s3, s4, s5⟩
        go_simp
        with_reducible rfl
      rotate_left
      · simp only [Act.put, List.setIfInBounds_toArray, List.set_cons_zero, List.set_cons_succ, i64_w, i32_w]
        rfl
      refine take_ (i := 2) (N := some 32) (v := ?_) (a' := ?_) #[true, true, true, false, true, false] rfl rfl (by kernel_rfl) (fun _ _ _ h => h) (Or.inl ⟨by rfl, ?_⟩) hHeld ?_ ?_
      rotate_left
      · rintro w' ⟨s0, s1, s2, s3, s4, s5⟩
        go_simp
        with_reducible rfl
      rotate_left
      · simp only [Act.put, List.setIfInBounds_toArray, List.set_cons_zero, List.set_cons_succ, i64_w, i32_w]
        rfl
      refine one_ (i := 3) (N := some 33) #[true, true, true, true, true, false] rfl rfl (by kernel_rfl) (by decide) (fun K hK => ?_)
      refine goes_ Try.func34 (by kernel_rfl) rfl #[.agg #[.int .i64 a0_0, .int .i64 a0_1]] (by rfl) rfl rfl (by (try simp only [List.map_toArray, List.map_cons, List.map_nil]); first | done | rfl | (simp only [List.length_drop, List.length_take]; rfl)) ?_
      with_reducible refine (impl_around.calls a0_0 a0_1 (2 * a0_0 * a0_1) _ HA.out).mono ?_
      rintro e w11 ⟨rfl, hb⟩
      refine ⟨_, rfl, ?_⟩
      have hz5 := HZ5.out
      have hz : w10.heap.size = w5.heap.size + 2 := HD.out.2.2.2.2
      have q1 := (hb.block w.heap.size (by omega)).trans HD.out.1
      have q2 := (hb.block (w.heap.size + 1) (by omega)).trans HD.out.2.1
      have q3 := (hb.block w5.heap.size (by omega)).trans HD.out.2.2.1
      have q4 := (hb.block (w5.heap.size + 1) (by omega)).trans HD.out.2.2.2.1
      have hz2 : w5.heap.size + 1 < w11.heap.size := Nat.lt_of_lt_of_le (by omega) hb.size
      have HB11 := Aside0.mk (below_step HBD.out hb)
      have HWAY := Aside0.mk (impl_PeriodOfBeam.way a0_0 a0_1 a1_0 a1_1 a1_2 a1_3 HH.out (w5.heap.size + 1) w5.heap.size w11 (by omega) (by omega) (by omega) q3 (by rw [HG.out]; exact q4))
      refine hK.out _ _ ⟨(fw_cells q1 0).1, (fw_cells q1 1).1, (fw_cells q2 0).1, (fw_cells q2 1).1, (fw_cells q2 2).1, (fw_cells q2 3).1⟩ (fun hHeld => ?_)
      clear hK K q1 q2 q3 q4 HD HBD hb hz hz2 hz5
      refine norm_ (a' := ?_) ?_ ?_
      rotate_left
      · show Act.put _ (some 33) _ = _
        simp only [Act.put, List.setIfInBounds_toArray, List.set_cons_zero, List.set_cons_succ, i64_w, i32_w]
        rfl
      refine last_ (i := 5) (N := some 35) #[true, true, true, true, true, true] rfl rfl (by kernel_rfl) (by decide) (fun K hK => ?_)
      refine goes_ Try.func33 (by kernel_rfl) rfl #[.agg #[.int .i64 a0_0, .int .i64 a0_1], .agg #[.int .i64 a1_0, .int .i64 a1_1, .bool a1_2, .bool a1_3], .int .i64 (2 * a0_0 * a0_1), .func (.func 35) #[] #[.pointer (some ⟨w5.heap.size + 1, 0, none⟩), .pointer (some ⟨w5.heap.size, 0, none⟩)]] (by rfl) rfl rfl (by (try simp only [List.map_toArray, List.map_cons, List.map_nil]); first | done | rfl | (simp only [List.length_drop, List.length_take]; rfl)) ?_
      refine HWAY.out.mono ?_
      rintro e w12 ⟨rfl, ho, hc⟩
      refine ⟨_, rfl, ?_⟩
      rw [HR.out] at hc
      have c1 := (fw_cells hc 0).1
      simp at c1
      have HB12 := Aside0.mk (FwOld.below (S := fun i => i = w5.heap.size) HB11.out ho (fun i hi => by have := HZ5.out; omega))
      refine hK.out _ _ ?_
      clear hK K hc ho HWAY HB11 hHeld
      refine done_ (by kernel_rfl) ?_
      go_wp2_with fail
      go_ret2
      exact ⟨rfl, HB12.out⟩

/-! ### laws_FnExactPeriodOfBeam: function 5 -/
def laws_FnExactPeriodOfBeam.j0 : Nat → Bool → Option (Bool)
  | 0, _ => none
  | k + 1, x32 => if x32 = true then (some false) else (some true)
def laws_FnExactPeriodOfBeam.f (k : Nat) (a0_0 : Int) (a0_1 : Int) (a1_0 : Int) (a1_1 : Int) (a1_2 : Bool) (a1_3 : Bool) : Option (Bool) := (laws_toTable.f a0_0 a0_1).bind fun bt230 => ((laws_toBeam.f a1_0 a1_1 a1_2 a1_3).bind fun bt232 => ((spec_PeriodOfBeam.f k bt230.1 bt230.2 bt232.1 bt232.2.1 bt232.2.2.1 bt232.2.2.2).bind fun bt236 => ((laws_toTable.f a0_0 a0_1).bind fun bt238 => ((laws_toBeam.f a1_0 a1_1 a1_2 a1_3).bind fun bt240 => ((impl_PeriodOfBeam.f bt238.1 bt238.2 bt240.1 bt240.2.1 bt240.2.2.1 bt240.2.2.2).bind fun bt244 => (if bt244.1 = bt236.1 then (laws_FnExactPeriodOfBeam.j0 k (bt244.2 != bt236.2)) else (laws_FnExactPeriodOfBeam.j0 k true)))))))
theorem laws_FnExactPeriodOfBeam.mono_l : ∀ k, (∀ y0, LeO (laws_FnExactPeriodOfBeam.j0 k y0) (laws_FnExactPeriodOfBeam.j0 (k + 1) y0))
  | 0 => fun _ r h => by simp [laws_FnExactPeriodOfBeam.j0] at h
  | k + 1 => by
    have ih0 := laws_FnExactPeriodOfBeam.mono_l k
    · intro y0
      unfold laws_FnExactPeriodOfBeam.j0
      repeat' first
      | (with_reducible exact ih0 _)
      | (with_reducible exact spec_PeriodOfBeam.mono _ _ _ _ _ _ _)
      | (with_reducible exact LeO.refl _)
      | (with_reducible exact LeO.none _)
      | (with_reducible refine LeO.ite ?_ ?_)
      | (with_reducible refine LeO.bind ?_ (fun _ => ?_))
      | exact ih0 _
      | exact spec_PeriodOfBeam.mono _ _ _ _ _ _ _
      | exact LeO.none _
      | refine LeO.ite ?_ ?_
      | refine LeO.bind ?_ (fun _ => ?_)
theorem laws_FnExactPeriodOfBeam.mono : ∀ a0 a1 a2 a3 a4 a5 k, LeO (laws_FnExactPeriodOfBeam.f k a0 a1 a2 a3 a4 a5) (laws_FnExactPeriodOfBeam.f (k + 1) a0 a1 a2 a3 a4 a5) := by
  intro a0 a1 a2 a3 a4 a5 k
  have ih0 := laws_FnExactPeriodOfBeam.mono_l k
  unfold laws_FnExactPeriodOfBeam.f
  repeat' first
      | (with_reducible exact ih0 _)
      | (with_reducible exact spec_PeriodOfBeam.mono _ _ _ _ _ _ _)
      | (with_reducible exact LeO.refl _)
      | (with_reducible exact LeO.none _)
      | (with_reducible refine LeO.ite ?_ ?_)
      | (with_reducible refine LeO.bind ?_ (fun _ => ?_))
      | exact ih0 _
      | exact spec_PeriodOfBeam.mono _ _ _ _ _ _ _
      | exact LeO.none _
      | refine LeO.ite ?_ ?_
      | refine LeO.bind ?_ (fun _ => ?_)
def laws_FnExactPeriodOfBeam.T1 : Bool × List (List Nat × List Nat) := (true, [([], []), ([0], [0]), ([], []), ([2, 1], [2]), ([1, 3, 3], [1, 3]), ([4], [4]), ([5], [5]), ([5], [5]), ([6, 4, 0, 1, 2, 3, 4, 5, 6], [6]), ([7, 8, 0, 1, 2, 3, 4, 5, 6, 7, 8], [7])])
def laws_FnExactPeriodOfBeam.B1 : List Nat := [0, 1, 0, 7, 15, 31, 63, 63, 127, 511]
theorem laws_FnExactPeriodOfBeam.tab1 : rtab .any (opsOf Try.f5 1) = laws_FnExactPeriodOfBeam.T1 := by kernel_rfl
theorem laws_FnExactPeriodOfBeam.bits1 : waitsOk laws_FnExactPeriodOfBeam.T1.2 laws_FnExactPeriodOfBeam.B1 = true := by kernel_rfl
def laws_FnExactPeriodOfBeam.T2 : Bool × List (List Nat × List Nat) := (true, [([], []), ([0], [0]), ([], []), ([2, 1], [2]), ([1, 3, 3], [1, 3]), ([4], [4]), ([5], [5]), ([5], [5]), ([6, 4, 0, 1, 2, 3, 4, 5, 6], [6]), ([7, 8, 0, 1, 2, 3, 4, 5, 6, 7, 8], [7])])
def laws_FnExactPeriodOfBeam.B2 : List Nat := [0, 1, 0, 7, 15, 31, 63, 63, 127, 511]
theorem laws_FnExactPeriodOfBeam.tab2 : rtab .any (opsOf Try.f5 2) = laws_FnExactPeriodOfBeam.T2 := by kernel_rfl
theorem laws_FnExactPeriodOfBeam.bits2 : waitsOk laws_FnExactPeriodOfBeam.T2.2 laws_FnExactPeriodOfBeam.B2 = true := by kernel_rfl
set_option maxHeartbeats 8000000 in
set_option maxRecDepth 100000 in
theorem laws_FnExactPeriodOfBeam.calls (k : Nat) (a0_0 : Int) (a0_1 : Int) (a1_0 : Int) (a1_1 : Int) (a1_2 : Bool) (a1_3 : Bool) (r : Bool) (w : World) (h : laws_FnExactPeriodOfBeam.f k a0_0 a0_1 a1_0 a1_1 a1_2 a1_3 = some r) :
    Calls Try.prog 5 #[.agg #[.int .i64 a0_0, .int .i64 a0_1], .agg #[.int .i64 a1_0, .int .i64 a1_1, .bool a1_2, .bool a1_3]] w fun e w' => e = .returned (.bool r) ∧ Below w.heap.size w w' := by
  have hu23 := Try.underlying23
  have hu25 := Try.underlying25
  have HB := Aside0.mk (Below.refl w.heap.size w)
  have H : ((laws_toTable.f a0_0 a0_1).bind fun bt230 => ((laws_toBeam.f a1_0 a1_1 a1_2 a1_3).bind fun bt232 => ((spec_PeriodOfBeam.f k bt230.1 bt230.2 bt232.1 bt232.2.1 bt232.2.2.1 bt232.2.2.2).bind fun bt236 => ((laws_toTable.f a0_0 a0_1).bind fun bt238 => ((laws_toBeam.f a1_0 a1_1 a1_2 a1_3).bind fun bt240 => ((impl_PeriodOfBeam.f bt238.1 bt238.2 bt240.1 bt240.2.1 bt240.2.2.1 bt240.2.2.2).bind fun bt244 => (if bt244.1 = bt236.1 then (laws_FnExactPeriodOfBeam.j0 k (bt244.2 != bt236.2)) else (laws_FnExactPeriodOfBeam.j0 k true)))))))) = some r := h
  clear h
  replace H := Option.bind_eq_some_iff.mp H
  obtain ⟨⟨t230, t231⟩, A30, H⟩ := H
  replace H : ((laws_toBeam.f a1_0 a1_1 a1_2 a1_3).bind fun bt232 => ((spec_PeriodOfBeam.f k t230 t231 bt232.1 bt232.2.1 bt232.2.2.1 bt232.2.2.2).bind fun bt236 => ((laws_toTable.f a0_0 a0_1).bind fun bt238 => ((laws_toBeam.f a1_0 a1_1 a1_2 a1_3).bind fun bt240 => ((impl_PeriodOfBeam.f bt238.1 bt238.2 bt240.1 bt240.2.1 bt240.2.2.1 bt240.2.2.2).bind fun bt244 => (if bt244.1 = bt236.1 then (laws_FnExactPeriodOfBeam.j0 k (bt244.2 != bt236.2)) else (laws_FnExactPeriodOfBeam.j0 k true))))))) = some r := H
  have A3 := Aside0.mk A30
  clear A30
  replace H := Option.bind_eq_some_iff.mp H
  obtain ⟨⟨t232, t233, t234, t235⟩, A40, H⟩ := H
  replace H : ((spec_PeriodOfBeam.f k t230 t231 t232 t233 t234 t235).bind fun bt236 => ((laws_toTable.f a0_0 a0_1).bind fun bt238 => ((laws_toBeam.f a1_0 a1_1 a1_2 a1_3).bind fun bt240 => ((impl_PeriodOfBeam.f bt238.1 bt238.2 bt240.1 bt240.2.1 bt240.2.2.1 bt240.2.2.2).bind fun bt244 => (if bt244.1 = bt236.1 then (laws_FnExactPeriodOfBeam.j0 k (bt244.2 != bt236.2)) else (laws_FnExactPeriodOfBeam.j0 k true)))))) = some r := H
  have A4 := Aside0.mk A40
  clear A40
  replace H := Option.bind_eq_some_iff.mp H
  obtain ⟨⟨t236, t237⟩, A50, H⟩ := H
  replace H : ((laws_toTable.f a0_0 a0_1).bind fun bt238 => ((laws_toBeam.f a1_0 a1_1 a1_2 a1_3).bind fun bt240 => ((impl_PeriodOfBeam.f bt238.1 bt238.2 bt240.1 bt240.2.1 bt240.2.2.1 bt240.2.2.2).bind fun bt244 => (if bt244.1 = t236 then (laws_FnExactPeriodOfBeam.j0 k (bt244.2 != t237)) else (laws_FnExactPeriodOfBeam.j0 k true))))) = some r := H
  have A5 := Aside0.mk A50
  clear A50
  replace H := Option.bind_eq_some_iff.mp H
  obtain ⟨⟨t238, t239⟩, A60, H⟩ := H
  replace H : ((laws_toBeam.f a1_0 a1_1 a1_2 a1_3).bind fun bt240 => ((impl_PeriodOfBeam.f t238 t239 bt240.1 bt240.2.1 bt240.2.2.1 bt240.2.2.2).bind fun bt244 => (if bt244.1 = t236 then (laws_FnExactPeriodOfBeam.j0 k (bt244.2 != t237)) else (laws_FnExactPeriodOfBeam.j0 k true)))) = some r := H
  have A6 := Aside0.mk A60
  clear A60
  replace H := Option.bind_eq_some_iff.mp H
  obtain ⟨⟨t240, t241, t242, t243⟩, A70, H⟩ := H
  replace H : ((impl_PeriodOfBeam.f t238 t239 t240 t241 t242 t243).bind fun bt244 => (if bt244.1 = t236 then (laws_FnExactPeriodOfBeam.j0 k (bt244.2 != t237)) else (laws_FnExactPeriodOfBeam.j0 k true))) = some r := H
  have A7 := Aside0.mk A70
  clear A70
  replace H := Option.bind_eq_some_iff.mp H
  obtain ⟨⟨t244, t245⟩, A80, H⟩ := H
  replace H : (if t244 = t236 then (laws_FnExactPeriodOfBeam.j0 k (t245 != t237)) else (laws_FnExactPeriodOfBeam.j0 k true)) = some r := H
  have A8 := Aside0.mk A80
  clear A80
  have HC9 := Aside0.mk H
  clear H
  go_enter Try.func5, Try.ntmps5
  try go_wp2_with (first | ((with_reducible refine gate_dst (N := 2) rfl ?_); refine box_event ?hg (N := 2) ?hd (cs := #[.int .i64 a0_0, .int .i64 a0_1]) (t := 23) ?hr ?_; (case hd => rfl); (case hg => rfl); (case hr => first | (go_simp; done) | (go_simp; rfl)); intro gb228 hg w10 hbox hb; have n0_ := Aside0.mk (below_step (by repeat (first | (with_reducible first | exact HB.out | apply below_alloc | apply pw_below_drewN | apply below_drew1) | exact HB.out)) hb); have n1_ := Aside0.mk (hbox); have n2_ := Aside0.mk ((by rw [hg]; exact (below_size (by repeat (first | (with_reducible first | exact HB.out | apply below_alloc | apply pw_below_drewN | apply below_drew1) | exact HB.out))) : w.heap.size ≤ gb228)); have n3_ := Aside0.mk ((by rw [hg]; exact (below_size (by repeat (first | (with_reducible first | exact HB.out | apply below_alloc | apply pw_below_drewN | apply below_drew1) | exact HB.out))) : w.heap.size ≤ gb228)); clear HB; have HB := n0_; have BK228 := n1_; have GW228 := n2_; have GE228 := n3_; clear n0_ n1_ n2_ n3_; clear hb hbox hg) | ((with_reducible refine gate_dst (N := 3) rfl ?_); refine box_event ?hg (N := 3) ?hd (cs := #[.int .i64 a1_0, .int .i64 a1_1, .bool a1_2, .bool a1_3]) (t := 25) ?hr ?_; (case hd => rfl); (case hg => rfl); (case hr => first | (go_simp; done) | (go_simp; rfl)); intro gb229 hg w11 hbox hb; have n0_ := Aside0.mk (blk_below (g := gb228) (o := .cells #[.int .i64 a0_0, .int .i64 a0_1] 23 (0, 0)) (by (with_reducible repeat (first | refine blk_drewN ?_ _ | refine blk_drew ?_ | refine blk_alloc ?_ _)); exact BK228.out) hb); have n1_ := Aside0.mk (below_step (by repeat (first | (with_reducible first | exact HB.out | apply below_alloc | apply pw_below_drewN | apply below_drew1 | refine below_set ?_ GE228.out) | exact HB.out)) hb); have n2_ := Aside0.mk (hbox); have n3_ := Aside0.mk ((by rw [hg]; exact (below_size (by repeat (first | (with_reducible first | exact HB.out | apply below_alloc | apply pw_below_drewN | apply below_drew1 | refine below_set ?_ GE228.out) | exact HB.out))) : w.heap.size ≤ gb229)); have n4_ := Aside0.mk ((by rw [hg]; exact (below_size (by repeat (first | (with_reducible first | exact HB.out | apply below_alloc | apply pw_below_drewN | apply below_drew1 | refine below_set ?_ GE228.out) | exact HB.out))) : w.heap.size ≤ gb229)); have n5_ := Aside0.mk ((by rw [hg]; exact Nat.ne_of_lt (blk_lt (g := gb228) (o := .cells #[.int .i64 a0_0, .int .i64 a0_1] 23 (0, 0)) (by (with_reducible repeat (first | refine blk_drewN ?_ _ | refine blk_drew ?_ | refine blk_alloc ?_ _)); exact BK228.out)) : gb228 ≠ gb229)); have n6_ := Aside0.mk ((by rw [hg]; exact Nat.ne_of_gt (blk_lt (g := gb228) (o := .cells #[.int .i64 a0_0, .int .i64 a0_1] 23 (0, 0)) (by (with_reducible repeat (first | refine blk_drewN ?_ _ | refine blk_drew ?_ | refine blk_alloc ?_ _)); exact BK228.out)) : gb229 ≠ gb228)); clear BK228; clear HB; have BK228 := n0_; have HB := n1_; have BK229 := n2_; have GW229 := n3_; have GE229 := n4_; have NB228_229 := n5_; have NB229_228 := n6_; clear n0_ n1_ n2_ n3_ n4_ n5_ n6_; clear hb hbox hg))
  have n0_ := Aside0.mk (blk_drew BK228.out)
  have n1_ := Aside0.mk (blk_drew BK229.out)
  have n2_ := Aside0.mk (below_drew1 HB.out)
  clear BK228
  clear BK229
  clear HB
  have BK228 := n0_
  have BK229 := n1_
  have HB := n2_
  clear n0_ n1_ n2_
  refine start_ (n := 10) (S := fun w' => w'.cell? ⟨gb228, 0, none⟩ = some (.int .i64 a0_0) ∧ w'.cell? ⟨gb228, 1, none⟩ = some (.int .i64 a0_1) ∧ w'.cell? ⟨gb229, 0, none⟩ = some (.int .i64 a1_0) ∧ w'.cell? ⟨gb229, 1, none⟩ = some (.int .i64 a1_1) ∧ w'.cell? ⟨gb229, 2, none⟩ = some (.bool a1_2) ∧ w'.cell? ⟨gb229, 3, none⟩ = some (.bool a1_3)) (ds := []) #[false, false, false, false, false, false, false, false, false, false] (by kernel_rfl) rfl rfl ⟨(blk_cell BK228.out 0).trans rfl, (blk_cell BK228.out 1).trans rfl, (blk_cell BK229.out 0).trans rfl, (blk_cell BK229.out 1).trans rfl, (blk_cell BK229.out 2).trans rfl, (blk_cell BK229.out 3).trans rfl⟩ (fun hHeld => ?_); refine with_tabW laws_FnExactPeriodOfBeam.tab1 laws_FnExactPeriodOfBeam.bits1 (fun HT_ HW_ => ?_)
  generalize w11.drew = w12 at BK228 BK229 HB hHeld ⊢
  refine take_ (i := 0) (N := some 10) (v := ?_) (a' := ?_) #[true, false, false, false, false, false, false, false, false, false] rfl rfl (take_ofW HT_.out HW_.out (by kernel_rfl)) (fun _ _ _ h => h) (Or.inl ⟨by rfl, ?_⟩) hHeld ?_ ?_
  rotate_left
  · rintro w' ⟨s0, s1, s2, s3, s4, s5⟩
    go_simp
    with_reducible rfl
  rotate_left
  · simp only [Act.put, List.setIfInBounds_toArray, List.set_cons_zero, List.set_cons_succ, i64_w, i32_w]
    rfl
  refine take_ (i := 2) (N := some 12) (v := ?_) (a' := ?_) #[true, false, true, false, false, false, false, false, false, false] rfl rfl (take_ofW HT_.out HW_.out (by kernel_rfl)) (fun _ _ _ h => h) (Or.inl ⟨by rfl, ?_⟩) hHeld ?_ ?_
  rotate_left
  · rintro w' ⟨s0, s1, s2, s3, s4, s5⟩
    go_simp
    with_reducible rfl
  rotate_left
  · simp only [Act.put, List.setIfInBounds_toArray, List.set_cons_zero, List.set_cons_succ, i64_w, i32_w]
    rfl
  refine one_ (i := 1) (N := some 11) #[true, true, true, false, false, false, false, false, false, false] rfl rfl (one_of HT_.out (by kernel_rfl)) (by decide) (fun K hK => ?_)
  refine goes_ Try.func9 (by kernel_rfl) rfl #[.agg #[.int .i64 a0_0, .int .i64 a0_1]] (by rfl) rfl rfl (by (try simp only [List.map_toArray, List.map_cons, List.map_nil]); first | done | rfl | (simp only [List.length_drop, List.length_take]; rfl)) ?_
  with_reducible refine (laws_toTable.calls a0_0 a0_1 t230 t231 _ A3.out).mono ?_
  rintro e w13 ⟨rfl, hb⟩
  refine ⟨_, rfl, ?_⟩
  have n0_ := Aside0.mk (blk_below (g := gb228) (o := .cells #[.int .i64 a0_0, .int .i64 a0_1] 23 (0, 0)) (by (with_reducible repeat (first | refine blk_drewN ?_ _ | refine blk_drew ?_ | refine blk_alloc ?_ _)); exact BK228.out) hb)
  have n1_ := Aside0.mk (blk_below (g := gb229) (o := .cells #[.int .i64 a1_0, .int .i64 a1_1, .bool a1_2, .bool a1_3] 25 (0, 0)) (by (with_reducible repeat (first | refine blk_drewN ?_ _ | refine blk_drew ?_ | refine blk_alloc ?_ _)); exact BK229.out) hb)
  have n2_ := Aside0.mk (below_step (by repeat (first | (with_reducible first | exact HB.out | apply below_alloc | apply pw_below_drewN | apply below_drew1 | refine below_set ?_ GE228.out | refine below_set ?_ GE229.out) | exact HB.out)) hb)
  clear BK228
  clear BK229
  clear HB
  have BK228 := n0_
  have BK229 := n1_
  have HB := n2_
  clear n0_ n1_ n2_
  (try clear hb)
  (try clear hb2)
  (try clear hk)
  (try clear hi)
  refine hK.out _ _ ⟨(blk_cell BK228.out 0).trans rfl, (blk_cell BK228.out 1).trans rfl, (blk_cell BK229.out 0).trans rfl, (blk_cell BK229.out 1).trans rfl, (blk_cell BK229.out 2).trans rfl, (blk_cell BK229.out 3).trans rfl⟩ (fun hHeld => ?_)
  clear hK K
  refine norm_ (a' := ?_) ?_ ?_
  rotate_left
  · show Act.put _ (some 11) _ = _
    simp only [Act.put, List.setIfInBounds_toArray, List.set_cons_zero, List.set_cons_succ, i64_w, i32_w]
    rfl
  refine one_ (i := 3) (N := some 13) #[true, true, true, true, false, false, false, false, false, false] rfl rfl (one_of HT_.out (by kernel_rfl)) (by decide) (fun K hK => ?_)
  refine goes_ Try.func10 (by kernel_rfl) rfl #[.agg #[.int .i64 a1_0, .int .i64 a1_1, .bool a1_2, .bool a1_3]] (by rfl) rfl rfl (by (try simp only [List.map_toArray, List.map_cons, List.map_nil]); first | done | rfl | (simp only [List.length_drop, List.length_take]; rfl)) ?_
  with_reducible refine (laws_toBeam.calls a1_0 a1_1 a1_2 a1_3 t232 t233 t234 t235 _ A4.out).mono ?_
  rintro e w14 ⟨rfl, hb⟩
  refine ⟨_, rfl, ?_⟩
  have n0_ := Aside0.mk (blk_below (g := gb228) (o := .cells #[.int .i64 a0_0, .int .i64 a0_1] 23 (0, 0)) (by (with_reducible repeat (first | refine blk_drewN ?_ _ | refine blk_drew ?_ | refine blk_alloc ?_ _)); exact BK228.out) hb)
  have n1_ := Aside0.mk (blk_below (g := gb229) (o := .cells #[.int .i64 a1_0, .int .i64 a1_1, .bool a1_2, .bool a1_3] 25 (0, 0)) (by (with_reducible repeat (first | refine blk_drewN ?_ _ | refine blk_drew ?_ | refine blk_alloc ?_ _)); exact BK229.out) hb)
  have n2_ := Aside0.mk (below_step (by repeat (first | (with_reducible first | exact HB.out | apply below_alloc | apply pw_below_drewN | apply below_drew1 | refine below_set ?_ GE228.out | refine below_set ?_ GE229.out) | exact HB.out)) hb)
  clear BK228
  clear BK229
  clear HB
  have BK228 := n0_
  have BK229 := n1_
  have HB := n2_
  clear n0_ n1_ n2_
  (try clear hb)
  (try clear hb2)
  (try clear hk)
  (try clear hi)
  refine hK.out _ _ ⟨(blk_cell BK228.out 0).trans rfl, (blk_cell BK228.out 1).trans rfl, (blk_cell BK229.out 0).trans rfl, (blk_cell BK229.out 1).trans rfl, (blk_cell BK229.out 2).trans rfl, (blk_cell BK229.out 3).trans rfl⟩ (fun hHeld => ?_)
  clear hK K
  refine norm_ (a' := ?_) ?_ ?_
  rotate_left
  · show Act.put _ (some 13) _ = _
    simp only [Act.put, List.setIfInBounds_toArray, List.set_cons_zero, List.set_cons_succ, i64_w, i32_w]
    rfl
  refine one_ (i := 4) (N := some 14) #[true, true, true, true, true, false, false, false, false, false] rfl rfl (one_of HT_.out (by kernel_rfl)) (by decide) (fun K hK => ?_)
  refine goes_ Try.func14 (by kernel_rfl) rfl #[.agg #[.int .i64 t230, .int .i64 t231], .agg #[.int .i64 t232, .int .i64 t233, .bool t234, .bool t235]] (by rfl) rfl rfl (by (try simp only [List.map_toArray, List.map_cons, List.map_nil]); first | done | rfl | (simp only [List.length_drop, List.length_take]; rfl)) ?_
  with_reducible refine (spec_PeriodOfBeam.calls k t230 t231 t232 t233 t234 t235 t236 t237 _ A5.out).mono ?_
  rintro e w15 ⟨rfl, hb⟩
  refine ⟨_, rfl, ?_⟩
  have n0_ := Aside0.mk (blk_below (g := gb228) (o := .cells #[.int .i64 a0_0, .int .i64 a0_1] 23 (0, 0)) (by (with_reducible repeat (first | refine blk_drewN ?_ _ | refine blk_drew ?_ | refine blk_alloc ?_ _)); exact BK228.out) hb)
  have n1_ := Aside0.mk (blk_below (g := gb229) (o := .cells #[.int .i64 a1_0, .int .i64 a1_1, .bool a1_2, .bool a1_3] 25 (0, 0)) (by (with_reducible repeat (first | refine blk_drewN ?_ _ | refine blk_drew ?_ | refine blk_alloc ?_ _)); exact BK229.out) hb)
  have n2_ := Aside0.mk (below_step (by repeat (first | (with_reducible first | exact HB.out | apply below_alloc | apply pw_below_drewN | apply below_drew1 | refine below_set ?_ GE228.out | refine below_set ?_ GE229.out) | exact HB.out)) hb)
  clear BK228
  clear BK229
  clear HB
  have BK228 := n0_
  have BK229 := n1_
  have HB := n2_
  clear n0_ n1_ n2_
  (try clear hb)
  (try clear hb2)
  (try clear hk)
  (try clear hi)
  refine hK.out _ _ ⟨(blk_cell BK228.out 0).trans rfl, (blk_cell BK228.out 1).trans rfl, (blk_cell BK229.out 0).trans rfl, (blk_cell BK229.out 1).trans rfl, (blk_cell BK229.out 2).trans rfl, (blk_cell BK229.out 3).trans rfl⟩ (fun hHeld => ?_)
  clear hK K
  refine norm_ (a' := ?_) ?_ ?_
  rotate_left
  · show Act.put _ (some 14) _ = _
    simp only [Act.put, List.setIfInBounds_toArray, List.set_cons_zero, List.set_cons_succ, i64_w, i32_w]
    rfl
  refine pure_ (i := 5) (N := some 9) (v := ?_) (a' := ?_) #[true, true, true, true, true, true, false, false, false, false] rfl rfl (any_of HT_.out (by kernel_rfl)) (fun _ _ _ h => h) (Or.inl ⟨by rfl, ?_⟩) ?_ ?_
  rotate_left
  · intro w'
    go_simp
    with_reducible rfl
  rotate_left
  · simp only [Act.put, List.setIfInBounds_toArray, List.set_cons_zero, List.set_cons_succ, i64_w, i32_w]
    rfl
  refine pure_ (i := 6) (N := some 15) (v := ?_) (a' := ?_) #[true, true, true, true, true, true, true, false, false, false] rfl rfl (any_of HT_.out (by kernel_rfl)) (fun _ _ _ h => h) (Or.inl ⟨by rfl, ?_⟩) ?_ ?_
  rotate_left
  · intro w'
    go_simp
    with_reducible rfl
  rotate_left
  · simp only [Act.put, List.setIfInBounds_toArray, List.set_cons_zero, List.set_cons_succ, i64_w, i32_w]
    rfl
  refine pure_ (i := 7) (N := some 16) (v := ?_) (a' := ?_) #[true, true, true, true, true, true, true, true, false, false] rfl rfl (any_of HT_.out (by kernel_rfl)) (fun _ _ _ h => h) (Or.inl ⟨by rfl, ?_⟩) ?_ ?_
  rotate_left
  · intro w'
    go_simp
    with_reducible rfl
  rotate_left
  · simp only [Act.put, List.setIfInBounds_toArray, List.set_cons_zero, List.set_cons_succ, i64_w, i32_w]
    rfl
  refine pure_ (i := 8) (N := some 5) (v := ?_) (a' := ?_) #[true, true, true, true, true, true, true, true, true, false] rfl rfl (any_of HT_.out (by kernel_rfl)) (fun _ _ _ h => h) (Or.inl ⟨by rfl, ?_⟩) ?_ ?_
  rotate_left
  · intro w'
    go_simp
    with_reducible rfl
  rotate_left
  · simp only [Act.put, List.setIfInBounds_toArray, List.set_cons_zero, List.set_cons_succ, i64_w, i32_w]
    rfl
  refine pure_ (i := 9) (N := some 6) (v := ?_) (a' := ?_) #[true, true, true, true, true, true, true, true, true, true] rfl rfl (any_of HT_.out (by kernel_rfl)) (fun _ _ _ h => h) (Or.inl ⟨by rfl, ?_⟩) ?_ ?_
  rotate_left
  · intro w'
    go_simp
    with_reducible rfl
  rotate_left
  · simp only [Act.put, List.setIfInBounds_toArray, List.set_cons_zero, List.set_cons_succ, i64_w, i32_w]
    rfl
  refine done_ (done_of HT_.out (by kernel_rfl)) ?_
  try go_wp2
  (try rw [show ∀ (W_ : World) (n_ : Nat) (a_ : Addr) (v_ : Value), (W_.drewN n_).setCell a_ v_ = (W_.setCell a_ v_).drewN n_ from fun _ _ _ _ => rfl])
  have n0_ := Aside0.mk (blk_drew BK228.out)
  have n1_ := Aside0.mk (blk_drew BK229.out)
  have n2_ := Aside0.mk (below_drew1 HB.out)
  clear BK228
  clear BK229
  clear HB
  have BK228 := n0_
  have BK229 := n1_
  have HB := n2_
  clear n0_ n1_ n2_
  refine start_ (n := 10) (S := fun w' => w'.cell? ⟨gb228, 0, none⟩ = some (.int .i64 a0_0) ∧ w'.cell? ⟨gb228, 1, none⟩ = some (.int .i64 a0_1) ∧ w'.cell? ⟨gb229, 0, none⟩ = some (.int .i64 a1_0) ∧ w'.cell? ⟨gb229, 1, none⟩ = some (.int .i64 a1_1) ∧ w'.cell? ⟨gb229, 2, none⟩ = some (.bool a1_2) ∧ w'.cell? ⟨gb229, 3, none⟩ = some (.bool a1_3)) (ds := []) #[false, false, false, false, false, false, false, false, false, false] (by kernel_rfl) rfl rfl ⟨(blk_cell BK228.out 0).trans rfl, (blk_cell BK228.out 1).trans rfl, (blk_cell BK229.out 0).trans rfl, (blk_cell BK229.out 1).trans rfl, (blk_cell BK229.out 2).trans rfl, (blk_cell BK229.out 3).trans rfl⟩ (fun hHeld => ?_); refine with_tabW laws_FnExactPeriodOfBeam.tab2 laws_FnExactPeriodOfBeam.bits2 (fun HT_ HW_ => ?_)
  generalize w15.drew = w16 at BK228 BK229 HB hHeld ⊢
  refine take_ (i := 0) (N := some 18) (v := ?_) (a' := ?_) #[true, false, false, false, false, false, false, false, false, false] rfl rfl (take_ofW HT_.out HW_.out (by kernel_rfl)) (fun _ _ _ h => h) (Or.inl ⟨by rfl, ?_⟩) hHeld ?_ ?_
  rotate_left
  · rintro w' ⟨s0, s1, s2, s3, s4, s5⟩
    go_simp
    with_reducible rfl
  rotate_left
  · simp only [Act.put, List.setIfInBounds_toArray, List.set_cons_zero, List.set_cons_succ, i64_w, i32_w]
    rfl
  refine take_ (i := 2) (N := some 20) (v := ?_) (a' := ?_) #[true, false, true, false, false, false, false, false, false, false] rfl rfl (take_ofW HT_.out HW_.out (by kernel_rfl)) (fun _ _ _ h => h) (Or.inl ⟨by rfl, ?_⟩) hHeld ?_ ?_
  rotate_left
  · rintro w' ⟨s0, s1, s2, s3, s4, s5⟩
    go_simp
    with_reducible rfl
  rotate_left
  · simp only [Act.put, List.setIfInBounds_toArray, List.set_cons_zero, List.set_cons_succ, i64_w, i32_w]
    rfl
  refine one_ (i := 1) (N := some 19) #[true, true, true, false, false, false, false, false, false, false] rfl rfl (one_of HT_.out (by kernel_rfl)) (by decide) (fun K hK => ?_)
  refine goes_ Try.func9 (by kernel_rfl) rfl #[.agg #[.int .i64 a0_0, .int .i64 a0_1]] (by rfl) rfl rfl (by (try simp only [List.map_toArray, List.map_cons, List.map_nil]); first | done | rfl | (simp only [List.length_drop, List.length_take]; rfl)) ?_
  with_reducible refine (laws_toTable.calls a0_0 a0_1 t238 t239 _ A6.out).mono ?_
  rintro e w17 ⟨rfl, hb⟩
  refine ⟨_, rfl, ?_⟩
  have n0_ := Aside0.mk (blk_below (g := gb228) (o := .cells #[.int .i64 a0_0, .int .i64 a0_1] 23 (0, 0)) (by (with_reducible repeat (first | refine blk_drewN ?_ _ | refine blk_drew ?_ | refine blk_alloc ?_ _)); exact BK228.out) hb)
  have n1_ := Aside0.mk (blk_below (g := gb229) (o := .cells #[.int .i64 a1_0, .int .i64 a1_1, .bool a1_2, .bool a1_3] 25 (0, 0)) (by (with_reducible repeat (first | refine blk_drewN ?_ _ | refine blk_drew ?_ | refine blk_alloc ?_ _)); exact BK229.out) hb)
  have n2_ := Aside0.mk (below_step (by repeat (first | (with_reducible first | exact HB.out | apply below_alloc | apply pw_below_drewN | apply below_drew1 | refine below_set ?_ GE228.out | refine below_set ?_ GE229.out) | exact HB.out)) hb)
  clear BK228
  clear BK229
  clear HB
  have BK228 := n0_
  have BK229 := n1_
  have HB := n2_
  clear n0_ n1_ n2_
  (try clear hb)
  (try clear hb2)
  (try clear hk)
  (try clear hi)
  refine hK.out _ _ ⟨(blk_cell BK228.out 0).trans rfl, (blk_cell BK228.out 1).trans rfl, (blk_cell BK229.out 0).trans rfl, (blk_cell BK229.out 1).trans rfl, (blk_cell BK229.out 2).trans rfl, (blk_cell BK229.out 3).trans rfl⟩ (fun hHeld => ?_)
  clear hK K
  refine norm_ (a' := ?_) ?_ ?_
  rotate_left
  · show Act.put _ (some 19) _ = _
    simp only [Act.put, List.setIfInBounds_toArray, List.set_cons_zero, List.set_cons_succ, i64_w, i32_w]
    rfl
  refine one_ (i := 3) (N := some 21) #[true, true, true, true, false, false, false, false, false, false] rfl rfl (one_of HT_.out (by kernel_rfl)) (by decide) (fun K hK => ?_)
  refine goes_ Try.func10 (by kernel_rfl) rfl #[.agg #[.int .i64 a1_0, .int .i64 a1_1, .bool a1_2, .bool a1_3]] (by rfl) rfl rfl (by (try simp only [List.map_toArray, List.map_cons, List.map_nil]); first | done | rfl | (simp only [List.length_drop, List.length_take]; rfl)) ?_
  with_reducible refine (laws_toBeam.calls a1_0 a1_1 a1_2 a1_3 t240 t241 t242 t243 _ A7.out).mono ?_
  rintro e w18 ⟨rfl, hb⟩
  refine ⟨_, rfl, ?_⟩
  have n0_ := Aside0.mk (blk_below (g := gb228) (o := .cells #[.int .i64 a0_0, .int .i64 a0_1] 23 (0, 0)) (by (with_reducible repeat (first | refine blk_drewN ?_ _ | refine blk_drew ?_ | refine blk_alloc ?_ _)); exact BK228.out) hb)
  have n1_ := Aside0.mk (blk_below (g := gb229) (o := .cells #[.int .i64 a1_0, .int .i64 a1_1, .bool a1_2, .bool a1_3] 25 (0, 0)) (by (with_reducible repeat (first | refine blk_drewN ?_ _ | refine blk_drew ?_ | refine blk_alloc ?_ _)); exact BK229.out) hb)
  have n2_ := Aside0.mk (below_step (by repeat (first | (with_reducible first | exact HB.out | apply below_alloc | apply pw_below_drewN | apply below_drew1 | refine below_set ?_ GE228.out | refine below_set ?_ GE229.out) | exact HB.out)) hb)
  clear BK228
  clear BK229
  clear HB
  have BK228 := n0_
  have BK229 := n1_
  have HB := n2_
  clear n0_ n1_ n2_
  (try clear hb)
  (try clear hb2)
  (try clear hk)
  (try clear hi)
  refine hK.out _ _ ⟨(blk_cell BK228.out 0).trans rfl, (blk_cell BK228.out 1).trans rfl, (blk_cell BK229.out 0).trans rfl, (blk_cell BK229.out 1).trans rfl, (blk_cell BK229.out 2).trans rfl, (blk_cell BK229.out 3).trans rfl⟩ (fun hHeld => ?_)
  clear hK K
  refine norm_ (a' := ?_) ?_ ?_
  rotate_left
  · show Act.put _ (some 21) _ = _
    simp only [Act.put, List.setIfInBounds_toArray, List.set_cons_zero, List.set_cons_succ, i64_w, i32_w]
    rfl
  refine one_ (i := 4) (N := some 22) #[true, true, true, true, true, false, false, false, false, false] rfl rfl (one_of HT_.out (by kernel_rfl)) (by decide) (fun K hK => ?_)
  refine goes_ Try.func15 (by kernel_rfl) rfl #[.agg #[.int .i64 t238, .int .i64 t239], .agg #[.int .i64 t240, .int .i64 t241, .bool t242, .bool t243]] (by rfl) rfl rfl (by (try simp only [List.map_toArray, List.map_cons, List.map_nil]); first | done | rfl | (simp only [List.length_drop, List.length_take]; rfl)) ?_
  with_reducible refine (impl_PeriodOfBeam.calls t238 t239 t240 t241 t242 t243 t244 t245 _ A8.out).mono ?_
  rintro e w19 ⟨rfl, hb⟩
  refine ⟨_, rfl, ?_⟩
  have n0_ := Aside0.mk (blk_below (g := gb228) (o := .cells #[.int .i64 a0_0, .int .i64 a0_1] 23 (0, 0)) (by (with_reducible repeat (first | refine blk_drewN ?_ _ | refine blk_drew ?_ | refine blk_alloc ?_ _)); exact BK228.out) hb)
  have n1_ := Aside0.mk (blk_below (g := gb229) (o := .cells #[.int .i64 a1_0, .int .i64 a1_1, .bool a1_2, .bool a1_3] 25 (0, 0)) (by (with_reducible repeat (first | refine blk_drewN ?_ _ | refine blk_drew ?_ | refine blk_alloc ?_ _)); exact BK229.out) hb)
  have n2_ := Aside0.mk (below_step (by repeat (first | (with_reducible first | exact HB.out | apply below_alloc | apply pw_below_drewN | apply below_drew1 | refine below_set ?_ GE228.out | refine below_set ?_ GE229.out) | exact HB.out)) hb)
  clear BK228
  clear BK229
  clear HB
  have BK228 := n0_
  have BK229 := n1_
  have HB := n2_
  clear n0_ n1_ n2_
  (try clear hb)
  (try clear hb2)
  (try clear hk)
  (try clear hi)
  refine hK.out _ _ ⟨(blk_cell BK228.out 0).trans rfl, (blk_cell BK228.out 1).trans rfl, (blk_cell BK229.out 0).trans rfl, (blk_cell BK229.out 1).trans rfl, (blk_cell BK229.out 2).trans rfl, (blk_cell BK229.out 3).trans rfl⟩ (fun hHeld => ?_)
  clear hK K
  refine norm_ (a' := ?_) ?_ ?_
  rotate_left
  · show Act.put _ (some 22) _ = _
    simp only [Act.put, List.setIfInBounds_toArray, List.set_cons_zero, List.set_cons_succ, i64_w, i32_w]
    rfl
  refine pure_ (i := 5) (N := some 17) (v := ?_) (a' := ?_) #[true, true, true, true, true, true, false, false, false, false] rfl rfl (any_of HT_.out (by kernel_rfl)) (fun _ _ _ h => h) (Or.inl ⟨by rfl, ?_⟩) ?_ ?_
  rotate_left
  · intro w'
    go_simp
    with_reducible rfl
  rotate_left
  · simp only [Act.put, List.setIfInBounds_toArray, List.set_cons_zero, List.set_cons_succ, i64_w, i32_w]
    rfl
  refine pure_ (i := 6) (N := some 23) (v := ?_) (a' := ?_) #[true, true, true, true, true, true, true, false, false, false] rfl rfl (any_of HT_.out (by kernel_rfl)) (fun _ _ _ h => h) (Or.inl ⟨by rfl, ?_⟩) ?_ ?_
  rotate_left
  · intro w'
    go_simp
    with_reducible rfl
  rotate_left
  · simp only [Act.put, List.setIfInBounds_toArray, List.set_cons_zero, List.set_cons_succ, i64_w, i32_w]
    rfl
  refine pure_ (i := 7) (N := some 24) (v := ?_) (a' := ?_) #[true, true, true, true, true, true, true, true, false, false] rfl rfl (any_of HT_.out (by kernel_rfl)) (fun _ _ _ h => h) (Or.inl ⟨by rfl, ?_⟩) ?_ ?_
  rotate_left
  · intro w'
    go_simp
    with_reducible rfl
  rotate_left
  · simp only [Act.put, List.setIfInBounds_toArray, List.set_cons_zero, List.set_cons_succ, i64_w, i32_w]
    rfl
  refine pure_ (i := 8) (N := some 7) (v := ?_) (a' := ?_) #[true, true, true, true, true, true, true, true, true, false] rfl rfl (any_of HT_.out (by kernel_rfl)) (fun _ _ _ h => h) (Or.inl ⟨by rfl, ?_⟩) ?_ ?_
  rotate_left
  · intro w'
    go_simp
    with_reducible rfl
  rotate_left
  · simp only [Act.put, List.setIfInBounds_toArray, List.set_cons_zero, List.set_cons_succ, i64_w, i32_w]
    rfl
  refine pure_ (i := 9) (N := some 8) (v := ?_) (a' := ?_) #[true, true, true, true, true, true, true, true, true, true] rfl rfl (any_of HT_.out (by kernel_rfl)) (fun _ _ _ h => h) (Or.inl ⟨by rfl, ?_⟩) ?_ ?_
  rotate_left
  · intro w'
    go_simp
    with_reducible rfl
  rotate_left
  · simp only [Act.put, List.setIfInBounds_toArray, List.set_cons_zero, List.set_cons_succ, i64_w, i32_w]
    rfl
  refine done_ (done_of HT_.out (by kernel_rfl)) ?_
  go_upto_region 3 with (fail)
  go_cut [32] (fun v32 wc => ∃ (kq : Nat) (x32_8 : Bool), v32 = .bool x32_8 ∧ Aside0 (laws_FnExactPeriodOfBeam.j0 kq x32_8 = some r) ∧ Aside0 (kq ≤ k) ∧ Aside0 (wc.heap[gb228]? = some (.cells #[.int .i64 a0_0, .int .i64 a0_1] 23 (0, 0))) ∧ Aside0 (wc.heap[gb229]? = some (.cells #[.int .i64 a1_0, .int .i64 a1_1, .bool a1_2, .bool a1_3] 25 (0, 0))) ∧ Aside0 (Below w.heap.size w wc))
  case first =>
    have H := HC9.out
    clear HC9
    by_cases c20 : t244 = t236
    · rw [if_pos c20] at H
      have c20b0 : (t244 == t236) = true := beq_iff_eq.mpr c20
      have c20b1 : (t244 != t236) = false := bne_eq_false_iff_eq.mpr c20
      clear c20
      (first | rw [c20b0] | (simp only [i64_w, i32_w]; rw [c20b0]) | skip)
      have H' := Aside0.mk H
      clear H
      go_wp2
      go_meet
      case rel => exact ⟨_, ((t245 != t237)), (by first | rfl | (simp; done) | (simp [*]; done)), H', ⟨by first | omega | exact Nat.le_refl _⟩, ⟨by (with_reducible repeat (first | refine blk_drewN ?_ _ | refine blk_drew ?_ | refine blk_alloc ?_ _)); exact BK228.out⟩, ⟨by (with_reducible repeat (first | refine blk_drewN ?_ _ | refine blk_drew ?_ | refine blk_alloc ?_ _)); exact BK229.out⟩, ⟨by repeat (first | (with_reducible first | exact HB.out | apply below_alloc | apply pw_below_drewN | apply below_drew1 | refine below_set ?_ GE228.out | refine below_set ?_ GE229.out) | exact HB.out)⟩⟩
    · rw [if_neg c20] at H
      have c20b0 : (t244 == t236) = false := beq_eq_false_iff_ne.mpr c20
      have c20b1 : (t244 != t236) = true := bne_iff_ne.mpr c20
      (first | rw [c20b0] | (simp only [i64_w, i32_w]; rw [c20b0]) | skip)
      have H' := Aside0.mk H
      clear H
      go_wp2
      go_meet
      case rel => exact ⟨_, (true), (by first | rfl | (simp; done) | (simp [*]; done)), H', ⟨by first | omega | exact Nat.le_refl _⟩, ⟨by (with_reducible repeat (first | refine blk_drewN ?_ _ | refine blk_drew ?_ | refine blk_alloc ?_ _)); exact BK228.out⟩, ⟨by (with_reducible repeat (first | refine blk_drewN ?_ _ | refine blk_drew ?_ | refine blk_alloc ?_ _)); exact BK229.out⟩, ⟨by repeat (first | (with_reducible first | exact HB.out | apply below_alloc | apply pw_below_drewN | apply below_drew1 | refine below_set ?_ GE228.out | refine below_set ?_ GE229.out) | exact HB.out)⟩⟩
  case rest =>
    clear HC9
    try clear c1
    try clear c2
    try clear p2
    try clear c5
    try clear c9
    try clear c10
    try clear c14
    try clear c15
    try clear c20
    try clear c20b0
    try clear c20b1
    obtain ⟨kq, x32_8, rfl, HA, HJ8, BK228, BK229, HB⟩ := hcut
    cases kq with
    | zero => exact absurd HA.out (by simp [laws_FnExactPeriodOfBeam.j0])
    | succ kj8 =>
      have H := HA.out
      clear HA
      simp only [laws_FnExactPeriodOfBeam.j0] at H
      by_cases c21 : x32_8 = true
      · subst c21
        have H1 : (some false) = some r := by rw [if_pos rfl] at H; exact H
        clear H
        have H := H1
        clear H1
        obtain rfl := Option.some.inj H
        go_wp2
        go_ret
        exact ⟨by first | rfl | (simp [errW_none, errW_some] <;> rfl) | (simp [*, errW_none, errW_some] <;> rfl), by repeat (first | (with_reducible first | exact HB.out | apply below_alloc | apply pw_below_drewN | apply below_drew1 | refine below_set ?_ GE228.out | refine below_set ?_ GE229.out) | exact HB.out)⟩
      · replace c21 := Bool.eq_false_iff.mpr c21
        subst c21
        have H1 : (some true) = some r := by rw [if_neg (show ¬ (false = true) by decide)] at H; exact H
        clear H
        have H := H1
        clear H1
        obtain rfl := Option.some.inj H
        go_wp2
        go_ret
        exact ⟨by first | rfl | (simp [errW_none, errW_some] <;> rfl) | (simp [*, errW_none, errW_some] <;> rfl), by repeat (first | (with_reducible first | exact HB.out | apply below_alloc | apply pw_below_drewN | apply below_drew1 | refine below_set ?_ GE228.out | refine below_set ?_ GE229.out) | exact HB.out)⟩

/-- THE ONE PURE STATEMENT of laws_FnExactPeriodOfBeam: yours. -/
def laws_FnExactPeriodOfBeam.Pure : Prop := ∀ (a0_0 : Int) (a0_1 : Int) (a1_0 : Int) (a1_1 : Int) (a1_2 : Bool) (a1_3 : Bool), (Lit.int .i64 a0_0).wf = true → (Lit.int .i64 a0_1).wf = true → (Lit.int .i64 a1_0).wf = true → (Lit.int .i64 a1_1).wf = true → ∃ k, laws_FnExactPeriodOfBeam.f k a0_0 a0_1 a1_0 a1_1 a1_2 a1_3 = some true
theorem laws_FnExactPeriodOfBeam.walk (P : laws_FnExactPeriodOfBeam.Pure) (a0_0 : Int) (a0_1 : Int) (a1_0 : Int) (a1_1 : Int) (a1_2 : Bool) (a1_3 : Bool) (w : World) (w0_0 : (Lit.int .i64 a0_0).wf = true) (w0_1 : (Lit.int .i64 a0_1).wf = true) (w1_0 : (Lit.int .i64 a1_0).wf = true) (w1_1 : (Lit.int .i64 a1_1).wf = true) :
    Calls Try.prog 5 #[.agg #[.int .i64 a0_0, .int .i64 a0_1], .agg #[.int .i64 a1_0, .int .i64 a1_1, .bool a1_2, .bool a1_3]] w fun e w' => e = .returned (.bool true) ∧ Below w.heap.size w w' := by
  obtain ⟨k, h⟩ := P a0_0 a0_1 a1_0 a1_1 a1_2 a1_3 w0_0 w0_1 w1_0 w1_1
  refine (laws_FnExactPeriodOfBeam.calls k a0_0 a0_1 a1_0 a1_1 a1_2 a1_3 true w h).mono ?_
  rintro e w' ⟨rfl, hd⟩
  exact ⟨rfl, hd⟩

end Go.Proofs.Ytikhifalfemimaa.PFnExactPeriodOfBeam
