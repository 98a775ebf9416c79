-- Written by xprint.py, a program of this session, for this seat; Lean checks it.
import Derived.Test.YthfbjofmcniogaaPFnExactCountCrossingsx0
import Derived.Test.YthfbjofmcniogaaPFnExactCountCrossingsx1
import Derived.Test.YthfbjofmcniogaaPFnExactCountCrossingsx5
import Derived.Test.YthfbjofmcniogaaPFnExactCountCrossingsx8
import Derived.Test.YthfbjofmcniogaaPFnExactCountCrossingsx9
import Derived.Test.YthfbjofmcniogaaPFnExactCountCrossingsx10
namespace Go.Proofs.Ythfbjofmcniogaa.PFnExactCountCrossings
open Go.RowKit Go.Proofs.YthfbjofmcniogaaW.PrintWords Go.Proofs.YthfbjofmcniogaaW.PrintLast Go.Proofs.YthfbjofmcniogaaW.PrintMore
attribute [local go_sem] max2_int min2_int max_two min_two   -- for this text's walks alone
set_option linter.unusedVariables false
set_option linter.unusedSimpArgs false

/-! ### impl_CountCrossings: function 12 -/
theorem cc_eqA (d : Nat) (w : World) (x0 x1 y0 y1 : Int) :
    (Op.equalIn (d + 2) 68 (.agg #[.int .i64 x0, .int .i64 x1]) (.agg #[.int .i64 y0, .int .i64 y1])).run Try.prog w = .ok (x0 == y0 && x1 == y1) w := by
  have hi : ∃ i, Try.prog.info? 3 = some i := Option.isSome_iff_exists.1 (show (Try.prog.info? 3).isSome = true by kernel_rfl)
  obtain ⟨i, hi⟩ := hi
  have c3 : Try.prog.cellsOf 3 = 1 := by kernel_rfl
  rw [run_equalIn_array (P := Try.prog) (w := w) (d + 1) _ _ Try.underlying68 hi, c3]
  simp only [List.range_succ, List.range_zero, List.nil_append, List.cons_append, Op.eqItems]
  have p0 : ∀ (a b : Value) W, (part 3 #[a, b] (0 * 1)).run Try.prog W = .ok a W := fun a b W => by go_simp
  have p1 : ∀ (a b : Value) W, (part 3 #[a, b] (1 * 1)).run Try.prog W = .ok b W := fun a b W => by go_simp
  have e : ∀ (a b : Int) W, (Op.equalIn (d + 1) 3 (.int .i64 a) (.int .i64 b)).run Try.prog W = .ok (a == b) W := fun a b W => by go_simp
  simp only [Sem.run_bind, p0, p1, e, Result.andThen_ok]
  cases h0 : (x0 == y0) <;> cases h1 : (x1 == y1) <;> simp [show ∀ (a b : Value) W, (part 3 #[a, b] 1).run Try.prog W = .ok b W from p1, e, h0, h1, Result.andThen]
attribute [local go_sem high] cc_eqA
/-- Which places count as crossings. -/
def ccIn (W H : Int) (q : Int × Int) : Bool := (impl_within.f q.1 1 (wrap64 (W - 1))).getD false && (impl_within.f q.2 1 (wrap64 (H - 1))).getD false
def ccP (W H x y : Int) (c : Int × Int → Nat) (q : Int × Int) : Bool := (decide (2 ≤ (c q : Int)) && ccIn W H q) && !(q.1 == x && q.2 == y)
theorem cc_within (a b c : Int) : impl_within.f a b c = some ((impl_within.f a b c).getD false) := by
  have t : ∃ z, impl_within.f a b c = some z := by unfold impl_within.f; split <;> exact ⟨_, rfl⟩
  obtain ⟨z, hz⟩ := t
  rw [hz]
  rfl
def ccN (W H x y : Int) (r u : Bool) : Nat := vsN W H ⟨x, y, r, u⟩ + 1
def ccL (W H x y : Int) (r u : Bool) : List (Int × Int) := (vsSet W H ⟨x, y, r, u⟩ (ccN W H x y r u)).filter (ccP W H x y (fun q => vsCnt W H ⟨x, y, r, u⟩ q (ccN W H x y r u)))
def impl_CountCrossings.f (a0_0 : Int) (a0_1 : Int) (a1_0 : Int) (a1_1 : Int) (a1_2 : Bool) (a1_3 : Bool) : Option (Int × Bool) :=
  (impl_toCorner.f a0_0 a0_1 a1_0 a1_1 a1_2 a1_3).bind fun t => if t.2.2.2.2.2.2 = true then (if VsOk a0_0 a0_1 a1_0 a1_1 then some (((ccL a0_0 a0_1 a1_0 a1_1 a1_2 a1_3).length : Nat), true) else none) else some (0, false)
theorem vsSet_nodup (W H : Int) (b : S30) : ∀ k, (vsSet W H b k).Nodup
  | 0 => List.nodup_nil
  | k + 1 => by
    simp only [vsSet]
    split
    · exact vsSet_nodup W H b k
    · rename_i h
      exact List.nodup_cons.2 ⟨h, vsSet_nodup W H b k⟩
/-- One key more has been met. -/
theorem cc_step {L : List (Int × Int)} (hn : L.Nodup) {P l : Int × Int → Bool} {q : Int × Int} (hq : q ∈ L) (hl : l q = true) : (L.filter (fun z => P z && !(l z && !decide (z = q)))).length = (L.filter (fun z => P z && !l z)).length + (if P q = true then 1 else 0) := by
  induction L with
  | nil => cases hq
  | cons a L ih =>
    obtain ⟨h1, h2⟩ := List.nodup_cons.1 hn
    rw [List.filter_cons, List.filter_cons]
    rcases List.mem_cons.1 hq with rfl | hq
    · have e : L.filter (fun z => P z && !(l z && !decide (z = q))) = L.filter (fun z => P z && !l z) := by
        refine List.filter_congr (fun z hz => ?_)
        have : z ≠ q := fun e => h1 (e ▸ hz)
        simp [this]
      rw [e, hl]
      simp only [decide_true, Bool.not_true, Bool.and_false, Bool.not_false, Bool.and_true, Bool.false_eq_true, if_false]
      split <;> simp
    · have ha : a ≠ q := fun e => h1 (e ▸ hq)
      have ih := ih h2 hq
      simp only [ha, decide_false, Bool.not_false, Bool.and_true]
      split
      · simp only [List.length_cons]
        omega
      · exact ih
theorem cc_good {W H x y : Int} (r u : Bool) (t : VsOk W H x y) : ∀ k, ∀ q, q ∈ vsSet W H ⟨x, y, r, u⟩ k → vsGood q
  | 0, q, hq => by cases hq
  | k + 1, q, hq => by
    simp only [vsSet] at hq
    split at hq
    · exact cc_good r u t k q hq
    · rcases List.mem_cons.1 hq with rfl | hq
      · exact vs_good r u t k
      · exact cc_good r u t k q hq
theorem cc_start {W H x y : Int} (r u : Bool) (t : VsOk W H x y) (k : Nat) (P : Int × Int → Bool) : (vsSet W H ⟨x, y, r, u⟩ k).filter (fun q => P q && !Maps.has (vsD W H ⟨x, y, r, u⟩ k) (vsKl q.1 q.2)) = [] := by
  refine List.filter_eq_nil_iff.2 (fun q hq => ?_)
  rw [(vsIs W H ⟨x, y, r, u⟩ k (fun j _ => vs_good r u t j) k (Nat.le_refl _)).has q (cc_good r u t k q hq), decide_eq_true hq]
  simp
set_option maxHeartbeats 8000000 in
set_option maxRecDepth 100000 in
theorem impl_CountCrossings.calls (a0_0 : Int) (a0_1 : Int) (a1_0 : Int) (a1_1 : Int) (a1_2 : Bool) (a1_3 : Bool) (r1 : Int) (r2 : Bool) (w : World) (h : impl_CountCrossings.f a0_0 a0_1 a1_0 a1_1 a1_2 a1_3 = some (r1, r2)) :
    Calls Try.prog 12 #[.agg #[.int .i64 a0_0, .int .i64 a0_1], .agg #[.int .i64 a1_0, .int .i64 a1_1, .bool a1_2, .bool a1_3]] w fun e w' => e = .returned (.tuple #[.int .i64 r1, .bool r2]) ∧ Below w.heap.size w w' := by
  unfold impl_CountCrossings.f at h
  obtain ⟨⟨z1, z2, z3, z4, z5, z6, z7⟩, hT, h⟩ := Option.bind_eq_some_iff.mp h
  have HT := Aside0.mk hT
  have H := Aside0.mk (show (if z7 = true then (if VsOk a0_0 a0_1 a1_0 a1_1 then some ((((ccL a0_0 a0_1 a1_0 a1_1 a1_2 a1_3).length : Nat) : Int), true) else none) else some (0, false)) = some (r1, r2) from h)
  obtain ⟨p1, p2, ps⟩ := fw_two w (.cells #[.int .i64 a0_0, .int .i64 a0_1] 28 (0, 0)) (.cells #[.int .i64 a1_0, .int .i64 a1_1, .bool a1_2, .bool a1_3] 30 (0, 0))
  have HB0 := Aside0.mk (below_alloc (below_alloc (Below.refl _ w) (.cells #[.int .i64 a0_0, .int .i64 a0_1] 28 (0, 0))) (.cells #[.int .i64 a1_0, .int .i64 a1_1, .bool a1_2, .bool a1_3] 30 (0, 0)))
  have P := Aside0.mk (And.intro p1 (And.intro p2 ps))
  clear p1 p2 ps hT h
  go_enter Try.func12, Try.ntmps12
  go_wp2_with fail
  with_reducible refine (impl_toCorner.calls a0_0 a0_1 a1_0 a1_1 a1_2 a1_3 z1 z2 z3 z4 z5 z6 z7 _ HT.out).mono ?_
  rintro e w1 ⟨rfl, hb1⟩
  have z : w.heap.size + 1 < w1.heap.size := Nat.lt_of_lt_of_le (by rw [P.out.2.2]; omega) hb1.size
  have hal := below_alloc (Below.refl _ w1) (.cells #[.int .i64 z2, .int .i64 z3, .bool z4, .bool z5] 30 (0, 0))
  have q1 := (hal.block w.heap.size (by omega)).trans ((hb1.block w.heap.size (by rw [P.out.2.2]; omega)).trans P.out.1)
  have q2 := (hal.block (w.heap.size + 1) (by omega)).trans ((hb1.block (w.heap.size + 1) (by rw [P.out.2.2]; omega)).trans P.out.2.1)
  have HB1 := Aside0.mk (below_step HB0.out (below_step hb1 hal))
  have HZ : Aside0 (w.heap.size + 1 < (w1.alloc (.cells #[.int .i64 z2, .int .i64 z3, .bool z4, .bool z5] 30 (0, 0))).heap.size) := ⟨Nat.lt_of_lt_of_le z hal.size⟩
  have t0 := (fw_cells q1 0).1
  have t1 := (fw_cells q1 1).1
  have b0 := (fw_cells q2 0).1
  have b1 := (fw_cells q2 1).1
  have b2 := (fw_cells q2 2).1
  have b3 := (fw_cells q2 3).1
  simp at t0 t1 b0 b1 b2 b3
  have HQ := Aside0.mk (And.intro q1 q2)
  clear hb1 z hal q1 q2 P HB0
  cases z7 with
  | false =>
    have h := H.out
    rw [if_neg (by decide)] at h
    simp only [Option.some.injEq, Prod.mk.injEq] at h
    obtain ⟨rfl, rfl⟩ := h
    go_wp2_with fail
    go_ret2
    exact ⟨rfl, HB1.out⟩
  | true =>
    have h := H.out
    rw [if_pos rfl] at h
    by_cases hv : VsOk a0_0 a0_1 a1_0 a1_1
    case neg => rw [if_neg hv] at h; cases h
    rw [if_pos hv] at h
    simp only [Option.some.injEq, Prod.mk.injEq] at h
    obtain ⟨rfl, rfl⟩ := h
    have HV := Aside0.mk hv
    clear hv H
    go_wp2_with fail
    clear h
    generalize w1.alloc (.cells #[.int .i64 z2, .int .i64 z3, .bool z4, .bool z5] 30 (0, 0)) = wA at HB1 HZ t0 t1 b0 b1 b2 b3 HQ ⊢
    refine (impl_visits.gives a0_0 a0_1 a1_0 a1_1 a1_2 a1_3 wA HV.out.1 (vs_good a1_2 a1_3 HV.out)).mono ?_
    rintro e w2 ⟨rfl, hown, hb2⟩
    have HO := Aside0.mk hown
    have q1 := (hb2.block w.heap.size (by have := HZ.out; omega)).trans HQ.out.1
    have q2 := (hb2.block (w.heap.size + 1) HZ.out).trans HQ.out.2
    have HQ2 := Aside0.mk (And.intro q1 q2)
    have HB2 := Aside0.mk (below_step HB1.out hb2)
    have HZ2 := Aside0.mk (Nat.lt_of_lt_of_le HZ.out hb2.size)
    have HZA := Aside0.mk (show w.heap.size ≤ wA.heap.size from by have := HZ.out; omega)
    clear hown hb2 q1 q2 t0 t1 b0 b1 b2 b3 HQ HB1 HZ
    go_wp2_with (first | (at_range; refine wpList_range_own _ rfl _ 62 rfl 68 3 vs_keyed Try.underlying62 (plainElem Try.prog 3) _ _ _ rfl HO.out ?_; intro w3 hrg0 hg0 hs0))
    go_frame
    go_loopw [10] (fun v10 wr => ∃ (left : Lit → Bool) (cnt : Nat), v10 = .int .i64 (((vsSet a0_0 a0_1 ⟨a1_0, a1_1, a1_2, a1_3⟩ (ccN a0_0 a0_1 a1_0 a1_1 a1_2 a1_3)).filter (fun q => ccP a0_0 a0_1 a1_0 a1_1 (fun q => vsCnt a0_0 a0_1 ⟨a1_0, a1_1, a1_2, a1_3⟩ q (ccN a0_0 a0_1 a1_0 a1_1 a1_2 a1_3)) q && !left (vsKl q.1 q.2))).length : Nat) ∧ wr.ranges Try.prog 68 (plainElem (H := Unit) Try.prog 3) (wA.heap.size + 2) w2.heap.size (vsN a0_0 a0_1 ⟨a1_0, a1_1, a1_2, a1_3⟩ + 1) (vsD a0_0 a0_1 ⟨a1_0, a1_1, a1_2, a1_3⟩ (ccN a0_0 a0_1 a1_0 a1_1 a1_2 a1_3)) left cnt ∧ Aside0 (Below w.heap.size w wr) ∧ Aside0 (wr.heap[w.heap.size]? = some (.cells #[.int .i64 a0_0, .int .i64 a0_1] 28 (0, 0)) ∧ wr.heap[w.heap.size + 1]? = some (.cells #[.int .i64 a1_0, .int .i64 a1_1, .bool a1_2, .bool a1_3] 30 (0, 0))) ∧ w2.heap.size < wr.heap.size)
      (fun _ wr => wr.rangeLeft (wA.heap.size + 2) w2.heap.size)
    case atStart =>
      refine ⟨_, _, ?_, hrg0, ⟨⟨hg0.os.trans HB2.out.os, hg0.tape.trans HB2.out.tape, hg0.output.trans HB2.out.output, Nat.le_trans HB2.out.size hg0.size, fun i hi => (hg0.block i (Nat.lt_of_lt_of_le hi HB2.out.size) (by simp)).trans (HB2.out.block i hi)⟩⟩, ⟨(hg0.block _ (by have := HZ2.out; omega) (by simp)).trans HQ2.out.1, (hg0.block _ HZ2.out (by simp)).trans HQ2.out.2⟩, by omega⟩
      exact (congrArg (fun l : List (Int × Int) => Value.int .i64 ((l.length : Nat) : Int)) (cc_start a1_2 a1_3 HV.out (ccN a0_0 a0_1 a1_0 a1_1 a1_2 a1_3) _)).symm
    case round =>
      obtain ⟨left, cnt, hv10, hrg, HBr, HQr, hzr⟩ := hrel
      subst hv10
      go_wp2_with (first | (at_next; refine wpList_next_ranges (α := Int × Int) (β := Int) _ rfl _ rfl 68 vs_keyed (plainElem (H := Unit) Try.prog 3) (fun z => .agg #[.int .i64 z.1, .int .i64 z.2]) (fun c => .int .i64 c) (fun key kl hk => by obtain ⟨z, h1, _⟩ := vs_keyInv hk; exact ⟨z, h1⟩) (fun v y hv => by obtain ⟨c, h1, _⟩ := plainElem_int_inv Try.underlying3 hv; exact ⟨c, h1⟩) _ _ _ _ left cnt rfl hrg ?_ ?_))
      · intro hc0 hl0
        go_wp2_with fail
        go_ret2
        refine ⟨?_, HBr.out⟩
        have e : (vsSet a0_0 a0_1 ⟨a1_0, a1_1, a1_2, a1_3⟩ (ccN a0_0 a0_1 a1_0 a1_1 a1_2 a1_3)).filter (fun q => ccP a0_0 a0_1 a1_0 a1_1 (fun q => vsCnt a0_0 a0_1 ⟨a1_0, a1_1, a1_2, a1_3⟩ q (ccN a0_0 a0_1 a1_0 a1_1 a1_2 a1_3)) q && !left (vsKl q.1 q.2)) = ccL a0_0 a0_1 a1_0 a1_1 a1_2 a1_3 := by
          unfold ccL
          refine List.filter_congr (fun q _ => ?_)
          rw [hl0]
          simp
        rw [e]
        rfl
      · intro x1 x2 c kl y1 y2 w4 cnt4 hkey hlk hR hat hrg1 hlt hg1 hs1 hen
        have hn4 : w4.heap.size = w4.heap.size := rfl
        have g1 := (hg1.block w.heap.size (by have := HZ2.out; omega) (by have := HZ2.out; simp; omega)).trans HQr.out.1
        have g2 := (hg1.block (w.heap.size + 1) (by have := HZ2.out; omega) (by have := HZ2.out; simp; omega)).trans HQr.out.2
        have hal := below_alloc (Below.refl _ w4) (.cells #[.int .i64 x1, .int .i64 x2] 68 (0, 0))
        have g1' := (hal.block w.heap.size (by have := HZ2.out; omega)).trans g1
        have g2' := (hal.block (w.heap.size + 1) (by have := HZ2.out; omega)).trans g2
        have t0 := (fw_cells g1' 0).1
        have t1 := (fw_cells g1' 1).1
        have b0 := (fw_cells g2' 0).1
        have b1 := (fw_cells g2' 1).1
        simp at t0 t1 b0 b1
        have HK := Aside0.mk hkey
        have HL := Aside0.mk hlk
        have HRR := Aside0.mk hR
        have HAT := Aside0.mk hat
        have HRG := Aside0.mk hrg1
        have HLT := Aside0.mk hlt
        have HG := Aside0.mk hg1
        have HS := Aside0.mk hs1
        have HG12 := Aside0.mk (And.intro g1' g2')
        have HRO := Aside0.mk hrg
        have HAL := Aside0.mk hal
        clear hkey hlk hR hat hrg1 hlt hg1 hs1 g1 g2 g1' g2' hrg hal hn4
        have his := vsIs a0_0 a0_1 ⟨a1_0, a1_1, a1_2, a1_3⟩ (ccN a0_0 a0_1 a1_0 a1_1 a1_2 a1_3) (fun k _ => vs_good a1_2 a1_3 HV.out k) (ccN a0_0 a0_1 a1_0 a1_1 a1_2 a1_3) (Nat.le_refl _)
        obtain ⟨zq, ez, ekl, wx1, wx2⟩ := vs_keyInv HK.out
        have ex : x1 = zq.1 ∧ x2 = zq.2 := by
          injection ez with ez
          have := congrArg Array.toList ez
          simpa using this
        obtain ⟨ex1, ex2⟩ := ex
        rw [← ex1, ← ex2] at ekl
        rw [← ex1] at wx1
        rw [← ex2] at wx2
        have hgood : vsGood (x1, x2) := ⟨wx1, wx2⟩
        have hin : (x1, x2) ∈ vsSet a0_0 a0_1 ⟨a1_0, a1_1, a1_2, a1_3⟩ (ccN a0_0 a0_1 a1_0 a1_1 a1_2 a1_3) := by
          have h1 := Maps.has_true_of_atKey HAT.out
          rw [ekl, his.has (x1, x2) hgood] at h1
          exact of_decide_eq_true h1
        have hc : c = ((vsCnt a0_0 a0_1 ⟨a1_0, a1_1, a1_2, a1_3⟩ (x1, x2) (ccN a0_0 a0_1 a1_0 a1_1 a1_2 a1_3) : Nat) : Int) := by
          obtain ⟨c', e1, e2, _⟩ := plainElem_int_inv Try.underlying3 HRR.out
          injection e1 with _ e1
          have e3 := (Prod.mk.inj e2).1
          have h1 := HAT.out (.lit (.int .i64 0))
          rw [ekl, his.at_ (x1, x2) hgood, e3, ← e1] at h1
          injection h1 with h1
          injection h1 with _ h1
          exact h1.symm
        have hmem : ∀ q, q ∈ vsSet a0_0 a0_1 ⟨a1_0, a1_1, a1_2, a1_3⟩ (ccN a0_0 a0_1 a1_0 a1_1 a1_2 a1_3) → vsGood q := by
          have : ∀ k, ∀ q, q ∈ vsSet a0_0 a0_1 ⟨a1_0, a1_1, a1_2, a1_3⟩ k → vsGood q := by
            intro k
            induction k with
            | zero => intro q hq; cases hq
            | succ k ih =>
              intro q hq
              simp only [vsSet] at hq
              split at hq
              · exact ih q hq
              · rcases List.mem_cons.1 hq with rfl | hq
                · exact vs_good a1_2 a1_3 HV.out k
                · exact ih q hq
          exact this _
        have hstep := cc_step (vsSet_nodup a0_0 a0_1 ⟨a1_0, a1_1, a1_2, a1_3⟩ (ccN a0_0 a0_1 a1_0 a1_1 a1_2 a1_3)) (P := ccP a0_0 a0_1 a1_0 a1_1 (fun q => vsCnt a0_0 a0_1 ⟨a1_0, a1_1, a1_2, a1_3⟩ q (ccN a0_0 a0_1 a1_0 a1_1 a1_2 a1_3))) (l := fun q => left (vsKl q.1 q.2)) hin (by rw [← ekl]; exact HL.out)
        have hnew : (((vsSet a0_0 a0_1 ⟨a1_0, a1_1, a1_2, a1_3⟩ (ccN a0_0 a0_1 a1_0 a1_1 a1_2 a1_3)).filter (fun q => ccP a0_0 a0_1 a1_0 a1_1 (fun q => vsCnt a0_0 a0_1 ⟨a1_0, a1_1, a1_2, a1_3⟩ q (ccN a0_0 a0_1 a1_0 a1_1 a1_2 a1_3)) q && !(left (vsKl q.1 q.2) && !(vsKl q.1 q.2).sameKey kl))).length : Nat) = (((vsSet a0_0 a0_1 ⟨a1_0, a1_1, a1_2, a1_3⟩ (ccN a0_0 a0_1 a1_0 a1_1 a1_2 a1_3)).filter (fun q => ccP a0_0 a0_1 a1_0 a1_1 (fun q => vsCnt a0_0 a0_1 ⟨a1_0, a1_1, a1_2, a1_3⟩ q (ccN a0_0 a0_1 a1_0 a1_1 a1_2 a1_3)) q && !left (vsKl q.1 q.2))).length : Nat) + (if ccP a0_0 a0_1 a1_0 a1_1 (fun q => vsCnt a0_0 a0_1 ⟨a1_0, a1_1, a1_2, a1_3⟩ q (ccN a0_0 a0_1 a1_0 a1_1 a1_2 a1_3)) (x1, x2) = true then 1 else 0) := by
          rw [← hstep]
          congr 1
          refine List.filter_congr (fun q hq => ?_)
          have : (vsKl q.1 q.2).sameKey kl = decide (q = (x1, x2)) := by
            rw [ekl]
            by_cases e : q = (x1, x2)
            · subst e
              rw [WideAt.sameKey_self (vsKl_lit hgood), decide_eq_true rfl]
            · rw [Maps.sameKey_ne (vsKl_ne (hmem q hq) hgood e), decide_eq_false e]
          rw [this]
        have hP : ccP a0_0 a0_1 a1_0 a1_1 (fun q => vsCnt a0_0 a0_1 ⟨a1_0, a1_1, a1_2, a1_3⟩ q (ccN a0_0 a0_1 a1_0 a1_1 a1_2 a1_3)) (x1, x2) = ((decide (2 ≤ c) && ((impl_within.f x1 1 (wrap64 (a0_0 - 1))).getD false && (impl_within.f x2 1 (wrap64 (a0_1 - 1))).getD false)) && !(x1 == a1_0 && x2 == a1_1)) := by
          unfold ccP ccIn
          rw [hc]
        have hsmall : (((vsSet a0_0 a0_1 ⟨a1_0, a1_1, a1_2, a1_3⟩ (ccN a0_0 a0_1 a1_0 a1_1 a1_2 a1_3)).filter (fun q => ccP a0_0 a0_1 a1_0 a1_1 (fun q => vsCnt a0_0 a0_1 ⟨a1_0, a1_1, a1_2, a1_3⟩ q (ccN a0_0 a0_1 a1_0 a1_1 a1_2 a1_3)) q && !left (vsKl q.1 q.2))).length : Nat) ≤ 1000000 := by
          have h1 := List.length_filter_le (fun q => ccP a0_0 a0_1 a1_0 a1_1 (fun q => vsCnt a0_0 a0_1 ⟨a1_0, a1_1, a1_2, a1_3⟩ q (ccN a0_0 a0_1 a1_0 a1_1 a1_2 a1_3)) q && !left (vsKl q.1 q.2)) (vsSet a0_0 a0_1 ⟨a1_0, a1_1, a1_2, a1_3⟩ (ccN a0_0 a0_1 a1_0 a1_1 a1_2 a1_3))
          have h2 := his.size
          have h3 : ∀ k, (vsSet a0_0 a0_1 ⟨a1_0, a1_1, a1_2, a1_3⟩ k).length ≤ k := by
            intro k
            induction k with
            | zero => exact Nat.le_refl _
            | succ k ih =>
              simp only [vsSet]
              split
              · omega
              · simp only [List.length_cons]
                omega
          have h4 := h3 (ccN a0_0 a0_1 a1_0 a1_1 a1_2 a1_3)
          have h5 := vs_bounds HV.out.1
          have h6 := (fwN_is a0_0 a0_1 ⟨a1_0, a1_1, a1_2, a1_3⟩ (2 * a0_0 * a0_1) (fun _ => false) h5.1).1
          have h7 : (ccN a0_0 a0_1 a1_0 a1_1 a1_2 a1_3) ≤ 7201 := by
            unfold ccN vsN
            omega
          omega
        have fin : ∀ (nd : Nat) (v : Int), v = (((((vsSet a0_0 a0_1 ⟨a1_0, a1_1, a1_2, a1_3⟩ (ccN a0_0 a0_1 a1_0 a1_1 a1_2 a1_3)).filter (fun q => ccP a0_0 a0_1 a1_0 a1_1 (fun q => vsCnt a0_0 a0_1 ⟨a1_0, a1_1, a1_2, a1_3⟩ q (ccN a0_0 a0_1 a1_0 a1_1 a1_2 a1_3)) q && !left (vsKl q.1 q.2))).length : Nat) : Nat) : Int) + (if ccP a0_0 a0_1 a1_0 a1_1 (fun q => vsCnt a0_0 a0_1 ⟨a1_0, a1_1, a1_2, a1_3⟩ q (ccN a0_0 a0_1 a1_0 a1_1 a1_2 a1_3)) (x1, x2) = true then 1 else 0) → (∃ (left : Lit → Bool) (cnt : Nat), Value.int .i64 v = .int .i64 (((vsSet a0_0 a0_1 ⟨a1_0, a1_1, a1_2, a1_3⟩ (ccN a0_0 a0_1 a1_0 a1_1 a1_2 a1_3)).filter (fun q => ccP a0_0 a0_1 a1_0 a1_1 (fun q => vsCnt a0_0 a0_1 ⟨a1_0, a1_1, a1_2, a1_3⟩ q (ccN a0_0 a0_1 a1_0 a1_1 a1_2 a1_3)) q && !left (vsKl q.1 q.2))).length : Nat) ∧ World.ranges ((w4.alloc (.cells #[.int .i64 x1, .int .i64 x2] 68 (0, 0))).drewN nd) Try.prog 68 (plainElem (H := Unit) Try.prog 3) (wA.heap.size + 2) w2.heap.size (vsN a0_0 a0_1 ⟨a1_0, a1_1, a1_2, a1_3⟩ + 1) (vsD a0_0 a0_1 ⟨a1_0, a1_1, a1_2, a1_3⟩ (ccN a0_0 a0_1 a1_0 a1_1 a1_2 a1_3)) left cnt ∧ Aside0 (Below w.heap.size w ((w4.alloc (.cells #[.int .i64 x1, .int .i64 x2] 68 (0, 0))).drewN nd)) ∧ Aside0 (((w4.alloc (.cells #[.int .i64 x1, .int .i64 x2] 68 (0, 0))).drewN nd).heap[w.heap.size]? = some (.cells #[.int .i64 a0_0, .int .i64 a0_1] 28 (0, 0)) ∧ ((w4.alloc (.cells #[.int .i64 x1, .int .i64 x2] 68 (0, 0))).drewN nd).heap[w.heap.size + 1]? = some (.cells #[.int .i64 a1_0, .int .i64 a1_1, .bool a1_2, .bool a1_3] 30 (0, 0))) ∧ w2.heap.size < ((w4.alloc (.cells #[.int .i64 x1, .int .i64 x2] 68 (0, 0))).drewN nd).heap.size) ∧ ((w4.alloc (.cells #[.int .i64 x1, .int .i64 x2] 68 (0, 0))).drewN nd).rangeLeft (wA.heap.size + 2) w2.heap.size < wr.rangeLeft (wA.heap.size + 2) w2.heap.size := by
          intro nd v hv
          have hrg2 : World.ranges ((w4.alloc (.cells #[.int .i64 x1, .int .i64 x2] 68 (0, 0))).drewN nd) Try.prog 68 (plainElem (H := Unit) Try.prog 3) (wA.heap.size + 2) w2.heap.size (vsN a0_0 a0_1 ⟨a1_0, a1_1, a1_2, a1_3⟩ + 1) (vsD a0_0 a0_1 ⟨a1_0, a1_1, a1_2, a1_3⟩ (ccN a0_0 a0_1 a1_0 a1_1 a1_2 a1_3)) (fun z => left z && !z.sameKey kl) cnt4 := HRG.out.alloc _
          have hz2 := HZ2.out
          refine ⟨⟨fun z => left z && !z.sameKey kl, cnt4, ?_, hrg2, ⟨?_⟩, ⟨HG12.out.1, HG12.out.2⟩, ?_⟩, ?_⟩
          · rw [hv, hnew]
            split <;> simp
          · have hA := HAL.out
            have hG := HG.out
            refine ⟨hA.os.trans (hG.os.trans HBr.out.os), hA.tape.trans (hG.tape.trans HBr.out.tape), hA.output.trans (hG.output.trans HBr.out.output), Nat.le_trans HBr.out.size (Nat.le_trans hG.size hA.size), fun i hi => ?_⟩
            have h1 := HBr.out.size
            have h2 := hG.size
            exact (hA.block i (by omega)).trans ((hG.block i (by omega) (by simp; omega)).trans (HBr.out.block i hi))
          · have h2 := HG.out.size
            have h3 := HAL.out.size
            exact Nat.lt_of_lt_of_le hzr (Nat.le_trans h2 h3)
          · rw [hrg2.left_eq, HRO.out.left_eq]
            exact HLT.out
        have FIN := Aside0.mk fin
        have HP := Aside0.mk hP
        have HSM := Aside0.mk hsmall
        clear fin hP hsmall hnew hstep hmem hc hin hgood wx1 wx2 ex1 ex2 ekl ez his
        go_wp2_with fail
        refine (impl_within.calls x1 1 (wrap64 (a0_0 - 1)) _ _ (cc_within _ _ _)).mono ?_
        rintro e w5 ⟨rfl, ⟨nd, rfl⟩⟩
        cases hi1 : (impl_within.f x1 1 (wrap64 (a0_0 - 1))).getD false with
        | false =>
          have hP := HP.out
          rw [hi1, Bool.false_and, Bool.and_false, Bool.false_and] at hP
          go_wp2_with fail
          all_goals exact FIN.out nd _ (by rw [hP]; simp)
        | true =>
          go_wp2_with fail
          refine (impl_within.calls x2 1 (wrap64 (a0_1 - 1)) _ _ (cc_within _ _ _)).mono ?_
          rintro e w6 ⟨rfl, ⟨nd2, rfl⟩⟩
          cases hi2 : (impl_within.f x2 1 (wrap64 (a0_1 - 1))).getD false with
          | false =>
            have hP := HP.out
            rw [hi1, hi2, Bool.true_and, Bool.and_false, Bool.false_and] at hP
            go_wp2_with fail
            all_goals (first | exact FIN.out nd _ (by rw [hP]; simp) | exact FIN.out (nd + nd2) _ (by rw [hP]; simp) | exact FIN.out (nd2 + nd) _ (by rw [hP]; simp))
          | true =>
            have hP := HP.out
            rw [hi1, hi2, Bool.true_and, Bool.and_true] at hP
            by_cases c2 : 2 ≤ c
            · have d2 : decide (2 ≤ c) = true := decide_eq_true c2
              rw [d2, Bool.true_and] at hP
              clear c2
              cases he : (x1 == a1_0 && x2 == a1_1) with
              | true =>
                rw [he] at hP
                go_wp2_with fail
                all_goals (first | exact FIN.out nd _ (by rw [hP]; simp) | exact FIN.out (nd + nd2) _ (by rw [hP]; simp) | exact FIN.out (nd2 + nd) _ (by rw [hP]; simp))
              | false =>
                rw [he] at hP
                have hS := HSM.out
                go_wp2_with fail
                all_goals (first | exact FIN.out nd _ (by rw [hP]; first | (simp; done) | (simp only [Bool.not_false, if_true]; unfold wrap64; omega)) | exact FIN.out (nd + nd2) _ (by rw [hP]; first | (simp; done) | (simp only [Bool.not_false, if_true]; unfold wrap64; omega)) | exact FIN.out (nd2 + nd) _ (by rw [hP]; first | (simp; done) | (simp only [Bool.not_false, if_true]; unfold wrap64; omega)))
            · have d2 : decide (2 ≤ c) = false := decide_eq_false c2
              rw [d2, Bool.false_and] at hP
              clear c2
              go_wp2_with fail
              all_goals (first | exact FIN.out nd _ (by rw [hP]; simp) | exact FIN.out (nd + nd2) _ (by rw [hP]; simp) | exact FIN.out (nd2 + nd) _ (by rw [hP]; simp))

/-! ### laws_FnExactCountCrossings: function 4 -/
def laws_FnExactCountCrossings.j0 : Nat → Bool → Option (Bool)
  | 0, _ => none
  | k + 1, x32 => if x32 = true then (some false) else (some true)
def laws_FnExactCountCrossings.f (k : Nat) (a0_0 : Int) (a0_1 : Int) (a1_0 : Int) (a1_1 : Int) (a1_2 : Bool) (a1_3 : Bool) : Option (Bool) := (laws_toTable.f a0_0 a0_1).bind fun bt239 => ((laws_toBeam.f a1_0 a1_1 a1_2 a1_3).bind fun bt241 => ((spec_CountCrossings.f k bt239.1 bt239.2 bt241.1 bt241.2.1 bt241.2.2.1 bt241.2.2.2).bind fun bt245 => ((laws_toTable.f a0_0 a0_1).bind fun bt247 => ((laws_toBeam.f a1_0 a1_1 a1_2 a1_3).bind fun bt249 => ((impl_CountCrossings.f bt247.1 bt247.2 bt249.1 bt249.2.1 bt249.2.2.1 bt249.2.2.2).bind fun bt253 => (if bt253.1 = bt245.1 then (laws_FnExactCountCrossings.j0 k (bt253.2 != bt245.2)) else (laws_FnExactCountCrossings.j0 k true)))))))
theorem laws_FnExactCountCrossings.mono_l : ∀ k, (∀ y0, LeO (laws_FnExactCountCrossings.j0 k y0) (laws_FnExactCountCrossings.j0 (k + 1) y0))
  | 0 => fun _ r h => by simp [laws_FnExactCountCrossings.j0] at h
  | k + 1 => by
    have ih0 := laws_FnExactCountCrossings.mono_l k
    · intro y0
      unfold laws_FnExactCountCrossings.j0
      repeat' first
      | (with_reducible exact ih0 _)
      | (with_reducible exact spec_CountCrossings.mono _ _ _ _ _ _ _)
      | (with_reducible exact LeO.refl _)
      | (with_reducible exact LeO.none _)
      | (with_reducible refine LeO.ite ?_ ?_)
      | (with_reducible refine LeO.bind ?_ (fun _ => ?_))
      | exact ih0 _
      | exact spec_CountCrossings.mono _ _ _ _ _ _ _
      | exact LeO.none _
      | refine LeO.ite ?_ ?_
      | refine LeO.bind ?_ (fun _ => ?_)
theorem laws_FnExactCountCrossings.mono : ∀ a0 a1 a2 a3 a4 a5 k, LeO (laws_FnExactCountCrossings.f k a0 a1 a2 a3 a4 a5) (laws_FnExactCountCrossings.f (k + 1) a0 a1 a2 a3 a4 a5) := by
  intro a0 a1 a2 a3 a4 a5 k
  have ih0 := laws_FnExactCountCrossings.mono_l k
  unfold laws_FnExactCountCrossings.f
  repeat' first
      | (with_reducible exact ih0 _)
      | (with_reducible exact spec_CountCrossings.mono _ _ _ _ _ _ _)
      | (with_reducible exact LeO.refl _)
      | (with_reducible exact LeO.none _)
      | (with_reducible refine LeO.ite ?_ ?_)
      | (with_reducible refine LeO.bind ?_ (fun _ => ?_))
      | exact ih0 _
      | exact spec_CountCrossings.mono _ _ _ _ _ _ _
      | exact LeO.none _
      | refine LeO.ite ?_ ?_
      | refine LeO.bind ?_ (fun _ => ?_)
def laws_FnExactCountCrossings.T1 : Bool × List (List Nat × List Nat) := (true, [([], []), ([0], [0]), ([], []), ([2, 1], [2]), ([1, 3, 3], [1, 3]), ([4], [4]), ([5], [5]), ([5], [5]), ([6, 4, 0, 1, 2, 3, 4, 5, 6], [6]), ([7, 8, 0, 1, 2, 3, 4, 5, 6, 7, 8], [7])])
def laws_FnExactCountCrossings.B1 : List Nat := [0, 1, 0, 7, 15, 31, 63, 63, 127, 511]
theorem laws_FnExactCountCrossings.tab1 : rtab .any (opsOf Try.f4 1) = laws_FnExactCountCrossings.T1 := by kernel_rfl
theorem laws_FnExactCountCrossings.bits1 : waitsOk laws_FnExactCountCrossings.T1.2 laws_FnExactCountCrossings.B1 = true := by kernel_rfl
def laws_FnExactCountCrossings.T2 : Bool × List (List Nat × List Nat) := (true, [([], []), ([0], [0]), ([], []), ([2, 1], [2]), ([1, 3, 3], [1, 3]), ([4], [4]), ([5], [5]), ([5], [5]), ([6, 4, 0, 1, 2, 3, 4, 5, 6], [6]), ([7, 8, 0, 1, 2, 3, 4, 5, 6, 7, 8], [7])])
def laws_FnExactCountCrossings.B2 : List Nat := [0, 1, 0, 7, 15, 31, 63, 63, 127, 511]
theorem laws_FnExactCountCrossings.tab2 : rtab .any (opsOf Try.f4 2) = laws_FnExactCountCrossings.T2 := by kernel_rfl
theorem laws_FnExactCountCrossings.bits2 : waitsOk laws_FnExactCountCrossings.T2.2 laws_FnExactCountCrossings.B2 = true := by kernel_rfl
set_option maxHeartbeats 8000000 in
set_option maxRecDepth 100000 in
theorem laws_FnExactCountCrossings.calls (k : Nat) (a0_0 : Int) (a0_1 : Int) (a1_0 : Int) (a1_1 : Int) (a1_2 : Bool) (a1_3 : Bool) (r : Bool) (w : World) (h : laws_FnExactCountCrossings.f k a0_0 a0_1 a1_0 a1_1 a1_2 a1_3 = some r) (ht : r = true) :
    Calls Try.prog 4 #[.agg #[.int .i64 a0_0, .int .i64 a0_1], .agg #[.int .i64 a1_0, .int .i64 a1_1, .bool a1_2, .bool a1_3]] w fun e w' => e = .returned (.bool r) ∧ Below w.heap.size w w' := by
  have hu23 := Try.underlying23
  have hu25 := Try.underlying25
  have HB := Aside0.mk (Below.refl w.heap.size w)
  have H : ((laws_toTable.f a0_0 a0_1).bind fun bt239 => ((laws_toBeam.f a1_0 a1_1 a1_2 a1_3).bind fun bt241 => ((spec_CountCrossings.f k bt239.1 bt239.2 bt241.1 bt241.2.1 bt241.2.2.1 bt241.2.2.2).bind fun bt245 => ((laws_toTable.f a0_0 a0_1).bind fun bt247 => ((laws_toBeam.f a1_0 a1_1 a1_2 a1_3).bind fun bt249 => ((impl_CountCrossings.f bt247.1 bt247.2 bt249.1 bt249.2.1 bt249.2.2.1 bt249.2.2.2).bind fun bt253 => (if bt253.1 = bt245.1 then (laws_FnExactCountCrossings.j0 k (bt253.2 != bt245.2)) else (laws_FnExactCountCrossings.j0 k true)))))))) = some r := h
  clear h
  have HT_l := Aside0.mk ht
  clear ht
  replace H := Option.bind_eq_some_iff.mp H
  obtain ⟨⟨t239, t240⟩, A30, H⟩ := H
  replace H : ((laws_toBeam.f a1_0 a1_1 a1_2 a1_3).bind fun bt241 => ((spec_CountCrossings.f k t239 t240 bt241.1 bt241.2.1 bt241.2.2.1 bt241.2.2.2).bind fun bt245 => ((laws_toTable.f a0_0 a0_1).bind fun bt247 => ((laws_toBeam.f a1_0 a1_1 a1_2 a1_3).bind fun bt249 => ((impl_CountCrossings.f bt247.1 bt247.2 bt249.1 bt249.2.1 bt249.2.2.1 bt249.2.2.2).bind fun bt253 => (if bt253.1 = bt245.1 then (laws_FnExactCountCrossings.j0 k (bt253.2 != bt245.2)) else (laws_FnExactCountCrossings.j0 k true))))))) = some r := H
  have A3 := Aside0.mk A30
  clear A30
  replace H := Option.bind_eq_some_iff.mp H
  obtain ⟨⟨t241, t242, t243, t244⟩, A40, H⟩ := H
  replace H : ((spec_CountCrossings.f k t239 t240 t241 t242 t243 t244).bind fun bt245 => ((laws_toTable.f a0_0 a0_1).bind fun bt247 => ((laws_toBeam.f a1_0 a1_1 a1_2 a1_3).bind fun bt249 => ((impl_CountCrossings.f bt247.1 bt247.2 bt249.1 bt249.2.1 bt249.2.2.1 bt249.2.2.2).bind fun bt253 => (if bt253.1 = bt245.1 then (laws_FnExactCountCrossings.j0 k (bt253.2 != bt245.2)) else (laws_FnExactCountCrossings.j0 k true)))))) = some r := H
  have A4 := Aside0.mk A40
  clear A40
  replace H := Option.bind_eq_some_iff.mp H
  obtain ⟨⟨t245, t246⟩, A50, H⟩ := H
  replace H : ((laws_toTable.f a0_0 a0_1).bind fun bt247 => ((laws_toBeam.f a1_0 a1_1 a1_2 a1_3).bind fun bt249 => ((impl_CountCrossings.f bt247.1 bt247.2 bt249.1 bt249.2.1 bt249.2.2.1 bt249.2.2.2).bind fun bt253 => (if bt253.1 = t245 then (laws_FnExactCountCrossings.j0 k (bt253.2 != t246)) else (laws_FnExactCountCrossings.j0 k true))))) = some r := H
  have A5 := Aside0.mk A50
  clear A50
  replace H := Option.bind_eq_some_iff.mp H
  obtain ⟨⟨t247, t248⟩, A60, H⟩ := H
  replace H : ((laws_toBeam.f a1_0 a1_1 a1_2 a1_3).bind fun bt249 => ((impl_CountCrossings.f t247 t248 bt249.1 bt249.2.1 bt249.2.2.1 bt249.2.2.2).bind fun bt253 => (if bt253.1 = t245 then (laws_FnExactCountCrossings.j0 k (bt253.2 != t246)) else (laws_FnExactCountCrossings.j0 k true)))) = some r := H
  have A6 := Aside0.mk A60
  clear A60
  replace H := Option.bind_eq_some_iff.mp H
  obtain ⟨⟨t249, t250, t251, t252⟩, A70, H⟩ := H
  replace H : ((impl_CountCrossings.f t247 t248 t249 t250 t251 t252).bind fun bt253 => (if bt253.1 = t245 then (laws_FnExactCountCrossings.j0 k (bt253.2 != t246)) else (laws_FnExactCountCrossings.j0 k true))) = some r := H
  have A7 := Aside0.mk A70
  clear A70
  replace H := Option.bind_eq_some_iff.mp H
  obtain ⟨⟨t253, t254⟩, A80, H⟩ := H
  replace H : (if t253 = t245 then (laws_FnExactCountCrossings.j0 k (t254 != t246)) else (laws_FnExactCountCrossings.j0 k true)) = some r := H
  have A8 := Aside0.mk A80
  clear A80
  have HC9 := Aside0.mk H
  clear H
  go_enter Try.func4, Try.ntmps4
  try go_wp2_with (first | ((with_reducible refine gate_dst (N := 2) rfl ?_); refine box_event ?hg (N := 2) ?hd (cs := #[.int .i64 a0_0, .int .i64 a0_1]) (t := 23) ?hr ?_; (case hd => rfl); (case hg => rfl); (case hr => first | (go_simp; done) | (go_simp; rfl)); intro gb237 hg w10 hbox hb; have n0_ := Aside0.mk (below_step (by repeat (first | (with_reducible first | exact HB.out | apply below_alloc | apply pw_below_drewN | apply below_drew1) | exact HB.out)) hb); have n1_ := Aside0.mk (hbox); have n2_ := Aside0.mk ((by rw [hg]; exact (below_size (by repeat (first | (with_reducible first | exact HB.out | apply below_alloc | apply pw_below_drewN | apply below_drew1) | exact HB.out))) : w.heap.size ≤ gb237)); have n3_ := Aside0.mk ((by rw [hg]; exact (below_size (by repeat (first | (with_reducible first | exact HB.out | apply below_alloc | apply pw_below_drewN | apply below_drew1) | exact HB.out))) : w.heap.size ≤ gb237)); clear HB; have HB := n0_; have BK237 := n1_; have GW237 := n2_; have GE237 := n3_; clear n0_ n1_ n2_ n3_; clear hb hbox hg) | ((with_reducible refine gate_dst (N := 3) rfl ?_); refine box_event ?hg (N := 3) ?hd (cs := #[.int .i64 a1_0, .int .i64 a1_1, .bool a1_2, .bool a1_3]) (t := 25) ?hr ?_; (case hd => rfl); (case hg => rfl); (case hr => first | (go_simp; done) | (go_simp; rfl)); intro gb238 hg w11 hbox hb; have n0_ := Aside0.mk (blk_below (g := gb237) (o := .cells #[.int .i64 a0_0, .int .i64 a0_1] 23 (0, 0)) (by (with_reducible repeat (first | refine blk_drewN ?_ _ | refine blk_drew ?_ | refine blk_alloc ?_ _)); exact BK237.out) hb); have n1_ := Aside0.mk (below_step (by repeat (first | (with_reducible first | exact HB.out | apply below_alloc | apply pw_below_drewN | apply below_drew1 | refine below_set ?_ GE237.out) | exact HB.out)) hb); have n2_ := Aside0.mk (hbox); have n3_ := Aside0.mk ((by rw [hg]; exact (below_size (by repeat (first | (with_reducible first | exact HB.out | apply below_alloc | apply pw_below_drewN | apply below_drew1 | refine below_set ?_ GE237.out) | exact HB.out))) : w.heap.size ≤ gb238)); have n4_ := Aside0.mk ((by rw [hg]; exact (below_size (by repeat (first | (with_reducible first | exact HB.out | apply below_alloc | apply pw_below_drewN | apply below_drew1 | refine below_set ?_ GE237.out) | exact HB.out))) : w.heap.size ≤ gb238)); have n5_ := Aside0.mk ((by rw [hg]; exact Nat.ne_of_lt (blk_lt (g := gb237) (o := .cells #[.int .i64 a0_0, .int .i64 a0_1] 23 (0, 0)) (by (with_reducible repeat (first | refine blk_drewN ?_ _ | refine blk_drew ?_ | refine blk_alloc ?_ _)); exact BK237.out)) : gb237 ≠ gb238)); have n6_ := Aside0.mk ((by rw [hg]; exact Nat.ne_of_gt (blk_lt (g := gb237) (o := .cells #[.int .i64 a0_0, .int .i64 a0_1] 23 (0, 0)) (by (with_reducible repeat (first | refine blk_drewN ?_ _ | refine blk_drew ?_ | refine blk_alloc ?_ _)); exact BK237.out)) : gb238 ≠ gb237)); clear BK237; clear HB; have BK237 := n0_; have HB := n1_; have BK238 := n2_; have GW238 := n3_; have GE238 := n4_; have NB237_238 := n5_; have NB238_237 := n6_; clear n0_ n1_ n2_ n3_ n4_ n5_ n6_; clear hb hbox hg))
  have n0_ := Aside0.mk (blk_drew BK237.out)
  have n1_ := Aside0.mk (blk_drew BK238.out)
  have n2_ := Aside0.mk (below_drew1 HB.out)
  clear BK237
  clear BK238
  clear HB
  have BK237 := n0_
  have BK238 := n1_
  have HB := n2_
  clear n0_ n1_ n2_
  refine start_ (n := 10) (S := fun w' => w'.cell? ⟨gb237, 0, none⟩ = some (.int .i64 a0_0) ∧ w'.cell? ⟨gb237, 1, none⟩ = some (.int .i64 a0_1) ∧ w'.cell? ⟨gb238, 0, none⟩ = some (.int .i64 a1_0) ∧ w'.cell? ⟨gb238, 1, none⟩ = some (.int .i64 a1_1) ∧ w'.cell? ⟨gb238, 2, none⟩ = some (.bool a1_2) ∧ w'.cell? ⟨gb238, 3, none⟩ = some (.bool a1_3)) (ds := []) #[false, false, false, false, false, false, false, false, false, false] (by kernel_rfl) rfl rfl ⟨(blk_cell BK237.out 0).trans rfl, (blk_cell BK237.out 1).trans rfl, (blk_cell BK238.out 0).trans rfl, (blk_cell BK238.out 1).trans rfl, (blk_cell BK238.out 2).trans rfl, (blk_cell BK238.out 3).trans rfl⟩ (fun hHeld => ?_); refine with_tabW laws_FnExactCountCrossings.tab1 laws_FnExactCountCrossings.bits1 (fun HT_ HW_ => ?_)
  generalize w11.drew = w12 at BK237 BK238 HB hHeld ⊢
  refine take_ (i := 0) (N := some 10) (v := ?_) (a' := ?_) #[true, false, false, false, false, false, false, false, false, false] rfl rfl (take_ofW HT_.out HW_.out (by kernel_rfl)) (fun _ _ _ h => h) (Or.inl ⟨by rfl, ?_⟩) hHeld ?_ ?_
  rotate_left
  · rintro w' ⟨s0, s1, s2, s3, s4, s5⟩
    go_simp
    with_reducible rfl
  rotate_left
  · simp only [Act.put, List.setIfInBounds_toArray, List.set_cons_zero, List.set_cons_succ, i64_w, i32_w]
    rfl
  refine take_ (i := 2) (N := some 12) (v := ?_) (a' := ?_) #[true, false, true, false, false, false, false, false, false, false] rfl rfl (take_ofW HT_.out HW_.out (by kernel_rfl)) (fun _ _ _ h => h) (Or.inl ⟨by rfl, ?_⟩) hHeld ?_ ?_
  rotate_left
  · rintro w' ⟨s0, s1, s2, s3, s4, s5⟩
    go_simp
    with_reducible rfl
  rotate_left
  · simp only [Act.put, List.setIfInBounds_toArray, List.set_cons_zero, List.set_cons_succ, i64_w, i32_w]
    rfl
  refine one_ (i := 1) (N := some 11) #[true, true, true, false, false, false, false, false, false, false] rfl rfl (one_of HT_.out (by kernel_rfl)) (by decide) (fun K hK => ?_)
  refine goes_ Try.func8 (by kernel_rfl) rfl #[.agg #[.int .i64 a0_0, .int .i64 a0_1]] (by rfl) rfl rfl (by (try simp only [List.map_toArray, List.map_cons, List.map_nil]); first | done | rfl | (simp only [List.length_drop, List.length_take]; rfl)) ?_
  with_reducible refine (laws_toTable.calls a0_0 a0_1 t239 t240 _ A3.out).mono ?_
  rintro e w13 ⟨rfl, hb⟩
  refine ⟨_, rfl, ?_⟩
  have n0_ := Aside0.mk (blk_below (g := gb237) (o := .cells #[.int .i64 a0_0, .int .i64 a0_1] 23 (0, 0)) (by (with_reducible repeat (first | refine blk_drewN ?_ _ | refine blk_drew ?_ | refine blk_alloc ?_ _)); exact BK237.out) hb)
  have n1_ := Aside0.mk (blk_below (g := gb238) (o := .cells #[.int .i64 a1_0, .int .i64 a1_1, .bool a1_2, .bool a1_3] 25 (0, 0)) (by (with_reducible repeat (first | refine blk_drewN ?_ _ | refine blk_drew ?_ | refine blk_alloc ?_ _)); exact BK238.out) hb)
  have n2_ := Aside0.mk (below_step (by repeat (first | (with_reducible first | exact HB.out | apply below_alloc | apply pw_below_drewN | apply below_drew1 | refine below_set ?_ GE237.out | refine below_set ?_ GE238.out) | exact HB.out)) hb)
  clear BK237
  clear BK238
  clear HB
  have BK237 := n0_
  have BK238 := n1_
  have HB := n2_
  clear n0_ n1_ n2_
  (try clear hb)
  (try clear hb2)
  (try clear hk)
  (try clear hi)
  refine hK.out _ _ ⟨(blk_cell BK237.out 0).trans rfl, (blk_cell BK237.out 1).trans rfl, (blk_cell BK238.out 0).trans rfl, (blk_cell BK238.out 1).trans rfl, (blk_cell BK238.out 2).trans rfl, (blk_cell BK238.out 3).trans rfl⟩ (fun hHeld => ?_)
  clear hK K
  refine norm_ (a' := ?_) ?_ ?_
  rotate_left
  · show Act.put _ (some 11) _ = _
    simp only [Act.put, List.setIfInBounds_toArray, List.set_cons_zero, List.set_cons_succ, i64_w, i32_w]
    rfl
  refine one_ (i := 3) (N := some 13) #[true, true, true, true, false, false, false, false, false, false] rfl rfl (one_of HT_.out (by kernel_rfl)) (by decide) (fun K hK => ?_)
  refine goes_ Try.func9 (by kernel_rfl) rfl #[.agg #[.int .i64 a1_0, .int .i64 a1_1, .bool a1_2, .bool a1_3]] (by rfl) rfl rfl (by (try simp only [List.map_toArray, List.map_cons, List.map_nil]); first | done | rfl | (simp only [List.length_drop, List.length_take]; rfl)) ?_
  with_reducible refine (laws_toBeam.calls a1_0 a1_1 a1_2 a1_3 t241 t242 t243 t244 _ A4.out).mono ?_
  rintro e w14 ⟨rfl, hb⟩
  refine ⟨_, rfl, ?_⟩
  have n0_ := Aside0.mk (blk_below (g := gb237) (o := .cells #[.int .i64 a0_0, .int .i64 a0_1] 23 (0, 0)) (by (with_reducible repeat (first | refine blk_drewN ?_ _ | refine blk_drew ?_ | refine blk_alloc ?_ _)); exact BK237.out) hb)
  have n1_ := Aside0.mk (blk_below (g := gb238) (o := .cells #[.int .i64 a1_0, .int .i64 a1_1, .bool a1_2, .bool a1_3] 25 (0, 0)) (by (with_reducible repeat (first | refine blk_drewN ?_ _ | refine blk_drew ?_ | refine blk_alloc ?_ _)); exact BK238.out) hb)
  have n2_ := Aside0.mk (below_step (by repeat (first | (with_reducible first | exact HB.out | apply below_alloc | apply pw_below_drewN | apply below_drew1 | refine below_set ?_ GE237.out | refine below_set ?_ GE238.out) | exact HB.out)) hb)
  clear BK237
  clear BK238
  clear HB
  have BK237 := n0_
  have BK238 := n1_
  have HB := n2_
  clear n0_ n1_ n2_
  (try clear hb)
  (try clear hb2)
  (try clear hk)
  (try clear hi)
  refine hK.out _ _ ⟨(blk_cell BK237.out 0).trans rfl, (blk_cell BK237.out 1).trans rfl, (blk_cell BK238.out 0).trans rfl, (blk_cell BK238.out 1).trans rfl, (blk_cell BK238.out 2).trans rfl, (blk_cell BK238.out 3).trans rfl⟩ (fun hHeld => ?_)
  clear hK K
  refine norm_ (a' := ?_) ?_ ?_
  rotate_left
  · show Act.put _ (some 13) _ = _
    simp only [Act.put, List.setIfInBounds_toArray, List.set_cons_zero, List.set_cons_succ, i64_w, i32_w]
    rfl
  refine one_ (i := 4) (N := some 14) #[true, true, true, true, true, false, false, false, false, false] rfl rfl (one_of HT_.out (by kernel_rfl)) (by decide) (fun K hK => ?_)
  refine goes_ Try.func11 (by kernel_rfl) rfl #[.agg #[.int .i64 t239, .int .i64 t240], .agg #[.int .i64 t241, .int .i64 t242, .bool t243, .bool t244]] (by rfl) rfl rfl (by (try simp only [List.map_toArray, List.map_cons, List.map_nil]); first | done | rfl | (simp only [List.length_drop, List.length_take]; rfl)) ?_
  with_reducible refine (spec_CountCrossings.calls k t239 t240 t241 t242 t243 t244 t245 t246 _ A5.out).mono ?_
  rintro e w15 ⟨rfl, hb⟩
  refine ⟨_, rfl, ?_⟩
  have n0_ := Aside0.mk (blk_below (g := gb237) (o := .cells #[.int .i64 a0_0, .int .i64 a0_1] 23 (0, 0)) (by (with_reducible repeat (first | refine blk_drewN ?_ _ | refine blk_drew ?_ | refine blk_alloc ?_ _)); exact BK237.out) hb)
  have n1_ := Aside0.mk (blk_below (g := gb238) (o := .cells #[.int .i64 a1_0, .int .i64 a1_1, .bool a1_2, .bool a1_3] 25 (0, 0)) (by (with_reducible repeat (first | refine blk_drewN ?_ _ | refine blk_drew ?_ | refine blk_alloc ?_ _)); exact BK238.out) hb)
  have n2_ := Aside0.mk (below_step (by repeat (first | (with_reducible first | exact HB.out | apply below_alloc | apply pw_below_drewN | apply below_drew1 | refine below_set ?_ GE237.out | refine below_set ?_ GE238.out) | exact HB.out)) hb)
  clear BK237
  clear BK238
  clear HB
  have BK237 := n0_
  have BK238 := n1_
  have HB := n2_
  clear n0_ n1_ n2_
  (try clear hb)
  (try clear hb2)
  (try clear hk)
  (try clear hi)
  refine hK.out _ _ ⟨(blk_cell BK237.out 0).trans rfl, (blk_cell BK237.out 1).trans rfl, (blk_cell BK238.out 0).trans rfl, (blk_cell BK238.out 1).trans rfl, (blk_cell BK238.out 2).trans rfl, (blk_cell BK238.out 3).trans rfl⟩ (fun hHeld => ?_)
  clear hK K
  refine norm_ (a' := ?_) ?_ ?_
  rotate_left
  · show Act.put _ (some 14) _ = _
    simp only [Act.put, List.setIfInBounds_toArray, List.set_cons_zero, List.set_cons_succ, i64_w, i32_w]
    rfl
  refine pure_ (i := 5) (N := some 9) (v := ?_) (a' := ?_) #[true, true, true, true, true, true, false, false, false, false] rfl rfl (any_of HT_.out (by kernel_rfl)) (fun _ _ _ h => h) (Or.inl ⟨by rfl, ?_⟩) ?_ ?_
  rotate_left
  · intro w'
    go_simp
    with_reducible rfl
  rotate_left
  · simp only [Act.put, List.setIfInBounds_toArray, List.set_cons_zero, List.set_cons_succ, i64_w, i32_w]
    rfl
  refine pure_ (i := 6) (N := some 15) (v := ?_) (a' := ?_) #[true, true, true, true, true, true, true, false, false, false] rfl rfl (any_of HT_.out (by kernel_rfl)) (fun _ _ _ h => h) (Or.inl ⟨by rfl, ?_⟩) ?_ ?_
  rotate_left
  · intro w'
    go_simp
    with_reducible rfl
  rotate_left
  · simp only [Act.put, List.setIfInBounds_toArray, List.set_cons_zero, List.set_cons_succ, i64_w, i32_w]
    rfl
  refine pure_ (i := 7) (N := some 16) (v := ?_) (a' := ?_) #[true, true, true, true, true, true, true, true, false, false] rfl rfl (any_of HT_.out (by kernel_rfl)) (fun _ _ _ h => h) (Or.inl ⟨by rfl, ?_⟩) ?_ ?_
  rotate_left
  · intro w'
    go_simp
    with_reducible rfl
  rotate_left
  · simp only [Act.put, List.setIfInBounds_toArray, List.set_cons_zero, List.set_cons_succ, i64_w, i32_w]
    rfl
  refine pure_ (i := 8) (N := some 5) (v := ?_) (a' := ?_) #[true, true, true, true, true, true, true, true, true, false] rfl rfl (any_of HT_.out (by kernel_rfl)) (fun _ _ _ h => h) (Or.inl ⟨by rfl, ?_⟩) ?_ ?_
  rotate_left
  · intro w'
    go_simp
    with_reducible rfl
  rotate_left
  · simp only [Act.put, List.setIfInBounds_toArray, List.set_cons_zero, List.set_cons_succ, i64_w, i32_w]
    rfl
  refine pure_ (i := 9) (N := some 6) (v := ?_) (a' := ?_) #[true, true, true, true, true, true, true, true, true, true] rfl rfl (any_of HT_.out (by kernel_rfl)) (fun _ _ _ h => h) (Or.inl ⟨by rfl, ?_⟩) ?_ ?_
  rotate_left
  · intro w'
    go_simp
    with_reducible rfl
  rotate_left
  · simp only [Act.put, List.setIfInBounds_toArray, List.set_cons_zero, List.set_cons_succ, i64_w, i32_w]
    rfl
  refine done_ (done_of HT_.out (by kernel_rfl)) ?_
  try go_wp2
  (try rw [show ∀ (W_ : World) (n_ : Nat) (a_ : Addr) (v_ : Value), (W_.drewN n_).setCell a_ v_ = (W_.setCell a_ v_).drewN n_ from fun _ _ _ _ => rfl])
  have n0_ := Aside0.mk (blk_drew BK237.out)
  have n1_ := Aside0.mk (blk_drew BK238.out)
  have n2_ := Aside0.mk (below_drew1 HB.out)
  clear BK237
  clear BK238
  clear HB
  have BK237 := n0_
  have BK238 := n1_
  have HB := n2_
  clear n0_ n1_ n2_
  refine start_ (n := 10) (S := fun w' => w'.cell? ⟨gb237, 0, none⟩ = some (.int .i64 a0_0) ∧ w'.cell? ⟨gb237, 1, none⟩ = some (.int .i64 a0_1) ∧ w'.cell? ⟨gb238, 0, none⟩ = some (.int .i64 a1_0) ∧ w'.cell? ⟨gb238, 1, none⟩ = some (.int .i64 a1_1) ∧ w'.cell? ⟨gb238, 2, none⟩ = some (.bool a1_2) ∧ w'.cell? ⟨gb238, 3, none⟩ = some (.bool a1_3)) (ds := []) #[false, false, false, false, false, false, false, false, false, false] (by kernel_rfl) rfl rfl ⟨(blk_cell BK237.out 0).trans rfl, (blk_cell BK237.out 1).trans rfl, (blk_cell BK238.out 0).trans rfl, (blk_cell BK238.out 1).trans rfl, (blk_cell BK238.out 2).trans rfl, (blk_cell BK238.out 3).trans rfl⟩ (fun hHeld => ?_); refine with_tabW laws_FnExactCountCrossings.tab2 laws_FnExactCountCrossings.bits2 (fun HT_ HW_ => ?_)
  generalize w15.drew = w16 at BK237 BK238 HB hHeld ⊢
  refine take_ (i := 0) (N := some 18) (v := ?_) (a' := ?_) #[true, false, false, false, false, false, false, false, false, false] rfl rfl (take_ofW HT_.out HW_.out (by kernel_rfl)) (fun _ _ _ h => h) (Or.inl ⟨by rfl, ?_⟩) hHeld ?_ ?_
  rotate_left
  · rintro w' ⟨s0, s1, s2, s3, s4, s5⟩
    go_simp
    with_reducible rfl
  rotate_left
  · simp only [Act.put, List.setIfInBounds_toArray, List.set_cons_zero, List.set_cons_succ, i64_w, i32_w]
    rfl
  refine take_ (i := 2) (N := some 20) (v := ?_) (a' := ?_) #[true, false, true, false, false, false, false, false, false, false] rfl rfl (take_ofW HT_.out HW_.out (by kernel_rfl)) (fun _ _ _ h => h) (Or.inl ⟨by rfl, ?_⟩) hHeld ?_ ?_
  rotate_left
  · rintro w' ⟨s0, s1, s2, s3, s4, s5⟩
    go_simp
    with_reducible rfl
  rotate_left
  · simp only [Act.put, List.setIfInBounds_toArray, List.set_cons_zero, List.set_cons_succ, i64_w, i32_w]
    rfl
  refine one_ (i := 1) (N := some 19) #[true, true, true, false, false, false, false, false, false, false] rfl rfl (one_of HT_.out (by kernel_rfl)) (by decide) (fun K hK => ?_)
  refine goes_ Try.func8 (by kernel_rfl) rfl #[.agg #[.int .i64 a0_0, .int .i64 a0_1]] (by rfl) rfl rfl (by (try simp only [List.map_toArray, List.map_cons, List.map_nil]); first | done | rfl | (simp only [List.length_drop, List.length_take]; rfl)) ?_
  with_reducible refine (laws_toTable.calls a0_0 a0_1 t247 t248 _ A6.out).mono ?_
  rintro e w17 ⟨rfl, hb⟩
  refine ⟨_, rfl, ?_⟩
  have n0_ := Aside0.mk (blk_below (g := gb237) (o := .cells #[.int .i64 a0_0, .int .i64 a0_1] 23 (0, 0)) (by (with_reducible repeat (first | refine blk_drewN ?_ _ | refine blk_drew ?_ | refine blk_alloc ?_ _)); exact BK237.out) hb)
  have n1_ := Aside0.mk (blk_below (g := gb238) (o := .cells #[.int .i64 a1_0, .int .i64 a1_1, .bool a1_2, .bool a1_3] 25 (0, 0)) (by (with_reducible repeat (first | refine blk_drewN ?_ _ | refine blk_drew ?_ | refine blk_alloc ?_ _)); exact BK238.out) hb)
  have n2_ := Aside0.mk (below_step (by repeat (first | (with_reducible first | exact HB.out | apply below_alloc | apply pw_below_drewN | apply below_drew1 | refine below_set ?_ GE237.out | refine below_set ?_ GE238.out) | exact HB.out)) hb)
  clear BK237
  clear BK238
  clear HB
  have BK237 := n0_
  have BK238 := n1_
  have HB := n2_
  clear n0_ n1_ n2_
  (try clear hb)
  (try clear hb2)
  (try clear hk)
  (try clear hi)
  refine hK.out _ _ ⟨(blk_cell BK237.out 0).trans rfl, (blk_cell BK237.out 1).trans rfl, (blk_cell BK238.out 0).trans rfl, (blk_cell BK238.out 1).trans rfl, (blk_cell BK238.out 2).trans rfl, (blk_cell BK238.out 3).trans rfl⟩ (fun hHeld => ?_)
  clear hK K
  refine norm_ (a' := ?_) ?_ ?_
  rotate_left
  · show Act.put _ (some 19) _ = _
    simp only [Act.put, List.setIfInBounds_toArray, List.set_cons_zero, List.set_cons_succ, i64_w, i32_w]
    rfl
  refine one_ (i := 3) (N := some 21) #[true, true, true, true, false, false, false, false, false, false] rfl rfl (one_of HT_.out (by kernel_rfl)) (by decide) (fun K hK => ?_)
  refine goes_ Try.func9 (by kernel_rfl) rfl #[.agg #[.int .i64 a1_0, .int .i64 a1_1, .bool a1_2, .bool a1_3]] (by rfl) rfl rfl (by (try simp only [List.map_toArray, List.map_cons, List.map_nil]); first | done | rfl | (simp only [List.length_drop, List.length_take]; rfl)) ?_
  with_reducible refine (laws_toBeam.calls a1_0 a1_1 a1_2 a1_3 t249 t250 t251 t252 _ A7.out).mono ?_
  rintro e w18 ⟨rfl, hb⟩
  refine ⟨_, rfl, ?_⟩
  have n0_ := Aside0.mk (blk_below (g := gb237) (o := .cells #[.int .i64 a0_0, .int .i64 a0_1] 23 (0, 0)) (by (with_reducible repeat (first | refine blk_drewN ?_ _ | refine blk_drew ?_ | refine blk_alloc ?_ _)); exact BK237.out) hb)
  have n1_ := Aside0.mk (blk_below (g := gb238) (o := .cells #[.int .i64 a1_0, .int .i64 a1_1, .bool a1_2, .bool a1_3] 25 (0, 0)) (by (with_reducible repeat (first | refine blk_drewN ?_ _ | refine blk_drew ?_ | refine blk_alloc ?_ _)); exact BK238.out) hb)
  have n2_ := Aside0.mk (below_step (by repeat (first | (with_reducible first | exact HB.out | apply below_alloc | apply pw_below_drewN | apply below_drew1 | refine below_set ?_ GE237.out | refine below_set ?_ GE238.out) | exact HB.out)) hb)
  clear BK237
  clear BK238
  clear HB
  have BK237 := n0_
  have BK238 := n1_
  have HB := n2_
  clear n0_ n1_ n2_
  (try clear hb)
  (try clear hb2)
  (try clear hk)
  (try clear hi)
  refine hK.out _ _ ⟨(blk_cell BK237.out 0).trans rfl, (blk_cell BK237.out 1).trans rfl, (blk_cell BK238.out 0).trans rfl, (blk_cell BK238.out 1).trans rfl, (blk_cell BK238.out 2).trans rfl, (blk_cell BK238.out 3).trans rfl⟩ (fun hHeld => ?_)
  clear hK K
  refine norm_ (a' := ?_) ?_ ?_
  rotate_left
  · show Act.put _ (some 21) _ = _
    simp only [Act.put, List.setIfInBounds_toArray, List.set_cons_zero, List.set_cons_succ, i64_w, i32_w]
    rfl
  refine one_ (i := 4) (N := some 22) #[true, true, true, true, true, false, false, false, false, false] rfl rfl (one_of HT_.out (by kernel_rfl)) (by decide) (fun K hK => ?_)
  refine goes_ Try.func12 (by kernel_rfl) rfl #[.agg #[.int .i64 t247, .int .i64 t248], .agg #[.int .i64 t249, .int .i64 t250, .bool t251, .bool t252]] (by rfl) rfl rfl (by (try simp only [List.map_toArray, List.map_cons, List.map_nil]); first | done | rfl | (simp only [List.length_drop, List.length_take]; rfl)) ?_
  with_reducible refine (impl_CountCrossings.calls t247 t248 t249 t250 t251 t252 t253 t254 _ A8.out).mono ?_
  rintro e w19 ⟨rfl, hb⟩
  refine ⟨_, rfl, ?_⟩
  have n0_ := Aside0.mk (blk_below (g := gb237) (o := .cells #[.int .i64 a0_0, .int .i64 a0_1] 23 (0, 0)) (by (with_reducible repeat (first | refine blk_drewN ?_ _ | refine blk_drew ?_ | refine blk_alloc ?_ _)); exact BK237.out) hb)
  have n1_ := Aside0.mk (blk_below (g := gb238) (o := .cells #[.int .i64 a1_0, .int .i64 a1_1, .bool a1_2, .bool a1_3] 25 (0, 0)) (by (with_reducible repeat (first | refine blk_drewN ?_ _ | refine blk_drew ?_ | refine blk_alloc ?_ _)); exact BK238.out) hb)
  have n2_ := Aside0.mk (below_step (by repeat (first | (with_reducible first | exact HB.out | apply below_alloc | apply pw_below_drewN | apply below_drew1 | refine below_set ?_ GE237.out | refine below_set ?_ GE238.out) | exact HB.out)) hb)
  clear BK237
  clear BK238
  clear HB
  have BK237 := n0_
  have BK238 := n1_
  have HB := n2_
  clear n0_ n1_ n2_
  (try clear hb)
  (try clear hb2)
  (try clear hk)
  (try clear hi)
  refine hK.out _ _ ⟨(blk_cell BK237.out 0).trans rfl, (blk_cell BK237.out 1).trans rfl, (blk_cell BK238.out 0).trans rfl, (blk_cell BK238.out 1).trans rfl, (blk_cell BK238.out 2).trans rfl, (blk_cell BK238.out 3).trans rfl⟩ (fun hHeld => ?_)
  clear hK K
  refine norm_ (a' := ?_) ?_ ?_
  rotate_left
  · show Act.put _ (some 22) _ = _
    simp only [Act.put, List.setIfInBounds_toArray, List.set_cons_zero, List.set_cons_succ, i64_w, i32_w]
    rfl
  refine pure_ (i := 5) (N := some 17) (v := ?_) (a' := ?_) #[true, true, true, true, true, true, false, false, false, false] rfl rfl (any_of HT_.out (by kernel_rfl)) (fun _ _ _ h => h) (Or.inl ⟨by rfl, ?_⟩) ?_ ?_
  rotate_left
  · intro w'
    go_simp
    with_reducible rfl
  rotate_left
  · simp only [Act.put, List.setIfInBounds_toArray, List.set_cons_zero, List.set_cons_succ, i64_w, i32_w]
    rfl
  refine pure_ (i := 6) (N := some 23) (v := ?_) (a' := ?_) #[true, true, true, true, true, true, true, false, false, false] rfl rfl (any_of HT_.out (by kernel_rfl)) (fun _ _ _ h => h) (Or.inl ⟨by rfl, ?_⟩) ?_ ?_
  rotate_left
  · intro w'
    go_simp
    with_reducible rfl
  rotate_left
  · simp only [Act.put, List.setIfInBounds_toArray, List.set_cons_zero, List.set_cons_succ, i64_w, i32_w]
    rfl
  refine pure_ (i := 7) (N := some 24) (v := ?_) (a' := ?_) #[true, true, true, true, true, true, true, true, false, false] rfl rfl (any_of HT_.out (by kernel_rfl)) (fun _ _ _ h => h) (Or.inl ⟨by rfl, ?_⟩) ?_ ?_
  rotate_left
  · intro w'
    go_simp
    with_reducible rfl
  rotate_left
  · simp only [Act.put, List.setIfInBounds_toArray, List.set_cons_zero, List.set_cons_succ, i64_w, i32_w]
    rfl
  refine pure_ (i := 8) (N := some 7) (v := ?_) (a' := ?_) #[true, true, true, true, true, true, true, true, true, false] rfl rfl (any_of HT_.out (by kernel_rfl)) (fun _ _ _ h => h) (Or.inl ⟨by rfl, ?_⟩) ?_ ?_
  rotate_left
  · intro w'
    go_simp
    with_reducible rfl
  rotate_left
  · simp only [Act.put, List.setIfInBounds_toArray, List.set_cons_zero, List.set_cons_succ, i64_w, i32_w]
    rfl
  refine pure_ (i := 9) (N := some 8) (v := ?_) (a' := ?_) #[true, true, true, true, true, true, true, true, true, true] rfl rfl (any_of HT_.out (by kernel_rfl)) (fun _ _ _ h => h) (Or.inl ⟨by rfl, ?_⟩) ?_ ?_
  rotate_left
  · intro w'
    go_simp
    with_reducible rfl
  rotate_left
  · simp only [Act.put, List.setIfInBounds_toArray, List.set_cons_zero, List.set_cons_succ, i64_w, i32_w]
    rfl
  refine done_ (done_of HT_.out (by kernel_rfl)) ?_
  go_upto_region 3 with (fail)
  go_cut [32] (fun v32 wc => ∃ (kq : Nat) (x32_8 : Bool), v32 = .bool x32_8 ∧ Aside0 (laws_FnExactCountCrossings.j0 kq x32_8 = some r) ∧ Aside0 (kq ≤ k) ∧ Aside0 (wc.heap[gb237]? = some (.cells #[.int .i64 a0_0, .int .i64 a0_1] 23 (0, 0))) ∧ Aside0 (wc.heap[gb238]? = some (.cells #[.int .i64 a1_0, .int .i64 a1_1, .bool a1_2, .bool a1_3] 25 (0, 0))) ∧ Aside0 (Below w.heap.size w wc))
  case first =>
    have H := HC9.out
    clear HC9
    by_cases c20 : t253 = t245
    · rw [if_pos c20] at H
      have c20b0 : (t253 == t245) = true := beq_iff_eq.mpr c20
      have c20b1 : (t253 != t245) = false := bne_eq_false_iff_eq.mpr c20
      clear c20
      (first | rw [c20b0] | (simp only [i64_w, i32_w]; rw [c20b0]) | skip)
      have H' := Aside0.mk H
      clear H
      go_wp2
      go_meet
      case rel => exact ⟨_, ((t254 != t246)), (by first | rfl | (simp; done) | (simp [*]; done)), H', ⟨by first | omega | exact Nat.le_refl _⟩, ⟨by (with_reducible repeat (first | refine blk_drewN ?_ _ | refine blk_drew ?_ | refine blk_alloc ?_ _)); exact BK237.out⟩, ⟨by (with_reducible repeat (first | refine blk_drewN ?_ _ | refine blk_drew ?_ | refine blk_alloc ?_ _)); exact BK238.out⟩, ⟨by repeat (first | (with_reducible first | exact HB.out | apply below_alloc | apply pw_below_drewN | apply below_drew1 | refine below_set ?_ GE237.out | refine below_set ?_ GE238.out) | exact HB.out)⟩⟩
    · rw [if_neg c20] at H
      have c20b0 : (t253 == t245) = false := beq_eq_false_iff_ne.mpr c20
      have c20b1 : (t253 != t245) = true := bne_iff_ne.mpr c20
      (first | rw [c20b0] | (simp only [i64_w, i32_w]; rw [c20b0]) | skip)
      cases k with
      | zero => exact absurd H (by simp [laws_FnExactCountCrossings.j0])
      | succ kz_ =>
        simp only [laws_FnExactCountCrossings.j0] at H
        exact absurd (Option.some.inj (by first | exact H | (rw [if_pos rfl] at H; exact H) | (simpa using H) : (some false : Option Bool) = some r)) (by rw [HT_l.out]; decide)
  case rest =>
    clear HC9
    try clear c1
    try clear c2
    try clear p2
    try clear c4
    try clear c8
    try clear c9
    try clear c11
    try clear c12
    try clear c20
    try clear c20b0
    try clear c20b1
    obtain ⟨kq, x32_8, rfl, HA, HJ8, BK237, BK238, HB⟩ := hcut
    cases kq with
    | zero => exact absurd HA.out (by simp [laws_FnExactCountCrossings.j0])
    | succ kj8 =>
      have H := HA.out
      clear HA
      simp only [laws_FnExactCountCrossings.j0] at H
      by_cases c21 : x32_8 = true
      · subst c21
        have H1 : (some false) = some r := by rw [if_pos rfl] at H; exact H
        clear H
        have H := H1
        clear H1
        exact absurd (Option.some.inj H) (by rw [HT_l.out]; decide)
      · replace c21 := Bool.eq_false_iff.mpr c21
        subst c21
        have H1 : (some true) = some r := by rw [if_neg (show ¬ (false = true) by decide)] at H; exact H
        clear H
        have H := H1
        clear H1
        obtain rfl := Option.some.inj H
        go_wp2
        go_ret
        exact ⟨by first | rfl | (simp [errW_none, errW_some] <;> rfl) | (simp [*, errW_none, errW_some] <;> rfl), by repeat (first | (with_reducible first | exact HB.out | apply below_alloc | apply pw_below_drewN | apply below_drew1 | refine below_set ?_ GE237.out | refine below_set ?_ GE238.out) | exact HB.out)⟩

/-- THE ONE PURE STATEMENT of laws_FnExactCountCrossings: yours. -/
def laws_FnExactCountCrossings.Pure : Prop := ∀ (a0_0 : Int) (a0_1 : Int) (a1_0 : Int) (a1_1 : Int) (a1_2 : Bool) (a1_3 : Bool), (Lit.int .i64 a0_0).wf = true → (Lit.int .i64 a0_1).wf = true → (Lit.int .i64 a1_0).wf = true → (Lit.int .i64 a1_1).wf = true → ∃ k, laws_FnExactCountCrossings.f k a0_0 a0_1 a1_0 a1_1 a1_2 a1_3 = some true
theorem laws_FnExactCountCrossings.walk (P : laws_FnExactCountCrossings.Pure) (a0_0 : Int) (a0_1 : Int) (a1_0 : Int) (a1_1 : Int) (a1_2 : Bool) (a1_3 : Bool) (w : World) (w0_0 : (Lit.int .i64 a0_0).wf = true) (w0_1 : (Lit.int .i64 a0_1).wf = true) (w1_0 : (Lit.int .i64 a1_0).wf = true) (w1_1 : (Lit.int .i64 a1_1).wf = true) :
    Calls Try.prog 4 #[.agg #[.int .i64 a0_0, .int .i64 a0_1], .agg #[.int .i64 a1_0, .int .i64 a1_1, .bool a1_2, .bool a1_3]] w fun e w' => e = .returned (.bool true) ∧ Below w.heap.size w w' := by
  obtain ⟨k, h⟩ := P a0_0 a0_1 a1_0 a1_1 a1_2 a1_3 w0_0 w0_1 w1_0 w1_1
  refine (laws_FnExactCountCrossings.calls k a0_0 a0_1 a1_0 a1_1 a1_2 a1_3 true w h rfl).mono ?_
  rintro e w' ⟨rfl, hd⟩
  exact ⟨rfl, hd⟩

end Go.Proofs.Ythfbjofmcniogaa.PFnExactCountCrossings
