/- For every input the law of the mirrors' images answers true; no condition beyond the lists' lengths and the bytes' kinds. -/
import Derived.Test.YtnmhefdjakjngaaGreatDoorPFnMirrorsFacex13
namespace Go.Proofs.YtnmhefdjakjngaaGreatDoor.Pure
open Go.RowKit Go.Proofs.YtnmhefdjakjngaaGreatDoor.PFnMirrorsFace Go.Proofs.YtnmhefdjakjngaaGreatDoorW.PrintWords Go.Proofs.YtnmhefdjakjngaaGreatDoorW.PrintLast
set_option linter.unusedVariables false
set_option linter.unusedSimpArgs false

namespace LFnMirrorsFace
theorem within_eq (a b c : Int) : impl_within.f a b c = some (decide (b ≤ a ∧ a ≤ c)) := by
  by_cases h1 : b ≤ a <;> by_cases h2 : a ≤ c <;> simp [impl_within.f, h1, h2]

theorem l1In_eq (a b c : Int) : spec_l1In.f a b c = some (decide (b ≤ a ∧ a ≤ c)) := by
  by_cases h1 : b ≤ a <;> by_cases h2 : a ≤ c <;> simp [spec_l1In.f, h1, h2]

theorem wrap_id {n : Int} (h0 : -9223372036854775808 ≤ n) (h1 : n ≤ 9223372036854775807) : wrap64 n = n := by
  unfold wrap64
  omega

/-- Where a place seems to be behind one mirror, and behind the other. -/
def n1 (x : Int) : Int := Int.tmod (360 - x) 360
def n2 (A x : Int) : Int := Int.tmod (2 * A - x + 360) 360
def mk (s : Int) (st : List Int × List Int) (y : Int) : List Int × List Int := if rd st.1 y < 0 then (st.1.set y.toNat s, st.2 ++ [y]) else st
def ringF (A s : Int) : List Int × List Int → List Int → List Int × List Int
  | st, [] => st
  | st, x :: r => ringF A s (mk s (mk s st (n1 x)) (n2 A x)) r
def cnt (out : List Int) : Nat := out.countP fun v => decide (v < 0)
def rings (A : Int) : Nat → List Int → List Int → Int → List Int
  | 0, out, _, _ => out
  | n + 1, out, [], _ => out
  | n + 1, out, x :: r, s => rings A n (ringF A s (out, []) (x :: r)).1 (ringF A s (out, []) (x :: r)).2 (s + 1)
def inR (y : Int) : Prop := 0 ≤ y ∧ y < 360
theorem n1_eq {x : Int} (h : inR x) : n1 x = (360 - x) % 360 := by
  unfold n1
  obtain ⟨a, b⟩ := h
  rw [Int.tmod_eq_emod_of_nonneg (by omega)]
theorem n2_eq {A x : Int} (hA : 0 ≤ A) (h : inR x) : n2 A x = (2 * A - x + 360) % 360 := by
  unfold n2
  obtain ⟨a, b⟩ := h
  rw [Int.tmod_eq_emod_of_nonneg (by omega)]
theorem n1_in {x : Int} (h : inR x) : inR (n1 x) := by
  rw [n1_eq h]
  exact ⟨Int.emod_nonneg _ (by omega), Int.emod_lt_of_pos _ (by omega)⟩
theorem n2_in {A x : Int} (hA : 0 ≤ A) (h : inR x) : inR (n2 A x) := by
  rw [n2_eq hA h]
  exact ⟨Int.emod_nonneg _ (by omega), Int.emod_lt_of_pos _ (by omega)⟩
theorem rd_lt {l : List Int} {i : Int} (h0 : 0 ≤ i) (h : i < l.length) : ∃ hl : i.toNat < l.length, rd l i = l[i.toNat] := by
  refine ⟨by omega, ?_⟩
  unfold rd
  rw [List.getD_eq_getElem?_getD, List.getElem?_eq_getElem (by omega)]
  rfl
theorem rd_set {l : List Int} {i j v : Int} (hi : 0 ≤ i) (hil : i < l.length) (hj : 0 ≤ j) : rd (l.set i.toNat v) j = if j = i then v else rd l j := by
  unfold rd
  rw [List.getD_eq_getElem?_getD, List.getD_eq_getElem?_getD, List.getElem?_set]
  by_cases c : j = i
  · subst c
    rw [if_pos rfl, if_pos (by omega), if_pos rfl]
    rfl
  · rw [if_neg (by omega), if_neg c]
theorem cnt_set {l : List Int} {y s : Int} (h0 : 0 ≤ y) (hl : y < l.length) (hy : rd l y < 0) (hs : 0 ≤ s) : cnt (l.set y.toNat s) + 1 = cnt l := by
  obtain ⟨hl', e⟩ := rd_lt h0 hl
  rw [e] at hy
  have key : ∀ (l : List Int) (n : Nat) (h : n < l.length), l[n] < 0 → (l.set n s).countP (fun v => decide (v < 0)) + 1 = l.countP fun v => decide (v < 0) := by
    intro l
    induction l with
    | nil => intro n h; simp at h
    | cons a t ih =>
      intro n h hn
      cases n with
      | zero =>
        simp only [List.getElem_cons_zero] at hn
        rw [List.set_cons_zero, List.countP_cons, List.countP_cons, decide_eq_true hn, decide_eq_false (by omega : ¬ s < 0)]
        simp
      | succ n =>
        simp only [List.getElem_cons_succ] at hn
        have := ih n (by simpa using h) hn
        rw [List.set_cons_succ, List.countP_cons, List.countP_cons, ← this]
        omega
  exact key l y.toNat hl' hy
/-- What a visit keeps. -/
structure Bf (st : List Int × List Int) (m : Nat) : Prop where
  len : st.1.length = 360
  all : ∀ y ∈ st.2, inR y
  sum : cnt st.1 + st.2.length = m
theorem mk_bf {st : List Int × List Int} {m : Nat} {s y : Int} (h : Bf st m) (hy : inR y) (hs : 0 ≤ s) : Bf (mk s st y) m := by
  unfold mk
  obtain ⟨h1, h2, h3⟩ := h
  obtain ⟨a, b⟩ := hy
  by_cases c : rd st.1 y < 0
  · rw [if_pos c]
    refine ⟨by simpa using h1, ?_, ?_⟩
    · intro z hz
      simp only [List.mem_append, List.mem_singleton] at hz
      rcases hz with hz | hz
      · exact h2 z hz
      · rw [hz]; exact ⟨a, b⟩
    · have := cnt_set (s := s) a (by omega) c hs
      simp only [List.length_append, List.length_cons, List.length_nil]
      omega
  · rw [if_neg c]
    exact ⟨h1, h2, h3⟩
theorem ringF_bf {A s : Int} (hA : 0 ≤ A) (hs : 0 ≤ s) : ∀ (r : List Int) (st : List Int × List Int) (m : Nat), (∀ y ∈ r, inR y) → Bf st m → Bf (ringF A s st r) m := by
  intro r
  induction r with
  | nil => intro st m _ h; exact h
  | cons x r ih =>
    intro st m hr h
    have hx := hr x (by simp)
    exact ih _ m (fun y hy => hr y (by simp [hy])) (mk_bf (mk_bf h (n1_in hx) hs) (n2_in hA hx) hs)
/-- More rounds than needed change nothing. -/
theorem rings_more {A : Int} (hA : 0 ≤ A) : ∀ (n m : Nat) (out ring : List Int) (s : Int), out.length = 360 → (∀ y ∈ ring, inR y) → 0 ≤ s → cnt out + 2 ≤ n → cnt out + 2 ≤ m → rings A n out ring s = rings A m out ring s := by
  intro n
  induction n with
  | zero => intro m out ring s _ _ _ h; omega
  | succ n ih =>
    intro m out ring s hl hr hs h1 h2
    obtain ⟨m, rfl⟩ : ∃ q, m = q + 1 := ⟨m - 1, by omega⟩
    cases ring with
    | nil => rfl
    | cons x r =>
      have hb := ringF_bf hA hs (x :: r) (out, []) (cnt out) hr ⟨hl, by simp, by simp⟩
      simp only [rings]
      generalize ringF A s (out, []) (x :: r) = st at hb
      obtain ⟨o, q⟩ := st
      obtain ⟨b1, b2, b3⟩ := hb
      simp only at b1 b2 b3 ⊢
      cases q with
      | nil =>
        cases n with
        | zero => omega
        | succ n =>
          cases m with
          | zero => omega
          | succ m => rfl
      | cons z q => exact ih m o (z :: q) (s + 1) b1 b2 (by omega) (by simp at b3; omega) (by simp at b3; omega)

theorem l2_step (k : Nat) {A s : Int} {out nxt ring : List Int} {i : Nat} (hA : 0 ≤ A ∧ A ≤ 90) (hl : out.length = 360) (hn : nxt.length < 1000) (hi : i < ring.length) (hx : inR (rd ring i)) (hs : 0 ≤ s) (hb : ∀ y ∈ nxt, inR y) (hsz : ring.length ≤ 1000) :
    spec_miSteps.l2 (k + 4) A out s nxt ring ring.length i = spec_miSteps.l2 k A (mk s (mk s (out, nxt) (n1 (rd ring i))) (n2 A (rd ring i))).1 s (mk s (mk s (out, nxt) (n1 (rd ring i))) (n2 A (rd ring i))).2 ring ring.length ((i + 1 : Nat) : Int) := by
  have i1 := n1_in hx
  have i2 := n2_in hA.1 hx
  have hi1 : (i : Int) < (ring.length : Int) := by omega
  have hi0 : (0 : Int) ≤ i := by omega
  have e1 : Int.tmod (wrap64 (360 - rd ring i)) 360 = n1 (rd ring i) := by rw [wrap_id (by have := hx.2; omega) (by have := hx.1; omega)]; rfl
  have e2 : Int.tmod (wrap64 (wrap64 (wrap64 (2 * A) - rd ring i) + 360)) 360 = n2 A (rd ring i) := by
    have := hx.1
    have := hx.2
    rw [wrap_id (n := 2 * A) (by omega) (by omega), wrap_id (n := 2 * A - rd ring i) (by omega) (by omega), wrap_id (by omega) (by omega)]
    rfl
  have w0 : wrap64 ((0 : Int) + 1) = 1 := wrap_id (by omega) (by omega)
  have w1 : wrap64 ((1 : Int) + 1) = 2 := wrap_id (by omega) (by omega)
  have wi : wrap64 ((i : Int) + 1) = ((i + 1 : Nat) : Int) := by rw [wrap_id (by omega) (by omega)]; omega
  rw [spec_miSteps.l2]
  refine (if_pos hi1).trans ((if_pos hi0).trans ((if_pos hi1).trans ?_))
  rw [e1, e2]
  clear e1 e2
  generalize hy1 : n1 (rd ring i) = y1 at i1 ⊢
  generalize hy2 : n2 A (rd ring i) = y2 at i2 ⊢
  simp only [Option.bind_some]
  have lp : ((([y1, y2] : List Int).length : Nat) : Int) = 2 := rfl
  have r0 : rd [y1, y2] 0 = y1 := rfl
  have r1 : rd [y1, y2] 1 = y2 := rfl
  -- one element of the pair
  have one : ∀ (k : Nat) (out nxt : List Int) (j : Int) (y : Int), out.length = 360 → nxt.length < 10000 → 0 ≤ j → j < 2 → rd [y1, y2] j = y → inR y →
      spec_miSteps.l3 (k + 1) A out s nxt ring ring.length i [y1, y2] 2 j = spec_miSteps.l3 k A (mk s (out, nxt) y).1 s (mk s (out, nxt) y).2 ring ring.length i [y1, y2] 2 (wrap64 (j + 1)) := by
    intro k out nxt j y hl hn h0 h1 hy hin
    obtain ⟨a, b⟩ := hin
    rw [spec_miSteps.l3, lp, hy]
    refine (if_pos h1).trans ((if_pos h0).trans ((if_pos h1).trans ((if_pos a).trans ((if_pos (show y < (out.length : Int) by omega)).trans ?_))))
    unfold mk
    by_cases c : rd out y < 0
    · rw [if_pos c, if_pos c, if_pos (show nxt.length < 17592186044416 by omega)]
    · rw [if_neg c, if_neg c]
  rw [lp, one (k + 2) out nxt 0 y1 hl (by omega) (by omega) (by omega) r0 i1, w0]
  have l1 : (mk s (out, nxt) y1).1.length = 360 := by unfold mk; split <;> simp [hl]
  have l2 : (mk s (out, nxt) y1).2.length < 10000 := by unfold mk; split <;> simp <;> omega
  rw [one (k + 1) _ _ 1 y2 l1 l2 (by omega) (by omega) r1 i2, w1, spec_miSteps.l3, if_neg (by omega), wi]
theorem l2_run {A s : Int} {ring : List Int} (hA : 0 ≤ A ∧ A ≤ 90) (hs : 0 ≤ s) (hsz : ring.length ≤ 1000) (hr : ∀ y ∈ ring, inR y) : ∀ (rest pre : List Int) (k : Nat) (st : List Int × List Int) (m : Nat), pre ++ rest = ring → Bf st m → m ≤ 360 →
    spec_miSteps.l2 (k + 4 * rest.length + 1) A st.1 s st.2 ring ring.length pre.length = spec_miSteps.l1 k A (ringF A s st rest).1 (ringF A s st rest).2 (wrap64 (s + 1)) := by
  intro rest
  induction rest with
  | nil =>
    intro pre k st m e _ _
    rw [List.append_nil] at e
    subst e
    rw [List.length_nil, Nat.mul_zero, Nat.add_zero, spec_miSteps.l2, if_neg (by omega)]
    rfl
  | cons x rest ih =>
    intro pre k st m e hb hm
    have hx : rd ring pre.length = x := by
      unfold rd
      rw [Int.toNat_natCast, ← e, List.getD_eq_getElem?_getD, List.getElem?_append_right (Nat.le_refl _), Nat.sub_self]
      rfl
    have hin : inR x := hr x (by rw [← e]; simp)
    have hlt : pre.length < ring.length := by rw [← e]; simp
    have hn : st.2.length < 1000 := by have := hb.sum; omega
    have := l2_step (k + 4 * rest.length + 1) (out := st.1) (nxt := st.2) (i := pre.length) hA hb.len hn hlt (by rw [hx]; exact hin) hs hb.all hsz
    rw [hx] at this
    rw [show k + 4 * (x :: rest).length + 1 = k + 4 * rest.length + 1 + 4 by rw [List.length_cons]; omega, this]
    have e2 : ((pre.length + 1 : Nat) : Int) = ((pre ++ [x]).length : Nat) := by simp
    rw [e2]
    exact ih (pre ++ [x]) k (mk s (mk s (st.1, st.2) (n1 x)) (n2 A x)) m (by simpa using e) (mk_bf (mk_bf hb (n1_in hin) hs) (n2_in hA.1 hin) hs) hm
theorem l1_run {A : Int} (hA : 0 ≤ A ∧ A ≤ 90) : ∀ (n : Nat) (out ring : List Int) (s : Int) (k : Nat), out.length = 360 → (∀ y ∈ ring, inR y) → ring.length ≤ 1000 → 0 ≤ s → (ring ≠ [] → s + cnt out ≤ 400 ∧ cnt out + 2 ≤ n) → cnt out ≤ 360 → 1 ≤ n → 6 * (ring.length + cnt out) + 10 ≤ k →
    spec_miSteps.l1 k A out ring s = some (rings A n out ring s) := by
  intro n
  induction n with
  | zero => intro out ring s k _ _ _ _ _ _ h; omega
  | succ n ih =>
    intro out ring s k hl hr hsz hs hc hm _ hk
    obtain ⟨k, rfl⟩ : ∃ q, k = q + 1 := ⟨k - 1, by omega⟩
    cases ring with
    | nil =>
      rw [spec_miSteps.l1, if_neg (by simp)]
      rfl
    | cons x r =>
      obtain ⟨c1, c2⟩ := hc (by simp)
      have hb0 : Bf (out, []) (cnt out) := ⟨hl, by simp, by simp⟩
      have hb := ringF_bf hA.1 hs (x :: r) (out, []) (cnt out) hr hb0
      obtain ⟨q, hq⟩ : ∃ q, k = q + 4 * (x :: r).length + 1 := ⟨k - 4 * (x :: r).length - 1, by simp only [List.length_cons] at hk ⊢; omega⟩
      rw [spec_miSteps.l1, if_pos (by simp), hq]
      have := l2_run hA hs hsz hr (x :: r) [] q (out, []) (cnt out) rfl hb0 hm
      rw [show (([] : List Int).length : Int) = 0 from rfl] at this
      rw [this, wrap_id (by omega) (by omega)]
      simp only [rings]
      generalize ringF A s (out, []) (x :: r) = st at hb
      obtain ⟨o, p⟩ := st
      obtain ⟨b1, b2, b3⟩ := hb
      simp only at b1 b2 b3 ⊢
      simp only [List.length_cons] at hk hq
      refine ih o p (s + 1) q b1 b2 (by omega) (by omega) (fun hne => ?_) (by omega) (by omega) (by omega)
      have : 0 < p.length := List.length_pos_iff.2 hne
      exact ⟨by omega, by omega⟩
theorem init_l0 (A p : Int) : ∀ (d k i : Nat), i + d = 360 → d < k → spec_miSteps.l0 k A p (List.replicate i (-1) ++ List.replicate d 0) 360 i = (if 0 ≤ p then (if p < 360 then spec_miSteps.l1 (k - d - 1) A ((List.replicate 360 (-1)).set p.toNat 0) [p] 1 else none) else none) := by
  intro d
  induction d with
  | zero =>
    intro k i hi hk
    obtain ⟨k, rfl⟩ : ∃ m, k = m + 1 := ⟨k - 1, by omega⟩
    obtain rfl : i = 360 := by omega
    rw [spec_miSteps.l0, if_neg (by omega)]
    simp only [List.replicate_zero, List.append_nil, List.length_replicate, Nat.add_sub_cancel, Nat.sub_zero]
    rfl
  | succ d ih =>
    intro k i hi hk
    obtain ⟨k, rfl⟩ : ∃ m, k = m + 1 := ⟨k - 1, by omega⟩
    have wi : wrap64 ((i : Int) + 1) = ((i + 1 : Nat) : Int) := by rw [wrap_id (by omega) (by omega)]; omega
    have e : (List.replicate i (-1 : Int) ++ List.replicate (d + 1) 0).set ((i : Int)).toNat (-1) = List.replicate (i + 1) (-1) ++ List.replicate d 0 := by
      rw [Int.toNat_natCast, List.set_append_right _ _ (by simp), List.length_replicate, Nat.sub_self, List.replicate_succ, List.set_cons_zero, List.replicate_succ', List.append_assoc]
      rfl
    rw [spec_miSteps.l0, if_pos (by omega), if_pos (by omega), if_pos (by simp; omega), e, wi, ih k (i + 1) (by omega) (by omega), show k + 1 - (d + 1) - 1 = k - d - 1 by omega]
def start (p : Int) : List Int := (List.replicate 360 (-1)).set p.toNat 0
theorem start_cnt {p : Int} (h : inR p) : cnt (start p) = 359 := by
  have h1 : rd (List.replicate 360 (-1)) p < 0 := by
    obtain ⟨hl, e⟩ := rd_lt (l := List.replicate 360 (-1)) h.1 (by rw [List.length_replicate]; exact h.2)
    rw [e, List.getElem_replicate]
    omega
  have := cnt_set (l := List.replicate 360 (-1)) (y := p) (s := 0) h.1 (by rw [List.length_replicate]; exact h.2) h1 (by omega)
  have h2 : cnt (List.replicate 360 (-1)) = 360 := by unfold cnt; rw [List.countP_replicate]; rfl
  unfold start
  omega
/-- The reference's steps, by rings. -/
theorem miSteps_eq (k : Nat) (hk : 4000 ≤ k) {A p : Int} (hA : 0 ≤ A ∧ A ≤ 90) (hp : inR p) : spec_miSteps.f k A p = some (rings A 400 (start p) [p] 1) := by
  have h0 := init_l0 A p 360 k 0 (by omega) (by omega)
  unfold spec_miSteps.f
  rw [if_pos (by omega)]
  simp only [Option.bind_some, List.length_replicate]
  rw [show (List.replicate 0 (-1 : Int) ++ List.replicate 360 0) = List.replicate 360 0 from rfl] at h0
  refine Eq.trans h0 ?_
  rw [if_pos hp.1, if_pos hp.2]
  have hc := start_cnt hp
  show spec_miSteps.l1 _ A (start p) [p] 1 = _
  refine l1_run hA 400 (start p) [p] 1 _ (by unfold start; rw [List.length_set, List.length_replicate]) (by simpa using hp) (by simp) (by omega) (fun _ => ?_) ?_ (by omega) ?_
  · show _ + ((cnt (start p) : Nat) : Int) ≤ _ ∧ cnt (start p) + 2 ≤ _
    omega
  · show cnt (start p) ≤ _
    omega
  · show 6 * (_ + cnt (start p)) + 10 ≤ _
    simp only [List.length_cons, List.length_nil]
    omega

theorem n1_q {x : Int} (h : inR x) : ∃ q, n1 x = 360 * q - x := ⟨-((360 - x) / 360) + 1, by rw [n1_eq h]; have := Int.emod_add_mul_ediv (360 - x) 360; omega⟩
theorem n2_q {A x : Int} (hA : 0 ≤ A) (h : inR x) : ∃ q, n2 A x = 360 * q + 2 * A - x := ⟨-((2 * A - x + 360) / 360) + 1, by rw [n2_eq hA h]; have := Int.emod_add_mul_ediv (2 * A - x + 360) 360; omega⟩
/-- The places that some reflections lead to. -/
def Pl (A p x : Int) : Prop := 2 * A ∣ x - p ∨ 2 * A ∣ x + p
theorem pl_n1 {A p x : Int} (h360 : 2 * A ∣ 360) (hx : inR x) (h : Pl A p x) : Pl A p (n1 x) := by
  obtain ⟨q, e⟩ := n1_q hx
  have d := Int.dvd_trans h360 (Int.dvd_mul_right 360 q)
  rcases h with h | h
  · refine .inr ?_
    rw [e, show 360 * q - x + p = 360 * q - (x - p) by omega]
    exact Int.dvd_sub d h
  · refine .inl ?_
    rw [e, show 360 * q - x - p = 360 * q - (x + p) by omega]
    exact Int.dvd_sub d h
theorem pl_n2 {A p x : Int} (hA : 0 ≤ A) (h360 : 2 * A ∣ 360) (hx : inR x) (h : Pl A p x) : Pl A p (n2 A x) := by
  obtain ⟨q, e⟩ := n2_q hA hx
  have d := Int.dvd_add (Int.dvd_trans h360 (Int.dvd_mul_right 360 q)) (Int.dvd_refl (2 * A))
  rcases h with h | h
  · refine .inr ?_
    rw [e, show 360 * q + 2 * A - x + p = 360 * q + 2 * A - (x - p) by omega]
    exact Int.dvd_sub d h
  · refine .inl ?_
    rw [e, show 360 * q + 2 * A - x - p = 360 * q + 2 * A - (x + p) by omega]
    exact Int.dvd_sub d h
structure Iv (A p : Int) (st : List Int × List Int) (r : List Int) : Prop where
  len : st.1.length = 360
  inr : ∀ y, y ∈ r ∨ y ∈ st.2 → inR y ∧ 0 ≤ rd st.1 y
  sound : ∀ y, inR y → 0 ≤ rd st.1 y → Pl A p y
  closed : ∀ y, inR y → 0 ≤ rd st.1 y → y ∈ r ∨ y ∈ st.2 ∨ (0 ≤ rd st.1 (n1 y) ∧ 0 ≤ rd st.1 (n2 A y))
  zero : rd st.1 p = 0
  pos : ∀ y, inR y → 0 ≤ rd st.1 y → y ≠ p → 0 < rd st.1 y
theorem mk_up {s : Int} {st : List Int × List Int} {y z : Int} (hl : st.1.length = 360) (hy : inR y) (hz : inR z) (hs : 0 < s) : (0 ≤ rd st.1 z → rd (mk s st y).1 z = rd st.1 z) ∧ 0 ≤ rd (mk s st y).1 y ∧ (0 ≤ rd (mk s st y).1 z → 0 ≤ rd st.1 z ∨ (z = y ∧ rd (mk s st y).1 z = s ∧ y ∈ (mk s st y).2)) ∧ ∀ v, v ∈ st.2 → v ∈ (mk s st y).2 := by
  unfold mk
  by_cases c : rd st.1 y < 0
  · rw [if_pos c]
    have e : ∀ z, inR z → rd (st.1.set y.toNat s) z = if z = y then s else rd st.1 z := fun z hz => rd_set hy.1 (by have := hy.2; omega) hz.1
    simp only [e z hz, e y hy, if_true]
    refine ⟨fun h => ?_, by omega, fun h => ?_, fun v hv => by simp [hv]⟩
    · rw [if_neg (fun h2 => by rw [h2] at h; omega)]
    · by_cases cz : z = y
      · exact .inr ⟨cz, by rw [if_pos cz], by simp⟩
      · rw [if_neg cz] at h; exact .inl h
  · rw [if_neg c]
    exact ⟨fun _ => rfl, by omega, fun h => .inl h, fun v hv => hv⟩
theorem mk_iv {A p s : Int} {st : List Int × List Int} {r : List Int} {y : Int} (h : Iv A p st r) (hA : 0 ≤ A) (hp : inR p) (hy : inR y) (hP : Pl A p y) (hs : 0 < s) : Iv A p (mk s st y) r := by
  have hl : (mk s st y).1.length = 360 := by unfold mk; split <;> simp [h.len]
  have up := fun z (hz : inR z) => mk_up (s := s) (st := st) (y := y) (z := z) h.len hy hz hs
  have keep : ∀ z, inR z → 0 ≤ rd st.1 z → 0 ≤ rd (mk s st y).1 z := fun z hz h0 => by rw [(up z hz).1 h0]; exact h0
  refine ⟨hl, ?_, ?_, ?_, ?_, ?_⟩
  · intro z hz
    have hz' : (inR z ∧ 0 ≤ rd st.1 z) ∨ z = y := by
      rcases hz with hz | hz
      · exact .inl (h.inr z (.inl hz))
      · unfold mk at hz
        by_cases c : rd st.1 y < 0
        · rw [if_pos c] at hz
          simp only [List.mem_append, List.mem_singleton] at hz
          rcases hz with hz | hz
          · exact .inl (h.inr z (.inr hz))
          · exact .inr hz
        · rw [if_neg c] at hz
          exact .inl (h.inr z (.inr hz))
    rcases hz' with ⟨a, b⟩ | rfl
    · exact ⟨a, keep z a b⟩
    · exact ⟨hy, (up z hy).2.1⟩
  · intro z hz h0
    rcases (up z hz).2.2.1 h0 with h1 | ⟨rfl, _, _⟩
    · exact h.sound z hz h1
    · exact hP
  · intro z hz h0
    rcases (up z hz).2.2.1 h0 with h1 | ⟨rfl, _, hm⟩
    · rcases h.closed z hz h1 with c | c | ⟨c, d⟩
      · exact .inl c
      · exact .inr (.inl ((up z hz).2.2.2 z c))
      · exact .inr (.inr ⟨keep _ (n1_in hz) c, keep _ (n2_in hA hz) d⟩)
    · exact .inr (.inl hm)
  · rw [(up p hp).1 (by rw [h.zero]; omega)]
    exact h.zero
  · intro z hz h0 hne
    rcases (up z hz).2.2.1 h0 with h1 | ⟨rfl, e, _⟩
    · rw [(up z hz).1 h1]
      exact h.pos z hz h1 hne
    · omega
theorem step_iv {A p s : Int} {st : List Int × List Int} {r : List Int} {x : Int} (h : Iv A p st (x :: r)) (hA : 0 ≤ A) (h360 : 2 * A ∣ 360) (hp : inR p) (hs : 0 < s) : Iv A p (mk s (mk s st (n1 x)) (n2 A x)) r := by
  obtain ⟨hx, hm⟩ := h.inr x (.inl (by simp))
  have hP := h.sound x hx hm
  have a := mk_iv (s := s) h hA hp (n1_in hx) (pl_n1 h360 hx hP) hs
  have b := mk_iv (s := s) a hA hp (n2_in hA hx) (pl_n2 hA h360 hx hP) hs
  refine ⟨b.len, fun y hy => b.inr y (hy.elim (fun c => .inl (by simp [c])) .inr), b.sound, ?_, b.zero, b.pos⟩
  intro y hy h0
  rcases b.closed y hy h0 with c | c | c
  · rcases List.mem_cons.1 c with c | c
    · subst c
      refine .inr (.inr ⟨?_, ?_⟩)
      · have u := (mk_up (s := s) (st := st) h.len (n1_in hx) (n1_in hx) hs).2.1
        rw [(mk_up (s := s) (st := mk s st (n1 y)) a.len (n2_in hA hx) (n1_in hx) hs).1 u]
        exact u
      · exact (mk_up (s := s) (st := mk s st (n1 y)) a.len (n2_in hA hx) (n2_in hA hx) hs).2.1
    · exact .inl c
  · exact .inr (.inl c)
  · exact .inr (.inr c)
theorem ringF_iv {A p s : Int} (hA : 0 ≤ A) (h360 : 2 * A ∣ 360) (hp : inR p) (hs : 0 < s) : ∀ (r : List Int) (st : List Int × List Int), Iv A p st r → Iv A p (ringF A s st r) [] := by
  intro r
  induction r with
  | nil => intro st h; exact h
  | cons x r ih => intro st h; exact ih _ (step_iv h hA h360 hp hs)
theorem rings_iv {A p : Int} (hA : 0 ≤ A) (h360 : 2 * A ∣ 360) (hp : inR p) : ∀ (n : Nat) (out ring : List Int) (s : Int), 0 < s → (ring ≠ [] → cnt out + 2 ≤ n) → Iv A p (out, []) ring → Iv A p (rings A n out ring s, []) [] := by
  intro n
  induction n with
  | zero =>
    intro out ring s _ hc h
    cases ring with
    | nil => exact h
    | cons x r => have := hc (by simp); omega
  | succ n ih =>
    intro out ring s hs hc h
    cases ring with
    | nil => exact h
    | cons x r =>
      have hin : ∀ y ∈ x :: r, inR y := fun y hy => (h.inr y (.inl hy)).1
      have hb := ringF_bf hA (by omega) (x :: r) (out, []) (cnt out) hin ⟨h.len, by simp, by simp⟩ (s := s)
      have hi := ringF_iv hA h360 hp hs (x :: r) (out, []) h
      simp only [rings]
      generalize ringF A s (out, []) (x :: r) = st at hb hi
      obtain ⟨o, q⟩ := st
      refine ih o q (s + 1) (by omega) (fun hne => ?_) ⟨hi.len, fun y hy => hi.inr y (.inr (hy.elim id (fun c => by simp at c))), hi.sound, fun y hy h0 => (hi.closed y hy h0).elim (fun c => by simp at c) (fun c => c.elim .inl (fun c => .inr (.inr c))), hi.zero, hi.pos⟩
      have := hc (by simp)
      have := hb.sum
      have : 0 < q.length := List.length_pos_iff.2 hne
      simp only at *
      omega
theorem rd_rep {y : Int} (h : inR y) : rd (List.replicate 360 (-1)) y = -1 := by
  obtain ⟨hl, e⟩ := rd_lt (l := List.replicate 360 (-1 : Int)) h.1 (by rw [List.length_replicate]; exact h.2)
  rw [e, List.getElem_replicate]
theorem start_iv {A p : Int} (hp : inR p) : Iv A p (((List.replicate 360 (-1)).set p.toNat 0), []) [p] := by
  have e : ∀ z, inR z → rd ((List.replicate 360 (-1)).set p.toNat 0) z = if z = p then 0 else -1 := by
    intro z hz
    rw [rd_set hp.1 (by rw [List.length_replicate]; exact hp.2) hz.1, rd_rep hz]
  have ep := e p hp
  rw [if_pos rfl] at ep
  refine ⟨by rw [List.length_set, List.length_replicate], ?_, ?_, ?_, ep, ?_⟩
  · intro y hy
    have : y = p := by simpa using hy
    subst this
    exact ⟨hp, by simp only [ep]; omega⟩
  · intro y hy h0
    by_cases c : y = p
    · subst c; exact .inl (by rw [Int.sub_self]; exact Int.dvd_zero _)
    · simp only [e y hy, if_neg c] at h0; omega
  · intro y hy h0
    by_cases c : y = p
    · subst c; exact .inl (by simp)
    · simp only [e y hy, if_neg c] at h0; omega
  · intro y hy h0 hne
    simp only [e y hy, if_neg hne] at h0; omega
theorem inR_mod (z : Int) : inR (z % 360) := ⟨Int.emod_nonneg _ (by omega), Int.emod_lt_of_pos _ (by omega)⟩
theorem mod_of {a b : Int} (hb : inR b) (q : Int) (h : a = b + 360 * q) : a % 360 = b := by
  rw [h, Int.add_mul_emod_self_left]
  exact Int.emod_eq_of_lt hb.1 hb.2
/-- All places of the set are marked. -/
theorem all_marked {A p : Int} {out : List Int} (hA : 0 < A) (h360 : 2 * A ∣ 360) (hp : inR p) (h : Iv A p (out, []) []) {y : Int} (hy : inR y) (hP : Pl A p y) : 0 ≤ rd out y := by
  have cl : ∀ z, inR z → 0 ≤ rd out z → 0 ≤ rd out (n1 z) ∧ 0 ≤ rd out (n2 A z) := by
    intro z hz h0
    rcases h.closed z hz h0 with c | c | c
    · simp at c
    · simp at c
    · exact c
  have fwd : ∀ j : Nat, 0 ≤ rd out ((p + 2 * A * j) % 360) := by
    intro j
    induction j with
    | zero =>
      rw [Int.natCast_zero, Int.mul_zero, Int.add_zero, Int.emod_eq_of_lt hp.1 hp.2]
      have := h.zero
      simp only at this
      omega
    | succ j ih =>
      have hi := inR_mod (p + 2 * A * j)
      have c1 := cl _ hi ih
      have c2 := cl _ (n1_in hi) c1.1
      obtain ⟨q1, e1⟩ := n1_q hi
      obtain ⟨q2, e2⟩ := n2_q (A := A) (by omega) (n1_in hi)
      have e3 := Int.emod_add_mul_ediv (p + 2 * A * j) 360
      have : (p + 2 * A * ((j + 1 : Nat) : Int)) % 360 = n2 A (n1 ((p + 2 * A * j) % 360)) := by
        refine mod_of (n2_in (by omega) (n1_in hi)) ((p + 2 * A * j) / 360 + q1 - q2) ?_
        have e4 : 2 * A * ((j + 1 : Nat) : Int) = 2 * A * j + 2 * A := by rw [Int.natCast_add, Int.mul_add]; omega
        rw [e2, e1, e4]
        omega
      rw [this]
      exact c2.2
  have main : ∀ y, inR y → 2 * A ∣ y - p → 0 ≤ rd out y := by
    intro y hy hd
    obtain ⟨j, hj⟩ := hd
    obtain ⟨c, hc⟩ := h360
    have e : 2 * A * (j + c) = y - p + 360 := by rw [Int.mul_add, ← hj, ← hc]
    have hpos : 0 ≤ j + c := by
      rcases Int.lt_or_le (j + c) 0 with g | g
      · have h1 : 2 * A * (j + c) < 0 := Int.mul_neg_of_pos_of_neg (by omega) g
        have := hy.1
        have := hp.2
        omega
      · exact g
    have := fwd (j + c).toNat
    rw [Int.toNat_of_nonneg hpos, e, mod_of hy 1 (by omega)] at this
    exact this
  rcases hP with hd | hd
  · exact main y hy hd
  · obtain ⟨q, e⟩ := n1_q hy
    have hn := n1_in hy
    have d := Int.dvd_trans h360 (Int.dvd_mul_right 360 q)
    have h1 : 2 * A ∣ n1 y - p := by
      rw [e, show 360 * q - y - p = 360 * q - (y + p) by omega]
      exact Int.dvd_sub d hd
    have h2 := (cl _ hn (main _ hn h1)).1
    obtain ⟨q2, e2⟩ := n1_q hn
    have hb := n1_in hn
    have : n1 (n1 y) = y := by
      have a1 := hb.1
      have a2 := hb.2
      have b1 := hy.1
      have b2 := hy.2
      omega
    rw [this] at h2
    exact h2
theorem pos_iff {A p : Int} {out : List Int} (hA : 0 < A) (h360 : 2 * A ∣ 360) (hp : inR p) (h : Iv A p (out, []) []) {y : Int} (hy : inR y) : 0 < rd out y ↔ Pl A p y ∧ y ≠ p := by
  constructor
  · intro h0
    refine ⟨h.sound y hy (show 0 ≤ rd out y by omega), fun e => ?_⟩
    have := h.zero
    rw [e] at h0
    simp only at this
    omega
  · rintro ⟨a, b⟩
    exact h.pos y hy (all_marked hA h360 hp h hy a) b

theorem images_l0 (out : List Int) (hl : out.length = 360) : ∀ (d k i : Nat), i + d = 360 → d < k →
    spec_miImages.l0 k (((List.range i).filter fun n : Nat => decide (0 < rd out n)).map fun n : Nat => (n : Int)) out 360 i = some (((List.range 360).filter fun n : Nat => decide (0 < rd out n)).map fun n : Nat => (n : Int)) := by
  intro d
  induction d with
  | zero =>
    intro k i hi hk
    obtain ⟨k, rfl⟩ : ∃ m, k = m + 1 := ⟨k - 1, by omega⟩
    obtain rfl : i = 360 := by omega
    rw [spec_miImages.l0]
    exact if_neg (by omega)
  | succ d ih =>
    intro k i hi hk
    obtain ⟨k, rfl⟩ : ∃ m, k = m + 1 := ⟨k - 1, by omega⟩
    have h1 : (i : Int) < 360 := by omega
    have h0 : (0 : Int) ≤ i := by omega
    have h2 : (i : Int) < (out.length : Int) := by omega
    have wi : wrap64 ((i : Int) + 1) = ((i + 1 : Nat) : Int) := by rw [wrap_id (by omega) (by omega)]; omega
    have hln : (((List.range i).filter fun n : Nat => decide (0 < rd out n)).map fun n : Nat => (n : Int)).length < 17592186044416 := by
      have := List.length_filter_le (fun n : Nat => decide (0 < rd out n)) (List.range i)
      rw [List.length_range] at this
      rw [List.length_map]
      omega
    rw [spec_miImages.l0]
    refine (if_pos h1).trans ((if_pos h0).trans ((if_pos h2).trans ?_))
    rw [wi]
    have hi2 := ih k (i + 1) (by omega) (by omega)
    rw [List.range_succ, List.filter_append, List.map_append] at hi2
    by_cases c : rd out (i : Int) > 0
    · refine (if_pos c).trans ((if_pos hln).trans ?_)
      rw [← hi2, List.filter_cons_of_pos (by simpa using c)]
      rfl
    · refine (if_neg c).trans ?_
      rw [← hi2, List.filter_cons_of_neg (by simpa using c)]
      rw [List.filter_nil, List.map_nil, List.append_nil]
theorem miImages_eq (k : Nat) (hk : 4000 ≤ k) {A p : Int} (hA : 0 ≤ A ∧ A ≤ 90) (hp : inR p) : ∃ out, rings A 400 (start p) [p] 1 = out ∧ out.length = 360 ∧ spec_miSteps.f k A p = some out ∧ spec_miImages.f k A p = some (((List.range 360).filter fun n : Nat => decide (0 < rd out n)).map fun n : Nat => (n : Int)) := by
  refine ⟨_, rfl, ?_, miSteps_eq k hk hA hp, ?_⟩
  · have : ∀ (n : Nat) (out ring : List Int) (s : Int), out.length = 360 → (rings A n out ring s).length = 360 := by
      have m : ∀ (s : Int) (st : List Int × List Int) (y : Int), st.1.length = 360 → (mk s st y).1.length = 360 := fun s st y h => by unfold mk; split <;> simp [h]
      have r : ∀ (s : Int) (r : List Int) (st : List Int × List Int), st.1.length = 360 → (ringF A s st r).1.length = 360 := by
        intro s r
        induction r with
        | nil => intro st h; exact h
        | cons x r ih => intro st h; exact ih _ (m _ _ _ (m _ _ _ h))
      intro n
      induction n with
      | zero => intro out ring s h; exact h
      | succ n ih =>
        intro out ring s h
        cases ring with
        | nil => exact h
        | cons x q => exact ih _ _ _ (r _ _ _ h)
    exact this 400 _ _ _ (by unfold start; rw [List.length_set, List.length_replicate])
  · unfold spec_miImages.f
    rw [miSteps_eq k hk hA hp]
    have hl : (rings A 400 (start p) [p] 1).length = 360 := by
      have hc := start_cnt hp
      have := (l1_run hA 400 (start p) [p] 1 4000 (by unfold start; rw [List.length_set, List.length_replicate]) (by simpa using hp) (by simp) (by omega) (fun _ => by omega) (by omega) (by omega) (by simp only [List.length_cons, List.length_nil]; omega))
      have m : ∀ (s : Int) (st : List Int × List Int) (y : Int), st.1.length = 360 → (mk s st y).1.length = 360 := fun s st y h => by unfold mk; split <;> simp [h]
      have r : ∀ (s : Int) (r : List Int) (st : List Int × List Int), st.1.length = 360 → (ringF A s st r).1.length = 360 := by
        intro s r
        induction r with
        | nil => intro st h; exact h
        | cons x r ih => intro st h; exact ih _ (m _ _ _ (m _ _ _ h))
      have : ∀ (n : Nat) (out ring : List Int) (s : Int), out.length = 360 → (rings A n out ring s).length = 360 := by
        intro n
        induction n with
        | zero => intro out ring s h; exact h
        | succ n ih =>
          intro out ring s h
          cases ring with
          | nil => exact h
          | cons x q => exact ih _ _ _ (r _ _ _ h)
      exact this 400 _ _ _ (by unfold start; rw [List.length_set, List.length_replicate])
    simp only [Option.bind_some]
    rw [hl]
    exact images_l0 _ hl 360 k 0 (by omega) (by omega)

theorem isWedgeAngle_eq (a : Int) : impl_isWedgeAngle.f a = some (decide ((1 ≤ a ∧ a ≤ 90) ∧ (180 : Int) % a = 0)) := by
  unfold impl_isWedgeAngle.f
  rw [within_eq]
  by_cases h : 1 ≤ a ∧ a ≤ 90
  · rw [decide_eq_true h]
    simp only [Option.bind_some, if_true]
    rw [if_neg (by omega)]
    by_cases h2 : (180 : Int) % a = 0 <;> simp [h, h2]
  · rw [decide_eq_false h]
    simp [h]
def wd (a p : Int) : Bool := decide ((1 ≤ a ∧ a ≤ 90) ∧ (180 : Int) % a = 0 ∧ 1 ≤ p ∧ p ≤ a - 1)
theorem isWedge_eq (a p : Int) : impl_isWedge.f a p = some (wd a p) := by
  unfold impl_isWedge.f
  rw [isWedgeAngle_eq]
  by_cases h : 1 ≤ a ∧ a ≤ 90
  · have w : wrap64 (a - 1) = a - 1 := by unfold wrap64; omega
    rw [w]
    by_cases h2 : (180 : Int) % a = 0 <;> by_cases h3 : 1 ≤ p ∧ p ≤ a - 1 <;> simp [h, h2, h3, within_eq, wd]
  · simp [h, wd]
theorem miWedge_eq (a p : Int) : spec_miWedge.f a p = some (wd a p) := by
  unfold spec_miWedge.f
  rw [l1In_eq]
  by_cases h : 1 ≤ a ∧ a ≤ 90
  · have w : wrap64 (a - 1) = a - 1 := by unfold wrap64; omega
    rw [w, decide_eq_true h]
    simp only [Option.bind_some, if_true]
    rw [if_neg (by omega)]
    by_cases h2 : (180 : Int) % a = 0 <;> by_cases h3 : 1 ≤ p ∧ p ≤ a - 1 <;> simp [h, h2, h3, l1In_eq, wd]
  · simp [h, wd]
theorem wd_of {a p : Int} (h : wd a p = true) : (1 ≤ a ∧ a ≤ 90) ∧ (180 : Int) % a = 0 ∧ 1 ≤ p ∧ p ≤ a - 1 := of_decide_eq_true h

theorem mk_pair (s : Int) (out r nxt : List Int) (y : Int) : mk s (out, r ++ nxt) y = ((mk s (out, nxt) y).1, r ++ (mk s (out, nxt) y).2) := by
  unfold mk
  by_cases c : rd out y < 0
  · simp only [if_pos c, List.append_assoc]
  · simp only [if_neg c]
/-- The queue in the midst of a ring: what is left of the ring, what was added. -/
structure Qv (s : Int) (out r nxt : List Int) : Prop where
  len : out.length = 360
  ring : ∀ y ∈ r, inR y ∧ rd out y = s - 1
  more : ∀ y ∈ nxt, inR y ∧ rd out y = s
theorem mk_qv {s : Int} {out r nxt : List Int} {y : Int} (h : Qv s out r nxt) (hy : inR y) (hs : 1 ≤ s) : Qv s (mk s (out, nxt) y).1 r (mk s (out, nxt) y).2 := by
  have up := fun z (hz : inR z) => mk_up (s := s) (st := (out, nxt)) (y := y) (z := z) h.len hy hz (by omega)
  refine ⟨by unfold mk; split <;> simp [h.len], ?_, ?_⟩
  · intro z hz
    obtain ⟨a, b⟩ := h.ring z hz
    exact ⟨a, by rw [(up z a).1 (by simp only; omega)]; exact b⟩
  · intro z hz
    by_cases c : z ∈ nxt
    · obtain ⟨a, b⟩ := h.more z c
      exact ⟨a, by rw [(up z a).1 (by simp only; omega)]; exact b⟩
    · unfold mk at hz ⊢
      by_cases d : rd out y < 0
      · simp only [if_pos d, List.mem_append, List.mem_singleton] at hz ⊢
        rcases hz with hz | rfl
        · exact absurd hz c
        · exact ⟨hy, by rw [rd_set hy.1 (by have := h.len; have := hy.2; omega) hy.1, if_pos rfl]⟩
      · simp only [if_neg d] at hz
        exact absurd hz c
theorem q_step (k : Nat) {A s : Int} {out r nxt : List Int} {x : Int} {m : Nat} (hA : 0 ≤ A ∧ A ≤ 90) (h : Qv s out (x :: r) nxt) (hb : Bf (out, nxt) m) (hm : m ≤ 360) (hr : r.length ≤ 1000) (hs : 1 ≤ s) (hs2 : s ≤ 1000) :
    impl_wedgeSteps.l0 (k + 4) A out (x :: r ++ nxt) = impl_wedgeSteps.l0 k A (mk s (mk s (out, nxt) (n1 x)) (n2 A x)).1 (r ++ (mk s (mk s (out, nxt) (n1 x)) (n2 A x)).2) := by
  obtain ⟨hx, hv⟩ := h.ring x (by simp)
  obtain ⟨x0, x1⟩ := hx
  have i1 := n1_in ⟨x0, x1⟩
  have i2 := n2_in hA.1 ⟨x0, x1⟩
  have w1 : wrap64 (-x) = -x := wrap_id (by omega) (by omega)
  have w2 : wrap64 (wrap64 (2 * A) - x) = 2 * A - x := by rw [wrap_id (n := 2 * A) (by omega) (by omega)]; exact wrap_id (by omega) (by omega)
  have e1 : Int.tmod (wrap64 (-x + 360)) 360 = n1 x := by rw [wrap_id (by omega) (by omega)]; unfold n1; rw [show -x + 360 = 360 - x by omega]
  have e2 : Int.tmod (wrap64 (2 * A - x + 360)) 360 = n2 A x := by rw [wrap_id (by omega) (by omega)]; rfl
  have v0 : wrap64 ((0 : Int) + 1) = 1 := wrap_id (by omega) (by omega)
  have v1 : wrap64 ((1 : Int) + 1) = 2 := wrap_id (by omega) (by omega)
  have vs : wrap64 (s - 1 + 1) = s := by rw [wrap_id (by omega) (by omega)]; omega
  have hx0 : ∀ t : List Int, rd (x :: t) 0 = x := fun t => rfl
  have lq : (((x :: r ++ nxt).length : Nat) : Int) > 0 := by simp only [List.cons_append, List.length_cons]; omega
  have lq' : (0 : Int) < (((x :: r ++ nxt).length : Nat) : Int) := lq
  have lp : ((([-x, 2 * A - x] : List Int).length : Nat) : Int) = 2 := rfl
  have q0 : rd [-x, 2 * A - x] 0 = -x := rfl
  have q1 : rd [-x, 2 * A - x] 1 = 2 * A - x := rfl
  have hn1 : nxt.length ≤ 360 := by have h9 : cnt out + nxt.length = m := hb.sum; omega
  have hl360 : (out.length : Int) = 360 := by rw [h.len]; rfl
  generalize hy1 : n1 x = y1 at i1 e1 ⊢
  generalize hy2 : n2 A x = y2 at i2 e2 ⊢
  -- one of both
  have one : ∀ (k : Nat) (out nxt : List Int) (j p y : Int), Qv s out (x :: r) nxt → nxt.length ≤ 1000 → 0 ≤ j → j < 2 → rd [-x, 2 * A - x] j = p → Int.tmod (wrap64 (p + 360)) 360 = y → inR y →
      impl_wedgeSteps.l1 (k + 1) A out (x :: r ++ nxt) [-x, 2 * A - x] 2 j = impl_wedgeSteps.l1 k A (mk s (out, nxt) y).1 (x :: r ++ (mk s (out, nxt) y).2) [-x, 2 * A - x] 2 (wrap64 (j + 1)) := by
    intro k out nxt j p y hq hn hj0 hj1 hp hy hin
    have hln : (x :: r ++ nxt).length < 17592186044416 := by simp only [List.cons_append, List.length_cons, List.length_append]; omega
    have hgt : (0 : Int) < (((x :: r ++ nxt).length : Nat) : Int) := by simp only [List.cons_append, List.length_cons]; omega
    have hx2 : rd (x :: r ++ nxt) 0 = x := rfl
    have hxl : x < (out.length : Int) := by rw [hq.len]; exact x1
    have hyl : y < (out.length : Int) := by rw [hq.len]; exact hin.2
    have hrx : wrap64 (rd out x + 1) = s := by rw [(hq.ring x (by simp)).2]; exact vs
    rw [impl_wedgeSteps.l1, lp, hp, hy, hx2, hrx]
    refine (if_pos hj1).trans ((if_pos hj0).trans ((if_pos hj1).trans ((if_pos hin.1).trans ((if_pos hyl).trans ?_))))
    unfold mk
    by_cases c : rd out y < 0
    · refine (if_pos c).trans ((if_pos hgt).trans ((if_pos x0).trans ((if_pos hxl).trans ((if_pos hln).trans ?_))))
      simp only [if_pos c, List.append_assoc]
    · refine (if_neg c).trans ?_
      simp only [if_neg c]
  have hq1 := mk_qv h i1 hs
  have hb1 := mk_bf (s := s) hb i1 (by omega)
  have hn2 : (mk s (out, nxt) y1).2.length ≤ 1000 := by have := hb1.sum; omega
  have ld : ∀ t : List Int, (1 : Int) ≤ (((x :: r ++ t).length : Nat) : Int) := fun t => by simp only [List.cons_append, List.length_cons]; omega
  have dr : ∀ t : List Int, (x :: r ++ t).drop (1 : Int).toNat = r ++ t := fun t => rfl
  rw [impl_wedgeSteps.l0]
  refine (if_pos lq).trans ((if_pos lq').trans ?_)
  rw [show rd (x :: r ++ nxt) 0 = x from rfl, w1, w2]
  simp only [Option.bind_some]
  rw [lp, one (k + 2) out nxt 0 (-x) y1 h (by omega) (by omega) (by omega) q0 e1 i1, v0, one (k + 1) _ _ 1 (2 * A - x) y2 hq1 hn2 (by omega) (by omega) q1 e2 i2, v1, impl_wedgeSteps.l1]
  refine (if_neg (by omega)).trans ((if_pos (ld _)).trans ?_)
  rw [dr]
theorem q_ring {A s : Int} (hA : 0 ≤ A ∧ A ≤ 90) (hs : 1 ≤ s) (hs2 : s ≤ 1000) : ∀ (r : List Int) (k : Nat) (st : List Int × List Int) (m : Nat), Qv s st.1 r st.2 → Bf st m → m ≤ 360 → r.length ≤ 1000 →
    impl_wedgeSteps.l0 (k + 4 * r.length) A st.1 (r ++ st.2) = impl_wedgeSteps.l0 k A (ringF A s st r).1 (ringF A s st r).2 ∧ Qv s (ringF A s st r).1 [] (ringF A s st r).2 := by
  intro r
  induction r with
  | nil => intro k st m h _ _ _; exact ⟨rfl, h⟩
  | cons x r ih =>
    intro k st m h hb hm hl
    have hx := (h.ring x (by simp)).1
    simp only [List.length_cons] at hl
    have hq1 := mk_qv h (n1_in hx) hs
    have hq2 := mk_qv hq1 (n2_in hA.1 hx) hs
    have hb2 := mk_bf (s := s) (mk_bf (s := s) hb (n1_in hx) (by omega)) (n2_in hA.1 hx) (by omega)
    have hq3 : Qv s (mk s (mk s st (n1 x)) (n2 A x)).1 r (mk s (mk s st (n1 x)) (n2 A x)).2 := ⟨hq2.len, fun y hy => hq2.ring y (by simp [hy]), hq2.more⟩
    obtain ⟨a, b⟩ := ih k _ m hq3 hb2 hm (by omega)
    refine ⟨?_, b⟩
    rw [show k + 4 * (x :: r).length = k + 4 * r.length + 4 by rw [List.length_cons]; omega]
    exact (q_step (k + 4 * r.length) hA h hb hm (by omega) hs hs2).trans a
theorem q_run {A : Int} (hA : 0 ≤ A ∧ A ≤ 90) : ∀ (n : Nat) (out ring : List Int) (s : Int) (k : Nat), Qv s out ring [] → ring.length ≤ 1000 → 1 ≤ s → (ring ≠ [] → s + cnt out ≤ 400 ∧ cnt out + 2 ≤ n) → cnt out ≤ 360 → 1 ≤ n → 6 * (ring.length + cnt out) + 10 ≤ k →
    impl_wedgeSteps.l0 k A out ring = some (rings A n out ring s) := by
  intro n
  induction n with
  | zero => intro out ring s k _ _ _ _ _ h; omega
  | succ n ih =>
    intro out ring s k hq hsz hs hc hm _ hk
    cases ring with
    | nil =>
      obtain ⟨k, rfl⟩ : ∃ q, k = q + 1 := ⟨k - 1, by omega⟩
      rw [impl_wedgeSteps.l0]
      exact if_neg (by simp)
    | cons x r =>
      obtain ⟨c1, c2⟩ := hc (by simp)
      have hb0 : Bf (out, []) (cnt out) := ⟨hq.len, by simp, by simp⟩
      have hb := ringF_bf hA.1 (by omega) (x :: r) (out, []) (cnt out) (fun y hy => (hq.ring y hy).1) hb0 (s := s)
      obtain ⟨q, hk2⟩ : ∃ q, k = q + 4 * (x :: r).length := ⟨k - 4 * (x :: r).length, by simp only [List.length_cons] at hk ⊢; omega⟩
      obtain ⟨e, hq2⟩ := q_ring hA hs (by omega) (x :: r) q (out, []) (cnt out) hq hb0 hm hsz
      rw [List.append_nil] at e
      rw [hk2, e]
      simp only [rings]
      generalize ringF A s (out, []) (x :: r) = st at hb hq2
      obtain ⟨o, p⟩ := st
      obtain ⟨b1, b2, b3⟩ := hb
      simp only at b1 b2 b3 hq2 ⊢
      simp only [List.length_cons] at hk hk2
      refine ih o p (s + 1) q ⟨b1, fun y hy => ⟨(hq2.more y hy).1, by rw [(hq2.more y hy).2]; omega⟩, by simp⟩ (by omega) (by omega) (fun hne => ?_) (by omega) (by omega) (by omega)
      have : 0 < p.length := List.length_pos_iff.2 hne
      exact ⟨by omega, by omega⟩
/-- The program's steps are the reference's. -/
theorem wedgeSteps_eq (k : Nat) (hk : 4000 ≤ k) {A p : Int} (hA : 0 ≤ A ∧ A ≤ 90) (hp : inR p) : impl_wedgeSteps.f k A p = some (rings A 400 (start p) [p] 1) := by
  have hc := start_cnt hp
  have hl : (start p).length = 360 := by unfold start; rw [List.length_set, List.length_replicate]
  have hrp : rd (start p) p = 0 := by
    unfold start
    rw [rd_set hp.1 (by rw [List.length_replicate]; exact hp.2) hp.1, if_pos rfl]
  have hq : Qv 1 (start p) [p] [] := ⟨hl, fun y hy => by
    have : y = p := by simpa using hy
    subst this
    exact ⟨hp, by rw [hrp]; rfl⟩, by simp⟩
  have e : slices_Repeat_int_int.f [-1] 360 = some (List.replicate 360 (-1)) := by
    unfold slices_Repeat_int_int.f
    rw [if_pos ⟨rfl, rfl⟩]
    rfl
  unfold impl_wedgeSteps.f
  rw [e]
  simp only [Option.bind_some]
  refine (if_pos hp.1).trans ((if_pos (by rw [List.length_replicate]; exact hp.2)).trans ?_)
  exact q_run hA 400 (start p) [p] 1 k hq (by simp) (by omega) (fun _ => by omega) (by omega) (by omega) (by simp only [List.length_cons, List.length_nil]; omega)
theorem rings_len {A p : Int} (hp : inR p) : (rings A 400 (start p) [p] 1).length = 360 := by
  have m : ∀ (s : Int) (st : List Int × List Int) (y : Int), st.1.length = 360 → (mk s st y).1.length = 360 := fun s st y h => by unfold mk; split <;> simp [h]
  have r : ∀ (s : Int) (r : List Int) (st : List Int × List Int), st.1.length = 360 → (ringF A s st r).1.length = 360 := by
    intro s r
    induction r with
    | nil => intro st h; exact h
    | cons x r ih => intro st h; exact ih _ (m _ _ _ (m _ _ _ h))
  have : ∀ (n : Nat) (out ring : List Int) (s : Int), out.length = 360 → (rings A n out ring s).length = 360 := by
    intro n
    induction n with
    | zero => intro out ring s h; exact h
    | succ n ih =>
      intro out ring s h
      cases ring with
      | nil => exact h
      | cons x q => exact ih _ _ _ (r _ _ _ h)
  exact this 400 _ _ _ (by unfold start; rw [List.length_set, List.length_replicate])

def okB (s : ByteArray) : Bool := decide (s.size ≤ 40) && (List.range s.size).all fun i => (bt s (i : Int) == 108 || bt s (i : Int) == 114)
structure okW (s : ByteArray) : Prop where
  size : s.size ≤ 40
  each : ∀ i : Nat, i < s.size → bt s (i : Int) = 108 ∨ bt s (i : Int) = 114
theorem okW_of {s : ByteArray} (h : okB s = true) : okW s := by
  unfold okB at h
  rw [Bool.and_eq_true, decide_eq_true_eq, List.all_eq_true] at h
  refine ⟨h.1, fun i hi => ?_⟩
  have := h.2 i (List.mem_range.2 hi)
  simpa using this
/-- Behind the reflections of a word: both go the same way. -/
theorem after_l0 {w : Int} (hw : 0 ≤ w ∧ w ≤ 500) {s : ByteArray} (hs : okW s) : ∀ (d i : Nat) (a : Int), i + d = s.size → -(1000 * i + 1000) ≤ a → a ≤ 1000 * i + 1000 →
    ∃ z, (∀ k, d < k → spec_miAfter.l0 k w a s i = some z) ∧ (∀ k, d < k → impl_imageAfter.l0 k w a s s.size i = some z) ∧ -(1000 * s.size + 1000) ≤ z ∧ z ≤ 1000 * s.size + 1000 := by
  have h40 := hs.size
  intro d
  induction d with
  | zero =>
    intro i a hi h0 h1
    refine ⟨a, fun k hk => ?_, fun k hk => ?_, by omega, by omega⟩
    · obtain ⟨k, rfl⟩ : ∃ m, k = m + 1 := ⟨k - 1, by omega⟩
      rw [spec_miAfter.l0]
      exact if_neg (by omega)
    · obtain ⟨k, rfl⟩ : ∃ m, k = m + 1 := ⟨k - 1, by omega⟩
      rw [impl_imageAfter.l0]
      exact if_neg (by omega)
  | succ d ih =>
    intro i a hi h0 h1
    have hlt : (i : Int) < (s.size : Int) := by omega
    have hi0 : (0 : Int) ≤ i := by omega
    have w1 : wrap64 (-a) = -a := wrap_id (by omega) (by omega)
    have w2 : wrap64 (2 * w) = 2 * w := wrap_id (by omega) (by omega)
    have w3 : wrap64 (2 * w - a) = 2 * w - a := wrap_id (by omega) (by omega)
    have w4 : wrap64 (-a + 2 * w) = 2 * w - a := by rw [wrap_id (by omega) (by omega)]; omega
    have wi : wrap64 ((i : Int) + 1) = ((i + 1 : Nat) : Int) := by rw [wrap_id (by omega) (by omega)]; omega
    rcases hs.each i (by omega) with c | c
    · obtain ⟨z, e1, e2, b1, b2⟩ := ih (i + 1) (-a) (by omega) (by omega) (by omega)
      refine ⟨z, fun k hk => ?_, fun k hk => ?_, b1, b2⟩
      · obtain ⟨k, rfl⟩ : ∃ m, k = m + 1 := ⟨k - 1, by omega⟩
        rw [spec_miAfter.l0, w1, wi]
        exact (if_pos hlt).trans ((if_pos hi0).trans ((if_pos c).trans (e1 k (by omega))))
      · obtain ⟨k, rfl⟩ : ∃ m, k = m + 1 := ⟨k - 1, by omega⟩
        rw [impl_imageAfter.l0, w1, wi]
        exact (if_pos hlt).trans ((if_pos hi0).trans ((if_pos hlt).trans ((if_neg (by rw [c]; omega)).trans (e2 k (by omega)))))
    · obtain ⟨z, e1, e2, b1, b2⟩ := ih (i + 1) (2 * w - a) (by omega) (by omega) (by omega)
      refine ⟨z, fun k hk => ?_, fun k hk => ?_, b1, b2⟩
      · obtain ⟨k, rfl⟩ : ∃ m, k = m + 1 := ⟨k - 1, by omega⟩
        rw [spec_miAfter.l0, w2, w3, wi]
        exact (if_pos hlt).trans ((if_pos hi0).trans ((if_neg (by rw [c]; omega)).trans (e1 k (by omega))))
      · obtain ⟨k, rfl⟩ : ∃ m, k = m + 1 := ⟨k - 1, by omega⟩
        rw [impl_imageAfter.l0, w1, w2, w4, wi]
        exact (if_pos hlt).trans ((if_pos hi0).trans ((if_pos hlt).trans ((if_pos c).trans (e2 k (by omega)))))
theorem after_eq {w a : Int} (hw : 0 ≤ w ∧ w ≤ 500) (ha : 0 ≤ a ∧ a ≤ 500) {s : ByteArray} (hs : okW s) : ∃ z, (∀ k, 50 ≤ k → spec_miAfter.f k w a s = some z) ∧ (∀ k, 50 ≤ k → impl_imageAfter.f k w a s = some z) := by
  have := hs.size
  obtain ⟨z, e1, e2, _⟩ := after_l0 hw hs s.size 0 a (by omega) (by omega) (by omega)
  exact ⟨z, fun k hk => e1 k (by omega), fun k hk => e2 k (by omega)⟩

def cg (w a : Int) : Bool := decide ((1 ≤ w ∧ w ≤ 500) ∧ 0 ≤ a ∧ a ≤ w)
theorem miGood_eq (w a : Int) : spec_miGood.f w a = some (cg w a) := by
  unfold spec_miGood.f
  simp only [l1In_eq, Option.bind_some, cg]
  by_cases h1 : 1 ≤ w ∧ w ≤ 500 <;> by_cases h2 : 0 ≤ a ∧ a ≤ w <;> simp [h1, h2]
theorem isCorridor_eq (w a : Int) : impl_isCorridor.f w a = some (cg w a) := by
  unfold impl_isCorridor.f
  simp only [within_eq, Option.bind_some, cg]
  by_cases h1 : 1 ≤ w ∧ w ≤ 500 <;> by_cases h2 : 0 ≤ a ∧ a ≤ w <;> simp [h1, h2]
theorem cg_of {w a : Int} (h : cg w a = true) : (1 ≤ w ∧ w ≤ 500) ∧ 0 ≤ a ∧ a ≤ w := of_decide_eq_true h

theorem strict_eq : ∀ l1 l2 : List Int, l1.Pairwise (fun x y => x < y) → l2.Pairwise (fun x y => x < y) → (∀ x, x ∈ l1 ↔ x ∈ l2) → l1 = l2 := by
  intro l1
  induction l1 with
  | nil =>
    intro l2 _ _ h
    cases l2 with
    | nil => rfl
    | cons y u => exact absurd ((h y).2 (by simp)) (by simp)
  | cons x t ih =>
    intro l2 h1 h2 h
    cases l2 with
    | nil => exact absurd ((h x).1 (by simp)) (by simp)
    | cons y u =>
      rw [List.pairwise_cons] at h1 h2
      have exy : x = y := by
        rcases List.mem_cons.1 ((h x).1 (by simp)) with e | e
        · exact e
        · rcases List.mem_cons.1 ((h y).2 (by simp)) with e2 | e2
          · exact e2.symm
          · have := h2.1 x e
            have := h1.1 y e2
            omega
      subst exy
      congr 1
      refine ih u h1.2 h2.2 (fun z => ?_)
      constructor
      · intro hz
        rcases List.mem_cons.1 ((h z).1 (by simp [hz])) with e | e
        · have := h1.1 z hz; omega
        · exact e
      · intro hz
        rcases List.mem_cons.1 ((h z).2 (by simp [hz])) with e | e
        · have := h2.1 z hz; omega
        · exact e
theorem get_le {zs : List Int} (hs : zs.Pairwise (fun x y => x ≤ y)) {i j : Nat} (hij : i ≤ j) (hj : j < zs.length) : zs.toArray[i]! ≤ zs.toArray[j]! := by
  have e : ∀ k, k < zs.length → ∀ hk : k < zs.length, zs.toArray[k]! = zs[k] := fun k _ hk => by simp [hk]
  rw [e i (by omega) (by omega), e j hj hj]
  rcases Nat.eq_or_lt_of_le hij with h | h
  · subst h; exact Int.le_refl _
  · exact List.pairwise_iff_getElem.1 hs i j (by omega) hj h
theorem mem_compact {zs : List Int} (x : Int) : x ∈ Lib.compact zs ↔ x ∈ zs := by
  unfold Lib.compact Lib.compactUpTo
  rw [List.mem_map]
  have e : ∀ k, ∀ hk : k < zs.length, zs.toArray[k]! = zs[k] := fun k hk => by simp [hk]
  constructor
  · rintro ⟨j, hj, rfl⟩
    have hj2 : j < zs.length := List.mem_range.1 (List.mem_filter.1 hj).1
    rw [e j hj2]
    exact List.getElem_mem _
  · intro hx
    obtain ⟨i, hi, rfl⟩ := List.getElem_of_mem hx
    -- the first place that holds it
    have key : ∀ i, (hi : i < zs.length) → ∃ j, j < zs.length ∧ zs.toArray[j]! = zs[i] ∧ Lib.keeps zs.toArray j = true := by
      intro i
      induction i with
      | zero => intro hi; exact ⟨0, hi, e 0 hi, by simp [Lib.keeps]⟩
      | succ i ih =>
        intro hi
        by_cases c : zs.toArray[i + 1]! = zs.toArray[i + 1 - 1]!
        · obtain ⟨j, h1, h2, h3⟩ := ih (by omega)
          refine ⟨j, h1, ?_, h3⟩
          rw [h2, ← e i (by omega), ← e (i + 1) hi]
          exact c.symm
        · exact ⟨i + 1, hi, e _ hi, Lib.keeps_pos c⟩
    obtain ⟨j, h1, h2, h3⟩ := key i hi
    exact ⟨j, List.mem_filter.2 ⟨List.mem_range.2 h1, h3⟩, h2⟩
theorem compact_strict {zs : List Int} (hs : zs.Pairwise (fun x y => x ≤ y)) : (Lib.compact zs).Pairwise (fun x y => x < y) := by
  unfold Lib.compact Lib.compactUpTo
  rw [List.pairwise_map, List.pairwise_filter]
  refine List.Pairwise.imp_of_mem ?_ List.pairwise_lt_range
  intro i j hi hj hij h1 h2
  have hj2 : j < zs.length := List.mem_range.1 hj
  have hne : zs.toArray[j]! ≠ zs.toArray[j - 1]! := by
    unfold Lib.keeps at h2
    have := of_decide_eq_true h2
    rcases this with h | h
    · omega
    · exact h
  have a := get_le hs (show i ≤ j - 1 by omega) (by omega)
  have b := get_le hs (show j - 1 ≤ j by omega) hj2
  omega
theorem inc_strict (ys : List Int) : (Lib.compact (ys.mergeSort fun x y => decide (x ≤ y))).Pairwise (fun x y => x < y) := by
  refine compact_strict ?_
  have := List.pairwise_mergeSort (le := fun x y : Int => decide (x ≤ y)) (fun a b c h1 h2 => by simp at *; omega) (fun a b => by simp; omega) ys
  exact this.imp (fun h => by simpa using h)
theorem inc_mem (ys : List Int) (x : Int) : x ∈ Lib.compact (ys.mergeSort fun x y => decide (x ≤ y)) ↔ x ∈ ys := by
  rw [mem_compact, List.mem_mergeSort]

/-- Is there an image of at least one reflection? -/
def isIm (w a x : Int) : Bool := decide (2 * w ∣ x + a) || (decide (2 * w ∣ x - a) && decide (x ≠ a))
theorem miIs_eq {w a x : Int} (hw : 1 ≤ w ∧ w ≤ 500) (ha : 0 ≤ a ∧ a ≤ 500) (hx : -1000000 ≤ x ∧ x ≤ 1000000) : spec_miIs.f w a x = some (isIm w a x) := by
  unfold spec_miIs.f isIm
  rw [wrap_id (n := 2 * w) (by omega) (by omega), wrap_id (n := x + a) (by omega) (by omega), wrap_id (n := x - a) (by omega) (by omega), if_neg (by omega)]
  have t : ∀ z : Int, Int.tmod z (2 * w) = 0 ↔ 2 * w ∣ z := fun z => ⟨Int.dvd_of_tmod_eq_zero, Int.tmod_eq_zero_of_dvd⟩
  by_cases h1 : 2 * w ∣ x + a
  · rw [if_pos ((t _).2 h1), decide_eq_true h1, Bool.true_or]
  · rw [if_neg (fun h => h1 ((t _).1 h)), decide_eq_false h1, Bool.false_or]
    by_cases h2 : 2 * w ∣ x - a
    · rw [if_pos ((t _).2 h2), decide_eq_true h2, Bool.true_and]
      by_cases h3 : x = a <;> simp [h3]
    · rw [if_neg (fun h => h2 ((t _).1 h)), decide_eq_false h2, Bool.false_and]
theorem mem_imL (w a k0 : Int) : ∀ (n : Nat) (x : Int), x ∈ imL w a k0 n ↔ ∃ k : Int, k0 ≤ k ∧ k < k0 + n ∧ ((k ≠ 0 ∧ x = 2 * w * k + a) ∨ x = 2 * w * k - a) := by
  intro n
  induction n with
  | zero =>
    intro x
    simp only [imL, List.not_mem_nil, false_iff]
    rintro ⟨k, h1, h2, _⟩
    simp at h2
    omega
  | succ n ih =>
    intro x
    simp only [imL, List.mem_append, ih, List.mem_singleton]
    constructor
    · rintro (⟨k, h1, h2, h3⟩ | h | h)
      · exact ⟨k, h1, by omega, h3⟩
      · by_cases c : k0 + (n : Int) = 0
        · rw [if_pos c] at h; simp at h
        · rw [if_neg c] at h
          exact ⟨k0 + n, by omega, by omega, .inl ⟨c, by simpa using h⟩⟩
      · exact ⟨k0 + n, by omega, by omega, .inr h⟩
    · rintro ⟨k, h1, h2, h3⟩
      by_cases c : k < k0 + n
      · exact .inl ⟨k, h1, c, h3⟩
      · have e : k = k0 + n := by omega
        subst e
        rcases h3 with ⟨h3, h4⟩ | h4
        · refine .inr (.inl ?_)
          rw [if_neg h3]
          simp [h4]
        · exact .inr (.inr h4)
theorem imQ_bounds {w far : Int} (hw : 1 ≤ w ∧ w ≤ 500) (hf : 0 ≤ far ∧ far ≤ 50000) : 0 ≤ imQ w far ∧ 2 * w * imQ w far ≤ far ∧ far < 2 * w * (imQ w far + 1) := by
  unfold imQ
  refine ⟨Int.ediv_nonneg hf.1 (by omega), Int.mul_ediv_self_le (by omega), ?_⟩
  have := Int.lt_mul_ediv_self_add (x := far) (k := 2 * w) (by omega)
  rw [Int.mul_add]
  omega
/-- All images that lie near, in order. -/
def refL (w a s far : Int) : List Int := ((List.range (2 * far + 1).toNat).map fun i : Nat => s - far + (i : Int)).filter (isIm w a)
theorem refL_strict (w a s far : Int) : (refL w a s far).Pairwise (fun x y => x < y) := by
  unfold refL
  refine List.Pairwise.filter _ ?_
  rw [List.pairwise_map]
  exact List.pairwise_lt_range.imp (fun h => by omega)
theorem refL_mem {w a s far x : Int} (hf : 0 ≤ far) : x ∈ refL w a s far ↔ (s - far ≤ x ∧ x ≤ s + far) ∧ isIm w a x = true := by
  unfold refL
  rw [List.mem_filter, List.mem_map]
  constructor
  · rintro ⟨⟨i, hi, rfl⟩, h⟩
    have := List.mem_range.1 hi
    exact ⟨by omega, h⟩
  · rintro ⟨⟨h1, h2⟩, h⟩
    exact ⟨⟨(x - (s - far)).toNat, List.mem_range.2 (by omega), by omega⟩, h⟩
theorem near_eq {w a s far : Int} (hw : 1 ≤ w ∧ w ≤ 500) (ha : 0 ≤ a ∧ a ≤ w) (hs : 0 ≤ s ∧ s ≤ w) (hf : 0 ≤ far ∧ far ≤ 50000) : impl_imagesNear.f w a s far = some (refL w a s far) := by
  unfold impl_imagesNear.f
  rw [if_pos ⟨hw, ⟨ha.1, by omega⟩, ⟨hs.1, by omega⟩, hf⟩]
  congr 1
  obtain ⟨q0, q1, q2⟩ := imQ_bounds hw hf
  refine strict_eq _ _ (inc_strict _) (refL_strict w a s far) (fun x => ?_)
  rw [inc_mem, List.mem_filter, mem_imL, refL_mem hf.1]
  generalize imQ w far = Q at q0 q1 q2
  have hN : (((2 * Q + 5).toNat : Nat) : Int) = 2 * Q + 5 := by omega
  have hq2 : 2 * w * (Q + 1) = 2 * w * Q + 2 * w := by rw [Int.mul_add]; omega
  rw [hq2] at q2
  have mono : ∀ k l : Int, k ≤ l → 2 * w * k ≤ 2 * w * l := fun k l h => Int.mul_le_mul_of_nonneg_left h (by omega)
  have lin : ∀ k c : Int, 2 * w * (k + c) = 2 * w * k + 2 * w * c := fun k c => Int.mul_add _ _ _
  have hQ2 : 2 * w * (Q + 2) = 2 * w * Q + 4 * w := by rw [lin]; omega
  have hQm2 : 2 * w * (-Q - 2) = -(2 * w * Q) - 4 * w := by rw [show -Q - 2 = -(Q + 2) by omega, Int.mul_neg, hQ2]; omega
  constructor
  · rintro ⟨⟨k, k1, k2, h⟩, hd⟩
    have m1 := mono _ _ k1
    have m2 := mono k (Q + 2) (by omega)
    have hb : -1000000 ≤ x ∧ x ≤ 1000000 := by
      rcases h with ⟨_, rfl⟩ | rfl <;> omega
    have hd2 : imDist x s ≤ far := by
      have : ¬ far < imDist x s := by simpa using hd
      omega
    rw [imDist_eq x s hb (by omega)] at hd2
    unfold mx at hd2
    refine ⟨by split at hd2 <;> omega, ?_⟩
    unfold isIm
    rcases h with ⟨h0, rfl⟩ | rfl
    · have hne : (2 * w * k + a) ≠ a := by
        intro e
        have : 2 * w * k = 0 := by omega
        rcases Int.mul_eq_zero.1 this with h | h <;> omega
      rw [decide_eq_true hne, Bool.and_true, decide_eq_true (show 2 * w ∣ 2 * w * k + a - a from ⟨k, by omega⟩), Bool.or_true]
    · rw [decide_eq_true (show 2 * w ∣ 2 * w * k - a + a from ⟨k, by omega⟩), Bool.true_or]
  · rintro ⟨⟨b1, b2⟩, him⟩
    have hdist : (!decide (far < imDist x s)) = true := by
      rw [imDist_eq x s (by omega) (by omega)]
      unfold mx
      simp only [Bool.not_eq_true', decide_eq_false_iff_not]
      split <;> omega
    refine ⟨?_, hdist⟩
    unfold isIm at him
    rw [Bool.or_eq_true, Bool.and_eq_true, decide_eq_true_eq, decide_eq_true_eq, decide_eq_true_eq] at him
    rcases him with ⟨k, hk⟩ | ⟨⟨k, hk⟩, hne⟩
    · refine ⟨k, ?_, ?_, .inr (by omega)⟩
      · apply Classical.byContradiction
        intro hc
        have := mono k (-Q - 3) (by omega)
        have e : 2 * w * (-Q - 3) = -(2 * w * Q) - 6 * w := by rw [show -Q - 3 = -(Q + 3) by omega, Int.mul_neg, lin]; omega
        omega
      · rw [hN]
        apply Classical.byContradiction
        intro hc
        have := mono (Q + 3) k (by omega)
        have e : 2 * w * (Q + 3) = 2 * w * Q + 6 * w := by rw [lin]; omega
        omega
    · refine ⟨k, ?_, ?_, .inl ⟨fun e => hne (by subst e; rw [Int.mul_zero] at hk; omega), by omega⟩⟩
      · apply Classical.byContradiction
        intro hc
        have := mono k (-Q - 3) (by omega)
        have e : 2 * w * (-Q - 3) = -(2 * w * Q) - 6 * w := by rw [show -Q - 3 = -(Q + 3) by omega, Int.mul_neg, lin]; omega
        omega
      · rw [hN]
        apply Classical.byContradiction
        intro hc
        have := mono (Q + 3) k (by omega)
        have e : 2 * w * (Q + 3) = 2 * w * Q + 6 * w := by rw [lin]; omega
        omega

theorem miSeen_eq (w a s : Int) : spec_miSeen.f w a s = some (cg w a && cg w s) := by
  unfold spec_miSeen.f
  rw [miGood_eq]
  simp only [Option.bind_some, l1In_eq]
  cases h : cg w a with
  | false => simp
  | true =>
    obtain ⟨h1, h2⟩ := cg_of h
    by_cases c : 0 ≤ s ∧ s ≤ w <;> simp [cg, h1, c]

theorem u64_lo (n : Int) : 0 ≤ IntKind.u64.wrap n ∧ IntKind.u64.wrap n < 18446744073709551616 := by rw [IntKind.wrap_u64]; omega
theorem mask8 (s : Int) (h0 : 0 ≤ s) (h1 : s < 18446744073709551616) : Go.bits .and .u64 (s / 1099511627776) 255 = s / 1099511627776 % 256 :=
  bits_mask .u64 24 (by decide) (fun n h0 h1 => by rw [IntKind.wrap_u64]; omega) 8 (by decide) _ (by omega) (by omega)
/-- Bytes, not too many. -/
def Bytes (l : List Int) : Prop := l.length ≤ 1048576 ∧ ∀ x ∈ l, 0 ≤ x ∧ x ≤ 255
theorem next_tot {l : List Int} (hl : Bytes l) {p s : Int} (h0 : 0 ≤ p) (h1 : p ≤ 1073741824) : ∃ x s', spec_l1Cur_next.f l p s = some (x, p + 1, s') ∧ 0 ≤ x ∧ x ≤ 255 := by
  have w : wrap64 (p + 1) = p + 1 := wrap_id (by omega) (by omega)
  unfold spec_l1Cur_next.f
  by_cases c : p < (l.length : Int)
  · rw [if_pos c, if_pos h0]
    have hm : 0 ≤ rd l p ∧ rd l p ≤ 255 := by
      have hlt : p.toNat < l.length := by omega
      have e : rd l p = l[p.toNat] := by
        show l.getD p.toNat 0 = _
        rw [List.getD_eq_getElem?_getD, List.getElem?_eq_getElem hlt]
        rfl
      rw [e]
      exact hl.2 _ (List.getElem_mem hlt)
    have wr : wrap64 (rd l p) = rd l p := wrap_id (by omega) (by omega)
    rw [w, wr, if_pos (by omega)]
    exact ⟨_, _, rfl, hm.1, hm.2⟩
  · rw [if_neg c, w]
    by_cases c2 : p + 1 ≤ (l.length : Int)
    · rw [if_pos c2]
      exact ⟨_, _, rfl, by omega, by omega⟩
    · rw [if_neg c2]
      have z := u64_lo (IntKind.u64.wrap (IntKind.u64.wrap (s * 6364136223846793005) + 0) + 1442695040888963407)
      refine ⟨_, _, rfl, ?_⟩
      rw [mask8 _ z.1 z.2, wrap_id (by omega) (by omega)]
      omega
theorem tmod_in {x n : Int} (hx : 0 ≤ x) (hn : 0 < n) : 0 ≤ Int.tmod x n ∧ Int.tmod x n < n := ⟨Int.tmod_nonneg _ hx, Int.tmod_lt_of_pos _ hn⟩
theorem pick_tot {l : List Int} (hl : Bytes l) {p s : Int} (n : Int) (h0 : 0 ≤ p) (h1 : p ≤ 1000000000) : ∃ x q s', spec_l1Cur_pick.f l p s n = some (x, q, s') ∧ 0 ≤ x ∧ (x < n ∨ x = 0) ∧ p ≤ q ∧ q ≤ p + 2 := by
  unfold spec_l1Cur_pick.f
  by_cases c : n ≤ 1
  · rw [if_pos c]
    exact ⟨0, p, s, rfl, by omega, .inr rfl, by omega, by omega⟩
  rw [if_neg c]
  obtain ⟨x, s1, e1, x0, x1⟩ := next_tot hl (p := p) (s := s) h0 (by omega)
  rw [e1]
  simp only [Option.bind_some]
  by_cases c2 : n > 200
  · rw [if_pos c2]
    obtain ⟨y, s2, e2, y0, y1⟩ := next_tot hl (p := p + 1) (s := s1) (by omega) (by omega)
    rw [e2]
    simp only [Option.bind_some]
    rw [if_neg (by omega), wrap_id (n := x * 256) (by omega) (by omega), wrap_id (n := x * 256 + y) (by omega) (by omega)]
    have z := tmod_in (x := x * 256 + y) (n := n) (by omega) (by omega)
    exact ⟨_, _, _, rfl, z.1, .inl z.2, by omega, by omega⟩
  · rw [if_neg c2, if_neg (by omega)]
    have z := tmod_in (x := x) (n := n) (by omega) (by omega)
    exact ⟨_, _, _, rfl, z.1, .inl z.2, by omega, by omega⟩
theorem one_tot {l : List Int} (hl : Bytes l) {p s : Int} (n : Int) (h0 : 0 ≤ p) (h1 : p ≤ 1000000000) : ∃ b q s', spec_l1Cur_one.f l p s n = some (b, q, s') ∧ p ≤ q ∧ q ≤ p + 2 := by
  obtain ⟨x, q, s', e, _, _, a, b⟩ := pick_tot hl (s := s) n h0 h1
  exact ⟨_, q, s', by unfold spec_l1Cur_one.f; rw [e]; rfl, a, b⟩
theorem among_tot {l : List Int} (hl : Bytes l) {p s : Int} (m : List Int) (hm : 0 < m.length) (h0 : 0 ≤ p) (h1 : p ≤ 1000000000) : ∃ x q s', spec_l1Cur_among.f l p s m = some (x, q, s') ∧ p ≤ q ∧ q ≤ p + 2 := by
  obtain ⟨x, q, s', e, x0, x1, a, b⟩ := pick_tot hl (s := s) (m.length : Int) h0 h1
  refine ⟨rd m x, q, s', ?_, a, b⟩
  unfold spec_l1Cur_among.f
  rw [e]
  simp only [Option.bind_some]
  rw [if_pos x0, if_pos (by omega)]

theorem mk_rd {s : Int} {st : List Int × List Int} {y z : Int} (hl : st.1.length = 360) (hy : inR y) (hz : inR z) : rd (mk s st y).1 z = if z = y ∧ rd st.1 y < 0 then s else rd st.1 z := by
  unfold mk
  by_cases c : rd st.1 y < 0
  · rw [if_pos c]
    simp only
    rw [rd_set hy.1 (by have := hy.2; omega) hz.1]
    by_cases e : z = y
    · rw [if_pos e, if_pos ⟨e, c⟩]
    · rw [if_neg e, if_neg (fun h => e h.1)]
  · rw [if_neg c, if_neg (fun h => c h.2)]
theorem mk_len {s : Int} {st : List Int × List Int} {y : Int} (hl : st.1.length = 360) : (mk s st y).1.length = 360 := by unfold mk; split <;> simp [hl]
theorem mk_mem {s : Int} {st : List Int × List Int} {y v : Int} : v ∈ (mk s st y).2 ↔ v ∈ st.2 ∨ (v = y ∧ rd st.1 y < 0) := by
  unfold mk
  by_cases c : rd st.1 y < 0
  · rw [if_pos c]; simp [c]
  · rw [if_neg c]; simp [c]
/-- Whoever is marked has marked neighbours, farther by one at most. -/
structure Dv (A s : Int) (st : List Int × List Int) (r : List Int) : Prop where
  len : st.1.length = 360
  top : ∀ y, inR y → rd st.1 y ≤ s
  ring : ∀ y ∈ r, inR y ∧ rd st.1 y = s - 1
  more : ∀ y ∈ st.2, inR y ∧ rd st.1 y = s
  near : ∀ y, inR y → 0 ≤ rd st.1 y → y ∈ r ∨ y ∈ st.2 ∨ ((0 ≤ rd st.1 (n1 y) ∧ rd st.1 (n1 y) ≤ rd st.1 y + 1) ∧ 0 ≤ rd st.1 (n2 A y) ∧ rd st.1 (n2 A y) ≤ rd st.1 y + 1)
theorem mk_dv {A s : Int} {st : List Int × List Int} {r : List Int} {y : Int} (hA : 0 ≤ A) (h : Dv A s st r) (hy : inR y) (hs : 1 ≤ s) : Dv A s (mk s st y) r := by
  have e := fun z (hz : inR z) => mk_rd (s := s) (st := st) (y := y) (z := z) h.len hy hz
  have up : ∀ z, inR z → 0 ≤ rd st.1 z → rd (mk s st y).1 z = rd st.1 z := fun z hz h0 => by
    rw [e z hz, if_neg (fun c => by rw [c.1] at h0; have := c.2; omega)]
  refine ⟨mk_len h.len, ?_, ?_, ?_, ?_⟩
  · intro z hz
    rw [e z hz]
    split
    · exact Int.le_refl _
    · exact h.top z hz
  · intro z hz
    obtain ⟨a, b⟩ := h.ring z hz
    exact ⟨a, by rw [up z a (by omega)]; exact b⟩
  · intro z hz
    rcases mk_mem.1 hz with c | ⟨ez, c⟩
    · obtain ⟨a, b⟩ := h.more z c
      exact ⟨a, by rw [up z a (by omega)]; exact b⟩
    · exact ⟨by rw [ez]; exact hy, by rw [ez, e y hy, if_pos ⟨rfl, c⟩]⟩
  · intro z hz h0
    by_cases c : z = y ∧ rd st.1 y < 0
    · exact .inr (.inl (mk_mem.2 (.inr c)))
    · have h1 : rd (mk s st y).1 z = rd st.1 z := by rw [e z hz, if_neg c]
      rw [h1] at h0 ⊢
      rcases h.near z hz h0 with d | d | ⟨⟨d1, d2⟩, d3, d4⟩
      · exact .inl d
      · exact .inr (.inl (mk_mem.2 (.inl d)))
      · rw [up _ (n1_in hz) d1, up _ (n2_in hA hz) d3]
        exact .inr (.inr ⟨⟨d1, d2⟩, d3, d4⟩)
theorem step_dv {A s : Int} {st : List Int × List Int} {r : List Int} {x : Int} (hA : 0 ≤ A) (h : Dv A s st (x :: r)) (hs : 1 ≤ s) : Dv A s (mk s (mk s st (n1 x)) (n2 A x)) r := by
  obtain ⟨hx, hv⟩ := h.ring x (by simp)
  have a := mk_dv hA h (n1_in hx) hs
  have b := mk_dv hA a (n2_in hA hx) hs
  have e1 := mk_rd (s := s) (st := st) (y := n1 x) (z := n1 x) h.len (n1_in hx) (n1_in hx)
  have hx3 := (b.ring x (by simp)).2
  have t1 := b.top _ (n1_in hx)
  have t2 := b.top _ (n2_in hA hx)
  have p1 : 0 ≤ rd (mk s st (n1 x)).1 (n1 x) := by
    rw [e1]
    split
    · omega
    · rename_i c
      exact Int.not_lt.1 (fun hc => c ⟨rfl, hc⟩)
  have p1' : 0 ≤ rd (mk s (mk s st (n1 x)) (n2 A x)).1 (n1 x) := by
    rw [mk_rd a.len (n2_in hA hx) (n1_in hx)]
    split
    · omega
    · exact p1
  have p2 : 0 ≤ rd (mk s (mk s st (n1 x)) (n2 A x)).1 (n2 A x) := by
    rw [mk_rd a.len (n2_in hA hx) (n2_in hA hx)]
    split
    · omega
    · rename_i c
      exact Int.not_lt.1 (fun hc => c ⟨rfl, hc⟩)
  refine ⟨b.len, b.top, fun y hy => b.ring y (by simp [hy]), b.more, fun y hy h0 => ?_⟩
  rcases b.near y hy h0 with c | c | c
  · rcases List.mem_cons.1 c with c | c
    · subst c
      exact .inr (.inr ⟨⟨p1', by omega⟩, p2, by omega⟩)
    · exact .inl c
  · exact .inr (.inl c)
  · exact .inr (.inr c)
theorem ringF_dv {A s : Int} (hA : 0 ≤ A) (hs : 1 ≤ s) : ∀ (r : List Int) (st : List Int × List Int), Dv A s st r → Dv A s (ringF A s st r) [] := by
  intro r
  induction r with
  | nil => intro st h; exact h
  | cons x r ih => intro st h; exact ih _ (step_dv hA h hs)
theorem rings_dv {A : Int} (hA : 0 ≤ A) : ∀ (n : Nat) (out ring : List Int) (s : Int), 1 ≤ s → (ring ≠ [] → cnt out + 2 ≤ n) → Dv A s (out, []) ring → ∃ t, Dv A t (rings A n out ring s, []) [] := by
  intro n
  induction n with
  | zero =>
    intro out ring s _ hc h
    cases ring with
    | nil => exact ⟨s, h⟩
    | cons x r => have := hc (by simp); omega
  | succ n ih =>
    intro out ring s hs hc h
    cases ring with
    | nil => exact ⟨s, h⟩
    | cons x r =>
      have hin : ∀ y ∈ x :: r, inR y := fun y hy => (h.ring y hy).1
      have hb := ringF_bf hA (by omega) (x :: r) (out, []) (cnt out) hin ⟨h.len, by simp, by simp⟩ (s := s)
      have hi := ringF_dv hA hs (x :: r) (out, []) h
      simp only [rings]
      generalize ringF A s (out, []) (x :: r) = st at hb hi
      obtain ⟨o, q⟩ := st
      refine ih o q (s + 1) (by omega) (fun hne => ?_) ⟨hi.len, fun y hy => by have := hi.top y hy; simp only at this ⊢; omega, fun y hy => by obtain ⟨a, b⟩ := hi.more y hy; exact ⟨a, by simp only at b ⊢; omega⟩, by simp, fun y hy h0 => (hi.near y hy h0).elim (fun c => by simp at c) (fun c => c.elim .inl (fun c => .inr (.inr c)))⟩
      have := hc (by simp)
      have := hb.sum
      have : 0 < q.length := List.length_pos_iff.2 hne
      simp only at *
      omega
theorem start_rd {p z : Int} (hp : inR p) (hz : inR z) : rd (start p) z = if z = p then 0 else -1 := by
  unfold start
  rw [rd_set hp.1 (by rw [List.length_replicate]; exact hp.2) hz.1, rd_rep hz]
theorem start_len (p : Int) : (start p).length = 360 := by unfold start; rw [List.length_set, List.length_replicate]
theorem start_dv {A p : Int} (hp : inR p) : Dv A 1 (start p, []) [p] := by
  have e := fun z (hz : inR z) => start_rd hp hz
  refine ⟨start_len p, fun y hy => by simp only [e y hy]; split <;> omega, fun y hy => ?_, by simp, fun y hy h0 => ?_⟩
  · have : y = p := by simpa using hy
    subst this
    exact ⟨hp, by simp only [e y hp, if_true]; omega⟩
  · simp only [e y hy] at h0
    split at h0
    · rename_i c
      exact .inl (by rw [c]; simp)
    · omega
/-- Where a one stands: behind one mirror. -/
def On (A p : Int) (o : List Int) : Prop := ∀ y, inR y → (rd o y = 1 ↔ y = n1 p ∨ y = n2 A p)
theorem mk_on {A p s : Int} {st : List Int × List Int} {y : Int} (hl : st.1.length = 360) (hy : inR y) (hs : 2 ≤ s) (h : On A p st.1) : On A p (mk s st y).1 := by
  intro z hz
  rw [mk_rd hl hy hz]
  split
  · rename_i c
    constructor
    · intro e; omega
    · intro e
      have h1 := (h z hz).2 e
      rw [c.1] at h1
      have := c.2
      omega
  · exact h z hz
theorem ringF_on {A p s : Int} (hA : 0 ≤ A) (hs : 2 ≤ s) : ∀ (r : List Int) (st : List Int × List Int), st.1.length = 360 → (∀ y ∈ r, inR y) → On A p st.1 → On A p (ringF A s st r).1 := by
  intro r
  induction r with
  | nil => intro st _ _ h; exact h
  | cons x r ih =>
    intro st hl hr h
    have hx := hr x (by simp)
    exact ih _ (mk_len (mk_len hl)) (fun y hy => hr y (by simp [hy])) (mk_on (mk_len hl) (n2_in hA hx) hs (mk_on hl (n1_in hx) hs h))
theorem rings_on {A p : Int} (hA : 0 ≤ A) : ∀ (n : Nat) (out ring : List Int) (s : Int), 2 ≤ s → out.length = 360 → (∀ y ∈ ring, inR y) → On A p out → On A p (rings A n out ring s) := by
  intro n
  induction n with
  | zero => intro out ring s _ _ _ h; exact h
  | succ n ih =>
    intro out ring s hs hl hr h
    cases ring with
    | nil => exact h
    | cons x r =>
      have hb := ringF_bf hA (by omega) (x :: r) (out, []) (cnt out) hr ⟨hl, by simp, by simp⟩ (s := s)
      exact ih _ _ (s + 1) (by omega) hb.len hb.all (ringF_on hA hs (x :: r) (out, []) hl hr h)
theorem n12 {A p : Int} (hA : A ≤ 90) (hp : 1 ≤ p ∧ p ≤ A - 1) : n1 p = 360 - p ∧ n2 A p = 2 * A - p := by
  have hi : inR p := ⟨by omega, by omega⟩
  rw [n1_eq hi, n2_eq (by omega) hi]
  omega
theorem steps_on {A p : Int} (hA : 0 ≤ A ∧ A ≤ 90) (hp : 1 ≤ p ∧ p ≤ A - 1) : On A p (rings A 400 (start p) [p] 1) := by
  have hi : inR p := ⟨by omega, by omega⟩
  obtain ⟨e1, e2⟩ := n12 hA.2 hp
  have i1 := n1_in hi
  have i2 := n2_in hA.1 hi
  have hb := ringF_bf hA.1 (by omega) [p] (start p, []) (cnt (start p)) (by simpa using hi) ⟨start_len p, by simp, by simp⟩ (s := 1)
  show On A p (rings A 399 (ringF A 1 (start p, []) [p]).1 (ringF A 1 (start p, []) [p]).2 (1 + 1))
  refine rings_on hA.1 399 _ _ (1 + 1) (by omega) hb.len hb.all (fun z hz => ?_)
  show rd (mk 1 (mk 1 (start p, []) (n1 p)) (n2 A p)).1 z = 1 ↔ _
  have l1 : (mk 1 (start p, []) (n1 p)).1.length = 360 := mk_len (start_len p)
  rw [mk_rd l1 i2 hz, mk_rd (start_len p) i1 hz, mk_rd (start_len p) i1 i2]
  simp only
  rw [start_rd hi hz, start_rd hi i1, start_rd hi i2, e1, e2]
  by_cases c1 : z = 2 * A - p
  · rw [if_pos ⟨c1, by rw [if_neg (by omega), if_neg (by omega)]; omega⟩]
    simp [c1]
  · rw [if_neg (fun h => c1 h.1)]
    by_cases c2 : z = 360 - p
    · rw [if_pos ⟨c2, by rw [if_neg (by omega)]; omega⟩]
      simp [c2]
    · rw [if_neg (fun h => c2 h.1)]
      constructor
      · intro h; split at h <;> omega
      · rintro (h | h)
        · exact absurd h c2
        · exact absurd h c1
/-- Two reflections farther. -/
theorem walk_up {A t : Int} {o : List Int} (hA : 0 ≤ A) (h : Dv A t (o, []) []) {z : Int} (hz : inR z) (h0 : 0 ≤ rd o z) : ∀ j : Nat, 0 ≤ rd o ((z + 2 * A * j) % 360) ∧ rd o ((z + 2 * A * j) % 360) ≤ rd o z + 2 * j := by
  have cl : ∀ y, inR y → 0 ≤ rd o y → (0 ≤ rd o (n1 y) ∧ rd o (n1 y) ≤ rd o y + 1) ∧ 0 ≤ rd o (n2 A y) ∧ rd o (n2 A y) ≤ rd o y + 1 := fun y hy h1 =>
    (h.near y hy h1).elim (fun c => by simp at c) (fun c => c.elim (fun c => by simp at c) id)
  intro j
  induction j with
  | zero =>
    rw [Int.natCast_zero, Int.mul_zero, Int.add_zero, Int.emod_eq_of_lt hz.1 hz.2]
    exact ⟨h0, by omega⟩
  | succ j ih =>
    have hi := inR_mod (z + 2 * A * j)
    have c1 := (cl _ hi ih.1).1
    have c2 := (cl _ (n1_in hi) c1.1).2
    obtain ⟨q1, e1⟩ := n1_q hi
    obtain ⟨q2, e2⟩ := n2_q (A := A) hA (n1_in hi)
    have e3 := Int.emod_add_mul_ediv (z + 2 * A * j) 360
    have : (z + 2 * A * ((j + 1 : Nat) : Int)) % 360 = n2 A (n1 ((z + 2 * A * j) % 360)) := by
      refine mod_of (n2_in hA (n1_in hi)) ((z + 2 * A * j) / 360 + q1 - q2) ?_
      have e4 : 2 * A * ((j + 1 : Nat) : Int) = 2 * A * j + 2 * A := by rw [Int.natCast_add, Int.mul_add]; omega
      rw [e2, e1, e4]
      omega
    rw [this]
    exact ⟨c2.1, by omega⟩
theorem walk_dn {A t : Int} {o : List Int} (hA : 0 ≤ A) (h : Dv A t (o, []) []) {z : Int} (hz : inR z) (h0 : 0 ≤ rd o z) : ∀ j : Nat, 0 ≤ rd o ((z - 2 * A * j) % 360) ∧ rd o ((z - 2 * A * j) % 360) ≤ rd o z + 2 * j := by
  have cl : ∀ y, inR y → 0 ≤ rd o y → (0 ≤ rd o (n1 y) ∧ rd o (n1 y) ≤ rd o y + 1) ∧ 0 ≤ rd o (n2 A y) ∧ rd o (n2 A y) ≤ rd o y + 1 := fun y hy h1 =>
    (h.near y hy h1).elim (fun c => by simp at c) (fun c => c.elim (fun c => by simp at c) id)
  intro j
  induction j with
  | zero =>
    rw [Int.natCast_zero, Int.mul_zero, Int.sub_zero, Int.emod_eq_of_lt hz.1 hz.2]
    exact ⟨h0, by omega⟩
  | succ j ih =>
    have hi := inR_mod (z - 2 * A * j)
    have c1 := (cl _ hi ih.1).2
    have c2 := (cl _ (n2_in hA hi) c1.1).1
    obtain ⟨q1, e1⟩ := n2_q (A := A) hA hi
    obtain ⟨q2, e2⟩ := n1_q (n2_in hA hi)
    have e3 := Int.emod_add_mul_ediv (z - 2 * A * j) 360
    have : (z - 2 * A * ((j + 1 : Nat) : Int)) % 360 = n1 (n2 A ((z - 2 * A * j) % 360)) := by
      refine mod_of (n1_in (n2_in hA hi)) ((z - 2 * A * j) / 360 + q1 - q2) ?_
      have e4 : 2 * A * ((j + 1 : Nat) : Int) = 2 * A * j + 2 * A := by rw [Int.natCast_add, Int.mul_add]; omega
      rw [e2, e1, e4]
      omega
    rw [this]
    exact ⟨c2.1, by omega⟩
theorem steps_le {A p t h : Int} {o : List Int} (hA : 0 < A) (hh : 2 * A * h = 360) (hp : 1 ≤ p ∧ p ≤ A - 1) (hpR : inR p) (hd : Dv A t (o, []) []) (h0 : rd o p = 0) {y : Int} (hy : inR y) (hP : Pl A p y) : rd o y ≤ h := by
  have hA2 : (0 : Int) < 2 * A := by omega
  obtain ⟨y0, y1⟩ := hy
  have cl := (hd.near p hpR (by simp only; omega)).elim (fun c => by simp at c) (fun c => c.elim (fun c => by simp at c) id)
  simp only [h0] at cl
  have sub : ∀ q : Int, 2 * A * (h - q) = 360 - 2 * A * q := fun q => by rw [Int.mul_sub, hh]
  rcases hP with ⟨q, hq⟩ | ⟨q, hq⟩
  · have q0 : 0 ≤ q := by
      apply Int.not_lt.1
      intro g
      have := Int.mul_le_mul_of_nonneg_left (show q ≤ -1 by omega) (show 0 ≤ 2 * A by omega)
      omega
    have qh : q < h := Int.lt_of_mul_lt_mul_left (a := 2 * A) (by omega) (by omega)
    by_cases c : 2 * q ≤ h
    · have e : (p + 2 * A * (q.toNat : Int)) % 360 = y := by
        rw [Int.toNat_of_nonneg q0]
        exact mod_of ⟨y0, y1⟩ 0 (by omega)
      have := (walk_up (A := A) (by omega) hd hpR (by omega) q.toNat).2
      rw [e, h0] at this
      omega
    · have e : (p - 2 * A * ((h - q).toNat : Int)) % 360 = y := by
        rw [Int.toNat_of_nonneg (by omega), sub]
        exact mod_of ⟨y0, y1⟩ (-1) (by omega)
      have := (walk_dn (A := A) (by omega) hd hpR (by omega) (h - q).toNat).2
      rw [e, h0] at this
      omega
  · have q0 : 0 < q := Int.lt_of_mul_lt_mul_left (a := 2 * A) (by rw [Int.mul_zero]; omega) (by omega)
    have qh : q < h + 1 := Int.lt_of_mul_lt_mul_left (a := 2 * A) (by rw [Int.mul_add]; omega) (by omega)
    have i1 := n1_in hpR
    have i2 := n2_in (A := A) (by omega) hpR
    obtain ⟨w1, e1⟩ := n1_q hpR
    obtain ⟨w2, e2⟩ := n2_q (A := A) (by omega) hpR
    by_cases c : 2 * q ≤ h + 1
    · have e : (n2 A p + 2 * A * ((q - 1).toNat : Int)) % 360 = y := by
        rw [Int.toNat_of_nonneg (by omega), e2, Int.mul_sub]
        exact mod_of ⟨y0, y1⟩ w2 (by omega)
      have := (walk_up (A := A) (by omega) hd i2 cl.2.1 (q - 1).toNat).2
      rw [e] at this
      omega
    · have e : (n1 p - 2 * A * ((h - q).toNat : Int)) % 360 = y := by
        rw [Int.toNat_of_nonneg (by omega), e1, sub]
        exact mod_of ⟨y0, y1⟩ (w1 - 1) (by omega)
      have := (walk_dn (A := A) (by omega) hd i1 cl.1.1 (h - q).toNat).2
      rw [e] at this
      omega
/-- All images in a wedge. -/
def WO (a p : Int) : List Int := rings a 400 (start p) [p] 1
def WL (a p : Int) : List Int := ((List.range 360).filter fun n : Nat => decide (0 < rd (WO a p) n)).map fun n : Nat => (n : Int)
def wp (a p n : Nat) : Bool := (Nat.beq (n % (2 * a)) p || Nat.beq (n % (2 * a)) (2 * a - p)) && !(Nat.beq n p)
def cw (a p : Nat) : Nat → Nat → Nat
  | 0, c => c
  | n + 1, c => cw a p n (bif wp a p n then c + 1 else c)
def cwOk (a : Nat) : Bool := (List.range a).all fun p => Nat.beq p 0 || Nat.beq (cw a p 360 0) (360 / a - 1)
theorem cw_all : ∀ a : Nat, a < 91 → 2 ≤ a → 180 % a = 0 → cwOk a = true := by decide +kernel
theorem cw_count (a p : Nat) : ∀ n c : Nat, cw a p n c = c + (List.range n).countP (wp a p) := by
  intro n
  induction n with
  | zero => intro c; rfl
  | succ n ih =>
    intro c
    rw [cw, ih, List.range_succ, List.countP_append, List.countP_cons, List.countP_nil]
    cases wp a p n with
    | true => simp; omega
    | false => simp
theorem dv {m p n : Nat} (hp : p < m) : ((m : Int) ∣ (n : Int) - (p : Int)) ↔ n % m = p := by
  have e : ((n % m : Nat) : Int) = (n : Int) % (m : Int) := Int.natCast_emod n m
  constructor
  · rintro ⟨q, hq⟩
    have : (n : Int) % (m : Int) = p := by
      rw [show (n : Int) = p + m * q by omega, Int.add_mul_emod_self_left, Int.emod_eq_of_lt (by omega) (by omega)]
    omega
  · intro h
    refine ⟨(n : Int) / m, ?_⟩
    have := Int.emod_add_mul_ediv (n : Int) (m : Int)
    omega
theorem wp_iff {a p n : Nat} (hp : 1 ≤ p) (hpa : p < a) : wp a p n = true ↔ (2 * (a : Int) ∣ (n : Int) - (p : Int) ∨ 2 * (a : Int) ∣ (n : Int) + (p : Int)) ∧ (n : Int) ≠ (p : Int) := by
  have e1 : (2 * (a : Int) ∣ (n : Int) - (p : Int)) ↔ n % (2 * a) = p := dv (m := 2 * a) (by omega)
  have e2 : (2 * (a : Int) ∣ (n : Int) + (p : Int)) ↔ n % (2 * a) = 2 * a - p := by
    refine Iff.trans ?_ (dv (m := 2 * a) (p := 2 * a - p) (n := n) (by omega))
    have e : (n : Int) + (p : Int) = ((n : Int) - ((2 * a - p : Nat) : Int)) + 2 * (a : Int) := by omega
    rw [e]
    constructor
    · intro h; have := Int.dvd_sub h (Int.dvd_refl (2 * (a : Int))); rwa [Int.add_sub_cancel] at this
    · intro h; exact Int.dvd_add h (Int.dvd_refl _)
  rw [e1, e2]
  unfold wp
  simp only [Bool.and_eq_true, Bool.or_eq_true, Nat.beq_eq, Bool.not_eq_true', Bool.eq_false_iff, ne_eq]
  constructor
  · rintro ⟨h, g⟩; exact ⟨h, fun e => g (by omega)⟩
  · rintro ⟨h, g⟩; exact ⟨h, fun e => g (by omega)⟩
structure Wf (a p : Int) : Prop where
  len : ((WL a p).length : Int) = 360 / a - 1
  rise : (WL a p).Pairwise (fun x y => x < y)
  other : p ∉ WL a p
  each : ∀ x ∈ WL a p, inR x ∧ 1 ≤ rd (WO a p) x ∧ rd (WO a p) x ≤ 180 / a
  once : (WL a p).countP (fun x => decide (rd (WO a p) x = 1)) = 2
theorem countP_two {l : List Int} (hn : l.Pairwise (fun x y => x < y)) {u v : Int} (hu : u ∈ l) (hv : v ∈ l) (h : u ≠ v) (f : Int → Bool) (hf : ∀ x ∈ l, (f x = true ↔ x = u ∨ x = v)) : l.countP f = 2 := by
  have one : ∀ (l : List Int), l.Pairwise (fun x y => x < y) → ∀ u, u ∈ l → l.countP (fun x => decide (x = u)) = 1 := by
    intro l
    induction l with
    | nil => intro _ u h; simp at h
    | cons x t ih =>
      intro hp u hu
      rw [List.pairwise_cons] at hp
      rw [List.countP_cons]
      by_cases c : x = u
      · have : t.countP (fun x => decide (x = u)) = 0 := by
          rw [List.countP_eq_zero]
          intro z hz
          have := hp.1 z hz
          simp
          omega
        rw [this, c]
        simp
      · rcases List.mem_cons.1 hu with e | e
        · exact absurd e.symm c
        · rw [ih hp.2 u e]
          simp [c]
  have add : ∀ (l : List Int), (∀ x ∈ l, (f x = true ↔ x = u ∨ x = v)) → l.countP f = l.countP (fun x => decide (x = u)) + l.countP (fun x => decide (x = v)) := by
    intro l
    induction l with
    | nil => intro _; rfl
    | cons x t ih =>
      intro hx
      have h1 := hx x (by simp)
      rw [List.countP_cons, List.countP_cons, List.countP_cons, ih (fun y hy => hx y (by simp [hy]))]
      by_cases c1 : x = u
      · have c2 : x ≠ v := fun e => h (c1.symm.trans e)
        rw [h1.2 (.inl c1)]
        simp [c1, c2, h]
        omega
      · by_cases c2 : x = v
        · rw [h1.2 (.inr c2)]
          simp [c1, c2, Ne.symm h]
          omega
        · have : f x = false := by
            cases e : f x with
            | false => rfl
            | true => exact absurd (h1.1 e) (fun g => g.elim c1 c2)
          rw [this]
          simp [c1, c2]
  rw [add l hf, one l hn u hu, one l hn v hv]
theorem wedge_facts {a p : Int} (h : wd a p = true) : Wf a p := by
  obtain ⟨h1, h2, h3⟩ := wd_of h
  have hA : 0 ≤ a ∧ a ≤ 90 := ⟨by omega, by omega⟩
  have hp : inR p := ⟨by omega, by omega⟩
  have h360 : 2 * a ∣ 360 := by
    obtain ⟨c, hc⟩ := Int.dvd_of_emod_eq_zero h2
    exact ⟨c, by rw [Int.mul_assoc, ← hc]; rfl⟩
  have hc := start_cnt hp
  have hv : Iv a p (WO a p, []) [] := rings_iv (by omega) h360 hp 400 (start p) [p] 1 (by omega) (fun _ => by omega) (start_iv hp)
  obtain ⟨t, hd⟩ := rings_dv hA.1 400 (start p) [p] 1 (by omega) (fun _ => by omega) (start_dv (A := a) hp)
  have ho : On a p (WO a p) := steps_on hA h3
  have hmem : ∀ x, x ∈ WL a p ↔ inR x ∧ 0 < rd (WO a p) x := by
    intro x
    unfold WL
    rw [List.mem_map]
    constructor
    · rintro ⟨n, hn, rfl⟩
      obtain ⟨n1, n2⟩ := List.mem_filter.1 hn
      have := List.mem_range.1 n1
      exact ⟨⟨by omega, by omega⟩, of_decide_eq_true n2⟩
    · rintro ⟨⟨x0, x1⟩, hx⟩
      refine ⟨x.toNat, List.mem_filter.2 ⟨List.mem_range.2 (by omega), ?_⟩, by omega⟩
      rw [Int.toNat_of_nonneg x0]
      exact decide_eq_true hx
  have hris : (WL a p).Pairwise (fun x y => x < y) := by
    unfold WL
    rw [List.pairwise_map]
    exact (List.pairwise_lt_range.filter _).imp (fun h => by omega)
  obtain ⟨e1, e2⟩ := n12 hA.2 h3
  refine ⟨?_, hris, fun hm => ?_, fun x hx => ?_, ?_⟩
  · obtain ⟨A, rfl⟩ : ∃ A : Nat, a = (A : Int) := ⟨a.toNat, by omega⟩
    obtain ⟨P, rfl⟩ : ∃ P : Nat, p = (P : Int) := ⟨p.toNat, by omega⟩
    have hdn : 180 % A = 0 := by
      have : ((180 % A : Nat) : Int) = 0 := by first | (rw [Int.natCast_emod]; exact h2) | exact_mod_cast h2
      omega
    have key0 := cw_all A (by omega) (by omega) hdn
    unfold cwOk at key0
    rw [List.all_eq_true] at key0
    have key1 := key0 P (List.mem_range.2 (by omega))
    rw [Bool.or_eq_true, Nat.beq_eq, Nat.beq_eq] at key1
    have key : (List.range 360).countP (wp A P) = 360 / A - 1 := by
      rcases key1 with c | c
      · omega
      · rw [cw_count, Nat.zero_add] at c
        exact c
    unfold WL
    rw [List.length_map, ← List.countP_eq_length_filter]
    have e : (List.range 360).countP (fun n : Nat => decide (0 < rd (WO A P) n)) = (List.range 360).countP (wp A P) := by
      refine List.countP_congr (fun n hn => ?_)
      have hn' : n < 360 := by simpa using hn
      rw [decide_eq_true_iff, wp_iff (by omega) (by omega)]
      exact pos_iff (by omega) h360 hp hv ⟨by omega, by omega⟩
    rw [e, key]
    have : 0 < 360 / A := Nat.div_pos (by omega) (by omega)
    have e2 : (360 : Int) / (A : Int) = ((360 / A : Nat) : Int) := by first | exact (Int.natCast_ediv 360 A).symm | norm_cast
    rw [e2]
    omega
  · have := ((hmem p).1 hm).2
    have hz : rd (WO a p) p = 0 := hv.zero
    omega
  · obtain ⟨hx1, hx2⟩ := (hmem x).1 hx
    refine ⟨hx1, by omega, ?_⟩
    have hP := ((pos_iff (by omega) h360 hp hv hx1).1 hx2).1
    refine steps_le (h := 180 / a) (by omega) ?_ h3 hp hd hv.zero hx1 hP
    have := Int.mul_ediv_cancel' (Int.dvd_of_emod_eq_zero h2)
    rw [Int.mul_assoc, this]
    rfl
  · refine countP_two hris (u := n1 p) (v := n2 a p) ((hmem _).2 ⟨n1_in hp, by rw [(ho _ (n1_in hp)).2 (.inl rfl)]; omega⟩) ((hmem _).2 ⟨n2_in hA.1 hp, by rw [(ho _ (n2_in hA.1 hp)).2 (.inr rfl)]; omega⟩) (by omega) _ (fun x hx => ?_)
    rw [decide_eq_true_iff]
    exact ho x ((hmem x).1 hx).1

theorem yHas_l0 (n : Int) (s : List Int) (hs : s.length ≤ 1000) (d : Nat) : ∀ (k i : Nat), i + d = s.length → d < k → laws_yHas.l0 k n s s.length i = some (decide (n ∈ s.drop i)) := by
  induction d with
  | zero =>
    intro k i hi hk
    obtain ⟨k, rfl⟩ : ∃ m, k = m + 1 := ⟨k - 1, by omega⟩
    simp only [laws_yHas.l0]
    rw [if_neg (by omega), List.drop_eq_nil_of_le (by omega)]
    rfl
  | succ d ih =>
    intro k i hi hk
    obtain ⟨k, rfl⟩ : ∃ m, k = m + 1 := ⟨k - 1, by omega⟩
    have hlt : i < s.length := by omega
    have e : wrap64 ((i : Int) + 1) = ((i + 1 : Nat) : Int) := by rw [wrap_id (by omega) (by omega)]; omega
    have er : rd s (i : Int) = s[i] := by
      show s.getD i 0 = _
      rw [List.getD_eq_getElem?_getD, List.getElem?_eq_getElem hlt]
      rfl
    simp only [laws_yHas.l0]
    rw [if_pos (by omega), if_pos (by omega), if_pos (by omega), er, List.drop_eq_getElem_cons hlt, e]
    by_cases c : s[i] = n
    · rw [if_pos c, decide_eq_true (by rw [c]; exact List.mem_cons_self)]
    · rw [if_neg c, ih k (i + 1) (by omega) (by omega)]
      congr 1
      rw [decide_eq_decide, List.mem_cons]
      exact ⟨.inr, fun h => h.resolve_left (fun h => c h.symm)⟩
theorem yHas_eq (k : Nat) (s : List Int) (n : Int) (hs : s.length ≤ 1000) (hk : 1001 < k) : laws_yHas.f k s n = some (decide (n ∈ s)) := by
  have := yHas_l0 n s hs s.length k 0 (by omega) (by omega)
  rw [List.drop_zero] at this
  exact this
theorem yRises_l0 (s : List Int) (hp : s.Pairwise (· < ·)) (hs : s.length ≤ 1000) (d : Nat) : ∀ (k i : Nat), i + d = s.length + 1 → 1 ≤ i → d + 1 < k → laws_yRises.l0 k s i = some true := by
  induction d with
  | zero =>
    intro k i hi h1 hk
    obtain ⟨k, rfl⟩ : ∃ m, k = m + 1 := ⟨k - 1, by omega⟩
    simp only [laws_yRises.l0]
    rw [if_neg (by omega)]
  | succ d ih =>
    intro k i hi h1 hk
    obtain ⟨k, rfl⟩ : ∃ m, k = m + 1 := ⟨k - 1, by omega⟩
    have e : wrap64 ((i : Int) + 1) = ((i + 1 : Nat) : Int) := by rw [wrap_id (by omega) (by omega)]; omega
    have e2 : wrap64 ((i : Int) - 1) = ((i - 1 : Nat) : Int) := by rw [wrap_id (by omega) (by omega)]; omega
    simp only [laws_yRises.l0]
    by_cases c : (i : Int) < (s.length : Int)
    · have hlt : i < s.length := by omega
      have hlt2 : i - 1 < s.length := by omega
      have er : rd s (i : Int) = s[i] := by
        show s.getD i 0 = _
        rw [List.getD_eq_getElem?_getD, List.getElem?_eq_getElem hlt]
        rfl
      have er2 : rd s ((i - 1 : Nat) : Int) = s[i - 1] := by
        show s.getD (i - 1) 0 = _
        rw [List.getD_eq_getElem?_getD, List.getElem?_eq_getElem hlt2]
        rfl
      have hx := (List.pairwise_iff_getElem.1 hp) (i - 1) i hlt2 hlt (by omega)
      rw [if_pos c, e2, if_pos (by omega), if_pos (by omega), if_pos (by omega), er, er2, if_neg (by omega), e]
      exact ih k (i + 1) (by omega) (by omega) (by omega)
    · rw [if_neg c]
theorem yRises_eq (k : Nat) (s : List Int) (hp : s.Pairwise (· < ·)) (hs : s.length ≤ 1000) (hk : 1010 < k) : laws_yRises.f k s = some true := yRises_l0 s hp hs s.length k 1 (by omega) (by omega) (by omega)
theorem ySame_l0 (s : List Int) (hs : s.length ≤ 1000) (d : Nat) : ∀ (k i : Nat), i + d = s.length → d < k → laws_ySame.l0 k s s s.length i = some true := by
  induction d with
  | zero =>
    intro k i hi hk
    obtain ⟨k, rfl⟩ : ∃ m, k = m + 1 := ⟨k - 1, by omega⟩
    simp only [laws_ySame.l0]
    rw [if_neg (by omega)]
  | succ d ih =>
    intro k i hi hk
    obtain ⟨k, rfl⟩ : ∃ m, k = m + 1 := ⟨k - 1, by omega⟩
    have e : wrap64 ((i : Int) + 1) = ((i + 1 : Nat) : Int) := by rw [wrap_id (by omega) (by omega)]; omega
    simp only [laws_ySame.l0]
    rw [if_pos (by omega), if_pos (by omega), if_pos (by omega), e]
    simp only [if_true]
    rw [if_pos (by omega)]
    exact ih k (i + 1) (by omega) (by omega)
theorem ySame_eq (k : Nat) (s : List Int) (hs : s.length ≤ 1000) (hk : 1001 < k) : laws_ySame.f k s s = some true := by
  unfold laws_ySame.f
  rw [if_pos rfl]
  exact ySame_l0 s hs s.length k 0 (by omega) (by omega)

theorem wi_l0 (out : List Int) (hl : out.length = 360) : ∀ (d k i : Nat), i + d = 360 → d < k →
    impl_WedgeImages.l0 k (((List.range i).filter fun n : Nat => decide (0 < rd out n)).map fun n : Nat => (n : Int)) out 360 i = some (((List.range 360).filter fun n : Nat => decide (0 < rd out n)).map fun n : Nat => (n : Int), true) := by
  intro d
  induction d with
  | zero =>
    intro k i hi hk
    obtain ⟨k, rfl⟩ : ∃ m, k = m + 1 := ⟨k - 1, by omega⟩
    obtain rfl : i = 360 := by omega
    rw [impl_WedgeImages.l0]
    exact if_neg (by omega)
  | succ d ih =>
    intro k i hi hk
    obtain ⟨k, rfl⟩ : ∃ m, k = m + 1 := ⟨k - 1, by omega⟩
    have h1 : (i : Int) < 360 := by omega
    have h0 : (0 : Int) ≤ i := by omega
    have h2 : (i : Int) < (out.length : Int) := by omega
    have wi : wrap64 ((i : Int) + 1) = ((i + 1 : Nat) : Int) := by rw [wrap_id (by omega) (by omega)]; omega
    have hln : (((List.range i).filter fun n : Nat => decide (0 < rd out n)).map fun n : Nat => (n : Int)).length < 17592186044416 := by
      have := List.length_filter_le (fun n : Nat => decide (0 < rd out n)) (List.range i)
      rw [List.length_range] at this
      rw [List.length_map]
      omega
    rw [impl_WedgeImages.l0]
    refine (if_pos h1).trans ((if_pos h0).trans ((if_pos h2).trans ?_))
    rw [wi]
    have hi2 := ih k (i + 1) (by omega) (by omega)
    rw [List.range_succ, List.filter_append, List.map_append] at hi2
    by_cases c : rd out (i : Int) > 0
    · refine (if_pos c).trans ((if_pos hln).trans ?_)
      rw [← hi2, List.filter_cons_of_pos (by simpa using c)]
      rfl
    · refine (if_neg c).trans ?_
      rw [← hi2, List.filter_cons_of_neg (by simpa using c)]
      rw [List.filter_nil, List.map_nil, List.append_nil]
def WI (a p : Int) : List Int × Bool := if wd a p = true then (WL a p, true) else ([], false)
theorem WL_len (a p : Int) : (WL a p).length ≤ 360 := by
  unfold WL
  rw [List.length_map]
  exact Nat.le_trans (List.length_filter_le _ _) (by rw [List.length_range]; exact Nat.le_refl _)
theorem WI_len (a p : Int) : (WI a p).1.length ≤ 360 := by
  unfold WI
  split
  · exact WL_len a p
  · simp
theorem wi_impl (a p : Int) (k : Nat) (hk : 5000 ≤ k) : impl_WedgeImages.f k a p = some (WI a p) := by
  unfold impl_WedgeImages.f WI
  rw [isWedge_eq]
  cases h : wd a p with
  | false => simp
  | true =>
    obtain ⟨h1, h2, h3⟩ := wd_of h
    have hA : 0 ≤ a ∧ a ≤ 90 := ⟨by omega, by omega⟩
    have hp : inR p := ⟨by omega, by omega⟩
    rw [wedgeSteps_eq k (by omega) hA hp]
    simp only [Option.bind_some, if_true]
    have hl := rings_len (A := a) hp
    rw [hl]
    exact wi_l0 _ hl 360 k 0 (by omega) (by omega)
theorem im_spec {a p : Int} (hA : 0 ≤ a ∧ a ≤ 90) (hp : inR p) (k : Nat) (hk : 5000 ≤ k) : spec_miImages.f k a p = some (WL a p) := by
  obtain ⟨out, ho, _, _, hi⟩ := miImages_eq k (by omega) hA hp
  subst ho
  exact hi
theorem wi_spec (a p : Int) (k : Nat) (hk : 5000 ≤ k) : spec_WedgeImages.f k a p = some (WI a p) := by
  unfold spec_WedgeImages.f WI
  rw [miWedge_eq]
  cases h : wd a p with
  | false => simp
  | true =>
    obtain ⟨h1, h2, h3⟩ := wd_of h
    rw [Option.bind_some, if_pos rfl, im_spec (a := a) (p := p) ⟨by omega, by omega⟩ ⟨by omega, by omega⟩ k hk]
    simp
theorem cw_impl (a p : Int) (k : Nat) (hk : 5000 ≤ k) : impl_CountWedge.f k a p = some (((WI a p).1.length : Int), (WI a p).2) := by
  unfold impl_CountWedge.f
  rw [wi_impl a p k hk]
  rfl
theorem cw_spec (a p : Int) (k : Nat) (hk : 5000 ≤ k) : spec_CountWedge.f k a p = some (((WI a p).1.length : Int), (WI a p).2) := by
  unfold spec_CountWedge.f WI
  rw [miWedge_eq]
  cases h : wd a p with
  | false => simp
  | true =>
    obtain ⟨h1, h2, h3⟩ := wd_of h
    rw [Option.bind_some, if_pos rfl, im_spec (a := a) (p := p) ⟨by omega, by omega⟩ ⟨by omega, by omega⟩ k hk]
    simp
def WS (a p i : Int) : Int × Bool := if wd a p = true ∧ (0 ≤ i ∧ i ≤ 359) ∧ 1 ≤ rd (WO a p) i then (rd (WO a p) i, true) else (0, false)
theorem ws_both (a p i : Int) (k : Nat) (hk : 5000 ≤ k) : spec_WedgeSteps.f k a p i = some (WS a p i) ∧ impl_WedgeSteps.f k a p i = some (WS a p i) := by
  obtain ⟨k, rfl⟩ : ∃ m, k = m + 1 := ⟨k - 1, by omega⟩
  unfold spec_WedgeSteps.f impl_WedgeSteps.f WS
  rw [miWedge_eq, isWedge_eq]
  simp only [Option.bind_some]
  cases h : wd a p with
  | false => exact ⟨by simp [spec_WedgeSteps.j0], by simp [impl_WedgeSteps.j0]⟩
  | true =>
    obtain ⟨h1, h2, h3⟩ := wd_of h
    rw [if_pos rfl, if_pos rfl, l1In_eq, within_eq]
    simp only [Option.bind_some]
    by_cases c : 0 ≤ i ∧ i ≤ 359
    · rw [decide_eq_true c]
      simp only [Bool.not_true, spec_WedgeSteps.j0, impl_WedgeSteps.j0, Bool.false_eq_true, if_false, miSteps_eq k (show 4000 ≤ k by omega) (A := a) (p := p) ⟨by omega, by omega⟩ ⟨by omega, by omega⟩, wedgeSteps_eq k (show 4000 ≤ k by omega) (A := a) (p := p) ⟨by omega, by omega⟩ ⟨by omega, by omega⟩, Option.bind_some]
      have hl := rings_len (A := a) (p := p) ⟨by omega, by omega⟩
      unfold WO
      generalize rings a 400 (start p) [p] 1 = out at hl ⊢
      have d : i < (out.length : Int) := by omega
      rw [if_pos c.1, if_pos d, if_pos c.1, if_pos d]
      by_cases e : rd out i < 1
      · refine ⟨(if_pos e).trans ?_, (if_pos (show rd out i ≤ 0 by omega)).trans ?_⟩ <;> rw [if_neg (fun h => by have := h.2.2; omega)]
      · refine ⟨(if_neg e).trans ?_, (if_neg (show ¬ rd out i ≤ 0 by omega)).trans ?_⟩ <;> rw [if_pos ⟨trivial, c, by omega⟩]
    · rw [decide_eq_false c, if_neg (fun h => c h.2.1)]
      exact ⟨by simp [spec_WedgeSteps.j0], by simp [impl_WedgeSteps.j0]⟩
theorem angle_eq (a : Int) (h : 2 ≤ a) (h9 : a ≤ 90) : impl_isWedgeAngle.f a = some (((180 : Int) % a) == 0) := by
  unfold impl_isWedgeAngle.f
  rw [within_eq, decide_eq_true (by omega)]
  simp only [Option.bind_some, if_true]
  rw [if_neg (by omega)]
theorem af_small {n : Nat} (h : n ≤ 1000) : n < 17592186044416 := by omega
theorem af_loop (x : Int) (h1 : 1 ≤ x) (h2 : x ≤ 359) : ∀ (d : Nat) (a : Int) (l : List Int), a + d = 91 → 2 ≤ a → (l.length : Int) ≤ a → ∃ r, (∀ k, 6000 + 2 * d ≤ k → spec_AnglesFor.l0 k x l a = some (r, true)) ∧ (∀ k, 6000 + 2 * d ≤ k → impl_AnglesFor.l0 k x l a = some (r, true)) ∧ r.length ≤ 100 ∧ (∀ z ∈ l, z ∈ r) ∧ (∀ z, a ≤ z → z ≤ 90 → (180 : Int) % z = 0 → z * (x + 1) = 360 → z ∈ r) := by
  intro d
  induction d with
  | zero =>
    intro a l ha h2a hl
    refine ⟨l, fun k hk => ?_, fun k hk => ?_, by omega, fun z hz => hz, fun z h h' => by omega⟩
    · obtain ⟨k, rfl⟩ : ∃ m, k = m + 1 := ⟨k - 1, by omega⟩
      rw [spec_AnglesFor.l0]; exact if_neg (by omega)
    · obtain ⟨k, rfl⟩ : ∃ m, k = m + 1 := ⟨k - 1, by omega⟩
      rw [impl_AnglesFor.l0]; exact if_neg (by omega)
  | succ d ih =>
    intro a l ha h2a hl
    have h90 : a ≤ 90 := by omega
    have hne : ¬ a = 0 := by omega
    have hll : l.length < 17592186044416 := af_small (by omega)
    have wa : wrap64 (a + 1) = a + 1 := wrap_id (by omega) (by omega)
    have wx : wrap64 (x + 1) = x + 1 := wrap_id (by omega) (by omega)
    have m1 : (a * (x + 1)).natAbs ≤ 90 * 360 := by rw [Int.natAbs_mul]; exact Nat.mul_le_mul (by omega) (by omega)
    have wm : wrap64 (a * wrap64 (x + 1)) = a * (x + 1) := by rw [wx]; exact wrap_id (by omega) (by omega)
    obtain ⟨r1, s1, i1, q1, u1, v1⟩ := ih (a + 1) (l ++ [a]) (by omega) (by omega) (by simp; omega)
    obtain ⟨r2, s2, i2, q2, u2, v2⟩ := ih (a + 1) l (by omega) (by omega) (by omega)
    by_cases hd : (180 : Int) % a = 0
    · have hw : wd a 1 = true := decide_eq_true ⟨⟨by omega, by omega⟩, hd, by omega, by omega⟩
      have e2 := (wedge_facts hw).len
      have eb : ((WL a 1).length : Int) = x ↔ a * (x + 1) = 360 := by
        rw [e2]
        obtain ⟨c, hc⟩ := Int.dvd_of_emod_eq_zero hd
        have hq : 360 / a = 2 * c := by
          rw [show (360 : Int) = a * (2 * c) by rw [Int.mul_left_comm, ← hc]; rfl]
          exact Int.mul_ediv_cancel_left _ (by omega)
        rw [hq]
        constructor
        · intro h
          rw [show x + 1 = 2 * c by omega, Int.mul_left_comm, ← hc]
          rfl
        · intro h
          have : a * (x + 1) = a * (2 * c) := by rw [h, Int.mul_left_comm, ← hc]; rfl
          have := Int.eq_of_mul_eq_mul_left (by omega) this
          omega
      by_cases he : a * (x + 1) = 360
      · refine ⟨r1, fun k hk => ?_, fun k hk => ?_, q1, fun z hz => u1 z (by simp [hz]), fun z h h' h3 h4 => ?_⟩
        · obtain ⟨k, rfl⟩ : ∃ m, k = m + 1 := ⟨k - 1, by omega⟩
          rw [spec_AnglesFor.l0]
          refine (if_pos h90).trans ((if_neg hne).trans ((if_pos hd).trans ?_))
          rw [im_spec (a := a) (p := 1) ⟨by omega, by omega⟩ ⟨by omega, by omega⟩ k (by omega), Option.bind_some, wa]
          exact (if_pos (eb.2 he)).trans ((if_pos hll).trans (s1 k (by omega)))
        · obtain ⟨k, rfl⟩ : ∃ m, k = m + 1 := ⟨k - 1, by omega⟩
          rw [impl_AnglesFor.l0]
          refine (if_pos h90).trans ?_
          rw [angle_eq a h2a h90, hd, Option.bind_some, wm, wa]
          exact (if_pos rfl).trans ((if_pos he).trans ((if_pos hll).trans (i1 k (by omega))))
        · by_cases c : z = a
          · exact u1 z (by simp [c])
          · exact v1 z (by omega) h' h3 h4
      · refine ⟨r2, fun k hk => ?_, fun k hk => ?_, q2, u2, fun z h h' h3 h4 => ?_⟩
        · obtain ⟨k, rfl⟩ : ∃ m, k = m + 1 := ⟨k - 1, by omega⟩
          rw [spec_AnglesFor.l0]
          refine (if_pos h90).trans ((if_neg hne).trans ((if_pos hd).trans ?_))
          rw [im_spec (a := a) (p := 1) ⟨by omega, by omega⟩ ⟨by omega, by omega⟩ k (by omega), Option.bind_some, wa]
          exact (if_neg (fun h => he (eb.1 h))).trans (s2 k (by omega))
        · obtain ⟨k, rfl⟩ : ∃ m, k = m + 1 := ⟨k - 1, by omega⟩
          rw [impl_AnglesFor.l0]
          refine (if_pos h90).trans ?_
          rw [angle_eq a h2a h90, hd, Option.bind_some, wm, wa]
          exact (if_pos rfl).trans ((if_neg he).trans (i2 k (by omega)))
        · by_cases c : z = a
          · exact absurd (c ▸ h4) he
          · exact v2 z (by omega) h' h3 h4
    · refine ⟨r2, fun k hk => ?_, fun k hk => ?_, q2, u2, fun z h h' h3 h4 => ?_⟩
      · obtain ⟨k, rfl⟩ : ∃ m, k = m + 1 := ⟨k - 1, by omega⟩
        rw [spec_AnglesFor.l0, wa]
        exact (if_pos h90).trans ((if_neg hne).trans ((if_neg hd).trans (s2 k (by omega))))
      · obtain ⟨k, rfl⟩ : ∃ m, k = m + 1 := ⟨k - 1, by omega⟩
        rw [impl_AnglesFor.l0]
        refine (if_pos h90).trans ?_
        rw [angle_eq a h2a h90, show ((180 : Int) % a == 0) = false by simpa using hd, Option.bind_some, wa]
        exact (if_neg (fun h => by cases h)).trans (i2 k (by omega))
      · by_cases c : z = a
        · exact absurd (c ▸ h3) hd
        · exact v2 z (by omega) h' h3 h4
theorem af_both (x : Int) : ∃ l b, (∀ k, 7000 ≤ k → spec_AnglesFor.f k x = some (l, b)) ∧ (∀ k, 7000 ≤ k → impl_AnglesFor.f k x = some (l, b)) ∧ l.length ≤ 100 ∧ (1 ≤ x → x ≤ 359 → b = true ∧ ∀ z, 2 ≤ z → z ≤ 90 → (180 : Int) % z = 0 → z * (x + 1) = 360 → z ∈ l) := by
  by_cases h : 1 ≤ x ∧ x ≤ 359
  · obtain ⟨l, s, i, q, _, v⟩ := af_loop x h.1 h.2 89 2 [] (by omega) (by omega) (by simp)
    refine ⟨l, true, fun k hk => ?_, fun k hk => ?_, q, fun _ _ => ⟨rfl, v⟩⟩
    · unfold spec_AnglesFor.f
      rw [l1In_eq, decide_eq_true h]
      simpa using s k (by omega)
    · unfold impl_AnglesFor.f
      rw [within_eq, decide_eq_true h]
      simpa using i k (by omega)
  · refine ⟨[], false, fun k _ => ?_, fun k _ => ?_, by simp, fun a b => absurd ⟨a, b⟩ h⟩
    · unfold spec_AnglesFor.f
      rw [l1In_eq, decide_eq_false h]
      simp
    · unfold impl_AnglesFor.f
      rw [within_eq, decide_eq_false h]
      simp

theorem wadd {c : Nat} (h : c ≤ 1000) : wrap64 ((c : Int) + 1) = ((c + 1 : Nat) : Int) := by
  rw [wrap_id (by omega) (by omega)]
  omega
theorem wl_run {a p : Int} (h : wd a p = true) (n : Int) (hn : n = 360 / a - 1) (L O : List Int) (hL : L.length ≤ 360) (hws : ∀ k, 5000 ≤ k → ∀ x ∈ L, impl_WedgeSteps.f k a p x = some (rd O x, true)) (heach : ∀ x ∈ L, 1 ≤ rd O x ∧ rd O x ≤ 180 / a) (honce : L.countP (fun x => decide (rd O x = 1)) = 2) : ∀ (d i : Nat) (k : Nat), i + d = L.length → 10000 + 2 * d ≤ k →
    laws_FnMirrorsFace.l1 k a p n ((L.take i).countP (fun x => decide (rd O x = 1)) : Nat) L L.length i = some true := by
  obtain ⟨g1, g2, g3⟩ := wd_of h
  have ha0 : ¬ a = 0 := by omega
  intro d
  induction d with
  | zero =>
    intro i k hi hk
    obtain ⟨k, rfl⟩ : ∃ m, k = m + 1 := ⟨k - 1, by omega⟩
    obtain ⟨l, b, _, e, hl, hb⟩ := af_both n
    have q180 : a * (180 / a) = 180 := Int.mul_ediv_cancel' (Int.dvd_of_emod_eq_zero g2)
    have q2 : 2 ≤ 180 / a := by
      apply Int.not_lt.1
      intro c
      have := Int.mul_le_mul_of_nonneg_left (show 180 / a ≤ 1 by omega) (show 0 ≤ a by omega)
      omega
    have q360 : 360 / a = 2 * (180 / a) := by
      have e4 : (360 : Int) = a * (2 * (180 / a)) := by rw [Int.mul_left_comm, q180]; rfl
      rw [e4]
      exact Int.mul_ediv_cancel_left _ ha0
    have q90 : 180 / a ≤ 90 := by
      apply Int.not_lt.1
      intro c
      have := Int.mul_le_mul_of_nonneg_right (show 2 ≤ a by omega) (show 0 ≤ 180 / a by omega)
      omega
    have e3 := hb (by omega) (by omega)
    have hmem : a ∈ l := e3.2 a (by omega) (by omega) g2 (by rw [hn, q360, show 2 * (180 / a) - 1 + 1 = 2 * (180 / a) by omega, Int.mul_left_comm, q180]; rfl)
    have hone : ((L.take i).countP (fun x => decide (rd O x = 1)) : Int) = 2 := by
      rw [List.take_of_length_le (by omega), honce]
      rfl
    rw [laws_FnMirrorsFace.l1, hone, e k (by omega)]
    refine (if_neg (by omega)).trans ?_
    rw [Option.bind_some]
    refine (if_pos rfl).trans ?_
    show (if b = true then _ else _) = _
    rw [e3.1]
    refine (if_pos rfl).trans ?_
    show ((laws_yHas.f k l a).bind _) = _
    rw [yHas_eq k l a (by omega) (by omega), decide_eq_true hmem]
    rfl
  | succ d ih =>
    intro i k hi hk
    obtain ⟨k, rfl⟩ : ∃ m, k = m + 2 := ⟨k - 2, by omega⟩
    have hil : i < L.length := by omega
    have hI : (i : Int) < (L.length : Int) := by omega
    have h0 : (0 : Int) ≤ i := by omega
    have er : rd L (i : Int) = L[i] := by
      show L.getD i 0 = _
      rw [List.getD_eq_getElem?_getD, List.getElem?_eq_getElem hil]
      rfl
    obtain ⟨f2, f3⟩ := heach L[i] (List.getElem_mem hil)
    have wi : wrap64 ((i : Int) + 1) = ((i + 1 : Nat) : Int) := by rw [wrap_id (by omega) (by omega)]; omega
    have hc := List.countP_le_length (p := fun x => decide (rd O x = 1)) (l := L.take i)
    rw [List.length_take] at hc
    have q1 : 0 ≤ 180 / a ∧ 180 / a ≤ 180 := ⟨Int.ediv_nonneg (by omega) (by omega), Int.ediv_le_self _ (by omega)⟩
    have w180 : wrap64 (180 / a) = 180 / a := wrap_id (by omega) (by omega)
    have ih2 := ih (i + 1) k (by omega) (by omega)
    rw [List.take_succ_eq_append_getElem hil, List.countP_append, List.countP_cons, List.countP_nil] at ih2
    rw [laws_FnMirrorsFace.l1, er, hws (k + 1) (by omega) _ (List.getElem_mem hil)]
    refine (if_pos hI).trans ((if_pos h0).trans ((if_pos hI).trans ?_))
    rw [Option.bind_some]
    refine (if_pos rfl).trans ?_
    generalize hv : rd O L[i] = v at f2 f3 ih2 ⊢
    refine (if_neg (show ¬ v < 1 by omega)).trans ((if_neg ha0).trans ?_)
    rw [w180, decide_eq_false (show ¬ v > 180 / a by omega), laws_FnMirrorsFace.j15, wi]
    refine (if_neg (fun h => by cases h)).trans ?_
    generalize List.countP (fun x => decide (rd O x = 1)) (List.take i L) = c0 at hc ih2 ⊢
    by_cases c : v = 1
    · refine (if_pos c).trans ?_
      rw [show (if decide (v = 1) = true then 1 else 0) = 1 by rw [decide_eq_true c]; rfl, Nat.zero_add] at ih2
      rw [wadd (c := c0) (Nat.le_trans hc (Nat.le_trans (Nat.min_le_right _ _) (Nat.le_trans hL (by decide))))]
      exact ih2
    · refine (if_neg c).trans ?_
      rw [show (if decide (v = 1) = true then 1 else 0) = 0 by rw [decide_eq_false c]; rfl, Nat.add_zero, Nat.add_zero] at ih2
      exact ih2
theorem j12_true (k : Nat) (hk : 20000 ≤ k) (a p : Int) : laws_FnMirrorsFace.j12 k a p (WI a p).1 (WI a p).2 ((WI a p).1.length : Int) = some true := by
  obtain ⟨k, rfl⟩ : ∃ m, k = m + 2 := ⟨k - 2, by omega⟩
  rw [laws_FnMirrorsFace.j12]
  unfold WI
  by_cases h : wd a p = true
  · rw [if_pos h]
    have F := wedge_facts h
    obtain ⟨g1, g2, g3⟩ := wd_of h
    have hL := WL_len a p
    have q1 : 0 ≤ 360 / a ∧ 360 / a ≤ 360 := ⟨Int.ediv_nonneg (by omega) (by omega), Int.ediv_le_self _ (by omega)⟩
    have w1 : wrap64 (wrap64 (360 / a) - 1) = 360 / a - 1 := by rw [wrap_id (n := 360 / a) (by omega) (by omega), wrap_id (by omega) (by omega)]
    rw [w1]
    refine (if_pos rfl).trans ((if_pos rfl).trans ((if_neg (show ¬ a = 0 by omega)).trans ((if_pos F.len).trans ?_)))
    rw [yRises_eq (k + 1) (WL a p) F.rise (by omega) (by omega), Option.bind_some]
    refine (if_pos rfl).trans ?_
    rw [yHas_eq (k + 1) (WL a p) p (by omega) (by omega), decide_eq_false F.other, Option.bind_some, laws_FnMirrorsFace.j13]
    refine (if_neg (fun h => by cases h)).trans ?_
    have hws : ∀ k, 5000 ≤ k → ∀ x ∈ WL a p, impl_WedgeSteps.f k a p x = some (rd (WO a p) x, true) := fun k hk x hx => by
      obtain ⟨f1, f2, f3⟩ := F.each x hx
      rw [(ws_both a p x k hk).2]
      unfold WS
      rw [if_pos ⟨h, ⟨f1.1, by have := f1.2; omega⟩, f2⟩]
    have heach : ∀ x ∈ WL a p, 1 ≤ rd (WO a p) x ∧ rd (WO a p) x ≤ 180 / a := fun x hx => (F.each x hx).2
    have honce := F.once
    have hlen := F.len
    generalize WL a p = L at hL hws heach honce hlen ⊢
    generalize WO a p = O at hws heach honce ⊢
    exact wl_run h (L.length : Int) hlen L O hL hws heach honce L.length 0 k (by omega) (by omega)
  · rw [if_neg h]
    exact if_neg (fun h => by cases h)

/-- Is a list a word, behind such a sign? -/
def gl : Option UInt8 → List UInt8 → Bool
  | _, [] => true
  | p, b :: l => ((b == 108 || b == 114) && !(p == some b)) && gl (some b) l
def inW (b : UInt8) : Bool := ([108, 114] : List UInt8).contains b
theorem inW_eq (b : UInt8) : inW b = (b == 108 || b == 114) := by
  unfold inW
  rw [List.contains_cons, List.contains_cons, List.contains_nil, Bool.or_false]
theorem drop_nil {p : UInt8 → Bool} : ∀ l : List UInt8, (l.dropWhile p = [] ↔ ∀ x, x ∈ l → p x = true)
  | [] => by simp
  | b :: l => by
    have ih := drop_nil (p := p) l
    rw [List.dropWhile_cons]
    cases h : p b with
    | true => simp [h, ih]
    | false => simp [h]
theorem drop_keeps {p : UInt8 → Bool} {x : UInt8} (hx : p x = false) : ∀ l : List UInt8, x ∈ l → x ∈ l.dropWhile p
  | [], h => h
  | b :: l, h => by
    rw [List.dropWhile_cons]
    cases hb : p b with
    | false => simpa [hb] using h
    | true =>
      rcases List.mem_cons.1 h with rfl | h
      · rw [hx] at hb
        cases hb
      · simpa [hb] using drop_keeps hx l h
theorem trim_all (l : List UInt8) : (Lib.trimS l [108, 114]).isEmpty = l.all inW := by
  rw [Bool.eq_iff_iff, List.isEmpty_iff, List.all_eq_true]
  show List.dropWhile inW (List.reverse (List.dropWhile inW l.reverse)) = [] ↔ _
  rw [drop_nil]
  constructor
  · intro h x hx
    cases c : inW x with
    | true => rfl
    | false =>
      have := h x (by rw [List.mem_reverse]; exact drop_keeps c _ (by rw [List.mem_reverse]; exact hx))
      rw [c] at this
      exact this
  · intro h x hx
    rw [List.mem_reverse] at hx
    have h1 : x ∈ l.reverse := (List.dropWhile_sublist _).subset hx
    rw [List.mem_reverse] at h1
    exact h x h1
theorem contains_cons (b : UInt8) (l sub : List UInt8) : Lib.contains (b :: l) sub = (sub.isPrefixOf (b :: l) || Lib.contains l sub) := by
  unfold Lib.contains
  rw [Lib.index]
  have h0 := Lib.index_ge l sub
  cases c : sub.isPrefixOf (b :: l) with
  | true => simp
  | false =>
    rw [if_neg (by simp), Bool.false_or, decide_eq_decide]
    by_cases e : Lib.index l sub = -1
    · rw [if_pos (by rw [e]; rfl), e]
    · rw [if_neg (by simpa using e)]
      omega
theorem contains_nil (a : UInt8) : Lib.contains [] [a, a] = false := rfl
theorem gl_some : ∀ (l : List UInt8) (p : UInt8), inW p = true → gl (some p) l = (l.all inW && (!Lib.contains (p :: l) [108, 108] && !Lib.contains (p :: l) [114, 114]))
  | [], p, _ => by
    have h : ∀ a : UInt8, ([a, a] : List UInt8).isPrefixOf [p] = false := fun a => by simp [List.isPrefixOf]
    rw [contains_cons, contains_cons, h, h, contains_nil, contains_nil]
    rfl
  | b :: l, p, hp => by
    have h : ∀ a : UInt8, ([a, a] : List UInt8).isPrefixOf (p :: b :: l) = (a == p && a == b) := fun a => by simp [List.isPrefixOf]
    rw [contains_cons p, contains_cons p, h, h, List.all_cons, gl]
    rw [inW_eq] at hp
    cases hb : inW b with
    | false =>
      rw [inW_eq] at hb
      rw [hb]
      simp
    | true =>
      rw [gl_some l b hb]
      rw [inW_eq] at hb
      rw [hb]
      generalize l.all inW = x
      generalize Lib.contains (b :: l) [108, 108] = y
      generalize Lib.contains (b :: l) [114, 114] = z
      have e1 : p = 108 ∨ p = 114 := by simpa using hp
      have e2 : b = 108 ∨ b = 114 := by simpa using hb
      rcases e1 with rfl | rfl <;> rcases e2 with rfl | rfl <;> cases x <;> cases y <;> cases z <;> decide
theorem gl_none (l : List UInt8) : gl none l = (l.all inW && (!Lib.contains l [108, 108] && !Lib.contains l [114, 114])) := by
  cases l with
  | nil => rfl
  | cons b l =>
    rw [gl, List.all_cons]
    cases hb : inW b with
    | false =>
      rw [inW_eq] at hb
      rw [hb]
      simp
    | true =>
      rw [gl_some l b hb]
      rw [inW_eq] at hb
      rw [hb]
      simp
theorem isWord_eq (s : ByteArray) : impl_isWord.f s = some (decide ((s.size : Int) ≤ 40) && gl none s.data.toList) := by
  unfold impl_isWord.f
  rw [trim_all, gl_none]
/-- A text's byte is its list's. -/
theorem bt_list (s : ByteArray) (i : Nat) (h : i < s.size) : ∃ b, s.data.toList[i]? = some b ∧ bt s (i : Int) = (b.toNat : Int) := by
  refine ⟨s[i]'h, ?_, ?_⟩
  · have : s.data.toList[i]? = s.data[i]? := Array.getElem?_toList
    rw [this, Array.getElem?_eq_getElem h]
    rfl
  · have := bt_at s (i : Int) (by simpa using h)
    rw [← this]
    rfl
theorem word_l0 (s : ByteArray) (h40 : s.size ≤ 40) : ∀ (d i : Nat) (p : Option UInt8), i + d = s.size → ((i = 0 ∧ p = none) ∨ (0 < i ∧ p = s.data.toList[i - 1]?)) → ∀ k, d < k → spec_miWord.l0 k s i = some (gl p (s.data.toList.drop i)) := by
  intro d
  induction d with
  | zero =>
    intro i p hi hp k hk
    obtain ⟨k, rfl⟩ : ∃ m, k = m + 1 := ⟨k - 1, by omega⟩
    have : s.data.toList.drop i = [] := List.drop_eq_nil_of_le (by rw [← Lib.size_eq]; omega)
    rw [spec_miWord.l0, if_neg (by omega), this]
    cases p <;> rfl
  | succ d ih =>
    intro i p hi hp k hk
    obtain ⟨k, rfl⟩ : ∃ m, k = m + 1 := ⟨k - 1, by omega⟩
    have e : wrap64 ((i : Int) + 1) = ((i + 1 : Nat) : Int) := by rw [wrap_id (by omega) (by omega)]; omega
    obtain ⟨b, hb, hbt⟩ := bt_list s i (by omega)
    have hl : s.data.toList.drop i = b :: s.data.toList.drop (i + 1) := by
      obtain ⟨h1, h2⟩ := List.getElem?_eq_some_iff.1 hb
      rw [List.drop_eq_getElem_cons h1, h2]
    have n1 := ih (i + 1) (some b) (by omega) (.inr ⟨by omega, by rw [Nat.add_sub_cancel]; exact hb.symm⟩) k (by omega)
    rw [spec_miWord.l0, if_pos (by omega), if_pos (by omega), hl, gl, hbt, e, n1]
    have j108 : ((b.toNat : Int) = 108) ↔ b = 108 := by
      constructor
      · intro h
        exact UInt8.toNat_inj.1 (by show b.toNat = 108; omega)
      · rintro rfl
        rfl
    have j114 : ((b.toNat : Int) = 114) ↔ b = 114 := by
      constructor
      · intro h
        exact UInt8.toNat_inj.1 (by show b.toNat = 114; omega)
      · rintro rfl
        rfl
    rcases hp with ⟨rfl, rfl⟩ | ⟨h0, hp⟩
    · have z : ¬ ((0 : Nat) : Int) > 0 := by omega
      by_cases c1 : b = 108
      · rw [if_pos (j108.2 c1), if_neg z, c1]
        simp
      · rw [if_neg (fun h => c1 (j108.1 h))]
        by_cases c2 : b = 114
        · rw [if_pos (j114.2 c2), if_neg z, c2]
          simp
        · rw [if_neg (fun h => c2 (j114.1 h))]
          simp [c1, c2]
    · obtain ⟨q, hq, hqt⟩ := bt_list s (i - 1) (by omega)
      have z : ((i : Nat) : Int) > 0 := by omega
      have e1 : wrap64 ((i : Int) - 1) = ((i - 1 : Nat) : Int) := by rw [wrap_id (by omega) (by omega)]; omega
      have g1 : 0 ≤ wrap64 ((i : Int) - 1) := by rw [e1]; omega
      have g2 : wrap64 ((i : Int) - 1) < (s.size : Int) := by rw [e1]; omega
      rw [if_pos z, if_pos g1, if_pos g2, e1, hqt]
      rw [hq] at hp
      subst hp
      have jq : ((b.toNat : Int) = (q.toNat : Int)) ↔ q = b := by
        constructor
        · intro h
          exact UInt8.toNat_inj.1 (by omega)
        · rintro rfl
          rfl
      by_cases c3 : q = b
      · rw [if_pos (jq.2 c3)]
        have : ((some q : Option UInt8) == some b) = true := by rw [c3]; exact beq_self_eq_true _
        rw [this]
        by_cases c1 : b = 108
        · rw [if_pos (j108.2 c1)]
          simp
        · rw [if_neg (fun h => c1 (j108.1 h))]
          by_cases c2 : b = 114
          · rw [if_pos (j114.2 c2)]
            simp
          · rw [if_neg (fun h => c2 (j114.1 h))]
            simp
      · rw [if_neg (fun h => c3 (jq.1 h))]
        have : ((some q : Option UInt8) == some b) = false := by
          refine beq_eq_false_iff_ne.2 (fun h => c3 ?_)
          exact Option.some.inj h
        rw [this]
        by_cases c1 : b = 108
        · rw [if_pos (j108.2 c1), c1]
          simp
        · rw [if_neg (fun h => c1 (j108.1 h))]
          by_cases c2 : b = 114
          · rw [if_pos (j114.2 c2), c2]
            simp
          · rw [if_neg (fun h => c2 (j114.1 h))]
            simp [c1, c2]
theorem miWord_eq (s : ByteArray) (k : Nat) (hk : 100 ≤ k) : spec_miWord.f k s = some (decide ((s.size : Int) ≤ 40) && gl none s.data.toList) := by
  unfold spec_miWord.f
  by_cases c : (s.size : Int) > 40
  · rw [if_pos c, decide_eq_false (by omega)]
    rfl
  · rw [if_neg c, decide_eq_true (by omega)]
    have := word_l0 s (by omega) s.size 0 none (by omega) (.inl ⟨rfl, rfl⟩) k (by omega)
    rw [List.drop_zero] at this
    exact this
theorem okW_gl : ∀ (l : List UInt8) (p : Option UInt8), gl p l = true → ∀ b, b ∈ l → b = 108 ∨ b = 114
  | [], _, _, b, hb => by cases hb
  | x :: l, p, h, b, hb => by
    rw [gl, Bool.and_eq_true, Bool.and_eq_true] at h
    rcases List.mem_cons.1 hb with rfl | hb
    · simpa using h.1.1
    · exact okW_gl l _ h.2 b hb

def bsL (l : List UInt8) : ByteArray := ⟨⟨l⟩⟩
def wlL (x y : UInt8) (n : Nat) : List UInt8 := (List.range n).map fun i => if i % 2 = 0 then x else y
/-- Both words of so many reflections. -/
def Wd (n : Nat) : List ByteArray := [bsL (wlL 108 114 n), bsL (wlL 114 108 n)]
theorem wd_spec : ∀ n : Nat, n < 41 → spec_miWords.f 100 (n : Int) = some (Wd n) := by decide +kernel
theorem wd_impl : ∀ n : Nat, n < 41 → (1 ≤ n → impl_wordsOf.f (n : Int) = some (Wd n)) := by decide +kernel
theorem wd_ok : ∀ n : Nat, n < 41 → (Wd n).all okB = true := by decide +kernel
theorem wd_all (n : Nat) (h : n < 41) : spec_miWords.f 100 (n : Int) = some (Wd n) ∧ (1 ≤ n → impl_wordsOf.f (n : Int) = some (Wd n)) ∧ (Wd n).length = 2 ∧ (Wd n).all okB = true := ⟨wd_spec n h, wd_impl n h, rfl, wd_ok n h⟩
theorem wd_zero : impl_wordsOf.f 0 = some [⟨#[]⟩] := by decide +kernel
theorem miWords_eq (n : Nat) (hn : n < 41) (k : Nat) (hk : 100 ≤ k) : spec_miWords.f k (n : Int) = some (Wd n) := by
  have : ∀ d, spec_miWords.f (100 + d) (n : Int) = some (Wd n) := by
    intro d
    induction d with
    | zero => exact wd_spec n hn
    | succ d ih => exact spec_miWords.mono _ _ _ ih
  have h := this (k - 100)
  rwa [show 100 + (k - 100) = k by omega] at h
theorem two_of {l : List ByteArray} (h : l.length = 2) (ho : l.all okB = true) : ∃ x y, l = [x, y] ∧ okW x ∧ okW y := by
  match l, h with
  | [x, y], _ =>
    simp at ho
    exact ⟨x, y, rfl, okW_of ho.1, okW_of ho.2⟩

/-- Where something seems to be behind a list of reflections. -/
def aft (w : Int) : Int → List UInt8 → Int
  | a, [] => a
  | a, b :: l => aft w (if b = 108 then -a else 2 * w - a) l
theorem aft_snoc (w : Int) (b : UInt8) : ∀ (l : List UInt8) (a : Int), aft w a (l ++ [b]) = if b = 108 then -(aft w a l) else 2 * w - aft w a l := by
  intro l
  induction l with
  | nil => intro a; rfl
  | cons c l ih => intro a; exact ih _
theorem aft_bound {w : Int} (hw : 0 ≤ w ∧ w ≤ 500) : ∀ (l : List UInt8) (a : Int) (m : Nat), -(1000 * m + 1000) ≤ a → a ≤ 1000 * m + 1000 → -(1000 * (m + l.length : Nat) + 1000) ≤ aft w a l ∧ aft w a l ≤ 1000 * (m + l.length : Nat) + 1000 := by
  intro l
  induction l with
  | nil => intro a m h0 h1; exact ⟨h0, h1⟩
  | cons c l ih =>
    intro a m h0 h1
    have := ih (if c = 108 then -a else 2 * w - a) (m + 1) (by split <;> omega) (by split <;> omega)
    rw [List.length_cons, show m + (l.length + 1) = m + 1 + l.length by omega]
    exact this
theorem wNeg {n : Int} {i : Nat} (h0 : -(1000 * i + 1000) ≤ n) (h1 : n ≤ 1000 * i + 1000) (hi : i ≤ 40) : wrap64 (-n) = -n := wrap_id (by omega) (by omega)
theorem wDbl {w : Int} (hw : 0 ≤ w ∧ w ≤ 500) : wrap64 (2 * w) = 2 * w := wrap_id (by omega) (by omega)
theorem wSub {w n : Int} {i : Nat} (hw : 0 ≤ w ∧ w ≤ 500) (h0 : -(1000 * i + 1000) ≤ n) (h1 : n ≤ 1000 * i + 1000) (hi : i ≤ 40) : wrap64 (2 * w - n) = 2 * w - n ∧ wrap64 (-n + 2 * w) = 2 * w - n := by
  refine ⟨wrap_id (by omega) (by omega), ?_⟩
  rw [wrap_id (by omega) (by omega)]
  omega
theorem wInc {i : Nat} (hi : i ≤ 1000) : wrap64 ((i : Int) + 1) = ((i + 1 : Nat) : Int) := by rw [wrap_id (by omega) (by omega)]; omega
theorem after_v {w : Int} (hw : 0 ≤ w ∧ w ≤ 500) {s : ByteArray} (hs : okW s) : ∀ (d i : Nat) (a : Int), i + d = s.size → -(1000 * i + 1000) ≤ a → a ≤ 1000 * i + 1000 →
    (∀ k, d < k → spec_miAfter.l0 k w a s i = some (aft w a (s.data.toList.drop i))) ∧ (∀ k, d < k → impl_imageAfter.l0 k w a s s.size i = some (aft w a (s.data.toList.drop i))) := by
  have h40 := hs.size
  have hsz : s.data.toList.length = s.size := by rw [← Lib.size_eq]
  intro d
  induction d with
  | zero =>
    intro i a hi h0 h1
    rw [List.drop_eq_nil_of_le (by omega)]
    refine ⟨fun k hk => ?_, fun k hk => ?_⟩ <;> obtain ⟨k, rfl⟩ : ∃ m, k = m + 1 := ⟨k - 1, by omega⟩
    · rw [spec_miAfter.l0]
      exact if_neg (by omega)
    · rw [impl_imageAfter.l0]
      exact if_neg (by omega)
  | succ d ih =>
    intro i a hi h0 h1
    have hlt : (i : Int) < (s.size : Int) := by omega
    have hi0 : (0 : Int) ≤ i := by omega
    obtain ⟨b, hb, hbt⟩ := bt_list s i (by omega)
    have hl : s.data.toList.drop i = b :: s.data.toList.drop (i + 1) := by
      obtain ⟨h1, h2⟩ := List.getElem?_eq_some_iff.1 hb
      rw [List.drop_eq_getElem_cons h1, h2]
    have hi40 : i ≤ 40 := by omega
    have hi1000 : i ≤ 1000 := by omega
    rw [hl]
    rcases hs.each i (by omega) with c | c
    · have hb1 : b = 108 := UInt8.toNat_inj.1 (by show b.toNat = 108; omega)
      obtain ⟨e1, e2⟩ := ih (i + 1) (-a) (by omega) (by omega) (by omega)
      have ea : aft w a (b :: s.data.toList.drop (i + 1)) = aft w (-a) (s.data.toList.drop (i + 1)) := by rw [aft, if_pos hb1]
      rw [ea]
      refine ⟨fun k hk => ?_, fun k hk => ?_⟩ <;> obtain ⟨k, rfl⟩ : ∃ m, k = m + 1 := ⟨k - 1, by omega⟩
      · rw [spec_miAfter.l0, wNeg h0 h1 hi40, wInc hi1000]
        exact (if_pos hlt).trans ((if_pos hi0).trans ((if_pos c).trans (e1 k (Nat.lt_of_succ_lt_succ hk))))
      · rw [impl_imageAfter.l0, wNeg h0 h1 hi40, wInc hi1000]
        exact (if_pos hlt).trans ((if_pos hi0).trans ((if_pos hlt).trans ((if_neg (by rw [c]; decide)).trans (e2 k (Nat.lt_of_succ_lt_succ hk)))))
    · have hb1 : b ≠ 108 := fun e => by
        rw [e] at hbt
        rw [hbt] at c
        exact absurd c (by decide)
      obtain ⟨e1, e2⟩ := ih (i + 1) (2 * w - a) (by omega) (by omega) (by omega)
      have ea : aft w a (b :: s.data.toList.drop (i + 1)) = aft w (2 * w - a) (s.data.toList.drop (i + 1)) := by rw [aft, if_neg hb1]
      rw [ea]
      refine ⟨fun k hk => ?_, fun k hk => ?_⟩ <;> obtain ⟨k, rfl⟩ : ∃ m, k = m + 1 := ⟨k - 1, by omega⟩
      · rw [spec_miAfter.l0, wDbl hw, (wSub hw h0 h1 hi40).1, wInc hi1000]
        exact (if_pos hlt).trans ((if_pos hi0).trans ((if_neg (by rw [c]; decide)).trans (e1 k (Nat.lt_of_succ_lt_succ hk))))
      · rw [impl_imageAfter.l0, wNeg h0 h1 hi40, wDbl hw, (wSub hw h0 h1 hi40).2, wInc hi1000]
        exact (if_pos hlt).trans ((if_pos hi0).trans ((if_pos hlt).trans ((if_pos c).trans (e2 k (Nat.lt_of_succ_lt_succ hk)))))
theorem after_f {w a : Int} (hw : 0 ≤ w ∧ w ≤ 500) (ha : 0 ≤ a ∧ a ≤ 500) {s : ByteArray} (hs : okW s) (k : Nat) (hk : 50 ≤ k) : spec_miAfter.f k w a s = some (aft w a s.data.toList) ∧ impl_imageAfter.f k w a s = some (aft w a s.data.toList) := by
  have := hs.size
  obtain ⟨e1, e2⟩ := after_v hw hs s.size 0 a (by omega) (by omega) (by omega)
  exact ⟨e1 k (by omega), e2 k (by omega)⟩
def coL : Int → Int → List UInt8 → Int × Int
  | p, q, [] => (p, q)
  | p, q, b :: l => coL (if b = 108 then -p else 2 - p) (-q) l
theorem aft_co (w a : Int) : ∀ (l : List UInt8) (p q : Int), aft w (p * w + q * a) l = (coL p q l).1 * w + (coL p q l).2 * a := by
  intro l
  induction l with
  | nil => intro p q; rfl
  | cons b l ih =>
    intro p q
    rw [aft, coL, ← ih]
    congr 1
    by_cases c : b = 108
    · rw [if_pos c, if_pos c, Int.neg_mul, Int.neg_mul, Int.neg_add]
    · rw [if_neg c, if_neg c, Int.sub_mul, Int.neg_mul]
      omega
def VX (w a : Int) (n : Nat) : Int := if n % 2 = 0 then (n : Int) * w + a else -(((n : Int) - 1) * w) - a
def VY (w a : Int) (n : Nat) : Int := if n % 2 = 0 then a - (n : Int) * w else ((n : Int) + 1) * w - a
/-- What is known of a word. -/
def wInfo (s : ByteArray) : Nat × Bool × (Int × Int) := (s.size, gl none s.data.toList, coL 0 1 s.data.toList)
theorem wv_all : ∀ n : Nat, n < 41 → (Wd n).map wInfo = [(n, true, if n % 2 = 0 then ((n : Int), 1) else (1 - (n : Int), -1)), (n, true, if n % 2 = 0 then (-(n : Int), 1) else ((n : Int) + 1, -1))] := by decide +kernel
structure wordOf (w a : Int) (n : Nat) (v : Int) (s : ByteArray) : Prop where
  ok : okW s
  size : s.size = n
  word : gl none s.data.toList = true
  val : aft w a s.data.toList = v
theorem words_at (w a : Int) (n : Nat) (hn : n < 41) : ∃ x y, Wd n = [x, y] ∧ wordOf w a n (VX w a n) x ∧ wordOf w a n (VY w a n) y := by
  obtain ⟨_, _, g3, g4⟩ := wd_all n hn
  obtain ⟨x, y, hxy, ox, oy⟩ := two_of g3 g4
  have h := wv_all n hn
  rw [hxy] at h
  simp only [List.map_cons, List.map_nil, List.cons.injEq, and_true] at h
  obtain ⟨h1, h2⟩ := h
  have val : ∀ (s : ByteArray) (p q : Int), coL 0 1 s.data.toList = (p, q) → aft w a s.data.toList = p * w + q * a := by
    intro s p q e
    have := aft_co w a s.data.toList 0 1
    rw [e, Int.zero_mul, Int.zero_add, Int.one_mul] at this
    exact this
  unfold wInfo at h1 h2
  simp only [Prod.mk.injEq] at h1 h2
  refine ⟨x, y, hxy, ⟨ox, h1.1, h1.2.1, ?_⟩, ⟨oy, h2.1, h2.2.1, ?_⟩⟩
  · unfold VX
    by_cases c : n % 2 = 0
    · rw [if_pos c] at h1 ⊢
      rw [val x _ _ h1.2.2, Int.one_mul]
    · rw [if_neg c] at h1 ⊢
      rw [val x _ _ h1.2.2, Int.neg_one_mul, show (1 - (n : Int)) = -((n : Int) - 1) by omega, Int.neg_mul]
      rfl
  · unfold VY
    by_cases c : n % 2 = 0
    · rw [if_pos c] at h2 ⊢
      rw [val y _ _ h2.2.2, Int.one_mul, Int.neg_mul]
      omega
    · rw [if_neg c] at h2 ⊢
      rw [val y _ _ h2.2.2, Int.neg_one_mul]
      rfl

def ds (s x : Int) : Int := mx (x - s) (s - x)
theorem ds_eq (z s : Int) : ds s z = if z < s then s - z else z - s := by
  unfold ds mx
  by_cases c : z < s
  · rw [if_pos (by omega), if_pos c]
  · rw [if_neg (by omega), if_neg c]
/-- The images at this very distance: how many, as so many times the distance. -/
def atL (w a s : Int) (f : Nat) : List Int := if isIm w a (s - f) = true then [(f : Int)] else []
def atR (w a s : Int) (f : Nat) : List Int := if 0 < f ∧ isIm w a (s + f) = true then [(f : Int)] else []
/-- The distances of all images up to a distance. -/
def dl (w a s : Int) : Nat → List Int
  | 0 => atL w a s 0 ++ atR w a s 0
  | f + 1 => dl w a s f ++ (atL w a s (f + 1) ++ atR w a s (f + 1))
theorem dat_mem {w a s : Int} {f : Nat} {x : Int} (h : x ∈ atL w a s f ++ atR w a s f) : x = f := by
  rw [List.mem_append] at h
  unfold atL atR at h
  rcases h with h | h
  · split at h <;> simp at h; exact h
  · split at h <;> simp at h; exact h
theorem dl_mem {w a s : Int} : ∀ (f : Nat) (x : Int), x ∈ dl w a s f → 0 ≤ x ∧ x ≤ f := by
  intro f
  induction f with
  | zero => intro x h; have := dat_mem h; omega
  | succ f ih =>
    intro x h
    simp only [dl] at h
    rcases List.mem_append.1 h with h | h
    · have := ih x h; omega
    · have := dat_mem h; omega
theorem at_sorted {w a s : Int} (f : Nat) : (atL w a s f ++ atR w a s f).Pairwise (fun x y => x ≤ y) := by
  rw [List.pairwise_iff_getElem]
  intro i j hi hj _
  have h1 := dat_mem (List.getElem_mem hi)
  have h2 := dat_mem (List.getElem_mem hj)
  omega
theorem dl_sorted {w a s : Int} : ∀ f : Nat, (dl w a s f).Pairwise (fun x y => x ≤ y) := by
  intro f
  induction f with
  | zero => exact at_sorted 0
  | succ f ih =>
    simp only [dl]
    rw [List.pairwise_append]
    refine ⟨ih, at_sorted (f + 1), fun x hx y hy => ?_⟩
    have h1 := dl_mem f x hx
    have h2 := dat_mem hy
    omega
theorem dl_pre {w a s : Int} (f : Nat) : ∀ d, ∃ t, dl w a s (f + d) = dl w a s f ++ t := by
  intro d
  induction d with
  | zero => exact ⟨[], by simp⟩
  | succ d ih =>
    obtain ⟨t, ht⟩ := ih
    exact ⟨t ++ (atL w a s (f + d + 1) ++ atR w a s (f + d + 1)), by rw [← Nat.add_assoc]; simp only [dl]; rw [ht, List.append_assoc]⟩
/-- The images up to a distance, from the left. -/
theorem refL_succ (w a s : Int) (f : Nat) : (refL w a s ((f + 1 : Nat) : Int)).map (ds s) = atL w a s (f + 1) ++ (refL w a s (f : Int)).map (ds s) ++ atR w a s (f + 1) := by
  have e : ((List.range (2 * ((f + 1 : Nat) : Int) + 1).toNat).map fun i : Nat => s - ((f + 1 : Nat) : Int) + (i : Int)) = [s - ((f + 1 : Nat) : Int)] ++ ((List.range (2 * (f : Int) + 1).toNat).map fun i : Nat => s - (f : Int) + (i : Int)) ++ [s + ((f + 1 : Nat) : Int)] := by
    have n1 : (2 * ((f + 1 : Nat) : Int) + 1).toNat = (2 * f + 1) + 1 + 1 := by omega
    have n2 : (2 * (f : Int) + 1).toNat = 2 * f + 1 := by omega
    rw [n1, n2, List.range_succ, List.range_succ_eq_map, List.map_append, List.map_cons, List.map_map]
    congr 1
    · rw [List.singleton_append]
      congr 1
      · simp
      · apply List.map_congr_left
        intro i _
        show s - ((f + 1 : Nat) : Int) + ((i + 1 : Nat) : Int) = _
        omega
    · simp only [List.map_cons, List.map_nil]
      congr 1
      omega
  unfold refL
  rw [e, List.filter_append, List.filter_append, List.map_append, List.map_append]
  congr 1
  · congr 1
    unfold atL
    by_cases c : isIm w a (s - ((f + 1 : Nat) : Int)) = true
    · rw [if_pos c, List.filter_cons_of_pos c, List.filter_nil, List.map_cons, List.map_nil, ds_eq]
      congr 1
      split <;> omega
    · rw [if_neg c, List.filter_cons_of_neg c, List.filter_nil, List.map_nil]
  · unfold atR
    by_cases c : isIm w a (s + ((f + 1 : Nat) : Int)) = true
    · rw [if_pos ⟨by omega, c⟩, List.filter_cons_of_pos c, List.filter_nil, List.map_cons, List.map_nil, ds_eq]
      congr 1
      split <;> omega
    · rw [if_neg (fun h => c h.2), List.filter_cons_of_neg c, List.filter_nil, List.map_nil]
theorem refL_perm (w a s : Int) : ∀ f : Nat, ((refL w a s (f : Int)).map (ds s)).Perm (dl w a s f) := by
  intro f
  induction f with
  | zero =>
    have this : (refL w a s ((0 : Nat) : Int)).map (ds s) = dl w a s 0 := by
      have hR0 : atR w a s 0 = [] := by unfold atR; exact if_neg (fun h => Nat.lt_irrefl 0 h.1)
      have e : ((List.range (2 * ((0 : Nat) : Int) + 1).toNat).map fun i : Nat => s - ((0 : Nat) : Int) + (i : Int)) = [s - ((0 : Nat) : Int)] := by
        show [s - ((0 : Nat) : Int) + ((0 : Nat) : Int)] = _
        simp
      simp only [dl, hR0, List.append_nil]
      unfold refL
      rw [e]
      unfold atL
      by_cases c : isIm w a (s - ((0 : Nat) : Int)) = true
      · rw [if_pos c, List.filter_cons_of_pos c, List.filter_nil, List.map_cons, List.map_nil, ds_eq]
        congr 1
        split <;> omega
      · rw [if_neg c, List.filter_cons_of_neg c, List.filter_nil, List.map_nil]
    rw [this]
  | succ f ih =>
    rw [refL_succ]
    simp only [dl]
    have h1 : (atL w a s (f + 1) ++ (refL w a s (f : Int)).map (ds s) ++ atR w a s (f + 1)).Perm ((refL w a s (f : Int)).map (ds s) ++ atL w a s (f + 1) ++ atR w a s (f + 1)) := List.Perm.append_right _ List.perm_append_comm
    refine h1.trans ?_
    rw [List.append_assoc]
    exact List.Perm.append_right _ ih
theorem sorted_eq (w a s : Int) (f : Nat) : ((refL w a s (f : Int)).map (ds s)).mergeSort (fun x y => decide (x ≤ y)) = dl w a s f := by
  have hp : (((refL w a s (f : Int)).map (ds s)).mergeSort (fun x y => decide (x ≤ y))).Perm (dl w a s f) := (List.mergeSort_perm _ _).trans (refL_perm w a s f)
  have hs := List.pairwise_mergeSort (le := fun x y : Int => decide (x ≤ y)) (fun a b c h1 h2 => by simp at *; omega) (fun a b => by simp; omega) ((refL w a s (f : Int)).map (ds s))
  refine List.Perm.eq_of_pairwise (le := fun x y : Int => x ≤ y) (fun x y _ _ h1 h2 => by omega) (hs.imp (fun h => by simpa using h)) (dl_sorted f) hp
/-- Within each stretch of twice the width there is one image more. -/
theorem dl_more {w a s : Int} (hw : 1 ≤ w) (f : Nat) : (dl w a s f).length + 1 ≤ (dl w a s (f + (2 * w).toNat)).length := by
  obtain ⟨r, hr⟩ : ∃ r, (s - f - 1 + a) % (2 * w) = r := ⟨_, rfl⟩
  have r0 : 0 ≤ r := by rw [← hr]; exact Int.emod_nonneg _ (by omega)
  have r1 : r < 2 * w := by rw [← hr]; exact Int.emod_lt_of_pos _ (by omega)
  obtain ⟨q, hq⟩ : ∃ q, q = f + 1 + r.toNat := ⟨_, rfl⟩
  have him : isIm w a (s - (q : Int)) = true := by
    have : 2 * w ∣ s - (q : Int) + a := by
      refine ⟨(s - f - 1 + a) / (2 * w), ?_⟩
      have := Int.emod_add_mul_ediv (s - f - 1 + a) (2 * w)
      omega
    unfold isIm
    rw [decide_eq_true this, Bool.true_or]
  obtain ⟨p, rfl⟩ : ∃ p, q = p + 1 := ⟨q - 1, by omega⟩
  obtain ⟨t1, h1⟩ := dl_pre (w := w) (a := a) (s := s) f (p - f)
  obtain ⟨t2, h2⟩ := dl_pre (w := w) (a := a) (s := s) (p + 1) (f + (2 * w).toNat - (p + 1))
  rw [show f + (p - f) = p by omega] at h1
  rw [show p + 1 + (f + (2 * w).toNat - (p + 1)) = f + (2 * w).toNat by omega] at h2
  rw [h2]
  simp only [dl]
  rw [h1]
  unfold atL
  rw [if_pos him]
  simp only [List.length_append, List.length_cons, List.length_nil]
  omega
theorem dl_many {w a s : Int} (hw : 1 ≤ w) : ∀ n : Nat, n ≤ (dl w a s (n * (2 * w).toNat)).length := by
  intro n
  induction n with
  | zero => exact Nat.zero_le _
  | succ n ih =>
    have := dl_more (w := w) (a := a) (s := s) hw (n * (2 * w).toNat)
    rw [Nat.succ_mul]
    omega
def dlp (w a s : Int) : Nat → List Int
  | 0 => []
  | f + 1 => dl w a s f
theorem dl_dlp (w a s : Int) (f : Nat) : dl w a s f = dlp w a s f ++ (atL w a s f ++ atR w a s f) := by
  cases f with
  | zero => rfl
  | succ f => rfl
theorem dlp_pre {w a s : Int} (f : Nat) : ∀ d, ∃ t, dlp w a s (f + d) = dlp w a s f ++ t := by
  intro d
  cases f with
  | zero => exact ⟨dlp w a s (0 + d), rfl⟩
  | succ f =>
    obtain ⟨t, ht⟩ := dl_pre (w := w) (a := a) (s := s) f d
    exact ⟨t, by rw [show f + 1 + d = (f + d) + 1 by omega]; exact ht⟩
theorem fsmall {n : Nat} (h : n ≤ 1000) : n < 17592186044416 := by omega
theorem side_eq {w a s : Int} (hw : 1 ≤ w ∧ w ≤ 500) (ha : 0 ≤ a ∧ a ≤ w) (hs : 0 ≤ s ∧ s ≤ w) (f : Nat) (hf : f ≤ 60000) :
    spec_miIs.f w a (wrap64 (s - (f : Int))) = some (isIm w a (s - (f : Int))) ∧ spec_miIs.f w a (wrap64 (s + (f : Int))) = some (isIm w a (s + (f : Int))) := by
  have b0 : 0 ≤ a ∧ a ≤ 500 := by omega
  have b1 : -1000000 ≤ s - (f : Int) ∧ s - (f : Int) ≤ 1000000 := by omega
  have b2 : -1000000 ≤ s + (f : Int) ∧ s + (f : Int) ≤ 1000000 := by omega
  rw [wrap_id (n := s - (f : Int)) (by omega) (by omega), wrap_id (n := s + (f : Int)) (by omega) (by omega)]
  exact ⟨miIs_eq hw b0 b1, miIs_eq hw b0 b2⟩
theorem side_w {s : Int} (hs : 0 ≤ s ∧ s ≤ 500) (f : Nat) (hf : f ≤ 60000) :
    wrap64 (s - (f : Int)) = s - (f : Int) ∧ wrap64 (s + (f : Int)) = s + (f : Int) ∧ wrap64 ((f : Int) + 1) = ((f + 1 : Nat) : Int) := by
  refine ⟨wrap_id (by omega) (by omega), wrap_id (by omega) (by omega), ?_⟩
  rw [wrap_id (by omega) (by omega)]
  omega
theorem ds_lr (s : Int) (f : Nat) : ds s (s - (f : Int)) = f ∧ ds s (s + (f : Int)) = f := by
  rw [ds_eq, ds_eq]
  constructor <;> split <;> omega
/-- The one on the left. -/
theorem far_left {w a s : Int} (hw : 1 ≤ w ∧ w ≤ 500) (ha : 0 ≤ a ∧ a ≤ w) (hs : 0 ≤ s ∧ s ≤ w) (n f : Nat) (hf : f ≤ 60000) (out : List Int) (c : out.length < n) (hl : out.length ≤ 1000) :
    ∃ o1, (∀ k, spec_miFar.l0 (k + 1) w a s n out f = spec_miFar.j1 k w a s n o1 f) ∧ o1.map (ds s) = out.map (ds s) ++ atL w a s f ∧ o1.length ≤ n := by
  have cI : (out.length : Int) < (n : Int) := by omega
  have hl1 : out.length + 1 ≤ n := c
  have m1 := (side_eq hw ha hs f hf).1
  have w1 := (side_w (s := s) ⟨hs.1, by omega⟩ f hf).1
  cases b : isIm w a (s - (f : Int)) with
  | true =>
    refine ⟨out ++ [s - (f : Int)], fun k => ?_, ?_, by rw [List.length_append]; exact hl1⟩
    · rw [spec_miFar.l0]
      refine (if_pos cI).trans ?_
      rw [m1, b, Option.bind_some]
      refine (if_pos rfl).trans ?_
      rw [w1]
      exact if_pos (fsmall hl)
    · unfold atL
      rw [if_pos b, List.map_append, List.map_cons, List.map_nil, (ds_lr s f).1]
  | false =>
    refine ⟨out, fun k => ?_, ?_, Nat.le_of_lt c⟩
    · rw [spec_miFar.l0]
      refine (if_pos cI).trans ?_
      rw [m1, b, Option.bind_some]
      exact if_neg (fun h => by cases h)
    · unfold atL
      rw [if_neg (by rw [b]; exact fun h => by cases h), List.append_nil]
/-- The one on the right. -/
theorem far_right {w a s : Int} (hw : 1 ≤ w ∧ w ≤ 500) (ha : 0 ≤ a ∧ a ≤ w) (hs : 0 ≤ s ∧ s ≤ w) (n f : Nat) (hf : f ≤ 60000) (o1 : List Int) (c : o1.length ≤ n) (hl : o1.length ≤ 1000) :
    ∃ o2, (∀ k, spec_miFar.j1 (k + 1) w a s n o1 f = spec_miFar.l0 k w a s n o2 ((f + 1 : Nat) : Int)) ∧ o2.map (ds s) = (o1.map (ds s) ++ atR w a s f).take n := by
  have m2 := (side_eq hw ha hs f hf).2
  obtain ⟨_, w2, w3⟩ := side_w (s := s) ⟨hs.1, by omega⟩ f hf
  have tk : o1.map (ds s) = (o1.map (ds s)).take n := by rw [List.take_of_length_le (by rw [List.length_map]; exact c)]
  rcases Nat.eq_zero_or_pos f with f0 | f0
  · have fI : ¬ 0 < (f : Int) := fun h => by omega
    refine ⟨o1, fun k => ?_, ?_⟩
    · rw [spec_miFar.j1]
      rw [w3]
      exact if_neg fI
    · have : atR w a s f = [] := by unfold atR; exact if_neg (fun h => Nat.ne_of_gt h.1 f0)
      rw [this, List.append_nil]
      exact tk
  · have fI : 0 < (f : Int) := Int.natCast_pos.2 f0
    rcases Nat.lt_or_ge o1.length n with c1 | c1
    · have cI : (o1.length : Int) < (n : Int) := Int.ofNat_lt.2 c1
      cases b : isIm w a (s + (f : Int)) with
      | true =>
        refine ⟨o1 ++ [s + (f : Int)], fun k => ?_, ?_⟩
        · rw [spec_miFar.j1]
          refine (if_pos fI).trans ((if_pos cI).trans ?_)
          rw [m2, b, Option.bind_some]
          refine (if_pos rfl).trans ?_
          rw [w2, w3]
          exact if_pos (fsmall hl)
        · have : atR w a s f = [(f : Int)] := by unfold atR; exact if_pos ⟨f0, b⟩
          rw [this, List.map_append, List.map_cons, List.map_nil, (ds_lr s f).2, List.take_of_length_le (by rw [List.length_append, List.length_map]; exact c1)]
      | false =>
        refine ⟨o1, fun k => ?_, ?_⟩
        · rw [spec_miFar.j1]
          refine (if_pos fI).trans ((if_pos cI).trans ?_)
          rw [m2, b, Option.bind_some, w3]
          exact if_neg (fun h => by cases h)
        · have : atR w a s f = [] := by unfold atR; exact if_neg (fun h => by rw [b] at h; cases h.2)
          rw [this, List.append_nil]
          exact tk
    · have cI : ¬ (o1.length : Int) < (n : Int) := fun h => by omega
      refine ⟨o1, fun k => ?_, ?_⟩
      · rw [spec_miFar.j1]
        rw [w3]
        exact (if_pos fI).trans (if_neg cI)
      · rw [List.take_left' (by rw [List.length_map]; omega)]
theorem far_l0 {w a s : Int} (hw : 1 ≤ w ∧ w ≤ 500) (ha : 0 ≤ a ∧ a ≤ w) (hs : 0 ≤ s ∧ s ≤ w) (n : Nat) (hn : 1 ≤ n ∧ n ≤ 40) : ∀ (d f : Nat) (out : List Int), f + d ≤ 60000 → n ≤ (dlp w a s (f + d)).length → out.map (ds s) = (dlp w a s f).take n →
    ∃ R, (∀ k, 3 * d + 10 ≤ k → spec_miFar.l0 k w a s n out f = some R) ∧ R.map (ds s) = (dlp w a s (f + d)).take n ∧ R.length = n := by
  intro d
  induction d with
  | zero =>
    intro f out hf hl ho
    have hlen : out.length = n := by
      have := congrArg List.length ho
      rw [List.length_map, List.length_take] at this
      rw [Nat.add_zero] at hl
      omega
    refine ⟨out, fun k hk => ?_, ho, hlen⟩
    obtain ⟨k, rfl⟩ : ∃ m, k = m + 1 := ⟨k - 1, by omega⟩
    rw [spec_miFar.l0]
    exact if_neg (by omega)
  | succ d ih =>
    intro f out hf hl ho
    have h1 := congrArg List.length ho
    rw [List.length_map, List.length_take] at h1
    have hlen : out.length ≤ n := by omega
    rcases Nat.lt_or_ge out.length n with c | c
    · have hall : out.map (ds s) = dlp w a s f := by rw [ho, List.take_of_length_le (by omega)]
      obtain ⟨o1, ho1, hm1, hlen1⟩ := far_left hw ha hs n f (by omega) out c (by omega)
      obtain ⟨o2, ho2, hm2⟩ := far_right hw ha hs n f (by omega) o1 hlen1 (by omega)
      have hd : dlp w a s (f + 1) = dlp w a s f ++ atL w a s f ++ atR w a s f := by
        show dl w a s f = _
        rw [dl_dlp, List.append_assoc]
      have hd1 : f + 1 + d = f + (d + 1) := by omega
      obtain ⟨R, e1, e2, e3⟩ := ih (f + 1) o2 (by omega) (by rw [hd1]; exact hl) (by rw [hm2, hm1, hall, hd])
      refine ⟨R, fun k hk => ?_, by rw [← hd1]; exact e2, e3⟩
      obtain ⟨k, rfl⟩ : ∃ m, k = m + 2 := ⟨k - 2, by omega⟩
      rw [ho1, ho2]
      exact e1 k (by omega)
    · have hlen2 : out.length = n := by omega
      refine ⟨out, fun k hk => ?_, ?_, hlen2⟩
      · obtain ⟨k, rfl⟩ : ∃ m, k = m + 1 := ⟨k - 1, by omega⟩
        rw [spec_miFar.l0]
        exact if_neg (by omega)
      · obtain ⟨t, ht⟩ := dlp_pre (w := w) (a := a) (s := s) f (d + 1)
        rw [ho, ht, List.take_append_of_le_length (by omega)]
theorem frd_get {l : List Int} {i : Nat} (h : i < l.length) : rd l (i : Int) = l[i] := by
  unfold rd
  rw [Int.toNat_natCast, List.getD_eq_getElem?_getD, List.getElem?_eq_getElem h]
  rfl
theorem fo_l0 {s many : Int} (hs : 0 ≤ s ∧ s ≤ 500) (L : List Int) (hl : L.length ≤ 200000) (hb : ∀ x ∈ L, -100000 ≤ x ∧ x ≤ 100000) (Z : Option (Int × Bool))
    (hend : ((slices_Sort_int_int.f (L.map (ds s))).bind fun t137 => (if 0 ≤ (wrap64 (many - 1)) then (if (wrap64 (many - 1)) < ((L.map (ds s)).length : Int) then (some (rd t137 (wrap64 (many - 1)), true)) else (none)) else (none))) = Z) : ∀ (d i k : Nat), i + d = L.length → d < k →
    impl_FarthestOf.l0 k s many ((L.take i).map (ds s)) L L.length i = Z := by
  intro d
  induction d with
  | zero =>
    intro i k hi hk
    obtain ⟨k, rfl⟩ : ∃ m, k = m + 1 := ⟨k - 1, by omega⟩
    rw [impl_FarthestOf.l0, List.take_of_length_le (by omega)]
    exact (if_neg (by omega)).trans hend
  | succ d ih =>
    intro i k hi hk
    obtain ⟨k, rfl⟩ : ∃ m, k = m + 1 := ⟨k - 1, by omega⟩
    have hil : i < L.length := by omega
    have hI : (i : Int) < (L.length : Int) := by omega
    have h0 : (0 : Int) ≤ i := by omega
    have wi : wrap64 ((i : Int) + 1) = ((i + 1 : Nat) : Int) := by rw [wrap_id (by omega) (by omega)]; omega
    have hxb := hb L[i] (List.getElem_mem _)
    have hdist : impl_distance.f L[i] s = some (ds s L[i]) := by
      unfold impl_distance.f
      rw [wrap_id (by omega) (by omega), wrap_id (by omega) (by omega)]
      rfl
    have hln : ((L.take i).map (ds s)).length < 17592186044416 := by
      have : ((L.take i).map (ds s)).length ≤ 200000 := by rw [List.length_map, List.length_take]; omega
      exact Nat.lt_of_le_of_lt this (by decide)
    have he : (L.take i).map (ds s) ++ [ds s L[i]] = (L.take (i + 1)).map (ds s) := by
      rw [List.take_succ_eq_append_getElem hil, List.map_append]
      rfl
    rw [impl_FarthestOf.l0, frd_get hil, hdist, wi]
    refine (if_pos hI).trans ((if_pos h0).trans ((if_pos hI).trans ?_))
    rw [Option.bind_some, he]
    exact (if_pos hln).trans (ih (i + 1) k (by omega) (by omega))
theorem fabs_eq (x : Int) (h : -1000000 ≤ x ∧ x ≤ 1000000) : spec_l1Abs.f x = some (if x < 0 then -x else x) := by
  unfold spec_l1Abs.f spec_l1Most.f
  rw [wrap_id (n := -x) (by omega) (by omega)]
  by_cases c : x < 0
  · simp only [Option.bind_some, if_pos c]
    split
    · exact congrArg some (by omega)
    · exact congrArg some (by omega)
  · simp only [Option.bind_some, if_neg c]
    split
    · exact congrArg some (by omega)
    · exact congrArg some (by omega)

/-- Is x nearer, or as near and farther left? -/
def nlt (s x y : Int) : Prop := mx (x - s) (s - x) < mx (y - s) (s - y) ∨ (mx (x - s) (s - x) = mx (y - s) (s - y) ∧ x < y)
theorem mx_abs (z s : Int) : mx (z - s) (s - z) = if z < s then s - z else z - s := by
  unfold mx
  by_cases c : z < s
  · rw [if_pos (by omega), if_pos c]
  · rw [if_neg (by omega), if_neg c]
theorem ni_l0 {s : Int} (hs : 0 ≤ s ∧ s ≤ 500) (l : List Int) (hl : l.length ≤ 100000) (hb : ∀ x ∈ l, -100000 ≤ x ∧ x ≤ 100000) : ∀ (d i : Nat) (b : Int) (k : Nat), i + d = l.length → -100000 ≤ b ∧ b ≤ 100000 → 2 * d < k →
    ∃ r, impl_NearestImage.l0 k s b l l.length i = some (r, true) ∧ (r = b ∨ r ∈ l) ∧ ¬ nlt s b r ∧ ∀ j, i ≤ j → (hj : j < l.length) → ¬ nlt s l[j] r := by
  intro d
  induction d with
  | zero =>
    intro i b k hi hbb hk
    obtain ⟨k, rfl⟩ : ∃ m, k = m + 1 := ⟨k - 1, by omega⟩
    refine ⟨b, ?_, .inl rfl, fun h => ?_, fun j h1 h2 => by omega⟩
    · rw [impl_NearestImage.l0]
      exact if_neg (by omega)
    · rcases h with h | ⟨_, h⟩ <;> omega
  | succ d ih =>
    intro i b k hi hbb hk
    obtain ⟨k, rfl⟩ : ∃ m, k = m + 1 := ⟨k - 1, by omega⟩
    have hlt : (i : Int) < (l.length : Int) := by omega
    have hi0 : (0 : Int) ≤ i := by omega
    have hil : i < l.length := by omega
    have hx : rd l (i : Int) = l[i] := by
      unfold rd
      rw [Int.toNat_natCast, List.getD_eq_getElem?_getD, List.getElem?_eq_getElem hil]
      rfl
    have hxb := hb l[i] (List.getElem_mem _)
    have hmem : l[i] ∈ l := List.getElem_mem _
    have wi : wrap64 ((i : Int) + 1) = ((i + 1 : Nat) : Int) := by rw [wrap_id (by omega) (by omega)]; omega
    have dd : ∀ z : Int, -100000 ≤ z ∧ z ≤ 100000 → impl_distance.f z s = some (mx (z - s) (s - z)) := fun z hz => by
      unfold impl_distance.f
      rw [wrap_id (by omega) (by omega), wrap_id (by omega) (by omega)]
    obtain ⟨v, hv, hv2⟩ : ∃ v : Bool, impl_NearestImage.l0 (k + 1) s b l l.length i = impl_NearestImage.l0 k s (if v = true then l[i] else b) l l.length ((i + 1 : Nat) : Int) ∧ (v = true ↔ nlt s l[i] b) := by
      rw [impl_NearestImage.l0, hx, dd _ hxb, dd _ hbb, wi]
      rw [if_pos hlt, if_pos hi0, if_pos hlt]
      simp only [Option.bind_some]
      generalize hA : mx (l[i] - s) (s - l[i]) = A
      generalize hB : mx (b - s) (s - b) = B
      unfold nlt
      rw [hA, hB]
      by_cases c1 : A < B
      · exact ⟨true, by rw [if_pos c1]; rfl, by simp [c1]⟩
      · rw [if_neg c1]
        by_cases c2 : A = B
        · rw [if_pos c2]
          by_cases c3 : l[i] < b
          · exact ⟨true, by rw [if_pos c3]; rfl, ⟨fun _ => .inr ⟨c2, c3⟩, fun _ => rfl⟩⟩
          · exact ⟨false, by rw [if_neg c3]; rfl, ⟨fun h => (by cases h), fun h => absurd h (fun h => h.elim c1 (fun h => c3 h.2))⟩⟩
        · rw [if_neg c2]
          exact ⟨false, rfl, ⟨fun h => (by cases h), fun h => absurd h (fun h => h.elim c1 (fun h => c2 h.1))⟩⟩
    rw [hv]
    have htr : ∀ x y z : Int, ¬ nlt s x y → ¬ nlt s y z → ¬ nlt s x z := by
      intro x y z h1 h2 h3
      unfold nlt at *
      omega
    have hcb : -100000 ≤ (if v = true then l[i] else b) ∧ (if v = true then l[i] else b) ≤ 100000 := by cases v <;> simp [hbb, hxb]
    obtain ⟨r, e, hr, hnb, hall⟩ := ih (i + 1) (if v = true then l[i] else b) k (by omega) hcb (by omega)
    refine ⟨r, e, ?_, ?_, ?_⟩
    · rcases hr with h | h
      · cases v with
        | true => exact .inr (by rw [h]; exact hmem)
        | false => exact .inl h
      · exact .inr h
    · cases v with
      | true =>
        have := hv2.1 rfl
        refine htr b l[i] r ?_ hnb
        unfold nlt at *
        omega
      | false => exact hnb
    · intro j h1 hj
      rcases Nat.eq_or_lt_of_le h1 with h | h
      · subst h
        cases v with
        | true => exact hnb
        | false => exact htr l[i] b r (fun h => by have := hv2.2 h; cases this) hnb
      · exact hall j h hj
theorem ni_far {w a s : Int} (hw : 1 ≤ w ∧ w ≤ 500) (ha : 0 ≤ a ∧ a ≤ w) (hs : 0 ≤ s ∧ s ≤ w) : ∀ (d : Nat) (f : Int) (k : Nat), f + d = a + s → 0 ≤ f → 3 * d + 10 ≤ k → (∀ x, isIm w a x = true → f ≤ mx (x - s) (s - x)) →
    ∃ r, spec_miFar.l0 k w a s 1 [] f = some [r] ∧ isIm w a r = true ∧ (∀ x, isIm w a x = true → ¬ nlt s x r) ∧ mx (r - s) (s - r) ≤ a + s := by
  have him : isIm w a (-a) = true := by unfold isIm; rw [decide_eq_true (show 2 * w ∣ -a + a from ⟨0, by omega⟩), Bool.true_or]
  intro d
  induction d with
  | zero => ?_
  | succ d ih => ?_
  all_goals
    intro f k hf h0 hk hno
    obtain ⟨k, rfl⟩ : ∃ m, k = m + 4 := ⟨k - 4, by omega⟩
    have w1 : wrap64 (s - f) = s - f := wrap_id (by omega) (by omega)
    have w2 : wrap64 (s + f) = s + f := wrap_id (by omega) (by omega)
    have w3 : wrap64 (f + 1) = f + 1 := wrap_id (by omega) (by omega)
    have m1 := miIs_eq (w := w) (a := a) (x := s - f) hw ⟨by omega, by omega⟩ (by omega)
    have m2 := miIs_eq (w := w) (a := a) (x := s + f) hw ⟨by omega, by omega⟩ (by omega)
    have l0 : ((([] : List Int).length : Nat) : Int) < 1 := by simp
    have l1 : ∀ z : Int, ¬ ((([z] : List Int).length : Nat) : Int) < 1 := fun z => by simp
    have lb0 : ([] : List Int).length < 17592186044416 := by simp
    have e1 : mx (s - f - s) (s - (s - f)) = f := by rw [mx_abs]; split <;> omega
    have e2 : mx (s + f - s) (s - (s + f)) = f := by rw [mx_abs]; split <;> omega
    have both : ∀ x, mx (x - s) (s - x) = f → x = s - f ∨ x = s + f := fun x hx => by
      rw [mx_abs] at hx
      split at hx <;> omega
    have lend : ∀ (z : Int) (k : Nat), spec_miFar.l0 (k + 1) w a s 1 [z] (f + 1) = some [z] := fun z k => by
      rw [spec_miFar.l0]
      exact if_neg (l1 z)
    rw [spec_miFar.l0, w1, m1]
    rw [if_pos l0]
    simp only [Option.bind_some]
    cases b1 : isIm w a (s - f) with
    | true =>
      refine ⟨s - f, ?_, b1, fun x hx hlt => ?_, by omega⟩
      · rw [if_pos rfl, if_pos lb0]
        show spec_miFar.j1 (k + 3) w a s 1 [s - f] f = _
        rw [spec_miFar.j1]
        rw [w3]
        by_cases c : f > 0
        · rw [if_pos c, if_neg (l1 _)]
          exact lend _ (k + 1)
        · rw [if_neg c]
          exact lend _ (k + 1)
      · have := hno x hx
        unfold nlt at hlt
        rw [e1] at hlt
        rcases hlt with h | ⟨h, h'⟩
        · omega
        · rcases both x h with h | h <;> omega
    | false =>
      rw [if_neg (fun h => by cases h), spec_miFar.j1]
      have c : f > 0 ∨ f = 0 := by omega
      rcases c with c | c
      · rw [if_pos c, if_pos l0, w2, m2]
        simp only [Option.bind_some]
        cases b2 : isIm w a (s + f) with
        | true =>
          refine ⟨s + f, ?_, b2, fun x hx hlt => ?_, by omega⟩
          · rw [w3, if_pos rfl, if_pos lb0]
            exact lend _ (k + 1)
          · have := hno x hx
            unfold nlt at hlt
            rw [e2] at hlt
            rcases hlt with h | ⟨h, h'⟩
            · omega
            · rcases both x h with h | h
              · rw [h, b1] at hx; cases hx
              · omega
        | false =>
          rw [w3, if_neg (fun h => by cases h)]
          first
            | exact ih (f + 1) (k + 2) (by omega) (by omega) (by omega) (fun x hx => by
                have h1 := hno x hx
                rcases Int.lt_or_eq_of_le h1 with h | h
                · omega
                · rcases both x h.symm with h | h
                  · rw [h, b1] at hx; cases hx
                  · rw [h, b2] at hx; cases hx)
            | (exfalso
               rw [show s - f = -a by omega, him] at b1
               cases b1)
      · rw [if_neg (by omega), w3]
        first
          | exact ih (f + 1) (k + 2) (by omega) (by omega) (by omega) (fun x hx => by
              have h1 := hno x hx
              rcases Int.lt_or_eq_of_le h1 with h | h
              · omega
              · rcases both x h.symm with h | h
                · rw [h, b1] at hx; cases hx
                · rw [h, show s + f = s - f by omega, b1] at hx; cases hx)
          | (exfalso
             rw [show s - f = -a by omega, him] at b1
             cases b1)

theorem rd_get {l : List Int} {i : Nat} (h : i < l.length) : rd l (i : Int) = l[i] := by
  unfold rd
  rw [Int.toNat_natCast, List.getD_eq_getElem?_getD, List.getElem?_eq_getElem h]
  rfl
/-- A number put into a row that rises. -/
theorem pl_cat (l : List Int) (x : Int) (i : Nat) (hi : i ≤ l.length) (hl : l.length ≤ 1000) : ([] : List Int).length + (l.take i).length < 17592186044416 ∧ (([] : List Int) ++ l.take i).length < 17592186044416 ∧ (([] : List Int) ++ l.take i ++ [x]).length + (l.drop i).length < 17592186044416 := by
  refine ⟨?_, ?_, ?_⟩ <;> simp <;> omega
theorem put_l0 {l : List Int} (hs : l.Pairwise (fun x y => x < y)) (hl : l.length ≤ 1000) (x : Int) : ∀ (d i : Nat), i + d = l.length → (∀ j, (hj : j < l.length) → j < i → l[j] < x) →
    ∃ l', (∀ k, 2 * d + 5 ≤ k → spec_l1Put.l0 k l x i = some l') ∧ l'.Pairwise (fun x y => x < y) ∧ (∀ z, z ∈ l' ↔ z ∈ l ∨ z = x) ∧ l'.length ≤ l.length + 1 := by
  have ins : ∀ (i : Nat), i ≤ l.length → (∀ j, (hj : j < l.length) → j < i → l[j] < x) → (∀ j, (hj : j < l.length) → i ≤ j → x < l[j]) →
      (l.take i ++ [x] ++ l.drop i).Pairwise (fun x y => x < y) ∧ (∀ z, z ∈ l.take i ++ [x] ++ l.drop i ↔ z ∈ l ∨ z = x) ∧ (l.take i ++ [x] ++ l.drop i).length ≤ l.length + 1 := by
    intro i hi h1 h2
    have a : ∀ z ∈ l.take i, z < x := by
      intro z hz
      obtain ⟨j, hj, rfl⟩ := List.getElem_of_mem hz
      rw [List.getElem_take]
      rw [List.length_take] at hj
      exact h1 j (by omega) (by omega)
    have b : ∀ z ∈ l.drop i, x < z := by
      intro z hz
      obtain ⟨j, hj, rfl⟩ := List.getElem_of_mem hz
      rw [List.getElem_drop]
      rw [List.length_drop] at hj
      exact h2 (i + j) (by omega) (by omega)
    have e := List.take_append_drop i l
    have hs2 := hs
    rw [← e, List.pairwise_append] at hs2
    refine ⟨?_, fun z => ?_, by simp; omega⟩
    · rw [List.append_assoc, List.pairwise_append]
      refine ⟨hs2.1, ?_, ?_⟩
      · rw [List.singleton_append, List.pairwise_cons]
        exact ⟨b, hs2.2.1⟩
      · intro y hy z hz
        rw [List.singleton_append, List.mem_cons] at hz
        rcases hz with rfl | hz
        · exact a y hy
        · exact hs2.2.2 y hy z hz
    · have : z ∈ l ↔ z ∈ l.take i ∨ z ∈ l.drop i := by rw [← List.mem_append, e]
      rw [this]
      simp only [List.mem_append, List.mem_singleton]
      constructor
      · rintro ((h | h) | h)
        · exact .inl (.inl h)
        · exact .inr h
        · exact .inl (.inr h)
      · rintro ((h | h) | h)
        · exact .inl (.inl h)
        · exact .inr h
        · exact .inl (.inr h)
  intro d
  induction d with
  | zero =>
    intro i hi h1
    obtain rfl : i = l.length := by omega
    obtain ⟨b, c, e⟩ := ins l.length (Nat.le_refl _) (fun j hj h => h1 j hj h) (fun j hj h => by omega)
    refine ⟨_, fun k hk => ?_, b, c, e⟩
    obtain ⟨k, rfl⟩ : ∃ m, k = m + 1 := ⟨k - 1, by omega⟩
    have hn : ¬ ((l.length : Nat) : Int) < (l.length : Int) := by omega
    obtain ⟨q1, q2, q3⟩ := pl_cat l x l.length (Nat.le_refl _) hl
    rw [spec_l1Put.l0]
    refine (if_neg hn).trans ?_
    simp only [Option.bind_some, Int.toNat_natCast]
    rw [if_pos (show (0 : Int) ≤ (l.length : Int) by omega), if_pos (show (l.length : Int) ≤ (l.length : Int) by omega), if_pos q1, if_pos q2, if_pos q3, List.nil_append]
  | succ d ih =>
    intro i hi h1
    have hil : i < l.length := by omega
    have hI : (i : Int) < (l.length : Int) := by omega
    have h0 : (0 : Int) ≤ i := by omega
    have wi : wrap64 ((i : Int) + 1) = ((i + 1 : Nat) : Int) := by rw [wrap_id (by omega) (by omega)]; omega
    by_cases c : l[i] < x
    · obtain ⟨l', a, b, m, e⟩ := ih (i + 1) (by omega) (fun j hj h => by
        rcases Nat.lt_or_ge j i with g | g
        · exact h1 j hj g
        · obtain rfl : j = i := by omega
          exact c)
      refine ⟨l', fun k hk => ?_, b, m, e⟩
      obtain ⟨k, rfl⟩ : ∃ m, k = m + 1 := ⟨k - 1, by omega⟩
      rw [spec_l1Put.l0, rd_get hil, wi]
      exact (if_pos hI).trans ((if_pos h0).trans ((if_pos c).trans (a k (by omega))))
    · by_cases e : l[i] = x
      · refine ⟨l, fun k hk => ?_, hs, fun z => ⟨.inl, fun h => h.elim id (fun h => by rw [h, ← e]; exact List.getElem_mem _)⟩, by omega⟩
        obtain ⟨k, rfl⟩ : ∃ m, k = m + 1 := ⟨k - 1, by omega⟩
        rw [spec_l1Put.l0, rd_get hil]
        exact (if_pos hI).trans ((if_pos h0).trans ((if_neg c).trans (if_pos e)))
      · obtain ⟨b, m, q⟩ := ins i (by omega) h1 (fun j hj h => by
          rcases Nat.eq_or_lt_of_le h with g | g
          · subst g; omega
          · have := List.pairwise_iff_getElem.1 hs i j hil hj g
            omega)
        refine ⟨_, fun k hk => ?_, b, m, q⟩
        obtain ⟨k, rfl⟩ : ∃ m, k = m + 1 := ⟨k - 1, by omega⟩
        obtain ⟨q1, q2, q3⟩ := pl_cat l x i (by omega) hl
        rw [spec_l1Put.l0, rd_get hil]
        refine (if_pos hI).trans ((if_pos h0).trans ((if_neg c).trans ((if_neg e).trans ?_)))
        simp only [Option.bind_some, Int.toNat_natCast]
        rw [if_pos (show (i : Int) ≤ (l.length : Int) by omega), if_pos q1, if_pos q2, if_pos q3, List.nil_append]
theorem put_eq {l : List Int} (hs : l.Pairwise (fun x y => x < y)) (hl : l.length ≤ 200) (x : Int) : ∃ l', (∀ k, 500 ≤ k → spec_l1Put.f k l x = some l') ∧ l'.Pairwise (fun x y => x < y) ∧ (∀ z, z ∈ l' ↔ z ∈ l ∨ z = x) ∧ l'.length ≤ l.length + 1 := by
  obtain ⟨l', a, b⟩ := put_l0 hs (by omega) x l.length 0 (by omega) (fun j _ h => by omega)
  exact ⟨l', fun k hk => a k (by omega), b⟩
theorem v0 : wrap64 ((0 : Int) + 1) = 1 := wrap_id (by omega) (by omega)
theorem v1 : wrap64 ((1 : Int) + 1) = 2 := wrap_id (by omega) (by omega)
theorem ulp (x y : ByteArray) : ((([x, y] : List ByteArray).length : Nat) : Int) = 2 := rfl
theorem ue0 (x y : ByteArray) : rdOf ByteArray.empty [x, y] 0 = x := rfl
theorem ue1 (x y : ByteArray) : rdOf ByteArray.empty [x, y] 1 = y := rfl
theorem usmall {n : Nat} (h : n ≤ 1000) : n < 17592186044416 := by omega
theorem up_loop {w a : Int} (hw : 0 ≤ w ∧ w ≤ 500) (ha : 0 ≤ a ∧ a ≤ 500) (most : Int) (hm40 : 0 ≤ most ∧ most ≤ 40) : ∀ (d m : Nat) (S O : List Int), (m : Int) + d = most + 1 → 1 ≤ m → S.Pairwise (fun x y => x < y) → (∀ z, z ∈ S ↔ z ∈ O) → S.length + 2 ≤ 2 * m → O.length ≤ 2 * m → (∀ z, z ∈ S ↔ ∃ n : Nat, 1 ≤ n ∧ n < m ∧ (z = VX w a n ∨ z = VY w a n)) →
    ∃ R, (∀ k, 1000 + 4 * d ≤ k → spec_miUpTo.l0 k w a most S m = some R) ∧ (∀ k, 1000 + 4 * d ≤ k → impl_ImagesUpTo.l0 k w a most O m = some (R, true)) ∧ R.length ≤ 2 * most.toNat ∧ R.Pairwise (fun x y => x < y) ∧ (∀ z, z ∈ R ↔ ∃ n : Nat, 1 ≤ n ∧ (n : Int) ≤ most ∧ (z = VX w a n ∨ z = VY w a n)) := by
  intro d
  induction d with
  | zero =>
    intro m S O hm h1 hs hz hSl hOl hV
    refine ⟨S, fun k hk => ?_, fun k hk => ?_, by omega, hs, fun z => (hV z).trans ⟨fun ⟨n, a, b, c⟩ => ⟨n, a, by omega, c⟩, fun ⟨n, a, b, c⟩ => ⟨n, a, by omega, c⟩⟩⟩
    · obtain ⟨k, rfl⟩ : ∃ m, k = m + 1 := ⟨k - 1, by omega⟩
      rw [spec_miUpTo.l0]
      exact if_neg (by omega)
    · obtain ⟨k, rfl⟩ : ∃ m, k = m + 1 := ⟨k - 1, by omega⟩
      rw [impl_ImagesUpTo.l0]
      refine (if_neg (by omega)).trans ?_
      unfold impl_increasing.f
      rw [if_pos (by omega)]
      have e : IcInc O = S := by
        unfold IcInc
        refine strict_eq _ _ (inc_strict O) hs (fun z => ?_)
        rw [inc_mem, hz]
      rw [e]
      rfl
  | succ d ih =>
    intro m S O hm h1 hs hz hSl hOl hV
    obtain ⟨_, g2, g3, g4⟩ := wd_all m (by omega)
    obtain ⟨x, y, hxy, wx, wy⟩ := words_at w a m (by omega)
    obtain ⟨zx, x1, x2, hzx⟩ : ∃ z, (∀ k, 50 ≤ k → spec_miAfter.f k w a x = some z) ∧ (∀ k, 50 ≤ k → impl_imageAfter.f k w a x = some z) ∧ z = VX w a m := ⟨_, fun k hk => by rw [(after_f hw ha wx.ok k hk).1, wx.val], fun k hk => by rw [(after_f hw ha wx.ok k hk).2, wx.val], rfl⟩
    obtain ⟨zy, y1, y2, hzy⟩ : ∃ z, (∀ k, 50 ≤ k → spec_miAfter.f k w a y = some z) ∧ (∀ k, 50 ≤ k → impl_imageAfter.f k w a y = some z) ∧ z = VY w a m := ⟨_, fun k hk => by rw [(after_f hw ha wy.ok k hk).1, wy.val], fun k hk => by rw [(after_f hw ha wy.ok k hk).2, wy.val], rfl⟩
    obtain ⟨S1, p1, q1, r1, t1⟩ := put_eq hs (by omega) zx
    obtain ⟨S2, p2, q2, r2, t2⟩ := put_eq q1 (by omega) zy
    obtain ⟨R, s1, s2, hR⟩ := ih (m + 1) S2 (O ++ [zx] ++ [zy]) (by omega) (by omega) q2 (fun z => by
      rw [r2, r1, hz]
      simp only [List.mem_append, List.mem_singleton]) (by omega) (by simp; omega) (fun z => by
      rw [r2, r1, hV, hzx, hzy]
      constructor
      · rintro ((⟨n, a, b, c⟩ | h) | h)
        · exact ⟨n, a, by omega, c⟩
        · exact ⟨m, h1, by omega, .inl h⟩
        · exact ⟨m, h1, by omega, .inr h⟩
      · rintro ⟨n, a, b, c⟩
        by_cases e : n = m
        · subst e
          exact c.elim (fun h => .inl (.inr h)) .inr
        · exact .inl (.inl ⟨n, a, by omega, c⟩))
    have hle : (m : Int) ≤ most := by omega
    have hm41 : m < 41 := by omega
    have hO1 : O.length ≤ 1000 := by omega
    have hO2 : (O ++ [zx]).length ≤ 1000 := by rw [List.length_append]; show O.length + 1 ≤ 1000; omega
    have wm : wrap64 ((m : Int) + 1) = ((m + 1 : Nat) : Int) := by rw [wrap_id (by omega) (by omega)]; omega
    have c0 : (0 : Int) < 2 := by omega
    have c1 : (1 : Int) < 2 := by omega
    have c2 : ¬ (2 : Int) < 2 := by omega
    have un0 : (0 : Int) ≤ 0 := by omega
    have un1 : (0 : Int) ≤ 1 := by omega
    refine ⟨R, fun k hk => ?_, fun k hk => ?_, hR⟩
    · obtain ⟨k, rfl⟩ : ∃ m, k = m + 4 := ⟨k - 4, by omega⟩
      rw [spec_miUpTo.l0, miWords_eq m hm41 (k + 3) (by omega), hxy]
      refine (if_pos hle).trans ?_
      show spec_miUpTo.l1 (k + 3) w a most S m [x, y] 2 0 = _
      rw [spec_miUpTo.l1, ulp, ue0, x1 (k + 2) (by omega), v0]
      refine (if_pos c0).trans ((if_pos un0).trans ((if_pos c0).trans ?_))
      rw [Option.bind_some, p1 (k + 2) (by omega), Option.bind_some, spec_miUpTo.l1, ulp, ue1, y1 (k + 1) (by omega), v1]
      refine (if_pos c1).trans ((if_pos un1).trans ((if_pos c1).trans ?_))
      rw [Option.bind_some, p2 (k + 1) (by omega), Option.bind_some, spec_miUpTo.l1, wm]
      exact (if_neg c2).trans (s1 k (by omega))
    · obtain ⟨k, rfl⟩ : ∃ m, k = m + 4 := ⟨k - 4, by omega⟩
      have l1 : O.length < 17592186044416 := usmall hO1
      have l2 : (O ++ [zx]).length < 17592186044416 := usmall hO2
      rw [impl_ImagesUpTo.l0, g2 h1, hxy]
      refine (if_pos hle).trans ?_
      show impl_ImagesUpTo.l1 (k + 3) w a most O m [x, y] 2 0 = _
      rw [impl_ImagesUpTo.l1, ulp, ue0, x2 (k + 2) (by omega), v0]
      refine (if_pos c0).trans ((if_pos un0).trans ((if_pos c0).trans ?_))
      rw [Option.bind_some, if_pos l1, impl_ImagesUpTo.l1, ulp, ue1, y2 (k + 1) (by omega), v1]
      refine (if_pos c1).trans ((if_pos un1).trans ((if_pos c1).trans ?_))
      rw [Option.bind_some, if_pos l2, impl_ImagesUpTo.l1, wm]
      exact (if_neg c2).trans (s2 k (by omega))
/-- Images up to so many reflections: what is told of them. -/
structure Uf (w a most : Int) (R : List Int) : Prop where
  good : cg w a = true
  most0 : 0 ≤ most ∧ most ≤ 40
  len : R.length ≤ 2 * most.toNat
  rise : R.Pairwise (fun x y => x < y)
  mem : ∀ z, z ∈ R ↔ ∃ n : Nat, 1 ≤ n ∧ (n : Int) ≤ most ∧ (z = VX w a n ∨ z = VY w a n)
theorem up_both (w a most : Int) : ∃ l b, (∀ k, 2000 ≤ k → spec_ImagesUpTo.f k w a most = some (l, b)) ∧ (∀ k, 2000 ≤ k → impl_ImagesUpTo.f k w a most = some (l, b)) ∧ l.length ≤ 100 ∧ (b = true → Uf w a most l) := by
  cases h : cg w a with
  | false =>
    refine ⟨[], false, fun k hk => ?_, fun k hk => ?_, by simp, fun h => by cases h⟩ <;> obtain ⟨k, rfl⟩ : ∃ m, k = m + 1 := ⟨k - 1, by omega⟩
    · unfold spec_ImagesUpTo.f
      rw [miGood_eq, h]
      simp [spec_ImagesUpTo.j0]
    · unfold impl_ImagesUpTo.f
      rw [isCorridor_eq, h]
      simp [impl_ImagesUpTo.j0]
  | true =>
    obtain ⟨h1, h2, h3⟩ := cg_of h
    by_cases c : 0 ≤ most ∧ most ≤ 40
    · obtain ⟨R, s1, s2, hR, hr, hm⟩ := up_loop (w := w) (a := a) ⟨by omega, by omega⟩ ⟨by omega, by omega⟩ most c most.toNat 1 [] [] (by omega) (by omega) List.Pairwise.nil (fun z => Iff.rfl) (by simp) (by simp) (fun z => ⟨fun h => by simp at h, fun ⟨n, a, b, _⟩ => by omega⟩)
      refine ⟨R, true, fun k hk => ?_, fun k hk => ?_, by omega, fun _ => ⟨h, c, hR, hr, hm⟩⟩ <;> obtain ⟨k, rfl⟩ : ∃ m, k = m + 1 := ⟨k - 1, by omega⟩
      · unfold spec_ImagesUpTo.f
        rw [miGood_eq, h]
        simp only [Option.bind_some, if_true, l1In_eq]
        rw [decide_eq_true c]
        simp only [Bool.not_true, spec_ImagesUpTo.j0, Bool.false_eq_true, if_false]
        have e : spec_miUpTo.f k w a most = some R := s1 k (by omega)
        rw [e]
        rfl
      · unfold impl_ImagesUpTo.f
        rw [isCorridor_eq, h]
        simp only [Option.bind_some, if_true, within_eq]
        rw [decide_eq_true c]
        simp only [Bool.not_true, impl_ImagesUpTo.j0, Bool.false_eq_true, if_false]
        exact s2 k (by omega)
    · refine ⟨[], false, fun k hk => ?_, fun k hk => ?_, by simp, fun h => by cases h⟩ <;> obtain ⟨k, rfl⟩ : ∃ m, k = m + 1 := ⟨k - 1, by omega⟩
      · unfold spec_ImagesUpTo.f
        rw [miGood_eq, h]
        simp only [Option.bind_some, if_true, l1In_eq]
        rw [decide_eq_false c]
        simp [spec_ImagesUpTo.j0]
      · unfold impl_ImagesUpTo.f
        rw [isCorridor_eq, h]
        simp only [Option.bind_some, if_true, within_eq]
        rw [decide_eq_false c]
        simp [impl_ImagesUpTo.j0]
/-- Different things, all of them in a list: they are not more than it is long. -/
theorem holes : ∀ (l m : List Int), l.Pairwise (fun x y => x ≠ y) → (∀ x ∈ l, x ∈ m) → l.length ≤ m.length := by
  intro l
  induction l with
  | nil => intro m _ _; exact Nat.zero_le _
  | cons x t ih =>
    intro m hp hm
    rw [List.pairwise_cons] at hp
    have hx := hm x (by simp)
    have := ih (m.erase x) hp.2 (fun y hy => (List.mem_erase_of_ne (fun e => hp.1 y hy e.symm)).2 (hm y (by simp [hy])))
    rw [List.length_erase_of_mem hx] at this
    have : 0 < m.length := List.length_pos_of_mem hx
    rw [List.length_cons]
    omega
theorem VY_ne {w a : Int} (hw : 1 ≤ w) (ha : 0 ≤ a ∧ a ≤ w) {i j : Nat} (hi : 1 ≤ i) (hij : i < j) : VY w a i ≠ VY w a j := by
  have key : ∀ p q : Int, p < q → p * w < q * w := fun p q h => Int.mul_lt_mul_of_pos_right h (by omega)
  have low : ∀ p : Int, 2 ≤ p → 2 * w ≤ p * w := fun p h => Int.mul_le_mul_of_nonneg_right h (by omega)
  unfold VY
  by_cases c1 : i % 2 = 0 <;> by_cases c2 : j % 2 = 0
  · rw [if_pos c1, if_pos c2]
    have := key (i : Int) (j : Int) (by omega)
    omega
  · rw [if_pos c1, if_neg c2]
    have h1 := low (i : Int) (by omega)
    have h2 := low ((j : Int) + 1) (by omega)
    omega
  · rw [if_neg c1, if_pos c2]
    have h1 := low (j : Int) (by omega)
    have h2 := low ((i : Int) + 1) (by omega)
    omega
  · rw [if_neg c1, if_neg c2]
    have := key ((i : Int) + 1) ((j : Int) + 1) (by omega)
    omega
theorem up_many {w a most : Int} {R : List Int} (h : Uf w a most R) : most.toNat ≤ R.length := by
  obtain ⟨h1, h2, h3⟩ := cg_of h.good
  have := holes ((List.range most.toNat).map fun i => VY w a (i + 1)) R (by
    rw [List.pairwise_map]
    exact List.pairwise_lt_range.imp (fun g => VY_ne h1.1 ⟨h2, h3⟩ (by omega) (by omega))) (fun x hx => by
    obtain ⟨i, hi, rfl⟩ := List.mem_map.1 hx
    have := List.mem_range.1 hi
    exact (h.mem _).2 ⟨i + 1, by omega, by omega, .inr rfl⟩)
  rwa [List.length_map, List.length_range] at this

/-- What the search for a word finds, from so many reflections on. -/
def Fnd (w a im : Int) (m : Nat) (z : ByteArray × Bool) : Prop :=
  (z = (⟨#[]⟩, false) ∧ ∀ n : Nat, m ≤ n → n ≤ 40 → VX w a n ≠ im ∧ VY w a n ≠ im) ∨
  (∃ n : Nat, m ≤ n ∧ n ≤ 40 ∧ z.2 = true ∧ wordOf w a n im z.1 ∧ ∀ q : Nat, m ≤ q → q < n → VX w a q ≠ im ∧ VY w a q ≠ im)
theorem wo_loop {w a : Int} (hw : 0 ≤ w ∧ w ≤ 500) (ha : 0 ≤ a ∧ a ≤ 500) (im : Int) : ∀ (d m : Nat), m + d = 41 → 1 ≤ m →
    ∃ z, (∀ k, 200 + 4 * d ≤ k → spec_WordOfImage.l0 k w a im m = some z) ∧ (∀ k, 200 + 4 * d ≤ k → impl_WordOfImage.l0 k w a im m = some z) ∧ Fnd w a im m z := by
  intro d
  induction d with
  | zero =>
    intro m hm h1
    refine ⟨(⟨#[]⟩, false), fun k hk => ?_, fun k hk => ?_, .inl ⟨rfl, fun n h1 h2 => by omega⟩⟩
    · obtain ⟨k, rfl⟩ : ∃ m, k = m + 1 := ⟨k - 1, by omega⟩
      rw [spec_WordOfImage.l0]
      exact if_neg (by omega)
    · obtain ⟨k, rfl⟩ : ∃ m, k = m + 1 := ⟨k - 1, by omega⟩
      rw [impl_WordOfImage.l0]
      exact if_neg (by omega)
  | succ d ih =>
    intro m hm h1
    obtain ⟨z, s1, s2, hz⟩ := ih (m + 1) (by omega) (by omega)
    obtain ⟨_, g2, g3, g4⟩ := wd_all m (by omega)
    obtain ⟨x, y, hxy, wx, wy⟩ := words_at w a m (by omega)
    obtain ⟨zx, x1, x2, hzx⟩ : ∃ z, (∀ k, 50 ≤ k → spec_miAfter.f k w a x = some z) ∧ (∀ k, 50 ≤ k → impl_imageAfter.f k w a x = some z) ∧ z = VX w a m := ⟨_, fun k hk => by rw [(after_f hw ha wx.ok k hk).1, wx.val], fun k hk => by rw [(after_f hw ha wx.ok k hk).2, wx.val], rfl⟩
    obtain ⟨zy, y1, y2, hzy⟩ : ∃ z, (∀ k, 50 ≤ k → spec_miAfter.f k w a y = some z) ∧ (∀ k, 50 ≤ k → impl_imageAfter.f k w a y = some z) ∧ z = VY w a m := ⟨_, fun k hk => by rw [(after_f hw ha wy.ok k hk).1, wy.val], fun k hk => by rw [(after_f hw ha wy.ok k hk).2, wy.val], rfl⟩
    have hf : Fnd w a im m (if zx = im then (x, true) else if zy = im then (y, true) else z) := by
      by_cases e1 : zx = im
      · rw [if_pos e1]
        exact .inr ⟨m, Nat.le_refl _, by omega, rfl, ⟨wx.ok, wx.size, wx.word, by rw [wx.val, ← hzx, e1]⟩, fun n a b => by omega⟩
      · rw [if_neg e1]
        by_cases e2 : zy = im
        · rw [if_pos e2]
          exact .inr ⟨m, Nat.le_refl _, by omega, rfl, ⟨wy.ok, wy.size, wy.word, by rw [wy.val, ← hzy, e2]⟩, fun n a b => by omega⟩
        · rw [if_neg e2]
          have hm : VX w a m ≠ im ∧ VY w a m ≠ im := ⟨fun e => e1 (hzx.trans e), fun e => e2 (hzy.trans e)⟩
          rcases hz with ⟨h1, h2⟩ | ⟨n, a1, a2, a3, a4, a5⟩
          · refine .inl ⟨h1, fun n b1 b2 => ?_⟩
            by_cases e : n = m
            · rw [e]; exact hm
            · exact h2 n (by omega) b2
          · refine .inr ⟨n, by omega, a2, a3, a4, fun q b1 b2 => ?_⟩
            by_cases e : q = m
            · rw [e]; exact hm
            · exact a5 q (by omega) b2
    have h40 : (m : Int) ≤ 40 := by omega
    have wm : wrap64 ((m : Int) + 1) = ((m + 1 : Nat) : Int) := by rw [wrap_id (by omega) (by omega)]; omega
    have v0 : wrap64 ((0 : Int) + 1) = 1 := wrap_id (by omega) (by omega)
    have v1 : wrap64 ((1 : Int) + 1) = 2 := wrap_id (by omega) (by omega)
    have lp : ((([x, y] : List ByteArray).length : Nat) : Int) = 2 := rfl
    have q0 : rdOf ByteArray.empty [x, y] 0 = x := rfl
    have q1 : rdOf ByteArray.empty [x, y] 1 = y := rfl
    have c0 : (0 : Int) < 2 := by omega
    have c1 : (1 : Int) < 2 := by omega
    have c2 : ¬ (2 : Int) < 2 := by omega
    have p0 : (0 : Int) ≤ 0 := by omega
    have p1 : (0 : Int) ≤ 1 := by omega
    refine ⟨if zx = im then (x, true) else if zy = im then (y, true) else z, fun k hk => ?_, fun k hk => ?_, hf⟩
    · obtain ⟨k, rfl⟩ : ∃ m, k = m + 4 := ⟨k - 4, by omega⟩
      rw [spec_WordOfImage.l0, miWords_eq m (by omega) (k + 3) (by omega), hxy]
      refine (if_pos h40).trans ?_
      show spec_WordOfImage.l1 (k + 3) w a im m [x, y] 2 0 = _
      rw [spec_WordOfImage.l1, lp, q0, x1 (k + 2) (by omega), v0]
      refine (if_pos c0).trans ((if_pos p0).trans ((if_pos c0).trans ?_))
      show (if zx = im then some (x, true) else spec_WordOfImage.l1 (k + 2) w a im m [x, y] 2 1) = _
      by_cases e1 : zx = im
      · rw [if_pos e1, if_pos e1]
      · rw [if_neg e1, if_neg e1, spec_WordOfImage.l1, lp, q1, y1 (k + 1) (by omega), v1]
        refine (if_pos c1).trans ((if_pos p1).trans ((if_pos c1).trans ?_))
        show (if zy = im then some (y, true) else spec_WordOfImage.l1 (k + 1) w a im m [x, y] 2 2) = _
        by_cases e2 : zy = im
        · rw [if_pos e2, if_pos e2]
        · rw [if_neg e2, if_neg e2, spec_WordOfImage.l1, wm]
          exact (if_neg c2).trans (s1 k (by omega))
    · obtain ⟨k, rfl⟩ : ∃ m, k = m + 4 := ⟨k - 4, by omega⟩
      rw [impl_WordOfImage.l0, g2 h1, hxy]
      refine (if_pos h40).trans ?_
      show impl_WordOfImage.l1 (k + 3) w a im m [x, y] 2 0 = _
      rw [impl_WordOfImage.l1, lp, q0, x2 (k + 2) (by omega), v0]
      refine (if_pos c0).trans ((if_pos p0).trans ((if_pos c0).trans ?_))
      show (if zx = im then some (x, true) else impl_WordOfImage.l1 (k + 2) w a im m [x, y] 2 1) = _
      by_cases e1 : zx = im
      · rw [if_pos e1, if_pos e1]
      · rw [if_neg e1, if_neg e1, impl_WordOfImage.l1, lp, q1, y2 (k + 1) (by omega), v1]
        refine (if_pos c1).trans ((if_pos p1).trans ((if_pos c1).trans ?_))
        show (if zy = im then some (y, true) else impl_WordOfImage.l1 (k + 1) w a im m [x, y] 2 2) = _
        by_cases e2 : zy = im
        · rw [if_pos e2, if_pos e2]
        · rw [if_neg e2, if_neg e2, impl_WordOfImage.l1, wm]
          exact (if_neg c2).trans (s2 k (by omega))
theorem wo_first {w a : Int} (im : Int) (k : Nat) : impl_WordOfImage.l0 (k + 3) w a im 0 = if a = im then some (⟨#[]⟩, true) else impl_WordOfImage.l0 k w a im 1 := by
  have v0 : wrap64 ((0 : Int) + 1) = 1 := wrap_id (by omega) (by omega)
  have lp : ((([⟨#[]⟩] : List ByteArray).length : Nat) : Int) = 1 := rfl
  have q0 : rdOf ByteArray.empty [⟨#[]⟩] 0 = ⟨#[]⟩ := rfl
  have c0 : (0 : Int) < 1 := by omega
  have p0 : (0 : Int) ≤ 0 := by omega
  have h40 : (0 : Int) ≤ 40 := by omega
  have hi : impl_imageAfter.f (k + 1) w a ⟨#[]⟩ = some a := by
    unfold impl_imageAfter.f
    rw [impl_imageAfter.l0]
    exact if_neg (show ¬ (0 : Int) < ((0 : Nat) : Int) by omega)
  rw [impl_WordOfImage.l0, wd_zero]
  refine (if_pos h40).trans ?_
  show impl_WordOfImage.l1 (k + 2) w a im 0 [⟨#[]⟩] 1 0 = _
  rw [impl_WordOfImage.l1, lp, q0, hi, v0]
  refine (if_pos c0).trans ((if_pos p0).trans ((if_pos c0).trans ?_))
  show (if a = im then some ((⟨#[]⟩ : ByteArray), true) else impl_WordOfImage.l1 (k + 1) w a im 0 [⟨#[]⟩] 1 1) = _
  by_cases e1 : a = im
  · rw [if_pos e1, if_pos e1]
  · rw [if_neg e1, if_neg e1, impl_WordOfImage.l1, v0]
    exact if_neg (show ¬ (1 : Int) < 1 by omega)
/-- A word that was found. -/
structure Wof (w a im : Int) (z : ByteArray × Bool) : Prop where
  sure : z.2 = true → cg w a = true ∧ okW z.1 ∧ gl none z.1.data.toList = true ∧ aft w a z.1.data.toList = im ∧ (z.1.size = 0 ↔ im = a)
  least : cg w a = true → (-100000 ≤ im ∧ im ≤ 100000) → ∀ n : Nat, 1 ≤ n → n ≤ 40 → (im = VX w a n ∨ im = VY w a n) → z.2 = true ∧ z.1.size ≤ n
theorem wo_both (w a im : Int) : ∃ z, (∀ k, 1000 ≤ k → spec_WordOfImage.f k w a im = some z) ∧ (∀ k, 1000 ≤ k → impl_WordOfImage.f k w a im = some z) ∧ Wof w a im z := by
  cases h : cg w a with
  | false =>
    refine ⟨(⟨#[]⟩, false), fun k hk => ?_, fun k hk => ?_, ⟨fun h => (by cases h), fun h2 => by rw [h] at h2; cases h2⟩⟩ <;> obtain ⟨k, rfl⟩ : ∃ m, k = m + 1 := ⟨k - 1, by omega⟩
    · unfold spec_WordOfImage.f
      rw [miGood_eq, h]
      simp [spec_WordOfImage.j0]
    · unfold impl_WordOfImage.f
      rw [isCorridor_eq, h]
      simp [impl_WordOfImage.j0]
  | true =>
    obtain ⟨h1, h2, h3⟩ := cg_of h
    by_cases c : -100000 ≤ im ∧ im ≤ 100000
    · obtain ⟨z, s1, s2, hz⟩ := wo_loop (w := w) (a := a) ⟨by omega, by omega⟩ ⟨by omega, by omega⟩ im 40 1 (by omega) (by omega)
      refine ⟨if im = a then (⟨#[]⟩, true) else z, fun k hk => ?_, fun k hk => ?_, ?_⟩
      · obtain ⟨k, rfl⟩ : ∃ m, k = m + 1 := ⟨k - 1, by omega⟩
        unfold spec_WordOfImage.f
        rw [miGood_eq, h]
        simp only [Option.bind_some, if_true, l1In_eq]
        rw [decide_eq_true c]
        simp only [Bool.not_true, spec_WordOfImage.j0, Bool.false_eq_true, if_false]
        by_cases e : im = a
        · rw [if_pos e, if_pos e]
        · rw [if_neg e, if_neg e]
          exact s1 k (by omega)
      · obtain ⟨k, rfl⟩ : ∃ m, k = m + 4 := ⟨k - 4, by omega⟩
        unfold impl_WordOfImage.f
        rw [isCorridor_eq, h]
        simp only [Option.bind_some, if_true, within_eq]
        rw [decide_eq_true c]
        simp only [Bool.not_true, impl_WordOfImage.j0, Bool.false_eq_true, if_false]
        rw [wo_first]
        by_cases e : im = a
        · rw [if_pos e, if_pos e.symm]
        · rw [if_neg e, if_neg (fun h => e h.symm)]
          exact s2 k (by omega)
      · refine ⟨fun ht => ?_, fun _ _ n n1 n2 hn => ?_⟩
        · by_cases e : im = a
          · rw [if_pos e]
            exact ⟨h, ⟨by decide, fun i hi => absurd hi (Nat.not_lt_zero _)⟩, rfl, e.symm, ⟨fun _ => e, fun _ => rfl⟩⟩
          · rw [if_neg e] at ht ⊢
            rcases hz with ⟨e1, _⟩ | ⟨n, a1, a2, a3, a4, a5⟩
            · rw [e1] at ht; cases ht
            · exact ⟨h, a4.ok, a4.word, a4.val, ⟨fun hs => by have := a4.size; omega, fun he => absurd he e⟩⟩
        · by_cases e : im = a
          · rw [if_pos e]
            exact ⟨rfl, Nat.zero_le _⟩
          · rw [if_neg e]
            rcases hz with ⟨_, e2⟩ | ⟨m, a1, a2, a3, a4, a5⟩
            · have := e2 n n1 n2
              exact absurd hn (fun g => g.elim (fun g => this.1 g.symm) (fun g => this.2 g.symm))
            · refine ⟨a3, ?_⟩
              rw [a4.size]
              apply Nat.not_lt.1
              intro g
              have := a5 n n1 g
              exact absurd hn (fun g => g.elim (fun g => this.1 g.symm) (fun g => this.2 g.symm))
    · refine ⟨(⟨#[]⟩, false), fun k hk => ?_, fun k hk => ?_, ⟨fun h => (by cases h), fun _ h2 => absurd h2 c⟩⟩ <;> obtain ⟨k, rfl⟩ : ∃ m, k = m + 1 := ⟨k - 1, by omega⟩
      · unfold spec_WordOfImage.f
        rw [miGood_eq, h]
        simp only [Option.bind_some, if_true, l1In_eq]
        rw [decide_eq_false c]
        simp [spec_WordOfImage.j0]
      · unfold impl_WordOfImage.f
        rw [isCorridor_eq, h]
        simp only [Option.bind_some, if_true, within_eq]
        rw [decide_eq_false c]
        simp [impl_WordOfImage.j0]
/-- Is it a word? -/
def isW (s : ByteArray) : Bool := decide ((s.size : Int) ≤ 40) && gl none s.data.toList
theorem okW_of_isW {s : ByteArray} (h : isW s = true) : okW s := by
  unfold isW at h
  rw [Bool.and_eq_true] at h
  have h40 := of_decide_eq_true h.1
  refine ⟨by omega, fun i hi => ?_⟩
  obtain ⟨b, hb, hbt⟩ := bt_list s i hi
  rcases okW_gl _ _ h.2 b (List.mem_of_getElem? hb) with rfl | rfl
  · exact .inl hbt
  · exact .inr hbt
def IA (w a : Int) (s : ByteArray) : Int × Bool := if cg w a = true ∧ isW s = true then (aft w a s.data.toList, true) else (0, false)
theorem ia_both (w a : Int) (s : ByteArray) (k : Nat) (hk : 200 ≤ k) : spec_ImageAfter.f k w a s = some (IA w a s) ∧ impl_ImageAfter.f k w a s = some (IA w a s) := by
  obtain ⟨k, rfl⟩ : ∃ m, k = m + 1 := ⟨k - 1, by omega⟩
  unfold spec_ImageAfter.f impl_ImageAfter.f IA
  rw [miGood_eq, isCorridor_eq]
  simp only [Option.bind_some]
  cases hc : cg w a with
  | false => exact ⟨by simp [spec_ImageAfter.j0], by simp [impl_ImageAfter.j0]⟩
  | true =>
    rw [if_pos rfl, if_pos rfl, miWord_eq s (k + 1) (by omega), isWord_eq]
    simp only [Option.bind_some]
    show spec_ImageAfter.j0 (k + 1) w a s (!isW s) = _ ∧ impl_ImageAfter.j0 (k + 1) w a s (!isW s) = _
    cases hw : isW s with
    | false => exact ⟨by simp [spec_ImageAfter.j0], by simp [impl_ImageAfter.j0]⟩
    | true =>
      have hcg := cg_of hc
      obtain ⟨e1, e2⟩ := after_f (w := w) (a := a) (by omega) (by omega) (okW_of_isW hw) k (by omega)
      refine ⟨?_, ?_⟩
      · rw [spec_ImageAfter.j0, e1]
        rfl
      · rw [impl_ImageAfter.j0, e2]
        rfl

theorem corridor_tot {l : List Int} (hl : Bytes l) {p s : Int} (h0 : 0 ≤ p) (h1 : p ≤ 1000000) : ∃ a b q s', spec_l1Cur_corridor.f l p s = some (a, b, q, s') ∧ p ≤ q ∧ q ≤ p + 8 := by
  obtain ⟨b, p1, s1, e1, a1, b1⟩ := one_tot hl (s := s) 12 h0 (by omega)
  unfold spec_l1Cur_corridor.f
  rw [e1]
  simp only [Option.bind_some]
  cases b with
  | true =>
    obtain ⟨x, p2, s2, e2, a2, b2⟩ := among_tot hl (p := p1) (s := s1) [0, (-1), 1, 500, 501, 4611686018427387904] (by decide) (by omega) (by omega)
    obtain ⟨y, p3, s3, e3, a3, b3⟩ := among_tot hl (p := p2) (s := s2) [0, 1, (-1)] (by decide) (by omega) (by omega)
    simp only [if_true]
    rw [e2]
    simp only [Option.bind_some]
    rw [e3]
    exact ⟨_, _, p3, s3, rfl, by omega, by omega⟩
  | false =>
    obtain ⟨x, p2, s2, e2, _, _, a2, b2⟩ := pick_tot hl (p := p1) (s := s1) 9 (by omega) (by omega)
    obtain ⟨y, p3, s3, e3, _, _, a3, b3⟩ := pick_tot hl (p := p2) (s := s2) (wrap64 ((wrap64 (1 + x)) + 2)) (by omega) (by omega)
    obtain ⟨z, p4, s4, e4, _, _, a4, b4⟩ := pick_tot hl (p := p3) (s := s3) 9 (by omega) (by omega)
    simp only [Bool.false_eq_true, if_false]
    rw [e2]
    simp only [Option.bind_some]
    rw [e3]
    simp only [Option.bind_some]
    rw [e4]
    exact ⟨_, _, p4, s4, rfl, by omega, by omega⟩
theorem of_tot {l : List Int} (hl : Bytes l) {p s : Int} (m : List ByteArray) (hm : 0 < m.length) (h0 : 0 ≤ p) (h1 : p ≤ 2000000) : ∃ x q s', spec_l1Cur_of.f l p s m = some (x, q, s') ∧ p ≤ q ∧ q ≤ p + 2 := by
  obtain ⟨x, q, s', e, x0, x1, a, b⟩ := pick_tot hl (s := s) (m.length : Int) h0 (by omega)
  exact ⟨rdOf ByteArray.empty m x, q, s', by unfold spec_l1Cur_of.f; rw [e]; simp only [Option.bind_some]; rw [if_pos x0, if_pos (by omega)], a, b⟩
theorem words_len (n : Int) (k : Nat) (hk : 100 ≤ k) (h0 : 0 ≤ n) (h1 : n ≤ 40) : ∃ ws, spec_miWords.f k n = some ws ∧ ws.length = 2 ∧ ∀ s ∈ ws, okW s := by
  obtain ⟨m, rfl⟩ : ∃ m : Nat, n = (m : Int) := ⟨n.toNat, by omega⟩
  refine ⟨Wd m, miWords_eq m (by omega) k hk, rfl, fun s hs => okW_of ?_⟩
  have := wd_ok m (by omega)
  rw [List.all_eq_true] at this
  exact this s hs
theorem word_tot (k : Nat) (hk : 100 ≤ k) {l : List Int} (hl : Bytes l) {p s : Int} (h0 : 0 ≤ p) (h1 : p ≤ 1000000) : ∃ t q s', spec_l1Cur_word.f k l p s = some (t, q, s') := by
  obtain ⟨b, p1, s1, e1, a1, b1⟩ := one_tot hl (s := s) 12 h0 (by omega)
  unfold spec_l1Cur_word.f
  rw [e1]
  simp only [Option.bind_some]
  cases b with
  | true =>
    simp only [if_true]
    obtain ⟨x, p2, s2, e2, a2, b2⟩ := of_tot hl (p := p1) (s := s1) ([(⟨#[120]⟩ : ByteArray), (⟨#[108, 108]⟩ : ByteArray), (⟨#[108, 114, 32]⟩ : ByteArray), (⟨#[108, 114, 108, 114, 108, 114, 108, 114, 108, 114, 108, 114, 108, 114, 108, 114, 108, 114, 108, 114, 108, 114, 108, 114, 108, 114, 108, 114, 108, 114, 108, 114, 108, 114, 108, 114, 108, 114, 108, 114, 108]⟩ : ByteArray)] : List ByteArray) (by decide) (by omega) (by omega)
    rw [e2]
    exact ⟨_, _, _, rfl⟩
  | false =>
    simp only [Bool.false_eq_true, if_false]
    obtain ⟨x, p2, s2, e2, x0, x1, a2, b2⟩ := pick_tot hl (p := p1) (s := s1) 6 (by omega) (by omega)
    obtain ⟨ws, f1, f2, _⟩ := words_len x k hk x0 (by omega)
    obtain ⟨y, p3, s3, e3, y0, y1, a3, b3⟩ := pick_tot hl (p := p2) (s := s2) 2 (by omega) (by omega)
    rw [e2]
    simp only [Option.bind_some]
    rw [f1]
    simp only [Option.bind_some]
    rw [e3]
    simp only [Option.bind_some]
    rw [if_pos y0, if_pos (by omega)]
    exact ⟨_, _, _, rfl⟩
theorem fmost_tot (a b : Int) : ∃ z, spec_l1Most.f a b = some z := by
  unfold spec_l1Most.f
  split <;> exact ⟨_, rfl⟩
theorem fleast_tot (a b : Int) : ∃ z, spec_l1Least.f a b = some z := by
  unfold spec_l1Least.f
  split <;> exact ⟨_, rfl⟩
theorem wedge_tot {l : List Int} (hl : Bytes l) {p s : Int} (h0 : 0 ≤ p) (h1 : p ≤ 1000000) : ∃ a b q s', spec_l1Cur_wedge.f l p s = some (a, b, q, s') ∧ p ≤ q ∧ q ≤ p + 8 := by
  obtain ⟨x, p1, s1, e1, a1, b1⟩ := among_tot hl (p := p) (s := s) [90, 60, 45, 36, 30, 20, 18, 12, 10, 6, 90, 60, 0, 50, 180, 1, (-1)] (by decide) (by omega) (by omega)
  obtain ⟨m, f1⟩ := fmost_tot 1 x
  obtain ⟨y, p2, s2, e2, _, _, a2, b2⟩ := pick_tot hl (p := p1) (s := s1) (wrap64 (m + 1)) (by omega) (by omega)
  obtain ⟨z, p3, s3, e3, _, _, a3, b3⟩ := pick_tot hl (p := p2) (s := s2) 16 (by omega) (by omega)
  exact ⟨_, _, p3, s3, by unfold spec_l1Cur_wedge.f; rw [e1]; simp only [Option.bind_some]; rw [f1]; simp only [Option.bind_some]; rw [e2]; simp only [Option.bind_some]; rw [e3]; rfl, by omega, by omega⟩
theorem dUpTo {l : List Int} (hl : Bytes l) : ∃ a b c, spec_DrawImagesUpTo.f l = some (a, b, c) := by
  obtain ⟨a, b, p1, s1, e1, a1, b1⟩ := corridor_tot hl (p := 0) (s := 0) (by omega) (by omega)
  obtain ⟨x, p2, s2, e2, a2, b2⟩ := among_tot hl (p := p1) (s := s1) [0, 1, 2, 3, 5, 40, 41, -1] (by decide) (by omega) (by omega)
  exact ⟨_, _, _, by unfold spec_DrawImagesUpTo.f; rw [e1]; simp only [Option.bind_some]; rw [e2]; rfl⟩
theorem dAfter (k : Nat) (hk : 100 ≤ k) {l : List Int} (hl : Bytes l) : ∃ a b c, spec_DrawImageAfter.f k l = some (a, b, c) := by
  obtain ⟨a, b, p1, s1, e1, a1, b1⟩ := corridor_tot hl (p := 0) (s := 0) (by omega) (by omega)
  obtain ⟨x, p2, s2, e2⟩ := word_tot k hk hl (p := p1) (s := s1) (by omega) (by omega)
  exact ⟨_, _, _, by unfold spec_DrawImageAfter.f; rw [e1]; simp only [Option.bind_some]; rw [e2]; rfl⟩
theorem dWord (k : Nat) (hk : 200 ≤ k) {l : List Int} (hl : Bytes l) : ∃ a b c, spec_DrawWordOfImage.f k l = some (a, b, c) := by
  obtain ⟨a, b, p1, s1, e1, a1, b1⟩ := corridor_tot hl (p := 0) (s := 0) (by omega) (by omega)
  have lst : ∀ p s : Int, 0 ≤ p → p ≤ 100000 → ∃ x y z, ((spec_l1Cur_among.f l p s [0, 1, -1, 7, 30, 100000, 100001, -100001]).bind fun s => some (a, b, s.1)) = some (x, y, z) := fun p s h0 h1 => by
    obtain ⟨x, p2, s2, e2, a2, b2⟩ := among_tot hl (p := p) (s := s) [0, 1, -1, 7, 30, 100000, 100001, -100001] (by decide) (by omega) (by omega)
    rw [e2]
    exact ⟨_, _, _, rfl⟩
  unfold spec_DrawWordOfImage.f
  rw [e1]
  simp only [Option.bind_some]
  rw [miGood_eq]
  simp only [Option.bind_some]
  cases hg : cg a b with
  | false =>
    simp only [Bool.false_eq_true, if_false]
    exact lst p1 s1 (by omega) (by omega)
  | true =>
    simp only [if_true]
    obtain ⟨o, p2, s2, e2, a2, b2⟩ := one_tot hl (p := p1) (s := s1) 4 (by omega) (by omega)
    rw [e2]
    simp only [Option.bind_some]
    cases o with
    | true =>
      simp only [if_true]
      exact lst p2 s2 (by omega) (by omega)
    | false =>
      simp only [Bool.false_eq_true, if_false]
      obtain ⟨x, p3, s3, e3, x0, x1, a3, b3⟩ := pick_tot hl (p := p2) (s := s2) 8 (by omega) (by omega)
      obtain ⟨ws, f1, f2, f3⟩ := words_len x k (by omega) x0 (by omega)
      obtain ⟨y, p4, s4, e4, y0, y1, a4, b4⟩ := pick_tot hl (p := p3) (s := s3) 2 (by omega) (by omega)
      rw [e3]
      simp only [Option.bind_some]
      rw [f1]
      simp only [Option.bind_some]
      rw [e4]
      simp only [Option.bind_some]
      rw [if_pos y0, if_pos (show y < (ws.length : Int) by omega)]
      have hy : y.toNat < ws.length := by omega
      have hm : rdOf ByteArray.empty ws y ∈ ws := by
        unfold rdOf
        rw [List.getD_eq_getElem?_getD, List.getElem?_eq_getElem hy]
        exact List.getElem_mem hy
      obtain ⟨g1, g2, g3⟩ := cg_of hg
      rw [(after_f (w := a) (a := b) (by omega) (by omega) (f3 _ hm) k (by omega)).1]
      exact ⟨_, _, _, rfl⟩
theorem dNear {l : List Int} (hl : Bytes l) : ∃ a b c d, spec_DrawCountNear.f l = some (a, b, c, d) := by
  obtain ⟨a, b, p1, s1, e1, a1, b1⟩ := corridor_tot hl (p := 0) (s := 0) (by omega) (by omega)
  obtain ⟨m, f1⟩ := fmost_tot a 0
  obtain ⟨n, f2⟩ := fleast_tot m 10
  obtain ⟨x, p2, s2, e2, _, _, a2, b2⟩ := pick_tot hl (p := p1) (s := s1) (wrap64 (n + 2)) (by omega) (by omega)
  obtain ⟨y, p3, s3, e3, a3, b3⟩ := among_tot hl (p := p2) (s := s2) [0, 1, 3, 10, 50, 10000, 10001, -1] (by decide) (by omega) (by omega)
  exact ⟨_, _, _, _, by unfold spec_DrawCountNear.f; rw [e1]; simp only [Option.bind_some]; rw [f1]; simp only [Option.bind_some]; rw [f2]; simp only [Option.bind_some]; rw [e2]; simp only [Option.bind_some]; rw [e3]; rfl⟩
theorem dFar {l : List Int} (hl : Bytes l) : ∃ a b c d, spec_DrawFarthestOf.f l = some (a, b, c, d) := by
  obtain ⟨a, b, p1, s1, e1, a1, b1⟩ := corridor_tot hl (p := 0) (s := 0) (by omega) (by omega)
  obtain ⟨m, f1⟩ := fmost_tot a 0
  obtain ⟨n, f2⟩ := fleast_tot m 10
  obtain ⟨x, p2, s2, e2, _, _, a2, b2⟩ := pick_tot hl (p := p1) (s := s1) (wrap64 (n + 2)) (by omega) (by omega)
  obtain ⟨y, p3, s3, e3, a3, b3⟩ := among_tot hl (p := p2) (s := s2) [1, 2, 3, 5, 40, 41, 0] (by decide) (by omega) (by omega)
  exact ⟨_, _, _, _, by unfold spec_DrawFarthestOf.f; rw [e1]; simp only [Option.bind_some]; rw [f1]; simp only [Option.bind_some]; rw [f2]; simp only [Option.bind_some]; rw [e2]; simp only [Option.bind_some]; rw [e3]; rfl⟩
theorem dWedge {l : List Int} (hl : Bytes l) : ∃ a b, spec_DrawWedgeImages.f l = some (a, b) := by
  obtain ⟨a, b, p1, s1, e1, _, _⟩ := wedge_tot hl (p := 0) (s := 0) (by omega) (by omega)
  exact ⟨_, _, by unfold spec_DrawWedgeImages.f; rw [e1]; rfl⟩
theorem dAngles {l : List Int} (hl : Bytes l) : ∃ a, spec_DrawAnglesFor.f l = some a := by
  obtain ⟨x, p1, s1, e1, _, _⟩ := among_tot hl (p := 0) (s := 0) [1, 3, 5, 7, 9, 11, 17, 35, 119, 359, 360, 0, 2] (by decide) (by omega) (by omega)
  exact ⟨_, by unfold spec_DrawAnglesFor.f; rw [e1]; rfl⟩
theorem dSteps (k : Nat) (hk : 6000 ≤ k) {l : List Int} (hl : Bytes l) : ∃ a b c, spec_DrawWedgeSteps.f k l = some (a, b, c) := by
  obtain ⟨a, b, p1, s1, e1, a1, b1⟩ := wedge_tot hl (p := 0) (s := 0) (by omega) (by omega)
  have lst : ∀ p s : Int, 0 ≤ p → p ≤ 100000 → ∃ x y z, ((spec_l1Cur_pick.f l p s 400).bind fun s => some (a, b, wrap64 (s.1 - 20))) = some (x, y, z) := fun p s h0 h1 => by
    obtain ⟨x, p2, s2, e2, _, _, a2, b2⟩ := pick_tot hl (p := p) (s := s) 400 (by omega) (by omega)
    rw [e2]
    exact ⟨_, _, _, rfl⟩
  unfold spec_DrawWedgeSteps.f
  rw [e1]
  simp only [Option.bind_some]
  rw [miWedge_eq]
  simp only [Option.bind_some]
  cases hg : wd a b with
  | false =>
    simp only [Bool.false_eq_true, if_false]
    exact lst p1 s1 (by omega) (by omega)
  | true =>
    simp only [if_true]
    obtain ⟨o, p2, s2, e2, a2, b2⟩ := one_tot hl (p := p1) (s := s1) 4 (by omega) (by omega)
    rw [e2]
    simp only [Option.bind_some]
    cases o with
    | true =>
      simp only [if_true]
      exact lst p2 s2 (by omega) (by omega)
    | false =>
      simp only [Bool.false_eq_true, if_false]
      obtain ⟨g1, g2, g3⟩ := wd_of hg
      have hlen : 0 < (WL a b).length := by
        have h1 := (wedge_facts hg).once
        have h2 := List.countP_le_length (p := fun x => decide (rd (WO a b) x = 1)) (l := WL a b)
        omega
      rw [im_spec (a := a) (p := b) ⟨by omega, by omega⟩ ⟨by omega, by omega⟩ k (by omega)]
      generalize WL a b = L at hlen ⊢
      obtain ⟨y, p4, s4, e4, y0, y1, a4, b4⟩ := pick_tot hl (p := p2) (s := s2) (L.length : Int) (by omega) (by omega)
      simp only [Option.bind_some]
      rw [e4]
      simp only [Option.bind_some]
      rw [if_pos y0, if_pos (by omega)]
      exact ⟨_, _, _, rfl⟩

theorem count_l0 {w a s far : Int} (hw : 1 ≤ w ∧ w ≤ 500) (ha : 0 ≤ a ∧ a ≤ 500) (hs : 0 ≤ s ∧ s ≤ 500) (hf : 0 ≤ far ∧ far ≤ 10000) : ∀ (d : Nat) (p n : Int) (k : Nat), p + d = s + far + 1 → s - far ≤ p → 0 ≤ n → n ≤ p - (s - far) → d < k →
    spec_CountNear.l0 k w a s far n p = some (n + ((((List.range d).map fun i : Nat => p + (i : Int)).filter (isIm w a)).length : Int), true) := by
  intro d
  induction d with
  | zero =>
    intro p n k hp _ _ _ hk
    obtain ⟨k, rfl⟩ : ∃ m, k = m + 1 := ⟨k - 1, by omega⟩
    have w1 : wrap64 (s + far) = s + far := wrap_id (by omega) (by omega)
    rw [spec_CountNear.l0, w1]
    refine (if_neg (by omega)).trans ?_
    simp
  | succ d ih =>
    intro p n k hp h1 h2 h3 hk
    obtain ⟨k, rfl⟩ : ∃ m, k = m + 1 := ⟨k - 1, by omega⟩
    have w1 : wrap64 (s + far) = s + far := wrap_id (by omega) (by omega)
    have w2 : wrap64 (n + 1) = n + 1 := wrap_id (by omega) (by omega)
    have w3 : wrap64 (p + 1) = p + 1 := wrap_id (by omega) (by omega)
    have hle : p ≤ s + far := by omega
    have he : ((List.range (d + 1)).map fun i : Nat => p + (i : Int)) = p :: ((List.range d).map fun i : Nat => p + 1 + (i : Int)) := by
      rw [List.range_succ_eq_map, List.map_cons, List.map_map]
      congr 1
      · simp
      · apply List.map_congr_left
        intro i _
        show p + ((i + 1 : Nat) : Int) = _
        omega
    rw [spec_CountNear.l0, w1, miIs_eq hw ha (by omega), w2, w3, he]
    refine (if_pos hle).trans ?_
    simp only [Option.bind_some]
    cases c : isIm w a p with
    | true =>
      rw [if_pos rfl, ih (p + 1) (n + 1) k (by omega) (by omega) (by omega) (by omega) (by omega), List.filter_cons_of_pos (by rw [c]), List.length_cons]
      congr 2
      omega
    | false =>
      rw [if_neg (fun h => by cases h), ih (p + 1) n k (by omega) (by omega) (by omega) (by omega) (by omega), List.filter_cons_of_neg (by rw [c]; simp)]
def CN (w a s far : Int) : Int × Bool := if cg w a = true ∧ cg w s = true ∧ 0 ≤ far ∧ far ≤ 10000 then (((refL w a s far).length : Int), true) else (0, false)
theorem cn_both (w a s far : Int) (k : Nat) (hk : 30001 ≤ k) : spec_CountNear.f k w a s far = some (CN w a s far) ∧ impl_CountNear.f k w a s far = some (CN w a s far) := by
  obtain ⟨k, rfl⟩ : ∃ m, k = m + 1 := ⟨k - 1, by omega⟩
  unfold spec_CountNear.f impl_CountNear.f CN
  rw [miSeen_eq, isCorridor_eq, isCorridor_eq]
  simp only [Option.bind_some]
  cases ha : cg w a with
  | false => exact ⟨by simp [spec_CountNear.j0], by simp [impl_CountNear.j0]⟩
  | true =>
    cases hs : cg w s with
    | false => exact ⟨by simp [spec_CountNear.j0], by simp [impl_CountNear.j0]⟩
    | true =>
      obtain ⟨h1, h2⟩ := cg_of ha
      obtain ⟨_, h3⟩ := cg_of hs
      simp only [Bool.and_self, if_true, l1In_eq, within_eq, Option.bind_some]
      by_cases c : 0 ≤ far ∧ far ≤ 10000
      · rw [decide_eq_true c, if_pos ⟨trivial, trivial, c⟩]
        simp only [Bool.not_true, spec_CountNear.j0, impl_CountNear.j0, Bool.false_eq_true, if_false]
        rw [near_eq h1 h2 h3 (by omega), wrap_id (n := s - far) (by omega) (by omega)]
        have := count_l0 (w := w) (a := a) (s := s) (far := far) h1 (by omega) (by omega) c (2 * far + 1).toNat (s - far) 0 k (by omega) (by omega) (by omega) (by omega) (by omega)
        rw [this]
        exact ⟨by simp [refL], rfl⟩
      · rw [decide_eq_false c, if_neg (fun h => c h.2.2)]
        exact ⟨by simp [spec_CountNear.j0], by simp [impl_CountNear.j0]⟩
def FO (w a s many : Int) : Int × Bool := if cg w a = true ∧ cg w s = true ∧ 1 ≤ many ∧ many ≤ 40 then ((dl w a s (84 * w).toNat).getD (many - 1).toNat 0, true) else (0, false)
theorem fo_key (w a s many : Int) (k : Nat) (hk : 300000 ≤ k) : ∃ z, spec_FarthestOf.f (k + 1) w a s many = some z ∧ impl_FarthestOf.f (k + 1) w a s many = some z ∧ z = FO w a s many := by
  unfold spec_FarthestOf.f impl_FarthestOf.f
  rw [miSeen_eq, isCorridor_eq, isCorridor_eq]
  simp only [Option.bind_some]
  cases ha : cg w a with
  | false => exact ⟨(0, false), by simp [spec_FarthestOf.j0], by simp [impl_FarthestOf.j0], (if_neg (fun h => by rw [ha] at h; cases h.1)).symm⟩
  | true =>
    cases hs : cg w s with
    | false => exact ⟨(0, false), by simp [spec_FarthestOf.j0], by simp [impl_FarthestOf.j0], (if_neg (fun h => by rw [hs] at h; cases h.2.1)).symm⟩
    | true =>
      obtain ⟨h1, h2⟩ := cg_of ha
      obtain ⟨_, h3⟩ := cg_of hs
      simp only [Bool.and_self, if_true, l1In_eq, within_eq, Option.bind_some]
      by_cases c : 1 ≤ many ∧ many ≤ 40
      · rw [decide_eq_true c]
        simp only [Bool.not_true, spec_FarthestOf.j0, impl_FarthestOf.j0, Bool.false_eq_true, if_false]
        obtain ⟨n, rfl⟩ : ∃ n : Nat, many = n := ⟨many.toNat, by omega⟩
        obtain ⟨F, hF⟩ : ∃ F : Nat, (F : Int) = 84 * w := ⟨(84 * w).toNat, by omega⟩
        have wf : wrap64 (wrap64 (2 * w) * 42) = (F : Int) := by rw [wrap_id (n := 2 * w) (by omega) (by omega), wrap_id (by omega) (by omega)]; omega
        have hlen40 : 40 ≤ (dl w a s F).length := by
          have h40 := dl_many (w := w) (a := a) (s := s) h1.1 40
          obtain ⟨t, ht⟩ := dl_pre (w := w) (a := a) (s := s) (40 * (2 * w).toNat) (F - 40 * (2 * w).toNat)
          rw [show 40 * (2 * w).toNat + (F - 40 * (2 * w).toNat) = F by omega] at ht
          rw [ht, List.length_append]
          omega
        obtain ⟨R, r1, r2, r3⟩ := far_l0 (w := w) (a := a) (s := s) h1 h2 h3 n (by omega) (F + 1) 0 [] (by omega) (by rw [Nat.zero_add]; show n ≤ (dl w a s F).length; omega) (by simp [dlp])
        rw [Nat.zero_add] at r2
        have r2' : R.map (ds s) = (dl w a s F).take n := r2
        have hmem := fun x => refL_mem (w := w) (a := a) (s := s) (far := (F : Int)) (x := x) (by omega)
        have hplen : (refL w a s (F : Int)).length = (dl w a s F).length := by
          have := (refL_perm w a s F).length_eq
          rwa [List.length_map] at this
        have hlenL : (refL w a s (F : Int)).length ≤ 100000 := by
          unfold refL
          refine Nat.le_trans (List.length_filter_le _ _) ?_
          rw [List.length_map, List.length_range]
          omega
        have wn : wrap64 ((n : Int) - 1) = ((n - 1 : Nat) : Int) := by rw [wrap_id (by omega) (by omega)]; omega
        have hn1 : n - 1 < R.length := by omega
        have hn2 : n - 1 < (dl w a s F).length := by omega
        have hval : ds s R[n - 1] = (dl w a s F)[n - 1] := by
          have e1 : (R.map (ds s))[n - 1]? = ((dl w a s F).take n)[n - 1]? := by rw [r2']
          rw [List.getElem?_map, List.getElem?_eq_getElem hn1, List.getElem?_take, if_pos (by omega), List.getElem?_eq_getElem hn2] at e1
          exact Option.some.inj e1
        have hdb := dl_mem F _ (List.getElem_mem hn2)
        have hRb : s - (F : Int) ≤ R[n - 1] ∧ R[n - 1] ≤ s + (F : Int) := by
          rw [← hval, ds_eq] at hdb
          split at hdb <;> omega
        refine ⟨((dl w a s F)[n - 1], true), ?_, ?_, ?_⟩
        · have e : spec_miFar.f k w a s n = some R := r1 k (by omega)
          rw [e, Option.bind_some, wn, if_pos (by omega), if_pos (by omega), frd_get hn1, wrap_id (n := R[n - 1] - s) (by omega) (by omega), fabs_eq _ (by omega), Option.bind_some, ← hval, ds_eq]
          congr 2
          split <;> split <;> omega
        · rw [wf, near_eq h1 h2 h3 (by omega), Option.bind_some]
          have := fo_l0 (s := s) (many := n) (by omega) (refL w a s (F : Int)) (by omega) (fun x hx => by have := ((hmem x).1 hx).1; omega) (some ((dl w a s F)[n - 1], true)) (by
            unfold slices_Sort_int_int.f
            rw [if_pos (by rw [List.length_map]; omega), Option.bind_some, sorted_eq, wn, if_pos (by omega), if_pos (by rw [List.length_map, hplen]; omega), frd_get hn2]) (refL w a s (F : Int)).length 0 k (by omega) (by omega)
          exact this
        · unfold FO
          rw [if_pos ⟨ha, hs, c⟩, show (84 * w).toNat = F by omega, show (((n : Nat) : Int) - 1).toNat = n - 1 by omega, List.getD_eq_getElem?_getD, List.getElem?_eq_getElem hn2]
          rfl
      · rw [decide_eq_false c]
        exact ⟨(0, false), by simp [spec_FarthestOf.j0], by simp [impl_FarthestOf.j0], (if_neg (fun h => c h.2.2)).symm⟩
theorem fo_both (w a s many : Int) (k : Nat) (hk : 300001 ≤ k) : spec_FarthestOf.f k w a s many = some (FO w a s many) ∧ impl_FarthestOf.f k w a s many = some (FO w a s many) := by
  obtain ⟨k, rfl⟩ : ∃ m, k = m + 1 := ⟨k - 1, by omega⟩
  obtain ⟨z, h1, h2, h3⟩ := fo_key w a s many k (by omega)
  rw [← h3]
  exact ⟨h1, h2⟩
structure Nrf (w a s r : Int) : Prop where
  ga : cg w a = true
  gs : cg w s = true
  im : isIm w a r = true
  least : ∀ x, isIm w a x = true → ¬ nlt s x r
  near : mx (r - s) (s - r) ≤ a + s
theorem ni_key (w a s : Int) (k : Nat) (hk : 100000 ≤ k) : ∃ z, spec_NearestImage.f (k + 1) w a s = some z ∧ impl_NearestImage.f (k + 1) w a s = some z ∧ (z.2 = true → Nrf w a s z.1) ∧ (z.2 = false → ¬ (cg w a = true ∧ cg w s = true)) := by
  unfold spec_NearestImage.f impl_NearestImage.f
  rw [miSeen_eq, isCorridor_eq, isCorridor_eq]
  simp only [Option.bind_some]
  cases ha : cg w a with
  | false => exact ⟨(0, false), by simp, by simp [impl_NearestImage.j0], fun h => (by cases h), fun _ h => (by simp_all)⟩
  | true =>
    cases hs : cg w s with
    | false => exact ⟨(0, false), by simp, by simp [impl_NearestImage.j0], fun h => (by cases h), fun _ h => (by simp_all)⟩
    | true =>
      obtain ⟨h1, h2⟩ := cg_of ha
      obtain ⟨_, h3⟩ := cg_of hs
      have w4 : wrap64 (4 * w) = 4 * w := wrap_id (by omega) (by omega)
      have wa : wrap64 (-a) = -a := wrap_id (by omega) (by omega)
      obtain ⟨r, e1, r1, r2, r3⟩ := ni_far (w := w) (a := a) (s := s) h1 h2 h3 (a + s).toNat 0 (k + 1) (by omega) (by omega) (by omega) (fun x _ => by rw [mx_abs]; split <;> omega)
      have hmem := fun x => refL_mem (w := w) (a := a) (s := s) (far := 4 * w) (x := x) (by omega)
      have hlen : (refL w a s (4 * w)).length ≤ 5000 := by
        unfold refL
        refine Nat.le_trans (List.length_filter_le _ _) ?_
        rw [List.length_map, List.length_range]
        omega
      obtain ⟨q, f1, f2, f3, f4⟩ := ni_l0 (s := s) (by omega) (refL w a s (4 * w)) (by omega) (fun x hx => by have := ((hmem x).1 hx).1; omega) (refL w a s (4 * w)).length 0 (-a) k (by omega) (by omega) (by omega)
      simp only [Bool.and_self, if_true, Bool.not_true, impl_NearestImage.j0, Bool.false_eq_true, if_false]
      rw [w4, wa, near_eq h1 h2 h3 (by omega)]
      have e1' : spec_miFar.f (k + 1) w a s 1 = some [r] := e1
      rw [e1']
      simp only [Option.bind_some]
      refine ⟨(r, true), by rw [if_pos (by simp)]; rfl, ?_, fun _ => ⟨ha, hs, r1, r2, r3⟩, fun h => (by cases h)⟩
      have hin : r ∈ refL w a s (4 * w) := (hmem r).2 ⟨by rw [mx_abs] at r3; split at r3 <;> omega, r1⟩
      have hq : isIm w a q = true := by
        rcases f2 with h | h
        · rw [h]; unfold isIm; rw [decide_eq_true (show 2 * w ∣ -a + a from ⟨0, by omega⟩), Bool.true_or]
        · exact ((hmem q).1 h).2
      obtain ⟨j, hj, hjr⟩ := List.getElem_of_mem hin
      have n1 := f4 j (Nat.zero_le _) hj
      rw [hjr] at n1
      have n2 := r2 q hq
      have : q = r := by
        unfold nlt at n1 n2
        rw [mx_abs, mx_abs] at n1 n2
        split at n1 <;> split at n1 <;> simp_all <;> omega
      rw [← this]
      exact f1
/-- The distances of the images up to a distance, and those that come behind. -/
theorem dl_split (w a s : Int) (f : Nat) : ∀ d, ∃ t, dl w a s (f + d) = dl w a s f ++ t ∧ ∀ x ∈ t, (f : Int) < x := by
  intro d
  induction d with
  | zero => exact ⟨[], by simp, by simp⟩
  | succ d ih =>
    obtain ⟨t, ht, hx⟩ := ih
    refine ⟨t ++ (atL w a s (f + d + 1) ++ atR w a s (f + d + 1)), by rw [← Nat.add_assoc]; simp only [dl]; rw [ht, List.append_assoc], fun x h => ?_⟩
    rcases List.mem_append.1 h with h | h
    · exact hx x h
    · have := dat_mem h
      omega
theorem dl_40 {w a s : Int} (hw : 1 ≤ w ∧ w ≤ 500) : 40 ≤ (dl w a s (84 * w).toNat).length := by
  have h40 := dl_many (w := w) (a := a) (s := s) hw.1 40
  obtain ⟨t, ht⟩ := dl_pre (w := w) (a := a) (s := s) (40 * (2 * w).toNat) ((84 * w).toNat - 40 * (2 * w).toNat)
  rw [show 40 * (2 * w).toNat + ((84 * w).toNat - 40 * (2 * w).toNat) = (84 * w).toNat by omega] at ht
  rw [ht, List.length_append]
  omega
theorem refL_dl (w a s : Int) (f : Nat) : (refL w a s (f : Int)).length = (dl w a s f).length := by
  have := (refL_perm w a s f).length_eq
  rwa [List.length_map] at this
theorem getD_at {l : List Int} {i : Nat} (h : i < l.length) : l.getD i 0 = l[i] := by
  rw [List.getD_eq_getElem?_getD, List.getElem?_eq_getElem h]
  rfl
/-- How many are near, against the one that is so manieth. -/
theorem near_far {w a s far : Int} (h : (CN w a s far).2 = true) (hf : far ≤ 40) :
    ((CN w a s far).1 < 40 → (FO w a s ((CN w a s far).1 + 1)).2 = true ∧ far < (FO w a s ((CN w a s far).1 + 1)).1) ∧
    (0 < (CN w a s far).1 → (CN w a s far).1 ≤ 40 → (FO w a s (CN w a s far).1).2 = true ∧ (FO w a s (CN w a s far).1).1 ≤ far) ∧ 0 ≤ (CN w a s far).1 ∧ (CN w a s far).1 ≤ 100 := by
  unfold CN at h ⊢
  by_cases c : cg w a = true ∧ cg w s = true ∧ 0 ≤ far ∧ far ≤ 10000
  · rw [if_pos c]
    obtain ⟨h1, h2⟩ := cg_of c.1
    obtain ⟨f, rfl⟩ : ∃ f : Nat, far = (f : Int) := ⟨far.toNat, by omega⟩
    have h40 := dl_40 (w := w) (a := a) (s := s) h1
    obtain ⟨t, ht, hx⟩ := dl_split w a s f ((84 * w).toNat - f)
    rw [show f + ((84 * w).toNat - f) = (84 * w).toNat by omega] at ht
    have hm := dl_mem (w := w) (a := a) (s := s) f
    have hle : (refL w a s (f : Int)).length ≤ 81 := by
      unfold refL
      refine Nat.le_trans (List.length_filter_le _ _) ?_
      rw [List.length_map, List.length_range]
      omega
    rw [refL_dl] at hle
    show ((((refL w a s (f : Int)).length : Nat) : Int) < 40 → _) ∧ (0 < (((refL w a s (f : Int)).length : Nat) : Int) → (((refL w a s (f : Int)).length : Nat) : Int) ≤ 40 → _) ∧ 0 ≤ (((refL w a s (f : Int)).length : Nat) : Int) ∧ (((refL w a s (f : Int)).length : Nat) : Int) ≤ 100
    simp only [refL_dl]
    unfold FO
    rw [ht] at h40
    simp only [ht]
    generalize dl w a s f = D at hm h40 hle ⊢
    refine ⟨fun g => ?_, fun g1 g2 => ?_, by omega, by omega⟩
    · rw [if_pos ⟨c.1, c.2.1, by omega, by omega⟩]
      refine ⟨rfl, ?_⟩
      rw [show (((D.length : Nat) : Int) + 1 - 1).toNat = D.length by omega]
      have hl : D.length < (D ++ t).length := by omega
      show (f : Int) < (D ++ t).getD D.length 0
      rw [getD_at hl, List.getElem_append_right (Nat.le_refl _)]
      exact hx _ (List.getElem_mem _)
    · rw [if_pos ⟨c.1, c.2.1, by omega, by omega⟩]
      refine ⟨rfl, ?_⟩
      rw [show (((D.length : Nat) : Int) - 1).toNat = D.length - 1 by omega]
      have hd : D.length - 1 < D.length := by omega
      have hl : D.length - 1 < (D ++ t).length := by rw [List.length_append]; omega
      show (D ++ t).getD (D.length - 1) 0 ≤ (f : Int)
      rw [getD_at hl, List.getElem_append_left hd]
      exact (hm _ (List.getElem_mem hd)).2
  · rw [if_neg c] at h
    cases h
/-- The nearest one is the first one. -/
theorem near_first {w a s r : Int} (h : Nrf w a s r) : (FO w a s 1).2 = true ∧ (FO w a s 1).1 = mx (r - s) (s - r) ∧ ∀ many, (FO w a s many).2 = true → (FO w a s 1).1 ≤ (FO w a s many).1 := by
  obtain ⟨h1, h2⟩ := cg_of h.ga
  obtain ⟨_, h3⟩ := cg_of h.gs
  have h40 := dl_40 (w := w) (a := a) (s := s) h1
  have hsrt := dl_sorted (w := w) (a := a) (s := s) (84 * w).toNat
  have hp := refL_perm w a s (84 * w).toNat
  have hmem := fun x => refL_mem (w := w) (a := a) (s := s) (far := (((84 * w).toNat : Nat) : Int)) (x := x) (by omega)
  have hn := h.near
  have e1 : FO w a s 1 = ((dl w a s (84 * w).toNat).getD 0 0, true) := by
    unfold FO
    rw [if_pos ⟨h.ga, h.gs, by omega, by omega⟩]
    rfl
  have hr : ds s r ∈ dl w a s (84 * w).toNat := hp.mem_iff.1 (List.mem_map.2 ⟨r, (hmem r).2 ⟨by rw [mx_abs] at hn; split at hn <;> omega, h.im⟩, rfl⟩)
  have h0 : 0 < (dl w a s (84 * w).toNat).length := by omega
  have first : ∀ i, (hi : i < (dl w a s (84 * w).toNat).length) → (dl w a s (84 * w).toNat)[0] ≤ (dl w a s (84 * w).toNat)[i] := fun i hi => by
    rcases Nat.eq_zero_or_pos i with c | c
    · subst c; exact Int.le_refl _
    · exact List.pairwise_iff_getElem.1 hsrt 0 i h0 hi c
  have hz : (dl w a s (84 * w).toNat)[0] = ds s r := by
    obtain ⟨i, hi, ei⟩ := List.getElem_of_mem hr
    have a1 := first i hi
    obtain ⟨x, hx, ex⟩ := List.mem_map.1 (hp.mem_iff.2 (List.getElem_mem h0))
    have a2 := h.least x ((hmem x).1 hx).2
    unfold nlt at a2
    have a3 : ds s r ≤ ds s x := by
      unfold ds
      omega
    omega
  rw [e1]
  refine ⟨rfl, ?_, fun many hm => ?_⟩
  · show (dl w a s (84 * w).toNat).getD 0 0 = _
    rw [getD_at h0, hz]
    rfl
  · show (dl w a s (84 * w).toNat).getD 0 0 ≤ _
    unfold FO at hm ⊢
    by_cases c : cg w a = true ∧ cg w s = true ∧ 1 ≤ many ∧ many ≤ 40
    · rw [if_pos c]
      show _ ≤ (dl w a s (84 * w).toNat).getD (many - 1).toNat 0
      rw [getD_at h0, getD_at (show (many - 1).toNat < _ by omega)]
      exact first _ _
    · rw [if_neg c] at hm
      cases hm
theorem FO_of {w a s many : Int} (h : (FO w a s many).2 = true) : cg w a = true ∧ cg w s = true := by
  unfold FO at h
  by_cases c : cg w a = true ∧ cg w s = true ∧ 1 ≤ many ∧ many ≤ 40
  · exact ⟨c.1, c.2.1⟩
  · rw [if_neg c] at h
    cases h

theorem wSm {n : Int} (h : -100000 ≤ n ∧ n ≤ 100000) : wrap64 n = n := wrap_id (by omega) (by omega)
theorem j11_true (k : Nat) (hk : 310000 ≤ k) (x d e many : Int) (z : Int × Bool) (hz : z.2 = true → Nrf x d e z.1) (a p : Int) :
    laws_FnMirrorsFace.j11 k x d e (FO x d e many).1 (FO x d e many).2 z.1 z.2 a p (WI a p).1 (WI a p).2 ((WI a p).1.length : Int) = some true := by
  obtain ⟨k, rfl⟩ : ∃ m, k = m + 1 := ⟨k - 1, by omega⟩
  have hj := j12_true k (by omega) a p
  have hfo := (fo_both x d e 1 k (by omega)).2
  rw [laws_FnMirrorsFace.j11]
  obtain ⟨r, b⟩ := z
  cases b with
  | false => exact (if_neg (fun h => by cases h)).trans hj
  | true =>
    have N : Nrf x d e r := hz rfl
    obtain ⟨f1, f2, f3⟩ := near_first N
    have hm := f3 many
    obtain ⟨h1, h2⟩ := cg_of N.ga
    obtain ⟨_, h3⟩ := cg_of N.gs
    have hn := N.near
    rw [mx_abs] at hn f2
    have w1 : wrap64 (r - e) = r - e := wSm (by split at hn <;> omega)
    have w2 : wrap64 (-(r - e)) = -(r - e) := wSm (by split at hn <;> omega)
    refine (if_pos rfl).trans ?_
    rw [hfo, Option.bind_some]
    show (if wrap64 (r - e) < 0 then _ else _) = _
    rw [w1, w2]
    generalize FO x d e 1 = F1 at f1 f2 hm ⊢
    generalize FO x d e many = Fm at hm ⊢
    have last : (if Fm.2 = true then (if Fm.1 < F1.1 then some false else laws_FnMirrorsFace.j12 k a p (WI a p).1 (WI a p).2 ((WI a p).1.length : Int)) else laws_FnMirrorsFace.j12 k a p (WI a p).1 (WI a p).2 ((WI a p).1.length : Int)) = some true := by
      rw [j12_true k (by omega) a p]
      by_cases c2 : Fm.2 = true
      · rw [if_pos c2, if_neg (Int.not_lt.2 (hm c2))]
      · rw [if_neg c2]
    by_cases c : r - e < 0
    · refine (if_pos c).trans ((if_pos f1).trans ((if_pos ?_).trans last))
      rw [f2]
      split <;> omega
    · refine (if_neg c).trans ((if_pos f1).trans ((if_pos ?_).trans last))
      rw [f2]
      split <;> omega
theorem j7_true (k : Nat) (hk : 320000 ≤ k) (u c s far : Int) (x d e fm1 nr a p : Int) (fm2 ni : Bool) (wl : List Int) (wb : Bool) (wn : Int) (hj : ∀ q, 310000 ≤ q → laws_FnMirrorsFace.j11 q x d e fm1 fm2 nr ni a p wl wb wn = some true) :
    laws_FnMirrorsFace.j7 k u c s far (CN u c s far).1 (CN u c s far).2 x d e fm1 fm2 nr ni a p wl wb wn = some true := by
  obtain ⟨k, rfl⟩ : ∃ m, k = m + 4 := ⟨k - 4, by omega⟩
  have hj2 := hj (k + 2) (by omega)
  have hj0 := hj k (by omega)
  have j8f : laws_FnMirrorsFace.j8 (k + 3) u c s far (CN u c s far).1 x d e fm1 fm2 nr ni a p wl wb wn false = some true := by
    rw [laws_FnMirrorsFace.j8]
    exact (if_neg (fun h => by cases h)).trans hj2
  rw [laws_FnMirrorsFace.j7]
  by_cases hb : (CN u c s far).2 = true
  · refine (if_pos hb).trans ?_
    by_cases hf : far ≤ 40
    · obtain ⟨n1, n2, n3, n4⟩ := near_far hb hf
      rw [decide_eq_true hf, laws_FnMirrorsFace.j8]
      generalize CN u c s far = C at n1 n2 n3 n4 ⊢
      have w1 : wrap64 (C.1 + 1) = C.1 + 1 := wSm (by omega)
      refine (if_pos rfl).trans ?_
      rw [w1, (fo_both u c s (C.1 + 1) (k + 2) (by omega)).2, Option.bind_some]
      have j10 : ∀ b : Bool, (b = true → 0 < C.1 ∧ C.1 ≤ 40) → laws_FnMirrorsFace.j10 (k + 1) u c s far C.1 x d e fm1 fm2 nr ni a p wl wb wn b = some true := by
        intro b hb2
        rw [laws_FnMirrorsFace.j10]
        cases b with
        | false => exact (if_neg (fun h => by cases h)).trans hj0
        | true =>
          obtain ⟨g1, g2⟩ := hb2 rfl
          obtain ⟨m1, m2⟩ := n2 g1 g2
          refine (if_pos rfl).trans ?_
          rw [(fo_both u c s C.1 k (by omega)).2, Option.bind_some]
          exact (if_pos m1).trans ((if_neg (by omega)).trans hj0)
      have j9 : laws_FnMirrorsFace.j9 (k + 2) u c s far C.1 x d e fm1 fm2 nr ni a p wl wb wn false = some true := by
        rw [laws_FnMirrorsFace.j9]
        refine (if_neg (fun h => by cases h)).trans ?_
        by_cases g : C.1 > 0
        · rw [if_pos g]
          exact j10 _ (fun h => ⟨g, of_decide_eq_true h⟩)
        · rw [if_neg g]
          exact j10 _ (fun h => by cases h)
      by_cases g : C.1 < 40
      · obtain ⟨m1, m2⟩ := n1 g
        refine (if_pos g).trans ((if_pos m1).trans ?_)
        rw [decide_eq_false (show ¬ (FO u c s (C.1 + 1)).1 ≤ far by omega)]
        exact j9
      · exact (if_neg g).trans j9
    · rw [decide_eq_false hf]
      exact j8f
  · exact (if_neg hb).trans j8f
theorem toList_nil (s : ByteArray) : s.toList = [] ↔ s.size = 0 := by
  rw [Lib.toList_data, Lib.size_eq, List.length_eq_zero_iff]
theorem IA_word {v b im : Int} {z : ByteArray} (h : cg v b = true ∧ okW z ∧ gl none z.data.toList = true ∧ aft v b z.data.toList = im ∧ (z.size = 0 ↔ im = b)) : IA v b z = (im, true) := by
  obtain ⟨h1, h2, h3, h4, h5⟩ := h
  have hw : isW z = true := by
    unfold isW
    rw [h3, Bool.and_true]
    have := h2.size
    exact decide_eq_true (by omega)
  unfold IA
  rw [if_pos ⟨h1, hw⟩, h4]
theorem j6_true (k : Nat) (hk : 330000 ≤ k) (v b im : Int) (z : ByteArray × Bool) (hz : Wof v b im z) (u c s far cn1 x d e fm1 nr a p wn : Int) (cn2 fm2 ni wb : Bool) (wl : List Int) (hj : ∀ q, 320000 ≤ q → laws_FnMirrorsFace.j7 q u c s far cn1 cn2 x d e fm1 fm2 nr ni a p wl wb wn = some true) :
    laws_FnMirrorsFace.j6 k v b im z.1 z.2 u c s far cn1 cn2 x d e fm1 fm2 nr ni a p wl wb wn = some true := by
  obtain ⟨k, rfl⟩ : ∃ m, k = m + 1 := ⟨k - 1, by omega⟩
  have hj0 := hj k (by omega)
  rw [laws_FnMirrorsFace.j6]
  by_cases hb : z.2 = true
  · have hs := hz.sure hb
    refine (if_pos hb).trans ?_
    rw [(ia_both v b z.1 k (by omega)).2, IA_word hs, Option.bind_some]
    have e : ((z.1.toList == ([] : List UInt8)) != (im == b)) = false := by
      rw [bne_eq_false_iff_eq, Bool.eq_iff_iff, beq_iff_eq, beq_iff_eq, toList_nil]
      exact hs.2.2.2.2
    rw [e]
    exact (if_pos rfl).trans ((if_pos rfl).trans ((if_neg (fun h => by cases h)).trans hj0))
  · exact (if_neg hb).trans hj0
theorem gl_init : ∀ (l : List UInt8) (b : UInt8) (p : Option UInt8), gl p (l ++ [b]) = true → gl p l = true := by
  intro l
  induction l with
  | nil => intro b p _; cases p <;> rfl
  | cons c l ih =>
    intro b p h
    rw [List.cons_append, gl, Bool.and_eq_true] at h
    rw [gl, Bool.and_eq_true]
    exact ⟨h.1, ih b _ h.2⟩
theorem gl_last : ∀ (l : List UInt8) (b : UInt8) (p : Option UInt8), gl p (l ++ [b]) = true → b = 108 ∨ b = 114 := fun l b p h => okW_gl _ p h b (by simp)
theorem ext_init (s : ByteArray) (n : Nat) (l : List UInt8) (b : UInt8) (h : s.data.toList = l ++ [b]) (hn : n = l.length) : (s.extract 0 n).data.toList = l := by
  rw [Lib.extract_eq, h, hn]
  simp
theorem bt_last (s : ByteArray) (l : List UInt8) (b : UInt8) (h : s.data.toList = l ++ [b]) : bt s (l.length : Int) = (b.toNat : Int) := by
  have hsz : s.size = l.length + 1 := by rw [Lib.size_eq, h]; simp
  obtain ⟨c, hc, hb⟩ := bt_list s l.length (by omega)
  rw [h, List.getElem?_append_right (Nat.le_refl _), Nat.sub_self] at hc
  have : b = c := Option.some.inj hc
  rw [hb, this]
theorem j4_true (k : Nat) (hk : 340000 ≤ k) (w g : Int) (t : ByteArray) (x25 x26 x27 : Int) (z1 : ByteArray) (z2 : Bool) (u c s far cn1 x d e fm1 nr a p wn : Int) (cn2 fm2 ni wb : Bool) (wl : List Int) (hj : ∀ q, 330000 ≤ q → laws_FnMirrorsFace.j6 q x25 x26 x27 z1 z2 u c s far cn1 cn2 x d e fm1 fm2 nr ni a p wl wb wn = some true) :
    laws_FnMirrorsFace.j4 k w g t (IA w g t).1 (IA w g t).2 x25 x26 x27 z1 z2 u c s far cn1 cn2 x d e fm1 fm2 nr ni a p wl wb wn false = some true := by
  obtain ⟨k, rfl⟩ : ∃ m, k = m + 2 := ⟨k - 2, by omega⟩
  have hj0 := hj k (by omega)
  have j5f : laws_FnMirrorsFace.j5 (k + 1) w g t (IA w g t).1 x25 x26 x27 z1 z2 u c s far cn1 cn2 x d e fm1 fm2 nr ni a p wl wb wn false = some true := by
    rw [laws_FnMirrorsFace.j5]
    exact (if_neg (fun h => by cases h)).trans hj0
  rw [laws_FnMirrorsFace.j4]
  refine (if_neg (fun h => by cases h)).trans ?_
  by_cases hb : (IA w g t).2 = true
  · refine (if_pos hb).trans ?_
    by_cases hs : (t.size : Int) > 0
    · have hc : cg w g = true ∧ isW t = true := by
        unfold IA at hb
        by_cases c : cg w g = true ∧ isW t = true
        · exact c
        · rw [if_neg c] at hb; cases hb
      have hw := hc.2
      unfold isW at hw
      rw [Bool.and_eq_true] at hw
      have h40 := of_decide_eq_true hw.1
      have hne : t.data.toList ≠ [] := fun e => by
        have : t.size = 0 := by rw [Lib.size_eq, e]; rfl
        omega
      obtain ⟨l, b, hl⟩ : ∃ l b, t.data.toList = l ++ [b] := ⟨_, _, (List.dropLast_concat_getLast hne).symm⟩
      have hsz : t.size = l.length + 1 := by rw [Lib.size_eq, hl]; simp
      have hg := hw.2
      rw [hl] at hg
      have hI : IA w g t = (aft w g (l ++ [b]), true) := by
        unfold IA
        rw [if_pos hc, hl]
      have w1 : wrap64 ((t.size : Int) - 1) = (l.length : Int) := by rw [wSm (by omega)]; omega
      have ext := ext_init t l.length l b hl rfl
      have esz : (t.extract 0 l.length).size = l.length := by rw [Lib.size_eq, ext]
      have hE : IA w g (t.extract 0 l.length) = (aft w g l, true) := by
        unfold IA isW
        rw [ext, gl_init l b none hg, esz, Bool.and_true, if_pos ⟨hc.1, decide_eq_true (by omega)⟩]
      obtain ⟨g1, g2, g3⟩ := cg_of hc.1
      have bnd := aft_bound (w := w) (by omega) l g 0 (by omega) (by omega)
      rw [Nat.zero_add] at bnd
      have hlen : l.length ≤ 39 := by omega
      have hbt := bt_last t l b hl
      have hfo := (ia_both w g (t.extract 0 l.length) k (by omega)).2
      rw [hE] at hfo
      have hsn := aft_snoc w b l g
      rw [decide_eq_true hs, laws_FnMirrorsFace.j5, w1, hI]
      generalize aft w g l = A at bnd hfo hsn
      have w2 : wrap64 (-A) = -A := wSm (by omega)
      have w3 : wrap64 (wrap64 (2 * w) - A) = 2 * w - A := by rw [wSm (n := 2 * w) (by omega), wSm (by omega)]
      refine (if_pos rfl).trans ((if_pos (show (0 : Int) ≤ (l.length : Int) by omega)).trans ((if_pos (show (l.length : Int) ≤ (t.size : Int) by omega)).trans ?_))
      rw [Int.toNat_natCast, hfo, Option.bind_some, hbt, w2, w3, hsn]
      refine (if_pos rfl).trans ((if_pos (show (l.length : Int) < (t.size : Int) by omega)).trans ?_)
      rcases gl_last l b none hg with c | c
      · subst c
        exact (if_pos rfl).trans ((if_pos rfl).trans ((if_neg (by decide)).trans hj0))
      · subst c
        exact (if_neg (by decide)).trans ((if_pos rfl).trans ((if_pos rfl).trans hj0))
    · rw [decide_eq_false hs]
      exact j5f
  · exact (if_neg hb).trans j5f
theorem j3_true (k : Nat) (hk : 350000 ≤ k) {l : List Int} (hl : Bytes l) : laws_FnMirrorsFace.j3 k l = some true := by
  obtain ⟨k, rfl⟩ : ∃ m, k = m + 1 := ⟨k - 1, by omega⟩
  obtain ⟨w, g, t, d1⟩ := dAfter k (by omega) hl
  obtain ⟨v, b, im, d2⟩ := dWord k (by omega) hl
  obtain ⟨u, c, s, far, d3⟩ := dNear hl
  obtain ⟨x, d, e, many, d4⟩ := dFar hl
  obtain ⟨a, p, d5⟩ := dWedge hl
  obtain ⟨g1, p1, e1, d6⟩ := dSteps k (by omega) hl
  obtain ⟨n, d7⟩ := dAngles hl
  obtain ⟨z, z1, z2, hz⟩ := wo_both v b im
  obtain ⟨r, r1, r2, hr, hr0⟩ := ni_key x d e (k - 1) (by omega)
  rw [show k - 1 + 1 = k by omega] at r1 r2
  obtain ⟨al, ab, a1, a2, a3, _⟩ := af_both n
  obtain ⟨i1, i2⟩ := ia_both w g t k (by omega)
  obtain ⟨c1, c2⟩ := cn_both u c s far k (by omega)
  obtain ⟨f1, f2⟩ := fo_both x d e many k (by omega)
  have q1 := wi_impl a p k (by omega)
  have q2 := wi_spec a p k (by omega)
  have q3 := cw_impl a p k (by omega)
  have q4 := cw_spec a p k (by omega)
  obtain ⟨s1, s2⟩ := ws_both g1 p1 e1 k (by omega)
  have y1 := ySame_eq k (WI a p).1 (by have := WI_len a p; omega) (by omega)
  have y2 := ySame_eq k al (by omega) (by omega)
  have last : (FO x d e many).2 = true → r.2 = true := fun h => by
    cases h2 : r.2 with
    | true => rfl
    | false => exact absurd (FO_of h) (hr0 h2)
  have fin : laws_FnMirrorsFace.j4 k w g t (IA w g t).1 (IA w g t).2 v b im z.1 z.2 u c s far (CN u c s far).1 (CN u c s far).2 x d e (FO x d e many).1 (FO x d e many).2 r.1 r.2 a p (WI a p).1 (WI a p).2 ((WI a p).1.length : Int) false = some true := by
    refine j4_true k (by omega) w g t _ _ _ _ _ _ _ _ _ _ _ _ _ _ _ _ _ _ _ _ _ _ _ (fun q hq => ?_)
    refine j6_true q hq v b im z hz _ _ _ _ _ _ _ _ _ _ _ _ _ _ _ _ _ _ (fun q hq => ?_)
    refine j7_true q hq u c s far _ _ _ _ _ _ _ _ _ _ _ _ (fun q hq => ?_)
    exact j11_true q hq x d e many r hr a p
  rw [laws_FnMirrorsFace.j3, d1, d2, d3, d4, d5, d6, d7]
  simp only [Option.bind_some]
  rw [i1, i2, z1 k (by omega), z2 k (by omega), c1, c2, f1, f2, r1, r2, q1, q2, q3, q4, s1, s2, a1 k (by omega), a2 k (by omega)]
  simp only [Option.bind_some, bne_self_eq_false, Bool.false_eq_true, if_false, if_true, y1, y2]
  cases hF : (FO x d e many).2 with
  | true =>
    rw [hF] at fin
    rw [last hF] at fin ⊢
    exact fin
  | false =>
    rw [hF] at fin
    exact fin
theorem val_bound {w a : Int} (hw : 1 ≤ w ∧ w ≤ 500) (ha : 0 ≤ a ∧ a ≤ w) {n : Nat} (hn : n ≤ 40) : (-100000 ≤ VX w a n ∧ VX w a n ≤ 100000) ∧ (-100000 ≤ VY w a n ∧ VY w a n ≤ 100000) := by
  have up : ∀ q : Int, q ≤ 41 → q * w ≤ 41 * w := fun q h => Int.mul_le_mul_of_nonneg_right h (by omega)
  have lo : ∀ q : Int, -1 ≤ q → -1 * w ≤ q * w := fun q h => Int.mul_le_mul_of_nonneg_right h (by omega)
  have a1 := up (n : Int) (by omega)
  have a2 := lo (n : Int) (by omega)
  have b1 := up ((n : Int) - 1) (by omega)
  have b2 := lo ((n : Int) - 1) (by omega)
  have c1 := up ((n : Int) + 1) (by omega)
  have c2 := lo ((n : Int) + 1) (by omega)
  unfold VX VY
  refine ⟨?_, ?_⟩ <;> split <;> omega
theorem l0_true {l1 : List Int} (hl1 : Bytes l1) (w a most : Int) (R : List Int) (hR : Uf w a most R) : ∀ (d i : Nat) (k : Nat), i + d = R.length → 360000 + d ≤ k → laws_FnMirrorsFace.l0 k l1 w a most R R.length i = some true := by
  have hm0 := hR.most0
  have hlen := hR.len
  intro d
  induction d with
  | zero =>
    intro i k hi hk
    obtain ⟨k, rfl⟩ : ∃ m, k = m + 1 := ⟨k - 1, by omega⟩
    rw [laws_FnMirrorsFace.l0]
    exact (if_neg (by omega)).trans (j3_true k (by omega) hl1)
  | succ d ih =>
    intro i k hi hk
    obtain ⟨k, rfl⟩ : ∃ m, k = m + 1 := ⟨k - 1, by omega⟩
    have hil : i < R.length := by omega
    have hI : (i : Int) < (R.length : Int) := by omega
    have h0 : (0 : Int) ≤ i := by omega
    have er : rd R (i : Int) = R[i] := by
      show R.getD i 0 = _
      rw [List.getD_eq_getElem?_getD, List.getElem?_eq_getElem hil]
      rfl
    have ih2 := ih (i + 1) k (by omega) (by omega)
    obtain ⟨z, _, z2, hz⟩ := wo_both w a R[i]
    obtain ⟨n, n1, n2, hv⟩ := (hR.mem R[i]).1 (List.getElem_mem hil)
    obtain ⟨g1, g2⟩ := cg_of hR.good
    obtain ⟨v1, v2⟩ := val_bound (w := w) (a := a) g1 g2 (show n ≤ 40 by omega)
    have hrange : -100000 ≤ R[i] ∧ R[i] ≤ 100000 := by
      rcases hv with h | h <;> rw [h] <;> assumption
    obtain ⟨z3, z4⟩ := hz.least hR.good hrange n n1 (by omega) hv
    have hs := hz.sure z3
    have hle : ¬ (z.1.size : Int) > most := by omega
    rw [laws_FnMirrorsFace.l0, er, z2 k (by omega)]
    refine (if_pos hI).trans ((if_pos h0).trans ((if_pos hI).trans ?_))
    rw [Option.bind_some, (ia_both w a z.1 k (by omega)).2, IA_word hs, Option.bind_some]
    refine (if_pos z3).trans ((if_neg hle).trans ((if_pos rfl).trans ((if_pos rfl).trans ?_)))
    rw [wInc (i := i) (by omega)]
    exact ih2
theorem bytes_of {l : List Int} (h : l.length ≤ 1048576) (hb : ∀ x ∈ l, (Lit.int .u8 x).wf = true) : Bytes l := by
  refine ⟨h, fun x hx => ?_⟩
  have := hb x hx
  simp [Lit.wf] at this
  have e0 : IntKind.u8.min = 0 := by decide
  have e1 : IntKind.u8.max = 255 := by decide
  omega
theorem f_true (l0 l1 : List Int) (h0 : Bytes l0) (h1 : Bytes l1) (hbig : laws_big.f l0 l1 = some false) : laws_FnMirrorsFace.f 400000 l0 l1 = some true := by
  obtain ⟨w, a, most, d1⟩ := dUpTo h0
  obtain ⟨R, b, s1, s2, hlen, hU⟩ := up_both w a most
  obtain ⟨k, hk⟩ : ∃ k : Nat, k = 399998 := ⟨_, rfl⟩
  have j3 : ∀ q, 350000 ≤ q → laws_FnMirrorsFace.j3 q l1 = some true := fun q hq => j3_true q hq h1
  have j1 : ∀ q, 390000 ≤ q → b = true → laws_FnMirrorsFace.j1 q l1 w a most R false = some true := by
    intro q hq hb
    obtain ⟨q, rfl⟩ : ∃ m, q = m + 1 := ⟨q - 1, by omega⟩
    rw [laws_FnMirrorsFace.j1]
    exact (if_neg (fun h => by cases h)).trans (l0_true h1 w a most R (hU hb) R.length 0 q (by omega) (by omega))
  have j0 : laws_FnMirrorsFace.j0 400000 l1 w a most R b false = some true := by
    rw [show (400000 : Nat) = k + 2 by omega, laws_FnMirrorsFace.j0]
    refine (if_neg (fun h => by cases h)).trans ?_
    cases b with
    | false => exact (if_neg (fun h => by cases h)).trans (j3 (k + 1) (by omega))
    | true =>
      have U := hU rfl
      have hm0 := U.most0
      have hl2 := U.len
      have hmany := up_many U
      refine (if_pos rfl).trans ?_
      rw [yRises_eq (k + 1) R U.rise (by omega) (by omega), Option.bind_some]
      refine (if_pos rfl).trans ?_
      have w2 : wrap64 (2 * most) = 2 * most := wSm (by omega)
      rw [w2]
      refine (if_neg (by omega)).trans ?_
      by_cases c : most > 0
      · rw [if_pos c, decide_eq_false (by omega)]
        exact j1 (k + 1) (by omega) rfl
      · rw [if_neg c]
        exact j1 (k + 1) (by omega) rfl
  unfold laws_FnMirrorsFace.f
  rw [hbig, Option.bind_some, d1]
  simp only [Option.bind_some, Bool.false_eq_true, if_false]
  rw [s1 400000 (by omega), s2 400000 (by omega)]
  simp only [Option.bind_some, Bool.false_eq_true, if_false, bne_self_eq_false]
  rw [ySame_eq 400000 R (by omega) (by omega)]
  exact j0
theorem main : laws_FnMirrorsFace.Pure := by
  intro l0 l1 _ _ hb0 _ _ hb1
  refine ⟨400000, ?_⟩
  by_cases c : (l0.length : Int) > 1048576
  · unfold laws_FnMirrorsFace.f laws_big.f
    rw [if_pos c]
    rfl
  · have w1 : wrap64 (1048576 - (l0.length : Int)) = 1048576 - (l0.length : Int) := wrap_id (by omega) (by omega)
    by_cases c2 : (l1.length : Int) > wrap64 (1048576 - (l0.length : Int))
    · unfold laws_FnMirrorsFace.f laws_big.f
      rw [if_neg c, decide_eq_true c2]
      rfl
    · refine f_true l0 l1 (bytes_of (by omega) hb0) (bytes_of (by omega) hb1) ?_
      unfold laws_big.f
      rw [if_neg c, decide_eq_false c2]
end LFnMirrorsFace

theorem FnMirrorsFace : laws_FnMirrorsFace.Pure := LFnMirrorsFace.main

end Go.Proofs.YtnmhefdjakjngaaGreatDoor.Pure
