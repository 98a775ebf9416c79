/- For every angle and place the program's WedgeImages and the reference's give the same; no condition beyond the numbers' kinds. -/
import Derived.Test.YtgepcafeldhncaaPFnExactWedgeImagesx5
namespace Go.Proofs.Ytgepcafeldhncaa.Pure
open Go.RowKit Go.Proofs.Ytgepcafeldhncaa.PFnExactWedgeImages Go.Proofs.YtgepcafeldhncaaW.PrintWords Go.Proofs.YtgepcafeldhncaaW.PrintLast
set_option linter.unusedVariables false
set_option linter.unusedSimpArgs false

namespace LFnExactWedgeImages
theorem within_eq (a b c : Int) : impl_within.f a b c = some (decide (b ≤ a ∧ a ≤ c)) := by
  by_cases h1 : b ≤ a <;> by_cases h2 : a ≤ c <;> simp [impl_within.f, h1, h2]

theorem l1In_eq (a b c : Int) : spec_l1In.f a b c = some (decide (b ≤ a ∧ a ≤ c)) := by
  by_cases h1 : b ≤ a <;> by_cases h2 : a ≤ c <;> simp [spec_l1In.f, h1, h2]

theorem wrap_id {n : Int} (h0 : -9223372036854775808 ≤ n) (h1 : n ≤ 9223372036854775807) : wrap64 n = n := by
  unfold wrap64
  omega

theorem eqIntS_l0 (l : List Int) (hl : l.length ≤ 1000000000) (d : Nat) : ∀ (k i : Nat), i + d = l.length → d < k → laws_eqIntS.l0 k l l i = some true := by
  induction d with
  | zero =>
    intro k i hi hk
    obtain ⟨k, rfl⟩ : ∃ m, k = m + 1 := ⟨k - 1, by omega⟩
    simp only [laws_eqIntS.l0]
    rw [if_neg (by omega)]
  | succ d ih =>
    intro k i hi hk
    obtain ⟨k, rfl⟩ : ∃ m, k = m + 1 := ⟨k - 1, by omega⟩
    have e : wrap64 ((i : Int) + 1) = ((i + 1 : Nat) : Int) := by rw [wrap_id (by omega) (by omega)]; omega
    simp only [laws_eqIntS.l0]
    rw [if_pos (by omega), if_pos (by omega), if_pos (by omega)]
    simp only [if_true]
    rw [e]
    exact ih k (i + 1) (by omega) (by omega)
theorem eqIntS_same (k : Nat) (l : List Int) (hl : l.length ≤ 1000000000) (hk : l.length < k) : laws_eqIntS.f k l l = some true := by
  unfold laws_eqIntS.f
  rw [if_pos rfl]
  exact eqIntS_l0 l hl l.length k 0 (by omega) hk

/-- The numbers m, m + 1, .., as many as told. -/
def upto (m : Int) (n : Nat) : List Int := (List.range n).map fun j : Nat => m + (j : Int)
theorem upto_len (m : Int) (n : Nat) : (upto m n).length = n := by simp [upto]
theorem mark_l0 (m : Int) (h0 : 0 ≤ m) (h1 : m ≤ 1000000000) : ∀ (rest : List Int) (k i : Nat), rest.length < k → i + rest.length ≤ 1000000000 →
    laws_markIntS.l0 k (upto m i ++ rest) (m + i) i = some (m + ((i + rest.length : Nat) : Int), upto m (i + rest.length)) := by
  intro rest
  induction rest with
  | nil =>
    intro k i hk hb
    obtain ⟨k, rfl⟩ : ∃ m, k = m + 1 := ⟨k - 1, by simp at hk; omega⟩
    simp only [laws_markIntS.l0]
    rw [if_neg (by simp [upto_len])]
    simp
  | cons y ys ih =>
    intro k i hk hb
    simp only [List.length_cons] at hk hb ⊢
    obtain ⟨k, rfl⟩ : ∃ m, k = m + 1 := ⟨k - 1, by omega⟩
    have e1 : wrap64 ((i : Int) + 1) = ((i + 1 : Nat) : Int) := by rw [wrap_id (by omega) (by omega)]; omega
    have e2 : wrap64 (m + (i : Int) + 1) = m + ((i + 1 : Nat) : Int) := by rw [wrap_id (by omega) (by omega)]; omega
    have e3 : (upto m i ++ y :: ys).set ((i : Int)).toNat (m + (i : Int)) = upto m (i + 1) ++ ys := by
      rw [Int.toNat_natCast, List.set_append_right _ _ (by rw [upto_len]; exact Nat.le_refl _), upto_len, Nat.sub_self]
      simp [upto, List.range_succ]
    simp only [laws_markIntS.l0]
    rw [if_pos (by simp [upto_len]; omega), if_pos (by omega), e3, e1, e2, ih k (i + 1) (by omega) (by omega), show i + (ys.length + 1) = i + 1 + ys.length by omega]
theorem mark_eq (k : Nat) (l : List Int) (m : Int) (h0 : 0 ≤ m) (h1 : m ≤ 1000000000) (hl : l.length ≤ 1000000000) (hk : l.length < k) :
    laws_markIntS.f k l m = some (m + (l.length : Int), upto m l.length) := by
  have := mark_l0 m h0 h1 l k 0 hk (by omega)
  simpa [upto, laws_markIntS.f] using this
theorem held_l0 (m : Int) (n : Nat) (h0 : 0 ≤ m) (h1 : m ≤ 1000000000) (hn : n ≤ 1000000000) (d : Nat) : ∀ (k i : Nat), i + d = n → d < k →
    laws_heldIntS.l0 k (upto m n) (m + i) i = some (m + (n : Int)) := by
  induction d with
  | zero =>
    intro k i hi hk
    obtain ⟨k, rfl⟩ : ∃ m, k = m + 1 := ⟨k - 1, by omega⟩
    simp only [laws_heldIntS.l0]
    rw [if_neg (by simp [upto_len]; omega), show i = n by omega]
  | succ d ih =>
    intro k i hi hk
    obtain ⟨k, rfl⟩ : ∃ m, k = m + 1 := ⟨k - 1, by omega⟩
    have e1 : wrap64 ((i : Int) + 1) = ((i + 1 : Nat) : Int) := by rw [wrap_id (by omega) (by omega)]; omega
    have e2 : wrap64 (m + (i : Int) + 1) = m + ((i + 1 : Nat) : Int) := by rw [wrap_id (by omega) (by omega)]; omega
    have e3 : rd (upto m n) (i : Int) = m + (i : Int) := by
      unfold rd upto
      rw [Int.toNat_natCast, List.getD_eq_getElem?_getD, List.getElem?_map, List.getElem?_range (by omega)]
      rfl
    simp only [laws_heldIntS.l0]
    rw [if_pos (by simp [upto_len]; omega), if_pos (by omega), e3, if_pos rfl, e1, e2, ih k (i + 1) (by omega) (by omega)]
theorem held_eq (k n : Nat) (m : Int) (h0 : 0 ≤ m) (h1 : m ≤ 1000000000) (hn : n ≤ 1000000000) (hk : n < k) : laws_heldIntS.f k (upto m n) m = some (m + (n : Int)) := by
  have := held_l0 m n h0 h1 hn n k 0 (by omega) hk
  simpa [laws_heldIntS.f] using this

/-- Where a place seems to be behind one mirror, and behind the other. -/
def n1 (x : Int) : Int := Int.tmod (360 - x) 360
def n2 (A x : Int) : Int := Int.tmod (2 * A - x + 360) 360
def mk (s : Int) (st : List Int × List Int) (y : Int) : List Int × List Int := if rd st.1 y < 0 then (st.1.set y.toNat s, st.2 ++ [y]) else st
def ringF (A s : Int) : List Int × List Int → List Int → List Int × List Int
  | st, [] => st
  | st, x :: r => ringF A s (mk s (mk s st (n1 x)) (n2 A x)) r
def cnt (out : List Int) : Nat := out.countP fun v => decide (v < 0)
def rings (A : Int) : Nat → List Int → List Int → Int → List Int
  | 0, out, _, _ => out
  | n + 1, out, [], _ => out
  | n + 1, out, x :: r, s => rings A n (ringF A s (out, []) (x :: r)).1 (ringF A s (out, []) (x :: r)).2 (s + 1)
def inR (y : Int) : Prop := 0 ≤ y ∧ y < 360
theorem n1_eq {x : Int} (h : inR x) : n1 x = (360 - x) % 360 := by
  unfold n1
  obtain ⟨a, b⟩ := h
  rw [Int.tmod_eq_emod_of_nonneg (by omega)]
theorem n2_eq {A x : Int} (hA : 0 ≤ A) (h : inR x) : n2 A x = (2 * A - x + 360) % 360 := by
  unfold n2
  obtain ⟨a, b⟩ := h
  rw [Int.tmod_eq_emod_of_nonneg (by omega)]
theorem n1_in {x : Int} (h : inR x) : inR (n1 x) := by
  rw [n1_eq h]
  exact ⟨Int.emod_nonneg _ (by omega), Int.emod_lt_of_pos _ (by omega)⟩
theorem n2_in {A x : Int} (hA : 0 ≤ A) (h : inR x) : inR (n2 A x) := by
  rw [n2_eq hA h]
  exact ⟨Int.emod_nonneg _ (by omega), Int.emod_lt_of_pos _ (by omega)⟩
theorem rd_lt {l : List Int} {i : Int} (h0 : 0 ≤ i) (h : i < l.length) : ∃ hl : i.toNat < l.length, rd l i = l[i.toNat] := by
  refine ⟨by omega, ?_⟩
  unfold rd
  rw [List.getD_eq_getElem?_getD, List.getElem?_eq_getElem (by omega)]
  rfl
theorem rd_set {l : List Int} {i j v : Int} (hi : 0 ≤ i) (hil : i < l.length) (hj : 0 ≤ j) : rd (l.set i.toNat v) j = if j = i then v else rd l j := by
  unfold rd
  rw [List.getD_eq_getElem?_getD, List.getD_eq_getElem?_getD, List.getElem?_set]
  by_cases c : j = i
  · subst c
    rw [if_pos rfl, if_pos (by omega), if_pos rfl]
    rfl
  · rw [if_neg (by omega), if_neg c]
theorem cnt_set {l : List Int} {y s : Int} (h0 : 0 ≤ y) (hl : y < l.length) (hy : rd l y < 0) (hs : 0 ≤ s) : cnt (l.set y.toNat s) + 1 = cnt l := by
  obtain ⟨hl', e⟩ := rd_lt h0 hl
  rw [e] at hy
  have key : ∀ (l : List Int) (n : Nat) (h : n < l.length), l[n] < 0 → (l.set n s).countP (fun v => decide (v < 0)) + 1 = l.countP fun v => decide (v < 0) := by
    intro l
    induction l with
    | nil => intro n h; simp at h
    | cons a t ih =>
      intro n h hn
      cases n with
      | zero =>
        simp only [List.getElem_cons_zero] at hn
        rw [List.set_cons_zero, List.countP_cons, List.countP_cons, decide_eq_true hn, decide_eq_false (by omega : ¬ s < 0)]
        simp
      | succ n =>
        simp only [List.getElem_cons_succ] at hn
        have := ih n (by simpa using h) hn
        rw [List.set_cons_succ, List.countP_cons, List.countP_cons, ← this]
        omega
  exact key l y.toNat hl' hy
/-- What a visit keeps. -/
structure Bf (st : List Int × List Int) (m : Nat) : Prop where
  len : st.1.length = 360
  all : ∀ y ∈ st.2, inR y
  sum : cnt st.1 + st.2.length = m
theorem mk_bf {st : List Int × List Int} {m : Nat} {s y : Int} (h : Bf st m) (hy : inR y) (hs : 0 ≤ s) : Bf (mk s st y) m := by
  unfold mk
  obtain ⟨h1, h2, h3⟩ := h
  obtain ⟨a, b⟩ := hy
  by_cases c : rd st.1 y < 0
  · rw [if_pos c]
    refine ⟨by simpa using h1, ?_, ?_⟩
    · intro z hz
      simp only [List.mem_append, List.mem_singleton] at hz
      rcases hz with hz | hz
      · exact h2 z hz
      · rw [hz]; exact ⟨a, b⟩
    · have := cnt_set (s := s) a (by omega) c hs
      simp only [List.length_append, List.length_cons, List.length_nil]
      omega
  · rw [if_neg c]
    exact ⟨h1, h2, h3⟩
theorem ringF_bf {A s : Int} (hA : 0 ≤ A) (hs : 0 ≤ s) : ∀ (r : List Int) (st : List Int × List Int) (m : Nat), (∀ y ∈ r, inR y) → Bf st m → Bf (ringF A s st r) m := by
  intro r
  induction r with
  | nil => intro st m _ h; exact h
  | cons x r ih =>
    intro st m hr h
    have hx := hr x (by simp)
    exact ih _ m (fun y hy => hr y (by simp [hy])) (mk_bf (mk_bf h (n1_in hx) hs) (n2_in hA hx) hs)
/-- More rounds than needed change nothing. -/
theorem rings_more {A : Int} (hA : 0 ≤ A) : ∀ (n m : Nat) (out ring : List Int) (s : Int), out.length = 360 → (∀ y ∈ ring, inR y) → 0 ≤ s → cnt out + 2 ≤ n → cnt out + 2 ≤ m → rings A n out ring s = rings A m out ring s := by
  intro n
  induction n with
  | zero => intro m out ring s _ _ _ h; omega
  | succ n ih =>
    intro m out ring s hl hr hs h1 h2
    obtain ⟨m, rfl⟩ : ∃ q, m = q + 1 := ⟨m - 1, by omega⟩
    cases ring with
    | nil => rfl
    | cons x r =>
      have hb := ringF_bf hA hs (x :: r) (out, []) (cnt out) hr ⟨hl, by simp, by simp⟩
      simp only [rings]
      generalize ringF A s (out, []) (x :: r) = st at hb
      obtain ⟨o, q⟩ := st
      obtain ⟨b1, b2, b3⟩ := hb
      simp only at b1 b2 b3 ⊢
      cases q with
      | nil =>
        cases n with
        | zero => omega
        | succ n =>
          cases m with
          | zero => omega
          | succ m => rfl
      | cons z q => exact ih m o (z :: q) (s + 1) b1 b2 (by omega) (by simp at b3; omega) (by simp at b3; omega)

theorem l2_step (k : Nat) {A s : Int} {out nxt ring : List Int} {i : Nat} (hA : 0 ≤ A ∧ A ≤ 90) (hl : out.length = 360) (hn : nxt.length < 1000) (hi : i < ring.length) (hx : inR (rd ring i)) (hs : 0 ≤ s) (hb : ∀ y ∈ nxt, inR y) (hsz : ring.length ≤ 1000) :
    spec_miSteps.l2 (k + 4) A out s nxt ring ring.length i = spec_miSteps.l2 k A (mk s (mk s (out, nxt) (n1 (rd ring i))) (n2 A (rd ring i))).1 s (mk s (mk s (out, nxt) (n1 (rd ring i))) (n2 A (rd ring i))).2 ring ring.length ((i + 1 : Nat) : Int) := by
  have i1 := n1_in hx
  have i2 := n2_in hA.1 hx
  have hi1 : (i : Int) < (ring.length : Int) := by omega
  have hi0 : (0 : Int) ≤ i := by omega
  have e1 : Int.tmod (wrap64 (360 - rd ring i)) 360 = n1 (rd ring i) := by rw [wrap_id (by have := hx.2; omega) (by have := hx.1; omega)]; rfl
  have e2 : Int.tmod (wrap64 (wrap64 (wrap64 (2 * A) - rd ring i) + 360)) 360 = n2 A (rd ring i) := by
    have := hx.1
    have := hx.2
    rw [wrap_id (n := 2 * A) (by omega) (by omega), wrap_id (n := 2 * A - rd ring i) (by omega) (by omega), wrap_id (by omega) (by omega)]
    rfl
  have w0 : wrap64 ((0 : Int) + 1) = 1 := wrap_id (by omega) (by omega)
  have w1 : wrap64 ((1 : Int) + 1) = 2 := wrap_id (by omega) (by omega)
  have wi : wrap64 ((i : Int) + 1) = ((i + 1 : Nat) : Int) := by rw [wrap_id (by omega) (by omega)]; omega
  rw [spec_miSteps.l2]
  refine (if_pos hi1).trans ((if_pos hi0).trans ((if_pos hi1).trans ?_))
  rw [e1, e2]
  clear e1 e2
  generalize hy1 : n1 (rd ring i) = y1 at i1 ⊢
  generalize hy2 : n2 A (rd ring i) = y2 at i2 ⊢
  simp only [Option.bind_some]
  have lp : ((([y1, y2] : List Int).length : Nat) : Int) = 2 := rfl
  have r0 : rd [y1, y2] 0 = y1 := rfl
  have r1 : rd [y1, y2] 1 = y2 := rfl
  -- one element of the pair
  have one : ∀ (k : Nat) (out nxt : List Int) (j : Int) (y : Int), out.length = 360 → nxt.length < 10000 → 0 ≤ j → j < 2 → rd [y1, y2] j = y → inR y →
      spec_miSteps.l3 (k + 1) A out s nxt ring ring.length i [y1, y2] 2 j = spec_miSteps.l3 k A (mk s (out, nxt) y).1 s (mk s (out, nxt) y).2 ring ring.length i [y1, y2] 2 (wrap64 (j + 1)) := by
    intro k out nxt j y hl hn h0 h1 hy hin
    obtain ⟨a, b⟩ := hin
    rw [spec_miSteps.l3, lp, hy]
    refine (if_pos h1).trans ((if_pos h0).trans ((if_pos h1).trans ((if_pos a).trans ((if_pos (show y < (out.length : Int) by omega)).trans ?_))))
    unfold mk
    by_cases c : rd out y < 0
    · rw [if_pos c, if_pos c, if_pos (show nxt.length < 17592186044416 by omega)]
    · rw [if_neg c, if_neg c]
  rw [lp, one (k + 2) out nxt 0 y1 hl (by omega) (by omega) (by omega) r0 i1, w0]
  have l1 : (mk s (out, nxt) y1).1.length = 360 := by unfold mk; split <;> simp [hl]
  have l2 : (mk s (out, nxt) y1).2.length < 10000 := by unfold mk; split <;> simp <;> omega
  rw [one (k + 1) _ _ 1 y2 l1 l2 (by omega) (by omega) r1 i2, w1, spec_miSteps.l3, if_neg (by omega), wi]
theorem l2_run {A s : Int} {ring : List Int} (hA : 0 ≤ A ∧ A ≤ 90) (hs : 0 ≤ s) (hsz : ring.length ≤ 1000) (hr : ∀ y ∈ ring, inR y) : ∀ (rest pre : List Int) (k : Nat) (st : List Int × List Int) (m : Nat), pre ++ rest = ring → Bf st m → m ≤ 360 →
    spec_miSteps.l2 (k + 4 * rest.length + 1) A st.1 s st.2 ring ring.length pre.length = spec_miSteps.l1 k A (ringF A s st rest).1 (ringF A s st rest).2 (wrap64 (s + 1)) := by
  intro rest
  induction rest with
  | nil =>
    intro pre k st m e _ _
    rw [List.append_nil] at e
    subst e
    rw [List.length_nil, Nat.mul_zero, Nat.add_zero, spec_miSteps.l2, if_neg (by omega)]
    rfl
  | cons x rest ih =>
    intro pre k st m e hb hm
    have hx : rd ring pre.length = x := by
      unfold rd
      rw [Int.toNat_natCast, ← e, List.getD_eq_getElem?_getD, List.getElem?_append_right (Nat.le_refl _), Nat.sub_self]
      rfl
    have hin : inR x := hr x (by rw [← e]; simp)
    have hlt : pre.length < ring.length := by rw [← e]; simp
    have hn : st.2.length < 1000 := by have := hb.sum; omega
    have := l2_step (k + 4 * rest.length + 1) (out := st.1) (nxt := st.2) (i := pre.length) hA hb.len hn hlt (by rw [hx]; exact hin) hs hb.all hsz
    rw [hx] at this
    rw [show k + 4 * (x :: rest).length + 1 = k + 4 * rest.length + 1 + 4 by rw [List.length_cons]; omega, this]
    have e2 : ((pre.length + 1 : Nat) : Int) = ((pre ++ [x]).length : Nat) := by simp
    rw [e2]
    exact ih (pre ++ [x]) k (mk s (mk s (st.1, st.2) (n1 x)) (n2 A x)) m (by simpa using e) (mk_bf (mk_bf hb (n1_in hin) hs) (n2_in hA.1 hin) hs) hm
theorem l1_run {A : Int} (hA : 0 ≤ A ∧ A ≤ 90) : ∀ (n : Nat) (out ring : List Int) (s : Int) (k : Nat), out.length = 360 → (∀ y ∈ ring, inR y) → ring.length ≤ 1000 → 0 ≤ s → (ring ≠ [] → s + cnt out ≤ 400 ∧ cnt out + 2 ≤ n) → cnt out ≤ 360 → 1 ≤ n → 6 * (ring.length + cnt out) + 10 ≤ k →
    spec_miSteps.l1 k A out ring s = some (rings A n out ring s) := by
  intro n
  induction n with
  | zero => intro out ring s k _ _ _ _ _ _ h; omega
  | succ n ih =>
    intro out ring s k hl hr hsz hs hc hm _ hk
    obtain ⟨k, rfl⟩ : ∃ q, k = q + 1 := ⟨k - 1, by omega⟩
    cases ring with
    | nil =>
      rw [spec_miSteps.l1, if_neg (by simp)]
      rfl
    | cons x r =>
      obtain ⟨c1, c2⟩ := hc (by simp)
      have hb0 : Bf (out, []) (cnt out) := ⟨hl, by simp, by simp⟩
      have hb := ringF_bf hA.1 hs (x :: r) (out, []) (cnt out) hr hb0
      obtain ⟨q, hq⟩ : ∃ q, k = q + 4 * (x :: r).length + 1 := ⟨k - 4 * (x :: r).length - 1, by simp only [List.length_cons] at hk ⊢; omega⟩
      rw [spec_miSteps.l1, if_pos (by simp), hq]
      have := l2_run hA hs hsz hr (x :: r) [] q (out, []) (cnt out) rfl hb0 hm
      rw [show (([] : List Int).length : Int) = 0 from rfl] at this
      rw [this, wrap_id (by omega) (by omega)]
      simp only [rings]
      generalize ringF A s (out, []) (x :: r) = st at hb
      obtain ⟨o, p⟩ := st
      obtain ⟨b1, b2, b3⟩ := hb
      simp only at b1 b2 b3 ⊢
      simp only [List.length_cons] at hk hq
      refine ih o p (s + 1) q b1 b2 (by omega) (by omega) (fun hne => ?_) (by omega) (by omega) (by omega)
      have : 0 < p.length := List.length_pos_iff.2 hne
      exact ⟨by omega, by omega⟩
theorem init_l0 (A p : Int) : ∀ (d k i : Nat), i + d = 360 → d < k → spec_miSteps.l0 k A p (List.replicate i (-1) ++ List.replicate d 0) 360 i = (if 0 ≤ p then (if p < 360 then spec_miSteps.l1 (k - d - 1) A ((List.replicate 360 (-1)).set p.toNat 0) [p] 1 else none) else none) := by
  intro d
  induction d with
  | zero =>
    intro k i hi hk
    obtain ⟨k, rfl⟩ : ∃ m, k = m + 1 := ⟨k - 1, by omega⟩
    obtain rfl : i = 360 := by omega
    rw [spec_miSteps.l0, if_neg (by omega)]
    simp only [List.replicate_zero, List.append_nil, List.length_replicate, Nat.add_sub_cancel, Nat.sub_zero]
    rfl
  | succ d ih =>
    intro k i hi hk
    obtain ⟨k, rfl⟩ : ∃ m, k = m + 1 := ⟨k - 1, by omega⟩
    have wi : wrap64 ((i : Int) + 1) = ((i + 1 : Nat) : Int) := by rw [wrap_id (by omega) (by omega)]; omega
    have e : (List.replicate i (-1 : Int) ++ List.replicate (d + 1) 0).set ((i : Int)).toNat (-1) = List.replicate (i + 1) (-1) ++ List.replicate d 0 := by
      rw [Int.toNat_natCast, List.set_append_right _ _ (by simp), List.length_replicate, Nat.sub_self, List.replicate_succ, List.set_cons_zero, List.replicate_succ', List.append_assoc]
      rfl
    rw [spec_miSteps.l0, if_pos (by omega), if_pos (by omega), if_pos (by simp; omega), e, wi, ih k (i + 1) (by omega) (by omega), show k + 1 - (d + 1) - 1 = k - d - 1 by omega]
def start (p : Int) : List Int := (List.replicate 360 (-1)).set p.toNat 0
theorem start_cnt {p : Int} (h : inR p) : cnt (start p) = 359 := by
  have h1 : rd (List.replicate 360 (-1)) p < 0 := by
    obtain ⟨hl, e⟩ := rd_lt (l := List.replicate 360 (-1)) h.1 (by rw [List.length_replicate]; exact h.2)
    rw [e, List.getElem_replicate]
    omega
  have := cnt_set (l := List.replicate 360 (-1)) (y := p) (s := 0) h.1 (by rw [List.length_replicate]; exact h.2) h1 (by omega)
  have h2 : cnt (List.replicate 360 (-1)) = 360 := by unfold cnt; rw [List.countP_replicate]; rfl
  unfold start
  omega
/-- The reference's steps, by rings. -/
theorem miSteps_eq (k : Nat) (hk : 4000 ≤ k) {A p : Int} (hA : 0 ≤ A ∧ A ≤ 90) (hp : inR p) : spec_miSteps.f k A p = some (rings A 400 (start p) [p] 1) := by
  have h0 := init_l0 A p 360 k 0 (by omega) (by omega)
  unfold spec_miSteps.f
  rw [if_pos (by omega)]
  simp only [Option.bind_some, List.length_replicate]
  rw [show (List.replicate 0 (-1 : Int) ++ List.replicate 360 0) = List.replicate 360 0 from rfl] at h0
  refine Eq.trans h0 ?_
  rw [if_pos hp.1, if_pos hp.2]
  have hc := start_cnt hp
  show spec_miSteps.l1 _ A (start p) [p] 1 = _
  refine l1_run hA 400 (start p) [p] 1 _ (by unfold start; rw [List.length_set, List.length_replicate]) (by simpa using hp) (by simp) (by omega) (fun _ => ?_) ?_ (by omega) ?_
  · show _ + ((cnt (start p) : Nat) : Int) ≤ _ ∧ cnt (start p) + 2 ≤ _
    omega
  · show cnt (start p) ≤ _
    omega
  · show 6 * (_ + cnt (start p)) + 10 ≤ _
    simp only [List.length_cons, List.length_nil]
    omega

theorem n1_q {x : Int} (h : inR x) : ∃ q, n1 x = 360 * q - x := ⟨-((360 - x) / 360) + 1, by rw [n1_eq h]; have := Int.emod_add_mul_ediv (360 - x) 360; omega⟩
theorem n2_q {A x : Int} (hA : 0 ≤ A) (h : inR x) : ∃ q, n2 A x = 360 * q + 2 * A - x := ⟨-((2 * A - x + 360) / 360) + 1, by rw [n2_eq hA h]; have := Int.emod_add_mul_ediv (2 * A - x + 360) 360; omega⟩
/-- The places that some reflections lead to. -/
def Pl (A p x : Int) : Prop := 2 * A ∣ x - p ∨ 2 * A ∣ x + p
theorem pl_n1 {A p x : Int} (h360 : 2 * A ∣ 360) (hx : inR x) (h : Pl A p x) : Pl A p (n1 x) := by
  obtain ⟨q, e⟩ := n1_q hx
  have d := Int.dvd_trans h360 (Int.dvd_mul_right 360 q)
  rcases h with h | h
  · refine .inr ?_
    rw [e, show 360 * q - x + p = 360 * q - (x - p) by omega]
    exact Int.dvd_sub d h
  · refine .inl ?_
    rw [e, show 360 * q - x - p = 360 * q - (x + p) by omega]
    exact Int.dvd_sub d h
theorem pl_n2 {A p x : Int} (hA : 0 ≤ A) (h360 : 2 * A ∣ 360) (hx : inR x) (h : Pl A p x) : Pl A p (n2 A x) := by
  obtain ⟨q, e⟩ := n2_q hA hx
  have d := Int.dvd_add (Int.dvd_trans h360 (Int.dvd_mul_right 360 q)) (Int.dvd_refl (2 * A))
  rcases h with h | h
  · refine .inr ?_
    rw [e, show 360 * q + 2 * A - x + p = 360 * q + 2 * A - (x - p) by omega]
    exact Int.dvd_sub d h
  · refine .inl ?_
    rw [e, show 360 * q + 2 * A - x - p = 360 * q + 2 * A - (x + p) by omega]
    exact Int.dvd_sub d h
structure Iv (A p : Int) (st : List Int × List Int) (r : List Int) : Prop where
  len : st.1.length = 360
  inr : ∀ y, y ∈ r ∨ y ∈ st.2 → inR y ∧ 0 ≤ rd st.1 y
  sound : ∀ y, inR y → 0 ≤ rd st.1 y → Pl A p y
  closed : ∀ y, inR y → 0 ≤ rd st.1 y → y ∈ r ∨ y ∈ st.2 ∨ (0 ≤ rd st.1 (n1 y) ∧ 0 ≤ rd st.1 (n2 A y))
  zero : rd st.1 p = 0
  pos : ∀ y, inR y → 0 ≤ rd st.1 y → y ≠ p → 0 < rd st.1 y
theorem mk_up {s : Int} {st : List Int × List Int} {y z : Int} (hl : st.1.length = 360) (hy : inR y) (hz : inR z) (hs : 0 < s) : (0 ≤ rd st.1 z → rd (mk s st y).1 z = rd st.1 z) ∧ 0 ≤ rd (mk s st y).1 y ∧ (0 ≤ rd (mk s st y).1 z → 0 ≤ rd st.1 z ∨ (z = y ∧ rd (mk s st y).1 z = s ∧ y ∈ (mk s st y).2)) ∧ ∀ v, v ∈ st.2 → v ∈ (mk s st y).2 := by
  unfold mk
  by_cases c : rd st.1 y < 0
  · rw [if_pos c]
    have e : ∀ z, inR z → rd (st.1.set y.toNat s) z = if z = y then s else rd st.1 z := fun z hz => rd_set hy.1 (by have := hy.2; omega) hz.1
    simp only [e z hz, e y hy, if_true]
    refine ⟨fun h => ?_, by omega, fun h => ?_, fun v hv => by simp [hv]⟩
    · rw [if_neg (fun h2 => by rw [h2] at h; omega)]
    · by_cases cz : z = y
      · exact .inr ⟨cz, by rw [if_pos cz], by simp⟩
      · rw [if_neg cz] at h; exact .inl h
  · rw [if_neg c]
    exact ⟨fun _ => rfl, by omega, fun h => .inl h, fun v hv => hv⟩
theorem mk_iv {A p s : Int} {st : List Int × List Int} {r : List Int} {y : Int} (h : Iv A p st r) (hA : 0 ≤ A) (hp : inR p) (hy : inR y) (hP : Pl A p y) (hs : 0 < s) : Iv A p (mk s st y) r := by
  have hl : (mk s st y).1.length = 360 := by unfold mk; split <;> simp [h.len]
  have up := fun z (hz : inR z) => mk_up (s := s) (st := st) (y := y) (z := z) h.len hy hz hs
  have keep : ∀ z, inR z → 0 ≤ rd st.1 z → 0 ≤ rd (mk s st y).1 z := fun z hz h0 => by rw [(up z hz).1 h0]; exact h0
  refine ⟨hl, ?_, ?_, ?_, ?_, ?_⟩
  · intro z hz
    have hz' : (inR z ∧ 0 ≤ rd st.1 z) ∨ z = y := by
      rcases hz with hz | hz
      · exact .inl (h.inr z (.inl hz))
      · unfold mk at hz
        by_cases c : rd st.1 y < 0
        · rw [if_pos c] at hz
          simp only [List.mem_append, List.mem_singleton] at hz
          rcases hz with hz | hz
          · exact .inl (h.inr z (.inr hz))
          · exact .inr hz
        · rw [if_neg c] at hz
          exact .inl (h.inr z (.inr hz))
    rcases hz' with ⟨a, b⟩ | rfl
    · exact ⟨a, keep z a b⟩
    · exact ⟨hy, (up z hy).2.1⟩
  · intro z hz h0
    rcases (up z hz).2.2.1 h0 with h1 | ⟨rfl, _, _⟩
    · exact h.sound z hz h1
    · exact hP
  · intro z hz h0
    rcases (up z hz).2.2.1 h0 with h1 | ⟨rfl, _, hm⟩
    · rcases h.closed z hz h1 with c | c | ⟨c, d⟩
      · exact .inl c
      · exact .inr (.inl ((up z hz).2.2.2 z c))
      · exact .inr (.inr ⟨keep _ (n1_in hz) c, keep _ (n2_in hA hz) d⟩)
    · exact .inr (.inl hm)
  · rw [(up p hp).1 (by rw [h.zero]; omega)]
    exact h.zero
  · intro z hz h0 hne
    rcases (up z hz).2.2.1 h0 with h1 | ⟨rfl, e, _⟩
    · rw [(up z hz).1 h1]
      exact h.pos z hz h1 hne
    · omega
theorem step_iv {A p s : Int} {st : List Int × List Int} {r : List Int} {x : Int} (h : Iv A p st (x :: r)) (hA : 0 ≤ A) (h360 : 2 * A ∣ 360) (hp : inR p) (hs : 0 < s) : Iv A p (mk s (mk s st (n1 x)) (n2 A x)) r := by
  obtain ⟨hx, hm⟩ := h.inr x (.inl (by simp))
  have hP := h.sound x hx hm
  have a := mk_iv (s := s) h hA hp (n1_in hx) (pl_n1 h360 hx hP) hs
  have b := mk_iv (s := s) a hA hp (n2_in hA hx) (pl_n2 hA h360 hx hP) hs
  refine ⟨b.len, fun y hy => b.inr y (hy.elim (fun c => .inl (by simp [c])) .inr), b.sound, ?_, b.zero, b.pos⟩
  intro y hy h0
  rcases b.closed y hy h0 with c | c | c
  · rcases List.mem_cons.1 c with c | c
    · subst c
      refine .inr (.inr ⟨?_, ?_⟩)
      · have u := (mk_up (s := s) (st := st) h.len (n1_in hx) (n1_in hx) hs).2.1
        rw [(mk_up (s := s) (st := mk s st (n1 y)) a.len (n2_in hA hx) (n1_in hx) hs).1 u]
        exact u
      · exact (mk_up (s := s) (st := mk s st (n1 y)) a.len (n2_in hA hx) (n2_in hA hx) hs).2.1
    · exact .inl c
  · exact .inr (.inl c)
  · exact .inr (.inr c)
theorem ringF_iv {A p s : Int} (hA : 0 ≤ A) (h360 : 2 * A ∣ 360) (hp : inR p) (hs : 0 < s) : ∀ (r : List Int) (st : List Int × List Int), Iv A p st r → Iv A p (ringF A s st r) [] := by
  intro r
  induction r with
  | nil => intro st h; exact h
  | cons x r ih => intro st h; exact ih _ (step_iv h hA h360 hp hs)
theorem rings_iv {A p : Int} (hA : 0 ≤ A) (h360 : 2 * A ∣ 360) (hp : inR p) : ∀ (n : Nat) (out ring : List Int) (s : Int), 0 < s → (ring ≠ [] → cnt out + 2 ≤ n) → Iv A p (out, []) ring → Iv A p (rings A n out ring s, []) [] := by
  intro n
  induction n with
  | zero =>
    intro out ring s _ hc h
    cases ring with
    | nil => exact h
    | cons x r => have := hc (by simp); omega
  | succ n ih =>
    intro out ring s hs hc h
    cases ring with
    | nil => exact h
    | cons x r =>
      have hin : ∀ y ∈ x :: r, inR y := fun y hy => (h.inr y (.inl hy)).1
      have hb := ringF_bf hA (by omega) (x :: r) (out, []) (cnt out) hin ⟨h.len, by simp, by simp⟩ (s := s)
      have hi := ringF_iv hA h360 hp hs (x :: r) (out, []) h
      simp only [rings]
      generalize ringF A s (out, []) (x :: r) = st at hb hi
      obtain ⟨o, q⟩ := st
      refine ih o q (s + 1) (by omega) (fun hne => ?_) ⟨hi.len, fun y hy => hi.inr y (.inr (hy.elim id (fun c => by simp at c))), hi.sound, fun y hy h0 => (hi.closed y hy h0).elim (fun c => by simp at c) (fun c => c.elim .inl (fun c => .inr (.inr c))), hi.zero, hi.pos⟩
      have := hc (by simp)
      have := hb.sum
      have : 0 < q.length := List.length_pos_iff.2 hne
      simp only at *
      omega
theorem rd_rep {y : Int} (h : inR y) : rd (List.replicate 360 (-1)) y = -1 := by
  obtain ⟨hl, e⟩ := rd_lt (l := List.replicate 360 (-1 : Int)) h.1 (by rw [List.length_replicate]; exact h.2)
  rw [e, List.getElem_replicate]
theorem start_iv {A p : Int} (hp : inR p) : Iv A p (((List.replicate 360 (-1)).set p.toNat 0), []) [p] := by
  have e : ∀ z, inR z → rd ((List.replicate 360 (-1)).set p.toNat 0) z = if z = p then 0 else -1 := by
    intro z hz
    rw [rd_set hp.1 (by rw [List.length_replicate]; exact hp.2) hz.1, rd_rep hz]
  have ep := e p hp
  rw [if_pos rfl] at ep
  refine ⟨by rw [List.length_set, List.length_replicate], ?_, ?_, ?_, ep, ?_⟩
  · intro y hy
    have : y = p := by simpa using hy
    subst this
    exact ⟨hp, by simp only [ep]; omega⟩
  · intro y hy h0
    by_cases c : y = p
    · subst c; exact .inl (by rw [Int.sub_self]; exact Int.dvd_zero _)
    · simp only [e y hy, if_neg c] at h0; omega
  · intro y hy h0
    by_cases c : y = p
    · subst c; exact .inl (by simp)
    · simp only [e y hy, if_neg c] at h0; omega
  · intro y hy h0 hne
    simp only [e y hy, if_neg hne] at h0; omega
theorem inR_mod (z : Int) : inR (z % 360) := ⟨Int.emod_nonneg _ (by omega), Int.emod_lt_of_pos _ (by omega)⟩
theorem mod_of {a b : Int} (hb : inR b) (q : Int) (h : a = b + 360 * q) : a % 360 = b := by
  rw [h, Int.add_mul_emod_self_left]
  exact Int.emod_eq_of_lt hb.1 hb.2
/-- All places of the set are marked. -/
theorem all_marked {A p : Int} {out : List Int} (hA : 0 < A) (h360 : 2 * A ∣ 360) (hp : inR p) (h : Iv A p (out, []) []) {y : Int} (hy : inR y) (hP : Pl A p y) : 0 ≤ rd out y := by
  have cl : ∀ z, inR z → 0 ≤ rd out z → 0 ≤ rd out (n1 z) ∧ 0 ≤ rd out (n2 A z) := by
    intro z hz h0
    rcases h.closed z hz h0 with c | c | c
    · simp at c
    · simp at c
    · exact c
  have fwd : ∀ j : Nat, 0 ≤ rd out ((p + 2 * A * j) % 360) := by
    intro j
    induction j with
    | zero =>
      rw [Int.natCast_zero, Int.mul_zero, Int.add_zero, Int.emod_eq_of_lt hp.1 hp.2]
      have := h.zero
      simp only at this
      omega
    | succ j ih =>
      have hi := inR_mod (p + 2 * A * j)
      have c1 := cl _ hi ih
      have c2 := cl _ (n1_in hi) c1.1
      obtain ⟨q1, e1⟩ := n1_q hi
      obtain ⟨q2, e2⟩ := n2_q (A := A) (by omega) (n1_in hi)
      have e3 := Int.emod_add_mul_ediv (p + 2 * A * j) 360
      have : (p + 2 * A * ((j + 1 : Nat) : Int)) % 360 = n2 A (n1 ((p + 2 * A * j) % 360)) := by
        refine mod_of (n2_in (by omega) (n1_in hi)) ((p + 2 * A * j) / 360 + q1 - q2) ?_
        have e4 : 2 * A * ((j + 1 : Nat) : Int) = 2 * A * j + 2 * A := by rw [Int.natCast_add, Int.mul_add]; omega
        rw [e2, e1, e4]
        omega
      rw [this]
      exact c2.2
  have main : ∀ y, inR y → 2 * A ∣ y - p → 0 ≤ rd out y := by
    intro y hy hd
    obtain ⟨j, hj⟩ := hd
    obtain ⟨c, hc⟩ := h360
    have e : 2 * A * (j + c) = y - p + 360 := by rw [Int.mul_add, ← hj, ← hc]
    have hpos : 0 ≤ j + c := by
      rcases Int.lt_or_le (j + c) 0 with g | g
      · have h1 : 2 * A * (j + c) < 0 := Int.mul_neg_of_pos_of_neg (by omega) g
        have := hy.1
        have := hp.2
        omega
      · exact g
    have := fwd (j + c).toNat
    rw [Int.toNat_of_nonneg hpos, e, mod_of hy 1 (by omega)] at this
    exact this
  rcases hP with hd | hd
  · exact main y hy hd
  · obtain ⟨q, e⟩ := n1_q hy
    have hn := n1_in hy
    have d := Int.dvd_trans h360 (Int.dvd_mul_right 360 q)
    have h1 : 2 * A ∣ n1 y - p := by
      rw [e, show 360 * q - y - p = 360 * q - (y + p) by omega]
      exact Int.dvd_sub d hd
    have h2 := (cl _ hn (main _ hn h1)).1
    obtain ⟨q2, e2⟩ := n1_q hn
    have hb := n1_in hn
    have : n1 (n1 y) = y := by
      have a1 := hb.1
      have a2 := hb.2
      have b1 := hy.1
      have b2 := hy.2
      omega
    rw [this] at h2
    exact h2
theorem pos_iff {A p : Int} {out : List Int} (hA : 0 < A) (h360 : 2 * A ∣ 360) (hp : inR p) (h : Iv A p (out, []) []) {y : Int} (hy : inR y) : 0 < rd out y ↔ Pl A p y ∧ y ≠ p := by
  constructor
  · intro h0
    refine ⟨h.sound y hy (show 0 ≤ rd out y by omega), fun e => ?_⟩
    have := h.zero
    rw [e] at h0
    simp only at this
    omega
  · rintro ⟨a, b⟩
    exact h.pos y hy (all_marked hA h360 hp h hy a) b

theorem images_l0 (out : List Int) (hl : out.length = 360) : ∀ (d k i : Nat), i + d = 360 → d < k →
    spec_miImages.l0 k (((List.range i).filter fun n : Nat => decide (0 < rd out n)).map fun n : Nat => (n : Int)) out 360 i = some (((List.range 360).filter fun n : Nat => decide (0 < rd out n)).map fun n : Nat => (n : Int)) := by
  intro d
  induction d with
  | zero =>
    intro k i hi hk
    obtain ⟨k, rfl⟩ : ∃ m, k = m + 1 := ⟨k - 1, by omega⟩
    obtain rfl : i = 360 := by omega
    rw [spec_miImages.l0]
    exact if_neg (by omega)
  | succ d ih =>
    intro k i hi hk
    obtain ⟨k, rfl⟩ : ∃ m, k = m + 1 := ⟨k - 1, by omega⟩
    have h1 : (i : Int) < 360 := by omega
    have h0 : (0 : Int) ≤ i := by omega
    have h2 : (i : Int) < (out.length : Int) := by omega
    have wi : wrap64 ((i : Int) + 1) = ((i + 1 : Nat) : Int) := by rw [wrap_id (by omega) (by omega)]; omega
    have hln : (((List.range i).filter fun n : Nat => decide (0 < rd out n)).map fun n : Nat => (n : Int)).length < 17592186044416 := by
      have := List.length_filter_le (fun n : Nat => decide (0 < rd out n)) (List.range i)
      rw [List.length_range] at this
      rw [List.length_map]
      omega
    rw [spec_miImages.l0]
    refine (if_pos h1).trans ((if_pos h0).trans ((if_pos h2).trans ?_))
    rw [wi]
    have hi2 := ih k (i + 1) (by omega) (by omega)
    rw [List.range_succ, List.filter_append, List.map_append] at hi2
    by_cases c : rd out (i : Int) > 0
    · refine (if_pos c).trans ((if_pos hln).trans ?_)
      rw [← hi2, List.filter_cons_of_pos (by simpa using c)]
      rfl
    · refine (if_neg c).trans ?_
      rw [← hi2, List.filter_cons_of_neg (by simpa using c)]
      rw [List.filter_nil, List.map_nil, List.append_nil]
theorem miImages_eq (k : Nat) (hk : 4000 ≤ k) {A p : Int} (hA : 0 ≤ A ∧ A ≤ 90) (hp : inR p) : ∃ out, rings A 400 (start p) [p] 1 = out ∧ out.length = 360 ∧ spec_miSteps.f k A p = some out ∧ spec_miImages.f k A p = some (((List.range 360).filter fun n : Nat => decide (0 < rd out n)).map fun n : Nat => (n : Int)) := by
  refine ⟨_, rfl, ?_, miSteps_eq k hk hA hp, ?_⟩
  · have : ∀ (n : Nat) (out ring : List Int) (s : Int), out.length = 360 → (rings A n out ring s).length = 360 := by
      have m : ∀ (s : Int) (st : List Int × List Int) (y : Int), st.1.length = 360 → (mk s st y).1.length = 360 := fun s st y h => by unfold mk; split <;> simp [h]
      have r : ∀ (s : Int) (r : List Int) (st : List Int × List Int), st.1.length = 360 → (ringF A s st r).1.length = 360 := by
        intro s r
        induction r with
        | nil => intro st h; exact h
        | cons x r ih => intro st h; exact ih _ (m _ _ _ (m _ _ _ h))
      intro n
      induction n with
      | zero => intro out ring s h; exact h
      | succ n ih =>
        intro out ring s h
        cases ring with
        | nil => exact h
        | cons x q => exact ih _ _ _ (r _ _ _ h)
    exact this 400 _ _ _ (by unfold start; rw [List.length_set, List.length_replicate])
  · unfold spec_miImages.f
    rw [miSteps_eq k hk hA hp]
    have hl : (rings A 400 (start p) [p] 1).length = 360 := by
      have hc := start_cnt hp
      have := (l1_run hA 400 (start p) [p] 1 4000 (by unfold start; rw [List.length_set, List.length_replicate]) (by simpa using hp) (by simp) (by omega) (fun _ => by omega) (by omega) (by omega) (by simp only [List.length_cons, List.length_nil]; omega))
      have m : ∀ (s : Int) (st : List Int × List Int) (y : Int), st.1.length = 360 → (mk s st y).1.length = 360 := fun s st y h => by unfold mk; split <;> simp [h]
      have r : ∀ (s : Int) (r : List Int) (st : List Int × List Int), st.1.length = 360 → (ringF A s st r).1.length = 360 := by
        intro s r
        induction r with
        | nil => intro st h; exact h
        | cons x r ih => intro st h; exact ih _ (m _ _ _ (m _ _ _ h))
      have : ∀ (n : Nat) (out ring : List Int) (s : Int), out.length = 360 → (rings A n out ring s).length = 360 := by
        intro n
        induction n with
        | zero => intro out ring s h; exact h
        | succ n ih =>
          intro out ring s h
          cases ring with
          | nil => exact h
          | cons x q => exact ih _ _ _ (r _ _ _ h)
      exact this 400 _ _ _ (by unfold start; rw [List.length_set, List.length_replicate])
    simp only [Option.bind_some]
    rw [hl]
    exact images_l0 _ hl 360 k 0 (by omega) (by omega)

theorem isWedgeAngle_eq (a : Int) : impl_isWedgeAngle.f a = some (decide ((1 ≤ a ∧ a ≤ 90) ∧ (180 : Int) % a = 0)) := by
  unfold impl_isWedgeAngle.f
  rw [within_eq]
  by_cases h : 1 ≤ a ∧ a ≤ 90
  · rw [decide_eq_true h]
    simp only [Option.bind_some, if_true]
    rw [if_neg (by omega)]
    by_cases h2 : (180 : Int) % a = 0 <;> simp [h, h2]
  · rw [decide_eq_false h]
    simp [h]
def wd (a p : Int) : Bool := decide ((1 ≤ a ∧ a ≤ 90) ∧ (180 : Int) % a = 0 ∧ 1 ≤ p ∧ p ≤ a - 1)
theorem isWedge_eq (a p : Int) : impl_isWedge.f a p = some (wd a p) := by
  unfold impl_isWedge.f
  rw [isWedgeAngle_eq]
  by_cases h : 1 ≤ a ∧ a ≤ 90
  · have w : wrap64 (a - 1) = a - 1 := by unfold wrap64; omega
    rw [w]
    by_cases h2 : (180 : Int) % a = 0 <;> by_cases h3 : 1 ≤ p ∧ p ≤ a - 1 <;> simp [h, h2, h3, within_eq, wd]
  · simp [h, wd]
theorem miWedge_eq (a p : Int) : spec_miWedge.f a p = some (wd a p) := by
  unfold spec_miWedge.f
  rw [l1In_eq]
  by_cases h : 1 ≤ a ∧ a ≤ 90
  · have w : wrap64 (a - 1) = a - 1 := by unfold wrap64; omega
    rw [w, decide_eq_true h]
    simp only [Option.bind_some, if_true]
    rw [if_neg (by omega)]
    by_cases h2 : (180 : Int) % a = 0 <;> by_cases h3 : 1 ≤ p ∧ p ≤ a - 1 <;> simp [h, h2, h3, l1In_eq, wd]
  · simp [h, wd]
theorem wd_of {a p : Int} (h : wd a p = true) : (1 ≤ a ∧ a ≤ 90) ∧ (180 : Int) % a = 0 ∧ 1 ≤ p ∧ p ≤ a - 1 := of_decide_eq_true h

theorem mk_pair (s : Int) (out r nxt : List Int) (y : Int) : mk s (out, r ++ nxt) y = ((mk s (out, nxt) y).1, r ++ (mk s (out, nxt) y).2) := by
  unfold mk
  by_cases c : rd out y < 0
  · simp only [if_pos c, List.append_assoc]
  · simp only [if_neg c]
/-- The queue in the midst of a ring: what is left of the ring, what was added. -/
structure Qv (s : Int) (out r nxt : List Int) : Prop where
  len : out.length = 360
  ring : ∀ y ∈ r, inR y ∧ rd out y = s - 1
  more : ∀ y ∈ nxt, inR y ∧ rd out y = s
theorem mk_qv {s : Int} {out r nxt : List Int} {y : Int} (h : Qv s out r nxt) (hy : inR y) (hs : 1 ≤ s) : Qv s (mk s (out, nxt) y).1 r (mk s (out, nxt) y).2 := by
  have up := fun z (hz : inR z) => mk_up (s := s) (st := (out, nxt)) (y := y) (z := z) h.len hy hz (by omega)
  refine ⟨by unfold mk; split <;> simp [h.len], ?_, ?_⟩
  · intro z hz
    obtain ⟨a, b⟩ := h.ring z hz
    exact ⟨a, by rw [(up z a).1 (by simp only; omega)]; exact b⟩
  · intro z hz
    by_cases c : z ∈ nxt
    · obtain ⟨a, b⟩ := h.more z c
      exact ⟨a, by rw [(up z a).1 (by simp only; omega)]; exact b⟩
    · unfold mk at hz ⊢
      by_cases d : rd out y < 0
      · simp only [if_pos d, List.mem_append, List.mem_singleton] at hz ⊢
        rcases hz with hz | rfl
        · exact absurd hz c
        · exact ⟨hy, by rw [rd_set hy.1 (by have := h.len; have := hy.2; omega) hy.1, if_pos rfl]⟩
      · simp only [if_neg d] at hz
        exact absurd hz c
theorem q_step (k : Nat) {A s : Int} {out r nxt : List Int} {x : Int} {m : Nat} (hA : 0 ≤ A ∧ A ≤ 90) (h : Qv s out (x :: r) nxt) (hb : Bf (out, nxt) m) (hm : m ≤ 360) (hr : r.length ≤ 1000) (hs : 1 ≤ s) (hs2 : s ≤ 1000) :
    impl_wedgeSteps.l0 (k + 4) A out (x :: r ++ nxt) = impl_wedgeSteps.l0 k A (mk s (mk s (out, nxt) (n1 x)) (n2 A x)).1 (r ++ (mk s (mk s (out, nxt) (n1 x)) (n2 A x)).2) := by
  obtain ⟨hx, hv⟩ := h.ring x (by simp)
  obtain ⟨x0, x1⟩ := hx
  have i1 := n1_in ⟨x0, x1⟩
  have i2 := n2_in hA.1 ⟨x0, x1⟩
  have w1 : wrap64 (-x) = -x := wrap_id (by omega) (by omega)
  have w2 : wrap64 (wrap64 (2 * A) - x) = 2 * A - x := by rw [wrap_id (n := 2 * A) (by omega) (by omega)]; exact wrap_id (by omega) (by omega)
  have e1 : Int.tmod (wrap64 (-x + 360)) 360 = n1 x := by rw [wrap_id (by omega) (by omega)]; unfold n1; rw [show -x + 360 = 360 - x by omega]
  have e2 : Int.tmod (wrap64 (2 * A - x + 360)) 360 = n2 A x := by rw [wrap_id (by omega) (by omega)]; rfl
  have v0 : wrap64 ((0 : Int) + 1) = 1 := wrap_id (by omega) (by omega)
  have v1 : wrap64 ((1 : Int) + 1) = 2 := wrap_id (by omega) (by omega)
  have vs : wrap64 (s - 1 + 1) = s := by rw [wrap_id (by omega) (by omega)]; omega
  have hx0 : ∀ t : List Int, rd (x :: t) 0 = x := fun t => rfl
  have lq : (((x :: r ++ nxt).length : Nat) : Int) > 0 := by simp only [List.cons_append, List.length_cons]; omega
  have lq' : (0 : Int) < (((x :: r ++ nxt).length : Nat) : Int) := lq
  have lp : ((([-x, 2 * A - x] : List Int).length : Nat) : Int) = 2 := rfl
  have q0 : rd [-x, 2 * A - x] 0 = -x := rfl
  have q1 : rd [-x, 2 * A - x] 1 = 2 * A - x := rfl
  have hn1 : nxt.length ≤ 360 := by have h9 : cnt out + nxt.length = m := hb.sum; omega
  have hl360 : (out.length : Int) = 360 := by rw [h.len]; rfl
  generalize hy1 : n1 x = y1 at i1 e1 ⊢
  generalize hy2 : n2 A x = y2 at i2 e2 ⊢
  -- one of both
  have one : ∀ (k : Nat) (out nxt : List Int) (j p y : Int), Qv s out (x :: r) nxt → nxt.length ≤ 1000 → 0 ≤ j → j < 2 → rd [-x, 2 * A - x] j = p → Int.tmod (wrap64 (p + 360)) 360 = y → inR y →
      impl_wedgeSteps.l1 (k + 1) A out (x :: r ++ nxt) [-x, 2 * A - x] 2 j = impl_wedgeSteps.l1 k A (mk s (out, nxt) y).1 (x :: r ++ (mk s (out, nxt) y).2) [-x, 2 * A - x] 2 (wrap64 (j + 1)) := by
    intro k out nxt j p y hq hn hj0 hj1 hp hy hin
    have hln : (x :: r ++ nxt).length < 17592186044416 := by simp only [List.cons_append, List.length_cons, List.length_append]; omega
    have hgt : (0 : Int) < (((x :: r ++ nxt).length : Nat) : Int) := by simp only [List.cons_append, List.length_cons]; omega
    have hx2 : rd (x :: r ++ nxt) 0 = x := rfl
    have hxl : x < (out.length : Int) := by rw [hq.len]; exact x1
    have hyl : y < (out.length : Int) := by rw [hq.len]; exact hin.2
    have hrx : wrap64 (rd out x + 1) = s := by rw [(hq.ring x (by simp)).2]; exact vs
    rw [impl_wedgeSteps.l1, lp, hp, hy, hx2, hrx]
    refine (if_pos hj1).trans ((if_pos hj0).trans ((if_pos hj1).trans ((if_pos hin.1).trans ((if_pos hyl).trans ?_))))
    unfold mk
    by_cases c : rd out y < 0
    · refine (if_pos c).trans ((if_pos hgt).trans ((if_pos x0).trans ((if_pos hxl).trans ((if_pos hln).trans ?_))))
      simp only [if_pos c, List.append_assoc]
    · refine (if_neg c).trans ?_
      simp only [if_neg c]
  have hq1 := mk_qv h i1 hs
  have hb1 := mk_bf (s := s) hb i1 (by omega)
  have hn2 : (mk s (out, nxt) y1).2.length ≤ 1000 := by have := hb1.sum; omega
  have ld : ∀ t : List Int, (1 : Int) ≤ (((x :: r ++ t).length : Nat) : Int) := fun t => by simp only [List.cons_append, List.length_cons]; omega
  have dr : ∀ t : List Int, (x :: r ++ t).drop (1 : Int).toNat = r ++ t := fun t => rfl
  rw [impl_wedgeSteps.l0]
  refine (if_pos lq).trans ((if_pos lq').trans ?_)
  rw [show rd (x :: r ++ nxt) 0 = x from rfl, w1, w2]
  simp only [Option.bind_some]
  rw [lp, one (k + 2) out nxt 0 (-x) y1 h (by omega) (by omega) (by omega) q0 e1 i1, v0, one (k + 1) _ _ 1 (2 * A - x) y2 hq1 hn2 (by omega) (by omega) q1 e2 i2, v1, impl_wedgeSteps.l1]
  refine (if_neg (by omega)).trans ((if_pos (ld _)).trans ?_)
  rw [dr]
theorem q_ring {A s : Int} (hA : 0 ≤ A ∧ A ≤ 90) (hs : 1 ≤ s) (hs2 : s ≤ 1000) : ∀ (r : List Int) (k : Nat) (st : List Int × List Int) (m : Nat), Qv s st.1 r st.2 → Bf st m → m ≤ 360 → r.length ≤ 1000 →
    impl_wedgeSteps.l0 (k + 4 * r.length) A st.1 (r ++ st.2) = impl_wedgeSteps.l0 k A (ringF A s st r).1 (ringF A s st r).2 ∧ Qv s (ringF A s st r).1 [] (ringF A s st r).2 := by
  intro r
  induction r with
  | nil => intro k st m h _ _ _; exact ⟨rfl, h⟩
  | cons x r ih =>
    intro k st m h hb hm hl
    have hx := (h.ring x (by simp)).1
    simp only [List.length_cons] at hl
    have hq1 := mk_qv h (n1_in hx) hs
    have hq2 := mk_qv hq1 (n2_in hA.1 hx) hs
    have hb2 := mk_bf (s := s) (mk_bf (s := s) hb (n1_in hx) (by omega)) (n2_in hA.1 hx) (by omega)
    have hq3 : Qv s (mk s (mk s st (n1 x)) (n2 A x)).1 r (mk s (mk s st (n1 x)) (n2 A x)).2 := ⟨hq2.len, fun y hy => hq2.ring y (by simp [hy]), hq2.more⟩
    obtain ⟨a, b⟩ := ih k _ m hq3 hb2 hm (by omega)
    refine ⟨?_, b⟩
    rw [show k + 4 * (x :: r).length = k + 4 * r.length + 4 by rw [List.length_cons]; omega]
    exact (q_step (k + 4 * r.length) hA h hb hm (by omega) hs hs2).trans a
theorem q_run {A : Int} (hA : 0 ≤ A ∧ A ≤ 90) : ∀ (n : Nat) (out ring : List Int) (s : Int) (k : Nat), Qv s out ring [] → ring.length ≤ 1000 → 1 ≤ s → (ring ≠ [] → s + cnt out ≤ 400 ∧ cnt out + 2 ≤ n) → cnt out ≤ 360 → 1 ≤ n → 6 * (ring.length + cnt out) + 10 ≤ k →
    impl_wedgeSteps.l0 k A out ring = some (rings A n out ring s) := by
  intro n
  induction n with
  | zero => intro out ring s k _ _ _ _ _ h; omega
  | succ n ih =>
    intro out ring s k hq hsz hs hc hm _ hk
    cases ring with
    | nil =>
      obtain ⟨k, rfl⟩ : ∃ q, k = q + 1 := ⟨k - 1, by omega⟩
      rw [impl_wedgeSteps.l0]
      exact if_neg (by simp)
    | cons x r =>
      obtain ⟨c1, c2⟩ := hc (by simp)
      have hb0 : Bf (out, []) (cnt out) := ⟨hq.len, by simp, by simp⟩
      have hb := ringF_bf hA.1 (by omega) (x :: r) (out, []) (cnt out) (fun y hy => (hq.ring y hy).1) hb0 (s := s)
      obtain ⟨q, hk2⟩ : ∃ q, k = q + 4 * (x :: r).length := ⟨k - 4 * (x :: r).length, by simp only [List.length_cons] at hk ⊢; omega⟩
      obtain ⟨e, hq2⟩ := q_ring hA hs (by omega) (x :: r) q (out, []) (cnt out) hq hb0 hm hsz
      rw [List.append_nil] at e
      rw [hk2, e]
      simp only [rings]
      generalize ringF A s (out, []) (x :: r) = st at hb hq2
      obtain ⟨o, p⟩ := st
      obtain ⟨b1, b2, b3⟩ := hb
      simp only at b1 b2 b3 hq2 ⊢
      simp only [List.length_cons] at hk hk2
      refine ih o p (s + 1) q ⟨b1, fun y hy => ⟨(hq2.more y hy).1, by rw [(hq2.more y hy).2]; omega⟩, by simp⟩ (by omega) (by omega) (fun hne => ?_) (by omega) (by omega) (by omega)
      have : 0 < p.length := List.length_pos_iff.2 hne
      exact ⟨by omega, by omega⟩
/-- The program's steps are the reference's. -/
theorem wedgeSteps_eq (k : Nat) (hk : 4000 ≤ k) {A p : Int} (hA : 0 ≤ A ∧ A ≤ 90) (hp : inR p) : impl_wedgeSteps.f k A p = some (rings A 400 (start p) [p] 1) := by
  have hc := start_cnt hp
  have hl : (start p).length = 360 := by unfold start; rw [List.length_set, List.length_replicate]
  have hrp : rd (start p) p = 0 := by
    unfold start
    rw [rd_set hp.1 (by rw [List.length_replicate]; exact hp.2) hp.1, if_pos rfl]
  have hq : Qv 1 (start p) [p] [] := ⟨hl, fun y hy => by
    have : y = p := by simpa using hy
    subst this
    exact ⟨hp, by rw [hrp]; rfl⟩, by simp⟩
  have e : slices_Repeat_int_int.f [-1] 360 = some (List.replicate 360 (-1)) := by
    unfold slices_Repeat_int_int.f
    rw [if_pos ⟨rfl, rfl⟩]
    rfl
  unfold impl_wedgeSteps.f
  rw [e]
  simp only [Option.bind_some]
  refine (if_pos hp.1).trans ((if_pos (by rw [List.length_replicate]; exact hp.2)).trans ?_)
  exact q_run hA 400 (start p) [p] 1 k hq (by simp) (by omega) (fun _ => by omega) (by omega) (by omega) (by simp only [List.length_cons, List.length_nil]; omega)
theorem rings_len {A p : Int} (hp : inR p) : (rings A 400 (start p) [p] 1).length = 360 := by
  have m : ∀ (s : Int) (st : List Int × List Int) (y : Int), st.1.length = 360 → (mk s st y).1.length = 360 := fun s st y h => by unfold mk; split <;> simp [h]
  have r : ∀ (s : Int) (r : List Int) (st : List Int × List Int), st.1.length = 360 → (ringF A s st r).1.length = 360 := by
    intro s r
    induction r with
    | nil => intro st h; exact h
    | cons x r ih => intro st h; exact ih _ (m _ _ _ (m _ _ _ h))
  have : ∀ (n : Nat) (out ring : List Int) (s : Int), out.length = 360 → (rings A n out ring s).length = 360 := by
    intro n
    induction n with
    | zero => intro out ring s h; exact h
    | succ n ih =>
      intro out ring s h
      cases ring with
      | nil => exact h
      | cons x q => exact ih _ _ _ (r _ _ _ h)
  exact this 400 _ _ _ (by unfold start; rw [List.length_set, List.length_replicate])

theorem impl_l0 (out : List Int) (hl : out.length = 360) : ∀ (d k i : Nat), i + d = 360 → d < k →
    impl_WedgeImages.l0 k (((List.range i).filter fun n : Nat => decide (0 < rd out n)).map fun n : Nat => (n : Int)) out 360 i = some (((List.range 360).filter fun n : Nat => decide (0 < rd out n)).map fun n : Nat => (n : Int), true) := by
  intro d
  induction d with
  | zero =>
    intro k i hi hk
    obtain ⟨k, rfl⟩ : ∃ m, k = m + 1 := ⟨k - 1, by omega⟩
    obtain rfl : i = 360 := by omega
    rw [impl_WedgeImages.l0]
    exact if_neg (by omega)
  | succ d ih =>
    intro k i hi hk
    obtain ⟨k, rfl⟩ : ∃ m, k = m + 1 := ⟨k - 1, by omega⟩
    have h1 : (i : Int) < 360 := by omega
    have h0 : (0 : Int) ≤ i := by omega
    have h2 : (i : Int) < (out.length : Int) := by omega
    have wi : wrap64 ((i : Int) + 1) = ((i + 1 : Nat) : Int) := by rw [wrap_id (by omega) (by omega)]; omega
    have hln : (((List.range i).filter fun n : Nat => decide (0 < rd out n)).map fun n : Nat => (n : Int)).length < 17592186044416 := by
      have := List.length_filter_le (fun n : Nat => decide (0 < rd out n)) (List.range i)
      rw [List.length_range] at this
      rw [List.length_map]
      omega
    rw [impl_WedgeImages.l0]
    refine (if_pos h1).trans ((if_pos h0).trans ((if_pos h2).trans ?_))
    rw [wi]
    have hi2 := ih k (i + 1) (by omega) (by omega)
    rw [List.range_succ, List.filter_append, List.map_append] at hi2
    by_cases c : rd out (i : Int) > 0
    · refine (if_pos c).trans ((if_pos hln).trans ?_)
      rw [← hi2, List.filter_cons_of_pos (by simpa using c)]
      rfl
    · refine (if_neg c).trans ?_
      rw [← hi2, List.filter_cons_of_neg (by simpa using c)]
      rw [List.filter_nil, List.map_nil, List.append_nil]
theorem both (a p : Int) : ∃ l b, l.length ≤ 360 ∧ (∀ k, 5000 ≤ k → impl_WedgeImages.f k a p = some (l, b)) ∧ (∀ k, 5000 ≤ k → spec_WedgeImages.f k a p = some (l, b)) := by
  cases h : wd a p with
  | false =>
    refine ⟨[], false, by simp, fun k _ => ?_, fun k _ => ?_⟩
    · unfold impl_WedgeImages.f
      rw [isWedge_eq, h]
      simp
    · unfold spec_WedgeImages.f
      rw [miWedge_eq, h]
      simp
  | true =>
    obtain ⟨h1, h2, h3⟩ := wd_of h
    have hA : 0 ≤ a ∧ a ≤ 90 := ⟨by omega, by omega⟩
    have hp : inR p := ⟨by omega, by omega⟩
    refine ⟨((List.range 360).filter fun n : Nat => decide (0 < rd (rings a 400 (start p) [p] 1) n)).map fun n : Nat => (n : Int), true, ?_, fun k hk => ?_, fun k hk => ?_⟩
    · rw [List.length_map]
      exact Nat.le_trans (List.length_filter_le _ _) (by rw [List.length_range]; exact Nat.le_refl _)
    · unfold impl_WedgeImages.f
      rw [isWedge_eq, h, wedgeSteps_eq k (by omega) hA hp]
      simp only [Option.bind_some, if_true]
      have hl := rings_len (A := a) hp
      rw [hl]
      exact impl_l0 _ hl 360 k 0 (by omega) (by omega)
    · obtain ⟨out, ho, _, _, hi⟩ := miImages_eq k (by omega) hA hp
      unfold spec_WedgeImages.f
      rw [miWedge_eq, h, ho, hi]
      simp only [Option.bind_some, if_true]
theorem main : laws_FnExactWedgeImages.Pure := by
  intro a p _ _
  obtain ⟨l, b, hl, hi, hs⟩ := both a p
  obtain ⟨k, hk⟩ : ∃ k : Nat, 6000 ≤ k := ⟨6000, Nat.le_refl _⟩
  refine ⟨k + 2, ?_⟩
  simp only [laws_FnExactWedgeImages.f, hs (k + 2) (by omega), hi (k + 2) (by omega), Option.bind_some]
  rw [eqIntS_same (k + 2) l (by omega) (by omega)]
  simp only [Option.bind_some, if_true, bne_self_eq_false, laws_FnExactWedgeImages.j0, Bool.false_eq_true, if_false]
  rw [mark_eq (k + 1) l 1 (by omega) (by omega) (by omega) (by omega)]
  simp only [Option.bind_some]
  rw [held_eq (k + 1) l.length 1 (by omega) (by omega) (by omega) (by omega)]
  simp only [Option.bind_some, hi (k + 1) (by omega)]
  rw [if_neg (by omega), if_pos trivial, eqIntS_same (k + 1) l (by omega) (by omega)]
  simp only [Option.bind_some, if_true, bne_self_eq_false, laws_FnExactWedgeImages.j1, Bool.false_eq_true, if_false]
  rw [held_eq k l.length 1 (by omega) (by omega) (by omega) (by omega)]
  simp only [Option.bind_some]
  rw [if_neg (by omega)]
  rfl
end LFnExactWedgeImages

theorem FnExactWedgeImages : laws_FnExactWedgeImages.Pure := LFnExactWedgeImages.main

end Go.Proofs.Ytgepcafeldhncaa.Pure
