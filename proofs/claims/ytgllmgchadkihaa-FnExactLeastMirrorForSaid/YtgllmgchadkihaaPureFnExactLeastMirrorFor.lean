/- For every list of numbers and every list of such lists the program's LeastMirrorFor and the reference's give the same, and the lists are left as they were; no condition beyond the numbers' kinds. -/
import Derived.Test.YtgllmgchadkihaaPFnExactLeastMirrorForx3
namespace Go.Proofs.Ytgllmgchadkihaa.Pure
open Go.RowKit Go.Proofs.Ytgllmgchadkihaa.PFnExactLeastMirrorFor Go.Proofs.YtgllmgchadkihaaW.PrintWords Go.Proofs.YtgllmgchadkihaaW.PrintLast
set_option linter.unusedVariables false
set_option linter.unusedSimpArgs false

namespace LFnExactLeastMirrorFor
theorem within_eq (a b c : Int) : impl_within.f a b c = some (decide (b ≤ a ∧ a ≤ c)) := by
  by_cases h1 : b ≤ a <;> by_cases h2 : a ≤ c <;> simp [impl_within.f, h1, h2]

theorem l1In_eq (a b c : Int) : spec_l1In.f a b c = some (decide (b ≤ a ∧ a ≤ c)) := by
  by_cases h1 : b ≤ a <;> by_cases h2 : a ≤ c <;> simp [spec_l1In.f, h1, h2]

theorem wrap_id {n : Int} (h0 : -9223372036854775808 ≤ n) (h1 : n ≤ 9223372036854775807) : wrap64 n = n := by
  unfold wrap64
  omega

theorem tdiv_le (a b : Int) : (a.tdiv b).natAbs ≤ a.natAbs := by
  rw [Int.natAbs_tdiv]
  exact Nat.div_le_self _ _
theorem wrap_tdiv {a b : Int} (h : a.natAbs ≤ 4611686018427387904) : wrap64 (a.tdiv b) = a.tdiv b := by
  have := tdiv_le a b
  exact wrap_id (by omega) (by omega)

theorem gcd_step2 (a b : Int) : Nat.gcd b.natAbs (a.tmod b).natAbs = Nat.gcd a.natAbs b.natAbs := by
  rw [Int.natAbs_tmod, Nat.gcd_comm a.natAbs, Nat.gcd_rec b.natAbs a.natAbs, Nat.gcd_comm]

theorem clLow_l0 (d : Nat) : ∀ (k : Nat) (x y a b : Int), b.natAbs ≤ d → d < k → 0 ≤ a → 0 ≤ b → (a ≠ 0 ∨ b ≠ 0) → x.natAbs ≤ 4611686018427387904 → y.natAbs ≤ 4611686018427387904 →
    spec_clLow.l0 k x y a b = some (x.tdiv (Nat.gcd a.natAbs b.natAbs : Nat), y.tdiv (Nat.gcd a.natAbs b.natAbs : Nat)) := by
  induction d with
  | zero =>
    intro k x y a b hb hk ha hb' hn hx hy
    obtain ⟨k, rfl⟩ : ∃ m, k = m + 1 := ⟨k - 1, by omega⟩
    have h0 : b = 0 := by omega
    simp only [spec_clLow.l0]
    rw [if_neg (by omega), if_neg (by omega), wrap_tdiv hx, wrap_tdiv hy]
    subst h0
    simp only [Int.natAbs_zero, Nat.gcd_zero_right]
    rw [show ((a.natAbs : Nat) : Int) = a by omega]
  | succ d ih =>
    intro k x y a b hb hk ha hb' hn hx hy
    obtain ⟨k, rfl⟩ : ∃ m, k = m + 1 := ⟨k - 1, by omega⟩
    simp only [spec_clLow.l0]
    by_cases h0 : b = 0
    · subst h0
      rw [if_neg (by omega), if_neg (by omega), wrap_tdiv hx, wrap_tdiv hy]
      simp only [Int.natAbs_zero, Nat.gcd_zero_right]
      rw [show ((a.natAbs : Nat) : Int) = a by omega]
    · have hm : (a.tmod b).natAbs < b.natAbs := by
        rw [Int.natAbs_tmod]
        exact Nat.mod_lt _ (by omega)
      rw [if_pos (by omega), if_neg h0, ih k x y b (a.tmod b) (by omega) (by omega) hb' (Int.tmod_nonneg _ ha) (by omega) hx hy, gcd_step2]
theorem clLow_eq (k : Nat) (a b : Int) (hk : b.natAbs < k) (h0 : 0 ≤ a) (hb0 : 0 < b) (ha : a ≤ 4611686018427387904) (hb : b ≤ 4611686018427387904) :
    spec_clLow.f k a b = some (a.tdiv (Nat.gcd a.natAbs b.natAbs : Nat), b.tdiv (Nat.gcd a.natAbs b.natAbs : Nat)) :=
  clLow_l0 b.natAbs k a b a b (Nat.le_refl _) hk h0 (by omega) (by omega) (by omega) (by omega)

theorem eqIntS_l0 (l : List Int) (hl : l.length ≤ 1000000000) (d : Nat) : ∀ (k i : Nat), i + d = l.length → d < k → laws_eqIntS.l0 k l l i = some true := by
  induction d with
  | zero =>
    intro k i hi hk
    obtain ⟨k, rfl⟩ : ∃ m, k = m + 1 := ⟨k - 1, by omega⟩
    simp only [laws_eqIntS.l0]
    rw [if_neg (by omega)]
  | succ d ih =>
    intro k i hi hk
    obtain ⟨k, rfl⟩ : ∃ m, k = m + 1 := ⟨k - 1, by omega⟩
    have e : wrap64 ((i : Int) + 1) = ((i + 1 : Nat) : Int) := by rw [wrap_id (by omega) (by omega)]; omega
    simp only [laws_eqIntS.l0]
    rw [if_pos (by omega), if_pos (by omega), if_pos (by omega)]
    simp only [if_true]
    rw [e]
    exact ih k (i + 1) (by omega) (by omega)
theorem eqIntS_same (k : Nat) (l : List Int) (hl : l.length ≤ 1000000000) (hk : l.length < k) : laws_eqIntS.f k l l = some true := by
  unfold laws_eqIntS.f
  rw [if_pos rfl]
  exact eqIntS_l0 l hl l.length k 0 (by omega) hk

theorem toIntS_l0 (rest : List Int) : ∀ (pre : List Int) (k : Nat), rest.length < k → pre.length + rest.length ≤ 1000000000 →
    laws_toIntS.l0 k (pre ++ rest) (pre ++ List.replicate rest.length 0) pre.length = some (pre ++ rest) := by
  induction rest with
  | nil =>
    intro pre k hk hb
    obtain ⟨k, rfl⟩ : ∃ m, k = m + 1 := ⟨k - 1, by simp at hk; omega⟩
    simp only [laws_toIntS.l0]
    rw [if_neg (by simp)]
    simp
  | cons y ys ih =>
    intro pre k hk hb
    simp only [List.length_cons] at hk hb
    obtain ⟨k, rfl⟩ : ∃ m, k = m + 1 := ⟨k - 1, by omega⟩
    have e1 : wrap64 ((pre.length : Int) + 1) = (((pre ++ [y]).length : Nat) : Int) := by rw [wrap_id (by omega) (by omega)]; simp
    have e2 : rd (pre ++ y :: ys) (pre.length : Int) = y := by
      show (pre ++ y :: ys).getD pre.length 0 = y
      rw [List.getD_eq_getElem?_getD, List.getElem?_append_right (Nat.le_refl _), Nat.sub_self]
      rfl
    have e3 : (pre ++ List.replicate (ys.length + 1) 0).set ((pre.length : Int)).toNat y = (pre ++ [y]) ++ List.replicate ys.length 0 := by
      rw [Int.toNat_natCast, List.set_append_right _ _ (by simp), Nat.sub_self, List.replicate_succ]
      simp
    simp only [laws_toIntS.l0, List.length_cons]
    rw [if_pos (by simp; omega), if_pos (by omega), e2, if_pos (by simp; omega), e3, e1]
    have := ih (pre ++ [y]) k (by omega) (by simp; omega)
    simpa using this
theorem toIntS_eq (k : Nat) (l : List Int) (hk : l.length < k) (hb : l.length ≤ 1000000000) : laws_toIntS.f k l = some l := by
  have h := toIntS_l0 l [] k hk (by simpa using hb)
  simp only [List.nil_append, List.length_nil, Int.natCast_zero] at h
  unfold laws_toIntS.f
  rw [if_pos (by omega), if_pos (by rw [Int.toNat_natCast]; omega), Int.toNat_natCast]
  exact h

theorem ok_two (a b : Int) : impl_arePoints.ok [a, b] = (decide (1 ≤ a ∧ a ≤ 500) && decide (1 ≤ b ∧ b ≤ 500)) := by
  simp only [impl_arePoints.ok, within_eq, Option.getD_some]
theorem ok_of {l : List Int} (h : impl_arePoints.ok l = true) : ∃ a b, l = [a, b] ∧ 1 ≤ a ∧ a ≤ 500 ∧ 1 ≤ b ∧ b ≤ 500 := by
  match l, h with
  | [a, b], h =>
    rw [ok_two, Bool.and_eq_true] at h
    have h1 := of_decide_eq_true h.1
    have h2 := of_decide_eq_true h.2
    exact ⟨a, b, rfl, h1.1, h1.2, h2.1, h2.2⟩
  | [], h => exact absurd h (by simp [impl_arePoints.ok])
  | [_], h => exact absurd h (by simp [impl_arePoints.ok])
  | _ :: _ :: _ :: _, h => exact absurd h (by simp [impl_arePoints.ok])
theorem miPoint_eq (k : Nat) (l : List Int) (hk : 4 ≤ k) : spec_miPoint.f k l = some (impl_arePoints.ok l) := by
  obtain ⟨k, rfl⟩ : ∃ m, k = m + 4 := ⟨k - 4, by omega⟩
  unfold spec_miPoint.f
  match l with
  | [] => simp [impl_arePoints.ok]
  | [_] => simp [impl_arePoints.ok]
  | _ :: _ :: _ :: t =>
    rw [if_neg (by simp only [List.length_cons]; omega)]
    simp [impl_arePoints.ok]
  | [a, b] =>
    rw [ok_two, if_pos (by rfl)]
    have r0 : rd [a, b] 0 = a := rfl
    have r1 : rd [a, b] 1 = b := rfl
    have e1 : wrap64 (0 + 1) = 1 := by unfold wrap64; omega
    have e2 : wrap64 (1 + 1) = 2 := by unfold wrap64; omega
    simp only [spec_l1All.f, spec_l1All.l0, l1In_eq, List.length_cons, List.length_nil, Option.bind_some]
    by_cases h1 : 1 ≤ a ∧ a ≤ 500 <;> by_cases h2 : 1 ≤ b ∧ b ≤ 500 <;> simp [h1, h2, r0, r1, e1, e2, show wrap64 1 = 1 from e1, show wrap64 2 = 2 by unfold wrap64; omega]

/-- Two points' look, unreduced. -/
theorem prod_le {a b : Int} (h : 1 ≤ a ∧ a ≤ 500) (g : 1 ≤ b ∧ b ≤ 500) : 1 ≤ a * b ∧ a * b ≤ 250000 := by
  have h1 : (a * b).natAbs ≤ 500 * 500 := by rw [Int.natAbs_mul]; exact Nat.mul_le_mul (by omega) (by omega)
  have h2 : 0 < a * b := Int.mul_pos (by omega) (by omega)
  omega
theorem lookedAt_eq {a b c d : Int} (ha : 1 ≤ a ∧ a ≤ 500) (hb : 1 ≤ b ∧ b ≤ 500) (hc : 1 ≤ c ∧ c ≤ 500) (hd : 1 ≤ d ∧ d ≤ 500) :
    impl_lookedAt.f [a, b] [c, d] = some (a * d + c * b, a + c) := by
  have r0 : rd [a, b] 0 = a := rfl
  have r1 : rd [a, b] 1 = b := rfl
  have r2 : rd [c, d] 0 = c := rfl
  have r3 : rd [c, d] 1 = d := rfl
  have m1 := prod_le ha hd
  have m2 := prod_le hc hb
  unfold impl_lookedAt.f
  rw [if_pos (by simp), if_pos (by simp), if_pos (by simp), if_pos (by simp), r0, r1, r2, r3, wrap_id (n := a * d) (by omega) (by omega), wrap_id (n := c * b) (by omega) (by omega), wrap_id (by omega) (by omega), wrap_id (by omega) (by omega)]

theorem miLook_eq (k : Nat) {a b c d : Int} (hk : 1000 < k) (ha : 1 ≤ a ∧ a ≤ 500) (hb : 1 ≤ b ∧ b ≤ 500) (hc : 1 ≤ c ∧ c ≤ 500) (hd : 1 ≤ d ∧ d ≤ 500) :
    spec_miLook.f k [a, b] [c, d] = some ((a * d + c * b).tdiv (Nat.gcd (a * d + c * b).natAbs (a + c).natAbs : Nat), (a + c).tdiv (Nat.gcd (a * d + c * b).natAbs (a + c).natAbs : Nat)) := by
  have r0 : rd [a, b] 0 = a := rfl
  have r1 : rd [a, b] 1 = b := rfl
  have r2 : rd [c, d] 0 = c := rfl
  have r3 : rd [c, d] 1 = d := rfl
  have m1 := prod_le ha hd
  have m2 := prod_le hc hb
  unfold spec_miLook.f
  rw [if_pos (by simp), if_pos (by simp), if_pos (by simp), if_pos (by simp), r0, r1, r2, r3, Int.mul_comm b c, Int.mul_comm d a, wrap_id (n := a * d) (by omega) (by omega), wrap_id (n := c * b) (by omega) (by omega), wrap_id (n := a + c) (by omega) (by omega), Int.add_comm (c * b), wrap_id (n := a * d + c * b) (by omega) (by omega), clLow_eq k _ _ (by omega) (by omega) (by omega) (by omega) (by omega)]
  rfl
theorem pos_of_mul {g x : Int} (hg : 0 < g) (h : 0 < g * x) : 0 < x := by
  apply Classical.byContradiction
  intro hn
  have := Int.mul_nonpos_of_nonneg_of_nonpos (a := g) (b := x) (by omega) (by omega)
  omega
theorem le_mul_of {g x : Int} (hg : 0 < g) (hx : 0 < x) : x ≤ g * x := by
  have := Int.mul_le_mul_of_nonneg_right (a := 1) (b := g) (c := x) (by omega) (by omega)
  omega
/-- The reduced look: there is g > 0 with both parts g times it. -/
theorem miLook_red (k : Nat) {a b c d : Int} (hk : 1000 < k) (ha : 1 ≤ a ∧ a ≤ 500) (hb : 1 ≤ b ∧ b ≤ 500) (hc : 1 ≤ c ∧ c ≤ 500) (hd : 1 ≤ d ∧ d ≤ 500) :
    ∃ g p q : Int, 0 < g ∧ 0 < q ∧ 0 < p ∧ a * d + c * b = g * p ∧ a + c = g * q ∧ spec_miLook.f k [a, b] [c, d] = some (p, q) := by
  have m1 := prod_le ha hd
  have m2 := prod_le hc hb
  have hp : 0 < Nat.gcd (a * d + c * b).natAbs (a + c).natAbs := Nat.gcd_pos_of_pos_right _ (by omega)
  have d1 : ((Nat.gcd (a * d + c * b).natAbs (a + c).natAbs : Nat) : Int) ∣ a * d + c * b := Int.ofNat_dvd_left.2 (Nat.gcd_dvd_left _ _)
  have d2 : ((Nat.gcd (a * d + c * b).natAbs (a + c).natAbs : Nat) : Int) ∣ a + c := Int.ofNat_dvd_left.2 (Nat.gcd_dvd_right _ _)
  have e1 := Int.mul_tdiv_cancel' d1
  have e2 := Int.mul_tdiv_cancel' d2
  have g0 : (0 : Int) < ((Nat.gcd (a * d + c * b).natAbs (a + c).natAbs : Nat) : Int) := by omega
  exact ⟨_, _, _, g0, pos_of_mul g0 (by rw [e2]; omega), pos_of_mul g0 (by rw [e1]; omega), e1.symm, e2.symm, miLook_eq k hk ha hb hc hd⟩

def at_ (l : List (List Int)) (i : Nat) : List Int := l.getD i []
theorem rd_nat (l : List (List Int)) (i : Nat) : rd_L1 l (i : Int) = at_ l i := rfl
theorem at_mid (pre : List (List Int)) (y : List Int) (ys : List (List Int)) : at_ (pre ++ y :: ys) pre.length = y := by
  unfold at_
  rw [List.getD_eq_getElem?_getD, List.getElem?_append_right (Nat.le_refl _), Nat.sub_self]
  rfl
theorem toIntSS_l0 (rest : List (List Int)) : ∀ (pre : List (List Int)) (k : Nat), rest.length + 2000000 < k → pre.length + rest.length ≤ 1000000000 → (∀ x ∈ rest, x.length ≤ 1048576) →
    laws_toIntSS.l0 k (pre ++ rest) (pre ++ List.replicate rest.length []) pre.length = some (pre ++ rest) := by
  induction rest with
  | nil =>
    intro pre k hk hb _
    obtain ⟨k, rfl⟩ : ∃ m, k = m + 1 := ⟨k - 1, by omega⟩
    simp only [laws_toIntSS.l0]
    rw [if_neg (by simp)]
    simp
  | cons y ys ih =>
    intro pre k hk hb hx
    simp only [List.length_cons] at hk hb
    obtain ⟨k, rfl⟩ : ∃ m, k = m + 1 := ⟨k - 1, by omega⟩
    have e1 : wrap64 ((pre.length : Int) + 1) = (((pre ++ [y]).length : Nat) : Int) := by rw [wrap_id (by omega) (by omega)]; simp
    have hy := hx y (by simp)
    have e3 : (pre ++ List.replicate (ys.length + 1) ([] : List Int)).set ((pre.length : Int)).toNat y = (pre ++ [y]) ++ List.replicate ys.length [] := by
      rw [Int.toNat_natCast, List.set_append_right _ _ (by simp), Nat.sub_self, List.replicate_succ]
      simp
    simp only [laws_toIntSS.l0, List.length_cons]
    rw [if_pos (by simp; omega), if_pos (by omega), rd_nat, at_mid, toIntS_eq k y (by omega) (by omega)]
    simp only [Option.bind_some]
    rw [if_pos (by simp; omega), e3, e1]
    have := ih (pre ++ [y]) k (by omega) (by simp; omega) (fun x h => hx x (List.mem_cons_of_mem _ h))
    simpa using this
theorem toIntSS_eq (k : Nat) (l : List (List Int)) (hk : 4000000 < k) (hb : l.length ≤ 1048576) (hx : ∀ x ∈ l, x.length ≤ 1048576) : laws_toIntSS.f k l = some l := by
  have h := toIntSS_l0 l [] k (by omega) (by simp; omega) hx
  simp only [List.nil_append, List.length_nil, Int.natCast_zero] at h
  unfold laws_toIntSS.f
  rw [if_pos (by omega), if_pos (by rw [Int.toNat_natCast]; omega), Int.toNat_natCast]
  exact h
theorem at_mem {l : List (List Int)} {i : Nat} (h : i < l.length) : at_ l i ∈ l := by
  unfold at_
  rw [List.getD_eq_getElem?_getD, List.getElem?_eq_getElem h]
  exact List.getElem_mem h
theorem eqIntSS_l0 (l : List (List Int)) (hl : l.length ≤ 1048576) (hx : ∀ x ∈ l, x.length ≤ 1048576) (d : Nat) : ∀ (k i : Nat), i + d = l.length → d + 2000000 < k → laws_eqIntSS.l0 k l l i = some true := by
  induction d with
  | zero =>
    intro k i hi hk
    obtain ⟨k, rfl⟩ : ∃ m, k = m + 1 := ⟨k - 1, by omega⟩
    simp only [laws_eqIntSS.l0]
    rw [if_neg (by omega)]
  | succ d ih =>
    intro k i hi hk
    obtain ⟨k, rfl⟩ : ∃ m, k = m + 1 := ⟨k - 1, by omega⟩
    have e : wrap64 ((i : Int) + 1) = ((i + 1 : Nat) : Int) := by rw [wrap_id (by omega) (by omega)]; omega
    have hy := hx _ (at_mem (l := l) (i := i) (by omega))
    simp only [laws_eqIntSS.l0]
    rw [if_pos (by omega), if_pos (by omega), if_pos (by omega), rd_nat, eqIntS_same k _ (by omega) (by omega)]
    simp only [Option.bind_some, if_true]
    rw [e]
    exact ih k (i + 1) (by omega) (by omega)
theorem eqIntSS_same (k : Nat) (l : List (List Int)) (hk : 4000000 < k) (hl : l.length ≤ 1048576) (hx : ∀ x ∈ l, x.length ≤ 1048576) : laws_eqIntSS.f k l l = some true := by
  unfold laws_eqIntSS.f
  rw [if_pos rfl]
  exact eqIntSS_l0 l hl hx l.length k 0 (by omega) (by omega)
/-- What the size's guard says. -/
theorem szIntSS_l0 (l : List (List Int)) (hl : l.length ≤ 1048576) (hm : ∀ x ∈ l, x.length ≤ 2 ^ 63 - 1) (d : Nat) : ∀ (k i : Nat) (a : Int), i + d = l.length → d < k → 0 ≤ a → a ≤ 1048576 →
    laws_szIntSS.l0 k l a i = some (-1) ∨ ∃ r, laws_szIntSS.l0 k l a i = some r ∧ 0 ≤ r ∧ ∀ j, i ≤ j → j < l.length → (at_ l j).length ≤ 1048576 := by
  induction d with
  | zero =>
    intro k i a hi hk h0 h1
    obtain ⟨k, rfl⟩ : ∃ m, k = m + 1 := ⟨k - 1, by omega⟩
    refine .inr ⟨a, ?_, h0, fun j h2 h3 => by omega⟩
    simp only [laws_szIntSS.l0]
    rw [if_neg (by omega)]
  | succ d ih =>
    intro k i a hi hk h0 h1
    obtain ⟨k, rfl⟩ : ∃ m, k = m + 1 := ⟨k - 1, by omega⟩
    have e : wrap64 ((i : Int) + 1) = ((i + 1 : Nat) : Int) := by rw [wrap_id (by omega) (by omega)]; omega
    have hy : (at_ l i).length ≤ 9223372036854775807 := hm _ (at_mem (l := l) (i := i) (by omega))
    have w : wrap64 (a - ((at_ l i).length : Int)) = a - ((at_ l i).length : Int) := wrap_id (by omega) (by omega)
    simp only [laws_szIntSS.l0, laws_szIntS.f]
    rw [if_pos (by omega), if_pos (by omega), rd_nat, w]
    by_cases c : a - ((at_ l i).length : Int) < 0
    · rw [if_pos c]
      exact .inl rfl
    · rw [if_neg c]
      simp only [Option.bind_some]
      rw [if_neg c, e]
      rcases ih k (i + 1) _ (by omega) (by omega) (show 0 ≤ a - ((at_ l i).length : Int) by omega) (by omega) with h | ⟨r, h, hr, hj⟩
      · exact .inl h
      · refine .inr ⟨r, h, hr, fun j h2 h3 => ?_⟩
        rcases Nat.lt_or_ge i j with c2 | c2
        · exact hj j c2 h3
        · have : j = i := by omega
          subst this
          omega
theorem miPoints_l0 (l : List (List Int)) (hl : l.length ≤ 10) (d : Nat) : ∀ (k i : Nat), i + d = l.length → d + 4 < k → spec_miPoints.l0 k l l.length i = some ((l.drop i).all impl_arePoints.ok) := by
  induction d with
  | zero =>
    intro k i hi hk
    obtain ⟨k, rfl⟩ : ∃ m, k = m + 1 := ⟨k - 1, by omega⟩
    simp only [spec_miPoints.l0]
    rw [if_neg (by omega), List.drop_eq_nil_of_le (by omega)]
    rfl
  | succ d ih =>
    intro k i hi hk
    obtain ⟨k, rfl⟩ : ∃ m, k = m + 1 := ⟨k - 1, by omega⟩
    have e : wrap64 ((i : Int) + 1) = ((i + 1 : Nat) : Int) := by rw [wrap_id (by omega) (by omega)]; omega
    have hd : l.drop i = at_ l i :: l.drop (i + 1) := by
      rw [List.drop_eq_getElem_cons (show i < l.length by omega)]
      unfold at_
      rw [List.getD_eq_getElem?_getD, List.getElem?_eq_getElem (show i < l.length by omega)]
      rfl
    simp only [spec_miPoints.l0]
    rw [if_pos (by omega), if_pos (by omega), if_pos (by omega), rd_nat, miPoint_eq k _ (by omega), hd, e]
    simp only [Option.bind_some, List.all_cons]
    cases impl_arePoints.ok (at_ l i) with
    | false => simp
    | true =>
      simp only [if_true, Bool.true_and]
      exact ih k (i + 1) (by omega) (by omega)
theorem miPoints_eq (k : Nat) (l : List (List Int)) (hk : 20 ≤ k) : spec_miPoints.f k l = some (if (l.length : Int) > 10 then false else l.all impl_arePoints.ok) := by
  unfold spec_miPoints.f
  by_cases c : (l.length : Int) > 10
  · rw [if_pos c, if_pos c]
  · rw [if_neg c, if_neg c]
    have := miPoints_l0 l (by omega) l.length k 0 (by omega) (by omega)
    simpa using this
/-- The step's floor and ceiling are the same, reduced or not. -/
theorem floor_red {g p q : Int} (hg : 0 < g) : (g * p).tdiv (g * q) = p.tdiv q := Int.mul_tdiv_mul_of_pos p q hg
theorem ceil_red {g p q : Int} (hg : 0 < g) (hp : 0 < p) (hq : 0 < q) : (g * p + g * q - 1).tdiv (g * q) = (p + q - 1).tdiv q := by
  have hgq : 0 < g * q := Int.mul_pos hg hq
  have hgp : 0 < g * p := Int.mul_pos hg hp
  rw [Int.tdiv_eq_ediv_of_nonneg (by omega), Int.tdiv_eq_ediv_of_nonneg (by omega)]
  have e : g * p + g * q - 1 = g * (p + q - 1) + (g - 1) := by rw [Int.mul_sub, Int.mul_add]; omega
  rw [e, ← Int.ediv_ediv_of_nonneg (by omega)]
  congr 1
  rw [Int.add_comm, Int.add_mul_ediv_left _ _ (by omega), Int.ediv_eq_zero_of_lt (by omega) (by omega)]
  omega
theorem least_eq (x y : Int) : spec_l1Least.f x y = some (mn x y) := by
  unfold spec_l1Least.f mn
  split <;> split <;> simp <;> omega
theorem most_eq (x y : Int) : spec_l1Most.f x y = some (mx x y) := by
  unfold spec_l1Most.f mx
  split <;> split <;> simp <;> omega
theorem run (l0 : List Int) (l : List (List Int)) (h0 : impl_arePoints.ok l0 = true) (ha : ∀ x ∈ l, impl_arePoints.ok x = true) (hl : l.length ≤ 10) (d : Nat) : ∀ (k k' i : Nat) (p q : Int), i + d = l.length → d + 2000 < k → d + 2000 < k' →
    ∃ r, spec_LeastMirrorFor.l0 k l0 p q l l.length i = some r ∧ impl_LeastMirrorFor.l0 k' l0 p q l l.length i = some r := by
  induction d with
  | zero =>
    intro k k' i p q hi hk hk'
    obtain ⟨k, rfl⟩ : ∃ m, k = m + 1 := ⟨k - 1, by omega⟩
    obtain ⟨k', rfl⟩ : ∃ m, k' = m + 1 := ⟨k' - 1, by omega⟩
    exact ⟨(p, q, true), by rw [spec_LeastMirrorFor.l0, if_neg (by omega)], by rw [impl_LeastMirrorFor.l0, if_neg (by omega)]⟩
  | succ d ih =>
    intro k k' i p q hi hk hk'
    obtain ⟨k, rfl⟩ : ∃ m, k = m + 1 := ⟨k - 1, by omega⟩
    obtain ⟨k', rfl⟩ : ∃ m, k' = m + 1 := ⟨k' - 1, by omega⟩
    have e : wrap64 ((i : Int) + 1) = ((i + 1 : Nat) : Int) := by rw [wrap_id (by omega) (by omega)]; omega
    obtain ⟨a, b, rfl, a0, a1, b0, b1⟩ := ok_of h0
    obtain ⟨c, f, hc, c0, c1, d0, d1⟩ := ok_of (ha _ (at_mem (l := l) (i := i) (by omega)))
    have m1 := prod_le ⟨a0, a1⟩ ⟨d0, d1⟩
    have m2 := prod_le ⟨c0, c1⟩ ⟨b0, b1⟩
    obtain ⟨g, x, y, hg, hy, hx, e1, e2, e3⟩ := miLook_red k (by omega) ⟨a0, a1⟩ ⟨b0, b1⟩ ⟨c0, c1⟩ ⟨d0, d1⟩
    have hx2 : x ≤ g * x := le_mul_of hg hx
    have hy2 : y ≤ g * y := le_mul_of hg hy
    have t1 := tdiv_le x y
    have t2 := tdiv_le (x + y - 1) y
    rw [spec_LeastMirrorFor.l0, impl_LeastMirrorFor.l0, if_pos (by omega), if_pos (by omega), if_pos (by omega), if_pos (by omega), if_pos (by omega), if_pos (by omega), rd_nat, hc, e3, lookedAt_eq ⟨a0, a1⟩ ⟨b0, b1⟩ ⟨c0, c1⟩ ⟨d0, d1⟩]
    simp only [Option.bind_some, least_eq, most_eq]
    rw [if_neg (show ¬ y = 0 by omega), if_neg (show ¬ a + c = 0 by omega), e, e1, e2, wrap_id (n := x + y) (by omega) (by omega), wrap_id (n := x + y - 1) (by omega) (by omega), wrap_id (n := g * x + g * y) (by omega) (by omega), wrap_id (n := g * x + g * y - 1) (by omega) (by omega), floor_red hg, ceil_red hg hx hy]
    exact ih k k' (i + 1) _ _ (by omega) (by omega) (by omega)
theorem both (k : Nat) (hk : 4000 ≤ k) (l0 : List Int) (l : List (List Int)) : ∃ r, spec_LeastMirrorFor.f k l0 l = some r ∧ impl_LeastMirrorFor.f k l0 l = some r := by
  obtain ⟨k, rfl⟩ : ∃ m, k = m + 1 := ⟨k - 1, by omega⟩
  unfold spec_LeastMirrorFor.f impl_LeastMirrorFor.f
  rw [miPoint_eq (k + 1) l0 (by omega), miPoints_eq (k + 1) l (by omega)]
  simp only [Option.bind_some, impl_arePoints.f, List.all_cons, List.all_nil, Bool.and_true, within_eq, spec_LeastMirrorFor.j0, impl_LeastMirrorFor.j0]
  cases h0 : impl_arePoints.ok l0 with
  | false => exact ⟨(0, 0, false), by simp, by simp⟩
  | true =>
    by_cases c : (l.length : Int) > 10
    · refine ⟨(0, 0, false), by simp [c], ?_⟩
      rw [decide_eq_false (show ¬ (1 ≤ (l.length : Int) ∧ (l.length : Int) ≤ 10) by omega)]
      cases l.all impl_arePoints.ok <;> simp
    · by_cases z : (l.length : Int) = 0
      · refine ⟨(0, 0, false), ?_, ?_⟩
        · have : l = [] := List.eq_nil_of_length_eq_zero (by omega)
          subst this
          simp
        · rw [decide_eq_false (show ¬ (1 ≤ (l.length : Int) ∧ (l.length : Int) ≤ 10) by omega)]
          cases l.all impl_arePoints.ok <;> simp
      · have z' : ((l.length : Int) == 0) = false := by simpa using z
        rw [if_neg c, z', decide_eq_true (show 1 ≤ (l.length : Int) ∧ (l.length : Int) ≤ 10 by omega)]
        cases ha : l.all impl_arePoints.ok with
        | false => exact ⟨(0, 0, false), by simp, by simp⟩
        | true =>
          obtain ⟨r, h1, h2⟩ := run l0 l h0 (List.all_eq_true.1 ha) (by omega) l.length k k 0 500 0 (by omega) (by omega) (by omega)
          exact ⟨r, by simpa using h1, by simpa using h2⟩
theorem main : laws_FnExactLeastMirrorFor.Pure := by
  intro l0 l _ _ _ hm hx
  obtain ⟨k, hk⟩ : ∃ k : Nat, 5000000 ≤ k := ⟨5000000, Nat.le_refl _⟩
  refine ⟨k + 1, ?_⟩
  unfold maxLen at hm hx
  unfold laws_FnExactLeastMirrorFor.f
  by_cases c0 : (l0.length : Int) > 1048576
  · rw [if_pos c0]
  have w : wrap64 (1048576 - (l.length : Int)) = 1048576 - (l.length : Int) := wrap_id (by omega) (by omega)
  rw [if_neg c0]
  unfold laws_szIntSS.f
  rw [w]
  by_cases c : 1048576 - (l.length : Int) < 0
  · rw [if_pos c]
    rfl
  rw [if_neg c]
  rcases szIntSS_l0 l (by omega) (fun x h => (hx x h).1) l.length (k + 1) 0 (1048576 - (l.length : Int)) (by omega) (by omega) (by omega) (by omega) with h | ⟨r, h, hr, hj⟩
  · simp only [Int.natCast_zero] at h
    rw [h]
    rfl
  · simp only [Int.natCast_zero] at h
    rw [h]
    simp only [Option.bind_some]
    rw [if_neg (by omega)]
    have hs : ∀ x ∈ l, x.length ≤ 1048576 := by
      intro x hx
      obtain ⟨j, hj2, rfl⟩ := List.getElem_of_mem hx
      have := hj j (by omega) hj2
      unfold at_ at this
      rwa [List.getD_eq_getElem?_getD, List.getElem?_eq_getElem hj2] at this
    obtain ⟨r, h1, h2⟩ := both (k + 1) (by omega) l0 l
    rw [toIntS_eq (k + 1) l0 (by omega) (by omega), toIntSS_eq (k + 1) l (by omega) (by omega) hs]
    simp only [Option.bind_some, h1, h2, if_true, bne_self_eq_false, laws_FnExactLeastMirrorFor.j0, Bool.false_eq_true, if_false]
    rw [toIntS_eq k l0 (by omega) (by omega), toIntSS_eq k l (by omega) (by omega) hs]
    simp only [Option.bind_some]
    rw [eqIntS_same k l0 (by omega) (by omega)]
    simp only [Option.bind_some, if_true]
    rw [eqIntSS_same k l (by omega) (by omega) hs]
    rfl
end LFnExactLeastMirrorFor

theorem FnExactLeastMirrorFor : laws_FnExactLeastMirrorFor.Pure := LFnExactLeastMirrorFor.main

end Go.Proofs.Ytgllmgchadkihaa.Pure
