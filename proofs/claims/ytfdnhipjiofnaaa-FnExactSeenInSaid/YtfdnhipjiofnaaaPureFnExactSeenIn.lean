/- For every list of numbers, every list of such lists and every part of the mirror the program's SeenIn and the reference's give the same, the lists are left as they were, and the answer shares no memory; no condition beyond the numbers' kinds. -/
import Derived.Test.YtfdnhipjiofnaaaPFnExactSeenInx4
namespace Go.Proofs.Ytfdnhipjiofnaaa.Pure
open Go.RowKit Go.Proofs.Ytfdnhipjiofnaaa.PFnExactSeenIn Go.Proofs.YtfdnhipjiofnaaaW.PrintWords Go.Proofs.YtfdnhipjiofnaaaW.PrintLast
set_option linter.unusedVariables false
set_option linter.unusedSimpArgs false

namespace LFnExactSeenIn
theorem within_eq (a b c : Int) : impl_within.f a b c = some (decide (b ≤ a ∧ a ≤ c)) := by
  by_cases h1 : b ≤ a <;> by_cases h2 : a ≤ c <;> simp [impl_within.f, h1, h2]

theorem l1In_eq (a b c : Int) : spec_l1In.f a b c = some (decide (b ≤ a ∧ a ≤ c)) := by
  by_cases h1 : b ≤ a <;> by_cases h2 : a ≤ c <;> simp [spec_l1In.f, h1, h2]

theorem wrap_id {n : Int} (h0 : -9223372036854775808 ≤ n) (h1 : n ≤ 9223372036854775807) : wrap64 n = n := by
  unfold wrap64
  omega

theorem tdiv_le (a b : Int) : (a.tdiv b).natAbs ≤ a.natAbs := by
  rw [Int.natAbs_tdiv]
  exact Nat.div_le_self _ _
theorem wrap_tdiv {a b : Int} (h : a.natAbs ≤ 4611686018427387904) : wrap64 (a.tdiv b) = a.tdiv b := by
  have := tdiv_le a b
  exact wrap_id (by omega) (by omega)

theorem gcd_step2 (a b : Int) : Nat.gcd b.natAbs (a.tmod b).natAbs = Nat.gcd a.natAbs b.natAbs := by
  rw [Int.natAbs_tmod, Nat.gcd_comm a.natAbs, Nat.gcd_rec b.natAbs a.natAbs, Nat.gcd_comm]

theorem clLow_l0 (d : Nat) : ∀ (k : Nat) (x y a b : Int), b.natAbs ≤ d → d < k → 0 ≤ a → 0 ≤ b → (a ≠ 0 ∨ b ≠ 0) → x.natAbs ≤ 4611686018427387904 → y.natAbs ≤ 4611686018427387904 →
    spec_clLow.l0 k x y a b = some (x.tdiv (Nat.gcd a.natAbs b.natAbs : Nat), y.tdiv (Nat.gcd a.natAbs b.natAbs : Nat)) := by
  induction d with
  | zero =>
    intro k x y a b hb hk ha hb' hn hx hy
    obtain ⟨k, rfl⟩ : ∃ m, k = m + 1 := ⟨k - 1, by omega⟩
    have h0 : b = 0 := by omega
    simp only [spec_clLow.l0]
    rw [if_neg (by omega), if_neg (by omega), wrap_tdiv hx, wrap_tdiv hy]
    subst h0
    simp only [Int.natAbs_zero, Nat.gcd_zero_right]
    rw [show ((a.natAbs : Nat) : Int) = a by omega]
  | succ d ih =>
    intro k x y a b hb hk ha hb' hn hx hy
    obtain ⟨k, rfl⟩ : ∃ m, k = m + 1 := ⟨k - 1, by omega⟩
    simp only [spec_clLow.l0]
    by_cases h0 : b = 0
    · subst h0
      rw [if_neg (by omega), if_neg (by omega), wrap_tdiv hx, wrap_tdiv hy]
      simp only [Int.natAbs_zero, Nat.gcd_zero_right]
      rw [show ((a.natAbs : Nat) : Int) = a by omega]
    · have hm : (a.tmod b).natAbs < b.natAbs := by
        rw [Int.natAbs_tmod]
        exact Nat.mod_lt _ (by omega)
      rw [if_pos (by omega), if_neg h0, ih k x y b (a.tmod b) (by omega) (by omega) hb' (Int.tmod_nonneg _ ha) (by omega) hx hy, gcd_step2]
theorem clLow_eq (k : Nat) (a b : Int) (hk : b.natAbs < k) (h0 : 0 ≤ a) (hb0 : 0 < b) (ha : a ≤ 4611686018427387904) (hb : b ≤ 4611686018427387904) :
    spec_clLow.f k a b = some (a.tdiv (Nat.gcd a.natAbs b.natAbs : Nat), b.tdiv (Nat.gcd a.natAbs b.natAbs : Nat)) :=
  clLow_l0 b.natAbs k a b a b (Nat.le_refl _) hk h0 (by omega) (by omega) (by omega) (by omega)

theorem eqIntS_l0 (l : List Int) (hl : l.length ≤ 1000000000) (d : Nat) : ∀ (k i : Nat), i + d = l.length → d < k → laws_eqIntS.l0 k l l i = some true := by
  induction d with
  | zero =>
    intro k i hi hk
    obtain ⟨k, rfl⟩ : ∃ m, k = m + 1 := ⟨k - 1, by omega⟩
    simp only [laws_eqIntS.l0]
    rw [if_neg (by omega)]
  | succ d ih =>
    intro k i hi hk
    obtain ⟨k, rfl⟩ : ∃ m, k = m + 1 := ⟨k - 1, by omega⟩
    have e : wrap64 ((i : Int) + 1) = ((i + 1 : Nat) : Int) := by rw [wrap_id (by omega) (by omega)]; omega
    simp only [laws_eqIntS.l0]
    rw [if_pos (by omega), if_pos (by omega), if_pos (by omega)]
    simp only [if_true]
    rw [e]
    exact ih k (i + 1) (by omega) (by omega)
theorem eqIntS_same (k : Nat) (l : List Int) (hl : l.length ≤ 1000000000) (hk : l.length < k) : laws_eqIntS.f k l l = some true := by
  unfold laws_eqIntS.f
  rw [if_pos rfl]
  exact eqIntS_l0 l hl l.length k 0 (by omega) hk

/-- The numbers m, m + 1, .., as many as told. -/
def upto (m : Int) (n : Nat) : List Int := (List.range n).map fun j : Nat => m + (j : Int)
theorem upto_len (m : Int) (n : Nat) : (upto m n).length = n := by simp [upto]
theorem mark_l0 (m : Int) (h0 : 0 ≤ m) (h1 : m ≤ 1000000000) : ∀ (rest : List Int) (k i : Nat), rest.length < k → i + rest.length ≤ 1000000000 →
    laws_markIntS.l0 k (upto m i ++ rest) (m + i) i = some (m + ((i + rest.length : Nat) : Int), upto m (i + rest.length)) := by
  intro rest
  induction rest with
  | nil =>
    intro k i hk hb
    obtain ⟨k, rfl⟩ : ∃ m, k = m + 1 := ⟨k - 1, by simp at hk; omega⟩
    simp only [laws_markIntS.l0]
    rw [if_neg (by simp [upto_len])]
    simp
  | cons y ys ih =>
    intro k i hk hb
    simp only [List.length_cons] at hk hb ⊢
    obtain ⟨k, rfl⟩ : ∃ m, k = m + 1 := ⟨k - 1, by omega⟩
    have e1 : wrap64 ((i : Int) + 1) = ((i + 1 : Nat) : Int) := by rw [wrap_id (by omega) (by omega)]; omega
    have e2 : wrap64 (m + (i : Int) + 1) = m + ((i + 1 : Nat) : Int) := by rw [wrap_id (by omega) (by omega)]; omega
    have e3 : (upto m i ++ y :: ys).set ((i : Int)).toNat (m + (i : Int)) = upto m (i + 1) ++ ys := by
      rw [Int.toNat_natCast, List.set_append_right _ _ (by rw [upto_len]; exact Nat.le_refl _), upto_len, Nat.sub_self]
      simp [upto, List.range_succ]
    simp only [laws_markIntS.l0]
    rw [if_pos (by simp [upto_len]; omega), if_pos (by omega), e3, e1, e2, ih k (i + 1) (by omega) (by omega), show i + (ys.length + 1) = i + 1 + ys.length by omega]
theorem mark_eq (k : Nat) (l : List Int) (m : Int) (h0 : 0 ≤ m) (h1 : m ≤ 1000000000) (hl : l.length ≤ 1000000000) (hk : l.length < k) :
    laws_markIntS.f k l m = some (m + (l.length : Int), upto m l.length) := by
  have := mark_l0 m h0 h1 l k 0 hk (by omega)
  simpa [upto, laws_markIntS.f] using this
theorem held_l0 (m : Int) (n : Nat) (h0 : 0 ≤ m) (h1 : m ≤ 1000000000) (hn : n ≤ 1000000000) (d : Nat) : ∀ (k i : Nat), i + d = n → d < k →
    laws_heldIntS.l0 k (upto m n) (m + i) i = some (m + (n : Int)) := by
  induction d with
  | zero =>
    intro k i hi hk
    obtain ⟨k, rfl⟩ : ∃ m, k = m + 1 := ⟨k - 1, by omega⟩
    simp only [laws_heldIntS.l0]
    rw [if_neg (by simp [upto_len]; omega), show i = n by omega]
  | succ d ih =>
    intro k i hi hk
    obtain ⟨k, rfl⟩ : ∃ m, k = m + 1 := ⟨k - 1, by omega⟩
    have e1 : wrap64 ((i : Int) + 1) = ((i + 1 : Nat) : Int) := by rw [wrap_id (by omega) (by omega)]; omega
    have e2 : wrap64 (m + (i : Int) + 1) = m + ((i + 1 : Nat) : Int) := by rw [wrap_id (by omega) (by omega)]; omega
    have e3 : rd (upto m n) (i : Int) = m + (i : Int) := by
      unfold rd upto
      rw [Int.toNat_natCast, List.getD_eq_getElem?_getD, List.getElem?_map, List.getElem?_range (by omega)]
      rfl
    simp only [laws_heldIntS.l0]
    rw [if_pos (by simp [upto_len]; omega), if_pos (by omega), e3, if_pos rfl, e1, e2, ih k (i + 1) (by omega) (by omega)]
theorem held_eq (k n : Nat) (m : Int) (h0 : 0 ≤ m) (h1 : m ≤ 1000000000) (hn : n ≤ 1000000000) (hk : n < k) : laws_heldIntS.f k (upto m n) m = some (m + (n : Int)) := by
  have := held_l0 m n h0 h1 hn n k 0 (by omega) hk
  simpa [laws_heldIntS.f] using this

theorem toIntS_l0 (rest : List Int) : ∀ (pre : List Int) (k : Nat), rest.length < k → pre.length + rest.length ≤ 1000000000 →
    laws_toIntS.l0 k (pre ++ rest) (pre ++ List.replicate rest.length 0) pre.length = some (pre ++ rest) := by
  induction rest with
  | nil =>
    intro pre k hk hb
    obtain ⟨k, rfl⟩ : ∃ m, k = m + 1 := ⟨k - 1, by simp at hk; omega⟩
    simp only [laws_toIntS.l0]
    rw [if_neg (by simp)]
    simp
  | cons y ys ih =>
    intro pre k hk hb
    simp only [List.length_cons] at hk hb
    obtain ⟨k, rfl⟩ : ∃ m, k = m + 1 := ⟨k - 1, by omega⟩
    have e1 : wrap64 ((pre.length : Int) + 1) = (((pre ++ [y]).length : Nat) : Int) := by rw [wrap_id (by omega) (by omega)]; simp
    have e2 : rd (pre ++ y :: ys) (pre.length : Int) = y := by
      show (pre ++ y :: ys).getD pre.length 0 = y
      rw [List.getD_eq_getElem?_getD, List.getElem?_append_right (Nat.le_refl _), Nat.sub_self]
      rfl
    have e3 : (pre ++ List.replicate (ys.length + 1) 0).set ((pre.length : Int)).toNat y = (pre ++ [y]) ++ List.replicate ys.length 0 := by
      rw [Int.toNat_natCast, List.set_append_right _ _ (by simp), Nat.sub_self, List.replicate_succ]
      simp
    simp only [laws_toIntS.l0, List.length_cons]
    rw [if_pos (by simp; omega), if_pos (by omega), e2, if_pos (by simp; omega), e3, e1]
    have := ih (pre ++ [y]) k (by omega) (by simp; omega)
    simpa using this
theorem toIntS_eq (k : Nat) (l : List Int) (hk : l.length < k) (hb : l.length ≤ 1000000000) : laws_toIntS.f k l = some l := by
  have h := toIntS_l0 l [] k hk (by simpa using hb)
  simp only [List.nil_append, List.length_nil, Int.natCast_zero] at h
  unfold laws_toIntS.f
  rw [if_pos (by omega), if_pos (by rw [Int.toNat_natCast]; omega), Int.toNat_natCast]
  exact h

theorem ok_two (a b : Int) : impl_arePoints.ok [a, b] = (decide (1 ≤ a ∧ a ≤ 500) && decide (1 ≤ b ∧ b ≤ 500)) := by
  simp only [impl_arePoints.ok, within_eq, Option.getD_some]
theorem ok_of {l : List Int} (h : impl_arePoints.ok l = true) : ∃ a b, l = [a, b] ∧ 1 ≤ a ∧ a ≤ 500 ∧ 1 ≤ b ∧ b ≤ 500 := by
  match l, h with
  | [a, b], h =>
    rw [ok_two, Bool.and_eq_true] at h
    have h1 := of_decide_eq_true h.1
    have h2 := of_decide_eq_true h.2
    exact ⟨a, b, rfl, h1.1, h1.2, h2.1, h2.2⟩
  | [], h => exact absurd h (by simp [impl_arePoints.ok])
  | [_], h => exact absurd h (by simp [impl_arePoints.ok])
  | _ :: _ :: _ :: _, h => exact absurd h (by simp [impl_arePoints.ok])
theorem miPoint_eq (k : Nat) (l : List Int) (hk : 4 ≤ k) : spec_miPoint.f k l = some (impl_arePoints.ok l) := by
  obtain ⟨k, rfl⟩ : ∃ m, k = m + 4 := ⟨k - 4, by omega⟩
  unfold spec_miPoint.f
  match l with
  | [] => simp [impl_arePoints.ok]
  | [_] => simp [impl_arePoints.ok]
  | _ :: _ :: _ :: t =>
    rw [if_neg (by simp only [List.length_cons]; omega)]
    simp [impl_arePoints.ok]
  | [a, b] =>
    rw [ok_two, if_pos (by rfl)]
    have r0 : rd [a, b] 0 = a := rfl
    have r1 : rd [a, b] 1 = b := rfl
    have e1 : wrap64 (0 + 1) = 1 := by unfold wrap64; omega
    have e2 : wrap64 (1 + 1) = 2 := by unfold wrap64; omega
    simp only [spec_l1All.f, spec_l1All.l0, l1In_eq, List.length_cons, List.length_nil, Option.bind_some]
    by_cases h1 : 1 ≤ a ∧ a ≤ 500 <;> by_cases h2 : 1 ≤ b ∧ b ≤ 500 <;> simp [h1, h2, r0, r1, e1, e2, show wrap64 1 = 1 from e1, show wrap64 2 = 2 by unfold wrap64; omega]

/-- Two points' look, unreduced. -/
theorem prod_le {a b : Int} (h : 1 ≤ a ∧ a ≤ 500) (g : 1 ≤ b ∧ b ≤ 500) : 1 ≤ a * b ∧ a * b ≤ 250000 := by
  have h1 : (a * b).natAbs ≤ 500 * 500 := by rw [Int.natAbs_mul]; exact Nat.mul_le_mul (by omega) (by omega)
  have h2 : 0 < a * b := Int.mul_pos (by omega) (by omega)
  omega
theorem lookedAt_eq {a b c d : Int} (ha : 1 ≤ a ∧ a ≤ 500) (hb : 1 ≤ b ∧ b ≤ 500) (hc : 1 ≤ c ∧ c ≤ 500) (hd : 1 ≤ d ∧ d ≤ 500) :
    impl_lookedAt.f [a, b] [c, d] = some (a * d + c * b, a + c) := by
  have r0 : rd [a, b] 0 = a := rfl
  have r1 : rd [a, b] 1 = b := rfl
  have r2 : rd [c, d] 0 = c := rfl
  have r3 : rd [c, d] 1 = d := rfl
  have m1 := prod_le ha hd
  have m2 := prod_le hc hb
  unfold impl_lookedAt.f
  rw [if_pos (by simp), if_pos (by simp), if_pos (by simp), if_pos (by simp), r0, r1, r2, r3, wrap_id (n := a * d) (by omega) (by omega), wrap_id (n := c * b) (by omega) (by omega), wrap_id (by omega) (by omega), wrap_id (by omega) (by omega)]

theorem miLook_eq (k : Nat) {a b c d : Int} (hk : 1000 < k) (ha : 1 ≤ a ∧ a ≤ 500) (hb : 1 ≤ b ∧ b ≤ 500) (hc : 1 ≤ c ∧ c ≤ 500) (hd : 1 ≤ d ∧ d ≤ 500) :
    spec_miLook.f k [a, b] [c, d] = some ((a * d + c * b).tdiv (Nat.gcd (a * d + c * b).natAbs (a + c).natAbs : Nat), (a + c).tdiv (Nat.gcd (a * d + c * b).natAbs (a + c).natAbs : Nat)) := by
  have r0 : rd [a, b] 0 = a := rfl
  have r1 : rd [a, b] 1 = b := rfl
  have r2 : rd [c, d] 0 = c := rfl
  have r3 : rd [c, d] 1 = d := rfl
  have m1 := prod_le ha hd
  have m2 := prod_le hc hb
  unfold spec_miLook.f
  rw [if_pos (by simp), if_pos (by simp), if_pos (by simp), if_pos (by simp), r0, r1, r2, r3, Int.mul_comm b c, Int.mul_comm d a, wrap_id (n := a * d) (by omega) (by omega), wrap_id (n := c * b) (by omega) (by omega), wrap_id (n := a + c) (by omega) (by omega), Int.add_comm (c * b), wrap_id (n := a * d + c * b) (by omega) (by omega), clLow_eq k _ _ (by omega) (by omega) (by omega) (by omega) (by omega)]
  rfl
theorem pos_of_mul {g x : Int} (hg : 0 < g) (h : 0 < g * x) : 0 < x := by
  apply Classical.byContradiction
  intro hn
  have := Int.mul_nonpos_of_nonneg_of_nonpos (a := g) (b := x) (by omega) (by omega)
  omega
theorem le_mul_of {g x : Int} (hg : 0 < g) (hx : 0 < x) : x ≤ g * x := by
  have := Int.mul_le_mul_of_nonneg_right (a := 1) (b := g) (c := x) (by omega) (by omega)
  omega
/-- The reduced look: there is g > 0 with both parts g times it. -/
theorem miLook_red (k : Nat) {a b c d : Int} (hk : 1000 < k) (ha : 1 ≤ a ∧ a ≤ 500) (hb : 1 ≤ b ∧ b ≤ 500) (hc : 1 ≤ c ∧ c ≤ 500) (hd : 1 ≤ d ∧ d ≤ 500) :
    ∃ g p q : Int, 0 < g ∧ 0 < q ∧ 0 < p ∧ a * d + c * b = g * p ∧ a + c = g * q ∧ spec_miLook.f k [a, b] [c, d] = some (p, q) := by
  have m1 := prod_le ha hd
  have m2 := prod_le hc hb
  have hp : 0 < Nat.gcd (a * d + c * b).natAbs (a + c).natAbs := Nat.gcd_pos_of_pos_right _ (by omega)
  have d1 : ((Nat.gcd (a * d + c * b).natAbs (a + c).natAbs : Nat) : Int) ∣ a * d + c * b := Int.ofNat_dvd_left.2 (Nat.gcd_dvd_left _ _)
  have d2 : ((Nat.gcd (a * d + c * b).natAbs (a + c).natAbs : Nat) : Int) ∣ a + c := Int.ofNat_dvd_left.2 (Nat.gcd_dvd_right _ _)
  have e1 := Int.mul_tdiv_cancel' d1
  have e2 := Int.mul_tdiv_cancel' d2
  have g0 : (0 : Int) < ((Nat.gcd (a * d + c * b).natAbs (a + c).natAbs : Nat) : Int) := by omega
  exact ⟨_, _, _, g0, pos_of_mul g0 (by rw [e2]; omega), pos_of_mul g0 (by rw [e1]; omega), e1.symm, e2.symm, miLook_eq k hk ha hb hc hd⟩

def at_ (l : List (List Int)) (i : Nat) : List Int := l.getD i []
theorem rd_nat (l : List (List Int)) (i : Nat) : rd_L1 l (i : Int) = at_ l i := rfl
theorem at_mid (pre : List (List Int)) (y : List Int) (ys : List (List Int)) : at_ (pre ++ y :: ys) pre.length = y := by
  unfold at_
  rw [List.getD_eq_getElem?_getD, List.getElem?_append_right (Nat.le_refl _), Nat.sub_self]
  rfl
theorem toIntSS_l0 (rest : List (List Int)) : ∀ (pre : List (List Int)) (k : Nat), rest.length + 2000000 < k → pre.length + rest.length ≤ 1000000000 → (∀ x ∈ rest, x.length ≤ 1048576) →
    laws_toIntSS.l0 k (pre ++ rest) (pre ++ List.replicate rest.length []) pre.length = some (pre ++ rest) := by
  induction rest with
  | nil =>
    intro pre k hk hb _
    obtain ⟨k, rfl⟩ : ∃ m, k = m + 1 := ⟨k - 1, by omega⟩
    simp only [laws_toIntSS.l0]
    rw [if_neg (by simp)]
    simp
  | cons y ys ih =>
    intro pre k hk hb hx
    simp only [List.length_cons] at hk hb
    obtain ⟨k, rfl⟩ : ∃ m, k = m + 1 := ⟨k - 1, by omega⟩
    have e1 : wrap64 ((pre.length : Int) + 1) = (((pre ++ [y]).length : Nat) : Int) := by rw [wrap_id (by omega) (by omega)]; simp
    have hy := hx y (by simp)
    have e3 : (pre ++ List.replicate (ys.length + 1) ([] : List Int)).set ((pre.length : Int)).toNat y = (pre ++ [y]) ++ List.replicate ys.length [] := by
      rw [Int.toNat_natCast, List.set_append_right _ _ (by simp), Nat.sub_self, List.replicate_succ]
      simp
    simp only [laws_toIntSS.l0, List.length_cons]
    rw [if_pos (by simp; omega), if_pos (by omega), rd_nat, at_mid, toIntS_eq k y (by omega) (by omega)]
    simp only [Option.bind_some]
    rw [if_pos (by simp; omega), e3, e1]
    have := ih (pre ++ [y]) k (by omega) (by simp; omega) (fun x h => hx x (List.mem_cons_of_mem _ h))
    simpa using this
theorem toIntSS_eq (k : Nat) (l : List (List Int)) (hk : 4000000 < k) (hb : l.length ≤ 1048576) (hx : ∀ x ∈ l, x.length ≤ 1048576) : laws_toIntSS.f k l = some l := by
  have h := toIntSS_l0 l [] k (by omega) (by simp; omega) hx
  simp only [List.nil_append, List.length_nil, Int.natCast_zero] at h
  unfold laws_toIntSS.f
  rw [if_pos (by omega), if_pos (by rw [Int.toNat_natCast]; omega), Int.toNat_natCast]
  exact h
theorem at_mem {l : List (List Int)} {i : Nat} (h : i < l.length) : at_ l i ∈ l := by
  unfold at_
  rw [List.getD_eq_getElem?_getD, List.getElem?_eq_getElem h]
  exact List.getElem_mem h
theorem eqIntSS_l0 (l : List (List Int)) (hl : l.length ≤ 1048576) (hx : ∀ x ∈ l, x.length ≤ 1048576) (d : Nat) : ∀ (k i : Nat), i + d = l.length → d + 2000000 < k → laws_eqIntSS.l0 k l l i = some true := by
  induction d with
  | zero =>
    intro k i hi hk
    obtain ⟨k, rfl⟩ : ∃ m, k = m + 1 := ⟨k - 1, by omega⟩
    simp only [laws_eqIntSS.l0]
    rw [if_neg (by omega)]
  | succ d ih =>
    intro k i hi hk
    obtain ⟨k, rfl⟩ : ∃ m, k = m + 1 := ⟨k - 1, by omega⟩
    have e : wrap64 ((i : Int) + 1) = ((i + 1 : Nat) : Int) := by rw [wrap_id (by omega) (by omega)]; omega
    have hy := hx _ (at_mem (l := l) (i := i) (by omega))
    simp only [laws_eqIntSS.l0]
    rw [if_pos (by omega), if_pos (by omega), if_pos (by omega), rd_nat, eqIntS_same k _ (by omega) (by omega)]
    simp only [Option.bind_some, if_true]
    rw [e]
    exact ih k (i + 1) (by omega) (by omega)
theorem eqIntSS_same (k : Nat) (l : List (List Int)) (hk : 4000000 < k) (hl : l.length ≤ 1048576) (hx : ∀ x ∈ l, x.length ≤ 1048576) : laws_eqIntSS.f k l l = some true := by
  unfold laws_eqIntSS.f
  rw [if_pos rfl]
  exact eqIntSS_l0 l hl hx l.length k 0 (by omega) (by omega)
/-- What the size's guard says. -/
theorem szIntSS_l0 (l : List (List Int)) (hl : l.length ≤ 1048576) (hm : ∀ x ∈ l, x.length ≤ 2 ^ 63 - 1) (d : Nat) : ∀ (k i : Nat) (a : Int), i + d = l.length → d < k → 0 ≤ a → a ≤ 1048576 →
    laws_szIntSS.l0 k l a i = some (-1) ∨ ∃ r, laws_szIntSS.l0 k l a i = some r ∧ 0 ≤ r ∧ ∀ j, i ≤ j → j < l.length → (at_ l j).length ≤ 1048576 := by
  induction d with
  | zero =>
    intro k i a hi hk h0 h1
    obtain ⟨k, rfl⟩ : ∃ m, k = m + 1 := ⟨k - 1, by omega⟩
    refine .inr ⟨a, ?_, h0, fun j h2 h3 => by omega⟩
    simp only [laws_szIntSS.l0]
    rw [if_neg (by omega)]
  | succ d ih =>
    intro k i a hi hk h0 h1
    obtain ⟨k, rfl⟩ : ∃ m, k = m + 1 := ⟨k - 1, by omega⟩
    have e : wrap64 ((i : Int) + 1) = ((i + 1 : Nat) : Int) := by rw [wrap_id (by omega) (by omega)]; omega
    have hy : (at_ l i).length ≤ 9223372036854775807 := hm _ (at_mem (l := l) (i := i) (by omega))
    have w : wrap64 (a - ((at_ l i).length : Int)) = a - ((at_ l i).length : Int) := wrap_id (by omega) (by omega)
    simp only [laws_szIntSS.l0, laws_szIntS.f]
    rw [if_pos (by omega), if_pos (by omega), rd_nat, w]
    by_cases c : a - ((at_ l i).length : Int) < 0
    · rw [if_pos c]
      exact .inl rfl
    · rw [if_neg c]
      simp only [Option.bind_some]
      rw [if_neg c, e]
      rcases ih k (i + 1) _ (by omega) (by omega) (show 0 ≤ a - ((at_ l i).length : Int) by omega) (by omega) with h | ⟨r, h, hr, hj⟩
      · exact .inl h
      · refine .inr ⟨r, h, hr, fun j h2 h3 => ?_⟩
        rcases Nat.lt_or_ge i j with c2 | c2
        · exact hj j c2 h3
        · have : j = i := by omega
          subst this
          omega

theorem miPoints_l0 (l : List (List Int)) (hl : l.length ≤ 10) (d : Nat) : ∀ (k i : Nat), i + d = l.length → d + 4 < k → spec_miPoints.l0 k l l.length i = some ((l.drop i).all impl_arePoints.ok) := by
  induction d with
  | zero =>
    intro k i hi hk
    obtain ⟨k, rfl⟩ : ∃ m, k = m + 1 := ⟨k - 1, by omega⟩
    simp only [spec_miPoints.l0]
    rw [if_neg (by omega), List.drop_eq_nil_of_le (by omega)]
    rfl
  | succ d ih =>
    intro k i hi hk
    obtain ⟨k, rfl⟩ : ∃ m, k = m + 1 := ⟨k - 1, by omega⟩
    have e : wrap64 ((i : Int) + 1) = ((i + 1 : Nat) : Int) := by rw [wrap_id (by omega) (by omega)]; omega
    have hd : l.drop i = at_ l i :: l.drop (i + 1) := by
      rw [List.drop_eq_getElem_cons (show i < l.length by omega)]
      unfold at_
      rw [List.getD_eq_getElem?_getD, List.getElem?_eq_getElem (show i < l.length by omega)]
      rfl
    simp only [spec_miPoints.l0]
    rw [if_pos (by omega), if_pos (by omega), if_pos (by omega), rd_nat, miPoint_eq k _ (by omega), hd, e]
    simp only [Option.bind_some, List.all_cons]
    cases impl_arePoints.ok (at_ l i) with
    | false => simp
    | true =>
      simp only [if_true, Bool.true_and]
      exact ih k (i + 1) (by omega) (by omega)
theorem miPoints_eq (k : Nat) (l : List (List Int)) (hk : 20 ≤ k) : spec_miPoints.f k l = some (if (l.length : Int) > 10 then false else l.all impl_arePoints.ok) := by
  unfold spec_miPoints.f
  by_cases c : (l.length : Int) > 10
  · rw [if_pos c, if_pos c]
  · rw [if_neg c, if_neg c]
    have := miPoints_l0 l (by omega) l.length k 0 (by omega) (by omega)
    simpa using this

def rng (l h : Int) : Bool := decide (0 ≤ l ∧ l ≤ 500) && decide (l ≤ h ∧ h ≤ 500)
theorem miRange_eq (l h : Int) : spec_miRange.f l h = some (rng l h) := by
  simp only [spec_miRange.f, l1In_eq, Option.bind_some, rng]
  by_cases h1 : 0 ≤ l ∧ l ≤ 500 <;> simp [h1]
theorem isPart_eq (l h : Int) : impl_isPart.f l h = some (rng l h) := by
  simp only [impl_isPart.f, within_eq, Option.bind_some, rng]
  by_cases h1 : 0 ≤ l ∧ l ≤ h <;> by_cases h2 : h ≤ 500
  · rw [decide_eq_true h1, decide_eq_true h2, decide_eq_true (show 0 ≤ l ∧ l ≤ 500 by omega), decide_eq_true (show l ≤ h ∧ h ≤ 500 by omega)]
    rfl
  · rw [decide_eq_true h1, decide_eq_false h2, decide_eq_false (show ¬ (l ≤ h ∧ h ≤ 500) by omega)]
    simp
  · rw [decide_eq_false h1]
    by_cases h3 : 0 ≤ l ∧ l ≤ 500
    · rw [decide_eq_false (show ¬ (l ≤ h ∧ h ≤ 500) by omega)]; simp
    · rw [decide_eq_false h3]; simp
  · rw [decide_eq_false h1]
    by_cases h3 : 0 ≤ l ∧ l ≤ 500
    · rw [decide_eq_false (show ¬ (l ≤ h ∧ h ≤ 500) by omega)]; simp
    · rw [decide_eq_false h3]; simp
theorem rng_of {l h : Int} (e : rng l h = true) : 0 ≤ l ∧ l ≤ 500 ∧ l ≤ h ∧ h ≤ 500 := by
  unfold rng at e
  rw [Bool.and_eq_true] at e
  have h1 := of_decide_eq_true e.1
  have h2 := of_decide_eq_true e.2
  omega
theorem wr {x q : Int} (hx : 0 ≤ x ∧ x ≤ 500) (hq : 0 ≤ q ∧ q ≤ 1000) : wrap64 (x * q) = x * q := by
  have h1 : (x * q).natAbs ≤ 500 * 1000 := by rw [Int.natAbs_mul]; exact Nat.mul_le_mul (by omega) (by omega)
  exact wrap_id (by omega) (by omega)
theorem scale {g x y : Int} (hg : 0 < g) : g * x ≤ g * y ↔ x ≤ y :=
  ⟨fun h => Int.le_of_mul_le_mul_left h hg, fun h => Int.mul_le_mul_of_nonneg_left h (by omega)⟩

def sumlen (l : List (List Int)) : Nat := (l.map List.length).sum
theorem szSum_l0 (l : List (List Int)) (hl : l.length ≤ 1048576) (hm : ∀ x ∈ l, x.length ≤ 2 ^ 63 - 1) (d : Nat) : ∀ (k i : Nat) (a : Int), i + d = l.length → d < k → 0 ≤ a → a ≤ 1048576 →
    laws_szIntSS.l0 k l a i = some (-1) ∨ ∃ r, laws_szIntSS.l0 k l a i = some r ∧ 0 ≤ r ∧ r + (sumlen (l.drop i) : Int) = a := by
  induction d with
  | zero =>
    intro k i a hi hk h0 h1
    obtain ⟨k, rfl⟩ : ∃ m, k = m + 1 := ⟨k - 1, by omega⟩
    refine .inr ⟨a, ?_, h0, ?_⟩
    · simp only [laws_szIntSS.l0]
      rw [if_neg (by omega)]
    · rw [List.drop_eq_nil_of_le (by omega)]
      simp [sumlen]
  | succ d ih =>
    intro k i a hi hk h0 h1
    obtain ⟨k, rfl⟩ : ∃ m, k = m + 1 := ⟨k - 1, by omega⟩
    have e : wrap64 ((i : Int) + 1) = ((i + 1 : Nat) : Int) := by rw [wrap_id (by omega) (by omega)]; omega
    have hy : (at_ l i).length ≤ 9223372036854775807 := hm _ (at_mem (l := l) (i := i) (by omega))
    have w : wrap64 (a - ((at_ l i).length : Int)) = a - ((at_ l i).length : Int) := wrap_id (by omega) (by omega)
    have hd : l.drop i = at_ l i :: l.drop (i + 1) := by
      rw [List.drop_eq_getElem_cons (show i < l.length by omega)]
      unfold at_
      rw [List.getD_eq_getElem?_getD, List.getElem?_eq_getElem (show i < l.length by omega)]
      rfl
    have hs : sumlen (l.drop i) = (at_ l i).length + sumlen (l.drop (i + 1)) := by rw [hd]; simp [sumlen]
    simp only [laws_szIntSS.l0, laws_szIntS.f]
    rw [if_pos (by omega), if_pos (by omega), rd_nat, w]
    by_cases c : a - ((at_ l i).length : Int) < 0
    · rw [if_pos c]
      exact .inl rfl
    · rw [if_neg c]
      simp only [Option.bind_some]
      rw [if_neg c, e]
      rcases ih k (i + 1) _ (by omega) (by omega) (show 0 ≤ a - ((at_ l i).length : Int) by omega) (by omega) with h | ⟨r, h, hr, hj⟩
      · exact .inl h
      · exact .inr ⟨r, h, hr, by omega⟩
theorem sumlen_mem {l : List (List Int)} : ∀ x ∈ l, x.length ≤ sumlen l := by
  induction l with
  | nil => intro x h; cases h
  | cons y ys ih =>
    intro x h
    have e : sumlen (y :: ys) = y.length + sumlen ys := by simp [sumlen]
    rcases List.mem_cons.1 h with rfl | h
    · omega
    · have := ih x h; omega
theorem markSS_l0 (rest : List (List Int)) : ∀ (pre : List (List Int)) (k : Nat) (m : Int), rest.length + 2000000 < k → 0 ≤ m → m + (sumlen rest : Int) ≤ 100000000 → pre.length + rest.length ≤ 1000000000 → (∀ x ∈ rest, x.length ≤ 1048576) →
    ∃ R, laws_markIntSS.l0 k (pre ++ rest) m pre.length = some (m + (sumlen rest : Int), R) := by
  induction rest with
  | nil =>
    intro pre k m hk h0 h1 hb _
    obtain ⟨k, rfl⟩ : ∃ m, k = m + 1 := ⟨k - 1, by omega⟩
    refine ⟨pre ++ [], ?_⟩
    simp only [laws_markIntSS.l0]
    rw [if_neg (by simp)]
    simp [sumlen]
  | cons y ys ih =>
    intro pre k m hk h0 h1 hb hx
    simp only [List.length_cons] at hk hb
    have es : sumlen (y :: ys) = y.length + sumlen ys := by simp [sumlen]
    obtain ⟨k, rfl⟩ : ∃ m, k = m + 1 := ⟨k - 1, by omega⟩
    have e1 : wrap64 ((pre.length : Int) + 1) = (((pre ++ [upto m y.length]).length : Nat) : Int) := by rw [wrap_id (by omega) (by omega)]; simp
    have hy := hx y (by simp)
    have e3 : (pre ++ y :: ys).set ((pre.length : Int)).toNat (upto m y.length) = (pre ++ [upto m y.length]) ++ ys := by
      rw [Int.toNat_natCast, List.set_append_right _ _ (by simp), Nat.sub_self]
      simp
    have e4 : (pre ++ y :: ys).getD ((pre.length : Int)).toNat [] = y := at_mid pre y ys
    obtain ⟨R, hR⟩ := ih (pre ++ [upto m y.length]) k (m + (y.length : Int)) (by omega) (by omega) (by omega) (by simp; omega) (fun x h => hx x (List.mem_cons_of_mem _ h))
    refine ⟨R, ?_⟩
    simp only [laws_markIntSS.l0]
    rw [if_pos (by simp; omega), if_pos (by omega), e4, mark_eq k y m h0 (by omega) (by omega) (by omega)]
    simp only [Option.bind_some]
    rw [e3, e1, hR, es]
    congr 2
    omega
theorem markSS_eq (k : Nat) (l : List (List Int)) (m : Int) (hk : 4000000 < k) (h0 : 0 ≤ m) (h1 : m + (sumlen l : Int) ≤ 100000000) (hl : l.length ≤ 1048576) (hx : ∀ x ∈ l, x.length ≤ 1048576) : ∃ R, laws_markIntSS.f k l m = some (m + (sumlen l : Int), R) := by
  obtain ⟨R, h⟩ := markSS_l0 l [] k m (by omega) h0 h1 (by simp; omega) hx
  exact ⟨R, by simpa [laws_markIntSS.f] using h⟩
theorem sees_both (k : Nat) (hk : 2000 ≤ k) {l0 l1 : List Int} {l h : Int} (h0 : impl_arePoints.ok l0 = true) (h1 : impl_arePoints.ok l1 = true) (hr : rng l h = true) : ∃ t, spec_miSees.f k l0 l1 l h = some t ∧ impl_seesIn.f l0 l1 l h = some t := by
  have z := rng_of hr
  obtain ⟨a, b, rfl, a0, a1, b0, b1⟩ := ok_of h0
  obtain ⟨c, d, rfl, c0, c1, d0, d1⟩ := ok_of h1
  obtain ⟨g, p, q, hg, hq, hp, e1, e2, e3⟩ := miLook_red k (by omega) ⟨a0, a1⟩ ⟨b0, b1⟩ ⟨c0, c1⟩ ⟨d0, d1⟩
  have hq2 : q ≤ g * q := le_mul_of hg hq
  refine ⟨decide (l * q ≤ p ∧ p ≤ h * q), ?_, ?_⟩
  · simp only [spec_miSees.f]
    rw [e3]
    simp only [Option.bind_some]
    rw [wr (x := l) ⟨by omega, by omega⟩ ⟨by omega, by omega⟩, wr (x := h) ⟨by omega, by omega⟩ ⟨by omega, by omega⟩]
    by_cases c : l * q ≤ p <;> simp [c]
  · simp only [impl_seesIn.f]
    rw [lookedAt_eq ⟨a0, a1⟩ ⟨b0, b1⟩ ⟨c0, c1⟩ ⟨d0, d1⟩]
    simp only [Option.bind_some]
    rw [wr (x := l) ⟨by omega, by omega⟩ ⟨by omega, by omega⟩, wr (x := h) ⟨by omega, by omega⟩ ⟨by omega, by omega⟩, within_eq, e1, e2]
    simp only [Option.bind_some, Int.mul_left_comm _ g q, scale hg]
theorem sn_small {n : Nat} (h : n ≤ 1000) : n < 17592186044416 := by omega
theorem run {l0 : List Int} {l : List (List Int)} {lo hi : Int} (h0 : impl_arePoints.ok l0 = true) (ha : ∀ x ∈ l, impl_arePoints.ok x = true) (hr : rng lo hi = true) (hl : l.length ≤ 10) (d : Nat) : ∀ (k k' i : Nat) (o : List Int), i + d = l.length → d + 2000 < k → d + 2000 < k' → o.length ≤ i →
    ∃ r : List Int, spec_SeenIn.l0 k l0 lo hi o l l.length i = some (r, true) ∧ impl_SeenIn.l0 k' l0 lo hi o l l.length i = some (r, true) ∧ r.length ≤ 10 := by
  induction d with
  | zero =>
    intro k k' i o hi' hk hk' ho
    obtain ⟨k, rfl⟩ : ∃ m, k = m + 1 := ⟨k - 1, by omega⟩
    obtain ⟨k', rfl⟩ : ∃ m, k' = m + 1 := ⟨k' - 1, by omega⟩
    exact ⟨o, by rw [spec_SeenIn.l0, if_neg (by omega)], by rw [impl_SeenIn.l0, if_neg (by omega)], by omega⟩
  | succ d ih =>
    intro k k' i o hi' hk hk' ho
    obtain ⟨k, rfl⟩ : ∃ m, k = m + 1 := ⟨k - 1, by omega⟩
    obtain ⟨k', rfl⟩ : ∃ m, k' = m + 1 := ⟨k' - 1, by omega⟩
    have hI : (i : Int) < (l.length : Int) := by omega
    have h00 : (0 : Int) ≤ i := by omega
    have hos : o.length < 17592186044416 := sn_small (by omega)
    have e : wrap64 ((i : Int) + 1) = ((i + 1 : Nat) : Int) := by rw [wrap_id (by omega) (by omega)]; omega
    obtain ⟨t, t1, t2⟩ := sees_both k (by omega) h0 (ha _ (at_mem (l := l) (i := i) (by omega))) hr
    have n1 := ih k k' (i + 1)
    rw [spec_SeenIn.l0, impl_SeenIn.l0, rd_nat, t1, t2, e]
    cases t with
    | true =>
      obtain ⟨r, r1, r2, r3⟩ := n1 (o ++ [(i : Int)]) (by omega) (by omega) (by omega) (by rw [List.length_append]; show o.length + 1 ≤ i + 1; omega)
      exact ⟨r, (if_pos hI).trans ((if_pos h00).trans ((if_pos hI).trans ((Option.bind_some _ _).trans ((if_pos rfl).trans ((if_pos hos).trans r1))))), (if_pos hI).trans ((if_pos h00).trans ((if_pos hI).trans ((Option.bind_some _ _).trans ((if_pos rfl).trans ((if_pos hos).trans r2))))), r3⟩
    | false =>
      obtain ⟨r, r1, r2, r3⟩ := n1 o (by omega) (by omega) (by omega) (by omega)
      exact ⟨r, (if_pos hI).trans ((if_pos h00).trans ((if_pos hI).trans ((Option.bind_some _ _).trans ((if_neg Bool.false_ne_true).trans r1)))), (if_pos hI).trans ((if_pos h00).trans ((if_pos hI).trans ((Option.bind_some _ _).trans ((if_neg Bool.false_ne_true).trans r2)))), r3⟩
theorem both (k : Nat) (hk : 4000 ≤ k) (l0 : List Int) (l : List (List Int)) (lo hi : Int) : ∃ (r : List Int) (b : Bool), spec_SeenIn.f k l0 l lo hi = some (r, b) ∧ impl_SeenIn.f k l0 l lo hi = some (r, b) ∧ r.length ≤ 10 := by
  obtain ⟨k, rfl⟩ : ∃ m, k = m + 1 := ⟨k - 1, by omega⟩
  unfold spec_SeenIn.f impl_SeenIn.f
  rw [miPoint_eq (k + 1) l0 (by omega), miPoints_eq (k + 1) l (by omega)]
  simp only [Option.bind_some, impl_arePoints.f, List.all_cons, List.all_nil, Bool.and_true, miRange_eq, isPart_eq, spec_SeenIn.j0, impl_SeenIn.j0]
  cases h0 : impl_arePoints.ok l0 with
  | false => exact ⟨[], false, by simp, by simp, by simp⟩
  | true =>
    by_cases c : (l.length : Int) > 10
    · refine ⟨[], false, by simp [c], ?_, by simp⟩
      cases l.all impl_arePoints.ok <;> simp [c]
    · rw [if_neg c, if_neg c]
      cases ha : l.all impl_arePoints.ok with
      | false => exact ⟨[], false, by simp, by simp, by simp⟩
      | true =>
        cases hr : rng lo hi with
        | false => exact ⟨[], false, by simp, by simp, by simp⟩
        | true =>
          obtain ⟨r, r1, r2, r3⟩ := run h0 (List.all_eq_true.1 ha) hr (by omega) l.length k k 0 [] (by omega) (by omega) (by omega) (by simp)
          exact ⟨r, true, by simpa using r1, by simpa using r2, r3⟩
theorem main : laws_FnExactSeenIn.Pure := by
  intro l0 l lo hi _ _ _ hm hx _ _
  obtain ⟨k, hk⟩ : ∃ k : Nat, 5000000 ≤ k := ⟨5000000, Nat.le_refl _⟩
  refine ⟨k, ?_⟩
  unfold maxLen at hm hx
  unfold laws_FnExactSeenIn.f
  by_cases c0 : (l0.length : Int) > 1048576
  · rw [if_pos c0]
  have w : wrap64 (1048576 - (l.length : Int)) = 1048576 - (l.length : Int) := wrap_id (by omega) (by omega)
  rw [if_neg c0]
  have hsz : laws_szIntSS.f k l 1048576 = some (-1) ∨ l.length ≤ 1048576 ∧ ∃ r, laws_szIntSS.f k l 1048576 = some r ∧ 0 ≤ r ∧ r + (sumlen l : Int) ≤ 1048576 := by
    unfold laws_szIntSS.f
    rw [w]
    by_cases c : 1048576 - (l.length : Int) < 0
    · rw [if_pos c]
      exact .inl rfl
    · rw [if_neg c]
      rcases szSum_l0 l (by omega) (fun x h => (hx x h).1) l.length k 0 (1048576 - (l.length : Int)) (by omega) (by omega) (by omega) (by omega) with h | ⟨r, h, hr, hj⟩
      · exact .inl (by simpa using h)
      · rw [List.drop_zero] at hj
        exact .inr ⟨by omega, r, by simpa using h, hr, by omega⟩
  rcases hsz with h | ⟨hl, r, h, hr, hs⟩
  · rw [h]
    rfl
  · rw [h]
    simp only [Option.bind_some]
    rw [if_neg (by omega)]
    have hsum : sumlen l ≤ 1048576 := by omega
    have hx2 : ∀ x ∈ l, x.length ≤ 1048576 := fun x h => by have := sumlen_mem x h; omega
    have hl0 : l0.length ≤ 1048576 := by omega
    obtain ⟨out, b, s1, s2, s3⟩ := both k (by omega) l0 l lo hi
    obtain ⟨R2, hm2⟩ := markSS_eq k l (1 + (l0.length : Int)) (by omega) (by omega) (by omega) hl hx2
    have g : SiG k l0 l lo hi := ⟨out, b, _, _, _, _, R2, _, ⟨toIntS_eq k l0 (by omega) (by omega), toIntSS_eq k l (by omega) hl hx2, s1, s2, eqIntS_same k out (by omega) (by omega), eqIntS_same k l0 (by omega) (by omega), eqIntSS_same k l (by omega) hl hx2, mark_eq k l0 1 (by omega) (by omega) (by omega) (by omega), hm2, by omega, mark_eq k out 1 (by omega) (by omega) (by omega) (by omega), by omega, held_eq k out.length 1 (by omega) (by omega) (by omega) (by omega), upto_len 1 out.length⟩⟩
    exact if_pos g
end LFnExactSeenIn

theorem FnExactSeenIn : laws_FnExactSeenIn.Pure := LFnExactSeenIn.main

end Go.Proofs.Ytfdnhipjiofnaaa.Pure
