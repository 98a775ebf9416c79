/- For every two spots the program's TouchesByCorner and the reference's give the same lists, which are the caller's own; no condition beyond the numbers' kinds. -/
import Derived.Test.YtnapdbffnlhibaaPFnExactTouchesByCornerx3
namespace Go.Proofs.Ytnapdbffnlhibaa.Pure
open Go.RowKit Go.Proofs.Ytnapdbffnlhibaa.PFnExactTouchesByCorner Go.Proofs.YtnapdbffnlhibaaW.PrintWords Go.Proofs.YtnapdbffnlhibaaW.PrintLast
set_option linter.unusedVariables false
set_option linter.unusedSimpArgs false

namespace LFnExactTouchesByCorner
theorem within_eq (a b c : Int) : impl_within.f a b c = some (decide (b ≤ a ∧ a ≤ c)) := by
  by_cases h1 : b ≤ a <;> by_cases h2 : a ≤ c <;> simp [impl_within.f, h1, h2]

theorem l1In_eq (a b c : Int) : spec_l1In.f a b c = some (decide (b ≤ a ∧ a ≤ c)) := by
  by_cases h1 : b ≤ a <;> by_cases h2 : a ≤ c <;> simp [spec_l1In.f, h1, h2]

/-- A spot. -/
def sp (x y : Int) : Bool := decide ((-1000 ≤ x ∧ x ≤ 1000) ∧ 1 ≤ y ∧ y ≤ 1000)
theorem sp_of {x y : Int} (h : sp x y = true) : -1000 ≤ x ∧ x ≤ 1000 ∧ 1 ≤ y ∧ y ≤ 1000 := by
  have := of_decide_eq_true h
  omega

theorem isShift_eq (x : Int) : impl_isShift.f x = some (decide (-1000 ≤ x ∧ x ≤ 1000)) := by
  simp only [impl_isShift.f, within_eq, Option.bind_some]

theorem IsSpot_eq (x y : Int) : impl_IsSpot.f x y = some (sp x y) := by
  simp only [impl_IsSpot.f, isShift_eq, within_eq, Option.bind_some, sp]
  by_cases h1 : -1000 ≤ x ∧ x ≤ 1000 <;> by_cases h2 : 1 ≤ y ∧ y ≤ 1000 <;> simp [h1, h2]

theorem lwSpot_eq (x y : Int) : spec_lwSpot.f x y = some (sp x y) := by
  simp only [spec_lwSpot.f, l1In_eq, Option.bind_some, sp]
  by_cases h1 : -1000 ≤ x ∧ x ≤ 1000 <;> by_cases h2 : 1 ≤ y ∧ y ≤ 1000 <;> simp [h1, h2]

theorem wrap_id {n : Int} (h0 : -9223372036854775808 ≤ n) (h1 : n ≤ 9223372036854775807) : wrap64 n = n := by
  unfold wrap64
  omega

theorem tdiv_le (a b : Int) : (a.tdiv b).natAbs ≤ a.natAbs := by
  rw [Int.natAbs_tdiv]
  exact Nat.div_le_self _ _
theorem wrap_tdiv {a b : Int} (h : a.natAbs ≤ 4611686018427387904) : wrap64 (a.tdiv b) = a.tdiv b := by
  have := tdiv_le a b
  exact wrap_id (by omega) (by omega)

theorem gcd_step (a b : Int) : Nat.gcd b.natAbs (a.tmod b).natAbs = Nat.gcd a.natAbs b.natAbs := by
  rw [Int.natAbs_tmod, Nat.gcd_comm a.natAbs, Nat.gcd_rec b.natAbs a.natAbs, Nat.gcd_comm]
theorem gcd_l0 (d : Nat) : ∀ (k : Nat) (a b : Int), b.natAbs ≤ d → d < k → a.natAbs ≤ 4611686018427387904 → b.natAbs ≤ 4611686018427387904 →
    impl_gcd.l0 k a b = some ((Nat.gcd a.natAbs b.natAbs : Nat) : Int) := by
  induction d with
  | zero =>
    intro k a b hb hk ha hb'
    obtain ⟨k, rfl⟩ : ∃ m, k = m + 1 := ⟨k - 1, by omega⟩
    have h0 : b = 0 := by omega
    simp only [impl_gcd.l0]
    rw [if_pos h0, wrap_id (by omega) (by omega)]
    subst h0
    simp only [Int.natAbs_zero, Nat.gcd_zero_right, Option.some.injEq]
    unfold mx
    split <;> omega
  | succ d ih =>
    intro k a b hb hk ha hb'
    obtain ⟨k, rfl⟩ : ∃ m, k = m + 1 := ⟨k - 1, by omega⟩
    simp only [impl_gcd.l0]
    by_cases h0 : b = 0
    · subst h0
      rw [if_pos rfl, wrap_id (by omega) (by omega)]
      simp only [Int.natAbs_zero, Nat.gcd_zero_right, Option.some.injEq]
      unfold mx
      split <;> omega
    · have hm : (a.tmod b).natAbs < b.natAbs := by
        rw [Int.natAbs_tmod]
        exact Nat.mod_lt _ (by omega)
      rw [if_neg h0, ih k b (a.tmod b) (by omega) (by omega) hb' (by omega), gcd_step]
theorem gcd_eq (k : Nat) (a b : Int) (hk : b.natAbs < k) (ha : a.natAbs ≤ 4611686018427387904) (hb : b.natAbs ≤ 4611686018427387904) :
    impl_gcd.f k a b = some ((Nat.gcd a.natAbs b.natAbs : Nat) : Int) := gcd_l0 b.natAbs k a b (Nat.le_refl _) hk ha hb

theorem gcd_pos {a b : Int} (hb : b ≠ 0) : ((Nat.gcd a.natAbs b.natAbs : Nat) : Int) ≠ 0 := by
  have : 0 < Nat.gcd a.natAbs b.natAbs := Nat.gcd_pos_of_pos_right _ (by omega)
  omega
theorem fraction_eq (k : Nat) (a b : Int) (hk : b.natAbs < k) (h0 : b ≠ 0) (ha : a.natAbs ≤ 4611686018427387904) (hb : b.natAbs ≤ 4611686018427387904) :
    impl_fraction.f k a b = some (a.tdiv (Nat.gcd a.natAbs b.natAbs : Nat), b.tdiv (Nat.gcd a.natAbs b.natAbs : Nat), true) := by
  unfold impl_fraction.f
  rw [gcd_eq k a b hk ha hb]
  simp only [Option.bind_some]
  rw [if_neg (gcd_pos h0), wrap_tdiv ha, wrap_tdiv hb]

theorem gcd_step2 (a b : Int) : Nat.gcd b.natAbs (a.tmod b).natAbs = Nat.gcd a.natAbs b.natAbs := by
  rw [Int.natAbs_tmod, Nat.gcd_comm a.natAbs, Nat.gcd_rec b.natAbs a.natAbs, Nat.gcd_comm]

theorem clLow_l0 (d : Nat) : ∀ (k : Nat) (x y a b : Int), b.natAbs ≤ d → d < k → 0 ≤ a → 0 ≤ b → (a ≠ 0 ∨ b ≠ 0) → x.natAbs ≤ 4611686018427387904 → y.natAbs ≤ 4611686018427387904 →
    spec_clLow.l0 k x y a b = some (x.tdiv (Nat.gcd a.natAbs b.natAbs : Nat), y.tdiv (Nat.gcd a.natAbs b.natAbs : Nat)) := by
  induction d with
  | zero =>
    intro k x y a b hb hk ha hb' hn hx hy
    obtain ⟨k, rfl⟩ : ∃ m, k = m + 1 := ⟨k - 1, by omega⟩
    have h0 : b = 0 := by omega
    simp only [spec_clLow.l0]
    rw [if_neg (by omega), if_neg (by omega), wrap_tdiv hx, wrap_tdiv hy]
    subst h0
    simp only [Int.natAbs_zero, Nat.gcd_zero_right]
    rw [show ((a.natAbs : Nat) : Int) = a by omega]
  | succ d ih =>
    intro k x y a b hb hk ha hb' hn hx hy
    obtain ⟨k, rfl⟩ : ∃ m, k = m + 1 := ⟨k - 1, by omega⟩
    simp only [spec_clLow.l0]
    by_cases h0 : b = 0
    · subst h0
      rw [if_neg (by omega), if_neg (by omega), wrap_tdiv hx, wrap_tdiv hy]
      simp only [Int.natAbs_zero, Nat.gcd_zero_right]
      rw [show ((a.natAbs : Nat) : Int) = a by omega]
    · have hm : (a.tmod b).natAbs < b.natAbs := by
        rw [Int.natAbs_tmod]
        exact Nat.mod_lt _ (by omega)
      rw [if_pos (by omega), if_neg h0, ih k x y b (a.tmod b) (by omega) (by omega) hb' (Int.tmod_nonneg _ ha) (by omega) hx hy, gcd_step2]
theorem clLow_eq (k : Nat) (a b : Int) (hk : b.natAbs < k) (h0 : 0 ≤ a) (hb0 : 0 < b) (ha : a ≤ 4611686018427387904) (hb : b ≤ 4611686018427387904) :
    spec_clLow.f k a b = some (a.tdiv (Nat.gcd a.natAbs b.natAbs : Nat), b.tdiv (Nat.gcd a.natAbs b.natAbs : Nat)) :=
  clLow_l0 b.natAbs k a b a b (Nat.le_refl _) hk h0 (by omega) (by omega) (by omega) (by omega)

theorem spok_eq (x y : Int) : impl_areSpots.ok ⟨x, y⟩ = sp x y := by
  unfold impl_areSpots.ok
  rw [IsSpot_eq]
  rfl
theorem areSpots_eq (x y a b : Int) : impl_areSpots.f [⟨x, y⟩, ⟨a, b⟩] = some (sp x y && sp a b) := by
  simp [impl_areSpots.f, spok_eq]

theorem lwTwo_eq (x y a b : Int) : spec_lwTwo.f x y a b = some (sp x y && sp a b) := by
  simp only [spec_lwTwo.f, lwSpot_eq, Option.bind_some]
  cases sp x y <;> simp

def inCo (x y a b : Int) : Bool := (sp x y && sp a b) && decide (1 ≤ x ∧ 1 ≤ a)
theorem inCo_of {x y a b : Int} (h : inCo x y a b = true) : (1 ≤ x ∧ x ≤ 1000 ∧ 1 ≤ y ∧ y ≤ 1000) ∧ 1 ≤ a ∧ a ≤ 1000 ∧ 1 ≤ b ∧ b ≤ 1000 := by
  simp only [inCo, Bool.and_eq_true, decide_eq_true_eq] at h
  have h1 := sp_of h.1.1
  have h2 := sp_of h.1.2
  omega
theorem areInCorner_eq (x y a b : Int) : impl_areInCorner.f x y a b = some (inCo x y a b) := by
  simp only [impl_areInCorner.f, areSpots_eq, Option.bind_some, inCo]
  cases (sp x y && sp a b)
  · simp
  by_cases h1 : 1 ≤ x <;> by_cases h2 : 1 ≤ a <;> simp [h1, h2]
theorem lwCorner_eq (x y a b : Int) : spec_lwCorner.f x y a b = some (inCo x y a b) := by
  simp only [spec_lwCorner.f, lwTwo_eq, Option.bind_some, inCo]
  cases (sp x y && sp a b)
  · simp
  have e1 : (x > 0) = (1 ≤ x) := propext ⟨by omega, by omega⟩
  have e2 : (a > 0) = (1 ≤ a) := propext ⟨by omega, by omega⟩
  by_cases h1 : 1 ≤ x <;> by_cases h2 : 1 ≤ a <;> simp [e1, e2, h1, h2]

theorem lwLow_eq (k : Nat) (a b : Int) (hk : b.natAbs < k) (hb0 : 0 < b) (ha : a.natAbs ≤ 1000000000000) (hb : b ≤ 1000000000000) :
    spec_lwLow.f k a b = some (a.tdiv (Nat.gcd a.natAbs b.natAbs : Nat), b.tdiv (Nat.gcd a.natAbs b.natAbs : Nat)) := by
  unfold spec_lwLow.f
  by_cases h : a < 0
  · rw [if_pos h, wrap_id (by omega) (by omega), clLow_eq k (-a) b hk (by omega) hb0 (by omega) (by omega)]
    simp only [Option.bind_some, Int.natAbs_neg, Int.neg_tdiv]
    have := tdiv_le a (Nat.gcd a.natAbs b.natAbs : Nat)
    rw [wrap_id (by omega) (by omega), Int.neg_neg]
  · rw [if_neg h, clLow_eq k a b hk (by omega) hb0 (by omega) (by omega)]
    rfl

/-- The reference's way to a touch is the program's fraction. -/
theorem lwTouch_eq (k : Nat) (x y a b : Int) (hk : 2000 < k) (hx : -1000 ≤ x ∧ x ≤ 1000) (ha : -1000 ≤ a ∧ a ≤ 1000) (hy : 1 ≤ y ∧ y ≤ 1000) (hb : 1 ≤ b ∧ b ≤ 1000) :
    ∃ n d, spec_lwTouch.f k x a y (wrap64 (y + b)) = some (n, d) ∧ impl_fraction.f k (wrap64 (wrap64 (x * b) + wrap64 (a * y))) (wrap64 (y + b)) = some (n, d, true) := by
  have m1 : (x * b).natAbs ≤ 1000 * 1000 := by rw [Int.natAbs_mul]; exact Nat.mul_le_mul (by omega) (by omega)
  have m2 : (a * y).natAbs ≤ 1000 * 1000 := by rw [Int.natAbs_mul]; exact Nat.mul_le_mul (by omega) (by omega)
  have m3 : (x * y).natAbs ≤ 1000 * 1000 := by rw [Int.natAbs_mul]; exact Nat.mul_le_mul (by omega) (by omega)
  have e1 : x * (y + b) = x * y + x * b := Int.mul_add ..
  have e2 : (a - x) * y = a * y - x * y := Int.sub_mul ..
  have w1 : wrap64 (y + b) = y + b := wrap_id (by omega) (by omega)
  have w2 : wrap64 (a - x) = a - x := wrap_id (by omega) (by omega)
  have w3 : wrap64 (x * (y + b)) = x * y + x * b := by rw [e1]; exact wrap_id (by omega) (by omega)
  have w4 : wrap64 ((a - x) * y) = a * y - x * y := by rw [e2]; exact wrap_id (by omega) (by omega)
  have w5 : wrap64 (x * y + x * b + (a * y - x * y)) = x * b + a * y := by rw [wrap_id (by omega) (by omega)]; omega
  have w6 : wrap64 (x * b) = x * b := wrap_id (by omega) (by omega)
  have w7 : wrap64 (a * y) = a * y := wrap_id (by omega) (by omega)
  have w8 : wrap64 (x * b + a * y) = x * b + a * y := wrap_id (by omega) (by omega)
  refine ⟨(x * b + a * y).tdiv (Nat.gcd (x * b + a * y).natAbs (y + b).natAbs : Nat), (y + b).tdiv (Nat.gcd (x * b + a * y).natAbs (y + b).natAbs : Nat), ?_, ?_⟩
  · unfold spec_lwTouch.f
    rw [w1, w2, w3, w4, w5, lwLow_eq k (x * b + a * y) (y + b) (by omega) (by omega) (by omega) (by omega)]
    rfl
  · rw [w1, w6, w7, w8]
    exact fraction_eq k (x * b + a * y) (y + b) (by omega) (by omega) (by omega) (by omega)

theorem eqIntS_l0 (l : List Int) (hl : l.length ≤ 1000000000) (d : Nat) : ∀ (k i : Nat), i + d = l.length → d < k → laws_eqIntS.l0 k l l i = some true := by
  induction d with
  | zero =>
    intro k i hi hk
    obtain ⟨k, rfl⟩ : ∃ m, k = m + 1 := ⟨k - 1, by omega⟩
    simp only [laws_eqIntS.l0]
    rw [if_neg (by omega)]
  | succ d ih =>
    intro k i hi hk
    obtain ⟨k, rfl⟩ : ∃ m, k = m + 1 := ⟨k - 1, by omega⟩
    have e : wrap64 ((i : Int) + 1) = ((i + 1 : Nat) : Int) := by rw [wrap_id (by omega) (by omega)]; omega
    simp only [laws_eqIntS.l0]
    rw [if_pos (by omega), if_pos (by omega), if_pos (by omega)]
    simp only [if_true]
    rw [e]
    exact ih k (i + 1) (by omega) (by omega)
theorem eqIntS_same (k : Nat) (l : List Int) (hl : l.length ≤ 1000000000) (hk : l.length < k) : laws_eqIntS.f k l l = some true := by
  unfold laws_eqIntS.f
  rw [if_pos rfl]
  exact eqIntS_l0 l hl l.length k 0 (by omega) hk

/-- The numbers m, m + 1, .., as many as told. -/
def upto (m : Int) (n : Nat) : List Int := (List.range n).map fun j : Nat => m + (j : Int)
theorem upto_len (m : Int) (n : Nat) : (upto m n).length = n := by simp [upto]
theorem mark_l0 (m : Int) (h0 : 0 ≤ m) (h1 : m ≤ 1000000000) : ∀ (rest : List Int) (k i : Nat), rest.length < k → i + rest.length ≤ 1000000000 →
    laws_markIntS.l0 k (upto m i ++ rest) (m + i) i = some (m + ((i + rest.length : Nat) : Int), upto m (i + rest.length)) := by
  intro rest
  induction rest with
  | nil =>
    intro k i hk hb
    obtain ⟨k, rfl⟩ : ∃ m, k = m + 1 := ⟨k - 1, by simp at hk; omega⟩
    simp only [laws_markIntS.l0]
    rw [if_neg (by simp [upto_len])]
    simp
  | cons y ys ih =>
    intro k i hk hb
    simp only [List.length_cons] at hk hb ⊢
    obtain ⟨k, rfl⟩ : ∃ m, k = m + 1 := ⟨k - 1, by omega⟩
    have e1 : wrap64 ((i : Int) + 1) = ((i + 1 : Nat) : Int) := by rw [wrap_id (by omega) (by omega)]; omega
    have e2 : wrap64 (m + (i : Int) + 1) = m + ((i + 1 : Nat) : Int) := by rw [wrap_id (by omega) (by omega)]; omega
    have e3 : (upto m i ++ y :: ys).set ((i : Int)).toNat (m + (i : Int)) = upto m (i + 1) ++ ys := by
      rw [Int.toNat_natCast, List.set_append_right _ _ (by rw [upto_len]; exact Nat.le_refl _), upto_len, Nat.sub_self]
      simp [upto, List.range_succ]
    simp only [laws_markIntS.l0]
    rw [if_pos (by simp [upto_len]; omega), if_pos (by omega), e3, e1, e2, ih k (i + 1) (by omega) (by omega), show i + (ys.length + 1) = i + 1 + ys.length by omega]
theorem mark_eq (k : Nat) (l : List Int) (m : Int) (h0 : 0 ≤ m) (h1 : m ≤ 1000000000) (hl : l.length ≤ 1000000000) (hk : l.length < k) :
    laws_markIntS.f k l m = some (m + (l.length : Int), upto m l.length) := by
  have := mark_l0 m h0 h1 l k 0 hk (by omega)
  simpa [upto, laws_markIntS.f] using this
theorem held_l0 (m : Int) (n : Nat) (h0 : 0 ≤ m) (h1 : m ≤ 1000000000) (hn : n ≤ 1000000000) (d : Nat) : ∀ (k i : Nat), i + d = n → d < k →
    laws_heldIntS.l0 k (upto m n) (m + i) i = some (m + (n : Int)) := by
  induction d with
  | zero =>
    intro k i hi hk
    obtain ⟨k, rfl⟩ : ∃ m, k = m + 1 := ⟨k - 1, by omega⟩
    simp only [laws_heldIntS.l0]
    rw [if_neg (by simp [upto_len]; omega), show i = n by omega]
  | succ d ih =>
    intro k i hi hk
    obtain ⟨k, rfl⟩ : ∃ m, k = m + 1 := ⟨k - 1, by omega⟩
    have e1 : wrap64 ((i : Int) + 1) = ((i + 1 : Nat) : Int) := by rw [wrap_id (by omega) (by omega)]; omega
    have e2 : wrap64 (m + (i : Int) + 1) = m + ((i + 1 : Nat) : Int) := by rw [wrap_id (by omega) (by omega)]; omega
    have e3 : rd (upto m n) (i : Int) = m + (i : Int) := by
      unfold rd upto
      rw [Int.toNat_natCast, List.getD_eq_getElem?_getD, List.getElem?_map, List.getElem?_range (by omega)]
      rfl
    simp only [laws_heldIntS.l0]
    rw [if_pos (by simp [upto_len]; omega), if_pos (by omega), e3, if_pos rfl, e1, e2, ih k (i + 1) (by omega) (by omega)]
theorem held_eq (k n : Nat) (m : Int) (h0 : 0 ≤ m) (h1 : m ≤ 1000000000) (hn : n ≤ 1000000000) (hk : n < k) : laws_heldIntS.f k (upto m n) m = some (m + (n : Int)) := by
  have := held_l0 m n h0 h1 hn n k 0 (by omega) hk
  simpa [laws_heldIntS.f] using this

theorem abs_eq {a : Int} (h : a.natAbs ≤ 1000000000) : spec_l1Abs.f a = some (a.natAbs : Int) := by
  unfold spec_l1Abs.f spec_l1Most.f
  rw [wrap_id (by omega) (by omega)]
  split
  · simp only [Option.bind_some, Option.some.injEq]; omega
  · simp only [Option.bind_some, Option.some.injEq]; omega
theorem distance_eq {a b : Int} (h0 : 0 ≤ a) (h1 : a ≤ 1000000) (h2 : 0 ≤ b) (h3 : b ≤ 1000000) : impl_distance.f a b = some ((a - b).natAbs : Int) := by
  unfold impl_distance.f mx
  rw [wrap_id (by omega) (by omega), wrap_id (by omega) (by omega)]
  simp only [Option.some.injEq]
  split <;> omega
/-- One of both touches: the reference's, its size, and the program's. -/
theorem one (x y a b : Int) (hx : 1 ≤ x ∧ x ≤ 1000) (ha : 1 ≤ a ∧ a ≤ 1000) (hy : 1 ≤ y ∧ y ≤ 1000) (hb : 1 ≤ b ∧ b ≤ 1000) :
    ∃ n d, n.natAbs ≤ 1000000000 ∧ (∀ k : Nat, 2000 < k → spec_lwTouch.f k x (wrap64 (-a)) y (wrap64 (y + b)) = some (n, d)) ∧ ∀ (k : Nat) (e : Int), 2000 < k → e.natAbs = (x * b - a * y).natAbs → 0 ≤ e → impl_fraction.f k e (wrap64 (y + b)) = some ((n.natAbs : Int), d, true) := by
  have m1 : (x * b).natAbs ≤ 1000 * 1000 := by rw [Int.natAbs_mul]; exact Nat.mul_le_mul (by omega) (by omega)
  have m2 : (a * y).natAbs ≤ 1000 * 1000 := by rw [Int.natAbs_mul]; exact Nat.mul_le_mul (by omega) (by omega)
  have m3 : (x * y).natAbs ≤ 1000 * 1000 := by rw [Int.natAbs_mul]; exact Nat.mul_le_mul (by omega) (by omega)
  have e1 : x * (y + b) = x * y + x * b := Int.mul_add ..
  have e2 : (-a - x) * y = -(a * y) - x * y := by rw [Int.sub_mul, Int.neg_mul]
  have w0 : wrap64 (-a) = -a := wrap_id (by omega) (by omega)
  have w1 : wrap64 (y + b) = y + b := wrap_id (by omega) (by omega)
  have w2 : wrap64 (-a - x) = -a - x := wrap_id (by omega) (by omega)
  have w3 : wrap64 (x * (y + b)) = x * y + x * b := by rw [e1]; exact wrap_id (by omega) (by omega)
  have w4 : wrap64 ((-a - x) * y) = -(a * y) - x * y := by rw [e2]; exact wrap_id (by omega) (by omega)
  have w5 : wrap64 (x * y + x * b + (-(a * y) - x * y)) = x * b - a * y := by rw [wrap_id (by omega) (by omega)]; omega
  refine ⟨(x * b - a * y).tdiv (Nat.gcd (x * b - a * y).natAbs (y + b).natAbs : Nat), (y + b).tdiv (Nat.gcd (x * b - a * y).natAbs (y + b).natAbs : Nat), ?_, ?_, ?_⟩
  · have := tdiv_le (x * b - a * y) (Nat.gcd (x * b - a * y).natAbs (y + b).natAbs : Nat)
    omega
  · intro k hk
    unfold spec_lwTouch.f
    rw [w0, w1, w2, w3, w4, w5, lwLow_eq k (x * b - a * y) (y + b) (by omega) (by omega) (by omega) (by omega)]
    rfl
  · intro k e hk he h0
    rw [w1, fraction_eq k e (y + b) (by omega) (by omega) (by omega) (by omega), he]
    simp only [Option.some.injEq, Prod.mk.injEq, and_true]
    rw [Int.natAbs_tdiv, ← he, Int.natAbs_natCast]
    show e.tdiv ((Nat.gcd e.natAbs (y + b).natAbs : Nat) : Int) = ((e.natAbs / Nat.gcd e.natAbs (y + b).natAbs : Nat) : Int)
    have h1 : ((e.natAbs : Nat) : Int) = e := by omega
    rw [Int.natCast_ediv, h1, Int.tdiv_eq_ediv_of_nonneg h0]
theorem main : laws_FnExactTouchesByCorner.Pure := by
  intro x y a b _ _ _ _
  obtain ⟨k, hk⟩ : ∃ k : Nat, 3000 ≤ k := ⟨3000, Nat.le_refl _⟩
  refine ⟨k + 2, ?_⟩
  obtain ⟨g, b', l1, l2, hs, hi, c1, c2, hg⟩ : ∃ g b' l1 l2, (∀ k : Nat, 2000 < k → spec_TouchesByCorner.f k x y a b = some (l1, l2, b')) ∧ (∀ k : Nat, 2000 < k → impl_TouchesByCorner.f k x y a b = some (l1, l2, b')) ∧ l1.length = g ∧ l2.length = g ∧ g ≤ 2 := by
    cases h : inCo x y a b with
    | false => exact ⟨0, false, [], [], (fun k _ => by simp [spec_TouchesByCorner.f, lwCorner_eq, h]), (fun k _ => by simp [impl_TouchesByCorner.f, areInCorner_eq, h]), rfl, rfl, by omega⟩
    | true =>
      have z := inCo_of h
      have m1 : (x * b).natAbs ≤ 1000 * 1000 := by rw [Int.natAbs_mul]; exact Nat.mul_le_mul (by omega) (by omega)
      have m2 : (a * y).natAbs ≤ 1000 * 1000 := by rw [Int.natAbs_mul]; exact Nat.mul_le_mul (by omega) (by omega)
      have p1 : 0 ≤ x * b := Int.mul_nonneg (by omega) (by omega)
      have p2 : 0 ≤ a * y := Int.mul_nonneg (by omega) (by omega)
      have w6 : wrap64 (x * b) = x * b := wrap_id (by omega) (by omega)
      have w7 : wrap64 (a * y) = a * y := wrap_id (by omega) (by omega)
      obtain ⟨n1, d1, c1, s1, f1⟩ := one x y a b (by omega) (by omega) (by omega) (by omega)
      obtain ⟨n2, d2, c2, s2, f2⟩ := one y x b a (by omega) (by omega) (by omega) (by omega)
      refine ⟨2, true, [(n1.natAbs : Int), d1], [(n2.natAbs : Int), d2], (fun k hk => ?_), (fun k hk => ?_), rfl, rfl, by omega⟩
      · simp only [spec_TouchesByCorner.f, lwCorner_eq, h, Option.bind_some, if_true, s1 k hk, s2 k hk, abs_eq c1, abs_eq c2]
      · simp only [impl_TouchesByCorner.f, areInCorner_eq, h, Option.bind_some, if_true, w6, w7]
        rw [distance_eq p1 (by omega) p2 (by omega)]
        simp only [Option.bind_some]
        have e2 : y * a - b * x = -(x * b - a * y) := by rw [Int.mul_comm y a, Int.mul_comm b x]; omega
        rw [f1 k _ hk (by omega) (by omega), f2 k _ hk (by rw [e2]; omega) (by omega)]
        rfl
  simp only [laws_FnExactTouchesByCorner.f, laws_toSpot.f, Option.bind_some, hs (k + 2) (by omega), hi (k + 2) (by omega)]
  rw [eqIntS_same (k + 2) l1 (by omega) (by omega)]
  simp only [Option.bind_some, if_true]
  rw [eqIntS_same (k + 2) l2 (by omega) (by omega)]
  simp only [Option.bind_some, if_true, bne_self_eq_false, laws_FnExactTouchesByCorner.j0, Bool.false_eq_true, if_false]
  rw [mark_eq (k + 1) l1 1 (by omega) (by omega) (by omega) (by omega)]
  simp only [Option.bind_some]
  rw [mark_eq (k + 1) l2 (1 + (l1.length : Int)) (by omega) (by omega) (by omega) (by omega), held_eq (k + 1) l1.length 1 (by omega) (by omega) (by omega) (by omega)]
  simp only [Option.bind_some]
  rw [if_neg (by omega), held_eq (k + 1) l2.length (1 + (l1.length : Int)) (by omega) (by omega) (by omega) (by omega)]
  simp only [Option.bind_some, laws_toSpot.f, hi (k + 1) (by omega)]
  rw [if_neg (by omega), if_pos trivial, eqIntS_same (k + 1) l1 (by omega) (by omega)]
  simp only [Option.bind_some, if_true]
  rw [eqIntS_same (k + 1) l2 (by omega) (by omega)]
  simp only [Option.bind_some, if_true, bne_self_eq_false, laws_FnExactTouchesByCorner.j1, Bool.false_eq_true, if_false]
  rw [held_eq k l1.length 1 (by omega) (by omega) (by omega) (by omega)]
  simp only [Option.bind_some]
  rw [if_neg (by omega), held_eq k l2.length (1 + (l1.length : Int)) (by omega) (by omega) (by omega) (by omega)]
  simp only [Option.bind_some]
  rw [if_neg (by omega)]
  rfl
end LFnExactTouchesByCorner

theorem FnExactTouchesByCorner : laws_FnExactTouchesByCorner.Pure := LFnExactTouchesByCorner.main

end Go.Proofs.Ytnapdbffnlhibaa.Pure
