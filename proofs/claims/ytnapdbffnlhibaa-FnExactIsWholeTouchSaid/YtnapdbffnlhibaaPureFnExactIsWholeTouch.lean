/- For every two spots the program's IsWholeTouch and the reference's give the same; no condition beyond the numbers' kinds. -/
import Derived.Test.YtnapdbffnlhibaaPFnExactIsWholeTouchx2
namespace Go.Proofs.Ytnapdbffnlhibaa.Pure
open Go.RowKit Go.Proofs.Ytnapdbffnlhibaa.PFnExactIsWholeTouch Go.Proofs.YtnapdbffnlhibaaW.PrintWords Go.Proofs.YtnapdbffnlhibaaW.PrintLast
set_option linter.unusedVariables false
set_option linter.unusedSimpArgs false

namespace LFnExactIsWholeTouch
theorem within_eq (a b c : Int) : impl_within.f a b c = some (decide (b ≤ a ∧ a ≤ c)) := by
  by_cases h1 : b ≤ a <;> by_cases h2 : a ≤ c <;> simp [impl_within.f, h1, h2]

theorem l1In_eq (a b c : Int) : spec_l1In.f a b c = some (decide (b ≤ a ∧ a ≤ c)) := by
  by_cases h1 : b ≤ a <;> by_cases h2 : a ≤ c <;> simp [spec_l1In.f, h1, h2]

/-- A spot. -/
def sp (x y : Int) : Bool := decide ((-1000 ≤ x ∧ x ≤ 1000) ∧ 1 ≤ y ∧ y ≤ 1000)
theorem sp_of {x y : Int} (h : sp x y = true) : -1000 ≤ x ∧ x ≤ 1000 ∧ 1 ≤ y ∧ y ≤ 1000 := by
  have := of_decide_eq_true h
  omega

theorem isShift_eq (x : Int) : impl_isShift.f x = some (decide (-1000 ≤ x ∧ x ≤ 1000)) := by
  simp only [impl_isShift.f, within_eq, Option.bind_some]

theorem IsSpot_eq (x y : Int) : impl_IsSpot.f x y = some (sp x y) := by
  simp only [impl_IsSpot.f, isShift_eq, within_eq, Option.bind_some, sp]
  by_cases h1 : -1000 ≤ x ∧ x ≤ 1000 <;> by_cases h2 : 1 ≤ y ∧ y ≤ 1000 <;> simp [h1, h2]

theorem lwSpot_eq (x y : Int) : spec_lwSpot.f x y = some (sp x y) := by
  simp only [spec_lwSpot.f, l1In_eq, Option.bind_some, sp]
  by_cases h1 : -1000 ≤ x ∧ x ≤ 1000 <;> by_cases h2 : 1 ≤ y ∧ y ≤ 1000 <;> simp [h1, h2]

theorem wrap_id {n : Int} (h0 : -9223372036854775808 ≤ n) (h1 : n ≤ 9223372036854775807) : wrap64 n = n := by
  unfold wrap64
  omega

theorem tdiv_le (a b : Int) : (a.tdiv b).natAbs ≤ a.natAbs := by
  rw [Int.natAbs_tdiv]
  exact Nat.div_le_self _ _
theorem wrap_tdiv {a b : Int} (h : a.natAbs ≤ 4611686018427387904) : wrap64 (a.tdiv b) = a.tdiv b := by
  have := tdiv_le a b
  exact wrap_id (by omega) (by omega)

theorem gcd_step (a b : Int) : Nat.gcd b.natAbs (a.tmod b).natAbs = Nat.gcd a.natAbs b.natAbs := by
  rw [Int.natAbs_tmod, Nat.gcd_comm a.natAbs, Nat.gcd_rec b.natAbs a.natAbs, Nat.gcd_comm]
theorem gcd_l0 (d : Nat) : ∀ (k : Nat) (a b : Int), b.natAbs ≤ d → d < k → a.natAbs ≤ 4611686018427387904 → b.natAbs ≤ 4611686018427387904 →
    impl_gcd.l0 k a b = some ((Nat.gcd a.natAbs b.natAbs : Nat) : Int) := by
  induction d with
  | zero =>
    intro k a b hb hk ha hb'
    obtain ⟨k, rfl⟩ : ∃ m, k = m + 1 := ⟨k - 1, by omega⟩
    have h0 : b = 0 := by omega
    simp only [impl_gcd.l0]
    rw [if_pos h0, wrap_id (by omega) (by omega)]
    subst h0
    simp only [Int.natAbs_zero, Nat.gcd_zero_right, Option.some.injEq]
    unfold mx
    split <;> omega
  | succ d ih =>
    intro k a b hb hk ha hb'
    obtain ⟨k, rfl⟩ : ∃ m, k = m + 1 := ⟨k - 1, by omega⟩
    simp only [impl_gcd.l0]
    by_cases h0 : b = 0
    · subst h0
      rw [if_pos rfl, wrap_id (by omega) (by omega)]
      simp only [Int.natAbs_zero, Nat.gcd_zero_right, Option.some.injEq]
      unfold mx
      split <;> omega
    · have hm : (a.tmod b).natAbs < b.natAbs := by
        rw [Int.natAbs_tmod]
        exact Nat.mod_lt _ (by omega)
      rw [if_neg h0, ih k b (a.tmod b) (by omega) (by omega) hb' (by omega), gcd_step]
theorem gcd_eq (k : Nat) (a b : Int) (hk : b.natAbs < k) (ha : a.natAbs ≤ 4611686018427387904) (hb : b.natAbs ≤ 4611686018427387904) :
    impl_gcd.f k a b = some ((Nat.gcd a.natAbs b.natAbs : Nat) : Int) := gcd_l0 b.natAbs k a b (Nat.le_refl _) hk ha hb

theorem gcd_pos {a b : Int} (hb : b ≠ 0) : ((Nat.gcd a.natAbs b.natAbs : Nat) : Int) ≠ 0 := by
  have : 0 < Nat.gcd a.natAbs b.natAbs := Nat.gcd_pos_of_pos_right _ (by omega)
  omega
theorem fraction_eq (k : Nat) (a b : Int) (hk : b.natAbs < k) (h0 : b ≠ 0) (ha : a.natAbs ≤ 4611686018427387904) (hb : b.natAbs ≤ 4611686018427387904) :
    impl_fraction.f k a b = some (a.tdiv (Nat.gcd a.natAbs b.natAbs : Nat), b.tdiv (Nat.gcd a.natAbs b.natAbs : Nat), true) := by
  unfold impl_fraction.f
  rw [gcd_eq k a b hk ha hb]
  simp only [Option.bind_some]
  rw [if_neg (gcd_pos h0), wrap_tdiv ha, wrap_tdiv hb]

theorem gcd_step2 (a b : Int) : Nat.gcd b.natAbs (a.tmod b).natAbs = Nat.gcd a.natAbs b.natAbs := by
  rw [Int.natAbs_tmod, Nat.gcd_comm a.natAbs, Nat.gcd_rec b.natAbs a.natAbs, Nat.gcd_comm]

theorem clLow_l0 (d : Nat) : ∀ (k : Nat) (x y a b : Int), b.natAbs ≤ d → d < k → 0 ≤ a → 0 ≤ b → (a ≠ 0 ∨ b ≠ 0) → x.natAbs ≤ 4611686018427387904 → y.natAbs ≤ 4611686018427387904 →
    spec_clLow.l0 k x y a b = some (x.tdiv (Nat.gcd a.natAbs b.natAbs : Nat), y.tdiv (Nat.gcd a.natAbs b.natAbs : Nat)) := by
  induction d with
  | zero =>
    intro k x y a b hb hk ha hb' hn hx hy
    obtain ⟨k, rfl⟩ : ∃ m, k = m + 1 := ⟨k - 1, by omega⟩
    have h0 : b = 0 := by omega
    simp only [spec_clLow.l0]
    rw [if_neg (by omega), if_neg (by omega), wrap_tdiv hx, wrap_tdiv hy]
    subst h0
    simp only [Int.natAbs_zero, Nat.gcd_zero_right]
    rw [show ((a.natAbs : Nat) : Int) = a by omega]
  | succ d ih =>
    intro k x y a b hb hk ha hb' hn hx hy
    obtain ⟨k, rfl⟩ : ∃ m, k = m + 1 := ⟨k - 1, by omega⟩
    simp only [spec_clLow.l0]
    by_cases h0 : b = 0
    · subst h0
      rw [if_neg (by omega), if_neg (by omega), wrap_tdiv hx, wrap_tdiv hy]
      simp only [Int.natAbs_zero, Nat.gcd_zero_right]
      rw [show ((a.natAbs : Nat) : Int) = a by omega]
    · have hm : (a.tmod b).natAbs < b.natAbs := by
        rw [Int.natAbs_tmod]
        exact Nat.mod_lt _ (by omega)
      rw [if_pos (by omega), if_neg h0, ih k x y b (a.tmod b) (by omega) (by omega) hb' (Int.tmod_nonneg _ ha) (by omega) hx hy, gcd_step2]
theorem clLow_eq (k : Nat) (a b : Int) (hk : b.natAbs < k) (h0 : 0 ≤ a) (hb0 : 0 < b) (ha : a ≤ 4611686018427387904) (hb : b ≤ 4611686018427387904) :
    spec_clLow.f k a b = some (a.tdiv (Nat.gcd a.natAbs b.natAbs : Nat), b.tdiv (Nat.gcd a.natAbs b.natAbs : Nat)) :=
  clLow_l0 b.natAbs k a b a b (Nat.le_refl _) hk h0 (by omega) (by omega) (by omega) (by omega)

theorem spok_eq (x y : Int) : impl_areSpots.ok ⟨x, y⟩ = sp x y := by
  unfold impl_areSpots.ok
  rw [IsSpot_eq]
  rfl
theorem areSpots_eq (x y a b : Int) : impl_areSpots.f [⟨x, y⟩, ⟨a, b⟩] = some (sp x y && sp a b) := by
  simp [impl_areSpots.f, spok_eq]

theorem lwTwo_eq (x y a b : Int) : spec_lwTwo.f x y a b = some (sp x y && sp a b) := by
  simp only [spec_lwTwo.f, lwSpot_eq, Option.bind_some]
  cases sp x y <;> simp

theorem lwLow_eq (k : Nat) (a b : Int) (hk : b.natAbs < k) (hb0 : 0 < b) (ha : a.natAbs ≤ 1000000000000) (hb : b ≤ 1000000000000) :
    spec_lwLow.f k a b = some (a.tdiv (Nat.gcd a.natAbs b.natAbs : Nat), b.tdiv (Nat.gcd a.natAbs b.natAbs : Nat)) := by
  unfold spec_lwLow.f
  by_cases h : a < 0
  · rw [if_pos h, wrap_id (by omega) (by omega), clLow_eq k (-a) b hk (by omega) hb0 (by omega) (by omega)]
    simp only [Option.bind_some, Int.natAbs_neg, Int.neg_tdiv]
    have := tdiv_le a (Nat.gcd a.natAbs b.natAbs : Nat)
    rw [wrap_id (by omega) (by omega), Int.neg_neg]
  · rw [if_neg h, clLow_eq k a b hk (by omega) hb0 (by omega) (by omega)]
    rfl

/-- The reference's way to a touch is the program's fraction. -/
theorem lwTouch_eq (k : Nat) (x y a b : Int) (hk : 2000 < k) (hx : -1000 ≤ x ∧ x ≤ 1000) (ha : -1000 ≤ a ∧ a ≤ 1000) (hy : 1 ≤ y ∧ y ≤ 1000) (hb : 1 ≤ b ∧ b ≤ 1000) :
    ∃ n d, spec_lwTouch.f k x a y (wrap64 (y + b)) = some (n, d) ∧ impl_fraction.f k (wrap64 (wrap64 (x * b) + wrap64 (a * y))) (wrap64 (y + b)) = some (n, d, true) := by
  have m1 : (x * b).natAbs ≤ 1000 * 1000 := by rw [Int.natAbs_mul]; exact Nat.mul_le_mul (by omega) (by omega)
  have m2 : (a * y).natAbs ≤ 1000 * 1000 := by rw [Int.natAbs_mul]; exact Nat.mul_le_mul (by omega) (by omega)
  have m3 : (x * y).natAbs ≤ 1000 * 1000 := by rw [Int.natAbs_mul]; exact Nat.mul_le_mul (by omega) (by omega)
  have e1 : x * (y + b) = x * y + x * b := Int.mul_add ..
  have e2 : (a - x) * y = a * y - x * y := Int.sub_mul ..
  have w1 : wrap64 (y + b) = y + b := wrap_id (by omega) (by omega)
  have w2 : wrap64 (a - x) = a - x := wrap_id (by omega) (by omega)
  have w3 : wrap64 (x * (y + b)) = x * y + x * b := by rw [e1]; exact wrap_id (by omega) (by omega)
  have w4 : wrap64 ((a - x) * y) = a * y - x * y := by rw [e2]; exact wrap_id (by omega) (by omega)
  have w5 : wrap64 (x * y + x * b + (a * y - x * y)) = x * b + a * y := by rw [wrap_id (by omega) (by omega)]; omega
  have w6 : wrap64 (x * b) = x * b := wrap_id (by omega) (by omega)
  have w7 : wrap64 (a * y) = a * y := wrap_id (by omega) (by omega)
  have w8 : wrap64 (x * b + a * y) = x * b + a * y := wrap_id (by omega) (by omega)
  refine ⟨(x * b + a * y).tdiv (Nat.gcd (x * b + a * y).natAbs (y + b).natAbs : Nat), (y + b).tdiv (Nat.gcd (x * b + a * y).natAbs (y + b).natAbs : Nat), ?_, ?_⟩
  · unfold spec_lwTouch.f
    rw [w1, w2, w3, w4, w5, lwLow_eq k (x * b + a * y) (y + b) (by omega) (by omega) (by omega) (by omega)]
    rfl
  · rw [w1, w6, w7, w8]
    exact fraction_eq k (x * b + a * y) (y + b) (by omega) (by omega) (by omega) (by omega)

theorem main : laws_FnExactIsWholeTouch.Pure := by
  intro x y a b _ _ _ _
  obtain ⟨k, hk⟩ : ∃ k : Nat, 3000 ≤ k := ⟨3000, Nat.le_refl _⟩
  refine ⟨k, ?_⟩
  cases h : (sp x y && sp a b) with
  | false =>
    simp only [laws_FnExactIsWholeTouch.f, laws_toSpot.f, spec_IsWholeTouch.f, impl_IsWholeTouch.f, impl_TouchOf.f, areSpots_eq, lwTwo_eq, h, Option.bind_some]
    simp
  | true =>
    have h' := h
    rw [Bool.and_eq_true] at h'
    have z1 := sp_of h'.1
    have z2 := sp_of h'.2
    obtain ⟨n, d, h1, h2⟩ := lwTouch_eq k x y a b (by omega) (by omega) (by omega) (by omega) (by omega)
    simp only [laws_FnExactIsWholeTouch.f, laws_toSpot.f, spec_IsWholeTouch.f, impl_IsWholeTouch.f, impl_TouchOf.f, areSpots_eq, lwTwo_eq, h, h1, h2, Option.bind_some]
    simp
end LFnExactIsWholeTouch

theorem FnExactIsWholeTouch : laws_FnExactIsWholeTouch.Pure := LFnExactIsWholeTouch.main

end Go.Proofs.Ytnapdbffnlhibaa.Pure
