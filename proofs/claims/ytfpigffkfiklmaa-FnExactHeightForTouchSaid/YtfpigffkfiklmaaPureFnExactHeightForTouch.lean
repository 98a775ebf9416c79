/- For every spot and all numbers the program's HeightForTouch and the reference's give the same; no condition beyond the numbers' kinds. -/
import Derived.Test.YtfpigffkfiklmaaPFnExactHeightForTouchx2
namespace Go.Proofs.Ytfpigffkfiklmaa.Pure
open Go.RowKit Go.Proofs.Ytfpigffkfiklmaa.PFnExactHeightForTouch Go.Proofs.YtfpigffkfiklmaaW.PrintWords Go.Proofs.YtfpigffkfiklmaaW.PrintLast
set_option linter.unusedVariables false
set_option linter.unusedSimpArgs false

namespace LFnExactHeightForTouch
theorem within_eq (a b c : Int) : impl_within.f a b c = some (decide (b ≤ a ∧ a ≤ c)) := by
  by_cases h1 : b ≤ a <;> by_cases h2 : a ≤ c <;> simp [impl_within.f, h1, h2]

theorem l1In_eq (a b c : Int) : spec_l1In.f a b c = some (decide (b ≤ a ∧ a ≤ c)) := by
  by_cases h1 : b ≤ a <;> by_cases h2 : a ≤ c <;> simp [spec_l1In.f, h1, h2]

/-- A spot. -/
def sp (x y : Int) : Bool := decide ((-1000 ≤ x ∧ x ≤ 1000) ∧ 1 ≤ y ∧ y ≤ 1000)
theorem sp_of {x y : Int} (h : sp x y = true) : -1000 ≤ x ∧ x ≤ 1000 ∧ 1 ≤ y ∧ y ≤ 1000 := by
  have := of_decide_eq_true h
  omega

theorem isShift_eq (x : Int) : impl_isShift.f x = some (decide (-1000 ≤ x ∧ x ≤ 1000)) := by
  simp only [impl_isShift.f, within_eq, Option.bind_some]

theorem IsSpot_eq (x y : Int) : impl_IsSpot.f x y = some (sp x y) := by
  simp only [impl_IsSpot.f, isShift_eq, within_eq, Option.bind_some, sp]
  by_cases h1 : -1000 ≤ x ∧ x ≤ 1000 <;> by_cases h2 : 1 ≤ y ∧ y ≤ 1000 <;> simp [h1, h2]

theorem lwSpot_eq (x y : Int) : spec_lwSpot.f x y = some (sp x y) := by
  simp only [spec_lwSpot.f, l1In_eq, Option.bind_some, sp]
  by_cases h1 : -1000 ≤ x ∧ x ≤ 1000 <;> by_cases h2 : 1 ≤ y ∧ y ≤ 1000 <;> simp [h1, h2]

theorem wrap_id {n : Int} (h0 : -9223372036854775808 ≤ n) (h1 : n ≤ 9223372036854775807) : wrap64 n = n := by
  unfold wrap64
  omega

theorem tdiv_le (a b : Int) : (a.tdiv b).natAbs ≤ a.natAbs := by
  rw [Int.natAbs_tdiv]
  exact Nat.div_le_self _ _
theorem wrap_tdiv {a b : Int} (h : a.natAbs ≤ 4611686018427387904) : wrap64 (a.tdiv b) = a.tdiv b := by
  have := tdiv_le a b
  exact wrap_id (by omega) (by omega)

theorem gcd_step (a b : Int) : Nat.gcd b.natAbs (a.tmod b).natAbs = Nat.gcd a.natAbs b.natAbs := by
  rw [Int.natAbs_tmod, Nat.gcd_comm a.natAbs, Nat.gcd_rec b.natAbs a.natAbs, Nat.gcd_comm]
theorem gcd_l0 (d : Nat) : ∀ (k : Nat) (a b : Int), b.natAbs ≤ d → d < k → a.natAbs ≤ 4611686018427387904 → b.natAbs ≤ 4611686018427387904 →
    impl_gcd.l0 k a b = some ((Nat.gcd a.natAbs b.natAbs : Nat) : Int) := by
  induction d with
  | zero =>
    intro k a b hb hk ha hb'
    obtain ⟨k, rfl⟩ : ∃ m, k = m + 1 := ⟨k - 1, by omega⟩
    have h0 : b = 0 := by omega
    simp only [impl_gcd.l0]
    rw [if_pos h0, wrap_id (by omega) (by omega)]
    subst h0
    simp only [Int.natAbs_zero, Nat.gcd_zero_right, Option.some.injEq]
    unfold mx
    split <;> omega
  | succ d ih =>
    intro k a b hb hk ha hb'
    obtain ⟨k, rfl⟩ : ∃ m, k = m + 1 := ⟨k - 1, by omega⟩
    simp only [impl_gcd.l0]
    by_cases h0 : b = 0
    · subst h0
      rw [if_pos rfl, wrap_id (by omega) (by omega)]
      simp only [Int.natAbs_zero, Nat.gcd_zero_right, Option.some.injEq]
      unfold mx
      split <;> omega
    · have hm : (a.tmod b).natAbs < b.natAbs := by
        rw [Int.natAbs_tmod]
        exact Nat.mod_lt _ (by omega)
      rw [if_neg h0, ih k b (a.tmod b) (by omega) (by omega) hb' (by omega), gcd_step]
theorem gcd_eq (k : Nat) (a b : Int) (hk : b.natAbs < k) (ha : a.natAbs ≤ 4611686018427387904) (hb : b.natAbs ≤ 4611686018427387904) :
    impl_gcd.f k a b = some ((Nat.gcd a.natAbs b.natAbs : Nat) : Int) := gcd_l0 b.natAbs k a b (Nat.le_refl _) hk ha hb

theorem gcd_pos {a b : Int} (hb : b ≠ 0) : ((Nat.gcd a.natAbs b.natAbs : Nat) : Int) ≠ 0 := by
  have : 0 < Nat.gcd a.natAbs b.natAbs := Nat.gcd_pos_of_pos_right _ (by omega)
  omega
theorem fraction_eq (k : Nat) (a b : Int) (hk : b.natAbs < k) (h0 : b ≠ 0) (ha : a.natAbs ≤ 4611686018427387904) (hb : b.natAbs ≤ 4611686018427387904) :
    impl_fraction.f k a b = some (a.tdiv (Nat.gcd a.natAbs b.natAbs : Nat), b.tdiv (Nat.gcd a.natAbs b.natAbs : Nat), true) := by
  unfold impl_fraction.f
  rw [gcd_eq k a b hk ha hb]
  simp only [Option.bind_some]
  rw [if_neg (gcd_pos h0), wrap_tdiv ha, wrap_tdiv hb]

theorem gcd_step2 (a b : Int) : Nat.gcd b.natAbs (a.tmod b).natAbs = Nat.gcd a.natAbs b.natAbs := by
  rw [Int.natAbs_tmod, Nat.gcd_comm a.natAbs, Nat.gcd_rec b.natAbs a.natAbs, Nat.gcd_comm]

theorem clLow_l0 (d : Nat) : ∀ (k : Nat) (x y a b : Int), b.natAbs ≤ d → d < k → 0 ≤ a → 0 ≤ b → (a ≠ 0 ∨ b ≠ 0) → x.natAbs ≤ 4611686018427387904 → y.natAbs ≤ 4611686018427387904 →
    spec_clLow.l0 k x y a b = some (x.tdiv (Nat.gcd a.natAbs b.natAbs : Nat), y.tdiv (Nat.gcd a.natAbs b.natAbs : Nat)) := by
  induction d with
  | zero =>
    intro k x y a b hb hk ha hb' hn hx hy
    obtain ⟨k, rfl⟩ : ∃ m, k = m + 1 := ⟨k - 1, by omega⟩
    have h0 : b = 0 := by omega
    simp only [spec_clLow.l0]
    rw [if_neg (by omega), if_neg (by omega), wrap_tdiv hx, wrap_tdiv hy]
    subst h0
    simp only [Int.natAbs_zero, Nat.gcd_zero_right]
    rw [show ((a.natAbs : Nat) : Int) = a by omega]
  | succ d ih =>
    intro k x y a b hb hk ha hb' hn hx hy
    obtain ⟨k, rfl⟩ : ∃ m, k = m + 1 := ⟨k - 1, by omega⟩
    simp only [spec_clLow.l0]
    by_cases h0 : b = 0
    · subst h0
      rw [if_neg (by omega), if_neg (by omega), wrap_tdiv hx, wrap_tdiv hy]
      simp only [Int.natAbs_zero, Nat.gcd_zero_right]
      rw [show ((a.natAbs : Nat) : Int) = a by omega]
    · have hm : (a.tmod b).natAbs < b.natAbs := by
        rw [Int.natAbs_tmod]
        exact Nat.mod_lt _ (by omega)
      rw [if_pos (by omega), if_neg h0, ih k x y b (a.tmod b) (by omega) (by omega) hb' (Int.tmod_nonneg _ ha) (by omega) hx hy, gcd_step2]
theorem clLow_eq (k : Nat) (a b : Int) (hk : b.natAbs < k) (h0 : 0 ≤ a) (hb0 : 0 < b) (ha : a ≤ 4611686018427387904) (hb : b ≤ 4611686018427387904) :
    spec_clLow.f k a b = some (a.tdiv (Nat.gcd a.natAbs b.natAbs : Nat), b.tdiv (Nat.gcd a.natAbs b.natAbs : Nat)) :=
  clLow_l0 b.natAbs k a b a b (Nat.le_refl _) hk h0 (by omega) (by omega) (by omega) (by omega)

theorem abs_eq {a : Int} (h0 : -1000000 ≤ a) (h1 : a ≤ 1000000) : spec_l1Abs.f a = some (a.natAbs : Int) := by
  unfold spec_l1Abs.f spec_l1Most.f
  rw [wrap_id (by omega) (by omega)]
  split
  · simp only [Option.bind_some, Option.some.injEq]; omega
  · simp only [Option.bind_some, Option.some.injEq]; omega
theorem distance_eq {a b : Int} (h0 : -1000 ≤ a) (h1 : a ≤ 1000) (h2 : -1000 ≤ b) (h3 : b ≤ 1000) : impl_distance.f a b = some ((a - b).natAbs : Int) := by
  unfold impl_distance.f mx
  rw [wrap_id (by omega) (by omega), wrap_id (by omega) (by omega)]
  simp only [Option.some.injEq]
  split <;> omega
theorem main : laws_FnExactHeightForTouch.Pure := by
  intro x y p q _ _ _ _
  refine ⟨2002, ?_⟩
  cases h : sp x y with
  | false => simp [laws_FnExactHeightForTouch.f, laws_toSpot.f, spec_HeightForTouch.f, spec_HeightForTouch.j0, impl_HeightForTouch.f, impl_HeightForTouch.j0, IsSpot_eq, lwSpot_eq, h]
  | true =>
    by_cases h1 : -1000 ≤ p ∧ p ≤ 1000
    · by_cases h2 : -1000 ≤ q ∧ q ≤ 1000
      · have b := sp_of h
        have w1 : wrap64 (q - x) = q - x := wrap_id (by omega) (by omega)
        have w2 : wrap64 (p - q) = p - q := wrap_id (by omega) (by omega)
        simp only [laws_FnExactHeightForTouch.f, laws_toSpot.f, spec_HeightForTouch.f, spec_HeightForTouch.j0, impl_HeightForTouch.f, impl_HeightForTouch.j0, IsSpot_eq, lwSpot_eq, l1In_eq, isShift_eq, h, h1, h2, Option.bind_some, if_true, w1, w2, decide_true, and_self, Bool.not_true, Bool.false_eq_true, if_false]
        by_cases h3 : wrap64 ((q - x) * (p - q)) ≤ 0
        · simp [h3]
        · have hx : q - x ≠ 0 := by
            intro e
            rw [e] at h3
            simp [wrap64] at h3
          rw [if_neg h3, if_neg (by simpa using h3), abs_eq (by omega) (by omega), abs_eq (by omega) (by omega), distance_eq (by omega) (by omega) (by omega) (by omega), distance_eq (by omega) (by omega) (by omega) (by omega)]
          simp only [Option.bind_some]
          have hm : y * ((p - q).natAbs : Int) ≤ 1000 * 2000 := Int.mul_le_mul (by omega) (by omega) (by omega) (by omega)
          have hm0 : 0 ≤ y * ((p - q).natAbs : Int) := Int.mul_nonneg (by omega) (by omega)
          have w3 : wrap64 (y * ((p - q).natAbs : Int)) = y * ((p - q).natAbs : Int) := wrap_id (by omega) (by omega)
          rw [w3, clLow_eq 2001 _ _ (by omega) hm0 (by omega) (by omega) (by omega), fraction_eq 2001 _ _ (by omega) (by omega) (by omega) (by omega)]
          simp
      · simp [laws_FnExactHeightForTouch.f, laws_toSpot.f, spec_HeightForTouch.f, spec_HeightForTouch.j0, impl_HeightForTouch.f, impl_HeightForTouch.j0, IsSpot_eq, lwSpot_eq, l1In_eq, isShift_eq, h, h1, h2]
    · simp [laws_FnExactHeightForTouch.f, laws_toSpot.f, spec_HeightForTouch.f, spec_HeightForTouch.j0, impl_HeightForTouch.f, impl_HeightForTouch.j0, IsSpot_eq, lwSpot_eq, l1In_eq, isShift_eq, h, h1]
end LFnExactHeightForTouch

theorem FnExactHeightForTouch : laws_FnExactHeightForTouch.Pure := LFnExactHeightForTouch.main

end Go.Proofs.Ytfpigffkfiklmaa.Pure
