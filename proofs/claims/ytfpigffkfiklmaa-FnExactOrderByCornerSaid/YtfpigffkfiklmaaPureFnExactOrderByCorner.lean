/- For every two spots the program's OrderByCorner and the reference's give the same; no condition beyond the numbers' kinds. -/
import Derived.Test.YtfpigffkfiklmaaPFnExactOrderByCornerx2
namespace Go.Proofs.Ytfpigffkfiklmaa.Pure
open Go.RowKit Go.Proofs.Ytfpigffkfiklmaa.PFnExactOrderByCorner Go.Proofs.YtfpigffkfiklmaaW.PrintWords Go.Proofs.YtfpigffkfiklmaaW.PrintLast
set_option linter.unusedVariables false
set_option linter.unusedSimpArgs false

namespace LFnExactOrderByCorner
theorem within_eq (a b c : Int) : impl_within.f a b c = some (decide (b ≤ a ∧ a ≤ c)) := by
  by_cases h1 : b ≤ a <;> by_cases h2 : a ≤ c <;> simp [impl_within.f, h1, h2]

theorem l1In_eq (a b c : Int) : spec_l1In.f a b c = some (decide (b ≤ a ∧ a ≤ c)) := by
  by_cases h1 : b ≤ a <;> by_cases h2 : a ≤ c <;> simp [spec_l1In.f, h1, h2]

/-- A spot. -/
def sp (x y : Int) : Bool := decide ((-1000 ≤ x ∧ x ≤ 1000) ∧ 1 ≤ y ∧ y ≤ 1000)
theorem sp_of {x y : Int} (h : sp x y = true) : -1000 ≤ x ∧ x ≤ 1000 ∧ 1 ≤ y ∧ y ≤ 1000 := by
  have := of_decide_eq_true h
  omega

theorem isShift_eq (x : Int) : impl_isShift.f x = some (decide (-1000 ≤ x ∧ x ≤ 1000)) := by
  simp only [impl_isShift.f, within_eq, Option.bind_some]

theorem IsSpot_eq (x y : Int) : impl_IsSpot.f x y = some (sp x y) := by
  simp only [impl_IsSpot.f, isShift_eq, within_eq, Option.bind_some, sp]
  by_cases h1 : -1000 ≤ x ∧ x ≤ 1000 <;> by_cases h2 : 1 ≤ y ∧ y ≤ 1000 <;> simp [h1, h2]

theorem lwSpot_eq (x y : Int) : spec_lwSpot.f x y = some (sp x y) := by
  simp only [spec_lwSpot.f, l1In_eq, Option.bind_some, sp]
  by_cases h1 : -1000 ≤ x ∧ x ≤ 1000 <;> by_cases h2 : 1 ≤ y ∧ y ≤ 1000 <;> simp [h1, h2]

theorem wrap_id {n : Int} (h0 : -9223372036854775808 ≤ n) (h1 : n ≤ 9223372036854775807) : wrap64 n = n := by
  unfold wrap64
  omega

theorem spok_eq (x y : Int) : impl_areSpots.ok ⟨x, y⟩ = sp x y := by
  unfold impl_areSpots.ok
  rw [IsSpot_eq]
  rfl
theorem areSpots_eq (x y a b : Int) : impl_areSpots.f [⟨x, y⟩, ⟨a, b⟩] = some (sp x y && sp a b) := by
  simp [impl_areSpots.f, spok_eq]

theorem lwTwo_eq (x y a b : Int) : spec_lwTwo.f x y a b = some (sp x y && sp a b) := by
  simp only [spec_lwTwo.f, lwSpot_eq, Option.bind_some]
  cases sp x y <;> simp

def inCo (x y a b : Int) : Bool := (sp x y && sp a b) && decide (1 ≤ x ∧ 1 ≤ a)
theorem inCo_of {x y a b : Int} (h : inCo x y a b = true) : (1 ≤ x ∧ x ≤ 1000 ∧ 1 ≤ y ∧ y ≤ 1000) ∧ 1 ≤ a ∧ a ≤ 1000 ∧ 1 ≤ b ∧ b ≤ 1000 := by
  simp only [inCo, Bool.and_eq_true, decide_eq_true_eq] at h
  have h1 := sp_of h.1.1
  have h2 := sp_of h.1.2
  omega
theorem areInCorner_eq (x y a b : Int) : impl_areInCorner.f x y a b = some (inCo x y a b) := by
  simp only [impl_areInCorner.f, areSpots_eq, Option.bind_some, inCo]
  cases (sp x y && sp a b)
  · simp
  by_cases h1 : 1 ≤ x <;> by_cases h2 : 1 ≤ a <;> simp [h1, h2]
theorem lwCorner_eq (x y a b : Int) : spec_lwCorner.f x y a b = some (inCo x y a b) := by
  simp only [spec_lwCorner.f, lwTwo_eq, Option.bind_some, inCo]
  cases (sp x y && sp a b)
  · simp
  have e1 : (x > 0) = (1 ≤ x) := propext ⟨by omega, by omega⟩
  have e2 : (a > 0) = (1 ≤ a) := propext ⟨by omega, by omega⟩
  by_cases h1 : 1 ≤ x <;> by_cases h2 : 1 ≤ a <;> simp [e1, e2, h1, h2]

theorem main : laws_FnExactOrderByCorner.Pure := by
  intro x y a b _ _ _ _
  cases h : inCo x y a b with
  | false =>
    simp only [laws_FnExactOrderByCorner.f, laws_toSpot.f, spec_OrderByCorner.f, impl_OrderByCorner.f, areInCorner_eq, lwCorner_eq, h, Option.bind_some]
    simp
  | true =>
    have z := inCo_of h
    have m1 : 0 ≤ y * a := Int.mul_nonneg (by omega) (by omega)
    have m2 : y * a ≤ 1000 * 1000 := Int.mul_le_mul (by omega) (by omega) (by omega) (by omega)
    have m3 : 0 ≤ x * b := Int.mul_nonneg (by omega) (by omega)
    have m4 : x * b ≤ 1000 * 1000 := Int.mul_le_mul (by omega) (by omega) (by omega) (by omega)
    have m5 : 0 ≤ x * y := Int.mul_nonneg (by omega) (by omega)
    have m6 : x * y ≤ 1000 * 1000 := Int.mul_le_mul (by omega) (by omega) (by omega) (by omega)
    have e1 : y * (x + a) = x * y + y * a := by rw [Int.mul_add, Int.mul_comm y x]
    have e2 : x * (y + b) = x * y + x * b := Int.mul_add ..
    have w1 : wrap64 (x + a) = x + a := wrap_id (by omega) (by omega)
    have w2 : wrap64 (y + b) = y + b := wrap_id (by omega) (by omega)
    have w3 : wrap64 (y * (x + a)) = x * y + y * a := by rw [e1]; exact wrap_id (by omega) (by omega)
    have w4 : wrap64 (x * (y + b)) = x * y + x * b := by rw [e2]; exact wrap_id (by omega) (by omega)
    have w5 : wrap64 (x * y + y * a - (x * y + x * b)) = y * a - x * b := by rw [wrap_id (by omega) (by omega)]; omega
    have w6 : wrap64 (y * a) = y * a := wrap_id (by omega) (by omega)
    have w7 : wrap64 (x * b) = x * b := wrap_id (by omega) (by omega)
    simp only [laws_FnExactOrderByCorner.f, laws_toSpot.f, spec_OrderByCorner.f, impl_OrderByCorner.f, areInCorner_eq, lwCorner_eq, h, Option.bind_some, if_true, w1, w2, w3, w4, w5, w6, w7, spec_l1Sign.f]
    rcases Int.lt_trichotomy (y * a) (x * b) with c | c | c
    · rw [if_neg (by omega), if_pos (by omega), if_pos c]; simp
    · rw [if_neg (by omega), if_neg (by omega), if_neg (by omega), if_neg (by omega)]; simp
    · rw [if_pos (by omega), if_neg (by omega), if_pos (by omega)]; simp
end LFnExactOrderByCorner

theorem FnExactOrderByCorner : laws_FnExactOrderByCorner.Pure := LFnExactOrderByCorner.main

end Go.Proofs.Ytfpigffkfiklmaa.Pure
