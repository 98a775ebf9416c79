/- For every two spots the program's SquareByCorner and the reference's give the same; no condition beyond the numbers' kinds. -/
import Derived.Test.YtfpigffkfiklmaaPFnExactSquareByCornerx2
namespace Go.Proofs.Ytfpigffkfiklmaa.Pure
open Go.RowKit Go.Proofs.Ytfpigffkfiklmaa.PFnExactSquareByCorner Go.Proofs.YtfpigffkfiklmaaW.PrintWords Go.Proofs.YtfpigffkfiklmaaW.PrintLast
set_option linter.unusedVariables false
set_option linter.unusedSimpArgs false

namespace LFnExactSquareByCorner
theorem within_eq (a b c : Int) : impl_within.f a b c = some (decide (b ≤ a ∧ a ≤ c)) := by
  by_cases h1 : b ≤ a <;> by_cases h2 : a ≤ c <;> simp [impl_within.f, h1, h2]

theorem l1In_eq (a b c : Int) : spec_l1In.f a b c = some (decide (b ≤ a ∧ a ≤ c)) := by
  by_cases h1 : b ≤ a <;> by_cases h2 : a ≤ c <;> simp [spec_l1In.f, h1, h2]

/-- A spot. -/
def sp (x y : Int) : Bool := decide ((-1000 ≤ x ∧ x ≤ 1000) ∧ 1 ≤ y ∧ y ≤ 1000)
theorem sp_of {x y : Int} (h : sp x y = true) : -1000 ≤ x ∧ x ≤ 1000 ∧ 1 ≤ y ∧ y ≤ 1000 := by
  have := of_decide_eq_true h
  omega

theorem isShift_eq (x : Int) : impl_isShift.f x = some (decide (-1000 ≤ x ∧ x ≤ 1000)) := by
  simp only [impl_isShift.f, within_eq, Option.bind_some]

theorem IsSpot_eq (x y : Int) : impl_IsSpot.f x y = some (sp x y) := by
  simp only [impl_IsSpot.f, isShift_eq, within_eq, Option.bind_some, sp]
  by_cases h1 : -1000 ≤ x ∧ x ≤ 1000 <;> by_cases h2 : 1 ≤ y ∧ y ≤ 1000 <;> simp [h1, h2]

theorem lwSpot_eq (x y : Int) : spec_lwSpot.f x y = some (sp x y) := by
  simp only [spec_lwSpot.f, l1In_eq, Option.bind_some, sp]
  by_cases h1 : -1000 ≤ x ∧ x ≤ 1000 <;> by_cases h2 : 1 ≤ y ∧ y ≤ 1000 <;> simp [h1, h2]

theorem wrap_id {n : Int} (h0 : -9223372036854775808 ≤ n) (h1 : n ≤ 9223372036854775807) : wrap64 n = n := by
  unfold wrap64
  omega

theorem spok_eq (x y : Int) : impl_areSpots.ok ⟨x, y⟩ = sp x y := by
  unfold impl_areSpots.ok
  rw [IsSpot_eq]
  rfl
theorem areSpots_eq (x y a b : Int) : impl_areSpots.f [⟨x, y⟩, ⟨a, b⟩] = some (sp x y && sp a b) := by
  simp [impl_areSpots.f, spok_eq]

theorem lwTwo_eq (x y a b : Int) : spec_lwTwo.f x y a b = some (sp x y && sp a b) := by
  simp only [spec_lwTwo.f, lwSpot_eq, Option.bind_some]
  cases sp x y <;> simp

def inCo (x y a b : Int) : Bool := (sp x y && sp a b) && decide (1 ≤ x ∧ 1 ≤ a)
theorem inCo_of {x y a b : Int} (h : inCo x y a b = true) : (1 ≤ x ∧ x ≤ 1000 ∧ 1 ≤ y ∧ y ≤ 1000) ∧ 1 ≤ a ∧ a ≤ 1000 ∧ 1 ≤ b ∧ b ≤ 1000 := by
  simp only [inCo, Bool.and_eq_true, decide_eq_true_eq] at h
  have h1 := sp_of h.1.1
  have h2 := sp_of h.1.2
  omega
theorem areInCorner_eq (x y a b : Int) : impl_areInCorner.f x y a b = some (inCo x y a b) := by
  simp only [impl_areInCorner.f, areSpots_eq, Option.bind_some, inCo]
  cases (sp x y && sp a b)
  · simp
  by_cases h1 : 1 ≤ x <;> by_cases h2 : 1 ≤ a <;> simp [h1, h2]
theorem lwCorner_eq (x y a b : Int) : spec_lwCorner.f x y a b = some (inCo x y a b) := by
  simp only [spec_lwCorner.f, lwTwo_eq, Option.bind_some, inCo]
  cases (sp x y && sp a b)
  · simp
  have e1 : (x > 0) = (1 ≤ x) := propext ⟨by omega, by omega⟩
  have e2 : (a > 0) = (1 ≤ a) := propext ⟨by omega, by omega⟩
  by_cases h1 : 1 ≤ x <;> by_cases h2 : 1 ≤ a <;> simp [e1, e2, h1, h2]

theorem square_same (a b : Int) : spec_lwSquare.f a b = impl_square.f a b := rfl

theorem main : laws_FnExactSquareByCorner.Pure := by
  intro x y a b _ _ _ _
  cases h : inCo x y a b <;> simp only [laws_FnExactSquareByCorner.f, laws_toSpot.f, spec_SquareByCorner.f, impl_SquareByCorner.f, areInCorner_eq, lwCorner_eq, h, Option.bind_some] <;> simp [spec_lwSquare.f, impl_square.f]
end LFnExactSquareByCorner

theorem FnExactSquareByCorner : laws_FnExactSquareByCorner.Pure := LFnExactSquareByCorner.main

end Go.Proofs.Ytfpigffkfiklmaa.Pure
