/- For every spot and every move the program's MoveSpot and the reference's give the same; no condition beyond the numbers' kinds. -/
import Derived.Test.YtfpigffkfiklmaaPFnExactMoveSpotx1
namespace Go.Proofs.Ytfpigffkfiklmaa.Pure
open Go.RowKit Go.Proofs.Ytfpigffkfiklmaa.PFnExactMoveSpot Go.Proofs.YtfpigffkfiklmaaW.PrintWords Go.Proofs.YtfpigffkfiklmaaW.PrintLast
set_option linter.unusedVariables false
set_option linter.unusedSimpArgs false

namespace LFnExactMoveSpot
theorem within_eq (a b c : Int) : impl_within.f a b c = some (decide (b ≤ a ∧ a ≤ c)) := by
  by_cases h1 : b ≤ a <;> by_cases h2 : a ≤ c <;> simp [impl_within.f, h1, h2]

theorem l1In_eq (a b c : Int) : spec_l1In.f a b c = some (decide (b ≤ a ∧ a ≤ c)) := by
  by_cases h1 : b ≤ a <;> by_cases h2 : a ≤ c <;> simp [spec_l1In.f, h1, h2]

/-- A spot. -/
def sp (x y : Int) : Bool := decide ((-1000 ≤ x ∧ x ≤ 1000) ∧ 1 ≤ y ∧ y ≤ 1000)
theorem sp_of {x y : Int} (h : sp x y = true) : -1000 ≤ x ∧ x ≤ 1000 ∧ 1 ≤ y ∧ y ≤ 1000 := by
  have := of_decide_eq_true h
  omega

theorem isShift_eq (x : Int) : impl_isShift.f x = some (decide (-1000 ≤ x ∧ x ≤ 1000)) := by
  simp only [impl_isShift.f, within_eq, Option.bind_some]

theorem IsSpot_eq (x y : Int) : impl_IsSpot.f x y = some (sp x y) := by
  simp only [impl_IsSpot.f, isShift_eq, within_eq, Option.bind_some, sp]
  by_cases h1 : -1000 ≤ x ∧ x ≤ 1000 <;> by_cases h2 : 1 ≤ y ∧ y ≤ 1000 <;> simp [h1, h2]

theorem lwSpot_eq (x y : Int) : spec_lwSpot.f x y = some (sp x y) := by
  simp only [spec_lwSpot.f, l1In_eq, Option.bind_some, sp]
  by_cases h1 : -1000 ≤ x ∧ x ≤ 1000 <;> by_cases h2 : 1 ≤ y ∧ y ≤ 1000 <;> simp [h1, h2]

theorem checkedSpot_eq (x y : Int) : impl_checkedSpot.f x y = some (if sp x y = true then (x, y, true) else (0, 0, false)) := by
  simp only [impl_checkedSpot.f, IsSpot_eq, Option.bind_some]
  split <;> rfl

theorem eqSpot_same (x y : Int) : laws_eqSpot.f x y x y = some true := by simp [laws_eqSpot.f]

theorem main : laws_FnExactMoveSpot.Pure := by
  intro x y a b _ _ _ _
  refine ⟨1, ?_⟩
  cases h : sp x y
  · simp [laws_FnExactMoveSpot.f, laws_toSpot.f, spec_MoveSpot.f, spec_MoveSpot.j0, impl_MoveSpot.f, IsSpot_eq, lwSpot_eq, l1In_eq, isShift_eq, eqSpot_same, h]
  by_cases h1 : -1000 ≤ a ∧ a ≤ 1000
  · by_cases h2 : -1000 ≤ b ∧ b ≤ 1000
    · cases h3 : sp (wrap64 (x + a)) (wrap64 (y + b)) <;>
        simp [laws_FnExactMoveSpot.f, laws_toSpot.f, spec_MoveSpot.f, spec_MoveSpot.j0, impl_MoveSpot.f, IsSpot_eq, lwSpot_eq, l1In_eq, isShift_eq, checkedSpot_eq, eqSpot_same, h, h1, h2, h3]
    · simp [laws_FnExactMoveSpot.f, laws_toSpot.f, spec_MoveSpot.f, spec_MoveSpot.j0, impl_MoveSpot.f, IsSpot_eq, lwSpot_eq, l1In_eq, isShift_eq, eqSpot_same, h, h1, h2]
  · simp [laws_FnExactMoveSpot.f, laws_toSpot.f, spec_MoveSpot.f, spec_MoveSpot.j0, impl_MoveSpot.f, IsSpot_eq, lwSpot_eq, l1In_eq, isShift_eq, eqSpot_same, h, h1]
end LFnExactMoveSpot

theorem FnExactMoveSpot : laws_FnExactMoveSpot.Pure := LFnExactMoveSpot.main

end Go.Proofs.Ytfpigffkfiklmaa.Pure
