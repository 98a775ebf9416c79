/- For all numbers the program's SeenOfPerson and the reference's give the same; no condition beyond the numbers' kinds. -/
import Derived.Test.YtfpigffkfiklmaaPFnExactSeenOfPersonx1
namespace Go.Proofs.Ytfpigffkfiklmaa.Pure
open Go.RowKit Go.Proofs.Ytfpigffkfiklmaa.PFnExactSeenOfPerson Go.Proofs.YtfpigffkfiklmaaW.PrintWords Go.Proofs.YtfpigffkfiklmaaW.PrintLast
set_option linter.unusedVariables false
set_option linter.unusedSimpArgs false

namespace LFnExactSeenOfPerson
theorem within_eq (a b c : Int) : impl_within.f a b c = some (decide (b ≤ a ∧ a ≤ c)) := by
  by_cases h1 : b ≤ a <;> by_cases h2 : a ≤ c <;> simp [impl_within.f, h1, h2]

theorem l1In_eq (a b c : Int) : spec_l1In.f a b c = some (decide (b ≤ a ∧ a ≤ c)) := by
  by_cases h1 : b ≤ a <;> by_cases h2 : a ≤ c <;> simp [spec_l1In.f, h1, h2]

def pe (t e : Int) : Bool := decide ((2 ≤ t ∧ t ≤ 300) ∧ 1 ≤ e ∧ e ≤ t)
theorem pe_of {x y : Int} (h : pe x y = true) : 2 ≤ x ∧ x ≤ 300 ∧ 1 ≤ y ∧ y ≤ x := by
  have := of_decide_eq_true h
  omega
theorem isPerson_eq (x y : Int) : impl_isPerson.f x y = some (pe x y) := by
  simp only [impl_isPerson.f, within_eq, Option.bind_some, pe]
  by_cases h1 : 2 ≤ x ∧ x ≤ 300 <;> by_cases h2 : 1 ≤ y ∧ y ≤ x <;> simp [h1, h2]

theorem miPerson_eq (x y : Int) : spec_miPerson.f x y = some (pe x y) := by
  simp only [spec_miPerson.f, l1In_eq, Option.bind_some, pe]
  by_cases h1 : 2 ≤ x ∧ x ≤ 300 <;> by_cases h2 : 1 ≤ y ∧ y ≤ x <;> simp [h1, h2]

def part (l h : Int) : Bool := decide ((0 ≤ l ∧ l ≤ 300) ∧ wrap64 (l + 1) ≤ h ∧ h ≤ 300)
theorem isMirror_eq (t e l h : Int) : impl_isMirror.f t e l h = some (pe t e && part l h) := by
  simp only [impl_isMirror.f, isPerson_eq, within_eq, Option.bind_some, part]
  cases pe t e
  · simp
  by_cases h1 : 0 ≤ l ∧ l ≤ 300 <;> by_cases h2 : wrap64 (l + 1) ≤ h ∧ h ≤ 300 <;> simp [h1, h2]
theorem miPart_eq (l h : Int) : spec_miPart.f l h = some (part l h) := by
  simp only [spec_miPart.f, l1In_eq, Option.bind_some, part]
  by_cases h1 : 0 ≤ l ∧ l ≤ 300 <;> by_cases h2 : wrap64 (l + 1) ≤ h ∧ h ≤ 300 <;> simp [h1, h2]

theorem most_eq (a b : Int) : spec_l1Most.f a b = some (mx a b) := by
  unfold spec_l1Most.f mx
  by_cases h : a > b
  · rw [if_pos h, if_neg (by omega)]
  · rw [if_neg h]
    by_cases h2 : a < b
    · rw [if_pos h2]
    · rw [if_neg h2, show a = b by omega]
theorem least_eq (a b : Int) : spec_l1Least.f a b = some (mn a b) := by
  unfold spec_l1Least.f mn
  by_cases h : a < b
  · rw [if_pos h, if_neg (by omega)]
  · rw [if_neg h]
    by_cases h2 : b < a
    · rw [if_pos h2]
    · rw [if_neg h2, show a = b by omega]
theorem main : laws_FnExactSeenOfPerson.Pure := by
  intro t e l h _ _ _ _
  refine ⟨1, ?_⟩
  cases hp : pe t e with
  | false => simp [laws_FnExactSeenOfPerson.f, spec_SeenOfPerson.f, spec_SeenOfPerson.j0, impl_SeenOfPerson.f, miPerson_eq, isMirror_eq, hp]
  | true =>
    cases hq : part l h with
    | false => simp [laws_FnExactSeenOfPerson.f, spec_SeenOfPerson.f, spec_SeenOfPerson.j0, impl_SeenOfPerson.f, miPerson_eq, miPart_eq, isMirror_eq, hp, hq]
    | true =>
      simp only [laws_FnExactSeenOfPerson.f, spec_SeenOfPerson.f, spec_SeenOfPerson.j0, impl_SeenOfPerson.f, miPerson_eq, miPart_eq, isMirror_eq, most_eq, least_eq, hp, hq, Option.bind_some, Bool.and_self, if_true, Bool.not_true, Bool.false_eq_true, if_false]
      split <;> simp
end LFnExactSeenOfPerson

theorem FnExactSeenOfPerson : laws_FnExactSeenOfPerson.Pure := LFnExactSeenOfPerson.main

end Go.Proofs.Ytfpigffkfiklmaa.Pure
