/- For every two spots and all numbers the program's BestInCorridor and the reference's give the same; no condition beyond the numbers' kinds. -/
import Derived.Test.YtnapdbffnlhibaaPFnExactBestInCorridorx3
namespace Go.Proofs.Ytnapdbffnlhibaa.Pure
open Go.RowKit Go.Proofs.Ytnapdbffnlhibaa.PFnExactBestInCorridor Go.Proofs.YtnapdbffnlhibaaW.PrintWords Go.Proofs.YtnapdbffnlhibaaW.PrintLast
set_option linter.unusedVariables false
set_option linter.unusedSimpArgs false

namespace LFnExactBestInCorridor
theorem within_eq (a b c : Int) : impl_within.f a b c = some (decide (b ≤ a ∧ a ≤ c)) := by
  by_cases h1 : b ≤ a <;> by_cases h2 : a ≤ c <;> simp [impl_within.f, h1, h2]

theorem l1In_eq (a b c : Int) : spec_l1In.f a b c = some (decide (b ≤ a ∧ a ≤ c)) := by
  by_cases h1 : b ≤ a <;> by_cases h2 : a ≤ c <;> simp [spec_l1In.f, h1, h2]

/-- A spot. -/
def sp (x y : Int) : Bool := decide ((-1000 ≤ x ∧ x ≤ 1000) ∧ 1 ≤ y ∧ y ≤ 1000)
theorem sp_of {x y : Int} (h : sp x y = true) : -1000 ≤ x ∧ x ≤ 1000 ∧ 1 ≤ y ∧ y ≤ 1000 := by
  have := of_decide_eq_true h
  omega

theorem isShift_eq (x : Int) : impl_isShift.f x = some (decide (-1000 ≤ x ∧ x ≤ 1000)) := by
  simp only [impl_isShift.f, within_eq, Option.bind_some]

theorem IsSpot_eq (x y : Int) : impl_IsSpot.f x y = some (sp x y) := by
  simp only [impl_IsSpot.f, isShift_eq, within_eq, Option.bind_some, sp]
  by_cases h1 : -1000 ≤ x ∧ x ≤ 1000 <;> by_cases h2 : 1 ≤ y ∧ y ≤ 1000 <;> simp [h1, h2]

theorem lwSpot_eq (x y : Int) : spec_lwSpot.f x y = some (sp x y) := by
  simp only [spec_lwSpot.f, l1In_eq, Option.bind_some, sp]
  by_cases h1 : -1000 ≤ x ∧ x ≤ 1000 <;> by_cases h2 : 1 ≤ y ∧ y ≤ 1000 <;> simp [h1, h2]

theorem wrap_id {n : Int} (h0 : -9223372036854775808 ≤ n) (h1 : n ≤ 9223372036854775807) : wrap64 n = n := by
  unfold wrap64
  omega

theorem spok_eq (x y : Int) : impl_areSpots.ok ⟨x, y⟩ = sp x y := by
  unfold impl_areSpots.ok
  rw [IsSpot_eq]
  rfl
theorem areSpots_eq (x y a b : Int) : impl_areSpots.f [⟨x, y⟩, ⟨a, b⟩] = some (sp x y && sp a b) := by
  simp [impl_areSpots.f, spok_eq]

theorem lwTwo_eq (x y a b : Int) : spec_lwTwo.f x y a b = some (sp x y && sp a b) := by
  simp only [spec_lwTwo.f, lwSpot_eq, Option.bind_some]
  cases sp x y <;> simp

def inCd (x y a b h t : Int) : Bool := (sp x y && sp a b) && decide (((2 ≤ h ∧ h ≤ 1000) ∧ y < h ∧ b < h) ∧ 1 ≤ t ∧ t ≤ 50)
theorem inCd_of {x y a b h t : Int} (q : inCd x y a b h t = true) : (-1000 ≤ x ∧ x ≤ 1000 ∧ 1 ≤ y ∧ y ≤ 1000) ∧ (-1000 ≤ a ∧ a ≤ 1000 ∧ 1 ≤ b ∧ b ≤ 1000) ∧ 2 ≤ h ∧ h ≤ 1000 ∧ y < h ∧ b < h ∧ 1 ≤ t ∧ t ≤ 50 := by
  simp only [inCd, Bool.and_eq_true, decide_eq_true_eq] at q
  have h1 := sp_of q.1.1
  have h2 := sp_of q.1.2
  omega
theorem areInCorridor_eq (x y a b h t : Int) : impl_areInCorridor.f x y a b h t = some (inCd x y a b h t) := by
  simp only [impl_areInCorridor.f, areSpots_eq, within_eq, Option.bind_some, inCd]
  cases (sp x y && sp a b)
  · simp
  by_cases h1 : 2 ≤ h ∧ h ≤ 1000 <;> by_cases h2 : y < h <;> by_cases h3 : b < h <;> by_cases h4 : 1 ≤ t ∧ t ≤ 50 <;> simp [h1, h2, h3, h4]
theorem lwCorridor_eq (x y a b h t : Int) : spec_lwCorridor.f x y a b h t = some (inCd x y a b h t) := by
  simp only [spec_lwCorridor.f, lwTwo_eq, l1In_eq, Option.bind_some, inCd]
  cases (sp x y && sp a b)
  · simp
  by_cases h1 : 2 ≤ h ∧ h ≤ 1000 <;> by_cases h2 : y < h <;> by_cases h3 : b < h <;> by_cases h4 : 1 ≤ t ∧ t ≤ 50 <;> simp [h1, h2, h3, h4]

/-- How far a way in a corridor goes up and down: the program's and the reference's. -/
theorem rise_eq (x y a b h t : Int) (g : Bool) : ∃ f r, spec_lwRise.f x y a b h t g = some (f, r) ∧ impl_riseIn.f x y a b h t g = some r := by
  unfold spec_lwRise.f impl_riseIn.f impl_riseBefore.f
  cases g <;> cases (Int.tmod t 2 == 1) <;> simp
theorem rise_range {x y a b h t : Int} {g : Bool} (q : inCd x y a b h t = true) : ∀ r, impl_riseIn.f x y a b h t g = some r → 0 ≤ r ∧ r ≤ 52000 := by
  have z := inCd_of q
  have m0 : 0 ≤ (t - 1) * h := Int.mul_nonneg (by omega) (by omega)
  have m1 : (t - 1) * h ≤ 49 * 1000 := Int.mul_le_mul (by omega) (by omega) (by omega) (by omega)
  have w0 : wrap64 (t - 1) = t - 1 := wrap_id (by omega) (by omega)
  have w1 : wrap64 ((t - 1) * h) = (t - 1) * h := wrap_id (by omega) (by omega)
  intro r hr
  unfold impl_riseIn.f impl_riseBefore.f at hr
  rw [w0, w1] at hr
  have w2 : wrap64 (h - y) = h - y := wrap_id (by omega) (by omega)
  have w3 : wrap64 (h - b) = h - b := wrap_id (by omega) (by omega)
  rw [w2, w3] at hr
  have w4 : wrap64 (y + (t - 1) * h) = y + (t - 1) * h := wrap_id (by omega) (by omega)
  have w5 : wrap64 (h - y + (t - 1) * h) = h - y + (t - 1) * h := wrap_id (by omega) (by omega)
  cases g <;> cases hb : (Int.tmod t 2 == 1) <;> simp [hb, w4, w5] at hr <;> subst hr <;> rw [wrap_id (by omega) (by omega)] <;> omega

theorem square_same (a b : Int) : spec_lwSquare.f a b = impl_square.f a b := rfl

theorem corridorSquare_eq (x y a b h t : Int) (g : Bool) : ∃ r s, impl_riseIn.f x y a b h t g = some r ∧ impl_square.f (wrap64 (x - a)) r = some s ∧ spec_lwCorridorSquare.f x y a b h t g = some s := by
  obtain ⟨f, r, h1, h2⟩ := rise_eq x y a b h t g
  refine ⟨r, wrap64 (wrap64 (wrap64 (x - a) * wrap64 (x - a)) + wrap64 (r * r)), h2, rfl, ?_⟩
  unfold spec_lwCorridorSquare.f
  rw [h1]
  rfl

theorem least_eq (a b : Int) : spec_l1Least.f a b = some (mn a b) := by
  unfold spec_l1Least.f mn
  by_cases h : a < b
  · rw [if_pos h, if_neg (by omega)]
  · rw [if_neg h]
    by_cases h2 : b < a
    · rw [if_pos h2]
    · rw [if_neg h2, show a = b by omega]
theorem main : laws_FnExactBestInCorridor.Pure := by
  intro x y a b h t _ _ _ _ _ _
  obtain ⟨r, s, h1, h2, h3⟩ := corridorSquare_eq x y a b h t true
  obtain ⟨r', s', h1', h2', h3'⟩ := corridorSquare_eq x y a b h t false
  cases q : inCd x y a b h t <;> simp only [laws_FnExactBestInCorridor.f, laws_toSpot.f, spec_BestInCorridor.f, impl_BestInCorridor.f, impl_SquareInCorridor.f, areInCorridor_eq, lwCorridor_eq, q, h1, h2, h3, h1', h2', h3', least_eq, Option.bind_some, if_true] <;> simp
end LFnExactBestInCorridor

theorem FnExactBestInCorridor : laws_FnExactBestInCorridor.Pure := LFnExactBestInCorridor.main

end Go.Proofs.Ytnapdbffnlhibaa.Pure
