/- For every two spots and all numbers the program's WaysWithin and the reference's count the same; no condition beyond the numbers' kinds. -/
import Derived.Test.YtnapdbffnlhibaaPFnExactWaysWithinx4
namespace Go.Proofs.Ytnapdbffnlhibaa.Pure
open Go.RowKit Go.Proofs.Ytnapdbffnlhibaa.PFnExactWaysWithin Go.Proofs.YtnapdbffnlhibaaW.PrintWords Go.Proofs.YtnapdbffnlhibaaW.PrintLast
set_option linter.unusedVariables false
set_option linter.unusedSimpArgs false

namespace LFnExactWaysWithin
theorem within_eq (a b c : Int) : impl_within.f a b c = some (decide (b ≤ a ∧ a ≤ c)) := by
  by_cases h1 : b ≤ a <;> by_cases h2 : a ≤ c <;> simp [impl_within.f, h1, h2]

theorem l1In_eq (a b c : Int) : spec_l1In.f a b c = some (decide (b ≤ a ∧ a ≤ c)) := by
  by_cases h1 : b ≤ a <;> by_cases h2 : a ≤ c <;> simp [spec_l1In.f, h1, h2]

/-- A spot. -/
def sp (x y : Int) : Bool := decide ((-1000 ≤ x ∧ x ≤ 1000) ∧ 1 ≤ y ∧ y ≤ 1000)
theorem sp_of {x y : Int} (h : sp x y = true) : -1000 ≤ x ∧ x ≤ 1000 ∧ 1 ≤ y ∧ y ≤ 1000 := by
  have := of_decide_eq_true h
  omega

theorem isShift_eq (x : Int) : impl_isShift.f x = some (decide (-1000 ≤ x ∧ x ≤ 1000)) := by
  simp only [impl_isShift.f, within_eq, Option.bind_some]

theorem IsSpot_eq (x y : Int) : impl_IsSpot.f x y = some (sp x y) := by
  simp only [impl_IsSpot.f, isShift_eq, within_eq, Option.bind_some, sp]
  by_cases h1 : -1000 ≤ x ∧ x ≤ 1000 <;> by_cases h2 : 1 ≤ y ∧ y ≤ 1000 <;> simp [h1, h2]

theorem lwSpot_eq (x y : Int) : spec_lwSpot.f x y = some (sp x y) := by
  simp only [spec_lwSpot.f, l1In_eq, Option.bind_some, sp]
  by_cases h1 : -1000 ≤ x ∧ x ≤ 1000 <;> by_cases h2 : 1 ≤ y ∧ y ≤ 1000 <;> simp [h1, h2]

theorem wrap_id {n : Int} (h0 : -9223372036854775808 ≤ n) (h1 : n ≤ 9223372036854775807) : wrap64 n = n := by
  unfold wrap64
  omega

theorem spok_eq (x y : Int) : impl_areSpots.ok ⟨x, y⟩ = sp x y := by
  unfold impl_areSpots.ok
  rw [IsSpot_eq]
  rfl
theorem areSpots_eq (x y a b : Int) : impl_areSpots.f [⟨x, y⟩, ⟨a, b⟩] = some (sp x y && sp a b) := by
  simp [impl_areSpots.f, spok_eq]

theorem lwTwo_eq (x y a b : Int) : spec_lwTwo.f x y a b = some (sp x y && sp a b) := by
  simp only [spec_lwTwo.f, lwSpot_eq, Option.bind_some]
  cases sp x y <;> simp

def inCd (x y a b h t : Int) : Bool := (sp x y && sp a b) && decide (((2 ≤ h ∧ h ≤ 1000) ∧ y < h ∧ b < h) ∧ 1 ≤ t ∧ t ≤ 50)
theorem inCd_of {x y a b h t : Int} (q : inCd x y a b h t = true) : (-1000 ≤ x ∧ x ≤ 1000 ∧ 1 ≤ y ∧ y ≤ 1000) ∧ (-1000 ≤ a ∧ a ≤ 1000 ∧ 1 ≤ b ∧ b ≤ 1000) ∧ 2 ≤ h ∧ h ≤ 1000 ∧ y < h ∧ b < h ∧ 1 ≤ t ∧ t ≤ 50 := by
  simp only [inCd, Bool.and_eq_true, decide_eq_true_eq] at q
  have h1 := sp_of q.1.1
  have h2 := sp_of q.1.2
  omega
theorem areInCorridor_eq (x y a b h t : Int) : impl_areInCorridor.f x y a b h t = some (inCd x y a b h t) := by
  simp only [impl_areInCorridor.f, areSpots_eq, within_eq, Option.bind_some, inCd]
  cases (sp x y && sp a b)
  · simp
  by_cases h1 : 2 ≤ h ∧ h ≤ 1000 <;> by_cases h2 : y < h <;> by_cases h3 : b < h <;> by_cases h4 : 1 ≤ t ∧ t ≤ 50 <;> simp [h1, h2, h3, h4]
theorem lwCorridor_eq (x y a b h t : Int) : spec_lwCorridor.f x y a b h t = some (inCd x y a b h t) := by
  simp only [spec_lwCorridor.f, lwTwo_eq, l1In_eq, Option.bind_some, inCd]
  cases (sp x y && sp a b)
  · simp
  by_cases h1 : 2 ≤ h ∧ h ≤ 1000 <;> by_cases h2 : y < h <;> by_cases h3 : b < h <;> by_cases h4 : 1 ≤ t ∧ t ≤ 50 <;> simp [h1, h2, h3, h4]

/-- How far a way in a corridor goes up and down: the program's and the reference's. -/
theorem rise_eq (x y a b h t : Int) (g : Bool) : ∃ f r, spec_lwRise.f x y a b h t g = some (f, r) ∧ impl_riseIn.f x y a b h t g = some r := by
  unfold spec_lwRise.f impl_riseIn.f impl_riseBefore.f
  cases g <;> cases (Int.tmod t 2 == 1) <;> simp
theorem rise_range {x y a b h t : Int} {g : Bool} (q : inCd x y a b h t = true) : ∀ r, impl_riseIn.f x y a b h t g = some r → 0 ≤ r ∧ r ≤ 52000 := by
  have z := inCd_of q
  have m0 : 0 ≤ (t - 1) * h := Int.mul_nonneg (by omega) (by omega)
  have m1 : (t - 1) * h ≤ 49 * 1000 := Int.mul_le_mul (by omega) (by omega) (by omega) (by omega)
  have w0 : wrap64 (t - 1) = t - 1 := wrap_id (by omega) (by omega)
  have w1 : wrap64 ((t - 1) * h) = (t - 1) * h := wrap_id (by omega) (by omega)
  intro r hr
  unfold impl_riseIn.f impl_riseBefore.f at hr
  rw [w0, w1] at hr
  have w2 : wrap64 (h - y) = h - y := wrap_id (by omega) (by omega)
  have w3 : wrap64 (h - b) = h - b := wrap_id (by omega) (by omega)
  rw [w2, w3] at hr
  have w4 : wrap64 (y + (t - 1) * h) = y + (t - 1) * h := wrap_id (by omega) (by omega)
  have w5 : wrap64 (h - y + (t - 1) * h) = h - y + (t - 1) * h := wrap_id (by omega) (by omega)
  cases g <;> cases hb : (Int.tmod t 2 == 1) <;> simp [hb, w4, w5] at hr <;> subst hr <;> rw [wrap_id (by omega) (by omega)] <;> omega

theorem square_same (a b : Int) : spec_lwSquare.f a b = impl_square.f a b := rfl

theorem corridorSquare_eq (x y a b h t : Int) (g : Bool) : ∃ r s, impl_riseIn.f x y a b h t g = some r ∧ impl_square.f (wrap64 (x - a)) r = some s ∧ spec_lwCorridorSquare.f x y a b h t g = some s := by
  obtain ⟨f, r, h1, h2⟩ := rise_eq x y a b h t g
  refine ⟨r, wrap64 (wrap64 (wrap64 (x - a) * wrap64 (x - a)) + wrap64 (r * r)), h2, rfl, ?_⟩
  unfold spec_lwCorridorSquare.f
  rw [h1]
  rfl

theorem ways (x y a b h g : Int) (d : Nat) : ∀ (k k' : Nat) (t n : Int), 1 ≤ t → t ≤ 51 → 51 - t = d → 4 * d < k → 4 * d < k' → 0 ≤ n → n ≤ 1000 - 2 * d →
    ∃ r, spec_WaysWithin.l0 k h g n t x y a b = some (r, true) ∧ impl_WaysWithin.l0 k' h g n t x y a b = some (r, true) := by
  induction d with
  | zero =>
    intro k k' t n t0 t1 ht hk hk' hn hn'
    obtain ⟨k, rfl⟩ : ∃ m, k = m + 1 := ⟨k - 1, by omega⟩
    obtain ⟨k', rfl⟩ : ∃ m, k' = m + 1 := ⟨k' - 1, by omega⟩
    refine ⟨n, ?_, ?_⟩
    · simp only [spec_WaysWithin.l0]; rw [if_neg (by omega)]
    · simp only [impl_WaysWithin.l0]; rw [if_neg (by omega)]
  | succ d ih =>
    intro k k' t n t0 t1 ht hk hk' hn hn'
    obtain ⟨k, rfl⟩ : ∃ m, k = m + 4 := ⟨k - 4, by omega⟩
    obtain ⟨k', rfl⟩ : ∃ m, k' = m + 4 := ⟨k' - 4, by omega⟩
    obtain ⟨r1, s1, h1, h2, h3⟩ := corridorSquare_eq x y a b h t true
    obtain ⟨r2, s2, g1, g2, g3⟩ := corridorSquare_eq x y a b h t false
    have t50 : t ≤ 50 := by omega
    have w : wrap64 (t + 1) = t + 1 := wrap_id (by omega) (by omega)
    have e1 : wrap64 (0 + 1) = 1 := by unfold wrap64; omega
    have e2 : wrap64 (1 + 1) = 2 := by unfold wrap64; omega
    have n1 : wrap64 (n + 1) = n + 1 := wrap_id (by omega) (by omega)
    have n2 : wrap64 (n + 1 + 1) = n + 1 + 1 := wrap_id (by omega) (by omega)
    have q0 : rdOf false [true, false] 0 = true := rfl
    have q1 : rdOf false [true, false] 1 = false := rfl
    have ql : (([true, false] : List Bool).length : Int) = 2 := rfl
    have b0 : ((0 : Int) == 0) = true := rfl
    have b1 : ((1 : Int) == 0) = false := rfl
    have p1 : (0 : Int) < 2 := by omega
    have p2 : (1 : Int) < 2 := by omega
    have p3 : ¬ (2 : Int) < 2 := by omega
    have p4 : (0 : Int) ≤ 0 := by omega
    have p5 : (0 : Int) ≤ 1 := by omega
    have go : ∀ m : Int, 0 ≤ m → m ≤ 1000 - 2 * (d : Int) → ∃ r, spec_WaysWithin.l0 k h g m (t + 1) x y a b = some (r, true) ∧ impl_WaysWithin.l0 k' h g m (t + 1) x y a b = some (r, true) :=
      fun m hm hm' => ih k k' (t + 1) m (by omega) (by omega) (by omega) (by omega) (by omega) hm hm'
    rw [spec_WaysWithin.l0, impl_WaysWithin.l0, if_pos t50, if_pos t50]
    simp only [Option.bind_some, ql]
    rw [spec_WaysWithin.l1, impl_WaysWithin.l1, if_pos p1, if_pos p1, if_pos p4, ql, if_pos p1, q0, b0, h1, h3]
    simp only [Option.bind_some, h2, e1, n1]
    by_cases c1 : s1 ≤ wrap64 (g * g)
    · simp only [if_pos c1]
      rw [spec_WaysWithin.l1, impl_WaysWithin.l1, if_pos p2, if_pos p2, if_pos p5, ql, if_pos p2, q1, b1, g1, g3]
      simp only [Option.bind_some, g2, e2, n2]
      by_cases c2 : s2 ≤ wrap64 (g * g)
      · simp only [if_pos c2]
        rw [spec_WaysWithin.l1, impl_WaysWithin.l1, if_neg p3, if_neg p3, w]
        exact go (n + 1 + 1) (by omega) (by omega)
      · simp only [if_neg c2]
        rw [spec_WaysWithin.l1, impl_WaysWithin.l1, if_neg p3, if_neg p3, w]
        exact go (n + 1) (by omega) (by omega)
    · simp only [if_neg c1]
      rw [spec_WaysWithin.l1, impl_WaysWithin.l1, if_pos p2, if_pos p2, if_pos p5, ql, if_pos p2, q1, b1, g1, g3]
      simp only [Option.bind_some, g2, e2, n1]
      by_cases c2 : s2 ≤ wrap64 (g * g)
      · simp only [if_pos c2]
        rw [spec_WaysWithin.l1, impl_WaysWithin.l1, if_neg p3, if_neg p3, w]
        exact go (n + 1) (by omega) (by omega)
      · simp only [if_neg c2]
        rw [spec_WaysWithin.l1, impl_WaysWithin.l1, if_neg p3, if_neg p3, w]
        exact go n (by omega) (by omega)
theorem main : laws_FnExactWaysWithin.Pure := by
  intro x y a b h g _ _ _ _ _ _
  obtain ⟨k, hk⟩ : ∃ k : Nat, 1000 ≤ k := ⟨1000, Nat.le_refl _⟩
  refine ⟨k + 1, ?_⟩
  obtain ⟨r, h1, h2⟩ := ways x y a b h g 50 k k 1 0 (by omega) (by omega) (by omega) (by omega) (by omega) (by omega) (by omega)
  cases q : inCd x y a b h 1 with
  | false =>
    simp only [laws_FnExactWaysWithin.f, laws_toSpot.f, spec_WaysWithin.f, impl_WaysWithin.f, spec_WaysWithin.j0, impl_WaysWithin.j0, areInCorridor_eq, lwCorridor_eq, q, Option.bind_some]
    simp
  | true =>
    by_cases c : 0 ≤ g ∧ g ≤ 100000
    · simp only [laws_FnExactWaysWithin.f, laws_toSpot.f, spec_WaysWithin.f, impl_WaysWithin.f, spec_WaysWithin.j0, impl_WaysWithin.j0, areInCorridor_eq, lwCorridor_eq, within_eq, l1In_eq, q, c, Option.bind_some, h1, h2, if_true, and_self, decide_true, Bool.not_true, Bool.false_eq_true, if_false]
      simp
    · simp only [laws_FnExactWaysWithin.f, laws_toSpot.f, spec_WaysWithin.f, impl_WaysWithin.f, spec_WaysWithin.j0, impl_WaysWithin.j0, areInCorridor_eq, lwCorridor_eq, within_eq, l1In_eq, q, Option.bind_some, if_true, decide_eq_false c, Bool.not_false]
      simp
end LFnExactWaysWithin

theorem FnExactWaysWithin : laws_FnExactWaysWithin.Pure := LFnExactWaysWithin.main

end Go.Proofs.Ytnapdbffnlhibaa.Pure
