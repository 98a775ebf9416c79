/- For every two lists of numbers the program's LookSquare and the reference's give the same, and the lists are left as they were; no condition beyond the numbers' kinds. -/
import Derived.Test.YtgllmgchadkihaaPFnExactLookSquarex2
namespace Go.Proofs.Ytgllmgchadkihaa.Pure
open Go.RowKit Go.Proofs.Ytgllmgchadkihaa.PFnExactLookSquare Go.Proofs.YtgllmgchadkihaaW.PrintWords Go.Proofs.YtgllmgchadkihaaW.PrintLast
set_option linter.unusedVariables false
set_option linter.unusedSimpArgs false

namespace LFnExactLookSquare
theorem within_eq (a b c : Int) : impl_within.f a b c = some (decide (b ≤ a ∧ a ≤ c)) := by
  by_cases h1 : b ≤ a <;> by_cases h2 : a ≤ c <;> simp [impl_within.f, h1, h2]

theorem l1In_eq (a b c : Int) : spec_l1In.f a b c = some (decide (b ≤ a ∧ a ≤ c)) := by
  by_cases h1 : b ≤ a <;> by_cases h2 : a ≤ c <;> simp [spec_l1In.f, h1, h2]

theorem wrap_id {n : Int} (h0 : -9223372036854775808 ≤ n) (h1 : n ≤ 9223372036854775807) : wrap64 n = n := by
  unfold wrap64
  omega

theorem eqIntS_l0 (l : List Int) (hl : l.length ≤ 1000000000) (d : Nat) : ∀ (k i : Nat), i + d = l.length → d < k → laws_eqIntS.l0 k l l i = some true := by
  induction d with
  | zero =>
    intro k i hi hk
    obtain ⟨k, rfl⟩ : ∃ m, k = m + 1 := ⟨k - 1, by omega⟩
    simp only [laws_eqIntS.l0]
    rw [if_neg (by omega)]
  | succ d ih =>
    intro k i hi hk
    obtain ⟨k, rfl⟩ : ∃ m, k = m + 1 := ⟨k - 1, by omega⟩
    have e : wrap64 ((i : Int) + 1) = ((i + 1 : Nat) : Int) := by rw [wrap_id (by omega) (by omega)]; omega
    simp only [laws_eqIntS.l0]
    rw [if_pos (by omega), if_pos (by omega), if_pos (by omega)]
    simp only [if_true]
    rw [e]
    exact ih k (i + 1) (by omega) (by omega)
theorem eqIntS_same (k : Nat) (l : List Int) (hl : l.length ≤ 1000000000) (hk : l.length < k) : laws_eqIntS.f k l l = some true := by
  unfold laws_eqIntS.f
  rw [if_pos rfl]
  exact eqIntS_l0 l hl l.length k 0 (by omega) hk

theorem toIntS_l0 (rest : List Int) : ∀ (pre : List Int) (k : Nat), rest.length < k → pre.length + rest.length ≤ 1000000000 →
    laws_toIntS.l0 k (pre ++ rest) (pre ++ List.replicate rest.length 0) pre.length = some (pre ++ rest) := by
  induction rest with
  | nil =>
    intro pre k hk hb
    obtain ⟨k, rfl⟩ : ∃ m, k = m + 1 := ⟨k - 1, by simp at hk; omega⟩
    simp only [laws_toIntS.l0]
    rw [if_neg (by simp)]
    simp
  | cons y ys ih =>
    intro pre k hk hb
    simp only [List.length_cons] at hk hb
    obtain ⟨k, rfl⟩ : ∃ m, k = m + 1 := ⟨k - 1, by omega⟩
    have e1 : wrap64 ((pre.length : Int) + 1) = (((pre ++ [y]).length : Nat) : Int) := by rw [wrap_id (by omega) (by omega)]; simp
    have e2 : rd (pre ++ y :: ys) (pre.length : Int) = y := by
      show (pre ++ y :: ys).getD pre.length 0 = y
      rw [List.getD_eq_getElem?_getD, List.getElem?_append_right (Nat.le_refl _), Nat.sub_self]
      rfl
    have e3 : (pre ++ List.replicate (ys.length + 1) 0).set ((pre.length : Int)).toNat y = (pre ++ [y]) ++ List.replicate ys.length 0 := by
      rw [Int.toNat_natCast, List.set_append_right _ _ (by simp), Nat.sub_self, List.replicate_succ]
      simp
    simp only [laws_toIntS.l0, List.length_cons]
    rw [if_pos (by simp; omega), if_pos (by omega), e2, if_pos (by simp; omega), e3, e1]
    have := ih (pre ++ [y]) k (by omega) (by simp; omega)
    simpa using this
theorem toIntS_eq (k : Nat) (l : List Int) (hk : l.length < k) (hb : l.length ≤ 1000000000) : laws_toIntS.f k l = some l := by
  have h := toIntS_l0 l [] k hk (by simpa using hb)
  simp only [List.nil_append, List.length_nil, Int.natCast_zero] at h
  unfold laws_toIntS.f
  rw [if_pos (by omega), if_pos (by rw [Int.toNat_natCast]; omega), Int.toNat_natCast]
  exact h

theorem ok_two (a b : Int) : impl_arePoints.ok [a, b] = (decide (1 ≤ a ∧ a ≤ 500) && decide (1 ≤ b ∧ b ≤ 500)) := by
  simp only [impl_arePoints.ok, within_eq, Option.getD_some]
theorem ok_of {l : List Int} (h : impl_arePoints.ok l = true) : ∃ a b, l = [a, b] ∧ 1 ≤ a ∧ a ≤ 500 ∧ 1 ≤ b ∧ b ≤ 500 := by
  match l, h with
  | [a, b], h =>
    rw [ok_two, Bool.and_eq_true] at h
    have h1 := of_decide_eq_true h.1
    have h2 := of_decide_eq_true h.2
    exact ⟨a, b, rfl, h1.1, h1.2, h2.1, h2.2⟩
  | [], h => exact absurd h (by simp [impl_arePoints.ok])
  | [_], h => exact absurd h (by simp [impl_arePoints.ok])
  | _ :: _ :: _ :: _, h => exact absurd h (by simp [impl_arePoints.ok])
theorem miPoint_eq (k : Nat) (l : List Int) (hk : 4 ≤ k) : spec_miPoint.f k l = some (impl_arePoints.ok l) := by
  obtain ⟨k, rfl⟩ : ∃ m, k = m + 4 := ⟨k - 4, by omega⟩
  unfold spec_miPoint.f
  match l with
  | [] => simp [impl_arePoints.ok]
  | [_] => simp [impl_arePoints.ok]
  | _ :: _ :: _ :: t =>
    rw [if_neg (by simp only [List.length_cons]; omega)]
    simp [impl_arePoints.ok]
  | [a, b] =>
    rw [ok_two, if_pos (by rfl)]
    have r0 : rd [a, b] 0 = a := rfl
    have r1 : rd [a, b] 1 = b := rfl
    have e1 : wrap64 (0 + 1) = 1 := by unfold wrap64; omega
    have e2 : wrap64 (1 + 1) = 2 := by unfold wrap64; omega
    simp only [spec_l1All.f, spec_l1All.l0, l1In_eq, List.length_cons, List.length_nil, Option.bind_some]
    by_cases h1 : 1 ≤ a ∧ a ≤ 500 <;> by_cases h2 : 1 ≤ b ∧ b ≤ 500 <;> simp [h1, h2, r0, r1, e1, e2, show wrap64 1 = 1 from e1, show wrap64 2 = 2 by unfold wrap64; omega]

theorem both (k : Nat) (hk : 4 ≤ k) (l0 l1 : List Int) : ∃ r, spec_LookSquare.f k l0 l1 = some r ∧ impl_LookSquare.f l0 l1 = some r := by
  unfold spec_LookSquare.f impl_LookSquare.f
  rw [miPoint_eq k l0 hk]
  simp only [Option.bind_some, miPoint_eq k l1 hk, impl_arePoints.f, List.all_cons, List.all_nil, Bool.and_true]
  cases h0 : impl_arePoints.ok l0 with
  | false => exact ⟨_, rfl, rfl⟩
  | true =>
    cases h1 : impl_arePoints.ok l1 with
    | false => exact ⟨_, rfl, rfl⟩
    | true =>
      obtain ⟨a, b, rfl, _⟩ := ok_of h0
      obtain ⟨c, d, rfl, _⟩ := ok_of h1
      exact ⟨_, rfl, rfl⟩
theorem main : laws_FnExactLookSquare.Pure := by
  intro l0 l1 _ _ _ _ _ _
  obtain ⟨k, hk⟩ : ∃ k : Nat, 2000000 ≤ k := ⟨2000000, Nat.le_refl _⟩
  refine ⟨k + 1, ?_⟩
  unfold laws_FnExactLookSquare.f
  by_cases c0 : (l0.length : Int) > 1048576
  · rw [if_pos c0]
  by_cases c1 : (l1.length : Int) > 1048576
  · rw [if_neg c0, if_pos c1]
  obtain ⟨r, h1, h2⟩ := both (k + 1) (by omega) l0 l1
  rw [if_neg c0, if_neg c1, toIntS_eq (k + 1) l0 (by omega) (by omega), toIntS_eq (k + 1) l1 (by omega) (by omega)]
  simp only [Option.bind_some, h1, h2, if_true, bne_self_eq_false, laws_FnExactLookSquare.j0, Bool.false_eq_true, if_false]
  rw [toIntS_eq k l0 (by omega) (by omega), toIntS_eq k l1 (by omega) (by omega)]
  simp only [Option.bind_some]
  rw [eqIntS_same k l0 (by omega) (by omega)]
  simp only [Option.bind_some, if_true]
  rw [eqIntS_same k l1 (by omega) (by omega)]
  rfl
end LFnExactLookSquare

theorem FnExactLookSquare : laws_FnExactLookSquare.Pure := LFnExactLookSquare.main

end Go.Proofs.Ytgllmgchadkihaa.Pure
