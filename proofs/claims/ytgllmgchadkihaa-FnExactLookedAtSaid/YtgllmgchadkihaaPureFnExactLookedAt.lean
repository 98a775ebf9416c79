/- For every two lists of numbers the program's LookedAt and the reference's give the same, and the lists are left as they were; no condition beyond the numbers' kinds. -/
import Derived.Test.YtgllmgchadkihaaPFnExactLookedAtx2
namespace Go.Proofs.Ytgllmgchadkihaa.Pure
open Go.RowKit Go.Proofs.Ytgllmgchadkihaa.PFnExactLookedAt Go.Proofs.YtgllmgchadkihaaW.PrintWords Go.Proofs.YtgllmgchadkihaaW.PrintLast
set_option linter.unusedVariables false
set_option linter.unusedSimpArgs false

namespace LFnExactLookedAt
theorem within_eq (a b c : Int) : impl_within.f a b c = some (decide (b ≤ a ∧ a ≤ c)) := by
  by_cases h1 : b ≤ a <;> by_cases h2 : a ≤ c <;> simp [impl_within.f, h1, h2]

theorem l1In_eq (a b c : Int) : spec_l1In.f a b c = some (decide (b ≤ a ∧ a ≤ c)) := by
  by_cases h1 : b ≤ a <;> by_cases h2 : a ≤ c <;> simp [spec_l1In.f, h1, h2]

theorem wrap_id {n : Int} (h0 : -9223372036854775808 ≤ n) (h1 : n ≤ 9223372036854775807) : wrap64 n = n := by
  unfold wrap64
  omega

theorem tdiv_le (a b : Int) : (a.tdiv b).natAbs ≤ a.natAbs := by
  rw [Int.natAbs_tdiv]
  exact Nat.div_le_self _ _
theorem wrap_tdiv {a b : Int} (h : a.natAbs ≤ 4611686018427387904) : wrap64 (a.tdiv b) = a.tdiv b := by
  have := tdiv_le a b
  exact wrap_id (by omega) (by omega)

theorem gcd_step (a b : Int) : Nat.gcd b.natAbs (a.tmod b).natAbs = Nat.gcd a.natAbs b.natAbs := by
  rw [Int.natAbs_tmod, Nat.gcd_comm a.natAbs, Nat.gcd_rec b.natAbs a.natAbs, Nat.gcd_comm]
theorem gcd_l0 (d : Nat) : ∀ (k : Nat) (a b : Int), b.natAbs ≤ d → d < k → a.natAbs ≤ 4611686018427387904 → b.natAbs ≤ 4611686018427387904 →
    impl_gcd.l0 k a b = some ((Nat.gcd a.natAbs b.natAbs : Nat) : Int) := by
  induction d with
  | zero =>
    intro k a b hb hk ha hb'
    obtain ⟨k, rfl⟩ : ∃ m, k = m + 1 := ⟨k - 1, by omega⟩
    have h0 : b = 0 := by omega
    simp only [impl_gcd.l0]
    rw [if_pos h0, wrap_id (by omega) (by omega)]
    subst h0
    simp only [Int.natAbs_zero, Nat.gcd_zero_right, Option.some.injEq]
    unfold mx
    split <;> omega
  | succ d ih =>
    intro k a b hb hk ha hb'
    obtain ⟨k, rfl⟩ : ∃ m, k = m + 1 := ⟨k - 1, by omega⟩
    simp only [impl_gcd.l0]
    by_cases h0 : b = 0
    · subst h0
      rw [if_pos rfl, wrap_id (by omega) (by omega)]
      simp only [Int.natAbs_zero, Nat.gcd_zero_right, Option.some.injEq]
      unfold mx
      split <;> omega
    · have hm : (a.tmod b).natAbs < b.natAbs := by
        rw [Int.natAbs_tmod]
        exact Nat.mod_lt _ (by omega)
      rw [if_neg h0, ih k b (a.tmod b) (by omega) (by omega) hb' (by omega), gcd_step]
theorem gcd_eq (k : Nat) (a b : Int) (hk : b.natAbs < k) (ha : a.natAbs ≤ 4611686018427387904) (hb : b.natAbs ≤ 4611686018427387904) :
    impl_gcd.f k a b = some ((Nat.gcd a.natAbs b.natAbs : Nat) : Int) := gcd_l0 b.natAbs k a b (Nat.le_refl _) hk ha hb

theorem gcd_pos {a b : Int} (hb : b ≠ 0) : ((Nat.gcd a.natAbs b.natAbs : Nat) : Int) ≠ 0 := by
  have : 0 < Nat.gcd a.natAbs b.natAbs := Nat.gcd_pos_of_pos_right _ (by omega)
  omega
theorem fraction_eq (k : Nat) (a b : Int) (hk : b.natAbs < k) (h0 : b ≠ 0) (ha : a.natAbs ≤ 4611686018427387904) (hb : b.natAbs ≤ 4611686018427387904) :
    impl_fraction.f k a b = some (a.tdiv (Nat.gcd a.natAbs b.natAbs : Nat), b.tdiv (Nat.gcd a.natAbs b.natAbs : Nat), true) := by
  unfold impl_fraction.f
  rw [gcd_eq k a b hk ha hb]
  simp only [Option.bind_some]
  rw [if_neg (gcd_pos h0), wrap_tdiv ha, wrap_tdiv hb]

theorem gcd_step2 (a b : Int) : Nat.gcd b.natAbs (a.tmod b).natAbs = Nat.gcd a.natAbs b.natAbs := by
  rw [Int.natAbs_tmod, Nat.gcd_comm a.natAbs, Nat.gcd_rec b.natAbs a.natAbs, Nat.gcd_comm]

theorem clLow_l0 (d : Nat) : ∀ (k : Nat) (x y a b : Int), b.natAbs ≤ d → d < k → 0 ≤ a → 0 ≤ b → (a ≠ 0 ∨ b ≠ 0) → x.natAbs ≤ 4611686018427387904 → y.natAbs ≤ 4611686018427387904 →
    spec_clLow.l0 k x y a b = some (x.tdiv (Nat.gcd a.natAbs b.natAbs : Nat), y.tdiv (Nat.gcd a.natAbs b.natAbs : Nat)) := by
  induction d with
  | zero =>
    intro k x y a b hb hk ha hb' hn hx hy
    obtain ⟨k, rfl⟩ : ∃ m, k = m + 1 := ⟨k - 1, by omega⟩
    have h0 : b = 0 := by omega
    simp only [spec_clLow.l0]
    rw [if_neg (by omega), if_neg (by omega), wrap_tdiv hx, wrap_tdiv hy]
    subst h0
    simp only [Int.natAbs_zero, Nat.gcd_zero_right]
    rw [show ((a.natAbs : Nat) : Int) = a by omega]
  | succ d ih =>
    intro k x y a b hb hk ha hb' hn hx hy
    obtain ⟨k, rfl⟩ : ∃ m, k = m + 1 := ⟨k - 1, by omega⟩
    simp only [spec_clLow.l0]
    by_cases h0 : b = 0
    · subst h0
      rw [if_neg (by omega), if_neg (by omega), wrap_tdiv hx, wrap_tdiv hy]
      simp only [Int.natAbs_zero, Nat.gcd_zero_right]
      rw [show ((a.natAbs : Nat) : Int) = a by omega]
    · have hm : (a.tmod b).natAbs < b.natAbs := by
        rw [Int.natAbs_tmod]
        exact Nat.mod_lt _ (by omega)
      rw [if_pos (by omega), if_neg h0, ih k x y b (a.tmod b) (by omega) (by omega) hb' (Int.tmod_nonneg _ ha) (by omega) hx hy, gcd_step2]
theorem clLow_eq (k : Nat) (a b : Int) (hk : b.natAbs < k) (h0 : 0 ≤ a) (hb0 : 0 < b) (ha : a ≤ 4611686018427387904) (hb : b ≤ 4611686018427387904) :
    spec_clLow.f k a b = some (a.tdiv (Nat.gcd a.natAbs b.natAbs : Nat), b.tdiv (Nat.gcd a.natAbs b.natAbs : Nat)) :=
  clLow_l0 b.natAbs k a b a b (Nat.le_refl _) hk h0 (by omega) (by omega) (by omega) (by omega)

theorem eqIntS_l0 (l : List Int) (hl : l.length ≤ 1000000000) (d : Nat) : ∀ (k i : Nat), i + d = l.length → d < k → laws_eqIntS.l0 k l l i = some true := by
  induction d with
  | zero =>
    intro k i hi hk
    obtain ⟨k, rfl⟩ : ∃ m, k = m + 1 := ⟨k - 1, by omega⟩
    simp only [laws_eqIntS.l0]
    rw [if_neg (by omega)]
  | succ d ih =>
    intro k i hi hk
    obtain ⟨k, rfl⟩ : ∃ m, k = m + 1 := ⟨k - 1, by omega⟩
    have e : wrap64 ((i : Int) + 1) = ((i + 1 : Nat) : Int) := by rw [wrap_id (by omega) (by omega)]; omega
    simp only [laws_eqIntS.l0]
    rw [if_pos (by omega), if_pos (by omega), if_pos (by omega)]
    simp only [if_true]
    rw [e]
    exact ih k (i + 1) (by omega) (by omega)
theorem eqIntS_same (k : Nat) (l : List Int) (hl : l.length ≤ 1000000000) (hk : l.length < k) : laws_eqIntS.f k l l = some true := by
  unfold laws_eqIntS.f
  rw [if_pos rfl]
  exact eqIntS_l0 l hl l.length k 0 (by omega) hk

theorem toIntS_l0 (rest : List Int) : ∀ (pre : List Int) (k : Nat), rest.length < k → pre.length + rest.length ≤ 1000000000 →
    laws_toIntS.l0 k (pre ++ rest) (pre ++ List.replicate rest.length 0) pre.length = some (pre ++ rest) := by
  induction rest with
  | nil =>
    intro pre k hk hb
    obtain ⟨k, rfl⟩ : ∃ m, k = m + 1 := ⟨k - 1, by simp at hk; omega⟩
    simp only [laws_toIntS.l0]
    rw [if_neg (by simp)]
    simp
  | cons y ys ih =>
    intro pre k hk hb
    simp only [List.length_cons] at hk hb
    obtain ⟨k, rfl⟩ : ∃ m, k = m + 1 := ⟨k - 1, by omega⟩
    have e1 : wrap64 ((pre.length : Int) + 1) = (((pre ++ [y]).length : Nat) : Int) := by rw [wrap_id (by omega) (by omega)]; simp
    have e2 : rd (pre ++ y :: ys) (pre.length : Int) = y := by
      show (pre ++ y :: ys).getD pre.length 0 = y
      rw [List.getD_eq_getElem?_getD, List.getElem?_append_right (Nat.le_refl _), Nat.sub_self]
      rfl
    have e3 : (pre ++ List.replicate (ys.length + 1) 0).set ((pre.length : Int)).toNat y = (pre ++ [y]) ++ List.replicate ys.length 0 := by
      rw [Int.toNat_natCast, List.set_append_right _ _ (by simp), Nat.sub_self, List.replicate_succ]
      simp
    simp only [laws_toIntS.l0, List.length_cons]
    rw [if_pos (by simp; omega), if_pos (by omega), e2, if_pos (by simp; omega), e3, e1]
    have := ih (pre ++ [y]) k (by omega) (by simp; omega)
    simpa using this
theorem toIntS_eq (k : Nat) (l : List Int) (hk : l.length < k) (hb : l.length ≤ 1000000000) : laws_toIntS.f k l = some l := by
  have h := toIntS_l0 l [] k hk (by simpa using hb)
  simp only [List.nil_append, List.length_nil, Int.natCast_zero] at h
  unfold laws_toIntS.f
  rw [if_pos (by omega), if_pos (by rw [Int.toNat_natCast]; omega), Int.toNat_natCast]
  exact h

theorem ok_two (a b : Int) : impl_arePoints.ok [a, b] = (decide (1 ≤ a ∧ a ≤ 500) && decide (1 ≤ b ∧ b ≤ 500)) := by
  simp only [impl_arePoints.ok, within_eq, Option.getD_some]
theorem ok_of {l : List Int} (h : impl_arePoints.ok l = true) : ∃ a b, l = [a, b] ∧ 1 ≤ a ∧ a ≤ 500 ∧ 1 ≤ b ∧ b ≤ 500 := by
  match l, h with
  | [a, b], h =>
    rw [ok_two, Bool.and_eq_true] at h
    have h1 := of_decide_eq_true h.1
    have h2 := of_decide_eq_true h.2
    exact ⟨a, b, rfl, h1.1, h1.2, h2.1, h2.2⟩
  | [], h => exact absurd h (by simp [impl_arePoints.ok])
  | [_], h => exact absurd h (by simp [impl_arePoints.ok])
  | _ :: _ :: _ :: _, h => exact absurd h (by simp [impl_arePoints.ok])
theorem miPoint_eq (k : Nat) (l : List Int) (hk : 4 ≤ k) : spec_miPoint.f k l = some (impl_arePoints.ok l) := by
  obtain ⟨k, rfl⟩ : ∃ m, k = m + 4 := ⟨k - 4, by omega⟩
  unfold spec_miPoint.f
  match l with
  | [] => simp [impl_arePoints.ok]
  | [_] => simp [impl_arePoints.ok]
  | _ :: _ :: _ :: t =>
    rw [if_neg (by simp only [List.length_cons]; omega)]
    simp [impl_arePoints.ok]
  | [a, b] =>
    rw [ok_two, if_pos (by rfl)]
    have r0 : rd [a, b] 0 = a := rfl
    have r1 : rd [a, b] 1 = b := rfl
    have e1 : wrap64 (0 + 1) = 1 := by unfold wrap64; omega
    have e2 : wrap64 (1 + 1) = 2 := by unfold wrap64; omega
    simp only [spec_l1All.f, spec_l1All.l0, l1In_eq, List.length_cons, List.length_nil, Option.bind_some]
    by_cases h1 : 1 ≤ a ∧ a ≤ 500 <;> by_cases h2 : 1 ≤ b ∧ b ≤ 500 <;> simp [h1, h2, r0, r1, e1, e2, show wrap64 1 = 1 from e1, show wrap64 2 = 2 by unfold wrap64; omega]

/-- Two points' look, unreduced. -/
theorem prod_le {a b : Int} (h : 1 ≤ a ∧ a ≤ 500) (g : 1 ≤ b ∧ b ≤ 500) : 1 ≤ a * b ∧ a * b ≤ 250000 := by
  have h1 : (a * b).natAbs ≤ 500 * 500 := by rw [Int.natAbs_mul]; exact Nat.mul_le_mul (by omega) (by omega)
  have h2 : 0 < a * b := Int.mul_pos (by omega) (by omega)
  omega
theorem lookedAt_eq {a b c d : Int} (ha : 1 ≤ a ∧ a ≤ 500) (hb : 1 ≤ b ∧ b ≤ 500) (hc : 1 ≤ c ∧ c ≤ 500) (hd : 1 ≤ d ∧ d ≤ 500) :
    impl_lookedAt.f [a, b] [c, d] = some (a * d + c * b, a + c) := by
  have r0 : rd [a, b] 0 = a := rfl
  have r1 : rd [a, b] 1 = b := rfl
  have r2 : rd [c, d] 0 = c := rfl
  have r3 : rd [c, d] 1 = d := rfl
  have m1 := prod_le ha hd
  have m2 := prod_le hc hb
  unfold impl_lookedAt.f
  rw [if_pos (by simp), if_pos (by simp), if_pos (by simp), if_pos (by simp), r0, r1, r2, r3, wrap_id (n := a * d) (by omega) (by omega), wrap_id (n := c * b) (by omega) (by omega), wrap_id (by omega) (by omega), wrap_id (by omega) (by omega)]

theorem miLook_eq (k : Nat) {a b c d : Int} (hk : 1000 < k) (ha : 1 ≤ a ∧ a ≤ 500) (hb : 1 ≤ b ∧ b ≤ 500) (hc : 1 ≤ c ∧ c ≤ 500) (hd : 1 ≤ d ∧ d ≤ 500) :
    spec_miLook.f k [a, b] [c, d] = some ((a * d + c * b).tdiv (Nat.gcd (a * d + c * b).natAbs (a + c).natAbs : Nat), (a + c).tdiv (Nat.gcd (a * d + c * b).natAbs (a + c).natAbs : Nat)) := by
  have r0 : rd [a, b] 0 = a := rfl
  have r1 : rd [a, b] 1 = b := rfl
  have r2 : rd [c, d] 0 = c := rfl
  have r3 : rd [c, d] 1 = d := rfl
  have m1 := prod_le ha hd
  have m2 := prod_le hc hb
  unfold spec_miLook.f
  rw [if_pos (by simp), if_pos (by simp), if_pos (by simp), if_pos (by simp), r0, r1, r2, r3, Int.mul_comm b c, Int.mul_comm d a, wrap_id (n := a * d) (by omega) (by omega), wrap_id (n := c * b) (by omega) (by omega), wrap_id (n := a + c) (by omega) (by omega), Int.add_comm (c * b), wrap_id (n := a * d + c * b) (by omega) (by omega), clLow_eq k _ _ (by omega) (by omega) (by omega) (by omega) (by omega)]
  rfl
theorem pos_of_mul {g x : Int} (hg : 0 < g) (h : 0 < g * x) : 0 < x := by
  apply Classical.byContradiction
  intro hn
  have := Int.mul_nonpos_of_nonneg_of_nonpos (a := g) (b := x) (by omega) (by omega)
  omega
theorem le_mul_of {g x : Int} (hg : 0 < g) (hx : 0 < x) : x ≤ g * x := by
  have := Int.mul_le_mul_of_nonneg_right (a := 1) (b := g) (c := x) (by omega) (by omega)
  omega
/-- The reduced look: there is g > 0 with both parts g times it. -/
theorem miLook_red (k : Nat) {a b c d : Int} (hk : 1000 < k) (ha : 1 ≤ a ∧ a ≤ 500) (hb : 1 ≤ b ∧ b ≤ 500) (hc : 1 ≤ c ∧ c ≤ 500) (hd : 1 ≤ d ∧ d ≤ 500) :
    ∃ g p q : Int, 0 < g ∧ 0 < q ∧ 0 < p ∧ a * d + c * b = g * p ∧ a + c = g * q ∧ spec_miLook.f k [a, b] [c, d] = some (p, q) := by
  have m1 := prod_le ha hd
  have m2 := prod_le hc hb
  have hp : 0 < Nat.gcd (a * d + c * b).natAbs (a + c).natAbs := Nat.gcd_pos_of_pos_right _ (by omega)
  have d1 : ((Nat.gcd (a * d + c * b).natAbs (a + c).natAbs : Nat) : Int) ∣ a * d + c * b := Int.ofNat_dvd_left.2 (Nat.gcd_dvd_left _ _)
  have d2 : ((Nat.gcd (a * d + c * b).natAbs (a + c).natAbs : Nat) : Int) ∣ a + c := Int.ofNat_dvd_left.2 (Nat.gcd_dvd_right _ _)
  have e1 := Int.mul_tdiv_cancel' d1
  have e2 := Int.mul_tdiv_cancel' d2
  have g0 : (0 : Int) < ((Nat.gcd (a * d + c * b).natAbs (a + c).natAbs : Nat) : Int) := by omega
  exact ⟨_, _, _, g0, pos_of_mul g0 (by rw [e2]; omega), pos_of_mul g0 (by rw [e1]; omega), e1.symm, e2.symm, miLook_eq k hk ha hb hc hd⟩

theorem both (k : Nat) (hk : 2000 ≤ k) (l0 l1 : List Int) : ∃ r, spec_LookedAt.f k l0 l1 = some r ∧ impl_LookedAt.f k l0 l1 = some r := by
  unfold spec_LookedAt.f impl_LookedAt.f
  rw [miPoint_eq k l0 (by omega)]
  simp only [Option.bind_some, miPoint_eq k l1 (show 4 ≤ k by omega), impl_arePoints.f, List.all_cons, List.all_nil, Bool.and_true]
  cases h0 : impl_arePoints.ok l0 with
  | false => exact ⟨_, rfl, rfl⟩
  | true =>
    cases h1 : impl_arePoints.ok l1 with
    | false => exact ⟨_, rfl, rfl⟩
    | true =>
      obtain ⟨a, b, rfl, a0, a1, b0, b1⟩ := ok_of h0
      obtain ⟨c, d, rfl, c0, c1, d0, d1⟩ := ok_of h1
      have m1 := prod_le ⟨a0, a1⟩ ⟨d0, d1⟩
      have m2 := prod_le ⟨c0, c1⟩ ⟨b0, b1⟩
      refine ⟨((a * d + c * b).tdiv (Nat.gcd (a * d + c * b).natAbs (a + c).natAbs : Nat), (a + c).tdiv (Nat.gcd (a * d + c * b).natAbs (a + c).natAbs : Nat), true), ?_, ?_⟩
      rotate_left
      · simp only [Bool.and_self, if_true]
        rw [lookedAt_eq ⟨a0, a1⟩ ⟨b0, b1⟩ ⟨c0, c1⟩ ⟨d0, d1⟩]
        simp only [Option.bind_some]
        rw [fraction_eq k _ _ (by omega) (by omega) (by omega) (by omega)]
        rfl
      · simp only [if_true]
        rw [miLook_eq k (by omega) ⟨a0, a1⟩ ⟨b0, b1⟩ ⟨c0, c1⟩ ⟨d0, d1⟩]
        rfl
theorem main : laws_FnExactLookedAt.Pure := by
  intro l0 l1 _ _ _ _ _ _
  obtain ⟨k, hk⟩ : ∃ k : Nat, 2000000 ≤ k := ⟨2000000, Nat.le_refl _⟩
  refine ⟨k + 1, ?_⟩
  unfold laws_FnExactLookedAt.f
  by_cases c0 : (l0.length : Int) > 1048576
  · rw [if_pos c0]
  by_cases c1 : (l1.length : Int) > 1048576
  · rw [if_neg c0, if_pos c1]
  obtain ⟨r, h1, h2⟩ := both (k + 1) (by omega) l0 l1
  rw [if_neg c0, if_neg c1, toIntS_eq (k + 1) l0 (by omega) (by omega), toIntS_eq (k + 1) l1 (by omega) (by omega)]
  simp only [Option.bind_some, h1, h2, if_true, bne_self_eq_false, laws_FnExactLookedAt.j0, Bool.false_eq_true, if_false]
  rw [toIntS_eq k l0 (by omega) (by omega), toIntS_eq k l1 (by omega) (by omega)]
  simp only [Option.bind_some]
  rw [eqIntS_same k l0 (by omega) (by omega)]
  simp only [Option.bind_some, if_true]
  rw [eqIntS_same k l1 (by omega) (by omega)]
  rfl
end LFnExactLookedAt

theorem FnExactLookedAt : laws_FnExactLookedAt.Pure := LFnExactLookedAt.main

end Go.Proofs.Ytgllmgchadkihaa.Pure
