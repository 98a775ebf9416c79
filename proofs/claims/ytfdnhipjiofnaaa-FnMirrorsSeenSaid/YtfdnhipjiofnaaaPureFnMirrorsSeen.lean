/- For all bytes that are given, what is drawn of mirrors for people and of points before mirrors is answered as the law tells; no condition beyond the bytes' kinds. -/
import Derived.Test.YtfdnhipjiofnaaaPFnMirrorsSeenx8
namespace Go.Proofs.Ytfdnhipjiofnaaa.Pure
open Go.RowKit Go.Proofs.Ytfdnhipjiofnaaa.PFnMirrorsSeen Go.Proofs.YtfdnhipjiofnaaaW.PrintWords Go.Proofs.YtfdnhipjiofnaaaW.PrintLast
set_option linter.unusedVariables false
set_option linter.unusedSimpArgs false

namespace LFnMirrorsSeen
theorem within_eq (a b c : Int) : impl_within.f a b c = some (decide (b ≤ a ∧ a ≤ c)) := by
  by_cases h1 : b ≤ a <;> by_cases h2 : a ≤ c <;> simp [impl_within.f, h1, h2]

theorem l1In_eq (a b c : Int) : spec_l1In.f a b c = some (decide (b ≤ a ∧ a ≤ c)) := by
  by_cases h1 : b ≤ a <;> by_cases h2 : a ≤ c <;> simp [spec_l1In.f, h1, h2]

theorem wrap_id {n : Int} (h0 : -9223372036854775808 ≤ n) (h1 : n ≤ 9223372036854775807) : wrap64 n = n := by
  unfold wrap64
  omega

theorem tdiv_le (a b : Int) : (a.tdiv b).natAbs ≤ a.natAbs := by
  rw [Int.natAbs_tdiv]
  exact Nat.div_le_self _ _
theorem wrap_tdiv {a b : Int} (h : a.natAbs ≤ 4611686018427387904) : wrap64 (a.tdiv b) = a.tdiv b := by
  have := tdiv_le a b
  exact wrap_id (by omega) (by omega)

theorem gcd_step (a b : Int) : Nat.gcd b.natAbs (a.tmod b).natAbs = Nat.gcd a.natAbs b.natAbs := by
  rw [Int.natAbs_tmod, Nat.gcd_comm a.natAbs, Nat.gcd_rec b.natAbs a.natAbs, Nat.gcd_comm]
theorem gcd_l0 (d : Nat) : ∀ (k : Nat) (a b : Int), b.natAbs ≤ d → d < k → a.natAbs ≤ 4611686018427387904 → b.natAbs ≤ 4611686018427387904 →
    impl_gcd.l0 k a b = some ((Nat.gcd a.natAbs b.natAbs : Nat) : Int) := by
  induction d with
  | zero =>
    intro k a b hb hk ha hb'
    obtain ⟨k, rfl⟩ : ∃ m, k = m + 1 := ⟨k - 1, by omega⟩
    have h0 : b = 0 := by omega
    simp only [impl_gcd.l0]
    rw [if_pos h0, wrap_id (by omega) (by omega)]
    subst h0
    simp only [Int.natAbs_zero, Nat.gcd_zero_right, Option.some.injEq]
    unfold mx
    split <;> omega
  | succ d ih =>
    intro k a b hb hk ha hb'
    obtain ⟨k, rfl⟩ : ∃ m, k = m + 1 := ⟨k - 1, by omega⟩
    simp only [impl_gcd.l0]
    by_cases h0 : b = 0
    · subst h0
      rw [if_pos rfl, wrap_id (by omega) (by omega)]
      simp only [Int.natAbs_zero, Nat.gcd_zero_right, Option.some.injEq]
      unfold mx
      split <;> omega
    · have hm : (a.tmod b).natAbs < b.natAbs := by
        rw [Int.natAbs_tmod]
        exact Nat.mod_lt _ (by omega)
      rw [if_neg h0, ih k b (a.tmod b) (by omega) (by omega) hb' (by omega), gcd_step]
theorem gcd_eq (k : Nat) (a b : Int) (hk : b.natAbs < k) (ha : a.natAbs ≤ 4611686018427387904) (hb : b.natAbs ≤ 4611686018427387904) :
    impl_gcd.f k a b = some ((Nat.gcd a.natAbs b.natAbs : Nat) : Int) := gcd_l0 b.natAbs k a b (Nat.le_refl _) hk ha hb

theorem gcd_pos {a b : Int} (hb : b ≠ 0) : ((Nat.gcd a.natAbs b.natAbs : Nat) : Int) ≠ 0 := by
  have : 0 < Nat.gcd a.natAbs b.natAbs := Nat.gcd_pos_of_pos_right _ (by omega)
  omega
theorem fraction_eq (k : Nat) (a b : Int) (hk : b.natAbs < k) (h0 : b ≠ 0) (ha : a.natAbs ≤ 4611686018427387904) (hb : b.natAbs ≤ 4611686018427387904) :
    impl_fraction.f k a b = some (a.tdiv (Nat.gcd a.natAbs b.natAbs : Nat), b.tdiv (Nat.gcd a.natAbs b.natAbs : Nat), true) := by
  unfold impl_fraction.f
  rw [gcd_eq k a b hk ha hb]
  simp only [Option.bind_some]
  rw [if_neg (gcd_pos h0), wrap_tdiv ha, wrap_tdiv hb]

theorem gcd_step2 (a b : Int) : Nat.gcd b.natAbs (a.tmod b).natAbs = Nat.gcd a.natAbs b.natAbs := by
  rw [Int.natAbs_tmod, Nat.gcd_comm a.natAbs, Nat.gcd_rec b.natAbs a.natAbs, Nat.gcd_comm]

theorem clLow_l0 (d : Nat) : ∀ (k : Nat) (x y a b : Int), b.natAbs ≤ d → d < k → 0 ≤ a → 0 ≤ b → (a ≠ 0 ∨ b ≠ 0) → x.natAbs ≤ 4611686018427387904 → y.natAbs ≤ 4611686018427387904 →
    spec_clLow.l0 k x y a b = some (x.tdiv (Nat.gcd a.natAbs b.natAbs : Nat), y.tdiv (Nat.gcd a.natAbs b.natAbs : Nat)) := by
  induction d with
  | zero =>
    intro k x y a b hb hk ha hb' hn hx hy
    obtain ⟨k, rfl⟩ : ∃ m, k = m + 1 := ⟨k - 1, by omega⟩
    have h0 : b = 0 := by omega
    simp only [spec_clLow.l0]
    rw [if_neg (by omega), if_neg (by omega), wrap_tdiv hx, wrap_tdiv hy]
    subst h0
    simp only [Int.natAbs_zero, Nat.gcd_zero_right]
    rw [show ((a.natAbs : Nat) : Int) = a by omega]
  | succ d ih =>
    intro k x y a b hb hk ha hb' hn hx hy
    obtain ⟨k, rfl⟩ : ∃ m, k = m + 1 := ⟨k - 1, by omega⟩
    simp only [spec_clLow.l0]
    by_cases h0 : b = 0
    · subst h0
      rw [if_neg (by omega), if_neg (by omega), wrap_tdiv hx, wrap_tdiv hy]
      simp only [Int.natAbs_zero, Nat.gcd_zero_right]
      rw [show ((a.natAbs : Nat) : Int) = a by omega]
    · have hm : (a.tmod b).natAbs < b.natAbs := by
        rw [Int.natAbs_tmod]
        exact Nat.mod_lt _ (by omega)
      rw [if_pos (by omega), if_neg h0, ih k x y b (a.tmod b) (by omega) (by omega) hb' (Int.tmod_nonneg _ ha) (by omega) hx hy, gcd_step2]
theorem clLow_eq (k : Nat) (a b : Int) (hk : b.natAbs < k) (h0 : 0 ≤ a) (hb0 : 0 < b) (ha : a ≤ 4611686018427387904) (hb : b ≤ 4611686018427387904) :
    spec_clLow.f k a b = some (a.tdiv (Nat.gcd a.natAbs b.natAbs : Nat), b.tdiv (Nat.gcd a.natAbs b.natAbs : Nat)) :=
  clLow_l0 b.natAbs k a b a b (Nat.le_refl _) hk h0 (by omega) (by omega) (by omega) (by omega)

def pe (t e : Int) : Bool := decide ((2 ≤ t ∧ t ≤ 300) ∧ 1 ≤ e ∧ e ≤ t)
theorem pe_of {x y : Int} (h : pe x y = true) : 2 ≤ x ∧ x ≤ 300 ∧ 1 ≤ y ∧ y ≤ x := by
  have := of_decide_eq_true h
  omega
theorem isPerson_eq (x y : Int) : impl_isPerson.f x y = some (pe x y) := by
  simp only [impl_isPerson.f, within_eq, Option.bind_some, pe]
  by_cases h1 : 2 ≤ x ∧ x ≤ 300 <;> by_cases h2 : 1 ≤ y ∧ y ≤ x <;> simp [h1, h2]

theorem miPerson_eq (x y : Int) : spec_miPerson.f x y = some (pe x y) := by
  simp only [spec_miPerson.f, l1In_eq, Option.bind_some, pe]
  by_cases h1 : 2 ≤ x ∧ x ≤ 300 <;> by_cases h2 : 1 ≤ y ∧ y ≤ x <;> simp [h1, h2]

def part (l h : Int) : Bool := decide ((0 ≤ l ∧ l ≤ 300) ∧ wrap64 (l + 1) ≤ h ∧ h ≤ 300)
theorem isMirror_eq (t e l h : Int) : impl_isMirror.f t e l h = some (pe t e && part l h) := by
  simp only [impl_isMirror.f, isPerson_eq, within_eq, Option.bind_some, part]
  cases pe t e
  · simp
  by_cases h1 : 0 ≤ l ∧ l ≤ 300 <;> by_cases h2 : wrap64 (l + 1) ≤ h ∧ h ≤ 300 <;> simp [h1, h2]
theorem miPart_eq (l h : Int) : spec_miPart.f l h = some (part l h) := by
  simp only [spec_miPart.f, l1In_eq, Option.bind_some, part]
  by_cases h1 : 0 ≤ l ∧ l ≤ 300 <;> by_cases h2 : wrap64 (l + 1) ≤ h ∧ h ≤ 300 <;> simp [h1, h2]

theorem ok_two (a b : Int) : impl_arePoints.ok [a, b] = (decide (1 ≤ a ∧ a ≤ 500) && decide (1 ≤ b ∧ b ≤ 500)) := by
  simp only [impl_arePoints.ok, within_eq, Option.getD_some]
theorem ok_of {l : List Int} (h : impl_arePoints.ok l = true) : ∃ a b, l = [a, b] ∧ 1 ≤ a ∧ a ≤ 500 ∧ 1 ≤ b ∧ b ≤ 500 := by
  match l, h with
  | [a, b], h =>
    rw [ok_two, Bool.and_eq_true] at h
    have h1 := of_decide_eq_true h.1
    have h2 := of_decide_eq_true h.2
    exact ⟨a, b, rfl, h1.1, h1.2, h2.1, h2.2⟩
  | [], h => exact absurd h (by simp [impl_arePoints.ok])
  | [_], h => exact absurd h (by simp [impl_arePoints.ok])
  | _ :: _ :: _ :: _, h => exact absurd h (by simp [impl_arePoints.ok])
theorem miPoint_eq (k : Nat) (l : List Int) (hk : 4 ≤ k) : spec_miPoint.f k l = some (impl_arePoints.ok l) := by
  obtain ⟨k, rfl⟩ : ∃ m, k = m + 4 := ⟨k - 4, by omega⟩
  unfold spec_miPoint.f
  match l with
  | [] => simp [impl_arePoints.ok]
  | [_] => simp [impl_arePoints.ok]
  | _ :: _ :: _ :: t =>
    rw [if_neg (by simp only [List.length_cons]; omega)]
    simp [impl_arePoints.ok]
  | [a, b] =>
    rw [ok_two, if_pos (by rfl)]
    have r0 : rd [a, b] 0 = a := rfl
    have r1 : rd [a, b] 1 = b := rfl
    have e1 : wrap64 (0 + 1) = 1 := by unfold wrap64; omega
    have e2 : wrap64 (1 + 1) = 2 := by unfold wrap64; omega
    simp only [spec_l1All.f, spec_l1All.l0, l1In_eq, List.length_cons, List.length_nil, Option.bind_some]
    by_cases h1 : 1 ≤ a ∧ a ≤ 500 <;> by_cases h2 : 1 ≤ b ∧ b ≤ 500 <;> simp [h1, h2, r0, r1, e1, e2, show wrap64 1 = 1 from e1, show wrap64 2 = 2 by unfold wrap64; omega]

/-- Two points' look, unreduced. -/
theorem prod_le {a b : Int} (h : 1 ≤ a ∧ a ≤ 500) (g : 1 ≤ b ∧ b ≤ 500) : 1 ≤ a * b ∧ a * b ≤ 250000 := by
  have h1 : (a * b).natAbs ≤ 500 * 500 := by rw [Int.natAbs_mul]; exact Nat.mul_le_mul (by omega) (by omega)
  have h2 : 0 < a * b := Int.mul_pos (by omega) (by omega)
  omega
theorem lookedAt_eq {a b c d : Int} (ha : 1 ≤ a ∧ a ≤ 500) (hb : 1 ≤ b ∧ b ≤ 500) (hc : 1 ≤ c ∧ c ≤ 500) (hd : 1 ≤ d ∧ d ≤ 500) :
    impl_lookedAt.f [a, b] [c, d] = some (a * d + c * b, a + c) := by
  have r0 : rd [a, b] 0 = a := rfl
  have r1 : rd [a, b] 1 = b := rfl
  have r2 : rd [c, d] 0 = c := rfl
  have r3 : rd [c, d] 1 = d := rfl
  have m1 := prod_le ha hd
  have m2 := prod_le hc hb
  unfold impl_lookedAt.f
  rw [if_pos (by simp), if_pos (by simp), if_pos (by simp), if_pos (by simp), r0, r1, r2, r3, wrap_id (n := a * d) (by omega) (by omega), wrap_id (n := c * b) (by omega) (by omega), wrap_id (by omega) (by omega), wrap_id (by omega) (by omega)]

theorem miLook_eq (k : Nat) {a b c d : Int} (hk : 1000 < k) (ha : 1 ≤ a ∧ a ≤ 500) (hb : 1 ≤ b ∧ b ≤ 500) (hc : 1 ≤ c ∧ c ≤ 500) (hd : 1 ≤ d ∧ d ≤ 500) :
    spec_miLook.f k [a, b] [c, d] = some ((a * d + c * b).tdiv (Nat.gcd (a * d + c * b).natAbs (a + c).natAbs : Nat), (a + c).tdiv (Nat.gcd (a * d + c * b).natAbs (a + c).natAbs : Nat)) := by
  have r0 : rd [a, b] 0 = a := rfl
  have r1 : rd [a, b] 1 = b := rfl
  have r2 : rd [c, d] 0 = c := rfl
  have r3 : rd [c, d] 1 = d := rfl
  have m1 := prod_le ha hd
  have m2 := prod_le hc hb
  unfold spec_miLook.f
  rw [if_pos (by simp), if_pos (by simp), if_pos (by simp), if_pos (by simp), r0, r1, r2, r3, Int.mul_comm b c, Int.mul_comm d a, wrap_id (n := a * d) (by omega) (by omega), wrap_id (n := c * b) (by omega) (by omega), wrap_id (n := a + c) (by omega) (by omega), Int.add_comm (c * b), wrap_id (n := a * d + c * b) (by omega) (by omega), clLow_eq k _ _ (by omega) (by omega) (by omega) (by omega) (by omega)]
  rfl
theorem pos_of_mul {g x : Int} (hg : 0 < g) (h : 0 < g * x) : 0 < x := by
  apply Classical.byContradiction
  intro hn
  have := Int.mul_nonpos_of_nonneg_of_nonpos (a := g) (b := x) (by omega) (by omega)
  omega
theorem le_mul_of {g x : Int} (hg : 0 < g) (hx : 0 < x) : x ≤ g * x := by
  have := Int.mul_le_mul_of_nonneg_right (a := 1) (b := g) (c := x) (by omega) (by omega)
  omega
/-- The reduced look: there is g > 0 with both parts g times it. -/
theorem miLook_red (k : Nat) {a b c d : Int} (hk : 1000 < k) (ha : 1 ≤ a ∧ a ≤ 500) (hb : 1 ≤ b ∧ b ≤ 500) (hc : 1 ≤ c ∧ c ≤ 500) (hd : 1 ≤ d ∧ d ≤ 500) :
    ∃ g p q : Int, 0 < g ∧ 0 < q ∧ 0 < p ∧ a * d + c * b = g * p ∧ a + c = g * q ∧ spec_miLook.f k [a, b] [c, d] = some (p, q) := by
  have m1 := prod_le ha hd
  have m2 := prod_le hc hb
  have hp : 0 < Nat.gcd (a * d + c * b).natAbs (a + c).natAbs := Nat.gcd_pos_of_pos_right _ (by omega)
  have d1 : ((Nat.gcd (a * d + c * b).natAbs (a + c).natAbs : Nat) : Int) ∣ a * d + c * b := Int.ofNat_dvd_left.2 (Nat.gcd_dvd_left _ _)
  have d2 : ((Nat.gcd (a * d + c * b).natAbs (a + c).natAbs : Nat) : Int) ∣ a + c := Int.ofNat_dvd_left.2 (Nat.gcd_dvd_right _ _)
  have e1 := Int.mul_tdiv_cancel' d1
  have e2 := Int.mul_tdiv_cancel' d2
  have g0 : (0 : Int) < ((Nat.gcd (a * d + c * b).natAbs (a + c).natAbs : Nat) : Int) := by omega
  exact ⟨_, _, _, g0, pos_of_mul g0 (by rw [e2]; omega), pos_of_mul g0 (by rw [e1]; omega), e1.symm, e2.symm, miLook_eq k hk ha hb hc hd⟩

def at_ (l : List (List Int)) (i : Nat) : List Int := l.getD i []
theorem rd_nat (l : List (List Int)) (i : Nat) : rd_L1 l (i : Int) = at_ l i := rfl
theorem at_mid (pre : List (List Int)) (y : List Int) (ys : List (List Int)) : at_ (pre ++ y :: ys) pre.length = y := by
  unfold at_
  rw [List.getD_eq_getElem?_getD, List.getElem?_append_right (Nat.le_refl _), Nat.sub_self]
  rfl
theorem at_mem {l : List (List Int)} {i : Nat} (h : i < l.length) : at_ l i ∈ l := by
  unfold at_
  rw [List.getD_eq_getElem?_getD, List.getElem?_eq_getElem h]
  exact List.getElem_mem h

theorem miPoints_l0 (l : List (List Int)) (hl : l.length ≤ 10) (d : Nat) : ∀ (k i : Nat), i + d = l.length → d + 4 < k → spec_miPoints.l0 k l l.length i = some ((l.drop i).all impl_arePoints.ok) := by
  induction d with
  | zero =>
    intro k i hi hk
    obtain ⟨k, rfl⟩ : ∃ m, k = m + 1 := ⟨k - 1, by omega⟩
    simp only [spec_miPoints.l0]
    rw [if_neg (by omega), List.drop_eq_nil_of_le (by omega)]
    rfl
  | succ d ih =>
    intro k i hi hk
    obtain ⟨k, rfl⟩ : ∃ m, k = m + 1 := ⟨k - 1, by omega⟩
    have e : wrap64 ((i : Int) + 1) = ((i + 1 : Nat) : Int) := by rw [wrap_id (by omega) (by omega)]; omega
    have hd : l.drop i = at_ l i :: l.drop (i + 1) := by
      rw [List.drop_eq_getElem_cons (show i < l.length by omega)]
      unfold at_
      rw [List.getD_eq_getElem?_getD, List.getElem?_eq_getElem (show i < l.length by omega)]
      rfl
    simp only [spec_miPoints.l0]
    rw [if_pos (by omega), if_pos (by omega), if_pos (by omega), rd_nat, miPoint_eq k _ (by omega), hd, e]
    simp only [Option.bind_some, List.all_cons]
    cases impl_arePoints.ok (at_ l i) with
    | false => simp
    | true =>
      simp only [if_true, Bool.true_and]
      exact ih k (i + 1) (by omega) (by omega)
theorem miPoints_eq (k : Nat) (l : List (List Int)) (hk : 20 ≤ k) : spec_miPoints.f k l = some (if (l.length : Int) > 10 then false else l.all impl_arePoints.ok) := by
  unfold spec_miPoints.f
  by_cases c : (l.length : Int) > 10
  · rw [if_pos c, if_pos c]
  · rw [if_neg c, if_neg c]
    have := miPoints_l0 l (by omega) l.length k 0 (by omega) (by omega)
    simpa using this

def rng (l h : Int) : Bool := decide (0 ≤ l ∧ l ≤ 500) && decide (l ≤ h ∧ h ≤ 500)
theorem miRange_eq (l h : Int) : spec_miRange.f l h = some (rng l h) := by
  simp only [spec_miRange.f, l1In_eq, Option.bind_some, rng]
  by_cases h1 : 0 ≤ l ∧ l ≤ 500 <;> simp [h1]
theorem isPart_eq (l h : Int) : impl_isPart.f l h = some (rng l h) := by
  simp only [impl_isPart.f, within_eq, Option.bind_some, rng]
  by_cases h1 : 0 ≤ l ∧ l ≤ h <;> by_cases h2 : h ≤ 500
  · rw [decide_eq_true h1, decide_eq_true h2, decide_eq_true (show 0 ≤ l ∧ l ≤ 500 by omega), decide_eq_true (show l ≤ h ∧ h ≤ 500 by omega)]
    rfl
  · rw [decide_eq_true h1, decide_eq_false h2, decide_eq_false (show ¬ (l ≤ h ∧ h ≤ 500) by omega)]
    simp
  · rw [decide_eq_false h1]
    by_cases h3 : 0 ≤ l ∧ l ≤ 500
    · rw [decide_eq_false (show ¬ (l ≤ h ∧ h ≤ 500) by omega)]; simp
    · rw [decide_eq_false h3]; simp
  · rw [decide_eq_false h1]
    by_cases h3 : 0 ≤ l ∧ l ≤ 500
    · rw [decide_eq_false (show ¬ (l ≤ h ∧ h ≤ 500) by omega)]; simp
    · rw [decide_eq_false h3]; simp
theorem rng_of {l h : Int} (e : rng l h = true) : 0 ≤ l ∧ l ≤ 500 ∧ l ≤ h ∧ h ≤ 500 := by
  unfold rng at e
  rw [Bool.and_eq_true] at e
  have h1 := of_decide_eq_true e.1
  have h2 := of_decide_eq_true e.2
  omega
theorem wr {x q : Int} (hx : 0 ≤ x ∧ x ≤ 500) (hq : 0 ≤ q ∧ q ≤ 1000) : wrap64 (x * q) = x * q := by
  have h1 : (x * q).natAbs ≤ 500 * 1000 := by rw [Int.natAbs_mul]; exact Nat.mul_le_mul (by omega) (by omega)
  exact wrap_id (by omega) (by omega)
theorem scale {g x y : Int} (hg : 0 < g) : g * x ≤ g * y ↔ x ≤ y :=
  ⟨fun h => Int.le_of_mul_le_mul_left h hg, fun h => Int.mul_le_mul_of_nonneg_left h (by omega)⟩

theorem u64_lo (n : Int) : 0 ≤ IntKind.u64.wrap n ∧ IntKind.u64.wrap n < 18446744073709551616 := by rw [IntKind.wrap_u64]; omega
theorem mask8 (s : Int) (h0 : 0 ≤ s) (h1 : s < 18446744073709551616) : Go.bits .and .u64 (s / 1099511627776) 255 = s / 1099511627776 % 256 :=
  bits_mask .u64 24 (by decide) (fun n h0 h1 => by rw [IntKind.wrap_u64]; omega) 8 (by decide) _ (by omega) (by omega)
/-- Bytes, not too many. -/
def Bytes (l : List Int) : Prop := l.length ≤ 1048576 ∧ ∀ x ∈ l, 0 ≤ x ∧ x ≤ 255
theorem next_j0 (k : Nat) (hk : 1 ≤ k) (x : Int) (hx : 0 ≤ x ∧ x ≤ 255) (l : List Int) (p s : Int) (h0 : 0 ≤ p) (h1 : p ≤ 1073741824) : ∃ y s', spec_l1Cur_next.j0 k x l p s = some (y, p + 1, s') ∧ 0 ≤ y ∧ y ≤ 255 := by
  obtain ⟨k, rfl⟩ : ∃ m, k = m + 1 := ⟨k - 1, by omega⟩
  have w : wrap64 (p + 1) = p + 1 := wrap_id (by omega) (by omega)
  simp only [spec_l1Cur_next.j0]
  rw [w]
  by_cases c : p + 1 ≤ (l.length : Int)
  · rw [if_pos c]
    exact ⟨_, _, rfl, hx.1, hx.2⟩
  · rw [if_neg c]
    have z := u64_lo (IntKind.u64.wrap (IntKind.u64.wrap (s * 6364136223846793005) + IntKind.u64.wrap x) + 1442695040888963407)
    refine ⟨_, _, rfl, ?_⟩
    rw [mask8 _ z.1 z.2, wrap_id (by omega) (by omega)]
    omega
theorem next_tot (k : Nat) (hk : 1 ≤ k) {l : List Int} (hl : Bytes l) {p s : Int} (h0 : 0 ≤ p) (h1 : p ≤ 1073741824) : ∃ x s', spec_l1Cur_next.f k l p s = some (x, p + 1, s') ∧ 0 ≤ x ∧ x ≤ 255 := by
  unfold spec_l1Cur_next.f
  by_cases c : p < (l.length : Int)
  · rw [if_pos c, if_pos h0]
    have hm : 0 ≤ rd l p ∧ rd l p ≤ 255 := by
      have hlt : p.toNat < l.length := by omega
      have e : rd l p = l[p.toNat] := by
        show l.getD p.toNat 0 = _
        rw [List.getD_eq_getElem?_getD, List.getElem?_eq_getElem hlt]
        rfl
      rw [e]
      exact hl.2 _ (List.getElem_mem hlt)
    rw [wrap_id (by omega) (by omega)]
    exact next_j0 k hk _ hm l p s h0 h1
  · rw [if_neg c]
    exact next_j0 k hk 0 (by omega) l p s h0 h1
theorem tmod_in {x n : Int} (hx : 0 ≤ x) (hn : 0 < n) : 0 ≤ Int.tmod x n ∧ Int.tmod x n < n := ⟨Int.tmod_nonneg _ hx, Int.tmod_lt_of_pos _ hn⟩
theorem pick_tot (k : Nat) (hk : 1 ≤ k) {l : List Int} (hl : Bytes l) {p s : Int} (n : Int) (h0 : 0 ≤ p) (h1 : p ≤ 1000000000) : ∃ x q s', spec_l1Cur_pick.f k l p s n = some (x, q, s') ∧ 0 ≤ x ∧ (x < n ∨ x = 0) ∧ p ≤ q ∧ q ≤ p + 2 := by
  unfold spec_l1Cur_pick.f
  by_cases c : n ≤ 1
  · rw [if_pos c]
    exact ⟨0, p, s, rfl, by omega, .inr rfl, by omega, by omega⟩
  rw [if_neg c]
  obtain ⟨x, s1, e1, x0, x1⟩ := next_tot k hk hl (p := p) (s := s) h0 (by omega)
  rw [e1]
  simp only [Option.bind_some]
  by_cases c2 : n > 200
  · rw [if_pos c2]
    obtain ⟨y, s2, e2, y0, y1⟩ := next_tot k hk hl (p := p + 1) (s := s1) (by omega) (by omega)
    rw [e2]
    simp only [Option.bind_some]
    rw [if_neg (by omega), wrap_id (n := x * 256) (by omega) (by omega), wrap_id (n := x * 256 + y) (by omega) (by omega)]
    have z := tmod_in (x := x * 256 + y) (n := n) (by omega) (by omega)
    exact ⟨_, _, _, rfl, z.1, .inl z.2, by omega, by omega⟩
  · rw [if_neg c2, if_neg (by omega)]
    have z := tmod_in (x := x) (n := n) (by omega) (by omega)
    exact ⟨_, _, _, rfl, z.1, .inl z.2, by omega, by omega⟩
theorem one_tot (k : Nat) (hk : 1 ≤ k) {l : List Int} (hl : Bytes l) {p s : Int} (n : Int) (h0 : 0 ≤ p) (h1 : p ≤ 1000000000) : ∃ b q s', spec_l1Cur_one.f k l p s n = some (b, q, s') ∧ p ≤ q ∧ q ≤ p + 2 := by
  obtain ⟨x, q, s', e, _, _, a, b⟩ := pick_tot k hk hl (s := s) n h0 h1
  exact ⟨_, q, s', by unfold spec_l1Cur_one.f; rw [e]; rfl, a, b⟩

theorem among_tot (k : Nat) (hk : 1 ≤ k) {l : List Int} (hl : Bytes l) {p s : Int} (m : List Int) (hm : 0 < m.length) (h0 : 0 ≤ p) (h1 : p ≤ 1000000000) : ∃ x q s', spec_l1Cur_among.f k l p s m = some (x, q, s') ∧ p ≤ q ∧ q ≤ p + 2 := by
  obtain ⟨x, q, s', e, x0, x1, a, b⟩ := pick_tot k hk hl (s := s) (m.length : Int) h0 h1
  exact ⟨rd m x, q, s', by unfold spec_l1Cur_among.f; rw [e]; simp only [Option.bind_some]; rw [if_pos x0, if_pos (by omega)], a, b⟩

theorem sight_tot (k : Nat) (hk : 1 ≤ k) {l : List Int} (hl : Bytes l) {p s : Int} (h0 : 0 ≤ p) (h1 : p ≤ 500000000) : ∃ r q s', spec_l1Cur_sight.f k l p s = some (r, q, s') ∧ p ≤ q ∧ q ≤ p + 6 := by
  obtain ⟨b, p1, s1, e1, a1, b1⟩ := one_tot k hk hl (s := s) 14 h0 (by omega)
  unfold spec_l1Cur_sight.f
  rw [e1]
  simp only [Option.bind_some]
  cases b with
  | true =>
    obtain ⟨x, p2, s2, e2, x0, x1, a2, b2⟩ := pick_tot k hk hl (p := p1) (s := s1) 6 (by omega) (by omega)
    simp only [if_true]
    rw [e2]
    simp only [Option.bind_some]
    rw [if_pos x0, if_pos (by simp only [List.length_cons, List.length_nil]; omega)]
    exact ⟨_, p2, s2, rfl, by omega, by omega⟩
  | false =>
    obtain ⟨x, p2, s2, e2, x0, x1, a2, b2⟩ := pick_tot k hk hl (p := p1) (s := s1) 9 (by omega) (by omega)
    obtain ⟨y, p3, s3, e3, y0, y1, a3, b3⟩ := pick_tot k hk hl (p := p2) (s := s2) 9 (by omega) (by omega)
    simp only [Bool.false_eq_true, if_false]
    rw [e2]
    simp only [Option.bind_some]
    rw [e3]
    exact ⟨_, p3, s3, rfl, by omega, by omega⟩
theorem sights_l0 {l : List Int} (hl : Bytes l) (n : Nat) : ∀ (k : Nat) (o : List (List Int)) (p s : Int), n + 2 ≤ k → o.length + n ≤ 1000 → 0 ≤ p → p + 6 * (n : Int) ≤ 500000000 → ∃ r q s', spec_l1Cur_sights.l0 k o (n : Int) l p s = some (r, q, s') ∧ p ≤ q ∧ q ≤ p + 6 * (n : Int) := by
  induction n with
  | zero =>
    intro k o p s hk ho h0 h1
    obtain ⟨k, rfl⟩ : ∃ m, k = m + 1 := ⟨k - 1, by omega⟩
    simp only [spec_l1Cur_sights.l0]
    rw [if_neg (by omega)]
    exact ⟨_, _, _, rfl, by omega, by omega⟩
  | succ n ih =>
    intro k o p s hk ho h0 h1
    obtain ⟨k, rfl⟩ : ∃ m, k = m + 1 := ⟨k - 1, by omega⟩
    obtain ⟨r, p1, s1, e1, a1, b1⟩ := sight_tot k (by omega) hl (p := p) (s := s) h0 (by omega)
    simp only [spec_l1Cur_sights.l0]
    rw [if_pos (by omega), e1]
    simp only [Option.bind_some]
    rw [if_pos (by omega), show wrap64 (((n + 1 : Nat) : Int) - 1) = (n : Int) by rw [wrap_id (by omega) (by omega)]; omega]
    obtain ⟨r2, q, s2, e2, a2, b2⟩ := ih k (o ++ [r]) p1 s1 (by omega) (by simp; omega) (by omega) (by omega)
    exact ⟨r2, q, s2, e2, by omega, by omega⟩
theorem sights_tot (k : Nat) (hk : 30 ≤ k) {l : List Int} (hl : Bytes l) {p s : Int} (n : Int) (hn : 0 ≤ n ∧ n ≤ 20) (h0 : 0 ≤ p) (h1 : p ≤ 400000000) : ∃ r q s', spec_l1Cur_sights.f k l p s n = some (r, q, s') ∧ p ≤ q ∧ q ≤ p + 200 := by
  obtain ⟨x, p1, s1, e1, x0, x1, a1, b1⟩ := pick_tot k (by omega) hl (p := p) (s := s) (wrap64 (n + 1)) h0 (by omega)
  rw [wrap_id (by omega) (by omega)] at e1 x1
  obtain ⟨m, rfl⟩ := Int.eq_ofNat_of_zero_le x0
  obtain ⟨r, q, s', e, a, b⟩ := sights_l0 hl m k [] p1 s1 (by omega) (by simp; omega) (by omega) (by omega)
  refine ⟨r, q, s', ?_, by omega, by omega⟩
  unfold spec_l1Cur_sights.f
  rw [wrap_id (n := n + 1) (by omega) (by omega), e1]
  exact e

theorem person_tot (k : Nat) (hk : 1 ≤ k) {l : List Int} (hl : Bytes l) {p s : Int} (h0 : 0 ≤ p) (h1 : p ≤ 500000000) : ∃ x y q s', spec_l1Cur_person.f k l p s = some (x, y, q, s') ∧ p ≤ q ∧ q ≤ p + 6 := by
  obtain ⟨b, p1, s1, e1, a1, b1⟩ := one_tot k hk hl (s := s) 12 h0 (by omega)
  unfold spec_l1Cur_person.f
  rw [e1]
  simp only [Option.bind_some]
  cases b with
  | true =>
    obtain ⟨x, p2, s2, e2, a2, b2⟩ := among_tot k hk hl (p := p1) (s := s1) [0, 1, 2, 300, 301, 4611686018427387904] (by decide) (by omega) (by omega)
    obtain ⟨y, p3, s3, e3, a3, b3⟩ := among_tot k hk hl (p := p2) (s := s2) [0, 1, -1] (by decide) (by omega) (by omega)
    simp only [if_true]
    rw [e2]
    simp only [Option.bind_some]
    rw [e3]
    exact ⟨_, _, p3, s3, rfl, by omega, by omega⟩
  | false =>
    obtain ⟨x, p2, s2, e2, x0, x1, a2, b2⟩ := pick_tot k hk hl (p := p1) (s := s1) 12 (by omega) (by omega)
    obtain ⟨y, p3, s3, e3, y0, y1, a3, b3⟩ := pick_tot k hk hl (p := p2) (s := s2) (wrap64 (2 + x)) (by omega) (by omega)
    simp only [Bool.false_eq_true, if_false]
    rw [e2]
    simp only [Option.bind_some]
    rw [e3]
    exact ⟨_, _, p3, s3, rfl, by omega, by omega⟩

theorem drawAll_tot (k : Nat) (hk : 30 ≤ k) {l : List Int} (hl : Bytes l) : ∃ t e a b, spec_DrawSeenOfPerson.f k l = some (t, e, a, b) := by
  obtain ⟨x, y, p1, s1, e1, a1, b1⟩ := person_tot k (by omega) hl (p := 0) (s := 0) (by omega) (by omega)
  obtain ⟨b, p2, s2, e2, _, _, a2, b2⟩ := pick_tot k (by omega) hl (p := p1) (s := s1) 8 (by omega) (by omega)
  obtain ⟨c, p3, s3, e3, _, _, a3, b3⟩ := pick_tot k (by omega) hl (p := p2) (s := s2) 9 (by omega) (by omega)
  obtain ⟨d, p4, s4, e4, _, _, a4, b4⟩ := pick_tot k (by omega) hl (p := p3) (s := s3) 9 (by omega) (by omega)
  exact ⟨_, _, _, _, by unfold spec_DrawSeenOfPerson.f spec_DrawCanSeeAll.f; rw [e1]; simp only [Option.bind_some]; rw [e2]; simp only [Option.bind_some]; rw [e3]; simp only [Option.bind_some]; rw [e4]; rfl⟩
theorem drawLook_tot (k : Nat) (hk : 30 ≤ k) {l : List Int} (hl : Bytes l) : ∃ a b, spec_DrawLookedAt.f k l = some (a, b) := by
  obtain ⟨x, p1, s1, e1, a1, b1⟩ := sight_tot k (by omega) hl (p := 0) (s := 0) (by omega) (by omega)
  obtain ⟨y, p2, s2, e2, a2, b2⟩ := sight_tot k (by omega) hl (p := p1) (s := s1) (by omega) (by omega)
  exact ⟨_, _, by unfold spec_DrawLookedAt.f; rw [e1]; simp only [Option.bind_some]; rw [e2]; rfl⟩
theorem drawLeast_tot (k : Nat) (hk : 30 ≤ k) {l : List Int} (hl : Bytes l) : ∃ a b, spec_DrawLeastMirrorFor.f k l = some (a, b) := by
  obtain ⟨x, p1, s1, e1, a1, b1⟩ := sight_tot k (by omega) hl (p := 0) (s := 0) (by omega) (by omega)
  obtain ⟨y, p2, s2, e2, a2, b2⟩ := sights_tot k hk hl (p := p1) (s := s1) 5 (by omega) (by omega) (by omega)
  exact ⟨_, _, by unfold spec_DrawLeastMirrorFor.f; rw [e1]; simp only [Option.bind_some]; rw [e2]; rfl⟩
theorem drawSees_tot (k : Nat) (hk : 30 ≤ k) {l : List Int} (hl : Bytes l) : ∃ a b c d, spec_DrawSeesIn.f k l = some (a, b, c, d) := by
  obtain ⟨x, p1, s1, e1, a1, b1⟩ := sight_tot k (by omega) hl (p := 0) (s := 0) (by omega) (by omega)
  obtain ⟨y, p2, s2, e2, a2, b2⟩ := sight_tot k (by omega) hl (p := p1) (s := s1) (by omega) (by omega)
  obtain ⟨c, p3, s3, e3, _, _, a3, b3⟩ := pick_tot k (by omega) hl (p := p2) (s := s2) 8 (by omega) (by omega)
  obtain ⟨d, p4, s4, e4, _, _, a4, b4⟩ := pick_tot k (by omega) hl (p := p3) (s := s3) 9 (by omega) (by omega)
  obtain ⟨f, p5, s5, e5, _, _, a5, b5⟩ := pick_tot k (by omega) hl (p := p4) (s := s4) 5 (by omega) (by omega)
  obtain ⟨g, p6, s6, e6, _, _, a6, b6⟩ := pick_tot k (by omega) hl (p := p5) (s := s5) 9 (by omega) (by omega)
  exact ⟨_, _, _, _, by unfold spec_DrawSeesIn.f; rw [e1]; simp only [Option.bind_some]; rw [e2]; simp only [Option.bind_some]; rw [e3]; simp only [Option.bind_some]; rw [e4]; simp only [Option.bind_some]; rw [e5]; simp only [Option.bind_some]; rw [e6]; rfl⟩
theorem drawSeen_tot (k : Nat) (hk : 30 ≤ k) {l : List Int} (hl : Bytes l) : ∃ a b c d, spec_DrawSeenIn.f k l = some (a, b, c, d) := by
  obtain ⟨x, p1, s1, e1, a1, b1⟩ := sight_tot k (by omega) hl (p := 0) (s := 0) (by omega) (by omega)
  obtain ⟨y, p2, s2, e2, a2, b2⟩ := sights_tot k hk hl (p := p1) (s := s1) 6 (by omega) (by omega) (by omega)
  obtain ⟨c, p3, s3, e3, _, _, a3, b3⟩ := pick_tot k (by omega) hl (p := p2) (s := s2) 8 (by omega) (by omega)
  obtain ⟨d, p4, s4, e4, _, _, a4, b4⟩ := pick_tot k (by omega) hl (p := p3) (s := s3) 9 (by omega) (by omega)
  obtain ⟨f, p5, s5, e5, _, _, a5, b5⟩ := pick_tot k (by omega) hl (p := p4) (s := s4) 5 (by omega) (by omega)
  obtain ⟨g, p6, s6, e6, _, _, a6, b6⟩ := pick_tot k (by omega) hl (p := p5) (s := s5) 9 (by omega) (by omega)
  exact ⟨_, _, _, _, by unfold spec_DrawSeenIn.f; rw [e1]; simp only [Option.bind_some]; rw [e2]; simp only [Option.bind_some]; rw [e3]; simp only [Option.bind_some]; rw [e4]; simp only [Option.bind_some]; rw [e5]; simp only [Option.bind_some]; rw [e6]; rfl⟩

theorem most_eq (x y : Int) : spec_l1Most.f x y = some (mx x y) := by
  unfold spec_l1Most.f mx
  split <;> split <;> simp <;> omega
theorem least_eq (x y : Int) : spec_l1Least.f x y = some (mn x y) := by
  unfold spec_l1Least.f mn
  split <;> split <;> simp <;> omega
/-! ### lowest terms -/
theorem yLow_l0 (d : Nat) : ∀ (k : Nat) (a b : Int), b.natAbs ≤ d → d < k → 0 ≤ a → 0 ≤ b → laws_yLow.l0 k a b = some (((Nat.gcd a.natAbs b.natAbs : Nat) : Int) == 1) := by
  induction d with
  | zero =>
    intro k a b hb hk ha hb'
    obtain ⟨k, rfl⟩ : ∃ m, k = m + 1 := ⟨k - 1, by omega⟩
    have h0 : b = 0 := by omega
    subst h0
    simp only [laws_yLow.l0]
    rw [if_neg (by omega), Int.natAbs_zero, Nat.gcd_zero_right, show ((a.natAbs : Nat) : Int) = a by omega]
  | succ d ih =>
    intro k a b hb hk ha hb'
    obtain ⟨k, rfl⟩ : ∃ m, k = m + 1 := ⟨k - 1, by omega⟩
    simp only [laws_yLow.l0]
    by_cases h0 : b = 0
    · subst h0
      rw [if_neg (by omega), Int.natAbs_zero, Nat.gcd_zero_right, show ((a.natAbs : Nat) : Int) = a by omega]
    · have hm : (a.tmod b).natAbs < b.natAbs := by
        rw [Int.natAbs_tmod]
        exact Nat.mod_lt _ (by omega)
      rw [if_pos (by omega), if_neg h0, ih k b (a.tmod b) (by omega) (by omega) hb' (Int.tmod_nonneg _ ha), gcd_step2]
theorem yLow_eq (k : Nat) (a b : Int) (hk : b.natAbs + 2 ≤ k) (ha : 0 ≤ a) (hb : 1 ≤ b) : laws_yLow.f k a b = some (((Nat.gcd a.natAbs b.natAbs : Nat) : Int) == 1) := by
  obtain ⟨k, rfl⟩ : ∃ m, k = m + 1 := ⟨k - 1, by omega⟩
  unfold laws_yLow.f
  rw [if_neg (by omega), if_neg (by omega)]
  simp only [laws_yLow.j0]
  exact yLow_l0 b.natAbs k a b (Nat.le_refl _) (by omega) ha (by omega)
/-- A number over its common part is in lowest terms. -/
theorem yLow_red (k : Nat) (a b g : Int) (hk : b.natAbs + 2 ≤ k) (ha : 0 ≤ a) (hb : 1 ≤ b) (hg : g = ((Nat.gcd a.natAbs b.natAbs : Nat) : Int)) : laws_yLow.f k (a.tdiv g) (b.tdiv g) = some true := by
  have hp : 0 < Nat.gcd a.natAbs b.natAbs := Nat.gcd_pos_of_pos_right _ (by omega)
  have ea : a.tdiv g = ((a.natAbs / Nat.gcd a.natAbs b.natAbs : Nat) : Int) := by
    rw [hg, Int.tdiv_eq_ediv_of_nonneg ha]
    have : a = (a.natAbs : Int) := by omega
    rw [this]
    exact (Int.natCast_ediv _ _).symm
  have eb : b.tdiv g = ((b.natAbs / Nat.gcd a.natAbs b.natAbs : Nat) : Int) := by
    rw [hg, Int.tdiv_eq_ediv_of_nonneg (by omega)]
    have : b = (b.natAbs : Int) := by omega
    rw [this]
    exact (Int.natCast_ediv _ _).symm
  have hb1 : 0 < b.natAbs / Nat.gcd a.natAbs b.natAbs := Nat.div_pos (Nat.le_of_dvd (by omega) (Nat.gcd_dvd_right _ _)) hp
  have hb2 : b.natAbs / Nat.gcd a.natAbs b.natAbs ≤ b.natAbs := Nat.div_le_self _ _
  rw [ea, eb, yLow_eq k _ _ (by rw [Int.natAbs_natCast]; omega) (Int.natCast_nonneg _) (by omega), Int.natAbs_natCast, Int.natAbs_natCast, Nat.gcd_div_gcd_div_gcd_of_pos_right (by omega)]
  rfl
/-! ### the last part -/
def nu (x y : List Int) : Int := rd x 0 * rd y 1 + rd y 0 * rd x 1
def de (x y : List Int) : Int := rd x 0 + rd y 0
def gg (x y : List Int) : Int := (Nat.gcd (nu x y).natAbs (de x y).natAbs : Nat)
def oks (x y : List Int) : Bool := impl_arePoints.ok x && impl_arePoints.ok y
def la (x y : List Int) : Int × Int × Bool := if oks x y = true then ((nu x y).tdiv (gg x y), (de x y).tdiv (gg x y), true) else (0, 0, false)
theorem oks_of {x y : List Int} (h : oks x y = true) : ∃ a b c d, x = [a, b] ∧ y = [c, d] ∧ (1 ≤ a ∧ a ≤ 500) ∧ (1 ≤ b ∧ b ≤ 500) ∧ (1 ≤ c ∧ c ≤ 500) ∧ 1 ≤ d ∧ d ≤ 500 := by
  unfold oks at h
  rw [Bool.and_eq_true] at h
  obtain ⟨a, b, rfl, a0, a1, b0, b1⟩ := ok_of h.1
  obtain ⟨c, d, rfl, c0, c1, d0, d1⟩ := ok_of h.2
  exact ⟨a, b, c, d, rfl, rfl, ⟨a0, a1⟩, ⟨b0, b1⟩, ⟨c0, c1⟩, d0, d1⟩
theorem la_impl (k : Nat) (hk : 2000 ≤ k) (x y : List Int) : impl_LookedAt.f k x y = some (la x y) := by
  unfold impl_LookedAt.f la
  simp only [impl_arePoints.f, List.all_cons, List.all_nil, Bool.and_true, Option.bind_some]
  cases h : oks x y with
  | false =>
    have h' : (impl_arePoints.ok x && impl_arePoints.ok y) = false := h
    rw [h']
    rfl
  | true =>
    have h' : (impl_arePoints.ok x && impl_arePoints.ok y) = true := h
    rw [h']
    obtain ⟨a, b, c, d, rfl, rfl, ha, hb, hc, hd⟩ := oks_of h
    have m1 := prod_le ha hd
    have m2 := prod_le hc hb
    simp only [if_true]
    rw [lookedAt_eq ha hb hc hd]
    simp only [Option.bind_some]
    rw [fraction_eq k _ _ (by omega) (by omega) (by omega) (by omega)]
    rfl
theorem la_spec (k : Nat) (hk : 2000 ≤ k) (x y : List Int) : spec_LookedAt.f k x y = some (la x y) := by
  obtain ⟨k, rfl⟩ : ∃ m, k = m + 1 := ⟨k - 1, by omega⟩
  unfold spec_LookedAt.f la
  rw [miPoint_eq (k + 1) x (by omega)]
  simp only [Option.bind_some, miPoint_eq (k + 1) y (show 4 ≤ k + 1 by omega), spec_LookedAt.j0]
  cases h : oks x y with
  | false =>
    have h' : (impl_arePoints.ok x && impl_arePoints.ok y) = false := h
    cases hx : impl_arePoints.ok x with
    | false => rfl
    | true =>
      rw [hx, Bool.true_and] at h'
      rw [h']
      rfl
  | true =>
    have h' : (impl_arePoints.ok x && impl_arePoints.ok y) = true := h
    rw [Bool.and_eq_true] at h'
    rw [h'.1, h'.2]
    obtain ⟨a, b, c, d, rfl, rfl, ha, hb, hc, hd⟩ := oks_of h
    simp only [if_true, Bool.not_true, Bool.false_eq_true, if_false]
    rw [miLook_eq k (by omega) ha hb hc hd]
    rfl
/-- What is known of both parts of what is looked at. -/
theorem la_red {x y : List Int} (h : oks x y = true) : ∃ g p q : Int, 0 < g ∧ 0 < q ∧ 0 < p ∧ q ≤ 1000 ∧ nu x y = g * p ∧ de x y = g * q ∧ la x y = (p, q, true) ∧ g = gg x y := by
  obtain ⟨a, b, c, d, rfl, rfl, ha, hb, hc, hd⟩ := oks_of h
  have m1 := prod_le ha hd
  have m2 := prod_le hc hb
  have hn : nu [a, b] [c, d] = a * d + c * b := rfl
  have hde : de [a, b] [c, d] = a + c := rfl
  have hp : 0 < Nat.gcd (nu [a, b] [c, d]).natAbs (de [a, b] [c, d]).natAbs := Nat.gcd_pos_of_pos_right _ (by rw [hde]; omega)
  have d1 : gg [a, b] [c, d] ∣ nu [a, b] [c, d] := Int.ofNat_dvd_left.2 (Nat.gcd_dvd_left _ _)
  have d2 : gg [a, b] [c, d] ∣ de [a, b] [c, d] := Int.ofNat_dvd_left.2 (Nat.gcd_dvd_right _ _)
  have e1 := Int.mul_tdiv_cancel' d1
  have e2 := Int.mul_tdiv_cancel' d2
  have g0 : (0 : Int) < gg [a, b] [c, d] := by unfold gg; omega
  have q0 : 0 < (de [a, b] [c, d]).tdiv (gg [a, b] [c, d]) := pos_of_mul g0 (by rw [e2, hde]; omega)
  refine ⟨gg [a, b] [c, d], _, _, g0, q0, pos_of_mul g0 (by rw [e1, hn]; omega), ?_, e1.symm, e2.symm, by unfold la; rw [h]; rfl, rfl⟩
  have h3 := le_mul_of g0 q0
  have h4 := e2.trans hde
  omega
def seesB (x y : List Int) (lo hi : Int) : Bool := decide (lo * de x y ≤ nu x y ∧ nu x y ≤ hi * de x y)
def si (x y : List Int) (lo hi : Int) : Bool × Bool := if (oks x y && rng lo hi) = true then (seesB x y lo hi, true) else (false, false)
theorem seesIn_eq {x y : List Int} {lo hi : Int} (h : oks x y = true) (hr : rng lo hi = true) : impl_seesIn.f x y lo hi = some (seesB x y lo hi) := by
  have z := rng_of hr
  obtain ⟨a, b, c, d, rfl, rfl, ha, hb, hc, hd⟩ := oks_of h
  unfold impl_seesIn.f
  rw [lookedAt_eq ha hb hc hd]
  simp only [Option.bind_some]
  rw [wr (x := lo) ⟨by omega, by omega⟩ ⟨by omega, by omega⟩, wr (x := hi) ⟨by omega, by omega⟩ ⟨by omega, by omega⟩, within_eq]
  rfl
theorem miSees_eq (k : Nat) (hk : 2000 ≤ k) {x y : List Int} {lo hi : Int} (h : oks x y = true) (hr : rng lo hi = true) : spec_miSees.f k x y lo hi = some (seesB x y lo hi) := by
  have z := rng_of hr
  obtain ⟨g, p, q, hg, hq, hp, hq1, e1, e2, el, _⟩ := la_red h
  have e3 : spec_miLook.f k x y = some ((la x y).1, (la x y).2.1) := by
    obtain ⟨a, b, c, d, rfl, rfl, ha, hb, hc, hd⟩ := oks_of h
    rw [miLook_eq k (by omega) ha hb hc hd]
    unfold la
    rw [h]
    rfl
  rw [el] at e3
  have e : seesB x y lo hi = decide (lo * q ≤ p ∧ p ≤ hi * q) := by
    unfold seesB
    rw [decide_eq_decide, e1, e2, Int.mul_left_comm lo, Int.mul_left_comm hi, scale hg, scale hg]
  unfold spec_miSees.f
  rw [e3]
  simp only [Option.bind_some]
  rw [wr (x := lo) ⟨by omega, by omega⟩ ⟨by omega, by omega⟩, wr (x := hi) ⟨by omega, by omega⟩ ⟨by omega, by omega⟩]
  rw [e]
  by_cases c : lo * q ≤ p <;> simp [c]
theorem si_impl (k : Nat) (hk : 2 ≤ k) (x y : List Int) (lo hi : Int) : impl_SeesIn.f k x y lo hi = some (si x y lo hi) := by
  obtain ⟨k, rfl⟩ : ∃ m, k = m + 1 := ⟨k - 1, by omega⟩
  unfold impl_SeesIn.f si
  simp only [impl_arePoints.f, List.all_cons, List.all_nil, Bool.and_true, Option.bind_some, isPart_eq, impl_SeesIn.j0]
  show (if oks x y = true then _ else _) = _
  cases h : oks x y with
  | false => rfl
  | true =>
    cases hr : rng lo hi with
    | false => rfl
    | true =>
      simp only [if_true, Bool.not_true, Bool.false_eq_true, if_false, Bool.and_self]
      rw [seesIn_eq h hr]
      rfl
theorem si_spec (k : Nat) (hk : 2002 ≤ k) (x y : List Int) (lo hi : Int) : spec_SeesIn.f k x y lo hi = some (si x y lo hi) := by
  obtain ⟨k, rfl⟩ : ∃ m, k = m + 1 := ⟨k - 1, by omega⟩
  unfold spec_SeesIn.f si
  rw [miPoint_eq (k + 1) x (by omega)]
  simp only [Option.bind_some, miPoint_eq (k + 1) y (show 4 ≤ k + 1 by omega), miRange_eq, spec_SeesIn.j0]
  cases hx : impl_arePoints.ok x with
  | false =>
    rw [show oks x y = false by unfold oks; rw [hx]; rfl]
    rfl
  | true =>
    cases hy : impl_arePoints.ok y with
    | false =>
      rw [show oks x y = false by unfold oks; rw [hx, hy]; rfl]
      rfl
    | true =>
      have h : oks x y = true := by unfold oks; rw [hx, hy]; rfl
      rw [h]
      cases hr : rng lo hi with
      | false => rfl
      | true =>
        simp only [if_true, Bool.not_true, Bool.false_eq_true, if_false, Bool.and_self]
        rw [miSees_eq k (by omega) h hr]
        rfl
def ls (x y : List Int) : Int × Bool := if oks x y = true then (de x y * de x y + (rd x 1 - rd y 1) * (rd x 1 - rd y 1), true) else (0, false)
theorem sq_le {n : Int} {m : Nat} (h : n.natAbs ≤ m) : 0 ≤ n * n ∧ n * n ≤ ((m * m : Nat) : Int) := by
  have h1 : (n * n).natAbs ≤ m * m := by rw [Int.natAbs_mul]; exact Nat.mul_le_mul h h
  have h2 : 0 ≤ n * n := by
    rcases Int.le_total 0 n with c | c
    · exact Int.mul_nonneg c c
    · exact Int.mul_nonneg_of_nonpos_of_nonpos c c
  omega
theorem ls_val {x y : List Int} (h : oks x y = true) : wrap64 ((wrap64 ((wrap64 ((rd x 0) + (rd y 0))) * (wrap64 ((rd x 0) + (rd y 0))))) + (wrap64 ((wrap64 ((rd x 1) - (rd y 1))) * (wrap64 ((rd x 1) - (rd y 1)))))) = de x y * de x y + (rd x 1 - rd y 1) * (rd x 1 - rd y 1) ∧ de x y * de x y = wrap64 ((wrap64 ((rd x 0) + (rd y 0))) * (wrap64 ((rd x 0) + (rd y 0)))) ∧ 0 ≤ (rd x 1 - rd y 1) * (rd x 1 - rd y 1) := by
  obtain ⟨a, b, c, d, rfl, rfl, ha, hb, hc, hd⟩ := oks_of h
  show wrap64 ((wrap64 ((wrap64 (a + c)) * (wrap64 (a + c)))) + (wrap64 ((wrap64 (b - d)) * (wrap64 (b - d))))) = (a + c) * (a + c) + (b - d) * (b - d) ∧ (a + c) * (a + c) = wrap64 ((wrap64 (a + c)) * (wrap64 (a + c))) ∧ 0 ≤ (b - d) * (b - d)
  rw [wrap_id (n := a + c) (by omega) (by omega), wrap_id (n := b - d) (by omega) (by omega)]
  have h1 := sq_le (n := a + c) (m := 1000) (by omega)
  have h2 := sq_le (n := b - d) (m := 1000) (by omega)
  rw [wrap_id (n := (a + c) * (a + c)) (by omega) (by omega), wrap_id (n := (b - d) * (b - d)) (by omega) (by omega), wrap_id (by omega) (by omega)]
  exact ⟨rfl, rfl, h2.1⟩
theorem len2 {x y : List Int} (h : oks x y = true) : x.length = 2 ∧ y.length = 2 := by
  obtain ⟨a, b, c, d, rfl, rfl, _⟩ := oks_of h
  exact ⟨rfl, rfl⟩
theorem ls_impl (x y : List Int) : impl_LookSquare.f x y = some (ls x y) := by
  unfold impl_LookSquare.f ls
  simp only [impl_arePoints.f, List.all_cons, List.all_nil, Bool.and_true, Option.bind_some]
  show (if oks x y = true then _ else _) = _
  cases h : oks x y with
  | false => rfl
  | true =>
    have hl := len2 h
    rw [if_pos rfl, if_pos rfl, if_pos (by omega), if_pos (by omega), if_pos (by omega), if_pos (by omega), (ls_val h).1]
theorem ls_spec (k : Nat) (hk : 10 ≤ k) (x y : List Int) : spec_LookSquare.f k x y = some (ls x y) := by
  obtain ⟨k, rfl⟩ : ∃ m, k = m + 1 := ⟨k - 1, by omega⟩
  unfold spec_LookSquare.f ls
  rw [miPoint_eq (k + 1) x (by omega)]
  simp only [Option.bind_some, miPoint_eq (k + 1) y (show 4 ≤ k + 1 by omega), spec_LookSquare.j0]
  cases hx : impl_arePoints.ok x with
  | false =>
    rw [show oks x y = false by unfold oks; rw [hx]; rfl]
    rfl
  | true =>
    cases hy : impl_arePoints.ok y with
    | false =>
      rw [show oks x y = false by unfold oks; rw [hx, hy]; rfl]
      rfl
    | true =>
      have h : oks x y = true := by unfold oks; rw [hx, hy]; rfl
      have hl := len2 h
      rw [h]
      simp only [if_true, Bool.not_true, Bool.false_eq_true, if_false]
      rw [if_pos (by omega), if_pos (by omega), if_pos (by omega), if_pos (by omega), (ls_val h).1]
/-! ### what is seen in a part -/
def snF (x : List Int) (l : List (List Int)) (lo hi : Int) (i d : Nat) : List Int := ((List.range' i d).filter (fun j => seesB x (at_ l j) lo hi)).map (fun j : Nat => (j : Int))
theorem snF_succ (x : List Int) (l : List (List Int)) (lo hi : Int) (i d : Nat) : snF x l lo hi i (d + 1) = (if seesB x (at_ l i) lo hi = true then [(i : Int)] else []) ++ snF x l lo hi (i + 1) d := by
  unfold snF
  rw [List.range'_succ, List.filter_cons]
  split <;> simp
theorem snF_len (x : List Int) (l : List (List Int)) (lo hi : Int) (i d : Nat) : (snF x l lo hi i d).length ≤ d := by
  unfold snF
  rw [List.length_map]
  have := List.length_filter_le (fun j => seesB x (at_ l j) lo hi) (List.range' i d)
  rw [List.length_range'] at this
  exact this
theorem oks_at {x : List Int} {l : List (List Int)} (h0 : impl_arePoints.ok x = true) (ha : ∀ y ∈ l, impl_arePoints.ok y = true) {i : Nat} (hi : i < l.length) : oks x (at_ l i) = true := by
  unfold oks
  rw [h0, ha _ (at_mem hi)]
  rfl
theorem sn_small {n : Nat} (h : n ≤ 1000) : n < 17592186044416 := by omega
theorem sn_run {x : List Int} {l : List (List Int)} {lo hi : Int} (h0 : impl_arePoints.ok x = true) (ha : ∀ y ∈ l, impl_arePoints.ok y = true) (hr : rng lo hi = true) (hl : l.length ≤ 10) (d : Nat) : ∀ (k k' i : Nat) (o : List Int), i + d = l.length → d + 2000 < k → d + 2000 < k' → o.length ≤ i →
    spec_SeenIn.l0 k x lo hi o l l.length i = some (o ++ snF x l lo hi i d, true) ∧ impl_SeenIn.l0 k' x lo hi o l l.length i = some (o ++ snF x l lo hi i d, true) := by
  induction d with
  | zero =>
    intro k k' i o hi' hk hk' ho
    obtain ⟨k, rfl⟩ : ∃ m, k = m + 1 := ⟨k - 1, by omega⟩
    obtain ⟨k', rfl⟩ : ∃ m, k' = m + 1 := ⟨k' - 1, by omega⟩
    have e : o ++ snF x l lo hi i 0 = o := by simp [snF]
    rw [e]
    exact ⟨by rw [spec_SeenIn.l0, if_neg (by omega)], by rw [impl_SeenIn.l0, if_neg (by omega)]⟩
  | succ d ih =>
    intro k k' i o hi' hk hk' ho
    obtain ⟨k, rfl⟩ : ∃ m, k = m + 1 := ⟨k - 1, by omega⟩
    obtain ⟨k', rfl⟩ : ∃ m, k' = m + 1 := ⟨k' - 1, by omega⟩
    have hI : (i : Int) < (l.length : Int) := by omega
    have h00 : (0 : Int) ≤ i := by omega
    have hos : o.length < 17592186044416 := sn_small (by omega)
    have e : wrap64 ((i : Int) + 1) = ((i + 1 : Nat) : Int) := by rw [wrap_id (by omega) (by omega)]; omega
    have hk2 := oks_at h0 ha (i := i) (by omega)
    have n1 := ih k k' (i + 1)
    rw [spec_SeenIn.l0, impl_SeenIn.l0, rd_nat, miSees_eq k (by omega) hk2 hr, seesIn_eq hk2 hr, e, snF_succ]
    cases seesB x (at_ l i) lo hi with
    | true =>
      have n2 := n1 (o ++ [(i : Int)]) (by omega) (by omega) (by omega) (by rw [List.length_append]; show o.length + 1 ≤ i + 1; omega)
      rw [List.append_assoc] at n2
      exact ⟨(if_pos hI).trans ((if_pos h00).trans ((if_pos hI).trans ((Option.bind_some _ _).trans ((if_pos rfl).trans ((if_pos hos).trans n2.1))))), (if_pos hI).trans ((if_pos h00).trans ((if_pos hI).trans ((Option.bind_some _ _).trans ((if_pos rfl).trans ((if_pos hos).trans n2.2)))))⟩
    | false =>
      have n2 := n1 o (by omega) (by omega) (by omega) (by omega)
      exact ⟨(if_pos hI).trans ((if_pos h00).trans ((if_pos hI).trans ((Option.bind_some _ _).trans ((if_neg Bool.false_ne_true).trans n2.1)))), (if_pos hI).trans ((if_pos h00).trans ((if_pos hI).trans ((Option.bind_some _ _).trans ((if_neg Bool.false_ne_true).trans n2.2))))⟩
def pts (x : List Int) (l : List (List Int)) : Bool := impl_arePoints.ok x && l.all impl_arePoints.ok && decide (l.length ≤ 10)
theorem pts_of {x : List Int} {l : List (List Int)} (h : pts x l = true) : impl_arePoints.ok x = true ∧ (∀ y ∈ l, impl_arePoints.ok y = true) ∧ l.length ≤ 10 := by
  unfold pts at h
  rw [Bool.and_eq_true, Bool.and_eq_true] at h
  exact ⟨h.1.1, List.all_eq_true.1 h.1.2, of_decide_eq_true h.2⟩
def sI (x : List Int) (l : List (List Int)) (lo hi : Int) : List Int × Bool := if (pts x l && rng lo hi) = true then (snF x l lo hi 0 l.length, true) else ([], false)
theorem sI_both (k : Nat) (hk : 4000 ≤ k) (x : List Int) (l : List (List Int)) (lo hi : Int) : spec_SeenIn.f k x l lo hi = some (sI x l lo hi) ∧ impl_SeenIn.f k x l lo hi = some (sI x l lo hi) := by
  obtain ⟨k, rfl⟩ : ∃ m, k = m + 1 := ⟨k - 1, by omega⟩
  unfold spec_SeenIn.f impl_SeenIn.f sI pts
  rw [miPoint_eq (k + 1) x (by omega), miPoints_eq (k + 1) l (by omega)]
  simp only [Option.bind_some, impl_arePoints.f, List.all_cons, List.all_nil, Bool.and_true, miRange_eq, isPart_eq, spec_SeenIn.j0, impl_SeenIn.j0]
  cases h0 : impl_arePoints.ok x with
  | false => exact ⟨by simp, by simp⟩
  | true =>
    by_cases c : (l.length : Int) > 10
    · have c' : ¬ l.length ≤ 10 := by omega
      refine ⟨by simp [c, c'], ?_⟩
      cases l.all impl_arePoints.ok <;> simp [c, c']
    · have c' : l.length ≤ 10 := by omega
      rw [if_neg c, if_neg c]
      cases ha : l.all impl_arePoints.ok with
      | false => exact ⟨by simp, by simp⟩
      | true =>
        cases hr : rng lo hi with
        | false => exact ⟨by simp, by simp⟩
        | true =>
          have z := sn_run h0 (List.all_eq_true.1 ha) hr c' l.length k k 0 [] (by omega) (by omega) (by omega) (by simp)
          simp only [List.nil_append, Int.natCast_zero] at z
          exact ⟨by simpa [c'] using z.1, by simpa [c'] using z.2⟩
theorem sn_mem {x : List Int} {l : List (List Int)} {lo hi : Int} {i d j : Nat} : (j : Int) ∈ snF x l lo hi i d ↔ (i ≤ j ∧ j < i + d) ∧ seesB x (at_ l j) lo hi = true := by
  unfold snF
  rw [List.mem_map]
  constructor
  · rintro ⟨a, ha, e⟩
    obtain rfl : a = j := by omega
    rw [List.mem_filter, List.mem_range'_1] at ha
    exact ha
  · intro h
    exact ⟨j, by rw [List.mem_filter, List.mem_range'_1]; exact h, rfl⟩
theorem sn_rises (x : List Int) (l : List (List Int)) (lo hi : Int) (i d : Nat) : (snF x l lo hi i d).Pairwise (· < ·) := by
  unfold snF
  rw [List.pairwise_map]
  refine List.Pairwise.filter _ ?_
  refine List.Pairwise.imp (fun h => ?_) (List.pairwise_lt_range' (s := i) (n := d))
  omega
theorem sn_full {x : List Int} {l : List (List Int)} {lo hi : Int} {d : Nat} : (snF x l lo hi 0 d).length = d ↔ ∀ j, j < d → seesB x (at_ l j) lo hi = true := by
  unfold snF
  rw [List.length_map]
  constructor
  · intro h j hj
    have h2 : (List.filter (fun j => seesB x (at_ l j) lo hi) (List.range' 0 d)).length = (List.range' 0 d).length := by rw [h, List.length_range']
    exact List.length_filter_eq_length_iff.1 h2 j (by rw [List.mem_range'_1]; omega)
  · intro h
    have : (List.filter (fun j => seesB x (at_ l j) lo hi) (List.range' 0 d)).length = (List.range' 0 d).length := List.length_filter_eq_length_iff.2 (fun j hj => h j (by rw [List.mem_range'_1] at hj; omega))
    rw [this, List.length_range']
/-! ### loops over what is seen -/
theorem yHas_l0 (n : Int) (s : List Int) (hs : s.length ≤ 1000) (d : Nat) : ∀ (k i : Nat), i + d = s.length → d < k → laws_yHas.l0 k n s s.length i = some (decide (n ∈ s.drop i)) := by
  induction d with
  | zero =>
    intro k i hi hk
    obtain ⟨k, rfl⟩ : ∃ m, k = m + 1 := ⟨k - 1, by omega⟩
    simp only [laws_yHas.l0]
    rw [if_neg (by omega), List.drop_eq_nil_of_le (by omega)]
    rfl
  | succ d ih =>
    intro k i hi hk
    obtain ⟨k, rfl⟩ : ∃ m, k = m + 1 := ⟨k - 1, by omega⟩
    have hlt : i < s.length := by omega
    have e : wrap64 ((i : Int) + 1) = ((i + 1 : Nat) : Int) := by rw [wrap_id (by omega) (by omega)]; omega
    have er : rd s (i : Int) = s[i] := by
      show s.getD i 0 = _
      rw [List.getD_eq_getElem?_getD, List.getElem?_eq_getElem hlt]
      rfl
    simp only [laws_yHas.l0]
    rw [if_pos (by omega), if_pos (by omega), if_pos (by omega), er, List.drop_eq_getElem_cons hlt, e]
    by_cases c : s[i] = n
    · rw [if_pos c, decide_eq_true (by rw [c]; exact List.mem_cons_self)]
    · rw [if_neg c, ih k (i + 1) (by omega) (by omega)]
      congr 1
      rw [decide_eq_decide, List.mem_cons]
      exact ⟨.inr, fun h => h.resolve_left (fun h => c h.symm)⟩
theorem yHas_eq (k : Nat) (s : List Int) (n : Int) (hs : s.length ≤ 1000) (hk : 1001 < k) : laws_yHas.f k s n = some (decide (n ∈ s)) := by
  have := yHas_l0 n s hs s.length k 0 (by omega) (by omega)
  rw [List.drop_zero] at this
  exact this
theorem yRises_l0 (s : List Int) (hp : s.Pairwise (· < ·)) (hs : s.length ≤ 1000) (d : Nat) : ∀ (k i : Nat), i + d = s.length + 1 → 1 ≤ i → d + 1 < k → laws_yRises.l0 k s i = some true := by
  induction d with
  | zero =>
    intro k i hi h1 hk
    obtain ⟨k, rfl⟩ : ∃ m, k = m + 1 := ⟨k - 1, by omega⟩
    simp only [laws_yRises.l0]
    rw [if_neg (by omega)]
  | succ d ih =>
    intro k i hi h1 hk
    obtain ⟨k, rfl⟩ : ∃ m, k = m + 1 := ⟨k - 1, by omega⟩
    have e : wrap64 ((i : Int) + 1) = ((i + 1 : Nat) : Int) := by rw [wrap_id (by omega) (by omega)]; omega
    have e2 : wrap64 ((i : Int) - 1) = ((i - 1 : Nat) : Int) := by rw [wrap_id (by omega) (by omega)]; omega
    simp only [laws_yRises.l0]
    by_cases c : (i : Int) < (s.length : Int)
    · have hlt : i < s.length := by omega
      have hlt2 : i - 1 < s.length := by omega
      have er : rd s (i : Int) = s[i] := by
        show s.getD i 0 = _
        rw [List.getD_eq_getElem?_getD, List.getElem?_eq_getElem hlt]
        rfl
      have er2 : rd s ((i - 1 : Nat) : Int) = s[i - 1] := by
        show s.getD (i - 1) 0 = _
        rw [List.getD_eq_getElem?_getD, List.getElem?_eq_getElem hlt2]
        rfl
      have hx := (List.pairwise_iff_getElem.1 hp) (i - 1) i hlt2 hlt (by omega)
      rw [if_pos c, e2, if_pos (by omega), if_pos (by omega), if_pos (by omega), er, er2, if_neg (by omega), e]
      exact ih k (i + 1) (by omega) (by omega) (by omega)
    · rw [if_neg c]
theorem yRises_eq (k : Nat) (s : List Int) (hp : s.Pairwise (· < ·)) (hs : s.length ≤ 1000) (hk : 1010 < k) : laws_yRises.f k s = some true := yRises_l0 s hp hs s.length k 1 (by omega) (by omega) (by omega)
theorem ySame_l0 (s : List Int) (hs : s.length ≤ 1000) (d : Nat) : ∀ (k i : Nat), i + d = s.length → d < k → laws_ySame.l0 k s s s.length i = some true := by
  induction d with
  | zero =>
    intro k i hi hk
    obtain ⟨k, rfl⟩ : ∃ m, k = m + 1 := ⟨k - 1, by omega⟩
    simp only [laws_ySame.l0]
    rw [if_neg (by omega)]
  | succ d ih =>
    intro k i hi hk
    obtain ⟨k, rfl⟩ : ∃ m, k = m + 1 := ⟨k - 1, by omega⟩
    have e : wrap64 ((i : Int) + 1) = ((i + 1 : Nat) : Int) := by rw [wrap_id (by omega) (by omega)]; omega
    simp only [laws_ySame.l0]
    rw [if_pos (by omega), if_pos (by omega), if_pos (by omega), e]
    simp only [if_true]
    rw [if_pos (by omega)]
    exact ih k (i + 1) (by omega) (by omega)
theorem ySame_eq (k : Nat) (s : List Int) (hs : s.length ≤ 1000) (hk : 1001 < k) : laws_ySame.f k s s = some true := by
  unfold laws_ySame.f
  rw [if_pos rfl]
  exact ySame_l0 s hs s.length k 0 (by omega) (by omega)
/-! ### the least mirror -/
theorem floor_red {g p q : Int} (hg : 0 < g) : (g * p).tdiv (g * q) = p.tdiv q := Int.mul_tdiv_mul_of_pos p q hg
theorem ceil_red {g p q : Int} (hg : 0 < g) (hp : 0 < p) (hq : 0 < q) : (g * p + g * q - 1).tdiv (g * q) = (p + q - 1).tdiv q := by
  have hgq : 0 < g * q := Int.mul_pos hg hq
  have hgp : 0 < g * p := Int.mul_pos hg hp
  rw [Int.tdiv_eq_ediv_of_nonneg (by omega), Int.tdiv_eq_ediv_of_nonneg (by omega)]
  have e : g * p + g * q - 1 = g * (p + q - 1) + (g - 1) := by rw [Int.mul_sub, Int.mul_add]; omega
  rw [e, ← Int.ediv_ediv_of_nonneg (by omega)]
  congr 1
  rw [Int.add_comm, Int.add_mul_ediv_left _ _ (by omega), Int.ediv_eq_zero_of_lt (by omega) (by omega)]
  omega
def fl (x y : List Int) : Int := (nu x y).tdiv (de x y)
def ce (x y : List Int) : Int := (nu x y + de x y - 1).tdiv (de x y)
def loF (x : List Int) (l : List (List Int)) : Nat → Nat → Int → Int
  | _, 0, p => p
  | i, d + 1, p => loF x l (i + 1) d (mn p (fl x (at_ l i)))
def hiF (x : List Int) (l : List (List Int)) : Nat → Nat → Int → Int
  | _, 0, p => p
  | i, d + 1, p => hiF x l (i + 1) d (mx p (ce x (at_ l i)))
theorem nude_of {x y : List Int} (h : oks x y = true) : 1 ≤ nu x y ∧ nu x y ≤ 500 * de x y ∧ 2 ≤ de x y ∧ de x y ≤ 1000 := by
  obtain ⟨a, b, c, d, rfl, rfl, ha, hb, hc, hd⟩ := oks_of h
  show 1 ≤ a * d + c * b ∧ a * d + c * b ≤ 500 * (a + c) ∧ 2 ≤ a + c ∧ a + c ≤ 1000
  have m1 := prod_le ha hd
  have m2 := prod_le hc hb
  have h1 : a * d ≤ a * 500 := Int.mul_le_mul_of_nonneg_left hd.2 (by omega)
  have h2 : c * b ≤ c * 500 := Int.mul_le_mul_of_nonneg_left hb.2 (by omega)
  omega
theorem lm_run {x : List Int} {l : List (List Int)} (h0 : impl_arePoints.ok x = true) (ha : ∀ y ∈ l, impl_arePoints.ok y = true) (hl : l.length ≤ 10) (d : Nat) : ∀ (k k' i : Nat) (p q : Int), i + d = l.length → d + 2000 < k → d + 2000 < k' →
    spec_LeastMirrorFor.l0 k x p q l l.length i = some (loF x l i d p, hiF x l i d q, true) ∧ impl_LeastMirrorFor.l0 k' x p q l l.length i = some (loF x l i d p, hiF x l i d q, true) := by
  induction d with
  | zero =>
    intro k k' i p q hi hk hk'
    obtain ⟨k, rfl⟩ : ∃ m, k = m + 1 := ⟨k - 1, by omega⟩
    obtain ⟨k', rfl⟩ : ∃ m, k' = m + 1 := ⟨k' - 1, by omega⟩
    exact ⟨by rw [spec_LeastMirrorFor.l0, if_neg (by omega)]; rfl, by rw [impl_LeastMirrorFor.l0, if_neg (by omega)]; rfl⟩
  | succ d ih =>
    intro k k' i p q hi hk hk'
    obtain ⟨k, rfl⟩ : ∃ m, k = m + 1 := ⟨k - 1, by omega⟩
    obtain ⟨k', rfl⟩ : ∃ m, k' = m + 1 := ⟨k' - 1, by omega⟩
    have e : wrap64 ((i : Int) + 1) = ((i + 1 : Nat) : Int) := by rw [wrap_id (by omega) (by omega)]; omega
    have hk2 := oks_at h0 ha (i := i) (by omega)
    have z := nude_of hk2
    obtain ⟨g, x', y', hg, hy, hx, hy1, e1, e2, _, _⟩ := la_red hk2
    have e3 : spec_miLook.f k x (at_ l i) = some (x', y') := by
      have e3 : spec_miLook.f k x (at_ l i) = some ((la x (at_ l i)).1, (la x (at_ l i)).2.1) := by
        obtain ⟨a, b, c, d, f1, f2, ha, hb, hc, hd⟩ := oks_of hk2
        rw [f1, f2] at hk2 ⊢
        rw [miLook_eq k (by omega) ha hb hc hd]
        unfold la
        rw [hk2]
        rfl
      rename_i el _
      rw [el] at e3
      exact e3
    have e4 : impl_lookedAt.f x (at_ l i) = some (nu x (at_ l i), de x (at_ l i)) := by
      obtain ⟨a, b, c, d, f1, f2, ha, hb, hc, hd⟩ := oks_of hk2
      rw [f1, f2, lookedAt_eq ha hb hc hd]
      rfl
    have hx2 : x' ≤ g * x' := le_mul_of hg hx
    have hy2 : y' ≤ g * y' := le_mul_of hg hy
    have t1 := tdiv_le x' y'
    have t2 := tdiv_le (x' + y' - 1) y'
    have c1 : fl x (at_ l i) = x'.tdiv y' := by unfold fl; rw [e1, e2, floor_red hg]
    have c2 : ce x (at_ l i) = (x' + y' - 1).tdiv y' := by unfold ce; rw [e1, e2, ceil_red hg hx hy]
    have c3 : (nu x (at_ l i)).tdiv (de x (at_ l i)) = x'.tdiv y' := c1
    have c4 : (nu x (at_ l i) + de x (at_ l i) - 1).tdiv (de x (at_ l i)) = (x' + y' - 1).tdiv y' := c2
    have n1 := ih k k' (i + 1) (mn p (fl x (at_ l i))) (mx q (ce x (at_ l i))) (by omega) (by omega) (by omega)
    rw [spec_LeastMirrorFor.l0, impl_LeastMirrorFor.l0, if_pos (by omega), if_pos (by omega), if_pos (by omega), if_pos (by omega), if_pos (by omega), if_pos (by omega), rd_nat, e3, e4]
    simp only [Option.bind_some, least_eq, most_eq]
    rw [if_neg (show ¬ y' = 0 by omega), if_neg (show ¬ de x (at_ l i) = 0 by omega), e, wrap_id (n := x' + y') (by omega) (by omega), wrap_id (n := x' + y' - 1) (by omega) (by omega), wrap_id (n := nu x (at_ l i) + de x (at_ l i)) (by omega) (by omega), wrap_id (n := nu x (at_ l i) + de x (at_ l i) - 1) (by omega) (by omega), c3, c4, wrap_id (n := x'.tdiv y') (by omega) (by omega), wrap_id (n := (x' + y' - 1).tdiv y') (by omega) (by omega), ← c1, ← c2]
    exact n1
def lm (x : List Int) (l : List (List Int)) : Int × Int × Bool := if (pts x l && decide (1 ≤ l.length)) = true then (loF x l 0 l.length 500, hiF x l 0 l.length 0, true) else (0, 0, false)
theorem lm_both (k : Nat) (hk : 4000 ≤ k) (x : List Int) (l : List (List Int)) : spec_LeastMirrorFor.f k x l = some (lm x l) ∧ impl_LeastMirrorFor.f k x l = some (lm x l) := by
  obtain ⟨k, rfl⟩ : ∃ m, k = m + 1 := ⟨k - 1, by omega⟩
  unfold spec_LeastMirrorFor.f impl_LeastMirrorFor.f lm pts
  rw [miPoint_eq (k + 1) x (by omega), miPoints_eq (k + 1) l (by omega)]
  simp only [Option.bind_some, impl_arePoints.f, List.all_cons, List.all_nil, Bool.and_true, within_eq, spec_LeastMirrorFor.j0, impl_LeastMirrorFor.j0]
  cases h0 : impl_arePoints.ok x with
  | false => exact ⟨by simp, by simp⟩
  | true =>
    by_cases c : (l.length : Int) > 10
    · have c' : ¬ l.length ≤ 10 := by omega
      refine ⟨by simp [c, c'], ?_⟩
      rw [decide_eq_false (show ¬ (1 ≤ (l.length : Int) ∧ (l.length : Int) ≤ 10) by omega)]
      cases l.all impl_arePoints.ok <;> simp [c']
    · have c' : l.length ≤ 10 := by omega
      by_cases z : l.length = 0
      · have z1 : ¬ 1 ≤ l.length := by omega
        refine ⟨?_, ?_⟩
        · have : l = [] := List.eq_nil_of_length_eq_zero z
          subst this
          simp
        · rw [decide_eq_false (show ¬ (1 ≤ (l.length : Int) ∧ (l.length : Int) ≤ 10) by omega)]
          cases l.all impl_arePoints.ok <;> simp [z1]
      · have z1 : 1 ≤ l.length := by omega
        have z' : ((l.length : Int) == 0) = false := beq_eq_false_iff_ne.2 (by omega)
        rw [if_neg c, z', decide_eq_true (show 1 ≤ (l.length : Int) ∧ (l.length : Int) ≤ 10 by omega)]
        cases ha : l.all impl_arePoints.ok with
        | false => exact ⟨by simp, by simp⟩
        | true =>
          have r := lm_run h0 (List.all_eq_true.1 ha) c' l.length k k 0 500 0 (by omega) (by omega) (by omega)
          simp only [Int.natCast_zero] at r
          exact ⟨by simpa [c', z1] using r.1, by simpa [c', z1] using r.2⟩
theorem mn_le (a b : Int) : mn a b ≤ a ∧ mn a b ≤ b ∧ (mn a b = a ∨ mn a b = b) := by unfold mn; split <;> omega
theorem mx_ge (a b : Int) : a ≤ mx a b ∧ b ≤ mx a b ∧ (mx a b = a ∨ mx a b = b) := by unfold mx; split <;> omega
theorem loF_of (x : List Int) (l : List (List Int)) (d : Nat) : ∀ (i : Nat) (p : Int), loF x l i d p ≤ p ∧ (∀ j, i ≤ j → j < i + d → loF x l i d p ≤ fl x (at_ l j)) ∧ (loF x l i d p = p ∨ ∃ j, i ≤ j ∧ j < i + d ∧ loF x l i d p = fl x (at_ l j)) := by
  induction d with
  | zero => intro i p; exact ⟨Int.le_refl _, fun j _ _ => by omega, .inl rfl⟩
  | succ d ih =>
    intro i p
    have z := ih (i + 1) (mn p (fl x (at_ l i)))
    have m := mn_le p (fl x (at_ l i))
    have e : loF x l i (d + 1) p = loF x l (i + 1) d (mn p (fl x (at_ l i))) := rfl
    rw [e]
    refine ⟨by omega, fun j h1 h2 => ?_, ?_⟩
    · rcases Nat.lt_or_ge i j with c | c
      · exact z.2.1 j c (by omega)
      · obtain rfl : j = i := by omega
        omega
    · rcases z.2.2 with h | ⟨j, h1, h2, h3⟩
      · rcases m.2.2 with h' | h'
        · exact .inl (h.trans h')
        · exact .inr ⟨i, by omega, by omega, h.trans h'⟩
      · exact .inr ⟨j, by omega, by omega, h3⟩
theorem hiF_of (x : List Int) (l : List (List Int)) (d : Nat) : ∀ (i : Nat) (p : Int), p ≤ hiF x l i d p ∧ (∀ j, i ≤ j → j < i + d → ce x (at_ l j) ≤ hiF x l i d p) ∧ (hiF x l i d p = p ∨ ∃ j, i ≤ j ∧ j < i + d ∧ hiF x l i d p = ce x (at_ l j)) := by
  induction d with
  | zero => intro i p; exact ⟨Int.le_refl _, fun j _ _ => by omega, .inl rfl⟩
  | succ d ih =>
    intro i p
    have z := ih (i + 1) (mx p (ce x (at_ l i)))
    have m := mx_ge p (ce x (at_ l i))
    have e : hiF x l i (d + 1) p = hiF x l (i + 1) d (mx p (ce x (at_ l i))) := rfl
    rw [e]
    refine ⟨by omega, fun j h1 h2 => ?_, ?_⟩
    · rcases Nat.lt_or_ge i j with c | c
      · exact z.2.1 j c (by omega)
      · obtain rfl : j = i := by omega
        omega
    · rcases z.2.2 with h | ⟨j, h1, h2, h3⟩
      · rcases m.2.2 with h' | h'
        · exact .inl (h.trans h')
        · exact .inr ⟨i, by omega, by omega, h.trans h'⟩
      · exact .inr ⟨j, by omega, by omega, h3⟩
/-- A height between floor and ceiling. -/
theorem flce {p q : Int} (hp : 1 ≤ p) (hq : 2 ≤ q) (h5 : p ≤ 500 * q) : p.tdiv q * q ≤ p ∧ p < (p.tdiv q + 1) * q ∧ p ≤ (p + q - 1).tdiv q * q ∧ ((p + q - 1).tdiv q - 1) * q < p ∧ 0 ≤ p.tdiv q ∧ p.tdiv q ≤ 500 ∧ 1 ≤ (p + q - 1).tdiv q ∧ (p + q - 1).tdiv q ≤ 500 ∧ p.tdiv q ≤ (p + q - 1).tdiv q := by
  rw [Int.tdiv_eq_ediv_of_nonneg (by omega), Int.tdiv_eq_ediv_of_nonneg (by omega)]
  have a1 := Int.mul_ediv_add_emod p q
  have a2 := Int.emod_nonneg p (show q ≠ 0 by omega)
  have a3 := Int.emod_lt_of_pos p (show 0 < q by omega)
  have b1 := Int.mul_ediv_add_emod (p + q - 1) q
  have b2 := Int.emod_nonneg (p + q - 1) (show q ≠ 0 by omega)
  have b3 := Int.emod_lt_of_pos (p + q - 1) (show 0 < q by omega)
  have c1 : (p / q + 1) * q = q * (p / q) + q := by rw [Int.add_mul, Int.mul_comm (p / q)]; omega
  have c2 : ((p + q - 1) / q - 1) * q = q * ((p + q - 1) / q) - q := by rw [Int.sub_mul, Int.mul_comm ((p + q - 1) / q)]; omega
  have c3 : p / q * q = q * (p / q) := Int.mul_comm _ _
  have c4 : (p + q - 1) / q * q = q * ((p + q - 1) / q) := Int.mul_comm _ _
  have d0 : 0 ≤ p / q := Int.ediv_nonneg (by omega) (by omega)
  have d1 : p / q ≤ 500 := Int.ediv_le_of_le_mul (by omega) (by omega)
  have d2 : 1 ≤ (p + q - 1) / q := Int.le_ediv_of_mul_le (by omega) (by omega)
  have d3 : (p + q - 1) / q ≤ 500 := by
    have : (p + q - 1) / q < 501 := Int.ediv_lt_of_lt_mul (by omega) (by omega)
    omega
  have d4 : p / q ≤ (p + q - 1) / q := Int.ediv_le_ediv (by omega) (by omega)
  omega
theorem lt_mul_of_le {a b q p : Int} (hq : 0 ≤ q) (h : a ≤ b) (h2 : b * q ≤ p) : a * q ≤ p := Int.le_trans (Int.mul_le_mul_of_nonneg_right h hq) h2
theorem le_mul_of_le {a b q p : Int} (hq : 0 ≤ q) (h : a ≤ b) (h2 : p ≤ a * q) : p ≤ b * q := Int.le_trans h2 (Int.mul_le_mul_of_nonneg_right h hq)
/-- What the law asks of the least mirror. -/
theorem least_is {x : List Int} {l : List (List Int)} {b e : Int} (h : lm x l = (b, e, true)) : pts x l = true ∧ 1 ≤ l.length ∧ rng b e = true ∧ b ≤ e ∧ (snF x l b e 0 l.length).length = l.length ∧
    (b < e → rng (b + 1) e = true ∧ rng b (e - 1) = true ∧ (snF x l (b + 1) e 0 l.length).length ≠ l.length ∧ (snF x l b (e - 1) 0 l.length).length ≠ l.length) := by
  unfold lm at h
  cases hc : (pts x l && decide (1 ≤ l.length)) with
  | false => rw [hc] at h; simp at h
  | true =>
    rw [hc] at h
    simp only [if_true, Prod.mk.injEq] at h
    obtain ⟨hb, he, _⟩ := h
    rw [Bool.and_eq_true] at hc
    have h1 : 1 ≤ l.length := of_decide_eq_true hc.2
    obtain ⟨h0, ha, hl⟩ := pts_of hc.1
    have zb := loF_of x l l.length 0 500
    have ze := hiF_of x l l.length 0 0
    rw [hb] at zb
    rw [he] at ze
    have hz : ∀ j, j < l.length → (fl x (at_ l j) * de x (at_ l j) ≤ nu x (at_ l j) ∧ nu x (at_ l j) < (fl x (at_ l j) + 1) * de x (at_ l j) ∧ nu x (at_ l j) ≤ ce x (at_ l j) * de x (at_ l j) ∧ (ce x (at_ l j) - 1) * de x (at_ l j) < nu x (at_ l j) ∧ 0 ≤ fl x (at_ l j) ∧ fl x (at_ l j) ≤ 500 ∧ 1 ≤ ce x (at_ l j) ∧ ce x (at_ l j) ≤ 500 ∧ fl x (at_ l j) ≤ ce x (at_ l j)) ∧ 2 ≤ de x (at_ l j) := by
      intro j hj
      have z := nude_of (oks_at h0 ha hj)
      exact ⟨flce z.1 z.2.2.1 z.2.1, z.2.2.1⟩
    have hb1 : ∃ j, j < l.length ∧ b = fl x (at_ l j) := by
      rcases zb.2.2 with h | ⟨j, _, h2, h3⟩
      · have q1 := (hz 0 (by omega)).1
        have q2 := zb.2.1 0 (by omega) (by omega)
        exact ⟨0, by omega, by omega⟩
      · exact ⟨j, by omega, h3⟩
    have he1 : ∃ j, j < l.length ∧ e = ce x (at_ l j) := by
      rcases ze.2.2 with h | ⟨j, _, h2, h3⟩
      · have q1 := (hz 0 (by omega)).1
        have q2 := ze.2.1 0 (by omega) (by omega)
        omega
      · exact ⟨j, by omega, h3⟩
    obtain ⟨jb, hjb, eb⟩ := hb1
    obtain ⟨je, hje, ee⟩ := he1
    have qb := hz jb hjb
    have qe := hz je hje
    have q0 := (hz 0 (by omega)).1
    have hb0 := zb.2.1 0 (by omega) (by omega)
    have he0 := ze.2.1 0 (by omega) (by omega)
    have hbe : b ≤ e := by omega
    have rg : ∀ u v : Int, 0 ≤ u → u ≤ v → v ≤ 500 → rng u v = true := by
      intro u v h1 h2 h3
      unfold rng
      rw [decide_eq_true (show 0 ≤ u ∧ u ≤ 500 by omega), decide_eq_true (show u ≤ v ∧ v ≤ 500 by omega)]
      rfl
    refine ⟨hc.1, h1, rg b e (by omega) hbe (by omega), hbe, ?_, fun hlt => ⟨rg _ _ (by omega) (by omega) (by omega), rg _ _ (by omega) (by omega) (by omega), ?_, ?_⟩⟩
    · rw [sn_full]
      intro j hj
      have q := hz j hj
      have w1 := zb.2.1 j (by omega) (by omega)
      have w2 := ze.2.1 j (by omega) (by omega)
      unfold seesB
      exact decide_eq_true ⟨lt_mul_of_le (by omega) w1 q.1.1, le_mul_of_le (by omega) w2 q.1.2.2.1⟩
    · intro hf
      have := of_decide_eq_true (sn_full.1 hf jb hjb)
      rw [eb] at this
      omega
    · intro hf
      have := of_decide_eq_true (sn_full.1 hf je hje)
      rw [ee] at this
      omega
/-! ### the law, part by part, from its end -/
theorem j13_t (k : Nat) (hk : 3000 ≤ k) (e f : List Int) (g h : Int) : laws_FnMirrorsSeen.j13 k e f g h (si e f g h).1 (si e f g h).2 = some true := by
  obtain ⟨k, rfl⟩ : ∃ m, k = m + 1 := ⟨k - 1, by omega⟩
  simp only [laws_FnMirrorsSeen.j13]
  unfold si
  cases hc : (oks e f && rng g h) with
  | false => simp
  | true =>
    rw [Bool.and_eq_true] at hc
    have z := rng_of hc.2
    obtain ⟨w, p, q, hg, hq, hp, hq1, e1, e2, el, _⟩ := la_red hc.1
    simp only [if_true]
    rw [la_impl k (by omega), el]
    simp only [Option.bind_some, if_true]
    have m1 := wr (x := g) (q := q) ⟨by omega, by omega⟩ ⟨by omega, by omega⟩
    have m2 := wr (x := h) (q := q) ⟨by omega, by omega⟩ ⟨by omega, by omega⟩
    rw [m1, m2]
    have es : seesB e f g h = decide (g * q ≤ p ∧ p ≤ h * q) := by
      unfold seesB
      rw [decide_eq_decide, e1, e2, Int.mul_left_comm g, Int.mul_left_comm h, scale hg, scale hg]
    rw [es]
    by_cases c : g * q ≤ p
    · rw [if_pos c]
      by_cases c2 : p ≤ h * q <;> simp [c, c2]
    · rw [if_neg c]
      simp [c]
theorem nu_comm (x y : List Int) : nu x y = nu y x := by unfold nu; omega
theorem de_comm (x y : List Int) : de x y = de y x := by unfold de; omega
theorem oks_comm (x y : List Int) : oks x y = oks y x := by unfold oks; exact Bool.and_comm _ _
theorem la_comm (x y : List Int) : la x y = la y x := by
  unfold la gg
  rw [oks_comm x y, nu_comm x y, de_comm x y]
/-- What is looked at lies between both heights. -/
theorem between {x y : List Int} (h : oks x y = true) {lo hi : Int} (h1 : lo ≤ rd x 1) (h2 : lo ≤ rd y 1) (h3 : rd x 1 ≤ hi) (h4 : rd y 1 ≤ hi) : lo * de x y ≤ nu x y ∧ nu x y ≤ hi * de x y := by
  obtain ⟨a, b, c, d, rfl, rfl, ha, hb, hc, hd⟩ := oks_of h
  replace h1 : lo ≤ b := h1
  replace h2 : lo ≤ d := h2
  replace h3 : b ≤ hi := h3
  replace h4 : d ≤ hi := h4
  show lo * (a + c) ≤ a * d + c * b ∧ a * d + c * b ≤ hi * (a + c)
  have e1 : lo * (a + c) = a * lo + c * lo := by rw [Int.mul_add, Int.mul_comm lo a, Int.mul_comm lo c]
  have e2 : hi * (a + c) = a * hi + c * hi := by rw [Int.mul_add, Int.mul_comm hi a, Int.mul_comm hi c]
  have m1 : a * lo ≤ a * d := Int.mul_le_mul_of_nonneg_left h2 (by omega)
  have m2 : c * lo ≤ c * b := Int.mul_le_mul_of_nonneg_left h1 (by omega)
  have m3 : a * d ≤ a * hi := Int.mul_le_mul_of_nonneg_left h4 (by omega)
  have m4 : c * b ≤ c * hi := Int.mul_le_mul_of_nonneg_left h3 (by omega)
  omega
theorem j11_t (k : Nat) (hk : 4000 ≤ k) {m n : List Int} (ho : oks m n = true) (e f : List Int) (g h lo hi : Int) (h1 : lo ≤ rd m 1) (h2 : lo ≤ rd n 1) (h3 : rd m 1 ≤ hi) (h4 : rd n 1 ≤ hi) (h5 : 0 ≤ lo ∧ lo ≤ 500) (h6 : 0 ≤ hi ∧ hi ≤ 500) :
    laws_FnMirrorsSeen.j11 k m n (la m n).1 (la m n).2.1 (ls m n).1 e f g h (si e f g h).1 (si e f g h).2 (la m n).1 (la m n).2.1 (la m n).2.2 lo hi = some true := by
  obtain ⟨k, rfl⟩ : ∃ m, k = m + 2 := ⟨k - 2, by omega⟩
  obtain ⟨w, p, q, hg, hq, hp, hq1, e1, e2, el, ew⟩ := la_red ho
  have b := between ho h1 h2 h3 h4
  rw [e1, e2, Int.mul_left_comm lo, Int.mul_left_comm hi, scale hg, scale hg] at b
  have z := nude_of ho
  have hl := len2 ho
  have lv := ls_val ho
  have es : (ls m n).1 = de m n * de m n + (rd m 1 - rd n 1) * (rd m 1 - rd n 1) := by unfold ls; rw [ho]; rfl
  have ey : laws_yLow.f (k + 1) p q = some true := by
    have y := yLow_red (k + 1) (nu m n) (de m n) (gg m n) (by omega) (by omega) (by omega) rfl
    have p1 : (la m n).1 = (nu m n).tdiv (gg m n) := by unfold la; rw [ho]; rfl
    have p2 : (la m n).2.1 = (de m n).tdiv (gg m n) := by unfold la; rw [ho]; rfl
    rw [← p1, ← p2, el] at y
    exact y
  rw [el, es]
  simp only [laws_FnMirrorsSeen.j11]
  rw [ey]
  simp only [Option.bind_some, if_true]
  rw [wr (x := lo) (q := q) h5 ⟨by omega, hq1⟩, wr (x := hi) (q := q) h6 ⟨by omega, hq1⟩, if_neg (by omega), if_neg (by omega), if_pos (by omega), if_pos (by omega), ← lv.2.1, decide_eq_false (by omega)]
  simp only [laws_FnMirrorsSeen.j12, Bool.false_eq_true, if_false]
  exact j13_t k (by omega) e f g h
theorem rd1_of {x y : List Int} (h : oks x y = true) : (1 ≤ rd x 1 ∧ rd x 1 ≤ 500) ∧ 1 ≤ rd y 1 ∧ rd y 1 ≤ 500 := by
  obtain ⟨a, b, c, d, rfl, rfl, ha, hb, hc, hd⟩ := oks_of h
  exact ⟨hb, hd⟩
theorem j10_t (k : Nat) (hk : 5000 ≤ k) (m n e f : List Int) (g h : Int) : laws_FnMirrorsSeen.j10 k m n (la m n).1 (la m n).2.1 (la m n).2.2 (ls m n).1 e f g h (si e f g h).1 (si e f g h).2 = some true := by
  obtain ⟨k, rfl⟩ : ∃ m, k = m + 1 := ⟨k - 1, by omega⟩
  simp only [laws_FnMirrorsSeen.j10]
  rw [la_impl k (by omega) n m, la_comm n m]
  simp only [Option.bind_some]
  cases ho : oks m n with
  | false =>
    have e1 : (la m n).2.2 = false := by unfold la; rw [ho]; rfl
    rw [e1]
    simp only [Bool.false_eq_true, if_false]
    exact j13_t k (by omega) e f g h
  | true =>
    have e1 : (la m n).2.2 = true := by unfold la; rw [ho]; rfl
    have hl := len2 ho
    have r := rd1_of ho
    have t1 := j11_t k (by omega) ho e f g h (rd n 1) (rd m 1)
    have t2 := j11_t k (by omega) ho e f g h (rd m 1) (rd n 1)
    rw [if_pos e1, if_pos (by omega), if_pos (by omega)]
    by_cases c : rd m 1 > rd n 1
    · rw [if_pos c]
      exact t1 (by omega) (by omega) (by omega) (by omega) ⟨by omega, by omega⟩ ⟨by omega, by omega⟩
    · rw [if_neg c]
      exact t2 (by omega) (by omega) (by omega) (by omega) ⟨by omega, by omega⟩ ⟨by omega, by omega⟩
theorem sI_of {x : List Int} {l : List (List Int)} {lo hi : Int} (h : pts x l = true) (hr : rng lo hi = true) : sI x l lo hi = (snF x l lo hi 0 l.length, true) := by
  unfold sI
  rw [h, hr]
  rfl
theorem j7_t (k : Nat) (hk : 6000 ≤ k) (q : List Int) (sp : List (List Int)) (m n e f : List Int) (g h : Int) : laws_FnMirrorsSeen.j7 k q sp (lm q sp).1 (lm q sp).2.1 (lm q sp).2.2 m n (la m n).1 (la m n).2.1 (la m n).2.2 (ls m n).1 e f g h (si e f g h).1 (si e f g h).2 = some true := by
  obtain ⟨k, rfl⟩ : ∃ m, k = m + 3 := ⟨k - 3, by omega⟩
  simp only [laws_FnMirrorsSeen.j7]
  have hs : ∃ b e' ok, lm q sp = (b, e', ok) := ⟨_, _, _, rfl⟩
  obtain ⟨b, e', ok, hs⟩ := hs
  rw [hs]
  cases ok with
  | false =>
    simp only [Bool.false_eq_true, if_false]
    exact j10_t (k + 2) (by omega) m n e f g h
  | true =>
    obtain ⟨h0, h1, hr, hbe, hfull, hmore⟩ := least_is hs
    have z := rng_of hr
    simp only [if_true]
    rw [(sI_both (k + 2) (by omega) q sp b e').2, sI_of h0 hr]
    simp only [Option.bind_some, if_true]
    rw [if_pos (by rw [hfull]), decide_eq_false (by omega)]
    simp only [laws_FnMirrorsSeen.j8, Bool.false_eq_true, if_false]
    by_cases c : b < e'
    · obtain ⟨r1, r2, n1, n2⟩ := hmore c
      rw [if_pos c, wrap_id (n := b + 1) (by omega) (by omega), wrap_id (n := e' - 1) (by omega) (by omega), (sI_both (k + 1) (by omega) q sp (b + 1) e').2, (sI_both (k + 1) (by omega) q sp b (e' - 1)).2, sI_of h0 r1, sI_of h0 r2]
      simp only [Option.bind_some, if_true]
      rw [if_neg (by omega), show (((snF q sp b (e' - 1) 0 sp.length).length : Int) == (sp.length : Int)) = false from beq_eq_false_iff_ne.2 (by omega)]
      simp only [laws_FnMirrorsSeen.j9, Bool.false_eq_true, if_false]
      exact j10_t k (by omega) m n e f g h
    · rw [if_neg c]
      exact j10_t (k + 1) (by omega) m n e f g h
theorem l0_t (p : List Int) (l : List (List Int)) (lo hi : Int) (h0 : pts p l = true) (hr : rng lo hi = true) (q : List Int) (sp : List (List Int)) (m n e f : List Int) (g h : Int) (d : Nat) : ∀ (k i : Nat), i + d = l.length → 7000 + 2 * d ≤ k →
    laws_FnMirrorsSeen.l0 k p lo hi (snF p l lo hi 0 l.length) q sp (lm q sp).1 (lm q sp).2.1 (lm q sp).2.2 m n (la m n).1 (la m n).2.1 (la m n).2.2 (ls m n).1 e f g h (si e f g h).1 (si e f g h).2 l l.length i = some true := by
  obtain ⟨hp, ha, hl⟩ := pts_of h0
  have hlen := snF_len p l lo hi 0 l.length
  induction d with
  | zero =>
    intro k i hi' hk
    obtain ⟨k, rfl⟩ : ∃ m, k = m + 1 := ⟨k - 1, by omega⟩
    simp only [laws_FnMirrorsSeen.l0]
    rw [if_neg (by omega), yRises_eq k _ (sn_rises _ _ _ _ _ _) (by omega) (by omega)]
    simp only [Option.bind_some, if_true]
    exact j7_t k (by omega) q sp m n e f g h
  | succ d ih =>
    intro k i hi' hk
    obtain ⟨k, rfl⟩ : ∃ m, k = m + 2 := ⟨k - 2, by omega⟩
    have hk2 := oks_at hp ha (i := i) (by omega)
    have e1 : wrap64 ((i : Int) + 1) = ((i + 1 : Nat) : Int) := by rw [wrap_id (by omega) (by omega)]; omega
    have es : si p (at_ l i) lo hi = (seesB p (at_ l i) lo hi, true) := by unfold si; rw [hk2, hr]; rfl
    have eh : decide ((i : Int) ∈ snF p l lo hi 0 l.length) = seesB p (at_ l i) lo hi := by
      by_cases c : seesB p (at_ l i) lo hi = true
      · rw [c, decide_eq_true (sn_mem.2 ⟨by omega, c⟩)]
      · rw [decide_eq_false (fun hm => c (sn_mem.1 hm).2)]
        exact (Bool.eq_false_iff.2 c).symm
    simp only [laws_FnMirrorsSeen.l0]
    rw [if_pos (by omega), if_pos (by omega), if_pos (by omega), rd_nat, si_impl (k + 1) (by omega), es]
    simp only [Option.bind_some, if_true]
    rw [yHas_eq (k + 1) _ _ (by omega) (by omega), eh]
    simp only [Option.bind_some, bne_self_eq_false, laws_FnMirrorsSeen.j6, Bool.false_eq_true, if_false]
    rw [e1]
    exact ih k (i + 1) (by omega) (by omega)
theorem j4_t (k : Nat) (hk : 8000 ≤ k) (p : List Int) (l : List (List Int)) (lo hi : Int) (q : List Int) (sp : List (List Int)) (m n e f : List Int) (g h : Int) :
    laws_FnMirrorsSeen.j4 k p l lo hi (sI p l lo hi).1 (sI p l lo hi).2 q sp (lm q sp).1 (lm q sp).2.1 (lm q sp).2.2 m n (la m n).1 (la m n).2.1 (la m n).2.2 (ls m n).1 e f g h (si e f g h).1 (si e f g h).2 false = some true := by
  obtain ⟨k, rfl⟩ : ∃ m, k = m + 1 := ⟨k - 1, by omega⟩
  simp only [laws_FnMirrorsSeen.j4, Bool.false_eq_true, if_false]
  cases hc : (pts p l && rng lo hi) with
  | false =>
    have e1 : sI p l lo hi = ([], false) := by unfold sI; rw [hc]; rfl
    rw [e1]
    simp only [Bool.false_eq_true, if_false]
    exact j7_t k (by omega) q sp m n e f g h
  | true =>
    rw [Bool.and_eq_true] at hc
    rw [sI_of hc.1 hc.2]
    simp only [if_true]
    have := l0_t p l lo hi hc.1 hc.2 q sp m n e f g h l.length k 0 (by omega) (by have := (pts_of hc.1).2.2; omega)
    exact this
theorem sI_len (x : List Int) (l : List (List Int)) (lo hi : Int) : (sI x l lo hi).1.length ≤ 10 := by
  cases hc : (pts x l && rng lo hi) with
  | false =>
    have e1 : sI x l lo hi = ([], false) := by unfold sI; rw [hc]; rfl
    rw [e1]
    simp
  | true =>
    rw [Bool.and_eq_true] at hc
    rw [sI_of hc.1 hc.2]
    have := snF_len x l lo hi 0 l.length
    have := (pts_of hc.1).2.2
    show (snF x l lo hi 0 l.length).length ≤ 10
    omega
theorem j3_t (k : Nat) (hk : 9000 ≤ k) {l : List Int} (hl : Bytes l) : laws_FnMirrorsSeen.j3 k l false = some true := by
  obtain ⟨k, rfl⟩ : ∃ m, k = m + 1 := ⟨k - 1, by omega⟩
  obtain ⟨p, list, lo, hi, d1⟩ := drawSeen_tot k (by omega) hl
  obtain ⟨q, sp, d2⟩ := drawLeast_tot k (by omega) hl
  obtain ⟨m, n, d3⟩ := drawLook_tot k (by omega) hl
  obtain ⟨e, f, g, h, d4⟩ := drawSees_tot k (by omega) hl
  have s1 := sI_both k (by omega) p list lo hi
  have s2 := lm_both k (by omega) q sp
  have hz := sI_len p list lo hi
  simp only [laws_FnMirrorsSeen.j3, Bool.false_eq_true, if_false, d1, d2, d3, d4, Option.bind_some, s1.1, s1.2, s2.1, s2.2, la_impl k (show 2000 ≤ k by omega), la_spec k (show 2000 ≤ k by omega), ls_impl, ls_spec k (show 10 ≤ k by omega), si_impl k (show 2 ≤ k by omega), si_spec k (show 2002 ≤ k by omega), bne_self_eq_false, ySame_eq k _ (show (sI p list lo hi).1.length ≤ 1000 by omega) (by omega), if_true]
  have e1 : ((ls m n).2 != (la m n).2.2) = false := by
    unfold ls la
    cases oks m n <;> rfl
  rw [e1]
  simp only [Bool.false_eq_true, if_false]
  exact j4_t k (by omega) p list lo hi q sp m n e f g h
/-! ### mirrors for people -/
def so (t e lo hi : Int) : Int × Int × Bool := if (pe t e && part lo hi) = true then (if mx 0 (2 * lo - e) > mn t (2 * hi - e) then (0, 0, false) else (mx 0 (2 * lo - e), mn t (2 * hi - e), true)) else (0, 0, false)
def ca (t e lo hi : Int) : Bool × Bool := if (pe t e && part lo hi) = true then (decide (2 * lo ≤ e) && decide (2 * hi ≥ t + e), true) else (false, false)
theorem part_of {l h : Int} (e : part l h = true) : 0 ≤ l ∧ l < h ∧ h ≤ 300 := by
  have z := of_decide_eq_true e
  have w : wrap64 (l + 1) = l + 1 := wrap_id (by omega) (by omega)
  rw [w] at z
  omega
theorem so_both (k : Nat) (hk : 1 ≤ k) (t e l h : Int) : spec_SeenOfPerson.f k t e l h = some (so t e l h) ∧ impl_SeenOfPerson.f k t e l h = some (so t e l h) := by
  obtain ⟨k, rfl⟩ : ∃ m, k = m + 1 := ⟨k - 1, by omega⟩
  unfold so
  cases hp : pe t e with
  | false => simp [spec_SeenOfPerson.f, spec_SeenOfPerson.j0, impl_SeenOfPerson.f, impl_SeenOfPerson.j0, miPerson_eq, isMirror_eq, hp]
  | true =>
    cases hq : part l h with
    | false => simp [spec_SeenOfPerson.f, spec_SeenOfPerson.j0, impl_SeenOfPerson.f, impl_SeenOfPerson.j0, miPerson_eq, miPart_eq, isMirror_eq, hp, hq]
    | true =>
      have z1 := pe_of hp
      have z2 := part_of hq
      have w1 : wrap64 (2 * l) = 2 * l := wrap_id (by omega) (by omega)
      have w2 : wrap64 (2 * h) = 2 * h := wrap_id (by omega) (by omega)
      have w3 : wrap64 (2 * l - e) = 2 * l - e := wrap_id (by omega) (by omega)
      have w4 : wrap64 (2 * h - e) = 2 * h - e := wrap_id (by omega) (by omega)
      simp only [spec_SeenOfPerson.f, spec_SeenOfPerson.j0, impl_SeenOfPerson.f, impl_SeenOfPerson.j0, miPerson_eq, miPart_eq, isMirror_eq, most_eq, least_eq, hp, hq, Option.bind_some, Bool.and_self, if_true, Bool.not_true, Bool.false_eq_true, if_false, w1, w2, w3, w4, decide_eq_true_eq]
      by_cases c : mx 0 (2 * l - e) > mn t (2 * h - e) <;> simp [c]
theorem ca_both (k : Nat) (hk : 1 ≤ k) (t e l h : Int) : spec_CanSeeAll.f k t e l h = some (ca t e l h) ∧ impl_CanSeeAll.f t e l h = some (ca t e l h) := by
  obtain ⟨k, rfl⟩ : ∃ m, k = m + 1 := ⟨k - 1, by omega⟩
  unfold ca
  cases hp : pe t e with
  | false => simp [spec_CanSeeAll.f, spec_CanSeeAll.j0, impl_CanSeeAll.f, miPerson_eq, isMirror_eq, hp]
  | true =>
    cases hq : part l h with
    | false => simp [spec_CanSeeAll.f, spec_CanSeeAll.j0, impl_CanSeeAll.f, miPerson_eq, miPart_eq, isMirror_eq, hp, hq]
    | true =>
      have z1 := pe_of hp
      have z2 := part_of hq
      have w1 : wrap64 (2 * l) = 2 * l := wrap_id (by omega) (by omega)
      have w2 : wrap64 (2 * h) = 2 * h := wrap_id (by omega) (by omega)
      have w3 : wrap64 (t + e) = t + e := wrap_id (by omega) (by omega)
      simp only [spec_CanSeeAll.f, spec_CanSeeAll.j0, impl_CanSeeAll.f, miPerson_eq, miPart_eq, isMirror_eq, hp, hq, Option.bind_some, Bool.and_self, if_true, Bool.not_true, Bool.false_eq_true, if_false, w1, w2, w3]
      by_cases c : 2 * l ≤ e <;> simp [c]
def half (n : Int) : Int × Int := if n % 2 = 0 then (n / 2, 1) else (n, 2)
def mf (t e : Int) : Int × Int × Int × Int × Bool := if pe t e = true then ((half e).1, (half e).2, (half (t + e)).1, (half (t + e)).2, true) else (0, 0, 0, 0, false)
theorem half_gcd {n : Int} (h0 : 0 ≤ n) : n.tdiv (Nat.gcd n.natAbs (2 : Int).natAbs : Nat) = (half n).1 ∧ (2 : Int).tdiv (Nat.gcd n.natAbs (2 : Int).natAbs : Nat) = (half n).2 := by
  have e2 : (2 : Int).natAbs = 2 := rfl
  have eg : Nat.gcd n.natAbs 2 = if n % 2 = 0 then 2 else 1 := by
    rw [Nat.gcd_comm, Nat.gcd_rec]
    by_cases c : n % 2 = 0
    · rw [if_pos c, show n.natAbs % 2 = 0 by omega]
      rfl
    · rw [if_neg c, show n.natAbs % 2 = 1 by omega]
      rfl
  rw [e2, eg]
  unfold half
  by_cases c : n % 2 = 0
  · rw [if_pos c, if_pos c]
    exact ⟨Int.tdiv_eq_ediv_of_nonneg h0, by show Int.tdiv 2 ((2 : Nat) : Int) = 1; decide⟩
  · rw [if_neg c, if_neg c]
    exact ⟨Int.tdiv_one _, by show Int.tdiv 2 ((1 : Nat) : Int) = 2; decide⟩
theorem mf_both (k : Nat) (hk : 10 ≤ k) (t e : Int) : spec_MirrorFor.f k t e = some (mf t e) ∧ impl_MirrorFor.f k t e = some (mf t e) := by
  unfold mf
  cases h : pe t e with
  | false => simp [spec_MirrorFor.f, impl_MirrorFor.f, miPerson_eq, isPerson_eq, h]
  | true =>
    have b := pe_of h
    have w : wrap64 (t + e) = t + e := wrap_id (by omega) (by omega)
    have g1 := half_gcd (n := e) (by omega)
    have g2 := half_gcd (n := t + e) (by omega)
    simp only [spec_MirrorFor.f, impl_MirrorFor.f, miPerson_eq, isPerson_eq, h, Option.bind_some, if_true, w]
    rw [clLow_eq k e 2 (show (2 : Int).natAbs < k by show 2 < k; omega) (by omega) (by omega) (by omega) (by omega), clLow_eq k (t + e) 2 (show (2 : Int).natAbs < k by show 2 < k; omega) (by omega) (by omega) (by omega) (by omega),
      fraction_eq k e 2 (show (2 : Int).natAbs < k by show 2 < k; omega) (by omega) (by omega) (by decide), fraction_eq k (t + e) 2 (show (2 : Int).natAbs < k by show 2 < k; omega) (by omega) (by omega) (by decide)]
    simp only [Option.bind_some, g1.1, g1.2, g2.1, g2.2]
    constructor <;> first | trivial | rfl
theorem yIs_half (k : Nat) (hk : 10 ≤ k) {n : Int} (h0 : 0 ≤ n) (h1 : n ≤ 1000) : laws_yIs.f k (half n).1 (half n).2 n 2 = some true := by
  have g := half_gcd h0
  have y := yLow_red k n 2 _ (show (2 : Int).natAbs + 2 ≤ k by show 2 + 2 ≤ k; omega) h0 (by decide) rfl
  rw [g.1, g.2] at y
  unfold laws_yIs.f
  rw [y]
  simp only [Option.bind_some, if_true]
  unfold half
  by_cases c : n % 2 = 0
  · rw [if_pos c]
    show some (wrap64 (n / 2 * 2) == wrap64 (n * 1)) = some true
    rw [show n / 2 * 2 = n * 1 by omega]
    simp
  · rw [if_neg c]
    show some (wrap64 (n * 2) == wrap64 (n * 2)) = some true
    simp
theorem j0_t (k : Nat) (hk : 9100 ≤ k) {l : List Int} (hl : Bytes l) (t e lo hi : Int) : laws_FnMirrorsSeen.j0 k l t e (so t e lo hi).1 (so t e lo hi).2.1 (so t e lo hi).2.2 (ca t e lo hi).1 (ca t e lo hi).2 (mf t e).1 (mf t e).2.1 (mf t e).2.2.1 (mf t e).2.2.2.1 (mf t e).2.2.2.2 false = some true := by
  obtain ⟨k, rfl⟩ : ∃ m, k = m + 3 := ⟨k - 3, by omega⟩
  have hj3 := j3_t k (by omega) hl
  have hj2 : ∀ a b : Int, ∀ c : Bool, (c = true → 0 ≤ a ∧ a ≤ b ∧ b ≤ t) → laws_FnMirrorsSeen.j2 (k + 1) l t a b c false = some true := by
    intro a b c hc
    simp only [laws_FnMirrorsSeen.j2, Bool.false_eq_true, if_false]
    cases c with
    | false => simp only [Bool.false_eq_true, if_false]; exact hj3
    | true =>
      have z := hc rfl
      simp only [if_true]
      rw [if_neg (by omega), if_neg (by omega), decide_eq_false (by omega)]
      exact hj3
  simp only [laws_FnMirrorsSeen.j0, Bool.false_eq_true, if_false]
  have hj1 : laws_FnMirrorsSeen.j1 (k + 2) l t (so t e lo hi).1 (so t e lo hi).2.1 (so t e lo hi).2.2 (ca t e lo hi).1 (ca t e lo hi).2 false = some true := by
    simp only [laws_FnMirrorsSeen.j1, Bool.false_eq_true, if_false]
    unfold so ca
    cases hc : (pe t e && part lo hi) with
    | false =>
      simp only [Bool.false_eq_true, if_false]
      exact hj2 0 0 false (by simp)
    | true =>
      rw [Bool.and_eq_true] at hc
      have z1 := pe_of hc.1
      have z2 := part_of hc.2
      have m1 := mx_ge 0 (2 * lo - e)
      have m2 := mn_le t (2 * hi - e)
      simp only [if_true]
      by_cases c : mx 0 (2 * lo - e) > mn t (2 * hi - e)
      · rw [if_pos c]
        simp only [Bool.false_eq_true, if_false]
        rw [show ((decide (2 * lo ≤ e) && decide (2 * hi ≥ t + e)) != false) = false by
          by_cases c1 : 2 * lo ≤ e <;> by_cases c2 : 2 * hi ≥ t + e <;> simp [c1, c2]
          omega]
        exact hj2 0 0 false (by simp)
      · rw [if_neg c]
        simp only [if_true]
        have hok : ∀ x : Bool, x = false → laws_FnMirrorsSeen.j2 (k + 1) l t (mx 0 (2 * lo - e)) (mn t (2 * hi - e)) true x = some true := by
          intro x hx
          rw [hx]
          exact hj2 _ _ true (fun _ => by omega)
        by_cases c3 : mx 0 (2 * lo - e) = 0
        · rw [if_pos c3]
          refine hok _ ?_
          by_cases c4 : mn t (2 * hi - e) = t
          · rw [c4, decide_eq_true (show 2 * lo ≤ e by omega), decide_eq_true (show 2 * hi ≥ t + e by omega)]
            simp
          · rw [show (mn t (2 * hi - e) == t) = false from beq_eq_false_iff_ne.2 c4, decide_eq_false (show ¬ 2 * hi ≥ t + e by omega)]
            simp
        · rw [if_neg c3]
          refine hok _ ?_
          rw [decide_eq_false (show ¬ 2 * lo ≤ e by omega)]
          rfl
  unfold mf
  cases h : pe t e with
  | false =>
    simp only [Bool.false_eq_true, if_false]
    exact hj1
  | true =>
    have b := pe_of h
    simp only [if_true]
    rw [yIs_half (k + 2) (by omega) (n := e) (by omega) (by omega), wrap_id (n := t + e) (by omega) (by omega), yIs_half (k + 2) (by omega) (n := t + e) (by omega) (by omega)]
    simp only [Option.bind_some, if_true]
    have hx : (wrap64 (2 * wrap64 (wrap64 ((half (t + e)).1 * (half e).2) - wrap64 ((half e).1 * (half (t + e)).2))) != wrap64 (wrap64 (t * (half e).2) * (half (t + e)).2)) = false := by
      have key : 2 * ((half (t + e)).1 * (half e).2 - (half e).1 * (half (t + e)).2) = t * (half e).2 * (half (t + e)).2 ∧ ((half (t + e)).1 * (half e).2).natAbs ≤ 10000 ∧ ((half e).1 * (half (t + e)).2).natAbs ≤ 10000 ∧ (t * (half e).2).natAbs ≤ 10000 := by
        unfold half
        by_cases c1 : e % 2 = 0 <;> by_cases c2 : (t + e) % 2 = 0 <;> simp only [c1, c2, if_true, if_false] <;> omega
      rw [wrap_id (n := (half (t + e)).1 * (half e).2) (by omega) (by omega), wrap_id (n := (half e).1 * (half (t + e)).2) (by omega) (by omega), wrap_id (n := t * (half e).2) (by omega) (by omega), wrap_id (n := (half (t + e)).1 * (half e).2 - (half e).1 * (half (t + e)).2) (by omega) (by omega), key.1]
      simp
    rw [hx]
    exact hj1
theorem bytes_of {l : List Int} (hl : l.length ≤ 1048576) (hw : ∀ x ∈ l, (Lit.int .u8 x).wf = true) : Bytes l := by
  refine ⟨hl, fun x hx => ?_⟩
  have h := hw x hx
  simp [Lit.wf] at h
  have e0 : IntKind.u8.min = 0 := by decide
  have e1 : IntKind.u8.max = 255 := by decide
  omega
theorem main : laws_FnMirrorsSeen.Pure := by
  intro l0 l1 _ _ w0 _ _ w1
  obtain ⟨k, hk⟩ : ∃ k : Nat, 10000 ≤ k := ⟨10000, Nat.le_refl _⟩
  refine ⟨k, ?_⟩
  unfold laws_FnMirrorsSeen.f laws_big.f
  by_cases c0 : (l0.length : Int) > 1048576
  · rw [if_pos c0]
    rfl
  rw [if_neg c0, wrap_id (by omega) (by omega)]
  by_cases c1 : (l1.length : Int) > 1048576 - (l0.length : Int)
  · rw [decide_eq_true c1]
    rfl
  rw [decide_eq_false c1]
  simp only [Option.bind_some, Bool.false_eq_true, if_false]
  have b0 := bytes_of (l := l0) (by omega) w0
  have b1 := bytes_of (l := l1) (by omega) w1
  obtain ⟨t, e, lo, hi, hd⟩ := drawAll_tot k (by omega) b0
  have s1 := so_both k (by omega) t e lo hi
  have s2 := ca_both k (by omega) t e lo hi
  have s3 := mf_both k (by omega) t e
  have hj := j0_t k (by omega) b1 t e lo hi
  simp only [hd, Option.bind_some, s1.1, s1.2, s2.1, s2.2, s3.1, s3.2, bne_self_eq_false, Bool.false_eq_true, if_false, if_true]
  have h1 : (so t e lo hi).2.2 = true → (ca t e lo hi).2 = true := by
    unfold so ca
    cases (pe t e && part lo hi) <;> simp
  have h2 : (ca t e lo hi).2 = true → (mf t e).2.2.2.2 = true := by
    unfold ca mf
    cases pe t e <;> cases part lo hi <;> simp
  cases q1 : (so t e lo hi).2.2 with
  | true =>
    have q2 := h1 q1
    have q3 := h2 q2
    rw [q1, q2, q3] at hj
    simp only [if_true]
    rw [q2, q3]
    simp only [if_true, Bool.not_true]
    exact hj
  | false =>
    rw [q1] at hj
    simp only [Bool.false_eq_true, if_false]
    cases q2 : (ca t e lo hi).2 with
    | true =>
      have q3 := h2 q2
      rw [q2, q3] at hj
      simp only [if_true]
      rw [q3]
      exact hj
    | false =>
      rw [q2] at hj
      simp only [Bool.false_eq_true, if_false]
      exact hj
end LFnMirrorsSeen

theorem FnMirrorsSeen : laws_FnMirrorsSeen.Pure := LFnMirrorsSeen.main

end Go.Proofs.Ytfdnhipjiofnaaa.Pure
