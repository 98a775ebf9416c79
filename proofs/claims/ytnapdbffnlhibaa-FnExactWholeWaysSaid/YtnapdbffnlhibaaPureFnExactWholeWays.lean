/- For every two spots and every height the program's WholeWays and the reference's give the same list, which is the caller's own; no condition beyond the numbers' kinds. -/
import Derived.Test.YtnapdbffnlhibaaPFnExactWholeWaysx4
namespace Go.Proofs.Ytnapdbffnlhibaa.Pure
open Go.RowKit Go.Proofs.Ytnapdbffnlhibaa.PFnExactWholeWays Go.Proofs.YtnapdbffnlhibaaW.PrintWords Go.Proofs.YtnapdbffnlhibaaW.PrintLast
set_option linter.unusedVariables false
set_option linter.unusedSimpArgs false

namespace LFnExactWholeWays
theorem within_eq (a b c : Int) : impl_within.f a b c = some (decide (b ≤ a ∧ a ≤ c)) := by
  by_cases h1 : b ≤ a <;> by_cases h2 : a ≤ c <;> simp [impl_within.f, h1, h2]

theorem l1In_eq (a b c : Int) : spec_l1In.f a b c = some (decide (b ≤ a ∧ a ≤ c)) := by
  by_cases h1 : b ≤ a <;> by_cases h2 : a ≤ c <;> simp [spec_l1In.f, h1, h2]

/-- A spot. -/
def sp (x y : Int) : Bool := decide ((-1000 ≤ x ∧ x ≤ 1000) ∧ 1 ≤ y ∧ y ≤ 1000)
theorem sp_of {x y : Int} (h : sp x y = true) : -1000 ≤ x ∧ x ≤ 1000 ∧ 1 ≤ y ∧ y ≤ 1000 := by
  have := of_decide_eq_true h
  omega

theorem isShift_eq (x : Int) : impl_isShift.f x = some (decide (-1000 ≤ x ∧ x ≤ 1000)) := by
  simp only [impl_isShift.f, within_eq, Option.bind_some]

theorem IsSpot_eq (x y : Int) : impl_IsSpot.f x y = some (sp x y) := by
  simp only [impl_IsSpot.f, isShift_eq, within_eq, Option.bind_some, sp]
  by_cases h1 : -1000 ≤ x ∧ x ≤ 1000 <;> by_cases h2 : 1 ≤ y ∧ y ≤ 1000 <;> simp [h1, h2]

theorem lwSpot_eq (x y : Int) : spec_lwSpot.f x y = some (sp x y) := by
  simp only [spec_lwSpot.f, l1In_eq, Option.bind_some, sp]
  by_cases h1 : -1000 ≤ x ∧ x ≤ 1000 <;> by_cases h2 : 1 ≤ y ∧ y ≤ 1000 <;> simp [h1, h2]

theorem wrap_id {n : Int} (h0 : -9223372036854775808 ≤ n) (h1 : n ≤ 9223372036854775807) : wrap64 n = n := by
  unfold wrap64
  omega

theorem spok_eq (x y : Int) : impl_areSpots.ok ⟨x, y⟩ = sp x y := by
  unfold impl_areSpots.ok
  rw [IsSpot_eq]
  rfl
theorem areSpots_eq (x y a b : Int) : impl_areSpots.f [⟨x, y⟩, ⟨a, b⟩] = some (sp x y && sp a b) := by
  simp [impl_areSpots.f, spok_eq]

theorem lwTwo_eq (x y a b : Int) : spec_lwTwo.f x y a b = some (sp x y && sp a b) := by
  simp only [spec_lwTwo.f, lwSpot_eq, Option.bind_some]
  cases sp x y <;> simp

def inCd (x y a b h t : Int) : Bool := (sp x y && sp a b) && decide (((2 ≤ h ∧ h ≤ 1000) ∧ y < h ∧ b < h) ∧ 1 ≤ t ∧ t ≤ 50)
theorem inCd_of {x y a b h t : Int} (q : inCd x y a b h t = true) : (-1000 ≤ x ∧ x ≤ 1000 ∧ 1 ≤ y ∧ y ≤ 1000) ∧ (-1000 ≤ a ∧ a ≤ 1000 ∧ 1 ≤ b ∧ b ≤ 1000) ∧ 2 ≤ h ∧ h ≤ 1000 ∧ y < h ∧ b < h ∧ 1 ≤ t ∧ t ≤ 50 := by
  simp only [inCd, Bool.and_eq_true, decide_eq_true_eq] at q
  have h1 := sp_of q.1.1
  have h2 := sp_of q.1.2
  omega
theorem areInCorridor_eq (x y a b h t : Int) : impl_areInCorridor.f x y a b h t = some (inCd x y a b h t) := by
  simp only [impl_areInCorridor.f, areSpots_eq, within_eq, Option.bind_some, inCd]
  cases (sp x y && sp a b)
  · simp
  by_cases h1 : 2 ≤ h ∧ h ≤ 1000 <;> by_cases h2 : y < h <;> by_cases h3 : b < h <;> by_cases h4 : 1 ≤ t ∧ t ≤ 50 <;> simp [h1, h2, h3, h4]
theorem lwCorridor_eq (x y a b h t : Int) : spec_lwCorridor.f x y a b h t = some (inCd x y a b h t) := by
  simp only [spec_lwCorridor.f, lwTwo_eq, l1In_eq, Option.bind_some, inCd]
  cases (sp x y && sp a b)
  · simp
  by_cases h1 : 2 ≤ h ∧ h ≤ 1000 <;> by_cases h2 : y < h <;> by_cases h3 : b < h <;> by_cases h4 : 1 ≤ t ∧ t ≤ 50 <;> simp [h1, h2, h3, h4]

/-- How far a way in a corridor goes up and down: the program's and the reference's. -/
theorem rise_eq (x y a b h t : Int) (g : Bool) : ∃ f r, spec_lwRise.f x y a b h t g = some (f, r) ∧ impl_riseIn.f x y a b h t g = some r := by
  unfold spec_lwRise.f impl_riseIn.f impl_riseBefore.f
  cases g <;> cases (Int.tmod t 2 == 1) <;> simp
theorem rise_range {x y a b h t : Int} {g : Bool} (q : inCd x y a b h t = true) : ∀ r, impl_riseIn.f x y a b h t g = some r → 0 ≤ r ∧ r ≤ 52000 := by
  have z := inCd_of q
  have m0 : 0 ≤ (t - 1) * h := Int.mul_nonneg (by omega) (by omega)
  have m1 : (t - 1) * h ≤ 49 * 1000 := Int.mul_le_mul (by omega) (by omega) (by omega) (by omega)
  have w0 : wrap64 (t - 1) = t - 1 := wrap_id (by omega) (by omega)
  have w1 : wrap64 ((t - 1) * h) = (t - 1) * h := wrap_id (by omega) (by omega)
  intro r hr
  unfold impl_riseIn.f impl_riseBefore.f at hr
  rw [w0, w1] at hr
  have w2 : wrap64 (h - y) = h - y := wrap_id (by omega) (by omega)
  have w3 : wrap64 (h - b) = h - b := wrap_id (by omega) (by omega)
  rw [w2, w3] at hr
  have w4 : wrap64 (y + (t - 1) * h) = y + (t - 1) * h := wrap_id (by omega) (by omega)
  have w5 : wrap64 (h - y + (t - 1) * h) = h - y + (t - 1) * h := wrap_id (by omega) (by omega)
  cases g <;> cases hb : (Int.tmod t 2 == 1) <;> simp [hb, w4, w5] at hr <;> subst hr <;> rw [wrap_id (by omega) (by omega)] <;> omega

theorem square_same (a b : Int) : spec_lwSquare.f a b = impl_square.f a b := rfl

theorem corridorSquare_eq (x y a b h t : Int) (g : Bool) : ∃ r s, impl_riseIn.f x y a b h t g = some r ∧ impl_square.f (wrap64 (x - a)) r = some s ∧ spec_lwCorridorSquare.f x y a b h t g = some s := by
  obtain ⟨f, r, h1, h2⟩ := rise_eq x y a b h t g
  refine ⟨r, wrap64 (wrap64 (wrap64 (x - a) * wrap64 (x - a)) + wrap64 (r * r)), h2, rfl, ?_⟩
  unfold spec_lwCorridorSquare.f
  rw [h1]
  rfl

theorem eqIntS_l0 (l : List Int) (hl : l.length ≤ 1000000000) (d : Nat) : ∀ (k i : Nat), i + d = l.length → d < k → laws_eqIntS.l0 k l l i = some true := by
  induction d with
  | zero =>
    intro k i hi hk
    obtain ⟨k, rfl⟩ : ∃ m, k = m + 1 := ⟨k - 1, by omega⟩
    simp only [laws_eqIntS.l0]
    rw [if_neg (by omega)]
  | succ d ih =>
    intro k i hi hk
    obtain ⟨k, rfl⟩ : ∃ m, k = m + 1 := ⟨k - 1, by omega⟩
    have e : wrap64 ((i : Int) + 1) = ((i + 1 : Nat) : Int) := by rw [wrap_id (by omega) (by omega)]; omega
    simp only [laws_eqIntS.l0]
    rw [if_pos (by omega), if_pos (by omega), if_pos (by omega)]
    simp only [if_true]
    rw [e]
    exact ih k (i + 1) (by omega) (by omega)
theorem eqIntS_same (k : Nat) (l : List Int) (hl : l.length ≤ 1000000000) (hk : l.length < k) : laws_eqIntS.f k l l = some true := by
  unfold laws_eqIntS.f
  rw [if_pos rfl]
  exact eqIntS_l0 l hl l.length k 0 (by omega) hk

/-- The numbers m, m + 1, .., as many as told. -/
def upto (m : Int) (n : Nat) : List Int := (List.range n).map fun j : Nat => m + (j : Int)
theorem upto_len (m : Int) (n : Nat) : (upto m n).length = n := by simp [upto]
theorem mark_l0 (m : Int) (h0 : 0 ≤ m) (h1 : m ≤ 1000000000) : ∀ (rest : List Int) (k i : Nat), rest.length < k → i + rest.length ≤ 1000000000 →
    laws_markIntS.l0 k (upto m i ++ rest) (m + i) i = some (m + ((i + rest.length : Nat) : Int), upto m (i + rest.length)) := by
  intro rest
  induction rest with
  | nil =>
    intro k i hk hb
    obtain ⟨k, rfl⟩ : ∃ m, k = m + 1 := ⟨k - 1, by simp at hk; omega⟩
    simp only [laws_markIntS.l0]
    rw [if_neg (by simp [upto_len])]
    simp
  | cons y ys ih =>
    intro k i hk hb
    simp only [List.length_cons] at hk hb ⊢
    obtain ⟨k, rfl⟩ : ∃ m, k = m + 1 := ⟨k - 1, by omega⟩
    have e1 : wrap64 ((i : Int) + 1) = ((i + 1 : Nat) : Int) := by rw [wrap_id (by omega) (by omega)]; omega
    have e2 : wrap64 (m + (i : Int) + 1) = m + ((i + 1 : Nat) : Int) := by rw [wrap_id (by omega) (by omega)]; omega
    have e3 : (upto m i ++ y :: ys).set ((i : Int)).toNat (m + (i : Int)) = upto m (i + 1) ++ ys := by
      rw [Int.toNat_natCast, List.set_append_right _ _ (by rw [upto_len]; exact Nat.le_refl _), upto_len, Nat.sub_self]
      simp [upto, List.range_succ]
    simp only [laws_markIntS.l0]
    rw [if_pos (by simp [upto_len]; omega), if_pos (by omega), e3, e1, e2, ih k (i + 1) (by omega) (by omega), show i + (ys.length + 1) = i + 1 + ys.length by omega]
theorem mark_eq (k : Nat) (l : List Int) (m : Int) (h0 : 0 ≤ m) (h1 : m ≤ 1000000000) (hl : l.length ≤ 1000000000) (hk : l.length < k) :
    laws_markIntS.f k l m = some (m + (l.length : Int), upto m l.length) := by
  have := mark_l0 m h0 h1 l k 0 hk (by omega)
  simpa [upto, laws_markIntS.f] using this
theorem held_l0 (m : Int) (n : Nat) (h0 : 0 ≤ m) (h1 : m ≤ 1000000000) (hn : n ≤ 1000000000) (d : Nat) : ∀ (k i : Nat), i + d = n → d < k →
    laws_heldIntS.l0 k (upto m n) (m + i) i = some (m + (n : Int)) := by
  induction d with
  | zero =>
    intro k i hi hk
    obtain ⟨k, rfl⟩ : ∃ m, k = m + 1 := ⟨k - 1, by omega⟩
    simp only [laws_heldIntS.l0]
    rw [if_neg (by simp [upto_len]; omega), show i = n by omega]
  | succ d ih =>
    intro k i hi hk
    obtain ⟨k, rfl⟩ : ∃ m, k = m + 1 := ⟨k - 1, by omega⟩
    have e1 : wrap64 ((i : Int) + 1) = ((i + 1 : Nat) : Int) := by rw [wrap_id (by omega) (by omega)]; omega
    have e2 : wrap64 (m + (i : Int) + 1) = m + ((i + 1 : Nat) : Int) := by rw [wrap_id (by omega) (by omega)]; omega
    have e3 : rd (upto m n) (i : Int) = m + (i : Int) := by
      unfold rd upto
      rw [Int.toNat_natCast, List.getD_eq_getElem?_getD, List.getElem?_map, List.getElem?_range (by omega)]
      rfl
    simp only [laws_heldIntS.l0]
    rw [if_pos (by simp [upto_len]; omega), if_pos (by omega), e3, if_pos rfl, e1, e2, ih k (i + 1) (by omega) (by omega)]
theorem held_eq (k n : Nat) (m : Int) (h0 : 0 ≤ m) (h1 : m ≤ 1000000000) (hn : n ≤ 1000000000) (hk : n < k) : laws_heldIntS.f k (upto m n) m = some (m + (n : Int)) := by
  have := held_l0 m n h0 h1 hn n k 0 (by omega) hk
  simpa [laws_heldIntS.f] using this

theorem sq_succ (b : Int) : (b + 1) * (b + 1) = b * b + 2 * b + 1 := by
  rw [Int.add_mul, Int.mul_add]
  omega
theorem sq_le {a b : Int} (ha : 0 ≤ a) (hb : 0 ≤ b) (h : a * a ≤ b * b) : a ≤ b := by
  rcases Int.lt_or_le b a with c | c
  · exfalso
    have h1 : (b + 1) * (b + 1) ≤ a * a := Int.mul_le_mul (by omega) (by omega) (by omega) (by omega)
    rw [sq_succ] at h1
    omega
  · exact c
theorem sq_lt {a b : Int} (ha : 0 ≤ a) (hb : 0 ≤ b) (h : a * a < b * b) : a < b := by
  rcases Int.lt_or_le a b with c | c
  · exact c
  · exfalso
    have h1 : b * b ≤ a * a := Int.mul_le_mul c c hb ha
    omega
theorem sq_mono {a b : Int} (ha : 0 ≤ a) (h : a ≤ b) : a * a ≤ b * b := Int.mul_le_mul h h ha (by omega)

/-- The program's root: the least whole number whose square is not less. -/
structure RootUp (n r : Int) : Prop where
  nn : 0 ≤ r
  le : r ≤ 2097152
  up : n ≤ r * r
  lo : r = 0 ∨ (r - 1) * (r - 1) < n
theorem rootOf_l1 (n : Int) (hn : 0 ≤ n ∧ n ≤ 1099511627776) (d : Nat) : ∀ (k : Nat) (lo hi : Int), 0 ≤ lo → lo ≤ hi → hi ≤ 2097152 → hi - lo ≤ d → d < k → n ≤ hi * hi → (lo = 0 ∨ (lo - 1) * (lo - 1) < n) →
    ∃ r, impl_rootOf.l1 k n lo hi = some (r, (wrap64 (r * r) == n)) ∧ RootUp n r := by
  induction d with
  | zero =>
    intro k lo hi h0 h1 h2 hd hk hu hl
    obtain ⟨k, rfl⟩ : ∃ m, k = m + 1 := ⟨k - 1, by omega⟩
    have e : lo = hi := by omega
    subst e
    refine ⟨lo, ?_, ⟨h0, h2, hu, hl⟩⟩
    simp only [impl_rootOf.l1]
    rw [if_neg (by omega)]
  | succ d ih =>
    intro k lo hi h0 h1 h2 hd hk hu hl
    obtain ⟨k, rfl⟩ : ∃ m, k = m + 1 := ⟨k - 1, by omega⟩
    simp only [impl_rootOf.l1]
    by_cases hlt : lo < hi
    · have w1 : wrap64 (lo + hi) = lo + hi := wrap_id (by omega) (by omega)
      have w2 : wrap64 ((lo + hi).tdiv 2) = (lo + hi) / 2 := by rw [Int.tdiv_eq_ediv_of_nonneg (by omega)]; exact wrap_id (by omega) (by omega)
      obtain ⟨m, hm⟩ : ∃ m, m = (lo + hi) / 2 := ⟨_, rfl⟩
      have mm : m * m ≤ 2097152 * 2097152 := Int.mul_le_mul (by omega) (by omega) (by omega) (by omega)
      have mn : 0 ≤ m * m := Int.mul_nonneg (by omega) (by omega)
      rw [if_pos hlt, w1, w2, ← hm, wrap_id (by omega) (by omega), wrap_id (n := m + 1) (by omega) (by omega)]
      by_cases c : m * m < n
      · rw [if_pos c]
        exact ih k (m + 1) hi (by omega) (by omega) h2 (by omega) (by omega) hu (.inr (by rw [show m + 1 - 1 = m by omega]; exact c))
      · rw [if_neg c]
        exact ih k lo m h0 (by omega) (by omega) (by omega) (by omega) (by omega) hl
    · have e : lo = hi := by omega
      subst e
      refine ⟨lo, ?_, ⟨h0, h2, hu, hl⟩⟩
      rw [if_neg (by omega)]
theorem rootOf_l0 (n : Int) (hn : 0 ≤ n ∧ n ≤ 1099511627776) (d : Nat) : ∀ (k : Nat) (hi : Int), 1 ≤ hi → hi ≤ 2097152 → 2097152 - hi ≤ d → d + 2097153 < k →
    ∃ r, impl_rootOf.l0 k n 0 hi = some (r, (wrap64 (r * r) == n)) ∧ RootUp n r := by
  induction d using Nat.strongRecOn with
  | ind d ih =>
    intro k hi h1 h2 hd hk
    obtain ⟨k, rfl⟩ : ∃ m, k = m + 1 := ⟨k - 1, by omega⟩
    have mm : hi * hi ≤ 2097152 * 2097152 := Int.mul_le_mul (by omega) (by omega) (by omega) (by omega)
    have mn : 0 ≤ hi * hi := Int.mul_nonneg (by omega) (by omega)
    simp only [impl_rootOf.l0]
    rw [wrap_id (n := hi * hi) (by omega) (by omega), wrap_id (n := hi * 2) (by omega) (by omega)]
    by_cases c : hi * hi < n
    · have hs : hi < 1048576 := sq_lt (by omega) (by omega) (by omega)
      rw [if_pos c]
      exact ih (2097152 - hi * 2).toNat (by omega) k (hi * 2) (by omega) (by omega) (by omega) (by omega)
    · rw [if_neg c]
      exact rootOf_l1 n hn hi.toNat k 0 hi (by omega) (by omega) h2 (by omega) (by omega) (by omega) (.inl rfl)
theorem rootOf_eq (k : Nat) (n : Int) (hn : 0 ≤ n ∧ n ≤ 1099511627776) (hk : 5000000 ≤ k) : ∃ r, impl_rootOf.f k n = some (r, (wrap64 (r * r) == n)) ∧ RootUp n r :=
  rootOf_l0 n hn 2097152 k 1 (by omega) (by omega) (by omega) (by omega)

/-- The reference's root: the greatest whole number whose square is not greater. -/
structure RootDown (n r : Int) : Prop where
  nn : 0 ≤ r
  le : r ≤ 2147483648
  lo : r * r ≤ n
  up : n < (r + 1) * (r + 1)
theorem clRoot_l0 (n : Int) (hn : 0 ≤ n ∧ n ≤ 1099511627776) (d : Nat) : ∀ (k : Nat) (lo hi : Int), 0 ≤ lo → lo < hi → hi ≤ 2147483648 → hi - lo ≤ d → d < k → n < hi * hi → lo * lo ≤ n →
    ∃ r, spec_clRoot.l0 k n lo hi = some r ∧ RootDown n r := by
  induction d with
  | zero => intro k lo hi h0 h1 h2 hd; omega
  | succ d ih =>
    intro k lo hi h0 h1 h2 hd hk hu hl
    obtain ⟨k, rfl⟩ : ∃ m, k = m + 1 := ⟨k - 1, by omega⟩
    simp only [spec_clRoot.l0]
    rw [wrap_id (n := hi - 1) (by omega) (by omega)]
    by_cases hlt : lo < hi - 1
    · have w1 : wrap64 (lo + hi) = lo + hi := wrap_id (by omega) (by omega)
      have w2 : wrap64 ((lo + hi).tdiv 2) = (lo + hi) / 2 := by rw [Int.tdiv_eq_ediv_of_nonneg (by omega)]; exact wrap_id (by omega) (by omega)
      obtain ⟨m, hm⟩ : ∃ m, m = (lo + hi) / 2 := ⟨_, rfl⟩
      have mm : m * m ≤ 2147483648 * 2147483648 := Int.mul_le_mul (by omega) (by omega) (by omega) (by omega)
      have mn : 0 ≤ m * m := Int.mul_nonneg (by omega) (by omega)
      rw [if_pos hlt, w1, w2, ← hm, wrap_id (by omega) (by omega)]
      by_cases c : m * m ≤ n
      · rw [if_pos c]
        exact ih k m hi (by omega) (by omega) h2 (by omega) (by omega) hu c
      · rw [if_neg c]
        exact ih k lo m h0 (by omega) (by omega) (by omega) (by omega) (by omega) hl
    · have e : hi = lo + 1 := by omega
      subst e
      exact ⟨lo, by rw [if_neg (by omega)], ⟨h0, by omega, hl, hu⟩⟩
theorem clRoot_eq (k : Nat) (n : Int) (hn : 0 ≤ n ∧ n ≤ 1099511627776) (hk : 3000000000 ≤ k) : ∃ r, spec_clRoot.f k n = some r ∧ RootDown n r :=
  clRoot_l0 n hn 2147483648 k 0 2147483648 (by omega) (by omega) (by omega) (by omega) (by omega) (by omega) (by omega)

/-- Both roots tell alike whether a number is a square. -/
theorem roots_same {n r s : Int} (hu : RootUp n r) (hd : RootDown n s) : (r * r = n ↔ s * s = n) ∧ (r * r = n → r = s) := by
  have key : r * r = n → r = s := by
    intro h
    have h1 : s ≤ r := sq_le hd.nn hu.nn (by rw [h]; exact hd.lo)
    have h2 : r < s + 1 := sq_lt hu.nn (by have := hd.nn; omega) (by rw [h]; exact hd.up)
    omega
  refine ⟨⟨fun h => by rw [← key h]; exact h, fun h => ?_⟩, key⟩
  have h1 : s ≤ r := sq_le hd.nn hu.nn (by rw [h]; exact hu.up)
  have h2 : r = s := by
    rcases hu.lo with h0 | h0
    · have := hd.nn; omega
    · rcases Int.lt_or_le s r with c | c
      · exfalso
        have := sq_mono hd.nn (show s ≤ r - 1 by omega)
        omega
      · omega
  rw [h2]
  exact h
theorem rootUp_sq {n r : Int} (h : RootUp n r) : wrap64 (r * r) = r * r := by
  have mm : r * r ≤ 2097152 * 2097152 := Int.mul_le_mul h.le h.le h.nn (by omega)
  have mn : 0 ≤ r * r := Int.mul_nonneg h.nn h.nn
  exact wrap_id (by omega) (by omega)
theorem rootDown_sq {n r : Int} (h : RootDown n r) : wrap64 (r * r) = r * r := by
  have mm : r * r ≤ 2147483648 * 2147483648 := Int.mul_le_mul h.le h.le h.nn (by omega)
  have mn : 0 ≤ r * r := Int.mul_nonneg h.nn h.nn
  exact wrap_id (by omega) (by omega)
theorem whole_same {n r s : Int} (hu : RootUp n r) (hd : RootDown n s) : (wrap64 (r * r) == n) = decide (wrap64 (s * s) = n) := by
  rw [rootUp_sq hu, rootDown_sq hd, Bool.eq_iff_iff]
  simp only [beq_iff_eq, decide_eq_true_eq]
  exact (roots_same hu hd).1

theorem inCd_t {x y a b h t : Int} (q : inCd x y a b h 1 = true) (t0 : 1 ≤ t) (t1 : t ≤ 50) : inCd x y a b h t = true := by
  simp only [inCd, Bool.and_eq_true, decide_eq_true_eq] at q ⊢
  exact ⟨q.1, q.2.1, t0, t1⟩
theorem square_range {x y a b h t : Int} (q : inCd x y a b h t = true) {r s : Int} (h1 : impl_riseIn.f x y a b h t true = some r) (h2 : impl_square.f (wrap64 (x - a)) r = some s) : 0 ≤ s ∧ s ≤ 1099511627776 := by
  have z := inCd_of q
  have rr := rise_range q r h1
  have w : wrap64 (x - a) = x - a := wrap_id (by omega) (by omega)
  simp only [impl_square.f, w, Option.some.injEq] at h2
  have m1 : ((x - a) * (x - a)).natAbs ≤ 2000 * 2000 := by rw [Int.natAbs_mul]; exact Nat.mul_le_mul (by omega) (by omega)
  have m2 : 0 ≤ (x - a) * (x - a) := by
    rcases Int.le_total 0 (x - a) with c | c
    · exact Int.mul_nonneg c c
    · exact Int.mul_nonneg_of_nonpos_of_nonpos c c
  have m3 : r * r ≤ 52000 * 52000 := Int.mul_le_mul rr.2 rr.2 rr.1 (by omega)
  have m4 : 0 ≤ r * r := Int.mul_nonneg rr.1 rr.1
  rw [wrap_id (n := (x - a) * (x - a)) (by omega) (by omega), wrap_id (n := r * r) (by omega) (by omega), wrap_id (by omega) (by omega)] at h2
  omega
/-- Both lists, touch by touch. -/
theorem ways {x y a b h : Int} (q : inCd x y a b h 1 = true) (d : Nat) : ∀ (k k' : Nat) (t : Int) (l : List Int), 1 ≤ t → t ≤ 51 → 51 - t = d → 3000000000 + d < k → 3000000000 + d < k' → l.length ≤ 60 - d →
    ∃ r : List Int, spec_WholeWays.l0 k h l t x y a b = some (r, true) ∧ impl_WholeWays.l0 k' h l t x y a b = some (r, true) ∧ r.length ≤ 60 := by
  induction d with
  | zero =>
    intro k k' t l t0 t1 ht hk hk' hl
    obtain ⟨k, rfl⟩ : ∃ m, k = m + 1 := ⟨k - 1, by omega⟩
    obtain ⟨k', rfl⟩ : ∃ m, k' = m + 1 := ⟨k' - 1, by omega⟩
    refine ⟨l, ?_, ?_, by omega⟩
    · simp only [spec_WholeWays.l0]; rw [if_neg (by omega)]
    · simp only [impl_WholeWays.l0]; rw [if_neg (by omega)]
  | succ d ih =>
    intro k k' t l t0 t1 ht hk hk' hl
    obtain ⟨k, rfl⟩ : ∃ m, k = m + 1 := ⟨k - 1, by omega⟩
    obtain ⟨k', rfl⟩ : ∃ m, k' = m + 1 := ⟨k' - 1, by omega⟩
    obtain ⟨r, s, h1, h2, h3⟩ := corridorSquare_eq x y a b h t true
    have sr := square_range (inCd_t q t0 (by omega)) h1 h2
    obtain ⟨p, hp, pu⟩ := rootOf_eq k' s sr (by omega)
    obtain ⟨o, ho, pd⟩ := clRoot_eq k s sr (by omega)
    have hw := whole_same pu pd
    have w : wrap64 (t + 1) = t + 1 := wrap_id (by omega) (by omega)
    simp only [spec_WholeWays.l0, impl_WholeWays.l0]
    have t50 : t ≤ 50 := by omega
    have ll : l.length < 17592186044416 := by omega
    simp only [if_pos t50, h1, h3, Option.bind_some, h2, ho, hp, hw, w, if_pos ll]
    by_cases c : wrap64 (o * o) = s
    · have c' : decide (wrap64 (o * o) = s) = true := by simp [c]
      simp only [if_pos c, if_pos c']
      exact ih k k' (t + 1) (l ++ [t]) (by omega) (by omega) (by omega) (by omega) (by omega) (by simp; omega)
    · have c' : ¬ decide (wrap64 (o * o) = s) = true := by simp [c]
      simp only [if_neg c, if_neg c']
      exact ih k k' (t + 1) l (by omega) (by omega) (by omega) (by omega) (by omega) (by omega)
theorem main : laws_FnExactWholeWays.Pure := by
  intro x y a b h _ _ _ _ _
  obtain ⟨k, hk⟩ : ∃ k : Nat, 4000000000 ≤ k := ⟨4000000000, Nat.le_refl _⟩
  refine ⟨k + 2, ?_⟩
  obtain ⟨l, b', hs, hi, hl⟩ : ∃ l b', (∀ j : Nat, 4000000000 ≤ j → spec_WholeWays.f j x y a b h = some (l, b')) ∧ (∀ j : Nat, 4000000000 ≤ j → impl_WholeWays.f j x y a b h = some (l, b')) ∧ l.length ≤ 60 := by
    cases q : inCd x y a b h 1 with
    | false => exact ⟨[], false, (fun k _ => by simp [spec_WholeWays.f, lwCorridor_eq, q]), (fun k _ => by simp [impl_WholeWays.f, areInCorridor_eq, q]), by simp⟩
    | true =>
      obtain ⟨l, _, _, hl⟩ := ways q 50 4000000000 4000000000 1 [] (by omega) (by omega) (by omega) (by omega) (by omega) (by simp)
      have both := fun (j : Nat) (hj : 4000000000 ≤ j) => ways q 50 j 4000000000 1 [] (by omega) (by omega) (by omega) (by omega) (by omega) (by simp)
      have both' := fun (j : Nat) (hj : 4000000000 ≤ j) => ways q 50 4000000000 j 1 [] (by omega) (by omega) (by omega) (by omega) (by omega) (by simp)
      refine ⟨l, true, fun j hj => ?_, fun j hj => ?_, hl⟩
      · obtain ⟨r, h1, h2, _⟩ := both j hj
        have e : r = l := by simp_all
        simp only [spec_WholeWays.f, lwCorridor_eq, q, Option.bind_some, if_true]
        rw [h1, e]
      · obtain ⟨r, h1, h2, _⟩ := both' j hj
        have e : r = l := by simp_all
        simp only [impl_WholeWays.f, areInCorridor_eq, q, Option.bind_some, if_true]
        rw [h2, e]
  simp only [laws_FnExactWholeWays.f, laws_toSpot.f, Option.bind_some, hs (k + 2) (by omega), hi (k + 2) (by omega)]
  rw [eqIntS_same (k + 2) l (by omega) (by omega)]
  simp only [Option.bind_some, if_true, bne_self_eq_false, laws_FnExactWholeWays.j0, Bool.false_eq_true, if_false]
  rw [mark_eq (k + 1) l 1 (by omega) (by omega) (by omega) (by omega)]
  simp only [Option.bind_some]
  rw [held_eq (k + 1) l.length 1 (by omega) (by omega) (by omega) (by omega)]
  simp only [Option.bind_some, laws_toSpot.f, hi (k + 1) (by omega)]
  rw [if_neg (by omega), if_pos trivial, eqIntS_same (k + 1) l (by omega) (by omega)]
  simp only [Option.bind_some, if_true, bne_self_eq_false, laws_FnExactWholeWays.j1, Bool.false_eq_true, if_false]
  rw [held_eq k l.length 1 (by omega) (by omega) (by omega) (by omega)]
  simp only [Option.bind_some]
  rw [if_neg (by omega)]
  rfl
end LFnExactWholeWays

theorem FnExactWholeWays : laws_FnExactWholeWays.Pure := LFnExactWholeWays.main

end Go.Proofs.Ytnapdbffnlhibaa.Pure
