/- For every two texts of bytes the law of the whole ladders answers true; no condition beyond the texts' kinds. -/
import Derived.Test.YtcfknhmdhglmfaaGreatDoorPFnLaddersWholex12
namespace Go.Proofs.YtcfknhmdhglmfaaGreatDoor.Pure
open Go.RowKit Go.Proofs.YtcfknhmdhglmfaaGreatDoor.PFnLaddersWhole Go.Proofs.YtcfknhmdhglmfaaGreatDoorW.PrintWords Go.Proofs.YtcfknhmdhglmfaaGreatDoorW.PrintLast
set_option linter.unusedVariables false
set_option linter.unusedSimpArgs false

namespace LFnLaddersWhole
theorem within_eq (a b c : Int) : impl_within.f a b c = some (decide (b ≤ a ∧ a ≤ c)) := by
  by_cases h1 : b ≤ a <;> by_cases h2 : a ≤ c <;> simp [impl_within.f, h1, h2]

theorem l1In_eq (a b c : Int) : spec_l1In.f a b c = some (decide (b ≤ a ∧ a ≤ c)) := by
  by_cases h1 : b ≤ a <;> by_cases h2 : a ≤ c <;> simp [spec_l1In.f, h1, h2]

theorem wrap_id {n : Int} (h0 : -9223372036854775808 ≤ n) (h1 : n ≤ 9223372036854775807) : wrap64 n = n := by
  unfold wrap64
  omega

theorem tdiv_le (a b : Int) : (a.tdiv b).natAbs ≤ a.natAbs := by
  rw [Int.natAbs_tdiv]
  exact Nat.div_le_self _ _
theorem wrap_tdiv {a b : Int} (h : a.natAbs ≤ 4611686018427387904) : wrap64 (a.tdiv b) = a.tdiv b := by
  have := tdiv_le a b
  exact wrap_id (by omega) (by omega)

theorem gcd_step (a b : Int) : Nat.gcd b.natAbs (a.tmod b).natAbs = Nat.gcd a.natAbs b.natAbs := by
  rw [Int.natAbs_tmod, Nat.gcd_comm a.natAbs, Nat.gcd_rec b.natAbs a.natAbs, Nat.gcd_comm]
theorem gcd_l0 (d : Nat) : ∀ (k : Nat) (a b : Int), b.natAbs ≤ d → d < k → a.natAbs ≤ 4611686018427387904 → b.natAbs ≤ 4611686018427387904 →
    impl_gcd.l0 k a b = some ((Nat.gcd a.natAbs b.natAbs : Nat) : Int) := by
  induction d with
  | zero =>
    intro k a b hb hk ha hb'
    obtain ⟨k, rfl⟩ : ∃ m, k = m + 1 := ⟨k - 1, by omega⟩
    have h0 : b = 0 := by omega
    simp only [impl_gcd.l0]
    rw [if_pos h0, wrap_id (by omega) (by omega)]
    subst h0
    simp only [Int.natAbs_zero, Nat.gcd_zero_right, Option.some.injEq]
    unfold mx
    split <;> omega
  | succ d ih =>
    intro k a b hb hk ha hb'
    obtain ⟨k, rfl⟩ : ∃ m, k = m + 1 := ⟨k - 1, by omega⟩
    simp only [impl_gcd.l0]
    by_cases h0 : b = 0
    · subst h0
      rw [if_pos rfl, wrap_id (by omega) (by omega)]
      simp only [Int.natAbs_zero, Nat.gcd_zero_right, Option.some.injEq]
      unfold mx
      split <;> omega
    · have hm : (a.tmod b).natAbs < b.natAbs := by
        rw [Int.natAbs_tmod]
        exact Nat.mod_lt _ (by omega)
      rw [if_neg h0, ih k b (a.tmod b) (by omega) (by omega) hb' (by omega), gcd_step]
theorem gcd_eq (k : Nat) (a b : Int) (hk : b.natAbs < k) (ha : a.natAbs ≤ 4611686018427387904) (hb : b.natAbs ≤ 4611686018427387904) :
    impl_gcd.f k a b = some ((Nat.gcd a.natAbs b.natAbs : Nat) : Int) := gcd_l0 b.natAbs k a b (Nat.le_refl _) hk ha hb

theorem gcd_pos {a b : Int} (hb : b ≠ 0) : ((Nat.gcd a.natAbs b.natAbs : Nat) : Int) ≠ 0 := by
  have : 0 < Nat.gcd a.natAbs b.natAbs := Nat.gcd_pos_of_pos_right _ (by omega)
  omega
theorem fraction_eq (k : Nat) (a b : Int) (hk : b.natAbs < k) (h0 : b ≠ 0) (ha : a.natAbs ≤ 4611686018427387904) (hb : b.natAbs ≤ 4611686018427387904) :
    impl_fraction.f k a b = some (a.tdiv (Nat.gcd a.natAbs b.natAbs : Nat), b.tdiv (Nat.gcd a.natAbs b.natAbs : Nat), true) := by
  unfold impl_fraction.f
  rw [gcd_eq k a b hk ha hb]
  simp only [Option.bind_some]
  rw [if_neg (gcd_pos h0), wrap_tdiv ha, wrap_tdiv hb]

theorem sq_succ (b : Int) : (b + 1) * (b + 1) = b * b + 2 * b + 1 := by
  rw [Int.add_mul, Int.mul_add]
  omega
theorem sq_le {a b : Int} (ha : 0 ≤ a) (hb : 0 ≤ b) (h : a * a ≤ b * b) : a ≤ b := by
  rcases Int.lt_or_le b a with c | c
  · exfalso
    have h1 : (b + 1) * (b + 1) ≤ a * a := Int.mul_le_mul (by omega) (by omega) (by omega) (by omega)
    rw [sq_succ] at h1
    omega
  · exact c
theorem sq_lt {a b : Int} (ha : 0 ≤ a) (hb : 0 ≤ b) (h : a * a < b * b) : a < b := by
  rcases Int.lt_or_le a b with c | c
  · exact c
  · exfalso
    have h1 : b * b ≤ a * a := Int.mul_le_mul c c hb ha
    omega
theorem sq_mono {a b : Int} (ha : 0 ≤ a) (h : a ≤ b) : a * a ≤ b * b := Int.mul_le_mul h h ha (by omega)

/-- The program's root: the least whole number whose square is not less. -/
structure RootUp (n r : Int) : Prop where
  nn : 0 ≤ r
  le : r ≤ 2097152
  up : n ≤ r * r
  lo : r = 0 ∨ (r - 1) * (r - 1) < n
theorem rootOf_l1 (n : Int) (hn : 0 ≤ n ∧ n ≤ 1099511627776) (d : Nat) : ∀ (k : Nat) (lo hi : Int), 0 ≤ lo → lo ≤ hi → hi ≤ 2097152 → hi - lo ≤ d → d < k → n ≤ hi * hi → (lo = 0 ∨ (lo - 1) * (lo - 1) < n) →
    ∃ r, impl_rootOf.l1 k n lo hi = some (r, (wrap64 (r * r) == n)) ∧ RootUp n r := by
  induction d with
  | zero =>
    intro k lo hi h0 h1 h2 hd hk hu hl
    obtain ⟨k, rfl⟩ : ∃ m, k = m + 1 := ⟨k - 1, by omega⟩
    have e : lo = hi := by omega
    subst e
    refine ⟨lo, ?_, ⟨h0, h2, hu, hl⟩⟩
    simp only [impl_rootOf.l1]
    rw [if_neg (by omega)]
  | succ d ih =>
    intro k lo hi h0 h1 h2 hd hk hu hl
    obtain ⟨k, rfl⟩ : ∃ m, k = m + 1 := ⟨k - 1, by omega⟩
    simp only [impl_rootOf.l1]
    by_cases hlt : lo < hi
    · have w1 : wrap64 (lo + hi) = lo + hi := wrap_id (by omega) (by omega)
      have w2 : wrap64 ((lo + hi).tdiv 2) = (lo + hi) / 2 := by rw [Int.tdiv_eq_ediv_of_nonneg (by omega)]; exact wrap_id (by omega) (by omega)
      obtain ⟨m, hm⟩ : ∃ m, m = (lo + hi) / 2 := ⟨_, rfl⟩
      have mm : m * m ≤ 2097152 * 2097152 := Int.mul_le_mul (by omega) (by omega) (by omega) (by omega)
      have mn : 0 ≤ m * m := Int.mul_nonneg (by omega) (by omega)
      rw [if_pos hlt, w1, w2, ← hm, wrap_id (by omega) (by omega), wrap_id (n := m + 1) (by omega) (by omega)]
      by_cases c : m * m < n
      · rw [if_pos c]
        exact ih k (m + 1) hi (by omega) (by omega) h2 (by omega) (by omega) hu (.inr (by rw [show m + 1 - 1 = m by omega]; exact c))
      · rw [if_neg c]
        exact ih k lo m h0 (by omega) (by omega) (by omega) (by omega) (by omega) hl
    · have e : lo = hi := by omega
      subst e
      refine ⟨lo, ?_, ⟨h0, h2, hu, hl⟩⟩
      rw [if_neg (by omega)]
theorem rootOf_l0 (n : Int) (hn : 0 ≤ n ∧ n ≤ 1099511627776) (d : Nat) : ∀ (k : Nat) (hi : Int), 1 ≤ hi → hi ≤ 2097152 → 2097152 - hi ≤ d → d + 2097153 < k →
    ∃ r, impl_rootOf.l0 k n 0 hi = some (r, (wrap64 (r * r) == n)) ∧ RootUp n r := by
  induction d using Nat.strongRecOn with
  | ind d ih =>
    intro k hi h1 h2 hd hk
    obtain ⟨k, rfl⟩ : ∃ m, k = m + 1 := ⟨k - 1, by omega⟩
    have mm : hi * hi ≤ 2097152 * 2097152 := Int.mul_le_mul (by omega) (by omega) (by omega) (by omega)
    have mn : 0 ≤ hi * hi := Int.mul_nonneg (by omega) (by omega)
    simp only [impl_rootOf.l0]
    rw [wrap_id (n := hi * hi) (by omega) (by omega), wrap_id (n := hi * 2) (by omega) (by omega)]
    by_cases c : hi * hi < n
    · have hs : hi < 1048576 := sq_lt (by omega) (by omega) (by omega)
      rw [if_pos c]
      exact ih (2097152 - hi * 2).toNat (by omega) k (hi * 2) (by omega) (by omega) (by omega) (by omega)
    · rw [if_neg c]
      exact rootOf_l1 n hn hi.toNat k 0 hi (by omega) (by omega) h2 (by omega) (by omega) (by omega) (.inl rfl)
theorem rootOf_eq (k : Nat) (n : Int) (hn : 0 ≤ n ∧ n ≤ 1099511627776) (hk : 5000000 ≤ k) : ∃ r, impl_rootOf.f k n = some (r, (wrap64 (r * r) == n)) ∧ RootUp n r :=
  rootOf_l0 n hn 2097152 k 1 (by omega) (by omega) (by omega) (by omega)

/-- The reference's root: the greatest whole number whose square is not greater. -/
structure RootDown (n r : Int) : Prop where
  nn : 0 ≤ r
  le : r ≤ 2147483648
  lo : r * r ≤ n
  up : n < (r + 1) * (r + 1)
theorem clRoot_l0 (n : Int) (hn : 0 ≤ n ∧ n ≤ 1099511627776) (d : Nat) : ∀ (k : Nat) (lo hi : Int), 0 ≤ lo → lo < hi → hi ≤ 2147483648 → hi - lo ≤ d → d < k → n < hi * hi → lo * lo ≤ n →
    ∃ r, spec_clRoot.l0 k n lo hi = some r ∧ RootDown n r := by
  induction d with
  | zero => intro k lo hi h0 h1 h2 hd; omega
  | succ d ih =>
    intro k lo hi h0 h1 h2 hd hk hu hl
    obtain ⟨k, rfl⟩ : ∃ m, k = m + 1 := ⟨k - 1, by omega⟩
    simp only [spec_clRoot.l0]
    rw [wrap_id (n := hi - 1) (by omega) (by omega)]
    by_cases hlt : lo < hi - 1
    · have w1 : wrap64 (lo + hi) = lo + hi := wrap_id (by omega) (by omega)
      have w2 : wrap64 ((lo + hi).tdiv 2) = (lo + hi) / 2 := by rw [Int.tdiv_eq_ediv_of_nonneg (by omega)]; exact wrap_id (by omega) (by omega)
      obtain ⟨m, hm⟩ : ∃ m, m = (lo + hi) / 2 := ⟨_, rfl⟩
      have mm : m * m ≤ 2147483648 * 2147483648 := Int.mul_le_mul (by omega) (by omega) (by omega) (by omega)
      have mn : 0 ≤ m * m := Int.mul_nonneg (by omega) (by omega)
      rw [if_pos hlt, w1, w2, ← hm, wrap_id (by omega) (by omega)]
      by_cases c : m * m ≤ n
      · rw [if_pos c]
        exact ih k m hi (by omega) (by omega) h2 (by omega) (by omega) hu c
      · rw [if_neg c]
        exact ih k lo m h0 (by omega) (by omega) (by omega) (by omega) (by omega) hl
    · have e : hi = lo + 1 := by omega
      subst e
      exact ⟨lo, by rw [if_neg (by omega)], ⟨h0, by omega, hl, hu⟩⟩
theorem clRoot_eq (k : Nat) (n : Int) (hn : 0 ≤ n ∧ n ≤ 1099511627776) (hk : 3000000000 ≤ k) : ∃ r, spec_clRoot.f k n = some r ∧ RootDown n r :=
  clRoot_l0 n hn 2147483648 k 0 2147483648 (by omega) (by omega) (by omega) (by omega) (by omega) (by omega) (by omega)

/-- Both roots tell alike whether a number is a square. -/
theorem roots_same {n r s : Int} (hu : RootUp n r) (hd : RootDown n s) : (r * r = n ↔ s * s = n) ∧ (r * r = n → r = s) := by
  have key : r * r = n → r = s := by
    intro h
    have h1 : s ≤ r := sq_le hd.nn hu.nn (by rw [h]; exact hd.lo)
    have h2 : r < s + 1 := sq_lt hu.nn (by have := hd.nn; omega) (by rw [h]; exact hd.up)
    omega
  refine ⟨⟨fun h => by rw [← key h]; exact h, fun h => ?_⟩, key⟩
  have h1 : s ≤ r := sq_le hd.nn hu.nn (by rw [h]; exact hu.up)
  have h2 : r = s := by
    rcases hu.lo with h0 | h0
    · have := hd.nn; omega
    · rcases Int.lt_or_le s r with c | c
      · exfalso
        have := sq_mono hd.nn (show s ≤ r - 1 by omega)
        omega
      · omega
  rw [h2]
  exact h
theorem rootUp_sq {n r : Int} (h : RootUp n r) : wrap64 (r * r) = r * r := by
  have mm : r * r ≤ 2097152 * 2097152 := Int.mul_le_mul h.le h.le h.nn (by omega)
  have mn : 0 ≤ r * r := Int.mul_nonneg h.nn h.nn
  exact wrap_id (by omega) (by omega)
theorem rootDown_sq {n r : Int} (h : RootDown n r) : wrap64 (r * r) = r * r := by
  have mm : r * r ≤ 2147483648 * 2147483648 := Int.mul_le_mul h.le h.le h.nn (by omega)
  have mn : 0 ≤ r * r := Int.mul_nonneg h.nn h.nn
  exact wrap_id (by omega) (by omega)
theorem whole_same {n r s : Int} (hu : RootUp n r) (hd : RootDown n s) : (wrap64 (r * r) == n) = decide (wrap64 (s * s) = n) := by
  rw [rootUp_sq hu, rootDown_sq hd, Bool.eq_iff_iff]
  simp only [beq_iff_eq, decide_eq_true_eq]
  exact (roots_same hu hd).1

theorem u64_lo (n : Int) : 0 ≤ IntKind.u64.wrap n ∧ IntKind.u64.wrap n < 18446744073709551616 := by rw [IntKind.wrap_u64]; omega
theorem mask8 (s : Int) (h0 : 0 ≤ s) (h1 : s < 18446744073709551616) : Go.bits .and .u64 (s / 1099511627776) 255 = s / 1099511627776 % 256 :=
  bits_mask .u64 24 (by decide) (fun n h0 h1 => by rw [IntKind.wrap_u64]; omega) 8 (by decide) _ (by omega) (by omega)
/-- Bytes, not too many. -/
def Bytes (l : List Int) : Prop := l.length ≤ 1048576 ∧ ∀ x ∈ l, 0 ≤ x ∧ x ≤ 255
theorem next_tot {l : List Int} (hl : Bytes l) {p s : Int} (h0 : 0 ≤ p) (h1 : p ≤ 1073741824) : ∃ x s', spec_l1Cur_next.f l p s = some (x, p + 1, s') ∧ 0 ≤ x ∧ x ≤ 255 := by
  have w : wrap64 (p + 1) = p + 1 := wrap_id (by omega) (by omega)
  unfold spec_l1Cur_next.f
  by_cases c : p < (l.length : Int)
  · rw [if_pos c, if_pos h0]
    have hm : 0 ≤ rd l p ∧ rd l p ≤ 255 := by
      have hlt : p.toNat < l.length := by omega
      have e : rd l p = l[p.toNat] := by
        show l.getD p.toNat 0 = _
        rw [List.getD_eq_getElem?_getD, List.getElem?_eq_getElem hlt]
        rfl
      rw [e]
      exact hl.2 _ (List.getElem_mem hlt)
    have wr : wrap64 (rd l p) = rd l p := wrap_id (by omega) (by omega)
    rw [w, wr, if_pos (by omega)]
    exact ⟨_, _, rfl, hm.1, hm.2⟩
  · rw [if_neg c, w]
    by_cases c2 : p + 1 ≤ (l.length : Int)
    · rw [if_pos c2]
      exact ⟨_, _, rfl, by omega, by omega⟩
    · rw [if_neg c2]
      have z := u64_lo (IntKind.u64.wrap (IntKind.u64.wrap (s * 6364136223846793005) + 0) + 1442695040888963407)
      refine ⟨_, _, rfl, ?_⟩
      rw [mask8 _ z.1 z.2, wrap_id (by omega) (by omega)]
      omega
theorem tmod_in {x n : Int} (hx : 0 ≤ x) (hn : 0 < n) : 0 ≤ Int.tmod x n ∧ Int.tmod x n < n := ⟨Int.tmod_nonneg _ hx, Int.tmod_lt_of_pos _ hn⟩
theorem pick_tot {l : List Int} (hl : Bytes l) {p s : Int} (n : Int) (h0 : 0 ≤ p) (h1 : p ≤ 1000000000) : ∃ x q s', spec_l1Cur_pick.f l p s n = some (x, q, s') ∧ 0 ≤ x ∧ (x < n ∨ x = 0) ∧ p ≤ q ∧ q ≤ p + 2 := by
  unfold spec_l1Cur_pick.f
  by_cases c : n ≤ 1
  · rw [if_pos c]
    exact ⟨0, p, s, rfl, by omega, .inr rfl, by omega, by omega⟩
  rw [if_neg c]
  obtain ⟨x, s1, e1, x0, x1⟩ := next_tot hl (p := p) (s := s) h0 (by omega)
  rw [e1]
  simp only [Option.bind_some]
  by_cases c2 : n > 200
  · rw [if_pos c2]
    obtain ⟨y, s2, e2, y0, y1⟩ := next_tot hl (p := p + 1) (s := s1) (by omega) (by omega)
    rw [e2]
    simp only [Option.bind_some]
    rw [if_neg (by omega), wrap_id (n := x * 256) (by omega) (by omega), wrap_id (n := x * 256 + y) (by omega) (by omega)]
    have z := tmod_in (x := x * 256 + y) (n := n) (by omega) (by omega)
    exact ⟨_, _, _, rfl, z.1, .inl z.2, by omega, by omega⟩
  · rw [if_neg c2, if_neg (by omega)]
    have z := tmod_in (x := x) (n := n) (by omega) (by omega)
    exact ⟨_, _, _, rfl, z.1, .inl z.2, by omega, by omega⟩
theorem one_tot {l : List Int} (hl : Bytes l) {p s : Int} (n : Int) (h0 : 0 ≤ p) (h1 : p ≤ 1000000000) : ∃ b q s', spec_l1Cur_one.f l p s n = some (b, q, s') ∧ p ≤ q ∧ q ≤ p + 2 := by
  obtain ⟨x, q, s', e, _, _, a, b⟩ := pick_tot hl (s := s) n h0 h1
  exact ⟨_, q, s', by unfold spec_l1Cur_one.f; rw [e]; rfl, a, b⟩
theorem among_tot {l : List Int} (hl : Bytes l) {p s : Int} (m : List Int) (hm : 0 < m.length) (h0 : 0 ≤ p) (h1 : p ≤ 1000000000) : ∃ x q s', spec_l1Cur_among.f l p s m = some (x, q, s') ∧ p ≤ q ∧ q ≤ p + 2 := by
  obtain ⟨x, q, s', e, x0, x1, a, b⟩ := pick_tot hl (s := s) (m.length : Int) h0 h1
  refine ⟨rd m x, q, s', ?_, a, b⟩
  unfold spec_l1Cur_among.f
  rw [e]
  simp only [Option.bind_some]
  rw [if_pos x0, if_pos (by omega)]

/-- Ladders. -/
def lad (x y z : Int) : Bool := decide (1 ≤ x ∧ x ≤ 1000) && (decide (1 ≤ y ∧ y ≤ 1000) && decide (1 ≤ z ∧ z ≤ 1000))
theorem lad_of {x y z : Int} (h : lad x y z = true) : (1 ≤ x ∧ x ≤ 1000) ∧ (1 ≤ y ∧ y ≤ 1000) ∧ 1 ≤ z ∧ z ≤ 1000 := by
  simp only [lad, Bool.and_eq_true, decide_eq_true_eq] at h
  exact ⟨h.1, h.2.1, h.2.2⟩
theorem lad_mk {x y z : Int} (h1 : 1 ≤ x ∧ x ≤ 1000) (h2 : 1 ≤ y ∧ y ≤ 1000) (h3 : 1 ≤ z ∧ z ≤ 1000) : lad x y z = true := by
  simp only [lad, Bool.and_eq_true, decide_eq_true_eq]
  exact ⟨h1, h2, h3⟩
theorem isWide_eq (x : Int) : impl_isWide.f x = some (decide (1 ≤ x ∧ x ≤ 1000)) := by
  simp only [impl_isWide.f, within_eq, Option.bind_some]
theorem AreLadders_eq (x y z : Int) : impl_AreLadders.f x y z = some (lad x y z) := by
  simp only [impl_AreLadders.f, isWide_eq, Option.bind_some, lad]
  by_cases h1 : 1 ≤ x ∧ x ≤ 1000 <;> by_cases h2 : 1 ≤ y ∧ y ≤ 1000 <;> simp [h1, h2]
theorem clGood_eq (x y z : Int) : spec_clGood.f x y z = some (lad x y z) := by
  simp only [spec_clGood.f, l1In_eq, Option.bind_some, lad]
  by_cases h1 : 1 ≤ x ∧ x ≤ 1000 <;> by_cases h2 : 1 ≤ y ∧ y ≤ 1000 <;> simp [h1, h2]

/-- A fraction in lowest terms: numerator n, denominator d of a / b. -/
structure Low (a b n d : Int) : Prop where
  num : n * b = a * d
  n0 : 0 ≤ n
  nle : n ≤ a
  d0 : 1 ≤ d
  dle : d ≤ b
  one : Nat.gcd n.natAbs d.natAbs = 1
  np : 1 ≤ a → 1 ≤ n
  div : ∃ g : Int, 1 ≤ g ∧ a = n * g ∧ b = d * g ∧ g = ((Nat.gcd a.natAbs b.natAbs : Nat) : Int)
/-- The fraction of two numbers. -/
def fn (a b : Int) : Int := a.tdiv (Nat.gcd a.natAbs b.natAbs : Nat)
def fd (a b : Int) : Int := b.tdiv (Nat.gcd a.natAbs b.natAbs : Nat)
theorem low_of {a b : Int} (ha : 0 ≤ a) (hb : 1 ≤ b) : Low a b (fn a b) (fd a b) := by
  obtain ⟨x, rfl⟩ := Int.eq_ofNat_of_zero_le ha
  obtain ⟨y, rfl⟩ := Int.eq_ofNat_of_zero_le (show 0 ≤ b by omega)
  have hy : 0 < y := by omega
  unfold fn fd
  simp only [Int.natAbs_natCast]
  generalize hg : Nat.gcd x y = g
  have g0 : 0 < g := hg ▸ Nat.gcd_pos_of_pos_right _ hy
  obtain ⟨p, hp⟩ : g ∣ x := hg ▸ Nat.gcd_dvd_left _ _
  obtain ⟨q, hq⟩ : g ∣ y := hg ▸ Nat.gcd_dvd_right _ _
  have t1 : ((x : Nat) : Int).tdiv (g : Nat) = (p : Int) := by
    rw [← Int.ofNat_tdiv, hp, Nat.mul_div_cancel_left _ g0]
  have t2 : ((y : Nat) : Int).tdiv (g : Nat) = (q : Int) := by
    rw [← Int.ofNat_tdiv, hq, Nat.mul_div_cancel_left _ g0]
  rw [t1, t2]
  have hc : Nat.gcd p q = 1 := by
    have : Nat.gcd (g * p) (g * q) = g * 1 := by rw [← hp, ← hq, hg, Nat.mul_one]
    rw [Nat.gcd_mul_left] at this
    exact Nat.eq_of_mul_eq_mul_left g0 this
  have q0 : 0 < q := by
    rcases Nat.eq_zero_or_pos q with h | h
    · rw [h, Nat.mul_zero] at hq
      omega
    · exact h
  have px : p ≤ x := by rw [hp]; exact Nat.le_mul_of_pos_left _ g0
  have qy : q ≤ y := by rw [hq]; exact Nat.le_mul_of_pos_left _ g0
  refine ⟨?_, by omega, by omega, by omega, by omega, hc, ?_, (g : Int), by omega, ?_, ?_, ?_⟩
  · rw [hp, hq]
    push_cast
    rw [Int.mul_comm (g : Int) p, Int.mul_comm (g : Int) q, ← Int.mul_assoc, Int.mul_right_comm]
  · intro h
    rcases Nat.eq_zero_or_pos p with h' | h'
    · rw [h', Nat.mul_zero] at hp
      omega
    · omega
  · rw [hp]
    push_cast
    exact Int.mul_comm _ _
  · rw [hq]
    push_cast
    exact Int.mul_comm _ _
  · simp only [Int.natAbs_natCast]
    rw [hg]
theorem fraction_low (k : Nat) (a b : Int) (hk : b.natAbs < k) (ha : 0 ≤ a) (hb : 1 ≤ b) (ha' : a ≤ 4611686018427387904) (hb' : b ≤ 4611686018427387904) :
    impl_fraction.f k a b = some (fn a b, fd a b, true) := fraction_eq k a b hk (by omega) (by omega) (by omega)
theorem low_pos {a b n d : Int} (h : Low a b n d) (ha : 1 ≤ a) : 1 ≤ n := h.np ha
/-- Fractions of one whole are in the order of their numerators. -/
theorem low_le {a b c n m d e : Int} (h : Low a c n d) (g : Low b c m e) (hab : a ≤ b) (hc : 1 ≤ c) : n * e ≤ m * d := by
  have h1 := h.num
  have g1 := g.num
  have hd := h.d0
  have he := g.d0
  have key : (m * d - n * e) * c = (b - a) * (d * e) := by grind
  have nn : 0 ≤ (b - a) * (d * e) := Int.mul_nonneg (by omega) (Int.mul_nonneg (by omega) (by omega))
  rcases Int.lt_or_le (m * d) (n * e) with hlt | hle
  · have : (m * d - n * e) * c < 0 := Int.mul_neg_of_neg_of_pos (by omega) (by omega)
    omega
  · exact hle
theorem low_whole {m r n d : Int} (hm : 1 ≤ m) (hr : 0 ≤ r) (h : Low (r * m) m n d) : n = r ∧ d = 1 := by
  have h1 := h.num
  have hd := h.d0
  have hn := h.n0
  have e : n = r * d := by
    have : n * m = (r * d) * m := by grind
    exact Int.eq_of_mul_eq_mul_right (by omega) this
  have hg := h.one
  have : d.natAbs ∣ n.natAbs := by
    rw [e, Int.natAbs_mul]
    exact Nat.dvd_mul_left _ _
  have h2 : Nat.gcd n.natAbs d.natAbs = d.natAbs := Nat.gcd_eq_right this
  rw [hg] at h2
  have d1 : d = 1 := by omega
  refine ⟨?_, d1⟩
  rw [e, d1, Int.mul_one]

def dg4 (i : Nat) : List UInt8 := if i < 10 then [UInt8.ofNat (48 + i)] else if i < 100 then [UInt8.ofNat (48 + i / 10), UInt8.ofNat (48 + i % 10)] else if i < 1000 then [UInt8.ofNat (48 + i / 100), UInt8.ofNat (48 + i / 10 % 10), UInt8.ofNat (48 + i % 10)] else [UInt8.ofNat (48 + i / 1000), UInt8.ofNat (48 + i / 100 % 10), UInt8.ofNat (48 + i / 10 % 10), UInt8.ofNat (48 + i % 10)]
theorem dec_more {i : Nat} (h : ¬ i < 10) : Lib.decDigits i = Lib.decDigits (i / 10) ++ [UInt8.ofNat (48 + i % 10)] := by
  rw [Lib.decDigits, dif_neg h]
theorem dg4_eq {i : Nat} (h : i < 10000) : Lib.decDigits i = dg4 i := by
  unfold dg4
  by_cases c : i < 10
  · rw [if_pos c, Lib.decDigits_one c]
  rw [if_neg c]
  by_cases c2 : i < 100
  · rw [if_pos c2, Lib.decDigits_two c c2]
  rw [if_neg c2, dec_more c]
  by_cases c3 : i < 1000
  · rw [if_pos c3, Lib.decDigits_two (by omega) (by omega)]
    simp only [Nat.div_div_eq_div_mul]
    rfl
  · rw [if_neg c3, dec_more (i := i / 10) (by omega), Lib.decDigits_two (by omega) (by omega)]
    simp only [Nat.div_div_eq_div_mul]
    rfl
/-- A number's text. -/
def nm4 (i : Nat) : ByteArray := ⟨(dg4 i).toArray⟩
theorem nm4_all : ∀ n : Nat, n < 1001 → spec_l1Num.f 5 (n : Int) = some (nm4 n) ∧ (nm4 n).size ≤ 4 ∧ (58 : UInt8) ∉ dg4 n ∧ (47 : UInt8) ∉ dg4 n := by decide +kernel
theorem atoi4_all : ∀ w : Nat, w < 1001 → Lib.atoiAll (dg4 w) = .ok (w : Int) := by decide +kernel
theorem l1Num4_eq (n : Nat) (hn : n < 1001) (k : Nat) (hk : 5 ≤ k) : spec_l1Num.f k (n : Int) = some (nm4 n) := by
  have : ∀ d, spec_l1Num.f (5 + d) (n : Int) = some (nm4 n) := by
    intro d
    induction d with
    | zero => exact (nm4_all n hn).1
    | succ d ih => exact spec_l1Num.mono _ _ _ ih
  have h := this (k - 5)
  rwa [show 5 + (k - 5) = k by omega] at h
theorem itoa4 {w : Nat} (h : w < 1001) : Lib.itoa (w : Int) = dg4 w := by
  unfold Lib.itoa
  rw [if_neg (by omega), Int.toNat_natCast, dg4_eq (by omega)]
theorem numR_nm4 (w : Nat) (h : w < 1001) : numR ⟨(dg4 w).toArray⟩ = ((w : Int), true) := by
  unfold numR
  have : (⟨(dg4 w).toArray⟩ : ByteArray).data.toList = dg4 w := rfl
  rw [this, atoi4_all w h]
  show ((w : Int), Lib.itoa (w : Int) == (⟨(dg4 w).toArray⟩ : ByteArray).toList) = _
  rw [itoa4 (by omega), Lib.toList_data, this, beq_self_eq_true]
theorem text4 (w : Nat) (h : w < 1001) : impl_text.f (w : Int) = some (nm4 w) := by
  unfold impl_text.f strconv_Itoa.f
  rw [if_pos (by omega), itoa4 h]
  rfl
theorem index_at (c : UInt8) (b : List UInt8) : ∀ a : List UInt8, c ∉ a → Lib.index (a ++ c :: b) [c] = (a.length : Int)
  | [], _ => by
    show Lib.index (c :: b) [c] = _
    unfold Lib.index
    rw [if_pos (by simp [List.isPrefixOf])]
    rfl
  | x :: a, h => by
    have hx : x ≠ c := fun e => h (by rw [e]; exact List.mem_cons_self)
    have ha : c ∉ a := fun e => h (List.mem_cons_of_mem _ e)
    show Lib.index (x :: (a ++ c :: b)) [c] = _
    unfold Lib.index
    have h0 : List.isPrefixOf [c] (x :: (a ++ c :: b)) = false := by
      simp only [List.isPrefixOf, Bool.and_eq_false_imp]
      intro e
      exact absurd (eq_of_beq e).symm hx
    rw [h0, index_at c b a ha]
    have : ((a.length : Int) == -1) = false := by rw [beq_eq_false_iff_ne]; omega
    simp [this]
theorem cut_at (c : UInt8) (a b : List UInt8) (h : c ∉ a) : Lib.cut (a ++ c :: b) [c] = (a, b, true) := by
  unfold Lib.cut
  rw [index_at c b a h, if_pos (by omega), Int.toNat_natCast]
  have : (a ++ c :: b).drop (a.length + [c].length) = b := by
    rw [List.drop_append]
    simp
  rw [List.take_left, this]

open Classical in
/-- Whether a number is a square. -/
noncomputable def isq (n : Int) : Bool := decide (∃ r : Int, 0 ≤ r ∧ r * r = n)
open Classical in
noncomputable def rt (n : Int) : Int := if h : ∃ r : Int, 0 ≤ r ∧ r * r = n then Classical.choose h else 0
theorem isq_iff {n : Int} : isq n = true ↔ ∃ r : Int, 0 ≤ r ∧ r * r = n := by
  unfold isq
  simp
theorem rt_of {n : Int} (h : isq n = true) : 0 ≤ rt n ∧ rt n * rt n = n := by
  have h' := isq_iff.1 h
  unfold rt
  rw [dif_pos h']
  exact Classical.choose_spec h'
theorem sq_same {a b : Int} (ha : 0 ≤ a) (hb : 0 ≤ b) (h : a * a = b * b) : a = b := by
  have := sq_le ha hb (by omega)
  have := sq_le hb ha (by omega)
  omega
theorem rt_eq {n r : Int} (h0 : 0 ≤ r) (h : r * r = n) : isq n = true ∧ rt n = r := by
  have i : isq n = true := isq_iff.2 ⟨r, h0, h⟩
  have t := rt_of i
  exact ⟨i, sq_same t.1 h0 (by omega)⟩
theorem rootOf_is (k : Nat) (hk : 3000000000 ≤ k) (n : Int) (hn : 0 ≤ n ∧ n ≤ 1099511627776) : ∃ r, impl_rootOf.f k n = some (r, isq n) ∧ (isq n = true → r = rt n) := by
  obtain ⟨r, e, u⟩ := rootOf_eq k n hn (by omega)
  obtain ⟨s, _, d⟩ := clRoot_eq k n hn hk
  have rs := roots_same u d
  have b : (wrap64 (r * r) == n) = isq n := by
    rw [rootUp_sq u, Bool.eq_iff_iff, beq_iff_eq, isq_iff]
    constructor
    · intro h
      exact ⟨r, u.nn, h⟩
    · rintro ⟨q, q0, hq⟩
      have h1 : q ≤ r := sq_le q0 u.nn (by have := u.up; omega)
      rcases u.lo with h0 | h0
      · have : q = 0 := by omega
        subst this
        rw [h0]
        omega
      · rcases Int.lt_or_le q r with c | c
        · have := sq_mono q0 (show q ≤ r - 1 by omega)
          omega
        · have : q = r := by omega
          rw [← this]
          exact hq
  refine ⟨r, by rw [e, b], fun h => ?_⟩
  have t := rt_of h
  rw [← b, rootUp_sq u, beq_iff_eq] at h
  exact sq_same u.nn t.1 (by omega)
theorem clRoot_is (k : Nat) (hk : 3000000000 ≤ k) (n : Int) (hn : 0 ≤ n ∧ n ≤ 1099511627776) : ∃ s, spec_clRoot.f k n = some s ∧ 0 ≤ s ∧ (decide (wrap64 (s * s) = n)) = isq n ∧ (isq n = true → s = rt n) := by
  obtain ⟨r, e, u⟩ := rootOf_eq k n hn (by omega)
  obtain ⟨s, e2, d⟩ := clRoot_eq k n hn hk
  obtain ⟨r', e', h'⟩ := rootOf_is k hk n hn
  rw [e] at e'
  obtain ⟨rfl, hb⟩ := Prod.mk.inj (Option.some.inj e')
  have rs := roots_same u d
  refine ⟨s, e2, d.nn, by rw [← whole_same u d, hb], fun h => ?_⟩
  have := h' h
  rw [← hb, rootUp_sq u, beq_iff_eq] at h
  rw [← rs.2 h]
  exact this
theorem mul_in {a b A B : Int} (ha : 0 ≤ a) (hA : a ≤ A) (hb : 0 ≤ b) (hB : b ≤ B) : 0 ≤ a * b ∧ a * b ≤ A * B :=
  ⟨Int.mul_nonneg ha hb, Int.mul_le_mul hA hB hb (Int.le_trans ha hA)⟩
/-- The squares of both lengths. -/
def sqs (x y z : Int) : Int × Int × Bool := if lad x y z then (x * x + y * y, x * x + z * z, true) else (0, 0, false)
theorem Squares_eq (x y z : Int) : impl_SquaresOf.f x y z = some (sqs x y z) := by
  unfold impl_SquaresOf.f sqs
  rw [AreLadders_eq]
  simp only [Option.bind_some]
  cases h : lad x y z with
  | false => rfl
  | true =>
    obtain ⟨hx, hy, hz⟩ := lad_of h
    have m := mul_in (a := x) (b := x) (by omega) hx.2 (by omega) hx.2
    have m1 := mul_in (a := y) (b := y) (by omega) hy.2 (by omega) hy.2
    have m2 := mul_in (a := z) (b := z) (by omega) hz.2 (by omega) hz.2
    rw [if_pos rfl, wrap_id (n := x * x) (by omega) (by omega), wrap_id (n := y * y) (by omega) (by omega), wrap_id (n := z * z) (by omega) (by omega), wrap_id (n := x * x + y * y) (by omega) (by omega), wrap_id (n := x * x + z * z) (by omega) (by omega)]
    rfl
theorem clSquares_eq {x y z : Int} (h : lad x y z = true) : spec_clSquares.f x y z = some (x * x + y * y, x * x + z * z) := by
  obtain ⟨hx, hy, hz⟩ := lad_of h
  have m := mul_in (a := x) (b := x) (by omega) hx.2 (by omega) hx.2
  have m1 := mul_in (a := y) (b := y) (by omega) hy.2 (by omega) hy.2
  have m2 := mul_in (a := z) (b := z) (by omega) hz.2 (by omega) hz.2
  unfold spec_clSquares.f
  rw [wrap_id (n := x * x) (by omega) (by omega), wrap_id (n := y * y) (by omega) (by omega), wrap_id (n := z * z) (by omega) (by omega), wrap_id (n := x * x + y * y) (by omega) (by omega), wrap_id (n := x * x + z * z) (by omega) (by omega)]
theorem sSquares_eq (x y z : Int) : spec_SquaresOf.f x y z = some (sqs x y z) := by
  unfold spec_SquaresOf.f sqs
  rw [clGood_eq]
  simp only [Option.bind_some]
  cases h : lad x y z with
  | false => rfl
  | true =>
    rw [if_pos rfl, clSquares_eq h]
    rfl
/-- Both lengths, where they are whole. -/
noncomputable def len (x y z : Int) : Int × Int × Bool := if lad x y z && (isq (x * x + y * y) && isq (x * x + z * z)) then (rt (x * x + y * y), rt (x * x + z * z), true) else (0, 0, false)
theorem sq_bounds {x y z : Int} (h : lad x y z = true) : (0 ≤ x * x + y * y ∧ x * x + y * y ≤ 1099511627776) ∧ 0 ≤ x * x + z * z ∧ x * x + z * z ≤ 1099511627776 := by
  obtain ⟨hx, hy, hz⟩ := lad_of h
  have m := mul_in (a := x) (b := x) (by omega) hx.2 (by omega) hx.2
  have m1 := mul_in (a := y) (b := y) (by omega) hy.2 (by omega) hy.2
  have m2 := mul_in (a := z) (b := z) (by omega) hz.2 (by omega) hz.2
  omega
theorem Lengths_eq (k : Nat) (hk : 3000000000 ≤ k) (x y z : Int) : impl_LengthsOf.f k x y z = some (len x y z) := by
  unfold impl_LengthsOf.f len
  rw [Squares_eq]
  simp only [Option.bind_some, sqs]
  cases h : lad x y z with
  | false =>
    obtain ⟨r, e, _⟩ := rootOf_is k hk 0 (by omega)
    simp [e]
  | true =>
    have b := sq_bounds h
    obtain ⟨r, e, hr⟩ := rootOf_is k hk (x * x + y * y) b.1
    obtain ⟨s, e2, hs⟩ := rootOf_is k hk (x * x + z * z) b.2
    simp only [if_true, e, e2, Option.bind_some, Bool.true_and]
    cases h1 : isq (x * x + y * y) with
    | false => simp
    | true =>
      cases h2 : isq (x * x + z * z) with
      | false => simp
      | true =>
        rw [hr h1, hs h2]
        simp
theorem clLengths_eq (k : Nat) (hk : 3000000000 ≤ k) {x y z : Int} (h : lad x y z = true) : ∃ a b, spec_clLengths.f k x y z = some (a, b, isq (x * x + y * y) && isq (x * x + z * z)) ∧ (isq (x * x + y * y) = true → a = rt (x * x + y * y)) ∧ (isq (x * x + z * z) = true → b = rt (x * x + z * z)) := by
  have b := sq_bounds h
  obtain ⟨r, e, _, hr, tr⟩ := clRoot_is k hk (x * x + y * y) b.1
  obtain ⟨s, e2, _, hs, ts⟩ := clRoot_is k hk (x * x + z * z) b.2
  refine ⟨r, s, ?_, tr, ts⟩
  unfold spec_clLengths.f
  rw [clSquares_eq h]
  simp only [Option.bind_some, e, e2]
  rw [← hr, ← hs]
  by_cases c : wrap64 (r * r) = x * x + y * y
  · rw [if_pos c, decide_eq_true c, Bool.true_and]
    rfl
  · rw [if_neg c, decide_eq_false c, Bool.false_and]
theorem sLengths_eq (k : Nat) (hk : 3000000000 ≤ k) (x y z : Int) : spec_LengthsOf.f k x y z = some (len x y z) := by
  unfold spec_LengthsOf.f len
  rw [clGood_eq]
  simp only [Option.bind_some]
  cases h : lad x y z with
  | false => simp
  | true =>
    obtain ⟨a, b, e, ha, hb⟩ := clLengths_eq k hk h
    rw [if_pos rfl, e]
    simp only [Option.bind_some, Bool.true_and]
    cases h1 : isq (x * x + y * y) with
    | false => simp
    | true =>
      cases h2 : isq (x * x + z * z) with
      | false => simp
      | true =>
        rw [ha h1, hb h2]
        simp
/-- A whole crossing. -/
noncomputable def whole (x y z : Int) : Bool := (len x y z).2.2 && decide ((y * z).tmod (y + z) = 0)
theorem isWholeC_eq (k : Nat) (hk : 3000000000 ≤ k) {x y z : Int} (h : lad x y z = true) : impl_isWholeCrossing.f k x y z = some (whole x y z) := by
  obtain ⟨hx, hy, hz⟩ := lad_of h
  have m := mul_in (a := y) (b := z) (by omega) hy.2 (by omega) hz.2
  unfold impl_isWholeCrossing.f whole
  rw [Lengths_eq k hk]
  simp only [Option.bind_some]
  cases c : (len x y z).2.2 with
  | false => rfl
  | true =>
    rw [if_pos rfl, wrap_id (n := y + z) (by omega) (by omega), if_neg (by omega), wrap_id (n := y * z) (by omega) (by omega), Bool.true_and]
    rfl
theorem Whole_eq (k : Nat) (hk : 3000000000 ≤ k) (x y z : Int) : impl_IsWholeCrossing.f k x y z = some (lad x y z && whole x y z, lad x y z) := by
  unfold impl_IsWholeCrossing.f
  simp only [AreLadders_eq, Option.bind_some]
  cases h : lad x y z with
  | false => rfl
  | true =>
    rw [if_pos rfl, isWholeC_eq k hk h]
    rfl
theorem sWhole_eq (k : Nat) (hk : 3000000000 ≤ k) (x y z : Int) : spec_IsWholeCrossing.f k x y z = some (lad x y z && whole x y z, lad x y z) := by
  unfold spec_IsWholeCrossing.f spec_clWhole.f
  rw [clGood_eq]
  simp only [Option.bind_some]
  cases h : lad x y z with
  | false => rfl
  | true =>
    obtain ⟨hx, hy, hz⟩ := lad_of h
    have m := mul_in (a := y) (b := z) (by omega) hy.2 (by omega) hz.2
    obtain ⟨a, b, e, ha, hb⟩ := clLengths_eq k hk h
    have hl : (len x y z).2.2 = (isq (x * x + y * y) && isq (x * x + z * z)) := by
      unfold len
      rw [h, Bool.true_and]
      cases isq (x * x + y * y) && isq (x * x + z * z) <;> rfl
    rw [if_pos rfl, e]
    simp only [Option.bind_some, Bool.true_and, whole]
    rw [hl]
    cases c : isq (x * x + y * y) && isq (x * x + z * z) with
    | false => rfl
    | true =>
      rw [if_pos rfl, wrap_id (n := y + z) (by omega) (by omega), if_neg (by omega), wrap_id (n := y * z) (by omega) (by omega), Bool.true_and]
      rfl

/-- The heights that cross at n, from d on, m steps. -/
def prs (n : Int) : Nat → Int → List (List Int)
  | 0, _ => []
  | m + 1, d => if Int.tmod (n * n) d = 0 then [n + d, n + (n * n).tdiv d] :: prs n m (d + 1) else prs n m (d + 1)
theorem prs_length (n : Int) : ∀ (m : Nat) (d : Int), (prs n m d).length ≤ m := by
  intro m
  induction m with
  | zero => intro d; exact Nat.le_refl _
  | succ m ih =>
    intro d
    unfold prs
    have := ih (d + 1)
    split
    · simp only [List.length_cons]
      omega
    · omega
theorem div_in {n d : Int} (hn : 1 ≤ n ∧ n ≤ 200) (hd : 1 ≤ d) : 0 ≤ (n * n).tdiv d ∧ (n * n).tdiv d ≤ 40000 ∧ 0 ≤ n * n ∧ n * n ≤ 40000 := by
  have m : 0 ≤ n * n ∧ n * n ≤ 200 * 200 := ⟨Int.mul_nonneg (by omega) (by omega), Int.mul_le_mul hn.2 hn.2 (by omega) (by omega)⟩
  have h1 : 0 ≤ (n * n).tdiv d := Int.tdiv_nonneg m.1 (by omega)
  have h2 : (n * n).tdiv d ≤ n * n := by
    have := tdiv_le (n * n) d
    omega
  omega
theorem pairs_l0 (n : Int) (hn : 1 ≤ n ∧ n ≤ 200) : ∀ (m k : Nat) (acc : List (List Int)) (d : Int), d + m = n + 1 → m < k → 1 ≤ d → acc.length + m ≤ 1000 →
    impl_PairsFor.l0 k n acc d = some (acc ++ prs n m d, true) := by
  intro m
  induction m with
  | zero =>
    intro k acc d h1 hk hd ha
    obtain ⟨k, rfl⟩ : ∃ m, k = m + 1 := ⟨k - 1, by omega⟩
    rw [impl_PairsFor.l0, if_neg (by omega)]
    simp [prs]
  | succ m ih =>
    intro k acc d h1 hk hd ha
    obtain ⟨k, rfl⟩ : ∃ m, k = m + 1 := ⟨k - 1, by omega⟩
    have b := div_in hn hd
    rw [impl_PairsFor.l0, if_pos (by omega), if_neg (by omega), wrap_id (n := n * n) (by omega) (by omega), wrap_id (n := n + d) (by omega) (by omega), wrap_id (n := (n * n).tdiv d) (by omega) (by omega), wrap_id (n := n + (n * n).tdiv d) (by omega) (by omega), wrap_id (n := d + 1) (by omega) (by omega)]
    unfold prs
    by_cases c : Int.tmod (n * n) d = 0
    · rw [if_pos c, if_pos c, if_pos (by omega), ih k _ (d + 1) (by omega) (by omega) (by omega) (by simp only [List.length_append, List.length_cons, List.length_nil]; omega)]
      simp only [List.append_assoc, List.cons_append, List.nil_append]
    · rw [if_neg c, if_neg c]
      exact ih k _ (d + 1) (by omega) (by omega) (by omega) (by omega)
theorem clPairs_l0 (n : Int) (hn : 1 ≤ n ∧ n ≤ 200) : ∀ (m k : Nat) (acc : List (List Int)) (d : Int), d + m = n + 1 → m < k → 1 ≤ d → acc.length + m ≤ 1000 →
    spec_clPairs.l0 k n acc d = some (acc ++ prs n m d) := by
  intro m
  induction m with
  | zero =>
    intro k acc d h1 hk hd ha
    obtain ⟨k, rfl⟩ : ∃ m, k = m + 1 := ⟨k - 1, by omega⟩
    rw [spec_clPairs.l0, if_neg (by omega)]
    simp [prs]
  | succ m ih =>
    intro k acc d h1 hk hd ha
    obtain ⟨k, rfl⟩ : ∃ m, k = m + 1 := ⟨k - 1, by omega⟩
    have b := div_in hn hd
    rw [spec_clPairs.l0, if_pos (by omega), if_neg (by omega), wrap_id (n := n * n) (by omega) (by omega), wrap_id (n := n + d) (by omega) (by omega), wrap_id (n := (n * n).tdiv d) (by omega) (by omega), wrap_id (n := n + (n * n).tdiv d) (by omega) (by omega), wrap_id (n := d + 1) (by omega) (by omega)]
    unfold prs
    by_cases c : Int.tmod (n * n) d = 0
    · rw [if_pos c, if_pos c, if_pos (by omega), ih k _ (d + 1) (by omega) (by omega) (by omega) (by simp only [List.length_append, List.length_cons, List.length_nil]; omega)]
      simp only [List.append_assoc, List.cons_append, List.nil_append]
    · rw [if_neg c, if_neg c]
      exact ih k _ (d + 1) (by omega) (by omega) (by omega) (by omega)
/-- Whether heights are asked for. -/
def pn (n : Int) : Bool := decide (1 ≤ n ∧ n ≤ 200)
def prsOf (n : Int) : List (List Int) := if pn n then prs n n.toNat 1 else []
theorem Pairs_eq (k : Nat) (hk : 300 ≤ k) (n : Int) : impl_PairsFor.f k n = some (prsOf n, pn n) := by
  unfold impl_PairsFor.f prsOf
  rw [within_eq]
  simp only [Option.bind_some]
  by_cases c : 1 ≤ n ∧ n ≤ 200
  · have e : pn n = true := decide_eq_true c
    rw [if_pos (decide_eq_true c), e, pairs_l0 n c n.toNat k [] 1 (by omega) (by omega) (by omega) (by simp only [List.length_nil]; omega)]
    rfl
  · have e : pn n = false := decide_eq_false c
    rw [if_neg (by simpa using c), e]
    rfl
theorem sPairs_eq (k : Nat) (hk : 300 ≤ k) (n : Int) : spec_PairsFor.f k n = some (prsOf n, pn n) := by
  unfold spec_PairsFor.f spec_clPairs.f prsOf
  rw [l1In_eq]
  simp only [Option.bind_some]
  by_cases c : 1 ≤ n ∧ n ≤ 200
  · have e : pn n = true := decide_eq_true c
    rw [if_pos (decide_eq_true c), e, clPairs_l0 n c n.toNat k [] 1 (by omega) (by omega) (by omega) (by simp only [List.length_nil]; omega)]
    rfl
  · have e : pn n = false := decide_eq_false c
    rw [if_neg (by simpa using c), e]
    rfl
theorem Count_eq (k : Nat) (hk : 300 ≤ k) (n : Int) : impl_CountPairs.f k n = some (((prsOf n).length : Int), pn n) := by
  unfold impl_CountPairs.f
  rw [Pairs_eq k hk]
  rfl
theorem sCount_eq (k : Nat) (hk : 300 ≤ k) (n : Int) : spec_CountPairs.f k n = some (((prsOf n).length : Int), pn n) := by
  unfold spec_CountPairs.f spec_clPairs.f prsOf
  rw [l1In_eq]
  simp only [Option.bind_some]
  by_cases c : 1 ≤ n ∧ n ≤ 200
  · have e : pn n = true := decide_eq_true c
    rw [if_pos (decide_eq_true c), e, clPairs_l0 n c n.toNat k [] 1 (by omega) (by omega) (by omega) (by simp only [List.length_nil]; omega)]
    rfl
  · have e : pn n = false := decide_eq_false c
    rw [if_neg (by simpa using c), e]
    rfl
/-- What a pair of heights is: both cross at n. -/
def PairOk (n : Int) (p : List Int) : Prop := ∃ a b, p = [a, b] ∧ n < a ∧ a ≤ b ∧ b ≤ 41000 ∧ a * b = n * (a + b)
theorem prs_ok (n : Int) (hn : 1 ≤ n ∧ n ≤ 200) : ∀ (m : Nat) (d : Int), d + m = n + 1 → 1 ≤ d → ∀ p ∈ prs n m d, PairOk n p ∧ ∃ a b, p = [a, b] ∧ n + d ≤ a := by
  intro m
  induction m with
  | zero => intro d h1 hd p hp; cases hp
  | succ m ih =>
    intro d h1 hd p hp
    have more : ∀ p ∈ prs n m (d + 1), PairOk n p ∧ ∃ a b, p = [a, b] ∧ n + d ≤ a := fun p hp => by
      obtain ⟨h, a, b, e, g⟩ := ih (d + 1) (by omega) (by omega) p hp
      exact ⟨h, a, b, e, by omega⟩
    unfold prs at hp
    by_cases c : Int.tmod (n * n) d = 0
    · rw [if_pos c] at hp
      rcases List.mem_cons.1 hp with e | e
      · have b := div_in hn hd
        have q := Int.mul_tdiv_add_tmod (n * n) d
        rw [c, Int.add_zero] at q
        refine ⟨⟨n + d, n + (n * n).tdiv d, e, by omega, ?_, by omega, ?_⟩, _, _, e, Int.le_refl _⟩
        · rcases Int.lt_or_le ((n * n).tdiv d) d with x | x
          · exfalso
            have h1 : d * (n * n).tdiv d < d * d := Int.mul_lt_mul_of_pos_left x (by omega)
            have h2 : d * d ≤ n * n := Int.mul_le_mul (by omega) (by omega) (by omega) (by omega)
            omega
          · omega
        · generalize (n * n).tdiv d = t at q
          grind
      · exact more p e
    · rw [if_neg c] at hp
      exact more p hp

theorem ext_from (s : ByteArray) (k : Nat) : s.extract k s.size = ⟨(s.data.toList.drop k).toArray⟩ := by
  rw [Lib.extract_eq, Lib.size_eq, List.take_of_length_le (by simp)]
theorem ext_upto (s : ByteArray) (k : Nat) : s.extract 0 k = ⟨(s.data.toList.take k).toArray⟩ := by
  rw [Lib.extract_eq]
  simp
theorem bt_list (s : ByteArray) (i : Nat) : bt s (i : Int) = ((s.data.toList[i]?).map (fun b : UInt8 => (b.toNat : Int))).getD 0 := by
  unfold bt
  rw [Int.toNat_natCast]
  by_cases h : i < s.size
  · rw [dif_pos h]
    have e : s.data.toList[i]? = some s[i] := by
      rw [Array.getElem?_toList]
      exact Array.getElem?_eq_getElem h
    rw [e]
    rfl
  · rw [dif_neg h]
    have e : s.data.toList[i]? = none := by
      rw [Array.getElem?_toList]
      exact Array.getElem?_eq_none (by have : s.size = s.data.size := rfl; omega)
    rw [e]
    rfl
theorem sp_skip (s : ByteArray) (hs : s.size ≤ 1048576) (b : Int) (acc : List ByteArray) (fr : Int) : ∀ (d i k : Nat), i + d ≤ s.size → (∀ j : Nat, i ≤ j → j < i + d → bt s (j : Int) ≠ b) →
    spec_l1Split.l0 (k + d) s b acc fr (i : Int) = spec_l1Split.l0 k s b acc fr ((i + d : Nat) : Int) := by
  intro d
  induction d with
  | zero => intro i k _ _; rfl
  | succ d ih =>
    intro i k hi h
    have e : wrap64 ((i : Int) + 1) = ((i + 1 : Nat) : Int) := by rw [wrap_id (by omega) (by omega)]; omega
    rw [show k + (d + 1) = (k + d) + 1 by omega, spec_l1Split.l0, if_pos (by omega), if_pos (by omega), if_neg (h i (Nat.le_refl _) (by omega)), e, ih (i + 1) k (by omega) (fun j h1 h2 => h j (by omega) (by omega)), show i + 1 + d = i + (d + 1) by omega]
/-- A text with one separator falls in two. -/
theorem split_two (s : ByteArray) (c : UInt8) (a b : List UInt8) (hs : s.data.toList = a ++ c :: b) (ha : c ∉ a) (hb : c ∉ b) (h6 : s.size ≤ 1048576) (k : Nat) (hk : 1048600 ≤ k) :
    spec_l1Split.f k s (c.toNat : Int) = some [⟨a.toArray⟩, ⟨b.toArray⟩] := by
  have sz : s.size = a.length + 1 + b.length := by
    have : s.size = s.data.toList.length := rfl
    rw [this, hs, List.length_append, List.length_cons]
    omega
  have at_ : ∀ j : Nat, bt s (j : Int) = (((a ++ c :: b)[j]?).map (fun b : UInt8 => (b.toNat : Int))).getD 0 := fun j => by rw [bt_list, hs]
  have ne : ∀ x : UInt8, x ≠ c → (x.toNat : Int) ≠ (c.toNat : Int) := fun x hx h => hx (UInt8.toNat_inj.1 (by omega))
  have h1 : ∀ j : Nat, 0 ≤ j → j < 0 + a.length → bt s (j : Int) ≠ (c.toNat : Int) := fun j _ hj => by
    rw [at_, List.getElem?_append_left (by omega), List.getElem?_eq_getElem (by omega)]
    exact ne _ (fun h => ha (h ▸ List.getElem_mem _))
  have h2 : ∀ j : Nat, a.length + 1 ≤ j → j < a.length + 1 + b.length → bt s (j : Int) ≠ (c.toNat : Int) := fun j hj hj2 => by
    rw [at_, List.getElem?_append_right (by omega), show j - a.length = (j - a.length - 1) + 1 by omega, List.getElem?_cons_succ, List.getElem?_eq_getElem (by omega)]
    exact ne _ (fun h => hb (h ▸ List.getElem_mem _))
  have h3 : bt s ((a.length : Nat) : Int) = (c.toNat : Int) := by
    rw [at_, List.getElem?_append_right (by omega), Nat.sub_self, List.getElem?_cons_zero]
    rfl
  have x1 : s.extract ((0 : Int)).toNat ((a.length : Nat) : Int).toNat = ⟨a.toArray⟩ := by
    rw [Int.toNat_natCast]
    show s.extract 0 a.length = _
    rw [ext_upto, hs, List.take_left']
    rfl
  have x2 : s.extract (((a.length + 1 : Nat) : Int)).toNat s.size = ⟨b.toArray⟩ := by
    rw [Int.toNat_natCast, ext_from, hs]
    have : (a ++ c :: b).drop (a.length + 1) = b := by
      rw [← List.drop_drop, List.drop_left']
      · rfl
      · rfl
    rw [this]
  obtain ⟨m, rfl⟩ : ∃ m, k = (((m + 1) + b.length) + 1) + a.length := ⟨k - a.length - 1 - b.length - 1, by omega⟩
  have e : wrap64 (((a.length : Nat) : Int) + 1) = ((a.length + 1 : Nat) : Int) := by rw [wrap_id (by omega) (by omega)]; omega
  have p1 := sp_skip s h6 (c.toNat : Int) [] 0 a.length 0 (((m + 1) + b.length) + 1) (by omega) h1
  unfold spec_l1Split.f
  rw [show ((0 : Int)) = ((0 : Nat) : Int) from rfl]
  rw [show (((0 : Nat) : Int)) = 0 from rfl] at p1
  rw [show (((0 : Nat) : Int)) = 0 from rfl, p1, Nat.zero_add, spec_l1Split.l0, if_pos (by omega), if_pos (by omega), if_pos h3, if_pos (by omega), if_pos (by omega), if_pos (by omega), if_pos (by simp), e, x1,
    sp_skip s h6 (c.toNat : Int) _ _ b.length (a.length + 1) (m + 1) (by omega) h2, spec_l1Split.l0, if_neg (by omega), if_pos (by omega), if_pos (by omega), if_pos (by simp), x2]
  rfl
theorem split_l0 (s : ByteArray) (hs : s.size ≤ 1048576) (b : Int) : ∀ (d i : Nat) (acc : List ByteArray) (fr : Nat), i + d = s.size → fr ≤ i → acc.length ≤ i → (∀ p ∈ acc, p.size ≤ s.size) →
    ∃ parts : List ByteArray, (∀ p ∈ parts, p.size ≤ s.size) ∧ ∀ k, d < k → spec_l1Split.l0 k s b acc fr i = some parts := by
  have ex : ∀ x y : Nat, (s.extract x y).size ≤ s.size := fun x y => by
    rw [ByteArray.size_extract]
    omega
  intro d
  induction d with
  | zero =>
    intro i acc fr hi hf ha hp
    refine ⟨acc ++ [s.extract ((fr : Nat) : Int).toNat s.size], fun p h => ?_, fun k hk => ?_⟩
    · rcases List.mem_append.1 h with h | h
      · exact hp p h
      · rw [List.mem_singleton.1 h]
        exact ex _ _
    obtain ⟨k, rfl⟩ : ∃ m, k = m + 1 := ⟨k - 1, by omega⟩
    rw [spec_l1Split.l0, if_neg (by omega), if_pos (by omega), if_pos (by omega), if_pos (by omega)]
  | succ d ih =>
    intro i acc fr hi hf ha hp
    have e : wrap64 ((i : Int) + 1) = ((i + 1 : Nat) : Int) := by rw [wrap_id (by omega) (by omega)]; omega
    by_cases c : bt s (i : Int) = b
    · obtain ⟨parts, hq, hp⟩ := ih (i + 1) (acc ++ [s.extract ((fr : Nat) : Int).toNat ((i : Nat) : Int).toNat]) (i + 1) (by omega) (Nat.le_refl _) (by simp; omega) (fun p h => by
        rcases List.mem_append.1 h with h | h
        · exact hp p h
        · rw [List.mem_singleton.1 h]
          exact ex _ _)
      refine ⟨parts, hq, fun k hk => ?_⟩
      obtain ⟨k, rfl⟩ : ∃ m, k = m + 1 := ⟨k - 1, by omega⟩
      rw [spec_l1Split.l0, if_pos (by omega), if_pos (by omega), if_pos c, if_pos (by omega), if_pos (by omega), if_pos (by omega), if_pos (by omega), e]
      exact hp k (by omega)
    · obtain ⟨parts, hq, hp⟩ := ih (i + 1) acc fr (by omega) (by omega) (by omega) hp
      refine ⟨parts, hq, fun k hk => ?_⟩
      obtain ⟨k, rfl⟩ : ∃ m, k = m + 1 := ⟨k - 1, by omega⟩
      rw [spec_l1Split.l0, if_pos (by omega), if_pos (by omega), if_neg c, e]
      exact hp k (by omega)
theorem split_f (s : ByteArray) (hs : s.size ≤ 1048576) (b : Int) : ∃ parts : List ByteArray, (∀ p ∈ parts, p.size ≤ s.size) ∧ ∀ k, 1048600 ≤ k → spec_l1Split.f k s b = some parts := by
  obtain ⟨parts, h1, h2⟩ := split_l0 s hs b s.size 0 [] 0 (by omega) (Nat.le_refl _) (Nat.zero_le _) (fun p h => absurd h (List.not_mem_nil))
  exact ⟨parts, h1, fun k hk => h2 k (by omega)⟩
theorem read_l0 (s : ByteArray) (hs : s.size ≤ 6) : ∀ (d i : Nat) (n : Int), i + d = s.size → ∃ v, ∀ k, d < k → spec_l1Read.l0 k s n i = some v := by
  intro d
  induction d with
  | zero =>
    intro i n hi
    refine ⟨n, fun k hk => ?_⟩
    obtain ⟨k, rfl⟩ : ∃ m, k = m + 1 := ⟨k - 1, by omega⟩
    rw [spec_l1Read.l0, if_neg (by omega)]
  | succ d ih =>
    intro i n hi
    have e : wrap64 ((i : Int) + 1) = ((i + 1 : Nat) : Int) := by rw [wrap_id (by omega) (by omega)]; omega
    by_cases c1 : bt s (i : Int) < 48
    · refine ⟨-1, fun k hk => ?_⟩
      obtain ⟨k, rfl⟩ : ∃ m, k = m + 1 := ⟨k - 1, by omega⟩
      rw [spec_l1Read.l0, if_pos (by omega), if_pos (by omega), if_pos c1]
    · by_cases c2 : bt s (i : Int) > 57
      · refine ⟨-1, fun k hk => ?_⟩
        obtain ⟨k, rfl⟩ : ∃ m, k = m + 1 := ⟨k - 1, by omega⟩
        rw [spec_l1Read.l0, if_pos (by omega), if_pos (by omega), if_neg c1, if_pos c2]
      · obtain ⟨v, hv⟩ := ih (i + 1) (wrap64 ((wrap64 (10 * n)) + (((bt s (i : Int)) - 48) % 256))) (by omega)
        refine ⟨v, fun k hk => ?_⟩
        obtain ⟨k, rfl⟩ : ∃ m, k = m + 1 := ⟨k - 1, by omega⟩
        rw [spec_l1Read.l0, if_pos (by omega), if_pos (by omega), if_neg c1, if_neg c2, e]
        exact hv k (by omega)
theorem read_f (s : ByteArray) : ∃ v, ∀ k, 20 ≤ k → spec_l1Read.f k s = some v := by
  by_cases h : 1 ≤ (s.size : Int) ∧ (s.size : Int) ≤ 6
  · obtain ⟨v, hv⟩ := read_l0 s (by omega) s.size 0 0 (by omega)
    by_cases c : bt s 0 = 48 ∧ (s.size : Int) > 1
    · refine ⟨-1, fun k hk => ?_⟩
      obtain ⟨k, rfl⟩ : ∃ m, k = m + 1 := ⟨k - 1, by omega⟩
      unfold spec_l1Read.f
      rw [l1In_eq, decide_eq_true h]
      simp only [Option.bind_some]
      rw [if_pos trivial, if_pos (by omega), if_pos c.1, spec_l1Read.j0, decide_eq_true c.2, if_pos rfl]
    · refine ⟨v, fun k hk => ?_⟩
      obtain ⟨k, rfl⟩ : ∃ m, k = m + 1 := ⟨k - 1, by omega⟩
      unfold spec_l1Read.f
      rw [l1In_eq, decide_eq_true h]
      simp only [Option.bind_some]
      rw [if_pos trivial, if_pos (by omega)]
      by_cases c1 : bt s 0 = 48
      · rw [if_pos c1, spec_l1Read.j0, decide_eq_false (fun h2 => c ⟨c1, h2⟩), if_neg (by decide)]
        exact hv k (by omega)
      · rw [if_neg c1, spec_l1Read.j0, if_neg (by decide)]
        exact hv k (by omega)
  · refine ⟨-1, fun k hk => ?_⟩
    obtain ⟨k, rfl⟩ : ∃ m, k = m + 1 := ⟨k - 1, by omega⟩
    unfold spec_l1Read.f
    rw [l1In_eq, decide_eq_false h]
    simp only [Option.bind_some]
    rw [if_neg (by decide), spec_l1Read.j0, if_pos rfl]
theorem toList_inj {s t : ByteArray} (h : s.toList = t.toList) : s = t := by
  rw [Lib.toList_data, Lib.toList_data] at h
  rw [← Lib.mk_data s, ← Lib.mk_data t, h]

theorem c_size : (⟨#[58]⟩ : ByteArray).size = 1 := rfl
theorem s_size : (⟨#[47]⟩ : ByteArray).size = 1 := rfl
/-- The text of ladders. -/
def tx (x y z : Nat) : ByteArray := (((nm4 x ++ ⟨#[58]⟩) ++ nm4 y) ++ ⟨#[47]⟩) ++ nm4 z
def txI (x y z : Int) : ByteArray := tx x.toNat y.toNat z.toNat
theorem LText_eq (x y z : Int) : impl_LaddersText.f x y z = some (if lad x y z then (txI x y z, true) else (⟨#[]⟩, false)) := by
  unfold impl_LaddersText.f
  rw [AreLadders_eq]
  simp only [Option.bind_some]
  cases h : lad x y z with
  | false => rfl
  | true =>
    obtain ⟨hx, hy, hz⟩ := lad_of h
    obtain ⟨x, rfl⟩ := Int.eq_ofNat_of_zero_le (show 0 ≤ x by omega)
    obtain ⟨y, rfl⟩ := Int.eq_ofNat_of_zero_le (show 0 ≤ y by omega)
    obtain ⟨z, rfl⟩ := Int.eq_ofNat_of_zero_le (show 0 ≤ z by omega)
    have a := (nm4_all x (by omega)).2.1
    have b := (nm4_all y (by omega)).2.1
    have c := (nm4_all z (by omega)).2.1
    rw [if_pos rfl, text4 x (by omega), text4 y (by omega), text4 z (by omega)]
    simp only [Option.bind_some, ByteArray.size_append, c_size, s_size]
    rw [if_pos (by omega), if_pos (by omega), if_pos (by omega), if_pos (by omega)]
    rfl
theorem clText_eq (k : Nat) (hk : 5 ≤ k) {x y z : Int} (h : lad x y z = true) : spec_clText.f k x y z = some (txI x y z) := by
  unfold spec_clText.f
  obtain ⟨hx, hy, hz⟩ := lad_of h
  obtain ⟨x, rfl⟩ := Int.eq_ofNat_of_zero_le (show 0 ≤ x by omega)
  obtain ⟨y, rfl⟩ := Int.eq_ofNat_of_zero_le (show 0 ≤ y by omega)
  obtain ⟨z, rfl⟩ := Int.eq_ofNat_of_zero_le (show 0 ≤ z by omega)
  have a := (nm4_all x (by omega)).2.1
  have b := (nm4_all y (by omega)).2.1
  have c := (nm4_all z (by omega)).2.1
  rw [l1Num4_eq x (by omega) k hk, l1Num4_eq y (by omega) k hk, l1Num4_eq z (by omega) k hk]
  simp only [Option.bind_some, ByteArray.size_append, c_size, s_size]
  rw [if_pos (by omega), if_pos (by omega), if_pos (by omega), if_pos (by omega)]
  rfl
theorem checked_eq (x y z : Int) : impl_checkedLadders.f x y z = some (if lad x y z then (x, y, z, true) else (0, 0, 0, false)) := by
  unfold impl_checkedLadders.f
  rw [AreLadders_eq]
  simp only [Option.bind_some]
  cases lad x y z <;> rfl
theorem app_list (a b : ByteArray) : (a ++ b).data.toList = a.data.toList ++ b.data.toList := by
  rw [ByteArray.data_append, Array.toList_append]
theorem tx_list (x y z : Nat) : (tx x y z).data.toList = dg4 x ++ (58 : UInt8) :: (dg4 y ++ (47 : UInt8) :: dg4 z) := by
  unfold tx
  simp only [app_list]
  show (((dg4 x ++ [58]) ++ dg4 y) ++ [47]) ++ dg4 z = _
  simp only [List.append_assoc, List.cons_append, List.nil_append]
theorem Parse_eq (k : Nat) (hk : 1 ≤ k) (x y z : Int) (h : lad x y z = true) : impl_ParseLadders.f k (txI x y z) = some (x, y, z, true) := by
  obtain ⟨k, rfl⟩ : ∃ m, k = m + 1 := ⟨k - 1, by omega⟩
  obtain ⟨hx, hy, hz⟩ := lad_of h
  have hc := checked_eq x y z
  rw [h] at hc
  obtain ⟨x, rfl⟩ := Int.eq_ofNat_of_zero_le (show 0 ≤ x by omega)
  obtain ⟨y, rfl⟩ := Int.eq_ofNat_of_zero_le (show 0 ≤ y by omega)
  obtain ⟨z, rfl⟩ := Int.eq_ofNat_of_zero_le (show 0 ≤ z by omega)
  have a := nm4_all x (by omega)
  have b := nm4_all y (by omega)
  have c := nm4_all z (by omega)
  have e1 : txI (x : Int) (y : Int) (z : Int) = tx x y z := rfl
  have sz : (tx x y z).size ≤ 20 := by
    unfold tx
    simp only [ByteArray.size_append, c_size, s_size]
    have := a.2.1
    have := b.2.1
    have := c.2.1
    omega
  have l1 : (dg4 x).length ≤ 4 := a.2.1
  have l2 : (dg4 y).length ≤ 4 := b.2.1
  have l3 : (dg4 z).length ≤ 4 := c.2.1
  have k1 : strings_Cut.f (tx x y z) ⟨#[58]⟩ = some (⟨(dg4 x).toArray⟩, ⟨(dg4 y ++ (47 : UInt8) :: dg4 z).toArray⟩, true) := by
    unfold strings_Cut.f
    rw [if_pos (by omega), tx_list, show (⟨#[58]⟩ : ByteArray).data.toList = [58] from rfl, cut_at _ _ _ a.2.2.1]
  have k2 : strings_Cut.f ⟨(dg4 y ++ (47 : UInt8) :: dg4 z).toArray⟩ ⟨#[47]⟩ = some (⟨(dg4 y).toArray⟩, ⟨(dg4 z).toArray⟩, true) := by
    unfold strings_Cut.f
    have : (⟨(dg4 y ++ (47 : UInt8) :: dg4 z).toArray⟩ : ByteArray).size ≤ 9 := by
      show (dg4 y ++ (47 : UInt8) :: dg4 z).toArray.size ≤ 9
      simp only [List.size_toArray, List.length_append, List.length_cons]
      omega
    rw [if_pos (by omega), show (⟨(dg4 y ++ (47 : UInt8) :: dg4 z).toArray⟩ : ByteArray).data.toList = dg4 y ++ (47 : UInt8) :: dg4 z from rfl, show (⟨#[47]⟩ : ByteArray).data.toList = [47] from rfl, cut_at _ _ _ b.2.2.2]
  have nn : ∀ n : Nat, n < 1001 → impl_number.f ⟨(dg4 n).toArray⟩ = some ((n : Int), true) := fun n hn => by
    unfold impl_number.f
    have : (⟨(dg4 n).toArray⟩ : ByteArray).size ≤ 4 := (nm4_all n hn).2.1
    rw [if_pos (by omega), numR_nm4 n hn]
  unfold impl_ParseLadders.f
  rw [e1, k1]
  simp only [Option.bind_some]
  rw [k2]
  simp only [Option.bind_some, nn x (by omega), nn y (by omega), nn z (by omega)]
  rw [if_pos trivial, if_pos trivial, impl_ParseLadders.j0, if_neg (by decide), hc]
  rfl
theorem bytes_eq {s t : ByteArray} (h : s.data.toList = t.data.toList) : s = t := by
  rw [← Lib.mk_data s, ← Lib.mk_data t, h]
theorem numR_true {s : ByteArray} {v : Int} (h : numR s = (v, true)) (h1 : 1 ≤ v) (h2 : v ≤ 1000) : s.data.toList = dg4 v.toNat := by
  unfold numR at h
  split at h
  · rename_i u _
    have hv := (Prod.mk.inj h).1
    have := eq_of_beq (Prod.mk.inj h).2
    subst hv
    rw [Lib.toList_data] at this
    obtain ⟨w, rfl⟩ := Int.eq_ofNat_of_zero_le (show 0 ≤ u by omega)
    rw [itoa4 (by omega)] at this
    rw [← this, Int.toNat_natCast]
  · cases (Prod.mk.inj h).2
  · cases (Prod.mk.inj h).2
theorem cut_whole (c : UInt8) (l : List UInt8) : ((Lib.cut l [c]).1.length ≤ l.length ∧ (Lib.cut l [c]).2.1.length ≤ l.length) ∧ (l = (Lib.cut l [c]).1 ++ c :: (Lib.cut l [c]).2.1 ∨ (Lib.cut l [c]).2.1 = []) := by
  unfold Lib.cut
  rcases Lib.index_spec l [c] with ⟨h, _⟩ | ⟨i, h, hi, ho, _⟩
  · rw [h, if_neg (by omega)]
    exact ⟨⟨Nat.le_refl _, Nat.zero_le _⟩, .inr rfl⟩
  · rw [h, if_pos (by omega), Int.toNat_natCast]
    refine ⟨⟨by simp [List.length_take]; omega, by simp [List.length_drop]⟩, .inl ?_⟩
    show l = l.take i ++ c :: l.drop (i + 1)
    unfold Lib.occAt at ho
    cases hd : l.drop i with
    | nil =>
      rw [hd] at ho
      cases ho
    | cons b r =>
      rw [hd] at ho
      have hb : b = c := by
        have : (c == b) = true := by simpa [List.isPrefixOf] using ho
        exact (eq_of_beq this).symm
      have hr : l.drop (i + 1) = r := by
        have : l.drop (i + 1) = (l.drop i).drop 1 := by rw [List.drop_drop]
        rw [this, hd]
        rfl
      rw [hr]
      have := List.take_append_drop i l
      rw [hd, hb] at this
      exact this.symm
theorem dg4_ne (n : Nat) : dg4 n ≠ [] := by
  unfold dg4
  split
  · simp
  · split
    · simp
    · split <;> simp
/-- What the program gives: ladders whose text it is, or nothing. -/
theorem impl_is (k : Nat) (hk : 1 ≤ k) (s : ByteArray) (hs : s.size ≤ 1048576) : ∃ v, impl_ParseLadders.f k s = some v ∧ ((∃ x y z : Int, lad x y z = true ∧ s = txI x y z ∧ v = (x, y, z, true)) ∨ (v = (0, 0, 0, false) ∧ ∀ x y z : Int, lad x y z = true → s ≠ txI x y z)) := by
  by_cases all : ∃ x y z : Int, lad x y z = true ∧ s = txI x y z
  · obtain ⟨x, y, z, h, rfl⟩ := all
    exact ⟨_, Parse_eq k hk x y z h, .inl ⟨x, y, z, h, rfl, rfl⟩⟩
  have none_ : ∀ x y z : Int, lad x y z = true → s ≠ txI x y z := fun x y z h e => all ⟨x, y, z, h, e⟩
  obtain ⟨k, rfl⟩ : ∃ m, k = m + 1 := ⟨k - 1, by omega⟩
  refine ⟨(0, 0, 0, false), ?_, .inr ⟨rfl, none_⟩⟩
  have cw := cut_whole 58 s.data.toList
  have sz : s.data.toList.length = s.size := (Lib.size_eq s).symm
  generalize hA : (Lib.cut s.data.toList [58]).1 = A at cw
  generalize hB : (Lib.cut s.data.toList [58]).2.1 = B at cw
  have cw2 := cut_whole 47 B
  generalize hC : (Lib.cut B [47]).1 = C at cw2
  generalize hD : (Lib.cut B [47]).2.1 = D at cw2
  have sA : (⟨A.toArray⟩ : ByteArray).size = A.length := by
    show A.toArray.size = _
    rw [List.size_toArray]
  have sB : (⟨B.toArray⟩ : ByteArray).size = B.length := by
    show B.toArray.size = _
    rw [List.size_toArray]
  have sC : (⟨C.toArray⟩ : ByteArray).size = C.length := by
    show C.toArray.size = _
    rw [List.size_toArray]
  have sD : (⟨D.toArray⟩ : ByteArray).size = D.length := by
    show D.toArray.size = _
    rw [List.size_toArray]
  have k1 : ∃ b, strings_Cut.f s ⟨#[58]⟩ = some (⟨A.toArray⟩, ⟨B.toArray⟩, b) := by
    unfold strings_Cut.f
    rw [if_pos (by omega), show (⟨#[58]⟩ : ByteArray).data.toList = [58] from rfl, hA, hB]
    exact ⟨_, rfl⟩
  have k2 : ∃ b, strings_Cut.f ⟨B.toArray⟩ ⟨#[47]⟩ = some (⟨C.toArray⟩, ⟨D.toArray⟩, b) := by
    unfold strings_Cut.f
    rw [if_pos (by omega), show (⟨#[47]⟩ : ByteArray).data.toList = [47] from rfl, show (⟨B.toArray⟩ : ByteArray).data.toList = B from rfl, hC, hD]
    exact ⟨_, rfl⟩
  obtain ⟨b1, k1⟩ := k1
  obtain ⟨b2, k2⟩ := k2
  unfold impl_ParseLadders.f impl_number.f
  rw [k1]
  simp only [Option.bind_some]
  rw [k2]
  simp only [Option.bind_some]
  rw [if_pos (by omega)]
  simp only [Option.bind_some]
  rw [if_pos (by omega)]
  simp only [Option.bind_some]
  rw [if_pos (by omega)]
  simp only [Option.bind_some]
  cases h1 : numR ⟨A.toArray⟩ with
  | mk a one =>
  cases h2 : numR ⟨C.toArray⟩ with
  | mk b two_ =>
  cases h3 : numR ⟨D.toArray⟩ with
  | mk c three =>
  cases one with
  | false => rfl
  | true =>
  cases two_ with
  | false => rfl
  | true =>
  cases three with
  | false => rfl
  | true =>
  show impl_ParseLadders.j0 (k + 1) a b c (!true) = _
  rw [impl_ParseLadders.j0, if_neg (by decide), checked_eq]
  cases ht : lad a b c with
  | false => rfl
  | true =>
    exfalso
    obtain ⟨ha, hb, hc⟩ := lad_of ht
    have g1 : A = dg4 a.toNat := numR_true h1 (by omega) (by omega)
    have g2 : C = dg4 b.toNat := numR_true h2 (by omega) (by omega)
    have g3 : D = dg4 c.toNat := numR_true h3 (by omega) (by omega)
    have w2 : B = C ++ 47 :: D := by
      rcases cw2.2 with h | h
      · exact h
      · exact absurd (g3.symm.trans h) (dg4_ne _)
    have w1 : s.data.toList = A ++ 58 :: B := by
      rcases cw.2 with h | h
      · exact h
      · rw [h] at w2
        simp at w2
    refine none_ a b c ht (bytes_eq ?_)
    rw [w1, w2, g1, g2, g3]
    unfold txI
    rw [tx_list]
theorem read_all : ∀ w : Nat, w < 1001 → spec_l1Read.f 10 (nm4 w) = some (w : Int) := by decide +kernel
theorem read_mono (s : ByteArray) {z : Int} (h : spec_l1Read.f 10 s = some z) : ∀ d, spec_l1Read.f (10 + d) s = some z := by
  intro d
  induction d with
  | zero => exact h
  | succ d ih => exact spec_l1Read.mono _ _ _ ih
theorem read_nm (w : Nat) (h : w < 1001) (k : Nat) (hk : 10 ≤ k) : spec_l1Read.f k ⟨(dg4 w).toArray⟩ = some (w : Int) := by
  have := read_mono _ (read_all w h) (k - 10)
  rwa [show 10 + (k - 10) = k by omega] at this
theorem spec_reads (x y z : Int) (h : lad x y z = true) (k : Nat) (hk : 1048700 ≤ k) : spec_ParseLadders.f k (txI x y z) = some (x, y, z, true) := by
  obtain ⟨hx, hy, hz⟩ := lad_of h
  have ht := clText_eq (k - 1) (by omega) h
  have hg := clGood_eq x y z
  rw [h] at hg
  obtain ⟨x, rfl⟩ := Int.eq_ofNat_of_zero_le (show 0 ≤ x by omega)
  obtain ⟨y, rfl⟩ := Int.eq_ofNat_of_zero_le (show 0 ≤ y by omega)
  obtain ⟨z, rfl⟩ := Int.eq_ofNat_of_zero_le (show 0 ≤ z by omega)
  have a := nm4_all x (by omega)
  have b := nm4_all y (by omega)
  have c := nm4_all z (by omega)
  have e1 : txI (x : Int) (y : Int) (z : Int) = tx x y z := rfl
  rw [e1] at ht
  have sz : (tx x y z).size ≤ 14 := by
    unfold tx
    simp only [ByteArray.size_append, c_size, s_size]
    have := a.2.1
    have := b.2.1
    have := c.2.1
    omega
  have l1 : (dg4 y).length ≤ 4 := b.2.1
  have l2 : (dg4 z).length ≤ 4 := c.2.1
  have n1 : (58 : UInt8) ∉ dg4 y ++ (47 : UInt8) :: dg4 z := fun m => by
    rcases List.mem_append.1 m with m | m
    · exact b.2.2.1 m
    · rcases List.mem_cons.1 m with m | m
      · exact absurd m (by decide)
      · exact c.2.2.1 m
  obtain ⟨k, rfl⟩ : ∃ m, k = m + 1 := ⟨k - 1, by omega⟩
  have s1 : spec_l1Split.f (k + 1) (tx x y z) 58 = some [⟨(dg4 x).toArray⟩, ⟨(dg4 y ++ (47 : UInt8) :: dg4 z).toArray⟩] :=
    split_two (tx x y z) 58 (dg4 x) (dg4 y ++ (47 : UInt8) :: dg4 z) (tx_list x y z) a.2.2.1 n1 (by omega) (k + 1) (by omega)
  have s2 : spec_l1Split.f k ⟨(dg4 y ++ (47 : UInt8) :: dg4 z).toArray⟩ 47 = some [⟨(dg4 y).toArray⟩, ⟨(dg4 z).toArray⟩] :=
    split_two ⟨(dg4 y ++ (47 : UInt8) :: dg4 z).toArray⟩ 47 (dg4 y) (dg4 z) rfl b.2.2.2 c.2.2.2 (by
      show (dg4 y ++ (47 : UInt8) :: dg4 z).toArray.size ≤ 1048576
      simp only [List.size_toArray, List.length_append, List.length_cons]
      omega) k (by omega)
  unfold spec_ParseLadders.f spec_clParse.f
  rw [e1, s1]
  simp only [Option.bind_some]
  have q0 : ∀ p q : ByteArray, rdOf ByteArray.empty [p, q] 0 = p := fun _ _ => rfl
  have q1 : ∀ p q : ByteArray, rdOf ByteArray.empty [p, q] 1 = q := fun _ _ => rfl
  have len2 : ∀ p q : ByteArray, (([p, q] : List ByteArray).length : Int) = 2 := fun _ _ => rfl
  rw [if_neg (by omega), len2]
  have : ((2 : Int) != 2) = false := rfl
  rw [this, spec_clParse.j0, if_neg (by decide), len2, if_pos (by omega), q1, s2]
  simp only [Option.bind_some]
  rw [len2, if_pos rfl, if_pos (by omega), q0, read_nm x (by omega) k (by omega)]
  simp only [Option.bind_some]
  rw [if_pos (by omega), q0, read_nm y (by omega) k (by omega)]
  simp only [Option.bind_some]
  rw [if_pos (by omega), q1, read_nm z (by omega) k (by omega)]
  simp only [Option.bind_some]
  rw [hg]
  simp only [Option.bind_some]
  rw [if_pos trivial, show k = k + 1 - 1 from rfl, ht]
  simp only [Option.bind_some]
  have : ((tx x y z).toList == (tx x y z).toList) = true := beq_self_eq_true _
  rw [this, if_pos rfl]
/-- What the reference gives: ladders whose text it is, or nothing. -/
theorem spec_ends (s : ByteArray) (hs : s.size ≤ 1048576) : ∃ v, (∀ k, 1048700 ≤ k → spec_ParseLadders.f k s = some v) ∧ ((∃ x y z : Int, lad x y z = true ∧ s = txI x y z ∧ v = (x, y, z, true)) ∨ v = (0, 0, 0, false)) := by
  obtain ⟨parts, hb, hp⟩ := split_f s hs 58
  by_cases c5 : (s.size : Int) > 14
  · refine ⟨(0, 0, 0, false), fun k hk => ?_, .inr rfl⟩
    obtain ⟨k, rfl⟩ : ∃ m, k = m + 1 := ⟨k - 1, by omega⟩
    unfold spec_ParseLadders.f spec_clParse.f
    rw [hp _ (by omega)]
    simp only [Option.bind_some]
    rw [if_pos c5, spec_clParse.j0, if_pos rfl]
    rfl
  by_cases c2 : (parts.length : Int) = 2
  · obtain ⟨p, q, rfl⟩ : ∃ p q, parts = [p, q] := by
      match parts, c2 with
      | [p, q], _ => exact ⟨p, q, rfl⟩
      | [], h => simp at h
      | [_], h => simp at h
      | _ :: _ :: _ :: l, h => simp only [List.length_cons] at h; omega
    obtain ⟨more, hb2, hp2⟩ := split_f q (Nat.le_trans (hb q (by simp)) hs) 47
    have q0 : ∀ p q : ByteArray, rdOf ByteArray.empty [p, q] 0 = p := fun _ _ => rfl
    have q1 : ∀ p q : ByteArray, rdOf ByteArray.empty [p, q] 1 = q := fun _ _ => rfl
    have len2 : ∀ p q : ByteArray, (([p, q] : List ByteArray).length : Int) = 2 := fun _ _ => rfl
    have ne2 : ((2 : Int) != 2) = false := rfl
    by_cases c3 : (more.length : Int) = 2
    · obtain ⟨u, t, rfl⟩ : ∃ p q, more = [p, q] := by
        match more, c3 with
        | [p, q], _ => exact ⟨p, q, rfl⟩
        | [], h => simp at h
        | [_], h => simp at h
        | _ :: _ :: _ :: l, h => simp only [List.length_cons] at h; omega
      obtain ⟨a, ha⟩ := read_f p
      obtain ⟨b, hb'⟩ := read_f u
      obtain ⟨c, hc⟩ := read_f t
      have go : ∀ k, 1048700 ≤ k → spec_clParse.f k s = (if lad a b c = true then ((spec_clText.f (k - 1) a b c).bind fun t396 => (some (a, b, c, (t396.toList == s.toList)))) else (some (a, b, c, false))) := by
        intro k hk
        obtain ⟨k, rfl⟩ : ∃ m, k = m + 1 := ⟨k - 1, by omega⟩
        unfold spec_clParse.f
        rw [hp _ (by omega)]
        simp only [Option.bind_some]
        rw [if_neg c5, len2, ne2, spec_clParse.j0, if_neg (by decide), len2, if_pos (by omega), q1, hp2 k (by omega)]
        simp only [Option.bind_some]
        rw [len2, if_pos rfl, if_pos (by omega), q0, ha k (by omega)]
        simp only [Option.bind_some]
        rw [if_pos (by omega), q0, hb' k (by omega)]
        simp only [Option.bind_some]
        rw [if_pos (by omega), q1, hc k (by omega)]
        simp only [Option.bind_some]
        rw [clGood_eq]
        rfl
      cases ht : lad a b c with
      | false =>
        refine ⟨(0, 0, 0, false), fun k hk => ?_, .inr rfl⟩
        unfold spec_ParseLadders.f
        rw [go k hk, ht, if_neg (by decide)]
        rfl
      | true =>
        cases he : ((txI a b c).toList == s.toList) with
        | false =>
          refine ⟨(0, 0, 0, false), fun k hk => ?_, .inr rfl⟩
          unfold spec_ParseLadders.f
          rw [go k hk, ht, if_pos rfl, clText_eq (k - 1) (by omega) ht]
          simp only [Option.bind_some]
          rw [he, if_neg (by decide)]
        | true =>
          refine ⟨(a, b, c, true), fun k hk => ?_, .inl ⟨a, b, c, ht, (toList_inj (eq_of_beq he)).symm, rfl⟩⟩
          unfold spec_ParseLadders.f
          rw [go k hk, ht, if_pos rfl, clText_eq (k - 1) (by omega) ht]
          simp only [Option.bind_some]
          rw [he, if_pos rfl]
    · refine ⟨(0, 0, 0, false), fun k hk => ?_, .inr rfl⟩
      obtain ⟨k, rfl⟩ : ∃ m, k = m + 1 := ⟨k - 1, by omega⟩
      unfold spec_ParseLadders.f spec_clParse.f
      rw [hp _ (by omega)]
      simp only [Option.bind_some]
      rw [if_neg c5, len2, ne2, spec_clParse.j0, if_neg (by decide), len2, if_pos (by omega), q1, hp2 k (by omega)]
      simp only [Option.bind_some]
      rw [if_neg c3]
      rfl
  · refine ⟨(0, 0, 0, false), fun k hk => ?_, .inr rfl⟩
    obtain ⟨k, rfl⟩ : ∃ m, k = m + 1 := ⟨k - 1, by omega⟩
    unfold spec_ParseLadders.f spec_clParse.f
    rw [hp _ (by omega)]
    simp only [Option.bind_some]
    have : ((parts.length : Int) != 2) = true := by simpa using c2
    rw [if_neg c5, this, spec_clParse.j0, if_pos rfl]
    rfl
/-- Both read a text alike. -/
theorem parse_same (s : ByteArray) (hs : s.size ≤ 1048576) : ∃ v, (∀ k, 1048700 ≤ k → impl_ParseLadders.f k s = some v ∧ spec_ParseLadders.f k s = some v) ∧ ((∃ x y z : Int, lad x y z = true ∧ s = txI x y z ∧ v = (x, y, z, true)) ∨ v = (0, 0, 0, false)) := by
  obtain ⟨v, h1, hv⟩ := spec_ends s hs
  have same : ∀ k, 1048700 ≤ k → impl_ParseLadders.f k s = some v := fun k hk => by
    obtain ⟨u, h2, hu⟩ := impl_is k (by omega) s hs
    rw [h2]
    rcases hu with ⟨x, y, z, h, e, rfl⟩ | ⟨rfl, hn⟩
    · have := spec_reads x y z h k hk
      rw [← e, h1 k hk] at this
      exact this.symm
    · rcases hv with ⟨x, y, z, h, e, rfl⟩ | rfl
      · exact absurd e (hn x y z h)
      · rfl
  exact ⟨v, fun k hk => ⟨same k hk, h1 k hk⟩, hv⟩

/-- The heights of whole ladders in a corridor, from d on, m steps. -/
noncomputable def hts (w M : Int) : Nat → Int → List Int
  | 0, _ => []
  | m + 1, d => if isq (w * w + d * d) && decide (w * w + d * d ≤ M * M) then d :: hts w M m (d + 1) else hts w M m (d + 1)
theorem hts_length (w M : Int) : ∀ (m : Nat) (d : Int), (hts w M m d).length ≤ m := by
  intro m
  induction m with
  | zero => intro d; exact Nat.le_refl _
  | succ m ih =>
    intro d
    have := ih (d + 1)
    unfold hts
    split
    · simp only [List.length_cons]
      omega
    · omega
theorem hts_ok (w M : Int) : ∀ (m : Nat) (d : Int), ∀ h ∈ hts w M m d, d ≤ h ∧ h < d + m ∧ isq (w * w + h * h) = true ∧ w * w + h * h ≤ M * M := by
  intro m
  induction m with
  | zero => intro d h hh; cases hh
  | succ m ih =>
    intro d h hh
    unfold hts at hh
    cases c : isq (w * w + d * d) && decide (w * w + d * d ≤ M * M) with
    | true =>
      rw [c, if_pos rfl] at hh
      rcases List.mem_cons.1 hh with e | e
      · subst e
        have := (Bool.and_eq_true_iff.1 c)
        exact ⟨Int.le_refl _, by omega, this.1, of_decide_eq_true this.2⟩
      · have := ih (d + 1) h e
        exact ⟨by omega, by omega, this.2.2⟩
    | false =>
      rw [c, if_neg (by decide)] at hh
      have := ih (d + 1) h hh
      exact ⟨by omega, by omega, this.2.2⟩
theorem sq_up {a b : Int} (ha : 0 ≤ a) (h : a ≤ b) : a * a ≤ b * b := Int.mul_le_mul h h ha (by omega)
theorem hts_nil (w M : Int) : ∀ (m : Nat) (d : Int), 1 ≤ d → ¬ w * w + d * d ≤ M * M → hts w M m d = [] := by
  intro m
  induction m with
  | zero => intro d _ _; rfl
  | succ m ih =>
    intro d h1 hn
    have := sq_up (a := d) (b := d + 1) (by omega) (by omega)
    unfold hts
    rw [decide_eq_false hn, Bool.and_false, if_neg (by decide)]
    exact ih (d + 1) (by omega) (by omega)
/-- The rows of one ladder with each of a list. -/
def rws (w h : Int) : List Int → List S25
  | [] => []
  | r :: l => if Int.tmod (h * r) (h + r) = 0 then ⟨w, h, r⟩ :: rws w h l else rws w h l
theorem rws_length (w h : Int) : ∀ l : List Int, (rws w h l).length ≤ l.length := by
  intro l
  induction l with
  | nil => exact Nat.le_refl _
  | cons r l ih =>
    unfold rws
    split <;> simp only [List.length_cons] <;> omega
theorem rws_ok (w h : Int) : ∀ l : List Int, ∀ x ∈ rws w h l, ∃ r ∈ l, x = ⟨w, h, r⟩ ∧ Int.tmod (h * r) (h + r) = 0 := by
  intro l
  induction l with
  | nil => intro x hx; cases hx
  | cons r l ih =>
    intro x hx
    unfold rws at hx
    by_cases c : Int.tmod (h * r) (h + r) = 0
    · rw [if_pos c] at hx
      rcases List.mem_cons.1 hx with e | e
      · exact ⟨r, by simp, e, c⟩
      · obtain ⟨q, m, e, c⟩ := ih x e
        exact ⟨q, by simp [m], e, c⟩
    · rw [if_neg c] at hx
      obtain ⟨q, m, e, c⟩ := ih x hx
      exact ⟨q, by simp [m], e, c⟩
/-- The rows of each ladder with those up to it. -/
def cols (w : Int) (pre : List Int) : List Int → List S25
  | [] => []
  | h :: l => rws w h (pre ++ [h]) ++ cols w (pre ++ [h]) l
theorem cols_length (w : Int) : ∀ (l pre : List Int), (cols w pre l).length ≤ l.length * (pre.length + l.length) := by
  intro l
  induction l with
  | nil => intro pre; exact Nat.zero_le _
  | cons h l ih =>
    intro pre
    have a := rws_length w h (pre ++ [h])
    have b := ih (pre ++ [h])
    unfold cols
    simp only [List.length_append, List.length_cons, List.length_nil] at a b ⊢
    have : (l.length + 1) * (pre.length + (l.length + 1)) = l.length * (pre.length + (0 + 1) + l.length) + (pre.length + l.length + 1) := by
      rw [Nat.add_mul, Nat.one_mul]
      congr 1
      congr 1
      omega
    omega
/-- All ladders with a whole crossing, from wide w on. -/
noncomputable def alls (M : Int) : Nat → Int → List S25
  | 0, _ => []
  | m + 1, w => cols w [] (hts w M (M - 1).toNat 1) ++ alls M m (w + 1)
/-! ### the program's loops -/
theorem iw_l3 (M w : Int) (hs : List Int) (len i left : Int) (hl : 1 ≤ left ∧ left ≤ 1000) (L : List Int) (hL : ∀ x ∈ L, 1 ≤ x ∧ x ≤ 1000) (hn : L.length ≤ 1000) (hi : 0 ≤ i ∧ i ≤ 1000) : ∀ (rest pre : List Int) (k : Nat) (acc : List S25), L = pre ++ rest → rest.length < k → acc.length + rest.length ≤ 100000000 →
    ∃ k', k ≤ k' + rest.length + 1 ∧ k' < k ∧ impl_WholeCrossings.l3 k M acc w hs left hs len i L (L.length : Int) (pre.length : Int) = impl_WholeCrossings.l2 k' M (acc ++ rws w left rest) w hs hs len (i + 1) := by
  intro rest
  induction rest with
  | nil =>
    intro pre k acc e hk ha
    obtain ⟨k, rfl⟩ : ∃ m, k = m + 1 := ⟨k - 1, by omega⟩
    refine ⟨k, by simp, by omega, ?_⟩
    rw [impl_WholeCrossings.l3, if_neg (by rw [e]; simp), wrap_id (n := i + 1) (by omega) (by omega)]
    simp [rws]
  | cons r rest ih =>
    intro pre k acc e hk ha
    obtain ⟨k, rfl⟩ : ∃ m, k = m + 1 := ⟨k - 1, by omega⟩
    simp only [List.length_cons] at hk ha
    have hr : 1 ≤ r ∧ r ≤ 1000 := hL r (by rw [e]; simp)
    have len_ : L.length = pre.length + (rest.length + 1) := by rw [e]; simp
    have rd_ : rd L (pre.length : Int) = r := by
      unfold rd
      rw [Int.toNat_natCast, e]
      simp
    have m := mul_in (a := left) (b := r) (by omega) hl.2 (by omega) hr.2
    have w1 : wrap64 (((pre.length : Nat) : Int) + 1) = (((pre ++ [r]).length : Nat) : Int) := by
      rw [wrap_id (by omega) (by omega)]
      simp
    have e' : L = (pre ++ [r]) ++ rest := by rw [e]; simp
    rw [impl_WholeCrossings.l3, if_pos (by omega), if_pos (by omega), if_pos (by omega), rd_, wrap_id (n := left + r) (by omega) (by omega), wrap_id (n := left * r) (by omega) (by omega), if_neg (by omega), w1]
    by_cases c : Int.tmod (left * r) (left + r) = 0
    · obtain ⟨k', h1, h2, h3⟩ := ih (pre ++ [r]) k (acc ++ [⟨w, left, r⟩]) e' (by omega) (by simp only [List.length_append, List.length_cons, List.length_nil]; omega)
      refine ⟨k', by simp only [List.length_cons]; omega, by omega, ?_⟩
      rw [if_pos c, if_pos (by omega), h3]
      simp [rws, c]
    · obtain ⟨k', h1, h2, h3⟩ := ih (pre ++ [r]) k acc e' (by omega) (by omega)
      refine ⟨k', by simp only [List.length_cons]; omega, by omega, ?_⟩
      rw [if_neg c, h3]
      simp [rws, c]
theorem iw_l2 (M w : Int) (hw : 0 ≤ w ∧ w ≤ 1000) (hs : List Int) (hL : ∀ x ∈ hs, 1 ≤ x ∧ x ≤ 1000) (hn : hs.length ≤ 150) : ∀ (rest pre : List Int) (k : Nat) (acc : List S25), hs = pre ++ rest → rest.length * 200 < k → acc.length + rest.length * 200 ≤ 100000000 →
    ∃ k', k ≤ k' + rest.length * 200 + 1 ∧ k' < k ∧ impl_WholeCrossings.l2 k M acc w hs hs (hs.length : Int) (pre.length : Int) = impl_WholeCrossings.l0 k' M (acc ++ cols w pre rest) (w + 1) := by
  intro rest
  induction rest with
  | nil =>
    intro pre k acc e hk ha
    obtain ⟨k, rfl⟩ : ∃ m, k = m + 1 := ⟨k - 1, by omega⟩
    refine ⟨k, by simp, by omega, ?_⟩
    rw [impl_WholeCrossings.l2, if_neg (by rw [e]; simp), wrap_id (n := w + 1) (by omega) (by omega)]
    simp [cols]
  | cons h rest ih =>
    intro pre k acc e hk ha
    obtain ⟨k, rfl⟩ : ∃ m, k = m + 1 := ⟨k - 1, by omega⟩
    simp only [List.length_cons] at hk ha
    have hr : 1 ≤ h ∧ h ≤ 1000 := hL h (by rw [e]; simp)
    have len_ : hs.length = pre.length + (rest.length + 1) := by rw [e]; simp
    have rd_ : rd hs (pre.length : Int) = h := by
      unfold rd
      rw [Int.toNat_natCast, e]
      simp
    have w1 : wrap64 (((pre.length : Nat) : Int) + 1) = (pre.length : Int) + 1 := wrap_id (by omega) (by omega)
    have e' : hs = (pre ++ [h]) ++ rest := by rw [e]; simp
    have tk : hs.take ((pre.length : Int) + 1).toNat = pre ++ [h] := by
      rw [show ((pre.length : Int) + 1).toNat = pre.length + 1 by omega, e']
      exact List.take_left' (by simp)
    have lenT : (pre ++ [h]).length = pre.length + 1 := by simp
    obtain ⟨k1, a1, a2, a3⟩ := iw_l3 M w hs (hs.length : Int) (pre.length : Int) h hr (pre ++ [h]) (fun x hx => hL x (by rw [e']; exact List.mem_append_left _ hx)) (by omega) (by omega) (pre ++ [h]) [] k acc rfl (by omega) (by omega)
    have la := rws_length w h (pre ++ [h])
    obtain ⟨k2, b1, b2, b3⟩ := ih (pre ++ [h]) k1 (acc ++ rws w h (pre ++ [h])) e' (by omega) (by simp only [List.length_append] at *; omega)
    refine ⟨k2, by simp only [List.length_cons]; omega, by omega, ?_⟩
    rw [impl_WholeCrossings.l2, if_pos (by omega), if_pos (by omega), if_pos (by omega), w1, if_pos (by omega), if_pos (by omega), tk, rd_]
    simp only [Option.bind_some]
    have z0 : (([] : List Int).length : Int) = 0 := rfl
    rw [z0] at a3
    rw [a3]
    have p1 : (pre.length : Int) + 1 = ((pre ++ [h]).length : Int) := by omega
    rw [p1, b3]
    simp [cols]
theorem iw_l1 (B : Nat) (hB : 3000000000 ≤ B) (M w : Int) (hM : 1 ≤ M ∧ M ≤ 150) (hw : 1 ≤ w ∧ w < M) : ∀ (m k : Nat) (acc : List S25) (hs : List Int) (d : Int), d + m = M → m < k → 1 ≤ d → B + m < k → hs.length + m ≤ 1000 →
    ∃ k', k ≤ k' + m + 1 ∧ k' < k ∧ impl_WholeCrossings.l1 k M acc w hs d = impl_WholeCrossings.l2 k' M acc w (hs ++ hts w M m d) (hs ++ hts w M m d) ((hs ++ hts w M m d).length : Int) 0 := by
  have mM := mul_in (a := M) (b := M) (by omega) hM.2 (by omega) hM.2
  have mw := mul_in (a := w) (b := w) (by omega) (show w ≤ 150 by omega) (by omega) (show w ≤ 150 by omega)
  have mw1 : 1 * 1 ≤ w * w := Int.mul_le_mul hw.1 hw.1 (by omega) (by omega)
  intro m
  induction m with
  | zero =>
    intro k acc hs d h1 hk hd hk2 hl
    obtain ⟨k, rfl⟩ : ∃ m, k = m + 1 := ⟨k - 1, by omega⟩
    have : d = M := by omega
    subst this
    refine ⟨k, by omega, by omega, ?_⟩
    rw [impl_WholeCrossings.l1, wrap_id (n := w * w) (by omega) (by omega), wrap_id (n := d * d) (by omega) (by omega), wrap_id (n := w * w + d * d) (by omega) (by omega), if_neg (by omega)]
    simp [hts]
  | succ m ih =>
    intro k acc hs d h1 hk hd hk2 hl
    obtain ⟨k, rfl⟩ : ∃ m, k = m + 1 := ⟨k - 1, by omega⟩
    have md := mul_in (a := d) (b := d) (by omega) (show d ≤ 150 by omega) (by omega) (show d ≤ 150 by omega)
    rw [impl_WholeCrossings.l1, wrap_id (n := w * w) (by omega) (by omega), wrap_id (n := d * d) (by omega) (by omega), wrap_id (n := M * M) (by omega) (by omega), wrap_id (n := w * w + d * d) (by omega) (by omega), wrap_id (n := d + 1) (by omega) (by omega)]
    by_cases c : w * w + d * d ≤ M * M
    · obtain ⟨r, er, _⟩ := rootOf_is k (by omega) (w * w + d * d) (by omega)
      rw [if_pos c, er]
      simp only [Option.bind_some]
      cases q : isq (w * w + d * d) with
      | true =>
        obtain ⟨k', a1, a2, a3⟩ := ih k acc (hs ++ [d]) (d + 1) (by omega) (by omega) (by omega) (by omega) (by simp only [List.length_append, List.length_cons, List.length_nil]; omega)
        refine ⟨k', by omega, by omega, ?_⟩
        rw [if_pos rfl, if_pos (by omega), a3]
        simp [hts, q, c]
      | false =>
        obtain ⟨k', a1, a2, a3⟩ := ih k acc hs (d + 1) (by omega) (by omega) (by omega) (by omega) (by omega)
        refine ⟨k', by omega, by omega, ?_⟩
        rw [if_neg (by decide), a3]
        simp [hts, q]
    · refine ⟨k, by omega, by omega, ?_⟩
      rw [if_neg c, hts_nil w M (m + 1) d hd c, List.append_nil]
theorem iw_l0 (B C : Nat) (hB : 3000000000 ≤ B) (hC : 31000 ≤ C) (f : Nat → Nat) (hf : ∀ m, f (m + 1) = f m + C) (M : Int) (hM : 1 ≤ M ∧ M ≤ 150) : ∀ (m k : Nat) (acc : List S25) (w : Int), w + m = M → 1 ≤ w → B + f m < k → acc.length + f m ≤ 10000000 →
    impl_WholeCrossings.l0 k M acc w = some (acc ++ alls M m w, true) := by
  intro m
  induction m with
  | zero =>
    intro k acc w h1 hw hk ha
    obtain ⟨k, rfl⟩ : ∃ m, k = m + 1 := ⟨k - 1, by omega⟩
    rw [impl_WholeCrossings.l0, if_neg (by omega)]
    simp [alls]
  | succ m ih =>
    intro k acc w h1 hw hk ha
    rw [hf] at hk ha
    obtain ⟨k, rfl⟩ : ∃ m, k = m + 1 := ⟨k - 1, by omega⟩
    have hl := hts_length w M (M - 1).toNat 1
    have ho := hts_ok w M (M - 1).toNat 1
    obtain ⟨k1, a1, a2, a3⟩ := iw_l1 B hB M w hM (by omega) (M - 1).toNat k acc [] 1 (by omega) (by omega) (by omega) (by omega) (by simp only [List.length_nil]; omega)
    rw [List.nil_append] at a3
    obtain ⟨k2, b1, b2, b3⟩ := iw_l2 M w (by omega) (hts w M (M - 1).toNat 1) (fun x hx => by have := ho x hx; omega) (by omega) (hts w M (M - 1).toNat 1) [] k1 acc rfl (by omega) (by omega)
    have cl := cols_length w (hts w M (M - 1).toNat 1) []
    have cl2 : (cols w [] (hts w M (M - 1).toNat 1)).length ≤ 22500 := by
      refine Nat.le_trans cl ?_
      simp only [List.length_nil, Nat.zero_add]
      have : (hts w M (M - 1).toNat 1).length * (hts w M (M - 1).toNat 1).length ≤ 150 * 150 := Nat.mul_le_mul (by omega) (by omega)
      omega
    have z0 : (([] : List Int).length : Int) = 0 := rfl
    rw [z0] at b3
    have q1 : B + f m < k2 := by
      have q2 : (M - 1).toNat ≤ 149 := by omega
      generalize (hts w M (M - 1).toNat 1).length = n at hl b1
      generalize (M - 1).toNat = n2 at q2 hl a1
      have q3 : n * 200 ≤ 29800 := by omega
      have q4 : k ≤ k2 + n * 200 + 1 + 150 := by omega
      clear ho a3 b3 cl cl2 ih ha hl a1 b1 a2 b2
      omega
    have step := ih k2 (acc ++ cols w [] (hts w M (M - 1).toNat 1)) (w + 1) (by omega) (by omega) q1 (by rw [List.length_append]; omega)
    rw [impl_WholeCrossings.l0, if_pos (by omega), a3, b3, step]
    simp [alls]
theorem sw_l3 (M w : Int) (hs : List Int) (len i left : Int) (hl : 1 ≤ left ∧ left ≤ 1000) (L : List Int) (hL : ∀ x ∈ L, 1 ≤ x ∧ x ≤ 1000) (hn : L.length ≤ 1000) (hi : 0 ≤ i ∧ i ≤ 1000) : ∀ (rest pre : List Int) (k : Nat) (acc : List S25), L = pre ++ rest → rest.length < k → acc.length + rest.length ≤ 100000000 →
    ∃ k', k ≤ k' + rest.length + 1 ∧ k' < k ∧ spec_clAll.l3 k M acc w hs left hs len i L (L.length : Int) (pre.length : Int) = spec_clAll.l2 k' M (acc ++ rws w left rest) w hs hs len (i + 1) := by
  intro rest
  induction rest with
  | nil =>
    intro pre k acc e hk ha
    obtain ⟨k, rfl⟩ : ∃ m, k = m + 1 := ⟨k - 1, by omega⟩
    refine ⟨k, by simp, by omega, ?_⟩
    rw [spec_clAll.l3, if_neg (by rw [e]; simp), wrap_id (n := i + 1) (by omega) (by omega)]
    simp [rws]
  | cons r rest ih =>
    intro pre k acc e hk ha
    obtain ⟨k, rfl⟩ : ∃ m, k = m + 1 := ⟨k - 1, by omega⟩
    simp only [List.length_cons] at hk ha
    have hr : 1 ≤ r ∧ r ≤ 1000 := hL r (by rw [e]; simp)
    have len_ : L.length = pre.length + (rest.length + 1) := by rw [e]; simp
    have rd_ : rd L (pre.length : Int) = r := by
      unfold rd
      rw [Int.toNat_natCast, e]
      simp
    have m := mul_in (a := left) (b := r) (by omega) hl.2 (by omega) hr.2
    have w1 : wrap64 (((pre.length : Nat) : Int) + 1) = (((pre ++ [r]).length : Nat) : Int) := by
      rw [wrap_id (by omega) (by omega)]
      simp
    have e' : L = (pre ++ [r]) ++ rest := by rw [e]; simp
    rw [spec_clAll.l3, if_pos (by omega), if_pos (by omega), if_pos (by omega), rd_, wrap_id (n := left + r) (by omega) (by omega), wrap_id (n := left * r) (by omega) (by omega), if_neg (by omega), w1]
    by_cases c : Int.tmod (left * r) (left + r) = 0
    · obtain ⟨k', h1, h2, h3⟩ := ih (pre ++ [r]) k (acc ++ [⟨w, left, r⟩]) e' (by omega) (by simp only [List.length_append, List.length_cons, List.length_nil]; omega)
      refine ⟨k', by simp only [List.length_cons]; omega, by omega, ?_⟩
      rw [if_pos c, if_pos (by omega), h3]
      simp [rws, c]
    · obtain ⟨k', h1, h2, h3⟩ := ih (pre ++ [r]) k acc e' (by omega) (by omega)
      refine ⟨k', by simp only [List.length_cons]; omega, by omega, ?_⟩
      rw [if_neg c, h3]
      simp [rws, c]
theorem sw_l2 (M w : Int) (hw : 0 ≤ w ∧ w ≤ 1000) (hs : List Int) (hL : ∀ x ∈ hs, 1 ≤ x ∧ x ≤ 1000) (hn : hs.length ≤ 150) : ∀ (rest pre : List Int) (k : Nat) (acc : List S25), hs = pre ++ rest → rest.length * 200 < k → acc.length + rest.length * 200 ≤ 100000000 →
    ∃ k', k ≤ k' + rest.length * 200 + 1 ∧ k' < k ∧ spec_clAll.l2 k M acc w hs hs (hs.length : Int) (pre.length : Int) = spec_clAll.l0 k' M (acc ++ cols w pre rest) (w + 1) := by
  intro rest
  induction rest with
  | nil =>
    intro pre k acc e hk ha
    obtain ⟨k, rfl⟩ : ∃ m, k = m + 1 := ⟨k - 1, by omega⟩
    refine ⟨k, by simp, by omega, ?_⟩
    rw [spec_clAll.l2, if_neg (by rw [e]; simp), wrap_id (n := w + 1) (by omega) (by omega)]
    simp [cols]
  | cons h rest ih =>
    intro pre k acc e hk ha
    obtain ⟨k, rfl⟩ : ∃ m, k = m + 1 := ⟨k - 1, by omega⟩
    simp only [List.length_cons] at hk ha
    have hr : 1 ≤ h ∧ h ≤ 1000 := hL h (by rw [e]; simp)
    have len_ : hs.length = pre.length + (rest.length + 1) := by rw [e]; simp
    have rd_ : rd hs (pre.length : Int) = h := by
      unfold rd
      rw [Int.toNat_natCast, e]
      simp
    have w1 : wrap64 (((pre.length : Nat) : Int) + 1) = (pre.length : Int) + 1 := wrap_id (by omega) (by omega)
    have e' : hs = (pre ++ [h]) ++ rest := by rw [e]; simp
    have tk : hs.take ((pre.length : Int) + 1).toNat = pre ++ [h] := by
      rw [show ((pre.length : Int) + 1).toNat = pre.length + 1 by omega, e']
      exact List.take_left' (by simp)
    have lenT : (pre ++ [h]).length = pre.length + 1 := by simp
    obtain ⟨k1, a1, a2, a3⟩ := sw_l3 M w hs (hs.length : Int) (pre.length : Int) h hr (pre ++ [h]) (fun x hx => hL x (by rw [e']; exact List.mem_append_left _ hx)) (by omega) (by omega) (pre ++ [h]) [] k acc rfl (by omega) (by omega)
    have la := rws_length w h (pre ++ [h])
    obtain ⟨k2, b1, b2, b3⟩ := ih (pre ++ [h]) k1 (acc ++ rws w h (pre ++ [h])) e' (by omega) (by simp only [List.length_append] at *; omega)
    refine ⟨k2, by simp only [List.length_cons]; omega, by omega, ?_⟩
    rw [spec_clAll.l2, if_pos (by omega), if_pos (by omega), if_pos (by omega), w1, if_pos (by omega), if_pos (by omega), tk, rd_]
    simp only [Option.bind_some]
    have z0 : (([] : List Int).length : Int) = 0 := rfl
    rw [z0] at a3
    rw [a3]
    have p1 : (pre.length : Int) + 1 = ((pre ++ [h]).length : Int) := by omega
    rw [p1, b3]
    simp [cols]
theorem sw_l1 (B : Nat) (hB : 3000000000 ≤ B) (M w : Int) (hM : 1 ≤ M ∧ M ≤ 150) (hw : 1 ≤ w ∧ w < M) : ∀ (m k : Nat) (acc : List S25) (hs : List Int) (d : Int), d + m = M → m < k → 1 ≤ d → B + m < k → hs.length + m ≤ 1000 →
    ∃ k', k ≤ k' + m + 1 ∧ k' < k ∧ spec_clAll.l1 k M acc w hs d = spec_clAll.l2 k' M acc w (hs ++ hts w M m d) (hs ++ hts w M m d) ((hs ++ hts w M m d).length : Int) 0 := by
  have mM := mul_in (a := M) (b := M) (by omega) hM.2 (by omega) hM.2
  have mw := mul_in (a := w) (b := w) (by omega) (show w ≤ 150 by omega) (by omega) (show w ≤ 150 by omega)
  intro m
  induction m with
  | zero =>
    intro k acc hs d h1 hk hd hk2 hl
    obtain ⟨k, rfl⟩ : ∃ m, k = m + 1 := ⟨k - 1, by omega⟩
    refine ⟨k, by omega, by omega, ?_⟩
    rw [spec_clAll.l1, if_neg (by omega)]
    simp [hts]
  | succ m ih =>
    intro k acc hs d h1 hk hd hk2 hl
    obtain ⟨k, rfl⟩ : ∃ m, k = m + 1 := ⟨k - 1, by omega⟩
    have md := mul_in (a := d) (b := d) (by omega) (show d ≤ 150 by omega) (by omega) (show d ≤ 150 by omega)
    obtain ⟨s, es, s0, sq, hr⟩ := clRoot_is k (by omega) (w * w + d * d) (by omega)
    rw [spec_clAll.l1, if_pos (by omega), wrap_id (n := w * w) (by omega) (by omega), wrap_id (n := d * d) (by omega) (by omega), wrap_id (n := w * w + d * d) (by omega) (by omega), wrap_id (n := d + 1) (by omega) (by omega), es]
    simp only [Option.bind_some]
    have more : ∀ hs2 : List Int, hs2.length + m ≤ 1000 → ∃ k', k + 1 ≤ k' + (m + 1) + 1 ∧ k' < k + 1 ∧ spec_clAll.l1 k M acc w hs2 (d + 1) = spec_clAll.l2 k' M acc w (hs2 ++ hts w M m (d + 1)) (hs2 ++ hts w M m (d + 1)) ((hs2 ++ hts w M m (d + 1)).length : Int) 0 := fun hs2 h2 => by
      obtain ⟨k', a1, a2, a3⟩ := ih k acc hs2 (d + 1) (by omega) (by omega) (by omega) (by omega) h2
      exact ⟨k', by omega, by omega, a3⟩
    cases q : isq (w * w + d * d) with
    | true =>
      rw [if_pos (of_decide_eq_true (sq.trans q))]
      have rt_ := rt_of q
      have e := hr q
      by_cases c : w * w + d * d ≤ M * M
      · obtain ⟨k', a1, a2, a3⟩ := more (hs ++ [d]) (by simp only [List.length_append, List.length_cons, List.length_nil]; omega)
        refine ⟨k', a1, a2, ?_⟩
        have : s ≤ M := by
          rw [e]
          exact sq_le rt_.1 (by omega) (by omega)
        rw [if_pos this, if_pos (by omega), a3]
        simp [hts, q, c]
      · obtain ⟨k', a1, a2, a3⟩ := more hs (by omega)
        refine ⟨k', a1, a2, ?_⟩
        have : ¬ s ≤ M := fun h => by
          have := sq_up s0 h
          rw [e] at this
          omega
        rw [if_neg this, a3]
        simp [hts, c]
    | false =>
      obtain ⟨k', a1, a2, a3⟩ := more hs (by omega)
      refine ⟨k', a1, a2, ?_⟩
      rw [if_neg (of_decide_eq_false (sq.trans q)), a3]
      simp [hts, q]
theorem sw_l0 (B C : Nat) (hB : 3000000000 ≤ B) (hC : 31000 ≤ C) (f : Nat → Nat) (hf : ∀ m, f (m + 1) = f m + C) (M : Int) (hM : 1 ≤ M ∧ M ≤ 150) : ∀ (m k : Nat) (acc : List S25) (w : Int), w + m = M → 1 ≤ w → B + f m < k → acc.length + f m ≤ 10000000 →
    spec_clAll.l0 k M acc w = some (acc ++ alls M m w) := by
  intro m
  induction m with
  | zero =>
    intro k acc w h1 hw hk ha
    obtain ⟨k, rfl⟩ : ∃ m, k = m + 1 := ⟨k - 1, by omega⟩
    rw [spec_clAll.l0, if_neg (by omega)]
    simp [alls]
  | succ m ih =>
    intro k acc w h1 hw hk ha
    rw [hf] at hk ha
    obtain ⟨k, rfl⟩ : ∃ m, k = m + 1 := ⟨k - 1, by omega⟩
    have hl := hts_length w M (M - 1).toNat 1
    have ho := hts_ok w M (M - 1).toNat 1
    obtain ⟨k1, a1, a2, a3⟩ := sw_l1 B hB M w hM (by omega) (M - 1).toNat k acc [] 1 (by omega) (by omega) (by omega) (by omega) (by simp only [List.length_nil]; omega)
    rw [List.nil_append] at a3
    obtain ⟨k2, b1, b2, b3⟩ := sw_l2 M w (by omega) (hts w M (M - 1).toNat 1) (fun x hx => by have := ho x hx; omega) (by omega) (hts w M (M - 1).toNat 1) [] k1 acc rfl (by omega) (by omega)
    have cl := cols_length w (hts w M (M - 1).toNat 1) []
    have cl2 : (cols w [] (hts w M (M - 1).toNat 1)).length ≤ 22500 := by
      refine Nat.le_trans cl ?_
      simp only [List.length_nil, Nat.zero_add]
      have : (hts w M (M - 1).toNat 1).length * (hts w M (M - 1).toNat 1).length ≤ 150 * 150 := Nat.mul_le_mul (by omega) (by omega)
      omega
    have z0 : (([] : List Int).length : Int) = 0 := rfl
    rw [z0] at b3
    have q1 : B + f m < k2 := by
      have q2 : (M - 1).toNat ≤ 149 := by omega
      generalize (hts w M (M - 1).toNat 1).length = n at hl b1
      generalize (M - 1).toNat = n2 at q2 hl a1
      have q3 : n * 200 ≤ 29800 := by omega
      have q4 : k ≤ k2 + n * 200 + 1 + 150 := by omega
      clear ho a3 b3 cl cl2 ih ha hl a1 b1 a2 b2
      omega
    have step := ih k2 (acc ++ cols w [] (hts w M (M - 1).toNat 1)) (w + 1) (by omega) (by omega) q1 (by rw [List.length_append]; omega)
    rw [spec_clAll.l0, if_pos (by omega), a3, b3, step]
    simp [alls]
/-- All rows of whole crossings, where they are asked for. -/
def wn (n : Int) : Bool := decide (1 ≤ n ∧ n ≤ 150)
noncomputable def wcs (M : Int) : List S25 := if wn M then alls M (M - 1).toNat 1 else []
theorem wn_of {M : Int} (h : wn M = true) : 1 ≤ M ∧ M ≤ 150 := of_decide_eq_true h
theorem Crossings_eq (k : Nat) (hk : 3006000000 ≤ k) (M : Int) : impl_WholeCrossings.f k M = some (wcs M, wn M) := by
  unfold impl_WholeCrossings.f wcs
  rw [within_eq]
  simp only [Option.bind_some]
  cases e : wn M with
  | true =>
    have h := wn_of e
    obtain ⟨B, hB⟩ : ∃ B : Nat, B = 3000000000 := ⟨_, rfl⟩
    have := iw_l0 B 31000 (by omega) (Nat.le_refl _) (fun m => m * 31000) (fun m => Nat.succ_mul m 31000) M h (M - 1).toNat k [] 1 (by omega) (by omega) (by
      show B + (M - 1).toNat * 31000 < k
      omega) (by
      show 0 + (M - 1).toNat * 31000 ≤ 10000000
      omega)
    rw [List.nil_append] at this
    rw [show decide (1 ≤ M ∧ M ≤ 150) = true from e, if_pos rfl, this]
    rfl
  | false =>
    rw [show decide (1 ≤ M ∧ M ≤ 150) = false from e]
    rfl
theorem clAll_eq (k : Nat) (hk : 3006000000 ≤ k) (M : Int) (e : wn M = true) : spec_clAll.f k M = some (wcs M) := by
  unfold spec_clAll.f wcs
  have h := wn_of e
  obtain ⟨B, hB⟩ : ∃ B : Nat, B = 3000000000 := ⟨_, rfl⟩
  have := sw_l0 B 31000 (by omega) (Nat.le_refl _) (fun m => m * 31000) (fun m => Nat.succ_mul m 31000) M h (M - 1).toNat k [] 1 (by omega) (by omega) (by
    show B + (M - 1).toNat * 31000 < k
    omega) (by
    show 0 + (M - 1).toNat * 31000 ≤ 10000000
    omega)
  rw [List.nil_append] at this
  rw [this, e]
  rfl
theorem sCrossings_eq (k : Nat) (hk : 3006000000 ≤ k) (M : Int) : spec_WholeCrossings.f k M = some (wcs M, wn M) := by
  unfold spec_WholeCrossings.f
  rw [l1In_eq]
  simp only [Option.bind_some]
  cases e : wn M with
  | true =>
    rw [show decide (1 ≤ M ∧ M ≤ 150) = true from e, if_pos rfl, clAll_eq k hk M e]
    rfl
  | false =>
    rw [show decide (1 ≤ M ∧ M ≤ 150) = false from e]
    unfold wcs
    rw [e]
    rfl
/-- What a row is. -/
structure RowOk (M : Int) (x : S25) : Prop where
  w0 : 1 ≤ x.f0
  wM : x.f0 < M
  r0 : 1 ≤ x.f2
  le : x.f2 ≤ x.f1
  lM : x.f1 < M
  s1 : isq (x.f0 * x.f0 + x.f1 * x.f1) = true
  b1 : x.f0 * x.f0 + x.f1 * x.f1 ≤ M * M
  s2 : isq (x.f0 * x.f0 + x.f2 * x.f2) = true
  b2 : x.f0 * x.f0 + x.f2 * x.f2 ≤ M * M
  dv : Int.tmod (x.f1 * x.f2) (x.f1 + x.f2) = 0
theorem hts_up (w M : Int) : ∀ (m : Nat) (d : Int), (hts w M m d).Pairwise (fun a b => a < b) := by
  intro m
  induction m with
  | zero => intro d; exact List.Pairwise.nil
  | succ m ih =>
    intro d
    unfold hts
    split
    · refine List.Pairwise.cons (fun b hb => ?_) (ih (d + 1))
      have := hts_ok w M m (d + 1) b hb
      omega
    · exact ih (d + 1)
theorem cols_ok (w : Int) : ∀ (l pre : List Int), (pre ++ l).Pairwise (fun a b => a < b) → ∀ x ∈ cols w pre l, ∃ h r, h ∈ l ∧ r ∈ pre ++ l ∧ r ≤ h ∧ x = ⟨w, h, r⟩ ∧ Int.tmod (h * r) (h + r) = 0 := by
  intro l
  induction l with
  | nil => intro pre _ x hx; cases hx
  | cons h l ih =>
    intro pre hp x hx
    have e : pre ++ h :: l = (pre ++ [h]) ++ l := by simp
    unfold cols at hx
    rcases List.mem_append.1 hx with m | m
    · obtain ⟨r, mr, ex, c⟩ := rws_ok w h _ x m
      refine ⟨h, r, by simp, by rw [e]; exact List.mem_append_left _ mr, ?_, ex, c⟩
      rcases List.mem_append.1 mr with q | q
      · have := (List.pairwise_append.1 hp).2.2 r q h (by simp)
        omega
      · have := List.mem_singleton.1 q
        omega
    · rw [e] at hp
      obtain ⟨g, r, mg, mr, le, ex, c⟩ := ih (pre ++ [h]) hp x m
      exact ⟨g, r, by simp [mg], by rw [e]; exact mr, le, ex, c⟩
theorem alls_ok (M : Int) : ∀ (m : Nat) (w : Int), w + m = M → 1 ≤ w → ∀ x ∈ alls M m w, RowOk M x := by
  intro m
  induction m with
  | zero => intro w _ _ x hx; cases hx
  | succ m ih =>
    intro w h1 h2 x hx
    unfold alls at hx
    rcases List.mem_append.1 hx with q | q
    · obtain ⟨h, r, mh, mr, le, ex, c⟩ := cols_ok w _ [] (by rw [List.nil_append]; exact hts_up w M _ 1) x q
      rw [List.nil_append] at mr
      have a := hts_ok w M _ 1 h mh
      have b := hts_ok w M _ 1 r mr
      subst ex
      exact ⟨h2, by show w < M; omega, b.1, le, by show h < M; omega, a.2.2.1, a.2.2.2, b.2.2.1, b.2.2.2, c⟩
    · exact ih (w + 1) (by omega) (by omega) x q
theorem wcs_ok (M : Int) : ∀ x ∈ wcs M, RowOk M x ∧ M ≤ 150 := by
  intro x hx
  unfold wcs at hx
  cases e : wn M with
  | true =>
    rw [e, if_pos rfl] at hx
    have h := wn_of e
    exact ⟨alls_ok M _ 1 (by omega) (Int.le_refl _) x hx, h.2⟩
  | false =>
    rw [e, if_neg (by decide)] at hx
    cases hx
theorem alls_length (M : Int) (hM : 1 ≤ M ∧ M ≤ 150) : ∀ (m : Nat) (w : Int), (alls M m w).length ≤ m * 22500 := by
  intro m
  induction m with
  | zero => intro w; exact Nat.zero_le _
  | succ m ih =>
    intro w
    have a := ih (w + 1)
    have cl := cols_length w (hts w M (M - 1).toNat 1) []
    have hl := hts_length w M (M - 1).toNat 1
    have q : (hts w M (M - 1).toNat 1).length * (hts w M (M - 1).toNat 1).length ≤ 150 * 150 := Nat.mul_le_mul (by omega) (by omega)
    simp only [List.length_nil, Nat.zero_add] at cl
    unfold alls
    rw [List.length_append]
    omega
theorem wcs_length (M : Int) : (wcs M).length ≤ 3375000 := by
  unfold wcs
  cases e : wn M with
  | true =>
    have h := wn_of e
    rw [if_pos rfl]
    have := alls_length M h (M - 1).toNat 1
    omega
  | false => exact Nat.zero_le _

/-! ### the lowest crossing -/
/-- How high a row crosses. -/
def cr (x : S25) : Int := (x.f1 * x.f2).tdiv (x.f1 + x.f2)
theorem row_in {M : Int} {x : S25} (h : RowOk M x) (hM : M ≤ 150) : (1 ≤ x.f0 ∧ x.f0 ≤ 150) ∧ (1 ≤ x.f1 ∧ x.f1 ≤ 150) ∧ (1 ≤ x.f2 ∧ x.f2 ≤ 150) ∧ (1 ≤ x.f1 * x.f2 ∧ x.f1 * x.f2 ≤ 22500) := by
  have a := h.w0
  have b := h.wM
  have c := h.r0
  have d := h.le
  have e := h.lM
  have m := mul_in (a := x.f1) (b := x.f2) (by omega) (show x.f1 ≤ 150 by omega) (by omega) (show x.f2 ≤ 150 by omega)
  have p : 1 ≤ x.f1 * x.f2 := Int.mul_pos (by omega) (by omega)
  omega
theorem cr_is {M : Int} {x : S25} (h : RowOk M x) (hM : M ≤ 150) : 1 ≤ cr x ∧ cr x ≤ 22500 ∧ x.f1 * x.f2 = cr x * (x.f1 + x.f2) := by
  have b := row_in h hM
  have q := Int.mul_tdiv_add_tmod (x.f1 * x.f2) (x.f1 + x.f2)
  rw [h.dv, Int.add_zero] at q
  have le : (x.f1 * x.f2).tdiv (x.f1 + x.f2) ≤ x.f1 * x.f2 := by
    have := tdiv_le (x.f1 * x.f2) (x.f1 + x.f2)
    omega
  have nn : 0 ≤ (x.f1 * x.f2).tdiv (x.f1 + x.f2) := Int.tdiv_nonneg (by omega) (by omega)
  unfold cr
  have ne : (x.f1 * x.f2).tdiv (x.f1 + x.f2) ≠ 0 := fun z => by
    rw [z, Int.mul_zero] at q
    omega
  exact ⟨by omega, by omega, q.symm.trans (Int.mul_comm _ _)⟩
/-- The first row of the lowest ones. -/
def lw : List S25 → Int → Int → Int → Int → Int × Int × Int × Int
  | [], n, a, b, c => (a, b, c, n)
  | x :: l, n, a, b, c => if n = 0 then lw l (cr x) x.f0 x.f1 x.f2 else (if cr x < n then lw l (cr x) x.f0 x.f1 x.f2 else lw l n a b c)
theorem lw_ok : ∀ (l : List S25) (n a b c : Int), 0 ≤ n → (∀ x ∈ l, 1 ≤ cr x) →
    (n = 0 ∧ l = [] ∧ lw l n a b c = (a, b, c, n)) ∨ (1 ≤ (lw l n a b c).2.2.2 ∧ (∀ x ∈ l, (lw l n a b c).2.2.2 ≤ cr x) ∧ (1 ≤ n → (lw l n a b c).2.2.2 ≤ n) ∧ ((1 ≤ n ∧ lw l n a b c = (a, b, c, n)) ∨ ∃ x ∈ l, lw l n a b c = (x.f0, x.f1, x.f2, cr x))) := by
  intro l
  induction l with
  | nil =>
    intro n a b c hn _
    by_cases z : n = 0
    · exact .inl ⟨z, rfl, rfl⟩
    · exact .inr ⟨by show 1 ≤ n; omega, fun x h => absurd h List.not_mem_nil, fun _ => Int.le_refl _, .inl ⟨by omega, rfl⟩⟩
  | cons x l ih =>
    intro n a b c hn hl
    have hx := hl x (by simp)
    have take_ : lw (x :: l) n a b c = lw l (cr x) x.f0 x.f1 x.f2 → (n = 0 ∨ cr x < n) → (n = 0 ∧ x :: l = [] ∧ lw (x :: l) n a b c = (a, b, c, n)) ∨ (1 ≤ (lw (x :: l) n a b c).2.2.2 ∧ (∀ y ∈ x :: l, (lw (x :: l) n a b c).2.2.2 ≤ cr y) ∧ (1 ≤ n → (lw (x :: l) n a b c).2.2.2 ≤ n) ∧ ((1 ≤ n ∧ lw (x :: l) n a b c = (a, b, c, n)) ∨ ∃ y ∈ x :: l, lw (x :: l) n a b c = (y.f0, y.f1, y.f2, cr y))) := fun e hc => by
      rw [e]
      rcases ih (cr x) x.f0 x.f1 x.f2 (by omega) (fun y hy => hl y (by simp [hy])) with ⟨z, _, _⟩ | ⟨p1, p2, p3, p4⟩
      · omega
      · refine .inr ⟨p1, fun y hy => ?_, fun h => by have := p3 hx; omega, .inr ?_⟩
        · rcases List.mem_cons.1 hy with q | q
          · rw [q]
            exact p3 hx
          · exact p2 y q
        · rcases p4 with ⟨_, q⟩ | ⟨y, my, q⟩
          · exact ⟨x, by simp, q⟩
          · exact ⟨y, by simp [my], q⟩
    by_cases z : n = 0
    · exact take_ (by rw [lw, if_pos z]) (.inl z)
    · by_cases g : cr x < n
      · exact take_ (by rw [lw, if_neg z, if_pos g]) (.inr g)
      · have e : lw (x :: l) n a b c = lw l n a b c := by rw [lw, if_neg z, if_neg g]
        rw [e]
        rcases ih n a b c hn (fun y hy => hl y (by simp [hy])) with ⟨z', _, _⟩ | ⟨p1, p2, p3, p4⟩
        · omega
        · refine .inr ⟨p1, fun y hy => ?_, p3, ?_⟩
          · rcases List.mem_cons.1 hy with q | q
            · rw [q]
              have := p3 (by omega)
              omega
            · exact p2 y q
          · rcases p4 with q | ⟨y, my, q⟩
            · exact .inl q
            · exact .inr ⟨y, by simp [my], q⟩
theorem rdT_at (pre l : List S25) (x : S25) : rd_T25 (pre ++ x :: l) (pre.length : Int) = x := by
  unfold rd_T25
  rw [Int.toNat_natCast]
  simp
theorem ilow_l0 (M : Int) (hM : M ≤ 150) (L : List S25) (hL : ∀ x ∈ L, RowOk M x) (hn : L.length ≤ 100000000) : ∀ (rest pre : List S25) (k : Nat) (n a b c : Int), L = pre ++ rest → rest.length < k →
    impl_LowestWhole.l0 k n L (L.length : Int) (pre.length : Int) a b c = some ((lw rest n a b c).1, (lw rest n a b c).2.1, (lw rest n a b c).2.2.1, (lw rest n a b c).2.2.2, decide ((lw rest n a b c).2.2.2 > 0)) := by
  intro rest
  induction rest with
  | nil =>
    intro pre k n a b c e hk
    obtain ⟨k, rfl⟩ : ∃ m, k = m + 1 := ⟨k - 1, by omega⟩
    rw [impl_LowestWhole.l0, if_neg (by rw [e]; simp)]
    rfl
  | cons x rest ih =>
    intro pre k n a b c e hk
    obtain ⟨k, rfl⟩ : ∃ m, k = m + 1 := ⟨k - 1, by omega⟩
    simp only [List.length_cons] at hk
    have hx := hL x (by rw [e]; simp)
    have bx := row_in hx hM
    have cx := cr_is hx hM
    have len_ : L.length = pre.length + (rest.length + 1) := by rw [e]; simp
    have rd_ : rd_T25 L (pre.length : Int) = x := by
      rw [e]
      exact rdT_at _ _ _
    have w1 : wrap64 (((pre.length : Nat) : Int) + 1) = (((pre ++ [x]).length : Nat) : Int) := by
      rw [wrap_id (by omega) (by omega)]
      simp
    have wc : wrap64 (Int.tdiv (x.f1 * x.f2) (x.f1 + x.f2)) = cr x := wrap_id (by show -9223372036854775808 ≤ cr x; omega) (by show cr x ≤ 9223372036854775807; omega)
    have e' : L = (pre ++ [x]) ++ rest := by rw [e]; simp
    rw [impl_LowestWhole.l0, if_pos (by omega), if_pos (by omega), if_pos (by omega), rd_, wrap_id (n := x.f1 + x.f2) (by omega) (by omega), wrap_id (n := x.f1 * x.f2) (by omega) (by omega), if_neg (by omega), wc, w1, lw]
    by_cases z : n = 0
    · rw [if_pos z, if_pos z]
      exact ih (pre ++ [x]) k _ _ _ _ e' (by omega)
    · rw [if_neg z, if_neg z]
      by_cases g : cr x < n
      · rw [if_pos g, if_pos g]
        exact ih (pre ++ [x]) k _ _ _ _ e' (by omega)
      · rw [if_neg g, if_neg g]
        exact ih (pre ++ [x]) k _ _ _ _ e' (by omega)
theorem slow_l0 (M : Int) (hM : M ≤ 150) (L : List S25) (hL : ∀ x ∈ L, RowOk M x) (hn : L.length ≤ 100000000) : ∀ (rest pre : List S25) (k : Nat) (n a b c : Int), L = pre ++ rest → rest.length < k →
    spec_LowestWhole.l0 k n L (L.length : Int) (pre.length : Int) a b c = (if (lw rest n a b c).2.2.2 = 0 then some (0, 0, 0, 0, false) else some ((lw rest n a b c).1, (lw rest n a b c).2.1, (lw rest n a b c).2.2.1, (lw rest n a b c).2.2.2, true)) := by
  intro rest
  induction rest with
  | nil =>
    intro pre k n a b c e hk
    obtain ⟨k, rfl⟩ : ∃ m, k = m + 1 := ⟨k - 1, by omega⟩
    rw [spec_LowestWhole.l0, if_neg (by rw [e]; simp)]
    rfl
  | cons x rest ih =>
    intro pre k n a b c e hk
    obtain ⟨k, rfl⟩ : ∃ m, k = m + 1 := ⟨k - 1, by omega⟩
    simp only [List.length_cons] at hk
    have hx := hL x (by rw [e]; simp)
    have bx := row_in hx hM
    have cx := cr_is hx hM
    have len_ : L.length = pre.length + (rest.length + 1) := by rw [e]; simp
    have rd_ : rd_T25 L (pre.length : Int) = x := by
      rw [e]
      exact rdT_at _ _ _
    have w1 : wrap64 (((pre.length : Nat) : Int) + 1) = (((pre ++ [x]).length : Nat) : Int) := by
      rw [wrap_id (by omega) (by omega)]
      simp
    have wc : wrap64 (Int.tdiv (x.f1 * x.f2) (x.f1 + x.f2)) = cr x := wrap_id (by show -9223372036854775808 ≤ cr x; omega) (by show cr x ≤ 9223372036854775807; omega)
    have e' : L = (pre ++ [x]) ++ rest := by rw [e]; simp
    rw [spec_LowestWhole.l0, if_pos (by omega), if_pos (by omega), if_pos (by omega), rd_, wrap_id (n := x.f1 + x.f2) (by omega) (by omega), wrap_id (n := x.f1 * x.f2) (by omega) (by omega), if_neg (by omega), wc, w1, lw]
    by_cases z : n = 0
    · rw [if_pos z, if_pos z]
      exact ih (pre ++ [x]) k _ _ _ _ e' (by omega)
    · rw [if_neg z, if_neg z]
      by_cases g : cr x < n
      · rw [if_pos g, if_pos g]
        exact ih (pre ++ [x]) k _ _ _ _ e' (by omega)
      · rw [if_neg g, if_neg g]
        exact ih (pre ++ [x]) k _ _ _ _ e' (by omega)
/-- What both find lowest. -/
noncomputable def low (M : Int) : Int × Int × Int × Int := lw (wcs M) 0 0 0 0
theorem low_is (M : Int) : (wcs M = [] ∧ low M = (0, 0, 0, 0)) ∨ (1 ≤ (low M).2.2.2 ∧ (∀ x ∈ wcs M, (low M).2.2.2 ≤ cr x) ∧ ∃ x ∈ wcs M, low M = (x.f0, x.f1, x.f2, cr x)) := by
  unfold low
  rcases lw_ok (wcs M) 0 0 0 0 (Int.le_refl _) (fun x hx => (cr_is (wcs_ok M x hx).1 (wcs_ok M x hx).2).1) with ⟨_, a, b⟩ | ⟨a, b, _, c⟩
  · exact .inl ⟨a, b⟩
  · rcases c with ⟨c, _⟩ | c
    · omega
    · exact .inr ⟨a, b, c⟩
theorem low_nn (M : Int) : 0 ≤ (low M).2.2.2 := by
  rcases low_is M with ⟨_, h⟩ | ⟨h, _⟩
  · rw [h]
    exact Int.le_refl _
  · omega
theorem Lowest_eq (k : Nat) (hk : 3006000000 ≤ k) (M : Int) : impl_LowestWhole.f k M = some ((low M).1, (low M).2.1, (low M).2.2.1, (low M).2.2.2, decide ((low M).2.2.2 > 0)) := by
  unfold impl_LowestWhole.f
  rw [Crossings_eq k hk]
  simp only [Option.bind_some]
  have hl := wcs_length M
  have hw := wcs_ok M
  generalize hL : wcs M = L at hl hw
  by_cases e : L = []
  · have := ilow_l0 0 (by omega) L (fun x hx => by rw [e] at hx; cases hx) (by omega) L [] k 0 0 0 0 rfl (by omega)
    unfold low
    rw [hL]
    exact this
  · obtain ⟨x, hx⟩ := List.exists_mem_of_ne_nil L e
    have := ilow_l0 M (hw x hx).2 L (fun x hx => (hw x hx).1) (by omega) L [] k 0 0 0 0 rfl (by omega)
    unfold low
    rw [hL]
    exact this
theorem sLowest_eq (k : Nat) (hk : 3006000000 ≤ k) (M : Int) : spec_LowestWhole.f k M = some ((low M).1, (low M).2.1, (low M).2.2.1, (low M).2.2.2, decide ((low M).2.2.2 > 0)) := by
  have done_ : (if (low M).2.2.2 = 0 then some ((0 : Int), (0 : Int), (0 : Int), (0 : Int), false) else some ((low M).1, (low M).2.1, (low M).2.2.1, (low M).2.2.2, true)) = some ((low M).1, (low M).2.1, (low M).2.2.1, (low M).2.2.2, decide ((low M).2.2.2 > 0)) := by
    rcases low_is M with ⟨_, h⟩ | ⟨h, _⟩
    · rw [h]
      rfl
    · rw [if_neg (by omega), decide_eq_true (show (low M).2.2.2 > 0 by omega)]
  unfold spec_LowestWhole.f
  rw [l1In_eq]
  simp only [Option.bind_some]
  cases e : wn M with
  | false =>
    rw [show decide (1 ≤ M ∧ M ≤ 150) = false from e, if_neg (by decide), ← done_]
    have : low M = (0, 0, 0, 0) := by
      unfold low wcs
      rw [e]
      rfl
    rw [this]
    rfl
  | true =>
    rw [show decide (1 ≤ M ∧ M ≤ 150) = true from e, if_pos rfl, clAll_eq k hk M e]
    simp only [Option.bind_some]
    have hl := wcs_length M
    have hw := wcs_ok M
    have := slow_l0 M (wn_of e).2 (wcs M) (fun x hx => (hw x hx).1) (by omega) (wcs M) [] k 0 0 0 0 rfl (by omega)
    rw [← done_]
    exact this
/-! ### greater ladders -/
def tl (x y z b : Int) : Bool := lad x y z && (decide (1 ≤ b ∧ b ≤ 1000) && lad (b * x) (b * y) (b * z))
def tlv (x y z b : Int) : Int × Int × Int × Bool := if tl x y z b then (b * x, b * y, b * z, true) else (0, 0, 0, false)
theorem tl_of {x y z b : Int} (h : tl x y z b = true) : lad x y z = true ∧ (1 ≤ b ∧ b ≤ 1000) ∧ lad (b * x) (b * y) (b * z) = true := by
  unfold tl at h
  simp only [Bool.and_eq_true, decide_eq_true_eq] at h
  exact ⟨h.1, h.2.1, h.2.2⟩
theorem Times_eq (k : Nat) (hk : 1 ≤ k) (x y z b : Int) : impl_TimesLadders.f k x y z b = some (tlv x y z b) := by
  obtain ⟨k, rfl⟩ : ∃ m, k = m + 1 := ⟨k - 1, by omega⟩
  unfold impl_TimesLadders.f tlv tl
  rw [AreLadders_eq, isWide_eq]
  simp only [Option.bind_some]
  cases h : lad x y z with
  | false => rfl
  | true =>
    cases c : decide (1 ≤ b ∧ b ≤ 1000) with
    | false => rfl
    | true =>
      have hb := of_decide_eq_true c
      obtain ⟨hx, hy, hz⟩ := lad_of h
      have m1 := mul_in (a := b) (b := x) (by omega) hb.2 (by omega) hx.2
      have m2 := mul_in (a := b) (b := y) (by omega) hb.2 (by omega) hy.2
      have m3 := mul_in (a := b) (b := z) (by omega) hb.2 (by omega) hz.2
      rw [if_pos rfl, impl_TimesLadders.j0, if_neg (by decide), wrap_id (n := b * x) (by omega) (by omega), wrap_id (n := b * y) (by omega) (by omega), wrap_id (n := b * z) (by omega) (by omega), checked_eq]
      simp only [Option.bind_some, Bool.true_and]
theorem sTimes_eq (k : Nat) (hk : 1 ≤ k) (x y z b : Int) : spec_TimesLadders.f k x y z b = some (tlv x y z b) := by
  obtain ⟨k, rfl⟩ : ∃ m, k = m + 1 := ⟨k - 1, by omega⟩
  unfold spec_TimesLadders.f tlv tl
  rw [clGood_eq, l1In_eq]
  simp only [Option.bind_some]
  cases h : lad x y z with
  | false => rfl
  | true =>
    cases c : decide (1 ≤ b ∧ b ≤ 1000) with
    | false => rfl
    | true =>
      have hb := of_decide_eq_true c
      obtain ⟨hx, hy, hz⟩ := lad_of h
      have m1 := mul_in (a := b) (b := x) (by omega) hb.2 (by omega) hx.2
      have m2 := mul_in (a := b) (b := y) (by omega) hb.2 (by omega) hy.2
      have m3 := mul_in (a := b) (b := z) (by omega) hb.2 (by omega) hz.2
      rw [if_pos rfl, spec_TimesLadders.j0, if_neg (by decide), Int.mul_comm x b, Int.mul_comm y b, Int.mul_comm z b, wrap_id (n := b * x) (by omega) (by omega), wrap_id (n := b * y) (by omega) (by omega), wrap_id (n := b * z) (by omega) (by omega), clGood_eq]
      simp only [Option.bind_some, Bool.true_and]
      cases lad (b * x) (b * y) (b * z) <;> rfl

/-! ### the draws end -/
theorem among_mem {l : List Int} (hl : Bytes l) {p s : Int} (m : List Int) (hm : 0 < m.length) (h0 : 0 ≤ p) (h1 : p ≤ 1000000000) : ∃ x q s', spec_l1Cur_among.f l p s m = some (x, q, s') ∧ x ∈ m ∧ p ≤ q ∧ q ≤ p + 2 := by
  obtain ⟨x, q, s', e, x0, x1, a, b⟩ := pick_tot hl (s := s) (m.length : Int) h0 h1
  have hx : x.toNat < m.length := by omega
  refine ⟨rd m x, q, s', ?_, ?_, a, b⟩
  · unfold spec_l1Cur_among.f
    rw [e]
    simp only [Option.bind_some]
    rw [if_pos x0, if_pos (by omega)]
  · unfold rd
    rw [List.getD_eq_getElem?_getD, List.getElem?_eq_getElem hx]
    exact List.getElem_mem hx
theorem sure_tot {l : List Int} (hl : Bytes l) {p s : Int} (h0 : 0 ≤ p) (h1 : p ≤ 1000000) : ∃ a b c q s', spec_l1Cur_sureLadders.f l p s = some (a, b, c, q, s') ∧ lad a b c = true ∧ p ≤ q ∧ q ≤ p + 8 := by
  obtain ⟨x1, q1, s1, e1, _, _, a1, b1⟩ := pick_tot hl (s := s) 6 h0 (by omega)
  obtain ⟨x2, q2, s2, e2, u2, v2, a2, b2⟩ := pick_tot hl (p := q1) (s := s1) 9 (by omega) (by omega)
  obtain ⟨x3, q3, s3, e3, m3, a3, b3⟩ := among_mem hl (p := q2) (s := s2) [5, 9, 16, 35] (by decide) (by omega) (by omega)
  obtain ⟨x4, q4, s4, e4, m4, a4, b4⟩ := among_mem hl (p := q3) (s := s3) [5, 9, 16, 35] (by decide) (by omega) (by omega)
  obtain ⟨y2, r2, t2, f2, g2, h2, c2, d2⟩ := pick_tot hl (p := q1) (s := s1) 20 (by omega) (by omega)
  obtain ⟨y3, r3, t3, f3, g3, h3, c3, d3⟩ := pick_tot hl (p := r2) (s := t2) 20 (by omega) (by omega)
  obtain ⟨y4, r4, t4, f4, g4, h4, c4, d4⟩ := pick_tot hl (p := r3) (s := t3) 20 (by omega) (by omega)
  unfold spec_l1Cur_sureLadders.f
  simp only [e1, e2, e3, e4, f2, f3, f4, Option.bind_some]
  by_cases c : x1 = 0
  · rw [if_pos c]
    exact ⟨_, _, _, _, _, rfl, rfl, by omega, by omega⟩
  · rw [if_neg c]
    by_cases c' : x1 = 1
    · rw [if_pos c']
      have w1 : wrap64 (1 + x2) = 1 + x2 := wrap_id (by omega) (by omega)
      have w2 : wrap64 (12 * (1 + x2)) = 12 * (1 + x2) := wrap_id (by omega) (by omega)
      have al : ∀ x ∈ ([5, 9, 16, 35] : List Int), wrap64 (x * (1 + x2)) = x * (1 + x2) ∧ 1 ≤ x * (1 + x2) ∧ x * (1 + x2) ≤ 1000 := fun x hx => by
        have g : 1 ≤ x * (1 + x2) ∧ x * (1 + x2) ≤ 1000 := by
          rcases List.mem_cons.1 hx with rfl | hx
          · omega
          rcases List.mem_cons.1 hx with rfl | hx
          · omega
          rcases List.mem_cons.1 hx with rfl | hx
          · omega
          rcases List.mem_cons.1 hx with rfl | hx
          · omega
          cases hx
        exact ⟨wrap_id (by omega) (by omega), g⟩
      have z3 := al x3 m3
      have z4 := al x4 m4
      rw [w1, w2, z3.1, z4.1]
      exact ⟨_, _, _, _, _, rfl, lad_mk (by omega) z3.2 z4.2, by omega, by omega⟩
    · rw [if_neg c']
      rw [wrap_id (n := 1 + y2) (by omega) (by omega), wrap_id (n := 1 + y3) (by omega) (by omega), wrap_id (n := 1 + y4) (by omega) (by omega)]
      exact ⟨_, _, _, _, _, rfl, lad_mk (by omega) (by omega) (by omega), by omega, by omega⟩
theorem ladders_tot {l : List Int} (hl : Bytes l) {p s : Int} (h0 : 0 ≤ p) (h1 : p ≤ 100000) : ∃ a b c q s', spec_l1Cur_ladders.f l p s = some (a, b, c, q, s') ∧ p ≤ q ∧ q ≤ p + 20 := by
  obtain ⟨a, b, c, q1, s1, e1, _, a1, b1⟩ := sure_tot hl (s := s) h0 (by omega)
  obtain ⟨x2, q2, s2, e2, _, _, a2, b2⟩ := pick_tot hl (p := q1) (s := s1) 20 (by omega) (by omega)
  obtain ⟨x3, q3, s3, e3, a3, b3⟩ := among_tot hl (p := q2) (s := s2) [(-1), 0, 1, 1000, 1001, 4611686018427387904] (by decide) (by omega) (by omega)
  unfold spec_l1Cur_ladders.f
  simp only [e1, e2, e3, Option.bind_some]
  by_cases c1 : x2 = 0
  · rw [if_pos c1]
    exact ⟨_, _, _, _, _, rfl, by omega, by omega⟩
  · rw [if_neg c1]
    by_cases c2 : x2 = 1
    · rw [if_pos c2]
      exact ⟨_, _, _, _, _, rfl, by omega, by omega⟩
    · rw [if_neg c2]
      by_cases c3 : x2 = 2
      · rw [if_pos c3]
        exact ⟨_, _, _, _, _, rfl, by omega, by omega⟩
      · rw [if_neg c3]
        exact ⟨_, _, _, _, _, rfl, by omega, by omega⟩
theorem drawSquares {l : List Int} (hl : Bytes l) : ∃ a b c, spec_DrawSquaresOf.f l = some (a, b, c) := by
  obtain ⟨a, b, c, q, s, e, _, _⟩ := ladders_tot hl (p := 0) (s := 0) (by omega) (by omega)
  unfold spec_DrawSquaresOf.f spec_DrawAreLadders.f
  simp only [e, Option.bind_some]
  exact ⟨_, _, _, rfl⟩
theorem drawPairs {l : List Int} (hl : Bytes l) : ∃ n, spec_DrawPairsFor.f l = some n := by
  obtain ⟨o, q1, s1, e1, a1, b1⟩ := one_tot hl (p := 0) (s := 0) 8 (by omega) (by omega)
  obtain ⟨x2, q2, s2, e2, a2, b2⟩ := among_tot hl (p := q1) (s := s1) [-1, 0, 1, 180, 200, 201, 4611686018427387904] (by decide) (by omega) (by omega)
  obtain ⟨y2, r2, t2, f2, _, _, c2, d2⟩ := pick_tot hl (p := q1) (s := s1) 60 (by omega) (by omega)
  unfold spec_DrawPairsFor.f
  simp only [e1, e2, f2, Option.bind_some]
  by_cases c : o = true
  · rw [if_pos c]
    exact ⟨_, rfl⟩
  · rw [if_neg c]
    exact ⟨_, rfl⟩
theorem drawWhole {l : List Int} (hl : Bytes l) : ∃ n, spec_DrawWholeCrossings.f l = some n := by
  obtain ⟨x2, q2, s2, e2, a2, b2⟩ := among_tot hl (p := 0) (s := 0) [1, 5, 20, 60, 75, 100, 118, 119, 120, 150, 151, 0, -1] (by decide) (by omega) (by omega)
  unfold spec_DrawWholeCrossings.f
  simp only [e2, Option.bind_some]
  exact ⟨_, rfl⟩
theorem drawTimes {l : List Int} (hl : Bytes l) : ∃ a b c d, spec_DrawTimesLadders.f l = some (a, b, c, d) := by
  obtain ⟨a, b, c, q1, s1, e1, a1, b1⟩ := ladders_tot hl (p := 0) (s := 0) (by omega) (by omega)
  obtain ⟨x2, q2, s2, e2, a2, b2⟩ := among_tot hl (p := q1) (s := s1) [1, 2, 3, 10, 50, 1000, 1001, 0, -1] (by decide) (by omega) (by omega)
  unfold spec_DrawTimesLadders.f
  simp only [e1, e2, Option.bind_some]
  exact ⟨_, _, _, _, rfl⟩
theorem ex_size (s : ByteArray) (a b : Nat) : (s.extract a b).size = min b s.size - a := ByteArray.size_extract
theorem one_size (n : Int) : (strOfNums [n]).size = 1 := rfl
theorem spoilt_tot {l : List Int} (hl : Bytes l) (W : ByteArray) (hW : W.size = 7) : ∀ (n k : Nat) (t : ByteArray) (p s : Int), 2 * n + 3 ≤ k → n ≤ 2 → t.size + n ≤ 40 → 0 ≤ p → p + 6 * n ≤ 1000000 →
    ∃ z q s', spec_l1Cur_spoilt.l0 k t W (n : Int) l p s = some (z, q, s') ∧ z.size ≤ 40 := by
  intro n
  induction n with
  | zero =>
    intro k t p s hk hn ht h0 h1
    obtain ⟨k, rfl⟩ : ∃ m, k = m + 2 := ⟨k - 2, by omega⟩
    refine ⟨t, p, s, ?_, by omega⟩
    rw [spec_l1Cur_spoilt.l0, if_neg (by omega), spec_l1Cur_spoilt.j1, if_neg (by decide)]
  | succ n ih =>
    intro k t p s hk hn ht h0 h1
    obtain ⟨k, rfl⟩ : ∃ m, k = m + 2 := ⟨k - 2, by omega⟩
    rw [spec_l1Cur_spoilt.l0, if_pos (by omega), spec_l1Cur_spoilt.j1]
    by_cases c : (t.size : Int) > 0
    · obtain ⟨i, q1, s1, e1, i0, i1, a1, b1⟩ := pick_tot hl (p := p) (s := s) (t.size : Int) (by omega) (by omega)
      obtain ⟨j, q2, s2, e2, j0, j1, a2, b2⟩ := pick_tot hl (p := q1) (s := s1) (W.size : Int) (by omega) (by omega)
      obtain ⟨u, q3, s3, e3, _, _, a3, b3⟩ := pick_tot hl (p := q2) (s := s2) 3 (by omega) (by omega)
      rw [if_pos (decide_eq_true c), e1]
      simp only [Option.bind_some]
      rw [e2]
      simp only [Option.bind_some]
      rw [if_pos j0, if_pos (by omega), e3]
      have w1 : wrap64 (i + 1) = i + 1 := wrap_id (by omega) (by omega)
      have w2 : wrap64 (((n + 1 : Nat) : Int) - 1) = (n : Int) := by rw [wrap_id (by omega) (by omega)]; omega
      have x1 := ex_size t 0 i.toNat
      have x2 := ex_size t i.toNat t.size
      have x3 := ex_size t (i + 1).toNat t.size
      have x4 := one_size (bt W j)
      simp only [Option.bind_some]
      rw [w1, w2]
      by_cases c0 : u = 0
      · rw [if_pos c0, if_pos (by omega), if_pos (by omega), if_pos (by omega), if_pos (by rw [ByteArray.size_append]; omega)]
        exact ih k _ q3 s3 (by omega) (by omega) (by rw [ByteArray.size_append, ByteArray.size_append]; omega) (by omega) (by omega)
      · rw [if_neg c0]
        by_cases c1 : u = 1
        · rw [if_pos c1, if_pos (by omega), if_pos (by omega), if_pos (by omega), if_pos (by omega), if_pos (by omega), if_pos (by rw [ByteArray.size_append]; omega)]
          exact ih k _ q3 s3 (by omega) (by omega) (by rw [ByteArray.size_append, ByteArray.size_append]; omega) (by omega) (by omega)
        · rw [if_neg c1, if_pos (by omega), if_pos (by omega), if_pos (by omega), if_pos (by omega), if_pos (by omega)]
          exact ih k _ q3 s3 (by omega) (by omega) (by rw [ByteArray.size_append]; omega) (by omega) (by omega)
    · rw [if_neg (by rw [decide_eq_false c]; decide)]
      exact ⟨t, p, s, rfl, by omega⟩
theorem txI_size {x y z : Int} (h : lad x y z = true) : (txI x y z).size ≤ 14 := by
  obtain ⟨hx, hy, hz⟩ := lad_of h
  have a := (nm4_all x.toNat (by omega)).2.1
  have b := (nm4_all y.toNat (by omega)).2.1
  have c := (nm4_all z.toNat (by omega)).2.1
  unfold txI tx
  simp only [ByteArray.size_append, c_size, s_size]
  omega
theorem drawParse {l : List Int} (hl : Bytes l) (k : Nat) (hk : 100 ≤ k) : ∃ s, spec_DrawParseLadders.f k l = some s ∧ s.size ≤ 40 := by
  obtain ⟨a, b, c, q1, s1, e1, hh, a1, b1⟩ := sure_tot hl (p := 0) (s := 0) (by omega) (by omega)
  obtain ⟨o, q2, s2, e2, a2, b2⟩ := one_tot hl (p := q1) (s := s1) 3 (by omega) (by omega)
  have sz := txI_size hh
  unfold spec_DrawParseLadders.f
  simp only [e1, Option.bind_some]
  rw [clText_eq k (by omega) hh]
  simp only [e2, Option.bind_some]
  by_cases g : o = true
  · obtain ⟨u, q3, s3, e3, u0, u1, a3, b3⟩ := pick_tot hl (p := q2) (s := s2) 2 (by omega) (by omega)
    have w : wrap64 (1 + u) = (((1 + u).toNat : Nat) : Int) := by rw [wrap_id (by omega) (by omega)]; omega
    obtain ⟨z, q4, s4, e4, hz⟩ := spoilt_tot hl (⟨#[48, 49, 50, 53, 58, 47, 120]⟩ : ByteArray) rfl (1 + u).toNat k (txI a b c) q3 s3 (by omega) (by omega) (by omega) (by omega) (by omega)
    refine ⟨z, ?_, hz⟩
    rw [if_pos g]
    unfold spec_l1Cur_spoilt.f
    rw [e3]
    simp only [Option.bind_some]
    rw [w, e4]
    rfl
  · exact ⟨_, by rw [if_neg g], by omega⟩
theorem bytes_of {l : List Int} (hl : l.length ≤ 1048576) (hw : ∀ x ∈ l, (Lit.int .u8 x).wf = true) : Bytes l := by
  refine ⟨hl, fun x hx => ?_⟩
  have h := hw x hx
  simp [Lit.wf] at h
  have e0 : IntKind.u8.min = 0 := by decide
  have e1 : IntKind.u8.max = 255 := by decide
  omega
/-- A fraction, where c holds. -/
def frs (c : Bool) (a b : Int) : Int × Int × Bool := if c then (fn a b, fd a b, true) else (0, 0, false)
theorem CrossHeight_eq (k : Nat) (hk : 5000 ≤ k) (x y z : Int) : impl_CrossHeight.f k x y z = some (frs (lad x y z) (y * z) (y + z)) := by
  unfold impl_CrossHeight.f
  rw [AreLadders_eq]
  simp only [Option.bind_some]
  cases h : lad x y z with
  | false => rfl
  | true =>
    obtain ⟨hx, hy, hz⟩ := lad_of h
    have m := mul_in (a := y) (b := z) (by omega) hy.2 (by omega) hz.2
    rw [if_pos rfl, wrap_id (n := y * z) (by omega) (by omega), wrap_id (n := y + z) (by omega) (by omega), fraction_low k (y * z) (y + z) (by omega) m.1 (by omega) (by omega) (by omega)]
    rfl

/-! ### lists that are compared with themselves -/
theorem jSame_l0 (l : List Int) (hl : l.length ≤ 1000000000) : ∀ (d i k : Nat), i + d = l.length → d < k → laws_jSame.l0 k l l (l.length : Int) (i : Int) = some true := by
  intro d
  induction d with
  | zero =>
    intro i k h hk
    obtain ⟨k, rfl⟩ : ∃ m, k = m + 1 := ⟨k - 1, by omega⟩
    rw [laws_jSame.l0, if_neg (by omega)]
  | succ d ih =>
    intro i k h hk
    obtain ⟨k, rfl⟩ : ∃ m, k = m + 1 := ⟨k - 1, by omega⟩
    have e : wrap64 ((i : Int) + 1) = ((i + 1 : Nat) : Int) := by rw [wrap_id (by omega) (by omega)]; omega
    rw [laws_jSame.l0, if_pos (by omega), if_pos (by omega), if_pos (by omega), if_pos (by omega), if_pos rfl, e]
    exact ih (i + 1) k (by omega) (by omega)
theorem jSame_self (l : List Int) (k : Nat) (hk : l.length < k) (hl : l.length ≤ 1000000000) : laws_jSame.f k l l = some true := by
  unfold laws_jSame.f
  rw [if_pos rfl]
  exact jSame_l0 l hl l.length 0 k (by omega) hk
theorem jRows_l0 (l : List (List Int)) (hl : l.length ≤ 1000) (hr : ∀ p ∈ l, p.length ≤ 10) : ∀ (d i k : Nat), i + d = l.length → d + 20 < k → laws_jRows.l0 k l l (l.length : Int) (i : Int) = some true := by
  intro d
  induction d with
  | zero =>
    intro i k h hk
    obtain ⟨k, rfl⟩ : ∃ m, k = m + 1 := ⟨k - 1, by omega⟩
    rw [laws_jRows.l0, if_neg (by omega)]
  | succ d ih =>
    intro i k h hk
    obtain ⟨k, rfl⟩ : ∃ m, k = m + 1 := ⟨k - 1, by omega⟩
    have e : wrap64 ((i : Int) + 1) = ((i + 1 : Nat) : Int) := by rw [wrap_id (by omega) (by omega)]; omega
    have hp : (rd_L3 l (i : Int)).length ≤ 10 := by
      unfold rd_L3
      rw [Int.toNat_natCast, List.getD_eq_getElem?_getD, List.getElem?_eq_getElem (by omega)]
      exact hr _ (List.getElem_mem _)
    rw [laws_jRows.l0, if_pos (by omega), if_pos (by omega), if_pos (by omega), if_pos (by omega), jSame_self _ k (by omega) (by omega)]
    simp only [Option.bind_some]
    rw [if_pos trivial, e]
    exact ih (i + 1) k (by omega) (by omega)
theorem jRows_self (l : List (List Int)) (k : Nat) (hk : 1100 ≤ k) (hl : l.length ≤ 1000) (hr : ∀ p ∈ l, p.length ≤ 10) : laws_jRows.f k l l = some true := by
  unfold laws_jRows.f
  rw [if_pos rfl]
  exact jRows_l0 l hl hr l.length 0 k (by omega) (by omega)
theorem jLadders_l0 (l : List S25) (hl : l.length ≤ 1000000000) : ∀ (d i k : Nat), i + d = l.length → d < k → laws_jLadders.l0 k l l (l.length : Int) (i : Int) = some true := by
  intro d
  induction d with
  | zero =>
    intro i k h hk
    obtain ⟨k, rfl⟩ : ∃ m, k = m + 1 := ⟨k - 1, by omega⟩
    rw [laws_jLadders.l0, if_neg (by omega)]
  | succ d ih =>
    intro i k h hk
    obtain ⟨k, rfl⟩ : ∃ m, k = m + 1 := ⟨k - 1, by omega⟩
    have e : wrap64 ((i : Int) + 1) = ((i + 1 : Nat) : Int) := by rw [wrap_id (by omega) (by omega)]; omega
    rw [laws_jLadders.l0, if_pos (by omega), if_pos (by omega), if_pos (by omega), if_pos (by omega), if_neg (by simp), e]
    exact ih (i + 1) k (by omega) (by omega)
theorem jLadders_self (l : List S25) (k : Nat) (hk : l.length < k) (hl : l.length ≤ 1000000000) : laws_jLadders.f k l l = some true := by
  unfold laws_jLadders.f
  rw [if_pos rfl]
  exact jLadders_l0 l hl l.length 0 k (by omega) hk
/-! ### the law's parts, from the last one on -/
/-- What both have read of a text. -/
def Read (s : ByteArray) (v : Int × Int × Int × Bool) : Prop := (∃ x y z : Int, lad x y z = true ∧ s = txI x y z ∧ v = (x, y, z, true)) ∨ v = (0, 0, 0, false)
theorem j8_true (k : Nat) (hk : 1 ≤ k) {s : ByteArray} {v : Int × Int × Int × Bool} (h : Read s v) : laws_FnLaddersWhole.j8 k s v.2.2.2 v.1 v.2.1 v.2.2.1 = some true := by
  obtain ⟨k, rfl⟩ : ∃ m, k = m + 1 := ⟨k - 1, by omega⟩
  rcases h with ⟨x, y, z, h, rfl, rfl⟩ | rfl
  · rw [laws_FnLaddersWhole.j8, if_pos rfl, LText_eq, h]
    simp only [Option.bind_some, if_true]
    rw [beq_self_eq_true]
  · rw [laws_FnLaddersWhole.j8, if_neg (by decide)]
theorem times_low {y z b n d n' d' : Int} (hy : 1 ≤ y) (hz : 1 ≤ z) (hb : 1 ≤ b) (h : Low (y * z) (y + z) n d) (g : Low (b * y * (b * z)) (b * y + b * z) n' d') : n' * d = n * d' * b := by
  have e1 := h.num
  have e2 := g.num
  have s1 : 1 ≤ y + z := by omega
  have e3 : b * (y + z) * (n' * d) = b * (y + z) * (n * d' * b) := by grind
  have ne : b * (y + z) ≠ 0 := by
    have : 1 ≤ b * (y + z) := Int.mul_pos (by omega) (by omega)
    omega
  exact Int.eq_of_mul_eq_mul_left ne e3
theorem j7_true (k : Nat) (hk : 5020 ≤ k) {s : ByteArray} {v : Int × Int × Int × Bool} (h : Read s v) (x y z b : Int) :
    laws_FnLaddersWhole.j7 k b (tlv x y z b).2.2.2 s v.2.2.2 x y z (tlv x y z b).1 (tlv x y z b).2.1 (tlv x y z b).2.2.1 v.1 v.2.1 v.2.2.1 = some true := by
  obtain ⟨k, rfl⟩ : ∃ m, k = m + 1 := ⟨k - 1, by omega⟩
  have t8 := j8_true k (by omega) h
  cases c : tl x y z b with
  | false =>
    have e : tlv x y z b = (0, 0, 0, false) := by
      unfold tlv
      rw [c]
      rfl
    rw [e, laws_FnLaddersWhole.j7, if_neg (by decide)]
    exact t8
  | true =>
    have e : tlv x y z b = (b * x, b * y, b * z, true) := by
      unfold tlv
      rw [c]
      rfl
    obtain ⟨l1, hb, l2⟩ := tl_of c
    obtain ⟨hx, hy, hz⟩ := lad_of l1
    obtain ⟨gx, gy, gz⟩ := lad_of l2
    have m1 := mul_in (a := y) (b := z) (by omega) hy.2 (by omega) hz.2
    have m2 := mul_in (a := b * y) (b := b * z) (by omega) gy.2 (by omega) gz.2
    have L1 := low_of (a := y * z) (b := y + z) m1.1 (by omega)
    have L2 := low_of (a := b * y * (b * z)) (b := b * y + b * z) m2.1 (by omega)
    have tt := times_low (by omega) (by omega) hb.1 L1 L2
    have q1 := mul_in (a := x) (b := x) (by omega) hx.2 (by omega) hx.2
    have q2 := mul_in (a := y) (b := y) (by omega) hy.2 (by omega) hy.2
    have q3 := mul_in (a := z) (b := z) (by omega) hz.2 (by omega) hz.2
    have r1 := mul_in (a := x * x + y * y) (b := b) (by omega) (show x * x + y * y ≤ 2000000 by omega) (by omega) hb.2
    have r2 := mul_in (a := (x * x + y * y) * b) (b := b) r1.1 r1.2 (by omega) hb.2
    have r3 := mul_in (a := x * x + z * z) (b := b) (by omega) (show x * x + z * z ≤ 2000000 by omega) (by omega) hb.2
    have r4 := mul_in (a := (x * x + z * z) * b) (b := b) r3.1 r3.2 (by omega) hb.2
    have g1 : b * x * (b * x) + b * y * (b * y) = (x * x + y * y) * b * b := by grind
    have g2 : b * x * (b * x) + b * z * (b * z) = (x * x + z * z) * b * b := by grind
    have a1 := L1.n0
    have a2 := L1.nle
    have a3 := L1.d0
    have a4 := L1.dle
    have b1 := L2.n0
    have b2 := L2.nle
    have b3 := L2.d0
    have b4 := L2.dle
    rw [e, laws_FnLaddersWhole.j7, if_pos rfl, CrossHeight_eq k (by omega), CrossHeight_eq k (by omega), Squares_eq, Squares_eq]
    simp only [frs, sqs, l1, l2, if_true, Option.bind_some]
    generalize fn (y * z) (y + z) = n at *
    generalize fd (y * z) (y + z) = d at *
    generalize fn (b * y * (b * z)) (b * y + b * z) = n' at *
    generalize fd (b * y * (b * z)) (b * y + b * z) = d' at *
    have p1 := mul_in (a := n') (b := d) b1 (show n' ≤ 1000000 by omega) (by omega) (show d ≤ 2000 by omega)
    have p2 := mul_in (a := n) (b := d') a1 (show n ≤ 1000000 by omega) (by omega) (show d' ≤ 2000 by omega)
    have p3 := mul_in (a := n * d') (b := b) p2.1 p2.2 (by omega) hb.2
    rw [wrap_id (n := n' * d) (by omega) (by omega), wrap_id (n := n * d') (by omega) (by omega), wrap_id (n := n * d' * b) (by omega) (by omega), if_pos tt, wrap_id (n := (x * x + y * y) * b) (by omega) (by omega), wrap_id (n := (x * x + y * y) * b * b) (by omega) (by omega), if_pos g1, wrap_id (n := (x * x + z * z) * b) (by omega) (by omega), wrap_id (n := (x * x + z * z) * b * b) (by omega) (by omega), if_pos g2]
    exact t8
/-! ### the rows of whole crossings -/
theorem row_is {M : Int} {x : S25} (h : RowOk M x) (hM : M ≤ 150) (k : Nat) (hk : 3000000000 ≤ k) :
    impl_IsWholeCrossing.f k x.f0 x.f1 x.f2 = some (true, true) ∧ (∃ p q, impl_LengthsOf.f k x.f0 x.f1 x.f2 = some (p, q, true) ∧ p ≤ M ∧ q ≤ M) ∧ impl_CrossHeight.f k x.f0 x.f1 x.f2 = some (cr x, 1, true) := by
  have b := row_in h hM
  have c := cr_is h hM
  have hl : lad x.f0 x.f1 x.f2 = true := lad_mk (by omega) (by omega) (by omega)
  have hlen : len x.f0 x.f1 x.f2 = (rt (x.f0 * x.f0 + x.f1 * x.f1), rt (x.f0 * x.f0 + x.f2 * x.f2), true) := by
    unfold len
    rw [hl, h.s1, h.s2]
    rfl
  have m0 := h.w0
  have m1 := h.wM
  refine ⟨?_, ⟨_, _, by rw [Lengths_eq k hk, hlen], ?_, ?_⟩, ?_⟩
  · rw [Whole_eq k hk, hl]
    unfold whole
    rw [hlen, h.dv]
    rfl
  · have r := rt_of h.s1
    exact sq_le r.1 (by omega) (by have := h.b1; omega)
  · have r := rt_of h.s2
    exact sq_le r.1 (by omega) (by have := h.b2; omega)
  · rw [CrossHeight_eq k (by omega), hl]
    have L := low_of (a := x.f1 * x.f2) (b := x.f1 + x.f2) (by omega) (by omega)
    have L2 := L
    rw [c.2.2] at L2
    have w := low_whole (m := x.f1 + x.f2) (r := cr x) (by omega) (by omega) L2
    rw [← c.2.2] at w
    unfold frs
    rw [if_pos rfl, w.1, w.2]
theorem l1_true {M : Int} (hM : M ≤ 150) (L : List S25) (hL : ∀ x ∈ L, RowOk M x) (hn : L.length ≤ 100000000) {lst : Int} {el : Bool} {a b c : Int} (hlow : ∀ x ∈ L, lst ≤ cr x) (hel : el = true → ∃ x ∈ L, x.f0 = a ∧ x.f1 = b ∧ x.f2 = c ∧ cr x = lst)
    {t : Int} {q : Bool} {s : ByteArray} {p : Bool} {u0 u1 u2 g0 g1 g2 r0 r1 r2 : Int} (h7 : ∀ k, 5020 ≤ k → laws_FnLaddersWhole.j7 k t q s p u0 u1 u2 g0 g1 g2 r0 r1 r2 = some true) (B : Nat) (hB : 3000000000 ≤ B) :
    ∀ (rest pre : List S25) (k : Nat) (found : Bool), L = pre ++ rest → B + rest.length < k → (el = true → found = true ∨ ∃ x ∈ rest, x.f0 = a ∧ x.f1 = b ∧ x.f2 = c ∧ cr x = lst) →
    laws_FnLaddersWhole.l1 k M lst el t q s p found L (L.length : Int) (pre.length : Int) a b c u0 u1 u2 g0 g1 g2 r0 r1 r2 = some true := by
  intro rest
  induction rest with
  | nil =>
    intro pre k found e hk hf
    obtain ⟨k, rfl⟩ : ∃ m, k = m + 1 := ⟨k - 1, by omega⟩
    have t7 := h7 k (by omega)
    rw [laws_FnLaddersWhole.l1, if_neg (by rw [e]; simp)]
    cases el with
    | false =>
      rw [if_neg (by decide)]
      exact t7
    | true =>
      rw [if_pos rfl]
      rcases hf rfl with h | ⟨x, hx, _⟩
      · rw [if_pos h]
        exact t7
      · cases hx
  | cons x rest ih =>
    intro pre k found e hk hf
    obtain ⟨k, rfl⟩ : ∃ m, k = m + 1 := ⟨k - 1, by omega⟩
    simp only [List.length_cons] at hk
    have mx_ : x ∈ L := by rw [e]; simp
    have hx := hL x mx_
    have len_ : L.length = pre.length + (rest.length + 1) := by rw [e]; simp
    have rd_ : rd_T25 L (pre.length : Int) = x := by
      rw [e]
      exact rdT_at _ _ _
    have w1 : wrap64 (((pre.length : Nat) : Int) + 1) = (((pre ++ [x]).length : Nat) : Int) := by
      rw [wrap_id (by omega) (by omega)]
      simp
    have e' : L = (pre ++ [x]) ++ rest := by rw [e]; simp
    obtain ⟨i1, ⟨p1, p2, i2, i3, i4⟩, i5⟩ := row_is hx hM k (by omega)
    have le := hx.le
    have lo := hlow x mx_
    rw [laws_FnLaddersWhole.l1, if_pos (by omega), if_pos (by omega), if_pos (by omega), rd_, i1]
    simp only [Option.bind_some]
    rw [i2]
    simp only [Option.bind_some]
    rw [i5]
    simp only [Option.bind_some]
    rw [if_pos trivial, if_pos trivial, if_pos trivial, if_neg (by omega), if_neg (by omega), if_neg (by omega), if_pos trivial, if_pos trivial, if_neg (by omega), w1]
    by_cases f : found = true
    · rw [if_pos f]
      exact ih (pre ++ [x]) k true e' (by omega) (fun _ => .inl rfl)
    · rw [if_neg f]
      by_cases same : (x.f0 == a && (x.f1 == b && (x.f2 == c))) = true
      · rw [if_pos same]
        have sm : x.f0 = a ∧ x.f1 = b ∧ x.f2 = c := by simpa using same
        refine ih (pre ++ [x]) k _ e' (by omega) (fun he => .inl ?_)
        obtain ⟨y, _, y0, y1, y2, y3⟩ := hel he
        have : cr x = cr y := by
          unfold cr
          rw [sm.2.1, sm.2.2, y1, y2]
        rw [this, y3, beq_self_eq_true]
      · rw [if_neg same]
        refine ih (pre ++ [x]) k false e' (by omega) (fun he => .inr ?_)
        rcases hf he with h | ⟨y, my, y0, y1, y2, y3⟩
        · exact absurd h f
        · rcases List.mem_cons.1 my with h | h
          · subst h
            exact absurd (by rw [y0, y1, y2]; simp) same
          · exact ⟨y, h, y0, y1, y2, y3⟩
theorem j5_true {M : Int} (B : Nat) (hB : 3000000000 ≤ B) {t : Int} {q : Bool} {s : ByteArray} {p : Bool} {u0 u1 u2 g0 g1 g2 r0 r1 r2 : Int} (h7 : ∀ k, 5020 ≤ k → laws_FnLaddersWhole.j7 k t q s p u0 u1 u2 g0 g1 g2 r0 r1 r2 = some true) (k : Nat) (hk : B + 4000000 ≤ k) :
    laws_FnLaddersWhole.j5 k M (wcs M) (wn M) (low M).2.2.2 (decide ((low M).2.2.2 > 0)) t q s p (low M).1 (low M).2.1 (low M).2.2.1 u0 u1 u2 g0 g1 g2 r0 r1 r2 = some true := by
  obtain ⟨k, rfl⟩ : ∃ m, k = m + 1 := ⟨k - 1, by omega⟩
  rw [laws_FnLaddersWhole.j5]
  cases e : wn M with
  | false =>
    rw [if_neg (by decide)]
    exact h7 k (by omega)
  | true =>
    rw [if_pos rfl]
    have hl := wcs_length M
    have hw := wcs_ok M
    have hM := (wn_of e).2
    have z0 : (([] : List S25).length : Int) = 0 := rfl
    rw [← z0]
    rcases low_is M with ⟨a, b⟩ | ⟨a, b, c⟩
    · exact l1_true hM (wcs M) (fun x hx => (hw x hx).1) (by omega) (fun x hx => by rw [a] at hx; cases hx) (fun he => by rw [b] at he; cases he) h7 B hB (wcs M) [] k false rfl (by omega) (fun he => by rw [b] at he; cases he)
    · obtain ⟨x, mx_, hx⟩ := c
      have ex : ∃ y ∈ wcs M, y.f0 = (low M).1 ∧ y.f1 = (low M).2.1 ∧ y.f2 = (low M).2.2.1 ∧ cr y = (low M).2.2.2 := ⟨x, mx_, by rw [hx], by rw [hx], by rw [hx], by rw [hx]⟩
      exact l1_true hM (wcs M) (fun x hx => (hw x hx).1) (by omega) b (fun _ => ex) h7 B hB (wcs M) [] k false rfl (by omega) (fun _ => .inr ex)
/-! ### the pairs -/
theorem prs_up (n : Int) (hn : 1 ≤ n ∧ n ≤ 200) : ∀ (m : Nat) (d : Int), d + m = n + 1 → 1 ≤ d → (prs n m d).Pairwise (fun p q => rd p 0 < rd q 0) := by
  intro m
  induction m with
  | zero => intro d _ _; exact List.Pairwise.nil
  | succ m ih =>
    intro d h1 hd
    unfold prs
    split
    · refine List.Pairwise.cons (fun q hq => ?_) (ih (d + 1) (by omega) (by omega))
      obtain ⟨_, a, b, e, g⟩ := prs_ok n hn m (d + 1) (by omega) (by omega) q hq
      subst e
      show n + d < a
      omega
    · exact ih (d + 1) (by omega) (by omega)
theorem l0_true {n : Int} (hn : 1 ≤ n ∧ n ≤ 200) (P : List (List Int)) (hP : ∀ p ∈ P, PairOk n p) (hu : P.Pairwise (fun p q => rd p 0 < rd q 0)) (hl : P.length ≤ 1000) {M : Int} {L : List S25} {e9 : Bool} {lst : Int} {el : Bool}
    {t : Int} {q : Bool} {s : ByteArray} {p : Bool} {a b c u0 u1 u2 g0 g1 g2 r0 r1 r2 : Int} (K : Nat) (h5 : ∀ k, K ≤ k → laws_FnLaddersWhole.j5 k M L e9 lst el t q s p a b c u0 u1 u2 g0 g1 g2 r0 r1 r2 = some true) :
    ∀ (rest pre : List (List Int)) (k : Nat), P = pre ++ rest → K + rest.length < k → laws_FnLaddersWhole.l0 k n P M L e9 lst el t q s p P (P.length : Int) (pre.length : Int) a b c u0 u1 u2 g0 g1 g2 r0 r1 r2 = some true := by
  intro rest
  induction rest with
  | nil =>
    intro pre k e hk
    obtain ⟨k, rfl⟩ : ∃ m, k = m + 1 := ⟨k - 1, by omega⟩
    rw [laws_FnLaddersWhole.l0, if_neg (by rw [e]; simp)]
    exact h5 k (by simp only [List.length_nil] at hk; omega)
  | cons x rest ih =>
    intro pre k e hk
    obtain ⟨k, rfl⟩ : ∃ m, k = m + 1 := ⟨k - 1, by omega⟩
    simp only [List.length_cons] at hk
    obtain ⟨x0, x1, ex, h1, h2, h3, h4⟩ := hP x (by rw [e]; simp)
    have len_ : P.length = pre.length + (rest.length + 1) := by rw [e]; simp
    have rd_ : rd_L3 P (pre.length : Int) = [x0, x1] := by
      unfold rd_L3
      rw [Int.toNat_natCast, e, ← ex]
      simp
    have w1 : wrap64 (((pre.length : Nat) : Int) + 1) = (((pre ++ [x]).length : Nat) : Int) := by
      rw [wrap_id (by omega) (by omega)]
      simp
    have e' : P = (pre ++ [x]) ++ rest := by rw [e]; simp
    have m1 := mul_in (a := x0) (b := x1) (by omega) (show x0 ≤ 41000 by omega) (by omega) h3
    have m2 := mul_in (a := n) (b := x0 + x1) (by omega) hn.2 (by omega) (show x0 + x1 ≤ 82000 by omega)
    have q0 : rd [x0, x1] 0 = x0 := rfl
    have q1 : rd [x0, x1] 1 = x1 := rfl
    have ln : (([x0, x1] : List Int).length : Int) = 2 := rfl
    have go := ih (pre ++ [x]) k e' (by omega)
    rw [laws_FnLaddersWhole.l0, if_pos (by omega), if_pos (by omega), if_pos (by omega), rd_, ln, if_pos rfl, if_pos (by decide), if_pos (by decide), q0, q1, if_neg (by omega), if_neg (by omega), wrap_id (n := x0 * x1) (by omega) (by omega), wrap_id (n := x0 + x1) (by omega) (by omega), wrap_id (n := n * (x0 + x1)) (by omega) (by omega), if_pos h4, w1]
    by_cases c0 : (pre.length : Int) > 0
    · have w2 : wrap64 (((pre.length : Nat) : Int) - 1) = ((pre.length - 1 : Nat) : Int) := by
        rw [wrap_id (by omega) (by omega)]
        omega
      rw [if_pos c0, w2, if_pos (by omega), if_pos (by omega)]
      have hlast : pre.length - 1 < pre.length := by omega
      have rd2 : rd_L3 P ((pre.length - 1 : Nat) : Int) = pre[pre.length - 1] := by
        unfold rd_L3
        rw [Int.toNat_natCast, List.getD_eq_getElem?_getD, e, List.getElem?_append_left hlast, List.getElem?_eq_getElem hlast]
        rfl
      obtain ⟨y0, y1, ey, _, _, _, _⟩ := hP pre[pre.length - 1] (by rw [e]; exact List.mem_append_left _ (List.getElem_mem hlast))
      have lt := (List.pairwise_append.1 (by rw [e] at hu; exact hu)).2.2 pre[pre.length - 1] (List.getElem_mem hlast) x (by simp)
      rw [ey, ex] at lt
      have lt' : y0 < x0 := lt
      rw [rd2, ey, show (([y0, y1] : List Int).length : Int) = 2 from rfl, if_pos (by decide), show rd [y0, y1] 0 = y0 from rfl, if_neg (by omega)]
      exact go
    · rw [if_neg c0]
      exact go
theorem j2_true (B : Nat) (hB : 3000000000 ≤ B) (k : Nat) (hk : B + 4003000 ≤ k) {s : ByteArray} {v : Int × Int × Int × Bool} (h : Read s v) (n M x y z b : Int) :
    laws_FnLaddersWhole.j2 k n (prsOf n) (pn n) ((prsOf n).length : Int) M (wcs M) (wn M) (low M).2.2.2 (decide ((low M).2.2.2 > 0)) b (tlv x y z b).2.2.2 s v.2.2.2 false (low M).1 (low M).2.1 (low M).2.2.1 x y z (tlv x y z b).1 (tlv x y z b).2.1 (tlv x y z b).2.2.1 v.1 v.2.1 v.2.2.1 = some true := by
  have t7 : ∀ k, 5020 ≤ k → laws_FnLaddersWhole.j7 k b (tlv x y z b).2.2.2 s v.2.2.2 x y z (tlv x y z b).1 (tlv x y z b).2.1 (tlv x y z b).2.2.1 v.1 v.2.1 v.2.2.1 = some true := fun k hk => j7_true k hk h x y z b
  have t5 := fun k hk => j5_true (M := M) B hB t7 k hk
  obtain ⟨k, rfl⟩ : ∃ m, k = m + 2 := ⟨k - 2, by omega⟩
  rw [laws_FnLaddersWhole.j2, if_neg (by decide)]
  cases e : pn n with
  | false =>
    rw [if_neg (by decide)]
    exact t5 (k + 1) (by omega)
  | true =>
    have hn : 1 ≤ n ∧ n ≤ 200 := of_decide_eq_true e
    have eq : prsOf n = prs n n.toNat 1 := by
      unfold prsOf
      rw [e, if_pos rfl]
    have pos : 1 ≤ (prsOf n).length := by
      rw [eq, show n.toNat = (n.toNat - 1) + 1 by omega, prs, if_pos (Int.tmod_one _)]
      simp
    have le := prs_length n n.toNat 1
    rw [← eq] at le
    rw [if_pos rfl, if_pos rfl, laws_FnLaddersWhole.j3, if_neg (by
      have : decide (((prsOf n).length : Int) < 1) = false := decide_eq_false (by omega)
      rw [this]
      decide)]
    have z0 : (([] : List (List Int)).length : Int) = 0 := rfl
    rw [← z0]
    exact l0_true hn (prsOf n) (fun p hp => (prs_ok n hn n.toNat 1 (by omega) (by omega) p (by rw [eq] at hp; exact hp)).1) (by rw [eq]; exact prs_up n hn n.toNat 1 (by omega) (by omega)) (by omega) (B + 4000000) t5 (prsOf n) [] k rfl (by omega)
theorem prs_two (n : Int) : ∀ p ∈ prsOf n, p.length ≤ 10 := by
  intro p hp
  unfold prsOf at hp
  cases e : pn n with
  | false =>
    rw [e, if_neg (by decide)] at hp
    cases hp
  | true =>
    have hn : 1 ≤ n ∧ n ≤ 200 := of_decide_eq_true e
    rw [e, if_pos rfl] at hp
    obtain ⟨_, a, b, ep, _⟩ := prs_ok n hn n.toNat 1 (by omega) (by omega) p hp
    rw [ep]
    simp
theorem prsOf_length (n : Int) : (prsOf n).length ≤ 1000 := by
  unfold prsOf
  cases e : pn n with
  | false => exact Nat.zero_le _
  | true =>
    have hn : 1 ≤ n ∧ n ≤ 200 := of_decide_eq_true e
    rw [if_pos rfl]
    have := prs_length n n.toNat 1
    omega
theorem el_is (M : Int) : (if wn M = true then (decide ((low M).2.2.2 > 0) != decide (((wcs M).length : Int) > 0)) else (decide ((low M).2.2.2 > 0) != false)) = false := by
  rcases low_is M with ⟨a, b⟩ | ⟨a, _, x, hx, _⟩
  · rw [a, b]
    cases wn M <;> rfl
  · have e : wn M = true := by
      unfold wcs at hx
      cases e : wn M with
      | true => rfl
      | false =>
        rw [e, if_neg (by decide)] at hx
        cases hx
    have p : 0 < (wcs M).length := List.length_pos_of_mem hx
    rw [e, if_pos rfl, decide_eq_true (show (low M).2.2.2 > 0 by omega), decide_eq_true (show ((wcs M).length : Int) > 0 by omega)]
    rfl
theorem j1_true (B : Nat) (hB : 3006000000 ≤ B) (k : Nat) (hk : B + 4004000 ≤ k) {l : List Int} (hl : Bytes l) : laws_FnLaddersWhole.j1 k l = some true := by
  obtain ⟨k, rfl⟩ : ∃ m, k = m + 1 := ⟨k - 1, by omega⟩
  obtain ⟨n, e1⟩ := drawPairs hl
  obtain ⟨M, e2⟩ := drawWhole hl
  obtain ⟨x, y, z, b, e3⟩ := drawTimes hl
  obtain ⟨s, e4, sz⟩ := drawParse hl k (by omega)
  obtain ⟨v, hv, hr⟩ := parse_same s (by omega)
  have hv := hv k (by omega)
  have t2 := j2_true B (by omega) k (by omega) hr n M x y z b
  have el := el_is M
  have wl := wcs_length M
  rw [laws_FnLaddersWhole.j1]
  simp only [e1, e2, e3, e4, hv.1, hv.2, Option.bind_some, Pairs_eq k (by omega), sPairs_eq k (by omega), Count_eq k (by omega), sCount_eq k (by omega), Crossings_eq k (by omega), sCrossings_eq k (by omega), Lowest_eq k (by omega), sLowest_eq k (by omega), Times_eq k (by omega), sTimes_eq k (by omega), jRows_self _ k (by omega) (prsOf_length n) (prs_two n), jLadders_self _ k (by omega) (show (wcs M).length ≤ 1000000000 by omega), bne_self_eq_false, beq_self_eq_true, Bool.not_true, Bool.or_self, Bool.false_eq_true, if_false, if_true]
  cases e : wn M with
  | true =>
    rw [e] at t2 el
    rw [if_pos rfl] at el
    rw [if_pos rfl, el]
    exact t2
  | false =>
    rw [e] at t2 el
    rw [if_neg (by decide)] at el
    rw [if_neg (by decide), el]
    exact t2
theorem den_one {a b : Int} (ha : 1 ≤ a) (hb : 1 ≤ b) : decide (Int.tmod a b = 0) = (fd a b == 1) := by
  have L := low_of (a := a) (b := b) (by omega) hb
  rw [Bool.eq_iff_iff, decide_eq_true_eq, beq_iff_eq]
  constructor
  · intro h
    have q := Int.mul_tdiv_add_tmod a b
    rw [h, Int.add_zero] at q
    have r0 : 0 ≤ a.tdiv b := Int.tdiv_nonneg (by omega) (by omega)
    have q2 : a.tdiv b * b = a := (Int.mul_comm _ _).trans q
    have w := low_whole (m := b) (r := a.tdiv b) (n := fn a b) (d := fd a b) hb r0 (by rw [q2]; exact L)
    exact w.2
  · intro h
    have e := L.num
    rw [h, Int.mul_one] at e
    rw [← e]
    exact Int.mul_tmod_left _ _
theorem j0_true (B : Nat) (hB : 3006000000 ≤ B) (k : Nat) (hk : B + 4005000 ≤ k) {l : List Int} (hl : Bytes l) (x y z : Int) :
    laws_FnLaddersWhole.j0 k l (sqs x y z).1 (sqs x y z).2.1 (sqs x y z).2.2 (len x y z).1 (len x y z).2.1 (len x y z).2.2 (lad x y z && whole x y z) false x y z = some true := by
  obtain ⟨k, rfl⟩ : ∃ m, k = m + 1 := ⟨k - 1, by omega⟩
  have t1 := j1_true B hB k (by omega) hl
  rw [laws_FnLaddersWhole.j0, if_neg (by decide)]
  unfold sqs
  cases h : lad x y z with
  | false =>
    simp only [Bool.false_eq_true, if_false]
    exact t1
  | true =>
    obtain ⟨hx, hy, hz⟩ := lad_of h
    have m := mul_in (a := x) (b := x) (by omega) hx.2 (by omega) hx.2
    have m1 := mul_in (a := y) (b := y) (by omega) hy.2 (by omega) hy.2
    have m2 := mul_in (a := z) (b := z) (by omega) hz.2 (by omega) hz.2
    have p1 : 1 ≤ y * y := Int.mul_pos (by omega) (by omega)
    have p2 : 1 ≤ z * z := Int.mul_pos (by omega) (by omega)
    have p3 : 1 ≤ y * z := Int.mul_pos (by omega) (by omega)
    have L := low_of (a := y * z) (b := y + z) (by omega) (by omega)
    have np := L.np p3
    have dn := den_one (a := y * z) (b := y + z) p3 (by omega)
    rw [if_pos rfl, if_pos rfl, CrossHeight_eq k (by omega), h]
    simp only [frs, if_true, Option.bind_some]
    rw [wrap_id (n := x * x) (by omega) (by omega), wrap_id (n := y * y) (by omega) (by omega), wrap_id (n := z * z) (by omega) (by omega), wrap_id (n := x * x + y * y) (by omega) (by omega), wrap_id (n := x * x + z * z) (by omega) (by omega), if_pos rfl, if_pos rfl]
    unfold whole
    have e : len x y z = if isq (x * x + y * y) && isq (x * x + z * z) then (rt (x * x + y * y), rt (x * x + z * z), true) else (0, 0, false) := by
      unfold len
      rw [h, Bool.true_and]
    cases q : isq (x * x + y * y) && isq (x * x + z * z) with
    | false =>
      rw [q, if_neg (by decide)] at e
      rw [e]
      simp only [Bool.false_eq_true, if_false, if_true, Bool.false_and, Bool.and_false, bne_self_eq_false]
      rw [if_neg (by omega)]
      exact t1
    | true =>
      rw [q, if_pos rfl] at e
      obtain ⟨q1, q2⟩ := Bool.and_eq_true_iff.1 q
      have r1 := rt_of q1
      have r2 := rt_of q2
      have g1 : ¬ rt (x * x + y * y) ≤ x := fun hle => by
        have := sq_up r1.1 hle
        omega
      have g2 : ¬ rt (x * x + z * z) ≤ x := fun hle => by
        have := sq_up r2.1 hle
        omega
      rw [e]
      simp only [if_true, Bool.true_and]
      rw [r1.2, r2.2, wrap_id (n := x * x + y * y) (by omega) (by omega), wrap_id (n := x * x + z * z) (by omega) (by omega), if_pos rfl, if_pos rfl, if_neg g1, if_neg g2, if_neg (by omega), dn, bne_self_eq_false, if_neg (by decide)]
      exact t1
theorem main : laws_FnLaddersWhole.Pure := by
  intro l0 l1 hm0 _ hw0 hm1 _ hw1
  obtain ⟨B, hB⟩ : ∃ B : Nat, 3006000000 ≤ B := ⟨3006000000, Nat.le_refl _⟩
  obtain ⟨k, hk⟩ : ∃ k : Nat, B + 4010000 ≤ k := ⟨_, Nat.le_refl _⟩
  refine ⟨k, ?_⟩
  unfold laws_FnLaddersWhole.f laws_big.f
  by_cases c : (l0.length : Int) > 1048576
  · rw [if_pos c]
    rfl
  rw [if_neg c]
  simp only [Option.bind_some]
  rw [wrap_id (n := 1048576 - (l0.length : Int)) (by omega) (by omega)]
  by_cases c2 : (l1.length : Int) > 1048576 - (l0.length : Int)
  · rw [if_pos (by simpa using c2)]
  rw [if_neg (by simpa using c2)]
  have B0 := bytes_of (l := l0) (by omega) hw0
  have B1 := bytes_of (l := l1) (by omega) hw1
  obtain ⟨W, L, R, e⟩ := drawSquares B0
  have t := j0_true B hB k (by omega) B1 W L R
  have nb : (len W L R).2.2 = true → (sqs W L R).2.2 = true := by
    unfold len sqs
    cases lad W L R <;> simp
  have sl : (sqs W L R).2.2 = lad W L R := by
    unfold sqs
    cases lad W L R <;> rfl
  rw [e]
  simp only [Option.bind_some, Squares_eq, sSquares_eq, Lengths_eq k (by omega), sLengths_eq k (by omega), Whole_eq k (by omega), sWhole_eq k (by omega), AreLadders_eq, bne_self_eq_false, Bool.false_eq_true, if_false, if_true, sl]
  rw [sl] at t nb
  by_cases q : (len W L R).2.2 = true
  · rw [if_pos q, nb q]
    rw [nb q] at t
    exact t
  · rw [if_neg q]
    exact t
end LFnLaddersWhole

theorem FnLaddersWhole : laws_FnLaddersWhole.Pure := LFnLaddersWhole.main

end Go.Proofs.YtcfknhmdhglmfaaGreatDoor.Pure
