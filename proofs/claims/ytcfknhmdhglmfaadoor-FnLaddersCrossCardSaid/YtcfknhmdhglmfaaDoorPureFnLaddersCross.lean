/- For every two texts of bytes the law of the crossing ladders answers true; no condition beyond the texts' kinds. -/
import Derived.Test.YtcfknhmdhglmfaaDoorPFnLaddersCrossx9
namespace Go.Proofs.YtcfknhmdhglmfaaDoor.Pure
open Go.RowKit Go.Proofs.YtcfknhmdhglmfaaDoor.PFnLaddersCross Go.Proofs.YtcfknhmdhglmfaaDoorW.PrintWords Go.Proofs.YtcfknhmdhglmfaaDoorW.PrintLast
set_option linter.unusedVariables false
set_option linter.unusedSimpArgs false

namespace LFnLaddersCross
theorem within_eq (a b c : Int) : impl_within.f a b c = some (decide (b ≤ a ∧ a ≤ c)) := by
  by_cases h1 : b ≤ a <;> by_cases h2 : a ≤ c <;> simp [impl_within.f, h1, h2]

theorem l1In_eq (a b c : Int) : spec_l1In.f a b c = some (decide (b ≤ a ∧ a ≤ c)) := by
  by_cases h1 : b ≤ a <;> by_cases h2 : a ≤ c <;> simp [spec_l1In.f, h1, h2]

theorem wrap_id {n : Int} (h0 : -9223372036854775808 ≤ n) (h1 : n ≤ 9223372036854775807) : wrap64 n = n := by
  unfold wrap64
  omega

theorem tdiv_le (a b : Int) : (a.tdiv b).natAbs ≤ a.natAbs := by
  rw [Int.natAbs_tdiv]
  exact Nat.div_le_self _ _
theorem wrap_tdiv {a b : Int} (h : a.natAbs ≤ 4611686018427387904) : wrap64 (a.tdiv b) = a.tdiv b := by
  have := tdiv_le a b
  exact wrap_id (by omega) (by omega)

theorem gcd_step (a b : Int) : Nat.gcd b.natAbs (a.tmod b).natAbs = Nat.gcd a.natAbs b.natAbs := by
  rw [Int.natAbs_tmod, Nat.gcd_comm a.natAbs, Nat.gcd_rec b.natAbs a.natAbs, Nat.gcd_comm]
theorem gcd_l0 (d : Nat) : ∀ (k : Nat) (a b : Int), b.natAbs ≤ d → d < k → a.natAbs ≤ 4611686018427387904 → b.natAbs ≤ 4611686018427387904 →
    impl_gcd.l0 k a b = some ((Nat.gcd a.natAbs b.natAbs : Nat) : Int) := by
  induction d with
  | zero =>
    intro k a b hb hk ha hb'
    obtain ⟨k, rfl⟩ : ∃ m, k = m + 1 := ⟨k - 1, by omega⟩
    have h0 : b = 0 := by omega
    simp only [impl_gcd.l0]
    rw [if_pos h0, wrap_id (by omega) (by omega)]
    subst h0
    simp only [Int.natAbs_zero, Nat.gcd_zero_right, Option.some.injEq]
    unfold mx
    split <;> omega
  | succ d ih =>
    intro k a b hb hk ha hb'
    obtain ⟨k, rfl⟩ : ∃ m, k = m + 1 := ⟨k - 1, by omega⟩
    simp only [impl_gcd.l0]
    by_cases h0 : b = 0
    · subst h0
      rw [if_pos rfl, wrap_id (by omega) (by omega)]
      simp only [Int.natAbs_zero, Nat.gcd_zero_right, Option.some.injEq]
      unfold mx
      split <;> omega
    · have hm : (a.tmod b).natAbs < b.natAbs := by
        rw [Int.natAbs_tmod]
        exact Nat.mod_lt _ (by omega)
      rw [if_neg h0, ih k b (a.tmod b) (by omega) (by omega) hb' (by omega), gcd_step]
theorem gcd_eq (k : Nat) (a b : Int) (hk : b.natAbs < k) (ha : a.natAbs ≤ 4611686018427387904) (hb : b.natAbs ≤ 4611686018427387904) :
    impl_gcd.f k a b = some ((Nat.gcd a.natAbs b.natAbs : Nat) : Int) := gcd_l0 b.natAbs k a b (Nat.le_refl _) hk ha hb

theorem gcd_pos {a b : Int} (hb : b ≠ 0) : ((Nat.gcd a.natAbs b.natAbs : Nat) : Int) ≠ 0 := by
  have : 0 < Nat.gcd a.natAbs b.natAbs := Nat.gcd_pos_of_pos_right _ (by omega)
  omega
theorem fraction_eq (k : Nat) (a b : Int) (hk : b.natAbs < k) (h0 : b ≠ 0) (ha : a.natAbs ≤ 4611686018427387904) (hb : b.natAbs ≤ 4611686018427387904) :
    impl_fraction.f k a b = some (a.tdiv (Nat.gcd a.natAbs b.natAbs : Nat), b.tdiv (Nat.gcd a.natAbs b.natAbs : Nat), true) := by
  unfold impl_fraction.f
  rw [gcd_eq k a b hk ha hb]
  simp only [Option.bind_some]
  rw [if_neg (gcd_pos h0), wrap_tdiv ha, wrap_tdiv hb]

theorem gcd_step2 (a b : Int) : Nat.gcd b.natAbs (a.tmod b).natAbs = Nat.gcd a.natAbs b.natAbs := by
  rw [Int.natAbs_tmod, Nat.gcd_comm a.natAbs, Nat.gcd_rec b.natAbs a.natAbs, Nat.gcd_comm]

theorem clLow_l0 (d : Nat) : ∀ (k : Nat) (x y a b : Int), b.natAbs ≤ d → d < k → 0 ≤ a → 0 ≤ b → (a ≠ 0 ∨ b ≠ 0) → x.natAbs ≤ 4611686018427387904 → y.natAbs ≤ 4611686018427387904 →
    spec_clLow.l0 k x y a b = some (x.tdiv (Nat.gcd a.natAbs b.natAbs : Nat), y.tdiv (Nat.gcd a.natAbs b.natAbs : Nat)) := by
  induction d with
  | zero =>
    intro k x y a b hb hk ha hb' hn hx hy
    obtain ⟨k, rfl⟩ : ∃ m, k = m + 1 := ⟨k - 1, by omega⟩
    have h0 : b = 0 := by omega
    simp only [spec_clLow.l0]
    rw [if_neg (by omega), if_neg (by omega), wrap_tdiv hx, wrap_tdiv hy]
    subst h0
    simp only [Int.natAbs_zero, Nat.gcd_zero_right]
    rw [show ((a.natAbs : Nat) : Int) = a by omega]
  | succ d ih =>
    intro k x y a b hb hk ha hb' hn hx hy
    obtain ⟨k, rfl⟩ : ∃ m, k = m + 1 := ⟨k - 1, by omega⟩
    simp only [spec_clLow.l0]
    by_cases h0 : b = 0
    · subst h0
      rw [if_neg (by omega), if_neg (by omega), wrap_tdiv hx, wrap_tdiv hy]
      simp only [Int.natAbs_zero, Nat.gcd_zero_right]
      rw [show ((a.natAbs : Nat) : Int) = a by omega]
    · have hm : (a.tmod b).natAbs < b.natAbs := by
        rw [Int.natAbs_tmod]
        exact Nat.mod_lt _ (by omega)
      rw [if_pos (by omega), if_neg h0, ih k x y b (a.tmod b) (by omega) (by omega) hb' (Int.tmod_nonneg _ ha) (by omega) hx hy, gcd_step2]
theorem clLow_eq (k : Nat) (a b : Int) (hk : b.natAbs < k) (h0 : 0 ≤ a) (hb0 : 0 < b) (ha : a ≤ 4611686018427387904) (hb : b ≤ 4611686018427387904) :
    spec_clLow.f k a b = some (a.tdiv (Nat.gcd a.natAbs b.natAbs : Nat), b.tdiv (Nat.gcd a.natAbs b.natAbs : Nat)) :=
  clLow_l0 b.natAbs k a b a b (Nat.le_refl _) hk h0 (by omega) (by omega) (by omega) (by omega)

theorem u64_lo (n : Int) : 0 ≤ IntKind.u64.wrap n ∧ IntKind.u64.wrap n < 18446744073709551616 := by rw [IntKind.wrap_u64]; omega
theorem mask8 (s : Int) (h0 : 0 ≤ s) (h1 : s < 18446744073709551616) : Go.bits .and .u64 (s / 1099511627776) 255 = s / 1099511627776 % 256 :=
  bits_mask .u64 24 (by decide) (fun n h0 h1 => by rw [IntKind.wrap_u64]; omega) 8 (by decide) _ (by omega) (by omega)
/-- Bytes, not too many. -/
def Bytes (l : List Int) : Prop := l.length ≤ 1048576 ∧ ∀ x ∈ l, 0 ≤ x ∧ x ≤ 255
theorem next_tot {l : List Int} (hl : Bytes l) {p s : Int} (h0 : 0 ≤ p) (h1 : p ≤ 1073741824) : ∃ x s', spec_l1Cur_next.f l p s = some (x, p + 1, s') ∧ 0 ≤ x ∧ x ≤ 255 := by
  have w : wrap64 (p + 1) = p + 1 := wrap_id (by omega) (by omega)
  unfold spec_l1Cur_next.f
  by_cases c : p < (l.length : Int)
  · rw [if_pos c, if_pos h0]
    have hm : 0 ≤ rd l p ∧ rd l p ≤ 255 := by
      have hlt : p.toNat < l.length := by omega
      have e : rd l p = l[p.toNat] := by
        show l.getD p.toNat 0 = _
        rw [List.getD_eq_getElem?_getD, List.getElem?_eq_getElem hlt]
        rfl
      rw [e]
      exact hl.2 _ (List.getElem_mem hlt)
    have wr : wrap64 (rd l p) = rd l p := wrap_id (by omega) (by omega)
    rw [w, wr, if_pos (by omega)]
    exact ⟨_, _, rfl, hm.1, hm.2⟩
  · rw [if_neg c, w]
    by_cases c2 : p + 1 ≤ (l.length : Int)
    · rw [if_pos c2]
      exact ⟨_, _, rfl, by omega, by omega⟩
    · rw [if_neg c2]
      have z := u64_lo (IntKind.u64.wrap (IntKind.u64.wrap (s * 6364136223846793005) + 0) + 1442695040888963407)
      refine ⟨_, _, rfl, ?_⟩
      rw [mask8 _ z.1 z.2, wrap_id (by omega) (by omega)]
      omega
theorem tmod_in {x n : Int} (hx : 0 ≤ x) (hn : 0 < n) : 0 ≤ Int.tmod x n ∧ Int.tmod x n < n := ⟨Int.tmod_nonneg _ hx, Int.tmod_lt_of_pos _ hn⟩
theorem pick_tot {l : List Int} (hl : Bytes l) {p s : Int} (n : Int) (h0 : 0 ≤ p) (h1 : p ≤ 1000000000) : ∃ x q s', spec_l1Cur_pick.f l p s n = some (x, q, s') ∧ 0 ≤ x ∧ (x < n ∨ x = 0) ∧ p ≤ q ∧ q ≤ p + 2 := by
  unfold spec_l1Cur_pick.f
  by_cases c : n ≤ 1
  · rw [if_pos c]
    exact ⟨0, p, s, rfl, by omega, .inr rfl, by omega, by omega⟩
  rw [if_neg c]
  obtain ⟨x, s1, e1, x0, x1⟩ := next_tot hl (p := p) (s := s) h0 (by omega)
  rw [e1]
  simp only [Option.bind_some]
  by_cases c2 : n > 200
  · rw [if_pos c2]
    obtain ⟨y, s2, e2, y0, y1⟩ := next_tot hl (p := p + 1) (s := s1) (by omega) (by omega)
    rw [e2]
    simp only [Option.bind_some]
    rw [if_neg (by omega), wrap_id (n := x * 256) (by omega) (by omega), wrap_id (n := x * 256 + y) (by omega) (by omega)]
    have z := tmod_in (x := x * 256 + y) (n := n) (by omega) (by omega)
    exact ⟨_, _, _, rfl, z.1, .inl z.2, by omega, by omega⟩
  · rw [if_neg c2, if_neg (by omega)]
    have z := tmod_in (x := x) (n := n) (by omega) (by omega)
    exact ⟨_, _, _, rfl, z.1, .inl z.2, by omega, by omega⟩
theorem one_tot {l : List Int} (hl : Bytes l) {p s : Int} (n : Int) (h0 : 0 ≤ p) (h1 : p ≤ 1000000000) : ∃ b q s', spec_l1Cur_one.f l p s n = some (b, q, s') ∧ p ≤ q ∧ q ≤ p + 2 := by
  obtain ⟨x, q, s', e, _, _, a, b⟩ := pick_tot hl (s := s) n h0 h1
  exact ⟨_, q, s', by unfold spec_l1Cur_one.f; rw [e]; rfl, a, b⟩
theorem among_tot {l : List Int} (hl : Bytes l) {p s : Int} (m : List Int) (hm : 0 < m.length) (h0 : 0 ≤ p) (h1 : p ≤ 1000000000) : ∃ x q s', spec_l1Cur_among.f l p s m = some (x, q, s') ∧ p ≤ q ∧ q ≤ p + 2 := by
  obtain ⟨x, q, s', e, x0, x1, a, b⟩ := pick_tot hl (s := s) (m.length : Int) h0 h1
  refine ⟨rd m x, q, s', ?_, a, b⟩
  unfold spec_l1Cur_among.f
  rw [e]
  simp only [Option.bind_some]
  rw [if_pos x0, if_pos (by omega)]

/-- Ladders. -/
def lad (x y z : Int) : Bool := decide (1 ≤ x ∧ x ≤ 1000) && (decide (1 ≤ y ∧ y ≤ 1000) && decide (1 ≤ z ∧ z ≤ 1000))
theorem lad_of {x y z : Int} (h : lad x y z = true) : (1 ≤ x ∧ x ≤ 1000) ∧ (1 ≤ y ∧ y ≤ 1000) ∧ 1 ≤ z ∧ z ≤ 1000 := by
  simp only [lad, Bool.and_eq_true, decide_eq_true_eq] at h
  exact ⟨h.1, h.2.1, h.2.2⟩
theorem lad_mk {x y z : Int} (h1 : 1 ≤ x ∧ x ≤ 1000) (h2 : 1 ≤ y ∧ y ≤ 1000) (h3 : 1 ≤ z ∧ z ≤ 1000) : lad x y z = true := by
  simp only [lad, Bool.and_eq_true, decide_eq_true_eq]
  exact ⟨h1, h2, h3⟩
theorem isWide_eq (x : Int) : impl_isWide.f x = some (decide (1 ≤ x ∧ x ≤ 1000)) := by
  simp only [impl_isWide.f, within_eq, Option.bind_some]
theorem AreLadders_eq (x y z : Int) : impl_AreLadders.f x y z = some (lad x y z) := by
  simp only [impl_AreLadders.f, isWide_eq, Option.bind_some, lad]
  by_cases h1 : 1 ≤ x ∧ x ≤ 1000 <;> by_cases h2 : 1 ≤ y ∧ y ≤ 1000 <;> simp [h1, h2]
theorem clGood_eq (x y z : Int) : spec_clGood.f x y z = some (lad x y z) := by
  simp only [spec_clGood.f, l1In_eq, Option.bind_some, lad]
  by_cases h1 : 1 ≤ x ∧ x ≤ 1000 <;> by_cases h2 : 1 ≤ y ∧ y ≤ 1000 <;> simp [h1, h2]

/-- A fraction in lowest terms: numerator n, denominator d of a / b. -/
structure Low (a b n d : Int) : Prop where
  num : n * b = a * d
  n0 : 0 ≤ n
  nle : n ≤ a
  d0 : 1 ≤ d
  dle : d ≤ b
  one : Nat.gcd n.natAbs d.natAbs = 1
  np : 1 ≤ a → 1 ≤ n
  div : ∃ g : Int, 1 ≤ g ∧ a = n * g ∧ b = d * g ∧ g = ((Nat.gcd a.natAbs b.natAbs : Nat) : Int)
/-- The fraction of two numbers. -/
def fn (a b : Int) : Int := a.tdiv (Nat.gcd a.natAbs b.natAbs : Nat)
def fd (a b : Int) : Int := b.tdiv (Nat.gcd a.natAbs b.natAbs : Nat)
theorem low_of {a b : Int} (ha : 0 ≤ a) (hb : 1 ≤ b) : Low a b (fn a b) (fd a b) := by
  obtain ⟨x, rfl⟩ := Int.eq_ofNat_of_zero_le ha
  obtain ⟨y, rfl⟩ := Int.eq_ofNat_of_zero_le (show 0 ≤ b by omega)
  have hy : 0 < y := by omega
  unfold fn fd
  simp only [Int.natAbs_natCast]
  generalize hg : Nat.gcd x y = g
  have g0 : 0 < g := hg ▸ Nat.gcd_pos_of_pos_right _ hy
  obtain ⟨p, hp⟩ : g ∣ x := hg ▸ Nat.gcd_dvd_left _ _
  obtain ⟨q, hq⟩ : g ∣ y := hg ▸ Nat.gcd_dvd_right _ _
  have t1 : ((x : Nat) : Int).tdiv (g : Nat) = (p : Int) := by
    rw [← Int.ofNat_tdiv, hp, Nat.mul_div_cancel_left _ g0]
  have t2 : ((y : Nat) : Int).tdiv (g : Nat) = (q : Int) := by
    rw [← Int.ofNat_tdiv, hq, Nat.mul_div_cancel_left _ g0]
  rw [t1, t2]
  have hc : Nat.gcd p q = 1 := by
    have : Nat.gcd (g * p) (g * q) = g * 1 := by rw [← hp, ← hq, hg, Nat.mul_one]
    rw [Nat.gcd_mul_left] at this
    exact Nat.eq_of_mul_eq_mul_left g0 this
  have q0 : 0 < q := by
    rcases Nat.eq_zero_or_pos q with h | h
    · rw [h, Nat.mul_zero] at hq
      omega
    · exact h
  have px : p ≤ x := by rw [hp]; exact Nat.le_mul_of_pos_left _ g0
  have qy : q ≤ y := by rw [hq]; exact Nat.le_mul_of_pos_left _ g0
  refine ⟨?_, by omega, by omega, by omega, by omega, hc, ?_, (g : Int), by omega, ?_, ?_, ?_⟩
  · rw [hp, hq]
    push_cast
    rw [Int.mul_comm (g : Int) p, Int.mul_comm (g : Int) q, ← Int.mul_assoc, Int.mul_right_comm]
  · intro h
    rcases Nat.eq_zero_or_pos p with h' | h'
    · rw [h', Nat.mul_zero] at hp
      omega
    · omega
  · rw [hp]
    push_cast
    exact Int.mul_comm _ _
  · rw [hq]
    push_cast
    exact Int.mul_comm _ _
  · simp only [Int.natAbs_natCast]
    rw [hg]
theorem fraction_low (k : Nat) (a b : Int) (hk : b.natAbs < k) (ha : 0 ≤ a) (hb : 1 ≤ b) (ha' : a ≤ 4611686018427387904) (hb' : b ≤ 4611686018427387904) :
    impl_fraction.f k a b = some (fn a b, fd a b, true) := fraction_eq k a b hk (by omega) (by omega) (by omega)
theorem clLow_low (k : Nat) (a b : Int) (hk : b.natAbs < k) (ha : 0 ≤ a) (hb : 1 ≤ b) (ha' : a ≤ 4611686018427387904) (hb' : b ≤ 4611686018427387904) :
    spec_clLow.f k a b = some (fn a b, fd a b) := clLow_eq k a b hk ha (by omega) ha' hb'
theorem jLow_l0 (d : Nat) : ∀ (k : Nat) (a b : Int), b.natAbs ≤ d → d < k → 0 ≤ a → 0 ≤ b →
    laws_jLow.l0 k a b = some (((Nat.gcd a.natAbs b.natAbs : Nat) : Int) == 1) := by
  induction d with
  | zero =>
    intro k a b hb hk ha hb'
    obtain ⟨k, rfl⟩ : ∃ m, k = m + 1 := ⟨k - 1, by omega⟩
    have h0 : b = 0 := by omega
    subst h0
    simp only [laws_jLow.l0]
    rw [if_neg (by omega)]
    simp only [Int.natAbs_zero, Nat.gcd_zero_right]
    rw [show ((a.natAbs : Nat) : Int) = a by omega]
  | succ d ih =>
    intro k a b hb hk ha hb'
    obtain ⟨k, rfl⟩ : ∃ m, k = m + 1 := ⟨k - 1, by omega⟩
    simp only [laws_jLow.l0]
    by_cases h0 : b = 0
    · subst h0
      rw [if_neg (by omega)]
      simp only [Int.natAbs_zero, Nat.gcd_zero_right]
      rw [show ((a.natAbs : Nat) : Int) = a by omega]
    · have hm : (a.tmod b).natAbs < b.natAbs := by
        rw [Int.natAbs_tmod]
        exact Nat.mod_lt _ (by omega)
      rw [if_pos (by omega), if_neg h0, ih k b (a.tmod b) (by omega) (by omega) hb' (Int.tmod_nonneg _ ha)]
      rw [Int.natAbs_tmod, Nat.gcd_comm b.natAbs, ← Nat.gcd_rec, Nat.gcd_comm]
theorem jLow_true (k : Nat) {a b n d : Int} (h : Low a b n d) (hk : d.natAbs + 1 < k) : laws_jLow.f k n d = some true := by
  obtain ⟨k, rfl⟩ : ∃ m, k = m + 1 := ⟨k - 1, by omega⟩
  have := h.d0
  have := h.n0
  unfold laws_jLow.f
  rw [if_neg (by omega), if_neg (by omega)]
  simp only [laws_jLow.j0]
  rw [jLow_l0 d.natAbs k n d (Nat.le_refl _) (by omega) (by omega) (by omega), h.one]
  rfl
theorem low_pos {a b n d : Int} (h : Low a b n d) (ha : 1 ≤ a) : 1 ≤ n := h.np ha
/-- Fractions of one whole are in the order of their numerators. -/
theorem low_le {a b c n m d e : Int} (h : Low a c n d) (g : Low b c m e) (hab : a ≤ b) (hc : 1 ≤ c) : n * e ≤ m * d := by
  have h1 := h.num
  have g1 := g.num
  have hd := h.d0
  have he := g.d0
  have key : (m * d - n * e) * c = (b - a) * (d * e) := by grind
  have nn : 0 ≤ (b - a) * (d * e) := Int.mul_nonneg (by omega) (Int.mul_nonneg (by omega) (by omega))
  rcases Int.lt_or_le (m * d) (n * e) with hlt | hle
  · have : (m * d - n * e) * c < 0 := Int.mul_neg_of_neg_of_pos (by omega) (by omega)
    omega
  · exact hle
theorem low_whole {m r n d : Int} (hm : 1 ≤ m) (hr : 0 ≤ r) (h : Low (r * m) m n d) : n = r ∧ d = 1 := by
  have h1 := h.num
  have hd := h.d0
  have hn := h.n0
  have e : n = r * d := by
    have : n * m = (r * d) * m := by grind
    exact Int.eq_of_mul_eq_mul_right (by omega) this
  have hg := h.one
  have : d.natAbs ∣ n.natAbs := by
    rw [e, Int.natAbs_mul]
    exact Nat.dvd_mul_left _ _
  have h2 : Nat.gcd n.natAbs d.natAbs = d.natAbs := Nat.gcd_eq_right this
  rw [hg] at h2
  have d1 : d = 1 := by omega
  refine ⟨?_, d1⟩
  rw [e, d1, Int.mul_one]

def dg4 (i : Nat) : List UInt8 := if i < 10 then [UInt8.ofNat (48 + i)] else if i < 100 then [UInt8.ofNat (48 + i / 10), UInt8.ofNat (48 + i % 10)] else if i < 1000 then [UInt8.ofNat (48 + i / 100), UInt8.ofNat (48 + i / 10 % 10), UInt8.ofNat (48 + i % 10)] else [UInt8.ofNat (48 + i / 1000), UInt8.ofNat (48 + i / 100 % 10), UInt8.ofNat (48 + i / 10 % 10), UInt8.ofNat (48 + i % 10)]
theorem dec_more {i : Nat} (h : ¬ i < 10) : Lib.decDigits i = Lib.decDigits (i / 10) ++ [UInt8.ofNat (48 + i % 10)] := by
  rw [Lib.decDigits, dif_neg h]
theorem dg4_eq {i : Nat} (h : i < 10000) : Lib.decDigits i = dg4 i := by
  unfold dg4
  by_cases c : i < 10
  · rw [if_pos c, Lib.decDigits_one c]
  rw [if_neg c]
  by_cases c2 : i < 100
  · rw [if_pos c2, Lib.decDigits_two c c2]
  rw [if_neg c2, dec_more c]
  by_cases c3 : i < 1000
  · rw [if_pos c3, Lib.decDigits_two (by omega) (by omega)]
    simp only [Nat.div_div_eq_div_mul]
    rfl
  · rw [if_neg c3, dec_more (i := i / 10) (by omega), Lib.decDigits_two (by omega) (by omega)]
    simp only [Nat.div_div_eq_div_mul]
    rfl
/-- A number's text. -/
def nm4 (i : Nat) : ByteArray := ⟨(dg4 i).toArray⟩
theorem nm4_all : ∀ n : Nat, n < 1001 → spec_l1Num.f 5 (n : Int) = some (nm4 n) ∧ (nm4 n).size ≤ 4 ∧ (58 : UInt8) ∉ dg4 n ∧ (47 : UInt8) ∉ dg4 n := by decide +kernel
theorem atoi4_all : ∀ w : Nat, w < 1001 → Lib.atoiAll (dg4 w) = .ok (w : Int) := by decide +kernel
theorem l1Num4_eq (n : Nat) (hn : n < 1001) (k : Nat) (hk : 5 ≤ k) : spec_l1Num.f k (n : Int) = some (nm4 n) := by
  have : ∀ d, spec_l1Num.f (5 + d) (n : Int) = some (nm4 n) := by
    intro d
    induction d with
    | zero => exact (nm4_all n hn).1
    | succ d ih => exact spec_l1Num.mono _ _ _ ih
  have h := this (k - 5)
  rwa [show 5 + (k - 5) = k by omega] at h
theorem itoa4 {w : Nat} (h : w < 1001) : Lib.itoa (w : Int) = dg4 w := by
  unfold Lib.itoa
  rw [if_neg (by omega), Int.toNat_natCast, dg4_eq (by omega)]
theorem numR_nm4 (w : Nat) (h : w < 1001) : numR ⟨(dg4 w).toArray⟩ = ((w : Int), true) := by
  unfold numR
  have : (⟨(dg4 w).toArray⟩ : ByteArray).data.toList = dg4 w := rfl
  rw [this, atoi4_all w h]
  show ((w : Int), Lib.itoa (w : Int) == (⟨(dg4 w).toArray⟩ : ByteArray).toList) = _
  rw [itoa4 (by omega), Lib.toList_data, this, beq_self_eq_true]
theorem text4 (w : Nat) (h : w < 1001) : impl_text.f (w : Int) = some (nm4 w) := by
  unfold impl_text.f strconv_Itoa.f
  rw [if_pos (by omega), itoa4 h]
  rfl
theorem index_at (c : UInt8) (b : List UInt8) : ∀ a : List UInt8, c ∉ a → Lib.index (a ++ c :: b) [c] = (a.length : Int)
  | [], _ => by
    show Lib.index (c :: b) [c] = _
    unfold Lib.index
    rw [if_pos (by simp [List.isPrefixOf])]
    rfl
  | x :: a, h => by
    have hx : x ≠ c := fun e => h (by rw [e]; exact List.mem_cons_self)
    have ha : c ∉ a := fun e => h (List.mem_cons_of_mem _ e)
    show Lib.index (x :: (a ++ c :: b)) [c] = _
    unfold Lib.index
    have h0 : List.isPrefixOf [c] (x :: (a ++ c :: b)) = false := by
      simp only [List.isPrefixOf, Bool.and_eq_false_imp]
      intro e
      exact absurd (eq_of_beq e).symm hx
    rw [h0, index_at c b a ha]
    have : ((a.length : Int) == -1) = false := by rw [beq_eq_false_iff_ne]; omega
    simp [this]
theorem cut_at (c : UInt8) (a b : List UInt8) (h : c ∉ a) : Lib.cut (a ++ c :: b) [c] = (a, b, true) := by
  unfold Lib.cut
  rw [index_at c b a h, if_pos (by omega), Int.toNat_natCast]
  have : (a ++ c :: b).drop (a.length + [c].length) = b := by
    rw [List.drop_append]
    simp
  rw [List.take_left, this]

theorem mul_in {a b A B : Int} (ha : 0 ≤ a) (hA : a ≤ A) (hb : 0 ≤ b) (hB : b ≤ B) : 0 ≤ a * b ∧ a * b ≤ A * B :=
  ⟨Int.mul_nonneg ha hb, Int.mul_le_mul hA hB hb (Int.le_trans ha hA)⟩
theorem mul_one_le {a b : Int} (ha : 1 ≤ a) (hb : 1 ≤ b) : 1 ≤ a * b := Int.mul_pos (by omega) (by omega)
/-! ### the draws end -/
theorem most_tot (a b : Int) : ∃ z, spec_l1Most.f a b = some z := by
  unfold spec_l1Most.f
  split <;> exact ⟨_, rfl⟩
theorem least_tot (a b : Int) : ∃ z, spec_l1Least.f a b = some z := by
  unfold spec_l1Least.f
  split <;> exact ⟨_, rfl⟩
theorem sure_tot {l : List Int} (hl : Bytes l) {p s : Int} (h0 : 0 ≤ p) (h1 : p ≤ 1000000) : ∃ a b c q s', spec_l1Cur_sureLadders.f l p s = some (a, b, c, q, s') ∧ p ≤ q ∧ q ≤ p + 8 := by
  obtain ⟨x1, q1, s1, e1, _, _, a1, b1⟩ := pick_tot hl (s := s) 6 h0 (by omega)
  obtain ⟨x2, q2, s2, e2, _, _, a2, b2⟩ := pick_tot hl (p := q1) (s := s1) 9 (by omega) (by omega)
  obtain ⟨x3, q3, s3, e3, a3, b3⟩ := among_tot hl (p := q2) (s := s2) [5, 9, 16, 35] (by decide) (by omega) (by omega)
  obtain ⟨x4, q4, s4, e4, a4, b4⟩ := among_tot hl (p := q3) (s := s3) [5, 9, 16, 35] (by decide) (by omega) (by omega)
  obtain ⟨y2, r2, t2, f2, _, _, c2, d2⟩ := pick_tot hl (p := q1) (s := s1) 20 (by omega) (by omega)
  obtain ⟨y3, r3, t3, f3, _, _, c3, d3⟩ := pick_tot hl (p := r2) (s := t2) 20 (by omega) (by omega)
  obtain ⟨y4, r4, t4, f4, _, _, c4, d4⟩ := pick_tot hl (p := r3) (s := t3) 20 (by omega) (by omega)
  unfold spec_l1Cur_sureLadders.f
  simp only [e1, e2, e3, e4, f2, f3, f4, Option.bind_some]
  by_cases c : x1 = 0
  · rw [if_pos c]
    exact ⟨_, _, _, _, _, rfl, by omega, by omega⟩
  · rw [if_neg c]
    by_cases c' : x1 = 1
    · rw [if_pos c']
      exact ⟨_, _, _, _, _, rfl, by omega, by omega⟩
    · rw [if_neg c']
      exact ⟨_, _, _, _, _, rfl, by omega, by omega⟩
theorem ladders_tot {l : List Int} (hl : Bytes l) {p s : Int} (h0 : 0 ≤ p) (h1 : p ≤ 100000) : ∃ a b c q s', spec_l1Cur_ladders.f l p s = some (a, b, c, q, s') ∧ p ≤ q ∧ q ≤ p + 20 := by
  obtain ⟨a, b, c, q1, s1, e1, a1, b1⟩ := sure_tot hl (s := s) h0 (by omega)
  obtain ⟨x2, q2, s2, e2, _, _, a2, b2⟩ := pick_tot hl (p := q1) (s := s1) 20 (by omega) (by omega)
  obtain ⟨x3, q3, s3, e3, a3, b3⟩ := among_tot hl (p := q2) (s := s2) [(-1), 0, 1, 1000, 1001, 4611686018427387904] (by decide) (by omega) (by omega)
  unfold spec_l1Cur_ladders.f
  simp only [e1, e2, e3, Option.bind_some]
  by_cases c1 : x2 = 0
  · rw [if_pos c1]
    exact ⟨_, _, _, _, _, rfl, by omega, by omega⟩
  · rw [if_neg c1]
    by_cases c2 : x2 = 1
    · rw [if_pos c2]
      exact ⟨_, _, _, _, _, rfl, by omega, by omega⟩
    · rw [if_neg c2]
      by_cases c3 : x2 = 2
      · rw [if_pos c3]
        exact ⟨_, _, _, _, _, rfl, by omega, by omega⟩
      · rw [if_neg c3]
        exact ⟨_, _, _, _, _, rfl, by omega, by omega⟩
theorem drawCross {l : List Int} (hl : Bytes l) : ∃ a b c, spec_DrawCrossHeight.f l = some (a, b, c) := by
  obtain ⟨a, b, c, q, s, e, _, _⟩ := ladders_tot hl (p := 0) (s := 0) (by omega) (by omega)
  unfold spec_DrawCrossHeight.f spec_DrawAreLadders.f
  simp only [e, Option.bind_some]
  exact ⟨_, _, _, rfl⟩
theorem drawHeight {l : List Int} (hl : Bytes l) : ∃ a b c d e, spec_DrawHeightAt.f l = some (a, b, c, d, e) := by
  obtain ⟨a, b, c, q1, s1, e1, a1, b1⟩ := ladders_tot hl (p := 0) (s := 0) (by omega) (by omega)
  obtain ⟨o, q2, s2, e2, a2, b2⟩ := one_tot hl (p := q1) (s := s1) 2 (by omega) (by omega)
  obtain ⟨m, f1⟩ := most_tot 1 a
  obtain ⟨n, f2⟩ := least_tot 60 m
  obtain ⟨x3, q3, s3, e3, _, _, a3, b3⟩ := pick_tot hl (p := q2) (s := s2) (wrap64 (n + 2)) (by omega) (by omega)
  obtain ⟨x4, q4, s4, e4, _, _, a4, b4⟩ := pick_tot hl (p := q3) (s := s3) 9 (by omega) (by omega)
  unfold spec_DrawHeightAt.f
  simp only [e1, e2, f1, f2, e3, e4, Option.bind_some]
  exact ⟨_, _, _, _, _, rfl⟩
theorem drawOther {l : List Int} (hl : Bytes l) : ∃ a b c, spec_DrawOtherHeight.f l = some (a, b, c) := by
  obtain ⟨o, q1, s1, e1, a1, b1⟩ := one_tot hl (p := 0) (s := 0) 8 (by omega) (by omega)
  obtain ⟨x2, q2, s2, e2, a2, b2⟩ := among_tot hl (p := q1) (s := s1) [-1, 0, 1, 1000, 1001] (by decide) (by omega) (by omega)
  obtain ⟨x3, q3, s3, e3, a3, b3⟩ := among_tot hl (p := q2) (s := s2) [-1, 0, 1, 1000, 1001] (by decide) (by omega) (by omega)
  obtain ⟨x4, q4, s4, e4, a4, b4⟩ := among_tot hl (p := q3) (s := s3) [-1, 0, 1, 1000, 1001] (by decide) (by omega) (by omega)
  obtain ⟨y2, r2, t2, f2, _, _, c2, d2⟩ := pick_tot hl (p := q1) (s := s1) 30 (by omega) (by omega)
  obtain ⟨y3, r3, t3, f3, _, _, c3, d3⟩ := pick_tot hl (p := r2) (s := t2) 30 (by omega) (by omega)
  obtain ⟨y4, r4, t4, f4, _, _, c4, d4⟩ := pick_tot hl (p := r3) (s := t3) 4 (by omega) (by omega)
  unfold spec_DrawOtherHeight.f
  simp only [e1, e2, e3, e4, f2, f3, f4, Option.bind_some]
  by_cases c : o = true
  · rw [if_pos c]
    exact ⟨_, _, _, rfl⟩
  · rw [if_neg c]
    exact ⟨_, _, _, rfl⟩
theorem drawMove {l : List Int} (hl : Bytes l) : ∃ a b c d, spec_DrawMoveWall.f l = some (a, b, c, d) := by
  obtain ⟨a, b, c, q1, s1, e1, a1, b1⟩ := ladders_tot hl (p := 0) (s := 0) (by omega) (by omega)
  obtain ⟨x2, q2, s2, e2, a2, b2⟩ := among_tot hl (p := q1) (s := s1) [0, 1, -1, 5, -5, -19, 990, 1000, -1000, 1001, -1001] (by decide) (by omega) (by omega)
  unfold spec_DrawMoveWall.f
  simp only [e1, e2, Option.bind_some]
  exact ⟨_, _, _, _, rfl⟩
/-! ### what the functions answer -/
/-- A fraction, where c holds. -/
def frs (c : Bool) (a b : Int) : Int × Int × Bool := if c then (fn a b, fd a b, true) else (0, 0, false)
theorem CrossHeight_eq (k : Nat) (hk : 5000 ≤ k) (x y z : Int) : impl_CrossHeight.f k x y z = some (frs (lad x y z) (y * z) (y + z)) := by
  unfold impl_CrossHeight.f
  rw [AreLadders_eq]
  simp only [Option.bind_some]
  cases h : lad x y z with
  | false => rfl
  | true =>
    obtain ⟨hx, hy, hz⟩ := lad_of h
    have m := mul_in (a := y) (b := z) (by omega) hy.2 (by omega) hz.2
    rw [if_pos rfl, wrap_id (n := y * z) (by omega) (by omega), wrap_id (n := y + z) (by omega) (by omega), fraction_low k (y * z) (y + z) (by omega) m.1 (by omega) (by omega) (by omega)]
    rfl
theorem sCrossHeight_eq (k : Nat) (hk : 5000 ≤ k) (x y z : Int) : spec_CrossHeight.f k x y z = some (frs (lad x y z) (y * z) (y + z)) := by
  unfold spec_CrossHeight.f
  rw [clGood_eq]
  simp only [Option.bind_some]
  cases h : lad x y z with
  | false => rfl
  | true =>
    obtain ⟨hx, hy, hz⟩ := lad_of h
    have m := mul_in (a := y) (b := z) (by omega) hy.2 (by omega) hz.2
    rw [if_pos rfl, wrap_id (n := y * z) (by omega) (by omega), wrap_id (n := y + z) (by omega) (by omega), clLow_low k (y * z) (y + z) (by omega) m.1 (by omega) (by omega) (by omega)]
    rfl
theorem CrossPlace_eq (k : Nat) (hk : 5000 ≤ k) (x y z : Int) : impl_CrossPlace.f k x y z = some (frs (lad x y z) (x * y) (y + z)) := by
  unfold impl_CrossPlace.f
  rw [AreLadders_eq, Int.mul_comm y x]
  simp only [Option.bind_some]
  cases h : lad x y z with
  | false => rfl
  | true =>
    obtain ⟨hx, hy, hz⟩ := lad_of h
    have m := mul_in (a := x) (b := y) (by omega) hx.2 (by omega) hy.2
    rw [if_pos rfl, wrap_id (n := x * y) (by omega) (by omega), wrap_id (n := y + z) (by omega) (by omega), fraction_low k (x * y) (y + z) (by omega) m.1 (by omega) (by omega) (by omega)]
    rfl
theorem sCrossPlace_eq (k : Nat) (hk : 5000 ≤ k) (x y z : Int) : spec_CrossPlace.f k x y z = some (frs (lad x y z) (x * y) (y + z)) := by
  unfold spec_CrossPlace.f
  rw [clGood_eq]
  simp only [Option.bind_some]
  cases h : lad x y z with
  | false => rfl
  | true =>
    obtain ⟨hx, hy, hz⟩ := lad_of h
    have m := mul_in (a := x) (b := y) (by omega) hx.2 (by omega) hy.2
    rw [if_pos rfl, wrap_id (n := x * y) (by omega) (by omega), wrap_id (n := y + z) (by omega) (by omega), clLow_low k (x * y) (y + z) (by omega) m.1 (by omega) (by omega) (by omega)]
    rfl
theorem AreaBelow_eq (k : Nat) (hk : 5000 ≤ k) (x y z : Int) : impl_AreaBelow.f k x y z = some (frs (lad x y z) (x * y * z) (2 * (y + z))) := by
  unfold impl_AreaBelow.f
  rw [AreLadders_eq]
  simp only [Option.bind_some]
  cases h : lad x y z with
  | false => rfl
  | true =>
    obtain ⟨hx, hy, hz⟩ := lad_of h
    have m := mul_in (a := x) (b := y) (by omega) hx.2 (by omega) hy.2
    have m2 := mul_in (a := x * y) (b := z) m.1 m.2 (by omega) hz.2
    rw [if_pos rfl, wrap_id (n := x * y) (by omega) (by omega), wrap_id (n := x * y * z) (by omega) (by omega), wrap_id (n := y + z) (by omega) (by omega), wrap_id (n := 2 * (y + z)) (by omega) (by omega), fraction_low k (x * y * z) (2 * (y + z)) (by omega) m2.1 (by omega) (by omega) (by omega)]
    rfl
theorem sAreaBelow_eq (k : Nat) (hk : 5000 ≤ k) (x y z : Int) : spec_AreaBelow.f k x y z = some (frs (lad x y z) (x * y * z) (2 * (y + z))) := by
  unfold spec_AreaBelow.f
  rw [clGood_eq]
  simp only [Option.bind_some]
  cases h : lad x y z with
  | false => rfl
  | true =>
    obtain ⟨hx, hy, hz⟩ := lad_of h
    have m := mul_in (a := x) (b := y) (by omega) hx.2 (by omega) hy.2
    have m2 := mul_in (a := x * y) (b := z) m.1 m.2 (by omega) hz.2
    rw [if_pos rfl, wrap_id (n := x * y) (by omega) (by omega), wrap_id (n := x * y * z) (by omega) (by omega), wrap_id (n := y + z) (by omega) (by omega), wrap_id (n := 2 * (y + z)) (by omega) (by omega), clLow_low k (x * y * z) (2 * (y + z)) (by omega) m2.1 (by omega) (by omega) (by omega)]
    rfl
/-- What both ladders span, less what is below both: two heights' squares and product. -/
def sq (y z : Int) : Int := (y + z) * (y + z) - y * z
theorem sq_in {y z : Int} (hy : 1 ≤ y ∧ y ≤ 1000) (hz : 1 ≤ z ∧ z ≤ 1000) : 1 ≤ sq y z ∧ sq y z ≤ 4000000 ∧ (0 ≤ (y + z) * (y + z) ∧ (y + z) * (y + z) ≤ 4000000) ∧ 0 ≤ y * z ∧ y * z ≤ 1000000 := by
  have m := mul_in (a := y) (b := z) (by omega) hy.2 (by omega) hz.2
  have s := mul_in (a := y + z) (b := y + z) (A := 2000) (B := 2000) (by omega) (by omega) (by omega) (by omega)
  have y1 := mul_one_le hy.1 hy.1
  have z0 := Int.mul_nonneg (show 0 ≤ z by omega) (show 0 ≤ z by omega)
  have e : (y + z) * (y + z) = y * y + z * z + 2 * (y * z) := by
    rw [Int.add_mul, Int.mul_add, Int.mul_add, Int.mul_comm z y]
    omega
  unfold sq
  refine ⟨?_, ?_, s, m⟩ <;> omega
theorem AreaBetween_eq (k : Nat) (hk : 5000 ≤ k) (x y z : Int) : impl_AreaBetween.f k x y z = some (frs (lad x y z) (x * sq y z) (2 * (y + z))) := by
  unfold impl_AreaBetween.f
  rw [AreLadders_eq]
  simp only [Option.bind_some]
  cases h : lad x y z with
  | false => rfl
  | true =>
    obtain ⟨hx, hy, hz⟩ := lad_of h
    have b := sq_in hy hz
    have m2 := mul_in (a := x) (b := sq y z) (by omega) hx.2 (by omega) b.2.1
    rw [if_pos rfl, wrap_id (n := y + z) (by omega) (by omega), wrap_id (n := (y + z) * (y + z)) (by omega) (by omega), wrap_id (n := y * z) (by omega) (by omega), show (y + z) * (y + z) - y * z = sq y z from rfl, wrap_id (n := sq y z) (by omega) (by omega), wrap_id (n := x * sq y z) (by omega) (by omega), wrap_id (n := 2 * (y + z)) (by omega) (by omega), fraction_low k (x * sq y z) (2 * (y + z)) (by omega) m2.1 (by omega) (by omega) (by omega)]
    rfl
theorem sAreaBetween_eq (k : Nat) (hk : 5000 ≤ k) (x y z : Int) : spec_AreaBetween.f k x y z = some (frs (lad x y z) (x * sq y z) (2 * (y + z))) := by
  unfold spec_AreaBetween.f
  rw [clGood_eq]
  simp only [Option.bind_some]
  cases h : lad x y z with
  | false => rfl
  | true =>
    obtain ⟨hx, hy, hz⟩ := lad_of h
    have b := sq_in hy hz
    have m2 := mul_in (a := x) (b := sq y z) (by omega) hx.2 (by omega) b.2.1
    rw [if_pos rfl, wrap_id (n := y + z) (by omega) (by omega), wrap_id (n := (y + z) * (y + z)) (by omega) (by omega), wrap_id (n := y * z) (by omega) (by omega), show (y + z) * (y + z) - y * z = sq y z from rfl, wrap_id (n := sq y z) (by omega) (by omega), wrap_id (n := x * sq y z) (by omega) (by omega), wrap_id (n := 2 * (y + z)) (by omega) (by omega), clLow_low k (x * sq y z) (2 * (y + z)) (by omega) m2.1 (by omega) (by omega) (by omega)]
    rfl
theorem Stick_eq (x y z : Int) : impl_LongestStick.f x y z = some (if lad x y z then ((y * z).tdiv (y + z), true) else (0, false)) := by
  unfold impl_LongestStick.f
  rw [AreLadders_eq]
  simp only [Option.bind_some]
  cases h : lad x y z with
  | false => rfl
  | true =>
    obtain ⟨hx, hy, hz⟩ := lad_of h
    have m := mul_in (a := y) (b := z) (by omega) hy.2 (by omega) hz.2
    rw [if_pos rfl, wrap_id (n := y * z) (by omega) (by omega), wrap_id (n := y + z) (by omega) (by omega), if_neg (by omega), wrap_tdiv (by omega)]
    rfl
theorem sStick_eq (x y z : Int) : spec_LongestStick.f x y z = some (if lad x y z then ((y * z).tdiv (y + z), true) else (0, false)) := by
  unfold spec_LongestStick.f
  rw [clGood_eq]
  simp only [Option.bind_some]
  cases h : lad x y z with
  | false => rfl
  | true =>
    obtain ⟨hx, hy, hz⟩ := lad_of h
    have m := mul_in (a := y) (b := z) (by omega) hy.2 (by omega) hz.2
    rw [if_pos rfl, wrap_id (n := y * z) (by omega) (by omega), wrap_id (n := y + z) (by omega) (by omega), if_neg (by omega), wrap_tdiv (by omega)]
    rfl
theorem c_size : (⟨#[58]⟩ : ByteArray).size = 1 := rfl
theorem s_size : (⟨#[47]⟩ : ByteArray).size = 1 := rfl
/-- The text of ladders. -/
def tx (x y z : Nat) : ByteArray := (((nm4 x ++ ⟨#[58]⟩) ++ nm4 y) ++ ⟨#[47]⟩) ++ nm4 z
def txI (x y z : Int) : ByteArray := tx x.toNat y.toNat z.toNat
theorem LText_eq (x y z : Int) : impl_LaddersText.f x y z = some (if lad x y z then (txI x y z, true) else (⟨#[]⟩, false)) := by
  unfold impl_LaddersText.f
  rw [AreLadders_eq]
  simp only [Option.bind_some]
  cases h : lad x y z with
  | false => rfl
  | true =>
    obtain ⟨hx, hy, hz⟩ := lad_of h
    obtain ⟨x, rfl⟩ := Int.eq_ofNat_of_zero_le (show 0 ≤ x by omega)
    obtain ⟨y, rfl⟩ := Int.eq_ofNat_of_zero_le (show 0 ≤ y by omega)
    obtain ⟨z, rfl⟩ := Int.eq_ofNat_of_zero_le (show 0 ≤ z by omega)
    have a := (nm4_all x (by omega)).2.1
    have b := (nm4_all y (by omega)).2.1
    have c := (nm4_all z (by omega)).2.1
    rw [if_pos rfl, text4 x (by omega), text4 y (by omega), text4 z (by omega)]
    simp only [Option.bind_some, ByteArray.size_append, c_size, s_size]
    rw [if_pos (by omega), if_pos (by omega), if_pos (by omega), if_pos (by omega)]
    rfl
theorem sLText_eq (k : Nat) (hk : 5 ≤ k) (x y z : Int) : spec_LaddersText.f k x y z = some (if lad x y z then (txI x y z, true) else (⟨#[]⟩, false)) := by
  unfold spec_LaddersText.f spec_clText.f
  rw [clGood_eq]
  simp only [Option.bind_some]
  cases h : lad x y z with
  | false => rfl
  | true =>
    obtain ⟨hx, hy, hz⟩ := lad_of h
    obtain ⟨x, rfl⟩ := Int.eq_ofNat_of_zero_le (show 0 ≤ x by omega)
    obtain ⟨y, rfl⟩ := Int.eq_ofNat_of_zero_le (show 0 ≤ y by omega)
    obtain ⟨z, rfl⟩ := Int.eq_ofNat_of_zero_le (show 0 ≤ z by omega)
    have a := (nm4_all x (by omega)).2.1
    have b := (nm4_all y (by omega)).2.1
    have c := (nm4_all z (by omega)).2.1
    rw [if_pos rfl, l1Num4_eq x (by omega) k hk, l1Num4_eq y (by omega) k hk, l1Num4_eq z (by omega) k hk]
    simp only [Option.bind_some, ByteArray.size_append, c_size, s_size]
    rw [if_pos (by omega), if_pos (by omega), if_pos (by omega), if_pos (by omega)]
    rfl
theorem checked_eq (x y z : Int) : impl_checkedLadders.f x y z = some (if lad x y z then (x, y, z, true) else (0, 0, 0, false)) := by
  unfold impl_checkedLadders.f
  rw [AreLadders_eq]
  simp only [Option.bind_some]
  cases lad x y z <;> rfl
theorem lad_swap (x y z : Int) : lad x z y = lad x y z := by
  unfold lad
  rw [Bool.and_comm (decide (1 ≤ z ∧ z ≤ 1000))]
theorem Mirror_eq (x y z : Int) : impl_MirrorLadders.f x y z = some (if lad x y z then (x, z, y, true) else (0, 0, 0, false)) := by
  unfold impl_MirrorLadders.f
  rw [checked_eq, lad_swap]
  simp only [Option.bind_some]
theorem sMirror_eq (x y z : Int) : spec_MirrorLadders.f x y z = some (if lad x y z then (x, z, y, true) else (0, 0, 0, false)) := by
  unfold spec_MirrorLadders.f
  rw [clGood_eq]
  simp only [Option.bind_some]
  cases lad x y z <;> rfl
theorem app_list (a b : ByteArray) : (a ++ b).data.toList = a.data.toList ++ b.data.toList := by
  rw [ByteArray.data_append, Array.toList_append]
theorem tx_list (x y z : Nat) : (tx x y z).data.toList = dg4 x ++ (58 : UInt8) :: (dg4 y ++ (47 : UInt8) :: dg4 z) := by
  unfold tx
  simp only [app_list]
  show (((dg4 x ++ [58]) ++ dg4 y) ++ [47]) ++ dg4 z = _
  simp only [List.append_assoc, List.cons_append, List.nil_append]
theorem Parse_eq (k : Nat) (hk : 1 ≤ k) (x y z : Int) (h : lad x y z = true) : impl_ParseLadders.f k (txI x y z) = some (x, y, z, true) := by
  obtain ⟨k, rfl⟩ : ∃ m, k = m + 1 := ⟨k - 1, by omega⟩
  obtain ⟨hx, hy, hz⟩ := lad_of h
  have hc := checked_eq x y z
  rw [h] at hc
  obtain ⟨x, rfl⟩ := Int.eq_ofNat_of_zero_le (show 0 ≤ x by omega)
  obtain ⟨y, rfl⟩ := Int.eq_ofNat_of_zero_le (show 0 ≤ y by omega)
  obtain ⟨z, rfl⟩ := Int.eq_ofNat_of_zero_le (show 0 ≤ z by omega)
  have a := nm4_all x (by omega)
  have b := nm4_all y (by omega)
  have c := nm4_all z (by omega)
  have e1 : txI (x : Int) (y : Int) (z : Int) = tx x y z := rfl
  have sz : (tx x y z).size ≤ 20 := by
    unfold tx
    simp only [ByteArray.size_append, c_size, s_size]
    have := a.2.1
    have := b.2.1
    have := c.2.1
    omega
  have l1 : (dg4 x).length ≤ 4 := a.2.1
  have l2 : (dg4 y).length ≤ 4 := b.2.1
  have l3 : (dg4 z).length ≤ 4 := c.2.1
  have k1 : strings_Cut.f (tx x y z) ⟨#[58]⟩ = some (⟨(dg4 x).toArray⟩, ⟨(dg4 y ++ (47 : UInt8) :: dg4 z).toArray⟩, true) := by
    unfold strings_Cut.f
    rw [if_pos (by omega), tx_list, show (⟨#[58]⟩ : ByteArray).data.toList = [58] from rfl, cut_at _ _ _ a.2.2.1]
  have k2 : strings_Cut.f ⟨(dg4 y ++ (47 : UInt8) :: dg4 z).toArray⟩ ⟨#[47]⟩ = some (⟨(dg4 y).toArray⟩, ⟨(dg4 z).toArray⟩, true) := by
    unfold strings_Cut.f
    have : (⟨(dg4 y ++ (47 : UInt8) :: dg4 z).toArray⟩ : ByteArray).size ≤ 9 := by
      show (dg4 y ++ (47 : UInt8) :: dg4 z).toArray.size ≤ 9
      simp only [List.size_toArray, List.length_append, List.length_cons]
      omega
    rw [if_pos (by omega), show (⟨(dg4 y ++ (47 : UInt8) :: dg4 z).toArray⟩ : ByteArray).data.toList = dg4 y ++ (47 : UInt8) :: dg4 z from rfl, show (⟨#[47]⟩ : ByteArray).data.toList = [47] from rfl, cut_at _ _ _ b.2.2.2]
  have nn : ∀ n : Nat, n < 1001 → impl_number.f ⟨(dg4 n).toArray⟩ = some ((n : Int), true) := fun n hn => by
    unfold impl_number.f
    have : (⟨(dg4 n).toArray⟩ : ByteArray).size ≤ 4 := (nm4_all n hn).2.1
    rw [if_pos (by omega), numR_nm4 n hn]
  unfold impl_ParseLadders.f
  rw [e1, k1]
  simp only [Option.bind_some]
  rw [k2]
  simp only [Option.bind_some, nn x (by omega), nn y (by omega), nn z (by omega)]
  rw [if_pos trivial, if_pos trivial, impl_ParseLadders.j0, if_neg (by decide), hc]
  rfl
def oh (h n d : Int) : Bool := decide (1 ≤ h ∧ h ≤ 1000) && (decide (1 ≤ n ∧ n ≤ 1000) && (decide (1 ≤ d ∧ d ≤ 1000) && decide (n < d * h)))
theorem oh_of {h n d : Int} (c : oh h n d = true) : (1 ≤ h ∧ h ≤ 1000) ∧ (1 ≤ n ∧ n ≤ 1000) ∧ (1 ≤ d ∧ d ≤ 1000) ∧ n < d * h := by
  simp only [oh, Bool.and_eq_true, decide_eq_true_eq] at c
  exact ⟨c.1, c.2.1, c.2.2.1, c.2.2.2⟩
theorem Other_eq (k : Nat) (hk : 1000010 ≤ k) (h n d : Int) : impl_OtherHeight.f k h n d = some (frs (oh h n d) (n * h) (d * h - n)) := by
  obtain ⟨k, rfl⟩ : ∃ m, k = m + 1 := ⟨k - 1, by omega⟩
  unfold impl_OtherHeight.f
  simp only [isWide_eq, Option.bind_some, impl_OtherHeight.j0, if_true]
  by_cases c1 : 1 ≤ h ∧ h ≤ 1000
  · by_cases c2 : 1 ≤ n ∧ n ≤ 1000
    · by_cases c3 : 1 ≤ d ∧ d ≤ 1000
      · have m := mul_in (a := d) (b := h) (by omega) c3.2 (by omega) c1.2
        have m2 := mul_in (a := n) (b := h) (by omega) c2.2 (by omega) c1.2
        rw [if_pos (decide_eq_true c1), if_pos (decide_eq_true c2), if_pos (decide_eq_true c3), wrap_id (n := d * h) (by omega) (by omega)]
        by_cases c4 : n < d * h
        · have ho : oh h n d = true := by simp only [oh, Bool.and_eq_true, decide_eq_true_eq]; exact ⟨c1, c2, c3, c4⟩
          rw [ho, if_neg (by simp only [decide_eq_true_eq]; omega), wrap_id (n := n * h) (by omega) (by omega), wrap_id (n := d * h - n) (by omega) (by omega), fraction_low k (n * h) (d * h - n) (by omega) m2.1 (by omega) (by omega) (by omega)]
          rfl
        · have ho : oh h n d = false := by simp [oh, c4]
          rw [ho, if_pos (by simp only [decide_eq_true_eq]; omega)]
          rfl
      · have ho : oh h n d = false := by simp [oh, c3]
        rw [if_pos (decide_eq_true c1), if_pos (decide_eq_true c2), if_neg (by simpa using c3), ho]
        rfl
    · have ho : oh h n d = false := by simp [oh, c2]
      rw [if_pos (decide_eq_true c1), if_neg (by simpa using c2), ho]
      rfl
  · have ho : oh h n d = false := by simp [oh, c1]
    rw [if_neg (by simpa using c1), ho]
    rfl
theorem sOther_eq (k : Nat) (hk : 1000010 ≤ k) (h n d : Int) : spec_OtherHeight.f k h n d = some (frs (oh h n d) (n * h) (d * h - n)) := by
  obtain ⟨k, rfl⟩ : ∃ m, k = m + 1 := ⟨k - 1, by omega⟩
  unfold spec_OtherHeight.f
  rw [Int.mul_comm h d]
  simp only [l1In_eq, Option.bind_some, spec_OtherHeight.j0, if_true]
  rw [Int.mul_comm h n, Int.mul_comm h d]
  by_cases c1 : 1 ≤ h ∧ h ≤ 1000
  · by_cases c2 : 1 ≤ n ∧ n ≤ 1000
    · by_cases c3 : 1 ≤ d ∧ d ≤ 1000
      · have m := mul_in (a := d) (b := h) (by omega) c3.2 (by omega) c1.2
        have m2 := mul_in (a := n) (b := h) (by omega) c2.2 (by omega) c1.2
        rw [if_pos (decide_eq_true c1), if_pos (decide_eq_true c2), if_pos (decide_eq_true c3), wrap_id (n := d * h) (by omega) (by omega)]
        by_cases c4 : n < d * h
        · have ho : oh h n d = true := by simp only [oh, Bool.and_eq_true, decide_eq_true_eq]; exact ⟨c1, c2, c3, c4⟩
          rw [ho, if_neg (by simp only [decide_eq_true_eq]; omega), wrap_id (n := n * h) (by omega) (by omega), wrap_id (n := d * h - n) (by omega) (by omega), clLow_low k (n * h) (d * h - n) (by omega) m2.1 (by omega) (by omega) (by omega)]
          rfl
        · have ho : oh h n d = false := by simp [oh, c4]
          rw [ho, if_pos (by simp only [decide_eq_true_eq]; omega)]
          rfl
      · have ho : oh h n d = false := by simp [oh, c3]
        rw [if_pos (decide_eq_true c1), if_pos (decide_eq_true c2), if_neg (by simpa using c3), ho]
        rfl
    · have ho : oh h n d = false := by simp [oh, c2]
      rw [if_pos (decide_eq_true c1), if_neg (by simpa using c2), ho]
      rfl
  · have ho : oh h n d = false := by simp [oh, c1]
    rw [if_neg (by simpa using c1), ho]
    rfl
def ask (x y z p : Int) : Bool := lad x y z && decide (0 ≤ p ∧ p ≤ x)
def hv (x y z : Int) (r : Bool) (p : Int) : Int := if r then z * p else y * (x - p)
theorem hv_in {x y z p : Int} (h : ask x y z p = true) (r : Bool) : 0 ≤ hv x y z r p ∧ hv x y z r p ≤ 1000000 ∧ (1 ≤ x ∧ x ≤ 1000) := by
  simp only [ask, Bool.and_eq_true, decide_eq_true_eq] at h
  obtain ⟨hx, hy, hz⟩ := lad_of h.1
  have m := mul_in (a := z) (b := p) (B := 1000) (by omega) hz.2 (by omega) (by omega)
  have m2 := mul_in (a := y) (b := x - p) (B := 1000) (by omega) hy.2 (by omega) (by omega)
  cases r
  · exact ⟨m2.1, m2.2, hx⟩
  · exact ⟨m.1, m.2, hx⟩
theorem heightAt_eq {x y z p : Int} (h : ask x y z p = true) (r : Bool) : impl_heightAt.f x y z r p = some (hv x y z r p) := by
  have b := hv_in h r
  simp only [ask, Bool.and_eq_true, decide_eq_true_eq] at h
  unfold impl_heightAt.f
  cases r
  · have e : hv x y z false p = y * (x - p) := rfl
    rw [e] at b ⊢
    rw [if_neg (by decide), wrap_id (n := x - p) (by omega) (by omega), wrap_id (by omega) (by omega)]
  · have e : hv x y z true p = z * p := rfl
    rw [e] at b ⊢
    rw [if_pos rfl, wrap_id (by omega) (by omega)]
theorem clAt_eq {x y z p : Int} (h : ask x y z p = true) (r : Bool) : spec_clAt.f x y z r p = some (hv x y z r p) := heightAt_eq h r
theorem Height_eq (k : Nat) (hk : 5010 ≤ k) (x y z : Int) (r : Bool) (p : Int) : impl_HeightAt.f k x y z r p = some (frs (ask x y z p) (hv x y z r p) x) := by
  obtain ⟨k, rfl⟩ : ∃ m, k = m + 1 := ⟨k - 1, by omega⟩
  unfold impl_HeightAt.f
  simp only [AreLadders_eq, within_eq, Option.bind_some, impl_HeightAt.j0, if_true]
  cases hl : lad x y z with
  | false =>
    have ha : ask x y z p = false := by simp [ask, hl]
    rw [ha]
    rfl
  | true =>
    rw [if_pos rfl]
    by_cases c : 0 ≤ p ∧ p ≤ x
    · have ha : ask x y z p = true := by simp [ask, hl, c]
      have b := hv_in ha r
      rw [ha, if_neg (by simp [c]), heightAt_eq ha]
      simp only [Option.bind_some]
      rw [fraction_low k (hv x y z r p) x (by omega) b.1 (by omega) (by omega) (by omega)]
      rfl
    · have ha : ask x y z p = false := by simp [ask, c]
      rw [ha, if_pos (by simp [c])]
      rfl
theorem sHeight_eq (k : Nat) (hk : 5010 ≤ k) (x y z : Int) (r : Bool) (p : Int) : spec_HeightAt.f k x y z r p = some (frs (ask x y z p) (hv x y z r p) x) := by
  unfold spec_HeightAt.f spec_clAsked.f
  simp only [clGood_eq, l1In_eq, Option.bind_some]
  cases hl : lad x y z with
  | false =>
    have ha : ask x y z p = false := by simp [ask, hl]
    rw [ha]
    rfl
  | true =>
    rw [if_pos rfl]
    simp only [Option.bind_some]
    by_cases c : 0 ≤ p ∧ p ≤ x
    · have ha : ask x y z p = true := by simp [ask, hl, c]
      have b := hv_in ha r
      rw [ha, if_pos (by simp [c]), clAt_eq ha]
      simp only [Option.bind_some]
      rw [clLow_low k (hv x y z r p) x (by omega) b.1 (by omega) (by omega) (by omega)]
      rfl
    · have ha : ask x y z p = false := by simp [ask, c]
      rw [ha, if_neg (by simp [c])]
      rfl
/-- The higher one. -/
def top (x y z p : Int) : Int := mx (hv x y z false p) (hv x y z true p)
theorem top_is (x y z p : Int) : (top x y z p = hv x y z false p ∧ hv x y z true p ≤ top x y z p) ∨ (top x y z p = hv x y z true p ∧ hv x y z false p ≤ top x y z p) := by
  unfold top mx
  split <;> omega
theorem Highest_eq (k : Nat) (hk : 5010 ≤ k) (x y z : Int) (p : Int) : impl_HighestAt.f k x y z p = some (frs (ask x y z p) (top x y z p) x) := by
  obtain ⟨k, rfl⟩ : ∃ m, k = m + 1 := ⟨k - 1, by omega⟩
  unfold impl_HighestAt.f
  simp only [AreLadders_eq, within_eq, Option.bind_some, impl_HighestAt.j0, if_true]
  cases hl : lad x y z with
  | false =>
    have ha : ask x y z p = false := by simp [ask, hl]
    rw [ha]
    rfl
  | true =>
    rw [if_pos rfl]
    by_cases c : 0 ≤ p ∧ p ≤ x
    · have ha : ask x y z p = true := by simp [ask, hl, c]
      have b := hv_in ha true
      have b2 := hv_in ha false
      have t := top_is x y z p
      rw [ha, if_neg (by simp [c]), heightAt_eq ha, heightAt_eq ha]
      simp only [Option.bind_some]
      rw [show mx (hv x y z false p) (hv x y z true p) = top x y z p from rfl, fraction_low k (top x y z p) x (by omega) (by omega) (by omega) (by omega) (by omega)]
      rfl
    · have ha : ask x y z p = false := by simp [ask, c]
      rw [ha, if_pos (by simp [c])]
      rfl
theorem sHighest_eq (k : Nat) (hk : 5010 ≤ k) (x y z : Int) (p : Int) : spec_HighestAt.f k x y z p = some (frs (ask x y z p) (top x y z p) x) := by
  unfold spec_HighestAt.f spec_clAsked.f
  simp only [clGood_eq, l1In_eq, Option.bind_some]
  cases hl : lad x y z with
  | false =>
    have ha : ask x y z p = false := by simp [ask, hl]
    rw [ha]
    rfl
  | true =>
    rw [if_pos rfl]
    simp only [Option.bind_some]
    by_cases c : 0 ≤ p ∧ p ≤ x
    · have ha : ask x y z p = true := by simp [ask, hl, c]
      have b := hv_in ha true
      have b2 := hv_in ha false
      have t := top_is x y z p
      rw [ha, if_pos (by simp [c]), clAt_eq ha, clAt_eq ha]
      have hm : spec_l1Most.f (hv x y z false p) (hv x y z true p) = some (top x y z p) := by
        unfold spec_l1Most.f top mx
        split <;> split <;> first | rfl | (congr 1; omega)
      simp only [Option.bind_some]
      rw [hm]
      simp only [Option.bind_some]
      rw [clLow_low k (top x y z p) x (by omega) (by omega) (by omega) (by omega) (by omega)]
      rfl
    · have ha : ask x y z p = false := by simp [ask, c]
      rw [ha, if_neg (by simp [c])]
      rfl
def mw (x y z b : Int) : Bool := lad x y z && (decide (-1000 ≤ b ∧ b ≤ 1000) && decide (1 ≤ x + b ∧ x + b ≤ 1000))
theorem mw_of {x y z b : Int} (h : mw x y z b = true) : lad x y z = true ∧ (-1000 ≤ b ∧ b ≤ 1000) ∧ lad (x + b) y z = true := by
  simp only [mw, Bool.and_eq_true, decide_eq_true_eq] at h
  obtain ⟨_, hy, hz⟩ := lad_of h.1
  exact ⟨h.1, h.2.1, lad_mk h.2.2 hy hz⟩
theorem Move_eq (k : Nat) (hk : 1 ≤ k) (x y z b : Int) : impl_MoveWall.f k x y z b = some (if mw x y z b then (x + b, y, z, true) else (0, 0, 0, false)) := by
  obtain ⟨k, rfl⟩ : ∃ m, k = m + 1 := ⟨k - 1, by omega⟩
  unfold impl_MoveWall.f
  simp only [AreLadders_eq, within_eq, Option.bind_some, impl_MoveWall.j0, if_true]
  cases hl : lad x y z with
  | false =>
    have ha : mw x y z b = false := by simp [mw, hl]
    rw [ha]
    rfl
  | true =>
    obtain ⟨hx, hy, hz⟩ := lad_of hl
    rw [if_pos rfl]
    by_cases c : -1000 ≤ b ∧ b ≤ 1000
    · rw [if_neg (by simp [c]), wrap_id (n := x + b) (by omega) (by omega), checked_eq]
      have : lad (x + b) y z = mw x y z b := by
        simp only [mw, hl, Bool.true_and, decide_eq_true c]
        unfold lad
        rw [decide_eq_true hy, decide_eq_true hz, Bool.and_true, Bool.and_true]
      rw [this]
      rfl
    · have ha : mw x y z b = false := by simp [mw, c]
      rw [ha, if_pos (by simp [c])]
      rfl
theorem sMove_eq (x y z b : Int) : spec_MoveWall.f x y z b = some (if mw x y z b then (x + b, y, z, true) else (0, 0, 0, false)) := by
  unfold spec_MoveWall.f
  simp only [clGood_eq, l1In_eq, Option.bind_some]
  cases hl : lad x y z with
  | false =>
    have ha : mw x y z b = false := by simp [mw, hl]
    rw [ha]
    rfl
  | true =>
    obtain ⟨hx, hy, hz⟩ := lad_of hl
    rw [if_pos rfl]
    by_cases c : -1000 ≤ b ∧ b ≤ 1000
    · rw [if_pos (decide_eq_true c), wrap_id (n := x + b) (by omega) (by omega)]
      by_cases c2 : 1 ≤ x + b ∧ x + b ≤ 1000
      · have ha : mw x y z b = true := by simp [mw, hl, c, c2]
        rw [ha, if_pos (decide_eq_true c2)]
        rfl
      · have ha : mw x y z b = false := by simp [mw, c2]
        rw [ha, if_neg (by simp [c2])]
        rfl
    · have ha : mw x y z b = false := by simp [mw, c]
      rw [ha, if_neg (by simp [c])]
      rfl
/-! ### the law, from its end -/
theorem j6_f (k : Nat) (hk : 1 ≤ k) (b x y z m0 m1 m2 : Int) : laws_FnLaddersCross.j6 k b false x y z m0 m1 m2 = some true := by
  obtain ⟨k, rfl⟩ : ∃ m, k = m + 1 := ⟨k - 1, by omega⟩
  simp only [laws_FnLaddersCross.j6]
  rfl
theorem j6_t (k : Nat) (hk : 5010 ≤ k) {x y z b : Int} (h : mw x y z b = true) : laws_FnLaddersCross.j6 k b true x y z (x + b) y z = some true := by
  obtain ⟨k, rfl⟩ : ∃ m, k = m + 1 := ⟨k - 1, by omega⟩
  obtain ⟨hl, hb, hl2⟩ := mw_of h
  obtain ⟨hx, hy, hz⟩ := lad_of hl
  have e2 : x + b + -b = x := by omega
  have e3 : mw (x + b) y z (-b) = true := by
    have c1 : -1000 ≤ -b ∧ -b ≤ 1000 := by omega
    simp only [mw, hl2, e2, Bool.true_and, decide_eq_true c1, decide_eq_true hx]
  simp only [laws_FnLaddersCross.j6]
  rw [if_pos trivial, wrap_id (n := -b) (by omega) (by omega), CrossHeight_eq k (by omega), CrossHeight_eq k (by omega), Move_eq k (by omega), hl, hl2, e3, e2]
  simp [frs]
def mwv (x y z b : Int) : Int × Int × Int × Bool := if mw x y z b then (x + b, y, z, true) else (0, 0, 0, false)
theorem j6_true (k : Nat) (hk : 5010 ≤ k) (x y z b : Int) : laws_FnLaddersCross.j6 k b (mwv x y z b).2.2.2 x y z (mwv x y z b).1 (mwv x y z b).2.1 (mwv x y z b).2.2.1 = some true := by
  unfold mwv
  cases h : mw x y z b
  · exact j6_f k (by omega) _ _ _ _ _ _ _
  · exact j6_t k hk h
theorem j5_true (k : Nat) (hk : 1000020 ≤ k) (h n d x y z b : Int) :
    laws_FnLaddersCross.j5 k h n d (frs (oh h n d) (n * h) (d * h - n)).1 (frs (oh h n d) (n * h) (d * h - n)).2.1 (frs (oh h n d) (n * h) (d * h - n)).2.2 b (mwv x y z b).2.2.2 x y z (mwv x y z b).1 (mwv x y z b).2.1 (mwv x y z b).2.2.1 = some true := by
  obtain ⟨k, rfl⟩ : ∃ m, k = m + 1 := ⟨k - 1, by omega⟩
  have t6 := j6_true k (by omega) x y z b
  generalize mwv x y z b = M at t6 ⊢
  cases c : oh h n d with
  | false =>
    simp only [laws_FnLaddersCross.j5, frs]
    exact t6
  | true =>
    obtain ⟨c1, c2, c3, c4⟩ := oh_of c
    have m := mul_in (a := d) (b := h) (by omega) c3.2 (by omega) c1.2
    have m2 := mul_in (a := n) (b := h) (by omega) c2.2 (by omega) c1.2
    have lo := low_of (a := n * h) (b := d * h - n) m2.1 (by omega)
    simp only [laws_FnLaddersCross.j5, frs, if_true]
    generalize fn (n * h) (d * h - n) = p at lo ⊢
    generalize fd (n * h) (d * h - n) = q at lo ⊢
    have q0 := lo.d0
    have q1 := lo.dle
    have p0 := lo.n0
    have p1 := lo.nle
    have a1 := mul_in (a := h) (b := q) (B := 1000000) (by omega) c1.2 (by omega) (by omega)
    have a2 := mul_in (a := n) (b := p + h * q) (B := 1001000000) (by omega) c2.2 (by omega) (by omega)
    have a3 := mul_in (a := d * h) (b := p) (B := 1000000) m.1 m.2 (by omega) (by omega)
    rw [jLow_true k lo (by omega)]
    simp only [Option.bind_some, if_true]
    rw [wrap_id (n := h * q) (by omega) (by omega), wrap_id (n := p + h * q) (by omega) (by omega), wrap_id (n := n * (p + h * q)) (by omega) (by omega), wrap_id (n := d * h) (by omega) (by omega), wrap_id (n := d * h * p) (by omega) (by omega)]
    have key : n * (p + h * q) = d * h * p := by
      have := lo.num
      grind
    rw [if_pos key]
    exact t6
theorem j4_true (k : Nat) (hk : 1000030 ≤ k) (r : Bool) (p h n d u v w x y z b : Int) :
    laws_FnLaddersCross.j4 k r p (frs (ask u v w p) (hv u v w r p) u).1 (frs (ask u v w p) (hv u v w r p) u).2.1 (frs (ask u v w p) (hv u v w r p) u).2.2 (frs (ask u v w p) (top u v w p) u).1 (frs (ask u v w p) (top u v w p) u).2.1 h n d (frs (oh h n d) (n * h) (d * h - n)).1 (frs (oh h n d) (n * h) (d * h - n)).2.1 (frs (oh h n d) (n * h) (d * h - n)).2.2 b (mwv x y z b).2.2.2 false u v w x y z (mwv x y z b).1 (mwv x y z b).2.1 (mwv x y z b).2.2.1 = some true := by
  obtain ⟨k, rfl⟩ : ∃ m, k = m + 1 := ⟨k - 1, by omega⟩
  have t5 := j5_true k (by omega) h n d x y z b
  generalize mwv x y z b = M at t5 ⊢
  generalize frs (oh h n d) (n * h) (d * h - n) = R at t5 ⊢
  simp only [laws_FnLaddersCross.j4]
  rw [if_neg (by decide)]
  cases c : ask u v w p with
  | false =>
    simp only [frs]
    exact t5
  | true =>
    have b1 := hv_in c r
    have b2 := hv_in c (!r)
    have tt : (top u v w p = hv u v w r p ∧ hv u v w (!r) p ≤ top u v w p) ∨ (top u v w p = hv u v w (!r) p ∧ hv u v w r p ≤ top u v w p) := by
      have := top_is u v w p
      cases r <;> simpa [or_comm] using this
    rw [Height_eq k (by omega), c]
    simp only [frs, if_true, Option.bind_some]
    generalize hv u v w r p = A at b1 tt ⊢
    generalize hv u v w (!r) p = B at b2 tt ⊢
    generalize top u v w p = t at tt ⊢
    have lA := low_of (a := A) (b := u) b1.1 (by omega)
    have lB := low_of (a := B) (b := u) b2.1 (by omega)
    have lt := low_of (a := t) (b := u) (by omega) (by omega)
    have f1 := low_le lA lt (by omega) (by omega)
    have f2 := low_le lB lt (by omega) (by omega)
    have r1 := lA.n0
    have r2 := lA.nle
    have r3 := lA.d0
    have r4 := lA.dle
    have s1 := lB.n0
    have s2 := lB.nle
    have s3 := lB.d0
    have s4 := lB.dle
    have v1 := lt.n0
    have v2 := lt.nle
    have v3 := lt.d0
    have v4 := lt.dle
    have m1 := mul_in (a := fn t u) (b := fd A u) (A := 1000000) (B := 1000) v1 (by omega) (by omega) (by omega)
    have m2 := mul_in (a := fn A u) (b := fd t u) (A := 1000000) (B := 1000) r1 (by omega) (by omega) (by omega)
    have m3 := mul_in (a := fn t u) (b := fd B u) (A := 1000000) (B := 1000) v1 (by omega) (by omega) (by omega)
    have m4 := mul_in (a := fn B u) (b := fd t u) (A := 1000000) (B := 1000) s1 (by omega) (by omega) (by omega)
    rw [wrap_id (n := fn t u * fd A u) (by omega) (by omega), wrap_id (n := fn A u * fd t u) (by omega) (by omega), wrap_id (n := fn t u * fd B u) (by omega) (by omega), wrap_id (n := fn B u * fd t u) (by omega) (by omega)]
    rw [if_neg (by omega), if_neg (by omega)]
    rcases tt with ⟨e, _⟩ | ⟨e, _⟩
    · rw [e, if_pos rfl]
      exact t5
    · by_cases c2 : fn t u * fd A u = fn A u * fd t u
      · rw [if_pos c2]
        exact t5
      · rw [if_neg c2, e, if_pos rfl]
        exact t5
theorem j3_true (k : Nat) (hk : 1000040 ≤ k) {l : List Int} (hl : Bytes l) : laws_FnLaddersCross.j3 k l = some true := by
  obtain ⟨k, rfl⟩ : ∃ m, k = m + 1 := ⟨k - 1, by omega⟩
  obtain ⟨u, v, w, r, p, e1⟩ := drawHeight hl
  obtain ⟨h, n, d, e2⟩ := drawOther hl
  obtain ⟨x, y, z, b, e3⟩ := drawMove hl
  have t4 := j4_true k (by omega) r p h n d u v w x y z b
  simp only [laws_FnLaddersCross.j3]
  rw [e1]
  simp only [Option.bind_some]
  rw [Height_eq k (by omega), sHeight_eq k (by omega), Highest_eq k (by omega), sHighest_eq k (by omega), e2]
  simp only [Option.bind_some]
  rw [Other_eq k (by omega), sOther_eq k (by omega), e3]
  simp only [Option.bind_some]
  rw [Move_eq k (by omega), sMove_eq, show (if mw x y z b = true then (x + b, y, z, true) else (0, 0, 0, false)) = mwv x y z b from rfl]
  simp only [Option.bind_some]
  have e4 : (frs (ask u v w p) (hv u v w r p) u).2.2 = (frs (ask u v w p) (top u v w p) u).2.2 := by cases ask u v w p <;> rfl
  generalize mwv x y z b = M at t4 ⊢
  generalize frs (oh h n d) (n * h) (d * h - n) = R at t4 ⊢
  generalize frs (ask u v w p) (hv u v w r p) u = H at t4 e4 ⊢
  generalize frs (ask u v w p) (top u v w p) u = T at t4 e4 ⊢
  simp only [e4, bne_self_eq_false, beq_self_eq_true, Bool.not_true, Bool.or_self, Bool.false_eq_true, if_false, if_true]
  rw [← e4]
  exact t4
theorem jIs_true (k : Nat) {a b n d : Int} (h : Low a b n d) (hk : d.natAbs + 1 < k) (ha : a ≤ 4000000000) (hb : b ≤ 4000) : laws_jIs.f k n d a b = some true := by
  have := h.n0
  have := h.nle
  have := h.d0
  have := h.dle
  have m1 := mul_in (a := n) (b := b) (A := 4000000000) (B := 4000) (by omega) (by omega) (by omega) hb
  have m2 := mul_in (a := a) (b := d) (A := 4000000000) (B := 4000) (by omega) ha (by omega) (by omega)
  unfold laws_jIs.f
  rw [jLow_true k h hk]
  simp only [Option.bind_some, if_true]
  rw [wrap_id (n := n * b) (by omega) (by omega), wrap_id (n := a * d) (by omega) (by omega), h.num, beq_self_eq_true]
theorem j2_true (k : Nat) (hk : 1000060 ≤ k) {l : List Int} (hl : Bytes l) {W L R a b : Int} (hL : 1 ≤ L ∧ L ≤ 1000) (hR : 1 ≤ R ∧ R ≤ 1000) (h : Low (L * R) (L + R) a b) (c : Bool) (hc : c = true → a ≤ 1000 ∧ b ≤ 1000) :
    laws_FnLaddersCross.j2 k l a b c W L R = some true := by
  obtain ⟨k, rfl⟩ : ∃ m, k = m + 1 := ⟨k - 1, by omega⟩
  simp only [laws_FnLaddersCross.j2]
  cases c with
  | false =>
    rw [if_neg (by decide)]
    exact j3_true k (by omega) hl
  | true =>
    obtain ⟨h1, h2⟩ := hc rfl
    have hn := h.num
    have hb := h.d0
    have lr := mul_one_le hL.1 hR.1
    have ha := low_pos h lr
    have bL := mul_one_le hb hL.1
    have key : a * L = R * (b * L - a) := by grind
    have lt : a < b * L := by
      have e : (b * L - a) * (L + R) = L * L * b := by grind
      have p : 1 ≤ L * L * b := mul_one_le (mul_one_le hL.1 hL.1) hb
      rcases Int.lt_or_le a (b * L) with x | x
      · exact x
      · have : (b * L - a) * (L + R) ≤ 0 := Int.mul_nonpos_of_nonpos_of_nonneg (by omega) (by omega)
        omega
    have ho : oh L a b = true := by
      simp only [oh, Bool.and_eq_true, decide_eq_true_eq]
      exact ⟨hL, ⟨ha, h1⟩, ⟨hb, h2⟩, lt⟩
    have lo := low_of (a := R * (b * L - a)) (b := b * L - a) (Int.mul_nonneg (by omega) (by omega)) (by omega)
    obtain ⟨e1, e2⟩ := low_whole (m := b * L - a) (r := R) (by omega) (by omega) lo
    rw [if_pos rfl, Other_eq k (by omega), ho, key]
    simp only [frs, if_true, Option.bind_some]
    rw [e1, e2, if_pos rfl, if_pos rfl]
    exact j3_true k (by omega) hl
theorem j1_true (k : Nat) (hk : 1000070 ≤ k) {l : List Int} (hl : Bytes l) {W L R a b low by_ both of_ : Int} (hW : 1 ≤ W ∧ W ≤ 1000) (hL : 1 ≤ L ∧ L ≤ 1000) (hR : 1 ≤ R ∧ R ≤ 1000) (h : Low (L * R) (L + R) a b)
    (h1 : Low (W * L * R) (2 * (L + R)) low by_) (h2 : Low (W * sq L R) (2 * (L + R)) both of_) :
    laws_FnLaddersCross.j1 k l a b low by_ both of_ (L + R) false W L R = some true := by
  obtain ⟨k, rfl⟩ : ∃ m, k = m + 1 := ⟨k - 1, by omega⟩
  simp only [laws_FnLaddersCross.j1]
  rw [if_neg (by decide)]
  have s := sq_in hL hR
  have m1 := mul_in (a := W) (b := L) (by omega) hW.2 (by omega) hL.2
  have m2 := mul_in (a := W * L) (b := R) m1.1 m1.2 (by omega) hR.2
  have m3 := mul_in (a := W) (b := sq L R) (by omega) hW.2 (by omega) s.2.1
  have a1 := h1.n0
  have a2 := h1.nle
  have a3 := h1.d0
  have a4 := h1.dle
  have b1 := h2.n0
  have b2 := h2.nle
  have b3 := h2.d0
  have b4 := h2.dle
  have x1 := mul_in (a := both) (b := by_) (A := 4000000000) (B := 4000) (by omega) (by omega) (by omega) (by omega)
  have x2 := mul_in (a := low) (b := of_) (A := 1000000000) (B := 4000) (by omega) (by omega) (by omega) (by omega)
  have x3 := mul_in (a := W) (b := L + R) (B := 2000) (by omega) hW.2 (by omega) (by omega)
  have x4 := mul_in (a := W * (L + R)) (b := of_) (B := 4000) x3.1 x3.2 (by omega) (by omega)
  have x5 := mul_in (a := W * (L + R) * of_) (b := by_) (B := 4000) x4.1 x4.2 (by omega) (by omega)
  rw [wrap_id (n := both * by_) (by omega) (by omega), wrap_id (n := both * by_ * 2) (by omega) (by omega), wrap_id (n := low * of_) (by omega) (by omega), wrap_id (n := low * of_ * 2) (by omega) (by omega), wrap_id (n := both * by_ * 2 + low * of_ * 2) (by omega) (by omega), wrap_id (n := W * (L + R)) (by omega) (by omega), wrap_id (n := W * (L + R) * of_) (by omega) (by omega), wrap_id (n := W * (L + R) * of_ * by_) (by omega) (by omega)]
  have key : both * by_ * 2 + low * of_ * 2 = W * (L + R) * of_ * by_ := by
    have e1 := h1.num
    have e2 := h2.num
    have e3 : sq L R = (L + R) * (L + R) - L * R := rfl
    have : (both * by_ * 2 + low * of_ * 2) * (L + R) = (W * (L + R) * of_ * by_) * (L + R) := by
      rw [e3] at e2
      grind
    exact Int.eq_of_mul_eq_mul_right (by omega) this
  rw [if_pos key]
  by_cases c : a ≤ 1000
  · rw [if_pos c]
    exact j2_true k (by omega) hl hL hR h _ (fun x => ⟨c, of_decide_eq_true x⟩)
  · rw [if_neg c]
    exact j2_true k (by omega) hl hL hR h _ (fun x => by cases x)
theorem j0_false (k : Nat) (hk : 1000080 ≤ k) {l : List Int} (hl : Bytes l) (a b x y low by_ both of_ stick : Int) (t : ByteArray) (W L R m0 m1 m2 : Int) :
    laws_FnLaddersCross.j0 k l a b false x y low by_ both of_ stick t false W L R m0 m1 m2 = some true := by
  obtain ⟨k, rfl⟩ : ∃ m, k = m + 1 := ⟨k - 1, by omega⟩
  simp only [laws_FnLaddersCross.j0]
  rw [if_neg (by decide), if_neg (by decide)]
  exact j3_true k (by omega) hl
theorem j0_true (k : Nat) (hk : 1000080 ≤ k) {l : List Int} (hl : Bytes l) {W L R : Int} (h : lad W L R = true) :
    laws_FnLaddersCross.j0 k l (fn (L * R) (L + R)) (fd (L * R) (L + R)) true (fn (W * L) (L + R)) (fd (W * L) (L + R)) (fn (W * L * R) (2 * (L + R))) (fd (W * L * R) (2 * (L + R))) (fn (W * sq L R) (2 * (L + R))) (fd (W * sq L R) (2 * (L + R))) ((L * R).tdiv (L + R)) (txI W L R) false W L R W R L = some true := by
  obtain ⟨k, rfl⟩ : ∃ m, k = m + 1 := ⟨k - 1, by omega⟩
  obtain ⟨hW, hL, hR⟩ := lad_of h
  have s := sq_in hL hR
  have m0 := mul_in (a := L) (b := R) (by omega) hL.2 (by omega) hR.2
  have m1 := mul_in (a := W) (b := L) (by omega) hW.2 (by omega) hL.2
  have m1' := mul_in (a := W) (b := R) (by omega) hW.2 (by omega) hR.2
  have m2 := mul_in (a := W * L) (b := R) m1.1 m1.2 (by omega) hR.2
  have m3 := mul_in (a := W) (b := sq L R) (by omega) hW.2 (by omega) s.2.1
  have A := low_of (a := L * R) (b := L + R) m0.1 (by omega)
  have X := low_of (a := W * L) (b := L + R) m1.1 (by omega)
  have X' := low_of (a := W * R) (b := R + L) m1'.1 (by omega)
  have B := low_of (a := W * L * R) (b := 2 * (L + R)) m2.1 (by omega)
  have D := low_of (a := W * sq L R) (b := 2 * (L + R)) m3.1 (by omega)
  have t1 := j1_true k (by omega) hl hW hL hR A B D
  have eA1 : fn (R * L) (R + L) = fn (L * R) (L + R) := by rw [Int.mul_comm, Int.add_comm]
  have eA2 : fd (R * L) (R + L) = fd (L * R) (L + R) := by rw [Int.mul_comm, Int.add_comm]
  -- the places of both crossings have the same whole
  have eX : fd (W * R) (R + L) = fd (W * L) (L + R) ∧ fn (W * R) (R + L) + fn (W * L) (L + R) = W * fd (W * L) (L + R) := by
    obtain ⟨g, g0, ga, gb, gg⟩ := X.div
    obtain ⟨g', g0', ga', gb', gg'⟩ := X'.div
    have e : g' = g := by
      rw [gg, gg']
      congr 1
      have hs : W * R = W * (L + R) - W * L := by grind
      have z : ∀ p q : Nat, Nat.gcd p q ∣ q := fun p q => Nat.gcd_dvd_right _ _
      rw [Int.add_comm R L]
      have i1 : (((W * R).natAbs.gcd (L + R).natAbs : Nat) : Int) ∣ W * L := by
        have d1 : (((W * R).natAbs.gcd (L + R).natAbs : Nat) : Int) ∣ W * R := Int.ofNat_dvd_left.2 (Nat.gcd_dvd_left _ _)
        have d2 : (((W * R).natAbs.gcd (L + R).natAbs : Nat) : Int) ∣ L + R := Int.ofNat_dvd_left.2 (Nat.gcd_dvd_right _ _)
        have : W * L = W * (L + R) - W * R := by grind
        rw [this]
        exact Int.dvd_sub (Int.dvd_trans d2 (Int.dvd_mul_left _ _)) d1
      have i2 : (((W * L).natAbs.gcd (L + R).natAbs : Nat) : Int) ∣ W * R := by
        have d1 : (((W * L).natAbs.gcd (L + R).natAbs : Nat) : Int) ∣ W * L := Int.ofNat_dvd_left.2 (Nat.gcd_dvd_left _ _)
        have d2 : (((W * L).natAbs.gcd (L + R).natAbs : Nat) : Int) ∣ L + R := Int.ofNat_dvd_left.2 (Nat.gcd_dvd_right _ _)
        rw [hs]
        exact Int.dvd_sub (Int.dvd_trans d2 (Int.dvd_mul_left _ _)) d1
      exact Nat.dvd_antisymm (Nat.dvd_gcd (Int.ofNat_dvd_left.1 i1) (Nat.gcd_dvd_right _ _)) (Nat.dvd_gcd (Int.ofNat_dvd_left.1 i2) (Nat.gcd_dvd_right _ _))
    subst e
    have e1 : fd (W * R) (R + L) = fd (W * L) (L + R) := by
      have : fd (W * R) (R + L) * g' = fd (W * L) (L + R) * g' := by omega
      exact Int.eq_of_mul_eq_mul_right (by omega) this
    refine ⟨e1, ?_⟩
    have : (fn (W * R) (R + L) + fn (W * L) (L + R)) * g' = (W * fd (W * L) (L + R)) * g' := by grind
    exact Int.eq_of_mul_eq_mul_right (by omega) this
  have hP := Parse_eq k (by omega) W L R h
  have sw : lad W R L = true := by rw [lad_swap]; exact h
  simp only [laws_FnLaddersCross.j0]
  rw [if_neg (by decide), if_pos trivial, CrossHeight_eq k (by omega), CrossPlace_eq k (by omega), sw, hP]
  simp only [Option.bind_some, frs, if_true]
  rw [eA1, eA2, eX.1]
  rw [wrap_id (n := L * R) (by omega) (by omega), wrap_id (n := L + R) (by omega) (by omega), wrap_id (n := W * L) (by omega) (by omega)]
  have a1 := A.n0
  have a2 := A.nle
  have a3 := A.d0
  have a4 := A.dle
  have b1 := B.n0
  have b2 := B.nle
  have b3 := B.d0
  have b4 := B.dle
  have d1 := D.n0
  have d2 := D.nle
  have d3 := D.d0
  have d4 := D.dle
  have x1 := X.n0
  have x2 := X.nle
  have x3 := X.d0
  have x4 := X.dle
  have y1 := X'.n0
  have y2 := X'.nle
  rw [jIs_true k A (by omega) (by omega) (by omega), jIs_true k X (by omega) (by omega) (by omega), jLow_true k B (by omega), jLow_true k D (by omega)]
  simp only [Option.bind_some, if_true]
  have p1 := mul_in (a := fn (W * L * R) (2 * (L + R)) * 2) (b := fd (L * R) (L + R)) (A := 2000000000) (B := 2000) (by omega) (by omega) (by omega) (by omega)
  have p2 := mul_in (a := fd (W * L * R) (2 * (L + R))) (b := W) (A := 4000) (by omega) (by omega) (by omega) hW.2
  have p3 := mul_in (a := fd (W * L * R) (2 * (L + R)) * W) (b := fn (L * R) (L + R)) (B := 1000000) p2.1 p2.2 (by omega) (by omega)
  have p4 := mul_in (a := W) (b := fd (W * L) (L + R)) (B := 2000) (by omega) hW.2 (by omega) (by omega)
  rw [wrap_id (n := fn (W * L * R) (2 * (L + R)) * 2) (by omega) (by omega), wrap_id (n := fn (W * L * R) (2 * (L + R)) * 2 * fd (L * R) (L + R)) (by omega) (by omega), wrap_id (n := fd (W * L * R) (2 * (L + R)) * W) (by omega) (by omega), wrap_id (n := fd (W * L * R) (2 * (L + R)) * W * fn (L * R) (L + R)) (by omega) (by omega), wrap_id (n := W * fd (W * L) (L + R)) (by omega) (by omega), wrap_id (n := fn (W * R) (R + L) + fn (W * L) (L + R)) (by omega) (by omega)]
  have key : fn (W * L * R) (2 * (L + R)) * 2 * fd (L * R) (L + R) = fd (W * L * R) (2 * (L + R)) * W * fn (L * R) (L + R) := by
    have e1 := A.num
    have e2 := B.num
    have : (fn (W * L * R) (2 * (L + R)) * 2 * fd (L * R) (L + R)) * (L + R) = (fd (W * L * R) (2 * (L + R)) * W * fn (L * R) (L + R)) * (L + R) := by grind
    exact Int.eq_of_mul_eq_mul_right (by omega) this
  have st : (L * R).tdiv (L + R) = (fn (L * R) (L + R)).tdiv (fd (L * R) (L + R)) := by
    obtain ⟨g, g0, ga, gb, _⟩ := A.div
    have e1 : (L * R).tdiv (L + R) = (fn (L * R) (L + R) * g).tdiv (fd (L * R) (L + R) * g) := by rw [← ga, ← gb]
    rw [e1]
    exact Int.mul_tdiv_mul_of_pos_left _ _ (by omega)
  rw [if_pos key, if_neg (by omega), wrap_tdiv (by omega), if_pos st, if_pos eX.2]
  simp only [beq_self_eq_true, Bool.not_true, Bool.or_self]
  exact t1
theorem bytes_of {l : List Int} (hl : l.length ≤ 1048576) (hw : ∀ x ∈ l, (Lit.int .u8 x).wf = true) : Bytes l := by
  refine ⟨hl, fun x hx => ?_⟩
  have h := hw x hx
  simp [Lit.wf] at h
  have e0 : IntKind.u8.min = 0 := by decide
  have e1 : IntKind.u8.max = 255 := by decide
  omega
theorem sAre_eq (x y z : Int) : spec_AreLadders.f x y z = some (lad x y z) := by
  unfold spec_AreLadders.f
  rw [clGood_eq]
  rfl
theorem main : laws_FnLaddersCross.Pure := by
  intro l0 l1 hm0 _ hw0 hm1 _ hw1
  refine ⟨1000100, ?_⟩
  unfold laws_FnLaddersCross.f laws_big.f
  by_cases c : (l0.length : Int) > 1048576
  · rw [if_pos c]
    rfl
  rw [if_neg c]
  simp only [Option.bind_some]
  rw [wrap_id (n := 1048576 - (l0.length : Int)) (by omega) (by omega)]
  by_cases c2 : (l1.length : Int) > 1048576 - (l0.length : Int)
  · rw [if_pos (by simpa using c2)]
  rw [if_neg (by simpa using c2)]
  have B0 := bytes_of (l := l0) (by omega) hw0
  have B1 := bytes_of (l := l1) (by omega) hw1
  obtain ⟨W, L, R, e⟩ := drawCross B0
  generalize hk : (1000100 : Nat) = k
  rw [e]
  simp only [Option.bind_some, CrossHeight_eq k (by omega), sCrossHeight_eq k (by omega), CrossPlace_eq k (by omega), sCrossPlace_eq k (by omega), AreaBelow_eq k (by omega), sAreaBelow_eq k (by omega), AreaBetween_eq k (by omega), sAreaBetween_eq k (by omega), Stick_eq, sStick_eq, LText_eq, sLText_eq k (by omega), Mirror_eq, sMirror_eq, AreLadders_eq, sAre_eq]
  cases h : lad W L R with
  | false =>
    have t := j0_false k (by omega) B1
    simp [frs, t]
  | true =>
    have t := j0_true k (by omega) B1 h
    simp only [frs, if_true, bne_self_eq_false, beq_self_eq_true, Bool.not_true, Bool.or_self, Bool.false_eq_true, if_false]
    exact t
end LFnLaddersCross

theorem FnLaddersCross : laws_FnLaddersCross.Pure := LFnLaddersCross.main

end Go.Proofs.YtcfknhmdhglmfaaDoor.Pure
