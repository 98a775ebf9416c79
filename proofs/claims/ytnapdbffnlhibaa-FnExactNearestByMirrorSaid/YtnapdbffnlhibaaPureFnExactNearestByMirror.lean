/- For every spot and every list of spots the program's NearestByMirror and the reference's give the same, and the list is left as it was; no condition beyond the numbers' kinds. -/
import Derived.Test.YtnapdbffnlhibaaPFnExactNearestByMirrorx3
namespace Go.Proofs.Ytnapdbffnlhibaa.Pure
open Go.RowKit Go.Proofs.Ytnapdbffnlhibaa.PFnExactNearestByMirror Go.Proofs.YtnapdbffnlhibaaW.PrintWords Go.Proofs.YtnapdbffnlhibaaW.PrintLast
set_option linter.unusedVariables false
set_option linter.unusedSimpArgs false

namespace LFnExactNearestByMirror
theorem within_eq (a b c : Int) : impl_within.f a b c = some (decide (b ≤ a ∧ a ≤ c)) := by
  by_cases h1 : b ≤ a <;> by_cases h2 : a ≤ c <;> simp [impl_within.f, h1, h2]

theorem l1In_eq (a b c : Int) : spec_l1In.f a b c = some (decide (b ≤ a ∧ a ≤ c)) := by
  by_cases h1 : b ≤ a <;> by_cases h2 : a ≤ c <;> simp [spec_l1In.f, h1, h2]

/-- A spot. -/
def sp (x y : Int) : Bool := decide ((-1000 ≤ x ∧ x ≤ 1000) ∧ 1 ≤ y ∧ y ≤ 1000)
theorem sp_of {x y : Int} (h : sp x y = true) : -1000 ≤ x ∧ x ≤ 1000 ∧ 1 ≤ y ∧ y ≤ 1000 := by
  have := of_decide_eq_true h
  omega

theorem isShift_eq (x : Int) : impl_isShift.f x = some (decide (-1000 ≤ x ∧ x ≤ 1000)) := by
  simp only [impl_isShift.f, within_eq, Option.bind_some]

theorem IsSpot_eq (x y : Int) : impl_IsSpot.f x y = some (sp x y) := by
  simp only [impl_IsSpot.f, isShift_eq, within_eq, Option.bind_some, sp]
  by_cases h1 : -1000 ≤ x ∧ x ≤ 1000 <;> by_cases h2 : 1 ≤ y ∧ y ≤ 1000 <;> simp [h1, h2]

theorem lwSpot_eq (x y : Int) : spec_lwSpot.f x y = some (sp x y) := by
  simp only [spec_lwSpot.f, l1In_eq, Option.bind_some, sp]
  by_cases h1 : -1000 ≤ x ∧ x ≤ 1000 <;> by_cases h2 : 1 ≤ y ∧ y ≤ 1000 <;> simp [h1, h2]

theorem eqSpot_same (x y : Int) : laws_eqSpot.f x y x y = some true := by simp [laws_eqSpot.f]

theorem wrap_id {n : Int} (h0 : -9223372036854775808 ≤ n) (h1 : n ≤ 9223372036854775807) : wrap64 n = n := by
  unfold wrap64
  omega

theorem spok_eq (x y : Int) : impl_areSpots.ok ⟨x, y⟩ = sp x y := by
  unfold impl_areSpots.ok
  rw [IsSpot_eq]
  rfl
theorem areSpots_eq (x y a b : Int) : impl_areSpots.f [⟨x, y⟩, ⟨a, b⟩] = some (sp x y && sp a b) := by
  simp [impl_areSpots.f, spok_eq]

theorem square_same (a b : Int) : spec_lwSquare.f a b = impl_square.f a b := rfl

def cv (s : S23) : S26 := ⟨s.f0, s.f1⟩
theorem rd_at {α : Type} (pre : List α) (y : α) (ys : List α) (d : α) : (pre ++ y :: ys).getD pre.length d = y := by
  rw [List.getD_eq_getElem?_getD, List.getElem?_append_right (Nat.le_refl _), Nat.sub_self]
  rfl
theorem conv_l0 (rest : List S23) : ∀ (pre : List S23) (k : Nat), rest.length < k → pre.length + rest.length ≤ 1000000000 →
    laws_toSpotS.l0 k (pre ++ rest) (pre.map cv ++ List.replicate rest.length z26) pre.length = some ((pre ++ rest).map cv) := by
  induction rest with
  | nil =>
    intro pre k hk hb
    obtain ⟨k, rfl⟩ : ∃ m, k = m + 1 := ⟨k - 1, by simp at hk; omega⟩
    simp only [laws_toSpotS.l0]
    rw [if_neg (by simp)]
    simp
  | cons y ys ih =>
    intro pre k hk hb
    simp only [List.length_cons] at hk hb
    obtain ⟨k, rfl⟩ : ∃ m, k = m + 1 := ⟨k - 1, by omega⟩
    have e1 : wrap64 ((pre.length : Int) + 1) = (((pre ++ [y]).length : Nat) : Int) := by rw [wrap_id (by omega) (by omega)]; simp
    have e2 : rd_T23 (pre ++ y :: ys) (pre.length : Int) = y := rd_at pre y ys _
    have e3 : (pre.map cv ++ List.replicate (ys.length + 1) z26).set ((pre.length : Int)).toNat (⟨y.f0, y.f1⟩ : S26) = (pre ++ [y]).map cv ++ List.replicate ys.length z26 := by
      rw [Int.toNat_natCast, List.set_append_right _ _ (by simp), List.length_map, Nat.sub_self, List.replicate_succ]
      simp [cv]
    simp only [laws_toSpotS.l0, List.length_cons]
    rw [if_pos (by simp; omega), if_pos (by omega), e2]
    simp only [laws_toSpot.f, Option.bind_some]
    rw [if_pos (by simp; omega), e3, e1]
    have := ih (pre ++ [y]) k (by omega) (by simp; omega)
    simpa using this
theorem conv_eq (k : Nat) (l : List S23) (hk : l.length < k) (hb : l.length ≤ 1000000000) : laws_toSpotS.f k l = some (l.map cv) := by
  have h := conv_l0 l [] k hk (by simpa using hb)
  simp only [List.map_nil, List.nil_append, List.length_nil, Int.natCast_zero] at h
  unfold laws_toSpotS.f
  rw [if_pos (by omega), if_pos (by rw [Int.toNat_natCast]; omega), Int.toNat_natCast]
  exact h
theorem same_l0 (l : List S26) (hl : l.length ≤ 1000000000) (d : Nat) : ∀ (k i : Nat), i + d = l.length → d < k → laws_eqSpotS.l0 k l l i = some true := by
  induction d with
  | zero =>
    intro k i hi hk
    obtain ⟨k, rfl⟩ : ∃ m, k = m + 1 := ⟨k - 1, by omega⟩
    simp only [laws_eqSpotS.l0]
    rw [if_neg (by omega)]
  | succ d ih =>
    intro k i hi hk
    obtain ⟨k, rfl⟩ : ∃ m, k = m + 1 := ⟨k - 1, by omega⟩
    have e : wrap64 ((i : Int) + 1) = ((i + 1 : Nat) : Int) := by rw [wrap_id (by omega) (by omega)]; omega
    simp only [laws_eqSpotS.l0, eqSpot_same, Option.bind_some, if_true]
    rw [if_pos (by omega), if_pos (by omega), if_pos (by omega), e]
    exact ih k (i + 1) (by omega) (by omega)
theorem same_eq (k : Nat) (l : List S26) (hk : l.length < k) (hl : l.length ≤ 1000000000) : laws_eqSpotS.f k l l = some true := by
  unfold laws_eqSpotS.f
  rw [if_pos rfl]
  exact same_l0 l hl l.length k 0 (by omega) hk
def at_ (l : List S26) (i : Nat) : S26 := l.getD i z26
theorem rd_nat (l : List S26) (i : Nat) : rd_T26 l (i : Int) = at_ l i := rfl
/-- Where one is no spot the reference says no. -/
theorem bad (l : List S26) (hl : l.length ≤ 20) (x y : Int) (d : Nat) : ∀ (k i : Nat) (p q : Int), i + d = l.length → d < k → (∃ j, i ≤ j ∧ j < l.length ∧ sp (at_ l j).f0 (at_ l j).f1 = false) →
    spec_NearestByMirror.l0 k p q l l.length i x y = some (0, 0, false) := by
  induction d with
  | zero => intro k i p q hi hk ⟨j, h1, h2, _⟩; omega
  | succ d ih =>
    intro k i p q hi hk ⟨j, h1, h2, h3⟩
    obtain ⟨k, rfl⟩ : ∃ m, k = m + 1 := ⟨k - 1, by omega⟩
    have e : wrap64 ((i : Int) + 1) = ((i + 1 : Nat) : Int) := by rw [wrap_id (by omega) (by omega)]; omega
    simp only [spec_NearestByMirror.l0, rd_nat, lwSpot_eq, spec_lwSquare.f, Option.bind_some]
    rw [if_pos (by omega), if_pos (by omega), if_pos (by omega), e]
    cases hs : sp (at_ l i).f0 (at_ l i).f1 with
    | false => simp
    | true =>
      have hj : ∃ j, i + 1 ≤ j ∧ j < l.length ∧ sp (at_ l j).f0 (at_ l j).f1 = false := by
        refine ⟨j, ?_, h2, h3⟩
        rcases Nat.lt_or_ge i j with c | c
        · exact c
        · have : j = i := by omega
          subst this
          rw [hs] at h3; cases h3
      simp only [if_true]
      split
      · exact ih k (i + 1) _ _ (by omega) (by omega) hj
      · split
        · exact ih k (i + 1) _ _ (by omega) (by omega) hj
        · exact ih k (i + 1) _ _ (by omega) (by omega) hj
/-- The square of the way to the i-th. -/
def way (l : List S26) (x y : Int) (i : Nat) : Int := wrap64 (wrap64 (wrap64 (x - (at_ l i).f0) * wrap64 (x - (at_ l i).f0)) + wrap64 (wrap64 (y + (at_ l i).f1) * wrap64 (y + (at_ l i).f1)))
theorem way_nn {l : List S26} {x y : Int} {i : Nat} (h : sp x y = true) (hs : sp (at_ l i).f0 (at_ l i).f1 = true) : 0 ≤ way l x y i := by
  have z1 := sp_of h
  have z2 := sp_of hs
  have a1 : wrap64 (x - (at_ l i).f0) = x - (at_ l i).f0 := wrap_id (by omega) (by omega)
  have a2 : wrap64 (y + (at_ l i).f1) = y + (at_ l i).f1 := wrap_id (by omega) (by omega)
  have sq : ∀ z : Int, -3000 ≤ z → z ≤ 3000 → 0 ≤ z * z ∧ z * z ≤ 9000000 := by
    intro z h0 h1
    constructor
    · rcases Int.le_total 0 z with c | c
      · exact Int.mul_nonneg c c
      · exact Int.mul_nonneg_of_nonpos_of_nonpos c c
    · have : (z * z).natAbs ≤ 3000 * 3000 := by rw [Int.natAbs_mul]; exact Nat.mul_le_mul (by omega) (by omega)
      omega
  have m1 := sq (x - (at_ l i).f0) (by omega) (by omega)
  have m2 := sq (y + (at_ l i).f1) (by omega) (by omega)
  unfold way
  rw [a1, a2, wrap_id (n := (x - (at_ l i).f0) * (x - (at_ l i).f0)) (by omega) (by omega), wrap_id (n := (y + (at_ l i).f1) * (y + (at_ l i).f1)) (by omega) (by omega), wrap_id (by omega) (by omega)]
  omega
theorem spec_step (l : List S26) (hl : l.length ≤ 20) (x y p q : Int) (k i : Nat) (hi : i < l.length) (hs : sp (at_ l i).f0 (at_ l i).f1 = true) :
    spec_NearestByMirror.l0 (k + 1) p q l l.length i x y = (if p < 0 then spec_NearestByMirror.l0 k i (way l x y i) l l.length ((i + 1 : Nat) : Int) x y else if way l x y i < q then spec_NearestByMirror.l0 k i (way l x y i) l l.length ((i + 1 : Nat) : Int) x y else spec_NearestByMirror.l0 k p q l l.length ((i + 1 : Nat) : Int) x y) := by
  have e : wrap64 ((i : Int) + 1) = ((i + 1 : Nat) : Int) := by rw [wrap_id (by omega) (by omega)]; omega
  rw [spec_NearestByMirror.l0, if_pos (by omega), if_pos (by omega), if_pos (by omega), rd_nat, lwSpot_eq, hs, e]
  rfl
theorem impl_step (l : List S26) (hl : l.length ≤ 20) (x y p q : Int) (k i : Nat) (hi : i < l.length) :
    impl_NearestByMirror.l0 (k + 1) p q l l.length i x y = (if q < 0 then impl_NearestByMirror.l0 k i (way l x y i) l l.length ((i + 1 : Nat) : Int) x y else if way l x y i < q then impl_NearestByMirror.l0 k i (way l x y i) l l.length ((i + 1 : Nat) : Int) x y else impl_NearestByMirror.l0 k p q l l.length ((i + 1 : Nat) : Int) x y) := by
  have e : wrap64 ((i : Int) + 1) = ((i + 1 : Nat) : Int) := by rw [wrap_id (by omega) (by omega)]; omega
  rw [impl_NearestByMirror.l0, if_pos (by omega), if_pos (by omega), if_pos (by omega), rd_nat, e]
  rfl
theorem good (l : List S26) (hl : l.length ≤ 20) (x y : Int) (h : sp x y = true) (hs : ∀ j, j < l.length → sp (at_ l j).f0 (at_ l j).f1 = true) (d : Nat) : ∀ (k k' i : Nat) (p q : Int), i + d = l.length → d < k → d < k' → 0 ≤ p → 0 ≤ q →
    ∃ r s, spec_NearestByMirror.l0 k p q l l.length i x y = some (r, s, true) ∧ impl_NearestByMirror.l0 k' p q l l.length i x y = some (r, s, true) := by
  induction d with
  | zero =>
    intro k k' i p q hi hk hk' hp hq
    obtain ⟨k, rfl⟩ : ∃ m, k = m + 1 := ⟨k - 1, by omega⟩
    obtain ⟨k', rfl⟩ : ∃ m, k' = m + 1 := ⟨k' - 1, by omega⟩
    exact ⟨p, q, by rw [spec_NearestByMirror.l0, if_neg (by omega)], by rw [impl_NearestByMirror.l0, if_neg (by omega)]⟩
  | succ d ih =>
    intro k k' i p q hi hk hk' hp hq
    obtain ⟨k, rfl⟩ : ∃ m, k = m + 1 := ⟨k - 1, by omega⟩
    obtain ⟨k', rfl⟩ : ∃ m, k' = m + 1 := ⟨k' - 1, by omega⟩
    have hn := way_nn h (hs i (by omega))
    rw [spec_step l hl x y p q k i (by omega) (hs i (by omega)), impl_step l hl x y p q k' i (by omega), if_neg (show ¬ p < 0 by omega), if_neg (show ¬ q < 0 by omega)]
    by_cases c : way l x y i < q
    · rw [if_pos c, if_pos c]
      exact ih k k' (i + 1) _ _ (by omega) (by omega) (by omega) (by omega) hn
    · rw [if_neg c, if_neg c]
      exact ih k k' (i + 1) _ _ (by omega) (by omega) (by omega) hp hq
theorem all_iff (l : List S26) : l.all impl_areSpots.ok = true ↔ ∀ j, j < l.length → sp (at_ l j).f0 (at_ l j).f1 = true := by
  rw [List.all_eq_true]
  constructor
  · intro h j hj
    have := h _ (List.getElem_mem hj)
    rw [← spok_eq]
    unfold at_
    rwa [List.getD_eq_getElem?_getD, List.getElem?_eq_getElem hj]
  · intro h s hs
    obtain ⟨j, hj, rfl⟩ := List.getElem_of_mem hs
    have := h j hj
    rw [← spok_eq] at this
    unfold at_ at this
    rwa [List.getD_eq_getElem?_getD, List.getElem?_eq_getElem hj] at this
theorem both (k : Nat) (hk : 30 ≤ k) (x y : Int) (l : List S26) : ∃ r, spec_NearestByMirror.f k x y l = some r ∧ impl_NearestByMirror.f k x y l = some r := by
  obtain ⟨k, rfl⟩ : ∃ m, k = m + 1 := ⟨k - 1, by omega⟩
  simp only [spec_NearestByMirror.f, impl_NearestByMirror.f, spec_NearestByMirror.j0, impl_NearestByMirror.j0, IsSpot_eq, lwSpot_eq, within_eq, l1In_eq, impl_areSpots.f, Option.bind_some]
  cases h : sp x y with
  | false => exact ⟨_, rfl, rfl⟩
  | true =>
    by_cases c : 1 ≤ (l.length : Int) ∧ (l.length : Int) ≤ 20
    · simp only [if_true, decide_eq_true c, Bool.not_true, Bool.false_eq_true, if_false]
      cases ha : l.all impl_areSpots.ok with
      | true =>
        have hs := (all_iff l).1 ha
        obtain ⟨k, rfl⟩ : ∃ m, k = m + 1 := ⟨k - 1, by omega⟩
        have h0 := spec_step l (by omega) x y (-1) 0 k 0 (by omega) (hs 0 (by omega))
        have h1 := impl_step l (by omega) x y 0 (-1) k 0 (by omega)
        obtain ⟨r, s, g1, g2⟩ := good l (by omega) x y h hs (l.length - 1) k k (0 + 1) ((0 : Nat) : Int) (way l x y 0) (by omega) (by omega) (by omega) (by omega) (way_nn h (hs 0 (by omega)))
        rw [if_pos (by omega)] at h0 h1
        refine ⟨(r, s, true), ?_, ?_⟩
        · rw [show (0 : Int) = ((0 : Nat) : Int) from rfl] at h0 ⊢
          exact h0.trans g1
        · simp only [if_true]
          exact h1.trans g2
      | false =>
        have hb : ∃ j, 0 ≤ j ∧ j < l.length ∧ sp (at_ l j).f0 (at_ l j).f1 = false := by
          apply Classical.byContradiction
          intro hn
          have : l.all impl_areSpots.ok = true := (all_iff l).2 (fun j hj => by
            cases hq : sp (at_ l j).f0 (at_ l j).f1 with
            | true => rfl
            | false => exact absurd ⟨j, by omega, hj, hq⟩ hn)
          rw [ha] at this
          cases this
        refine ⟨(0, 0, false), ?_, by simp⟩
        exact bad l (by omega) x y l.length k 0 (-1) 0 (by omega) (by omega) hb
    · simp only [if_true, decide_eq_false c, Bool.not_false]
      refine ⟨(0, 0, false), rfl, ?_⟩
      cases l.all impl_areSpots.ok <;> simp
theorem main : laws_FnExactNearestByMirror.Pure := by
  intro x y l _ _ hm _
  obtain ⟨k, hk⟩ : ∃ k : Nat, 2000000 ≤ k := ⟨2000000, Nat.le_refl _⟩
  refine ⟨k + 1, ?_⟩
  unfold maxLen at hm
  have w : wrap64 (1048576 - (l.length : Int)) = 1048576 - (l.length : Int) := wrap_id (by omega) (by omega)
  unfold laws_FnExactNearestByMirror.f laws_szSpotS.f
  rw [w]
  by_cases c : 1048576 - (l.length : Int) < 0
  · rw [if_pos c]
    rfl
  · rw [if_neg c]
    simp only [Option.bind_some]
    obtain ⟨r, h1, h2⟩ := both (k + 1) (by omega) x y (l.map cv)
    rw [if_neg c, conv_eq (k + 1) l (by omega) (by omega)]
    simp only [laws_toSpot.f, Option.bind_some, h1, h2, if_true, bne_self_eq_false]
    simp only [laws_FnExactNearestByMirror.j0, Bool.false_eq_true, if_false]
    rw [conv_eq k l (by omega) (by omega)]
    simp only [Option.bind_some]
    rw [same_eq k (l.map cv) (by simp; omega) (by simp; omega)]
    rfl
end LFnExactNearestByMirror

theorem FnExactNearestByMirror : laws_FnExactNearestByMirror.Pure := LFnExactNearestByMirror.main

end Go.Proofs.Ytnapdbffnlhibaa.Pure
