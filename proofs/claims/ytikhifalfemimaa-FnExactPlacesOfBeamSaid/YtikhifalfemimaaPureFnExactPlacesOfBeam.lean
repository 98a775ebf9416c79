/- For every table, beam and number of steps the program's PlacesOfBeam and the reference's give the same, and the answer shares no memory; no condition beyond the numbers' kinds. -/
import Derived.Test.YtikhifalfemimaaPFnExactPlacesOfBeamx9
namespace Go.Proofs.Ytikhifalfemimaa.Pure
open Go.RowKit Go.Proofs.Ytikhifalfemimaa.PFnExactPlacesOfBeam Go.Proofs.YtikhifalfemimaaW.PrintWords Go.Proofs.YtikhifalfemimaaW.PrintLast
set_option linter.unusedVariables false
set_option linter.unusedSimpArgs false

namespace LFnExactPlacesOfBeam
theorem within_eq (a b c : Int) : impl_within.f a b c = some (decide (b ≤ a ∧ a ≤ c)) := by
  by_cases h1 : b ≤ a <;> by_cases h2 : a ≤ c <;> simp [impl_within.f, h1, h2]

theorem l1In_eq (a b c : Int) : spec_l1In.f a b c = some (decide (b ≤ a ∧ a ≤ c)) := by
  by_cases h1 : b ≤ a <;> by_cases h2 : a ≤ c <;> simp [spec_l1In.f, h1, h2]

theorem wrap_id {n : Int} (h0 : -9223372036854775808 ≤ n) (h1 : n ≤ 9223372036854775807) : wrap64 n = n := by
  unfold wrap64
  omega

theorem eqIntS_l0 (l : List Int) (hl : l.length ≤ 1000000000) (d : Nat) : ∀ (k i : Nat), i + d = l.length → d < k → laws_eqIntS.l0 k l l i = some true := by
  induction d with
  | zero =>
    intro k i hi hk
    obtain ⟨k, rfl⟩ : ∃ m, k = m + 1 := ⟨k - 1, by omega⟩
    simp only [laws_eqIntS.l0]
    rw [if_neg (by omega)]
  | succ d ih =>
    intro k i hi hk
    obtain ⟨k, rfl⟩ : ∃ m, k = m + 1 := ⟨k - 1, by omega⟩
    have e : wrap64 ((i : Int) + 1) = ((i + 1 : Nat) : Int) := by rw [wrap_id (by omega) (by omega)]; omega
    simp only [laws_eqIntS.l0]
    rw [if_pos (by omega), if_pos (by omega), if_pos (by omega)]
    simp only [if_true]
    rw [e]
    exact ih k (i + 1) (by omega) (by omega)
theorem eqIntS_same (k : Nat) (l : List Int) (hl : l.length ≤ 1000000000) (hk : l.length < k) : laws_eqIntS.f k l l = some true := by
  unfold laws_eqIntS.f
  rw [if_pos rfl]
  exact eqIntS_l0 l hl l.length k 0 (by omega) hk

/-- The numbers m, m + 1, .., as many as told. -/
def upto (m : Int) (n : Nat) : List Int := (List.range n).map fun j : Nat => m + (j : Int)
theorem upto_len (m : Int) (n : Nat) : (upto m n).length = n := by simp [upto]
theorem mark_l0 (m : Int) (h0 : 0 ≤ m) (h1 : m ≤ 1000000000) : ∀ (rest : List Int) (k i : Nat), rest.length < k → i + rest.length ≤ 1000000000 →
    laws_markIntS.l0 k (upto m i ++ rest) (m + i) i = some (m + ((i + rest.length : Nat) : Int), upto m (i + rest.length)) := by
  intro rest
  induction rest with
  | nil =>
    intro k i hk hb
    obtain ⟨k, rfl⟩ : ∃ m, k = m + 1 := ⟨k - 1, by simp at hk; omega⟩
    simp only [laws_markIntS.l0]
    rw [if_neg (by simp [upto_len])]
    simp
  | cons y ys ih =>
    intro k i hk hb
    simp only [List.length_cons] at hk hb ⊢
    obtain ⟨k, rfl⟩ : ∃ m, k = m + 1 := ⟨k - 1, by omega⟩
    have e1 : wrap64 ((i : Int) + 1) = ((i + 1 : Nat) : Int) := by rw [wrap_id (by omega) (by omega)]; omega
    have e2 : wrap64 (m + (i : Int) + 1) = m + ((i + 1 : Nat) : Int) := by rw [wrap_id (by omega) (by omega)]; omega
    have e3 : (upto m i ++ y :: ys).set ((i : Int)).toNat (m + (i : Int)) = upto m (i + 1) ++ ys := by
      rw [Int.toNat_natCast, List.set_append_right _ _ (by rw [upto_len]; exact Nat.le_refl _), upto_len, Nat.sub_self]
      simp [upto, List.range_succ]
    simp only [laws_markIntS.l0]
    rw [if_pos (by simp [upto_len]; omega), if_pos (by omega), e3, e1, e2, ih k (i + 1) (by omega) (by omega), show i + (ys.length + 1) = i + 1 + ys.length by omega]
theorem mark_eq (k : Nat) (l : List Int) (m : Int) (h0 : 0 ≤ m) (h1 : m ≤ 1000000000) (hl : l.length ≤ 1000000000) (hk : l.length < k) :
    laws_markIntS.f k l m = some (m + (l.length : Int), upto m l.length) := by
  have := mark_l0 m h0 h1 l k 0 hk (by omega)
  simpa [upto, laws_markIntS.f] using this
theorem held_l0 (m : Int) (n : Nat) (h0 : 0 ≤ m) (h1 : m ≤ 1000000000) (hn : n ≤ 1000000000) (d : Nat) : ∀ (k i : Nat), i + d = n → d < k →
    laws_heldIntS.l0 k (upto m n) (m + i) i = some (m + (n : Int)) := by
  induction d with
  | zero =>
    intro k i hi hk
    obtain ⟨k, rfl⟩ : ∃ m, k = m + 1 := ⟨k - 1, by omega⟩
    simp only [laws_heldIntS.l0]
    rw [if_neg (by simp [upto_len]; omega), show i = n by omega]
  | succ d ih =>
    intro k i hi hk
    obtain ⟨k, rfl⟩ : ∃ m, k = m + 1 := ⟨k - 1, by omega⟩
    have e1 : wrap64 ((i : Int) + 1) = ((i + 1 : Nat) : Int) := by rw [wrap_id (by omega) (by omega)]; omega
    have e2 : wrap64 (m + (i : Int) + 1) = m + ((i + 1 : Nat) : Int) := by rw [wrap_id (by omega) (by omega)]; omega
    have e3 : rd (upto m n) (i : Int) = m + (i : Int) := by
      unfold rd upto
      rw [Int.toNat_natCast, List.getD_eq_getElem?_getD, List.getElem?_map, List.getElem?_range (by omega)]
      rfl
    simp only [laws_heldIntS.l0]
    rw [if_pos (by simp [upto_len]; omega), if_pos (by omega), e3, if_pos rfl, e1, e2, ih k (i + 1) (by omega) (by omega)]
theorem held_eq (k n : Nat) (m : Int) (h0 : 0 ≤ m) (h1 : m ≤ 1000000000) (hn : n ≤ 1000000000) (hk : n < k) : laws_heldIntS.f k (upto m n) m = some (m + (n : Int)) := by
  have := held_l0 m n h0 h1 hn n k 0 (by omega) hk
  simpa [laws_heldIntS.f] using this

/-- A beam on a table. -/
def bg (W H x y : Int) : Bool := decide ((1 ≤ W ∧ W ≤ 60) ∧ (1 ≤ H ∧ H ≤ 60) ∧ (0 ≤ x ∧ x ≤ W) ∧ 0 ≤ y ∧ y ≤ H)
structure OnT (W H x y : Int) : Prop where
  w1 : 1 ≤ W
  w2 : W ≤ 60
  h1 : 1 ≤ H
  h2 : H ≤ 60
  x1 : 0 ≤ x
  x2 : x ≤ W
  y1 : 0 ≤ y
  y2 : y ≤ H
theorem bg_of {W H x y : Int} (h : bg W H x y = true) : OnT W H x y := by
  obtain ⟨⟨a, b⟩, ⟨c, d⟩, ⟨e, f⟩, g, i⟩ := of_decide_eq_true h
  exact ⟨a, b, c, d, e, f, g, i⟩
theorem IsTable_eq (W H : Int) : impl_IsTable.f W H = some (decide ((1 ≤ W ∧ W ≤ 60) ∧ 1 ≤ H ∧ H ≤ 60)) := by
  simp only [impl_IsTable.f, within_eq, Option.bind_some]
  by_cases h1 : 1 ≤ W ∧ W ≤ 60 <;> by_cases h2 : 1 ≤ H ∧ H ≤ 60 <;> simp [h1, h2]
theorem IsBeam_eq (W H x y : Int) (r u : Bool) : impl_IsBeam.f W H x y r u = some (bg W H x y) := by
  simp only [impl_IsBeam.f, IsTable_eq, within_eq, Option.bind_some, bg]
  by_cases h1 : 1 ≤ W ∧ W ≤ 60 <;> by_cases h2 : 1 ≤ H ∧ H ≤ 60 <;> by_cases h3 : 0 ≤ x ∧ x ≤ W <;> by_cases h4 : 0 ≤ y ∧ y ≤ H <;> simp [h1, h2, h3, h4]
theorem beGood_eq (W H x y : Int) (r u : Bool) : spec_beGood.f W H x y r u = some (bg W H x y) := by
  simp only [spec_beGood.f, spec_beTable.f, l1In_eq, Option.bind_some, bg]
  by_cases h1 : 1 ≤ W ∧ W ≤ 60 <;> by_cases h2 : 1 ≤ H ∧ H ≤ 60 <;> by_cases h3 : 0 ≤ x ∧ x ≤ W <;> by_cases h4 : 0 ≤ y ∧ y ≤ H <;> simp [h1, h2, h3, h4]

/-- One coordinate turned inward; on a side; a step. -/
def inw1 (W x : Int) (r : Bool) : Bool := decide (x = 0) || (r && decide (x < W))
def ons (W x : Int) : Bool := decide (x = 0) || decide (x = W)
def sg (b : Bool) : Int := if b = true then 1 else -1
theorem fwInw_is (W H x y : Int) (r u : Bool) : fwInw W H ⟨x, y, r, u⟩ = ⟨x, y, inw1 W x r, inw1 H y u⟩ := by
  have e : impl_inward.f W H x y r u = some (x, y, inw1 W x r, inw1 H y u) := by
    unfold impl_inward.f inw1
    cases r <;> cases u <;> by_cases h1 : x = 0 <;> by_cases h2 : y = 0 <;> simp [h1, h2]
  simp only [fwInw, e]
theorem fwCor_is (W H x y : Int) (r u : Bool) : fwCor W H ⟨x, y, r, u⟩ = (ons W x && ons H y) := by
  have e : impl_isCorner.f W H x y r u = some (ons W x && ons H y) := by
    unfold impl_isCorner.f ons
    by_cases h1 : x = 0 <;> by_cases h2 : y = 0 <;> by_cases h3 : x = W <;> by_cases h4 : y = H <;> simp [h1, h2, h3, h4]
    all_goals first | (intro h; exact absurd h.symm ‹_›) | skip
  simp only [fwCor, e, Option.getD_some]
/-- The side at which it bounces. -/
def sideB (W H x y : Int) : ByteArray := if x = W then ⟨#[114]⟩ else if x = 0 then ⟨#[108]⟩ else if y = H then ⟨#[117]⟩ else if y = 0 then ⟨#[100]⟩ else ⟨#[]⟩
theorem sign_eq (r : Bool) : impl_sign.f r = some (sg r) := by cases r <;> rfl
theorem fwNext_is (W H x y : Int) (r u : Bool) (hx : -1000 ≤ x ∧ x ≤ 1000) (hy : -1000 ≤ y ∧ y ≤ 1000) :
    fwNext W H ⟨x, y, r, u⟩ = if (ons W (x + sg r) && ons H (y + sg u)) = true then (⟨x + sg r, y + sg u, r, u⟩, ⟨#[]⟩)
      else (⟨x + sg r, y + sg u, if x + sg r = W ∨ x + sg r = 0 ∨ y + sg u = H ∨ y + sg u = 0 then inw1 W (x + sg r) r else r, if x + sg r = W ∨ x + sg r = 0 ∨ y + sg u = H ∨ y + sg u = 0 then inw1 H (y + sg u) u else u⟩, sideB W H (x + sg r) (y + sg u)) := by
  have wx : wrap64 (x + sg r) = x + sg r := by cases r <;> exact wrap_id (by simp [sg]; omega) (by simp [sg]; omega)
  have wy : wrap64 (y + sg u) = y + sg u := by cases u <;> exact wrap_id (by simp [sg]; omega) (by simp [sg]; omega)
  have e : impl_next.f W H x y r u = some (if (ons W (x + sg r) && ons H (y + sg u)) = true then (x + sg r, y + sg u, r, u, ⟨#[]⟩)
      else (x + sg r, y + sg u, if x + sg r = W ∨ x + sg r = 0 ∨ y + sg u = H ∨ y + sg u = 0 then inw1 W (x + sg r) r else r, if x + sg r = W ∨ x + sg r = 0 ∨ y + sg u = H ∨ y + sg u = 0 then inw1 H (y + sg u) u else u, sideB W H (x + sg r) (y + sg u))) := by
    unfold impl_next.f
    rw [sign_eq, sign_eq]
    simp only [Option.bind_some, wx, wy, fwCor_eq, fwCor_is, fwInw_eq, fwInw_is, sideB]
    generalize x + sg r = X
    generalize y + sg u = Y
    by_cases c : (ons W X && ons H Y) = true
    · simp [c]
    · simp only [if_neg c]
      by_cases h1 : X = W
      · simp only [if_pos h1, if_pos (show X = W ∨ X = 0 ∨ Y = H ∨ Y = 0 from .inl h1), Option.bind_some]
      · by_cases h2 : X = 0
        · simp only [if_neg h1, if_pos h2, if_pos (show X = W ∨ X = 0 ∨ Y = H ∨ Y = 0 from .inr (.inl h2)), Option.bind_some]
        · by_cases h3 : Y = H
          · simp only [if_neg h1, if_neg h2, if_pos h3, if_pos (show X = W ∨ X = 0 ∨ Y = H ∨ Y = 0 from .inr (.inr (.inl h3))), Option.bind_some]
          · by_cases h4 : Y = 0
            · simp only [if_neg h1, if_neg h2, if_neg h3, if_pos h4, if_pos (show X = W ∨ X = 0 ∨ Y = H ∨ Y = 0 from .inr (.inr (.inr h4))), Option.bind_some]
            · simp only [if_neg h1, if_neg h2, if_neg h3, if_neg h4, if_neg (show ¬ (X = W ∨ X = 0 ∨ Y = H ∨ Y = 0) from fun h => by rcases h with h | h | h | h <;> contradiction), Option.bind_some]
  simp only [fwNext, e]
  split <;> simp_all
theorem fwNext_in (W H x y : Int) (r u : Bool) (hx : -1000 ≤ x ∧ x ≤ 1000) (hy : -1000 ≤ y ∧ y ≤ 1000) (t : OnT W H (x + sg r) (y + sg u)) :
    fwNext W H ⟨x, y, r, u⟩ = if (ons W (x + sg r) && ons H (y + sg u)) = true then (⟨x + sg r, y + sg u, r, u⟩, ⟨#[]⟩)
      else (⟨x + sg r, y + sg u, inw1 W (x + sg r) r, inw1 H (y + sg u) u⟩, sideB W H (x + sg r) (y + sg u)) := by
  rw [fwNext_is W H x y r u hx hy]
  obtain ⟨w1, w2, h1, h2, x1, x2, y1, y2⟩ := t
  generalize x + sg r = X at *
  generalize y + sg u = Y at *
  by_cases c : X = W ∨ X = 0 ∨ Y = H ∨ Y = 0
  · simp only [if_pos c]
  · simp only [if_neg c]
    have a1 : ¬ X = 0 := fun h => c (.inr (.inl h))
    have a2 : X < W := by
      have : ¬ X = W := fun h => c (.inl h)
      omega
    have a3 : ¬ Y = 0 := fun h => c (.inr (.inr (.inr h)))
    have a4 : Y < H := by
      have : ¬ Y = H := fun h => c (.inr (.inr (.inl h)))
      omega
    simp [inw1, a1, a2, a3, a4]
/-- One coordinate that has been turned inward. -/
structure Nm (W x : Int) (r : Bool) : Prop where
  lo : 0 ≤ x
  hi : x ≤ W
  a : x = 0 → r = true
  b : x = W → r = false
theorem nm_inw {W x : Int} (r : Bool) (hW : 1 ≤ W) (h0 : 0 ≤ x) (h1 : x ≤ W) : Nm W x (inw1 W x r) := by
  refine ⟨h0, h1, fun h => by simp [inw1, h], fun h => ?_⟩
  subst h
  have : ¬ x = 0 := by omega
  simp [inw1, this]
theorem nm_step {W x : Int} {r : Bool} (h : Nm W x r) (hW : 1 ≤ W) : 0 ≤ x + sg r ∧ x + sg r ≤ W := by
  obtain ⟨h0, h1, ha, hb⟩ := h
  cases r with
  | true =>
    have : x ≠ W := fun e => by have := hb e; cases this
    simp [sg]; omega
  | false =>
    have : x ≠ 0 := fun e => by have := ha e; cases this
    simp [sg]; omega

theorem beCorner_eq (W H x y : Int) (r u : Bool) : spec_beCorner.f W H x y r u = some (ons W x && ons H y) := by
  unfold spec_beCorner.f ons
  by_cases h1 : x = 0 <;> by_cases h2 : y = 0 <;> by_cases h3 : x = W <;> by_cases h4 : y = H <;> simp [h1, h2, h3, h4]
  all_goals first | (intro h; exact absurd h.symm ‹_›) | skip
theorem beTurn_eq (k : Nat) {W H x y : Int} (r u : Bool) (t : OnT W H x y) : spec_beTurn.f (k + 3) W H x y r u = some (x, y, inw1 W x r, inw1 H y u) := by
  obtain ⟨w1, w2, h1, h2, x1, x2, y1, y2⟩ := t
  have n1 : ¬ W = 0 := by omega
  have n2 : ¬ H = 0 := by omega
  have n3 : ¬ (0 : Int) = W := by omega
  have n4 : ¬ (0 : Int) = H := by omega
  have cx : x = 0 ∨ x = W ∨ (¬ x = 0 ∧ ¬ x = W ∧ x < W) := by omega
  have cy : y = 0 ∨ y = H ∨ (¬ y = 0 ∧ ¬ y = H ∧ y < H) := by omega
  unfold spec_beTurn.f
  simp only [spec_beTurn.j0, spec_beTurn.j1, spec_beTurn.j2]
  rcases cx with rfl | rfl | ⟨a1, a2, a3⟩ <;> rcases cy with rfl | rfl | ⟨b1, b2, b3⟩ <;> cases r <;> cases u <;> simp_all [inw1]
theorem beMove_eq (k : Nat) (x y : Int) (r u : Bool) (hx : -1000 ≤ x ∧ x ≤ 1000) (hy : -1000 ≤ y ∧ y ≤ 1000) : spec_beMove.f (k + 1) x y r u = some (x + sg r, y + sg u, r, u) := by
  have e1 : wrap64 (x + 1) = x + 1 := wrap_id (by omega) (by omega)
  have e2 : wrap64 (y + 1) = y + 1 := wrap_id (by omega) (by omega)
  have e3 : wrap64 (x - 1) = x + -1 := by rw [wrap_id (by omega) (by omega)]; omega
  have e4 : wrap64 (y - 1) = y + -1 := by rw [wrap_id (by omega) (by omega)]; omega
  unfold spec_beMove.f spec_beMove.j0
  cases r <;> cases u <;> simp [sg, e1, e2, e3, e4]
theorem beStep_eq (k : Nat) {W H x y : Int} (r u : Bool) (hx : -1000 ≤ x ∧ x ≤ 1000) (hy : -1000 ≤ y ∧ y ≤ 1000) (t : OnT W H (x + sg r) (y + sg u)) :
    spec_beStep.f (k + 3) W H x y r u = some ((fwNext W H ⟨x, y, r, u⟩).1.f0, (fwNext W H ⟨x, y, r, u⟩).1.f1, (fwNext W H ⟨x, y, r, u⟩).1.f2, (fwNext W H ⟨x, y, r, u⟩).1.f3, (fwNext W H ⟨x, y, r, u⟩).2) := by
  unfold spec_beStep.f
  rw [fwNext_in W H x y r u hx hy t, beMove_eq (k + 2) x y r u hx hy]
  simp only [Option.bind_some, beCorner_eq, beTurn_eq k r u t, sideB]
  split
  · rfl
  · split
    · rfl
    · split
      · rfl
      · split
        · rfl
        · split <;> rfl

/-- The beam behind k steps is on the table; it is turned inward unless it is at a corner. -/
theorem way_ok {W H x y : Int} (r u : Bool) (t : OnT W H x y) : ∀ k, (∀ j, 0 < j → j < k → fwCor W H (fwSt W H ⟨x, y, r, u⟩ j).1 = false) →
    OnT W H (fwSt W H ⟨x, y, r, u⟩ k).1.f0 (fwSt W H ⟨x, y, r, u⟩ k).1.f1 ∧ ((k = 0 ∨ fwCor W H (fwSt W H ⟨x, y, r, u⟩ k).1 = false) → Nm W (fwSt W H ⟨x, y, r, u⟩ k).1.f0 (fwSt W H ⟨x, y, r, u⟩ k).1.f2 ∧ Nm H (fwSt W H ⟨x, y, r, u⟩ k).1.f1 (fwSt W H ⟨x, y, r, u⟩ k).1.f3) := by
  intro k
  induction k with
  | zero =>
    intro _
    simp only [fwSt, fwInw_is]
    exact ⟨t, fun _ => ⟨nm_inw r t.w1 t.x1 t.x2, nm_inw u t.h1 t.y1 t.y2⟩⟩
  | succ k ih =>
    intro hc
    have h0 := ih (fun j h1 h2 => hc j h1 (by omega))
    have hn := h0.2 (by
      rcases Nat.eq_zero_or_pos k with h | h
      · exact .inl h
      · exact .inr (hc k h (by omega)))
    obtain ⟨s, hs⟩ : ∃ s, (fwSt W H ⟨x, y, r, u⟩ k).1 = s := ⟨_, rfl⟩
    have e : fwSt W H ⟨x, y, r, u⟩ (k + 1) = fwNext W H s := by rw [← hs]; rfl
    rw [hs] at h0 hn
    rw [e]
    obtain ⟨X, Y, R, U⟩ := s
    have ax := nm_step hn.1 t.w1
    have ay := nm_step hn.2 t.h1
    have tt : OnT W H (X + sg R) (Y + sg U) := ⟨t.w1, t.w2, t.h1, t.h2, ax.1, ax.2, ay.1, ay.2⟩
    have g0 := h0.1
    rw [fwNext_in W H X Y R U (by have := g0.x1; have := g0.x2; have := g0.w2; simp at *; omega) (by have := g0.y1; have := g0.y2; have := g0.h2; simp at *; omega) tt]
    by_cases c : (ons W (X + sg R) && ons H (Y + sg U)) = true
    · rw [if_pos c]
      refine ⟨tt, fun h => ?_⟩
      rcases h with h | h
      · omega
      · rw [fwCor_is, c] at h; cases h
    · rw [if_neg c]
      exact ⟨tt, fun _ => ⟨nm_inw R t.w1 ax.1 ax.2, nm_inw U t.h1 ay.1 ay.2⟩⟩
theorem side_size {W H x y : Int} : (sideB W H x y).size ≤ 1 := by
  unfold sideB
  (repeat' split) <;> decide
/-- The sides of all bounces behind k steps. -/
def sides (W H : Int) (b : S30) : Nat → ByteArray
  | 0 => ⟨#[]⟩
  | k + 1 => sides W H b k ++ (fwSt W H b (k + 1)).2
theorem next_side {W H x y : Int} {r u : Bool} (hx : -1000 ≤ x ∧ x ≤ 1000) (hy : -1000 ≤ y ∧ y ≤ 1000) : (fwNext W H ⟨x, y, r, u⟩).2.size ≤ 1 := by
  rw [fwNext_is W H x y r u hx hy]
  split
  · exact Nat.zero_le _
  · exact side_size
/-- The reference's run is the way up to where it ends. -/
theorem run_l0 {W H x y : Int} (r u : Bool) (t : OnT W H x y) (steps : Int) (N : Nat) (hN : N ≤ 200000) (hgo : ∀ k, k < N → fwGo W H ⟨x, y, r, u⟩ steps (fun _ => false) k) (hend : ¬ fwGo W H ⟨x, y, r, u⟩ steps (fun _ => false) N) (d : Nat) :
    ∀ (k i : Nat), i + d = N → 2 * d + 10 < k → (sides W H ⟨x, y, r, u⟩ i).size ≤ i →
    ∃ sz, spec_beRun.l0 k steps ((List.range (i + 1)).map fun j => (fwSt W H ⟨x, y, r, u⟩ j).1) (sides W H ⟨x, y, r, u⟩ i) i W H = some ((List.range (N + 1)).map (fun j => (fwSt W H ⟨x, y, r, u⟩ j).1), sides W H ⟨x, y, r, u⟩ N) ∧ (sides W H ⟨x, y, r, u⟩ N).size = sz ∧ sz ≤ N := by
  have rdi : ∀ i, rd_T30 ((List.range (i + 1)).map fun j => (fwSt W H ⟨x, y, r, u⟩ j).1) (i : Int) = (fwSt W H ⟨x, y, r, u⟩ i).1 := by
    intro i
    unfold rd_T30
    rw [Int.toNat_natCast, List.getD_eq_getElem?_getD, List.getElem?_map, List.getElem?_range (by omega)]
    rfl
  have okk : ∀ i, i ≤ N → OnT W H (fwSt W H ⟨x, y, r, u⟩ i).1.f0 (fwSt W H ⟨x, y, r, u⟩ i).1.f1 ∧ ((i = 0 ∨ fwCor W H (fwSt W H ⟨x, y, r, u⟩ i).1 = false) → Nm W (fwSt W H ⟨x, y, r, u⟩ i).1.f0 (fwSt W H ⟨x, y, r, u⟩ i).1.f2 ∧ Nm H (fwSt W H ⟨x, y, r, u⟩ i).1.f1 (fwSt W H ⟨x, y, r, u⟩ i).1.f3) := by
    intro i hi
    refine way_ok r u t i (fun j h1 h2 => ?_)
    rcases (hgo j (by omega)).2.2 with h | h
    · omega
    · exact h
  induction d with
  | zero =>
    intro k i hi hk hz
    obtain ⟨k, rfl⟩ : ∃ m, k = m + 2 := ⟨k - 2, by omega⟩
    obtain rfl : i = N := by omega
    refine ⟨_, ?_, rfl, hz⟩
    obtain ⟨o1, o2⟩ := okk i (Nat.le_refl _)
    have hr := rdi i
    obtain ⟨s, hs⟩ : ∃ s, (fwSt W H ⟨x, y, r, u⟩ i).1 = s := ⟨_, rfl⟩
    rw [hs] at hr o1 o2
    unfold fwGo at hend
    rw [hs] at hend
    obtain ⟨X, Y, R, U⟩ := s
    simp only [spec_beRun.l0, spec_beRun.j1]
    by_cases c : (i : Int) < steps
    · have hc : ¬ (i = 0 ∨ fwCor W H ⟨X, Y, R, U⟩ = false) := fun h => hend ⟨rfl, c, h⟩
      have hi0 : ¬ (i : Int) = 0 := fun h => hc (.inl (by omega))
      have hcc : (ons W X && ons H Y) = true := by
        rw [← fwCor_is W H X Y R U]
        cases hq : fwCor W H ⟨X, Y, R, U⟩ with
        | true => rfl
        | false => exact absurd (.inr hq) hc
      rw [if_pos c, if_neg hi0, if_pos (by omega), if_pos (by simp; omega), hr, beCorner_eq, hcc]
      simp
    · rw [if_neg c]
      simp
  | succ d ih =>
    intro k i hi hk hz
    obtain ⟨k, rfl⟩ : ∃ m, k = m + 5 := ⟨k - 5, by omega⟩
    obtain ⟨o1, o2⟩ := okk i (by omega)
    have hr := rdi i
    obtain ⟨_, g1, g2⟩ := hgo i (by omega)
    have g3 := o2 g2
    have hlist : ((List.range (i + 1)).map fun j => (fwSt W H ⟨x, y, r, u⟩ j).1) ++ [(⟨(fwNext W H (fwSt W H ⟨x, y, r, u⟩ i).1).1.f0, (fwNext W H (fwSt W H ⟨x, y, r, u⟩ i).1).1.f1, (fwNext W H (fwSt W H ⟨x, y, r, u⟩ i).1).1.f2, (fwNext W H (fwSt W H ⟨x, y, r, u⟩ i).1).1.f3⟩ : S30)] = (List.range (i + 1 + 1)).map fun j => (fwSt W H ⟨x, y, r, u⟩ j).1 := by
      rw [List.range_succ (n := i + 1), List.map_append]
      rfl
    have hside : sides W H ⟨x, y, r, u⟩ i ++ (fwNext W H (fwSt W H ⟨x, y, r, u⟩ i).1).2 = sides W H ⟨x, y, r, u⟩ (i + 1) := rfl
    have hsz : (fwNext W H (fwSt W H ⟨x, y, r, u⟩ i).1).2.size ≤ 1 := next_side (x := (fwSt W H ⟨x, y, r, u⟩ i).1.f0) (y := (fwSt W H ⟨x, y, r, u⟩ i).1.f1) (r := (fwSt W H ⟨x, y, r, u⟩ i).1.f2) (u := (fwSt W H ⟨x, y, r, u⟩ i).1.f3) (by have := o1.x1; have := o1.x2; have := o1.w2; omega) (by have := o1.y1; have := o1.y2; have := o1.h2; omega)
    have hst : spec_beStep.f (k + 3) W H (fwSt W H ⟨x, y, r, u⟩ i).1.f0 (fwSt W H ⟨x, y, r, u⟩ i).1.f1 (fwSt W H ⟨x, y, r, u⟩ i).1.f2 (fwSt W H ⟨x, y, r, u⟩ i).1.f3 = some ((fwNext W H (fwSt W H ⟨x, y, r, u⟩ i).1).1.f0, (fwNext W H (fwSt W H ⟨x, y, r, u⟩ i).1).1.f1, (fwNext W H (fwSt W H ⟨x, y, r, u⟩ i).1).1.f2, (fwNext W H (fwSt W H ⟨x, y, r, u⟩ i).1).1.f3, (fwNext W H (fwSt W H ⟨x, y, r, u⟩ i).1).2) := by
      have ax := nm_step g3.1 t.w1
      have ay := nm_step g3.2 t.h1
      exact beStep_eq k _ _ (by have := o1.x1; have := o1.x2; have := o1.w2; omega) (by have := o1.y1; have := o1.y2; have := o1.h2; omega) ⟨t.w1, t.w2, t.h1, t.h2, ax.1, ax.2, ay.1, ay.2⟩
    have w1 : wrap64 ((i : Int) + 1) = ((i + 1 : Nat) : Int) := by rw [wrap_id (by omega) (by omega)]; omega
    have s2 : (sides W H ⟨x, y, r, u⟩ (i + 1)).size ≤ i + 1 := by
      rw [← hside, ByteArray.size_append]
      omega
    obtain ⟨sz, e1, e2, e3⟩ := ih (k + 3) (i + 1) (by omega) (by omega) s2
    refine ⟨sz, ?_, e2, e3⟩
    have hl : ((List.range (i + 1)).map fun j => (fwSt W H ⟨x, y, r, u⟩ j).1).length < 5864062014805 := by simp; omega
    have hb : (sides W H ⟨x, y, r, u⟩ i).size + (fwNext W H (fwSt W H ⟨x, y, r, u⟩ i).1).2.size ≤ 9223372036854775807 := by omega
    have hlen : (i : Int) < ((((List.range (i + 1)).map fun j => (fwSt W H ⟨x, y, r, u⟩ j).1).length : Nat) : Int) := by simp; omega
    have hj : spec_beRun.l0 (k + 5) steps ((List.range (i + 1)).map fun j => (fwSt W H ⟨x, y, r, u⟩ j).1) (sides W H ⟨x, y, r, u⟩ i) i W H = spec_beRun.j1 (k + 4) steps ((List.range (i + 1)).map fun j => (fwSt W H ⟨x, y, r, u⟩ j).1) (sides W H ⟨x, y, r, u⟩ i) i true W H := by
      rw [spec_beRun.l0, if_pos g1]
      by_cases c : (i : Int) = 0
      · rw [if_pos c]
      · have g4 : fwCor W H (fwSt W H ⟨x, y, r, u⟩ i).1 = false := by
          rcases g2 with h | h
          · omega
          · exact h
        rw [if_neg c, if_pos (by omega : (0 : Int) ≤ i), if_pos hlen, hr, show spec_beCorner.f W H (fwSt W H ⟨x, y, r, u⟩ i).1.f0 (fwSt W H ⟨x, y, r, u⟩ i).1.f1 (fwSt W H ⟨x, y, r, u⟩ i).1.f2 (fwSt W H ⟨x, y, r, u⟩ i).1.f3 = some (fwCor W H (fwSt W H ⟨x, y, r, u⟩ i).1) by rw [beCorner_eq, ← fwCor_is], g4]
        rfl
    rw [hj, spec_beRun.j1, if_pos rfl, if_pos (by omega : (0 : Int) ≤ i), if_pos hlen, hr, hst]
    simp only [Option.bind_some]
    rw [if_pos hl, if_pos hb, hlist, hside, w1, e1]
theorem run_eq {W H x y : Int} (r u : Bool) (t : OnT W H x y) (steps : Int) (N k : Nat) (hN : N ≤ 200000) (hk : 2 * N + 20 < k) (hgo : ∀ k, k < N → fwGo W H ⟨x, y, r, u⟩ steps (fun _ => false) k) (hend : ¬ fwGo W H ⟨x, y, r, u⟩ steps (fun _ => false) N) :
    spec_beRun.f k W H x y r u steps = some ((List.range (N + 1)).map (fun j => (fwSt W H ⟨x, y, r, u⟩ j).1), sides W H ⟨x, y, r, u⟩ N) ∧ (sides W H ⟨x, y, r, u⟩ N).size ≤ N := by
  obtain ⟨k, rfl⟩ : ∃ m, k = m + 3 := ⟨k - 3, by omega⟩
  obtain ⟨sz, e1, e2, e3⟩ := run_l0 r u t steps N hN hgo hend N (k + 3) 0 (by omega) (by omega) (Nat.le_refl _)
  refine ⟨?_, by omega⟩
  unfold spec_beRun.f
  rw [beTurn_eq k r u t]
  simp only [Option.bind_some]
  have : [(⟨x, y, inw1 W x r, inw1 H y u⟩ : S30)] = (List.range (0 + 1)).map fun j => (fwSt W H ⟨x, y, r, u⟩ j).1 := by simp [fwSt, fwInw_is]
  rw [this]
  exact e1

theorem asked_eq (W H x y : Int) (r u : Bool) (s m : Int) : spec_beAsked.f W H x y r u s m = some (bg W H x y && decide (0 ≤ s ∧ s ≤ m)) := by
  unfold spec_beAsked.f
  rw [beGood_eq]
  simp only [Option.bind_some, l1In_eq]
  cases bg W H x y <;> simp
def at_ (l : List (List Int)) (i : Nat) : List Int := l.getD i []
theorem rd_nat (l : List (List Int)) (i : Nat) : rd_L3 l (i : Int) = at_ l i := rfl
theorem at_mid (pre : List (List Int)) (y : List Int) (ys : List (List Int)) : at_ (pre ++ y :: ys) pre.length = y := by
  unfold at_
  rw [List.getD_eq_getElem?_getD, List.getElem?_append_right (Nat.le_refl _), Nat.sub_self]
  rfl
theorem at_mem {l : List (List Int)} {i : Nat} (h : i < l.length) : at_ l i ∈ l := by
  unfold at_
  rw [List.getD_eq_getElem?_getD, List.getElem?_eq_getElem h]
  exact List.getElem_mem h
theorem eqIntSS_l0 (l : List (List Int)) (hl : l.length ≤ 1000) (hx : ∀ x ∈ l, x.length ≤ 2) (d : Nat) : ∀ (k i : Nat), i + d = l.length → d + 2000 < k → laws_eqIntSS.l0 k l l i = some true := by
  induction d with
  | zero =>
    intro k i hi hk
    obtain ⟨k, rfl⟩ : ∃ m, k = m + 1 := ⟨k - 1, by omega⟩
    simp only [laws_eqIntSS.l0]
    rw [if_neg (by omega)]
  | succ d ih =>
    intro k i hi hk
    obtain ⟨k, rfl⟩ : ∃ m, k = m + 1 := ⟨k - 1, by omega⟩
    have e : wrap64 ((i : Int) + 1) = ((i + 1 : Nat) : Int) := by rw [wrap_id (by omega) (by omega)]; omega
    have hy := hx _ (at_mem (l := l) (i := i) (by omega))
    simp only [laws_eqIntSS.l0]
    rw [if_pos (by omega), if_pos (by omega), if_pos (by omega), rd_nat, eqIntS_same k _ (by omega) (by omega)]
    simp only [Option.bind_some, if_true]
    rw [e]
    exact ih k (i + 1) (by omega) (by omega)
theorem eqIntSS_same (k : Nat) (l : List (List Int)) (hk : 5000 < k) (hl : l.length ≤ 1000) (hx : ∀ x ∈ l, x.length ≤ 2) : laws_eqIntSS.f k l l = some true := by
  unfold laws_eqIntSS.f
  rw [if_pos rfl]
  exact eqIntSS_l0 l hl hx l.length k 0 (by omega) (by omega)
def sumlen (l : List (List Int)) : Nat := (l.map List.length).sum
theorem sumlen_cons (y : List Int) (ys : List (List Int)) : sumlen (y :: ys) = y.length + sumlen ys := by simp [sumlen]
theorem sumlen_le : ∀ (l : List (List Int)), (∀ x ∈ l, x.length ≤ 2) → sumlen l ≤ 2 * l.length := by
  intro l
  induction l with
  | nil => intro _; exact Nat.le_refl _
  | cons y ys ih =>
    intro h
    rw [sumlen_cons, List.length_cons]
    have h1 := h y (by simp)
    have h2 := ih (fun x hx => h x (List.mem_cons_of_mem _ hx))
    omega
/-- The rows, marked. -/
def mrows (m : Int) : List (List Int) → List (List Int)
  | [] => []
  | y :: ys => upto m y.length :: mrows (m + (y.length : Int)) ys
theorem mrows_len : ∀ (l : List (List Int)) (m : Int), (mrows m l).length = l.length
  | [], _ => rfl
  | y :: ys, m => by rw [mrows, List.length_cons, mrows_len ys, List.length_cons]
theorem markSS_l0 (rest : List (List Int)) : ∀ (pre : List (List Int)) (k : Nat) (m : Int), rest.length + 1000 < k → 0 ≤ m → m + (sumlen rest : Int) ≤ 100000000 → pre.length + rest.length ≤ 1000000 → (∀ x ∈ rest, x.length ≤ 2) →
    laws_markIntSS.l0 k (pre ++ rest) m pre.length = some (m + (sumlen rest : Int), pre ++ mrows m rest) := by
  induction rest with
  | nil =>
    intro pre k m hk h0 h1 hb _
    obtain ⟨k, rfl⟩ : ∃ m, k = m + 1 := ⟨k - 1, by omega⟩
    simp only [laws_markIntSS.l0]
    rw [if_neg (by simp)]
    simp [sumlen, mrows]
  | cons y ys ih =>
    intro pre k m hk h0 h1 hb hx
    simp only [List.length_cons] at hk hb
    have es := sumlen_cons y ys
    obtain ⟨k, rfl⟩ : ∃ m, k = m + 1 := ⟨k - 1, by omega⟩
    have e1 : wrap64 ((pre.length : Int) + 1) = (((pre ++ [upto m y.length]).length : Nat) : Int) := by rw [wrap_id (by omega) (by omega)]; simp
    have hy := hx y (by simp)
    have e3 : (pre ++ y :: ys).set ((pre.length : Int)).toNat (upto m y.length) = (pre ++ [upto m y.length]) ++ ys := by
      rw [Int.toNat_natCast, List.set_append_right _ _ (by simp), Nat.sub_self]
      simp
    have e4 : (pre ++ y :: ys).getD ((pre.length : Int)).toNat [] = y := at_mid pre y ys
    have hR := ih (pre ++ [upto m y.length]) k (m + (y.length : Int)) (by omega) (by omega) (by omega) (by simp; omega) (fun x h => hx x (List.mem_cons_of_mem _ h))
    have e5 : m + (y.length : Int) + (sumlen ys : Int) = m + (sumlen (y :: ys) : Int) := by omega
    simp only [laws_markIntSS.l0]
    rw [if_pos (by simp; omega), if_pos (by omega), e4, mark_eq k y m h0 (by omega) (by omega) (by omega)]
    simp only [Option.bind_some]
    rw [e3, e1, hR, e5, mrows, List.append_assoc]
    rfl
theorem heldSS_l0 (rest : List (List Int)) : ∀ (pre : List (List Int)) (k : Nat) (m : Int), rest.length + 1000 < k → 0 ≤ m → m + (sumlen rest : Int) ≤ 100000000 → pre.length + rest.length ≤ 1000000 → (∀ x ∈ rest, x.length ≤ 2) →
    laws_heldIntSS.l0 k (pre ++ mrows m rest) m pre.length = some (m + (sumlen rest : Int)) := by
  induction rest with
  | nil =>
    intro pre k m hk h0 h1 hb _
    obtain ⟨k, rfl⟩ : ∃ m, k = m + 1 := ⟨k - 1, by omega⟩
    rw [mrows, List.append_nil, laws_heldIntSS.l0]
    refine (if_neg (by omega)).trans ?_
    simp [sumlen]
  | cons y ys ih =>
    intro pre k m hk h0 h1 hb hx
    simp only [List.length_cons] at hk hb
    have es := sumlen_cons y ys
    obtain ⟨k, rfl⟩ : ∃ m, k = m + 1 := ⟨k - 1, by omega⟩
    have e1 : wrap64 ((pre.length : Int) + 1) = (((pre ++ [upto m y.length]).length : Nat) : Int) := by rw [wrap_id (by omega) (by omega)]; simp
    have hy := hx y (by simp)
    have e4 : at_ (pre ++ upto m y.length :: mrows (m + (y.length : Int)) ys) pre.length = upto m y.length := at_mid pre _ _
    have hR := ih (pre ++ [upto m y.length]) k (m + (y.length : Int)) (by omega) (by omega) (by omega) (by simp; omega) (fun x h => hx x (List.mem_cons_of_mem _ h))
    have e5 : m + (y.length : Int) + (sumlen ys : Int) = m + (sumlen (y :: ys) : Int) := by omega
    have e6 : pre ++ upto m y.length :: mrows (m + (y.length : Int)) ys = (pre ++ [upto m y.length]) ++ mrows (m + (y.length : Int)) ys := by rw [List.append_assoc]; rfl
    have hlen : (pre.length : Int) < ((pre ++ upto m y.length :: mrows (m + (y.length : Int)) ys).length : Int) := by simp; omega
    have h00 : (0 : Int) ≤ (pre.length : Int) := by omega
    have hneg : ¬ m + (y.length : Int) < 0 := by omega
    rw [mrows, laws_heldIntSS.l0, rd_nat, e4, held_eq k y.length m h0 (by omega) (by omega) (by omega), e1]
    refine (if_pos hlen).trans ((if_pos h00).trans ((Option.bind_some _ _).trans ((if_neg hneg).trans ?_)))
    rw [e6, hR, e5]
theorem pl_small {n : Nat} (h : n ≤ 1000) : n < 5864062014805 := by omega
theorem rows_l0 {W H x y : Int} (r u : Bool) (N : Nat) (hN : N ≤ 300) (d : Nat) : ∀ (k i : Nat), i + d = N + 1 → d < k →
    spec_PlacesOfBeam.l0 k (plRows W H ⟨x, y, r, u⟩ i) ((List.range (N + 1)).map fun j => (fwSt W H ⟨x, y, r, u⟩ j).1) ((N + 1 : Nat) : Int) i = some (plRows W H ⟨x, y, r, u⟩ (N + 1), true) := by
  induction d with
  | zero =>
    intro k i hi hk
    obtain ⟨k, rfl⟩ : ∃ m, k = m + 1 := ⟨k - 1, by omega⟩
    obtain rfl : i = N + 1 := by omega
    rw [spec_PlacesOfBeam.l0]
    exact if_neg (by omega)
  | succ d ih =>
    intro k i hi hk
    obtain ⟨k, rfl⟩ : ∃ m, k = m + 1 := ⟨k - 1, by omega⟩
    have hI : (i : Int) < ((N + 1 : Nat) : Int) := by omega
    have h0 : (0 : Int) ≤ i := by omega
    have hL : (i : Int) < ((((List.range (N + 1)).map fun j => (fwSt W H ⟨x, y, r, u⟩ j).1).length : Nat) : Int) := by simp; omega
    have hs : (plRows W H ⟨x, y, r, u⟩ i).length < 5864062014805 := by rw [plRows_len]; exact pl_small (by omega)
    have w1 : wrap64 ((i : Int) + 1) = ((i + 1 : Nat) : Int) := by rw [wrap_id (by omega) (by omega)]; omega
    have hr : rd_T30 ((List.range (N + 1)).map fun j => (fwSt W H ⟨x, y, r, u⟩ j).1) (i : Int) = (fwSt W H ⟨x, y, r, u⟩ i).1 := by
      unfold rd_T30
      rw [Int.toNat_natCast, List.getD_eq_getElem?_getD, List.getElem?_map, List.getElem?_range (by omega)]
      rfl
    rw [spec_PlacesOfBeam.l0, hr, w1]
    exact (if_pos hI).trans ((if_pos h0).trans ((if_pos hL).trans ((if_pos hs).trans (ih k (i + 1) (by omega) (by omega)))))
theorem plRows_two (W H : Int) (b : S30) : ∀ k, ∀ z ∈ plRows W H b k, z.length ≤ 2 := by
  intro k
  induction k with
  | zero => intro z h; cases h
  | succ k ih =>
    intro z h
    rw [plRows] at h
    rcases List.mem_append.1 h with h | h
    · exact ih z h
    · rw [List.mem_singleton] at h
      subst h
      exact Nat.le_refl _
theorem both (k : Nat) (hk : 10000 ≤ k) (W H x y : Int) (r u : Bool) (s : Int) : ∃ rows ok, spec_PlacesOfBeam.f k W H x y r u s = some (rows, ok) ∧ impl_PlacesOfBeam.f W H x y r u s = some (rows, ok) ∧ rows.length ≤ 1000 ∧ ∀ z ∈ rows, z.length ≤ 2 := by
  unfold spec_PlacesOfBeam.f impl_PlacesOfBeam.f
  rw [asked_eq, IsBeam_eq, within_eq]
  simp only [Option.bind_some]
  cases hb : bg W H x y with
  | false => exact ⟨[], false, by simp, by simp, by simp, by simp⟩
  | true =>
    by_cases c : 0 ≤ s ∧ s ≤ 300
    · obtain ⟨n1, n2, n3⟩ := fwN_is W H ⟨x, y, r, u⟩ s (fun _ => false) c.1
      rw [decide_eq_true c]
      unfold plN
      generalize fwN W H ⟨x, y, r, u⟩ s (fun _ => false) = N at n1 n2 n3 ⊢
      obtain ⟨e1, _⟩ := run_eq r u (bg_of hb) s N k (by omega) (by omega) n3 n2
      have hl : (((List.range (N + 1)).map fun j => (fwSt W H ⟨x, y, r, u⟩ j).1).length : Int) = ((N + 1 : Nat) : Int) := by simp
      refine ⟨plRows W H ⟨x, y, r, u⟩ (N + 1), true, ?_, by simp, by rw [plRows_len]; omega, plRows_two _ _ _ _⟩
      simp only [Bool.and_self, if_true, e1, Option.bind_some, hl]
      exact rows_l0 r u N (by omega) (N + 1) k 0 (by omega) (by omega)
    · rw [decide_eq_false c]
      exact ⟨[], false, by simp, by simp, by simp, by simp⟩
theorem main : laws_FnExactPlacesOfBeam.Pure := by
  intro W H x y r u s _ _ _ _ _
  obtain ⟨k, hk⟩ : ∃ k : Nat, 100000 ≤ k := ⟨100000, Nat.le_refl _⟩
  refine ⟨k, ?_⟩
  unfold laws_FnExactPlacesOfBeam.f
  obtain ⟨rows, ok, s1, s2, s3, s4⟩ := both k (by omega) W H x y r u s
  have hsum := sumlen_le rows s4
  have hm : laws_markIntSS.f k rows 1 = some (1 + (sumlen rows : Int), mrows 1 rows) := markSS_l0 rows [] k 1 (by omega) (by omega) (by omega) (by simp; omega) s4
  have hh : laws_heldIntSS.f k (mrows 1 rows) 1 = some (1 + (sumlen rows : Int)) := heldSS_l0 rows [] k 1 (by omega) (by omega) (by omega) (by simp; omega) s4
  have g : PwG k W H x y r u s := ⟨rows, ok, _, _, ⟨rfl, rfl, s1, s2, eqIntSS_same k rows (by omega) s3 s4, hm, by omega, hh⟩⟩
  exact if_pos g
end LFnExactPlacesOfBeam

theorem FnExactPlacesOfBeam : laws_FnExactPlacesOfBeam.Pure := LFnExactPlacesOfBeam.main

end Go.Proofs.Ytikhifalfemimaa.Pure
