/- Whatever is drawn, beams go step by step as their places tell, bounces are where sides are, beams without an end come again, and places that are passed are those of the way; no condition beyond the numbers' kinds. -/
import Derived.Test.YthfbjofmcniogaaPFnBeamsGox19
namespace Go.Proofs.Ythfbjofmcniogaa.Pure
open Go.RowKit Go.Proofs.Ythfbjofmcniogaa.PFnBeamsGo Go.Proofs.YthfbjofmcniogaaW.PrintWords Go.Proofs.YthfbjofmcniogaaW.PrintLast
set_option linter.unusedVariables false
set_option linter.unusedSimpArgs false

namespace LFnBeamsGo
theorem within_eq (a b c : Int) : impl_within.f a b c = some (decide (b ≤ a ∧ a ≤ c)) := by
  by_cases h1 : b ≤ a <;> by_cases h2 : a ≤ c <;> simp [impl_within.f, h1, h2]

theorem l1In_eq (a b c : Int) : spec_l1In.f a b c = some (decide (b ≤ a ∧ a ≤ c)) := by
  by_cases h1 : b ≤ a <;> by_cases h2 : a ≤ c <;> simp [spec_l1In.f, h1, h2]

theorem wrap_id {n : Int} (h0 : -9223372036854775808 ≤ n) (h1 : n ≤ 9223372036854775807) : wrap64 n = n := by
  unfold wrap64
  omega

/-- A beam on a table. -/
def bg (W H x y : Int) : Bool := decide ((1 ≤ W ∧ W ≤ 60) ∧ (1 ≤ H ∧ H ≤ 60) ∧ (0 ≤ x ∧ x ≤ W) ∧ 0 ≤ y ∧ y ≤ H)
structure OnT (W H x y : Int) : Prop where
  w1 : 1 ≤ W
  w2 : W ≤ 60
  h1 : 1 ≤ H
  h2 : H ≤ 60
  x1 : 0 ≤ x
  x2 : x ≤ W
  y1 : 0 ≤ y
  y2 : y ≤ H
theorem bg_of {W H x y : Int} (h : bg W H x y = true) : OnT W H x y := by
  obtain ⟨⟨a, b⟩, ⟨c, d⟩, ⟨e, f⟩, g, i⟩ := of_decide_eq_true h
  exact ⟨a, b, c, d, e, f, g, i⟩
theorem IsTable_eq (W H : Int) : impl_IsTable.f W H = some (decide ((1 ≤ W ∧ W ≤ 60) ∧ 1 ≤ H ∧ H ≤ 60)) := by
  simp only [impl_IsTable.f, within_eq, Option.bind_some]
  by_cases h1 : 1 ≤ W ∧ W ≤ 60 <;> by_cases h2 : 1 ≤ H ∧ H ≤ 60 <;> simp [h1, h2]
theorem IsBeam_eq (W H x y : Int) (r u : Bool) : impl_IsBeam.f W H x y r u = some (bg W H x y) := by
  simp only [impl_IsBeam.f, IsTable_eq, within_eq, Option.bind_some, bg]
  by_cases h1 : 1 ≤ W ∧ W ≤ 60 <;> by_cases h2 : 1 ≤ H ∧ H ≤ 60 <;> by_cases h3 : 0 ≤ x ∧ x ≤ W <;> by_cases h4 : 0 ≤ y ∧ y ≤ H <;> simp [h1, h2, h3, h4]
theorem beGood_eq (W H x y : Int) (r u : Bool) : spec_beGood.f W H x y r u = some (bg W H x y) := by
  simp only [spec_beGood.f, spec_beTable.f, l1In_eq, Option.bind_some, bg]
  by_cases h1 : 1 ≤ W ∧ W ≤ 60 <;> by_cases h2 : 1 ≤ H ∧ H ≤ 60 <;> by_cases h3 : 0 ≤ x ∧ x ≤ W <;> by_cases h4 : 0 ≤ y ∧ y ≤ H <;> simp [h1, h2, h3, h4]

/-- One coordinate turned inward; on a side; a step. -/
def inw1 (W x : Int) (r : Bool) : Bool := decide (x = 0) || (r && decide (x < W))
def ons (W x : Int) : Bool := decide (x = 0) || decide (x = W)
def sg (b : Bool) : Int := if b = true then 1 else -1
theorem fwInw_is (W H x y : Int) (r u : Bool) : fwInw W H ⟨x, y, r, u⟩ = ⟨x, y, inw1 W x r, inw1 H y u⟩ := by
  have e : impl_inward.f W H x y r u = some (x, y, inw1 W x r, inw1 H y u) := by
    unfold impl_inward.f inw1
    cases r <;> cases u <;> by_cases h1 : x = 0 <;> by_cases h2 : y = 0 <;> simp [h1, h2]
  simp only [fwInw, e]
theorem fwCor_is (W H x y : Int) (r u : Bool) : fwCor W H ⟨x, y, r, u⟩ = (ons W x && ons H y) := by
  have e : impl_isCorner.f W H x y r u = some (ons W x && ons H y) := by
    unfold impl_isCorner.f ons
    by_cases h1 : x = 0 <;> by_cases h2 : y = 0 <;> by_cases h3 : x = W <;> by_cases h4 : y = H <;> simp [h1, h2, h3, h4]
    all_goals first | (intro h; exact absurd h.symm ‹_›) | skip
  simp only [fwCor, e, Option.getD_some]
/-- The side at which it bounces. -/
def sideB (W H x y : Int) : ByteArray := if x = W then ⟨#[114]⟩ else if x = 0 then ⟨#[108]⟩ else if y = H then ⟨#[117]⟩ else if y = 0 then ⟨#[100]⟩ else ⟨#[]⟩
theorem sign_eq (r : Bool) : impl_sign.f r = some (sg r) := by cases r <;> rfl
theorem fwNext_is (W H x y : Int) (r u : Bool) (hx : -1000 ≤ x ∧ x ≤ 1000) (hy : -1000 ≤ y ∧ y ≤ 1000) :
    fwNext W H ⟨x, y, r, u⟩ = if (ons W (x + sg r) && ons H (y + sg u)) = true then (⟨x + sg r, y + sg u, r, u⟩, ⟨#[]⟩)
      else (⟨x + sg r, y + sg u, if x + sg r = W ∨ x + sg r = 0 ∨ y + sg u = H ∨ y + sg u = 0 then inw1 W (x + sg r) r else r, if x + sg r = W ∨ x + sg r = 0 ∨ y + sg u = H ∨ y + sg u = 0 then inw1 H (y + sg u) u else u⟩, sideB W H (x + sg r) (y + sg u)) := by
  have wx : wrap64 (x + sg r) = x + sg r := by cases r <;> exact wrap_id (by simp [sg]; omega) (by simp [sg]; omega)
  have wy : wrap64 (y + sg u) = y + sg u := by cases u <;> exact wrap_id (by simp [sg]; omega) (by simp [sg]; omega)
  have e : impl_next.f W H x y r u = some (if (ons W (x + sg r) && ons H (y + sg u)) = true then (x + sg r, y + sg u, r, u, ⟨#[]⟩)
      else (x + sg r, y + sg u, if x + sg r = W ∨ x + sg r = 0 ∨ y + sg u = H ∨ y + sg u = 0 then inw1 W (x + sg r) r else r, if x + sg r = W ∨ x + sg r = 0 ∨ y + sg u = H ∨ y + sg u = 0 then inw1 H (y + sg u) u else u, sideB W H (x + sg r) (y + sg u))) := by
    unfold impl_next.f
    rw [sign_eq, sign_eq]
    simp only [Option.bind_some, wx, wy, fwCor_eq, fwCor_is, fwInw_eq, fwInw_is, sideB]
    generalize x + sg r = X
    generalize y + sg u = Y
    by_cases c : (ons W X && ons H Y) = true
    · simp [c]
    · simp only [if_neg c]
      by_cases h1 : X = W
      · simp only [if_pos h1, if_pos (show X = W ∨ X = 0 ∨ Y = H ∨ Y = 0 from .inl h1), Option.bind_some]
      · by_cases h2 : X = 0
        · simp only [if_neg h1, if_pos h2, if_pos (show X = W ∨ X = 0 ∨ Y = H ∨ Y = 0 from .inr (.inl h2)), Option.bind_some]
        · by_cases h3 : Y = H
          · simp only [if_neg h1, if_neg h2, if_pos h3, if_pos (show X = W ∨ X = 0 ∨ Y = H ∨ Y = 0 from .inr (.inr (.inl h3))), Option.bind_some]
          · by_cases h4 : Y = 0
            · simp only [if_neg h1, if_neg h2, if_neg h3, if_pos h4, if_pos (show X = W ∨ X = 0 ∨ Y = H ∨ Y = 0 from .inr (.inr (.inr h4))), Option.bind_some]
            · simp only [if_neg h1, if_neg h2, if_neg h3, if_neg h4, if_neg (show ¬ (X = W ∨ X = 0 ∨ Y = H ∨ Y = 0) from fun h => by rcases h with h | h | h | h <;> contradiction), Option.bind_some]
  simp only [fwNext, e]
  split <;> simp_all
theorem fwNext_in (W H x y : Int) (r u : Bool) (hx : -1000 ≤ x ∧ x ≤ 1000) (hy : -1000 ≤ y ∧ y ≤ 1000) (t : OnT W H (x + sg r) (y + sg u)) :
    fwNext W H ⟨x, y, r, u⟩ = if (ons W (x + sg r) && ons H (y + sg u)) = true then (⟨x + sg r, y + sg u, r, u⟩, ⟨#[]⟩)
      else (⟨x + sg r, y + sg u, inw1 W (x + sg r) r, inw1 H (y + sg u) u⟩, sideB W H (x + sg r) (y + sg u)) := by
  rw [fwNext_is W H x y r u hx hy]
  obtain ⟨w1, w2, h1, h2, x1, x2, y1, y2⟩ := t
  generalize x + sg r = X at *
  generalize y + sg u = Y at *
  by_cases c : X = W ∨ X = 0 ∨ Y = H ∨ Y = 0
  · simp only [if_pos c]
  · simp only [if_neg c]
    have a1 : ¬ X = 0 := fun h => c (.inr (.inl h))
    have a2 : X < W := by
      have : ¬ X = W := fun h => c (.inl h)
      omega
    have a3 : ¬ Y = 0 := fun h => c (.inr (.inr (.inr h)))
    have a4 : Y < H := by
      have : ¬ Y = H := fun h => c (.inr (.inr (.inl h)))
      omega
    simp [inw1, a1, a2, a3, a4]
/-- One coordinate that has been turned inward. -/
structure Nm (W x : Int) (r : Bool) : Prop where
  lo : 0 ≤ x
  hi : x ≤ W
  a : x = 0 → r = true
  b : x = W → r = false
theorem nm_inw {W x : Int} (r : Bool) (hW : 1 ≤ W) (h0 : 0 ≤ x) (h1 : x ≤ W) : Nm W x (inw1 W x r) := by
  refine ⟨h0, h1, fun h => by simp [inw1, h], fun h => ?_⟩
  subst h
  have : ¬ x = 0 := by omega
  simp [inw1, this]
theorem nm_step {W x : Int} {r : Bool} (h : Nm W x r) (hW : 1 ≤ W) : 0 ≤ x + sg r ∧ x + sg r ≤ W := by
  obtain ⟨h0, h1, ha, hb⟩ := h
  cases r with
  | true =>
    have : x ≠ W := fun e => by have := hb e; cases this
    simp [sg]; omega
  | false =>
    have : x ≠ 0 := fun e => by have := ha e; cases this
    simp [sg]; omega

theorem beCorner_eq (W H x y : Int) (r u : Bool) : spec_beCorner.f W H x y r u = some (ons W x && ons H y) := by
  unfold spec_beCorner.f ons
  by_cases h1 : x = 0 <;> by_cases h2 : y = 0 <;> by_cases h3 : x = W <;> by_cases h4 : y = H <;> simp [h1, h2, h3, h4]
  all_goals first | (intro h; exact absurd h.symm ‹_›) | skip
theorem beTurn_eq (k : Nat) {W H x y : Int} (r u : Bool) (t : OnT W H x y) : spec_beTurn.f (k + 3) W H x y r u = some (x, y, inw1 W x r, inw1 H y u) := by
  obtain ⟨w1, w2, h1, h2, x1, x2, y1, y2⟩ := t
  have n1 : ¬ W = 0 := by omega
  have n2 : ¬ H = 0 := by omega
  have n3 : ¬ (0 : Int) = W := by omega
  have n4 : ¬ (0 : Int) = H := by omega
  have cx : x = 0 ∨ x = W ∨ (¬ x = 0 ∧ ¬ x = W ∧ x < W) := by omega
  have cy : y = 0 ∨ y = H ∨ (¬ y = 0 ∧ ¬ y = H ∧ y < H) := by omega
  unfold spec_beTurn.f
  simp only [spec_beTurn.j0]
  rcases cx with rfl | rfl | ⟨a1, a2, a3⟩ <;> rcases cy with rfl | rfl | ⟨b1, b2, b3⟩ <;> cases r <;> cases u <;> simp_all [inw1]
theorem beMove_eq (k : Nat) (x y : Int) (r u : Bool) (hx : -1000 ≤ x ∧ x ≤ 1000) (hy : -1000 ≤ y ∧ y ≤ 1000) : spec_beMove.f x y r u = some (x + sg r, y + sg u, r, u) := by
  have e1 : wrap64 (x + 1) = x + 1 := wrap_id (by omega) (by omega)
  have e2 : wrap64 (y + 1) = y + 1 := wrap_id (by omega) (by omega)
  have e3 : wrap64 (x - 1) = x + -1 := by rw [wrap_id (by omega) (by omega)]; omega
  have e4 : wrap64 (y - 1) = y + -1 := by rw [wrap_id (by omega) (by omega)]; omega
  unfold spec_beMove.f
  cases r <;> cases u <;> simp [sg, e1, e2, e3, e4]
theorem beStep_eq (k : Nat) {W H x y : Int} (r u : Bool) (hx : -1000 ≤ x ∧ x ≤ 1000) (hy : -1000 ≤ y ∧ y ≤ 1000) (t : OnT W H (x + sg r) (y + sg u)) :
    spec_beStep.f (k + 3) W H x y r u = some ((fwNext W H ⟨x, y, r, u⟩).1.f0, (fwNext W H ⟨x, y, r, u⟩).1.f1, (fwNext W H ⟨x, y, r, u⟩).1.f2, (fwNext W H ⟨x, y, r, u⟩).1.f3, (fwNext W H ⟨x, y, r, u⟩).2) := by
  unfold spec_beStep.f
  rw [fwNext_in W H x y r u hx hy t, beMove_eq (k + 2) x y r u hx hy]
  simp only [Option.bind_some, beCorner_eq, beTurn_eq k r u t, sideB]
  split
  · rfl
  · split
    · rfl
    · split
      · rfl
      · split
        · rfl
        · split <;> rfl

/-- The beam behind k steps is on the table; it is turned inward unless it is at a corner. -/
theorem way_ok {W H x y : Int} (r u : Bool) (t : OnT W H x y) : ∀ k, (∀ j, 0 < j → j < k → fwCor W H (fwSt W H ⟨x, y, r, u⟩ j).1 = false) →
    OnT W H (fwSt W H ⟨x, y, r, u⟩ k).1.f0 (fwSt W H ⟨x, y, r, u⟩ k).1.f1 ∧ ((k = 0 ∨ fwCor W H (fwSt W H ⟨x, y, r, u⟩ k).1 = false) → Nm W (fwSt W H ⟨x, y, r, u⟩ k).1.f0 (fwSt W H ⟨x, y, r, u⟩ k).1.f2 ∧ Nm H (fwSt W H ⟨x, y, r, u⟩ k).1.f1 (fwSt W H ⟨x, y, r, u⟩ k).1.f3) := by
  intro k
  induction k with
  | zero =>
    intro _
    simp only [fwSt, fwInw_is]
    exact ⟨t, fun _ => ⟨nm_inw r t.w1 t.x1 t.x2, nm_inw u t.h1 t.y1 t.y2⟩⟩
  | succ k ih =>
    intro hc
    have h0 := ih (fun j h1 h2 => hc j h1 (by omega))
    have hn := h0.2 (by
      rcases Nat.eq_zero_or_pos k with h | h
      · exact .inl h
      · exact .inr (hc k h (by omega)))
    obtain ⟨s, hs⟩ : ∃ s, (fwSt W H ⟨x, y, r, u⟩ k).1 = s := ⟨_, rfl⟩
    have e : fwSt W H ⟨x, y, r, u⟩ (k + 1) = fwNext W H s := by rw [← hs]; rfl
    rw [hs] at h0 hn
    rw [e]
    obtain ⟨X, Y, R, U⟩ := s
    have ax := nm_step hn.1 t.w1
    have ay := nm_step hn.2 t.h1
    have tt : OnT W H (X + sg R) (Y + sg U) := ⟨t.w1, t.w2, t.h1, t.h2, ax.1, ax.2, ay.1, ay.2⟩
    have g0 := h0.1
    rw [fwNext_in W H X Y R U (by have := g0.x1; have := g0.x2; have := g0.w2; simp at *; omega) (by have := g0.y1; have := g0.y2; have := g0.h2; simp at *; omega) tt]
    by_cases c : (ons W (X + sg R) && ons H (Y + sg U)) = true
    · rw [if_pos c]
      refine ⟨tt, fun h => ?_⟩
      rcases h with h | h
      · omega
      · rw [fwCor_is, c] at h; cases h
    · rw [if_neg c]
      exact ⟨tt, fun _ => ⟨nm_inw R t.w1 ax.1 ax.2, nm_inw U t.h1 ay.1 ay.2⟩⟩
theorem side_size {W H x y : Int} : (sideB W H x y).size ≤ 1 := by
  unfold sideB
  (repeat' split) <;> decide
/-- The sides of all bounces behind k steps. -/
def sides (W H : Int) (b : S30) : Nat → ByteArray
  | 0 => ⟨#[]⟩
  | k + 1 => sides W H b k ++ (fwSt W H b (k + 1)).2
theorem next_side {W H x y : Int} {r u : Bool} (hx : -1000 ≤ x ∧ x ≤ 1000) (hy : -1000 ≤ y ∧ y ≤ 1000) : (fwNext W H ⟨x, y, r, u⟩).2.size ≤ 1 := by
  rw [fwNext_is W H x y r u hx hy]
  split
  · exact Nat.zero_le _
  · exact side_size
/-- The reference's run is the way up to where it ends. -/
theorem run_l0 {W H x y : Int} (r u : Bool) (t : OnT W H x y) (steps : Int) (N : Nat) (hN : N ≤ 200000) (hgo : ∀ k, k < N → fwGo W H ⟨x, y, r, u⟩ steps (fun _ => false) k) (hend : ¬ fwGo W H ⟨x, y, r, u⟩ steps (fun _ => false) N) (d : Nat) :
    ∀ (k i : Nat), i + d = N → 2 * d + 10 < k → (sides W H ⟨x, y, r, u⟩ i).size ≤ i →
    ∃ sz, spec_beRun.l0 k steps ((List.range (i + 1)).map fun j => (fwSt W H ⟨x, y, r, u⟩ j).1) (sides W H ⟨x, y, r, u⟩ i) i W H = some ((List.range (N + 1)).map (fun j => (fwSt W H ⟨x, y, r, u⟩ j).1), sides W H ⟨x, y, r, u⟩ N) ∧ (sides W H ⟨x, y, r, u⟩ N).size = sz ∧ sz ≤ N := by
  have rdi : ∀ i, rd_T30 ((List.range (i + 1)).map fun j => (fwSt W H ⟨x, y, r, u⟩ j).1) (i : Int) = (fwSt W H ⟨x, y, r, u⟩ i).1 := by
    intro i
    unfold rd_T30
    rw [Int.toNat_natCast, List.getD_eq_getElem?_getD, List.getElem?_map, List.getElem?_range (by omega)]
    rfl
  have okk : ∀ i, i ≤ N → OnT W H (fwSt W H ⟨x, y, r, u⟩ i).1.f0 (fwSt W H ⟨x, y, r, u⟩ i).1.f1 ∧ ((i = 0 ∨ fwCor W H (fwSt W H ⟨x, y, r, u⟩ i).1 = false) → Nm W (fwSt W H ⟨x, y, r, u⟩ i).1.f0 (fwSt W H ⟨x, y, r, u⟩ i).1.f2 ∧ Nm H (fwSt W H ⟨x, y, r, u⟩ i).1.f1 (fwSt W H ⟨x, y, r, u⟩ i).1.f3) := by
    intro i hi
    refine way_ok r u t i (fun j h1 h2 => ?_)
    rcases (hgo j (by omega)).2.2 with h | h
    · omega
    · exact h
  induction d with
  | zero =>
    intro k i hi hk hz
    obtain ⟨k, rfl⟩ : ∃ m, k = m + 2 := ⟨k - 2, by omega⟩
    obtain rfl : i = N := by omega
    refine ⟨_, ?_, rfl, hz⟩
    obtain ⟨o1, o2⟩ := okk i (Nat.le_refl _)
    have hr := rdi i
    obtain ⟨s, hs⟩ : ∃ s, (fwSt W H ⟨x, y, r, u⟩ i).1 = s := ⟨_, rfl⟩
    rw [hs] at hr o1 o2
    unfold fwGo at hend
    rw [hs] at hend
    obtain ⟨X, Y, R, U⟩ := s
    simp only [spec_beRun.l0, spec_beRun.j1]
    by_cases c : (i : Int) < steps
    · have hc : ¬ (i = 0 ∨ fwCor W H ⟨X, Y, R, U⟩ = false) := fun h => hend ⟨rfl, c, h⟩
      have hi0 : ¬ (i : Int) = 0 := fun h => hc (.inl (by omega))
      have hcc : (ons W X && ons H Y) = true := by
        rw [← fwCor_is W H X Y R U]
        cases hq : fwCor W H ⟨X, Y, R, U⟩ with
        | true => rfl
        | false => exact absurd (.inr hq) hc
      rw [if_pos c, if_neg hi0, if_pos (by omega), if_pos (by simp; omega), hr, beCorner_eq, hcc]
      simp
    · rw [if_neg c]
      simp
  | succ d ih =>
    intro k i hi hk hz
    obtain ⟨k, rfl⟩ : ∃ m, k = m + 5 := ⟨k - 5, by omega⟩
    obtain ⟨o1, o2⟩ := okk i (by omega)
    have hr := rdi i
    obtain ⟨_, g1, g2⟩ := hgo i (by omega)
    have g3 := o2 g2
    have hlist : ((List.range (i + 1)).map fun j => (fwSt W H ⟨x, y, r, u⟩ j).1) ++ [(⟨(fwNext W H (fwSt W H ⟨x, y, r, u⟩ i).1).1.f0, (fwNext W H (fwSt W H ⟨x, y, r, u⟩ i).1).1.f1, (fwNext W H (fwSt W H ⟨x, y, r, u⟩ i).1).1.f2, (fwNext W H (fwSt W H ⟨x, y, r, u⟩ i).1).1.f3⟩ : S30)] = (List.range (i + 1 + 1)).map fun j => (fwSt W H ⟨x, y, r, u⟩ j).1 := by
      rw [List.range_succ (n := i + 1), List.map_append]
      rfl
    have hside : sides W H ⟨x, y, r, u⟩ i ++ (fwNext W H (fwSt W H ⟨x, y, r, u⟩ i).1).2 = sides W H ⟨x, y, r, u⟩ (i + 1) := rfl
    have hsz : (fwNext W H (fwSt W H ⟨x, y, r, u⟩ i).1).2.size ≤ 1 := next_side (x := (fwSt W H ⟨x, y, r, u⟩ i).1.f0) (y := (fwSt W H ⟨x, y, r, u⟩ i).1.f1) (r := (fwSt W H ⟨x, y, r, u⟩ i).1.f2) (u := (fwSt W H ⟨x, y, r, u⟩ i).1.f3) (by have := o1.x1; have := o1.x2; have := o1.w2; omega) (by have := o1.y1; have := o1.y2; have := o1.h2; omega)
    have hst : spec_beStep.f (k + 3) W H (fwSt W H ⟨x, y, r, u⟩ i).1.f0 (fwSt W H ⟨x, y, r, u⟩ i).1.f1 (fwSt W H ⟨x, y, r, u⟩ i).1.f2 (fwSt W H ⟨x, y, r, u⟩ i).1.f3 = some ((fwNext W H (fwSt W H ⟨x, y, r, u⟩ i).1).1.f0, (fwNext W H (fwSt W H ⟨x, y, r, u⟩ i).1).1.f1, (fwNext W H (fwSt W H ⟨x, y, r, u⟩ i).1).1.f2, (fwNext W H (fwSt W H ⟨x, y, r, u⟩ i).1).1.f3, (fwNext W H (fwSt W H ⟨x, y, r, u⟩ i).1).2) := by
      have ax := nm_step g3.1 t.w1
      have ay := nm_step g3.2 t.h1
      exact beStep_eq k _ _ (by have := o1.x1; have := o1.x2; have := o1.w2; omega) (by have := o1.y1; have := o1.y2; have := o1.h2; omega) ⟨t.w1, t.w2, t.h1, t.h2, ax.1, ax.2, ay.1, ay.2⟩
    have w1 : wrap64 ((i : Int) + 1) = ((i + 1 : Nat) : Int) := by rw [wrap_id (by omega) (by omega)]; omega
    have s2 : (sides W H ⟨x, y, r, u⟩ (i + 1)).size ≤ i + 1 := by
      rw [← hside, ByteArray.size_append]
      omega
    obtain ⟨sz, e1, e2, e3⟩ := ih (k + 3) (i + 1) (by omega) (by omega) s2
    refine ⟨sz, ?_, e2, e3⟩
    have hl : ((List.range (i + 1)).map fun j => (fwSt W H ⟨x, y, r, u⟩ j).1).length < 5864062014805 := by simp; omega
    have hb : (sides W H ⟨x, y, r, u⟩ i).size + (fwNext W H (fwSt W H ⟨x, y, r, u⟩ i).1).2.size ≤ 9223372036854775807 := by omega
    have hlen : (i : Int) < ((((List.range (i + 1)).map fun j => (fwSt W H ⟨x, y, r, u⟩ j).1).length : Nat) : Int) := by simp; omega
    have hj : spec_beRun.l0 (k + 5) steps ((List.range (i + 1)).map fun j => (fwSt W H ⟨x, y, r, u⟩ j).1) (sides W H ⟨x, y, r, u⟩ i) i W H = spec_beRun.j1 (k + 4) steps ((List.range (i + 1)).map fun j => (fwSt W H ⟨x, y, r, u⟩ j).1) (sides W H ⟨x, y, r, u⟩ i) i true W H := by
      rw [spec_beRun.l0, if_pos g1]
      by_cases c : (i : Int) = 0
      · rw [if_pos c]
      · have g4 : fwCor W H (fwSt W H ⟨x, y, r, u⟩ i).1 = false := by
          rcases g2 with h | h
          · omega
          · exact h
        rw [if_neg c, if_pos (by omega : (0 : Int) ≤ i), if_pos hlen, hr, show spec_beCorner.f W H (fwSt W H ⟨x, y, r, u⟩ i).1.f0 (fwSt W H ⟨x, y, r, u⟩ i).1.f1 (fwSt W H ⟨x, y, r, u⟩ i).1.f2 (fwSt W H ⟨x, y, r, u⟩ i).1.f3 = some (fwCor W H (fwSt W H ⟨x, y, r, u⟩ i).1) by rw [beCorner_eq, ← fwCor_is], g4]
        rfl
    rw [hj, spec_beRun.j1, if_pos rfl, if_pos (by omega : (0 : Int) ≤ i), if_pos hlen, hr, hst]
    simp only [Option.bind_some]
    rw [if_pos hl, if_pos hb, hlist, hside, w1, e1]
theorem run_eq {W H x y : Int} (r u : Bool) (t : OnT W H x y) (steps : Int) (N k : Nat) (hN : N ≤ 200000) (hk : 2 * N + 20 < k) (hgo : ∀ k, k < N → fwGo W H ⟨x, y, r, u⟩ steps (fun _ => false) k) (hend : ¬ fwGo W H ⟨x, y, r, u⟩ steps (fun _ => false) N) :
    spec_beRun.f k W H x y r u steps = some ((List.range (N + 1)).map (fun j => (fwSt W H ⟨x, y, r, u⟩ j).1), sides W H ⟨x, y, r, u⟩ N) ∧ (sides W H ⟨x, y, r, u⟩ N).size ≤ N := by
  obtain ⟨k, rfl⟩ : ∃ m, k = m + 3 := ⟨k - 3, by omega⟩
  obtain ⟨sz, e1, e2, e3⟩ := run_l0 r u t steps N hN hgo hend N (k + 3) 0 (by omega) (by omega) (Nat.le_refl _)
  refine ⟨?_, by omega⟩
  unfold spec_beRun.f
  rw [beTurn_eq k r u t]
  simp only [Option.bind_some]
  have : [(⟨x, y, inw1 W x r, inw1 H y u⟩ : S30)] = (List.range (0 + 1)).map fun j => (fwSt W H ⟨x, y, r, u⟩ j).1 := by simp [fwSt, fwInw_is]
  rw [this]
  exact e1

theorem least_of {P : Nat → Prop} (n : Nat) (h : P n) : ∃ m, m ≤ n ∧ P m ∧ ∀ j, j < m → ¬ P j := by
  induction n using Nat.strongRecOn with
  | ind n ih =>
    by_cases c : ∃ j, j < n ∧ P j
    · obtain ⟨j, hj, hp⟩ := c
      obtain ⟨m, h1, h2, h3⟩ := ih j hj hp
      exact ⟨m, by omega, h2, h3⟩
    · exact ⟨n, Nat.le_refl _, h, fun j hj hp => c ⟨j, hj, hp⟩⟩
/-- The way on, whatever corners there are. -/
def vs (W H : Int) (b : S30) : Nat → S30
  | 0 => ⟨b.f0, b.f1, inw1 W b.f0 b.f2, inw1 H b.f1 b.f3⟩
  | k + 1 => ⟨(vs W H b k).f0 + sg (vs W H b k).f2, (vs W H b k).f1 + sg (vs W H b k).f3, inw1 W ((vs W H b k).f0 + sg (vs W H b k).f2) (vs W H b k).f2, inw1 H ((vs W H b k).f1 + sg (vs W H b k).f3) (vs W H b k).f3⟩
/-- A coordinate on the unfolded way. -/
def co (W x : Int) (r : Bool) : Int := if r = true then x else 2 * W - x
theorem co_step {W x : Int} {r : Bool} (hW : 1 ≤ W) (h : Nm W x r) : co W (x + sg r) (inw1 W (x + sg r) r) = (co W x r + 1) % (2 * W) := by
  obtain ⟨h0, h1, ha, hb⟩ := h
  cases r with
  | true =>
    have hx : x < W := by
      rcases Int.lt_or_le x W with h | h
      · exact h
      · have : x = W := by omega
        have := hb this
        cases this
    have e : sg true = 1 := rfl
    rw [e]
    have n0 : ¬ x + 1 = 0 := by omega
    by_cases hw : x + 1 < W
    · simp [inw1, n0, hw, co]
      rw [Int.emod_eq_of_lt (by omega) (by omega)]
    · have : x + 1 = W := by omega
      simp [inw1, n0, hw, co]
      rw [Int.emod_eq_of_lt (by omega) (by omega)]
      omega
  | false =>
    have hx : 0 < x := by
      rcases Int.lt_or_le 0 x with h | h
      · exact h
      · have : x = 0 := by omega
        have := ha this
        cases this
    have e : sg false = -1 := rfl
    rw [e]
    by_cases h0 : x + -1 = 0
    · have hx1 : x = 1 := by omega
      subst hx1
      simp [inw1, co]
    · simp [inw1, h0, co]
      rw [Int.emod_eq_of_lt (by omega) (by omega)]
      omega
theorem co_range {W x : Int} {r : Bool} (hW : 1 ≤ W) (h : Nm W x r) : 0 ≤ co W x r ∧ co W x r < 2 * W ∧ r = decide (co W x r < W) ∧ x = (if co W x r < W then co W x r else 2 * W - co W x r) := by
  obtain ⟨h0, h1, ha, hb⟩ := h
  cases r with
  | true =>
    have hx : x < W := by
      rcases Int.lt_or_le x W with h | h
      · exact h
      · have := hb (by omega); cases this
    simp [co, hx]
    omega
  | false =>
    have hx : 0 < x := by
      rcases Int.lt_or_le 0 x with h | h
      · exact h
      · have := ha (by omega); cases this
    have : ¬ 2 * W - x < W := by omega
    simp [co, this]
    omega
theorem co_side {W x : Int} {r : Bool} (hW : 1 ≤ W) (h : Nm W x r) : ons W x = decide (co W x r % W = 0) := by
  obtain ⟨h0, h1, ha, hb⟩ := h
  cases r with
  | true =>
    have hx : x < W := by
      rcases Int.lt_or_le x W with h | h
      · exact h
      · have := hb (by omega); cases this
    have n : ¬ x = W := by omega
    simp only [ons, co, if_true, n, decide_false, Bool.or_false]
    rw [Int.emod_eq_of_lt h0 hx]
  | false =>
    have hx : 0 < x := by
      rcases Int.lt_or_le 0 x with h | h
      · exact h
      · have := ha (by omega); cases this
    have n : ¬ x = 0 := by omega
    simp only [ons, co, Bool.false_eq_true, if_false, n, decide_false, Bool.false_or]
    by_cases c : x = W
    · subst c
      simp [show 2 * x - x = x by omega]
    · have : (2 * W - x) % W = W - x := by
        rw [show 2 * W - x = (W - x) + W * 1 by omega, Int.add_mul_emod_self_left]
        exact Int.emod_eq_of_lt (by omega) (by omega)
      rw [this]
      have : ¬ W - x = 0 := by omega
      simp [c, this]
theorem vs_nm {W H x y : Int} (r u : Bool) (t : OnT W H x y) (k : Nat) : Nm W (vs W H ⟨x, y, r, u⟩ k).f0 (vs W H ⟨x, y, r, u⟩ k).f2 ∧ Nm H (vs W H ⟨x, y, r, u⟩ k).f1 (vs W H ⟨x, y, r, u⟩ k).f3 := by
  induction k with
  | zero => exact ⟨nm_inw r t.w1 t.x1 t.x2, nm_inw u t.h1 t.y1 t.y2⟩
  | succ k ih =>
    have ax := nm_step ih.1 t.w1
    have ay := nm_step ih.2 t.h1
    exact ⟨nm_inw _ t.w1 ax.1 ax.2, nm_inw _ t.h1 ay.1 ay.2⟩
theorem vs_co {W H x y : Int} (r u : Bool) (t : OnT W H x y) (k : Nat) :
    co W (vs W H ⟨x, y, r, u⟩ k).f0 (vs W H ⟨x, y, r, u⟩ k).f2 = (co W (vs W H ⟨x, y, r, u⟩ 0).f0 (vs W H ⟨x, y, r, u⟩ 0).f2 + k) % (2 * W) ∧ co H (vs W H ⟨x, y, r, u⟩ k).f1 (vs W H ⟨x, y, r, u⟩ k).f3 = (co H (vs W H ⟨x, y, r, u⟩ 0).f1 (vs W H ⟨x, y, r, u⟩ 0).f3 + k) % (2 * H) := by
  induction k with
  | zero =>
    have h := vs_nm r u t 0
    have cx := co_range t.w1 h.1
    have cy := co_range t.h1 h.2
    simp only [Int.natCast_zero, Int.add_zero]
    rw [Int.emod_eq_of_lt cx.1 cx.2.1, Int.emod_eq_of_lt cy.1 cy.2.1]
    exact ⟨rfl, rfl⟩
  | succ k ih =>
    have h := vs_nm r u t k
    have ex := co_step t.w1 h.1
    have ey := co_step t.h1 h.2
    refine ⟨?_, ?_⟩
    · refine Eq.trans ex ?_
      rw [ih.1, Int.emod_add_emod]
      congr 1
      omega
    · refine Eq.trans ey ?_
      rw [ih.2, Int.emod_add_emod]
      congr 1
      omega
/-- Where it stands on the unfolded way decides whether it is at a corner. -/
theorem vs_cor {W H x y : Int} (r u : Bool) (t : OnT W H x y) (k : Nat) : fwCor W H (vs W H ⟨x, y, r, u⟩ k) = (decide ((co W (vs W H ⟨x, y, r, u⟩ 0).f0 (vs W H ⟨x, y, r, u⟩ 0).f2 + k) % W = 0) && decide ((co H (vs W H ⟨x, y, r, u⟩ 0).f1 (vs W H ⟨x, y, r, u⟩ 0).f3 + k) % H = 0)) := by
  have h := vs_nm r u t k
  have c := vs_co r u t k
  refine Eq.trans (fwCor_is W H _ _ _ _) ?_
  rw [co_side t.w1 h.1, co_side t.h1 h.2, c.1, c.2, Int.emod_emod_of_dvd _ (Int.dvd_mul_left 2 W), Int.emod_emod_of_dvd _ (Int.dvd_mul_left 2 H)]
theorem vs_cor_period {W H x y : Int} (r u : Bool) (t : OnT W H x y) (k q : Nat) : fwCor W H (vs W H ⟨x, y, r, u⟩ (k + q * (W.toNat * H.toNat))) = fwCor W H (vs W H ⟨x, y, r, u⟩ k) := by
  rw [vs_cor r u t, vs_cor r u t]
  have hw : ((W.toNat : Nat) : Int) = W := by have := t.w1; omega
  have hh : ((H.toNat : Nat) : Int) = H := by have := t.h1; omega
  have e1 : ∀ c : Int, (c + ((k + q * (W.toNat * H.toNat) : Nat) : Int)) % W = (c + k) % W := by
    intro c
    have : c + ((k + q * (W.toNat * H.toNat) : Nat) : Int) = (c + k) + W * (q * H) := by
      rw [Int.natCast_add, Int.natCast_mul, Int.natCast_mul, hw, hh, Int.mul_left_comm]
      omega
    rw [this, Int.add_mul_emod_self_left]
  have e2 : ∀ c : Int, (c + ((k + q * (W.toNat * H.toNat) : Nat) : Int)) % H = (c + k) % H := by
    intro c
    have : c + ((k + q * (W.toNat * H.toNat) : Nat) : Int) = (c + k) + H * (q * W) := by
      rw [Int.natCast_add, Int.natCast_mul, Int.natCast_mul, hw, hh, Int.mul_comm W H, Int.mul_left_comm]
      omega
    rw [this, Int.add_mul_emod_self_left]
  rw [e1, e2]
theorem s_ext : ∀ a b : S30, a.f0 = b.f0 → a.f1 = b.f1 → a.f2 = b.f2 → a.f3 = b.f3 → a = b := by
  rintro ⟨_, _, _, _⟩ ⟨_, _, _, _⟩ h1 h2 h3 h4
  dsimp only at h1 h2 h3 h4
  subst h1 h2 h3 h4
  rfl
theorem vs_period {W H x y : Int} (r u : Bool) (t : OnT W H x y) : vs W H ⟨x, y, r, u⟩ (2 * (W.toNat * H.toNat)) = vs W H ⟨x, y, r, u⟩ 0 := by
  have hw : ((W.toNat : Nat) : Int) = W := by have := t.w1; omega
  have hh : ((H.toNat : Nat) : Int) = H := by have := t.h1; omega
  have c := vs_co r u t (2 * (W.toNat * H.toNat))
  have c0 := vs_co r u t 0
  have n := vs_nm r u t (2 * (W.toNat * H.toNat))
  have n0 := vs_nm r u t 0
  have e1 : ((2 * (W.toNat * H.toNat) : Nat) : Int) = (2 * W) * H := by rw [Int.natCast_mul, Int.natCast_mul, hw, hh, Int.mul_assoc]; rfl
  have e2 : ((2 * (W.toNat * H.toNat) : Nat) : Int) = (2 * H) * W := by rw [e1, Int.mul_assoc, Int.mul_assoc, Int.mul_comm W H]
  have f1 : co W (vs W H ⟨x, y, r, u⟩ (2 * (W.toNat * H.toNat))).f0 (vs W H ⟨x, y, r, u⟩ (2 * (W.toNat * H.toNat))).f2 = co W (vs W H ⟨x, y, r, u⟩ 0).f0 (vs W H ⟨x, y, r, u⟩ 0).f2 := by
    rw [c.1, e1, Int.add_mul_emod_self_left]
    have := co_range t.w1 n0.1
    exact Int.emod_eq_of_lt this.1 this.2.1
  have f2 : co H (vs W H ⟨x, y, r, u⟩ (2 * (W.toNat * H.toNat))).f1 (vs W H ⟨x, y, r, u⟩ (2 * (W.toNat * H.toNat))).f3 = co H (vs W H ⟨x, y, r, u⟩ 0).f1 (vs W H ⟨x, y, r, u⟩ 0).f3 := by
    rw [c.2, e2, Int.add_mul_emod_self_left]
    have := co_range t.h1 n0.2
    exact Int.emod_eq_of_lt this.1 this.2.1
  have g1 := co_range t.w1 n.1
  have g2 := co_range t.h1 n.2
  have k1 := co_range t.w1 n0.1
  have k2 := co_range t.h1 n0.2
  have a1 : (vs W H ⟨x, y, r, u⟩ (2 * (W.toNat * H.toNat))).f0 = (vs W H ⟨x, y, r, u⟩ 0).f0 := by rw [g1.2.2.2, k1.2.2.2, f1]
  have a2 : (vs W H ⟨x, y, r, u⟩ (2 * (W.toNat * H.toNat))).f2 = (vs W H ⟨x, y, r, u⟩ 0).f2 := by rw [g1.2.2.1, k1.2.2.1, f1]
  have a3 : (vs W H ⟨x, y, r, u⟩ (2 * (W.toNat * H.toNat))).f1 = (vs W H ⟨x, y, r, u⟩ 0).f1 := by rw [g2.2.2.2, k2.2.2.2, f2]
  have a4 : (vs W H ⟨x, y, r, u⟩ (2 * (W.toNat * H.toNat))).f3 = (vs W H ⟨x, y, r, u⟩ 0).f3 := by rw [g2.2.2.1, k2.2.2.1, f2]
  exact s_ext _ _ a1 a3 a2 a4
/-- As long as there was no corner, the way is the way on. -/
theorem st_vs {W H x y : Int} (r u : Bool) (t : OnT W H x y) : ∀ k, (∀ j, 0 < j → j < k → fwCor W H (vs W H ⟨x, y, r, u⟩ j) = false) →
    (fwSt W H ⟨x, y, r, u⟩ k).1.f0 = (vs W H ⟨x, y, r, u⟩ k).f0 ∧ (fwSt W H ⟨x, y, r, u⟩ k).1.f1 = (vs W H ⟨x, y, r, u⟩ k).f1 ∧ fwCor W H (fwSt W H ⟨x, y, r, u⟩ k).1 = fwCor W H (vs W H ⟨x, y, r, u⟩ k) ∧ ((k = 0 ∨ fwCor W H (vs W H ⟨x, y, r, u⟩ k) = false) → (fwSt W H ⟨x, y, r, u⟩ k).1 = vs W H ⟨x, y, r, u⟩ k) := by
  intro k
  induction k with
  | zero =>
    intro _
    have e : (fwSt W H ⟨x, y, r, u⟩ 0).1 = vs W H ⟨x, y, r, u⟩ 0 := by simp [fwSt, fwInw_is, vs]
    rw [e]
    exact ⟨rfl, rfl, rfl, fun _ => rfl⟩
  | succ k ih =>
    intro hc
    have h0 := ih (fun j h1 h2 => hc j h1 (by omega))
    have hk : (fwSt W H ⟨x, y, r, u⟩ k).1 = vs W H ⟨x, y, r, u⟩ k := h0.2.2.2 (by
      rcases Nat.eq_zero_or_pos k with h | h
      · exact .inl h
      · exact .inr (hc k h (by omega)))
    have hn := vs_nm r u t k
    have ax := nm_step hn.1 t.w1
    have ay := nm_step hn.2 t.h1
    have bx := hn.1
    have by_ := hn.2
    have e : (fwSt W H ⟨x, y, r, u⟩ (k + 1)).1 = (fwNext W H (vs W H ⟨x, y, r, u⟩ k)).1 := by rw [← hk]; rfl
    have e2 : vs W H ⟨x, y, r, u⟩ (k + 1) = ⟨(vs W H ⟨x, y, r, u⟩ k).f0 + sg (vs W H ⟨x, y, r, u⟩ k).f2, (vs W H ⟨x, y, r, u⟩ k).f1 + sg (vs W H ⟨x, y, r, u⟩ k).f3, inw1 W ((vs W H ⟨x, y, r, u⟩ k).f0 + sg (vs W H ⟨x, y, r, u⟩ k).f2) (vs W H ⟨x, y, r, u⟩ k).f2, inw1 H ((vs W H ⟨x, y, r, u⟩ k).f1 + sg (vs W H ⟨x, y, r, u⟩ k).f3) (vs W H ⟨x, y, r, u⟩ k).f3⟩ := rfl
    rw [e, e2]
    clear e e2 hk h0 ih hc hn
    generalize vs W H ⟨x, y, r, u⟩ k = s at ax ay bx by_ ⊢
    obtain ⟨X, Y, R, U⟩ := s
    dsimp only at ax ay bx by_ ⊢
    have tt : OnT W H (X + sg R) (Y + sg U) := ⟨t.w1, t.w2, t.h1, t.h2, ax.1, ax.2, ay.1, ay.2⟩
    rw [fwNext_in W H X Y R U (by have := bx.lo; have := bx.hi; have := t.w2; omega) (by have := by_.lo; have := by_.hi; have := t.h2; omega) tt]
    by_cases c : (ons W (X + sg R) && ons H (Y + sg U)) = true
    · rw [if_pos c]
      refine ⟨rfl, rfl, by simp only [fwCor_is], fun h => ?_⟩
      rcases h with h | h
      · omega
      · rw [fwCor_is, c] at h; cases h
    · rw [if_neg c]
      exact ⟨rfl, rfl, rfl, fun _ => rfl⟩

theorem nocor_upto {W H x y : Int} (r u : Bool) (t : OnT W H x y) (L : Nat) (h : ∀ j, 0 < j → j ≤ L → fwCor W H (fwSt W H ⟨x, y, r, u⟩ j).1 = false) : ∀ k, k ≤ L → ∀ j, 0 < j → j ≤ k → fwCor W H (vs W H ⟨x, y, r, u⟩ j) = false := by
  intro k
  induction k with
  | zero => intro _ j h1 h2; omega
  | succ k ih =>
    intro hk j h1 h2
    rcases Nat.lt_or_ge k j with c | c
    · obtain rfl : j = k + 1 := by omega
      rw [← (st_vs r u t (k + 1) (fun j a b => ih (by omega) j a (by omega))).2.2.1]
      exact h (k + 1) h1 hk
    · exact ih (by omega) j h1 c
theorem nocor_all {W H x y : Int} (r u : Bool) (t : OnT W H x y) (h : ∀ j, 0 < j → j ≤ W.toNat * H.toNat → fwCor W H (vs W H ⟨x, y, r, u⟩ j) = false) (k : Nat) (hk : 0 < k) : fwCor W H (vs W H ⟨x, y, r, u⟩ k) = false := by
  have hn : 0 < W.toNat * H.toNat := Nat.mul_pos (by have := t.w1; omega) (by have := t.h1; omega)
  have e : k = ((k - 1) % (W.toNat * H.toNat) + 1) + ((k - 1) / (W.toNat * H.toNat)) * (W.toNat * H.toNat) := by
    have := Nat.mod_add_div' (k - 1) (W.toNat * H.toNat)
    omega
  have hm := Nat.mod_lt (k - 1) hn
  rw [e, vs_cor_period r u t]
  exact h _ (by omega) (by omega)
theorem st_all {W H x y : Int} (r u : Bool) (t : OnT W H x y) (h : ∀ j, 0 < j → fwCor W H (vs W H ⟨x, y, r, u⟩ j) = false) (k : Nat) : (fwSt W H ⟨x, y, r, u⟩ k).1 = vs W H ⟨x, y, r, u⟩ k := by
  refine (st_vs r u t k (fun j h1 _ => h j h1)).2.2.2 ?_
  rcases Nat.eq_zero_or_pos k with c | c
  · exact .inl c
  · exact .inr (h k c)
theorem vs_shift {W H : Int} {b : S30} {p : Nat} (hp : vs W H b p = vs W H b 0) : ∀ k, vs W H b (k + p) = vs W H b k := by
  intro k
  induction k with
  | zero => rw [Nat.zero_add]; exact hp
  | succ k ih =>
    rw [show k + 1 + p = (k + p) + 1 by omega]
    simp only [vs, ih]
theorem vs_mod {W H : Int} {b : S30} {p : Nat} (hp : vs W H b p = vs W H b 0) (k : Nat) : vs W H b k = vs W H b (k % p) := by
  have h : ∀ q, vs W H b (k % p + q * p) = vs W H b (k % p) := by
    intro q
    induction q with
    | zero => simp
    | succ q ih => rw [Nat.succ_mul, ← Nat.add_assoc, vs_shift hp, ih]
  have e := Nat.mod_add_div' k p
  have := h (k / p)
  rw [e] at this
  exact this
theorem go_unique {go : Nat → Prop} {N M : Nat} (a : ∀ j, j < N → go j) (b : ¬ go N) (c : ∀ j, j < M → go j) (d : ¬ go M) : N = M := by
  rcases Nat.lt_trichotomy N M with h | h | h
  · exact absurd (c N h) b
  · exact h
  · exact absurd (a M h) d
theorem rd_run (st : Nat → S30) (N i : Nat) (h : i ≤ N) : rd_T30 ((List.range (N + 1)).map st) (i : Int) = st i := by
  unfold rd_T30
  rw [Int.toNat_natCast, List.getD_eq_getElem?_getD, List.getElem?_map, List.getElem?_range (by omega)]
  rfl

theorem area {W H x y : Int} (t : OnT W H x y) : ((W.toNat * H.toNat : Nat) : Int) = W * H ∧ W * H ≤ 3600 ∧ 1 ≤ W * H := by
  have hw : ((W.toNat : Nat) : Int) = W := by have := t.w1; omega
  have hh : ((H.toNat : Nat) : Int) = H := by have := t.h1; omega
  have h1 : W.toNat * H.toNat ≤ 60 * 60 := Nat.mul_le_mul (by have := t.w2; omega) (by have := t.h2; omega)
  have h2 : 0 < W.toNat * H.toNat := Nat.mul_pos (by have := t.w1; omega) (by have := t.h1; omega)
  have e : ((W.toNat * H.toNat : Nat) : Int) = W * H := by rw [Int.natCast_mul, hw, hh]
  exact ⟨e, by omega, by omega⟩
theorem beLong_eq {W H x y : Int} (t : OnT W H x y) : spec_beLong.f W H = some (4 * (W * H) + 1) := by
  have a := area t
  have w := t.w1
  have w2 := t.w2
  unfold spec_beLong.f
  rw [wrap_id (n := 4 * W) (by omega) (by omega), Int.mul_assoc, wrap_id (n := 4 * (W * H)) (by omega) (by omega), wrap_id (by omega) (by omega)]

theorem ne_bool : ∀ p q : S30, p ≠ q → (!(p.f0 == q.f0) || (!(p.f1 == q.f1) || (!(p.f2 == q.f2) || (!(p.f3 == q.f3))))) = true := by
  rintro ⟨a, b, c, f⟩ ⟨a', b', c', f'⟩ h
  by_cases h1 : a = a' <;> by_cases h2 : b = b' <;> by_cases h3 : c = c' <;> by_cases h4 : f = f' <;> simp_all
theorem period_l0 (st : Nat → S30) (N p : Nat) (hp : st p = st 0) (hpN : p ≤ N) (hN : N ≤ 200000) (hmin : ∀ j, 0 < j → j < p → st j ≠ st 0) (d : Nat) : ∀ k i, i + d = p → 0 < i → d < k → spec_bePeriod.l0 k ((List.range (N + 1)).map st) i = some (p : Int) := by
  have r0 : rd_T30 ((List.range (N + 1)).map st) 0 = st 0 := rd_run st N 0 (by omega)
  induction d with
  | zero =>
    intro k i hi h0 hk
    obtain ⟨k, rfl⟩ : ∃ m, k = m + 1 := ⟨k - 1, by omega⟩
    obtain rfl : i = p := by omega
    rw [spec_bePeriod.l0, if_pos (by omega : (0 : Int) ≤ i), if_pos (by rw [List.length_map, List.length_range]; omega), if_pos (by rw [List.length_map, List.length_range]; omega), rd_run st N i (by omega), r0, hp]
    simp
  | succ d ih =>
    intro k i hi h0 hk
    obtain ⟨k, rfl⟩ : ∃ m, k = m + 1 := ⟨k - 1, by omega⟩
    have e : wrap64 ((i : Int) + 1) = ((i + 1 : Nat) : Int) := by rw [wrap_id (by omega) (by omega)]; omega
    have hne := hmin i h0 (by omega)
    have hb : (!((st i).f0 == (st 0).f0) || (!((st i).f1 == (st 0).f1) || (!((st i).f2 == (st 0).f2) || (!((st i).f3 == (st 0).f3))))) = true := ne_bool _ _ hne
    rw [spec_bePeriod.l0, if_pos (by omega : (0 : Int) ≤ i), if_pos (by rw [List.length_map, List.length_range]; omega), if_pos (by rw [List.length_map, List.length_range]; omega), rd_run st N i (by omega), r0, if_pos hb, e]
    exact ih k (i + 1) (by omega) (by omega) (by omega)
/-- Where there is no corner, there is a least number of steps behind which it is as at first. -/
theorem period_some {W H x y : Int} (r u : Bool) (t : OnT W H x y) : ∃ p, 0 < p ∧ p ≤ 2 * (W.toNat * H.toNat) ∧ vs W H ⟨x, y, r, u⟩ p = vs W H ⟨x, y, r, u⟩ 0 ∧ ∀ j, 0 < j → j < p → vs W H ⟨x, y, r, u⟩ j ≠ vs W H ⟨x, y, r, u⟩ 0 := by
  have hn : 0 < W.toNat * H.toNat := Nat.mul_pos (by have := t.w1; omega) (by have := t.h1; omega)
  obtain ⟨m, h1, h2, h3⟩ := least_of (P := fun p => 0 < p ∧ vs W H ⟨x, y, r, u⟩ p = vs W H ⟨x, y, r, u⟩ 0) (2 * (W.toNat * H.toNat)) ⟨by omega, vs_period r u t⟩
  exact ⟨m, h2.1, h1, h2.2, fun j a b c => h3 j b ⟨a, c⟩⟩

theorem fwSides_is (W H : Int) (b : S30) : ∀ k, fwSides W H b k = sides W H b k := by
  intro k
  induction k with
  | zero => exact ByteArray.empty_append
  | succ k ih => simp only [fwSides, sides, ih]
/-- The reference's way to a corner is the program's. -/
theorem corn_eq (k : Nat) (hk : 100000 ≤ k) {W H x y : Int} (r u : Bool) (t : OnT W H x y) : ∃ M, M ≤ 14401 ∧
    spec_beEnd.f k W H x y r u = some ((List.range (M + 1)).map (fun j => (fwSt W H ⟨x, y, r, u⟩ j).1), sides W H ⟨x, y, r, u⟩ M, fwStop W H ⟨x, y, r, u⟩ (fwCornN W H ⟨x, y, r, u⟩)) ∧
    (fwStop W H ⟨x, y, r, u⟩ (fwCornN W H ⟨x, y, r, u⟩) = true → M = fwCornN W H ⟨x, y, r, u⟩ ∧ 0 < M ∧ fwCor W H (fwSt W H ⟨x, y, r, u⟩ M).1 = true) ∧
    (fwStop W H ⟨x, y, r, u⟩ (fwCornN W H ⟨x, y, r, u⟩) = false → (M : Int) = 4 * (W * H) + 1 ∧ ∀ j, 0 < j → fwCor W H (vs W H ⟨x, y, r, u⟩ j) = false) ∧
    (∀ j, 0 < j → j < M → fwCor W H (fwSt W H ⟨x, y, r, u⟩ j).1 = false) := by
  have a := area t
  have hw : ((W.toNat : Nat) : Int) = W := by have := t.w1; omega
  have hh : ((H.toNat : Nat) : Int) = H := by have := t.h1; omega
  obtain ⟨m1, m2, m3⟩ := fwN_is W H ⟨x, y, r, u⟩ (4 * (W * H) + 1) (fun _ => false) (by omega)
  obtain ⟨n1, n2, n3⟩ := fwN_is W H ⟨x, y, r, u⟩ (2 * W * H) (fwStop W H ⟨x, y, r, u⟩) (by rw [Int.mul_assoc]; omega)
  unfold fwCornN
  rw [Int.mul_assoc] at n1 n2 n3 ⊢
  generalize fwN W H ⟨x, y, r, u⟩ (4 * (W * H) + 1) (fun _ => false) = M at m1 m2 m3
  generalize fwN W H ⟨x, y, r, u⟩ (2 * (W * H)) (fwStop W H ⟨x, y, r, u⟩) = N at n1 n2 n3 ⊢
  obtain ⟨e1, _⟩ := run_eq r u t (4 * (W * H) + 1) M k (by omega) (by omega) m3 m2
  have hb : spec_beEnd.f k W H x y r u = some ((List.range (M + 1)).map (fun j => (fwSt W H ⟨x, y, r, u⟩ j).1), sides W H ⟨x, y, r, u⟩ M, fwCor W H (fwSt W H ⟨x, y, r, u⟩ M).1) := by
    have hl : (((List.range (M + 1)).map fun j => (fwSt W H ⟨x, y, r, u⟩ j).1).length : Int) = M + 1 := by simp
    have w1 : wrap64 (((List.range (M + 1)).map fun j => (fwSt W H ⟨x, y, r, u⟩ j).1).length - 1 : Int) = (M : Int) := by rw [hl, wrap_id (by omega) (by omega)]; omega
    have hr := rd_run (fun j => (fwSt W H ⟨x, y, r, u⟩ j).1) M
    unfold spec_beEnd.f
    rw [beLong_eq t]
    simp only [Option.bind_some, e1, w1]
    rw [if_pos (by omega : (0 : Int) ≤ M), if_pos (by omega : (M : Int) < _), hr M (Nat.le_refl _), beCorner_eq, ← fwCor_is W H _ _ (fwSt W H ⟨x, y, r, u⟩ M).1.f2 (fwSt W H ⟨x, y, r, u⟩ M).1.f3]
    rfl
  have mc : ∀ j, 0 < j → j < M → fwCor W H (fwSt W H ⟨x, y, r, u⟩ j).1 = false := by
    intro j j0 j1
    rcases (m3 j j1).2.2 with h | h
    · omega
    · exact h
  cases hs : fwStop W H ⟨x, y, r, u⟩ N with
  | true =>
    have hN0 : 0 < N ∧ fwCor W H (fwSt W H ⟨x, y, r, u⟩ N).1 = true := by
      unfold fwStop at hs
      rw [Bool.and_eq_true, decide_eq_true_eq] at hs
      exact hs
    have hMN : M = N := by
      refine go_unique m3 m2 (fun j hj => ?_) (fun h => ?_)
      · have := n3 j hj
        exact ⟨rfl, by have := this.2.1; omega, this.2.2⟩
      · rcases h.2.2 with h | h
        · omega
        · rw [hN0.2] at h; cases h
    subst hMN
    exact ⟨M, by omega, by rw [hb, hN0.2], fun _ => ⟨rfl, hN0⟩, fun h => by (cases h), mc⟩
  | false =>
    have c : N = 0 ∨ fwCor W H (fwSt W H ⟨x, y, r, u⟩ N).1 = false := by
      rcases Nat.eq_zero_or_pos N with h | h
      · exact .inl h
      · refine .inr ?_
        unfold fwStop at hs
        rw [decide_eq_true h] at hs
        simpa using hs
    have hN : (N : Int) = 2 * (W * H) := by
      apply Classical.byContradiction
      intro hne
      exact n2 ⟨hs, by omega, c⟩
    have nc : ∀ j, 0 < j → j ≤ N → fwCor W H (fwSt W H ⟨x, y, r, u⟩ j).1 = false := by
      intro i i0 i1
      rcases Nat.lt_or_ge i N with h | h
      · rcases (n3 i h).2.2 with g | g
        · omega
        · exact g
      · obtain rfl : i = N := by omega
        rcases c with h | h
        · omega
        · exact h
    have nv := nocor_all r u t (fun j j0 j1 => nocor_upto r u t N nc N (Nat.le_refl _) j j0 (by omega))
    have sv := st_all r u t nv
    have hM : (M : Int) = 4 * (W * H) + 1 := by
      apply Classical.byContradiction
      intro hne
      refine m2 ⟨rfl, by omega, ?_⟩
      rcases Nat.eq_zero_or_pos M with h | h
      · exact .inl h
      · exact .inr (by rw [sv]; exact nv M h)
    refine ⟨M, by omega, ?_, fun h => by (cases h), fun _ => ⟨hM, nv⟩, mc⟩
    rw [hb, sv, nv M (by omega)]

/-! places that are passed, each once -/
theorem vsOk_of {W H x y : Int} (t : OnT W H x y) : VsOk W H x y := ⟨⟨⟨t.w1, t.w2⟩, t.h1, t.h2⟩, ⟨t.x1, t.x2⟩, t.y1, t.y2⟩
/-- A place's number, row by row. -/
def ix (H : Int) (q : Int × Int) : Nat := (q.1 * (H + 1) + q.2).toNat
def On (W H : Int) (q : Int × Int) : Prop := (0 ≤ q.1 ∧ q.1 ≤ W) ∧ 0 ≤ q.2 ∧ q.2 ≤ H
theorem ix_ge {W H : Int} {q : Int × Int} (hH : 1 ≤ H) (h : On W H q) : 0 ≤ q.1 * (H + 1) := Int.mul_nonneg h.1.1 (by omega)
theorem ix_lt {W H : Int} {q : Int × Int} (hH : 1 ≤ H) (h : On W H q) : ix H q < ((W + 1) * (H + 1)).toNat := by
  have a := ix_ge hH h
  have b : q.1 * (H + 1) ≤ W * (H + 1) := Int.mul_le_mul_of_nonneg_right h.1.2 (by omega)
  have c : (W + 1) * (H + 1) = W * (H + 1) + (H + 1) := by rw [Int.add_mul, Int.one_mul]
  have := h.2.2
  have := h.2.1
  unfold ix
  omega
theorem row_le {H p q : Int} (hH : 1 ≤ H) (h : p < q) : p * (H + 1) + (H + 1) ≤ q * (H + 1) := by
  have := Int.mul_le_mul_of_nonneg_right (show p + 1 ≤ q by omega) (show 0 ≤ H + 1 by omega)
  rw [Int.add_mul, Int.one_mul] at this
  exact this
theorem ix_inj {W H : Int} {p q : Int × Int} (hH : 1 ≤ H) (hp : On W H p) (hq : On W H q) (h : ix H p = ix H q) : p = q := by
  have a := ix_ge hH hp
  have b := ix_ge hH hq
  have := hp.2.1; have := hp.2.2; have := hq.2.1; have := hq.2.2
  unfold ix at h
  have e : p.1 * (H + 1) + p.2 = q.1 * (H + 1) + q.2 := by omega
  rcases Int.lt_trichotomy p.1 q.1 with c | c | c
  · have := row_le hH c
    omega
  · refine Prod.ext c ?_
    rw [c] at e
    omega
  · have := row_le hH c
    omega
def cntI (H : Int) (f : Nat → Int × Int) (j : Nat) : Nat → Nat
  | 0 => 0
  | k + 1 => cntI H f j k + (if ix H (f k) = j then 1 else 0)
theorem cntI_le (H : Int) (f : Nat → Int × Int) (j : Nat) : ∀ k, cntI H f j k ≤ k
  | 0 => Nat.le_refl _
  | k + 1 => by
    have := cntI_le H f j k
    simp only [cntI]
    split <;> omega
theorem cntI_pos {H : Int} {f : Nat → Int × Int} {j : Nat} : ∀ {k}, 0 < cntI H f j k ↔ ∃ m, m < k ∧ ix H (f m) = j
  | 0 => by simp [cntI]
  | k + 1 => by
    have ih := cntI_pos (H := H) (f := f) (j := j) (k := k)
    simp only [cntI]
    constructor
    · intro h
      by_cases c : ix H (f k) = j
      · exact ⟨k, by omega, c⟩
      · rw [if_neg c] at h
        obtain ⟨m, h1, h2⟩ := ih.1 (by omega)
        exact ⟨m, by omega, h2⟩
    · rintro ⟨m, h1, h2⟩
      rcases Nat.lt_or_ge m k with c | c
      · have := ih.2 ⟨m, c, h2⟩
        omega
      · obtain rfl : m = k := by omega
        rw [if_pos h2]
        omega
def tl (H : Int) (f : Nat → Int × Int) (n k : Nat) : List Int := (List.range n).map (fun j => ((cntI H f j k : Nat) : Int))
theorem tl_len (H : Int) (f : Nat → Int × Int) (n k : Nat) : (tl H f n k).length = n := by simp [tl]
theorem tl_rd (H : Int) (f : Nat → Int × Int) {n k j : Nat} (hj : j < n) : rd (tl H f n k) (j : Int) = ((cntI H f j k : Nat) : Int) := by
  show (tl H f n k).getD j 0 = _
  unfold tl
  rw [List.getD_eq_getElem?_getD, List.getElem?_map, List.getElem?_range hj]
  rfl
theorem tl_zero (H : Int) (f : Nat → Int × Int) (n : Nat) : tl H f n 0 = List.replicate n 0 := by
  unfold tl
  refine List.ext_getElem (by simp) (fun j h1 h2 => ?_)
  simp [cntI]
theorem tl_step (H : Int) (f : Nat → Int × Int) {n k : Nat} (hi : ix H (f k) < n) : (tl H f n k).set (ix H (f k)) (rd (tl H f n k) ((ix H (f k) : Nat) : Int) + 1) = tl H f n (k + 1) := by
  rw [tl_rd H f hi]
  refine List.ext_getElem (by simp [tl]) (fun j h1 h2 => ?_)
  rw [List.getElem_set]
  have hj : j < n := by simpa [tl] using h2
  by_cases c : ix H (f k) = j
  · rw [if_pos c]
    subst c
    simp [tl, cntI]
  · rw [if_neg c]
    simp [tl, cntI, c]
theorem times_l0 {W H : Int} (hW : 1 ≤ W ∧ W ≤ 60) (hH : 1 ≤ H ∧ H ≤ 60) (st : Nat → S30) (M : Nat) (hM : M ≤ 200000) (hon : ∀ k, k ≤ M → On W H ((st k).f0, (st k).f1)) (d : Nat) : ∀ (k i : Nat), i + d = M + 1 → d < k →
    spec_beTimes.l0 k (tl H (fun k => ((st k).f0, (st k).f1)) ((W + 1) * (H + 1)).toNat i) ((List.range (M + 1)).map st) ((List.range (M + 1)).map st).length i W H = some (tl H (fun k => ((st k).f0, (st k).f1)) ((W + 1) * (H + 1)).toNat (M + 1)) := by
  have hl : (((List.range (M + 1)).map st).length : Int) = M + 1 := by simp
  induction d with
  | zero =>
    intro k i hi hk
    obtain ⟨k, rfl⟩ : ∃ m, k = m + 1 := ⟨k - 1, by omega⟩
    obtain rfl : i = M + 1 := by omega
    simp only [spec_beTimes.l0]
    rw [if_neg (by omega)]
  | succ d ih =>
    intro k i hi hk
    obtain ⟨k, rfl⟩ : ∃ m, k = m + 1 := ⟨k - 1, by omega⟩
    have e : wrap64 ((i : Int) + 1) = ((i + 1 : Nat) : Int) := by rw [wrap_id (by omega) (by omega)]; omega
    have o := hon i (by omega)
    have o1 : 0 ≤ (st i).f1 := o.2.1
    have o2 : (st i).f1 ≤ H := o.2.2
    have a : 0 ≤ (st i).f0 * (H + 1) := ix_ge hH.1 o
    have b : ix H ((st i).f0, (st i).f1) < ((W + 1) * (H + 1)).toNat := ix_lt hH.1 o
    have hb : (W + 1) * (H + 1) ≤ 61 * 61 := Int.mul_le_mul (by omega) (by omega) (by omega) (by omega)
    have e2 : ((ix H ((st i).f0, (st i).f1) : Nat) : Int) = (st i).f0 * (H + 1) + (st i).f1 := by
      show ((((st i).f0 * (H + 1) + (st i).f1).toNat : Nat) : Int) = _
      omega
    have w1 : wrap64 (H + 1) = H + 1 := wrap_id (by omega) (by omega)
    have w2 : wrap64 ((st i).f0 * (H + 1)) = (st i).f0 * (H + 1) := wrap_id (by omega) (by omega)
    have w3 : wrap64 ((st i).f0 * (H + 1) + (st i).f1) = ((ix H ((st i).f0, (st i).f1) : Nat) : Int) := by rw [← e2, wrap_id (by omega) (by omega)]
    have hlt := tl_len H (fun k => ((st k).f0, (st k).f1)) ((W + 1) * (H + 1)).toNat i
    have hc := cntI_le H (fun k => ((st k).f0, (st k).f1)) (ix H ((st i).f0, (st i).f1)) i
    have ht : rd (tl H (fun k => ((st k).f0, (st k).f1)) ((W + 1) * (H + 1)).toNat i) ((ix H ((st i).f0, (st i).f1) : Nat) : Int) = ((cntI H (fun k => ((st k).f0, (st k).f1)) (ix H ((st i).f0, (st i).f1)) i : Nat) : Int) := tl_rd H (fun k => ((st k).f0, (st k).f1)) (k := i) b
    have hs : (tl H (fun k => ((st k).f0, (st k).f1)) ((W + 1) * (H + 1)).toNat i).set (ix H ((st i).f0, (st i).f1)) (rd (tl H (fun k => ((st k).f0, (st k).f1)) ((W + 1) * (H + 1)).toNat i) ((ix H ((st i).f0, (st i).f1) : Nat) : Int) + 1) = tl H (fun k => ((st k).f0, (st k).f1)) ((W + 1) * (H + 1)).toNat (i + 1) := tl_step H (fun k => ((st k).f0, (st k).f1)) (k := i) b
    simp only [spec_beTimes.l0]
    rw [if_pos (by omega), if_pos (by omega), if_pos (by omega), rd_run st M i (by omega), w1, w2, w3, if_pos (by omega), if_pos (by omega), ht, wrap_id (by omega) (by omega), ← ht, Int.toNat_natCast, e]
    rw [hs]
    exact ih k (i + 1) (by omega) (by omega)
theorem times_eq {W H : Int} (hW : 1 ≤ W ∧ W ≤ 60) (hH : 1 ≤ H ∧ H ≤ 60) (st : Nat → S30) (M : Nat) (hM : M ≤ 200000) (hon : ∀ k, k ≤ M → On W H ((st k).f0, (st k).f1)) (k : Nat) (hk : M + 2 ≤ k) :
    spec_beTimes.f k W H ((List.range (M + 1)).map st) = some (tl H (fun k => ((st k).f0, (st k).f1)) ((W + 1) * (H + 1)).toNat (M + 1)) := by
  have hb : (W + 1) * (H + 1) ≤ 61 * 61 := Int.mul_le_mul (by omega) (by omega) (by omega) (by omega)
  have h0 : 0 ≤ (W + 1) * (H + 1) := Int.mul_nonneg (by omega) (by omega)
  unfold spec_beTimes.f
  rw [wrap_id (n := W + 1) (by omega) (by omega), wrap_id (n := H + 1) (by omega) (by omega), wrap_id (n := (W + 1) * (H + 1)) (by omega) (by omega), if_pos h0, if_pos (by omega)]
  have := times_l0 hW hH st M hM hon (M + 1) k 0 (by omega) (by omega)
  rw [tl_zero] at this
  exact this
theorem countP_add {p q : Nat → Bool} {a : Nat} (hpa : p a = false) (h : ∀ j, j ≠ a → q j = p j) : ∀ n, a < n → (List.range n).countP q = (List.range n).countP p + (if q a = true then 1 else 0)
  | 0, ha => by omega
  | n + 1, ha => by
    rw [List.range_succ, List.countP_append, List.countP_append]
    rcases Nat.lt_or_ge a n with c | c
    · rw [countP_add hpa h n c]
      have : [n].countP q = [n].countP p := by simp [List.countP_singleton, h n (by omega)]
      omega
    · obtain rfl : a = n := by omega
      have e : (List.range a).countP q = (List.range a).countP p := List.countP_congr (fun j hj => by rw [h j (by have := List.mem_range.1 hj; omega)])
      rw [e]
      simp [List.countP_singleton, hpa]
theorem set_mem (W H : Int) (b : S30) (q : Int × Int) : ∀ k, q ∈ vsSet W H b k ↔ ∃ m, m < k ∧ vsPt W H b m = q
  | 0 => by simp [vsSet]
  | k + 1 => by
    have ih := set_mem W H b q k
    simp only [vsSet]
    have up : (∃ m, m < k + 1 ∧ vsPt W H b m = q) ↔ (∃ m, m < k ∧ vsPt W H b m = q) ∨ vsPt W H b k = q := by
      constructor
      · rintro ⟨m, h1, h2⟩
        rcases Nat.lt_or_ge m k with c | c
        · exact .inl ⟨m, c, h2⟩
        · obtain rfl : m = k := by omega
          exact .inr h2
      · rintro (⟨m, h1, h2⟩ | h)
        · exact ⟨m, by omega, h2⟩
        · exact ⟨k, by omega, h⟩
    rw [up]
    split
    · rename_i hm
      rw [ih]
      constructor
      · exact .inl
      · rintro (h | h)
        · exact h
        · rw [← h]
          exact (set_mem W H b _ k).1 hm
    · rw [List.mem_cons, ih]
      constructor
      · rintro (h | h)
        · exact .inr h.symm
        · exact .inl h
      · rintro (h | h)
        · exact .inr h
        · exact .inl h.symm
theorem set_count {W H : Int} (hH : 1 ≤ H) (b : S30) (P : Int × Int → Bool) (P' : Nat → Bool) (K : Nat) (hon : ∀ k, k < K → On W H (vsPt W H b k)) (hP : ∀ k, k < K → P (vsPt W H b k) = P' (ix H (vsPt W H b k))) : ∀ k, k ≤ K →
    ((vsSet W H b k).filter P).length = (List.range ((W + 1) * (H + 1)).toNat).countP (fun j => decide (0 < cntI H (vsPt W H b) j k) && P' j)
  | 0, _ => by
    have : (fun j => decide (0 < cntI H (vsPt W H b) j 0) && P' j) = fun _ => false := by funext j; simp [cntI]
    rw [this]
    simp [vsSet]
  | k + 1, hk => by
    have ih := set_count hH b P P' K hon hP k (by omega)
    have ok := hon k (by omega)
    have hi := ix_lt hH ok
    have iff : vsPt W H b k ∈ vsSet W H b k ↔ 0 < cntI H (vsPt W H b) (ix H (vsPt W H b k)) k := by
      rw [set_mem, cntI_pos]
      constructor
      · rintro ⟨m, h1, h2⟩
        exact ⟨m, h1, by rw [h2]⟩
      · rintro ⟨m, h1, h2⟩
        exact ⟨m, h1, ix_inj hH (hon m (by omega)) ok h2⟩
    simp only [vsSet]
    by_cases c : vsPt W H b k ∈ vsSet W H b k
    · rw [if_pos c, ih]
      refine List.countP_congr (fun j hj => ?_)
      have : decide (0 < cntI H (vsPt W H b) j k) = decide (0 < cntI H (vsPt W H b) j (k + 1)) := by
        rw [decide_eq_decide]
        simp only [cntI]
        by_cases e : ix H (vsPt W H b k) = j
        · rw [if_pos e]
          have := iff.1 c
          rw [e] at this
          omega
        · rw [if_neg e]
          omega
      rw [this]
    · rw [if_neg c]
      have hz : cntI H (vsPt W H b) (ix H (vsPt W H b k)) k = 0 := by
        have hn : ¬ 0 < cntI H (vsPt W H b) (ix H (vsPt W H b k)) k := fun h => c (iff.2 h)
        omega
      rw [countP_add (a := ix H (vsPt W H b k)) (p := fun j => decide (0 < cntI H (vsPt W H b) j k) && P' j) (by simp [hz]) (fun j hj => by rw [show cntI H (vsPt W H b) j (k + 1) = cntI H (vsPt W H b) j k from by simp only [cntI]; rw [if_neg (fun e => hj (Eq.symm e)), Nat.add_zero]]) _ hi, ← ih, List.filter_cons, hP k (by omega)]
      have : decide (0 < cntI H (vsPt W H b) (ix H (vsPt W H b k)) (k + 1)) = true := by simp [cntI]
      rw [this, Bool.true_and]
      split <;> simp
/-- Both ways pass the same places. -/
theorem way_both {W H x y : Int} (r u : Bool) (t : OnT W H x y) : ∃ M : Nat, M ≤ 14401 ∧ (∀ j, j < M → fwGo W H ⟨x, y, r, u⟩ (4 * (W * H) + 1) (fun _ => false) j) ∧ ¬ fwGo W H ⟨x, y, r, u⟩ (4 * (W * H) + 1) (fun _ => false) M ∧
    (∀ k, k ≤ M → On W H (vsPt W H ⟨x, y, r, u⟩ k)) ∧ vsN W H ⟨x, y, r, u⟩ ≤ M ∧ (∀ k, k ≤ M → ∃ j, j ≤ vsN W H ⟨x, y, r, u⟩ ∧ vsPt W H ⟨x, y, r, u⟩ j = vsPt W H ⟨x, y, r, u⟩ k) := by
  have a := area t
  have hw : ((W.toNat : Nat) : Int) = W := by have := t.w1; omega
  have hh : ((H.toNat : Nat) : Int) = H := by have := t.h1; omega
  obtain ⟨m1, m2, m3⟩ := fwN_is W H ⟨x, y, r, u⟩ (4 * (W * H) + 1) (fun _ => false) (by omega)
  obtain ⟨n1, n2, n3⟩ := fwN_is W H ⟨x, y, r, u⟩ (2 * W * H) (fun _ => false) (by rw [Int.mul_assoc]; omega)
  unfold vsN
  rw [Int.mul_assoc] at n1 n2 n3 ⊢
  generalize fwN W H ⟨x, y, r, u⟩ (4 * (W * H) + 1) (fun _ => false) = M at m1 m2 m3
  generalize fwN W H ⟨x, y, r, u⟩ (2 * (W * H)) (fun _ => false) = N at n1 n2 n3 ⊢
  have mc : ∀ j, 0 < j → j < M → fwCor W H (fwSt W H ⟨x, y, r, u⟩ j).1 = false := by
    intro j j0 j1
    rcases (m3 j j1).2.2 with h | h
    · omega
    · exact h
  have hon : ∀ k, k ≤ M → On W H (vsPt W H ⟨x, y, r, u⟩ k) := by
    intro k hk
    have z := (way_ok r u t k (fun j j0 j1 => mc j j0 (by omega))).1
    exact ⟨⟨z.x1, z.x2⟩, z.y1, z.y2⟩
  refine ⟨M, by omega, m3, m2, hon, ?_⟩
  by_cases c : N = 0 ∨ fwCor W H (fwSt W H ⟨x, y, r, u⟩ N).1 = false
  · have hN : (N : Int) = 2 * (W * H) := by
      apply Classical.byContradiction
      intro hne
      exact n2 ⟨rfl, by omega, c⟩
    have nc : ∀ j, 0 < j → j ≤ N → fwCor W H (fwSt W H ⟨x, y, r, u⟩ j).1 = false := by
      intro i i0 i1
      rcases Nat.lt_or_ge i N with h | h
      · rcases (n3 i h).2.2 with g | g
        · omega
        · exact g
      · obtain rfl : i = N := by omega
        rcases c with h | h
        · omega
        · exact h
    have nv := nocor_all r u t (fun j j0 j1 => nocor_upto r u t N nc N (Nat.le_refl _) j j0 (by omega))
    have sv := st_all r u t nv
    have hp := vs_period r u t
    have eN : N = 2 * (W.toNat * H.toNat) := by omega
    rw [← eN] at hp
    have hM : (M : Int) = 4 * (W * H) + 1 := by
      apply Classical.byContradiction
      intro hne
      refine m2 ⟨rfl, by omega, ?_⟩
      rcases Nat.eq_zero_or_pos M with h | h
      · exact .inl h
      · exact .inr (by rw [sv]; exact nv M h)
    refine ⟨by omega, fun k hk => ⟨k % N, Nat.le_of_lt (Nat.mod_lt _ (by omega)), ?_⟩⟩
    unfold vsPt
    rw [sv, sv, ← vs_mod hp k]
  · have hMN : M = N := by
      refine go_unique m3 m2 (fun j hj => ?_) (fun h => ?_)
      · have := n3 j hj
        exact ⟨rfl, by have := this.2.1; omega, this.2.2⟩
      · exact c h.2.2
    subst hMN
    exact ⟨Nat.le_refl _, fun k hk => ⟨k, hk, rfl⟩⟩

/-- The beam behind k steps, as the program tells it. -/
abbrev st (W H x y : Int) (r u : Bool) (k : Nat) : S30 := (fwSt W H ⟨x, y, r, u⟩ k).1
/-- No corner ahead of step k. -/
def NoC (W H x y : Int) (r u : Bool) (n : Nat) : Prop := ∀ j, 0 < j → j < n → fwCor W H (st W H x y r u j) = false
theorem st_zero (W H x y : Int) (r u : Bool) : st W H x y r u 0 = ⟨x, y, inw1 W x r, inw1 H y u⟩ := by simp [st, fwSt, fwInw_is]
theorem st_nm {W H x y : Int} (r u : Bool) (t : OnT W H x y) (k : Nat) (hc : NoC W H x y r u (k + 1)) : Nm W (st W H x y r u k).f0 (st W H x y r u k).f2 ∧ Nm H (st W H x y r u k).f1 (st W H x y r u k).f3 := by
  refine (way_ok r u t k (fun j h1 h2 => hc j h1 (by omega))).2 ?_
  rcases Nat.eq_zero_or_pos k with h | h
  · exact .inl h
  · exact .inr (hc k h (by omega))
theorem st_on {W H x y : Int} (r u : Bool) (t : OnT W H x y) (k : Nat) (hc : NoC W H x y r u k) : OnT W H (st W H x y r u k).f0 (st W H x y r u k).f1 := (way_ok r u t k hc).1
theorem fwSt_succ {W H x y : Int} (r u : Bool) (t : OnT W H x y) (k : Nat) (hc : NoC W H x y r u (k + 1)) :
    fwSt W H ⟨x, y, r, u⟩ (k + 1) = if (ons W ((st W H x y r u k).f0 + sg (st W H x y r u k).f2) && ons H ((st W H x y r u k).f1 + sg (st W H x y r u k).f3)) = true then (⟨(st W H x y r u k).f0 + sg (st W H x y r u k).f2, (st W H x y r u k).f1 + sg (st W H x y r u k).f3, (st W H x y r u k).f2, (st W H x y r u k).f3⟩, ⟨#[]⟩)
      else (⟨(st W H x y r u k).f0 + sg (st W H x y r u k).f2, (st W H x y r u k).f1 + sg (st W H x y r u k).f3, inw1 W ((st W H x y r u k).f0 + sg (st W H x y r u k).f2) (st W H x y r u k).f2, inw1 H ((st W H x y r u k).f1 + sg (st W H x y r u k).f3) (st W H x y r u k).f3⟩, sideB W H ((st W H x y r u k).f0 + sg (st W H x y r u k).f2) ((st W H x y r u k).f1 + sg (st W H x y r u k).f3)) := by
  have n := st_nm r u t k hc
  have e : fwSt W H ⟨x, y, r, u⟩ (k + 1) = fwNext W H (st W H x y r u k) := rfl
  rw [e]
  have o := st_on r u t k (fun j h1 h2 => hc j h1 (by omega))
  generalize st W H x y r u k = s at n o ⊢
  obtain ⟨X, Y, R, U⟩ := s
  have ax := nm_step n.1 t.w1
  have ay := nm_step n.2 t.h1
  obtain ⟨_, o5, _, o6, o1, o2, o3, o4⟩ := o
  simp only at o1 o2 o3 o4
  exact fwNext_in W H X Y R U ⟨by omega, by omega⟩ ⟨by omega, by omega⟩ ⟨t.w1, t.w2, t.h1, t.h2, ax.1, ax.2, ay.1, ay.2⟩
theorem sg_abs (b : Bool) : sg b = 1 ∨ sg b = -1 := by cases b <;> simp [sg]
/-- One step: where it goes, whether that is a corner, the side. -/
theorem st_step {W H x y : Int} (r u : Bool) (t : OnT W H x y) (k : Nat) (hc : NoC W H x y r u (k + 1)) :
    (st W H x y r u (k + 1)).f0 = (st W H x y r u k).f0 + sg (st W H x y r u k).f2 ∧ (st W H x y r u (k + 1)).f1 = (st W H x y r u k).f1 + sg (st W H x y r u k).f3 ∧
    fwCor W H (st W H x y r u (k + 1)) = (ons W (st W H x y r u (k + 1)).f0 && ons H (st W H x y r u (k + 1)).f1) ∧
    (fwSt W H ⟨x, y, r, u⟩ (k + 1)).2 = (if (ons W (st W H x y r u (k + 1)).f0 && ons H (st W H x y r u (k + 1)).f1) = true then ⟨#[]⟩ else sideB W H (st W H x y r u (k + 1)).f0 (st W H x y r u (k + 1)).f1) ∧
    (fwCor W H (st W H x y r u (k + 1)) = false → (st W H x y r u (k + 1)).f2 = inw1 W (st W H x y r u (k + 1)).f0 (st W H x y r u k).f2 ∧ (st W H x y r u (k + 1)).f3 = inw1 H (st W H x y r u (k + 1)).f1 (st W H x y r u k).f3) := by
  have e := fwSt_succ r u t k hc
  have e1 : st W H x y r u (k + 1) = (fwSt W H ⟨x, y, r, u⟩ (k + 1)).1 := rfl
  rw [e1, e]
  by_cases c : (ons W ((st W H x y r u k).f0 + sg (st W H x y r u k).f2) && ons H ((st W H x y r u k).f1 + sg (st W H x y r u k).f3)) = true
  · rw [if_pos c]
    refine ⟨rfl, rfl, ?_, ?_, fun h => ?_⟩
    · rw [fwCor_is]
    · rw [if_pos c]
    · rw [fwCor_is] at h; rw [c] at h; cases h
  · rw [if_neg c]
    refine ⟨rfl, rfl, ?_, ?_, fun _ => ⟨rfl, rfl⟩⟩
    · rw [fwCor_is]
    · rw [if_neg c]
/-- How far a beam comes within s steps. -/
theorem run_is {W H x y : Int} (r u : Bool) (s : Int) (h0 : 0 ≤ s) : (fwN W H ⟨x, y, r, u⟩ s (fun _ => false) : Int) ≤ s ∧ NoC W H x y r u (fwN W H ⟨x, y, r, u⟩ s (fun _ => false)) ∧
    ((fwN W H ⟨x, y, r, u⟩ s (fun _ => false) : Int) = s ∨ (0 < fwN W H ⟨x, y, r, u⟩ s (fun _ => false) ∧ fwCor W H (st W H x y r u (fwN W H ⟨x, y, r, u⟩ s (fun _ => false))) = true)) := by
  obtain ⟨n1, n2, n3⟩ := fwN_is W H ⟨x, y, r, u⟩ s (fun _ => false) h0
  generalize fwN W H ⟨x, y, r, u⟩ s (fun _ => false) = N at n1 n2 n3 ⊢
  refine ⟨n1, fun j h1 h2 => ?_, ?_⟩
  · rcases (n3 j h2).2.2 with h | h
    · omega
    · exact h
  · by_cases c : (N : Int) = s
    · exact .inl c
    · refine .inr ?_
      have hN : 0 < N := by
        rcases Nat.eq_zero_or_pos N with h | h
        · exact absurd ⟨rfl, by omega, .inl h⟩ n2
        · exact h
      refine ⟨hN, ?_⟩
      cases hc : fwCor W H (st W H x y r u N) with
      | true => rfl
      | false => exact absurd ⟨rfl, by omega, .inr hc⟩ n2
/-- The corner at which it ends, if there is one. -/
def endN (W H x y : Int) (r u : Bool) : Nat := fwCornN W H ⟨x, y, r, u⟩
def ends (W H x y : Int) (r u : Bool) : Bool := fwStop W H ⟨x, y, r, u⟩ (fwCornN W H ⟨x, y, r, u⟩)
theorem ends_true {W H x y : Int} (r u : Bool) (t : OnT W H x y) (h : ends W H x y r u = true) : 0 < endN W H x y r u ∧ endN W H x y r u ≤ 14401 ∧ fwCor W H (st W H x y r u (endN W H x y r u)) = true ∧ NoC W H x y r u (endN W H x y r u) := by
  obtain ⟨M, h0, _, h2, _, h4⟩ := corn_eq 100000 (Nat.le_refl _) r u t
  obtain ⟨rfl, h5, h6⟩ := h2 h
  exact ⟨h5, h0, h6, h4⟩
theorem ends_false {W H x y : Int} (r u : Bool) (t : OnT W H x y) (h : ends W H x y r u = false) : (∀ n, NoC W H x y r u n) ∧ ∀ k, st W H x y r u k = vs W H ⟨x, y, r, u⟩ k := by
  obtain ⟨M, _, _, _, h3, _⟩ := corn_eq 100000 (Nat.le_refl _) r u t
  have nv := (h3 h).2
  have sv := st_all r u t nv
  exact ⟨fun n j h1 _ => by show fwCor W H (fwSt W H ⟨x, y, r, u⟩ j).1 = false; rw [sv]; exact nv j h1, sv⟩
theorem reach_end {W H x y : Int} (r u : Bool) (t : OnT W H x y) {s : Int} (h0 : 0 ≤ s) : (fwN W H ⟨x, y, r, u⟩ s (fun _ => false) : Int) = if ends W H x y r u = true ∧ (endN W H x y r u : Int) < s then (endN W H x y r u : Int) else s := by
  obtain ⟨n1, n2, n3⟩ := run_is (W := W) (H := H) (x := x) (y := y) r u s h0
  generalize fwN W H ⟨x, y, r, u⟩ s (fun _ => false) = N at n1 n2 n3 ⊢
  cases he : ends W H x y r u with
  | true =>
    obtain ⟨e1, _, e2, e3⟩ := ends_true r u t he
    by_cases c : (endN W H x y r u : Int) < s
    · rw [if_pos ⟨rfl, c⟩]
      rcases Nat.lt_trichotomy N (endN W H x y r u) with h | h | h
      · rcases n3 with g | g
        · omega
        · rw [e3 N g.1 h] at g; cases g.2
      · rw [h]
      · rw [n2 _ e1 h] at e2; cases e2
    · rw [if_neg (fun h => c h.2)]
      rcases n3 with g | g
      · exact g
      · rcases Nat.lt_or_ge N (endN W H x y r u) with h | h
        · rw [e3 N g.1 h] at g; cases g.2
        · omega
  | false =>
    rw [if_neg (fun h => by cases h.1)]
    rcases n3 with g | g
    · exact g
    · rw [(ends_false r u t he).1 (N + 1) N g.1 (by omega)] at g; cases g.2
/-- Whether step k is a corner, for k up to where it comes. -/
theorem cor_at {W H x y : Int} (r u : Bool) (t : OnT W H x y) {k : Nat} (h1 : 0 < k) (hc : NoC W H x y r u k) : fwCor W H (st W H x y r u k) = (ends W H x y r u && decide (k = endN W H x y r u)) := by
  cases he : ends W H x y r u with
  | true =>
    obtain ⟨e1, _, e2, e3⟩ := ends_true r u t he
    by_cases c : k = endN W H x y r u
    · subst c; simp [e2]
    · rw [decide_eq_false c]
      rcases Nat.lt_or_ge k (endN W H x y r u) with h | h
      · rw [e3 k h1 h]; rfl
      · rw [hc _ e1 (by omega)] at e2; cases e2
  | false => rw [(ends_false r u t he).1 (k + 1) k h1 (by omega)]; rfl
/-- Between two sides it goes straight on. -/
theorem straight {W H x y : Int} (r u : Bool) (t : OnT W H x y) (k : Nat) (hc : NoC W H x y r u (k + 2)) :
    (0 < (st W H x y r u (k + 1)).f0 → (st W H x y r u (k + 1)).f0 < W → (st W H x y r u (k + 2)).f0 - (st W H x y r u (k + 1)).f0 = (st W H x y r u (k + 1)).f0 - (st W H x y r u k).f0) ∧
    (0 < (st W H x y r u (k + 1)).f1 → (st W H x y r u (k + 1)).f1 < H → (st W H x y r u (k + 2)).f1 - (st W H x y r u (k + 1)).f1 = (st W H x y r u (k + 1)).f1 - (st W H x y r u k).f1) := by
  have a := st_step r u t k (fun j h1 h2 => hc j h1 (by omega))
  have b := st_step r u t (k + 1) hc
  have d := a.2.2.2.2 (hc (k + 1) (by omega) (by omega))
  refine ⟨fun h1 h2 => ?_, fun h1 h2 => ?_⟩
  · have e : (st W H x y r u (k + 1)).f2 = (st W H x y r u k).f2 := by
      rw [d.1]; unfold inw1
      rw [decide_eq_false (by omega), decide_eq_true h2]; simp
    rw [b.1, e, a.1]; omega
  · have e : (st W H x y r u (k + 1)).f3 = (st W H x y r u k).f3 := by
      rw [d.2]; unfold inw1
      rw [decide_eq_false (by omega), decide_eq_true h2]; simp
    rw [b.2.1, e, a.2.1]; omega

theorem bePlace_eq (W H x y : Int) (r u : Bool) (px py : Int) : spec_bePlace.f W H x y r u px py = some (bg W H x y && bg W H px py) := by
  unfold spec_bePlace.f
  rw [beGood_eq]
  simp only [Option.bind_some, l1In_eq, bg]
  by_cases h1 : 1 ≤ W ∧ W ≤ 60 <;> by_cases h2 : 1 ≤ H ∧ H ≤ 60 <;> by_cases h3 : 0 ≤ px ∧ px ≤ W <;> by_cases h4 : 0 ≤ py ∧ py ≤ H <;> by_cases h5 : 0 ≤ x ∧ x ≤ W <;> by_cases h6 : 0 ≤ y ∧ y ≤ H <;> simp [h1, h2, h3, h4, h5, h6]
theorem areOn_eq (W H x y : Int) (r u : Bool) (px py : Int) : impl_areOn.f W H x y r u px py = some (bg W H x y && bg W H px py) := by
  unfold impl_areOn.f
  rw [IsBeam_eq, IsBeam_eq]
  simp only [Option.bind_some]
  cases bg W H x y <;> simp
theorem pass_j (px py : Int) (st : Nat → S30) (M : Nat) (k i : Nat) (hi : i ≤ M) (hM : M ≤ 200000) : spec_bePass.l0 (k + 1) px py ((List.range (M + 1)).map st) ((List.range (M + 1)).map st).length i = if (decide ((st i).f0 = px) && decide ((st i).f1 = py)) = true then some (i : Int) else spec_bePass.l0 k px py ((List.range (M + 1)).map st) ((List.range (M + 1)).map st).length ((i + 1 : Nat) : Int) := by
  have e : wrap64 ((i : Int) + 1) = ((i + 1 : Nat) : Int) := by rw [wrap_id (by omega) (by omega)]; omega
  have hl : (i : Int) < ((((List.range (M + 1)).map st).length : Nat) : Int) := by rw [List.length_map, List.length_range]; omega
  rw [spec_bePass.l0, if_pos hl, if_pos (by omega : (0 : Int) ≤ i), if_pos hl, rd_run st M i hi]
  by_cases h1 : (st i).f0 = px
  · rw [if_pos h1, e]
    by_cases h2 : (st i).f1 = py
    · simp [h1, h2]
    · simp [h1, h2]
  · rw [if_neg h1, e]
    simp [h1]
theorem pass_none (px py : Int) (st : Nat → S30) (M : Nat) (hM : M ≤ 200000) (h : ∀ j, j ≤ M → (decide ((st j).f0 = px) && decide ((st j).f1 = py)) = false) (d : Nat) : ∀ k i, i + d = M + 1 → 2 * d + 5 < k → spec_bePass.l0 k px py ((List.range (M + 1)).map st) ((List.range (M + 1)).map st).length (i : Int) = some (-1) := by
  induction d with
  | zero =>
    intro k i hi hk
    obtain ⟨k, rfl⟩ : ∃ m, k = m + 1 := ⟨k - 1, by omega⟩
    rw [spec_bePass.l0, if_neg (by rw [List.length_map, List.length_range]; omega)]
  | succ d ih =>
    intro k i hi hk
    obtain ⟨k, rfl⟩ : ∃ m, k = m + 1 := ⟨k - 1, by omega⟩
    rw [pass_j px py st M k i (by omega) hM, h i (by omega), if_neg (fun h => by cases h)]
    exact ih k (i + 1) (by omega) (by omega)
theorem pass_some (px py : Int) (st : Nat → S30) (M N : Nat) (hM : M ≤ 200000) (hN : N ≤ M) (hh : (decide ((st N).f0 = px) && decide ((st N).f1 = py)) = true) (h : ∀ j, j < N → (decide ((st j).f0 = px) && decide ((st j).f1 = py)) = false) (d : Nat) : ∀ k i, i + d = N → 2 * d + 5 < k → spec_bePass.l0 k px py ((List.range (M + 1)).map st) ((List.range (M + 1)).map st).length (i : Int) = some (N : Int) := by
  induction d with
  | zero =>
    intro k i hi hk
    obtain ⟨k, rfl⟩ : ∃ m, k = m + 1 := ⟨k - 1, by omega⟩
    obtain rfl : i = N := by omega
    rw [pass_j px py st M k i hN hM, hh, if_pos rfl]
  | succ d ih =>
    intro k i hi hk
    obtain ⟨k, rfl⟩ : ∃ m, k = m + 1 := ⟨k - 1, by omega⟩
    rw [pass_j px py st M k i (by omega) hM, h i (by omega), if_neg (fun h => by cases h)]
    exact ih k (i + 1) (by omega) (by omega)
/-- The reference's first pass is the program's. -/
theorem pass_eq (k : Nat) (hk : 100000 ≤ k) {W H x y : Int} (r u : Bool) (t : OnT W H x y) (px py : Int) : ∃ z, spec_bePass.f k W H x y r u px py = some z ∧ impl_firstPass.f W H x y r u px py = some z := by
  have a := area t
  have hw : ((W.toNat : Nat) : Int) = W := by have := t.w1; omega
  have hh : ((H.toNat : Nat) : Int) = H := by have := t.h1; omega
  obtain ⟨m1, m2, m3⟩ := fwN_is W H ⟨x, y, r, u⟩ (4 * (W * H) + 1) (fun _ => false) (by omega)
  obtain ⟨n1, n2, n3⟩ := fwN_is W H ⟨x, y, r, u⟩ (2 * W * H) (fwHit W H ⟨x, y, r, u⟩ px py) (by rw [Int.mul_assoc]; omega)
  refine ⟨_, ?_, by unfold impl_firstPass.f; exact if_pos ⟨⟨t.w1, t.w2⟩, t.h1, t.h2⟩⟩
  unfold fwPassN
  rw [Int.mul_assoc] at n1 n2 n3 ⊢
  generalize fwN W H ⟨x, y, r, u⟩ (4 * (W * H) + 1) (fun _ => false) = M at m1 m2 m3
  generalize fwN W H ⟨x, y, r, u⟩ (2 * (W * H)) (fwHit W H ⟨x, y, r, u⟩ px py) = N at n1 n2 n3 ⊢
  obtain ⟨e1, _⟩ := run_eq r u t (4 * (W * H) + 1) M k (by omega) (by omega) m3 m2
  unfold spec_bePass.f
  rw [beLong_eq t]
  simp only [Option.bind_some, e1]
  cases hit : fwHit W H ⟨x, y, r, u⟩ px py N with
  | true =>
    rw [if_pos rfl]
    have hNM : N ≤ M := by
      rcases Nat.lt_or_ge M N with c | c
      · have g := n3 M c
        exact absurd ⟨rfl, by have := g.2.1; omega, g.2.2⟩ m2
      · exact c
    exact pass_some px py (fun j => (fwSt W H ⟨x, y, r, u⟩ j).1) M N (by omega) hNM hit (fun j hj => (n3 j hj).1) N k 0 (by omega) (by omega)
  | false =>
    rw [if_neg (fun h => by cases h)]
    refine pass_none px py (fun j => (fwSt W H ⟨x, y, r, u⟩ j).1) M (by omega) ?_ (M + 1) k 0 (by omega) (by omega)
    intro j hj
    show fwHit W H ⟨x, y, r, u⟩ px py j = false
    have upto : ∀ i, i ≤ N → fwHit W H ⟨x, y, r, u⟩ px py i = false := by
      intro i hi
      rcases Nat.lt_or_ge i N with c | c
      · exact (n3 i c).1
      · obtain rfl : i = N := by omega
        exact hit
    by_cases c : N = 0 ∨ fwCor W H (fwSt W H ⟨x, y, r, u⟩ N).1 = false
    · have hN : (N : Int) = 2 * (W * H) := by
        apply Classical.byContradiction
        intro hne
        exact n2 ⟨hit, by omega, c⟩
      have nc : ∀ j, 0 < j → j ≤ N → fwCor W H (fwSt W H ⟨x, y, r, u⟩ j).1 = false := by
        intro i i0 i1
        rcases Nat.lt_or_ge i N with h | h
        · rcases (n3 i h).2.2 with g | g
          · omega
          · exact g
        · obtain rfl : i = N := by omega
          rcases c with h | h
          · omega
          · exact h
      have nv := nocor_all r u t (fun j j0 j1 => nocor_upto r u t N nc N (Nat.le_refl _) j j0 (by omega))
      have sv := st_all r u t nv
      have hN2 : N = 2 * (W.toNat * H.toNat) := by omega
      have hp : vs W H ⟨x, y, r, u⟩ N = vs W H ⟨x, y, r, u⟩ 0 := by rw [hN2]; exact vs_period r u t
      have hlt := Nat.mod_lt j (show 0 < N by omega)
      have := upto (j % N) (by omega)
      unfold fwHit at this ⊢
      rw [sv] at this ⊢
      rw [vs_mod hp j]
      exact this
    · have hMN : M ≤ N := by
        rcases Nat.lt_or_ge N M with h | h
        · exact absurd (m3 N h).2.2 c
        · exact h
      exact upto j (by omega)

theorem isSteps_eq (x : Int) : impl_isSteps.f x = some (decide (0 ≤ x ∧ x ≤ 100000)) := by
  unfold impl_isSteps.f
  rw [within_eq]
  rfl
theorem asked_eq (W H x y : Int) (r u : Bool) (s m : Int) : spec_beAsked.f W H x y r u s m = some (bg W H x y && decide (0 ≤ s ∧ s ≤ m)) := by
  unfold spec_beAsked.f
  rw [beGood_eq]
  simp only [Option.bind_some, l1In_eq]
  cases bg W H x y <;> simp
theorem least_eq (a b : Int) : spec_l1Least.f a b = some (if a < b then a else b) := by
  unfold spec_l1Least.f
  split <;> rfl
theorem good (k : Nat) (hk : 100000 ≤ k) {W H x y : Int} (r u : Bool) (t : OnT W H x y) (s : Int) (h0 : 0 ≤ s) (h1 : s ≤ 100000) :
    spec_BeamAfter.f k W H x y r u s = some ((fwSt W H ⟨x, y, r, u⟩ (fwN W H ⟨x, y, r, u⟩ s fun _ => false)).1.f0, (fwSt W H ⟨x, y, r, u⟩ (fwN W H ⟨x, y, r, u⟩ s fun _ => false)).1.f1, (fwSt W H ⟨x, y, r, u⟩ (fwN W H ⟨x, y, r, u⟩ s fun _ => false)).1.f2, (fwSt W H ⟨x, y, r, u⟩ (fwN W H ⟨x, y, r, u⟩ s fun _ => false)).1.f3, true) := by
  have a := area t
  have hb : bg W H x y = true := decide_eq_true ⟨⟨t.w1, t.w2⟩, ⟨t.h1, t.h2⟩, ⟨t.x1, t.x2⟩, t.y1, t.y2⟩
  obtain ⟨n1, n2, n3⟩ := fwN_is W H ⟨x, y, r, u⟩ s (fun _ => false) h0
  obtain ⟨m, hm⟩ : ∃ m, (if s < 4 * (W * H) + 1 then s else 4 * (W * H) + 1) = m := ⟨_, rfl⟩
  have hms : m ≤ s ∧ m ≤ 4 * (W * H) + 1 ∧ 0 ≤ m ∧ (m = s ∨ m = 4 * (W * H) + 1) := by
    rw [← hm]
    split <;> omega
  obtain ⟨q1, q2, q3⟩ := fwN_is W H ⟨x, y, r, u⟩ m (fun _ => false) hms.2.2.1
  generalize fwN W H ⟨x, y, r, u⟩ s (fun _ => false) = N at n1 n2 n3 ⊢
  generalize fwN W H ⟨x, y, r, u⟩ m (fun _ => false) = M at q1 q2 q3
  obtain ⟨e1, _⟩ := run_eq r u t m M k (by omega) (by omega) q3 q2
  have hl : (((List.range (M + 1)).map fun j => (fwSt W H ⟨x, y, r, u⟩ j).1).length : Int) = M + 1 := by simp
  have w1 : wrap64 (((List.range (M + 1)).map fun j => (fwSt W H ⟨x, y, r, u⟩ j).1).length - 1 : Int) = (M : Int) := by rw [hl, wrap_id (by omega) (by omega)]; omega
  have hr := rd_run (fun j => (fwSt W H ⟨x, y, r, u⟩ j).1) M
  unfold spec_BeamAfter.f
  rw [asked_eq, hb, decide_eq_true ⟨h0, h1⟩]
  simp only [Bool.and_self, Option.bind_some, if_true, beLong_eq t, least_eq, hm, e1, w1]
  by_cases c : s < (((List.range (M + 1)).map fun j => (fwSt W H ⟨x, y, r, u⟩ j).1).length : Int)
  · rw [if_pos c, if_pos h0]
    rw [hl] at c
    have hsM : m = s := by
      rcases hms.2.2.2 with h | h
      · exact h
      · omega
    subst hsM
    have : N = M := go_unique n3 n2 q3 q2
    subst this
    have e : m = ((N : Nat) : Int) := by omega
    rw [e, hr N (Nat.le_refl _)]
  · rw [if_neg c, if_pos (by omega : (0 : Int) ≤ M), if_pos (by omega : (M : Int) < _), hr M (Nat.le_refl _), beCorner_eq, ← fwCor_is W H _ _ (fwSt W H ⟨x, y, r, u⟩ M).1.f2 (fwSt W H ⟨x, y, r, u⟩ M).1.f3]
    rw [hl] at c
    simp only [Option.bind_some]
    have hM0 : 0 < M := by
      rcases Nat.eq_zero_or_pos M with h | h
      · subst h
        exact absurd ⟨rfl, by show ((0 : Nat) : Int) < m; omega, .inl rfl⟩ q2
      · exact h
    cases hc : fwCor W H (fwSt W H ⟨x, y, r, u⟩ M).1 with
    | true =>
      have hN : N = M := by
        refine go_unique n3 n2 (fun j hj => ?_) (fun h => ?_)
        · have := q3 j hj
          exact ⟨rfl, by have := this.2.1; omega, this.2.2⟩
        · rcases h.2.2 with h | h
          · omega
          · rw [hc] at h; cases h
      subst hN
      rw [if_pos rfl]
    | false =>
      have hMm : (M : Int) = m := by
        apply Classical.byContradiction
        intro hne
        exact q2 ⟨rfl, by omega, .inr hc⟩
      have hML : (M : Int) = 4 * (W * H) + 1 := by
        rcases hms.2.2.2 with h | h <;> omega
      have nc : ∀ j, 0 < j → j ≤ M → fwCor W H (fwSt W H ⟨x, y, r, u⟩ j).1 = false := by
        intro j j0 j1
        rcases Nat.lt_or_ge j M with h | h
        · rcases (q3 j h).2.2 with g | g
          · omega
          · exact g
        · obtain rfl : j = M := by omega
          exact hc
      have nv := nocor_all r u t (fun j j0 j1 => nocor_upto r u t M nc M (Nat.le_refl _) j j0 (by omega))
      have sv := st_all r u t nv
      have hN : (N : Int) = s := by
        apply Classical.byContradiction
        intro hne
        refine n2 ⟨rfl, by omega, ?_⟩
        rcases Nat.eq_zero_or_pos N with h | h
        · exact .inl h
        · exact .inr (by rw [sv]; exact nv N h)
      obtain ⟨p, p0, p1, p2, p3⟩ := period_some r u t
      have hpe : spec_bePeriod.f k ((List.range (M + 1)).map fun j => (fwSt W H ⟨x, y, r, u⟩ j).1) = some (p : Int) := by
        refine period_l0 (fun j => (fwSt W H ⟨x, y, r, u⟩ j).1) M p ?_ (by omega) (by omega) ?_ (p - 1) k 1 (by omega) (by omega) (by omega)
        · show (fwSt W H ⟨x, y, r, u⟩ p).1 = (fwSt W H ⟨x, y, r, u⟩ 0).1
          rw [sv, sv]
          exact p2
        · intro j j0 j1
          show (fwSt W H ⟨x, y, r, u⟩ j).1 ≠ (fwSt W H ⟨x, y, r, u⟩ 0).1
          rw [sv, sv]
          exact p3 j j0 j1
      have hmod : Int.tmod s (p : Int) = ((N % p : Nat) : Int) := by
        rw [← hN, ← Int.ofNat_tmod]
      have hlt := Nat.mod_lt N p0
      rw [if_neg (show ¬ (false = true) from fun h => by cases h), hpe]
      simp only [Option.bind_some]
      rw [if_neg (by omega), hmod, if_pos (by omega), if_pos (by simp; omega), hr (N % p) (by omega), sv, sv, ← vs_mod p2 N]
theorem after_both (k : Nat) (hk : 100000 ≤ k) (W H x y : Int) (r u : Bool) (s : Int) : spec_BeamAfter.f k W H x y r u s = impl_BeamAfter.f W H x y r u s := by
  unfold impl_BeamAfter.f
  rw [IsBeam_eq, isSteps_eq]
  simp only [Option.bind_some]
  cases hb : bg W H x y with
  | false =>
    unfold spec_BeamAfter.f
    rw [asked_eq, hb]
    simp
  | true =>
    by_cases c : 0 ≤ s ∧ s ≤ 100000
    · rw [decide_eq_true c, good k hk r u (bg_of hb) s c.1 c.2]
      simp
    · rw [decide_eq_false c]
      unfold spec_BeamAfter.f
      rw [asked_eq, hb, decide_eq_false c]
      simp

theorem pbEq_iff (a b : S30) : pbEq a b = true ↔ a = b := by
  obtain ⟨x, y, r, u⟩ := a
  obtain ⟨x', y', r', u'⟩ := b
  simp [pbEq]
/-- The period, if there is one. -/
theorem period_both (k : Nat) (hk : 100000 ≤ k) (W H x y : Int) (r u : Bool) : ∃ z : Int × Bool, spec_PeriodOfBeam.f k W H x y r u = some z ∧ impl_PeriodOfBeam.f W H x y r u = some z ∧
    (z.2 = true → OnT W H x y ∧ ends W H x y r u = false ∧ ∃ p : Nat, z.1 = p ∧ 0 < p ∧ p ≤ 2 * (W.toNat * H.toNat) ∧ vs W H ⟨x, y, r, u⟩ p = vs W H ⟨x, y, r, u⟩ 0 ∧ ∀ j, 0 < j → j < p → vs W H ⟨x, y, r, u⟩ j ≠ vs W H ⟨x, y, r, u⟩ 0) ∧
    (bg W H x y = true → ends W H x y r u = false → z.2 = true) := by
  unfold spec_PeriodOfBeam.f impl_PeriodOfBeam.f impl_toCorner.f
  rw [beGood_eq, IsBeam_eq]
  simp only [Option.bind_some]
  cases hb : bg W H x y with
  | false => exact ⟨(0, false), by simp, by simp, fun h => by simp at h, fun h => by simp at h⟩
  | true =>
    have t := bg_of hb
    have a := area t
    have hw : ((W.toNat : Nat) : Int) = W := by have := t.w1; omega
    have hh : ((H.toNat : Nat) : Int) = H := by have := t.h1; omega
    obtain ⟨M, _, h1, h2, h3, _⟩ := corn_eq k (by omega) r u t
    rw [if_pos rfl, if_pos rfl, h1]
    simp only [Option.bind_some]
    cases hs : fwStop W H ⟨x, y, r, u⟩ (fwCornN W H ⟨x, y, r, u⟩) with
    | true => exact ⟨(0, false), by simp, by simp, fun h => by simp at h, fun _ h => absurd hs (by show ¬ ends W H x y r u = true; rw [h]; decide)⟩
    | false =>
      obtain ⟨hM, nv⟩ := h3 hs
      have sv := st_all r u t nv
      have s0 : fwInw W H ⟨x, y, r, u⟩ = vs W H ⟨x, y, r, u⟩ 0 := sv 0
      obtain ⟨p, p0, p1, p2, p3⟩ := period_some r u t
      have hpe : spec_bePeriod.f k ((List.range (M + 1)).map fun j => (fwSt W H ⟨x, y, r, u⟩ j).1) = some (p : Int) := by
        refine period_l0 (fun j => (fwSt W H ⟨x, y, r, u⟩ j).1) M p ?_ (by omega) (by omega) ?_ (p - 1) k 1 (by omega) (by omega) (by omega)
        · show (fwSt W H ⟨x, y, r, u⟩ p).1 = (fwSt W H ⟨x, y, r, u⟩ 0).1
          rw [sv, sv]
          exact p2
        · intro j j0 j1
          show (fwSt W H ⟨x, y, r, u⟩ j).1 ≠ (fwSt W H ⟨x, y, r, u⟩ 0).1
          rw [sv, sv]
          exact p3 j j0 j1
      have stop_iff : ∀ j, pbStop W H ⟨x, y, r, u⟩ j = true ↔ 0 < j ∧ vs W H ⟨x, y, r, u⟩ j = vs W H ⟨x, y, r, u⟩ 0 := by
        intro j
        unfold pbStop
        rw [Bool.and_eq_true, decide_eq_true_eq, pbEq_iff, sv, s0]
      obtain ⟨n1, n2, n3⟩ := fwN_is W H ⟨x, y, r, u⟩ (2 * W * H) (pbStop W H ⟨x, y, r, u⟩) (by rw [Int.mul_assoc]; omega)
      have hN : pbN W H ⟨x, y, r, u⟩ = p := by
        unfold pbN
        refine go_unique n3 n2 (fun j hj => ⟨?_, by rw [Int.mul_assoc]; omega, ?_⟩) (fun h => ?_)
        · cases c : pbStop W H ⟨x, y, r, u⟩ j with
          | false => rfl
          | true =>
            have := (stop_iff j).1 c
            exact absurd this.2 (p3 j this.1 hj)
        · rcases Nat.eq_zero_or_pos j with h | h
          · exact .inl h
          · exact .inr (by rw [sv]; exact nv j h)
        · have := (stop_iff p).2 ⟨p0, p2⟩
          rw [h.1] at this
          cases this
      have hst := (stop_iff p).2 ⟨p0, p2⟩
      refine ⟨((p : Int), true), ?_, ?_, fun _ => ⟨t, hs, p, rfl, p0, p1, p2, p3⟩, fun _ _ => rfl⟩
      · simp [hpe]
      · rw [hN, hst]
        simp

theorem places_l0 (H : Int) (f : Nat → Int × Int) (n K : Nat) (hn : n ≤ 100000) (d : Nat) : ∀ (k i : Nat) (a : Int), i + d = n → d < k → 0 ≤ a → a + d ≤ 100000 →
    spec_CountPlaces.l0 k a (tl H f n K) (n : Nat) i = some (a + (((List.range' i d).countP (fun j => decide (0 < cntI H f j K) && true) : Nat) : Int), true) := by
  induction d with
  | zero =>
    intro k i a hi hk h0 h1
    obtain ⟨k, rfl⟩ : ∃ m, k = m + 1 := ⟨k - 1, by omega⟩
    simp only [spec_CountPlaces.l0]
    rw [if_neg (by omega)]
    simp
  | succ d ih =>
    intro k i a hi hk h0 h1
    obtain ⟨k, rfl⟩ : ∃ m, k = m + 1 := ⟨k - 1, by omega⟩
    have e : wrap64 ((i : Int) + 1) = ((i + 1 : Nat) : Int) := by rw [wrap_id (by omega) (by omega)]; omega
    have hl := tl_len H f n K
    have n1 := ih k (i + 1)
    simp only [spec_CountPlaces.l0]
    rw [if_pos (by omega), if_pos (by omega), if_pos (by omega), tl_rd H f (by omega), e, List.range'_succ, List.countP_cons]
    by_cases c : 0 < cntI H f i K
    · rw [if_pos (by omega), wrap_id (by omega) (by omega), n1 (a + 1) (by omega) (by omega) (by omega) (by omega)]
      rw [if_pos (by simp [c])]
      congr 2
      omega
    · rw [if_neg (by omega), n1 a (by omega) (by omega) (by omega) (by omega), if_neg (by simp [c])]
      congr 2
/-- How many places it comes to. -/
def places (W H x y : Int) (r u : Bool) : Nat := (vsSet W H ⟨x, y, r, u⟩ (vsN W H ⟨x, y, r, u⟩ + 1)).length
theorem count_both (k : Nat) (hk : 100000 ≤ k) (W H x y : Int) (r u : Bool) : spec_CountPlaces.f k W H x y r u = some (if bg W H x y = true then ((places W H x y r u : Nat) : Int) else 0, bg W H x y) ∧ impl_CountPlaces.f W H x y r u = some (if bg W H x y = true then ((places W H x y r u : Nat) : Int) else 0, bg W H x y) := by
  unfold places
  unfold spec_CountPlaces.f impl_CountPlaces.f
  rw [beGood_eq, IsBeam_eq]
  simp only [Option.bind_some]
  cases hb : bg W H x y with
  | false => exact ⟨by simp, by simp⟩
  | true =>
    have t := bg_of hb
    have hW := And.intro t.w1 t.w2
    have hH := And.intro t.h1 t.h2
    have hbn : (W + 1) * (H + 1) ≤ 61 * 61 := Int.mul_le_mul (by omega) (by omega) (by omega) (by omega)
    obtain ⟨M, hM, m3, m2, hon, hNM, hall⟩ := way_both r u t
    obtain ⟨e1, _⟩ := run_eq r u t (4 * (W * H) + 1) M k (by omega) (by omega) m3 m2
    have e2 := times_eq hW hH (fun j => (fwSt W H ⟨x, y, r, u⟩ j).1) M (by omega) hon k (by omega)
    have hp := places_l0 H (vsPt W H ⟨x, y, r, u⟩) ((W + 1) * (H + 1)).toNat (M + 1) (by omega) ((W + 1) * (H + 1)).toNat k 0 0 (by omega) (by omega) (by omega) (by omega)
    have hs := set_count hH.1 ⟨x, y, r, u⟩ (fun _ => true) (fun _ => true) (vsN W H ⟨x, y, r, u⟩ + 1) (fun k hk => hon k (by omega)) (fun _ _ => rfl) _ (Nat.le_refl _)
    have hc : (List.range ((W + 1) * (H + 1)).toNat).countP (fun j => decide (0 < cntI H (vsPt W H ⟨x, y, r, u⟩) j (vsN W H ⟨x, y, r, u⟩ + 1)) && true) = (List.range ((W + 1) * (H + 1)).toNat).countP (fun j => decide (0 < cntI H (vsPt W H ⟨x, y, r, u⟩) j (M + 1)) && true) := by
      refine List.countP_congr (fun j _ => ?_)
      have : decide (0 < cntI H (vsPt W H ⟨x, y, r, u⟩) j (vsN W H ⟨x, y, r, u⟩ + 1)) = decide (0 < cntI H (vsPt W H ⟨x, y, r, u⟩) j (M + 1)) := by
        rw [decide_eq_decide, cntI_pos, cntI_pos]
        constructor
        · rintro ⟨m, h1, h2⟩
          exact ⟨m, by omega, h2⟩
        · rintro ⟨m, h1, h2⟩
          obtain ⟨i, h3, h4⟩ := hall m (by omega)
          exact ⟨i, by omega, by rw [h4]; exact h2⟩
      rw [this]
    have hf : (vsSet W H ⟨x, y, r, u⟩ (vsN W H ⟨x, y, r, u⟩ + 1)).filter (fun _ => true) = vsSet W H ⟨x, y, r, u⟩ (vsN W H ⟨x, y, r, u⟩ + 1) := List.filter_eq_self.2 (fun _ _ => rfl)
    rw [hf, hc] at hs
    refine ⟨?_, ?_⟩
    · simp only [if_true]
      rw [beLong_eq t]
      simp only [Option.bind_some, e1, e2, tl_len]
      refine hp.trans ?_
      rw [hs, ← List.range_eq_range', Int.zero_add]
    · simp only [if_true]
      rw [if_pos (vsOk_of t)]

theorem pl_small {n : Nat} (h : n ≤ 1000) : n < 5864062014805 := by omega
theorem rows_l0 {W H x y : Int} (r u : Bool) (N : Nat) (hN : N ≤ 300) (d : Nat) : ∀ (k i : Nat), i + d = N + 1 → d < k →
    spec_PlacesOfBeam.l0 k (plRows W H ⟨x, y, r, u⟩ i) ((List.range (N + 1)).map fun j => (fwSt W H ⟨x, y, r, u⟩ j).1) ((N + 1 : Nat) : Int) i = some (plRows W H ⟨x, y, r, u⟩ (N + 1), true) := by
  induction d with
  | zero =>
    intro k i hi hk
    obtain ⟨k, rfl⟩ : ∃ m, k = m + 1 := ⟨k - 1, by omega⟩
    obtain rfl : i = N + 1 := by omega
    rw [spec_PlacesOfBeam.l0]
    exact if_neg (by omega)
  | succ d ih =>
    intro k i hi hk
    obtain ⟨k, rfl⟩ : ∃ m, k = m + 1 := ⟨k - 1, by omega⟩
    have hI : (i : Int) < ((N + 1 : Nat) : Int) := by omega
    have h0 : (0 : Int) ≤ i := by omega
    have hL : (i : Int) < ((((List.range (N + 1)).map fun j => (fwSt W H ⟨x, y, r, u⟩ j).1).length : Nat) : Int) := by simp; omega
    have hs : (plRows W H ⟨x, y, r, u⟩ i).length < 5864062014805 := by rw [plRows_len]; exact pl_small (by omega)
    have w1 : wrap64 ((i : Int) + 1) = ((i + 1 : Nat) : Int) := by rw [wrap_id (by omega) (by omega)]; omega
    have hr : rd_T30 ((List.range (N + 1)).map fun j => (fwSt W H ⟨x, y, r, u⟩ j).1) (i : Int) = (fwSt W H ⟨x, y, r, u⟩ i).1 := by
      unfold rd_T30
      rw [Int.toNat_natCast, List.getD_eq_getElem?_getD, List.getElem?_map, List.getElem?_range (by omega)]
      rfl
    rw [spec_PlacesOfBeam.l0, hr, w1]
    exact (if_pos hI).trans ((if_pos h0).trans ((if_pos hL).trans ((if_pos hs).trans (ih k (i + 1) (by omega) (by omega)))))
theorem places_both (k : Nat) (hk : 10000 ≤ k) (W H x y : Int) (r u : Bool) (s : Int) :
    spec_PlacesOfBeam.f k W H x y r u s = some (if bg W H x y = true ∧ 0 ≤ s ∧ s ≤ 300 then (plRows W H ⟨x, y, r, u⟩ (fwN W H ⟨x, y, r, u⟩ s (fun _ => false) + 1), true) else ([], false)) ∧
    impl_PlacesOfBeam.f W H x y r u s = some (if bg W H x y = true ∧ 0 ≤ s ∧ s ≤ 300 then (plRows W H ⟨x, y, r, u⟩ (fwN W H ⟨x, y, r, u⟩ s (fun _ => false) + 1), true) else ([], false)) := by
  unfold spec_PlacesOfBeam.f impl_PlacesOfBeam.f
  rw [asked_eq, IsBeam_eq, within_eq]
  simp only [Option.bind_some]
  cases hb : bg W H x y with
  | false => exact ⟨by simp, by simp⟩
  | true =>
    by_cases c : 0 ≤ s ∧ s ≤ 300
    · obtain ⟨n1, n2, n3⟩ := fwN_is W H ⟨x, y, r, u⟩ s (fun _ => false) c.1
      rw [decide_eq_true c, if_pos (show true = true ∧ 0 ≤ s ∧ s ≤ 300 from ⟨rfl, c⟩)]
      unfold plN
      generalize fwN W H ⟨x, y, r, u⟩ s (fun _ => false) = N at n1 n2 n3 ⊢
      obtain ⟨e1, _⟩ := run_eq r u (bg_of hb) s N k (by omega) (by omega) n3 n2
      have hl : (((List.range (N + 1)).map fun j => (fwSt W H ⟨x, y, r, u⟩ j).1).length : Int) = ((N + 1 : Nat) : Int) := by simp
      refine ⟨?_, by simp⟩
      simp only [Bool.and_self, if_true, e1, Option.bind_some, hl]
      exact rows_l0 r u N (by omega) (N + 1) k 0 (by omega) (by omega)
    · rw [decide_eq_false c, if_neg (show ¬ (true = true ∧ 0 ≤ s ∧ s ≤ 300) from fun h => c h.2)]
      exact ⟨by simp, by simp⟩
theorem steps_both (k : Nat) (hk : 100000 ≤ k) (W H x y : Int) (r u : Bool) :
    spec_StepsToCorner.f k W H x y r u = some (if bg W H x y = true ∧ ends W H x y r u = true then ((endN W H x y r u : Int), true) else (0, false)) ∧
    impl_StepsToCorner.f W H x y r u = some (if bg W H x y = true ∧ ends W H x y r u = true then ((endN W H x y r u : Int), true) else (0, false)) := by
  unfold spec_StepsToCorner.f impl_StepsToCorner.f impl_toCorner.f ends endN
  rw [beGood_eq, IsBeam_eq]
  simp only [Option.bind_some]
  cases hb : bg W H x y with
  | false => exact ⟨by simp, by simp⟩
  | true =>
    obtain ⟨M, hM, h1, h2, h3, _⟩ := corn_eq k hk r u (bg_of hb)
    rw [if_pos rfl, if_pos rfl, h1]
    simp only [Option.bind_some]
    cases hs : fwStop W H ⟨x, y, r, u⟩ (fwCornN W H ⟨x, y, r, u⟩) with
    | true =>
      obtain ⟨rfl, _, _⟩ := h2 hs
      have hl : (((List.range (fwCornN W H ⟨x, y, r, u⟩ + 1)).map fun j => (fwSt W H ⟨x, y, r, u⟩ j).1).length : Int) - 1 = (fwCornN W H ⟨x, y, r, u⟩ : Int) := by simp
      rw [hl, wrap_id (by omega) (by omega)]
      exact ⟨by simp, by simp⟩
    | false => exact ⟨by simp, by simp⟩

/-- The first pass, told once for both. -/
theorem first_both (k : Nat) (hk : 100000 ≤ k) (W H x y : Int) (r u : Bool) (px py : Int) : ∃ (z : Int) (d : Bool), spec_FirstPass.f k W H x y r u px py = some (z, d) ∧ impl_FirstPass.f W H x y r u px py = some (z, d) ∧
    spec_DoesPass.f k W H x y r u px py = some (d, bg W H x y && bg W H px py) ∧ impl_DoesPass.f W H x y r u px py = some (d, bg W H x y && bg W H px py) ∧
    (d = true → bg W H x y = true ∧ bg W H px py = true ∧ ∃ n : Nat, z = n ∧ (n : Int) ≤ 2 * (W * H) ∧ NoC W H x y r u n ∧ (st W H x y r u n).f0 = px ∧ (st W H x y r u n).f1 = py) := by
  unfold spec_FirstPass.f impl_FirstPass.f spec_DoesPass.f impl_DoesPass.f
  rw [bePlace_eq, areOn_eq]
  simp only [Option.bind_some]
  cases hb : bg W H x y with
  | false => exact ⟨0, false, by simp, by simp, by simp, by simp, fun h => by cases h⟩
  | true =>
    cases hp : bg W H px py with
    | false => exact ⟨0, false, by simp, by simp, by simp, by simp, fun h => by cases h⟩
    | true =>
      have t := bg_of hb
      have a := area t
      obtain ⟨z, h1, h2⟩ := pass_eq k hk r u t px py
      have hz : z ≥ 0 → ∃ n : Nat, z = n ∧ (n : Int) ≤ 2 * (W * H) ∧ NoC W H x y r u n ∧ (st W H x y r u n).f0 = px ∧ (st W H x y r u n).f1 = py := by
        intro hz
        unfold impl_firstPass.f at h2
        rw [if_pos ⟨⟨t.w1, t.w2⟩, t.h1, t.h2⟩] at h2
        have h2 := Option.some.inj h2
        by_cases c : fwHit W H ⟨x, y, r, u⟩ px py (fwPassN W H ⟨x, y, r, u⟩ px py) = true
        · rw [if_pos c] at h2
          obtain ⟨n1, n2, n3⟩ := fwN_is W H ⟨x, y, r, u⟩ (2 * W * H) (fwHit W H ⟨x, y, r, u⟩ px py) (by rw [Int.mul_assoc]; omega)
          unfold fwPassN at c h2
          rw [Int.mul_assoc] at n1
          rw [Int.mul_assoc] at n3 c h2
          generalize fwN W H ⟨x, y, r, u⟩ (2 * (W * H)) (fwHit W H ⟨x, y, r, u⟩ px py) = N at n1 n3 c h2
          unfold fwHit at c
          rw [Bool.and_eq_true, decide_eq_true_eq, decide_eq_true_eq] at c
          refine ⟨N, h2.symm, n1, fun j j0 j1 => ?_, c.1, c.2⟩
          rcases (n3 j j1).2.2 with h | h
          · omega
          · exact h
        · rw [if_neg c] at h2; omega
      refine ⟨if z ≥ 0 then z else 0, decide (z ≥ 0), ?_, ?_, ?_, ?_, ?_⟩
      · simp only [Bool.and_self, if_true, h1, Option.bind_some]
        by_cases c : z < 0
        · rw [if_pos c, if_neg (by omega), decide_eq_false (by omega)]
        · rw [if_neg c, if_pos (by omega), decide_eq_true (by omega)]
      · simp only [Bool.and_self, if_true, h2, Option.bind_some]
        unfold mx
        by_cases c : z ≥ 0
        · rw [if_pos c]
          by_cases c0 : 0 < z
          · rw [if_pos c0]
          · rw [if_neg c0, show z = 0 by omega]
        · rw [if_neg c, if_neg (by omega)]
      · simp [h1]
      · simp [h2]
      · intro hd
        have hz0 := of_decide_eq_true hd
        rw [if_pos hz0]
        exact ⟨rfl, rfl, hz hz0⟩

theorem u64_lo (n : Int) : 0 ≤ IntKind.u64.wrap n ∧ IntKind.u64.wrap n < 18446744073709551616 := by rw [IntKind.wrap_u64]; omega
theorem mask8 (s : Int) (h0 : 0 ≤ s) (h1 : s < 18446744073709551616) : Go.bits .and .u64 (s / 1099511627776) 255 = s / 1099511627776 % 256 :=
  bits_mask .u64 24 (by decide) (fun n h0 h1 => by rw [IntKind.wrap_u64]; omega) 8 (by decide) _ (by omega) (by omega)
/-- Bytes, not too many. -/
def Bytes (l : List Int) : Prop := l.length ≤ 1048576 ∧ ∀ x ∈ l, 0 ≤ x ∧ x ≤ 255
theorem next_tot {l : List Int} (hl : Bytes l) {p s : Int} (h0 : 0 ≤ p) (h1 : p ≤ 1073741824) : ∃ x s', spec_l1Cur_next.f l p s = some (x, p + 1, s') ∧ 0 ≤ x ∧ x ≤ 255 := by
  have w : wrap64 (p + 1) = p + 1 := wrap_id (by omega) (by omega)
  unfold spec_l1Cur_next.f
  by_cases c : p < (l.length : Int)
  · rw [if_pos c, if_pos h0]
    have hm : 0 ≤ rd l p ∧ rd l p ≤ 255 := by
      have hlt : p.toNat < l.length := by omega
      have e : rd l p = l[p.toNat] := by
        show l.getD p.toNat 0 = _
        rw [List.getD_eq_getElem?_getD, List.getElem?_eq_getElem hlt]
        rfl
      rw [e]
      exact hl.2 _ (List.getElem_mem hlt)
    have wr : wrap64 (rd l p) = rd l p := wrap_id (by omega) (by omega)
    rw [w, wr, if_pos (by omega)]
    exact ⟨_, _, rfl, hm.1, hm.2⟩
  · rw [if_neg c, w]
    by_cases c2 : p + 1 ≤ (l.length : Int)
    · rw [if_pos c2]
      exact ⟨_, _, rfl, by omega, by omega⟩
    · rw [if_neg c2]
      have z := u64_lo (IntKind.u64.wrap (IntKind.u64.wrap (s * 6364136223846793005) + 0) + 1442695040888963407)
      refine ⟨_, _, rfl, ?_⟩
      rw [mask8 _ z.1 z.2, wrap_id (by omega) (by omega)]
      omega
theorem tmod_in {x n : Int} (hx : 0 ≤ x) (hn : 0 < n) : 0 ≤ Int.tmod x n ∧ Int.tmod x n < n := ⟨Int.tmod_nonneg _ hx, Int.tmod_lt_of_pos _ hn⟩
theorem pick_tot {l : List Int} (hl : Bytes l) {p s : Int} (n : Int) (h0 : 0 ≤ p) (h1 : p ≤ 1000000000) : ∃ x q s', spec_l1Cur_pick.f l p s n = some (x, q, s') ∧ 0 ≤ x ∧ (x < n ∨ x = 0) ∧ p ≤ q ∧ q ≤ p + 2 := by
  unfold spec_l1Cur_pick.f
  by_cases c : n ≤ 1
  · rw [if_pos c]
    exact ⟨0, p, s, rfl, by omega, .inr rfl, by omega, by omega⟩
  rw [if_neg c]
  obtain ⟨x, s1, e1, x0, x1⟩ := next_tot hl (p := p) (s := s) h0 (by omega)
  rw [e1]
  simp only [Option.bind_some]
  by_cases c2 : n > 200
  · rw [if_pos c2]
    obtain ⟨y, s2, e2, y0, y1⟩ := next_tot hl (p := p + 1) (s := s1) (by omega) (by omega)
    rw [e2]
    simp only [Option.bind_some]
    rw [if_neg (by omega), wrap_id (n := x * 256) (by omega) (by omega), wrap_id (n := x * 256 + y) (by omega) (by omega)]
    have z := tmod_in (x := x * 256 + y) (n := n) (by omega) (by omega)
    exact ⟨_, _, _, rfl, z.1, .inl z.2, by omega, by omega⟩
  · rw [if_neg c2, if_neg (by omega)]
    have z := tmod_in (x := x) (n := n) (by omega) (by omega)
    exact ⟨_, _, _, rfl, z.1, .inl z.2, by omega, by omega⟩
theorem one_tot {l : List Int} (hl : Bytes l) {p s : Int} (n : Int) (h0 : 0 ≤ p) (h1 : p ≤ 1000000000) : ∃ b q s', spec_l1Cur_one.f l p s n = some (b, q, s') ∧ p ≤ q ∧ q ≤ p + 2 := by
  obtain ⟨x, q, s', e, _, _, a, b⟩ := pick_tot hl (s := s) n h0 h1
  exact ⟨_, q, s', by unfold spec_l1Cur_one.f; rw [e]; rfl, a, b⟩
theorem among_tot {l : List Int} (hl : Bytes l) {p s : Int} (m : List Int) (hm : 0 < m.length) (h0 : 0 ≤ p) (h1 : p ≤ 1000000000) : ∃ x q s', spec_l1Cur_among.f l p s m = some (x, q, s') ∧ p ≤ q ∧ q ≤ p + 2 := by
  obtain ⟨x, q, s', e, x0, x1, a, b⟩ := pick_tot hl (s := s) (m.length : Int) h0 h1
  refine ⟨rd m x, q, s', ?_, a, b⟩
  unfold spec_l1Cur_among.f
  rw [e]
  simp only [Option.bind_some]
  rw [if_pos x0, if_pos (by omega)]

theorem table_tot {l : List Int} (hl : Bytes l) {p s : Int} (h0 : 0 ≤ p) (h1 : p ≤ 1000000) : ∃ a b q s', spec_l1Cur_table.f l p s = some (a, b, q, s') ∧ p ≤ q ∧ q ≤ p + 8 := by
  obtain ⟨x1, q1, s1, e1, _, _, a1, b1⟩ := pick_tot hl (s := s) 9 h0 (by omega)
  obtain ⟨x2, q2, s2, e2, _, _, a2, b2⟩ := pick_tot hl (p := q1) (s := s1) 9 (by omega) (by omega)
  obtain ⟨x3, q3, s3, e3, _, _, a3, b3⟩ := pick_tot hl (p := q2) (s := s2) 20 (by omega) (by omega)
  obtain ⟨x4, q4, s4, e4, a4, b4⟩ := among_tot hl (p := q3) (s := s3) [(-1), 0, 1, 60, 61, 4611686018427387904] (by decide) (by omega) (by omega)
  unfold spec_l1Cur_table.f spec_l1Cur_sureTable.f
  simp only [e1, e2, e3, e4, Option.bind_some]
  by_cases c : x3 = 0
  · rw [if_pos c]
    exact ⟨_, _, _, _, rfl, by omega, by omega⟩
  · rw [if_neg c]
    by_cases c2 : x3 = 1
    · rw [if_pos c2]
      exact ⟨_, _, _, _, rfl, by omega, by omega⟩
    · rw [if_neg c2]
      exact ⟨_, _, _, _, rfl, by omega, by omega⟩
theorem most_tot (a b : Int) : ∃ z, spec_l1Most.f a b = some z := by
  unfold spec_l1Most.f
  split <;> exact ⟨_, rfl⟩
theorem least_tot (a b : Int) : ∃ z, spec_l1Least.f a b = some z := by
  unfold spec_l1Least.f
  split <;> exact ⟨_, rfl⟩
theorem beam_tot {l : List Int} (hl : Bytes l) {p s : Int} (h0 : 0 ≤ p) (h1 : p ≤ 100000) : ∃ a b c d e f q s', spec_l1Cur_beam.f l p s = some (a, b, c, d, e, f, q, s') ∧ p ≤ q ∧ q ≤ p + 30 := by
  obtain ⟨a, b, q1, s1, e1, a1, b1⟩ := table_tot hl (s := s) h0 (by omega)
  obtain ⟨m1, f1⟩ := most_tot 0 a
  obtain ⟨m2, f2⟩ := least_tot 60 m1
  obtain ⟨x2, q2, s2, e2, _, _, a2, b2⟩ := pick_tot hl (p := q1) (s := s1) (wrap64 (m2 + 1)) (by omega) (by omega)
  obtain ⟨m3, f3⟩ := most_tot 0 b
  obtain ⟨m4, f4⟩ := least_tot 60 m3
  obtain ⟨x3, q3, s3, e3, _, _, a3, b3⟩ := pick_tot hl (p := q2) (s := s2) (wrap64 (m4 + 1)) (by omega) (by omega)
  obtain ⟨x4, q4, s4, e4, a4, b4⟩ := one_tot hl (p := q3) (s := s3) 2 (by omega) (by omega)
  obtain ⟨x5, q5, s5, e5, a5, b5⟩ := one_tot hl (p := q4) (s := s4) 2 (by omega) (by omega)
  obtain ⟨x6, q6, s6, e6, _, _, a6, b6⟩ := pick_tot hl (p := q5) (s := s5) 14 (by omega) (by omega)
  obtain ⟨x7, q7, s7, e7, a7, b7⟩ := among_tot hl (p := q6) (s := s6) [(-1), 0, 9, 61, 4611686018427387904] (by decide) (by omega) (by omega)
  unfold spec_l1Cur_beam.f
  simp only [e1, f1, f2, e2, f3, f4, e3, e4, e5, e6, e7, Option.bind_some]
  by_cases c : x6 = 0
  · rw [if_pos c]
    exact ⟨_, _, _, _, _, _, _, _, rfl, by omega, by omega⟩
  · rw [if_neg c]
    by_cases c2 : x6 = 1
    · rw [if_pos c2]
      exact ⟨_, _, _, _, _, _, _, _, rfl, by omega, by omega⟩
    · rw [if_neg c2]
      by_cases c3 : x6 = 2
      · rw [if_pos c3]
        exact ⟨_, _, _, _, _, _, _, _, rfl, by omega, by omega⟩
      · rw [if_neg c3]
        by_cases c4 : x6 = 3
        · rw [if_pos c4]
          exact ⟨_, _, _, _, _, _, _, _, rfl, by omega, by omega⟩
        · rw [if_neg c4]
          exact ⟨_, _, _, _, _, _, _, _, rfl, by omega, by omega⟩

section
variable {l1 : List Int} {x21 : List (List Int)} {x25 : Int} {x26 : Bool} {x29 : Int} {x30 : Bool} {x33 : Int} {x34 : Bool} {x42 : ByteArray} {x44 x48 x49 : Int}
variable {W H x y : Int} {r u : Bool} {b1 b2 : Int} {b3 b4 : Bool}
theorem jSize_eq {a : Int} (h1 : -1000000 ≤ a) (h2 : a ≤ 1000000) : laws_jSize.f a = some (a.natAbs : Int) := by
  unfold laws_jSize.f
  by_cases c : a < 0
  · rw [if_pos c, wrap_id (by omega) (by omega)]
    congr 1; omega
  · rw [if_neg c]
    congr 1; omega
theorem j5_is (k : Nat) (i : Int) : laws_FnBeamsGo.j5 (k + 1) l1 x21 x25 x26 x29 x30 x33 x34 x42 x44 i x48 x49 false W H x y r u b1 b2 b3 b4 = laws_FnBeamsGo.j6 k l1 x21 x25 x26 x29 x30 x33 x34 x42 x44 i x48 x49 (ons W x48 && ons H x49) W H x y r u b1 b2 b3 b4 := by
  simp only [laws_FnBeamsGo.j5, Bool.false_eq_true, if_false]
  rw [show (x49 == H) = decide (x49 = H) from rfl]
  unfold ons
  by_cases c1 : x48 = 0 <;> by_cases c2 : x49 = 0 <;> by_cases c3 : x48 = W <;> simp [c1, c2, c3]
theorem j6_is (k : Nat) (i : Int) {c : Bool} (hc : c = (x26 && (i == x25))) : laws_FnBeamsGo.j6 (k + 1) l1 x21 x25 x26 x29 x30 x33 x34 x42 x44 i x48 x49 c W H x y r u b1 b2 b3 b4 = laws_FnBeamsGo.j7 k l1 x21 x25 x26 x29 x30 x33 x34 x42 x44 i x48 x49 c false W H x y r u b1 b2 b3 b4 := by
  subst hc
  simp only [laws_FnBeamsGo.j6]
  cases x26 with
  | true => rw [if_pos rfl, Bool.true_and, bne_self_eq_false]
  | false => rw [if_neg (by decide), Bool.false_and, bne_self_eq_false]
theorem j7_is (k : Nat) (i : Int) (c : Bool) : laws_FnBeamsGo.j7 (k + 1) l1 x21 x25 x26 x29 x30 x33 x34 x42 x44 i x48 x49 c false W H x y r u b1 b2 b3 b4 = laws_FnBeamsGo.j8 k l1 x21 x25 x26 x29 x30 x33 x34 x42 x44 i x48 x49 (!c && (ons W x48 || ons H x49)) W H x y r u b1 b2 b3 b4 := by
  simp only [laws_FnBeamsGo.j7, Bool.false_eq_true, if_false]
  rw [show (x49 == H) = decide (x49 = H) from rfl]
  unfold ons
  cases c with
  | true => simp
  | false => by_cases c1 : x48 = 0 <;> by_cases c2 : x49 = 0 <;> by_cases c3 : x48 = W <;> simp [c1, c2, c3]
theorem j8_no (k : Nat) (i : Int) : laws_FnBeamsGo.j8 (k + 1) l1 x21 x25 x26 x29 x30 x33 x34 x42 x44 i x48 x49 false W H x y r u b1 b2 b3 b4 = laws_FnBeamsGo.j9 k l1 x21 x25 x26 x29 x30 x33 x34 x42 x44 i x48 x49 W H x y r u b1 b2 b3 b4 := by
  simp only [laws_FnBeamsGo.j8, Bool.false_eq_true, if_false]
theorem j8_yes (k : Nat) (i : Int) (h0 : 0 ≤ x44) (h1 : x44 < (x42.size : Int)) (hr : bt x42 x44 = 114 → x48 = W) (hl : bt x42 x44 = 108 → x48 = 0) (hu : bt x42 x44 = 117 → x49 = H) (hd : bt x42 x44 = 100 → x49 = 0) :
    laws_FnBeamsGo.j8 (k + 1) l1 x21 x25 x26 x29 x30 x33 x34 x42 x44 i x48 x49 true W H x y r u b1 b2 b3 b4 = laws_FnBeamsGo.j9 k l1 x21 x25 x26 x29 x30 x33 x34 x42 (wrap64 (x44 + 1)) i x48 x49 W H x y r u b1 b2 b3 b4 := by
  simp only [laws_FnBeamsGo.j8, if_true]
  rw [if_neg (show ¬ x44 ≥ (x42.size : Int) by omega), if_pos h0, if_pos h1]
  generalize bt x42 x44 = c at hr hl hu hd
  by_cases c1 : c = 114
  · rw [if_pos c1, if_pos (hr c1), if_neg (by omega), if_neg (by omega), if_neg (by omega)]
  · rw [if_neg c1]
    by_cases c2 : c = 108
    · rw [if_pos c2, if_pos (hl c2), if_neg (by omega), if_neg (by omega)]
    · rw [if_neg c2]
      by_cases c3 : c = 117
      · rw [if_pos c3, if_pos (hu c3), if_neg (by omega)]
      · rw [if_neg c3]
        by_cases c4 : c = 100
        · rw [if_pos c4, if_pos (hd c4)]
        · rw [if_neg c4]
theorem j9_one (k : Nat) : laws_FnBeamsGo.j9 (k + 1) l1 x21 x25 x26 x29 x30 x33 x34 x42 x44 1 x48 x49 W H x y r u b1 b2 b3 b4 = laws_FnBeamsGo.l0 k l1 x21 x25 x26 x29 x30 x33 x34 x42 x44 2 W H x y r u b1 b2 b3 b4 := by
  simp only [laws_FnBeamsGo.j9]
  rw [if_neg (by decide), show wrap64 (1 + 1) = 2 by unfold wrap64; omega]
theorem j9_is (k i : Nat) (hi : i + 2 < x21.length) (hL : x21.length ≤ 1000) {p0 p1 o0 o1 : Int} (hp : rd_L4 x21 ((i + 1 : Nat) : Int) = [p0, p1]) (ho : rd_L4 x21 (i : Int) = [o0, o1])
    (bp : 0 ≤ p0 ∧ p0 ≤ 60 ∧ 0 ≤ p1 ∧ p1 ≤ 60) (bo : 0 ≤ o0 ∧ o0 ≤ 60 ∧ 0 ≤ o1 ∧ o1 ≤ 60) (bx : 0 ≤ x48 ∧ x48 ≤ 60 ∧ 0 ≤ x49 ∧ x49 ≤ 60)
    (s0 : 0 < p0 → p0 < W → x48 - p0 = p0 - o0) (s1 : 0 < p1 → p1 < H → x49 - p1 = p1 - o1) :
    laws_FnBeamsGo.j9 (k + 1) l1 x21 x25 x26 x29 x30 x33 x34 x42 x44 ((i + 2 : Nat) : Int) x48 x49 W H x y r u b1 b2 b3 b4 = laws_FnBeamsGo.l0 k l1 x21 x25 x26 x29 x30 x33 x34 x42 x44 ((i + 3 : Nat) : Int) W H x y r u b1 b2 b3 b4 := by
  have g1 : ((i + 2 : Nat) : Int) > 1 := by omega
  have g2 : (0 : Int) ≤ (i : Int) := by omega
  have g3 : (i : Int) < (x21.length : Int) := by omega
  have q0 : 0 < p0 → p0 < W → wrap64 (x48 - p0) = wrap64 (p0 - o0) := fun a b => by rw [s0 a b]
  have q1 : 0 < p1 → p1 < H → wrap64 (x49 - p1) = wrap64 (p1 - o1) := fun a b => by rw [s1 a b]
  have w2 : wrap64 (((i + 2 : Nat) : Int) - 2) = (i : Int) := by rw [wrap_id (by omega) (by omega)]; omega
  have w1 : wrap64 (((i + 2 : Nat) : Int) - 1) = ((i + 1 : Nat) : Int) := by rw [wrap_id (by omega) (by omega)]; omega
  have w3 : wrap64 (((i + 2 : Nat) : Int) + 1) = ((i + 3 : Nat) : Int) := by rw [wrap_id (by omega) (by omega)]; omega
  have e0 : ∀ a b : Int, rd [a, b] 0 = a := fun _ _ => rfl
  have e1 : ∀ a b : Int, rd [a, b] 1 = b := fun _ _ => rfl
  have l2 : ∀ a b : Int, (([a, b] : List Int).length : Int) = 2 := fun _ _ => rfl
  have z2 : (0 : Int) < 2 := by decide
  have z1 : (1 : Int) < 2 := by decide
  clear bp bo bx hL hi s0 s1
  simp only [laws_FnBeamsGo.j9, w1, w2, w3, hp, ho, e0, e1, l2]
  refine (if_pos g1).trans ((if_pos g2).trans ((if_pos g3).trans ((if_pos (by first | exact z2 | exact z1 | trivial)).trans ?_)))
  by_cases c1 : p0 > 0
  · refine (if_pos c1).trans ?_
    by_cases c2 : p0 < W
    · refine (if_pos c2).trans ((if_pos (by first | exact z2 | exact z1 | trivial)).trans ((if_pos (q0 c1 c2)).trans ?_))
      refine (if_pos (by first | exact z2 | exact z1 | trivial)).trans ?_
      by_cases c3 : p1 > 0
      · refine (if_pos c3).trans ?_
        by_cases c4 : p1 < H
        · exact (if_pos c4).trans ((if_pos (by first | exact z2 | exact z1 | trivial)).trans (if_pos (q1 c3 c4)))
        · exact if_neg c4
      · exact if_neg c3
    · refine (if_neg c2).trans ?_
      refine (if_pos (by first | exact z2 | exact z1 | trivial)).trans ?_
      by_cases c3 : p1 > 0
      · refine (if_pos c3).trans ?_
        by_cases c4 : p1 < H
        · exact (if_pos c4).trans ((if_pos (by first | exact z2 | exact z1 | trivial)).trans (if_pos (q1 c3 c4)))
        · exact if_neg c4
      · exact if_neg c3
  · refine (if_neg c1).trans ?_
    refine (if_pos (by first | exact z2 | exact z1 | trivial)).trans ?_
    by_cases c3 : p1 > 0
    · refine (if_pos c3).trans ?_
      by_cases c4 : p1 < H
      · exact (if_pos c4).trans ((if_pos (by first | exact z2 | exact z1 | trivial)).trans (if_pos (q1 c3 c4)))
      · exact if_neg c4
    · exact if_neg c3
theorem l0_is (k i : Nat) (hi : i + 1 < x21.length) (hL : x21.length ≤ 1000) {p0 p1 o0 o1 : Int} (hp : rd_L4 x21 ((i + 1 : Nat) : Int) = [p0, p1]) (ho : rd_L4 x21 (i : Int) = [o0, o1])
    (bp : 0 ≤ p0 ∧ p0 ≤ W ∧ 0 ≤ p1 ∧ p1 ≤ H) (hW : W ≤ 60) (hH : H ≤ 60) (bo : 0 ≤ o0 ∧ o0 ≤ 60 ∧ 0 ≤ o1 ∧ o1 ≤ 60) (d0 : p0 - o0 = 1 ∨ p0 - o0 = -1) (d1 : p1 - o1 = 1 ∨ p1 - o1 = -1) :
    laws_FnBeamsGo.l0 (k + 1) l1 x21 x25 x26 x29 x30 x33 x34 x42 x44 ((i + 1 : Nat) : Int) W H x y r u b1 b2 b3 b4 = laws_FnBeamsGo.j5 k l1 x21 x25 x26 x29 x30 x33 x34 x42 x44 ((i + 1 : Nat) : Int) p0 p1 false W H x y r u b1 b2 b3 b4 := by
  have w1 : wrap64 (((i + 1 : Nat) : Int) - 1) = (i : Int) := by rw [wrap_id (by omega) (by omega)]; omega
  have e0 : ∀ a b : Int, rd [a, b] 0 = a := fun _ _ => rfl
  have e1 : ∀ a b : Int, rd [a, b] 1 = b := fun _ _ => rfl
  have l2 : ∀ a b : Int, (([a, b] : List Int).length : Int) = 2 := fun _ _ => rfl
  have z2 : (0 : Int) < 2 := by decide
  have z1 : (1 : Int) < 2 := by decide
  simp only [laws_FnBeamsGo.l0, w1, hp, ho, e0, e1, l2]
  rw [if_pos (show ((i + 1 : Nat) : Int) < (x21.length : Int) by omega), if_pos (show (0 : Int) ≤ i by omega), if_pos (show (i : Int) < (x21.length : Int) by omega), if_pos (show (0 : Int) ≤ ((i + 1 : Nat) : Int) by omega), if_pos z2, if_pos z1,
    if_neg (show ¬ p0 < 0 by omega), if_neg (show ¬ p0 > W by omega), if_neg (show ¬ p1 < 0 by omega), if_neg (show ¬ p1 > H by omega), if_pos z2]
  rw [wrap_id (n := p0 - o0) (by omega) (by omega), wrap_id (n := p1 - o1) (by omega) (by omega), jSize_eq (by omega) (by omega), jSize_eq (by omega) (by omega)]
  simp only [Option.bind_some]
  rw [if_pos (show ((p0 - o0).natAbs : Int) = 1 by omega), if_pos z1, show ((p1 - o1).natAbs : Int) = 1 by omega]
  rfl
theorem l0_end (k : Nat) : laws_FnBeamsGo.l0 (k + 1) l1 x21 x25 x26 x29 x30 x33 x34 x42 (x42.size : Int) (x21.length : Int) W H x y r u b1 b2 b3 b4 = laws_FnBeamsGo.j10 k l1 x29 x30 x33 x34 W H x y r u b1 b2 b3 b4 := by
  simp only [laws_FnBeamsGo.l0]
  rw [if_neg (by omega)]
  simp
end
theorem rows_at (W H : Int) (b : S30) : ∀ n k, k < n → (plRows W H b n).getD k [] = [(fwSt W H b k).1.f0, (fwSt W H b k).1.f1] := by
  intro n
  induction n with
  | zero => intro k h; omega
  | succ n ih =>
    intro k h
    rw [plRows, List.getD_eq_getElem?_getD]
    rcases Nat.lt_or_ge k n with c | c
    · rw [List.getElem?_append_left (by rw [plRows_len]; exact c), ← List.getD_eq_getElem?_getD]
      exact ih k c
    · obtain rfl : k = n := by omega
      rw [List.getElem?_append_right (by rw [plRows_len]; exact Nat.le_refl _), plRows_len, Nat.sub_self]
      rfl
theorem rd_rows (W H : Int) (b : S30) (n k : Nat) (h : k < n) : rd_L4 (plRows W H b n) (k : Int) = [(fwSt W H b k).1.f0, (fwSt W H b k).1.f1] := rows_at W H b n k h
theorem same_rows (k : Nat) (l : List (List Int)) (hl : l.length ≤ 1000) (hx : ∀ z ∈ l, z.length ≤ 2) (hk : 1100 ≤ k) : laws_jRows.f k l l = some true := by
  have one : ∀ (z : List Int), z.length ≤ 2 → ∀ (d i k : Nat), i + d = z.length → d < k → laws_jSame.l0 k z z (z.length : Int) (i : Int) = some true := by
    intro z hz d
    induction d with
    | zero =>
      intro i k hi hk
      obtain ⟨k, rfl⟩ : ∃ m, k = m + 1 := ⟨k - 1, by omega⟩
      simp only [laws_jSame.l0]
      rw [if_neg (by omega)]
    | succ d ih =>
      intro i k hi hk
      obtain ⟨k, rfl⟩ : ∃ m, k = m + 1 := ⟨k - 1, by omega⟩
      have w1 : wrap64 ((i : Int) + 1) = ((i + 1 : Nat) : Int) := by rw [wrap_id (by omega) (by omega)]; omega
      simp only [laws_jSame.l0, w1]
      rw [if_pos (by omega), if_pos (by omega), if_pos (by omega), if_pos (by omega), if_pos trivial]
      exact ih (i + 1) k (by omega) (by omega)
  have all : ∀ (d i k : Nat), i + d = l.length → d + 10 < k → laws_jRows.l0 k l l (l.length : Int) (i : Int) = some true := by
    intro d
    induction d with
    | zero =>
      intro i k hi hk
      obtain ⟨k, rfl⟩ : ∃ m, k = m + 1 := ⟨k - 1, by omega⟩
      simp only [laws_jRows.l0]
      rw [if_neg (by omega)]
    | succ d ih =>
      intro i k hi hk
      obtain ⟨k, rfl⟩ : ∃ m, k = m + 1 := ⟨k - 1, by omega⟩
      have w1 : wrap64 ((i : Int) + 1) = ((i + 1 : Nat) : Int) := by rw [wrap_id (by omega) (by omega)]; omega
      have hm : (rd_L4 l (i : Int)).length ≤ 2 := by
        refine hx _ ?_
        show l.getD i [] ∈ l
        rw [List.getD_eq_getElem?_getD, List.getElem?_eq_getElem (by omega), Option.getD_some]
        exact List.getElem_mem _
      have h1 : laws_jSame.f k (rd_L4 l (i : Int)) (rd_L4 l (i : Int)) = some true := by
        unfold laws_jSame.f
        rw [if_pos rfl]
        exact one _ hm (rd_L4 l (i : Int)).length 0 k (by omega) (by omega)
      simp only [laws_jRows.l0, w1]
      rw [if_pos (by omega), if_pos (by omega), if_pos (by omega), if_pos (by omega), h1]
      simp only [Option.bind_some, if_true]
      exact ih (i + 1) k (by omega) (by omega)
  unfold laws_jRows.f
  rw [if_pos rfl]
  exact all l.length 0 k (by omega) (by omega)
theorem rows_two (W H : Int) (b : S30) : ∀ k, ∀ z ∈ plRows W H b k, z.length ≤ 2 := by
  intro k
  induction k with
  | zero => intro z h; cases h
  | succ k ih =>
    intro z h
    rw [plRows] at h
    rcases List.mem_append.1 h with h | h
    · exact ih z h
    · rw [List.mem_singleton] at h
      subst h
      exact Nat.le_refl _
/-- The bounces' letters lie behind each other. -/
theorem sides_app (W H : Int) (b : S30) (i : Nat) : ∀ n, i ≤ n → ∃ R : ByteArray, fwSides W H b n = fwSides W H b i ++ R := by
  intro n
  induction n with
  | zero =>
    intro h
    obtain rfl : i = 0 := by omega
    exact ⟨ByteArray.empty, ByteArray.append_empty.symm⟩
  | succ n ih =>
    intro h
    rcases Nat.lt_or_ge i (n + 1) with c | c
    · obtain ⟨R, e⟩ := ih (by omega)
      exact ⟨R ++ (fwSt W H b (n + 1)).2, by rw [fwSides, e, ByteArray.append_assoc]⟩
    · obtain rfl : i = n + 1 := by omega
      exact ⟨ByteArray.empty, ByteArray.append_empty.symm⟩
theorem bt_mid (A R : ByteArray) (c : UInt8) : bt (A ++ ⟨#[c]⟩ ++ R) (A.size : Int) = (c.toNat : Int) := by
  have hs : A.size < (A ++ ⟨#[c]⟩ ++ R).size := by
    rw [ByteArray.size_append, ByteArray.size_append]
    have : (⟨#[c]⟩ : ByteArray).size = 1 := rfl
    omega
  unfold bt
  rw [Int.toNat_natCast, dif_pos hs]
  congr 2
  have h1 : A.size < (A ++ ⟨#[c]⟩ : ByteArray).size := by
    rw [ByteArray.size_append]
    have : (⟨#[c]⟩ : ByteArray).size = 1 := rfl
    omega
  rw [ByteArray.getElem_append_left h1, ByteArray.getElem_append_right (Nat.le_refl _)]
  simp only [Nat.sub_self]
  rfl
theorem sides_zero (W H : Int) (b : S30) : (fwSides W H b 0).size = 0 := by
  show ((⟨#[]⟩ : ByteArray) ++ ⟨#[]⟩).size = 0
  rw [ByteArray.size_append]
  rfl
theorem sides_le {W H x y : Int} (r u : Bool) (t : OnT W H x y) (n : Nat) (hc : NoC W H x y r u n) : (fwSides W H ⟨x, y, r, u⟩ n).size ≤ n := by
  induction n with
  | zero => rw [sides_zero]; exact Nat.le_refl _
  | succ n ih =>
    have h := ih (fun j h1 h2 => hc j h1 (by omega))
    have s := (st_step r u t n hc).2.2.2.1
    rw [fwSides, ByteArray.size_append, s]
    have : (if (ons W (st W H x y r u (n + 1)).f0 && ons H (st W H x y r u (n + 1)).f1) = true then (⟨#[]⟩ : ByteArray) else sideB W H (st W H x y r u (n + 1)).f0 (st W H x y r u (n + 1)).f1).size ≤ 1 := by
      split
      · exact Nat.zero_le _
      · exact side_size
    omega
section
variable {l1 : List Int} {b1 b2 : Int} {b3 b4 : Bool}
/-- One step of the law's own loop. -/
theorem loop_step {W H x y : Int} (r u : Bool) (t : OnT W H x y) (N : Nat) (hN : N ≤ 300) (hc : NoC W H x y r u N) {x29 x33 : Int} {x30 x34 : Bool} (j k : Nat) (hj : j < N) :
    laws_FnBeamsGo.l0 (k + 6) l1 (plRows W H ⟨x, y, r, u⟩ (N + 1)) (if ends W H x y r u = true then (endN W H x y r u : Int) else 0) (ends W H x y r u) x29 x30 x33 x34 (fwSides W H ⟨x, y, r, u⟩ N) ((fwSides W H ⟨x, y, r, u⟩ j).size : Int) ((j + 1 : Nat) : Int) W H x y r u b1 b2 b3 b4 =
    laws_FnBeamsGo.l0 k l1 (plRows W H ⟨x, y, r, u⟩ (N + 1)) (if ends W H x y r u = true then (endN W H x y r u : Int) else 0) (ends W H x y r u) x29 x30 x33 x34 (fwSides W H ⟨x, y, r, u⟩ N) ((fwSides W H ⟨x, y, r, u⟩ (j + 1)).size : Int) ((j + 2 : Nat) : Int) W H x y r u b1 b2 b3 b4 := by
  have hc1 : NoC W H x y r u (j + 1) := fun i h1 h2 => hc i h1 (by omega)
  have o0 := st_on r u t j (fun i h1 h2 => hc i h1 (by omega))
  have o1 := st_on r u t (j + 1) hc1
  have s := st_step r u t j hc1
  have cor := cor_at r u t (Nat.succ_pos j) hc1
  have lenR : (plRows W H ⟨x, y, r, u⟩ (N + 1)).length = N + 1 := plRows_len _ _ _ _
  have hp := rd_rows W H ⟨x, y, r, u⟩ (N + 1) (j + 1) (by omega)
  have ho := rd_rows W H ⟨x, y, r, u⟩ (N + 1) j (by omega)
  obtain ⟨q1, q2, q3, q4, q5, q6, q7, q8⟩ := o0
  obtain ⟨_, _, _, _, p5, p6, p7, p8⟩ := o1
  have g0 := sg_abs (st W H x y r u j).f2
  have g1 := sg_abs (st W H x y r u j).f3
  have s0 := s.1
  have s1 := s.2.1
  have str : ∀ i, j = i + 1 → _ := fun i hi => straight r u t i (fun a h1 h2 => hc a h1 (by omega))
  obtain ⟨X, hX⟩ : ∃ X, (st W H x y r u (j + 1)).f0 = X := ⟨_, rfl⟩
  obtain ⟨Y, hY⟩ : ∃ Y, (st W H x y r u (j + 1)).f1 = Y := ⟨_, rfl⟩
  have hp' : rd_L4 (plRows W H ⟨x, y, r, u⟩ (N + 1)) ((j + 1 : Nat) : Int) = [X, Y] := by rw [hp, ← hX, ← hY]
  obtain ⟨P, hP⟩ : ∃ P, (st W H x y r u j).f0 = P := ⟨_, rfl⟩
  obtain ⟨Q, hQ⟩ : ∃ Q, (st W H x y r u j).f1 = Q := ⟨_, rfl⟩
  have ho' : rd_L4 (plRows W H ⟨x, y, r, u⟩ (N + 1)) (j : Int) = [P, Q] := by rw [ho, ← hP, ← hQ]
  have side := s.2.2.2.1
  have corX := s.2.2.1
  rw [hX, hY] at side corX
  rw [hX] at s0 p5 p6
  rw [hY] at s1 p7 p8
  rw [hP] at s0 q5 q6
  rw [hQ] at s1 q7 q8
  rw [l0_is (k + 5) j (by omega) (by omega) hp' ho' ⟨p5, p6, p7, p8⟩ q2 q4 ⟨q5, by omega, q7, by omega⟩ (by omega) (by omega), j5_is, ← corX]
  rw [j6_is (k + 3) _ (c := fwCor W H (st W H x y r u (j + 1))) (by
    rw [cor]
    cases ends W H x y r u with
    | true =>
      rw [if_pos rfl, Bool.true_and, Bool.true_and]
      rw [Bool.eq_iff_iff, decide_eq_true_eq, beq_iff_eq]
      omega
    | false => rfl), j7_is]
  -- whether it bounces, the letter, and how many there are then
  have n9 : ∀ z : Int, laws_FnBeamsGo.j9 (k + 1) l1 (plRows W H ⟨x, y, r, u⟩ (N + 1)) (if ends W H x y r u = true then (endN W H x y r u : Int) else 0) (ends W H x y r u) x29 x30 x33 x34 (fwSides W H ⟨x, y, r, u⟩ N) z ((j + 1 : Nat) : Int) X Y W H x y r u b1 b2 b3 b4 =
      laws_FnBeamsGo.l0 k l1 (plRows W H ⟨x, y, r, u⟩ (N + 1)) (if ends W H x y r u = true then (endN W H x y r u : Int) else 0) (ends W H x y r u) x29 x30 x33 x34 (fwSides W H ⟨x, y, r, u⟩ N) z ((j + 2 : Nat) : Int) W H x y r u b1 b2 b3 b4 := by
    intro z
    rcases Nat.eq_zero_or_pos j with h | h
    · subst h
      exact j9_one k
    · obtain ⟨i, rfl⟩ : ∃ i, j = i + 1 := ⟨j - 1, by omega⟩
      have ss := str i rfl
      have o2 := st_on r u t i (fun a h1 h2 => hc a h1 (by omega))
      have hoo := rd_rows W H ⟨x, y, r, u⟩ (N + 1) i (by omega)
      obtain ⟨_, _, _, _, v5, v6, v7, v8⟩ := o2
      have v6' : (fwSt W H ⟨x, y, r, u⟩ i).1.f0 ≤ 60 := Int.le_trans v6 q2
      have v8' : (fwSt W H ⟨x, y, r, u⟩ i).1.f1 ≤ 60 := Int.le_trans v8 q4
      rw [show i + 1 + 1 = i + 2 from rfl] at hX hY
      rw [hX, hY, hP, hQ] at ss
      exact j9_is k i (by omega) (by omega) ho' hoo ⟨q5, by omega, q7, by omega⟩ ⟨v5, v6', v7, v8'⟩ ⟨p5, by omega, p7, by omega⟩ ss.1 ss.2
  have app : fwSides W H ⟨x, y, r, u⟩ (j + 1) = fwSides W H ⟨x, y, r, u⟩ j ++ (fwSt W H ⟨x, y, r, u⟩ (j + 1)).2 := rfl
  by_cases cb : (!fwCor W H (st W H x y r u (j + 1)) && (ons W X || ons H Y)) = true
  · rw [cb]
    rw [Bool.and_eq_true, Bool.not_eq_true'] at cb
    rw [corX] at cb
    have sd : ∃ c : UInt8, (fwSt W H ⟨x, y, r, u⟩ (j + 1)).2 = ⟨#[c]⟩ ∧ (c.toNat = 114 → X = W) ∧ (c.toNat = 108 → X = 0) ∧ (c.toNat = 117 → Y = H) ∧ (c.toNat = 100 → Y = 0) := by
      rw [side, if_neg (by rw [cb.1]; decide)]
      have hon := cb.2
      unfold ons at hon
      unfold sideB
      by_cases c1 : X = W
      · exact ⟨114, by rw [if_pos c1], fun _ => c1, fun h => absurd h (by decide), fun h => absurd h (by decide), fun h => absurd h (by decide)⟩
      · by_cases c2 : X = 0
        · exact ⟨108, by rw [if_neg c1, if_pos c2], fun h => absurd h (by decide), fun _ => c2, fun h => absurd h (by decide), fun h => absurd h (by decide)⟩
        · by_cases c3 : Y = H
          · exact ⟨117, by rw [if_neg c1, if_neg c2, if_pos c3], fun h => absurd h (by decide), fun h => absurd h (by decide), fun _ => c3, fun h => absurd h (by decide)⟩
          · by_cases c4 : Y = 0
            · exact ⟨100, by rw [if_neg c1, if_neg c2, if_neg c3, if_pos c4], fun h => absurd h (by decide), fun h => absurd h (by decide), fun h => absurd h (by decide), fun _ => c4⟩
            · simp [c1, c2, c3, c4] at hon
    obtain ⟨c, e, hr, hl, hu, hd⟩ := sd
    obtain ⟨R, eR⟩ := sides_app W H ⟨x, y, r, u⟩ (j + 1) N (by omega)
    have hb : bt (fwSides W H ⟨x, y, r, u⟩ N) ((fwSides W H ⟨x, y, r, u⟩ j).size : Int) = (c.toNat : Int) := by
      rw [eR, app, e]
      exact bt_mid _ _ _
    have hz : (fwSides W H ⟨x, y, r, u⟩ (j + 1)).size = (fwSides W H ⟨x, y, r, u⟩ j).size + 1 := by
      rw [app, e, ByteArray.size_append]
      rfl
    have hzN : (fwSides W H ⟨x, y, r, u⟩ (j + 1)).size ≤ (fwSides W H ⟨x, y, r, u⟩ N).size := by
      rw [eR, ByteArray.size_append]
      omega
    have hzl := sides_le r u t (j + 1) (fun a h1 h2 => hc1 a h1 h2)
    rw [j8_yes (k + 1) _ (by omega) (by omega) (by rw [hb]; intro h; exact hr (by omega)) (by rw [hb]; intro h; exact hl (by omega)) (by rw [hb]; intro h; exact hu (by omega)) (by rw [hb]; intro h; exact hd (by omega))]
    rw [wrap_id (by omega) (by omega), n9, hz]
    congr 1
  · have cb' : (!fwCor W H (st W H x y r u (j + 1)) && (ons W X || ons H Y)) = false := Bool.eq_false_iff.mpr cb
    rw [cb', j8_no (k + 1), n9]
    have e : (fwSt W H ⟨x, y, r, u⟩ (j + 1)).2 = ⟨#[]⟩ := by
      rw [side]
      by_cases c0 : (ons W X && ons H Y) = true
      · rw [if_pos c0]
      · rw [if_neg c0]
        rw [corX, Bool.eq_false_iff.mpr c0] at cb'
        unfold ons at cb'
        unfold sideB
        by_cases c1 : X = W
        · simp [c1] at cb'
        · by_cases c2 : X = 0
          · simp [c2] at cb'
          · by_cases c3 : Y = H
            · simp [c3] at cb'
            · by_cases c4 : Y = 0
              · simp [c4] at cb'
              · rw [if_neg c1, if_neg c2, if_neg c3, if_neg c4]
    rw [app, e, ByteArray.size_append]
    rfl
theorem loop_all {W H x y : Int} (r u : Bool) (t : OnT W H x y) (N : Nat) (hN : N ≤ 300) (hc : NoC W H x y r u N) {x29 x33 : Int} {x30 x34 : Bool} (K : Nat)
    (hJ : ∀ k, K ≤ k → laws_FnBeamsGo.j10 k l1 x29 x30 x33 x34 W H x y r u b1 b2 b3 b4 = some true) (d : Nat) : ∀ (k j : Nat), j + d = N → K + 6 * d + 1 ≤ k →
    laws_FnBeamsGo.l0 k l1 (plRows W H ⟨x, y, r, u⟩ (N + 1)) (if ends W H x y r u = true then (endN W H x y r u : Int) else 0) (ends W H x y r u) x29 x30 x33 x34 (fwSides W H ⟨x, y, r, u⟩ N) ((fwSides W H ⟨x, y, r, u⟩ j).size : Int) ((j + 1 : Nat) : Int) W H x y r u b1 b2 b3 b4 = some true := by
  induction d with
  | zero =>
    intro k j hj hk
    obtain rfl : j = N := by omega
    obtain ⟨k, rfl⟩ : ∃ m, k = m + 1 := ⟨k - 1, by omega⟩
    have h := @l0_end l1 (plRows W H ⟨x, y, r, u⟩ (j + 1)) (if ends W H x y r u = true then (endN W H x y r u : Int) else 0) (ends W H x y r u) x29 x30 x33 x34 (fwSides W H ⟨x, y, r, u⟩ j) W H x y r u b1 b2 b3 b4 k
    rw [plRows_len] at h
    rw [h]
    exact hJ k (by omega)
  | succ d ih =>
    intro k j hj hk
    obtain ⟨k, rfl⟩ : ∃ m, k = m + 6 := ⟨k - 6, by omega⟩
    rw [loop_step r u t N hN hc j k (by omega)]
    exact ih k (j + 1) (by omega) (by omega)
end
theorem beam_eq_false (a b : Int) (c d : Bool) : (!(a == a) || (!(b == b) || (!(c == c) || (!(d == d))))) = false := by simp
/-- Behind n steps on a way without corners ahead. -/
theorem after_at {W H x y : Int} (r u : Bool) (t : OnT W H x y) (n : Nat) (hn : n ≤ 100000) (hc : NoC W H x y r u n) :
    impl_BeamAfter.f W H x y r u (n : Int) = some ((st W H x y r u n).f0, (st W H x y r u n).f1, (st W H x y r u n).f2, (st W H x y r u n).f3, true) := by
  have e : fwN W H ⟨x, y, r, u⟩ (n : Int) (fun _ => false) = n := by
    obtain ⟨n1, n2, n3⟩ := run_is (W := W) (H := H) (x := x) (y := y) r u (n : Int) (by omega)
    rcases n3 with g | g
    · omega
    · rcases Nat.lt_or_ge (fwN W H ⟨x, y, r, u⟩ (n : Int) (fun _ => false)) n with h | h
      · rw [hc _ g.1 h] at g; cases g.2
      · omega
  have hb : bg W H x y = true := decide_eq_true ⟨⟨t.w1, t.w2⟩, ⟨t.h1, t.h2⟩, ⟨t.x1, t.x2⟩, t.y1, t.y2⟩
  unfold impl_BeamAfter.f
  rw [IsBeam_eq, isSteps_eq, hb, decide_eq_true (show 0 ≤ (n : Int) ∧ (n : Int) ≤ 100000 by omega)]
  simp only [Option.bind_some, if_true]
  rw [e]
theorem after_no {W H x y : Int} (r u : Bool) (s : Int) (h : ¬ (bg W H x y = true ∧ 0 ≤ s ∧ s ≤ 100000)) : impl_BeamAfter.f W H x y r u s = some (0, 0, false, false, false) := by
  unfold impl_BeamAfter.f
  rw [IsBeam_eq, isSteps_eq]
  simp only [Option.bind_some]
  cases hb : bg W H x y with
  | false => simp
  | true => rw [decide_eq_false (fun c => h ⟨hb, c⟩)]; simp
theorem unfolded (k : Nat) (W H x y : Int) (r u : Bool) (s : Int) :
    impl_UnfoldedPlace.f (k + 1) W H x y r u s = some (if bg W H x y = true ∧ 0 ≤ s ∧ s ≤ 100000 then (x + s * sg r, y + s * sg u, true) else (0, 0, false)) ∧
    spec_UnfoldedPlace.f W H x y r u s = some (if bg W H x y = true ∧ 0 ≤ s ∧ s ≤ 100000 then (x + s * sg r, y + s * sg u, true) else (0, 0, false)) := by
  unfold impl_UnfoldedPlace.f spec_UnfoldedPlace.f
  rw [asked_eq, IsBeam_eq, isSteps_eq]
  simp only [Option.bind_some]
  cases hb : bg W H x y with
  | false => exact ⟨by simp [impl_UnfoldedPlace.j0], by simp⟩
  | true =>
    have t := bg_of hb
    by_cases c : 0 ≤ s ∧ s ≤ 100000
    · have e : ∀ b : Bool, wrap64 (s * sg b) = s * sg b := by
        intro b
        cases b <;> simp only [sg, if_true, Bool.false_eq_true, if_false] <;> exact wrap_id (by omega) (by omega)
      have b1 := t.x1; have b2 := t.x2; have b3 := t.w2; have b4 := t.y1; have b5 := t.y2; have b6 := t.h2
      have z1 : wrap64 (x + s * sg r) = x + s * sg r := by
        cases r <;> simp only [sg, if_true, Bool.false_eq_true, if_false] <;> exact wrap_id (by omega) (by omega)
      have z2 : wrap64 (y + s * sg u) = y + s * sg u := by
        cases u <;> simp only [sg, if_true, Bool.false_eq_true, if_false] <;> exact wrap_id (by omega) (by omega)
      rw [decide_eq_true c, if_pos (show true = true ∧ 0 ≤ s ∧ s ≤ 100000 from ⟨rfl, c⟩)]
      refine ⟨?_, ?_⟩
      · simp only [if_true, Bool.not_true]
        simp only [impl_UnfoldedPlace.j0, Bool.false_eq_true, if_false, sign_eq, Option.bind_some, e, z1, z2]
      · rw [Bool.and_self]
        cases r <;> cases u <;> simp only [sg, if_true, Bool.false_eq_true, if_false] <;> refine congrArg some (Prod.ext ?_ (Prod.ext ?_ rfl)) <;> (refine (wrap_id ?_ ?_).trans ?_ <;> first | omega | (show _ = _; simp only; omega))
    · rw [decide_eq_false c, if_neg (show ¬ (true = true ∧ 0 ≤ s ∧ s ≤ 100000) from fun h => c h.2)]
      exact ⟨by simp [impl_UnfoldedPlace.j0], by simp⟩
/-- The way without sides, folded. -/
def fold (W a : Int) : Int := if (a.natAbs : Int) % (2 * W) > W then 2 * W - (a.natAbs : Int) % (2 * W) else (a.natAbs : Int) % (2 * W)
theorem fold_is {W p : Int} (r : Bool) (n : Nat) (hW : 1 ≤ W) (h : Nm W p r) {X : Int} {R : Bool} (hX : Nm W X R) (hco : co W X R = (co W p r + n) % (2 * W)) : fold W (p + (n : Int) * sg r) = X := by
  have c0 := co_range hW h
  have c1 := co_range hW hX
  rw [hco] at c1
  have key : (co W p r + n) % (2 * W) = if r = true then ((p + n : Int)) % (2 * W) else (2 * W - p + n) % (2 * W) := by
    unfold co
    cases r <;> simp
  unfold fold
  cases r with
  | true =>
    rw [key, if_pos rfl] at c1
    have e : ((p + (n : Int) * sg true).natAbs : Int) = p + n := by
      have := h.lo
      simp only [sg, if_true]
      omega
    rw [e, c1.2.2.2]
    generalize (p + (n : Int)) % (2 * W) = m at c1
    by_cases g : m > W
    · rw [if_pos g, if_neg (by omega)]
    · rw [if_neg g]
      by_cases g2 : m < W
      · rw [if_pos g2]
      · rw [if_neg g2]; omega
  | false =>
    rw [key, if_neg (by decide)] at c1
    have hl := h.lo
    have hh := h.hi
    have e : (p + (n : Int) * sg false) = p - n := by
      simp only [sg, Bool.false_eq_true, if_false]
      omega
    rw [e, c1.2.2.2]
    by_cases g : (n : Int) ≤ p
    · have e2 : ((p - (n : Int)).natAbs : Int) = p - n := by omega
      rw [e2]
      by_cases g0 : p - (n : Int) = 0
      · have e3 : (2 * W - p + (n : Int)) % (2 * W) = 0 := by
          rw [show 2 * W - p + (n : Int) = 2 * W by omega, Int.emod_self]
        have z : (0 : Int) % (2 * W) = 0 := Int.zero_emod _
        rw [e3, g0, z]
        rw [if_neg (show ¬ (0 : Int) > W by omega), if_pos (show (0 : Int) < W by omega)]
      · have e3 : (2 * W - p + (n : Int)) % (2 * W) = 2 * W - p + n := Int.emod_eq_of_lt (by omega) (by omega)
        have e4 : (p - (n : Int)) % (2 * W) = p - n := Int.emod_eq_of_lt (by omega) (by omega)
        rw [e3, e4, if_neg (by omega)]
        by_cases g2 : 2 * W - p + (n : Int) < W
        · omega
        · rw [if_neg g2]; omega
    · have e2 : ((p - (n : Int)).natAbs : Int) = n - p := by omega
      have e3 : (2 * W - p + (n : Int)) % (2 * W) = ((n : Int) - p) % (2 * W) := by
        rw [show 2 * W - p + (n : Int) = ((n : Int) - p) + 2 * W by omega, Int.add_emod_right]
      rw [e2, e3]
      rw [e3] at c1
      generalize ((n : Int) - p) % (2 * W) = m at c1
      by_cases g3 : m > W
      · rw [if_pos g3, if_neg (by omega)]
      · rw [if_neg g3]
        by_cases g2 : m < W
        · rw [if_pos g2]
        · rw [if_neg g2]; omega
section
variable {W H : Int}
theorem tm_eq {a W : Int} (h0 : 0 ≤ a) (hW : 1 ≤ W) (hW2 : W ≤ 60) : wrap64 (2 * W) = 2 * W ∧ Int.tmod a (wrap64 (2 * W)) = a % (2 * W) := by
  have e : wrap64 (2 * W) = 2 * W := wrap_id (by omega) (by omega)
  rw [e]
  exact ⟨rfl, Int.tmod_eq_emod_of_nonneg h0⟩
theorem j17_is (k : Nat) (hW : 1 ≤ H) (hW2 : H ≤ 60) (X Y A B : Int) (a c : Bool) (hA : A = X) (b1 : -1000000 ≤ Y) (b2 : Y ≤ 1000000) (hB : B = fold H Y) : laws_FnBeamsGo.j17 (k + 1) X Y W H A B a c = some true := by
  simp only [laws_FnBeamsGo.j17, jSize_eq b1 b2, Option.bind_some]
  obtain ⟨e1, e2⟩ := tm_eq (a := (Y.natAbs : Int)) (by omega) hW hW2
  rw [e2, e1, if_neg (by omega)]
  unfold fold at hB
  have hm := Int.emod_lt_of_pos (Y.natAbs : Int) (show 0 < 2 * H by omega)
  have hm0 := Int.emod_nonneg (Y.natAbs : Int) (show 2 * H ≠ 0 by omega)
  by_cases g : (Y.natAbs : Int) % (2 * H) > H
  · rw [if_pos g] at hB ⊢
    rw [if_pos hA, wrap_id (by omega) (by omega), if_pos hB]
  · rw [if_neg g] at hB ⊢
    rw [if_pos hA, if_pos hB]
theorem j16_is (k : Nat) (hW : 1 ≤ W) (hW2 : W ≤ 60) (hH : 1 ≤ H) (hH2 : H ≤ 60) (X Y A B : Int) (a c q : Bool) (b1 : -1000000 ≤ X) (b2 : X ≤ 1000000) (b3 : -1000000 ≤ Y) (b4 : Y ≤ 1000000) (hA : q = true → A = fold W X) (hB : q = true → B = fold H Y) : laws_FnBeamsGo.j16 (k + 2) X Y q W H A B a c = some true := by
  simp only [laws_FnBeamsGo.j16]
  cases q with
  | false => simp
  | true =>
    rw [if_pos rfl]
    simp only [jSize_eq b1 b2, Option.bind_some]
    obtain ⟨e1, e2⟩ := tm_eq (a := (X.natAbs : Int)) (by omega) hW hW2
    have hm := Int.emod_lt_of_pos (X.natAbs : Int) (show 0 < 2 * W by omega)
    have hm0 := Int.emod_nonneg (X.natAbs : Int) (show 2 * W ≠ 0 by omega)
    have hA := hA rfl
    rw [e2, e1, if_neg (by omega)]
    unfold fold at hA
    by_cases g : (X.natAbs : Int) % (2 * W) > W
    · rw [if_pos g] at hA ⊢
      rw [wrap_id (by omega) (by omega)]
      exact j17_is k hH hH2 _ Y A B a c hA b3 b4 (hB rfl)
    · rw [if_neg g] at hA ⊢
      exact j17_is k hH hH2 _ Y A B a c hA b3 b4 (hB rfl)
end
/-- The third beam's part. -/
theorem j14_is (k : Nat) (vW vH vx vy : Int) (vr vu : Bool) (n : Int) (hk : 100000 ≤ k) :
    ∀ z, impl_BeamAfter.f vW vH vx vy vr vu n = some z → laws_FnBeamsGo.j14 (k + 4) n z.2.2.2.2 (if bg vW vH vx vy = true ∧ 0 ≤ n ∧ n ≤ 100000 then vx + n * sg vr else 0) (if bg vW vH vx vy = true ∧ 0 ≤ n ∧ n ≤ 100000 then vy + n * sg vu else 0) vW vH vx vy vr vu z.1 z.2.1 z.2.2.1 z.2.2.2.1 = some true := by
  intro z hz
  by_cases c : bg vW vH vx vy = true ∧ 0 ≤ n ∧ n ≤ 100000
  · obtain ⟨hb, c0, c1⟩ := c
    have t := bg_of hb
    obtain ⟨N, hN⟩ : ∃ N, fwN vW vH ⟨vx, vy, vr, vu⟩ n (fun _ => false) = N := ⟨_, rfl⟩
    obtain ⟨n1, n2, n3⟩ := run_is (W := vW) (H := vH) (x := vx) (y := vy) vr vu n c0
    have hz2 : z = ((st vW vH vx vy vr vu N).f0, (st vW vH vx vy vr vu N).f1, (st vW vH vx vy vr vu N).f2, (st vW vH vx vy vr vu N).f3, true) := by
      unfold impl_BeamAfter.f at hz
      rw [IsBeam_eq, isSteps_eq, hb, decide_eq_true (show 0 ≤ n ∧ n ≤ 100000 from ⟨c0, c1⟩)] at hz
      simp only [Option.bind_some, if_true, hN] at hz
      exact (Option.some.inj hz).symm
    subst hz2
    rw [hN] at n1 n2 n3
    have oN := st_on vr vu t N n2
    have o0 : OnT vW vH (st vW vH vx vy vr vu 0).f0 (st vW vH vx vy vr vu 0).f1 := st_on vr vu t 0 (fun j h1 h2 => by omega)
    have a0 : impl_BeamAfter.f vW vH vx vy vr vu 0 = some ((st vW vH vx vy vr vu 0).f0, (st vW vH vx vy vr vu 0).f1, (st vW vH vx vy vr vu 0).f2, (st vW vH vx vy vr vu 0).f3, true) := after_at vr vu t 0 (by omega) (fun j h1 h2 => by omega)
    have sb := (steps_both 100000 (Nat.le_refl _) vW vH vx vy vr vu).2
    have hbN : bg vW vH (st vW vH vx vy vr vu N).f0 (st vW vH vx vy vr vu N).f1 = true := decide_eq_true ⟨⟨oN.w1, oN.w2⟩, ⟨oN.h1, oN.h2⟩, ⟨oN.x1, oN.x2⟩, oN.y1, oN.y2⟩
    have hb0 : bg vW vH (st vW vH vx vy vr vu 0).f0 (st vW vH vx vy vr vu 0).f1 = true := decide_eq_true ⟨⟨o0.w1, o0.w2⟩, ⟨o0.h1, o0.h2⟩, ⟨o0.x1, o0.x2⟩, o0.y1, o0.y2⟩
    have t1 := t.w2; have t2 := t.h2; have t3 := t.x1; have t4 := t.x2; have t5 := t.y1; have t6 := t.y2; have t7 := t.w1; have t8 := t.h1
    have sgx : ∀ (p : Int) (b : Bool), wrap64 (p + n * sg b - p) = n * sg b ∧ ((n * sg b).natAbs : Int) = n ∧ -100000 ≤ n * sg b ∧ n * sg b ≤ 100000 := by
      intro p b
      have e : p + n * sg b - p = n * sg b := by omega
      rw [e]
      rcases sg_abs b with h | h <;> rw [h] <;> exact ⟨wrap_id (by omega) (by omega), by omega, by omega, by omega⟩
    have x1 := sgx vx vr
    have y1 := sgx vy vu
    simp only [laws_FnBeamsGo.j14, if_true, hb, c0, c1, and_self]
    rw [sb, a0]
    simp only [Option.bind_some, if_true, IsBeam_eq, hbN, x1.1, y1.1]
    rw [jSize_eq (by omega) (by omega), jSize_eq (by omega) (by omega)]
    simp only [Option.bind_some]
    rw [if_pos x1.2.1, y1.2.1, bne_self_eq_false]
    simp only [laws_FnBeamsGo.j15, Bool.false_eq_true, if_false]
    rw [(unfolded (k + 1) vW vH _ _ _ _ n).1]
    simp only [hb0, c0, c1, and_self, if_true, Option.bind_some]
    have nm0 := st_nm vr vu t 0 (fun j h1 h2 => by omega)
    have rx : ∀ b : Bool, -100000 ≤ n * sg b ∧ n * sg b ≤ 100000 := fun b => ⟨(sgx 0 b).2.2.1, (sgx 0 b).2.2.2⟩
    have rx1 := rx (st vW vH vx vy vr vu 0).f2
    have rx2 := rx (st vW vH vx vy vr vu 0).f3
    -- where it has come n steps, the folded way is where it stands
    have here : (N : Int) = n → (st vW vH vx vy vr vu N).f0 = fold vW ((st vW vH vx vy vr vu 0).f0 + n * sg (st vW vH vx vy vr vu 0).f2) ∧ (st vW vH vx vy vr vu N).f1 = fold vH ((st vW vH vx vy vr vu 0).f1 + n * sg (st vW vH vx vy vr vu 0).f3) := by
      intro hn
      have nv : ∀ j, 0 < j → j < N → fwCor vW vH (vs vW vH ⟨vx, vy, vr, vu⟩ j) = false := by
        rcases Nat.eq_zero_or_pos N with h0 | h0
        · intro j h1 h2; omega
        · intro j h1 h2
          exact nocor_upto vr vu t (N - 1) (fun i i0 i1 => n2 i i0 (by omega)) (N - 1) (Nat.le_refl _) j h1 (by omega)
      have sv := st_vs vr vu t N nv
      have s0 : st vW vH vx vy vr vu 0 = vs vW vH ⟨vx, vy, vr, vu⟩ 0 := (st_vs vr vu t 0 (fun j h1 h2 => by omega)).2.2.2 (.inl rfl)
      have co_ := vs_co vr vu t N
      have nmN := vs_nm vr vu t N
      rw [s0] at nm0 ⊢
      rw [← hn]
      refine ⟨?_, ?_⟩
      · show (fwSt vW vH ⟨vx, vy, vr, vu⟩ N).1.f0 = _
        rw [sv.1]
        exact (fold_is _ N t.w1 nm0.1 nmN.1 co_.1).symm
      · show (fwSt vW vH ⟨vx, vy, vr, vu⟩ N).1.f1 = _
        rw [sv.2.1]
        exact (fold_is _ N t.h1 nm0.2 nmN.2 co_.2).symm
    have e14 := reach_end vr vu t (s := n) c0
    rw [hN] at e14
    have o1 := o0.x1; have o2 := o0.x2; have o3 := o0.y1; have o4 := o0.y2
    cases he : ends vW vH vx vy vr vu with
    | true =>
      rw [he] at e14
      simp only [true_and, if_true] at e14
      simp only [hb, and_self, if_true]
      refine j16_is k t.w1 t.w2 t.h1 t.h2 _ _ _ _ _ _ _ (by omega) (by omega) (by omega) (by omega) ?_ ?_
      · intro q
        have q := of_decide_eq_true q
        rw [if_neg (by omega)] at e14
        exact (here e14).1
      · intro q
        have q := of_decide_eq_true q
        rw [if_neg (by omega)] at e14
        exact (here e14).2
    | false =>
      rw [he] at e14
      simp only [Bool.false_eq_true, false_and, if_false] at e14
      simp only [Bool.false_eq_true, and_false, if_false]
      exact j16_is k t.w1 t.w2 t.h1 t.h2 _ _ _ _ _ _ _ (by omega) (by omega) (by omega) (by omega) (fun _ => (here e14).1) (fun _ => (here e14).2)
  · rw [after_no vr vu n c] at hz
    have := Option.some.inj hz
    subst this
    simp only [laws_FnBeamsGo.j14, Bool.false_eq_true, if_false]
theorem places_draw {l : List Int} (hl : Bytes l) : ∃ a b c d e f s, spec_DrawPlacesOfBeam.f l = some (a, b, c, d, e, f, s) := by
  obtain ⟨a, b, c, d, e, f, q1, s1, e1, a1, b1⟩ := beam_tot hl (p := 0) (s := 0) (by omega) (by omega)
  obtain ⟨x, q2, s2, e2, _, _⟩ := among_tot hl (p := q1) (s := s1) [0, 1, 2, 5, 9, 20, 40, 300, 301, -1] (by decide) (by omega) (by omega)
  unfold spec_DrawPlacesOfBeam.f
  simp only [e1, e2, Option.bind_some]
  exact ⟨_, _, _, _, _, _, _, rfl⟩
theorem first_draw {l : List Int} (hl : Bytes l) : ∃ a b c d e f x y, spec_DrawFirstPass.f l = some (a, b, c, d, e, f, x, y) := by
  obtain ⟨a, b, c, d, e, f, q1, s1, e1, a1, b1⟩ := beam_tot hl (p := 0) (s := 0) (by omega) (by omega)
  obtain ⟨m, e2⟩ := most_tot 0 a
  obtain ⟨n, e3⟩ := least_tot 60 m
  obtain ⟨x1, q2, s2, e4, _, _, a2, b2⟩ := pick_tot hl (p := q1) (s := s1) (wrap64 (n + 2)) (by omega) (by omega)
  obtain ⟨x2, q3, s3, e5, _, _, a3, b3⟩ := pick_tot hl (p := q2) (s := s2) 9 (by omega) (by omega)
  obtain ⟨m', e6⟩ := most_tot 0 b
  obtain ⟨n', e7⟩ := least_tot 60 m'
  obtain ⟨x3, q4, s4, e8, _, _, a4, b4⟩ := pick_tot hl (p := q3) (s := s3) (wrap64 (n' + 2)) (by omega) (by omega)
  unfold spec_DrawFirstPass.f
  simp only [e1, e2, e3, e4, e5, e6, e7, e8, Option.bind_some]
  exact ⟨_, _, _, _, _, _, _, _, rfl⟩
theorem after_draw {l : List Int} (hl : Bytes l) : ∃ a b c d e f s, spec_DrawBeamAfter.f l = some (a, b, c, d, e, f, s) := by
  obtain ⟨a, b, c, d, e, f, q1, s1, e1, a1, b1⟩ := beam_tot hl (p := 0) (s := 0) (by omega) (by omega)
  obtain ⟨o, q2, s2, e2, a2, b2⟩ := one_tot hl (p := q1) (s := s1) 6 (by omega) (by omega)
  unfold spec_DrawBeamAfter.f
  simp only [e1, e2, Option.bind_some]
  cases o with
  | true =>
    obtain ⟨x, q3, s3, e3, _, _⟩ := among_tot hl (p := q2) (s := s2) [-1, 0, 1000, 99999, 100000, 100001] (by decide) (by omega) (by omega)
    rw [if_pos rfl, e3]
    exact ⟨_, _, _, _, _, _, _, rfl⟩
  | false =>
    obtain ⟨x, q3, s3, e3, _⟩ := pick_tot hl (p := q2) (s := s2) 60 (by omega) (by omega)
    rw [if_neg (by simp), e3]
    exact ⟨_, _, _, _, _, _, _, rfl⟩
theorem j13_is (k : Nat) (hk : 100000 ≤ k) (uW uH ux uy : Int) (ur uu : Bool) (x5 x6 : Int) (f : Int) (d : Bool) (x9 : Int) (x68 : Bool) (x71 x72 : Int) (vW vH vx vy : Int) (vr vu : Bool) (A B : Int) (C D : Bool)
    (hf : d = true → bg uW uH ux uy = true ∧ bg uW uH x5 x6 = true ∧ ∃ n : Nat, f = n ∧ (n : Int) ≤ 2 * (uW * uH) ∧ NoC uW uH ux uy ur uu n ∧ (st uW uH ux uy ur uu n).f0 = x5 ∧ (st uW uH ux uy ur uu n).f1 = x6)
    (h14 : laws_FnBeamsGo.j14 (k + 4) x9 x68 x71 x72 vW vH vx vy vr vu A B C D = some true) :
    laws_FnBeamsGo.j13 (k + 5) x5 x6 f d x9 x68 x71 x72 false uW uH ux uy ur uu vW vH vx vy vr vu A B C D = some true := by
  simp only [laws_FnBeamsGo.j13, Bool.false_eq_true, if_false]
  cases d with
  | false => simpa using h14
  | true =>
    obtain ⟨hb, _, n, rfl, hn, hc, e0, e1⟩ := hf rfl
    have t := bg_of hb
    have a := area t
    rw [if_pos rfl, after_at ur uu t n (by omega) hc]
    simp only [Option.bind_some, if_true]
    rw [if_neg (by omega), if_pos e0, if_pos e1]
    exact h14
theorem j12_is (k : Nat) (hk : 100000 ≤ k) (l1 : List Int) (hl1 : Bytes l1) :
    laws_FnBeamsGo.j12 (k + 6) l1 = some true := by
  obtain ⟨uW, uH, ux, uy, ur, uu, x5, x6, g1⟩ := first_draw hl1
  obtain ⟨vW, vH, vx, vy, vr, vu, x9, g2⟩ := after_draw hl1
  obtain ⟨f, d, f1, f2, f3, f4, hf⟩ := first_both (k + 5) (by omega) uW uH ux uy ur uu x5 x6
  have ab := after_both (k + 5) (by omega) vW vH vx vy vr vu x9
  have up := unfolded (k + 4) vW vH vx vy vr vu x9
  obtain ⟨z, hz⟩ : ∃ z, impl_BeamAfter.f vW vH vx vy vr vu x9 = some z := by
    by_cases c : bg vW vH vx vy = true ∧ 0 ≤ x9 ∧ x9 ≤ 100000
    · unfold impl_BeamAfter.f
      rw [IsBeam_eq, isSteps_eq, c.1, decide_eq_true c.2]
      exact ⟨_, rfl⟩
    · exact ⟨_, after_no vr vu x9 c⟩
  have hz5 : z.2.2.2.2 = decide (bg vW vH vx vy = true ∧ 0 ≤ x9 ∧ x9 ≤ 100000) := by
    by_cases c : bg vW vH vx vy = true ∧ 0 ≤ x9 ∧ x9 ≤ 100000
    · unfold impl_BeamAfter.f at hz
      rw [IsBeam_eq, isSteps_eq, c.1, decide_eq_true c.2] at hz
      have := Option.some.inj hz
      rw [decide_eq_true c, ← this]
    · rw [after_no vr vu x9 c] at hz
      have := Option.some.inj hz
      rw [decide_eq_false c, ← this]
  have h14 := j14_is k vW vH vx vy vr vu x9 hk z hz
  simp only [laws_FnBeamsGo.j12, g1, g2, f1, f2, f3, f4, ab, hz, up.1, up.2, Option.bind_some, bne_self_eq_false, Bool.false_eq_true, if_false, if_true, beam_eq_false]
  have hh : bg uW uH ux uy = true → bg uW uH x5 x6 = true → (bg uW uH ux uy && bg uW uH x5 x6) = true := fun a b => by rw [a, b]; rfl
  have h13 := j13_is k hk uW uH ux uy ur uu x5 x6 f d x9 z.2.2.2.2 (if bg vW vH vx vy = true ∧ 0 ≤ x9 ∧ x9 ≤ 100000 then vx + x9 * sg vr else 0) (if bg vW vH vx vy = true ∧ 0 ≤ x9 ∧ x9 ≤ 100000 then vy + x9 * sg vu else 0) vW vH vx vy vr vu z.1 z.2.1 z.2.2.1 z.2.2.2.1 hf h14
  have hx : ((if bg vW vH vx vy = true ∧ 0 ≤ x9 ∧ x9 ≤ 100000 then (vx + x9 * sg vr, vy + x9 * sg vu, true) else (0, 0, false)).2.2 != z.2.2.2.2) = false := by
    rw [hz5]
    by_cases c : bg vW vH vx vy = true ∧ 0 ≤ x9 ∧ x9 ≤ 100000
    · rw [if_pos c, decide_eq_true c]; rfl
    · rw [if_neg c, decide_eq_false c]; rfl
  have p1 : (if bg vW vH vx vy = true ∧ 0 ≤ x9 ∧ x9 ≤ 100000 then (vx + x9 * sg vr, vy + x9 * sg vu, true) else (0, 0, false)).1 = (if bg vW vH vx vy = true ∧ 0 ≤ x9 ∧ x9 ≤ 100000 then vx + x9 * sg vr else 0) := by split <;> rfl
  have p2 : (if bg vW vH vx vy = true ∧ 0 ≤ x9 ∧ x9 ≤ 100000 then (vx + x9 * sg vr, vy + x9 * sg vu, true) else (0, 0, false)).2.1 = (if bg vW vH vx vy = true ∧ 0 ≤ x9 ∧ x9 ≤ 100000 then vy + x9 * sg vu else 0) := by split <;> rfl
  rw [hx, p1, p2]
  cases d with
  | true =>
    obtain ⟨q1, q2, _⟩ := hf rfl
    rw [hh q1 q2]
    simpa using h13
  | false => cases (bg uW uH ux uy && bg uW uH x5 x6) <;> simpa using h13
theorem places_pos (W H x y : Int) (r u : Bool) : 1 ≤ places W H x y r u := by
  unfold places
  have h : vsPt W H ⟨x, y, r, u⟩ 0 ∈ vsSet W H ⟨x, y, r, u⟩ (vsN W H ⟨x, y, r, u⟩ + 1) := (set_mem W H ⟨x, y, r, u⟩ _ _).2 ⟨0, by omega, rfl⟩
  exact List.length_pos_of_mem h
theorem places_most {W H x y : Int} (r u : Bool) (t : OnT W H x y) : ((places W H x y r u : Nat) : Int) ≤ (W + 1) * (H + 1) := by
  obtain ⟨M, hM, m3, m2, hon, hNM, hall⟩ := way_both r u t
  have hH : 1 ≤ H := t.h1
  have hs := set_count hH ⟨x, y, r, u⟩ (fun _ => true) (fun _ => true) (vsN W H ⟨x, y, r, u⟩ + 1) (fun k hk => hon k (by omega)) (fun _ _ => rfl) _ (Nat.le_refl _)
  have hf : (vsSet W H ⟨x, y, r, u⟩ (vsN W H ⟨x, y, r, u⟩ + 1)).filter (fun _ => true) = vsSet W H ⟨x, y, r, u⟩ (vsN W H ⟨x, y, r, u⟩ + 1) := List.filter_eq_self.2 (fun _ _ => rfl)
  rw [hf] at hs
  have hl := List.countP_le_length (p := fun j => decide (0 < cntI H (vsPt W H ⟨x, y, r, u⟩) j (vsN W H ⟨x, y, r, u⟩ + 1)) && true) (l := List.range ((W + 1) * (H + 1)).toNat)
  rw [List.length_range] at hl
  have h0 : 0 ≤ (W + 1) * (H + 1) := Int.mul_nonneg (by have := t.w1; omega) (by omega)
  unfold places
  omega
theorem places_period {W H x y : Int} (r u : Bool) (t : OnT W H x y) (he : ends W H x y r u = false) {p : Nat} (h0 : 0 < p) (hp : vs W H ⟨x, y, r, u⟩ p = vs W H ⟨x, y, r, u⟩ 0) : places W H x y r u ≤ p := by
  have sv := (ends_false r u t he).2
  have key : ∀ k, (vsSet W H ⟨x, y, r, u⟩ k).length ≤ k ∧ (vsSet W H ⟨x, y, r, u⟩ k).length ≤ p := by
    intro k
    induction k with
    | zero => exact ⟨Nat.le_refl _, Nat.zero_le _⟩
    | succ k ih =>
      unfold vsSet
      by_cases c : vsPt W H ⟨x, y, r, u⟩ k ∈ vsSet W H ⟨x, y, r, u⟩ k
      · rw [if_pos c]
        exact ⟨by omega, ih.2⟩
      · rw [if_neg c, List.length_cons]
        refine ⟨by omega, ?_⟩
        rcases Nat.lt_or_ge k p with h | h
        · omega
        · refine absurd ((set_mem W H ⟨x, y, r, u⟩ _ _).2 ⟨k - p, by omega, ?_⟩) c
          have e := vs_shift hp (k - p)
          rw [show k - p + p = k by omega] at e
          have a := sv k
          have b := sv (k - p)
          unfold st at a b
          unfold vsPt
          rw [a, b, e]
  exact (key _).2
theorem j11_is (k : Nat) (hk : 100000 ≤ k) (l1 : List Int) (hl1 : Bytes l1) (W H x y : Int) (r u : Bool) (per cnt : Int) (three : Bool)
    (h3 : three = true → OnT W H x y ∧ ends W H x y r u = false ∧ ∃ p : Nat, per = p ∧ 0 < p ∧ p ≤ 2 * (W.toNat * H.toNat) ∧ vs W H ⟨x, y, r, u⟩ p = vs W H ⟨x, y, r, u⟩ 0) (hcnt : three = true → cnt ≤ per) :
    laws_FnBeamsGo.j11 (k + 7) l1 per three cnt W H x y r u = some true := by
  have h12 := j12_is k hk l1 hl1
  simp only [laws_FnBeamsGo.j11]
  cases three with
  | false => simpa using h12
  | true =>
    obtain ⟨t, he, p, rfl, p0, p1, p2⟩ := h3 rfl
    have a := area t
    obtain ⟨nc, sv⟩ := ends_false r u t he
    have a0 := after_at r u t 0 (by omega) (nc 0)
    have ap := after_at r u t p (by omega) (nc p)
    have e : st W H x y r u p = st W H x y r u 0 := by rw [sv, sv, p2]
    rw [e] at ap
    have hc := hcnt rfl
    rw [if_pos rfl, show (0 : Int) = ((0 : Nat) : Int) from rfl, a0, ap]
    simp only [Option.bind_some, if_true, beam_eq_false, Bool.false_eq_true, if_false]
    rw [if_neg (by omega), if_neg (by omega)]
    exact h12
theorem j10_is (k : Nat) (hk : 100000 ≤ k) (l1 : List Int) (hl1 : Bytes l1) (W H x y : Int) (r u : Bool) (per cnt : Int) (three five : Bool) (b1 b2 : Int) (b3 b4 : Bool)
    (h3 : three = true → OnT W H x y ∧ ends W H x y r u = false ∧ ∃ p : Nat, per = p ∧ 0 < p ∧ p ≤ 2 * (W.toNat * H.toNat) ∧ vs W H ⟨x, y, r, u⟩ p = vs W H ⟨x, y, r, u⟩ 0) (hcnt : three = true → cnt ≤ per)
    (h5 : five = true → bg W H x y = true ∧ 1 ≤ cnt ∧ cnt ≤ (W + 1) * (H + 1) ∧ b1 = x ∧ b2 = y ∧ b3 = !r ∧ b4 = !u) :
    laws_FnBeamsGo.j10 (k + 8) l1 per three cnt five W H x y r u b1 b2 b3 b4 = some true := by
  have h11 := j11_is k hk l1 hl1 W H x y r u per cnt three h3 hcnt
  simp only [laws_FnBeamsGo.j10]
  cases five with
  | false => simpa using h11
  | true =>
    obtain ⟨hb, c1, c2, rfl, rfl, rfl, rfl⟩ := h5 rfl
    have t := bg_of hb
    have hbn : (W + 1) * (H + 1) ≤ 61 * 61 := Int.mul_le_mul (by have := t.w2; omega) (by have := t.h2; omega) (by have := t.h1; omega) (by omega)
    have t1 := t.w1; have t2 := t.w2; have t3 := t.h1; have t4 := t.h2
    unfold impl_BackBeam.f
    rw [IsBeam_eq, hb]
    simp only [Option.bind_some, if_true, Bool.not_not, beam_eq_false, Bool.false_eq_true, if_false]
    rw [wrap_id (n := W + 1) (by omega) (by omega), wrap_id (n := H + 1) (by omega) (by omega), wrap_id (n := (W + 1) * (H + 1)) (by omega) (by omega), if_neg (by omega), if_neg (by omega)]
    exact h11
theorem j0_good {l1 : List Int} {W H x y : Int} (r u : Bool) (t : OnT W H x y) {per cnt : Int} {three five : Bool} {b1 b2 : Int} {b3 b4 : Bool} (s : Int) (h0 : 0 ≤ s) (h1 : s ≤ 300) (K : Nat)
    (hJ : ∀ k, K ≤ k → laws_FnBeamsGo.j10 k l1 per three cnt five W H x y r u b1 b2 b3 b4 = some true) (k : Nat) (hk : K + 2000 ≤ k) :
    laws_FnBeamsGo.j0 k l1 s (plRows W H ⟨x, y, r, u⟩ (fwN W H ⟨x, y, r, u⟩ s (fun _ => false) + 1)) true (if ends W H x y r u = true then (endN W H x y r u : Int) else 0) (ends W H x y r u) per three cnt five false W H x y r u b1 b2 b3 b4 = some true := by
  obtain ⟨k, rfl⟩ : ∃ m, k = m + 4 := ⟨k - 4, by omega⟩
  have hre := reach_end r u t (s := s) h0
  have hbw : impl_BouncesWithin.f W H x y r u s = some (fwSides W H ⟨x, y, r, u⟩ (fwN W H ⟨x, y, r, u⟩ s (fun _ => false)), true) := by
    have hb : bg W H x y = true := decide_eq_true ⟨⟨t.w1, t.w2⟩, ⟨t.h1, t.h2⟩, ⟨t.x1, t.x2⟩, t.y1, t.y2⟩
    unfold impl_BouncesWithin.f
    rw [IsBeam_eq, within_eq, hb, decide_eq_true (show 0 ≤ s ∧ s ≤ 1000 by omega)]
    simp only [Option.bind_some, if_true]
  obtain ⟨n1, n2, n3⟩ := run_is (W := W) (H := H) (x := x) (y := y) r u s h0
  generalize fwN W H ⟨x, y, r, u⟩ s (fun _ => false) = N at hre hbw n1 n2 n3 ⊢
  have hloop := loop_all (l1 := l1) (b1 := b1) (b2 := b2) (b3 := b3) (b4 := b4) r u t N (by omega) n2 (x29 := per) (x33 := cnt) (x30 := three) (x34 := five) K hJ N k 0 (by omega) (by omega)
  have s00 : ((fwSides W H ⟨x, y, r, u⟩ 0).size : Int) = 0 := by rw [sides_zero]; rfl
  rw [s00] at hloop
  have len : (plRows W H ⟨x, y, r, u⟩ (N + 1)).length = N + 1 := plRows_len _ _ _ _
  have r0 := rd_rows W H ⟨x, y, r, u⟩ (N + 1) 0 (by omega)
  have z0 := st_zero W H x y r u
  unfold st at z0
  rw [z0] at r0
  have e0 : ∀ a b : Int, rd [a, b] 0 = a := fun _ _ => rfl
  have e1 : ∀ a b : Int, rd [a, b] 1 = b := fun _ _ => rfl
  have l2 : ∀ a b : Int, (([a, b] : List Int).length : Int) = 2 := fun _ _ => rfl
  have r0' : rd_L4 (plRows W H ⟨x, y, r, u⟩ (N + 1)) 0 = [x, y] := r0
  have h3 : laws_FnBeamsGo.j3 (k + 1) l1 s (plRows W H ⟨x, y, r, u⟩ (N + 1)) (if ends W H x y r u = true then (endN W H x y r u : Int) else 0) (ends W H x y r u) per three cnt five false W H x y r u b1 b2 b3 b4 = some true := by
    simp only [laws_FnBeamsGo.j3, Bool.false_eq_true, if_false, hbw, Option.bind_some, if_true]
    exact hloop
  have h2 : laws_FnBeamsGo.j2 (k + 2) l1 s (plRows W H ⟨x, y, r, u⟩ (N + 1)) (if ends W H x y r u = true then (endN W H x y r u : Int) else 0) (ends W H x y r u) per three cnt five (N : Int) W H x y r u b1 b2 b3 b4 = some true := by
    have w1 : wrap64 ((N : Int) + 1) = (((plRows W H ⟨x, y, r, u⟩ (N + 1)).length : Nat) : Int) := by rw [wrap_id (by omega) (by omega), len]; omega
    simp only [laws_FnBeamsGo.j2, w1, r0', e0, e1, l2, if_true, bne_self_eq_false]
    rw [if_pos (by omega), if_pos (by decide), if_pos (by decide)]
    exact h3
  cases he : ends W H x y r u with
  | true =>
    rw [he] at hre h2
    simp only [if_true, true_and] at hre h2
    simp only [laws_FnBeamsGo.j0, Bool.false_eq_true, if_false, if_true, laws_FnBeamsGo.j1]
    by_cases c : (endN W H x y r u : Int) < s
    · rw [if_pos c] at hre
      rw [decide_eq_true c, if_pos rfl, ← hre]
      rw [← hre] at h2
      exact h2
    · rw [if_neg c] at hre
      rw [decide_eq_false c, if_neg (by decide), ← hre]
      rw [← hre] at h2
      exact h2
  | false =>
    rw [he] at hre h2
    simp only [Bool.false_eq_true, false_and, if_false] at hre h2
    simp only [laws_FnBeamsGo.j0, Bool.false_eq_true, if_false, if_true, laws_FnBeamsGo.j1]
    rw [← hre]
    rw [← hre] at h2
    exact h2
theorem back_both (W H x y : Int) (r u : Bool) : impl_BackBeam.f W H x y r u = some (if bg W H x y = true then (x, y, !r, !u, true) else (0, 0, false, false, false)) ∧ spec_BackBeam.f W H x y r u = some (if bg W H x y = true then (x, y, !r, !u, true) else (0, 0, false, false, false)) := by
  unfold impl_BackBeam.f spec_BackBeam.f
  rw [IsBeam_eq, beGood_eq]
  simp only [Option.bind_some]
  cases bg W H x y <;> exact ⟨rfl, rfl⟩
theorem core (k : Nat) (hk : 110000 ≤ k) (l0 l1 : List Int) (hl0 : Bytes l0) (hl1 : Bytes l1) (hbig : laws_big.f l0 l1 = some false) :
    laws_FnBeamsGo.f k l0 l1 = some true := by
  obtain ⟨W, H, x, y, r, u, s, hd0⟩ := places_draw hl0
  obtain ⟨p1, p2⟩ := places_both k (by omega) W H x y r u s
  obtain ⟨q1, q2⟩ := steps_both k (by omega) W H x y r u
  obtain ⟨z, v1, v2, v3, v4⟩ := period_both k (by omega) W H x y r u
  obtain ⟨c1, c2⟩ := count_both k (by omega) W H x y r u
  obtain ⟨d1, d2⟩ := back_both W H x y r u
  have hj10 : ∀ k', 100008 ≤ k' → laws_FnBeamsGo.j10 k' l1 z.1 z.2 (if bg W H x y = true then ((places W H x y r u : Nat) : Int) else 0) (bg W H x y) W H x y r u (if bg W H x y = true then (x, y, !r, !u, true) else (0, 0, false, false, false)).1 (if bg W H x y = true then (x, y, !r, !u, true) else (0, 0, false, false, false)).2.1 (if bg W H x y = true then (x, y, !r, !u, true) else (0, 0, false, false, false)).2.2.1 (if bg W H x y = true then (x, y, !r, !u, true) else (0, 0, false, false, false)).2.2.2.1 = some true := by
    intro k' hk'
    obtain ⟨m, rfl⟩ : ∃ m, k' = m + 8 := ⟨k' - 8, by omega⟩
    refine j10_is m (by omega) l1 hl1 W H x y r u _ _ _ _ _ _ _ _ (fun h => ?_) (fun h => ?_) (fun h => ?_)
    · obtain ⟨t, he, p, e, a, b, c, _⟩ := v3 h
      exact ⟨t, he, p, e, a, b, c⟩
    · obtain ⟨t, he, p, e, a, b, c, _⟩ := v3 h
      have hb : bg W H x y = true := decide_eq_true ⟨⟨t.w1, t.w2⟩, ⟨t.h1, t.h2⟩, ⟨t.x1, t.x2⟩, t.y1, t.y2⟩
      rw [if_pos hb, e]
      have := places_period r u t he a c
      omega
    · have t := bg_of h
      rw [if_pos h, if_pos h]
      have a := places_pos W H x y r u
      exact ⟨h, by omega, places_most r u t, rfl, rfl, rfl, rfl⟩
  unfold laws_FnBeamsGo.f
  simp only [hbig, hd0, p1, p2, q1, q2, v1, v2, c1, c2, d1, d2, Option.bind_some, bne_self_eq_false, Bool.false_eq_true, if_false, if_true, beam_eq_false, IsBeam_eq, spec_IsBeam.f, beGood_eq]
  have hrows : ∀ N, N ≤ 301 → laws_jRows.f k (plRows W H ⟨x, y, r, u⟩ N) (plRows W H ⟨x, y, r, u⟩ N) = some true := fun N hN => same_rows k _ (by rw [plRows_len]; omega) (rows_two _ _ _ _) (by omega)
  have hnil : laws_jRows.f k ([] : List (List Int)) [] = some true := same_rows k [] (by simp) (by simp) (by omega)
  obtain ⟨k0, rfl⟩ : ∃ m, k = m + 1 := ⟨k - 1, by omega⟩
  cases hb : bg W H x y with
  | false =>
    have h := hj10 k0 (by omega)
    have hz : z.2 = false := by
      cases hz : z.2 with
      | false => rfl
      | true =>
        obtain ⟨t, _⟩ := v3 hz
        have : bg W H x y = true := decide_eq_true ⟨⟨t.w1, t.w2⟩, ⟨t.h1, t.h2⟩, ⟨t.x1, t.x2⟩, t.y1, t.y2⟩
        rw [hb] at this; cases this
    rw [hb, hz] at h
    simp only [Bool.false_eq_true, false_and, if_false, hnil, Option.bind_some, if_true, hz, laws_FnBeamsGo.j0, bne_self_eq_false]
    simpa using h
  | true =>
    have t := bg_of hb
    rw [hb] at hj10
    simp only [if_true] at hj10
    have hz : z.2 = !ends W H x y r u := by
      cases he : ends W H x y r u with
      | false => exact v4 hb he
      | true =>
        cases hz : z.2 with
        | false => rfl
        | true =>
          obtain ⟨_, h, _⟩ := v3 hz
          rw [he] at h; cases h
    by_cases c : 0 ≤ s ∧ s ≤ 300
    · have hN := (run_is (W := W) (H := H) (x := x) (y := y) r u s c.1).1
      have hj := j0_good r u t s c.1 c.2 100008 hj10 (k0 + 1) (by omega)
      simp only [c.1, c.2, and_self, true_and, if_true, hrows _ (show fwN W H ⟨x, y, r, u⟩ s (fun _ => false) + 1 ≤ 301 by omega), Option.bind_some, hz]
      rw [hz] at hj
      cases he : ends W H x y r u with
      | true =>
        rw [he] at hj
        simpa using hj
      | false =>
        rw [he] at hj
        simpa using hj
    · have h := hj10 k0 (by omega)
      simp only [c, and_false, true_and, if_false, hnil, Option.bind_some, if_true, hz]
      rw [hz] at h
      cases he : ends W H x y r u with
      | true =>
        rw [he] at h
        simp only [laws_FnBeamsGo.j0]
        simpa using h
      | false =>
        rw [he] at h
        simp only [laws_FnBeamsGo.j0]
        simpa using h
theorem bytes_of {l : List Int} (hl : l.length ≤ 1048576) (hw : ∀ x ∈ l, (Lit.int .u8 x).wf = true) : Bytes l := by
  refine ⟨hl, fun x hx => ?_⟩
  have h := hw x hx
  simp [Lit.wf] at h
  have e0 : IntKind.u8.min = 0 := by decide
  have e1 : IntKind.u8.max = 255 := by decide
  omega
theorem main : laws_FnBeamsGo.Pure := by
  intro l0 l1 _ _ w0 _ _ w1
  obtain ⟨k, hk⟩ : ∃ k : Nat, 110000 ≤ k := ⟨110000, Nat.le_refl _⟩
  refine ⟨k, ?_⟩
  by_cases c0 : (l0.length : Int) > 1048576
  · unfold laws_FnBeamsGo.f laws_big.f
    rw [if_pos c0]
    rfl
  by_cases c1 : (l1.length : Int) > 1048576 - (l0.length : Int)
  · unfold laws_FnBeamsGo.f laws_big.f
    rw [if_neg c0, wrap_id (by omega) (by omega), decide_eq_true c1]
    rfl
  refine core k hk l0 l1 (bytes_of (by omega) w0) (bytes_of (by omega) w1) ?_
  unfold laws_big.f
  rw [if_neg c0, wrap_id (by omega) (by omega), decide_eq_false c1]
end LFnBeamsGo

theorem FnBeamsGo : laws_FnBeamsGo.Pure := LFnBeamsGo.main

end Go.Proofs.Ythfbjofmcniogaa.Pure
