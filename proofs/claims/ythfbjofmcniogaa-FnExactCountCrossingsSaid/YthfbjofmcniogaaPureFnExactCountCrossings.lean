/- For every table and beam the program's CountCrossings and the reference's give the same; no condition beyond the numbers' kinds. -/
import Derived.Test.YthfbjofmcniogaaPFnExactCountCrossingsx11
namespace Go.Proofs.Ythfbjofmcniogaa.Pure
open Go.RowKit Go.Proofs.Ythfbjofmcniogaa.PFnExactCountCrossings Go.Proofs.YthfbjofmcniogaaW.PrintWords Go.Proofs.YthfbjofmcniogaaW.PrintLast
set_option linter.unusedVariables false
set_option linter.unusedSimpArgs false

namespace LFnExactCountCrossings
theorem within_eq (a b c : Int) : impl_within.f a b c = some (decide (b ≤ a ∧ a ≤ c)) := by
  by_cases h1 : b ≤ a <;> by_cases h2 : a ≤ c <;> simp [impl_within.f, h1, h2]

theorem l1In_eq (a b c : Int) : spec_l1In.f a b c = some (decide (b ≤ a ∧ a ≤ c)) := by
  by_cases h1 : b ≤ a <;> by_cases h2 : a ≤ c <;> simp [spec_l1In.f, h1, h2]

theorem wrap_id {n : Int} (h0 : -9223372036854775808 ≤ n) (h1 : n ≤ 9223372036854775807) : wrap64 n = n := by
  unfold wrap64
  omega

/-- A beam on a table. -/
def bg (W H x y : Int) : Bool := decide ((1 ≤ W ∧ W ≤ 60) ∧ (1 ≤ H ∧ H ≤ 60) ∧ (0 ≤ x ∧ x ≤ W) ∧ 0 ≤ y ∧ y ≤ H)
structure OnT (W H x y : Int) : Prop where
  w1 : 1 ≤ W
  w2 : W ≤ 60
  h1 : 1 ≤ H
  h2 : H ≤ 60
  x1 : 0 ≤ x
  x2 : x ≤ W
  y1 : 0 ≤ y
  y2 : y ≤ H
theorem bg_of {W H x y : Int} (h : bg W H x y = true) : OnT W H x y := by
  obtain ⟨⟨a, b⟩, ⟨c, d⟩, ⟨e, f⟩, g, i⟩ := of_decide_eq_true h
  exact ⟨a, b, c, d, e, f, g, i⟩
theorem IsTable_eq (W H : Int) : impl_IsTable.f W H = some (decide ((1 ≤ W ∧ W ≤ 60) ∧ 1 ≤ H ∧ H ≤ 60)) := by
  simp only [impl_IsTable.f, within_eq, Option.bind_some]
  by_cases h1 : 1 ≤ W ∧ W ≤ 60 <;> by_cases h2 : 1 ≤ H ∧ H ≤ 60 <;> simp [h1, h2]
theorem IsBeam_eq (W H x y : Int) (r u : Bool) : impl_IsBeam.f W H x y r u = some (bg W H x y) := by
  simp only [impl_IsBeam.f, IsTable_eq, within_eq, Option.bind_some, bg]
  by_cases h1 : 1 ≤ W ∧ W ≤ 60 <;> by_cases h2 : 1 ≤ H ∧ H ≤ 60 <;> by_cases h3 : 0 ≤ x ∧ x ≤ W <;> by_cases h4 : 0 ≤ y ∧ y ≤ H <;> simp [h1, h2, h3, h4]
theorem beGood_eq (W H x y : Int) (r u : Bool) : spec_beGood.f W H x y r u = some (bg W H x y) := by
  simp only [spec_beGood.f, spec_beTable.f, l1In_eq, Option.bind_some, bg]
  by_cases h1 : 1 ≤ W ∧ W ≤ 60 <;> by_cases h2 : 1 ≤ H ∧ H ≤ 60 <;> by_cases h3 : 0 ≤ x ∧ x ≤ W <;> by_cases h4 : 0 ≤ y ∧ y ≤ H <;> simp [h1, h2, h3, h4]

/-- One coordinate turned inward; on a side; a step. -/
def inw1 (W x : Int) (r : Bool) : Bool := decide (x = 0) || (r && decide (x < W))
def ons (W x : Int) : Bool := decide (x = 0) || decide (x = W)
def sg (b : Bool) : Int := if b = true then 1 else -1
theorem fwInw_is (W H x y : Int) (r u : Bool) : fwInw W H ⟨x, y, r, u⟩ = ⟨x, y, inw1 W x r, inw1 H y u⟩ := by
  have e : impl_inward.f W H x y r u = some (x, y, inw1 W x r, inw1 H y u) := by
    unfold impl_inward.f inw1
    cases r <;> cases u <;> by_cases h1 : x = 0 <;> by_cases h2 : y = 0 <;> simp [h1, h2]
  simp only [fwInw, e]
theorem fwCor_is (W H x y : Int) (r u : Bool) : fwCor W H ⟨x, y, r, u⟩ = (ons W x && ons H y) := by
  have e : impl_isCorner.f W H x y r u = some (ons W x && ons H y) := by
    unfold impl_isCorner.f ons
    by_cases h1 : x = 0 <;> by_cases h2 : y = 0 <;> by_cases h3 : x = W <;> by_cases h4 : y = H <;> simp [h1, h2, h3, h4]
    all_goals first | (intro h; exact absurd h.symm ‹_›) | skip
  simp only [fwCor, e, Option.getD_some]
/-- The side at which it bounces. -/
def sideB (W H x y : Int) : ByteArray := if x = W then ⟨#[114]⟩ else if x = 0 then ⟨#[108]⟩ else if y = H then ⟨#[117]⟩ else if y = 0 then ⟨#[100]⟩ else ⟨#[]⟩
theorem sign_eq (r : Bool) : impl_sign.f r = some (sg r) := by cases r <;> rfl
theorem fwNext_is (W H x y : Int) (r u : Bool) (hx : -1000 ≤ x ∧ x ≤ 1000) (hy : -1000 ≤ y ∧ y ≤ 1000) :
    fwNext W H ⟨x, y, r, u⟩ = if (ons W (x + sg r) && ons H (y + sg u)) = true then (⟨x + sg r, y + sg u, r, u⟩, ⟨#[]⟩)
      else (⟨x + sg r, y + sg u, if x + sg r = W ∨ x + sg r = 0 ∨ y + sg u = H ∨ y + sg u = 0 then inw1 W (x + sg r) r else r, if x + sg r = W ∨ x + sg r = 0 ∨ y + sg u = H ∨ y + sg u = 0 then inw1 H (y + sg u) u else u⟩, sideB W H (x + sg r) (y + sg u)) := by
  have wx : wrap64 (x + sg r) = x + sg r := by cases r <;> exact wrap_id (by simp [sg]; omega) (by simp [sg]; omega)
  have wy : wrap64 (y + sg u) = y + sg u := by cases u <;> exact wrap_id (by simp [sg]; omega) (by simp [sg]; omega)
  have e : impl_next.f W H x y r u = some (if (ons W (x + sg r) && ons H (y + sg u)) = true then (x + sg r, y + sg u, r, u, ⟨#[]⟩)
      else (x + sg r, y + sg u, if x + sg r = W ∨ x + sg r = 0 ∨ y + sg u = H ∨ y + sg u = 0 then inw1 W (x + sg r) r else r, if x + sg r = W ∨ x + sg r = 0 ∨ y + sg u = H ∨ y + sg u = 0 then inw1 H (y + sg u) u else u, sideB W H (x + sg r) (y + sg u))) := by
    unfold impl_next.f
    rw [sign_eq, sign_eq]
    simp only [Option.bind_some, wx, wy, fwCor_eq, fwCor_is, fwInw_eq, fwInw_is, sideB]
    generalize x + sg r = X
    generalize y + sg u = Y
    by_cases c : (ons W X && ons H Y) = true
    · simp [c]
    · simp only [if_neg c]
      by_cases h1 : X = W
      · simp only [if_pos h1, if_pos (show X = W ∨ X = 0 ∨ Y = H ∨ Y = 0 from .inl h1), Option.bind_some]
      · by_cases h2 : X = 0
        · simp only [if_neg h1, if_pos h2, if_pos (show X = W ∨ X = 0 ∨ Y = H ∨ Y = 0 from .inr (.inl h2)), Option.bind_some]
        · by_cases h3 : Y = H
          · simp only [if_neg h1, if_neg h2, if_pos h3, if_pos (show X = W ∨ X = 0 ∨ Y = H ∨ Y = 0 from .inr (.inr (.inl h3))), Option.bind_some]
          · by_cases h4 : Y = 0
            · simp only [if_neg h1, if_neg h2, if_neg h3, if_pos h4, if_pos (show X = W ∨ X = 0 ∨ Y = H ∨ Y = 0 from .inr (.inr (.inr h4))), Option.bind_some]
            · simp only [if_neg h1, if_neg h2, if_neg h3, if_neg h4, if_neg (show ¬ (X = W ∨ X = 0 ∨ Y = H ∨ Y = 0) from fun h => by rcases h with h | h | h | h <;> contradiction), Option.bind_some]
  simp only [fwNext, e]
  split <;> simp_all
theorem fwNext_in (W H x y : Int) (r u : Bool) (hx : -1000 ≤ x ∧ x ≤ 1000) (hy : -1000 ≤ y ∧ y ≤ 1000) (t : OnT W H (x + sg r) (y + sg u)) :
    fwNext W H ⟨x, y, r, u⟩ = if (ons W (x + sg r) && ons H (y + sg u)) = true then (⟨x + sg r, y + sg u, r, u⟩, ⟨#[]⟩)
      else (⟨x + sg r, y + sg u, inw1 W (x + sg r) r, inw1 H (y + sg u) u⟩, sideB W H (x + sg r) (y + sg u)) := by
  rw [fwNext_is W H x y r u hx hy]
  obtain ⟨w1, w2, h1, h2, x1, x2, y1, y2⟩ := t
  generalize x + sg r = X at *
  generalize y + sg u = Y at *
  by_cases c : X = W ∨ X = 0 ∨ Y = H ∨ Y = 0
  · simp only [if_pos c]
  · simp only [if_neg c]
    have a1 : ¬ X = 0 := fun h => c (.inr (.inl h))
    have a2 : X < W := by
      have : ¬ X = W := fun h => c (.inl h)
      omega
    have a3 : ¬ Y = 0 := fun h => c (.inr (.inr (.inr h)))
    have a4 : Y < H := by
      have : ¬ Y = H := fun h => c (.inr (.inr (.inl h)))
      omega
    simp [inw1, a1, a2, a3, a4]
/-- One coordinate that has been turned inward. -/
structure Nm (W x : Int) (r : Bool) : Prop where
  lo : 0 ≤ x
  hi : x ≤ W
  a : x = 0 → r = true
  b : x = W → r = false
theorem nm_inw {W x : Int} (r : Bool) (hW : 1 ≤ W) (h0 : 0 ≤ x) (h1 : x ≤ W) : Nm W x (inw1 W x r) := by
  refine ⟨h0, h1, fun h => by simp [inw1, h], fun h => ?_⟩
  subst h
  have : ¬ x = 0 := by omega
  simp [inw1, this]
theorem nm_step {W x : Int} {r : Bool} (h : Nm W x r) (hW : 1 ≤ W) : 0 ≤ x + sg r ∧ x + sg r ≤ W := by
  obtain ⟨h0, h1, ha, hb⟩ := h
  cases r with
  | true =>
    have : x ≠ W := fun e => by have := hb e; cases this
    simp [sg]; omega
  | false =>
    have : x ≠ 0 := fun e => by have := ha e; cases this
    simp [sg]; omega

theorem beCorner_eq (W H x y : Int) (r u : Bool) : spec_beCorner.f W H x y r u = some (ons W x && ons H y) := by
  unfold spec_beCorner.f ons
  by_cases h1 : x = 0 <;> by_cases h2 : y = 0 <;> by_cases h3 : x = W <;> by_cases h4 : y = H <;> simp [h1, h2, h3, h4]
  all_goals first | (intro h; exact absurd h.symm ‹_›) | skip
theorem beTurn_eq (k : Nat) {W H x y : Int} (r u : Bool) (t : OnT W H x y) : spec_beTurn.f (k + 3) W H x y r u = some (x, y, inw1 W x r, inw1 H y u) := by
  obtain ⟨w1, w2, h1, h2, x1, x2, y1, y2⟩ := t
  have n1 : ¬ W = 0 := by omega
  have n2 : ¬ H = 0 := by omega
  have n3 : ¬ (0 : Int) = W := by omega
  have n4 : ¬ (0 : Int) = H := by omega
  have cx : x = 0 ∨ x = W ∨ (¬ x = 0 ∧ ¬ x = W ∧ x < W) := by omega
  have cy : y = 0 ∨ y = H ∨ (¬ y = 0 ∧ ¬ y = H ∧ y < H) := by omega
  unfold spec_beTurn.f
  simp only [spec_beTurn.j0, spec_beTurn.j1, spec_beTurn.j2]
  rcases cx with rfl | rfl | ⟨a1, a2, a3⟩ <;> rcases cy with rfl | rfl | ⟨b1, b2, b3⟩ <;> cases r <;> cases u <;> simp_all [inw1]
theorem beMove_eq (k : Nat) (x y : Int) (r u : Bool) (hx : -1000 ≤ x ∧ x ≤ 1000) (hy : -1000 ≤ y ∧ y ≤ 1000) : spec_beMove.f (k + 1) x y r u = some (x + sg r, y + sg u, r, u) := by
  have e1 : wrap64 (x + 1) = x + 1 := wrap_id (by omega) (by omega)
  have e2 : wrap64 (y + 1) = y + 1 := wrap_id (by omega) (by omega)
  have e3 : wrap64 (x - 1) = x + -1 := by rw [wrap_id (by omega) (by omega)]; omega
  have e4 : wrap64 (y - 1) = y + -1 := by rw [wrap_id (by omega) (by omega)]; omega
  unfold spec_beMove.f spec_beMove.j0
  cases r <;> cases u <;> simp [sg, e1, e2, e3, e4]
theorem beStep_eq (k : Nat) {W H x y : Int} (r u : Bool) (hx : -1000 ≤ x ∧ x ≤ 1000) (hy : -1000 ≤ y ∧ y ≤ 1000) (t : OnT W H (x + sg r) (y + sg u)) :
    spec_beStep.f (k + 3) W H x y r u = some ((fwNext W H ⟨x, y, r, u⟩).1.f0, (fwNext W H ⟨x, y, r, u⟩).1.f1, (fwNext W H ⟨x, y, r, u⟩).1.f2, (fwNext W H ⟨x, y, r, u⟩).1.f3, (fwNext W H ⟨x, y, r, u⟩).2) := by
  unfold spec_beStep.f
  rw [fwNext_in W H x y r u hx hy t, beMove_eq (k + 2) x y r u hx hy]
  simp only [Option.bind_some, beCorner_eq, beTurn_eq k r u t, sideB]
  split
  · rfl
  · split
    · rfl
    · split
      · rfl
      · split
        · rfl
        · split <;> rfl

/-- The beam behind k steps is on the table; it is turned inward unless it is at a corner. -/
theorem way_ok {W H x y : Int} (r u : Bool) (t : OnT W H x y) : ∀ k, (∀ j, 0 < j → j < k → fwCor W H (fwSt W H ⟨x, y, r, u⟩ j).1 = false) →
    OnT W H (fwSt W H ⟨x, y, r, u⟩ k).1.f0 (fwSt W H ⟨x, y, r, u⟩ k).1.f1 ∧ ((k = 0 ∨ fwCor W H (fwSt W H ⟨x, y, r, u⟩ k).1 = false) → Nm W (fwSt W H ⟨x, y, r, u⟩ k).1.f0 (fwSt W H ⟨x, y, r, u⟩ k).1.f2 ∧ Nm H (fwSt W H ⟨x, y, r, u⟩ k).1.f1 (fwSt W H ⟨x, y, r, u⟩ k).1.f3) := by
  intro k
  induction k with
  | zero =>
    intro _
    simp only [fwSt, fwInw_is]
    exact ⟨t, fun _ => ⟨nm_inw r t.w1 t.x1 t.x2, nm_inw u t.h1 t.y1 t.y2⟩⟩
  | succ k ih =>
    intro hc
    have h0 := ih (fun j h1 h2 => hc j h1 (by omega))
    have hn := h0.2 (by
      rcases Nat.eq_zero_or_pos k with h | h
      · exact .inl h
      · exact .inr (hc k h (by omega)))
    obtain ⟨s, hs⟩ : ∃ s, (fwSt W H ⟨x, y, r, u⟩ k).1 = s := ⟨_, rfl⟩
    have e : fwSt W H ⟨x, y, r, u⟩ (k + 1) = fwNext W H s := by rw [← hs]; rfl
    rw [hs] at h0 hn
    rw [e]
    obtain ⟨X, Y, R, U⟩ := s
    have ax := nm_step hn.1 t.w1
    have ay := nm_step hn.2 t.h1
    have tt : OnT W H (X + sg R) (Y + sg U) := ⟨t.w1, t.w2, t.h1, t.h2, ax.1, ax.2, ay.1, ay.2⟩
    have g0 := h0.1
    rw [fwNext_in W H X Y R U (by have := g0.x1; have := g0.x2; have := g0.w2; simp at *; omega) (by have := g0.y1; have := g0.y2; have := g0.h2; simp at *; omega) tt]
    by_cases c : (ons W (X + sg R) && ons H (Y + sg U)) = true
    · rw [if_pos c]
      refine ⟨tt, fun h => ?_⟩
      rcases h with h | h
      · omega
      · rw [fwCor_is, c] at h; cases h
    · rw [if_neg c]
      exact ⟨tt, fun _ => ⟨nm_inw R t.w1 ax.1 ax.2, nm_inw U t.h1 ay.1 ay.2⟩⟩
theorem side_size {W H x y : Int} : (sideB W H x y).size ≤ 1 := by
  unfold sideB
  (repeat' split) <;> decide
/-- The sides of all bounces behind k steps. -/
def sides (W H : Int) (b : S30) : Nat → ByteArray
  | 0 => ⟨#[]⟩
  | k + 1 => sides W H b k ++ (fwSt W H b (k + 1)).2
theorem next_side {W H x y : Int} {r u : Bool} (hx : -1000 ≤ x ∧ x ≤ 1000) (hy : -1000 ≤ y ∧ y ≤ 1000) : (fwNext W H ⟨x, y, r, u⟩).2.size ≤ 1 := by
  rw [fwNext_is W H x y r u hx hy]
  split
  · exact Nat.zero_le _
  · exact side_size
/-- The reference's run is the way up to where it ends. -/
theorem run_l0 {W H x y : Int} (r u : Bool) (t : OnT W H x y) (steps : Int) (N : Nat) (hN : N ≤ 200000) (hgo : ∀ k, k < N → fwGo W H ⟨x, y, r, u⟩ steps (fun _ => false) k) (hend : ¬ fwGo W H ⟨x, y, r, u⟩ steps (fun _ => false) N) (d : Nat) :
    ∀ (k i : Nat), i + d = N → 2 * d + 10 < k → (sides W H ⟨x, y, r, u⟩ i).size ≤ i →
    ∃ sz, spec_beRun.l0 k steps ((List.range (i + 1)).map fun j => (fwSt W H ⟨x, y, r, u⟩ j).1) (sides W H ⟨x, y, r, u⟩ i) i W H = some ((List.range (N + 1)).map (fun j => (fwSt W H ⟨x, y, r, u⟩ j).1), sides W H ⟨x, y, r, u⟩ N) ∧ (sides W H ⟨x, y, r, u⟩ N).size = sz ∧ sz ≤ N := by
  have rdi : ∀ i, rd_T30 ((List.range (i + 1)).map fun j => (fwSt W H ⟨x, y, r, u⟩ j).1) (i : Int) = (fwSt W H ⟨x, y, r, u⟩ i).1 := by
    intro i
    unfold rd_T30
    rw [Int.toNat_natCast, List.getD_eq_getElem?_getD, List.getElem?_map, List.getElem?_range (by omega)]
    rfl
  have okk : ∀ i, i ≤ N → OnT W H (fwSt W H ⟨x, y, r, u⟩ i).1.f0 (fwSt W H ⟨x, y, r, u⟩ i).1.f1 ∧ ((i = 0 ∨ fwCor W H (fwSt W H ⟨x, y, r, u⟩ i).1 = false) → Nm W (fwSt W H ⟨x, y, r, u⟩ i).1.f0 (fwSt W H ⟨x, y, r, u⟩ i).1.f2 ∧ Nm H (fwSt W H ⟨x, y, r, u⟩ i).1.f1 (fwSt W H ⟨x, y, r, u⟩ i).1.f3) := by
    intro i hi
    refine way_ok r u t i (fun j h1 h2 => ?_)
    rcases (hgo j (by omega)).2.2 with h | h
    · omega
    · exact h
  induction d with
  | zero =>
    intro k i hi hk hz
    obtain ⟨k, rfl⟩ : ∃ m, k = m + 2 := ⟨k - 2, by omega⟩
    obtain rfl : i = N := by omega
    refine ⟨_, ?_, rfl, hz⟩
    obtain ⟨o1, o2⟩ := okk i (Nat.le_refl _)
    have hr := rdi i
    obtain ⟨s, hs⟩ : ∃ s, (fwSt W H ⟨x, y, r, u⟩ i).1 = s := ⟨_, rfl⟩
    rw [hs] at hr o1 o2
    unfold fwGo at hend
    rw [hs] at hend
    obtain ⟨X, Y, R, U⟩ := s
    simp only [spec_beRun.l0, spec_beRun.j1]
    by_cases c : (i : Int) < steps
    · have hc : ¬ (i = 0 ∨ fwCor W H ⟨X, Y, R, U⟩ = false) := fun h => hend ⟨rfl, c, h⟩
      have hi0 : ¬ (i : Int) = 0 := fun h => hc (.inl (by omega))
      have hcc : (ons W X && ons H Y) = true := by
        rw [← fwCor_is W H X Y R U]
        cases hq : fwCor W H ⟨X, Y, R, U⟩ with
        | true => rfl
        | false => exact absurd (.inr hq) hc
      rw [if_pos c, if_neg hi0, if_pos (by omega), if_pos (by simp; omega), hr, beCorner_eq, hcc]
      simp
    · rw [if_neg c]
      simp
  | succ d ih =>
    intro k i hi hk hz
    obtain ⟨k, rfl⟩ : ∃ m, k = m + 5 := ⟨k - 5, by omega⟩
    obtain ⟨o1, o2⟩ := okk i (by omega)
    have hr := rdi i
    obtain ⟨_, g1, g2⟩ := hgo i (by omega)
    have g3 := o2 g2
    have hlist : ((List.range (i + 1)).map fun j => (fwSt W H ⟨x, y, r, u⟩ j).1) ++ [(⟨(fwNext W H (fwSt W H ⟨x, y, r, u⟩ i).1).1.f0, (fwNext W H (fwSt W H ⟨x, y, r, u⟩ i).1).1.f1, (fwNext W H (fwSt W H ⟨x, y, r, u⟩ i).1).1.f2, (fwNext W H (fwSt W H ⟨x, y, r, u⟩ i).1).1.f3⟩ : S30)] = (List.range (i + 1 + 1)).map fun j => (fwSt W H ⟨x, y, r, u⟩ j).1 := by
      rw [List.range_succ (n := i + 1), List.map_append]
      rfl
    have hside : sides W H ⟨x, y, r, u⟩ i ++ (fwNext W H (fwSt W H ⟨x, y, r, u⟩ i).1).2 = sides W H ⟨x, y, r, u⟩ (i + 1) := rfl
    have hsz : (fwNext W H (fwSt W H ⟨x, y, r, u⟩ i).1).2.size ≤ 1 := next_side (x := (fwSt W H ⟨x, y, r, u⟩ i).1.f0) (y := (fwSt W H ⟨x, y, r, u⟩ i).1.f1) (r := (fwSt W H ⟨x, y, r, u⟩ i).1.f2) (u := (fwSt W H ⟨x, y, r, u⟩ i).1.f3) (by have := o1.x1; have := o1.x2; have := o1.w2; omega) (by have := o1.y1; have := o1.y2; have := o1.h2; omega)
    have hst : spec_beStep.f (k + 3) W H (fwSt W H ⟨x, y, r, u⟩ i).1.f0 (fwSt W H ⟨x, y, r, u⟩ i).1.f1 (fwSt W H ⟨x, y, r, u⟩ i).1.f2 (fwSt W H ⟨x, y, r, u⟩ i).1.f3 = some ((fwNext W H (fwSt W H ⟨x, y, r, u⟩ i).1).1.f0, (fwNext W H (fwSt W H ⟨x, y, r, u⟩ i).1).1.f1, (fwNext W H (fwSt W H ⟨x, y, r, u⟩ i).1).1.f2, (fwNext W H (fwSt W H ⟨x, y, r, u⟩ i).1).1.f3, (fwNext W H (fwSt W H ⟨x, y, r, u⟩ i).1).2) := by
      have ax := nm_step g3.1 t.w1
      have ay := nm_step g3.2 t.h1
      exact beStep_eq k _ _ (by have := o1.x1; have := o1.x2; have := o1.w2; omega) (by have := o1.y1; have := o1.y2; have := o1.h2; omega) ⟨t.w1, t.w2, t.h1, t.h2, ax.1, ax.2, ay.1, ay.2⟩
    have w1 : wrap64 ((i : Int) + 1) = ((i + 1 : Nat) : Int) := by rw [wrap_id (by omega) (by omega)]; omega
    have s2 : (sides W H ⟨x, y, r, u⟩ (i + 1)).size ≤ i + 1 := by
      rw [← hside, ByteArray.size_append]
      omega
    obtain ⟨sz, e1, e2, e3⟩ := ih (k + 3) (i + 1) (by omega) (by omega) s2
    refine ⟨sz, ?_, e2, e3⟩
    have hl : ((List.range (i + 1)).map fun j => (fwSt W H ⟨x, y, r, u⟩ j).1).length < 5864062014805 := by simp; omega
    have hb : (sides W H ⟨x, y, r, u⟩ i).size + (fwNext W H (fwSt W H ⟨x, y, r, u⟩ i).1).2.size ≤ 9223372036854775807 := by omega
    have hlen : (i : Int) < ((((List.range (i + 1)).map fun j => (fwSt W H ⟨x, y, r, u⟩ j).1).length : Nat) : Int) := by simp; omega
    have hj : spec_beRun.l0 (k + 5) steps ((List.range (i + 1)).map fun j => (fwSt W H ⟨x, y, r, u⟩ j).1) (sides W H ⟨x, y, r, u⟩ i) i W H = spec_beRun.j1 (k + 4) steps ((List.range (i + 1)).map fun j => (fwSt W H ⟨x, y, r, u⟩ j).1) (sides W H ⟨x, y, r, u⟩ i) i true W H := by
      rw [spec_beRun.l0, if_pos g1]
      by_cases c : (i : Int) = 0
      · rw [if_pos c]
      · have g4 : fwCor W H (fwSt W H ⟨x, y, r, u⟩ i).1 = false := by
          rcases g2 with h | h
          · omega
          · exact h
        rw [if_neg c, if_pos (by omega : (0 : Int) ≤ i), if_pos hlen, hr, show spec_beCorner.f W H (fwSt W H ⟨x, y, r, u⟩ i).1.f0 (fwSt W H ⟨x, y, r, u⟩ i).1.f1 (fwSt W H ⟨x, y, r, u⟩ i).1.f2 (fwSt W H ⟨x, y, r, u⟩ i).1.f3 = some (fwCor W H (fwSt W H ⟨x, y, r, u⟩ i).1) by rw [beCorner_eq, ← fwCor_is], g4]
        rfl
    rw [hj, spec_beRun.j1, if_pos rfl, if_pos (by omega : (0 : Int) ≤ i), if_pos hlen, hr, hst]
    simp only [Option.bind_some]
    rw [if_pos hl, if_pos hb, hlist, hside, w1, e1]
theorem run_eq {W H x y : Int} (r u : Bool) (t : OnT W H x y) (steps : Int) (N k : Nat) (hN : N ≤ 200000) (hk : 2 * N + 20 < k) (hgo : ∀ k, k < N → fwGo W H ⟨x, y, r, u⟩ steps (fun _ => false) k) (hend : ¬ fwGo W H ⟨x, y, r, u⟩ steps (fun _ => false) N) :
    spec_beRun.f k W H x y r u steps = some ((List.range (N + 1)).map (fun j => (fwSt W H ⟨x, y, r, u⟩ j).1), sides W H ⟨x, y, r, u⟩ N) ∧ (sides W H ⟨x, y, r, u⟩ N).size ≤ N := by
  obtain ⟨k, rfl⟩ : ∃ m, k = m + 3 := ⟨k - 3, by omega⟩
  obtain ⟨sz, e1, e2, e3⟩ := run_l0 r u t steps N hN hgo hend N (k + 3) 0 (by omega) (by omega) (Nat.le_refl _)
  refine ⟨?_, by omega⟩
  unfold spec_beRun.f
  rw [beTurn_eq k r u t]
  simp only [Option.bind_some]
  have : [(⟨x, y, inw1 W x r, inw1 H y u⟩ : S30)] = (List.range (0 + 1)).map fun j => (fwSt W H ⟨x, y, r, u⟩ j).1 := by simp [fwSt, fwInw_is]
  rw [this]
  exact e1

theorem least_of {P : Nat → Prop} (n : Nat) (h : P n) : ∃ m, m ≤ n ∧ P m ∧ ∀ j, j < m → ¬ P j := by
  induction n using Nat.strongRecOn with
  | ind n ih =>
    by_cases c : ∃ j, j < n ∧ P j
    · obtain ⟨j, hj, hp⟩ := c
      obtain ⟨m, h1, h2, h3⟩ := ih j hj hp
      exact ⟨m, by omega, h2, h3⟩
    · exact ⟨n, Nat.le_refl _, h, fun j hj hp => c ⟨j, hj, hp⟩⟩
/-- The way on, whatever corners there are. -/
def vs (W H : Int) (b : S30) : Nat → S30
  | 0 => ⟨b.f0, b.f1, inw1 W b.f0 b.f2, inw1 H b.f1 b.f3⟩
  | k + 1 => ⟨(vs W H b k).f0 + sg (vs W H b k).f2, (vs W H b k).f1 + sg (vs W H b k).f3, inw1 W ((vs W H b k).f0 + sg (vs W H b k).f2) (vs W H b k).f2, inw1 H ((vs W H b k).f1 + sg (vs W H b k).f3) (vs W H b k).f3⟩
/-- A coordinate on the unfolded way. -/
def co (W x : Int) (r : Bool) : Int := if r = true then x else 2 * W - x
theorem co_step {W x : Int} {r : Bool} (hW : 1 ≤ W) (h : Nm W x r) : co W (x + sg r) (inw1 W (x + sg r) r) = (co W x r + 1) % (2 * W) := by
  obtain ⟨h0, h1, ha, hb⟩ := h
  cases r with
  | true =>
    have hx : x < W := by
      rcases Int.lt_or_le x W with h | h
      · exact h
      · have : x = W := by omega
        have := hb this
        cases this
    have e : sg true = 1 := rfl
    rw [e]
    have n0 : ¬ x + 1 = 0 := by omega
    by_cases hw : x + 1 < W
    · simp [inw1, n0, hw, co]
      rw [Int.emod_eq_of_lt (by omega) (by omega)]
    · have : x + 1 = W := by omega
      simp [inw1, n0, hw, co]
      rw [Int.emod_eq_of_lt (by omega) (by omega)]
      omega
  | false =>
    have hx : 0 < x := by
      rcases Int.lt_or_le 0 x with h | h
      · exact h
      · have : x = 0 := by omega
        have := ha this
        cases this
    have e : sg false = -1 := rfl
    rw [e]
    by_cases h0 : x + -1 = 0
    · have hx1 : x = 1 := by omega
      subst hx1
      simp [inw1, co]
    · simp [inw1, h0, co]
      rw [Int.emod_eq_of_lt (by omega) (by omega)]
      omega
theorem co_range {W x : Int} {r : Bool} (hW : 1 ≤ W) (h : Nm W x r) : 0 ≤ co W x r ∧ co W x r < 2 * W ∧ r = decide (co W x r < W) ∧ x = (if co W x r < W then co W x r else 2 * W - co W x r) := by
  obtain ⟨h0, h1, ha, hb⟩ := h
  cases r with
  | true =>
    have hx : x < W := by
      rcases Int.lt_or_le x W with h | h
      · exact h
      · have := hb (by omega); cases this
    simp [co, hx]
    omega
  | false =>
    have hx : 0 < x := by
      rcases Int.lt_or_le 0 x with h | h
      · exact h
      · have := ha (by omega); cases this
    have : ¬ 2 * W - x < W := by omega
    simp [co, this]
    omega
theorem co_side {W x : Int} {r : Bool} (hW : 1 ≤ W) (h : Nm W x r) : ons W x = decide (co W x r % W = 0) := by
  obtain ⟨h0, h1, ha, hb⟩ := h
  cases r with
  | true =>
    have hx : x < W := by
      rcases Int.lt_or_le x W with h | h
      · exact h
      · have := hb (by omega); cases this
    have n : ¬ x = W := by omega
    simp only [ons, co, if_true, n, decide_false, Bool.or_false]
    rw [Int.emod_eq_of_lt h0 hx]
  | false =>
    have hx : 0 < x := by
      rcases Int.lt_or_le 0 x with h | h
      · exact h
      · have := ha (by omega); cases this
    have n : ¬ x = 0 := by omega
    simp only [ons, co, Bool.false_eq_true, if_false, n, decide_false, Bool.false_or]
    by_cases c : x = W
    · subst c
      simp [show 2 * x - x = x by omega]
    · have : (2 * W - x) % W = W - x := by
        rw [show 2 * W - x = (W - x) + W * 1 by omega, Int.add_mul_emod_self_left]
        exact Int.emod_eq_of_lt (by omega) (by omega)
      rw [this]
      have : ¬ W - x = 0 := by omega
      simp [c, this]
theorem vs_nm {W H x y : Int} (r u : Bool) (t : OnT W H x y) (k : Nat) : Nm W (vs W H ⟨x, y, r, u⟩ k).f0 (vs W H ⟨x, y, r, u⟩ k).f2 ∧ Nm H (vs W H ⟨x, y, r, u⟩ k).f1 (vs W H ⟨x, y, r, u⟩ k).f3 := by
  induction k with
  | zero => exact ⟨nm_inw r t.w1 t.x1 t.x2, nm_inw u t.h1 t.y1 t.y2⟩
  | succ k ih =>
    have ax := nm_step ih.1 t.w1
    have ay := nm_step ih.2 t.h1
    exact ⟨nm_inw _ t.w1 ax.1 ax.2, nm_inw _ t.h1 ay.1 ay.2⟩
theorem vs_co {W H x y : Int} (r u : Bool) (t : OnT W H x y) (k : Nat) :
    co W (vs W H ⟨x, y, r, u⟩ k).f0 (vs W H ⟨x, y, r, u⟩ k).f2 = (co W (vs W H ⟨x, y, r, u⟩ 0).f0 (vs W H ⟨x, y, r, u⟩ 0).f2 + k) % (2 * W) ∧ co H (vs W H ⟨x, y, r, u⟩ k).f1 (vs W H ⟨x, y, r, u⟩ k).f3 = (co H (vs W H ⟨x, y, r, u⟩ 0).f1 (vs W H ⟨x, y, r, u⟩ 0).f3 + k) % (2 * H) := by
  induction k with
  | zero =>
    have h := vs_nm r u t 0
    have cx := co_range t.w1 h.1
    have cy := co_range t.h1 h.2
    simp only [Int.natCast_zero, Int.add_zero]
    rw [Int.emod_eq_of_lt cx.1 cx.2.1, Int.emod_eq_of_lt cy.1 cy.2.1]
    exact ⟨rfl, rfl⟩
  | succ k ih =>
    have h := vs_nm r u t k
    have ex := co_step t.w1 h.1
    have ey := co_step t.h1 h.2
    refine ⟨?_, ?_⟩
    · refine Eq.trans ex ?_
      rw [ih.1, Int.emod_add_emod]
      congr 1
      omega
    · refine Eq.trans ey ?_
      rw [ih.2, Int.emod_add_emod]
      congr 1
      omega
/-- Where it stands on the unfolded way decides whether it is at a corner. -/
theorem vs_cor {W H x y : Int} (r u : Bool) (t : OnT W H x y) (k : Nat) : fwCor W H (vs W H ⟨x, y, r, u⟩ k) = (decide ((co W (vs W H ⟨x, y, r, u⟩ 0).f0 (vs W H ⟨x, y, r, u⟩ 0).f2 + k) % W = 0) && decide ((co H (vs W H ⟨x, y, r, u⟩ 0).f1 (vs W H ⟨x, y, r, u⟩ 0).f3 + k) % H = 0)) := by
  have h := vs_nm r u t k
  have c := vs_co r u t k
  refine Eq.trans (fwCor_is W H _ _ _ _) ?_
  rw [co_side t.w1 h.1, co_side t.h1 h.2, c.1, c.2, Int.emod_emod_of_dvd _ (Int.dvd_mul_left 2 W), Int.emod_emod_of_dvd _ (Int.dvd_mul_left 2 H)]
theorem vs_cor_period {W H x y : Int} (r u : Bool) (t : OnT W H x y) (k q : Nat) : fwCor W H (vs W H ⟨x, y, r, u⟩ (k + q * (W.toNat * H.toNat))) = fwCor W H (vs W H ⟨x, y, r, u⟩ k) := by
  rw [vs_cor r u t, vs_cor r u t]
  have hw : ((W.toNat : Nat) : Int) = W := by have := t.w1; omega
  have hh : ((H.toNat : Nat) : Int) = H := by have := t.h1; omega
  have e1 : ∀ c : Int, (c + ((k + q * (W.toNat * H.toNat) : Nat) : Int)) % W = (c + k) % W := by
    intro c
    have : c + ((k + q * (W.toNat * H.toNat) : Nat) : Int) = (c + k) + W * (q * H) := by
      rw [Int.natCast_add, Int.natCast_mul, Int.natCast_mul, hw, hh, Int.mul_left_comm]
      omega
    rw [this, Int.add_mul_emod_self_left]
  have e2 : ∀ c : Int, (c + ((k + q * (W.toNat * H.toNat) : Nat) : Int)) % H = (c + k) % H := by
    intro c
    have : c + ((k + q * (W.toNat * H.toNat) : Nat) : Int) = (c + k) + H * (q * W) := by
      rw [Int.natCast_add, Int.natCast_mul, Int.natCast_mul, hw, hh, Int.mul_comm W H, Int.mul_left_comm]
      omega
    rw [this, Int.add_mul_emod_self_left]
  rw [e1, e2]
theorem s_ext : ∀ a b : S30, a.f0 = b.f0 → a.f1 = b.f1 → a.f2 = b.f2 → a.f3 = b.f3 → a = b := by
  rintro ⟨_, _, _, _⟩ ⟨_, _, _, _⟩ h1 h2 h3 h4
  dsimp only at h1 h2 h3 h4
  subst h1 h2 h3 h4
  rfl
theorem vs_period {W H x y : Int} (r u : Bool) (t : OnT W H x y) : vs W H ⟨x, y, r, u⟩ (2 * (W.toNat * H.toNat)) = vs W H ⟨x, y, r, u⟩ 0 := by
  have hw : ((W.toNat : Nat) : Int) = W := by have := t.w1; omega
  have hh : ((H.toNat : Nat) : Int) = H := by have := t.h1; omega
  have c := vs_co r u t (2 * (W.toNat * H.toNat))
  have c0 := vs_co r u t 0
  have n := vs_nm r u t (2 * (W.toNat * H.toNat))
  have n0 := vs_nm r u t 0
  have e1 : ((2 * (W.toNat * H.toNat) : Nat) : Int) = (2 * W) * H := by rw [Int.natCast_mul, Int.natCast_mul, hw, hh, Int.mul_assoc]; rfl
  have e2 : ((2 * (W.toNat * H.toNat) : Nat) : Int) = (2 * H) * W := by rw [e1, Int.mul_assoc, Int.mul_assoc, Int.mul_comm W H]
  have f1 : co W (vs W H ⟨x, y, r, u⟩ (2 * (W.toNat * H.toNat))).f0 (vs W H ⟨x, y, r, u⟩ (2 * (W.toNat * H.toNat))).f2 = co W (vs W H ⟨x, y, r, u⟩ 0).f0 (vs W H ⟨x, y, r, u⟩ 0).f2 := by
    rw [c.1, e1, Int.add_mul_emod_self_left]
    have := co_range t.w1 n0.1
    exact Int.emod_eq_of_lt this.1 this.2.1
  have f2 : co H (vs W H ⟨x, y, r, u⟩ (2 * (W.toNat * H.toNat))).f1 (vs W H ⟨x, y, r, u⟩ (2 * (W.toNat * H.toNat))).f3 = co H (vs W H ⟨x, y, r, u⟩ 0).f1 (vs W H ⟨x, y, r, u⟩ 0).f3 := by
    rw [c.2, e2, Int.add_mul_emod_self_left]
    have := co_range t.h1 n0.2
    exact Int.emod_eq_of_lt this.1 this.2.1
  have g1 := co_range t.w1 n.1
  have g2 := co_range t.h1 n.2
  have k1 := co_range t.w1 n0.1
  have k2 := co_range t.h1 n0.2
  have a1 : (vs W H ⟨x, y, r, u⟩ (2 * (W.toNat * H.toNat))).f0 = (vs W H ⟨x, y, r, u⟩ 0).f0 := by rw [g1.2.2.2, k1.2.2.2, f1]
  have a2 : (vs W H ⟨x, y, r, u⟩ (2 * (W.toNat * H.toNat))).f2 = (vs W H ⟨x, y, r, u⟩ 0).f2 := by rw [g1.2.2.1, k1.2.2.1, f1]
  have a3 : (vs W H ⟨x, y, r, u⟩ (2 * (W.toNat * H.toNat))).f1 = (vs W H ⟨x, y, r, u⟩ 0).f1 := by rw [g2.2.2.2, k2.2.2.2, f2]
  have a4 : (vs W H ⟨x, y, r, u⟩ (2 * (W.toNat * H.toNat))).f3 = (vs W H ⟨x, y, r, u⟩ 0).f3 := by rw [g2.2.2.1, k2.2.2.1, f2]
  exact s_ext _ _ a1 a3 a2 a4
/-- As long as there was no corner, the way is the way on. -/
theorem st_vs {W H x y : Int} (r u : Bool) (t : OnT W H x y) : ∀ k, (∀ j, 0 < j → j < k → fwCor W H (vs W H ⟨x, y, r, u⟩ j) = false) →
    (fwSt W H ⟨x, y, r, u⟩ k).1.f0 = (vs W H ⟨x, y, r, u⟩ k).f0 ∧ (fwSt W H ⟨x, y, r, u⟩ k).1.f1 = (vs W H ⟨x, y, r, u⟩ k).f1 ∧ fwCor W H (fwSt W H ⟨x, y, r, u⟩ k).1 = fwCor W H (vs W H ⟨x, y, r, u⟩ k) ∧ ((k = 0 ∨ fwCor W H (vs W H ⟨x, y, r, u⟩ k) = false) → (fwSt W H ⟨x, y, r, u⟩ k).1 = vs W H ⟨x, y, r, u⟩ k) := by
  intro k
  induction k with
  | zero =>
    intro _
    have e : (fwSt W H ⟨x, y, r, u⟩ 0).1 = vs W H ⟨x, y, r, u⟩ 0 := by simp [fwSt, fwInw_is, vs]
    rw [e]
    exact ⟨rfl, rfl, rfl, fun _ => rfl⟩
  | succ k ih =>
    intro hc
    have h0 := ih (fun j h1 h2 => hc j h1 (by omega))
    have hk : (fwSt W H ⟨x, y, r, u⟩ k).1 = vs W H ⟨x, y, r, u⟩ k := h0.2.2.2 (by
      rcases Nat.eq_zero_or_pos k with h | h
      · exact .inl h
      · exact .inr (hc k h (by omega)))
    have hn := vs_nm r u t k
    have ax := nm_step hn.1 t.w1
    have ay := nm_step hn.2 t.h1
    have bx := hn.1
    have by_ := hn.2
    have e : (fwSt W H ⟨x, y, r, u⟩ (k + 1)).1 = (fwNext W H (vs W H ⟨x, y, r, u⟩ k)).1 := by rw [← hk]; rfl
    have e2 : vs W H ⟨x, y, r, u⟩ (k + 1) = ⟨(vs W H ⟨x, y, r, u⟩ k).f0 + sg (vs W H ⟨x, y, r, u⟩ k).f2, (vs W H ⟨x, y, r, u⟩ k).f1 + sg (vs W H ⟨x, y, r, u⟩ k).f3, inw1 W ((vs W H ⟨x, y, r, u⟩ k).f0 + sg (vs W H ⟨x, y, r, u⟩ k).f2) (vs W H ⟨x, y, r, u⟩ k).f2, inw1 H ((vs W H ⟨x, y, r, u⟩ k).f1 + sg (vs W H ⟨x, y, r, u⟩ k).f3) (vs W H ⟨x, y, r, u⟩ k).f3⟩ := rfl
    rw [e, e2]
    clear e e2 hk h0 ih hc hn
    generalize vs W H ⟨x, y, r, u⟩ k = s at ax ay bx by_ ⊢
    obtain ⟨X, Y, R, U⟩ := s
    dsimp only at ax ay bx by_ ⊢
    have tt : OnT W H (X + sg R) (Y + sg U) := ⟨t.w1, t.w2, t.h1, t.h2, ax.1, ax.2, ay.1, ay.2⟩
    rw [fwNext_in W H X Y R U (by have := bx.lo; have := bx.hi; have := t.w2; omega) (by have := by_.lo; have := by_.hi; have := t.h2; omega) tt]
    by_cases c : (ons W (X + sg R) && ons H (Y + sg U)) = true
    · rw [if_pos c]
      refine ⟨rfl, rfl, by simp only [fwCor_is], fun h => ?_⟩
      rcases h with h | h
      · omega
      · rw [fwCor_is, c] at h; cases h
    · rw [if_neg c]
      exact ⟨rfl, rfl, rfl, fun _ => rfl⟩

theorem nocor_upto {W H x y : Int} (r u : Bool) (t : OnT W H x y) (L : Nat) (h : ∀ j, 0 < j → j ≤ L → fwCor W H (fwSt W H ⟨x, y, r, u⟩ j).1 = false) : ∀ k, k ≤ L → ∀ j, 0 < j → j ≤ k → fwCor W H (vs W H ⟨x, y, r, u⟩ j) = false := by
  intro k
  induction k with
  | zero => intro _ j h1 h2; omega
  | succ k ih =>
    intro hk j h1 h2
    rcases Nat.lt_or_ge k j with c | c
    · obtain rfl : j = k + 1 := by omega
      rw [← (st_vs r u t (k + 1) (fun j a b => ih (by omega) j a (by omega))).2.2.1]
      exact h (k + 1) h1 hk
    · exact ih (by omega) j h1 c
theorem nocor_all {W H x y : Int} (r u : Bool) (t : OnT W H x y) (h : ∀ j, 0 < j → j ≤ W.toNat * H.toNat → fwCor W H (vs W H ⟨x, y, r, u⟩ j) = false) (k : Nat) (hk : 0 < k) : fwCor W H (vs W H ⟨x, y, r, u⟩ k) = false := by
  have hn : 0 < W.toNat * H.toNat := Nat.mul_pos (by have := t.w1; omega) (by have := t.h1; omega)
  have e : k = ((k - 1) % (W.toNat * H.toNat) + 1) + ((k - 1) / (W.toNat * H.toNat)) * (W.toNat * H.toNat) := by
    have := Nat.mod_add_div' (k - 1) (W.toNat * H.toNat)
    omega
  have hm := Nat.mod_lt (k - 1) hn
  rw [e, vs_cor_period r u t]
  exact h _ (by omega) (by omega)
theorem st_all {W H x y : Int} (r u : Bool) (t : OnT W H x y) (h : ∀ j, 0 < j → fwCor W H (vs W H ⟨x, y, r, u⟩ j) = false) (k : Nat) : (fwSt W H ⟨x, y, r, u⟩ k).1 = vs W H ⟨x, y, r, u⟩ k := by
  refine (st_vs r u t k (fun j h1 _ => h j h1)).2.2.2 ?_
  rcases Nat.eq_zero_or_pos k with c | c
  · exact .inl c
  · exact .inr (h k c)
theorem vs_shift {W H : Int} {b : S30} {p : Nat} (hp : vs W H b p = vs W H b 0) : ∀ k, vs W H b (k + p) = vs W H b k := by
  intro k
  induction k with
  | zero => rw [Nat.zero_add]; exact hp
  | succ k ih =>
    rw [show k + 1 + p = (k + p) + 1 by omega]
    simp only [vs, ih]
theorem vs_mod {W H : Int} {b : S30} {p : Nat} (hp : vs W H b p = vs W H b 0) (k : Nat) : vs W H b k = vs W H b (k % p) := by
  have h : ∀ q, vs W H b (k % p + q * p) = vs W H b (k % p) := by
    intro q
    induction q with
    | zero => simp
    | succ q ih => rw [Nat.succ_mul, ← Nat.add_assoc, vs_shift hp, ih]
  have e := Nat.mod_add_div' k p
  have := h (k / p)
  rw [e] at this
  exact this
theorem go_unique {go : Nat → Prop} {N M : Nat} (a : ∀ j, j < N → go j) (b : ¬ go N) (c : ∀ j, j < M → go j) (d : ¬ go M) : N = M := by
  rcases Nat.lt_trichotomy N M with h | h | h
  · exact absurd (c N h) b
  · exact h
  · exact absurd (a M h) d
theorem rd_run (st : Nat → S30) (N i : Nat) (h : i ≤ N) : rd_T30 ((List.range (N + 1)).map st) (i : Int) = st i := by
  unfold rd_T30
  rw [Int.toNat_natCast, List.getD_eq_getElem?_getD, List.getElem?_map, List.getElem?_range (by omega)]
  rfl

theorem area {W H x y : Int} (t : OnT W H x y) : ((W.toNat * H.toNat : Nat) : Int) = W * H ∧ W * H ≤ 3600 ∧ 1 ≤ W * H := by
  have hw : ((W.toNat : Nat) : Int) = W := by have := t.w1; omega
  have hh : ((H.toNat : Nat) : Int) = H := by have := t.h1; omega
  have h1 : W.toNat * H.toNat ≤ 60 * 60 := Nat.mul_le_mul (by have := t.w2; omega) (by have := t.h2; omega)
  have h2 : 0 < W.toNat * H.toNat := Nat.mul_pos (by have := t.w1; omega) (by have := t.h1; omega)
  have e : ((W.toNat * H.toNat : Nat) : Int) = W * H := by rw [Int.natCast_mul, hw, hh]
  exact ⟨e, by omega, by omega⟩
theorem beLong_eq {W H x y : Int} (t : OnT W H x y) : spec_beLong.f W H = some (4 * (W * H) + 1) := by
  have a := area t
  have w := t.w1
  have w2 := t.w2
  unfold spec_beLong.f
  rw [wrap_id (n := 4 * W) (by omega) (by omega), Int.mul_assoc, wrap_id (n := 4 * (W * H)) (by omega) (by omega), wrap_id (by omega) (by omega)]

theorem fwSides_is (W H : Int) (b : S30) : ∀ k, fwSides W H b k = sides W H b k := by
  intro k
  induction k with
  | zero => exact ByteArray.empty_append
  | succ k ih => simp only [fwSides, sides, ih]
/-- The reference's way to a corner is the program's. -/
theorem corn_eq (k : Nat) (hk : 100000 ≤ k) {W H x y : Int} (r u : Bool) (t : OnT W H x y) : ∃ M, M ≤ 14401 ∧
    spec_beEnd.f k W H x y r u = some ((List.range (M + 1)).map (fun j => (fwSt W H ⟨x, y, r, u⟩ j).1), sides W H ⟨x, y, r, u⟩ M, fwStop W H ⟨x, y, r, u⟩ (fwCornN W H ⟨x, y, r, u⟩)) ∧
    (fwStop W H ⟨x, y, r, u⟩ (fwCornN W H ⟨x, y, r, u⟩) = true → M = fwCornN W H ⟨x, y, r, u⟩ ∧ 0 < M ∧ fwCor W H (fwSt W H ⟨x, y, r, u⟩ M).1 = true) ∧
    (fwStop W H ⟨x, y, r, u⟩ (fwCornN W H ⟨x, y, r, u⟩) = false → (M : Int) = 4 * (W * H) + 1 ∧ ∀ j, 0 < j → fwCor W H (vs W H ⟨x, y, r, u⟩ j) = false) ∧
    (∀ j, 0 < j → j < M → fwCor W H (fwSt W H ⟨x, y, r, u⟩ j).1 = false) := by
  have a := area t
  have hw : ((W.toNat : Nat) : Int) = W := by have := t.w1; omega
  have hh : ((H.toNat : Nat) : Int) = H := by have := t.h1; omega
  obtain ⟨m1, m2, m3⟩ := fwN_is W H ⟨x, y, r, u⟩ (4 * (W * H) + 1) (fun _ => false) (by omega)
  obtain ⟨n1, n2, n3⟩ := fwN_is W H ⟨x, y, r, u⟩ (2 * W * H) (fwStop W H ⟨x, y, r, u⟩) (by rw [Int.mul_assoc]; omega)
  unfold fwCornN
  rw [Int.mul_assoc] at n1 n2 n3 ⊢
  generalize fwN W H ⟨x, y, r, u⟩ (4 * (W * H) + 1) (fun _ => false) = M at m1 m2 m3
  generalize fwN W H ⟨x, y, r, u⟩ (2 * (W * H)) (fwStop W H ⟨x, y, r, u⟩) = N at n1 n2 n3 ⊢
  obtain ⟨e1, _⟩ := run_eq r u t (4 * (W * H) + 1) M k (by omega) (by omega) m3 m2
  have hb : spec_beEnd.f k W H x y r u = some ((List.range (M + 1)).map (fun j => (fwSt W H ⟨x, y, r, u⟩ j).1), sides W H ⟨x, y, r, u⟩ M, fwCor W H (fwSt W H ⟨x, y, r, u⟩ M).1) := by
    have hl : (((List.range (M + 1)).map fun j => (fwSt W H ⟨x, y, r, u⟩ j).1).length : Int) = M + 1 := by simp
    have w1 : wrap64 (((List.range (M + 1)).map fun j => (fwSt W H ⟨x, y, r, u⟩ j).1).length - 1 : Int) = (M : Int) := by rw [hl, wrap_id (by omega) (by omega)]; omega
    have hr := rd_run (fun j => (fwSt W H ⟨x, y, r, u⟩ j).1) M
    unfold spec_beEnd.f
    rw [beLong_eq t]
    simp only [Option.bind_some, e1, w1]
    rw [if_pos (by omega : (0 : Int) ≤ M), if_pos (by omega : (M : Int) < _), hr M (Nat.le_refl _), beCorner_eq, ← fwCor_is W H _ _ (fwSt W H ⟨x, y, r, u⟩ M).1.f2 (fwSt W H ⟨x, y, r, u⟩ M).1.f3]
    rfl
  have mc : ∀ j, 0 < j → j < M → fwCor W H (fwSt W H ⟨x, y, r, u⟩ j).1 = false := by
    intro j j0 j1
    rcases (m3 j j1).2.2 with h | h
    · omega
    · exact h
  cases hs : fwStop W H ⟨x, y, r, u⟩ N with
  | true =>
    have hN0 : 0 < N ∧ fwCor W H (fwSt W H ⟨x, y, r, u⟩ N).1 = true := by
      unfold fwStop at hs
      rw [Bool.and_eq_true, decide_eq_true_eq] at hs
      exact hs
    have hMN : M = N := by
      refine go_unique m3 m2 (fun j hj => ?_) (fun h => ?_)
      · have := n3 j hj
        exact ⟨rfl, by have := this.2.1; omega, this.2.2⟩
      · rcases h.2.2 with h | h
        · omega
        · rw [hN0.2] at h; cases h
    subst hMN
    exact ⟨M, by omega, by rw [hb, hN0.2], fun _ => ⟨rfl, hN0⟩, fun h => by (cases h), mc⟩
  | false =>
    have c : N = 0 ∨ fwCor W H (fwSt W H ⟨x, y, r, u⟩ N).1 = false := by
      rcases Nat.eq_zero_or_pos N with h | h
      · exact .inl h
      · refine .inr ?_
        unfold fwStop at hs
        rw [decide_eq_true h] at hs
        simpa using hs
    have hN : (N : Int) = 2 * (W * H) := by
      apply Classical.byContradiction
      intro hne
      exact n2 ⟨hs, by omega, c⟩
    have nc : ∀ j, 0 < j → j ≤ N → fwCor W H (fwSt W H ⟨x, y, r, u⟩ j).1 = false := by
      intro i i0 i1
      rcases Nat.lt_or_ge i N with h | h
      · rcases (n3 i h).2.2 with g | g
        · omega
        · exact g
      · obtain rfl : i = N := by omega
        rcases c with h | h
        · omega
        · exact h
    have nv := nocor_all r u t (fun j j0 j1 => nocor_upto r u t N nc N (Nat.le_refl _) j j0 (by omega))
    have sv := st_all r u t nv
    have hM : (M : Int) = 4 * (W * H) + 1 := by
      apply Classical.byContradiction
      intro hne
      refine m2 ⟨rfl, by omega, ?_⟩
      rcases Nat.eq_zero_or_pos M with h | h
      · exact .inl h
      · exact .inr (by rw [sv]; exact nv M h)
    refine ⟨M, by omega, ?_, fun h => by (cases h), fun _ => ⟨hM, nv⟩, mc⟩
    rw [hb, sv, nv M (by omega)]

/-! places that are passed, each once -/
theorem vsOk_of {W H x y : Int} (t : OnT W H x y) : VsOk W H x y := ⟨⟨⟨t.w1, t.w2⟩, t.h1, t.h2⟩, ⟨t.x1, t.x2⟩, t.y1, t.y2⟩
/-- A place's number, row by row. -/
def ix (H : Int) (q : Int × Int) : Nat := (q.1 * (H + 1) + q.2).toNat
def On (W H : Int) (q : Int × Int) : Prop := (0 ≤ q.1 ∧ q.1 ≤ W) ∧ 0 ≤ q.2 ∧ q.2 ≤ H
theorem ix_ge {W H : Int} {q : Int × Int} (hH : 1 ≤ H) (h : On W H q) : 0 ≤ q.1 * (H + 1) := Int.mul_nonneg h.1.1 (by omega)
theorem ix_lt {W H : Int} {q : Int × Int} (hH : 1 ≤ H) (h : On W H q) : ix H q < ((W + 1) * (H + 1)).toNat := by
  have a := ix_ge hH h
  have b : q.1 * (H + 1) ≤ W * (H + 1) := Int.mul_le_mul_of_nonneg_right h.1.2 (by omega)
  have c : (W + 1) * (H + 1) = W * (H + 1) + (H + 1) := by rw [Int.add_mul, Int.one_mul]
  have := h.2.2
  have := h.2.1
  unfold ix
  omega
theorem row_le {H p q : Int} (hH : 1 ≤ H) (h : p < q) : p * (H + 1) + (H + 1) ≤ q * (H + 1) := by
  have := Int.mul_le_mul_of_nonneg_right (show p + 1 ≤ q by omega) (show 0 ≤ H + 1 by omega)
  rw [Int.add_mul, Int.one_mul] at this
  exact this
theorem ix_inj {W H : Int} {p q : Int × Int} (hH : 1 ≤ H) (hp : On W H p) (hq : On W H q) (h : ix H p = ix H q) : p = q := by
  have a := ix_ge hH hp
  have b := ix_ge hH hq
  have := hp.2.1; have := hp.2.2; have := hq.2.1; have := hq.2.2
  unfold ix at h
  have e : p.1 * (H + 1) + p.2 = q.1 * (H + 1) + q.2 := by omega
  rcases Int.lt_trichotomy p.1 q.1 with c | c | c
  · have := row_le hH c
    omega
  · refine Prod.ext c ?_
    rw [c] at e
    omega
  · have := row_le hH c
    omega
def cntI (H : Int) (f : Nat → Int × Int) (j : Nat) : Nat → Nat
  | 0 => 0
  | k + 1 => cntI H f j k + (if ix H (f k) = j then 1 else 0)
theorem cntI_le (H : Int) (f : Nat → Int × Int) (j : Nat) : ∀ k, cntI H f j k ≤ k
  | 0 => Nat.le_refl _
  | k + 1 => by
    have := cntI_le H f j k
    simp only [cntI]
    split <;> omega
theorem cntI_pos {H : Int} {f : Nat → Int × Int} {j : Nat} : ∀ {k}, 0 < cntI H f j k ↔ ∃ m, m < k ∧ ix H (f m) = j
  | 0 => by simp [cntI]
  | k + 1 => by
    have ih := cntI_pos (H := H) (f := f) (j := j) (k := k)
    simp only [cntI]
    constructor
    · intro h
      by_cases c : ix H (f k) = j
      · exact ⟨k, by omega, c⟩
      · rw [if_neg c] at h
        obtain ⟨m, h1, h2⟩ := ih.1 (by omega)
        exact ⟨m, by omega, h2⟩
    · rintro ⟨m, h1, h2⟩
      rcases Nat.lt_or_ge m k with c | c
      · have := ih.2 ⟨m, c, h2⟩
        omega
      · obtain rfl : m = k := by omega
        rw [if_pos h2]
        omega
def tl (H : Int) (f : Nat → Int × Int) (n k : Nat) : List Int := (List.range n).map (fun j => ((cntI H f j k : Nat) : Int))
theorem tl_len (H : Int) (f : Nat → Int × Int) (n k : Nat) : (tl H f n k).length = n := by simp [tl]
theorem tl_rd (H : Int) (f : Nat → Int × Int) {n k j : Nat} (hj : j < n) : rd (tl H f n k) (j : Int) = ((cntI H f j k : Nat) : Int) := by
  show (tl H f n k).getD j 0 = _
  unfold tl
  rw [List.getD_eq_getElem?_getD, List.getElem?_map, List.getElem?_range hj]
  rfl
theorem tl_zero (H : Int) (f : Nat → Int × Int) (n : Nat) : tl H f n 0 = List.replicate n 0 := by
  unfold tl
  refine List.ext_getElem (by simp) (fun j h1 h2 => ?_)
  simp [cntI]
theorem tl_step (H : Int) (f : Nat → Int × Int) {n k : Nat} (hi : ix H (f k) < n) : (tl H f n k).set (ix H (f k)) (rd (tl H f n k) ((ix H (f k) : Nat) : Int) + 1) = tl H f n (k + 1) := by
  rw [tl_rd H f hi]
  refine List.ext_getElem (by simp [tl]) (fun j h1 h2 => ?_)
  rw [List.getElem_set]
  have hj : j < n := by simpa [tl] using h2
  by_cases c : ix H (f k) = j
  · rw [if_pos c]
    subst c
    simp [tl, cntI]
  · rw [if_neg c]
    simp [tl, cntI, c]
theorem times_l0 {W H : Int} (hW : 1 ≤ W ∧ W ≤ 60) (hH : 1 ≤ H ∧ H ≤ 60) (st : Nat → S30) (M : Nat) (hM : M ≤ 200000) (hon : ∀ k, k ≤ M → On W H ((st k).f0, (st k).f1)) (d : Nat) : ∀ (k i : Nat), i + d = M + 1 → d < k →
    spec_beTimes.l0 k (tl H (fun k => ((st k).f0, (st k).f1)) ((W + 1) * (H + 1)).toNat i) ((List.range (M + 1)).map st) ((List.range (M + 1)).map st).length i W H = some (tl H (fun k => ((st k).f0, (st k).f1)) ((W + 1) * (H + 1)).toNat (M + 1)) := by
  have hl : (((List.range (M + 1)).map st).length : Int) = M + 1 := by simp
  induction d with
  | zero =>
    intro k i hi hk
    obtain ⟨k, rfl⟩ : ∃ m, k = m + 1 := ⟨k - 1, by omega⟩
    obtain rfl : i = M + 1 := by omega
    simp only [spec_beTimes.l0]
    rw [if_neg (by omega)]
  | succ d ih =>
    intro k i hi hk
    obtain ⟨k, rfl⟩ : ∃ m, k = m + 1 := ⟨k - 1, by omega⟩
    have e : wrap64 ((i : Int) + 1) = ((i + 1 : Nat) : Int) := by rw [wrap_id (by omega) (by omega)]; omega
    have o := hon i (by omega)
    have o1 : 0 ≤ (st i).f1 := o.2.1
    have o2 : (st i).f1 ≤ H := o.2.2
    have a : 0 ≤ (st i).f0 * (H + 1) := ix_ge hH.1 o
    have b : ix H ((st i).f0, (st i).f1) < ((W + 1) * (H + 1)).toNat := ix_lt hH.1 o
    have hb : (W + 1) * (H + 1) ≤ 61 * 61 := Int.mul_le_mul (by omega) (by omega) (by omega) (by omega)
    have e2 : ((ix H ((st i).f0, (st i).f1) : Nat) : Int) = (st i).f0 * (H + 1) + (st i).f1 := by
      show ((((st i).f0 * (H + 1) + (st i).f1).toNat : Nat) : Int) = _
      omega
    have w1 : wrap64 (H + 1) = H + 1 := wrap_id (by omega) (by omega)
    have w2 : wrap64 ((st i).f0 * (H + 1)) = (st i).f0 * (H + 1) := wrap_id (by omega) (by omega)
    have w3 : wrap64 ((st i).f0 * (H + 1) + (st i).f1) = ((ix H ((st i).f0, (st i).f1) : Nat) : Int) := by rw [← e2, wrap_id (by omega) (by omega)]
    have hlt := tl_len H (fun k => ((st k).f0, (st k).f1)) ((W + 1) * (H + 1)).toNat i
    have hc := cntI_le H (fun k => ((st k).f0, (st k).f1)) (ix H ((st i).f0, (st i).f1)) i
    have ht : rd (tl H (fun k => ((st k).f0, (st k).f1)) ((W + 1) * (H + 1)).toNat i) ((ix H ((st i).f0, (st i).f1) : Nat) : Int) = ((cntI H (fun k => ((st k).f0, (st k).f1)) (ix H ((st i).f0, (st i).f1)) i : Nat) : Int) := tl_rd H (fun k => ((st k).f0, (st k).f1)) (k := i) b
    have hs : (tl H (fun k => ((st k).f0, (st k).f1)) ((W + 1) * (H + 1)).toNat i).set (ix H ((st i).f0, (st i).f1)) (rd (tl H (fun k => ((st k).f0, (st k).f1)) ((W + 1) * (H + 1)).toNat i) ((ix H ((st i).f0, (st i).f1) : Nat) : Int) + 1) = tl H (fun k => ((st k).f0, (st k).f1)) ((W + 1) * (H + 1)).toNat (i + 1) := tl_step H (fun k => ((st k).f0, (st k).f1)) (k := i) b
    simp only [spec_beTimes.l0]
    rw [if_pos (by omega), if_pos (by omega), if_pos (by omega), rd_run st M i (by omega), w1, w2, w3, if_pos (by omega), if_pos (by omega), ht, wrap_id (by omega) (by omega), ← ht, Int.toNat_natCast, e]
    rw [hs]
    exact ih k (i + 1) (by omega) (by omega)
theorem times_eq {W H : Int} (hW : 1 ≤ W ∧ W ≤ 60) (hH : 1 ≤ H ∧ H ≤ 60) (st : Nat → S30) (M : Nat) (hM : M ≤ 200000) (hon : ∀ k, k ≤ M → On W H ((st k).f0, (st k).f1)) (k : Nat) (hk : M + 2 ≤ k) :
    spec_beTimes.f k W H ((List.range (M + 1)).map st) = some (tl H (fun k => ((st k).f0, (st k).f1)) ((W + 1) * (H + 1)).toNat (M + 1)) := by
  have hb : (W + 1) * (H + 1) ≤ 61 * 61 := Int.mul_le_mul (by omega) (by omega) (by omega) (by omega)
  have h0 : 0 ≤ (W + 1) * (H + 1) := Int.mul_nonneg (by omega) (by omega)
  unfold spec_beTimes.f
  rw [wrap_id (n := W + 1) (by omega) (by omega), wrap_id (n := H + 1) (by omega) (by omega), wrap_id (n := (W + 1) * (H + 1)) (by omega) (by omega), if_pos h0, if_pos (by omega)]
  have := times_l0 hW hH st M hM hon (M + 1) k 0 (by omega) (by omega)
  rw [tl_zero] at this
  exact this
theorem countP_add {p q : Nat → Bool} {a : Nat} (hpa : p a = false) (h : ∀ j, j ≠ a → q j = p j) : ∀ n, a < n → (List.range n).countP q = (List.range n).countP p + (if q a = true then 1 else 0)
  | 0, ha => by omega
  | n + 1, ha => by
    rw [List.range_succ, List.countP_append, List.countP_append]
    rcases Nat.lt_or_ge a n with c | c
    · rw [countP_add hpa h n c]
      have : [n].countP q = [n].countP p := by simp [List.countP_singleton, h n (by omega)]
      omega
    · obtain rfl : a = n := by omega
      have e : (List.range a).countP q = (List.range a).countP p := List.countP_congr (fun j hj => by rw [h j (by have := List.mem_range.1 hj; omega)])
      rw [e]
      simp [List.countP_singleton, hpa]
theorem set_mem (W H : Int) (b : S30) (q : Int × Int) : ∀ k, q ∈ vsSet W H b k ↔ ∃ m, m < k ∧ vsPt W H b m = q
  | 0 => by simp [vsSet]
  | k + 1 => by
    have ih := set_mem W H b q k
    simp only [vsSet]
    have up : (∃ m, m < k + 1 ∧ vsPt W H b m = q) ↔ (∃ m, m < k ∧ vsPt W H b m = q) ∨ vsPt W H b k = q := by
      constructor
      · rintro ⟨m, h1, h2⟩
        rcases Nat.lt_or_ge m k with c | c
        · exact .inl ⟨m, c, h2⟩
        · obtain rfl : m = k := by omega
          exact .inr h2
      · rintro (⟨m, h1, h2⟩ | h)
        · exact ⟨m, by omega, h2⟩
        · exact ⟨k, by omega, h⟩
    rw [up]
    split
    · rename_i hm
      rw [ih]
      constructor
      · exact .inl
      · rintro (h | h)
        · exact h
        · rw [← h]
          exact (set_mem W H b _ k).1 hm
    · rw [List.mem_cons, ih]
      constructor
      · rintro (h | h)
        · exact .inr h.symm
        · exact .inl h
      · rintro (h | h)
        · exact .inr h
        · exact .inl h.symm
theorem set_count {W H : Int} (hH : 1 ≤ H) (b : S30) (P : Int × Int → Bool) (P' : Nat → Bool) (K : Nat) (hon : ∀ k, k < K → On W H (vsPt W H b k)) (hP : ∀ k, k < K → P (vsPt W H b k) = P' (ix H (vsPt W H b k))) : ∀ k, k ≤ K →
    ((vsSet W H b k).filter P).length = (List.range ((W + 1) * (H + 1)).toNat).countP (fun j => decide (0 < cntI H (vsPt W H b) j k) && P' j)
  | 0, _ => by
    have : (fun j => decide (0 < cntI H (vsPt W H b) j 0) && P' j) = fun _ => false := by funext j; simp [cntI]
    rw [this]
    simp [vsSet]
  | k + 1, hk => by
    have ih := set_count hH b P P' K hon hP k (by omega)
    have ok := hon k (by omega)
    have hi := ix_lt hH ok
    have iff : vsPt W H b k ∈ vsSet W H b k ↔ 0 < cntI H (vsPt W H b) (ix H (vsPt W H b k)) k := by
      rw [set_mem, cntI_pos]
      constructor
      · rintro ⟨m, h1, h2⟩
        exact ⟨m, h1, by rw [h2]⟩
      · rintro ⟨m, h1, h2⟩
        exact ⟨m, h1, ix_inj hH (hon m (by omega)) ok h2⟩
    simp only [vsSet]
    by_cases c : vsPt W H b k ∈ vsSet W H b k
    · rw [if_pos c, ih]
      refine List.countP_congr (fun j hj => ?_)
      have : decide (0 < cntI H (vsPt W H b) j k) = decide (0 < cntI H (vsPt W H b) j (k + 1)) := by
        rw [decide_eq_decide]
        simp only [cntI]
        by_cases e : ix H (vsPt W H b k) = j
        · rw [if_pos e]
          have := iff.1 c
          rw [e] at this
          omega
        · rw [if_neg e]
          omega
      rw [this]
    · rw [if_neg c]
      have hz : cntI H (vsPt W H b) (ix H (vsPt W H b k)) k = 0 := by
        have hn : ¬ 0 < cntI H (vsPt W H b) (ix H (vsPt W H b k)) k := fun h => c (iff.2 h)
        omega
      rw [countP_add (a := ix H (vsPt W H b k)) (p := fun j => decide (0 < cntI H (vsPt W H b) j k) && P' j) (by simp [hz]) (fun j hj => by rw [show cntI H (vsPt W H b) j (k + 1) = cntI H (vsPt W H b) j k from by simp only [cntI]; rw [if_neg (fun e => hj (Eq.symm e)), Nat.add_zero]]) _ hi, ← ih, List.filter_cons, hP k (by omega)]
      have : decide (0 < cntI H (vsPt W H b) (ix H (vsPt W H b k)) (k + 1)) = true := by simp [cntI]
      rw [this, Bool.true_and]
      split <;> simp
/-- Both ways pass the same places. -/
theorem way_both {W H x y : Int} (r u : Bool) (t : OnT W H x y) : ∃ M : Nat, M ≤ 14401 ∧ (∀ j, j < M → fwGo W H ⟨x, y, r, u⟩ (4 * (W * H) + 1) (fun _ => false) j) ∧ ¬ fwGo W H ⟨x, y, r, u⟩ (4 * (W * H) + 1) (fun _ => false) M ∧
    (∀ k, k ≤ M → On W H (vsPt W H ⟨x, y, r, u⟩ k)) ∧ vsN W H ⟨x, y, r, u⟩ ≤ M ∧ (∀ k, k ≤ M → ∃ j, j ≤ vsN W H ⟨x, y, r, u⟩ ∧ vsPt W H ⟨x, y, r, u⟩ j = vsPt W H ⟨x, y, r, u⟩ k) := by
  have a := area t
  have hw : ((W.toNat : Nat) : Int) = W := by have := t.w1; omega
  have hh : ((H.toNat : Nat) : Int) = H := by have := t.h1; omega
  obtain ⟨m1, m2, m3⟩ := fwN_is W H ⟨x, y, r, u⟩ (4 * (W * H) + 1) (fun _ => false) (by omega)
  obtain ⟨n1, n2, n3⟩ := fwN_is W H ⟨x, y, r, u⟩ (2 * W * H) (fun _ => false) (by rw [Int.mul_assoc]; omega)
  unfold vsN
  rw [Int.mul_assoc] at n1 n2 n3 ⊢
  generalize fwN W H ⟨x, y, r, u⟩ (4 * (W * H) + 1) (fun _ => false) = M at m1 m2 m3
  generalize fwN W H ⟨x, y, r, u⟩ (2 * (W * H)) (fun _ => false) = N at n1 n2 n3 ⊢
  have mc : ∀ j, 0 < j → j < M → fwCor W H (fwSt W H ⟨x, y, r, u⟩ j).1 = false := by
    intro j j0 j1
    rcases (m3 j j1).2.2 with h | h
    · omega
    · exact h
  have hon : ∀ k, k ≤ M → On W H (vsPt W H ⟨x, y, r, u⟩ k) := by
    intro k hk
    have z := (way_ok r u t k (fun j j0 j1 => mc j j0 (by omega))).1
    exact ⟨⟨z.x1, z.x2⟩, z.y1, z.y2⟩
  refine ⟨M, by omega, m3, m2, hon, ?_⟩
  by_cases c : N = 0 ∨ fwCor W H (fwSt W H ⟨x, y, r, u⟩ N).1 = false
  · have hN : (N : Int) = 2 * (W * H) := by
      apply Classical.byContradiction
      intro hne
      exact n2 ⟨rfl, by omega, c⟩
    have nc : ∀ j, 0 < j → j ≤ N → fwCor W H (fwSt W H ⟨x, y, r, u⟩ j).1 = false := by
      intro i i0 i1
      rcases Nat.lt_or_ge i N with h | h
      · rcases (n3 i h).2.2 with g | g
        · omega
        · exact g
      · obtain rfl : i = N := by omega
        rcases c with h | h
        · omega
        · exact h
    have nv := nocor_all r u t (fun j j0 j1 => nocor_upto r u t N nc N (Nat.le_refl _) j j0 (by omega))
    have sv := st_all r u t nv
    have hp := vs_period r u t
    have eN : N = 2 * (W.toNat * H.toNat) := by omega
    rw [← eN] at hp
    have hM : (M : Int) = 4 * (W * H) + 1 := by
      apply Classical.byContradiction
      intro hne
      refine m2 ⟨rfl, by omega, ?_⟩
      rcases Nat.eq_zero_or_pos M with h | h
      · exact .inl h
      · exact .inr (by rw [sv]; exact nv M h)
    refine ⟨by omega, fun k hk => ⟨k % N, Nat.le_of_lt (Nat.mod_lt _ (by omega)), ?_⟩⟩
    unfold vsPt
    rw [sv, sv, ← vs_mod hp k]
  · have hMN : M = N := by
      refine go_unique m3 m2 (fun j hj => ?_) (fun h => ?_)
      · have := n3 j hj
        exact ⟨rfl, by have := this.2.1; omega, this.2.2⟩
      · exact c h.2.2
    subst hMN
    exact ⟨Nat.le_refl _, fun k hk => ⟨k, hk, rfl⟩⟩

def crP (W H x y X Y : Int) : Bool := decide (X > 0) && (decide (X < W) && (decide (Y > 0) && (decide (Y < H) && (if X = x then Y != y else true))))
theorem cross_l0 (W H x y : Int) (r u : Bool) (hH : 1 ≤ H ∧ H ≤ 60) (f : Nat → Int × Int) (n K : Nat) (hn : n ≤ 100000) (d : Nat) : ∀ (k i : Nat) (a : Int), i + d = n → 2 * d < k → 0 ≤ a → a + d ≤ 100000 →
    spec_CountCrossings.l0 k a (tl H f n K) (n : Nat) i W H x y r u = some (a + (((List.range' i d).countP (fun j => decide (1 < cntI H f j K) && crP W H x y (Int.tdiv (j : Nat) (H + 1)) (Int.tmod (j : Nat) (H + 1))) : Nat) : Int), true) := by
  induction d with
  | zero =>
    intro k i a hi hk h0 h1
    obtain ⟨k, rfl⟩ : ∃ m, k = m + 1 := ⟨k - 1, by omega⟩
    simp only [spec_CountCrossings.l0]
    rw [if_neg (by omega)]
    simp
  | succ d ih =>
    intro k i a hi hk h0 h1
    obtain ⟨k, rfl⟩ : ∃ m, k = m + 2 := ⟨k - 2, by omega⟩
    have e : wrap64 ((i : Int) + 1) = ((i + 1 : Nat) : Int) := by rw [wrap_id (by omega) (by omega)]; omega
    have hl := tl_len H f n K
    have w1 : wrap64 (H + 1) = H + 1 := wrap_id (by omega) (by omega)
    have hd : Int.tdiv (i : Int) (H + 1) = (i : Int) / (H + 1) := Int.tdiv_eq_ediv_of_nonneg (by omega)
    have hd0 : 0 ≤ (i : Int) / (H + 1) := Int.ediv_nonneg (by omega) (by omega)
    have hd1 : (i : Int) / (H + 1) ≤ i := Int.ediv_le_self _ (by omega)
    have w2 : wrap64 (Int.tdiv (i : Int) (H + 1)) = Int.tdiv (i : Int) (H + 1) := by rw [hd, wrap_id (by omega) (by omega)]
    have n1 := ih k (i + 1)
    have j : ∀ b, spec_CountCrossings.j1 (k + 1) a (tl H f n K) (n : Nat) i b W H x y r u = spec_CountCrossings.l0 k (a + if b = true then 1 else 0) (tl H f n K) (n : Nat) ((i + 1 : Nat) : Int) W H x y r u := by
      intro b
      simp only [spec_CountCrossings.j1]
      rw [e, wrap_id (by omega) (by omega)]
      cases b <;> simp
    have J : ∀ b, spec_CountCrossings.j1 (k + 1) a (tl H f n K) (n : Nat) i b W H x y r u = spec_CountCrossings.j1 (k + 1) a (tl H f n K) (n : Nat) i (b && true) W H x y r u := by intro b; rw [Bool.and_true]
    simp only [spec_CountCrossings.l0]
    rw [if_pos (by omega), if_pos (by omega), if_pos (by omega), tl_rd H f (by omega), w1, if_neg (by omega), w2, List.range'_succ, List.countP_cons]
    have key : ∀ c X Y : Int, (if c > 1 then (if X > 0 then (if X < W then (if Y > 0 then (if Y < H then (if X = x then (spec_CountCrossings.j1 (k + 1) a (tl H f n K) (n : Nat) i (Y != y) W H x y r u) else (spec_CountCrossings.j1 (k + 1) a (tl H f n K) (n : Nat) i true W H x y r u)) else (spec_CountCrossings.j1 (k + 1) a (tl H f n K) (n : Nat) i false W H x y r u)) else (spec_CountCrossings.j1 (k + 1) a (tl H f n K) (n : Nat) i false W H x y r u)) else (spec_CountCrossings.j1 (k + 1) a (tl H f n K) (n : Nat) i false W H x y r u)) else (spec_CountCrossings.j1 (k + 1) a (tl H f n K) (n : Nat) i false W H x y r u)) else (spec_CountCrossings.j1 (k + 1) a (tl H f n K) (n : Nat) i false W H x y r u)) = spec_CountCrossings.j1 (k + 1) a (tl H f n K) (n : Nat) i (decide (c > 1) && crP W H x y X Y) W H x y r u := by
      intro c X Y
      unfold crP
      by_cases h1 : c > 1
      · by_cases h2 : X > 0
        · by_cases h3 : X < W
          · by_cases h4 : Y > 0
            · by_cases h5 : Y < H
              · by_cases h6 : X = x
                · simp only [h1, h2, h3, h4, h5, h6, if_true, decide_true, Bool.true_and] at *
                  simp only [h1, h2, h3, h4, h5, if_true, decide_true, Bool.true_and]
                · simp only [h1, h2, h3, h4, h5, h6, if_true, if_false, decide_true, Bool.true_and]
              · simp only [h1, h2, h3, h4, h5, if_true, if_false, decide_true, decide_false, Bool.true_and, Bool.false_and]
            · simp only [h1, h2, h3, h4, if_true, if_false, decide_true, decide_false, Bool.true_and, Bool.false_and]
          · simp only [h1, h2, h3, if_true, if_false, decide_true, decide_false, Bool.true_and, Bool.false_and]
        · simp only [h1, h2, if_true, if_false, decide_true, decide_false, Bool.true_and, Bool.false_and]
      · simp only [h1, if_false, decide_false, Bool.false_and]
    rw [key, j]
    have ec : decide (((cntI H f i K : Nat) : Int) > 1) = decide (1 < cntI H f i K) := by rw [decide_eq_decide]; omega
    rw [ec]
    generalize (decide (1 < cntI H f i K) && crP W H x y (Int.tdiv (i : Int) (H + 1)) (Int.tmod (i : Int) (H + 1))) = b
    rw [n1 _ (by omega) (by omega) (by split <;> omega) (by split <;> omega)]
    congr 2
    cases b <;> simp <;> omega
/-- A place's number tells the place. -/
theorem ix_div {W H : Int} {q : Int × Int} (hH : 1 ≤ H) (h : On W H q) : Int.tdiv ((ix H q : Nat) : Int) (H + 1) = q.1 ∧ Int.tmod ((ix H q : Nat) : Int) (H + 1) = q.2 := by
  have a := ix_ge hH h
  have := h.2.1
  have := h.2.2
  have e : ((ix H q : Nat) : Int) = q.2 + q.1 * (H + 1) := by
    unfold ix
    omega
  rw [Int.tdiv_eq_ediv_of_nonneg (by omega), Int.tmod_eq_emod_of_nonneg (by omega), e, Int.add_mul_ediv_right _ _ (by omega), Int.add_mul_emod_self_right, Int.ediv_eq_zero_of_lt (by omega) (by omega), Int.emod_eq_of_lt (by omega) (by omega)]
  exact ⟨by omega, rfl⟩
theorem vsCnt_cntI {W H : Int} (hH : 1 ≤ H) (b : S30) {q : Int × Int} (hq : On W H q) : ∀ k, (∀ m, m < k → On W H (vsPt W H b m)) → vsCnt W H b q k = cntI H (vsPt W H b) (ix H q) k
  | 0, _ => rfl
  | k + 1, h => by
    simp only [vsCnt, cntI]
    rw [vsCnt_cntI hH b hq k (fun m hm => h m (by omega))]
    by_cases c : vsPt W H b k = q
    · rw [if_pos c, if_pos (by rw [c])]
    · rw [if_neg c, if_neg (fun e => c (ix_inj hH (h k (by omega)) hq e))]
theorem ccP_crP {W H : Int} (hW : 1 ≤ W ∧ W ≤ 60) (hH : 1 ≤ H ∧ H ≤ 60) (x y : Int) (c : Int × Int → Nat) (q : Int × Int) : ccP W H x y c q = (decide (1 < c q) && crP W H x y q.1 q.2) := by
  unfold ccP ccIn crP
  rw [within_eq, within_eq, wrap_id (n := W - 1) (by omega) (by omega), wrap_id (n := H - 1) (by omega) (by omega)]
  simp only [Option.getD_some]
  rw [Bool.eq_iff_iff]
  by_cases h6 : q.1 = x
  · simp [h6]
    omega
  · simp [h6]
    omega
theorem main : laws_FnExactCountCrossings.Pure := by
  intro W H x y r u _ _ _ _
  obtain ⟨k, hk⟩ : ∃ k : Nat, 100000 ≤ k := ⟨100000, Nat.le_refl _⟩
  refine ⟨k + 1, ?_⟩
  have key : ∃ z, spec_CountCrossings.f (k + 1) W H x y r u = some z ∧ impl_CountCrossings.f W H x y r u = some z := by
    unfold spec_CountCrossings.f impl_CountCrossings.f impl_toCorner.f
    rw [beGood_eq, IsBeam_eq]
    simp only [Option.bind_some]
    cases hb : bg W H x y with
    | false => exact ⟨(0, false), by simp, by simp⟩
    | true =>
      have t := bg_of hb
      have hW := And.intro t.w1 t.w2
      have hH := And.intro t.h1 t.h2
      have hbn : (W + 1) * (H + 1) ≤ 61 * 61 := Int.mul_le_mul (by omega) (by omega) (by omega) (by omega)
      obtain ⟨M, hM, h1, h2, h3, h4⟩ := corn_eq (k + 1) (by omega) r u t
      rw [if_pos rfl, if_pos rfl, h1]
      simp only [Option.bind_some]
      cases hs : fwStop W H ⟨x, y, r, u⟩ (fwCornN W H ⟨x, y, r, u⟩) with
      | false => exact ⟨(0, false), by simp, by simp⟩
      | true =>
        obtain ⟨hMC, hM0, hcor⟩ := h2 hs
        have a := area t
        obtain ⟨n1, n2, n3⟩ := fwN_is W H ⟨x, y, r, u⟩ (2 * W * H) (fun _ => false) (by rw [Int.mul_assoc]; omega)
        obtain ⟨m1, m2, m3⟩ := fwN_is W H ⟨x, y, r, u⟩ (2 * W * H) (fwStop W H ⟨x, y, r, u⟩) (by rw [Int.mul_assoc]; omega)
        have hNM : vsN W H ⟨x, y, r, u⟩ = M := by
          unfold vsN
          rw [hMC]
          unfold fwCornN
          refine go_unique n3 n2 (fun j hj => ?_) (fun h => ?_)
          · have := m3 j hj
            exact ⟨rfl, this.2.1, this.2.2⟩
          · rw [hMC] at hcor hM0
            unfold fwCornN at hcor hM0
            rcases h.2.2 with h | h
            · omega
            · rw [hcor] at h
              cases h
        have hon : ∀ k, k ≤ M → On W H (vsPt W H ⟨x, y, r, u⟩ k) := by
          intro k hk
          have z := (way_ok r u t k (fun j j0 j1 => h4 j j0 (by omega))).1
          exact ⟨⟨z.x1, z.x2⟩, z.y1, z.y2⟩
        have e2 := times_eq hW hH (fun j => (fwSt W H ⟨x, y, r, u⟩ j).1) M (by omega) hon (k + 1) (by omega)
        have hp := cross_l0 W H x y r u hH (vsPt W H ⟨x, y, r, u⟩) ((W + 1) * (H + 1)).toNat (M + 1) (by omega) ((W + 1) * (H + 1)).toNat (k + 1) 0 0 (by omega) (by omega) (by omega) (by omega)
        have hset := set_count hH.1 ⟨x, y, r, u⟩ (ccP W H x y (fun q => vsCnt W H ⟨x, y, r, u⟩ q (M + 1))) (fun j => decide (1 < cntI H (vsPt W H ⟨x, y, r, u⟩) j (M + 1)) && crP W H x y (Int.tdiv (j : Nat) (H + 1)) (Int.tmod (j : Nat) (H + 1))) (M + 1) (fun k hk => hon k (by omega)) (fun k hk => by
          have o := hon k (by omega)
          rw [ccP_crP hW hH]
          rw [(ix_div hH.1 o).1, (ix_div hH.1 o).2, vsCnt_cntI hH.1 ⟨x, y, r, u⟩ o (M + 1) (fun m hm => hon m (by omega))]) _ (Nat.le_refl _)
        refine ⟨(((ccL W H x y r u).length : Nat), true), ?_, ?_⟩
        · rw [if_pos rfl, e2]
          simp only [Option.bind_some, tl_len]
          refine hp.trans ?_
          unfold ccL ccN
          rw [hNM, hset, ← List.range_eq_range', Int.zero_add]
          congr 3
          refine List.countP_congr (fun j _ => ?_)
          have : (decide (0 < cntI H (vsPt W H ⟨x, y, r, u⟩) j (M + 1)) && (decide (1 < cntI H (vsPt W H ⟨x, y, r, u⟩) j (M + 1)) && crP W H x y (Int.tdiv (j : Nat) (H + 1)) (Int.tmod (j : Nat) (H + 1)))) = (decide (1 < cntI H (vsPt W H ⟨x, y, r, u⟩) j (M + 1)) && crP W H x y (Int.tdiv (j : Nat) (H + 1)) (Int.tmod (j : Nat) (H + 1))) := by
            by_cases c : 1 < cntI H (vsPt W H ⟨x, y, r, u⟩) j (M + 1)
            · rw [decide_eq_true c, decide_eq_true (show 0 < cntI H (vsPt W H ⟨x, y, r, u⟩) j (M + 1) by omega), Bool.true_and]
            · rw [decide_eq_false c]
              simp
          rw [this]
        · rw [if_pos rfl]
          simp only [Option.bind_some]
          rw [if_pos trivial, if_pos (vsOk_of t)]
  obtain ⟨z, h1, h2⟩ := key
  unfold laws_FnExactCountCrossings.f
  simp only [laws_toTable.f, laws_toBeam.f, Option.bind_some, h1, h2, bne_self_eq_false, Bool.false_eq_true, if_false, if_true, laws_FnExactCountCrossings.j0]
end LFnExactCountCrossings

theorem FnExactCountCrossings : laws_FnExactCountCrossings.Pure := LFnExactCountCrossings.main

end Go.Proofs.Ythfbjofmcniogaa.Pure
