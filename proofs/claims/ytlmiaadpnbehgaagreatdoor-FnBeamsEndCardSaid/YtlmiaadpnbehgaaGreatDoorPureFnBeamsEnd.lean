/- For every two texts of bytes the law of the beams' ends answers true; no condition beyond the texts' kinds. -/
import Derived.Test.YtlmiaadpnbehgaaGreatDoorPFnBeamsEndx21
namespace Go.Proofs.YtlmiaadpnbehgaaGreatDoor.Pure
open Go.RowKit Go.Proofs.YtlmiaadpnbehgaaGreatDoor.PFnBeamsEnd Go.Proofs.YtlmiaadpnbehgaaGreatDoorW.PrintWords Go.Proofs.YtlmiaadpnbehgaaGreatDoorW.PrintLast
set_option linter.unusedVariables false
set_option linter.unusedSimpArgs false

namespace LFnBeamsEnd
theorem within_eq (a b c : Int) : impl_within.f a b c = some (decide (b ≤ a ∧ a ≤ c)) := by
  by_cases h1 : b ≤ a <;> by_cases h2 : a ≤ c <;> simp [impl_within.f, h1, h2]

theorem l1In_eq (a b c : Int) : spec_l1In.f a b c = some (decide (b ≤ a ∧ a ≤ c)) := by
  by_cases h1 : b ≤ a <;> by_cases h2 : a ≤ c <;> simp [spec_l1In.f, h1, h2]

theorem wrap_id {n : Int} (h0 : -9223372036854775808 ≤ n) (h1 : n ≤ 9223372036854775807) : wrap64 n = n := by
  unfold wrap64
  omega

/-- A beam on a table. -/
def bg (W H x y : Int) : Bool := decide ((1 ≤ W ∧ W ≤ 60) ∧ (1 ≤ H ∧ H ≤ 60) ∧ (0 ≤ x ∧ x ≤ W) ∧ 0 ≤ y ∧ y ≤ H)
structure OnT (W H x y : Int) : Prop where
  w1 : 1 ≤ W
  w2 : W ≤ 60
  h1 : 1 ≤ H
  h2 : H ≤ 60
  x1 : 0 ≤ x
  x2 : x ≤ W
  y1 : 0 ≤ y
  y2 : y ≤ H
theorem bg_of {W H x y : Int} (h : bg W H x y = true) : OnT W H x y := by
  obtain ⟨⟨a, b⟩, ⟨c, d⟩, ⟨e, f⟩, g, i⟩ := of_decide_eq_true h
  exact ⟨a, b, c, d, e, f, g, i⟩
theorem IsTable_eq (W H : Int) : impl_IsTable.f W H = some (decide ((1 ≤ W ∧ W ≤ 60) ∧ 1 ≤ H ∧ H ≤ 60)) := by
  simp only [impl_IsTable.f, within_eq, Option.bind_some]
  by_cases h1 : 1 ≤ W ∧ W ≤ 60 <;> by_cases h2 : 1 ≤ H ∧ H ≤ 60 <;> simp [h1, h2]
theorem IsBeam_eq (W H x y : Int) (r u : Bool) : impl_IsBeam.f W H x y r u = some (bg W H x y) := by
  simp only [impl_IsBeam.f, IsTable_eq, within_eq, Option.bind_some, bg]
  by_cases h1 : 1 ≤ W ∧ W ≤ 60 <;> by_cases h2 : 1 ≤ H ∧ H ≤ 60 <;> by_cases h3 : 0 ≤ x ∧ x ≤ W <;> by_cases h4 : 0 ≤ y ∧ y ≤ H <;> simp [h1, h2, h3, h4]
theorem beGood_eq (W H x y : Int) (r u : Bool) : spec_beGood.f W H x y r u = some (bg W H x y) := by
  simp only [spec_beGood.f, spec_beTable.f, l1In_eq, Option.bind_some, bg]
  by_cases h1 : 1 ≤ W ∧ W ≤ 60 <;> by_cases h2 : 1 ≤ H ∧ H ≤ 60 <;> by_cases h3 : 0 ≤ x ∧ x ≤ W <;> by_cases h4 : 0 ≤ y ∧ y ≤ H <;> simp [h1, h2, h3, h4]

/-- One coordinate turned inward; on a side; a step. -/
def inw1 (W x : Int) (r : Bool) : Bool := decide (x = 0) || (r && decide (x < W))
def ons (W x : Int) : Bool := decide (x = 0) || decide (x = W)
def sg (b : Bool) : Int := if b = true then 1 else -1
theorem fwInw_is (W H x y : Int) (r u : Bool) : fwInw W H ⟨x, y, r, u⟩ = ⟨x, y, inw1 W x r, inw1 H y u⟩ := by
  have e : impl_inward.f W H x y r u = some (x, y, inw1 W x r, inw1 H y u) := by
    unfold impl_inward.f inw1
    cases r <;> cases u <;> by_cases h1 : x = 0 <;> by_cases h2 : y = 0 <;> simp [h1, h2]
  simp only [fwInw, e]
theorem fwCor_is (W H x y : Int) (r u : Bool) : fwCor W H ⟨x, y, r, u⟩ = (ons W x && ons H y) := by
  have e : impl_isCorner.f W H x y r u = some (ons W x && ons H y) := by
    unfold impl_isCorner.f ons
    by_cases h1 : x = 0 <;> by_cases h2 : y = 0 <;> by_cases h3 : x = W <;> by_cases h4 : y = H <;> simp [h1, h2, h3, h4]
    all_goals first | (intro h; exact absurd h.symm ‹_›) | skip
  simp only [fwCor, e, Option.getD_some]
/-- The side at which it bounces. -/
def sideB (W H x y : Int) : ByteArray := if x = W then ⟨#[114]⟩ else if x = 0 then ⟨#[108]⟩ else if y = H then ⟨#[117]⟩ else if y = 0 then ⟨#[100]⟩ else ⟨#[]⟩
theorem sign_eq (r : Bool) : impl_sign.f r = some (sg r) := by cases r <;> rfl
theorem fwNext_is (W H x y : Int) (r u : Bool) (hx : -1000 ≤ x ∧ x ≤ 1000) (hy : -1000 ≤ y ∧ y ≤ 1000) :
    fwNext W H ⟨x, y, r, u⟩ = if (ons W (x + sg r) && ons H (y + sg u)) = true then (⟨x + sg r, y + sg u, r, u⟩, ⟨#[]⟩)
      else (⟨x + sg r, y + sg u, if x + sg r = W ∨ x + sg r = 0 ∨ y + sg u = H ∨ y + sg u = 0 then inw1 W (x + sg r) r else r, if x + sg r = W ∨ x + sg r = 0 ∨ y + sg u = H ∨ y + sg u = 0 then inw1 H (y + sg u) u else u⟩, sideB W H (x + sg r) (y + sg u)) := by
  have wx : wrap64 (x + sg r) = x + sg r := by cases r <;> exact wrap_id (by simp [sg]; omega) (by simp [sg]; omega)
  have wy : wrap64 (y + sg u) = y + sg u := by cases u <;> exact wrap_id (by simp [sg]; omega) (by simp [sg]; omega)
  have e : impl_next.f W H x y r u = some (if (ons W (x + sg r) && ons H (y + sg u)) = true then (x + sg r, y + sg u, r, u, ⟨#[]⟩)
      else (x + sg r, y + sg u, if x + sg r = W ∨ x + sg r = 0 ∨ y + sg u = H ∨ y + sg u = 0 then inw1 W (x + sg r) r else r, if x + sg r = W ∨ x + sg r = 0 ∨ y + sg u = H ∨ y + sg u = 0 then inw1 H (y + sg u) u else u, sideB W H (x + sg r) (y + sg u))) := by
    unfold impl_next.f
    rw [sign_eq, sign_eq]
    simp only [Option.bind_some, wx, wy, fwCor_eq, fwCor_is, fwInw_eq, fwInw_is, sideB]
    generalize x + sg r = X
    generalize y + sg u = Y
    by_cases c : (ons W X && ons H Y) = true
    · simp [c]
    · simp only [if_neg c]
      by_cases h1 : X = W
      · simp only [if_pos h1, if_pos (show X = W ∨ X = 0 ∨ Y = H ∨ Y = 0 from .inl h1), Option.bind_some]
      · by_cases h2 : X = 0
        · simp only [if_neg h1, if_pos h2, if_pos (show X = W ∨ X = 0 ∨ Y = H ∨ Y = 0 from .inr (.inl h2)), Option.bind_some]
        · by_cases h3 : Y = H
          · simp only [if_neg h1, if_neg h2, if_pos h3, if_pos (show X = W ∨ X = 0 ∨ Y = H ∨ Y = 0 from .inr (.inr (.inl h3))), Option.bind_some]
          · by_cases h4 : Y = 0
            · simp only [if_neg h1, if_neg h2, if_neg h3, if_pos h4, if_pos (show X = W ∨ X = 0 ∨ Y = H ∨ Y = 0 from .inr (.inr (.inr h4))), Option.bind_some]
            · simp only [if_neg h1, if_neg h2, if_neg h3, if_neg h4, if_neg (show ¬ (X = W ∨ X = 0 ∨ Y = H ∨ Y = 0) from fun h => by rcases h with h | h | h | h <;> contradiction), Option.bind_some]
  simp only [fwNext, e]
  split <;> simp_all
theorem fwNext_in (W H x y : Int) (r u : Bool) (hx : -1000 ≤ x ∧ x ≤ 1000) (hy : -1000 ≤ y ∧ y ≤ 1000) (t : OnT W H (x + sg r) (y + sg u)) :
    fwNext W H ⟨x, y, r, u⟩ = if (ons W (x + sg r) && ons H (y + sg u)) = true then (⟨x + sg r, y + sg u, r, u⟩, ⟨#[]⟩)
      else (⟨x + sg r, y + sg u, inw1 W (x + sg r) r, inw1 H (y + sg u) u⟩, sideB W H (x + sg r) (y + sg u)) := by
  rw [fwNext_is W H x y r u hx hy]
  obtain ⟨w1, w2, h1, h2, x1, x2, y1, y2⟩ := t
  generalize x + sg r = X at *
  generalize y + sg u = Y at *
  by_cases c : X = W ∨ X = 0 ∨ Y = H ∨ Y = 0
  · simp only [if_pos c]
  · simp only [if_neg c]
    have a1 : ¬ X = 0 := fun h => c (.inr (.inl h))
    have a2 : X < W := by
      have : ¬ X = W := fun h => c (.inl h)
      omega
    have a3 : ¬ Y = 0 := fun h => c (.inr (.inr (.inr h)))
    have a4 : Y < H := by
      have : ¬ Y = H := fun h => c (.inr (.inr (.inl h)))
      omega
    simp [inw1, a1, a2, a3, a4]
/-- One coordinate that has been turned inward. -/
structure Nm (W x : Int) (r : Bool) : Prop where
  lo : 0 ≤ x
  hi : x ≤ W
  a : x = 0 → r = true
  b : x = W → r = false
theorem nm_inw {W x : Int} (r : Bool) (hW : 1 ≤ W) (h0 : 0 ≤ x) (h1 : x ≤ W) : Nm W x (inw1 W x r) := by
  refine ⟨h0, h1, fun h => by simp [inw1, h], fun h => ?_⟩
  subst h
  have : ¬ x = 0 := by omega
  simp [inw1, this]
theorem nm_step {W x : Int} {r : Bool} (h : Nm W x r) (hW : 1 ≤ W) : 0 ≤ x + sg r ∧ x + sg r ≤ W := by
  obtain ⟨h0, h1, ha, hb⟩ := h
  cases r with
  | true =>
    have : x ≠ W := fun e => by have := hb e; cases this
    simp [sg]; omega
  | false =>
    have : x ≠ 0 := fun e => by have := ha e; cases this
    simp [sg]; omega

theorem beCorner_eq (W H x y : Int) (r u : Bool) : spec_beCorner.f W H x y r u = some (ons W x && ons H y) := by
  unfold spec_beCorner.f ons
  by_cases h1 : x = 0 <;> by_cases h2 : y = 0 <;> by_cases h3 : x = W <;> by_cases h4 : y = H <;> simp [h1, h2, h3, h4]
  all_goals first | (intro h; exact absurd h.symm ‹_›) | skip
theorem beTurn_eq (k : Nat) {W H x y : Int} (r u : Bool) (t : OnT W H x y) : spec_beTurn.f (k + 3) W H x y r u = some (x, y, inw1 W x r, inw1 H y u) := by
  obtain ⟨w1, w2, h1, h2, x1, x2, y1, y2⟩ := t
  have n1 : ¬ W = 0 := by omega
  have n2 : ¬ H = 0 := by omega
  have n3 : ¬ (0 : Int) = W := by omega
  have n4 : ¬ (0 : Int) = H := by omega
  have cx : x = 0 ∨ x = W ∨ (¬ x = 0 ∧ ¬ x = W ∧ x < W) := by omega
  have cy : y = 0 ∨ y = H ∨ (¬ y = 0 ∧ ¬ y = H ∧ y < H) := by omega
  unfold spec_beTurn.f
  simp only [spec_beTurn.j0]
  rcases cx with rfl | rfl | ⟨a1, a2, a3⟩ <;> rcases cy with rfl | rfl | ⟨b1, b2, b3⟩ <;> cases r <;> cases u <;> simp_all [inw1]
theorem beMove_eq (k : Nat) (x y : Int) (r u : Bool) (hx : -1000 ≤ x ∧ x ≤ 1000) (hy : -1000 ≤ y ∧ y ≤ 1000) : spec_beMove.f x y r u = some (x + sg r, y + sg u, r, u) := by
  have e1 : wrap64 (x + 1) = x + 1 := wrap_id (by omega) (by omega)
  have e2 : wrap64 (y + 1) = y + 1 := wrap_id (by omega) (by omega)
  have e3 : wrap64 (x - 1) = x + -1 := by rw [wrap_id (by omega) (by omega)]; omega
  have e4 : wrap64 (y - 1) = y + -1 := by rw [wrap_id (by omega) (by omega)]; omega
  unfold spec_beMove.f
  cases r <;> cases u <;> simp [sg, e1, e2, e3, e4]
theorem beStep_eq (k : Nat) {W H x y : Int} (r u : Bool) (hx : -1000 ≤ x ∧ x ≤ 1000) (hy : -1000 ≤ y ∧ y ≤ 1000) (t : OnT W H (x + sg r) (y + sg u)) :
    spec_beStep.f (k + 3) W H x y r u = some ((fwNext W H ⟨x, y, r, u⟩).1.f0, (fwNext W H ⟨x, y, r, u⟩).1.f1, (fwNext W H ⟨x, y, r, u⟩).1.f2, (fwNext W H ⟨x, y, r, u⟩).1.f3, (fwNext W H ⟨x, y, r, u⟩).2) := by
  unfold spec_beStep.f
  rw [fwNext_in W H x y r u hx hy t, beMove_eq (k + 2) x y r u hx hy]
  simp only [Option.bind_some, beCorner_eq, beTurn_eq k r u t, sideB]
  split
  · rfl
  · split
    · rfl
    · split
      · rfl
      · split
        · rfl
        · split <;> rfl

/-- The beam behind k steps is on the table; it is turned inward unless it is at a corner. -/
theorem way_ok {W H x y : Int} (r u : Bool) (t : OnT W H x y) : ∀ k, (∀ j, 0 < j → j < k → fwCor W H (fwSt W H ⟨x, y, r, u⟩ j).1 = false) →
    OnT W H (fwSt W H ⟨x, y, r, u⟩ k).1.f0 (fwSt W H ⟨x, y, r, u⟩ k).1.f1 ∧ ((k = 0 ∨ fwCor W H (fwSt W H ⟨x, y, r, u⟩ k).1 = false) → Nm W (fwSt W H ⟨x, y, r, u⟩ k).1.f0 (fwSt W H ⟨x, y, r, u⟩ k).1.f2 ∧ Nm H (fwSt W H ⟨x, y, r, u⟩ k).1.f1 (fwSt W H ⟨x, y, r, u⟩ k).1.f3) := by
  intro k
  induction k with
  | zero =>
    intro _
    simp only [fwSt, fwInw_is]
    exact ⟨t, fun _ => ⟨nm_inw r t.w1 t.x1 t.x2, nm_inw u t.h1 t.y1 t.y2⟩⟩
  | succ k ih =>
    intro hc
    have h0 := ih (fun j h1 h2 => hc j h1 (by omega))
    have hn := h0.2 (by
      rcases Nat.eq_zero_or_pos k with h | h
      · exact .inl h
      · exact .inr (hc k h (by omega)))
    obtain ⟨s, hs⟩ : ∃ s, (fwSt W H ⟨x, y, r, u⟩ k).1 = s := ⟨_, rfl⟩
    have e : fwSt W H ⟨x, y, r, u⟩ (k + 1) = fwNext W H s := by rw [← hs]; rfl
    rw [hs] at h0 hn
    rw [e]
    obtain ⟨X, Y, R, U⟩ := s
    have ax := nm_step hn.1 t.w1
    have ay := nm_step hn.2 t.h1
    have tt : OnT W H (X + sg R) (Y + sg U) := ⟨t.w1, t.w2, t.h1, t.h2, ax.1, ax.2, ay.1, ay.2⟩
    have g0 := h0.1
    rw [fwNext_in W H X Y R U (by have := g0.x1; have := g0.x2; have := g0.w2; simp at *; omega) (by have := g0.y1; have := g0.y2; have := g0.h2; simp at *; omega) tt]
    by_cases c : (ons W (X + sg R) && ons H (Y + sg U)) = true
    · rw [if_pos c]
      refine ⟨tt, fun h => ?_⟩
      rcases h with h | h
      · omega
      · rw [fwCor_is, c] at h; cases h
    · rw [if_neg c]
      exact ⟨tt, fun _ => ⟨nm_inw R t.w1 ax.1 ax.2, nm_inw U t.h1 ay.1 ay.2⟩⟩
theorem side_size {W H x y : Int} : (sideB W H x y).size ≤ 1 := by
  unfold sideB
  (repeat' split) <;> decide
/-- The sides of all bounces behind k steps. -/
def sides (W H : Int) (b : S27) : Nat → ByteArray
  | 0 => ⟨#[]⟩
  | k + 1 => sides W H b k ++ (fwSt W H b (k + 1)).2
theorem next_side {W H x y : Int} {r u : Bool} (hx : -1000 ≤ x ∧ x ≤ 1000) (hy : -1000 ≤ y ∧ y ≤ 1000) : (fwNext W H ⟨x, y, r, u⟩).2.size ≤ 1 := by
  rw [fwNext_is W H x y r u hx hy]
  split
  · exact Nat.zero_le _
  · exact side_size
/-- The reference's run is the way up to where it ends. -/
theorem run_l0 {W H x y : Int} (r u : Bool) (t : OnT W H x y) (steps : Int) (N : Nat) (hN : N ≤ 200000) (hgo : ∀ k, k < N → fwGo W H ⟨x, y, r, u⟩ steps (fun _ => false) k) (hend : ¬ fwGo W H ⟨x, y, r, u⟩ steps (fun _ => false) N) (d : Nat) :
    ∀ (k i : Nat), i + d = N → 2 * d + 10 < k → (sides W H ⟨x, y, r, u⟩ i).size ≤ i →
    ∃ sz, spec_beRun.l0 k steps ((List.range (i + 1)).map fun j => (fwSt W H ⟨x, y, r, u⟩ j).1) (sides W H ⟨x, y, r, u⟩ i) i W H = some ((List.range (N + 1)).map (fun j => (fwSt W H ⟨x, y, r, u⟩ j).1), sides W H ⟨x, y, r, u⟩ N) ∧ (sides W H ⟨x, y, r, u⟩ N).size = sz ∧ sz ≤ N := by
  have rdi : ∀ i, rd_T27 ((List.range (i + 1)).map fun j => (fwSt W H ⟨x, y, r, u⟩ j).1) (i : Int) = (fwSt W H ⟨x, y, r, u⟩ i).1 := by
    intro i
    unfold rd_T27
    rw [Int.toNat_natCast, List.getD_eq_getElem?_getD, List.getElem?_map, List.getElem?_range (by omega)]
    rfl
  have okk : ∀ i, i ≤ N → OnT W H (fwSt W H ⟨x, y, r, u⟩ i).1.f0 (fwSt W H ⟨x, y, r, u⟩ i).1.f1 ∧ ((i = 0 ∨ fwCor W H (fwSt W H ⟨x, y, r, u⟩ i).1 = false) → Nm W (fwSt W H ⟨x, y, r, u⟩ i).1.f0 (fwSt W H ⟨x, y, r, u⟩ i).1.f2 ∧ Nm H (fwSt W H ⟨x, y, r, u⟩ i).1.f1 (fwSt W H ⟨x, y, r, u⟩ i).1.f3) := by
    intro i hi
    refine way_ok r u t i (fun j h1 h2 => ?_)
    rcases (hgo j (by omega)).2.2 with h | h
    · omega
    · exact h
  induction d with
  | zero =>
    intro k i hi hk hz
    obtain ⟨k, rfl⟩ : ∃ m, k = m + 2 := ⟨k - 2, by omega⟩
    obtain rfl : i = N := by omega
    refine ⟨_, ?_, rfl, hz⟩
    obtain ⟨o1, o2⟩ := okk i (Nat.le_refl _)
    have hr := rdi i
    obtain ⟨s, hs⟩ : ∃ s, (fwSt W H ⟨x, y, r, u⟩ i).1 = s := ⟨_, rfl⟩
    rw [hs] at hr o1 o2
    unfold fwGo at hend
    rw [hs] at hend
    obtain ⟨X, Y, R, U⟩ := s
    simp only [spec_beRun.l0, spec_beRun.j1]
    by_cases c : (i : Int) < steps
    · have hc : ¬ (i = 0 ∨ fwCor W H ⟨X, Y, R, U⟩ = false) := fun h => hend ⟨rfl, c, h⟩
      have hi0 : ¬ (i : Int) = 0 := fun h => hc (.inl (by omega))
      have hcc : (ons W X && ons H Y) = true := by
        rw [← fwCor_is W H X Y R U]
        cases hq : fwCor W H ⟨X, Y, R, U⟩ with
        | true => rfl
        | false => exact absurd (.inr hq) hc
      rw [if_pos c, if_neg hi0, if_pos (by omega), if_pos (by simp; omega), hr, beCorner_eq, hcc]
      simp
    · rw [if_neg c]
      simp
  | succ d ih =>
    intro k i hi hk hz
    obtain ⟨k, rfl⟩ : ∃ m, k = m + 5 := ⟨k - 5, by omega⟩
    obtain ⟨o1, o2⟩ := okk i (by omega)
    have hr := rdi i
    obtain ⟨_, g1, g2⟩ := hgo i (by omega)
    have g3 := o2 g2
    have hlist : ((List.range (i + 1)).map fun j => (fwSt W H ⟨x, y, r, u⟩ j).1) ++ [(⟨(fwNext W H (fwSt W H ⟨x, y, r, u⟩ i).1).1.f0, (fwNext W H (fwSt W H ⟨x, y, r, u⟩ i).1).1.f1, (fwNext W H (fwSt W H ⟨x, y, r, u⟩ i).1).1.f2, (fwNext W H (fwSt W H ⟨x, y, r, u⟩ i).1).1.f3⟩ : S27)] = (List.range (i + 1 + 1)).map fun j => (fwSt W H ⟨x, y, r, u⟩ j).1 := by
      rw [List.range_succ (n := i + 1), List.map_append]
      rfl
    have hside : sides W H ⟨x, y, r, u⟩ i ++ (fwNext W H (fwSt W H ⟨x, y, r, u⟩ i).1).2 = sides W H ⟨x, y, r, u⟩ (i + 1) := rfl
    have hsz : (fwNext W H (fwSt W H ⟨x, y, r, u⟩ i).1).2.size ≤ 1 := next_side (x := (fwSt W H ⟨x, y, r, u⟩ i).1.f0) (y := (fwSt W H ⟨x, y, r, u⟩ i).1.f1) (r := (fwSt W H ⟨x, y, r, u⟩ i).1.f2) (u := (fwSt W H ⟨x, y, r, u⟩ i).1.f3) (by have := o1.x1; have := o1.x2; have := o1.w2; omega) (by have := o1.y1; have := o1.y2; have := o1.h2; omega)
    have hst : spec_beStep.f (k + 3) W H (fwSt W H ⟨x, y, r, u⟩ i).1.f0 (fwSt W H ⟨x, y, r, u⟩ i).1.f1 (fwSt W H ⟨x, y, r, u⟩ i).1.f2 (fwSt W H ⟨x, y, r, u⟩ i).1.f3 = some ((fwNext W H (fwSt W H ⟨x, y, r, u⟩ i).1).1.f0, (fwNext W H (fwSt W H ⟨x, y, r, u⟩ i).1).1.f1, (fwNext W H (fwSt W H ⟨x, y, r, u⟩ i).1).1.f2, (fwNext W H (fwSt W H ⟨x, y, r, u⟩ i).1).1.f3, (fwNext W H (fwSt W H ⟨x, y, r, u⟩ i).1).2) := by
      have ax := nm_step g3.1 t.w1
      have ay := nm_step g3.2 t.h1
      exact beStep_eq k _ _ (by have := o1.x1; have := o1.x2; have := o1.w2; omega) (by have := o1.y1; have := o1.y2; have := o1.h2; omega) ⟨t.w1, t.w2, t.h1, t.h2, ax.1, ax.2, ay.1, ay.2⟩
    have w1 : wrap64 ((i : Int) + 1) = ((i + 1 : Nat) : Int) := by rw [wrap_id (by omega) (by omega)]; omega
    have s2 : (sides W H ⟨x, y, r, u⟩ (i + 1)).size ≤ i + 1 := by
      rw [← hside, ByteArray.size_append]
      omega
    obtain ⟨sz, e1, e2, e3⟩ := ih (k + 3) (i + 1) (by omega) (by omega) s2
    refine ⟨sz, ?_, e2, e3⟩
    have hl : ((List.range (i + 1)).map fun j => (fwSt W H ⟨x, y, r, u⟩ j).1).length < 5864062014805 := by simp; omega
    have hb : (sides W H ⟨x, y, r, u⟩ i).size + (fwNext W H (fwSt W H ⟨x, y, r, u⟩ i).1).2.size ≤ 9223372036854775807 := by omega
    have hlen : (i : Int) < ((((List.range (i + 1)).map fun j => (fwSt W H ⟨x, y, r, u⟩ j).1).length : Nat) : Int) := by simp; omega
    have hj : spec_beRun.l0 (k + 5) steps ((List.range (i + 1)).map fun j => (fwSt W H ⟨x, y, r, u⟩ j).1) (sides W H ⟨x, y, r, u⟩ i) i W H = spec_beRun.j1 (k + 4) steps ((List.range (i + 1)).map fun j => (fwSt W H ⟨x, y, r, u⟩ j).1) (sides W H ⟨x, y, r, u⟩ i) i true W H := by
      rw [spec_beRun.l0, if_pos g1]
      by_cases c : (i : Int) = 0
      · rw [if_pos c]
      · have g4 : fwCor W H (fwSt W H ⟨x, y, r, u⟩ i).1 = false := by
          rcases g2 with h | h
          · omega
          · exact h
        rw [if_neg c, if_pos (by omega : (0 : Int) ≤ i), if_pos hlen, hr, show spec_beCorner.f W H (fwSt W H ⟨x, y, r, u⟩ i).1.f0 (fwSt W H ⟨x, y, r, u⟩ i).1.f1 (fwSt W H ⟨x, y, r, u⟩ i).1.f2 (fwSt W H ⟨x, y, r, u⟩ i).1.f3 = some (fwCor W H (fwSt W H ⟨x, y, r, u⟩ i).1) by rw [beCorner_eq, ← fwCor_is], g4]
        rfl
    rw [hj, spec_beRun.j1, if_pos rfl, if_pos (by omega : (0 : Int) ≤ i), if_pos hlen, hr, hst]
    simp only [Option.bind_some]
    rw [if_pos hl, if_pos hb, hlist, hside, w1, e1]
theorem run_eq {W H x y : Int} (r u : Bool) (t : OnT W H x y) (steps : Int) (N k : Nat) (hN : N ≤ 200000) (hk : 2 * N + 20 < k) (hgo : ∀ k, k < N → fwGo W H ⟨x, y, r, u⟩ steps (fun _ => false) k) (hend : ¬ fwGo W H ⟨x, y, r, u⟩ steps (fun _ => false) N) :
    spec_beRun.f k W H x y r u steps = some ((List.range (N + 1)).map (fun j => (fwSt W H ⟨x, y, r, u⟩ j).1), sides W H ⟨x, y, r, u⟩ N) ∧ (sides W H ⟨x, y, r, u⟩ N).size ≤ N := by
  obtain ⟨k, rfl⟩ : ∃ m, k = m + 3 := ⟨k - 3, by omega⟩
  obtain ⟨sz, e1, e2, e3⟩ := run_l0 r u t steps N hN hgo hend N (k + 3) 0 (by omega) (by omega) (Nat.le_refl _)
  refine ⟨?_, by omega⟩
  unfold spec_beRun.f
  rw [beTurn_eq k r u t]
  simp only [Option.bind_some]
  have : [(⟨x, y, inw1 W x r, inw1 H y u⟩ : S27)] = (List.range (0 + 1)).map fun j => (fwSt W H ⟨x, y, r, u⟩ j).1 := by simp [fwSt, fwInw_is]
  rw [this]
  exact e1

theorem least_of {P : Nat → Prop} (n : Nat) (h : P n) : ∃ m, m ≤ n ∧ P m ∧ ∀ j, j < m → ¬ P j := by
  induction n using Nat.strongRecOn with
  | ind n ih =>
    by_cases c : ∃ j, j < n ∧ P j
    · obtain ⟨j, hj, hp⟩ := c
      obtain ⟨m, h1, h2, h3⟩ := ih j hj hp
      exact ⟨m, by omega, h2, h3⟩
    · exact ⟨n, Nat.le_refl _, h, fun j hj hp => c ⟨j, hj, hp⟩⟩
/-- The way on, whatever corners there are. -/
def vs (W H : Int) (b : S27) : Nat → S27
  | 0 => ⟨b.f0, b.f1, inw1 W b.f0 b.f2, inw1 H b.f1 b.f3⟩
  | k + 1 => ⟨(vs W H b k).f0 + sg (vs W H b k).f2, (vs W H b k).f1 + sg (vs W H b k).f3, inw1 W ((vs W H b k).f0 + sg (vs W H b k).f2) (vs W H b k).f2, inw1 H ((vs W H b k).f1 + sg (vs W H b k).f3) (vs W H b k).f3⟩
/-- A coordinate on the unfolded way. -/
def co (W x : Int) (r : Bool) : Int := if r = true then x else 2 * W - x
theorem co_step {W x : Int} {r : Bool} (hW : 1 ≤ W) (h : Nm W x r) : co W (x + sg r) (inw1 W (x + sg r) r) = (co W x r + 1) % (2 * W) := by
  obtain ⟨h0, h1, ha, hb⟩ := h
  cases r with
  | true =>
    have hx : x < W := by
      rcases Int.lt_or_le x W with h | h
      · exact h
      · have : x = W := by omega
        have := hb this
        cases this
    have e : sg true = 1 := rfl
    rw [e]
    have n0 : ¬ x + 1 = 0 := by omega
    by_cases hw : x + 1 < W
    · simp [inw1, n0, hw, co]
      rw [Int.emod_eq_of_lt (by omega) (by omega)]
    · have : x + 1 = W := by omega
      simp [inw1, n0, hw, co]
      rw [Int.emod_eq_of_lt (by omega) (by omega)]
      omega
  | false =>
    have hx : 0 < x := by
      rcases Int.lt_or_le 0 x with h | h
      · exact h
      · have : x = 0 := by omega
        have := ha this
        cases this
    have e : sg false = -1 := rfl
    rw [e]
    by_cases h0 : x + -1 = 0
    · have hx1 : x = 1 := by omega
      subst hx1
      simp [inw1, co]
    · simp [inw1, h0, co]
      rw [Int.emod_eq_of_lt (by omega) (by omega)]
      omega
theorem co_range {W x : Int} {r : Bool} (hW : 1 ≤ W) (h : Nm W x r) : 0 ≤ co W x r ∧ co W x r < 2 * W ∧ r = decide (co W x r < W) ∧ x = (if co W x r < W then co W x r else 2 * W - co W x r) := by
  obtain ⟨h0, h1, ha, hb⟩ := h
  cases r with
  | true =>
    have hx : x < W := by
      rcases Int.lt_or_le x W with h | h
      · exact h
      · have := hb (by omega); cases this
    simp [co, hx]
    omega
  | false =>
    have hx : 0 < x := by
      rcases Int.lt_or_le 0 x with h | h
      · exact h
      · have := ha (by omega); cases this
    have : ¬ 2 * W - x < W := by omega
    simp [co, this]
    omega
theorem co_side {W x : Int} {r : Bool} (hW : 1 ≤ W) (h : Nm W x r) : ons W x = decide (co W x r % W = 0) := by
  obtain ⟨h0, h1, ha, hb⟩ := h
  cases r with
  | true =>
    have hx : x < W := by
      rcases Int.lt_or_le x W with h | h
      · exact h
      · have := hb (by omega); cases this
    have n : ¬ x = W := by omega
    simp only [ons, co, if_true, n, decide_false, Bool.or_false]
    rw [Int.emod_eq_of_lt h0 hx]
  | false =>
    have hx : 0 < x := by
      rcases Int.lt_or_le 0 x with h | h
      · exact h
      · have := ha (by omega); cases this
    have n : ¬ x = 0 := by omega
    simp only [ons, co, Bool.false_eq_true, if_false, n, decide_false, Bool.false_or]
    by_cases c : x = W
    · subst c
      simp [show 2 * x - x = x by omega]
    · have : (2 * W - x) % W = W - x := by
        rw [show 2 * W - x = (W - x) + W * 1 by omega, Int.add_mul_emod_self_left]
        exact Int.emod_eq_of_lt (by omega) (by omega)
      rw [this]
      have : ¬ W - x = 0 := by omega
      simp [c, this]
theorem vs_nm {W H x y : Int} (r u : Bool) (t : OnT W H x y) (k : Nat) : Nm W (vs W H ⟨x, y, r, u⟩ k).f0 (vs W H ⟨x, y, r, u⟩ k).f2 ∧ Nm H (vs W H ⟨x, y, r, u⟩ k).f1 (vs W H ⟨x, y, r, u⟩ k).f3 := by
  induction k with
  | zero => exact ⟨nm_inw r t.w1 t.x1 t.x2, nm_inw u t.h1 t.y1 t.y2⟩
  | succ k ih =>
    have ax := nm_step ih.1 t.w1
    have ay := nm_step ih.2 t.h1
    exact ⟨nm_inw _ t.w1 ax.1 ax.2, nm_inw _ t.h1 ay.1 ay.2⟩
theorem vs_co {W H x y : Int} (r u : Bool) (t : OnT W H x y) (k : Nat) :
    co W (vs W H ⟨x, y, r, u⟩ k).f0 (vs W H ⟨x, y, r, u⟩ k).f2 = (co W (vs W H ⟨x, y, r, u⟩ 0).f0 (vs W H ⟨x, y, r, u⟩ 0).f2 + k) % (2 * W) ∧ co H (vs W H ⟨x, y, r, u⟩ k).f1 (vs W H ⟨x, y, r, u⟩ k).f3 = (co H (vs W H ⟨x, y, r, u⟩ 0).f1 (vs W H ⟨x, y, r, u⟩ 0).f3 + k) % (2 * H) := by
  induction k with
  | zero =>
    have h := vs_nm r u t 0
    have cx := co_range t.w1 h.1
    have cy := co_range t.h1 h.2
    simp only [Int.natCast_zero, Int.add_zero]
    rw [Int.emod_eq_of_lt cx.1 cx.2.1, Int.emod_eq_of_lt cy.1 cy.2.1]
    exact ⟨rfl, rfl⟩
  | succ k ih =>
    have h := vs_nm r u t k
    have ex := co_step t.w1 h.1
    have ey := co_step t.h1 h.2
    refine ⟨?_, ?_⟩
    · refine Eq.trans ex ?_
      rw [ih.1, Int.emod_add_emod]
      congr 1
      omega
    · refine Eq.trans ey ?_
      rw [ih.2, Int.emod_add_emod]
      congr 1
      omega
/-- Where it stands on the unfolded way decides whether it is at a corner. -/
theorem vs_cor {W H x y : Int} (r u : Bool) (t : OnT W H x y) (k : Nat) : fwCor W H (vs W H ⟨x, y, r, u⟩ k) = (decide ((co W (vs W H ⟨x, y, r, u⟩ 0).f0 (vs W H ⟨x, y, r, u⟩ 0).f2 + k) % W = 0) && decide ((co H (vs W H ⟨x, y, r, u⟩ 0).f1 (vs W H ⟨x, y, r, u⟩ 0).f3 + k) % H = 0)) := by
  have h := vs_nm r u t k
  have c := vs_co r u t k
  refine Eq.trans (fwCor_is W H _ _ _ _) ?_
  rw [co_side t.w1 h.1, co_side t.h1 h.2, c.1, c.2, Int.emod_emod_of_dvd _ (Int.dvd_mul_left 2 W), Int.emod_emod_of_dvd _ (Int.dvd_mul_left 2 H)]
theorem vs_cor_period {W H x y : Int} (r u : Bool) (t : OnT W H x y) (k q : Nat) : fwCor W H (vs W H ⟨x, y, r, u⟩ (k + q * (W.toNat * H.toNat))) = fwCor W H (vs W H ⟨x, y, r, u⟩ k) := by
  rw [vs_cor r u t, vs_cor r u t]
  have hw : ((W.toNat : Nat) : Int) = W := by have := t.w1; omega
  have hh : ((H.toNat : Nat) : Int) = H := by have := t.h1; omega
  have e1 : ∀ c : Int, (c + ((k + q * (W.toNat * H.toNat) : Nat) : Int)) % W = (c + k) % W := by
    intro c
    have : c + ((k + q * (W.toNat * H.toNat) : Nat) : Int) = (c + k) + W * (q * H) := by
      rw [Int.natCast_add, Int.natCast_mul, Int.natCast_mul, hw, hh, Int.mul_left_comm]
      omega
    rw [this, Int.add_mul_emod_self_left]
  have e2 : ∀ c : Int, (c + ((k + q * (W.toNat * H.toNat) : Nat) : Int)) % H = (c + k) % H := by
    intro c
    have : c + ((k + q * (W.toNat * H.toNat) : Nat) : Int) = (c + k) + H * (q * W) := by
      rw [Int.natCast_add, Int.natCast_mul, Int.natCast_mul, hw, hh, Int.mul_comm W H, Int.mul_left_comm]
      omega
    rw [this, Int.add_mul_emod_self_left]
  rw [e1, e2]
theorem s_ext : ∀ a b : S27, a.f0 = b.f0 → a.f1 = b.f1 → a.f2 = b.f2 → a.f3 = b.f3 → a = b := by
  rintro ⟨_, _, _, _⟩ ⟨_, _, _, _⟩ h1 h2 h3 h4
  dsimp only at h1 h2 h3 h4
  subst h1 h2 h3 h4
  rfl
theorem vs_period {W H x y : Int} (r u : Bool) (t : OnT W H x y) : vs W H ⟨x, y, r, u⟩ (2 * (W.toNat * H.toNat)) = vs W H ⟨x, y, r, u⟩ 0 := by
  have hw : ((W.toNat : Nat) : Int) = W := by have := t.w1; omega
  have hh : ((H.toNat : Nat) : Int) = H := by have := t.h1; omega
  have c := vs_co r u t (2 * (W.toNat * H.toNat))
  have c0 := vs_co r u t 0
  have n := vs_nm r u t (2 * (W.toNat * H.toNat))
  have n0 := vs_nm r u t 0
  have e1 : ((2 * (W.toNat * H.toNat) : Nat) : Int) = (2 * W) * H := by rw [Int.natCast_mul, Int.natCast_mul, hw, hh, Int.mul_assoc]; rfl
  have e2 : ((2 * (W.toNat * H.toNat) : Nat) : Int) = (2 * H) * W := by rw [e1, Int.mul_assoc, Int.mul_assoc, Int.mul_comm W H]
  have f1 : co W (vs W H ⟨x, y, r, u⟩ (2 * (W.toNat * H.toNat))).f0 (vs W H ⟨x, y, r, u⟩ (2 * (W.toNat * H.toNat))).f2 = co W (vs W H ⟨x, y, r, u⟩ 0).f0 (vs W H ⟨x, y, r, u⟩ 0).f2 := by
    rw [c.1, e1, Int.add_mul_emod_self_left]
    have := co_range t.w1 n0.1
    exact Int.emod_eq_of_lt this.1 this.2.1
  have f2 : co H (vs W H ⟨x, y, r, u⟩ (2 * (W.toNat * H.toNat))).f1 (vs W H ⟨x, y, r, u⟩ (2 * (W.toNat * H.toNat))).f3 = co H (vs W H ⟨x, y, r, u⟩ 0).f1 (vs W H ⟨x, y, r, u⟩ 0).f3 := by
    rw [c.2, e2, Int.add_mul_emod_self_left]
    have := co_range t.h1 n0.2
    exact Int.emod_eq_of_lt this.1 this.2.1
  have g1 := co_range t.w1 n.1
  have g2 := co_range t.h1 n.2
  have k1 := co_range t.w1 n0.1
  have k2 := co_range t.h1 n0.2
  have a1 : (vs W H ⟨x, y, r, u⟩ (2 * (W.toNat * H.toNat))).f0 = (vs W H ⟨x, y, r, u⟩ 0).f0 := by rw [g1.2.2.2, k1.2.2.2, f1]
  have a2 : (vs W H ⟨x, y, r, u⟩ (2 * (W.toNat * H.toNat))).f2 = (vs W H ⟨x, y, r, u⟩ 0).f2 := by rw [g1.2.2.1, k1.2.2.1, f1]
  have a3 : (vs W H ⟨x, y, r, u⟩ (2 * (W.toNat * H.toNat))).f1 = (vs W H ⟨x, y, r, u⟩ 0).f1 := by rw [g2.2.2.2, k2.2.2.2, f2]
  have a4 : (vs W H ⟨x, y, r, u⟩ (2 * (W.toNat * H.toNat))).f3 = (vs W H ⟨x, y, r, u⟩ 0).f3 := by rw [g2.2.2.1, k2.2.2.1, f2]
  exact s_ext _ _ a1 a3 a2 a4
/-- As long as there was no corner, the way is the way on. -/
theorem st_vs {W H x y : Int} (r u : Bool) (t : OnT W H x y) : ∀ k, (∀ j, 0 < j → j < k → fwCor W H (vs W H ⟨x, y, r, u⟩ j) = false) →
    (fwSt W H ⟨x, y, r, u⟩ k).1.f0 = (vs W H ⟨x, y, r, u⟩ k).f0 ∧ (fwSt W H ⟨x, y, r, u⟩ k).1.f1 = (vs W H ⟨x, y, r, u⟩ k).f1 ∧ fwCor W H (fwSt W H ⟨x, y, r, u⟩ k).1 = fwCor W H (vs W H ⟨x, y, r, u⟩ k) ∧ ((k = 0 ∨ fwCor W H (vs W H ⟨x, y, r, u⟩ k) = false) → (fwSt W H ⟨x, y, r, u⟩ k).1 = vs W H ⟨x, y, r, u⟩ k) := by
  intro k
  induction k with
  | zero =>
    intro _
    have e : (fwSt W H ⟨x, y, r, u⟩ 0).1 = vs W H ⟨x, y, r, u⟩ 0 := by simp [fwSt, fwInw_is, vs]
    rw [e]
    exact ⟨rfl, rfl, rfl, fun _ => rfl⟩
  | succ k ih =>
    intro hc
    have h0 := ih (fun j h1 h2 => hc j h1 (by omega))
    have hk : (fwSt W H ⟨x, y, r, u⟩ k).1 = vs W H ⟨x, y, r, u⟩ k := h0.2.2.2 (by
      rcases Nat.eq_zero_or_pos k with h | h
      · exact .inl h
      · exact .inr (hc k h (by omega)))
    have hn := vs_nm r u t k
    have ax := nm_step hn.1 t.w1
    have ay := nm_step hn.2 t.h1
    have bx := hn.1
    have by_ := hn.2
    have e : (fwSt W H ⟨x, y, r, u⟩ (k + 1)).1 = (fwNext W H (vs W H ⟨x, y, r, u⟩ k)).1 := by rw [← hk]; rfl
    have e2 : vs W H ⟨x, y, r, u⟩ (k + 1) = ⟨(vs W H ⟨x, y, r, u⟩ k).f0 + sg (vs W H ⟨x, y, r, u⟩ k).f2, (vs W H ⟨x, y, r, u⟩ k).f1 + sg (vs W H ⟨x, y, r, u⟩ k).f3, inw1 W ((vs W H ⟨x, y, r, u⟩ k).f0 + sg (vs W H ⟨x, y, r, u⟩ k).f2) (vs W H ⟨x, y, r, u⟩ k).f2, inw1 H ((vs W H ⟨x, y, r, u⟩ k).f1 + sg (vs W H ⟨x, y, r, u⟩ k).f3) (vs W H ⟨x, y, r, u⟩ k).f3⟩ := rfl
    rw [e, e2]
    clear e e2 hk h0 ih hc hn
    generalize vs W H ⟨x, y, r, u⟩ k = s at ax ay bx by_ ⊢
    obtain ⟨X, Y, R, U⟩ := s
    dsimp only at ax ay bx by_ ⊢
    have tt : OnT W H (X + sg R) (Y + sg U) := ⟨t.w1, t.w2, t.h1, t.h2, ax.1, ax.2, ay.1, ay.2⟩
    rw [fwNext_in W H X Y R U (by have := bx.lo; have := bx.hi; have := t.w2; omega) (by have := by_.lo; have := by_.hi; have := t.h2; omega) tt]
    by_cases c : (ons W (X + sg R) && ons H (Y + sg U)) = true
    · rw [if_pos c]
      refine ⟨rfl, rfl, by simp only [fwCor_is], fun h => ?_⟩
      rcases h with h | h
      · omega
      · rw [fwCor_is, c] at h; cases h
    · rw [if_neg c]
      exact ⟨rfl, rfl, rfl, fun _ => rfl⟩

theorem nocor_upto {W H x y : Int} (r u : Bool) (t : OnT W H x y) (L : Nat) (h : ∀ j, 0 < j → j ≤ L → fwCor W H (fwSt W H ⟨x, y, r, u⟩ j).1 = false) : ∀ k, k ≤ L → ∀ j, 0 < j → j ≤ k → fwCor W H (vs W H ⟨x, y, r, u⟩ j) = false := by
  intro k
  induction k with
  | zero => intro _ j h1 h2; omega
  | succ k ih =>
    intro hk j h1 h2
    rcases Nat.lt_or_ge k j with c | c
    · obtain rfl : j = k + 1 := by omega
      rw [← (st_vs r u t (k + 1) (fun j a b => ih (by omega) j a (by omega))).2.2.1]
      exact h (k + 1) h1 hk
    · exact ih (by omega) j h1 c
theorem nocor_all {W H x y : Int} (r u : Bool) (t : OnT W H x y) (h : ∀ j, 0 < j → j ≤ W.toNat * H.toNat → fwCor W H (vs W H ⟨x, y, r, u⟩ j) = false) (k : Nat) (hk : 0 < k) : fwCor W H (vs W H ⟨x, y, r, u⟩ k) = false := by
  have hn : 0 < W.toNat * H.toNat := Nat.mul_pos (by have := t.w1; omega) (by have := t.h1; omega)
  have e : k = ((k - 1) % (W.toNat * H.toNat) + 1) + ((k - 1) / (W.toNat * H.toNat)) * (W.toNat * H.toNat) := by
    have := Nat.mod_add_div' (k - 1) (W.toNat * H.toNat)
    omega
  have hm := Nat.mod_lt (k - 1) hn
  rw [e, vs_cor_period r u t]
  exact h _ (by omega) (by omega)
theorem st_all {W H x y : Int} (r u : Bool) (t : OnT W H x y) (h : ∀ j, 0 < j → fwCor W H (vs W H ⟨x, y, r, u⟩ j) = false) (k : Nat) : (fwSt W H ⟨x, y, r, u⟩ k).1 = vs W H ⟨x, y, r, u⟩ k := by
  refine (st_vs r u t k (fun j h1 _ => h j h1)).2.2.2 ?_
  rcases Nat.eq_zero_or_pos k with c | c
  · exact .inl c
  · exact .inr (h k c)
theorem vs_shift {W H : Int} {b : S27} {p : Nat} (hp : vs W H b p = vs W H b 0) : ∀ k, vs W H b (k + p) = vs W H b k := by
  intro k
  induction k with
  | zero => rw [Nat.zero_add]; exact hp
  | succ k ih =>
    rw [show k + 1 + p = (k + p) + 1 by omega]
    simp only [vs, ih]
theorem vs_mod {W H : Int} {b : S27} {p : Nat} (hp : vs W H b p = vs W H b 0) (k : Nat) : vs W H b k = vs W H b (k % p) := by
  have h : ∀ q, vs W H b (k % p + q * p) = vs W H b (k % p) := by
    intro q
    induction q with
    | zero => simp
    | succ q ih => rw [Nat.succ_mul, ← Nat.add_assoc, vs_shift hp, ih]
  have e := Nat.mod_add_div' k p
  have := h (k / p)
  rw [e] at this
  exact this
theorem go_unique {go : Nat → Prop} {N M : Nat} (a : ∀ j, j < N → go j) (b : ¬ go N) (c : ∀ j, j < M → go j) (d : ¬ go M) : N = M := by
  rcases Nat.lt_trichotomy N M with h | h | h
  · exact absurd (c N h) b
  · exact h
  · exact absurd (a M h) d
theorem rd_run (st : Nat → S27) (N i : Nat) (h : i ≤ N) : rd_T27 ((List.range (N + 1)).map st) (i : Int) = st i := by
  unfold rd_T27
  rw [Int.toNat_natCast, List.getD_eq_getElem?_getD, List.getElem?_map, List.getElem?_range (by omega)]
  rfl

theorem area {W H x y : Int} (t : OnT W H x y) : ((W.toNat * H.toNat : Nat) : Int) = W * H ∧ W * H ≤ 3600 ∧ 1 ≤ W * H := by
  have hw : ((W.toNat : Nat) : Int) = W := by have := t.w1; omega
  have hh : ((H.toNat : Nat) : Int) = H := by have := t.h1; omega
  have h1 : W.toNat * H.toNat ≤ 60 * 60 := Nat.mul_le_mul (by have := t.w2; omega) (by have := t.h2; omega)
  have h2 : 0 < W.toNat * H.toNat := Nat.mul_pos (by have := t.w1; omega) (by have := t.h1; omega)
  have e : ((W.toNat * H.toNat : Nat) : Int) = W * H := by rw [Int.natCast_mul, hw, hh]
  exact ⟨e, by omega, by omega⟩
theorem beLong_eq {W H x y : Int} (t : OnT W H x y) : spec_beLong.f W H = some (4 * (W * H) + 1) := by
  have a := area t
  have w := t.w1
  have w2 := t.w2
  unfold spec_beLong.f
  rw [wrap_id (n := 4 * W) (by omega) (by omega), Int.mul_assoc, wrap_id (n := 4 * (W * H)) (by omega) (by omega), wrap_id (by omega) (by omega)]

theorem fwSides_is (W H : Int) (b : S27) : ∀ k, fwSides W H b k = sides W H b k := by
  intro k
  induction k with
  | zero => exact ByteArray.empty_append
  | succ k ih => simp only [fwSides, sides, ih]
/-- The reference's way to a corner is the program's. -/
theorem corn_eq (k : Nat) (hk : 100000 ≤ k) {W H x y : Int} (r u : Bool) (t : OnT W H x y) : ∃ M, M ≤ 14401 ∧
    spec_beEnd.f k W H x y r u = some ((List.range (M + 1)).map (fun j => (fwSt W H ⟨x, y, r, u⟩ j).1), sides W H ⟨x, y, r, u⟩ M, fwStop W H ⟨x, y, r, u⟩ (fwCornN W H ⟨x, y, r, u⟩)) ∧
    (fwStop W H ⟨x, y, r, u⟩ (fwCornN W H ⟨x, y, r, u⟩) = true → M = fwCornN W H ⟨x, y, r, u⟩ ∧ 0 < M ∧ fwCor W H (fwSt W H ⟨x, y, r, u⟩ M).1 = true) ∧
    (fwStop W H ⟨x, y, r, u⟩ (fwCornN W H ⟨x, y, r, u⟩) = false → (M : Int) = 4 * (W * H) + 1 ∧ ∀ j, 0 < j → fwCor W H (vs W H ⟨x, y, r, u⟩ j) = false) ∧
    (∀ j, 0 < j → j < M → fwCor W H (fwSt W H ⟨x, y, r, u⟩ j).1 = false) := by
  have a := area t
  have hw : ((W.toNat : Nat) : Int) = W := by have := t.w1; omega
  have hh : ((H.toNat : Nat) : Int) = H := by have := t.h1; omega
  obtain ⟨m1, m2, m3⟩ := fwN_is W H ⟨x, y, r, u⟩ (4 * (W * H) + 1) (fun _ => false) (by omega)
  obtain ⟨n1, n2, n3⟩ := fwN_is W H ⟨x, y, r, u⟩ (2 * W * H) (fwStop W H ⟨x, y, r, u⟩) (by rw [Int.mul_assoc]; omega)
  unfold fwCornN
  rw [Int.mul_assoc] at n1 n2 n3 ⊢
  generalize fwN W H ⟨x, y, r, u⟩ (4 * (W * H) + 1) (fun _ => false) = M at m1 m2 m3
  generalize fwN W H ⟨x, y, r, u⟩ (2 * (W * H)) (fwStop W H ⟨x, y, r, u⟩) = N at n1 n2 n3 ⊢
  obtain ⟨e1, _⟩ := run_eq r u t (4 * (W * H) + 1) M k (by omega) (by omega) m3 m2
  have hb : spec_beEnd.f k W H x y r u = some ((List.range (M + 1)).map (fun j => (fwSt W H ⟨x, y, r, u⟩ j).1), sides W H ⟨x, y, r, u⟩ M, fwCor W H (fwSt W H ⟨x, y, r, u⟩ M).1) := by
    have hl : (((List.range (M + 1)).map fun j => (fwSt W H ⟨x, y, r, u⟩ j).1).length : Int) = M + 1 := by simp
    have w1 : wrap64 (((List.range (M + 1)).map fun j => (fwSt W H ⟨x, y, r, u⟩ j).1).length - 1 : Int) = (M : Int) := by rw [hl, wrap_id (by omega) (by omega)]; omega
    have hr := rd_run (fun j => (fwSt W H ⟨x, y, r, u⟩ j).1) M
    unfold spec_beEnd.f
    rw [beLong_eq t]
    simp only [Option.bind_some, e1, w1]
    rw [if_pos (by omega : (0 : Int) ≤ M), if_pos (by omega : (M : Int) < _), hr M (Nat.le_refl _), beCorner_eq, ← fwCor_is W H _ _ (fwSt W H ⟨x, y, r, u⟩ M).1.f2 (fwSt W H ⟨x, y, r, u⟩ M).1.f3]
    rfl
  have mc : ∀ j, 0 < j → j < M → fwCor W H (fwSt W H ⟨x, y, r, u⟩ j).1 = false := by
    intro j j0 j1
    rcases (m3 j j1).2.2 with h | h
    · omega
    · exact h
  cases hs : fwStop W H ⟨x, y, r, u⟩ N with
  | true =>
    have hN0 : 0 < N ∧ fwCor W H (fwSt W H ⟨x, y, r, u⟩ N).1 = true := by
      unfold fwStop at hs
      rw [Bool.and_eq_true, decide_eq_true_eq] at hs
      exact hs
    have hMN : M = N := by
      refine go_unique m3 m2 (fun j hj => ?_) (fun h => ?_)
      · have := n3 j hj
        exact ⟨rfl, by have := this.2.1; omega, this.2.2⟩
      · rcases h.2.2 with h | h
        · omega
        · rw [hN0.2] at h; cases h
    subst hMN
    exact ⟨M, by omega, by rw [hb, hN0.2], fun _ => ⟨rfl, hN0⟩, fun h => by (cases h), mc⟩
  | false =>
    have c : N = 0 ∨ fwCor W H (fwSt W H ⟨x, y, r, u⟩ N).1 = false := by
      rcases Nat.eq_zero_or_pos N with h | h
      · exact .inl h
      · refine .inr ?_
        unfold fwStop at hs
        rw [decide_eq_true h] at hs
        simpa using hs
    have hN : (N : Int) = 2 * (W * H) := by
      apply Classical.byContradiction
      intro hne
      exact n2 ⟨hs, by omega, c⟩
    have nc : ∀ j, 0 < j → j ≤ N → fwCor W H (fwSt W H ⟨x, y, r, u⟩ j).1 = false := by
      intro i i0 i1
      rcases Nat.lt_or_ge i N with h | h
      · rcases (n3 i h).2.2 with g | g
        · omega
        · exact g
      · obtain rfl : i = N := by omega
        rcases c with h | h
        · omega
        · exact h
    have nv := nocor_all r u t (fun j j0 j1 => nocor_upto r u t N nc N (Nat.le_refl _) j j0 (by omega))
    have sv := st_all r u t nv
    have hM : (M : Int) = 4 * (W * H) + 1 := by
      apply Classical.byContradiction
      intro hne
      refine m2 ⟨rfl, by omega, ?_⟩
      rcases Nat.eq_zero_or_pos M with h | h
      · exact .inl h
      · exact .inr (by rw [sv]; exact nv M h)
    refine ⟨M, by omega, ?_, fun h => by (cases h), fun _ => ⟨hM, nv⟩, mc⟩
    rw [hb, sv, nv M (by omega)]

/-! places that are passed, each once -/
theorem vsOk_of {W H x y : Int} (t : OnT W H x y) : VsOk W H x y := ⟨⟨⟨t.w1, t.w2⟩, t.h1, t.h2⟩, ⟨t.x1, t.x2⟩, t.y1, t.y2⟩
/-- A place's number, row by row. -/
def ix (H : Int) (q : Int × Int) : Nat := (q.1 * (H + 1) + q.2).toNat
def On (W H : Int) (q : Int × Int) : Prop := (0 ≤ q.1 ∧ q.1 ≤ W) ∧ 0 ≤ q.2 ∧ q.2 ≤ H
theorem ix_ge {W H : Int} {q : Int × Int} (hH : 1 ≤ H) (h : On W H q) : 0 ≤ q.1 * (H + 1) := Int.mul_nonneg h.1.1 (by omega)
theorem ix_lt {W H : Int} {q : Int × Int} (hH : 1 ≤ H) (h : On W H q) : ix H q < ((W + 1) * (H + 1)).toNat := by
  have a := ix_ge hH h
  have b : q.1 * (H + 1) ≤ W * (H + 1) := Int.mul_le_mul_of_nonneg_right h.1.2 (by omega)
  have c : (W + 1) * (H + 1) = W * (H + 1) + (H + 1) := by rw [Int.add_mul, Int.one_mul]
  have := h.2.2
  have := h.2.1
  unfold ix
  omega
theorem row_le {H p q : Int} (hH : 1 ≤ H) (h : p < q) : p * (H + 1) + (H + 1) ≤ q * (H + 1) := by
  have := Int.mul_le_mul_of_nonneg_right (show p + 1 ≤ q by omega) (show 0 ≤ H + 1 by omega)
  rw [Int.add_mul, Int.one_mul] at this
  exact this
theorem ix_inj {W H : Int} {p q : Int × Int} (hH : 1 ≤ H) (hp : On W H p) (hq : On W H q) (h : ix H p = ix H q) : p = q := by
  have a := ix_ge hH hp
  have b := ix_ge hH hq
  have := hp.2.1; have := hp.2.2; have := hq.2.1; have := hq.2.2
  unfold ix at h
  have e : p.1 * (H + 1) + p.2 = q.1 * (H + 1) + q.2 := by omega
  rcases Int.lt_trichotomy p.1 q.1 with c | c | c
  · have := row_le hH c
    omega
  · refine Prod.ext c ?_
    rw [c] at e
    omega
  · have := row_le hH c
    omega
def cntI (H : Int) (f : Nat → Int × Int) (j : Nat) : Nat → Nat
  | 0 => 0
  | k + 1 => cntI H f j k + (if ix H (f k) = j then 1 else 0)
theorem cntI_le (H : Int) (f : Nat → Int × Int) (j : Nat) : ∀ k, cntI H f j k ≤ k
  | 0 => Nat.le_refl _
  | k + 1 => by
    have := cntI_le H f j k
    simp only [cntI]
    split <;> omega
theorem cntI_pos {H : Int} {f : Nat → Int × Int} {j : Nat} : ∀ {k}, 0 < cntI H f j k ↔ ∃ m, m < k ∧ ix H (f m) = j
  | 0 => by simp [cntI]
  | k + 1 => by
    have ih := cntI_pos (H := H) (f := f) (j := j) (k := k)
    simp only [cntI]
    constructor
    · intro h
      by_cases c : ix H (f k) = j
      · exact ⟨k, by omega, c⟩
      · rw [if_neg c] at h
        obtain ⟨m, h1, h2⟩ := ih.1 (by omega)
        exact ⟨m, by omega, h2⟩
    · rintro ⟨m, h1, h2⟩
      rcases Nat.lt_or_ge m k with c | c
      · have := ih.2 ⟨m, c, h2⟩
        omega
      · obtain rfl : m = k := by omega
        rw [if_pos h2]
        omega
def tl (H : Int) (f : Nat → Int × Int) (n k : Nat) : List Int := (List.range n).map (fun j => ((cntI H f j k : Nat) : Int))
theorem tl_len (H : Int) (f : Nat → Int × Int) (n k : Nat) : (tl H f n k).length = n := by simp [tl]
theorem tl_rd (H : Int) (f : Nat → Int × Int) {n k j : Nat} (hj : j < n) : rd (tl H f n k) (j : Int) = ((cntI H f j k : Nat) : Int) := by
  show (tl H f n k).getD j 0 = _
  unfold tl
  rw [List.getD_eq_getElem?_getD, List.getElem?_map, List.getElem?_range hj]
  rfl
theorem tl_zero (H : Int) (f : Nat → Int × Int) (n : Nat) : tl H f n 0 = List.replicate n 0 := by
  unfold tl
  refine List.ext_getElem (by simp) (fun j h1 h2 => ?_)
  simp [cntI]
theorem tl_step (H : Int) (f : Nat → Int × Int) {n k : Nat} (hi : ix H (f k) < n) : (tl H f n k).set (ix H (f k)) (rd (tl H f n k) ((ix H (f k) : Nat) : Int) + 1) = tl H f n (k + 1) := by
  rw [tl_rd H f hi]
  refine List.ext_getElem (by simp [tl]) (fun j h1 h2 => ?_)
  rw [List.getElem_set]
  have hj : j < n := by simpa [tl] using h2
  by_cases c : ix H (f k) = j
  · rw [if_pos c]
    subst c
    simp [tl, cntI]
  · rw [if_neg c]
    simp [tl, cntI, c]
theorem times_l0 {W H : Int} (hW : 1 ≤ W ∧ W ≤ 60) (hH : 1 ≤ H ∧ H ≤ 60) (st : Nat → S27) (M : Nat) (hM : M ≤ 200000) (hon : ∀ k, k ≤ M → On W H ((st k).f0, (st k).f1)) (d : Nat) : ∀ (k i : Nat), i + d = M + 1 → d < k →
    spec_beTimes.l0 k (tl H (fun k => ((st k).f0, (st k).f1)) ((W + 1) * (H + 1)).toNat i) ((List.range (M + 1)).map st) ((List.range (M + 1)).map st).length i W H = some (tl H (fun k => ((st k).f0, (st k).f1)) ((W + 1) * (H + 1)).toNat (M + 1)) := by
  have hl : (((List.range (M + 1)).map st).length : Int) = M + 1 := by simp
  induction d with
  | zero =>
    intro k i hi hk
    obtain ⟨k, rfl⟩ : ∃ m, k = m + 1 := ⟨k - 1, by omega⟩
    obtain rfl : i = M + 1 := by omega
    simp only [spec_beTimes.l0]
    rw [if_neg (by omega)]
  | succ d ih =>
    intro k i hi hk
    obtain ⟨k, rfl⟩ : ∃ m, k = m + 1 := ⟨k - 1, by omega⟩
    have e : wrap64 ((i : Int) + 1) = ((i + 1 : Nat) : Int) := by rw [wrap_id (by omega) (by omega)]; omega
    have o := hon i (by omega)
    have o1 : 0 ≤ (st i).f1 := o.2.1
    have o2 : (st i).f1 ≤ H := o.2.2
    have a : 0 ≤ (st i).f0 * (H + 1) := ix_ge hH.1 o
    have b : ix H ((st i).f0, (st i).f1) < ((W + 1) * (H + 1)).toNat := ix_lt hH.1 o
    have hb : (W + 1) * (H + 1) ≤ 61 * 61 := Int.mul_le_mul (by omega) (by omega) (by omega) (by omega)
    have e2 : ((ix H ((st i).f0, (st i).f1) : Nat) : Int) = (st i).f0 * (H + 1) + (st i).f1 := by
      show ((((st i).f0 * (H + 1) + (st i).f1).toNat : Nat) : Int) = _
      omega
    have w1 : wrap64 (H + 1) = H + 1 := wrap_id (by omega) (by omega)
    have w2 : wrap64 ((st i).f0 * (H + 1)) = (st i).f0 * (H + 1) := wrap_id (by omega) (by omega)
    have w3 : wrap64 ((st i).f0 * (H + 1) + (st i).f1) = ((ix H ((st i).f0, (st i).f1) : Nat) : Int) := by rw [← e2, wrap_id (by omega) (by omega)]
    have hlt := tl_len H (fun k => ((st k).f0, (st k).f1)) ((W + 1) * (H + 1)).toNat i
    have hc := cntI_le H (fun k => ((st k).f0, (st k).f1)) (ix H ((st i).f0, (st i).f1)) i
    have ht : rd (tl H (fun k => ((st k).f0, (st k).f1)) ((W + 1) * (H + 1)).toNat i) ((ix H ((st i).f0, (st i).f1) : Nat) : Int) = ((cntI H (fun k => ((st k).f0, (st k).f1)) (ix H ((st i).f0, (st i).f1)) i : Nat) : Int) := tl_rd H (fun k => ((st k).f0, (st k).f1)) (k := i) b
    have hs : (tl H (fun k => ((st k).f0, (st k).f1)) ((W + 1) * (H + 1)).toNat i).set (ix H ((st i).f0, (st i).f1)) (rd (tl H (fun k => ((st k).f0, (st k).f1)) ((W + 1) * (H + 1)).toNat i) ((ix H ((st i).f0, (st i).f1) : Nat) : Int) + 1) = tl H (fun k => ((st k).f0, (st k).f1)) ((W + 1) * (H + 1)).toNat (i + 1) := tl_step H (fun k => ((st k).f0, (st k).f1)) (k := i) b
    simp only [spec_beTimes.l0]
    rw [if_pos (by omega), if_pos (by omega), if_pos (by omega), rd_run st M i (by omega), w1, w2, w3, if_pos (by omega), if_pos (by omega), ht, wrap_id (by omega) (by omega), ← ht, Int.toNat_natCast, e]
    rw [hs]
    exact ih k (i + 1) (by omega) (by omega)
theorem times_eq {W H : Int} (hW : 1 ≤ W ∧ W ≤ 60) (hH : 1 ≤ H ∧ H ≤ 60) (st : Nat → S27) (M : Nat) (hM : M ≤ 200000) (hon : ∀ k, k ≤ M → On W H ((st k).f0, (st k).f1)) (k : Nat) (hk : M + 2 ≤ k) :
    spec_beTimes.f k W H ((List.range (M + 1)).map st) = some (tl H (fun k => ((st k).f0, (st k).f1)) ((W + 1) * (H + 1)).toNat (M + 1)) := by
  have hb : (W + 1) * (H + 1) ≤ 61 * 61 := Int.mul_le_mul (by omega) (by omega) (by omega) (by omega)
  have h0 : 0 ≤ (W + 1) * (H + 1) := Int.mul_nonneg (by omega) (by omega)
  unfold spec_beTimes.f
  rw [wrap_id (n := W + 1) (by omega) (by omega), wrap_id (n := H + 1) (by omega) (by omega), wrap_id (n := (W + 1) * (H + 1)) (by omega) (by omega), if_pos h0, if_pos (by omega)]
  have := times_l0 hW hH st M hM hon (M + 1) k 0 (by omega) (by omega)
  rw [tl_zero] at this
  exact this
theorem countP_add {p q : Nat → Bool} {a : Nat} (hpa : p a = false) (h : ∀ j, j ≠ a → q j = p j) : ∀ n, a < n → (List.range n).countP q = (List.range n).countP p + (if q a = true then 1 else 0)
  | 0, ha => by omega
  | n + 1, ha => by
    rw [List.range_succ, List.countP_append, List.countP_append]
    rcases Nat.lt_or_ge a n with c | c
    · rw [countP_add hpa h n c]
      have : [n].countP q = [n].countP p := by simp [List.countP_singleton, h n (by omega)]
      omega
    · obtain rfl : a = n := by omega
      have e : (List.range a).countP q = (List.range a).countP p := List.countP_congr (fun j hj => by rw [h j (by have := List.mem_range.1 hj; omega)])
      rw [e]
      simp [List.countP_singleton, hpa]
theorem set_mem (W H : Int) (b : S27) (q : Int × Int) : ∀ k, q ∈ vsSet W H b k ↔ ∃ m, m < k ∧ vsPt W H b m = q
  | 0 => by simp [vsSet]
  | k + 1 => by
    have ih := set_mem W H b q k
    simp only [vsSet]
    have up : (∃ m, m < k + 1 ∧ vsPt W H b m = q) ↔ (∃ m, m < k ∧ vsPt W H b m = q) ∨ vsPt W H b k = q := by
      constructor
      · rintro ⟨m, h1, h2⟩
        rcases Nat.lt_or_ge m k with c | c
        · exact .inl ⟨m, c, h2⟩
        · obtain rfl : m = k := by omega
          exact .inr h2
      · rintro (⟨m, h1, h2⟩ | h)
        · exact ⟨m, by omega, h2⟩
        · exact ⟨k, by omega, h⟩
    rw [up]
    split
    · rename_i hm
      rw [ih]
      constructor
      · exact .inl
      · rintro (h | h)
        · exact h
        · rw [← h]
          exact (set_mem W H b _ k).1 hm
    · rw [List.mem_cons, ih]
      constructor
      · rintro (h | h)
        · exact .inr h.symm
        · exact .inl h
      · rintro (h | h)
        · exact .inr h
        · exact .inl h.symm
theorem set_count {W H : Int} (hH : 1 ≤ H) (b : S27) (P : Int × Int → Bool) (P' : Nat → Bool) (K : Nat) (hon : ∀ k, k < K → On W H (vsPt W H b k)) (hP : ∀ k, k < K → P (vsPt W H b k) = P' (ix H (vsPt W H b k))) : ∀ k, k ≤ K →
    ((vsSet W H b k).filter P).length = (List.range ((W + 1) * (H + 1)).toNat).countP (fun j => decide (0 < cntI H (vsPt W H b) j k) && P' j)
  | 0, _ => by
    have : (fun j => decide (0 < cntI H (vsPt W H b) j 0) && P' j) = fun _ => false := by funext j; simp [cntI]
    rw [this]
    simp [vsSet]
  | k + 1, hk => by
    have ih := set_count hH b P P' K hon hP k (by omega)
    have ok := hon k (by omega)
    have hi := ix_lt hH ok
    have iff : vsPt W H b k ∈ vsSet W H b k ↔ 0 < cntI H (vsPt W H b) (ix H (vsPt W H b k)) k := by
      rw [set_mem, cntI_pos]
      constructor
      · rintro ⟨m, h1, h2⟩
        exact ⟨m, h1, by rw [h2]⟩
      · rintro ⟨m, h1, h2⟩
        exact ⟨m, h1, ix_inj hH (hon m (by omega)) ok h2⟩
    simp only [vsSet]
    by_cases c : vsPt W H b k ∈ vsSet W H b k
    · rw [if_pos c, ih]
      refine List.countP_congr (fun j hj => ?_)
      have : decide (0 < cntI H (vsPt W H b) j k) = decide (0 < cntI H (vsPt W H b) j (k + 1)) := by
        rw [decide_eq_decide]
        simp only [cntI]
        by_cases e : ix H (vsPt W H b k) = j
        · rw [if_pos e]
          have := iff.1 c
          rw [e] at this
          omega
        · rw [if_neg e]
          omega
      rw [this]
    · rw [if_neg c]
      have hz : cntI H (vsPt W H b) (ix H (vsPt W H b k)) k = 0 := by
        have hn : ¬ 0 < cntI H (vsPt W H b) (ix H (vsPt W H b k)) k := fun h => c (iff.2 h)
        omega
      rw [countP_add (a := ix H (vsPt W H b k)) (p := fun j => decide (0 < cntI H (vsPt W H b) j k) && P' j) (by simp [hz]) (fun j hj => by rw [show cntI H (vsPt W H b) j (k + 1) = cntI H (vsPt W H b) j k from by simp only [cntI]; rw [if_neg (fun e => hj (Eq.symm e)), Nat.add_zero]]) _ hi, ← ih, List.filter_cons, hP k (by omega)]
      have : decide (0 < cntI H (vsPt W H b) (ix H (vsPt W H b k)) (k + 1)) = true := by simp [cntI]
      rw [this, Bool.true_and]
      split <;> simp
/-- Both ways pass the same places. -/
theorem way_both {W H x y : Int} (r u : Bool) (t : OnT W H x y) : ∃ M : Nat, M ≤ 14401 ∧ (∀ j, j < M → fwGo W H ⟨x, y, r, u⟩ (4 * (W * H) + 1) (fun _ => false) j) ∧ ¬ fwGo W H ⟨x, y, r, u⟩ (4 * (W * H) + 1) (fun _ => false) M ∧
    (∀ k, k ≤ M → On W H (vsPt W H ⟨x, y, r, u⟩ k)) ∧ vsN W H ⟨x, y, r, u⟩ ≤ M ∧ (∀ k, k ≤ M → ∃ j, j ≤ vsN W H ⟨x, y, r, u⟩ ∧ vsPt W H ⟨x, y, r, u⟩ j = vsPt W H ⟨x, y, r, u⟩ k) := by
  have a := area t
  have hw : ((W.toNat : Nat) : Int) = W := by have := t.w1; omega
  have hh : ((H.toNat : Nat) : Int) = H := by have := t.h1; omega
  obtain ⟨m1, m2, m3⟩ := fwN_is W H ⟨x, y, r, u⟩ (4 * (W * H) + 1) (fun _ => false) (by omega)
  obtain ⟨n1, n2, n3⟩ := fwN_is W H ⟨x, y, r, u⟩ (2 * W * H) (fun _ => false) (by rw [Int.mul_assoc]; omega)
  unfold vsN
  rw [Int.mul_assoc] at n1 n2 n3 ⊢
  generalize fwN W H ⟨x, y, r, u⟩ (4 * (W * H) + 1) (fun _ => false) = M at m1 m2 m3
  generalize fwN W H ⟨x, y, r, u⟩ (2 * (W * H)) (fun _ => false) = N at n1 n2 n3 ⊢
  have mc : ∀ j, 0 < j → j < M → fwCor W H (fwSt W H ⟨x, y, r, u⟩ j).1 = false := by
    intro j j0 j1
    rcases (m3 j j1).2.2 with h | h
    · omega
    · exact h
  have hon : ∀ k, k ≤ M → On W H (vsPt W H ⟨x, y, r, u⟩ k) := by
    intro k hk
    have z := (way_ok r u t k (fun j j0 j1 => mc j j0 (by omega))).1
    exact ⟨⟨z.x1, z.x2⟩, z.y1, z.y2⟩
  refine ⟨M, by omega, m3, m2, hon, ?_⟩
  by_cases c : N = 0 ∨ fwCor W H (fwSt W H ⟨x, y, r, u⟩ N).1 = false
  · have hN : (N : Int) = 2 * (W * H) := by
      apply Classical.byContradiction
      intro hne
      exact n2 ⟨rfl, by omega, c⟩
    have nc : ∀ j, 0 < j → j ≤ N → fwCor W H (fwSt W H ⟨x, y, r, u⟩ j).1 = false := by
      intro i i0 i1
      rcases Nat.lt_or_ge i N with h | h
      · rcases (n3 i h).2.2 with g | g
        · omega
        · exact g
      · obtain rfl : i = N := by omega
        rcases c with h | h
        · omega
        · exact h
    have nv := nocor_all r u t (fun j j0 j1 => nocor_upto r u t N nc N (Nat.le_refl _) j j0 (by omega))
    have sv := st_all r u t nv
    have hp := vs_period r u t
    have eN : N = 2 * (W.toNat * H.toNat) := by omega
    rw [← eN] at hp
    have hM : (M : Int) = 4 * (W * H) + 1 := by
      apply Classical.byContradiction
      intro hne
      refine m2 ⟨rfl, by omega, ?_⟩
      rcases Nat.eq_zero_or_pos M with h | h
      · exact .inl h
      · exact .inr (by rw [sv]; exact nv M h)
    refine ⟨by omega, fun k hk => ⟨k % N, Nat.le_of_lt (Nat.mod_lt _ (by omega)), ?_⟩⟩
    unfold vsPt
    rw [sv, sv, ← vs_mod hp k]
  · have hMN : M = N := by
      refine go_unique m3 m2 (fun j hj => ?_) (fun h => ?_)
      · have := n3 j hj
        exact ⟨rfl, by have := this.2.1; omega, this.2.2⟩
      · exact c h.2.2
    subst hMN
    exact ⟨Nat.le_refl _, fun k hk => ⟨k, hk, rfl⟩⟩

def tb (W H : Int) : Bool := decide ((1 ≤ W ∧ W ≤ 60) ∧ 1 ≤ H ∧ H ≤ 60)
theorem IsTable_eqT (W H : Int) : impl_IsTable.f W H = some (tb W H) := by
  simp only [impl_IsTable.f, within_eq, Option.bind_some, tb]
  by_cases h1 : 1 ≤ W ∧ W ≤ 60 <;> by_cases h2 : 1 ≤ H ∧ H ≤ 60 <;> simp [h1, h2]
theorem beTable_eq (W H : Int) : spec_beTable.f W H = some (tb W H) := by
  simp only [spec_beTable.f, l1In_eq, Option.bind_some, tb]
  by_cases h1 : 1 ≤ W ∧ W ≤ 60 <;> by_cases h2 : 1 ≤ H ∧ H ≤ 60 <;> simp [h1, h2]
theorem tb_of {W H : Int} (h : tb W H = true) : (1 ≤ W ∧ W ≤ 60) ∧ 1 ≤ H ∧ H ≤ 60 := of_decide_eq_true h

def two (i : Nat) : List UInt8 := if i < 10 then [UInt8.ofNat (48 + i)] else [UInt8.ofNat (48 + i / 10), UInt8.ofNat (48 + i % 10)]
theorem two_eq {i : Nat} (h : i < 100) : Lib.decDigits i = two i := by
  unfold two
  by_cases c : i < 10
  · rw [if_pos c, Lib.decDigits_one c]
  · rw [if_neg c, Lib.decDigits_two c h]
/-- A number's text. -/
def nm (i : Nat) : ByteArray := ⟨(two i).toArray⟩
theorem nm_all : ∀ n : Nat, n < 100 → spec_l1Num.f 5 (n : Int) = some (nm n) ∧ (nm n).size ≤ 2 := by decide +kernel
theorem l1Num_eq (n : Nat) (hn : n < 100) (k : Nat) (hk : 5 ≤ k) : spec_l1Num.f k (n : Int) = some (nm n) := by
  have : ∀ d, spec_l1Num.f (5 + d) (n : Int) = some (nm n) := by
    intro d
    induction d with
    | zero => exact (nm_all n hn).1
    | succ d ih => exact spec_l1Num.mono _ _ _ ih
  have h := this (k - 5)
  rwa [show 5 + (k - 5) = k by omega] at h
theorem x_size : (⟨#[120]⟩ : ByteArray).size = 1 := rfl
/-- A table's text. -/
def tx (w h : Nat) : ByteArray := (nm w ++ ⟨#[120]⟩) ++ nm h
theorem beText_eq (w h : Nat) (hw : w < 100) (hh : h < 100) (k : Nat) (hk : 5 ≤ k) : spec_beText.f k (w : Int) (h : Int) = some (tx w h) := by
  have a := (nm_all w hw).2
  have b := (nm_all h hh).2
  unfold spec_beText.f
  rw [l1Num_eq w hw k hk, l1Num_eq h hh k hk]
  simp only [Option.bind_some]
  rw [if_pos (by omega), if_pos (by rw [ByteArray.size_append, x_size]; omega)]
  rfl

/-- The beam behind k steps, as the program tells it. -/
abbrev st (W H x y : Int) (r u : Bool) (k : Nat) : S27 := (fwSt W H ⟨x, y, r, u⟩ k).1
/-- No corner ahead of step k. -/
def NoC (W H x y : Int) (r u : Bool) (n : Nat) : Prop := ∀ j, 0 < j → j < n → fwCor W H (st W H x y r u j) = false
theorem st_zero (W H x y : Int) (r u : Bool) : st W H x y r u 0 = ⟨x, y, inw1 W x r, inw1 H y u⟩ := by simp [st, fwSt, fwInw_is]
theorem st_nm {W H x y : Int} (r u : Bool) (t : OnT W H x y) (k : Nat) (hc : NoC W H x y r u (k + 1)) : Nm W (st W H x y r u k).f0 (st W H x y r u k).f2 ∧ Nm H (st W H x y r u k).f1 (st W H x y r u k).f3 := by
  refine (way_ok r u t k (fun j h1 h2 => hc j h1 (by omega))).2 ?_
  rcases Nat.eq_zero_or_pos k with h | h
  · exact .inl h
  · exact .inr (hc k h (by omega))
theorem st_on {W H x y : Int} (r u : Bool) (t : OnT W H x y) (k : Nat) (hc : NoC W H x y r u k) : OnT W H (st W H x y r u k).f0 (st W H x y r u k).f1 := (way_ok r u t k hc).1
theorem fwSt_succ {W H x y : Int} (r u : Bool) (t : OnT W H x y) (k : Nat) (hc : NoC W H x y r u (k + 1)) :
    fwSt W H ⟨x, y, r, u⟩ (k + 1) = if (ons W ((st W H x y r u k).f0 + sg (st W H x y r u k).f2) && ons H ((st W H x y r u k).f1 + sg (st W H x y r u k).f3)) = true then (⟨(st W H x y r u k).f0 + sg (st W H x y r u k).f2, (st W H x y r u k).f1 + sg (st W H x y r u k).f3, (st W H x y r u k).f2, (st W H x y r u k).f3⟩, ⟨#[]⟩)
      else (⟨(st W H x y r u k).f0 + sg (st W H x y r u k).f2, (st W H x y r u k).f1 + sg (st W H x y r u k).f3, inw1 W ((st W H x y r u k).f0 + sg (st W H x y r u k).f2) (st W H x y r u k).f2, inw1 H ((st W H x y r u k).f1 + sg (st W H x y r u k).f3) (st W H x y r u k).f3⟩, sideB W H ((st W H x y r u k).f0 + sg (st W H x y r u k).f2) ((st W H x y r u k).f1 + sg (st W H x y r u k).f3)) := by
  have n := st_nm r u t k hc
  have e : fwSt W H ⟨x, y, r, u⟩ (k + 1) = fwNext W H (st W H x y r u k) := rfl
  rw [e]
  have o := st_on r u t k (fun j h1 h2 => hc j h1 (by omega))
  generalize st W H x y r u k = s at n o ⊢
  obtain ⟨X, Y, R, U⟩ := s
  have ax := nm_step n.1 t.w1
  have ay := nm_step n.2 t.h1
  obtain ⟨_, o5, _, o6, o1, o2, o3, o4⟩ := o
  simp only at o1 o2 o3 o4
  exact fwNext_in W H X Y R U ⟨by omega, by omega⟩ ⟨by omega, by omega⟩ ⟨t.w1, t.w2, t.h1, t.h2, ax.1, ax.2, ay.1, ay.2⟩
theorem sg_abs (b : Bool) : sg b = 1 ∨ sg b = -1 := by cases b <;> simp [sg]
/-- One step: where it goes, whether that is a corner, the side. -/
theorem st_step {W H x y : Int} (r u : Bool) (t : OnT W H x y) (k : Nat) (hc : NoC W H x y r u (k + 1)) :
    (st W H x y r u (k + 1)).f0 = (st W H x y r u k).f0 + sg (st W H x y r u k).f2 ∧ (st W H x y r u (k + 1)).f1 = (st W H x y r u k).f1 + sg (st W H x y r u k).f3 ∧
    fwCor W H (st W H x y r u (k + 1)) = (ons W (st W H x y r u (k + 1)).f0 && ons H (st W H x y r u (k + 1)).f1) ∧
    (fwSt W H ⟨x, y, r, u⟩ (k + 1)).2 = (if (ons W (st W H x y r u (k + 1)).f0 && ons H (st W H x y r u (k + 1)).f1) = true then ⟨#[]⟩ else sideB W H (st W H x y r u (k + 1)).f0 (st W H x y r u (k + 1)).f1) ∧
    (fwCor W H (st W H x y r u (k + 1)) = false → (st W H x y r u (k + 1)).f2 = inw1 W (st W H x y r u (k + 1)).f0 (st W H x y r u k).f2 ∧ (st W H x y r u (k + 1)).f3 = inw1 H (st W H x y r u (k + 1)).f1 (st W H x y r u k).f3) := by
  have e := fwSt_succ r u t k hc
  have e1 : st W H x y r u (k + 1) = (fwSt W H ⟨x, y, r, u⟩ (k + 1)).1 := rfl
  rw [e1, e]
  by_cases c : (ons W ((st W H x y r u k).f0 + sg (st W H x y r u k).f2) && ons H ((st W H x y r u k).f1 + sg (st W H x y r u k).f3)) = true
  · rw [if_pos c]
    refine ⟨rfl, rfl, ?_, ?_, fun h => ?_⟩
    · rw [fwCor_is]
    · rw [if_pos c]
    · rw [fwCor_is] at h; rw [c] at h; cases h
  · rw [if_neg c]
    refine ⟨rfl, rfl, ?_, ?_, fun _ => ⟨rfl, rfl⟩⟩
    · rw [fwCor_is]
    · rw [if_neg c]
/-- How far a beam comes within s steps. -/
theorem run_is {W H x y : Int} (r u : Bool) (s : Int) (h0 : 0 ≤ s) : (fwN W H ⟨x, y, r, u⟩ s (fun _ => false) : Int) ≤ s ∧ NoC W H x y r u (fwN W H ⟨x, y, r, u⟩ s (fun _ => false)) ∧
    ((fwN W H ⟨x, y, r, u⟩ s (fun _ => false) : Int) = s ∨ (0 < fwN W H ⟨x, y, r, u⟩ s (fun _ => false) ∧ fwCor W H (st W H x y r u (fwN W H ⟨x, y, r, u⟩ s (fun _ => false))) = true)) := by
  obtain ⟨n1, n2, n3⟩ := fwN_is W H ⟨x, y, r, u⟩ s (fun _ => false) h0
  generalize fwN W H ⟨x, y, r, u⟩ s (fun _ => false) = N at n1 n2 n3 ⊢
  refine ⟨n1, fun j h1 h2 => ?_, ?_⟩
  · rcases (n3 j h2).2.2 with h | h
    · omega
    · exact h
  · by_cases c : (N : Int) = s
    · exact .inl c
    · refine .inr ?_
      have hN : 0 < N := by
        rcases Nat.eq_zero_or_pos N with h | h
        · exact absurd ⟨rfl, by omega, .inl h⟩ n2
        · exact h
      refine ⟨hN, ?_⟩
      cases hc : fwCor W H (st W H x y r u N) with
      | true => rfl
      | false => exact absurd ⟨rfl, by omega, .inr hc⟩ n2
/-- The corner at which it ends, if there is one. -/
def endN (W H x y : Int) (r u : Bool) : Nat := fwCornN W H ⟨x, y, r, u⟩
def ends (W H x y : Int) (r u : Bool) : Bool := fwStop W H ⟨x, y, r, u⟩ (fwCornN W H ⟨x, y, r, u⟩)
theorem ends_true {W H x y : Int} (r u : Bool) (t : OnT W H x y) (h : ends W H x y r u = true) : 0 < endN W H x y r u ∧ endN W H x y r u ≤ 14401 ∧ fwCor W H (st W H x y r u (endN W H x y r u)) = true ∧ NoC W H x y r u (endN W H x y r u) := by
  obtain ⟨M, h0, _, h2, _, h4⟩ := corn_eq 100000 (Nat.le_refl _) r u t
  obtain ⟨rfl, h5, h6⟩ := h2 h
  exact ⟨h5, h0, h6, h4⟩
theorem ends_false {W H x y : Int} (r u : Bool) (t : OnT W H x y) (h : ends W H x y r u = false) : (∀ n, NoC W H x y r u n) ∧ ∀ k, st W H x y r u k = vs W H ⟨x, y, r, u⟩ k := by
  obtain ⟨M, _, _, _, h3, _⟩ := corn_eq 100000 (Nat.le_refl _) r u t
  have nv := (h3 h).2
  have sv := st_all r u t nv
  exact ⟨fun n j h1 _ => by show fwCor W H (fwSt W H ⟨x, y, r, u⟩ j).1 = false; rw [sv]; exact nv j h1, sv⟩
theorem reach_end {W H x y : Int} (r u : Bool) (t : OnT W H x y) {s : Int} (h0 : 0 ≤ s) : (fwN W H ⟨x, y, r, u⟩ s (fun _ => false) : Int) = if ends W H x y r u = true ∧ (endN W H x y r u : Int) < s then (endN W H x y r u : Int) else s := by
  obtain ⟨n1, n2, n3⟩ := run_is (W := W) (H := H) (x := x) (y := y) r u s h0
  generalize fwN W H ⟨x, y, r, u⟩ s (fun _ => false) = N at n1 n2 n3 ⊢
  cases he : ends W H x y r u with
  | true =>
    obtain ⟨e1, _, e2, e3⟩ := ends_true r u t he
    by_cases c : (endN W H x y r u : Int) < s
    · rw [if_pos ⟨rfl, c⟩]
      rcases Nat.lt_trichotomy N (endN W H x y r u) with h | h | h
      · rcases n3 with g | g
        · omega
        · rw [e3 N g.1 h] at g; cases g.2
      · rw [h]
      · rw [n2 _ e1 h] at e2; cases e2
    · rw [if_neg (fun h => c h.2)]
      rcases n3 with g | g
      · exact g
      · rcases Nat.lt_or_ge N (endN W H x y r u) with h | h
        · rw [e3 N g.1 h] at g; cases g.2
        · omega
  | false =>
    rw [if_neg (fun h => by cases h.1)]
    rcases n3 with g | g
    · exact g
    · rw [(ends_false r u t he).1 (N + 1) N g.1 (by omega)] at g; cases g.2
/-- Whether step k is a corner, for k up to where it comes. -/
theorem cor_at {W H x y : Int} (r u : Bool) (t : OnT W H x y) {k : Nat} (h1 : 0 < k) (hc : NoC W H x y r u k) : fwCor W H (st W H x y r u k) = (ends W H x y r u && decide (k = endN W H x y r u)) := by
  cases he : ends W H x y r u with
  | true =>
    obtain ⟨e1, _, e2, e3⟩ := ends_true r u t he
    by_cases c : k = endN W H x y r u
    · subst c; simp [e2]
    · rw [decide_eq_false c]
      rcases Nat.lt_or_ge k (endN W H x y r u) with h | h
      · rw [e3 k h1 h]; rfl
      · rw [hc _ e1 (by omega)] at e2; cases e2
  | false => rw [(ends_false r u t he).1 (k + 1) k h1 (by omega)]; rfl
/-- Between two sides it goes straight on. -/
theorem straight {W H x y : Int} (r u : Bool) (t : OnT W H x y) (k : Nat) (hc : NoC W H x y r u (k + 2)) :
    (0 < (st W H x y r u (k + 1)).f0 → (st W H x y r u (k + 1)).f0 < W → (st W H x y r u (k + 2)).f0 - (st W H x y r u (k + 1)).f0 = (st W H x y r u (k + 1)).f0 - (st W H x y r u k).f0) ∧
    (0 < (st W H x y r u (k + 1)).f1 → (st W H x y r u (k + 1)).f1 < H → (st W H x y r u (k + 2)).f1 - (st W H x y r u (k + 1)).f1 = (st W H x y r u (k + 1)).f1 - (st W H x y r u k).f1) := by
  have a := st_step r u t k (fun j h1 h2 => hc j h1 (by omega))
  have b := st_step r u t (k + 1) hc
  have d := a.2.2.2.2 (hc (k + 1) (by omega) (by omega))
  refine ⟨fun h1 h2 => ?_, fun h1 h2 => ?_⟩
  · have e : (st W H x y r u (k + 1)).f2 = (st W H x y r u k).f2 := by
      rw [d.1]; unfold inw1
      rw [decide_eq_false (by omega), decide_eq_true h2]; simp
    rw [b.1, e, a.1]; omega
  · have e : (st W H x y r u (k + 1)).f3 = (st W H x y r u k).f3 := by
      rw [d.2]; unfold inw1
      rw [decide_eq_false (by omega), decide_eq_true h2]; simp
    rw [b.2.1, e, a.2.1]; omega

theorem u64_lo (n : Int) : 0 ≤ IntKind.u64.wrap n ∧ IntKind.u64.wrap n < 18446744073709551616 := by rw [IntKind.wrap_u64]; omega
theorem mask8 (s : Int) (h0 : 0 ≤ s) (h1 : s < 18446744073709551616) : Go.bits .and .u64 (s / 1099511627776) 255 = s / 1099511627776 % 256 :=
  bits_mask .u64 24 (by decide) (fun n h0 h1 => by rw [IntKind.wrap_u64]; omega) 8 (by decide) _ (by omega) (by omega)
/-- Bytes, not too many. -/
def Bytes (l : List Int) : Prop := l.length ≤ 1048576 ∧ ∀ x ∈ l, 0 ≤ x ∧ x ≤ 255
theorem next_tot {l : List Int} (hl : Bytes l) {p s : Int} (h0 : 0 ≤ p) (h1 : p ≤ 1073741824) : ∃ x s', spec_l1Cur_next.f l p s = some (x, p + 1, s') ∧ 0 ≤ x ∧ x ≤ 255 := by
  have w : wrap64 (p + 1) = p + 1 := wrap_id (by omega) (by omega)
  unfold spec_l1Cur_next.f
  by_cases c : p < (l.length : Int)
  · rw [if_pos c, if_pos h0]
    have hm : 0 ≤ rd l p ∧ rd l p ≤ 255 := by
      have hlt : p.toNat < l.length := by omega
      have e : rd l p = l[p.toNat] := by
        show l.getD p.toNat 0 = _
        rw [List.getD_eq_getElem?_getD, List.getElem?_eq_getElem hlt]
        rfl
      rw [e]
      exact hl.2 _ (List.getElem_mem hlt)
    have wr : wrap64 (rd l p) = rd l p := wrap_id (by omega) (by omega)
    rw [w, wr, if_pos (by omega)]
    exact ⟨_, _, rfl, hm.1, hm.2⟩
  · rw [if_neg c, w]
    by_cases c2 : p + 1 ≤ (l.length : Int)
    · rw [if_pos c2]
      exact ⟨_, _, rfl, by omega, by omega⟩
    · rw [if_neg c2]
      have z := u64_lo (IntKind.u64.wrap (IntKind.u64.wrap (s * 6364136223846793005) + 0) + 1442695040888963407)
      refine ⟨_, _, rfl, ?_⟩
      rw [mask8 _ z.1 z.2, wrap_id (by omega) (by omega)]
      omega
theorem tmod_in {x n : Int} (hx : 0 ≤ x) (hn : 0 < n) : 0 ≤ Int.tmod x n ∧ Int.tmod x n < n := ⟨Int.tmod_nonneg _ hx, Int.tmod_lt_of_pos _ hn⟩
theorem pick_tot {l : List Int} (hl : Bytes l) {p s : Int} (n : Int) (h0 : 0 ≤ p) (h1 : p ≤ 1000000000) : ∃ x q s', spec_l1Cur_pick.f l p s n = some (x, q, s') ∧ 0 ≤ x ∧ (x < n ∨ x = 0) ∧ p ≤ q ∧ q ≤ p + 2 := by
  unfold spec_l1Cur_pick.f
  by_cases c : n ≤ 1
  · rw [if_pos c]
    exact ⟨0, p, s, rfl, by omega, .inr rfl, by omega, by omega⟩
  rw [if_neg c]
  obtain ⟨x, s1, e1, x0, x1⟩ := next_tot hl (p := p) (s := s) h0 (by omega)
  rw [e1]
  simp only [Option.bind_some]
  by_cases c2 : n > 200
  · rw [if_pos c2]
    obtain ⟨y, s2, e2, y0, y1⟩ := next_tot hl (p := p + 1) (s := s1) (by omega) (by omega)
    rw [e2]
    simp only [Option.bind_some]
    rw [if_neg (by omega), wrap_id (n := x * 256) (by omega) (by omega), wrap_id (n := x * 256 + y) (by omega) (by omega)]
    have z := tmod_in (x := x * 256 + y) (n := n) (by omega) (by omega)
    exact ⟨_, _, _, rfl, z.1, .inl z.2, by omega, by omega⟩
  · rw [if_neg c2, if_neg (by omega)]
    have z := tmod_in (x := x) (n := n) (by omega) (by omega)
    exact ⟨_, _, _, rfl, z.1, .inl z.2, by omega, by omega⟩
theorem one_tot {l : List Int} (hl : Bytes l) {p s : Int} (n : Int) (h0 : 0 ≤ p) (h1 : p ≤ 1000000000) : ∃ b q s', spec_l1Cur_one.f l p s n = some (b, q, s') ∧ p ≤ q ∧ q ≤ p + 2 := by
  obtain ⟨x, q, s', e, _, _, a, b⟩ := pick_tot hl (s := s) n h0 h1
  exact ⟨_, q, s', by unfold spec_l1Cur_one.f; rw [e]; rfl, a, b⟩
theorem among_tot {l : List Int} (hl : Bytes l) {p s : Int} (m : List Int) (hm : 0 < m.length) (h0 : 0 ≤ p) (h1 : p ≤ 1000000000) : ∃ x q s', spec_l1Cur_among.f l p s m = some (x, q, s') ∧ p ≤ q ∧ q ≤ p + 2 := by
  obtain ⟨x, q, s', e, x0, x1, a, b⟩ := pick_tot hl (s := s) (m.length : Int) h0 h1
  refine ⟨rd m x, q, s', ?_, a, b⟩
  unfold spec_l1Cur_among.f
  rw [e]
  simp only [Option.bind_some]
  rw [if_pos x0, if_pos (by omega)]

theorem table_tot {l : List Int} (hl : Bytes l) {p s : Int} (h0 : 0 ≤ p) (h1 : p ≤ 1000000) : ∃ a b q s', spec_l1Cur_table.f l p s = some (a, b, q, s') ∧ p ≤ q ∧ q ≤ p + 8 := by
  obtain ⟨x1, q1, s1, e1, _, _, a1, b1⟩ := pick_tot hl (s := s) 9 h0 (by omega)
  obtain ⟨x2, q2, s2, e2, _, _, a2, b2⟩ := pick_tot hl (p := q1) (s := s1) 9 (by omega) (by omega)
  obtain ⟨x3, q3, s3, e3, _, _, a3, b3⟩ := pick_tot hl (p := q2) (s := s2) 20 (by omega) (by omega)
  obtain ⟨x4, q4, s4, e4, a4, b4⟩ := among_tot hl (p := q3) (s := s3) [(-1), 0, 1, 60, 61, 4611686018427387904] (by decide) (by omega) (by omega)
  unfold spec_l1Cur_table.f spec_l1Cur_sureTable.f
  simp only [e1, e2, e3, e4, Option.bind_some]
  by_cases c : x3 = 0
  · rw [if_pos c]
    exact ⟨_, _, _, _, rfl, by omega, by omega⟩
  · rw [if_neg c]
    by_cases c2 : x3 = 1
    · rw [if_pos c2]
      exact ⟨_, _, _, _, rfl, by omega, by omega⟩
    · rw [if_neg c2]
      exact ⟨_, _, _, _, rfl, by omega, by omega⟩
theorem most_tot (a b : Int) : ∃ z, spec_l1Most.f a b = some z := by
  unfold spec_l1Most.f
  split <;> exact ⟨_, rfl⟩
theorem least_tot (a b : Int) : ∃ z, spec_l1Least.f a b = some z := by
  unfold spec_l1Least.f
  split <;> exact ⟨_, rfl⟩
theorem beam_tot {l : List Int} (hl : Bytes l) {p s : Int} (h0 : 0 ≤ p) (h1 : p ≤ 100000) : ∃ a b c d e f q s', spec_l1Cur_beam.f l p s = some (a, b, c, d, e, f, q, s') ∧ p ≤ q ∧ q ≤ p + 30 := by
  obtain ⟨a, b, q1, s1, e1, a1, b1⟩ := table_tot hl (s := s) h0 (by omega)
  obtain ⟨m1, f1⟩ := most_tot 0 a
  obtain ⟨m2, f2⟩ := least_tot 60 m1
  obtain ⟨x2, q2, s2, e2, _, _, a2, b2⟩ := pick_tot hl (p := q1) (s := s1) (wrap64 (m2 + 1)) (by omega) (by omega)
  obtain ⟨m3, f3⟩ := most_tot 0 b
  obtain ⟨m4, f4⟩ := least_tot 60 m3
  obtain ⟨x3, q3, s3, e3, _, _, a3, b3⟩ := pick_tot hl (p := q2) (s := s2) (wrap64 (m4 + 1)) (by omega) (by omega)
  obtain ⟨x4, q4, s4, e4, a4, b4⟩ := one_tot hl (p := q3) (s := s3) 2 (by omega) (by omega)
  obtain ⟨x5, q5, s5, e5, a5, b5⟩ := one_tot hl (p := q4) (s := s4) 2 (by omega) (by omega)
  obtain ⟨x6, q6, s6, e6, _, _, a6, b6⟩ := pick_tot hl (p := q5) (s := s5) 14 (by omega) (by omega)
  obtain ⟨x7, q7, s7, e7, a7, b7⟩ := among_tot hl (p := q6) (s := s6) [(-1), 0, 9, 61, 4611686018427387904] (by decide) (by omega) (by omega)
  unfold spec_l1Cur_beam.f
  simp only [e1, f1, f2, e2, f3, f4, e3, e4, e5, e6, e7, Option.bind_some]
  by_cases c : x6 = 0
  · rw [if_pos c]
    exact ⟨_, _, _, _, _, _, _, _, rfl, by omega, by omega⟩
  · rw [if_neg c]
    by_cases c2 : x6 = 1
    · rw [if_pos c2]
      exact ⟨_, _, _, _, _, _, _, _, rfl, by omega, by omega⟩
    · rw [if_neg c2]
      by_cases c3 : x6 = 2
      · rw [if_pos c3]
        exact ⟨_, _, _, _, _, _, _, _, rfl, by omega, by omega⟩
      · rw [if_neg c3]
        by_cases c4 : x6 = 3
        · rw [if_pos c4]
          exact ⟨_, _, _, _, _, _, _, _, rfl, by omega, by omega⟩
        · rw [if_neg c4]
          exact ⟨_, _, _, _, _, _, _, _, rfl, by omega, by omega⟩

/-! ### the reference ends -/
theorem split_l0 (s : ByteArray) (hs : s.size ≤ 1048576) : ∀ (d i : Nat) (acc : List ByteArray) (fr : Nat), i + d = s.size → fr ≤ i → acc.length ≤ i → ∃ parts, ∀ k, d < k → spec_l1Split.l0 k s 120 acc fr i = some parts := by
  intro d
  induction d with
  | zero =>
    intro i acc fr hi hf ha
    refine ⟨acc ++ [s.extract ((fr : Nat) : Int).toNat s.size], fun k hk => ?_⟩
    obtain ⟨k, rfl⟩ : ∃ m, k = m + 1 := ⟨k - 1, by omega⟩
    rw [spec_l1Split.l0, if_neg (by omega), if_pos (by omega), if_pos (by omega), if_pos (by omega)]
  | succ d ih =>
    intro i acc fr hi hf ha
    have e : wrap64 ((i : Int) + 1) = ((i + 1 : Nat) : Int) := by rw [wrap_id (by omega) (by omega)]; omega
    by_cases c : bt s (i : Int) = 120
    · obtain ⟨parts, hp⟩ := ih (i + 1) (acc ++ [s.extract ((fr : Nat) : Int).toNat ((i : Nat) : Int).toNat]) (i + 1) (by omega) (Nat.le_refl _) (by simp; omega)
      refine ⟨parts, fun k hk => ?_⟩
      obtain ⟨k, rfl⟩ : ∃ m, k = m + 1 := ⟨k - 1, by omega⟩
      rw [spec_l1Split.l0, if_pos (by omega), if_pos (by omega), if_pos c, if_pos (by omega), if_pos (by omega), if_pos (by omega), if_pos (by omega), e]
      exact hp k (by omega)
    · obtain ⟨parts, hp⟩ := ih (i + 1) acc fr (by omega) (by omega) (by omega)
      refine ⟨parts, fun k hk => ?_⟩
      obtain ⟨k, rfl⟩ : ∃ m, k = m + 1 := ⟨k - 1, by omega⟩
      rw [spec_l1Split.l0, if_pos (by omega), if_pos (by omega), if_neg c, e]
      exact hp k (by omega)
theorem read_l0 (s : ByteArray) (hs : s.size ≤ 6) : ∀ (d i : Nat) (n : Int), i + d = s.size → ∃ v, ∀ k, d < k → spec_l1Read.l0 k s n i = some v := by
  intro d
  induction d with
  | zero =>
    intro i n hi
    refine ⟨n, fun k hk => ?_⟩
    obtain ⟨k, rfl⟩ : ∃ m, k = m + 1 := ⟨k - 1, by omega⟩
    rw [spec_l1Read.l0, if_neg (by omega)]
  | succ d ih =>
    intro i n hi
    have e : wrap64 ((i : Int) + 1) = ((i + 1 : Nat) : Int) := by rw [wrap_id (by omega) (by omega)]; omega
    by_cases c1 : bt s (i : Int) < 48
    · refine ⟨-1, fun k hk => ?_⟩
      obtain ⟨k, rfl⟩ : ∃ m, k = m + 1 := ⟨k - 1, by omega⟩
      rw [spec_l1Read.l0, if_pos (by omega), if_pos (by omega), if_pos c1]
    · by_cases c2 : bt s (i : Int) > 57
      · refine ⟨-1, fun k hk => ?_⟩
        obtain ⟨k, rfl⟩ : ∃ m, k = m + 1 := ⟨k - 1, by omega⟩
        rw [spec_l1Read.l0, if_pos (by omega), if_pos (by omega), if_neg c1, if_pos c2]
      · obtain ⟨v, hv⟩ := ih (i + 1) (wrap64 ((wrap64 (10 * n)) + (((bt s (i : Int)) - 48) % 256))) (by omega)
        refine ⟨v, fun k hk => ?_⟩
        obtain ⟨k, rfl⟩ : ∃ m, k = m + 1 := ⟨k - 1, by omega⟩
        rw [spec_l1Read.l0, if_pos (by omega), if_pos (by omega), if_neg c1, if_neg c2, e]
        exact hv k (by omega)
theorem read_f (s : ByteArray) : ∃ v, ∀ k, 20 ≤ k → spec_l1Read.f k s = some v := by
  by_cases h : 1 ≤ (s.size : Int) ∧ (s.size : Int) ≤ 6
  · obtain ⟨v, hv⟩ := read_l0 s (by omega) s.size 0 0 (by omega)
    by_cases c : bt s 0 = 48 ∧ (s.size : Int) > 1
    · refine ⟨-1, fun k hk => ?_⟩
      obtain ⟨k, rfl⟩ : ∃ m, k = m + 1 := ⟨k - 1, by omega⟩
      unfold spec_l1Read.f
      rw [l1In_eq, decide_eq_true h]
      simp only [Option.bind_some]
      rw [if_pos trivial, if_pos (by omega), if_pos c.1, spec_l1Read.j0, decide_eq_true c.2, if_pos rfl]
    · refine ⟨v, fun k hk => ?_⟩
      obtain ⟨k, rfl⟩ : ∃ m, k = m + 1 := ⟨k - 1, by omega⟩
      unfold spec_l1Read.f
      rw [l1In_eq, decide_eq_true h]
      simp only [Option.bind_some]
      rw [if_pos trivial, if_pos (by omega)]
      by_cases c1 : bt s 0 = 48
      · rw [if_pos c1, spec_l1Read.j0, decide_eq_false (fun h2 => c ⟨c1, h2⟩), if_neg (by decide)]
        exact hv k (by omega)
      · rw [if_neg c1, spec_l1Read.j0, if_neg (by decide)]
        exact hv k (by omega)
  · refine ⟨-1, fun k hk => ?_⟩
    obtain ⟨k, rfl⟩ : ∃ m, k = m + 1 := ⟨k - 1, by omega⟩
    unfold spec_l1Read.f
    rw [l1In_eq, decide_eq_false h]
    simp only [Option.bind_some]
    rw [if_neg (by decide), spec_l1Read.j0, if_pos rfl]
theorem toList_inj {s t : ByteArray} (h : s.toList = t.toList) : s = t := by
  rw [Lib.toList_data, Lib.toList_data] at h
  rw [← Lib.mk_data s, ← Lib.mk_data t, h]
/-- What the reference gives: a table whose text it is, or nothing. -/
theorem spec_ends (s : ByteArray) (hs : s.size ≤ 1048576) : ∃ z, (∀ k, 2000000 ≤ k → spec_ParseTable.f k s = some z) ∧ ((∃ w h : Nat, tb w h = true ∧ s = tx w h ∧ z = ((w : Int), (h : Int), true)) ∨ z = (0, 0, false)) := by
  obtain ⟨parts, hp⟩ := split_l0 s hs s.size 0 [] 0 (by omega) (Nat.le_refl _) (Nat.zero_le _)
  have hsp : ∀ k, 2000000 ≤ k → spec_l1Split.f k s 120 = some parts := fun k hk => hp k (by omega)
  by_cases c5 : (s.size : Int) > 5
  · refine ⟨(0, 0, false), fun k hk => ?_, .inr rfl⟩
    obtain ⟨k, rfl⟩ : ∃ m, k = m + 1 := ⟨k - 1, by omega⟩
    unfold spec_ParseTable.f spec_beParse.f
    rw [hsp _ hk]
    simp only [Option.bind_some]
    rw [if_pos c5, spec_beParse.j0, if_pos rfl]
    rfl
  · by_cases c2 : (parts.length : Int) = 2
    · obtain ⟨a, ha⟩ := read_f (rdOf ByteArray.empty parts 0)
      obtain ⟨b, hb⟩ := read_f (rdOf ByteArray.empty parts 1)
      have go : ∀ k, 2000000 ≤ k → spec_beParse.f k s = (if tb a b = true then ((spec_beText.f (k - 1) a b).bind fun t131 => (some (a, b, (t131.toList == s.toList)))) else (some (a, b, false))) := by
        intro k hk
        obtain ⟨k, rfl⟩ : ∃ m, k = m + 1 := ⟨k - 1, by omega⟩
        unfold spec_beParse.f
        rw [hsp _ hk]
        simp only [Option.bind_some]
        have : ((parts.length : Int) != 2) = false := by rw [c2]; rfl
        rw [if_neg c5, this, spec_beParse.j0, if_neg (by decide), if_pos (by omega), ha k (by omega)]
        simp only [Option.bind_some]
        rw [if_pos (by omega), hb k (by omega)]
        simp only [Option.bind_some]
        rw [beTable_eq]
        rfl
      cases ht : tb a b with
      | false =>
        refine ⟨(0, 0, false), fun k hk => ?_, .inr rfl⟩
        unfold spec_ParseTable.f
        rw [go k hk, ht, if_neg (by decide)]
        rfl
      | true =>
        have t := tb_of ht
        obtain ⟨w, rfl⟩ := Int.eq_ofNat_of_zero_le (show 0 ≤ a by omega)
        obtain ⟨h, rfl⟩ := Int.eq_ofNat_of_zero_le (show 0 ≤ b by omega)
        have tx_is : ∀ k, 2000000 ≤ k → spec_beText.f (k - 1) (w : Int) (h : Int) = some (tx w h) := fun k hk => beText_eq w h (by omega) (by omega) (k - 1) (by omega)
        cases he : ((tx w h).toList == s.toList) with
        | false =>
          refine ⟨(0, 0, false), fun k hk => ?_, .inr rfl⟩
          unfold spec_ParseTable.f
          rw [go k hk, ht, if_pos rfl, tx_is k hk]
          simp only [Option.bind_some]
          rw [he, if_neg (by decide)]
        | true =>
          refine ⟨((w : Int), (h : Int), true), fun k hk => ?_, .inl ⟨w, h, ht, (toList_inj (eq_of_beq he)).symm, rfl⟩⟩
          unfold spec_ParseTable.f
          rw [go k hk, ht, if_pos rfl, tx_is k hk]
          simp only [Option.bind_some]
          rw [he, if_pos rfl]
    · refine ⟨(0, 0, false), fun k hk => ?_, .inr rfl⟩
      obtain ⟨k, rfl⟩ : ∃ m, k = m + 1 := ⟨k - 1, by omega⟩
      unfold spec_ParseTable.f spec_beParse.f
      rw [hsp _ hk]
      simp only [Option.bind_some]
      have : ((parts.length : Int) != 2) = true := by simpa using c2
      rw [if_neg c5, this, spec_beParse.j0, if_pos rfl]
      rfl
/-! ### a table's text is read back by the reference -/
theorem split_all : ∀ w : Nat, w < 61 → ∀ h : Nat, h < 61 → spec_l1Split.f 8 (tx w h) 120 = some [nm w, nm h] := by decide +kernel
theorem read_all : ∀ w : Nat, w < 61 → spec_l1Read.f 10 (nm w) = some (w : Int) := by decide +kernel
theorem split_mono (s : ByteArray) {z : List ByteArray} (h : spec_l1Split.f 8 s 120 = some z) : ∀ d, spec_l1Split.f (8 + d) s 120 = some z := by
  intro d
  induction d with
  | zero => exact h
  | succ d ih => exact spec_l1Split.mono _ _ _ _ ih
theorem read_mono (s : ByteArray) {z : Int} (h : spec_l1Read.f 10 s = some z) : ∀ d, spec_l1Read.f (10 + d) s = some z := by
  intro d
  induction d with
  | zero => exact h
  | succ d ih => exact spec_l1Read.mono _ _ _ ih
theorem spec_reads (w h : Nat) (t : tb w h = true) (k : Nat) (hk : 100 ≤ k) : spec_ParseTable.f k (tx w h) = some ((w : Int), (h : Int), true) := by
  have t' := tb_of t
  have a := (nm_all w (by omega)).2
  have b := (nm_all h (by omega)).2
  have sz : ((tx w h).size : Int) ≤ 5 := by
    unfold tx
    rw [ByteArray.size_append, ByteArray.size_append, x_size]
    omega
  obtain ⟨k, rfl⟩ : ∃ m, k = m + 1 := ⟨k - 1, by omega⟩
  have h1 : spec_l1Split.f (k + 1) (tx w h) 120 = some [nm w, nm h] := by
    have := split_mono _ (split_all w (by omega) h (by omega)) (k + 1 - 8)
    rwa [show 8 + (k + 1 - 8) = k + 1 by omega] at this
  have h2 : ∀ n : Nat, n < 61 → spec_l1Read.f k (nm n) = some (n : Int) := fun n hn => by
    have := read_mono _ (read_all n hn) (k - 10)
    rwa [show 10 + (k - 10) = k by omega] at this
  unfold spec_ParseTable.f spec_beParse.f
  rw [h1]
  simp only [Option.bind_some]
  have e0 : rdOf ByteArray.empty [nm w, nm h] 0 = nm w := rfl
  have e1 : rdOf ByteArray.empty [nm w, nm h] 1 = nm h := rfl
  have l2 : (([nm w, nm h] : List ByteArray).length : Int) = 2 := rfl
  rw [if_neg (by omega), l2]
  have : ((2 : Int) != 2) = false := rfl
  rw [this, spec_beParse.j0, if_neg (by decide), l2, if_pos (by omega), e0, h2 w (by omega)]
  simp only [Option.bind_some]
  rw [if_pos (by omega), e1, h2 h (by omega)]
  simp only [Option.bind_some]
  rw [beTable_eq, t]
  simp only [Option.bind_some]
  rw [if_pos trivial, beText_eq w h (by omega) (by omega) k (by omega)]
  simp only [Option.bind_some]
  have : ((tx w h).toList == (tx w h).toList) = true := beq_self_eq_true _
  rw [this, if_pos rfl]
/-! ### the program -/
theorem atoi_all : ∀ w : Nat, w < 61 → Lib.atoiAll (two w) = .ok (w : Int) := by decide +kernel
theorem cut_all : ∀ w : Nat, w < 61 → ∀ h : Nat, h < 61 → Lib.cut (tx w h).data.toList [120] = (two w, two h, true) := by decide +kernel
theorem itoa_two {w : Nat} (h : w < 100) : Lib.itoa (w : Int) = two w := by
  unfold Lib.itoa
  rw [if_neg (by omega), Int.toNat_natCast, two_eq h]
theorem numR_nm (w : Nat) (h : w < 61) : numR ⟨(two w).toArray⟩ = ((w : Int), true) := by
  unfold numR
  have : (⟨(two w).toArray⟩ : ByteArray).data.toList = two w := rfl
  rw [this, atoi_all w h]
  show ((w : Int), Lib.itoa (w : Int) == (⟨(two w).toArray⟩ : ByteArray).toList) = _
  rw [itoa_two (by omega), Lib.toList_data, this, beq_self_eq_true]
theorem numR_true {s : ByteArray} {v : Int} (h : numR s = (v, true)) (h1 : 1 ≤ v) (h2 : v ≤ 60) : s.data.toList = two v.toNat := by
  unfold numR at h
  split at h
  · rename_i u _
    have hv := (Prod.mk.inj h).1
    have := eq_of_beq (Prod.mk.inj h).2
    subst hv
    rw [Lib.toList_data] at this
    obtain ⟨w, rfl⟩ := Int.eq_ofNat_of_zero_le (show 0 ≤ u by omega)
    rw [itoa_two (by omega)] at this
    rw [← this, Int.toNat_natCast]
  · cases (Prod.mk.inj h).2
  · cases (Prod.mk.inj h).2
theorem cut_whole (l : List UInt8) : ((Lib.cut l [120]).1.length ≤ l.length ∧ (Lib.cut l [120]).2.1.length ≤ l.length) ∧ (l = (Lib.cut l [120]).1 ++ 120 :: (Lib.cut l [120]).2.1 ∨ (Lib.cut l [120]).2.1 = []) := by
  unfold Lib.cut
  rcases Lib.index_spec l [120] with ⟨h, _⟩ | ⟨i, h, hi, ho, _⟩
  · rw [h, if_neg (by omega)]
    exact ⟨⟨Nat.le_refl _, Nat.zero_le _⟩, .inr rfl⟩
  · rw [h, if_pos (by omega), Int.toNat_natCast]
    refine ⟨⟨by simp [List.length_take]; omega, by simp [List.length_drop]⟩, .inl ?_⟩
    show l = l.take i ++ 120 :: l.drop (i + 1)
    unfold Lib.occAt at ho
    cases hd : l.drop i with
    | nil =>
      rw [hd] at ho
      cases ho
    | cons b r =>
      rw [hd] at ho
      have hb : b = 120 := by
        have : ((120 : UInt8) == b) = true := by simpa [List.isPrefixOf] using ho
        exact (eq_of_beq this).symm
      have hr : l.drop (i + 1) = r := by
        have : l.drop (i + 1) = (l.drop i).drop 1 := by rw [List.drop_drop]
        rw [this, hd]
        rfl
      rw [hr]
      have := List.take_append_drop i l
      rw [hd, hb] at this
      exact this.symm
theorem bytes_of {s t : ByteArray} (h : s.data.toList = t.data.toList) : s = t := by
  rw [← Lib.mk_data s, ← Lib.mk_data t, h]
theorem impl_is (s : ByteArray) (hs : s.size ≤ 1048576) : ∃ z, impl_ParseTable.f s = some z ∧ ((∃ w h : Nat, tb w h = true ∧ s = tx w h ∧ z = ((w : Int), (h : Int), true)) ∨ (z = (0, 0, false) ∧ ∀ w h : Nat, tb w h = true → s ≠ tx w h)) := by
  have cw := cut_whole s.data.toList
  have sz : s.data.toList.length = s.size := (Lib.size_eq s).symm
  have e1 : (⟨(Lib.cut s.data.toList [120]).1.toArray⟩ : ByteArray).size ≤ 281474976710656 := by
    show (Lib.cut s.data.toList [120]).1.toArray.size ≤ _
    rw [List.size_toArray]
    omega
  have e2 : (⟨(Lib.cut s.data.toList [120]).2.1.toArray⟩ : ByteArray).size ≤ 281474976710656 := by
    show (Lib.cut s.data.toList [120]).2.1.toArray.size ≤ _
    rw [List.size_toArray]
    omega
  have red : impl_ParseTable.f s = (if (numR ⟨(Lib.cut s.data.toList [120]).1.toArray⟩).2 = true then (if (numR ⟨(Lib.cut s.data.toList [120]).2.1.toArray⟩).2 = true then (if tb (numR ⟨(Lib.cut s.data.toList [120]).1.toArray⟩).1 (numR ⟨(Lib.cut s.data.toList [120]).2.1.toArray⟩).1 = true then some ((numR ⟨(Lib.cut s.data.toList [120]).1.toArray⟩).1, (numR ⟨(Lib.cut s.data.toList [120]).2.1.toArray⟩).1, true) else some (0, 0, false)) else some (0, 0, false)) else some (0, 0, false)) := by
    unfold impl_ParseTable.f strings_Cut.f impl_number.f
    rw [if_pos (by omega)]
    show ((if (⟨(Lib.cut s.data.toList [120]).1.toArray⟩ : ByteArray).size ≤ 281474976710656 then some (numR ⟨(Lib.cut s.data.toList [120]).1.toArray⟩) else none).bind fun bt144 => ((if (⟨(Lib.cut s.data.toList [120]).2.1.toArray⟩ : ByteArray).size ≤ 281474976710656 then some (numR ⟨(Lib.cut s.data.toList [120]).2.1.toArray⟩) else none).bind fun bt146 => _)) = _
    rw [if_pos e1, if_pos e2]
    simp only [Option.bind_some, IsTable_eqT]
  by_cases all : ∃ w h : Nat, tb w h = true ∧ s = tx w h
  · obtain ⟨w, h, t, rfl⟩ := all
    have t' := tb_of t
    refine ⟨((w : Int), (h : Int), true), ?_, .inl ⟨w, h, t, rfl, rfl⟩⟩
    rw [red, cut_all w (by omega) h (by omega)]
    simp only
    rw [numR_nm w (by omega), numR_nm h (by omega)]
    simp only
    rw [if_pos trivial, if_pos trivial, if_pos t]
  · have none_ : ∀ w h : Nat, tb w h = true → s ≠ tx w h := fun w h t e => all ⟨w, h, t, e⟩
    refine ⟨(0, 0, false), ?_, .inr ⟨rfl, none_⟩⟩
    rw [red]
    cases h1 : numR ⟨(Lib.cut s.data.toList [120]).1.toArray⟩ with
    | mk a one =>
      cases h2 : numR ⟨(Lib.cut s.data.toList [120]).2.1.toArray⟩ with
      | mk b two_ =>
        cases one with
        | false => rfl
        | true =>
          cases two_ with
          | false => rfl
          | true =>
            cases ht : tb a b with
            | false =>
              first | rfl | (simp only [if_true]; exact if_neg (by decide)) | (simp only [if_true]; rw [ht]; rfl)
            | true =>
              exfalso
              have t := tb_of ht
              have g1 := numR_true h1 (by omega) (by omega)
              have g2 := numR_true h2 (by omega) (by omega)
              have g1' : (Lib.cut s.data.toList [120]).1 = two a.toNat := g1
              have g2' : (Lib.cut s.data.toList [120]).2.1 = two b.toNat := g2
              rcases cw.2 with hw | hw
              · refine none_ a.toNat b.toNat ?_ (bytes_of ?_)
                · rw [Int.toNat_of_nonneg (by omega), Int.toNat_of_nonneg (by omega)]
                  exact ht
                · rw [hw, g1', g2']
                  unfold tx nm
                  simp [ByteArray.toList_data_append]
              · rw [hw] at g2'
                unfold two at g2'
                split at g2' <;> cases g2'
/-- Both read a text alike. -/
def ReadT (s : ByteArray) (v : Int × Int × Bool) : Prop := (∃ w h : Nat, tb w h = true ∧ s = tx w h ∧ v = ((w : Int), (h : Int), true)) ∨ v = (0, 0, false)
theorem parse_same (s : ByteArray) (hs : s.size ≤ 1048576) : ∃ v, impl_ParseTable.f s = some v ∧ (∀ k, 2000000 ≤ k → spec_ParseTable.f k s = some v) ∧ ReadT s v := by
  obtain ⟨z, h1, hz⟩ := spec_ends s hs
  obtain ⟨y, h2, hy⟩ := impl_is s hs
  have e : z = y := by
    rcases hy with ⟨w, h, t, hs, rfl⟩ | ⟨rfl, hn⟩
    · obtain ⟨k, hk⟩ : ∃ k : Nat, 2000000 ≤ k := ⟨2000000, Nat.le_refl _⟩
      have := spec_reads w h t k (by omega)
      rw [← hs, h1 k hk] at this
      exact Option.some.inj this
    · rcases hz with ⟨w, h, t, hs, rfl⟩ | rfl
      · exact absurd hs (hn w h t)
      · rfl
  subst e
  exact ⟨z, h2, h1, hz⟩

/-! ### a beam that ends: its bounces, its crossings -/
theorem size_app (a b : ByteArray) : (a ++ b).size = a.size + b.size := ByteArray.size_append
theorem end_side {W H x y : Int} (r u : Bool) (t : OnT W H x y) (k : Nat) (hc : NoC W H x y r u (k + 1)) (h : fwCor W H (st W H x y r u (k + 1)) = true) : (fwSt W H ⟨x, y, r, u⟩ (k + 1)).2.size = 0 := by
  have s := st_step r u t k hc
  rw [s.2.2.2.1, ← s.2.2.1, if_pos h]
  rfl
theorem sides_le {W H x y : Int} (r u : Bool) (t : OnT W H x y) : ∀ k, NoC W H x y r u k → (sides W H ⟨x, y, r, u⟩ k).size ≤ k := by
  intro k
  induction k with
  | zero => intro _; exact Nat.le_refl _
  | succ k ih =>
    intro hc
    have a := ih (fun j h1 h2 => hc j h1 (by omega))
    have s := st_step r u t k hc
    have z : (fwSt W H ⟨x, y, r, u⟩ (k + 1)).2.size ≤ 1 := by
      rw [s.2.2.2.1]
      split
      · exact Nat.zero_le _
      · exact side_size
    show (sides W H ⟨x, y, r, u⟩ k ++ (fwSt W H ⟨x, y, r, u⟩ (k + 1)).2).size ≤ k + 1
    rw [size_app]
    omega
/-- The bounces are fewer than the steps. -/
theorem sides_lt {W H x y : Int} (r u : Bool) (t : OnT W H x y) (h : ends W H x y r u = true) : (sides W H ⟨x, y, r, u⟩ (endN W H x y r u)).size < endN W H x y r u := by
  obtain ⟨h0, _, hc, hn⟩ := ends_true r u t h
  generalize endN W H x y r u = N at h0 hc hn ⊢
  obtain ⟨k, rfl⟩ : ∃ m, N = m + 1 := ⟨N - 1, by omega⟩
  have a := sides_le r u t k (fun j h1 h2 => hn j h1 (by omega))
  have b := end_side r u t k hn hc
  show (sides W H ⟨x, y, r, u⟩ k ++ (fwSt W H ⟨x, y, r, u⟩ (k + 1)).2).size < k + 1
  rw [size_app]
  omega
theorem sum_add {α : Type} (f g : α → Nat) : ∀ C : List α, (C.map (fun q => f q + g q)).sum = (C.map f).sum + (C.map g).sum := by
  intro C
  induction C with
  | nil => rfl
  | cons a C ih =>
    simp only [List.map_cons, List.sum_cons]
    omega
theorem sum_one (p : Int × Int) : ∀ C : List (Int × Int), C.Nodup → (C.map (fun q => if p = q then 1 else 0)).sum ≤ 1 ∧ (p ∉ C → (C.map (fun q => if p = q then 1 else 0)).sum = 0) := by
  intro C
  induction C with
  | nil => intro _; exact ⟨Nat.zero_le _, fun _ => rfl⟩
  | cons a C ih =>
    intro hn
    have hn' := List.nodup_cons.1 hn
    have i := ih hn'.2
    simp only [List.map_cons, List.sum_cons]
    by_cases c : p = a
    · subst c
      have := i.2 hn'.1
      rw [if_pos rfl, this]
      exact ⟨Nat.le_refl _, fun h => absurd (List.mem_cons_self) h⟩
    · rw [if_neg c, Nat.zero_add]
      exact ⟨i.1, fun h => i.2 (fun m => h (List.mem_cons_of_mem _ m))⟩
theorem sum_ge {α : Type} (f : α → Nat) (n : Nat) : ∀ C : List α, (∀ q ∈ C, n ≤ f q) → n * C.length ≤ (C.map f).sum := by
  intro C
  induction C with
  | nil => intro _; exact Nat.le_refl _
  | cons a C ih =>
    intro h
    have i := ih (fun q hq => h q (List.mem_cons_of_mem _ hq))
    have b := h a List.mem_cons_self
    simp only [List.map_cons, List.sum_cons, List.length_cons]
    rw [Nat.mul_add, Nat.mul_one]
    omega
theorem cnt_sum (W H : Int) (b : S27) (C : List (Int × Int)) (hC : C.Nodup) : ∀ k, (C.map (fun q => vsCnt W H b q k)).sum ≤ k := by
  intro k
  induction k with
  | zero =>
    have : (C.map (fun q => vsCnt W H b q 0)).sum = 0 := by
      induction C with
      | nil => rfl
      | cons a C ih =>
        simp only [List.map_cons, List.sum_cons]
        rw [ih (List.nodup_cons.1 hC).2]
        rfl
    omega
  | succ k ih =>
    have e : (fun q => vsCnt W H b q (k + 1)) = fun q => vsCnt W H b q k + (if vsPt W H b k = q then 1 else 0) := rfl
    rw [e, sum_add]
    have := (sum_one (vsPt W H b k) C hC).1
    omega
theorem cnt_one (W H : Int) (b : S27) (q : Int × Int) : ∀ k m, m < k → vsPt W H b m = q → 1 ≤ vsCnt W H b q k := by
  intro k
  induction k with
  | zero => intro m h; omega
  | succ k ih =>
    intro m h e
    show 1 ≤ vsCnt W H b q k + _
    rcases Nat.lt_or_ge m k with c | c
    · have := ih m c e
      omega
    · obtain rfl : m = k := by omega
      rw [if_pos e]
      omega
/-- Crossings are passed twice, and none is where it starts. -/
theorem cross_le (W H x y : Int) (r u : Bool) (N : Nat) (P : Int × Int → Bool) (hP : ∀ q, P q = true → 2 ≤ vsCnt W H ⟨x, y, r, u⟩ q (N + 1) ∧ q ≠ (x, y)) :
    2 * ((vsSet W H ⟨x, y, r, u⟩ (N + 1)).filter P).length ≤ N := by
  have nd : ((vsSet W H ⟨x, y, r, u⟩ (N + 1)).filter P).Nodup := (vsSet_nodup W H ⟨x, y, r, u⟩ (N + 1)).filter P
  have hq : ∀ q ∈ (vsSet W H ⟨x, y, r, u⟩ (N + 1)).filter P, 2 ≤ vsCnt W H ⟨x, y, r, u⟩ q (N + 1) ∧ q ≠ (x, y) := fun q hq => hP q (List.mem_filter.1 hq).2
  generalize (vsSet W H ⟨x, y, r, u⟩ (N + 1)).filter P = C at nd hq ⊢
  have nd2 : ((x, y) :: C).Nodup := List.nodup_cons.2 ⟨fun m => (hq _ m).2 rfl, nd⟩
  have a := cnt_sum W H ⟨x, y, r, u⟩ ((x, y) :: C) nd2 (N + 1)
  have b := sum_ge (fun q => vsCnt W H ⟨x, y, r, u⟩ q (N + 1)) 2 C (fun q h => (hq q h).1)
  have c := cnt_one W H ⟨x, y, r, u⟩ (x, y) (N + 1) 0 (by omega) (by
    show ((st W H x y r u 0).f0, (st W H x y r u 0).f1) = (x, y)
    rw [st_zero])
  simp only [List.map_cons, List.sum_cons] at a
  omega
theorem vsN_end {W H x y : Int} (r u : Bool) (t : OnT W H x y) (h : ends W H x y r u = true) : vsN W H ⟨x, y, r, u⟩ = endN W H x y r u := by
  have a := area t
  have e := reach_end r u t (s := 2 * W * H) (by rw [Int.mul_assoc]; omega)
  obtain ⟨n1, _, _⟩ := fwN_is W H ⟨x, y, r, u⟩ (2 * W * H) (fwStop W H ⟨x, y, r, u⟩) (by rw [Int.mul_assoc]; omega)
  have n2 : ((endN W H x y r u : Nat) : Int) ≤ 2 * W * H := n1
  unfold vsN
  by_cases c : (endN W H x y r u : Int) < 2 * W * H
  · rw [if_pos ⟨h, c⟩] at e
    omega
  · rw [if_neg (fun g => c g.2)] at e
    omega
/-! ### the main beam -/
theorem main_on {W H : Int} (h : (1 ≤ W ∧ W ≤ 60) ∧ 1 ≤ H ∧ H ≤ 60) : OnT W H 0 0 := ⟨h.1.1, h.1.2, h.2.1, h.2.2, by omega, by omega, by omega, by omega⟩
theorem main_cor {W H : Nat} (h : (1 ≤ (W : Int) ∧ (W : Int) ≤ 60) ∧ 1 ≤ (H : Int) ∧ (H : Int) ≤ 60) (k : Nat) : fwCor W H (vs W H ⟨0, 0, true, true⟩ k) = decide (W ∣ k ∧ H ∣ k) := by
  have v := vs_cor true true (main_on h) k
  have c0 : co (W : Int) (vs (W : Int) (H : Int) ⟨0, 0, true, true⟩ 0).f0 (vs (W : Int) (H : Int) ⟨0, 0, true, true⟩ 0).f2 = 0 := rfl
  have c1 : co (H : Int) (vs (W : Int) (H : Int) ⟨0, 0, true, true⟩ 0).f1 (vs (W : Int) (H : Int) ⟨0, 0, true, true⟩ 0).f3 = 0 := rfl
  rw [c0, c1, Int.zero_add] at v
  rw [v, Bool.eq_iff_iff, Bool.and_eq_true, decide_eq_true_eq, decide_eq_true_eq, decide_eq_true_eq, Nat.dvd_iff_mod_eq_zero, Nat.dvd_iff_mod_eq_zero]
  omega
theorem main_end {W H : Nat} (h : (1 ≤ (W : Int) ∧ (W : Int) ≤ 60) ∧ 1 ≤ (H : Int) ∧ (H : Int) ≤ 60) : ends W H 0 0 true true = true ∧ endN W H 0 0 true true = Nat.lcm W H := by
  have t := main_on h
  have Lp : 0 < Nat.lcm W H := Nat.lcm_pos (by omega) (by omega)
  have no : ∀ j, 0 < j → j < Nat.lcm W H → fwCor W H (vs W H ⟨0, 0, true, true⟩ j) = false := fun j h1 h2 => by
    rw [main_cor h]
    refine decide_eq_false (fun d => ?_)
    have := Nat.le_of_dvd h1 (Nat.lcm_dvd d.1 d.2)
    omega
  have yes : fwCor W H (st W H 0 0 true true (Nat.lcm W H)) = true := by
    have s := st_vs true true t (Nat.lcm W H) no
    show fwCor W H (fwSt W H ⟨0, 0, true, true⟩ (Nat.lcm W H)).1 = true
    rw [s.2.2.1, main_cor h]
    exact decide_eq_true ⟨Nat.dvd_lcm_left W H, Nat.dvd_lcm_right W H⟩
  have e : ends W H 0 0 true true = true := by
    cases c : ends W H 0 0 true true with
    | true => rfl
    | false =>
      have := (ends_false true true t c).1 (Nat.lcm W H + 1) (Nat.lcm W H) Lp (by omega)
      rw [this] at yes
      cases yes
  refine ⟨e, ?_⟩
  obtain ⟨h0, _, hc, hn⟩ := ends_true true true t e
  rcases Nat.lt_trichotomy (endN W H 0 0 true true) (Nat.lcm W H) with c | c | c
  · have s := st_vs true true t (endN W H 0 0 true true) (fun j h1 h2 => no j h1 (by omega))
    have hc' : fwCor W H (fwSt W H ⟨0, 0, true, true⟩ (endN W H 0 0 true true)).1 = true := hc
    rw [s.2.2.1, no _ h0 c] at hc'
    cases hc'
  · exact c
  · have := hn (Nat.lcm W H) Lp c
    rw [this] at yes
    cases yes
theorem main_noc {W H : Nat} (h : (1 ≤ (W : Int) ∧ (W : Int) ≤ 60) ∧ 1 ≤ (H : Int) ∧ (H : Int) ≤ 60) : NoC W H 0 0 true true (Nat.lcm W H) := by
  have e := main_end h
  have := (ends_true true true (main_on h) e.1).2.2.2
  rw [e.2] at this
  exact this
theorem main_st {W H : Nat} (h : (1 ≤ (W : Int) ∧ (W : Int) ≤ 60) ∧ 1 ≤ (H : Int) ∧ (H : Int) ≤ 60) (k : Nat) (hk : k ≤ Nat.lcm W H) :
    (st W H 0 0 true true k).f0 = (if (k : Int) % (2 * W) < W then (k : Int) % (2 * W) else 2 * W - (k : Int) % (2 * W)) ∧ (st W H 0 0 true true k).f1 = (if (k : Int) % (2 * H) < H then (k : Int) % (2 * H) else 2 * H - (k : Int) % (2 * H)) ∧
    ons W (st W H 0 0 true true k).f0 = decide (W ∣ k) ∧ ons H (st W H 0 0 true true k).f1 = decide (H ∣ k) := by
  have t := main_on h
  have no : ∀ j, 0 < j → j < k → fwCor W H (vs W H ⟨0, 0, true, true⟩ j) = false := fun j h1 h2 => by
    rw [main_cor h]
    refine decide_eq_false (fun d => ?_)
    have := Nat.le_of_dvd h1 (Nat.lcm_dvd d.1 d.2)
    omega
  have s := st_vs true true t k no
  have n := vs_nm true true t k
  have c := vs_co true true t k
  have c0 : co (W : Int) (vs (W : Int) (H : Int) ⟨0, 0, true, true⟩ 0).f0 (vs (W : Int) (H : Int) ⟨0, 0, true, true⟩ 0).f2 = 0 := rfl
  have c1 : co (H : Int) (vs (W : Int) (H : Int) ⟨0, 0, true, true⟩ 0).f1 (vs (W : Int) (H : Int) ⟨0, 0, true, true⟩ 0).f3 = 0 := rfl
  rw [c0, c1, Int.zero_add] at c
  have rx := co_range t.w1 n.1
  have ry := co_range t.h1 n.2
  have sx := co_side t.w1 n.1
  have sy := co_side t.h1 n.2
  rw [c.1] at rx sx
  rw [c.2] at ry sy
  rw [Int.emod_emod_of_dvd _ (Int.dvd_mul_left 2 (W : Int))] at sx
  rw [Int.emod_emod_of_dvd _ (Int.dvd_mul_left 2 (H : Int))] at sy
  have dv : ∀ n : Nat, decide ((k : Int) % (n : Int) = 0) = decide (n ∣ k) := fun n => by
    rw [decide_eq_decide, Nat.dvd_iff_mod_eq_zero]
    omega
  rw [dv] at sx sy
  refine ⟨s.1.trans rx.2.2.2, s.2.1.trans ry.2.2.2, ?_, ?_⟩
  · rw [show (st W H 0 0 true true k).f0 = (vs W H ⟨0, 0, true, true⟩ k).f0 from s.1]
    exact sx
  · rw [show (st W H 0 0 true true k).f1 = (vs W H ⟨0, 0, true, true⟩ k).f1 from s.2.1]
    exact sy
theorem sideB_size {W H x y : Int} : (sideB W H x y).size = if (ons W x || ons H y) = true then 1 else 0 := by
  unfold sideB ons
  by_cases a : x = W
  · rw [if_pos a]
    simp [a]
    rfl
  · rw [if_neg a]
    by_cases b : x = 0
    · rw [if_pos b]
      simp [b]
      rfl
    · rw [if_neg b]
      by_cases c : y = H
      · rw [if_pos c]
        simp [c]
        rfl
      · rw [if_neg c]
        by_cases d : y = 0
        · rw [if_pos d]
          simp [d]
          rfl
        · rw [if_neg d]
          simp [a, b, c, d]
          rfl
theorem main_sides {W H : Nat} (h : (1 ≤ (W : Int) ∧ (W : Int) ≤ 60) ∧ 1 ≤ (H : Int) ∧ (H : Int) ≤ 60) : ∀ k, k < Nat.lcm W H → (sides W H ⟨0, 0, true, true⟩ k).size = k / W + k / H := by
  intro k
  induction k with
  | zero =>
    intro _
    rw [Nat.zero_div, Nat.zero_div]
    rfl
  | succ k ih =>
    intro hk
    have i := ih (by omega)
    have nc := main_noc h
    have s := st_step true true (main_on h) k (fun j h1 h2 => nc j h1 (by omega))
    have m := main_st h (k + 1) (by omega)
    have c := nc (k + 1) (by omega) hk
    show (sides W H ⟨0, 0, true, true⟩ k ++ (fwSt W H ⟨0, 0, true, true⟩ (k + 1)).2).size = _
    rw [size_app, i, s.2.2.2.1, ← s.2.2.1, if_neg (by rw [c]; decide), sideB_size, m.2.2.1, m.2.2.2, Nat.succ_div, Nat.succ_div]
    rw [s.2.2.1, m.2.2.1, m.2.2.2] at c
    by_cases a : W ∣ k + 1
    · have b : ¬ H ∣ k + 1 := fun b => by simp [a, b] at c
      simp [a, b]
      omega
    · by_cases b : H ∣ k + 1
      · simp [a, b]
        omega
      · simp [a, b]
theorem main_all {W H : Nat} (h : (1 ≤ (W : Int) ∧ (W : Int) ≤ 60) ∧ 1 ≤ (H : Int) ∧ (H : Int) ≤ 60) : (sides W H ⟨0, 0, true, true⟩ (Nat.lcm W H)).size + 2 = Nat.lcm W H / W + Nat.lcm W H / H := by
  have Lp : 0 < Nat.lcm W H := Nat.lcm_pos (by omega) (by omega)
  have nc := main_noc h
  have e := main_end h
  have hc := (ends_true true true (main_on h) e.1).2.2.1
  rw [e.2] at hc
  have ms := main_sides h (Nat.lcm W H - 1) (by omega)
  have d1 := Nat.succ_div (a := Nat.lcm W H - 1) (b := W)
  have d2 := Nat.succ_div (a := Nat.lcm W H - 1) (b := H)
  have p1 : W ∣ Nat.lcm W H - 1 + 1 := by rw [show Nat.lcm W H - 1 + 1 = Nat.lcm W H by omega]; exact Nat.dvd_lcm_left W H
  have p2 : H ∣ Nat.lcm W H - 1 + 1 := by rw [show Nat.lcm W H - 1 + 1 = Nat.lcm W H by omega]; exact Nat.dvd_lcm_right W H
  rw [if_pos p1] at d1
  rw [if_pos p2] at d2
  generalize Nat.lcm W H = L at *
  obtain ⟨k, rfl⟩ : ∃ m, L = m + 1 := ⟨L - 1, by omega⟩
  have b := end_side true true (main_on h) k nc hc
  show (sides W H ⟨0, 0, true, true⟩ k ++ (fwSt W H ⟨0, 0, true, true⟩ (k + 1)).2).size + 2 = _
  rw [size_app]
  simp only [Nat.add_sub_cancel] at *
  omega
/-- The corner at which the main beam ends. -/
theorem main_at {W H : Nat} (h : (1 ≤ (W : Int) ∧ (W : Int) ≤ 60) ∧ 1 ≤ (H : Int) ∧ (H : Int) ≤ 60) :
    (st W H 0 0 true true (Nat.lcm W H)).f0 = ((Nat.lcm W H / W % 2 * W : Nat) : Int) ∧ (st W H 0 0 true true (Nat.lcm W H)).f1 = ((Nat.lcm W H / H % 2 * H : Nat) : Int) := by
  have m := main_st h (Nat.lcm W H) (Nat.le_refl _)
  have g : ∀ n : Nat, 1 ≤ n → n ∣ Nat.lcm W H → (if ((Nat.lcm W H : Nat) : Int) % (2 * n) < n then ((Nat.lcm W H : Nat) : Int) % (2 * n) else 2 * n - ((Nat.lcm W H : Nat) : Int) % (2 * n)) = ((Nat.lcm W H / n % 2 * n : Nat) : Int) := fun n hn hd => by
    obtain ⟨a, ha⟩ := hd
    rw [ha, Nat.mul_div_cancel_left _ (by omega)]
    have e : ((n * a : Nat) : Int) % (2 * n) = ((n * (a % 2) : Nat) : Int) := by
      have : (n * a) % (n * 2) = n * (a % 2) := Nat.mul_mod_mul_left n a 2
      rw [show (2 * (n : Int)) = ((n * 2 : Nat) : Int) by rw [Int.natCast_mul]; omega, ← Int.natCast_emod, this]
    rw [e]
    rcases Nat.mod_two_eq_zero_or_one a with c | c
    · rw [c, Nat.mul_zero, if_pos (by omega), Nat.zero_mul]
    · rw [c, Nat.mul_one, if_neg (by omega), Nat.one_mul]
      omega
  exact ⟨m.1.trans (g W (by omega) (Nat.dvd_lcm_left W H)), m.2.1.trans (g H (by omega) (Nat.dvd_lcm_right W H))⟩

def crP (W H x y X Y : Int) : Bool := decide (X > 0) && (decide (X < W) && (decide (Y > 0) && (decide (Y < H) && (if X = x then Y != y else true))))
theorem cross_if (W H x y c X Y : Int) (A B : Option (Int × Bool)) : (if c > 1 then (if X > 0 then (if X < W then (if Y > 0 then (if Y < H then (if X = x then (if Y = y then A else B) else B) else A) else A) else A) else A) else A) = if (decide (c > 1) && crP W H x y X Y) = true then B else A := by
  unfold crP
  by_cases h1 : c > 1
  · rw [if_pos h1, decide_eq_true h1, Bool.true_and]
    by_cases h2 : X > 0
    · rw [if_pos h2, decide_eq_true h2, Bool.true_and]
      by_cases h3 : X < W
      · rw [if_pos h3, decide_eq_true h3, Bool.true_and]
        by_cases h4 : Y > 0
        · rw [if_pos h4, decide_eq_true h4, Bool.true_and]
          by_cases h5 : Y < H
          · rw [if_pos h5, decide_eq_true h5, Bool.true_and]
            by_cases h6 : X = x
            · rw [if_pos h6, if_pos h6]
              by_cases h7 : Y = y
              · rw [if_pos h7, if_neg (by rw [h7, bne_self_eq_false]; decide)]
              · rw [if_neg h7, if_pos (bne_iff_ne.2 h7)]
            · rw [if_neg h6, if_neg h6, if_pos rfl]
          · rw [if_neg h5, decide_eq_false h5, Bool.false_and, if_neg (by decide)]
        · rw [if_neg h4, decide_eq_false h4, Bool.false_and, if_neg (by decide)]
      · rw [if_neg h3, decide_eq_false h3, Bool.false_and, if_neg (by decide)]
    · rw [if_neg h2, decide_eq_false h2, Bool.false_and, if_neg (by decide)]
  · rw [if_neg h1, decide_eq_false h1, Bool.false_and, if_neg (by decide)]
theorem cross_l0 (W H x y : Int) (r u : Bool) (hH : 1 ≤ H ∧ H ≤ 60) (f : Nat → Int × Int) (n K : Nat) (hn : n ≤ 100000) (d : Nat) : ∀ (k i : Nat) (a : Int), i + d = n → 2 * d < k → 0 ≤ a → a + d ≤ 100000 →
    spec_CountCrossings.l0 k a (tl H f n K) (n : Nat) i W H x y r u = some (a + (((List.range' i d).countP (fun j => decide (1 < cntI H f j K) && crP W H x y (Int.tdiv (j : Nat) (H + 1)) (Int.tmod (j : Nat) (H + 1))) : Nat) : Int), true) := by
  induction d with
  | zero =>
    intro k i a hi hk h0 h1
    obtain ⟨k, rfl⟩ : ∃ m, k = m + 1 := ⟨k - 1, by omega⟩
    simp only [spec_CountCrossings.l0]
    rw [if_neg (by omega)]
    simp
  | succ d ih =>
    intro k i a hi hk h0 h1
    obtain ⟨k, rfl⟩ : ∃ m, k = m + 1 := ⟨k - 1, by omega⟩
    have e : wrap64 ((i : Int) + 1) = ((i + 1 : Nat) : Int) := by rw [wrap_id (by omega) (by omega)]; omega
    have hl := tl_len H f n K
    have w1 : wrap64 (H + 1) = H + 1 := wrap_id (by omega) (by omega)
    have hd : Int.tdiv (i : Int) (H + 1) = (i : Int) / (H + 1) := Int.tdiv_eq_ediv_of_nonneg (by omega)
    have hd0 : 0 ≤ (i : Int) / (H + 1) := Int.ediv_nonneg (by omega) (by omega)
    have hd1 : (i : Int) / (H + 1) ≤ i := Int.ediv_le_self _ (by omega)
    have w2 : wrap64 (Int.tdiv (i : Int) (H + 1)) = Int.tdiv (i : Int) (H + 1) := by rw [hd, wrap_id (by omega) (by omega)]
    have n1 := ih k (i + 1)
    simp only [spec_CountCrossings.l0]
    rw [if_pos (by omega), if_pos (by omega), if_pos (by omega), tl_rd H f (by omega), w1, if_neg (by omega), w2, e, wrap_id (n := a + 1) (by omega) (by omega), List.range'_succ, List.countP_cons, cross_if]
    have ec : decide (((cntI H f i K : Nat) : Int) > 1) = decide (1 < cntI H f i K) := by rw [decide_eq_decide]; omega
    rw [ec]
    generalize (decide (1 < cntI H f i K) && crP W H x y (Int.tdiv (i : Int) (H + 1)) (Int.tmod (i : Int) (H + 1))) = b
    cases b with
    | true =>
      rw [if_pos rfl, if_pos rfl, n1 _ (by omega) (by omega) (by omega) (by omega)]
      congr 2
      omega
    | false =>
      rw [if_neg (by decide), if_neg (by decide), n1 _ (by omega) (by omega) (by omega) (by omega)]
      congr 2
/-- A place's number tells the place. -/
theorem ix_div {W H : Int} {q : Int × Int} (hH : 1 ≤ H) (h : On W H q) : Int.tdiv ((ix H q : Nat) : Int) (H + 1) = q.1 ∧ Int.tmod ((ix H q : Nat) : Int) (H + 1) = q.2 := by
  have a := ix_ge hH h
  have := h.2.1
  have := h.2.2
  have e : ((ix H q : Nat) : Int) = q.2 + q.1 * (H + 1) := by
    unfold ix
    omega
  rw [Int.tdiv_eq_ediv_of_nonneg (by omega), Int.tmod_eq_emod_of_nonneg (by omega), e, Int.add_mul_ediv_right _ _ (by omega), Int.add_mul_emod_self_right, Int.ediv_eq_zero_of_lt (by omega) (by omega), Int.emod_eq_of_lt (by omega) (by omega)]
  exact ⟨by omega, rfl⟩
theorem vsCnt_cntI {W H : Int} (hH : 1 ≤ H) (b : S27) {q : Int × Int} (hq : On W H q) : ∀ k, (∀ m, m < k → On W H (vsPt W H b m)) → vsCnt W H b q k = cntI H (vsPt W H b) (ix H q) k
  | 0, _ => rfl
  | k + 1, h => by
    simp only [vsCnt, cntI]
    rw [vsCnt_cntI hH b hq k (fun m hm => h m (by omega))]
    by_cases c : vsPt W H b k = q
    · rw [if_pos c, if_pos (by rw [c])]
    · rw [if_neg c, if_neg (fun e => c (ix_inj hH (h k (by omega)) hq e))]
theorem ccP_crP {W H : Int} (hW : 1 ≤ W ∧ W ≤ 60) (hH : 1 ≤ H ∧ H ≤ 60) (x y : Int) (c : Int × Int → Nat) (q : Int × Int) : ccP W H x y c q = (decide (1 < c q) && crP W H x y q.1 q.2) := by
  unfold ccP ccIn crP
  rw [within_eq, within_eq, wrap_id (n := W - 1) (by omega) (by omega), wrap_id (n := H - 1) (by omega) (by omega)]
  simp only [Option.getD_some]
  rw [Bool.eq_iff_iff]
  by_cases h6 : q.1 = x
  · simp [h6]
    omega
  · simp [h6]
    omega
theorem cross_both (k : Nat) (hk : 100000 ≤ k) (W H x y : Int) (r u : Bool) : ∃ z, spec_CountCrossings.f (k + 1) W H x y r u = some z ∧ impl_CountCrossings.f W H x y r u = some z := by
  unfold spec_CountCrossings.f impl_CountCrossings.f impl_toCorner.f
  rw [beGood_eq, IsBeam_eq]
  simp only [Option.bind_some]
  cases hb : bg W H x y with
  | false => exact ⟨(0, false), by simp, by simp⟩
  | true =>
    have t := bg_of hb
    have hW := And.intro t.w1 t.w2
    have hH := And.intro t.h1 t.h2
    have hbn : (W + 1) * (H + 1) ≤ 61 * 61 := Int.mul_le_mul (by omega) (by omega) (by omega) (by omega)
    obtain ⟨M, hM, h1, h2, h3, h4⟩ := corn_eq (k + 1) (by omega) r u t
    rw [if_pos rfl, if_pos rfl, h1]
    simp only [Option.bind_some]
    cases hs : fwStop W H ⟨x, y, r, u⟩ (fwCornN W H ⟨x, y, r, u⟩) with
    | false => exact ⟨(0, false), by simp, by simp⟩
    | true =>
      obtain ⟨hMC, hM0, hcor⟩ := h2 hs
      have a := area t
      obtain ⟨n1, n2, n3⟩ := fwN_is W H ⟨x, y, r, u⟩ (2 * W * H) (fun _ => false) (by rw [Int.mul_assoc]; omega)
      obtain ⟨m1, m2, m3⟩ := fwN_is W H ⟨x, y, r, u⟩ (2 * W * H) (fwStop W H ⟨x, y, r, u⟩) (by rw [Int.mul_assoc]; omega)
      have hNM : vsN W H ⟨x, y, r, u⟩ = M := by
        unfold vsN
        rw [hMC]
        unfold fwCornN
        refine go_unique n3 n2 (fun j hj => ?_) (fun h => ?_)
        · have := m3 j hj
          exact ⟨rfl, this.2.1, this.2.2⟩
        · rw [hMC] at hcor hM0
          unfold fwCornN at hcor hM0
          rcases h.2.2 with h | h
          · omega
          · rw [hcor] at h
            cases h
      have hon : ∀ k, k ≤ M → On W H (vsPt W H ⟨x, y, r, u⟩ k) := by
        intro k hk
        have z := (way_ok r u t k (fun j j0 j1 => h4 j j0 (by omega))).1
        exact ⟨⟨z.x1, z.x2⟩, z.y1, z.y2⟩
      have e2 := times_eq hW hH (fun j => (fwSt W H ⟨x, y, r, u⟩ j).1) M (by omega) hon (k + 1) (by omega)
      have hp := cross_l0 W H x y r u hH (vsPt W H ⟨x, y, r, u⟩) ((W + 1) * (H + 1)).toNat (M + 1) (by omega) ((W + 1) * (H + 1)).toNat (k + 1) 0 0 (by omega) (by omega) (by omega) (by omega)
      have hset := set_count hH.1 ⟨x, y, r, u⟩ (ccP W H x y (fun q => vsCnt W H ⟨x, y, r, u⟩ q (M + 1))) (fun j => decide (1 < cntI H (vsPt W H ⟨x, y, r, u⟩) j (M + 1)) && crP W H x y (Int.tdiv (j : Nat) (H + 1)) (Int.tmod (j : Nat) (H + 1))) (M + 1) (fun k hk => hon k (by omega)) (fun k hk => by
        have o := hon k (by omega)
        rw [ccP_crP hW hH]
        rw [(ix_div hH.1 o).1, (ix_div hH.1 o).2, vsCnt_cntI hH.1 ⟨x, y, r, u⟩ o (M + 1) (fun m hm => hon m (by omega))]) _ (Nat.le_refl _)
      refine ⟨(((ccL W H x y r u).length : Nat), true), ?_, ?_⟩
      · rw [if_pos rfl, e2]
        simp only [Option.bind_some, tl_len]
        refine hp.trans ?_
        unfold ccL ccN
        rw [hNM, hset, ← List.range_eq_range', Int.zero_add]
        congr 3
        refine List.countP_congr (fun j _ => ?_)
        have : (decide (0 < cntI H (vsPt W H ⟨x, y, r, u⟩) j (M + 1)) && (decide (1 < cntI H (vsPt W H ⟨x, y, r, u⟩) j (M + 1)) && crP W H x y (Int.tdiv (j : Nat) (H + 1)) (Int.tmod (j : Nat) (H + 1)))) = (decide (1 < cntI H (vsPt W H ⟨x, y, r, u⟩) j (M + 1)) && crP W H x y (Int.tdiv (j : Nat) (H + 1)) (Int.tmod (j : Nat) (H + 1))) := by
          by_cases c : 1 < cntI H (vsPt W H ⟨x, y, r, u⟩) j (M + 1)
          · rw [decide_eq_true c, decide_eq_true (show 0 < cntI H (vsPt W H ⟨x, y, r, u⟩) j (M + 1) by omega), Bool.true_and]
          · rw [decide_eq_false c]
            simp
        rw [this]
      · rw [if_pos rfl]
        simp only [Option.bind_some]
        rw [if_pos trivial, if_pos (vsOk_of t)]

/-! ### what a beam's end is told as -/
def eb (W H x y : Int) (r u : Bool) : Bool := bg W H x y && ends W H x y r u
def vSteps (W H x y : Int) (r u : Bool) : Int × Bool := if eb W H x y r u then ((endN W H x y r u : Int), true) else (0, false)
def vCorner (W H x y : Int) (r u : Bool) : Int × Int × Bool := if eb W H x y r u then ((st W H x y r u (endN W H x y r u)).f0, (st W H x y r u (endN W H x y r u)).f1, true) else (0, 0, false)
def vBounces (W H x y : Int) (r u : Bool) : Int × Bool := if eb W H x y r u then (((sides W H ⟨x, y, r, u⟩ (endN W H x y r u)).size : Int), true) else (0, false)
theorem corner_is (W H x y : Int) (r u : Bool) : ∃ b c t, impl_toCorner.f W H x y r u = some (if eb W H x y r u = true then ((endN W H x y r u : Int), (st W H x y r u (endN W H x y r u)).f0, (st W H x y r u (endN W H x y r u)).f1, (st W H x y r u (endN W H x y r u)).f2, (st W H x y r u (endN W H x y r u)).f3, sides W H ⟨x, y, r, u⟩ (endN W H x y r u), true) else (0, 0, 0, b, c, t, false)) := by
  unfold impl_toCorner.f eb
  rw [IsBeam_eq]
  simp only [Option.bind_some]
  cases hb : bg W H x y with
  | false => exact ⟨false, false, ⟨#[]⟩, rfl⟩
  | true =>
    rw [if_pos rfl, Bool.true_and]
    unfold ends endN
    cases hs : fwStop W H ⟨x, y, r, u⟩ (fwCornN W H ⟨x, y, r, u⟩) with
    | false => exact ⟨_, _, _, rfl⟩
    | true =>
      refine ⟨false, false, ⟨#[]⟩, ?_⟩
      rw [if_pos rfl, if_pos rfl, fwSides_is]
theorem Steps_eq (W H x y : Int) (r u : Bool) : impl_StepsToCorner.f W H x y r u = some (vSteps W H x y r u) := by
  obtain ⟨b, c, t, e⟩ := corner_is W H x y r u
  unfold impl_StepsToCorner.f vSteps
  rw [e]
  simp only [Option.bind_some]
  cases eb W H x y r u <;> rfl
theorem Corner_eq (W H x y : Int) (r u : Bool) : impl_CornerOf.f W H x y r u = some (vCorner W H x y r u) := by
  obtain ⟨b, c, t, e⟩ := corner_is W H x y r u
  unfold impl_CornerOf.f vCorner
  rw [e]
  simp only [Option.bind_some]
  cases eb W H x y r u <;> rfl
theorem Bounces_eq (W H x y : Int) (r u : Bool) : impl_BouncesToCorner.f W H x y r u = some (vBounces W H x y r u) := by
  obtain ⟨b, c, t, e⟩ := corner_is W H x y r u
  unfold impl_BouncesToCorner.f vBounces
  rw [e]
  simp only [Option.bind_some]
  cases eb W H x y r u <;> rfl
theorem ref_end (k : Nat) (hk : 100000 ≤ k) {W H x y : Int} (r u : Bool) (t : OnT W H x y) : ∃ M, M ≤ 14401 ∧
    spec_beEnd.f k W H x y r u = some ((List.range (M + 1)).map (st W H x y r u), sides W H ⟨x, y, r, u⟩ M, ends W H x y r u) ∧ (ends W H x y r u = true → M = endN W H x y r u) := by
  obtain ⟨M, h0, h1, h2, _, _⟩ := corn_eq k hk r u t
  exact ⟨M, h0, h1, fun h => (h2 h).1⟩
theorem sSteps_eq (k : Nat) (hk : 100000 ≤ k) (W H x y : Int) (r u : Bool) : spec_StepsToCorner.f k W H x y r u = some (vSteps W H x y r u) := by
  unfold spec_StepsToCorner.f vSteps eb
  rw [beGood_eq]
  simp only [Option.bind_some]
  cases hb : bg W H x y with
  | false => rfl
  | true =>
    obtain ⟨M, h0, h1, h2⟩ := ref_end k hk r u (bg_of hb)
    rw [if_pos rfl, h1]
    simp only [Option.bind_some, Bool.true_and]
    cases he : ends W H x y r u with
    | false => rfl
    | true =>
      rw [if_pos rfl, if_pos rfl, h2 he]
      have : wrap64 ((((List.range (endN W H x y r u + 1)).map (st W H x y r u)).length : Int) - 1) = (endN W H x y r u : Int) := by
        have := h2 he
        rw [List.length_map, List.length_range, wrap_id (by omega) (by omega)]
        omega
      rw [this]
theorem sCorner_eq (k : Nat) (hk : 100000 ≤ k) (W H x y : Int) (r u : Bool) : spec_CornerOf.f k W H x y r u = some (vCorner W H x y r u) := by
  unfold spec_CornerOf.f vCorner eb
  rw [beGood_eq]
  simp only [Option.bind_some]
  cases hb : bg W H x y with
  | false => rfl
  | true =>
    obtain ⟨M, h0, h1, h2⟩ := ref_end k hk r u (bg_of hb)
    rw [if_pos rfl, h1]
    simp only [Option.bind_some, Bool.true_and]
    cases he : ends W H x y r u with
    | false => rfl
    | true =>
      have e := h2 he
      subst e
      have l : wrap64 ((((List.range (endN W H x y r u + 1)).map (st W H x y r u)).length : Int) - 1) = (endN W H x y r u : Int) := by
        rw [List.length_map, List.length_range, wrap_id (by omega) (by omega)]
        omega
      have l2 : (((List.range (endN W H x y r u + 1)).map (st W H x y r u)).length : Int) = (endN W H x y r u : Int) + 1 := by
        rw [List.length_map, List.length_range]
        omega
      rw [if_pos rfl, if_pos rfl, l, if_pos (by omega), if_pos (by omega), rd_run _ _ _ (Nat.le_refl _)]
theorem sBounces_eq (k : Nat) (hk : 100000 ≤ k) (W H x y : Int) (r u : Bool) : spec_BouncesToCorner.f k W H x y r u = some (vBounces W H x y r u) := by
  unfold spec_BouncesToCorner.f vBounces eb
  rw [beGood_eq]
  simp only [Option.bind_some]
  cases hb : bg W H x y with
  | false => rfl
  | true =>
    obtain ⟨M, h0, h1, h2⟩ := ref_end k hk r u (bg_of hb)
    rw [if_pos rfl, h1]
    simp only [Option.bind_some, Bool.true_and]
    cases he : ends W H x y r u with
    | false => rfl
    | true => rw [if_pos rfl, if_pos rfl, h2 he]
/-- What both count as crossings. -/
theorem Cross_is (k : Nat) (hk : 100001 ≤ k) (W H x y : Int) (r u : Bool) : ∃ z : Int × Bool, impl_CountCrossings.f W H x y r u = some z ∧ spec_CountCrossings.f k W H x y r u = some z ∧ z.2 = eb W H x y r u ∧ 0 ≤ z.1 ∧ (eb W H x y r u = true → 2 * z.1 ≤ (endN W H x y r u : Int)) := by
  obtain ⟨z, h1, h2⟩ := cross_both (k - 1) (by omega) W H x y r u
  rw [show k - 1 + 1 = k by omega] at h1
  refine ⟨z, h2, h1, ?_⟩
  obtain ⟨b, c, t, e⟩ := corner_is W H x y r u
  unfold impl_CountCrossings.f at h2
  rw [e] at h2
  simp only [Option.bind_some] at h2
  cases he : eb W H x y r u with
  | false =>
    rw [he] at h2
    have := Option.some.inj h2
    subst this
    exact ⟨rfl, Int.le_refl _, fun h => by cases h⟩
  | true =>
    rw [he] at h2
    have hb : bg W H x y = true ∧ ends W H x y r u = true := by
      unfold eb at he
      simpa using he
    have tt := bg_of hb.1
    have hN := vsN_end r u tt hb.2
    have cl := cross_le W H x y r u (vsN W H ⟨x, y, r, u⟩) (ccP W H x y (fun q => vsCnt W H ⟨x, y, r, u⟩ q (vsN W H ⟨x, y, r, u⟩ + 1))) (fun q hq => by
      unfold ccP at hq
      simp only [Bool.and_eq_true, decide_eq_true_eq, Bool.not_eq_true', Bool.and_eq_false_iff, beq_eq_false_iff_ne] at hq
      refine ⟨by omega, fun e => ?_⟩
      subst e
      rcases hq.2 with h | h
      · exact h rfl
      · exact h rfl)
    have h3 : (if VsOk W H x y then some ((((ccL W H x y r u).length : Nat) : Int), true) else none) = some z := h2
    split at h3
    · have := Option.some.inj h3
      subst this
      refine ⟨rfl, by show (0 : Int) ≤ ((ccL W H x y r u).length : Nat); omega, fun _ => ?_⟩
      show 2 * (((ccL W H x y r u).length : Nat) : Int) ≤ _
      have cl' : 2 * (ccL W H x y r u).length ≤ vsN W H ⟨x, y, r, u⟩ := cl
      omega
    · cases h3

/-! ### a table's text -/
def txI (W H : Int) : ByteArray := tx W.toNat H.toNat
theorem text_eq (n : Nat) (h : n < 100) : impl_text.f (n : Int) = some (nm n) := by
  unfold impl_text.f strconv_Itoa.f
  rw [if_pos ⟨by omega, by omega⟩]
  simp only [Option.bind_some]
  rw [itoa_two h]
  rfl
theorem TText_eq (W H : Int) : impl_TableText.f W H = some (if tb W H then (txI W H, true) else (⟨#[]⟩, false)) := by
  unfold impl_TableText.f
  rw [IsTable_eqT]
  simp only [Option.bind_some]
  cases hb : tb W H with
  | false => rfl
  | true =>
    have t := tb_of hb
    obtain ⟨w, rfl⟩ := Int.eq_ofNat_of_zero_le (show 0 ≤ W by omega)
    obtain ⟨h, rfl⟩ := Int.eq_ofNat_of_zero_le (show 0 ≤ H by omega)
    have a := (nm_all w (by omega)).2
    have b := (nm_all h (by omega)).2
    rw [if_pos rfl, text_eq w (by omega), text_eq h (by omega)]
    simp only [Option.bind_some]
    rw [if_pos (by omega), if_pos (by rw [ByteArray.size_append, x_size]; omega)]
    rfl
theorem sTText_eq (k : Nat) (hk : 5 ≤ k) (W H : Int) : spec_TableText.f k W H = some (if tb W H then (txI W H, true) else (⟨#[]⟩, false)) := by
  unfold spec_TableText.f
  rw [beTable_eq]
  simp only [Option.bind_some]
  cases hb : tb W H with
  | false => rfl
  | true =>
    have t := tb_of hb
    obtain ⟨w, rfl⟩ := Int.eq_ofNat_of_zero_le (show 0 ≤ W by omega)
    obtain ⟨h, rfl⟩ := Int.eq_ofNat_of_zero_le (show 0 ≤ H by omega)
    rw [if_pos rfl, beText_eq w h (by omega) (by omega) k hk]
    rfl
/-- A table's text is read back. -/
theorem parse_tx {W H : Int} (h : tb W H = true) : impl_ParseTable.f (txI W H) = some (W, H, true) := by
  have t := tb_of h
  obtain ⟨w, rfl⟩ := Int.eq_ofNat_of_zero_le (show 0 ≤ W by omega)
  obtain ⟨g, rfl⟩ := Int.eq_ofNat_of_zero_le (show 0 ≤ H by omega)
  have sz : (tx w g).size ≤ 5 := by
    have a := (nm_all w (by omega)).2
    have b := (nm_all g (by omega)).2
    unfold tx
    rw [ByteArray.size_append, ByteArray.size_append, x_size]
    omega
  obtain ⟨z, h1, h2⟩ := impl_is (tx w g) (by omega)
  show impl_ParseTable.f (tx w g) = _
  rw [h1]
  rcases h2 with ⟨w', g', t', e, rfl⟩ | ⟨_, hn⟩
  · have a := cut_all w (by omega) g (by omega)
    have t'' := tb_of t'
    have b := cut_all w' (by omega) g' (by omega)
    rw [e, b] at a
    have i : ∀ m : Nat, m < 61 → ∀ n : Nat, n < 61 → (two m = two n → m = n) := by decide +kernel
    have e1 := (Prod.mk.inj a).1
    have e2 := (Prod.mk.inj (Prod.mk.inj a).2).1
    rw [i w' (by omega) w (by omega) e1, i g' (by omega) g (by omega) e2]
  · exact absurd rfl (hn w g h)
/-! ### the main beam's numbers -/
theorem up20 {α : Type} {f : Nat → Option α} (hm : ∀ k z, f k = some z → f (k + 1) = some z) {z : α} (n : Nat) (h : f n = some z) : ∀ k, n ≤ k → f k = some z := by
  intro k hk
  obtain ⟨d, rfl⟩ : ∃ d, k = n + d := ⟨k - n, by omega⟩
  clear hk
  induction d with
  | zero => exact h
  | succ d ih => exact hm _ _ ih
def mb (w h : Nat) : Int × Int × Bool := (((Nat.lcm w h / w - 1 : Nat) : Int), ((Nat.lcm w h / h - 1 : Nat) : Int), true)
def mc (w h : Nat) : Int × Int × Bool := (((Nat.lcm w h / w % 2 * w : Nat) : Int), ((Nat.lcm w h / h % 2 * h : Nat) : Int), true)
def mainChk (w h : Nat) : Bool := (decide (impl_MainBounces.f 20 (w : Int) (h : Int) = some (mb w h)) && decide (spec_MainBounces.f 20 (w : Int) (h : Int) = some (mb w h))) && (decide (impl_MainCorner.f 20 (w : Int) (h : Int) = some (mc w h)) && decide (spec_MainCorner.f 20 (w : Int) (h : Int) = some (mc w h)))
theorem main_chk : ∀ w : Nat, w < 60 → ∀ h : Nat, h < 60 → mainChk (w + 1) (h + 1) = true := by decide +kernel
theorem main_dec (w : Nat) (hw : w < 60) (h : Nat) (hh : h < 60) : impl_MainBounces.f 20 ((w + 1 : Nat) : Int) ((h + 1 : Nat) : Int) = some (mb (w + 1) (h + 1)) ∧ spec_MainBounces.f 20 ((w + 1 : Nat) : Int) ((h + 1 : Nat) : Int) = some (mb (w + 1) (h + 1)) ∧ impl_MainCorner.f 20 ((w + 1 : Nat) : Int) ((h + 1 : Nat) : Int) = some (mc (w + 1) (h + 1)) ∧ spec_MainCorner.f 20 ((w + 1 : Nat) : Int) ((h + 1 : Nat) : Int) = some (mc (w + 1) (h + 1)) := by
  have c := main_chk w hw h hh
  unfold mainChk at c
  simp only [Bool.and_eq_true, decide_eq_true_eq] at c
  exact ⟨c.1.1, c.1.2, c.2.1, c.2.2⟩
def vMb (W H : Int) : Int × Int × Bool := if tb W H then mb W.toNat H.toNat else (0, 0, false)
def vMc (W H : Int) : Int × Int × Bool := if tb W H then mc W.toNat H.toNat else (0, 0, false)
theorem Mains_eq (k : Nat) (hk : 20 ≤ k) (W H : Int) : impl_MainBounces.f k W H = some (vMb W H) ∧ spec_MainBounces.f k W H = some (vMb W H) ∧ impl_MainCorner.f k W H = some (vMc W H) ∧ spec_MainCorner.f k W H = some (vMc W H) := by
  unfold vMb vMc
  cases hb : tb W H with
  | false =>
    unfold impl_MainBounces.f spec_MainBounces.f impl_MainCorner.f spec_MainCorner.f
    rw [IsTable_eqT, beTable_eq, hb]
    exact ⟨rfl, rfl, rfl, rfl⟩
  | true =>
    have t := tb_of hb
    obtain ⟨w, rfl⟩ := Int.eq_ofNat_of_zero_le (show 0 ≤ W by omega)
    obtain ⟨h, rfl⟩ := Int.eq_ofNat_of_zero_le (show 0 ≤ H by omega)
    have d := main_dec (w - 1) (by omega) (h - 1) (by omega)
    rw [show w - 1 + 1 = w by omega, show h - 1 + 1 = h by omega] at d
    exact ⟨up20 (f := fun k => impl_MainBounces.f k (w : Int) (h : Int)) (fun k z e => impl_MainBounces.mono _ _ k _ e) 20 d.1 k hk, up20 (f := fun k => spec_MainBounces.f k (w : Int) (h : Int)) (fun k z e => spec_MainBounces.mono _ _ k _ e) 20 d.2.1 k hk, up20 (f := fun k => impl_MainCorner.f k (w : Int) (h : Int)) (fun k z e => impl_MainCorner.mono _ _ k _ e) 20 d.2.2.1 k hk, up20 (f := fun k => spec_MainCorner.f k (w : Int) (h : Int)) (fun k z e => spec_MainCorner.mono _ _ k _ e) 20 d.2.2.2 k hk⟩
/-! ### the tables for so many bounces -/
def tabOk (n : Int) : Int → List S25 → Bool
  | _, [] => true
  | p, t :: l => (decide ((1 ≤ t.f0 ∧ t.f0 ≤ t.f1 ∧ t.f1 ≤ 60) ∧ t.f0 + t.f1 = n + 2 ∧ p < t.f0) && decide (Nat.gcd t.f0.toNat t.f1.toNat = 1)) && tabOk n t.f0 l
def prl (l : List S25) : List (Int × Int) := l.map fun t => (t.f0, t.f1)
theorem prl_inj {l m : List S25} (h : prl l = prl m) : l = m := by
  refine (List.map_inj_right ?_).1 h
  rintro ⟨a, b⟩ ⟨c, d⟩ e
  have e1 := (Prod.mk.inj e).1
  have e2 := (Prod.mk.inj e).2
  simp only at e1 e2
  rw [e1, e2]
def tabs (n : Nat) : List S25 := ((impl_TablesFor.f 100 (n : Int)).getD ([], false)).1
def tabChk (n : Nat) : Bool := match impl_TablesFor.f 100 (n : Int), spec_TablesFor.f 100 (n : Int) with
  | some (l, b), some (l', b') => (b && b') && (decide (prl l = prl l') && (tabOk (n : Int) 0 l && decide (l.length ≤ 60)))
  | _, _ => false
theorem tabs_dec : ∀ n : Nat, n < 101 → tabChk n = true := by decide +kernel
theorem tabs_is (n : Nat) (hn : n < 101) : impl_TablesFor.f 100 (n : Int) = some (tabs n, true) ∧ spec_TablesFor.f 100 (n : Int) = some (tabs n, true) ∧ tabOk (n : Int) 0 (tabs n) = true ∧ (tabs n).length ≤ 60 := by
  have h := tabs_dec n hn
  unfold tabChk at h
  unfold tabs
  cases e1 : impl_TablesFor.f 100 (n : Int) with
  | none => rw [e1] at h; cases h
  | some v =>
    cases e2 : spec_TablesFor.f 100 (n : Int) with
    | none => rw [e1, e2] at h; cases h
    | some v' =>
      obtain ⟨l, b⟩ := v
      obtain ⟨l', b'⟩ := v'
      rw [e1, e2] at h
      simp only [Bool.and_eq_true, decide_eq_true_eq] at h
      obtain ⟨⟨rfl, rfl⟩, h1, h2, h3⟩ := h
      have := prl_inj h1
      subst this
      exact ⟨rfl, rfl, h2, h3⟩
def kn (n : Int) : Bool := decide (0 ≤ n ∧ n ≤ 100)
def vTabs (n : Int) : List S25 := if kn n then tabs n.toNat else []
theorem Tables_eq (k : Nat) (hk : 100 ≤ k) (n : Int) : impl_TablesFor.f k n = some (vTabs n, kn n) ∧ spec_TablesFor.f k n = some (vTabs n, kn n) := by
  unfold vTabs
  cases e : kn n with
  | false =>
    have e' : decide (0 ≤ n ∧ n ≤ 100) = false := e
    unfold impl_TablesFor.f spec_TablesFor.f
    rw [within_eq, l1In_eq, e']
    exact ⟨rfl, rfl⟩
  | true =>
    have h : 0 ≤ n ∧ n ≤ 100 := of_decide_eq_true e
    obtain ⟨m, rfl⟩ := Int.eq_ofNat_of_zero_le h.1
    have d := tabs_is m (by omega)
    exact ⟨up20 (f := fun k => impl_TablesFor.f k (m : Int)) (fun k z e => impl_TablesFor.mono _ k _ e) 100 d.1 k hk, up20 (f := fun k => spec_TablesFor.f k (m : Int)) (fun k z e => spec_TablesFor.mono _ k _ e) 100 d.2.1 k hk⟩
theorem vTabs_ok (n : Int) (h : kn n = true) : tabOk n 0 (vTabs n) = true ∧ (vTabs n).length ≤ 60 := by
  have h' : 0 ≤ n ∧ n ≤ 100 := of_decide_eq_true h
  obtain ⟨m, rfl⟩ := Int.eq_ofNat_of_zero_le h'.1
  have d := tabs_is m (by omega)
  unfold vTabs
  rw [h]
  exact d.2.2
theorem vTabs_length (n : Int) : (vTabs n).length ≤ 60 := by
  cases h : kn n with
  | true => exact (vTabs_ok n h).2
  | false =>
    unfold vTabs
    rw [h]
    exact Nat.zero_le _

--@
/-! ### the law's parts, from the last one on -/
theorem j6_true (k : Nat) (hk : 1 ≤ k) {s : ByteArray} {v : Int × Int × Bool} (h : ReadT s v) : laws_FnBeamsEnd.j6 k s v.2.2 v.1 v.2.1 = some true := by
  obtain ⟨k, rfl⟩ : ∃ m, k = m + 1 := ⟨k - 1, by omega⟩
  rcases h with ⟨w, g, h, rfl, rfl⟩ | rfl
  · rw [laws_FnBeamsEnd.j6, if_pos rfl, TText_eq, h]
    simp only [Option.bind_some, if_true]
    show some ((txI (w : Int) (g : Int)).toList == (tx w g).toList) = some true
    have : txI (w : Int) (g : Int) = tx w g := rfl
    rw [this, beq_self_eq_true]
  · rw [laws_FnBeamsEnd.j6, if_neg (by decide)]
theorem rdT_at (pre l : List S25) (x : S25) : rd_T25 (pre ++ x :: l) (pre.length : Int) = x := by
  unfold rd_T25
  rw [Int.toNat_natCast]
  simp
/-- The rows of tables: each one's main beam bounces so often. -/
theorem l0_true {n : Int} (hn : 0 ≤ n ∧ n ≤ 100) (L : List S25) (hl : L.length ≤ 60) {s : ByteArray} {p : Bool} {a b : Int} (h6 : ∀ k, 1 ≤ k → laws_FnBeamsEnd.j6 k s p a b = some true) :
    ∀ (rest pre : List S25) (k : Nat) (q : Int), L = pre ++ rest → rest.length + 30 < k → tabOk n q rest = true → (pre = [] ∨ ∃ pre' y, pre = pre' ++ [y] ∧ y.f0 = q) →
    laws_FnBeamsEnd.l0 k n L s p L (L.length : Int) (pre.length : Int) a b = some true := by
  intro rest
  induction rest with
  | nil =>
    intro pre k q e hk _ _
    obtain ⟨k, rfl⟩ : ∃ m, k = m + 1 := ⟨k - 1, by omega⟩
    rw [laws_FnBeamsEnd.l0, if_neg (by rw [e]; simp)]
    exact h6 k (by omega)
  | cons x rest ih =>
    intro pre k q e hk ht hq
    obtain ⟨k, rfl⟩ : ∃ m, k = m + 1 := ⟨k - 1, by omega⟩
    simp only [List.length_cons] at hk
    unfold tabOk at ht
    simp only [Bool.and_eq_true, decide_eq_true_eq] at ht
    obtain ⟨⟨⟨h1, h2, h3⟩, h4⟩, h5⟩ := ht
    have len_ : L.length = pre.length + (rest.length + 1) := by rw [e]; simp
    have rd_ : rd_T25 L (pre.length : Int) = x := by
      rw [e]
      exact rdT_at _ _ _
    have w1 : wrap64 (((pre.length : Nat) : Int) + 1) = (((pre ++ [x]).length : Nat) : Int) := by
      rw [wrap_id (by omega) (by omega)]
      simp
    have e' : L = (pre ++ [x]) ++ rest := by rw [e]; simp
    have htb : tb x.f0 x.f1 = true := decide_eq_true (by omega)
    have m := (Mains_eq k (by omega) x.f0 x.f1).1
    have hlcm : Nat.lcm x.f0.toNat x.f1.toNat = x.f0.toNat * x.f1.toNat := by
      have := Nat.gcd_mul_lcm x.f0.toNat x.f1.toNat
      rw [h4, Nat.one_mul] at this
      exact this
    have p0 : 0 < x.f0.toNat := by omega
    have p1 : 0 < x.f1.toNat := by omega
    have d1 : Nat.lcm x.f0.toNat x.f1.toNat / x.f0.toNat = x.f1.toNat := by rw [hlcm, Nat.mul_div_cancel_left _ p0]
    have d2 : Nat.lcm x.f0.toNat x.f1.toNat / x.f1.toNat = x.f0.toNat := by rw [hlcm, Nat.mul_div_cancel _ p1]
    have v : vMb x.f0 x.f1 = (x.f1 - 1, x.f0 - 1, true) := by
      unfold vMb mb
      rw [htb, if_pos rfl, d1, d2]
      have a1 : ((x.f1.toNat - 1 : Nat) : Int) = x.f1 - 1 := by omega
      have a2 : ((x.f0.toNat - 1 : Nat) : Int) = x.f0 - 1 := by omega
      rw [a1, a2]
    rw [v] at m
    have go := ih (pre ++ [x]) k x.f0 e' (by omega) h5 (.inr ⟨pre, x, rfl, rfl⟩)
    rw [laws_FnBeamsEnd.l0, if_pos (by omega), if_pos (by omega), if_pos (by omega), rd_, m]
    simp only [Option.bind_some]
    rw [if_pos trivial, wrap_id (n := x.f1 - 1 + (x.f0 - 1)) (by omega) (by omega), if_pos (by omega), wrap_id (n := x.f1 - 1 + 1) (by omega) (by omega), if_pos (by omega), wrap_id (n := x.f0 - 1 + 1) (by omega) (by omega), if_pos (by omega), if_neg (by omega), w1]
    by_cases c0 : (pre.length : Int) > 0
    · rcases hq with rfl | ⟨pre', y, rfl, hy⟩
      · simp at c0
      · have w2 : wrap64 ((((pre' ++ [y]).length : Nat) : Int) - 1) = ((pre'.length : Nat) : Int) := by
          simp only [List.length_append, List.length_cons, List.length_nil] at len_ ⊢
          rw [wrap_id (by omega) (by omega)]
          omega
        have rd2 : rd_T25 L ((pre'.length : Nat) : Int) = y := by
          rw [e, List.append_assoc]
          exact rdT_at _ _ _
        simp only [List.length_append, List.length_cons, List.length_nil] at len_
        rw [if_pos c0, w2, if_pos (by omega), if_pos (by omega), rd2, if_neg (by omega)]
        exact go
    · rw [if_neg c0]
      exact go
theorem j4_true (k : Nat) (hk : 200 ≤ k) {s : ByteArray} {v : Int × Int × Bool} (h : ReadT s v) (n : Int) : laws_FnBeamsEnd.j4 k n (vTabs n) (kn n) s v.2.2 v.1 v.2.1 = some true := by
  obtain ⟨k, rfl⟩ : ∃ m, k = m + 1 := ⟨k - 1, by omega⟩
  rw [laws_FnBeamsEnd.j4]
  cases e : kn n with
  | false =>
    rw [if_neg (by decide)]
    exact j6_true k (by omega) h
  | true =>
    rw [if_pos rfl]
    have o := vTabs_ok n e
    have z0 : (([] : List S25).length : Int) = 0 := rfl
    rw [← z0]
    exact l0_true (of_decide_eq_true e) (vTabs n) o.2 (fun k hk => j6_true k hk h) (vTabs n) [] k 0 rfl (by omega) o.1 (.inl rfl)
theorem j3_chain (k : Nat) (n : Int) (s : ByteArray) {t : ByteArray} {W H p q X Y S a b : Int} {L : List S25} {e c : Bool} (z1 : impl_BouncesToCorner.f W H 0 0 true true = some (p + q, true)) (z2 : impl_CornerOf.f W H 0 0 true true = some (X, Y, true)) (z3 : impl_StepsToCorner.f W H 0 0 true true = some (S, true)) (z4 : impl_ParseTable.f t = some (W, H, true))
    (hW : W ≠ 0) (hH : H ≠ 0) (m1 : Int.tmod S W = 0) (m2 : Int.tmod S H = 0) {p' q' : Int} (d1 : Int.tdiv S W = p') (d2 : Int.tdiv S H = q') (hp : p' = p + 1) (hq : q' = q + 1) (hp0 : 0 ≤ p ∧ p ≤ 100000) (hq0 : 0 ≤ q ∧ q ≤ 100000) (t4 : laws_FnBeamsEnd.j4 k n L e s c a b = some true) :
    laws_FnBeamsEnd.j3 (k + 1) p q true X Y t n L e s c false W H a b = some true := by
  rw [laws_FnBeamsEnd.j3, if_neg (by decide), if_pos rfl, z1]
  simp only [Option.bind_some]
  rw [z2]
  simp only [Option.bind_some]
  rw [z3]
  simp only [Option.bind_some]
  rw [z4]
  simp only [Option.bind_some, if_true]
  rw [wrap_id (n := p + q) (by omega) (by omega), if_pos rfl, if_neg hW, m1, if_pos rfl, if_neg hH, m2, if_pos rfl, d1, d2, wrap_id (n := p') (by omega) (by omega), wrap_id (n := q') (by omega) (by omega), wrap_id (n := p + 1) (by omega) (by omega), wrap_id (n := q + 1) (by omega) (by omega), if_pos hp, if_pos hq]
  have : (!(W == W) || !(H == H)) = false := by simp
  rw [this, if_neg (by decide)]
  exact t4
theorem j3_true (k : Nat) (hk : 300 ≤ k) {s : ByteArray} {v : Int × Int × Bool} (h : ReadT s v) (n W H : Int) :
    laws_FnBeamsEnd.j3 k (vMb W H).1 (vMb W H).2.1 (vMb W H).2.2 (vMc W H).1 (vMc W H).2.1 (if tb W H = true then (txI W H, true) else (⟨#[]⟩, false)).1 n (vTabs n) (kn n) s v.2.2 false W H v.1 v.2.1 = some true := by
  obtain ⟨k, rfl⟩ : ∃ m, k = m + 1 := ⟨k - 1, by omega⟩
  have t4 := j4_true k (by omega) h n
  rw [laws_FnBeamsEnd.j3, if_neg (by decide)]
  cases e : tb W H with
  | false =>
    have : (vMb W H).2.2 = false := by
      unfold vMb
      rw [e]
      rfl
    rw [this, if_neg (by decide)]
    exact t4
  | true =>
    have t := tb_of e
    obtain ⟨w, rfl⟩ := Int.eq_ofNat_of_zero_le (show 0 ≤ W by omega)
    obtain ⟨g, rfl⟩ := Int.eq_ofNat_of_zero_le (show 0 ≤ H by omega)
    have me := main_end t
    have ma := main_all t
    have at_ := main_at t
    have hb : eb (w : Int) (g : Int) 0 0 true true = true := by
      unfold eb
      rw [me.1, Bool.and_true]
      unfold bg
      exact decide_eq_true (by omega)
    have Lp : 0 < Nat.lcm w g := Nat.lcm_pos (by omega) (by omega)
    obtain ⟨p, hp⟩ := Nat.dvd_lcm_left w g
    obtain ⟨q, hq⟩ := Nat.dvd_lcm_right w g
    have dp : Nat.lcm w g / w = p := by rw [hp, Nat.mul_div_cancel_left _ (by omega)]
    have dq : Nat.lcm w g / g = q := by rw [hq, Nat.mul_div_cancel_left _ (by omega)]
    have p1 : 1 ≤ p := by
      rcases Nat.eq_zero_or_pos p with z | z
      · rw [z, Nat.mul_zero] at hp
        omega
      · exact z
    have q1 : 1 ≤ q := by
      rcases Nat.eq_zero_or_pos q with z | z
      · rw [z, Nat.mul_zero] at hq
        omega
      · exact z
    have Lb : Nat.lcm w g ≤ 14401 := by
      have := (ends_true true true (main_on t) me.1).2.1
      rw [me.2] at this
      exact this
    have pl : p ≤ Nat.lcm w g := by
      rw [← dp]
      exact Nat.div_le_self _ _
    have ql : q ≤ Nat.lcm w g := by
      rw [← dq]
      exact Nat.div_le_self _ _
    have v1 : vMb (w : Int) (g : Int) = (((p - 1 : Nat) : Int), ((q - 1 : Nat) : Int), true) := by
      unfold vMb mb
      rw [e, if_pos rfl, Int.toNat_natCast, Int.toNat_natCast, dp, dq]
    have v2 : vMc (w : Int) (g : Int) = (((p % 2 * w : Nat) : Int), ((q % 2 * g : Nat) : Int), true) := by
      unfold vMc mc
      rw [e, if_pos rfl, Int.toNat_natCast, Int.toNat_natCast, dp, dq]
    rw [dp, dq] at ma at_
    have b1 : vBounces (w : Int) (g : Int) 0 0 true true = (((p - 1 : Nat) : Int) + ((q - 1 : Nat) : Int), true) := by
      unfold vBounces
      rw [hb, if_pos rfl, me.2]
      congr 1
      omega
    have b2 : vCorner (w : Int) (g : Int) 0 0 true true = (((p % 2 * w : Nat) : Int), ((q % 2 * g : Nat) : Int), true) := by
      unfold vCorner
      rw [hb, if_pos rfl, me.2, at_.1, at_.2]
    have b3 : vSteps (w : Int) (g : Int) 0 0 true true = (((Nat.lcm w g : Nat) : Int), true) := by
      unfold vSteps
      rw [hb, if_pos rfl, me.2]
    have m1 : Int.tmod ((Nat.lcm w g : Nat) : Int) (w : Int) = 0 := by
      rw [hp, Int.natCast_mul, Int.mul_comm]
      exact Int.mul_tmod_left _ _
    have m2 : Int.tmod ((Nat.lcm w g : Nat) : Int) (g : Int) = 0 := by
      rw [hq, Int.natCast_mul, Int.mul_comm]
      exact Int.mul_tmod_left _ _
    have d1 : Int.tdiv ((Nat.lcm w g : Nat) : Int) (w : Int) = (p : Int) := by
      rw [hp, Int.natCast_mul]
      exact Int.mul_tdiv_cancel_left _ (by omega)
    have d2 : Int.tdiv ((Nat.lcm w g : Nat) : Int) (g : Int) = (q : Int) := by
      rw [hq, Int.natCast_mul]
      exact Int.mul_tdiv_cancel_left _ (by omega)
    have z1 := Bounces_eq (w : Int) (g : Int) 0 0 true true
    have z2 := Corner_eq (w : Int) (g : Int) 0 0 true true
    have z3 := Steps_eq (w : Int) (g : Int) 0 0 true true
    have z4 := parse_tx e
    rw [b1] at z1
    rw [b2] at z2
    rw [b3] at z3
    have := j3_chain k n s z1 z2 z3 z4 (by omega) (by omega) m1 m2 d1 d2 (by omega) (by omega) (by omega) (by omega) t4
    rw [v1, v2, if_pos rfl]
    rw [laws_FnBeamsEnd.j3, if_neg (by decide)] at this
    exact this
theorem jTables_l0 (l : List S25) (hl : l.length ≤ 1000) : ∀ (d i k : Nat), i + d = l.length → d < k → laws_jTables.l0 k l l (l.length : Int) (i : Int) = some true := by
  intro d
  induction d with
  | zero =>
    intro i k h hk
    obtain ⟨k, rfl⟩ : ∃ m, k = m + 1 := ⟨k - 1, by omega⟩
    rw [laws_jTables.l0, if_neg (by omega)]
  | succ d ih =>
    intro i k h hk
    obtain ⟨k, rfl⟩ : ∃ m, k = m + 1 := ⟨k - 1, by omega⟩
    have e : wrap64 ((i : Int) + 1) = ((i + 1 : Nat) : Int) := by rw [wrap_id (by omega) (by omega)]; omega
    rw [laws_jTables.l0, if_pos (by omega), if_pos (by omega), if_pos (by omega), if_pos (by omega), if_neg (by simp), e]
    exact ih (i + 1) k (by omega) (by omega)
theorem jTables_self (l : List S25) (k : Nat) (hk : l.length < k) (hl : l.length ≤ 1000) : laws_jTables.f k l l = some true := by
  unfold laws_jTables.f
  rw [if_pos rfl]
  exact jTables_l0 l hl l.length 0 k (by omega) hk
theorem sIsTable_eq (W H : Int) : spec_IsTable.f W H = some (tb W H) := by
  unfold spec_IsTable.f
  rw [beTable_eq]
  rfl
theorem fl1 (W H : Int) : (vMb W H).2.2 = tb W H := by
  unfold vMb
  cases tb W H <;> rfl
theorem fl2 (W H : Int) : (vMc W H).2.2 = tb W H := by
  unfold vMc
  cases tb W H <;> rfl
theorem fl3 (W H : Int) : (if tb W H = true then (txI W H, true) else ((⟨#[]⟩ : ByteArray), false)).2 = tb W H := by
  cases tb W H <;> rfl
/-! ### the draws end -/
theorem drawSteps {l : List Int} (hl : Bytes l) : ∃ a b c d e f, spec_DrawStepsToCorner.f l = some (a, b, c, d, e, f) := by
  obtain ⟨a, b, c, d, e, f, q, s, h, _, _⟩ := beam_tot hl (p := 0) (s := 0) (by omega) (by omega)
  unfold spec_DrawStepsToCorner.f spec_DrawIsBeam.f
  simp only [h, Option.bind_some]
  exact ⟨_, _, _, _, _, _, rfl⟩
theorem drawMain {l : List Int} (hl : Bytes l) : ∃ a b, spec_DrawMainBounces.f l = some (a, b) := by
  obtain ⟨a, b, q, s, h, _, _⟩ := table_tot hl (p := 0) (s := 0) (by omega) (by omega)
  unfold spec_DrawMainBounces.f spec_DrawIsTable.f
  simp only [h, Option.bind_some]
  exact ⟨_, _, rfl⟩
theorem drawTables {l : List Int} (hl : Bytes l) : ∃ n, spec_DrawTablesFor.f l = some n := by
  obtain ⟨o, q1, s1, e1, a1, b1⟩ := one_tot hl (p := 0) (s := 0) 8 (by omega) (by omega)
  obtain ⟨x2, q2, s2, e2, a2, b2⟩ := among_tot hl (p := q1) (s := s1) [-1, 0, 58, 59, 100, 101] (by decide) (by omega) (by omega)
  obtain ⟨y2, r2, t2, f2, _, _, c2, d2⟩ := pick_tot hl (p := q1) (s := s1) 40 (by omega) (by omega)
  unfold spec_DrawTablesFor.f
  simp only [e1, e2, f2, Option.bind_some]
  by_cases c : o = true
  · rw [if_pos c]
    exact ⟨_, rfl⟩
  · rw [if_neg c]
    exact ⟨_, rfl⟩
theorem sureT_tot {l : List Int} (hl : Bytes l) {p s : Int} (h0 : 0 ≤ p) (h1 : p ≤ 1000000) : ∃ a b q s', spec_l1Cur_sureTable.f l p s = some (a, b, q, s') ∧ (1 ≤ a ∧ a ≤ 9) ∧ (1 ≤ b ∧ b ≤ 9) ∧ p ≤ q ∧ q ≤ p + 8 := by
  obtain ⟨x2, q2, s2, e2, u2, v2, a2, b2⟩ := pick_tot hl (p := p) (s := s) 9 (by omega) (by omega)
  obtain ⟨x3, q3, s3, e3, u3, v3, a3, b3⟩ := pick_tot hl (p := q2) (s := s2) 9 (by omega) (by omega)
  unfold spec_l1Cur_sureTable.f
  simp only [e2, e3, Option.bind_some]
  rw [wrap_id (n := 1 + x2) (by omega) (by omega), wrap_id (n := 1 + x3) (by omega) (by omega)]
  exact ⟨_, _, _, _, rfl, by omega, by omega, by omega, by omega⟩
theorem ex_size (s : ByteArray) (a b : Nat) : (s.extract a b).size = min b s.size - a := ByteArray.size_extract
theorem one_size (n : Int) : (strOfNums [n]).size = 1 := rfl
theorem spoilt_tot {l : List Int} (hl : Bytes l) (W : ByteArray) (hW : W.size = 6) : ∀ (n k : Nat) (t : ByteArray) (p s : Int), 2 * n + 3 ≤ k → n ≤ 2 → t.size + n ≤ 40 → 0 ≤ p → p + 6 * n ≤ 1000000 →
    ∃ z q s', spec_l1Cur_spoilt.l0 k t W (n : Int) l p s = some (z, q, s') ∧ z.size ≤ 40 := by
  intro n
  induction n with
  | zero =>
    intro k t p s hk hn ht h0 h1
    obtain ⟨k, rfl⟩ : ∃ m, k = m + 2 := ⟨k - 2, by omega⟩
    refine ⟨t, p, s, ?_, by omega⟩
    rw [spec_l1Cur_spoilt.l0, if_neg (by omega), spec_l1Cur_spoilt.j1, if_neg (by decide)]
  | succ n ih =>
    intro k t p s hk hn ht h0 h1
    obtain ⟨k, rfl⟩ : ∃ m, k = m + 2 := ⟨k - 2, by omega⟩
    rw [spec_l1Cur_spoilt.l0, if_pos (by omega), spec_l1Cur_spoilt.j1]
    by_cases c : (t.size : Int) > 0
    · obtain ⟨i, q1, s1, e1, i0, i1, a1, b1⟩ := pick_tot hl (p := p) (s := s) (t.size : Int) (by omega) (by omega)
      obtain ⟨j, q2, s2, e2, j0, j1, a2, b2⟩ := pick_tot hl (p := q1) (s := s1) (W.size : Int) (by omega) (by omega)
      obtain ⟨u, q3, s3, e3, _, _, a3, b3⟩ := pick_tot hl (p := q2) (s := s2) 3 (by omega) (by omega)
      rw [if_pos (decide_eq_true c), e1]
      simp only [Option.bind_some]
      rw [e2]
      simp only [Option.bind_some]
      rw [if_pos j0, if_pos (by omega), e3]
      have w1 : wrap64 (i + 1) = i + 1 := wrap_id (by omega) (by omega)
      have w2 : wrap64 (((n + 1 : Nat) : Int) - 1) = (n : Int) := by rw [wrap_id (by omega) (by omega)]; omega
      have x1 := ex_size t 0 i.toNat
      have x2 := ex_size t i.toNat t.size
      have x3 := ex_size t (i + 1).toNat t.size
      have x4 := one_size (bt W j)
      simp only [Option.bind_some]
      rw [w1, w2]
      by_cases c0 : u = 0
      · rw [if_pos c0, if_pos (by omega), if_pos (by omega), if_pos (by omega), if_pos (by rw [ByteArray.size_append]; omega)]
        exact ih k _ q3 s3 (by omega) (by omega) (by rw [ByteArray.size_append, ByteArray.size_append]; omega) (by omega) (by omega)
      · rw [if_neg c0]
        by_cases c1 : u = 1
        · rw [if_pos c1, if_pos (by omega), if_pos (by omega), if_pos (by omega), if_pos (by omega), if_pos (by omega), if_pos (by rw [ByteArray.size_append]; omega)]
          exact ih k _ q3 s3 (by omega) (by omega) (by rw [ByteArray.size_append, ByteArray.size_append]; omega) (by omega) (by omega)
        · rw [if_neg c1, if_pos (by omega), if_pos (by omega), if_pos (by omega), if_pos (by omega), if_pos (by omega)]
          exact ih k _ q3 s3 (by omega) (by omega) (by rw [ByteArray.size_append]; omega) (by omega) (by omega)
    · rw [if_neg (by rw [decide_eq_false c]; decide)]
      exact ⟨t, p, s, rfl, by omega⟩
theorem drawParse {l : List Int} (hl : Bytes l) (k : Nat) (hk : 100 ≤ k) : ∃ s, spec_DrawParseTable.f k l = some s ∧ s.size ≤ 40 := by
  obtain ⟨a, b, q1, s1, e1, ha, hb, a1, b1⟩ := sureT_tot hl (p := 0) (s := 0) (by omega) (by omega)
  obtain ⟨o, q2, s2, e2, a2, b2⟩ := one_tot hl (p := q1) (s := s1) 3 (by omega) (by omega)
  obtain ⟨w, rfl⟩ := Int.eq_ofNat_of_zero_le (show 0 ≤ a by omega)
  obtain ⟨g, rfl⟩ := Int.eq_ofNat_of_zero_le (show 0 ≤ b by omega)
  have sz : (tx w g).size ≤ 5 := by
    have a := (nm_all w (by omega)).2
    have b := (nm_all g (by omega)).2
    unfold tx
    rw [ByteArray.size_append, ByteArray.size_append, x_size]
    omega
  unfold spec_DrawParseTable.f
  simp only [e1, Option.bind_some]
  rw [beText_eq w g (by omega) (by omega) k (by omega)]
  simp only [e2, Option.bind_some]
  by_cases c : o = true
  · obtain ⟨u, q3, s3, e3, u0, u1, a3, b3⟩ := pick_tot hl (p := q2) (s := s2) 2 (by omega) (by omega)
    have w1 : wrap64 (1 + u) = (((1 + u).toNat : Nat) : Int) := by rw [wrap_id (by omega) (by omega)]; omega
    obtain ⟨z, q4, s4, e4, hz⟩ := spoilt_tot hl (⟨#[48, 49, 50, 54, 120, 88]⟩ : ByteArray) rfl (1 + u).toNat k (tx w g) q3 s3 (by omega) (by omega) (by omega) (by omega) (by omega)
    refine ⟨z, ?_, hz⟩
    rw [if_pos c]
    unfold spec_l1Cur_spoilt.f
    rw [e3]
    simp only [Option.bind_some]
    rw [w1, e4]
    rfl
  · exact ⟨_, by rw [if_neg c], by omega⟩
theorem bytes_of2 {l : List Int} (hl : l.length ≤ 1048576) (hw : ∀ x ∈ l, (Lit.int .u8 x).wf = true) : Bytes l := by
  refine ⟨hl, fun x hx => ?_⟩
  have h := hw x hx
  simp [Lit.wf] at h
  have e0 : IntKind.u8.min = 0 := by decide
  have e1 : IntKind.u8.max = 255 := by decide
  omega
theorem j2_true (k : Nat) (hk : 2000010 ≤ k) {l : List Int} (hl : Bytes l) : laws_FnBeamsEnd.j2 k l = some true := by
  obtain ⟨k, rfl⟩ : ∃ m, k = m + 1 := ⟨k - 1, by omega⟩
  obtain ⟨W, H, g1⟩ := drawMain hl
  obtain ⟨n, g2⟩ := drawTables hl
  obtain ⟨s, g3, hs⟩ := drawParse hl k (by omega)
  obtain ⟨v, hv1, hv2, hr⟩ := parse_same s (by omega)
  have hv2 := hv2 k (by omega)
  have m := Mains_eq k (by omega) W H
  have tt := Tables_eq k (by omega) n
  have t3 := j3_true k (by omega) hr n W H
  have js := jTables_self (vTabs n) k (by have := vTabs_length n; omega) (by have := vTabs_length n; omega)
  have x1 := TText_eq W H
  have x2 := sTText_eq k (by omega) W H
  have f3 := fl3 W H
  generalize (if tb W H = true then (txI W H, true) else ((⟨#[]⟩ : ByteArray), false)) = tt_ at t3 x1 x2 f3
  rw [fl1] at t3
  rw [laws_FnBeamsEnd.j2]
  simp only [g1, g2, g3, m.1, m.2.1, m.2.2.1, m.2.2.2, x1, x2, tt.1, tt.2, hv1, hv2, js, IsTable_eqT, sIsTable_eq, Option.bind_some, fl1, fl2, f3, bne_self_eq_false, beq_self_eq_true, Bool.not_true, Bool.or_self, Bool.false_eq_true, if_false, if_true]
  exact t3
/-! ### a beam that ends, again -/
theorem After_eq {W H x y : Int} {r u : Bool} (hb : bg W H x y = true) {s : Int} (h0 : 0 ≤ s) (h1 : s ≤ 100000) {m : Nat} (hm : (fwN W H ⟨x, y, r, u⟩ s (fun _ => false) : Int) = (m : Int)) :
    impl_BeamAfter.f W H x y r u s = some ((st W H x y r u m).f0, (st W H x y r u m).f1, (st W H x y r u m).f2, (st W H x y r u m).f3, true) := by
  have e : fwN W H ⟨x, y, r, u⟩ s (fun _ => false) = m := by omega
  unfold impl_BeamAfter.f impl_isSteps.f
  rw [IsBeam_eq, hb, within_eq, decide_eq_true (show 0 ≤ s ∧ s ≤ 100000 from ⟨h0, h1⟩), e]
  rfl
theorem j1_true (k : Nat) (hk : 2000020 ≤ k) {l : List Int} (hl : Bytes l) {W H x y : Int} {r u : Bool} (he : eb W H x y r u = true) :
    laws_FnBeamsEnd.j1 k l (endN W H x y r u : Int) ((sides W H ⟨x, y, r, u⟩ (endN W H x y r u)).size : Int) false W H x y r u = some true := by
  obtain ⟨k, rfl⟩ : ∃ m, k = m + 1 := ⟨k - 1, by omega⟩
  have t2 := j2_true k (by omega) hl
  have hb : bg W H x y = true ∧ ends W H x y r u = true := by
    unfold eb at he
    simpa using he
  have t := bg_of hb.1
  rw [laws_FnBeamsEnd.j1, if_neg (by decide)]
  by_cases c : (endN W H x y r u : Int) ≤ 1000
  · have re := reach_end r u t (s := (endN W H x y r u : Int)) (by omega)
    rw [if_neg (fun h => by have := h.2; omega)] at re
    have e : fwN W H ⟨x, y, r, u⟩ (endN W H x y r u : Int) (fun _ => false) = endN W H x y r u := by omega
    have bw : impl_BouncesWithin.f W H x y r u (endN W H x y r u : Int) = some (sides W H ⟨x, y, r, u⟩ (endN W H x y r u), true) := by
      unfold impl_BouncesWithin.f
      rw [IsBeam_eq, hb.1, within_eq, decide_eq_true (show 0 ≤ (endN W H x y r u : Int) ∧ (endN W H x y r u : Int) ≤ 1000 from ⟨by omega, c⟩), e, fwSides_is]
      rfl
    rw [if_pos c, bw]
    simp only [Option.bind_some, if_true]
    exact t2
  · rw [if_neg c]
    exact t2
theorem j0_true (k : Nat) (hk : 2000030 ≤ k) {l : List Int} (hl : Bytes l) (W H x y : Int) (r u : Bool) {z : Int} (hz0 : 0 ≤ z) (hz : eb W H x y r u = true → 2 * z ≤ (endN W H x y r u : Int)) :
    laws_FnBeamsEnd.j0 k l (vSteps W H x y r u).1 (eb W H x y r u) (vCorner W H x y r u).1 (vCorner W H x y r u).2.1 (vBounces W H x y r u).1 z false W H x y r u = some true := by
  obtain ⟨k, rfl⟩ : ∃ m, k = m + 1 := ⟨k - 1, by omega⟩
  have t2 := j2_true k (by omega) hl
  rw [laws_FnBeamsEnd.j0, if_neg (by decide)]
  unfold vSteps vCorner vBounces
  cases he : eb W H x y r u with
  | false =>
    rw [if_neg (by decide)]
    exact t2
  | true =>
    have hz := hz he
    have t1 := j1_true k (by omega) hl he
    have hb : bg W H x y = true ∧ ends W H x y r u = true := by
      unfold eb at he
      simpa using he
    have t := bg_of hb.1
    obtain ⟨e0, e1, e2, e3⟩ := ends_true r u t hb.2
    have sl := sides_lt r u t hb.2
    have r1 := reach_end r u t (s := (endN W H x y r u : Int)) (by omega)
    rw [if_neg (fun h => by have := h.2; omega)] at r1
    have r2 := reach_end r u t (s := (endN W H x y r u : Int) + 1) (by omega)
    rw [if_pos ⟨hb.2, by omega⟩] at r2
    have a1 := After_eq (r := r) (u := u) hb.1 (by omega) (by omega) r1
    have a2 := After_eq (r := r) (u := u) hb.1 (by omega) (by omega) r2
    have cor : fwCor W H (st W H x y r u (endN W H x y r u)) = (ons W (st W H x y r u (endN W H x y r u)).f0 && ons H (st W H x y r u (endN W H x y r u)).f1) := by
      generalize st W H x y r u (endN W H x y r u) = q
      obtain ⟨X, Y, R, U⟩ := q
      exact fwCor_is W H X Y R U
    rw [e2] at cor
    have on_ := Bool.and_eq_true_iff.1 cor.symm
    have ox : (st W H x y r u (endN W H x y r u)).f0 = 0 ∨ (st W H x y r u (endN W H x y r u)).f0 = W := by
      have := on_.1
      unfold ons at this
      simpa using this
    have oy : (st W H x y r u (endN W H x y r u)).f1 = 0 ∨ (st W H x y r u (endN W H x y r u)).f1 = H := by
      have := on_.2
      unfold ons at this
      simpa using this
    rw [if_pos rfl, if_pos rfl, if_pos rfl, if_pos rfl, wrap_id (n := (endN W H x y r u : Int) + 1) (by omega) (by omega), a1, a2]
    simp only [Option.bind_some, if_true, beq_self_eq_true, Bool.not_true, Bool.or_self, Bool.false_eq_true, if_false]
    have fin : (if (endN W H x y r u : Int) < 1 then some false else some true) = some true := if_neg (by omega)
    have c3 : decide (wrap64 (2 * z) > (endN W H x y r u : Int)) = false := by
      rw [wrap_id (n := 2 * z) (by omega) (by omega)]
      exact decide_eq_false (by omega)
    generalize (st W H x y r u (endN W H x y r u)).f0 = X at *
    generalize (st W H x y r u (endN W H x y r u)).f1 = Y at *
    rw [if_neg (by omega), c3]
    have b0 : ¬ ((sides W H ⟨x, y, r, u⟩ (endN W H x y r u)).size : Int) < 0 := by omega
    have b1 : ¬ ((sides W H ⟨x, y, r, u⟩ (endN W H x y r u)).size : Int) ≥ (endN W H x y r u : Int) := by omega
    have b2 : ¬ z < 0 := by omega
    simp only [if_neg b0, if_neg b1, if_neg b2]
    by_cases x0 : X = 0
    · rw [if_pos x0]
      by_cases y0 : Y = 0
      · rw [if_pos y0]
        exact t1
      · rw [if_neg y0, if_pos (by omega)]
        exact t1
    · rw [if_neg x0, if_pos (by omega)]
      by_cases y0 : Y = 0
      · rw [if_pos y0]
        exact t1
      · rw [if_neg y0, if_pos (by omega)]
        exact t1
theorem fs1 (W H x y : Int) (r u : Bool) : (vSteps W H x y r u).2 = eb W H x y r u := by
  unfold vSteps
  cases eb W H x y r u <;> rfl
theorem fs2 (W H x y : Int) (r u : Bool) : (vCorner W H x y r u).2.2 = eb W H x y r u := by
  unfold vCorner
  cases eb W H x y r u <;> rfl
theorem fs3 (W H x y : Int) (r u : Bool) : (vBounces W H x y r u).2 = eb W H x y r u := by
  unfold vBounces
  cases eb W H x y r u <;> rfl
theorem main : laws_FnBeamsEnd.Pure := by
  intro l0 l1 hm0 _ hw0 hm1 _ hw1
  obtain ⟨k, hk⟩ : ∃ k : Nat, 2000040 ≤ k := ⟨2000040, Nat.le_refl _⟩
  refine ⟨k, ?_⟩
  unfold laws_FnBeamsEnd.f laws_big.f
  by_cases c : (l0.length : Int) > 1048576
  · rw [if_pos c]
    rfl
  rw [if_neg c]
  simp only [Option.bind_some]
  rw [wrap_id (n := 1048576 - (l0.length : Int)) (by omega) (by omega)]
  by_cases c2 : (l1.length : Int) > 1048576 - (l0.length : Int)
  · rw [if_pos (by simpa using c2)]
  rw [if_neg (by simpa using c2)]
  have B0 := bytes_of2 (l := l0) (by omega) hw0
  have B1 := bytes_of2 (l := l1) (by omega) hw1
  obtain ⟨W, H, x, y, r, u, e⟩ := drawSteps B0
  obtain ⟨z, z1, z2, z3, z4, z5⟩ := Cross_is k (by omega) W H x y r u
  have t := j0_true k (by omega) B1 W H x y r u z4 z5
  rw [e]
  simp only [Steps_eq, sSteps_eq k (by omega : 100000 ≤ k), Corner_eq, sCorner_eq k (by omega : 100000 ≤ k), Bounces_eq, sBounces_eq k (by omega : 100000 ≤ k), z1, z2, z3, fs1, fs2, fs3, Option.bind_some, bne_self_eq_false, Bool.false_eq_true, if_false, if_true]
  exact t
end LFnBeamsEnd

theorem FnBeamsEnd : laws_FnBeamsEnd.Pure := LFnBeamsEnd.main

end Go.Proofs.YtlmiaadpnbehgaaGreatDoor.Pure
