/- For every corridor, place, seer and number the program's FarthestOf and the reference's give the same; no condition beyond the numbers' kinds. -/
import Derived.Test.YtgepcafeldhncaaPFnExactFarthestOfx3
namespace Go.Proofs.Ytgepcafeldhncaa.Pure
open Go.RowKit Go.Proofs.Ytgepcafeldhncaa.PFnExactFarthestOf Go.Proofs.YtgepcafeldhncaaW.PrintWords Go.Proofs.YtgepcafeldhncaaW.PrintLast
set_option linter.unusedVariables false
set_option linter.unusedSimpArgs false

namespace LFnExactFarthestOf
theorem within_eq (a b c : Int) : impl_within.f a b c = some (decide (b ≤ a ∧ a ≤ c)) := by
  by_cases h1 : b ≤ a <;> by_cases h2 : a ≤ c <;> simp [impl_within.f, h1, h2]

theorem l1In_eq (a b c : Int) : spec_l1In.f a b c = some (decide (b ≤ a ∧ a ≤ c)) := by
  by_cases h1 : b ≤ a <;> by_cases h2 : a ≤ c <;> simp [spec_l1In.f, h1, h2]

theorem wrap_id {n : Int} (h0 : -9223372036854775808 ≤ n) (h1 : n ≤ 9223372036854775807) : wrap64 n = n := by
  unfold wrap64
  omega

def cg (w a : Int) : Bool := decide ((1 ≤ w ∧ w ≤ 500) ∧ 0 ≤ a ∧ a ≤ w)
theorem miGood_eq (w a : Int) : spec_miGood.f w a = some (cg w a) := by
  unfold spec_miGood.f
  simp only [l1In_eq, Option.bind_some, cg]
  by_cases h1 : 1 ≤ w ∧ w ≤ 500 <;> by_cases h2 : 0 ≤ a ∧ a ≤ w <;> simp [h1, h2]
theorem isCorridor_eq (w a : Int) : impl_isCorridor.f w a = some (cg w a) := by
  unfold impl_isCorridor.f
  simp only [within_eq, Option.bind_some, cg]
  by_cases h1 : 1 ≤ w ∧ w ≤ 500 <;> by_cases h2 : 0 ≤ a ∧ a ≤ w <;> simp [h1, h2]
theorem cg_of {w a : Int} (h : cg w a = true) : (1 ≤ w ∧ w ≤ 500) ∧ 0 ≤ a ∧ a ≤ w := of_decide_eq_true h

theorem strict_eq : ∀ l1 l2 : List Int, l1.Pairwise (fun x y => x < y) → l2.Pairwise (fun x y => x < y) → (∀ x, x ∈ l1 ↔ x ∈ l2) → l1 = l2 := by
  intro l1
  induction l1 with
  | nil =>
    intro l2 _ _ h
    cases l2 with
    | nil => rfl
    | cons y u => exact absurd ((h y).2 (by simp)) (by simp)
  | cons x t ih =>
    intro l2 h1 h2 h
    cases l2 with
    | nil => exact absurd ((h x).1 (by simp)) (by simp)
    | cons y u =>
      rw [List.pairwise_cons] at h1 h2
      have exy : x = y := by
        rcases List.mem_cons.1 ((h x).1 (by simp)) with e | e
        · exact e
        · rcases List.mem_cons.1 ((h y).2 (by simp)) with e2 | e2
          · exact e2.symm
          · have := h2.1 x e
            have := h1.1 y e2
            omega
      subst exy
      congr 1
      refine ih u h1.2 h2.2 (fun z => ?_)
      constructor
      · intro hz
        rcases List.mem_cons.1 ((h z).1 (by simp [hz])) with e | e
        · have := h1.1 z hz; omega
        · exact e
      · intro hz
        rcases List.mem_cons.1 ((h z).2 (by simp [hz])) with e | e
        · have := h2.1 z hz; omega
        · exact e
theorem get_le {zs : List Int} (hs : zs.Pairwise (fun x y => x ≤ y)) {i j : Nat} (hij : i ≤ j) (hj : j < zs.length) : zs.toArray[i]! ≤ zs.toArray[j]! := by
  have e : ∀ k, k < zs.length → ∀ hk : k < zs.length, zs.toArray[k]! = zs[k] := fun k _ hk => by simp [hk]
  rw [e i (by omega) (by omega), e j hj hj]
  rcases Nat.eq_or_lt_of_le hij with h | h
  · subst h; exact Int.le_refl _
  · exact List.pairwise_iff_getElem.1 hs i j (by omega) hj h
theorem mem_compact {zs : List Int} (x : Int) : x ∈ Lib.compact zs ↔ x ∈ zs := by
  unfold Lib.compact Lib.compactUpTo
  rw [List.mem_map]
  have e : ∀ k, ∀ hk : k < zs.length, zs.toArray[k]! = zs[k] := fun k hk => by simp [hk]
  constructor
  · rintro ⟨j, hj, rfl⟩
    have hj2 : j < zs.length := List.mem_range.1 (List.mem_filter.1 hj).1
    rw [e j hj2]
    exact List.getElem_mem _
  · intro hx
    obtain ⟨i, hi, rfl⟩ := List.getElem_of_mem hx
    -- the first place that holds it
    have key : ∀ i, (hi : i < zs.length) → ∃ j, j < zs.length ∧ zs.toArray[j]! = zs[i] ∧ Lib.keeps zs.toArray j = true := by
      intro i
      induction i with
      | zero => intro hi; exact ⟨0, hi, e 0 hi, by simp [Lib.keeps]⟩
      | succ i ih =>
        intro hi
        by_cases c : zs.toArray[i + 1]! = zs.toArray[i + 1 - 1]!
        · obtain ⟨j, h1, h2, h3⟩ := ih (by omega)
          refine ⟨j, h1, ?_, h3⟩
          rw [h2, ← e i (by omega), ← e (i + 1) hi]
          exact c.symm
        · exact ⟨i + 1, hi, e _ hi, Lib.keeps_pos c⟩
    obtain ⟨j, h1, h2, h3⟩ := key i hi
    exact ⟨j, List.mem_filter.2 ⟨List.mem_range.2 h1, h3⟩, h2⟩
theorem compact_strict {zs : List Int} (hs : zs.Pairwise (fun x y => x ≤ y)) : (Lib.compact zs).Pairwise (fun x y => x < y) := by
  unfold Lib.compact Lib.compactUpTo
  rw [List.pairwise_map, List.pairwise_filter]
  refine List.Pairwise.imp_of_mem ?_ List.pairwise_lt_range
  intro i j hi hj hij h1 h2
  have hj2 : j < zs.length := List.mem_range.1 hj
  have hne : zs.toArray[j]! ≠ zs.toArray[j - 1]! := by
    unfold Lib.keeps at h2
    have := of_decide_eq_true h2
    rcases this with h | h
    · omega
    · exact h
  have a := get_le hs (show i ≤ j - 1 by omega) (by omega)
  have b := get_le hs (show j - 1 ≤ j by omega) hj2
  omega
theorem inc_strict (ys : List Int) : (Lib.compact (ys.mergeSort fun x y => decide (x ≤ y))).Pairwise (fun x y => x < y) := by
  refine compact_strict ?_
  have := List.pairwise_mergeSort (le := fun x y : Int => decide (x ≤ y)) (fun a b c h1 h2 => by simp at *; omega) (fun a b => by simp; omega) ys
  exact this.imp (fun h => by simpa using h)
theorem inc_mem (ys : List Int) (x : Int) : x ∈ Lib.compact (ys.mergeSort fun x y => decide (x ≤ y)) ↔ x ∈ ys := by
  rw [mem_compact, List.mem_mergeSort]

/-- Is there an image of at least one reflection? -/
def isIm (w a x : Int) : Bool := decide (2 * w ∣ x + a) || (decide (2 * w ∣ x - a) && decide (x ≠ a))
theorem miIs_eq {w a x : Int} (hw : 1 ≤ w ∧ w ≤ 500) (ha : 0 ≤ a ∧ a ≤ 500) (hx : -1000000 ≤ x ∧ x ≤ 1000000) : spec_miIs.f w a x = some (isIm w a x) := by
  unfold spec_miIs.f isIm
  rw [wrap_id (n := 2 * w) (by omega) (by omega), wrap_id (n := x + a) (by omega) (by omega), wrap_id (n := x - a) (by omega) (by omega), if_neg (by omega)]
  have t : ∀ z : Int, Int.tmod z (2 * w) = 0 ↔ 2 * w ∣ z := fun z => ⟨Int.dvd_of_tmod_eq_zero, Int.tmod_eq_zero_of_dvd⟩
  by_cases h1 : 2 * w ∣ x + a
  · rw [if_pos ((t _).2 h1), decide_eq_true h1, Bool.true_or]
  · rw [if_neg (fun h => h1 ((t _).1 h)), decide_eq_false h1, Bool.false_or]
    by_cases h2 : 2 * w ∣ x - a
    · rw [if_pos ((t _).2 h2), decide_eq_true h2, Bool.true_and]
      by_cases h3 : x = a <;> simp [h3]
    · rw [if_neg (fun h => h2 ((t _).1 h)), decide_eq_false h2, Bool.false_and]
theorem mem_imL (w a k0 : Int) : ∀ (n : Nat) (x : Int), x ∈ imL w a k0 n ↔ ∃ k : Int, k0 ≤ k ∧ k < k0 + n ∧ ((k ≠ 0 ∧ x = 2 * w * k + a) ∨ x = 2 * w * k - a) := by
  intro n
  induction n with
  | zero =>
    intro x
    simp only [imL, List.not_mem_nil, false_iff]
    rintro ⟨k, h1, h2, _⟩
    simp at h2
    omega
  | succ n ih =>
    intro x
    simp only [imL, List.mem_append, ih, List.mem_singleton]
    constructor
    · rintro (⟨k, h1, h2, h3⟩ | h | h)
      · exact ⟨k, h1, by omega, h3⟩
      · by_cases c : k0 + (n : Int) = 0
        · rw [if_pos c] at h; simp at h
        · rw [if_neg c] at h
          exact ⟨k0 + n, by omega, by omega, .inl ⟨c, by simpa using h⟩⟩
      · exact ⟨k0 + n, by omega, by omega, .inr h⟩
    · rintro ⟨k, h1, h2, h3⟩
      by_cases c : k < k0 + n
      · exact .inl ⟨k, h1, c, h3⟩
      · have e : k = k0 + n := by omega
        subst e
        rcases h3 with ⟨h3, h4⟩ | h4
        · refine .inr (.inl ?_)
          rw [if_neg h3]
          simp [h4]
        · exact .inr (.inr h4)
theorem imQ_bounds {w far : Int} (hw : 1 ≤ w ∧ w ≤ 500) (hf : 0 ≤ far ∧ far ≤ 50000) : 0 ≤ imQ w far ∧ 2 * w * imQ w far ≤ far ∧ far < 2 * w * (imQ w far + 1) := by
  unfold imQ
  refine ⟨Int.ediv_nonneg hf.1 (by omega), Int.mul_ediv_self_le (by omega), ?_⟩
  have := Int.lt_mul_ediv_self_add (x := far) (k := 2 * w) (by omega)
  rw [Int.mul_add]
  omega
/-- All images that lie near, in order. -/
def refL (w a s far : Int) : List Int := ((List.range (2 * far + 1).toNat).map fun i : Nat => s - far + (i : Int)).filter (isIm w a)
theorem refL_strict (w a s far : Int) : (refL w a s far).Pairwise (fun x y => x < y) := by
  unfold refL
  refine List.Pairwise.filter _ ?_
  rw [List.pairwise_map]
  exact List.pairwise_lt_range.imp (fun h => by omega)
theorem refL_mem {w a s far x : Int} (hf : 0 ≤ far) : x ∈ refL w a s far ↔ (s - far ≤ x ∧ x ≤ s + far) ∧ isIm w a x = true := by
  unfold refL
  rw [List.mem_filter, List.mem_map]
  constructor
  · rintro ⟨⟨i, hi, rfl⟩, h⟩
    have := List.mem_range.1 hi
    exact ⟨by omega, h⟩
  · rintro ⟨⟨h1, h2⟩, h⟩
    exact ⟨⟨(x - (s - far)).toNat, List.mem_range.2 (by omega), by omega⟩, h⟩
theorem near_eq {w a s far : Int} (hw : 1 ≤ w ∧ w ≤ 500) (ha : 0 ≤ a ∧ a ≤ w) (hs : 0 ≤ s ∧ s ≤ w) (hf : 0 ≤ far ∧ far ≤ 50000) : impl_imagesNear.f w a s far = some (refL w a s far) := by
  unfold impl_imagesNear.f
  rw [if_pos ⟨hw, ⟨ha.1, by omega⟩, ⟨hs.1, by omega⟩, hf⟩]
  congr 1
  obtain ⟨q0, q1, q2⟩ := imQ_bounds hw hf
  refine strict_eq _ _ (inc_strict _) (refL_strict w a s far) (fun x => ?_)
  rw [inc_mem, List.mem_filter, mem_imL, refL_mem hf.1]
  generalize imQ w far = Q at q0 q1 q2
  have hN : (((2 * Q + 5).toNat : Nat) : Int) = 2 * Q + 5 := by omega
  have hq2 : 2 * w * (Q + 1) = 2 * w * Q + 2 * w := by rw [Int.mul_add]; omega
  rw [hq2] at q2
  have mono : ∀ k l : Int, k ≤ l → 2 * w * k ≤ 2 * w * l := fun k l h => Int.mul_le_mul_of_nonneg_left h (by omega)
  have lin : ∀ k c : Int, 2 * w * (k + c) = 2 * w * k + 2 * w * c := fun k c => Int.mul_add _ _ _
  have hQ2 : 2 * w * (Q + 2) = 2 * w * Q + 4 * w := by rw [lin]; omega
  have hQm2 : 2 * w * (-Q - 2) = -(2 * w * Q) - 4 * w := by rw [show -Q - 2 = -(Q + 2) by omega, Int.mul_neg, hQ2]; omega
  constructor
  · rintro ⟨⟨k, k1, k2, h⟩, hd⟩
    have m1 := mono _ _ k1
    have m2 := mono k (Q + 2) (by omega)
    have hb : -1000000 ≤ x ∧ x ≤ 1000000 := by
      rcases h with ⟨_, rfl⟩ | rfl <;> omega
    have hd2 : imDist x s ≤ far := by
      have : ¬ far < imDist x s := by simpa using hd
      omega
    rw [imDist_eq x s hb (by omega)] at hd2
    unfold mx at hd2
    refine ⟨by split at hd2 <;> omega, ?_⟩
    unfold isIm
    rcases h with ⟨h0, rfl⟩ | rfl
    · have hne : (2 * w * k + a) ≠ a := by
        intro e
        have : 2 * w * k = 0 := by omega
        rcases Int.mul_eq_zero.1 this with h | h <;> omega
      rw [decide_eq_true hne, Bool.and_true, decide_eq_true (show 2 * w ∣ 2 * w * k + a - a from ⟨k, by omega⟩), Bool.or_true]
    · rw [decide_eq_true (show 2 * w ∣ 2 * w * k - a + a from ⟨k, by omega⟩), Bool.true_or]
  · rintro ⟨⟨b1, b2⟩, him⟩
    have hdist : (!decide (far < imDist x s)) = true := by
      rw [imDist_eq x s (by omega) (by omega)]
      unfold mx
      simp only [Bool.not_eq_true', decide_eq_false_iff_not]
      split <;> omega
    refine ⟨?_, hdist⟩
    unfold isIm at him
    rw [Bool.or_eq_true, Bool.and_eq_true, decide_eq_true_eq, decide_eq_true_eq, decide_eq_true_eq] at him
    rcases him with ⟨k, hk⟩ | ⟨⟨k, hk⟩, hne⟩
    · refine ⟨k, ?_, ?_, .inr (by omega)⟩
      · apply Classical.byContradiction
        intro hc
        have := mono k (-Q - 3) (by omega)
        have e : 2 * w * (-Q - 3) = -(2 * w * Q) - 6 * w := by rw [show -Q - 3 = -(Q + 3) by omega, Int.mul_neg, lin]; omega
        omega
      · rw [hN]
        apply Classical.byContradiction
        intro hc
        have := mono (Q + 3) k (by omega)
        have e : 2 * w * (Q + 3) = 2 * w * Q + 6 * w := by rw [lin]; omega
        omega
    · refine ⟨k, ?_, ?_, .inl ⟨fun e => hne (by subst e; rw [Int.mul_zero] at hk; omega), by omega⟩⟩
      · apply Classical.byContradiction
        intro hc
        have := mono k (-Q - 3) (by omega)
        have e : 2 * w * (-Q - 3) = -(2 * w * Q) - 6 * w := by rw [show -Q - 3 = -(Q + 3) by omega, Int.mul_neg, lin]; omega
        omega
      · rw [hN]
        apply Classical.byContradiction
        intro hc
        have := mono (Q + 3) k (by omega)
        have e : 2 * w * (Q + 3) = 2 * w * Q + 6 * w := by rw [lin]; omega
        omega

theorem miSeen_eq (w a s : Int) : spec_miSeen.f w a s = some (cg w a && cg w s) := by
  unfold spec_miSeen.f
  rw [miGood_eq]
  simp only [Option.bind_some, l1In_eq]
  cases h : cg w a with
  | false => simp
  | true =>
    obtain ⟨h1, h2⟩ := cg_of h
    by_cases c : 0 ≤ s ∧ s ≤ w <;> simp [cg, h1, c]

def ds (s x : Int) : Int := mx (x - s) (s - x)
theorem ds_eq (z s : Int) : ds s z = if z < s then s - z else z - s := by
  unfold ds mx
  by_cases c : z < s
  · rw [if_pos (by omega), if_pos c]
  · rw [if_neg (by omega), if_neg c]
/-- The images at this very distance: how many, as so many times the distance. -/
def atL (w a s : Int) (f : Nat) : List Int := if isIm w a (s - f) = true then [(f : Int)] else []
def atR (w a s : Int) (f : Nat) : List Int := if 0 < f ∧ isIm w a (s + f) = true then [(f : Int)] else []
/-- The distances of all images up to a distance. -/
def dl (w a s : Int) : Nat → List Int
  | 0 => atL w a s 0 ++ atR w a s 0
  | f + 1 => dl w a s f ++ (atL w a s (f + 1) ++ atR w a s (f + 1))
theorem at_mem {w a s : Int} {f : Nat} {x : Int} (h : x ∈ atL w a s f ++ atR w a s f) : x = f := by
  rw [List.mem_append] at h
  unfold atL atR at h
  rcases h with h | h
  · split at h <;> simp at h; exact h
  · split at h <;> simp at h; exact h
theorem dl_mem {w a s : Int} : ∀ (f : Nat) (x : Int), x ∈ dl w a s f → 0 ≤ x ∧ x ≤ f := by
  intro f
  induction f with
  | zero => intro x h; have := at_mem h; omega
  | succ f ih =>
    intro x h
    simp only [dl] at h
    rcases List.mem_append.1 h with h | h
    · have := ih x h; omega
    · have := at_mem h; omega
theorem at_sorted {w a s : Int} (f : Nat) : (atL w a s f ++ atR w a s f).Pairwise (fun x y => x ≤ y) := by
  rw [List.pairwise_iff_getElem]
  intro i j hi hj _
  have h1 := at_mem (List.getElem_mem hi)
  have h2 := at_mem (List.getElem_mem hj)
  omega
theorem dl_sorted {w a s : Int} : ∀ f : Nat, (dl w a s f).Pairwise (fun x y => x ≤ y) := by
  intro f
  induction f with
  | zero => exact at_sorted 0
  | succ f ih =>
    simp only [dl]
    rw [List.pairwise_append]
    refine ⟨ih, at_sorted (f + 1), fun x hx y hy => ?_⟩
    have h1 := dl_mem f x hx
    have h2 := at_mem hy
    omega
theorem dl_pre {w a s : Int} (f : Nat) : ∀ d, ∃ t, dl w a s (f + d) = dl w a s f ++ t := by
  intro d
  induction d with
  | zero => exact ⟨[], by simp⟩
  | succ d ih =>
    obtain ⟨t, ht⟩ := ih
    exact ⟨t ++ (atL w a s (f + d + 1) ++ atR w a s (f + d + 1)), by rw [← Nat.add_assoc]; simp only [dl]; rw [ht, List.append_assoc]⟩
/-- The images up to a distance, from the left. -/
theorem refL_succ (w a s : Int) (f : Nat) : (refL w a s ((f + 1 : Nat) : Int)).map (ds s) = atL w a s (f + 1) ++ (refL w a s (f : Int)).map (ds s) ++ atR w a s (f + 1) := by
  have e : ((List.range (2 * ((f + 1 : Nat) : Int) + 1).toNat).map fun i : Nat => s - ((f + 1 : Nat) : Int) + (i : Int)) = [s - ((f + 1 : Nat) : Int)] ++ ((List.range (2 * (f : Int) + 1).toNat).map fun i : Nat => s - (f : Int) + (i : Int)) ++ [s + ((f + 1 : Nat) : Int)] := by
    have n1 : (2 * ((f + 1 : Nat) : Int) + 1).toNat = (2 * f + 1) + 1 + 1 := by omega
    have n2 : (2 * (f : Int) + 1).toNat = 2 * f + 1 := by omega
    rw [n1, n2, List.range_succ, List.range_succ_eq_map, List.map_append, List.map_cons, List.map_map]
    congr 1
    · rw [List.singleton_append]
      congr 1
      · simp
      · apply List.map_congr_left
        intro i _
        show s - ((f + 1 : Nat) : Int) + ((i + 1 : Nat) : Int) = _
        omega
    · simp only [List.map_cons, List.map_nil]
      congr 1
      omega
  unfold refL
  rw [e, List.filter_append, List.filter_append, List.map_append, List.map_append]
  congr 1
  · congr 1
    unfold atL
    by_cases c : isIm w a (s - ((f + 1 : Nat) : Int)) = true
    · rw [if_pos c, List.filter_cons_of_pos c, List.filter_nil, List.map_cons, List.map_nil, ds_eq]
      congr 1
      split <;> omega
    · rw [if_neg c, List.filter_cons_of_neg c, List.filter_nil, List.map_nil]
  · unfold atR
    by_cases c : isIm w a (s + ((f + 1 : Nat) : Int)) = true
    · rw [if_pos ⟨by omega, c⟩, List.filter_cons_of_pos c, List.filter_nil, List.map_cons, List.map_nil, ds_eq]
      congr 1
      split <;> omega
    · rw [if_neg (fun h => c h.2), List.filter_cons_of_neg c, List.filter_nil, List.map_nil]
theorem refL_perm (w a s : Int) : ∀ f : Nat, ((refL w a s (f : Int)).map (ds s)).Perm (dl w a s f) := by
  intro f
  induction f with
  | zero =>
    have this : (refL w a s ((0 : Nat) : Int)).map (ds s) = dl w a s 0 := by
      have hR0 : atR w a s 0 = [] := by unfold atR; exact if_neg (fun h => Nat.lt_irrefl 0 h.1)
      have e : ((List.range (2 * ((0 : Nat) : Int) + 1).toNat).map fun i : Nat => s - ((0 : Nat) : Int) + (i : Int)) = [s - ((0 : Nat) : Int)] := by
        show [s - ((0 : Nat) : Int) + ((0 : Nat) : Int)] = _
        simp
      simp only [dl, hR0, List.append_nil]
      unfold refL
      rw [e]
      unfold atL
      by_cases c : isIm w a (s - ((0 : Nat) : Int)) = true
      · rw [if_pos c, List.filter_cons_of_pos c, List.filter_nil, List.map_cons, List.map_nil, ds_eq]
        congr 1
        split <;> omega
      · rw [if_neg c, List.filter_cons_of_neg c, List.filter_nil, List.map_nil]
    rw [this]
  | succ f ih =>
    rw [refL_succ]
    simp only [dl]
    have h1 : (atL w a s (f + 1) ++ (refL w a s (f : Int)).map (ds s) ++ atR w a s (f + 1)).Perm ((refL w a s (f : Int)).map (ds s) ++ atL w a s (f + 1) ++ atR w a s (f + 1)) := List.Perm.append_right _ List.perm_append_comm
    refine h1.trans ?_
    rw [List.append_assoc]
    exact List.Perm.append_right _ ih
theorem sorted_eq (w a s : Int) (f : Nat) : ((refL w a s (f : Int)).map (ds s)).mergeSort (fun x y => decide (x ≤ y)) = dl w a s f := by
  have hp : (((refL w a s (f : Int)).map (ds s)).mergeSort (fun x y => decide (x ≤ y))).Perm (dl w a s f) := (List.mergeSort_perm _ _).trans (refL_perm w a s f)
  have hs := List.pairwise_mergeSort (le := fun x y : Int => decide (x ≤ y)) (fun a b c h1 h2 => by simp at *; omega) (fun a b => by simp; omega) ((refL w a s (f : Int)).map (ds s))
  refine List.Perm.eq_of_pairwise (le := fun x y : Int => x ≤ y) (fun x y _ _ h1 h2 => by omega) (hs.imp (fun h => by simpa using h)) (dl_sorted f) hp
/-- Within each stretch of twice the width there is one image more. -/
theorem dl_more {w a s : Int} (hw : 1 ≤ w) (f : Nat) : (dl w a s f).length + 1 ≤ (dl w a s (f + (2 * w).toNat)).length := by
  obtain ⟨r, hr⟩ : ∃ r, (s - f - 1 + a) % (2 * w) = r := ⟨_, rfl⟩
  have r0 : 0 ≤ r := by rw [← hr]; exact Int.emod_nonneg _ (by omega)
  have r1 : r < 2 * w := by rw [← hr]; exact Int.emod_lt_of_pos _ (by omega)
  obtain ⟨q, hq⟩ : ∃ q, q = f + 1 + r.toNat := ⟨_, rfl⟩
  have him : isIm w a (s - (q : Int)) = true := by
    have : 2 * w ∣ s - (q : Int) + a := by
      refine ⟨(s - f - 1 + a) / (2 * w), ?_⟩
      have := Int.emod_add_mul_ediv (s - f - 1 + a) (2 * w)
      omega
    unfold isIm
    rw [decide_eq_true this, Bool.true_or]
  obtain ⟨p, rfl⟩ : ∃ p, q = p + 1 := ⟨q - 1, by omega⟩
  obtain ⟨t1, h1⟩ := dl_pre (w := w) (a := a) (s := s) f (p - f)
  obtain ⟨t2, h2⟩ := dl_pre (w := w) (a := a) (s := s) (p + 1) (f + (2 * w).toNat - (p + 1))
  rw [show f + (p - f) = p by omega] at h1
  rw [show p + 1 + (f + (2 * w).toNat - (p + 1)) = f + (2 * w).toNat by omega] at h2
  rw [h2]
  simp only [dl]
  rw [h1]
  unfold atL
  rw [if_pos him]
  simp only [List.length_append, List.length_cons, List.length_nil]
  omega
theorem dl_many {w a s : Int} (hw : 1 ≤ w) : ∀ n : Nat, n ≤ (dl w a s (n * (2 * w).toNat)).length := by
  intro n
  induction n with
  | zero => exact Nat.zero_le _
  | succ n ih =>
    have := dl_more (w := w) (a := a) (s := s) hw (n * (2 * w).toNat)
    rw [Nat.succ_mul]
    omega
def dlp (w a s : Int) : Nat → List Int
  | 0 => []
  | f + 1 => dl w a s f
theorem dl_dlp (w a s : Int) (f : Nat) : dl w a s f = dlp w a s f ++ (atL w a s f ++ atR w a s f) := by
  cases f with
  | zero => rfl
  | succ f => rfl
theorem dlp_pre {w a s : Int} (f : Nat) : ∀ d, ∃ t, dlp w a s (f + d) = dlp w a s f ++ t := by
  intro d
  cases f with
  | zero => exact ⟨dlp w a s (0 + d), rfl⟩
  | succ f =>
    obtain ⟨t, ht⟩ := dl_pre (w := w) (a := a) (s := s) f d
    exact ⟨t, by rw [show f + 1 + d = (f + d) + 1 by omega]; exact ht⟩
theorem small {n : Nat} (h : n ≤ 1000) : n < 17592186044416 := by omega
theorem side_eq {w a s : Int} (hw : 1 ≤ w ∧ w ≤ 500) (ha : 0 ≤ a ∧ a ≤ w) (hs : 0 ≤ s ∧ s ≤ w) (f : Nat) (hf : f ≤ 60000) :
    spec_miIs.f w a (wrap64 (s - (f : Int))) = some (isIm w a (s - (f : Int))) ∧ spec_miIs.f w a (wrap64 (s + (f : Int))) = some (isIm w a (s + (f : Int))) := by
  have b0 : 0 ≤ a ∧ a ≤ 500 := by omega
  have b1 : -1000000 ≤ s - (f : Int) ∧ s - (f : Int) ≤ 1000000 := by omega
  have b2 : -1000000 ≤ s + (f : Int) ∧ s + (f : Int) ≤ 1000000 := by omega
  rw [wrap_id (n := s - (f : Int)) (by omega) (by omega), wrap_id (n := s + (f : Int)) (by omega) (by omega)]
  exact ⟨miIs_eq hw b0 b1, miIs_eq hw b0 b2⟩
theorem side_w {s : Int} (hs : 0 ≤ s ∧ s ≤ 500) (f : Nat) (hf : f ≤ 60000) :
    wrap64 (s - (f : Int)) = s - (f : Int) ∧ wrap64 (s + (f : Int)) = s + (f : Int) ∧ wrap64 ((f : Int) + 1) = ((f + 1 : Nat) : Int) := by
  refine ⟨wrap_id (by omega) (by omega), wrap_id (by omega) (by omega), ?_⟩
  rw [wrap_id (by omega) (by omega)]
  omega
theorem ds_lr (s : Int) (f : Nat) : ds s (s - (f : Int)) = f ∧ ds s (s + (f : Int)) = f := by
  rw [ds_eq, ds_eq]
  constructor <;> split <;> omega
/-- The one on the left. -/
theorem far_left {w a s : Int} (hw : 1 ≤ w ∧ w ≤ 500) (ha : 0 ≤ a ∧ a ≤ w) (hs : 0 ≤ s ∧ s ≤ w) (n f : Nat) (hf : f ≤ 60000) (out : List Int) (c : out.length < n) (hl : out.length ≤ 1000) :
    ∃ o1, (∀ k, spec_miFar.l0 (k + 1) w a s n out f = spec_miFar.j1 k w a s n o1 f) ∧ o1.map (ds s) = out.map (ds s) ++ atL w a s f ∧ o1.length ≤ n := by
  have cI : (out.length : Int) < (n : Int) := by omega
  have hl1 : out.length + 1 ≤ n := c
  have m1 := (side_eq hw ha hs f hf).1
  have w1 := (side_w (s := s) ⟨hs.1, by omega⟩ f hf).1
  cases b : isIm w a (s - (f : Int)) with
  | true =>
    refine ⟨out ++ [s - (f : Int)], fun k => ?_, ?_, by rw [List.length_append]; exact hl1⟩
    · rw [spec_miFar.l0]
      refine (if_pos cI).trans ?_
      rw [m1, b, Option.bind_some]
      refine (if_pos rfl).trans ?_
      rw [w1]
      exact if_pos (small hl)
    · unfold atL
      rw [if_pos b, List.map_append, List.map_cons, List.map_nil, (ds_lr s f).1]
  | false =>
    refine ⟨out, fun k => ?_, ?_, Nat.le_of_lt c⟩
    · rw [spec_miFar.l0]
      refine (if_pos cI).trans ?_
      rw [m1, b, Option.bind_some]
      exact if_neg (fun h => by cases h)
    · unfold atL
      rw [if_neg (by rw [b]; exact fun h => by cases h), List.append_nil]
/-- The one on the right. -/
theorem far_right {w a s : Int} (hw : 1 ≤ w ∧ w ≤ 500) (ha : 0 ≤ a ∧ a ≤ w) (hs : 0 ≤ s ∧ s ≤ w) (n f : Nat) (hf : f ≤ 60000) (o1 : List Int) (c : o1.length ≤ n) (hl : o1.length ≤ 1000) :
    ∃ o2, (∀ k, spec_miFar.j1 (k + 2) w a s n o1 f = spec_miFar.l0 k w a s n o2 ((f + 1 : Nat) : Int)) ∧ o2.map (ds s) = (o1.map (ds s) ++ atR w a s f).take n := by
  have m2 := (side_eq hw ha hs f hf).2
  obtain ⟨_, w2, w3⟩ := side_w (s := s) ⟨hs.1, by omega⟩ f hf
  have tk : o1.map (ds s) = (o1.map (ds s)).take n := by rw [List.take_of_length_le (by rw [List.length_map]; exact c)]
  have j2f : ∀ k, spec_miFar.j2 (k + 1) w a s n o1 f false = spec_miFar.l0 k w a s n o1 ((f + 1 : Nat) : Int) := fun k => by
    rw [spec_miFar.j2, w3]
    exact if_neg (fun h => by cases h)
  rcases Nat.eq_zero_or_pos f with f0 | f0
  · have fI : ¬ 0 < (f : Int) := fun h => by omega
    refine ⟨o1, fun k => ?_, ?_⟩
    · rw [spec_miFar.j1]
      exact (if_neg fI).trans (j2f k)
    · have : atR w a s f = [] := by unfold atR; exact if_neg (fun h => Nat.ne_of_gt h.1 f0)
      rw [this, List.append_nil]
      exact tk
  · have fI : 0 < (f : Int) := Int.natCast_pos.2 f0
    rcases Nat.lt_or_ge o1.length n with c1 | c1
    · have cI : (o1.length : Int) < (n : Int) := Int.ofNat_lt.2 c1
      cases b : isIm w a (s + (f : Int)) with
      | true =>
        refine ⟨o1 ++ [s + (f : Int)], fun k => ?_, ?_⟩
        · rw [spec_miFar.j1]
          refine (if_pos fI).trans ((if_pos cI).trans ?_)
          rw [m2, b, Option.bind_some, spec_miFar.j2]
          refine (if_pos rfl).trans ?_
          rw [w2, w3]
          exact if_pos (small hl)
        · have : atR w a s f = [(f : Int)] := by unfold atR; exact if_pos ⟨f0, b⟩
          rw [this, List.map_append, List.map_cons, List.map_nil, (ds_lr s f).2, List.take_of_length_le (by rw [List.length_append, List.length_map]; exact c1)]
      | false =>
        refine ⟨o1, fun k => ?_, ?_⟩
        · rw [spec_miFar.j1]
          refine (if_pos fI).trans ((if_pos cI).trans ?_)
          rw [m2, b, Option.bind_some]
          exact j2f k
        · have : atR w a s f = [] := by unfold atR; exact if_neg (fun h => by rw [b] at h; cases h.2)
          rw [this, List.append_nil]
          exact tk
    · have cI : ¬ (o1.length : Int) < (n : Int) := fun h => by omega
      refine ⟨o1, fun k => ?_, ?_⟩
      · rw [spec_miFar.j1]
        exact (if_pos fI).trans ((if_neg cI).trans (j2f k))
      · rw [List.take_left' (by rw [List.length_map]; omega)]
theorem far_l0 {w a s : Int} (hw : 1 ≤ w ∧ w ≤ 500) (ha : 0 ≤ a ∧ a ≤ w) (hs : 0 ≤ s ∧ s ≤ w) (n : Nat) (hn : 1 ≤ n ∧ n ≤ 40) : ∀ (d f : Nat) (out : List Int), f + d ≤ 60000 → n ≤ (dlp w a s (f + d)).length → out.map (ds s) = (dlp w a s f).take n →
    ∃ R, (∀ k, 3 * d + 10 ≤ k → spec_miFar.l0 k w a s n out f = some R) ∧ R.map (ds s) = (dlp w a s (f + d)).take n ∧ R.length = n := by
  intro d
  induction d with
  | zero =>
    intro f out hf hl ho
    have hlen : out.length = n := by
      have := congrArg List.length ho
      rw [List.length_map, List.length_take] at this
      rw [Nat.add_zero] at hl
      omega
    refine ⟨out, fun k hk => ?_, ho, hlen⟩
    obtain ⟨k, rfl⟩ : ∃ m, k = m + 1 := ⟨k - 1, by omega⟩
    rw [spec_miFar.l0]
    exact if_neg (by omega)
  | succ d ih =>
    intro f out hf hl ho
    have h1 := congrArg List.length ho
    rw [List.length_map, List.length_take] at h1
    have hlen : out.length ≤ n := by omega
    rcases Nat.lt_or_ge out.length n with c | c
    · have hall : out.map (ds s) = dlp w a s f := by rw [ho, List.take_of_length_le (by omega)]
      obtain ⟨o1, ho1, hm1, hlen1⟩ := far_left hw ha hs n f (by omega) out c (by omega)
      obtain ⟨o2, ho2, hm2⟩ := far_right hw ha hs n f (by omega) o1 hlen1 (by omega)
      have hd : dlp w a s (f + 1) = dlp w a s f ++ atL w a s f ++ atR w a s f := by
        show dl w a s f = _
        rw [dl_dlp, List.append_assoc]
      have hd1 : f + 1 + d = f + (d + 1) := by omega
      obtain ⟨R, e1, e2, e3⟩ := ih (f + 1) o2 (by omega) (by rw [hd1]; exact hl) (by rw [hm2, hm1, hall, hd])
      refine ⟨R, fun k hk => ?_, by rw [← hd1]; exact e2, e3⟩
      obtain ⟨k, rfl⟩ : ∃ m, k = m + 3 := ⟨k - 3, by omega⟩
      rw [ho1, ho2]
      exact e1 k (by omega)
    · have hlen2 : out.length = n := by omega
      refine ⟨out, fun k hk => ?_, ?_, hlen2⟩
      · obtain ⟨k, rfl⟩ : ∃ m, k = m + 1 := ⟨k - 1, by omega⟩
        rw [spec_miFar.l0]
        exact if_neg (by omega)
      · obtain ⟨t, ht⟩ := dlp_pre (w := w) (a := a) (s := s) f (d + 1)
        rw [ho, ht, List.take_append_of_le_length (by omega)]
theorem rd_get {l : List Int} {i : Nat} (h : i < l.length) : rd l (i : Int) = l[i] := by
  unfold rd
  rw [Int.toNat_natCast, List.getD_eq_getElem?_getD, List.getElem?_eq_getElem h]
  rfl
theorem impl_l0 {s many : Int} (hs : 0 ≤ s ∧ s ≤ 500) (L : List Int) (hl : L.length ≤ 200000) (hb : ∀ x ∈ L, -100000 ≤ x ∧ x ≤ 100000) (Z : Option (Int × Bool))
    (hend : ((slices_Sort_int_int.f (L.map (ds s))).bind fun t137 => (if 0 ≤ (wrap64 (many - 1)) then (if (wrap64 (many - 1)) < ((L.map (ds s)).length : Int) then (some (rd t137 (wrap64 (many - 1)), true)) else (none)) else (none))) = Z) : ∀ (d i k : Nat), i + d = L.length → d < k →
    impl_FarthestOf.l0 k s many ((L.take i).map (ds s)) L L.length i = Z := by
  intro d
  induction d with
  | zero =>
    intro i k hi hk
    obtain ⟨k, rfl⟩ : ∃ m, k = m + 1 := ⟨k - 1, by omega⟩
    rw [impl_FarthestOf.l0, List.take_of_length_le (by omega)]
    exact (if_neg (by omega)).trans hend
  | succ d ih =>
    intro i k hi hk
    obtain ⟨k, rfl⟩ : ∃ m, k = m + 1 := ⟨k - 1, by omega⟩
    have hil : i < L.length := by omega
    have hI : (i : Int) < (L.length : Int) := by omega
    have h0 : (0 : Int) ≤ i := by omega
    have wi : wrap64 ((i : Int) + 1) = ((i + 1 : Nat) : Int) := by rw [wrap_id (by omega) (by omega)]; omega
    have hxb := hb L[i] (List.getElem_mem _)
    have hdist : impl_distance.f L[i] s = some (ds s L[i]) := by
      unfold impl_distance.f
      rw [wrap_id (by omega) (by omega), wrap_id (by omega) (by omega)]
      rfl
    have hln : ((L.take i).map (ds s)).length < 17592186044416 := by
      have : ((L.take i).map (ds s)).length ≤ 200000 := by rw [List.length_map, List.length_take]; omega
      exact Nat.lt_of_le_of_lt this (by decide)
    have he : (L.take i).map (ds s) ++ [ds s L[i]] = (L.take (i + 1)).map (ds s) := by
      rw [List.take_succ_eq_append_getElem hil, List.map_append]
      rfl
    rw [impl_FarthestOf.l0, rd_get hil, hdist, wi]
    refine (if_pos hI).trans ((if_pos h0).trans ((if_pos hI).trans ?_))
    rw [Option.bind_some, he]
    exact (if_pos hln).trans (ih (i + 1) k (by omega) (by omega))
theorem abs_eq (x : Int) (h : -1000000 ≤ x ∧ x ≤ 1000000) : spec_l1Abs.f x = some (if x < 0 then -x else x) := by
  unfold spec_l1Abs.f spec_l1Most.f
  rw [wrap_id (n := -x) (by omega) (by omega)]
  by_cases c : x < 0
  · simp only [Option.bind_some, if_pos c]
    split
    · exact congrArg some (by omega)
    · exact congrArg some (by omega)
  · simp only [Option.bind_some, if_neg c]
    split
    · exact congrArg some (by omega)
    · exact congrArg some (by omega)
theorem main : laws_FnExactFarthestOf.Pure := by
  intro w a s many _ _ _ _
  obtain ⟨k, hk⟩ : ∃ k : Nat, 300000 ≤ k := ⟨300000, Nat.le_refl _⟩
  refine ⟨k + 1, ?_⟩
  have key : ∃ z, spec_FarthestOf.f (k + 1) w a s many = some z ∧ impl_FarthestOf.f (k + 1) w a s many = some z := by
    unfold spec_FarthestOf.f impl_FarthestOf.f
    rw [miSeen_eq, isCorridor_eq, isCorridor_eq]
    simp only [Option.bind_some]
    cases ha : cg w a with
    | false => exact ⟨(0, false), by simp [spec_FarthestOf.j0], by simp [impl_FarthestOf.j0]⟩
    | true =>
      cases hs : cg w s with
      | false => exact ⟨(0, false), by simp [spec_FarthestOf.j0], by simp [impl_FarthestOf.j0]⟩
      | true =>
        obtain ⟨h1, h2⟩ := cg_of ha
        obtain ⟨_, h3⟩ := cg_of hs
        simp only [Bool.and_self, if_true, l1In_eq, within_eq, Option.bind_some]
        by_cases c : 1 ≤ many ∧ many ≤ 40
        · rw [decide_eq_true c]
          simp only [Bool.not_true, spec_FarthestOf.j0, impl_FarthestOf.j0, Bool.false_eq_true, if_false]
          obtain ⟨n, rfl⟩ : ∃ n : Nat, many = n := ⟨many.toNat, by omega⟩
          obtain ⟨F, hF⟩ : ∃ F : Nat, (F : Int) = 84 * w := ⟨(84 * w).toNat, by omega⟩
          have wf : wrap64 (wrap64 (2 * w) * 42) = (F : Int) := by rw [wrap_id (n := 2 * w) (by omega) (by omega), wrap_id (by omega) (by omega)]; omega
          have hlen40 : 40 ≤ (dl w a s F).length := by
            have h40 := dl_many (w := w) (a := a) (s := s) h1.1 40
            obtain ⟨t, ht⟩ := dl_pre (w := w) (a := a) (s := s) (40 * (2 * w).toNat) (F - 40 * (2 * w).toNat)
            rw [show 40 * (2 * w).toNat + (F - 40 * (2 * w).toNat) = F by omega] at ht
            rw [ht, List.length_append]
            omega
          obtain ⟨R, r1, r2, r3⟩ := far_l0 (w := w) (a := a) (s := s) h1 h2 h3 n (by omega) (F + 1) 0 [] (by omega) (by rw [Nat.zero_add]; show n ≤ (dl w a s F).length; omega) (by simp [dlp])
          rw [Nat.zero_add] at r2
          have r2' : R.map (ds s) = (dl w a s F).take n := r2
          have hmem := fun x => refL_mem (w := w) (a := a) (s := s) (far := (F : Int)) (x := x) (by omega)
          have hplen : (refL w a s (F : Int)).length = (dl w a s F).length := by
            have := (refL_perm w a s F).length_eq
            rwa [List.length_map] at this
          have hlenL : (refL w a s (F : Int)).length ≤ 100000 := by
            unfold refL
            refine Nat.le_trans (List.length_filter_le _ _) ?_
            rw [List.length_map, List.length_range]
            omega
          have wn : wrap64 ((n : Int) - 1) = ((n - 1 : Nat) : Int) := by rw [wrap_id (by omega) (by omega)]; omega
          have hn1 : n - 1 < R.length := by omega
          have hn2 : n - 1 < (dl w a s F).length := by omega
          have hval : ds s R[n - 1] = (dl w a s F)[n - 1] := by
            have e1 : (R.map (ds s))[n - 1]? = ((dl w a s F).take n)[n - 1]? := by rw [r2']
            rw [List.getElem?_map, List.getElem?_eq_getElem hn1, List.getElem?_take, if_pos (by omega), List.getElem?_eq_getElem hn2] at e1
            exact Option.some.inj e1
          have hdb := dl_mem F _ (List.getElem_mem hn2)
          have hRb : s - (F : Int) ≤ R[n - 1] ∧ R[n - 1] ≤ s + (F : Int) := by
            rw [← hval, ds_eq] at hdb
            split at hdb <;> omega
          refine ⟨((dl w a s F)[n - 1], true), ?_, ?_⟩
          · have e : spec_miFar.f k w a s n = some R := r1 k (by omega)
            rw [e, Option.bind_some, wn, if_pos (by omega), if_pos (by omega), rd_get hn1, wrap_id (n := R[n - 1] - s) (by omega) (by omega), abs_eq _ (by omega), Option.bind_some, ← hval, ds_eq]
            congr 2
            split <;> split <;> omega
          · rw [wf, near_eq h1 h2 h3 (by omega), Option.bind_some]
            have := impl_l0 (s := s) (many := n) (by omega) (refL w a s (F : Int)) (by omega) (fun x hx => by have := ((hmem x).1 hx).1; omega) (some ((dl w a s F)[n - 1], true)) (by
              unfold slices_Sort_int_int.f
              rw [if_pos (by rw [List.length_map]; omega), Option.bind_some, sorted_eq, wn, if_pos (by omega), if_pos (by rw [List.length_map, hplen]; omega), rd_get hn2]) (refL w a s (F : Int)).length 0 k (by omega) (by omega)
            exact this
        · rw [decide_eq_false c]
          exact ⟨(0, false), by simp [spec_FarthestOf.j0], by simp [impl_FarthestOf.j0]⟩
  obtain ⟨z, h1, h2⟩ := key
  unfold laws_FnExactFarthestOf.f
  simp only [h1, h2, Option.bind_some, if_true, bne_self_eq_false, laws_FnExactFarthestOf.j0, Bool.false_eq_true, if_false]
end LFnExactFarthestOf

theorem FnExactFarthestOf : laws_FnExactFarthestOf.Pure := LFnExactFarthestOf.main

end Go.Proofs.Ytgepcafeldhncaa.Pure
