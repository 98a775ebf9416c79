/- For every corridor, place and seer the program's NearestImage and the reference's give the same; no condition beyond the numbers' kinds. -/
import Derived.Test.YtgepcafeldhncaaPFnExactNearestImagex2
namespace Go.Proofs.Ytgepcafeldhncaa.Pure
open Go.RowKit Go.Proofs.Ytgepcafeldhncaa.PFnExactNearestImage Go.Proofs.YtgepcafeldhncaaW.PrintWords Go.Proofs.YtgepcafeldhncaaW.PrintLast
set_option linter.unusedVariables false
set_option linter.unusedSimpArgs false

namespace LFnExactNearestImage
theorem within_eq (a b c : Int) : impl_within.f a b c = some (decide (b ≤ a ∧ a ≤ c)) := by
  by_cases h1 : b ≤ a <;> by_cases h2 : a ≤ c <;> simp [impl_within.f, h1, h2]

theorem l1In_eq (a b c : Int) : spec_l1In.f a b c = some (decide (b ≤ a ∧ a ≤ c)) := by
  by_cases h1 : b ≤ a <;> by_cases h2 : a ≤ c <;> simp [spec_l1In.f, h1, h2]

theorem wrap_id {n : Int} (h0 : -9223372036854775808 ≤ n) (h1 : n ≤ 9223372036854775807) : wrap64 n = n := by
  unfold wrap64
  omega

def cg (w a : Int) : Bool := decide ((1 ≤ w ∧ w ≤ 500) ∧ 0 ≤ a ∧ a ≤ w)
theorem miGood_eq (w a : Int) : spec_miGood.f w a = some (cg w a) := by
  unfold spec_miGood.f
  simp only [l1In_eq, Option.bind_some, cg]
  by_cases h1 : 1 ≤ w ∧ w ≤ 500 <;> by_cases h2 : 0 ≤ a ∧ a ≤ w <;> simp [h1, h2]
theorem isCorridor_eq (w a : Int) : impl_isCorridor.f w a = some (cg w a) := by
  unfold impl_isCorridor.f
  simp only [within_eq, Option.bind_some, cg]
  by_cases h1 : 1 ≤ w ∧ w ≤ 500 <;> by_cases h2 : 0 ≤ a ∧ a ≤ w <;> simp [h1, h2]
theorem cg_of {w a : Int} (h : cg w a = true) : (1 ≤ w ∧ w ≤ 500) ∧ 0 ≤ a ∧ a ≤ w := of_decide_eq_true h

theorem strict_eq : ∀ l1 l2 : List Int, l1.Pairwise (fun x y => x < y) → l2.Pairwise (fun x y => x < y) → (∀ x, x ∈ l1 ↔ x ∈ l2) → l1 = l2 := by
  intro l1
  induction l1 with
  | nil =>
    intro l2 _ _ h
    cases l2 with
    | nil => rfl
    | cons y u => exact absurd ((h y).2 (by simp)) (by simp)
  | cons x t ih =>
    intro l2 h1 h2 h
    cases l2 with
    | nil => exact absurd ((h x).1 (by simp)) (by simp)
    | cons y u =>
      rw [List.pairwise_cons] at h1 h2
      have exy : x = y := by
        rcases List.mem_cons.1 ((h x).1 (by simp)) with e | e
        · exact e
        · rcases List.mem_cons.1 ((h y).2 (by simp)) with e2 | e2
          · exact e2.symm
          · have := h2.1 x e
            have := h1.1 y e2
            omega
      subst exy
      congr 1
      refine ih u h1.2 h2.2 (fun z => ?_)
      constructor
      · intro hz
        rcases List.mem_cons.1 ((h z).1 (by simp [hz])) with e | e
        · have := h1.1 z hz; omega
        · exact e
      · intro hz
        rcases List.mem_cons.1 ((h z).2 (by simp [hz])) with e | e
        · have := h2.1 z hz; omega
        · exact e
theorem get_le {zs : List Int} (hs : zs.Pairwise (fun x y => x ≤ y)) {i j : Nat} (hij : i ≤ j) (hj : j < zs.length) : zs.toArray[i]! ≤ zs.toArray[j]! := by
  have e : ∀ k, k < zs.length → ∀ hk : k < zs.length, zs.toArray[k]! = zs[k] := fun k _ hk => by simp [hk]
  rw [e i (by omega) (by omega), e j hj hj]
  rcases Nat.eq_or_lt_of_le hij with h | h
  · subst h; exact Int.le_refl _
  · exact List.pairwise_iff_getElem.1 hs i j (by omega) hj h
theorem mem_compact {zs : List Int} (x : Int) : x ∈ Lib.compact zs ↔ x ∈ zs := by
  unfold Lib.compact Lib.compactUpTo
  rw [List.mem_map]
  have e : ∀ k, ∀ hk : k < zs.length, zs.toArray[k]! = zs[k] := fun k hk => by simp [hk]
  constructor
  · rintro ⟨j, hj, rfl⟩
    have hj2 : j < zs.length := List.mem_range.1 (List.mem_filter.1 hj).1
    rw [e j hj2]
    exact List.getElem_mem _
  · intro hx
    obtain ⟨i, hi, rfl⟩ := List.getElem_of_mem hx
    -- the first place that holds it
    have key : ∀ i, (hi : i < zs.length) → ∃ j, j < zs.length ∧ zs.toArray[j]! = zs[i] ∧ Lib.keeps zs.toArray j = true := by
      intro i
      induction i with
      | zero => intro hi; exact ⟨0, hi, e 0 hi, by simp [Lib.keeps]⟩
      | succ i ih =>
        intro hi
        by_cases c : zs.toArray[i + 1]! = zs.toArray[i + 1 - 1]!
        · obtain ⟨j, h1, h2, h3⟩ := ih (by omega)
          refine ⟨j, h1, ?_, h3⟩
          rw [h2, ← e i (by omega), ← e (i + 1) hi]
          exact c.symm
        · exact ⟨i + 1, hi, e _ hi, Lib.keeps_pos c⟩
    obtain ⟨j, h1, h2, h3⟩ := key i hi
    exact ⟨j, List.mem_filter.2 ⟨List.mem_range.2 h1, h3⟩, h2⟩
theorem compact_strict {zs : List Int} (hs : zs.Pairwise (fun x y => x ≤ y)) : (Lib.compact zs).Pairwise (fun x y => x < y) := by
  unfold Lib.compact Lib.compactUpTo
  rw [List.pairwise_map, List.pairwise_filter]
  refine List.Pairwise.imp_of_mem ?_ List.pairwise_lt_range
  intro i j hi hj hij h1 h2
  have hj2 : j < zs.length := List.mem_range.1 hj
  have hne : zs.toArray[j]! ≠ zs.toArray[j - 1]! := by
    unfold Lib.keeps at h2
    have := of_decide_eq_true h2
    rcases this with h | h
    · omega
    · exact h
  have a := get_le hs (show i ≤ j - 1 by omega) (by omega)
  have b := get_le hs (show j - 1 ≤ j by omega) hj2
  omega
theorem inc_strict (ys : List Int) : (ImInc ys).Pairwise (fun x y => x < y) := by
  refine compact_strict ?_
  have := List.pairwise_mergeSort (le := fun x y : Int => decide (x ≤ y)) (fun a b c h1 h2 => by simp at *; omega) (fun a b => by simp; omega) ys
  exact this.imp (fun h => by simpa using h)
theorem inc_mem (ys : List Int) (x : Int) : x ∈ ImInc ys ↔ x ∈ ys := by
  unfold ImInc
  rw [mem_compact, List.mem_mergeSort]

/-- Is there an image of at least one reflection? -/
def isIm (w a x : Int) : Bool := decide (2 * w ∣ x + a) || (decide (2 * w ∣ x - a) && decide (x ≠ a))
theorem miIs_eq {w a x : Int} (hw : 1 ≤ w ∧ w ≤ 500) (ha : 0 ≤ a ∧ a ≤ 500) (hx : -1000000 ≤ x ∧ x ≤ 1000000) : spec_miIs.f w a x = some (isIm w a x) := by
  unfold spec_miIs.f isIm
  rw [wrap_id (n := 2 * w) (by omega) (by omega), wrap_id (n := x + a) (by omega) (by omega), wrap_id (n := x - a) (by omega) (by omega), if_neg (by omega)]
  have t : ∀ z : Int, Int.tmod z (2 * w) = 0 ↔ 2 * w ∣ z := fun z => ⟨Int.dvd_of_tmod_eq_zero, Int.tmod_eq_zero_of_dvd⟩
  by_cases h1 : 2 * w ∣ x + a
  · rw [if_pos ((t _).2 h1), decide_eq_true h1, Bool.true_or]
  · rw [if_neg (fun h => h1 ((t _).1 h)), decide_eq_false h1, Bool.false_or]
    by_cases h2 : 2 * w ∣ x - a
    · rw [if_pos ((t _).2 h2), decide_eq_true h2, Bool.true_and]
      by_cases h3 : x = a <;> simp [h3]
    · rw [if_neg (fun h => h2 ((t _).1 h)), decide_eq_false h2, Bool.false_and]
theorem mem_imL (w a k0 : Int) : ∀ (n : Nat) (x : Int), x ∈ imL w a k0 n ↔ ∃ k : Int, k0 ≤ k ∧ k < k0 + n ∧ ((k ≠ 0 ∧ x = 2 * w * k + a) ∨ x = 2 * w * k - a) := by
  intro n
  induction n with
  | zero =>
    intro x
    simp only [imL, List.not_mem_nil, false_iff]
    rintro ⟨k, h1, h2, _⟩
    simp at h2
    omega
  | succ n ih =>
    intro x
    simp only [imL, List.mem_append, ih, List.mem_singleton]
    constructor
    · rintro (⟨k, h1, h2, h3⟩ | h | h)
      · exact ⟨k, h1, by omega, h3⟩
      · by_cases c : k0 + (n : Int) = 0
        · rw [if_pos c] at h; simp at h
        · rw [if_neg c] at h
          exact ⟨k0 + n, by omega, by omega, .inl ⟨c, by simpa using h⟩⟩
      · exact ⟨k0 + n, by omega, by omega, .inr h⟩
    · rintro ⟨k, h1, h2, h3⟩
      by_cases c : k < k0 + n
      · exact .inl ⟨k, h1, c, h3⟩
      · have e : k = k0 + n := by omega
        subst e
        rcases h3 with ⟨h3, h4⟩ | h4
        · refine .inr (.inl ?_)
          rw [if_neg h3]
          simp [h4]
        · exact .inr (.inr h4)
theorem imQ_bounds {w far : Int} (hw : 1 ≤ w ∧ w ≤ 500) (hf : 0 ≤ far ∧ far ≤ 50000) : 0 ≤ imQ w far ∧ 2 * w * imQ w far ≤ far ∧ far < 2 * w * (imQ w far + 1) := by
  unfold imQ
  refine ⟨Int.ediv_nonneg hf.1 (by omega), Int.mul_ediv_self_le (by omega), ?_⟩
  have := Int.lt_mul_ediv_self_add (x := far) (k := 2 * w) (by omega)
  rw [Int.mul_add]
  omega
/-- All images that lie near, in order. -/
def refL (w a s far : Int) : List Int := ((List.range (2 * far + 1).toNat).map fun i : Nat => s - far + (i : Int)).filter (isIm w a)
theorem refL_strict (w a s far : Int) : (refL w a s far).Pairwise (fun x y => x < y) := by
  unfold refL
  refine List.Pairwise.filter _ ?_
  rw [List.pairwise_map]
  exact List.pairwise_lt_range.imp (fun h => by omega)
theorem refL_mem {w a s far x : Int} (hf : 0 ≤ far) : x ∈ refL w a s far ↔ (s - far ≤ x ∧ x ≤ s + far) ∧ isIm w a x = true := by
  unfold refL
  rw [List.mem_filter, List.mem_map]
  constructor
  · rintro ⟨⟨i, hi, rfl⟩, h⟩
    have := List.mem_range.1 hi
    exact ⟨by omega, h⟩
  · rintro ⟨⟨h1, h2⟩, h⟩
    exact ⟨⟨(x - (s - far)).toNat, List.mem_range.2 (by omega), by omega⟩, h⟩
theorem near_eq {w a s far : Int} (hw : 1 ≤ w ∧ w ≤ 500) (ha : 0 ≤ a ∧ a ≤ w) (hs : 0 ≤ s ∧ s ≤ w) (hf : 0 ≤ far ∧ far ≤ 50000) : impl_imagesNear.f w a s far = some (refL w a s far) := by
  unfold impl_imagesNear.f
  rw [if_pos ⟨hw, ⟨ha.1, by omega⟩, ⟨hs.1, by omega⟩, hf⟩]
  congr 1
  obtain ⟨q0, q1, q2⟩ := imQ_bounds hw hf
  show ImInc _ = _
  refine strict_eq _ _ (inc_strict _) (refL_strict w a s far) (fun x => ?_)
  rw [inc_mem, List.mem_filter, mem_imL, refL_mem hf.1]
  generalize imQ w far = Q at q0 q1 q2
  have hN : (((2 * Q + 5).toNat : Nat) : Int) = 2 * Q + 5 := by omega
  have hq2 : 2 * w * (Q + 1) = 2 * w * Q + 2 * w := by rw [Int.mul_add]; omega
  rw [hq2] at q2
  have mono : ∀ k l : Int, k ≤ l → 2 * w * k ≤ 2 * w * l := fun k l h => Int.mul_le_mul_of_nonneg_left h (by omega)
  have lin : ∀ k c : Int, 2 * w * (k + c) = 2 * w * k + 2 * w * c := fun k c => Int.mul_add _ _ _
  have hQ2 : 2 * w * (Q + 2) = 2 * w * Q + 4 * w := by rw [lin]; omega
  have hQm2 : 2 * w * (-Q - 2) = -(2 * w * Q) - 4 * w := by rw [show -Q - 2 = -(Q + 2) by omega, Int.mul_neg, hQ2]; omega
  constructor
  · rintro ⟨⟨k, k1, k2, h⟩, hd⟩
    have m1 := mono _ _ k1
    have m2 := mono k (Q + 2) (by omega)
    have hb : -1000000 ≤ x ∧ x ≤ 1000000 := by
      rcases h with ⟨_, rfl⟩ | rfl <;> omega
    have hd2 : imDist x s ≤ far := by
      have : ¬ far < imDist x s := by simpa using hd
      omega
    rw [imDist_eq x s hb (by omega)] at hd2
    unfold mx at hd2
    refine ⟨by split at hd2 <;> omega, ?_⟩
    unfold isIm
    rcases h with ⟨h0, rfl⟩ | rfl
    · have hne : (2 * w * k + a) ≠ a := by
        intro e
        have : 2 * w * k = 0 := by omega
        rcases Int.mul_eq_zero.1 this with h | h <;> omega
      rw [decide_eq_true hne, Bool.and_true, decide_eq_true (show 2 * w ∣ 2 * w * k + a - a from ⟨k, by omega⟩), Bool.or_true]
    · rw [decide_eq_true (show 2 * w ∣ 2 * w * k - a + a from ⟨k, by omega⟩), Bool.true_or]
  · rintro ⟨⟨b1, b2⟩, him⟩
    have hdist : (!decide (far < imDist x s)) = true := by
      rw [imDist_eq x s (by omega) (by omega)]
      unfold mx
      simp only [Bool.not_eq_true', decide_eq_false_iff_not]
      split <;> omega
    refine ⟨?_, hdist⟩
    unfold isIm at him
    rw [Bool.or_eq_true, Bool.and_eq_true, decide_eq_true_eq, decide_eq_true_eq, decide_eq_true_eq] at him
    rcases him with ⟨k, hk⟩ | ⟨⟨k, hk⟩, hne⟩
    · refine ⟨k, ?_, ?_, .inr (by omega)⟩
      · apply Classical.byContradiction
        intro hc
        have := mono k (-Q - 3) (by omega)
        have e : 2 * w * (-Q - 3) = -(2 * w * Q) - 6 * w := by rw [show -Q - 3 = -(Q + 3) by omega, Int.mul_neg, lin]; omega
        omega
      · rw [hN]
        apply Classical.byContradiction
        intro hc
        have := mono (Q + 3) k (by omega)
        have e : 2 * w * (Q + 3) = 2 * w * Q + 6 * w := by rw [lin]; omega
        omega
    · refine ⟨k, ?_, ?_, .inl ⟨fun e => hne (by subst e; rw [Int.mul_zero] at hk; omega), by omega⟩⟩
      · apply Classical.byContradiction
        intro hc
        have := mono k (-Q - 3) (by omega)
        have e : 2 * w * (-Q - 3) = -(2 * w * Q) - 6 * w := by rw [show -Q - 3 = -(Q + 3) by omega, Int.mul_neg, lin]; omega
        omega
      · rw [hN]
        apply Classical.byContradiction
        intro hc
        have := mono (Q + 3) k (by omega)
        have e : 2 * w * (Q + 3) = 2 * w * Q + 6 * w := by rw [lin]; omega
        omega

theorem miSeen_eq (w a s : Int) : spec_miSeen.f w a s = some (cg w a && cg w s) := by
  unfold spec_miSeen.f
  rw [miGood_eq]
  simp only [Option.bind_some, l1In_eq]
  cases h : cg w a with
  | false => simp
  | true =>
    obtain ⟨h1, h2⟩ := cg_of h
    by_cases c : 0 ≤ s ∧ s ≤ w <;> simp [cg, h1, c]

/-- Is x nearer, or as near and farther left? -/
def lt (s x y : Int) : Prop := mx (x - s) (s - x) < mx (y - s) (s - y) ∨ (mx (x - s) (s - x) = mx (y - s) (s - y) ∧ x < y)
theorem mx_abs (z s : Int) : mx (z - s) (s - z) = if z < s then s - z else z - s := by
  unfold mx
  by_cases c : z < s
  · rw [if_pos (by omega), if_pos c]
  · rw [if_neg (by omega), if_neg c]
theorem impl_l0 {s : Int} (hs : 0 ≤ s ∧ s ≤ 500) (l : List Int) (hl : l.length ≤ 100000) (hb : ∀ x ∈ l, -100000 ≤ x ∧ x ≤ 100000) : ∀ (d i : Nat) (b : Int) (k : Nat), i + d = l.length → -100000 ≤ b ∧ b ≤ 100000 → 2 * d < k →
    ∃ r, impl_NearestImage.l0 k s b l l.length i = some (r, true) ∧ (r = b ∨ r ∈ l) ∧ ¬ lt s b r ∧ ∀ j, i ≤ j → (hj : j < l.length) → ¬ lt s l[j] r := by
  intro d
  induction d with
  | zero =>
    intro i b k hi hbb hk
    obtain ⟨k, rfl⟩ : ∃ m, k = m + 1 := ⟨k - 1, by omega⟩
    refine ⟨b, ?_, .inl rfl, fun h => ?_, fun j h1 h2 => by omega⟩
    · rw [impl_NearestImage.l0]
      exact if_neg (by omega)
    · rcases h with h | ⟨_, h⟩ <;> omega
  | succ d ih =>
    intro i b k hi hbb hk
    obtain ⟨k, rfl⟩ : ∃ m, k = m + 2 := ⟨k - 2, by omega⟩
    have hlt : (i : Int) < (l.length : Int) := by omega
    have hi0 : (0 : Int) ≤ i := by omega
    have hil : i < l.length := by omega
    have hx : rd l (i : Int) = l[i] := by
      unfold rd
      rw [Int.toNat_natCast, List.getD_eq_getElem?_getD, List.getElem?_eq_getElem hil]
      rfl
    have hxb := hb l[i] (List.getElem_mem _)
    have hmem : l[i] ∈ l := List.getElem_mem _
    have wi : wrap64 ((i : Int) + 1) = ((i + 1 : Nat) : Int) := by rw [wrap_id (by omega) (by omega)]; omega
    have dd : ∀ z : Int, -100000 ≤ z ∧ z ≤ 100000 → impl_distance.f z s = some (mx (z - s) (s - z)) := fun z hz => by
      unfold impl_distance.f
      rw [wrap_id (by omega) (by omega), wrap_id (by omega) (by omega)]
    have jj : ∀ v : Bool, impl_NearestImage.j2 (k + 1) s b l[i] l l.length i v = impl_NearestImage.l0 k s (if v = true then l[i] else b) l l.length ((i + 1 : Nat) : Int) := fun v => by
      rw [impl_NearestImage.j2, wi]
      cases v <;> rfl
    obtain ⟨v, hv, hv2⟩ : ∃ v : Bool, impl_NearestImage.l0 (k + 2) s b l l.length i = impl_NearestImage.j2 (k + 1) s b l[i] l l.length i v ∧ (v = true ↔ lt s l[i] b) := by
      rw [impl_NearestImage.l0, hx, dd _ hxb, dd _ hbb]
      rw [if_pos hlt, if_pos hi0, if_pos hlt]
      simp only [Option.bind_some]
      generalize hA : mx (l[i] - s) (s - l[i]) = A
      generalize hB : mx (b - s) (s - b) = B
      unfold lt
      rw [hA, hB]
      by_cases c1 : A < B
      · exact ⟨true, by rw [if_pos c1], by simp [c1]⟩
      · rw [if_neg c1]
        by_cases c2 : A = B
        · refine ⟨decide (l[i] < b), by rw [if_pos c2], ?_⟩
          rw [decide_eq_true_iff]
          exact ⟨fun h => .inr ⟨c2, h⟩, fun h => h.elim (fun h => absurd h c1) (fun h => h.2)⟩
        · exact ⟨false, by rw [if_neg c2], by simp [c1, c2]⟩
    rw [hv, jj]
    have htr : ∀ x y z : Int, ¬ lt s x y → ¬ lt s y z → ¬ lt s x z := by
      intro x y z h1 h2 h3
      unfold lt at *
      omega
    have hcb : -100000 ≤ (if v = true then l[i] else b) ∧ (if v = true then l[i] else b) ≤ 100000 := by cases v <;> simp [hbb, hxb]
    obtain ⟨r, e, hr, hnb, hall⟩ := ih (i + 1) (if v = true then l[i] else b) k (by omega) hcb (by omega)
    refine ⟨r, e, ?_, ?_, ?_⟩
    · rcases hr with h | h
      · cases v with
        | true => exact .inr (by rw [h]; exact hmem)
        | false => exact .inl h
      · exact .inr h
    · cases v with
      | true =>
        have := hv2.1 rfl
        refine htr b l[i] r ?_ hnb
        unfold lt at *
        omega
      | false => exact hnb
    · intro j h1 hj
      rcases Nat.eq_or_lt_of_le h1 with h | h
      · subst h
        cases v with
        | true => exact hnb
        | false => exact htr l[i] b r (fun h => by have := hv2.2 h; cases this) hnb
      · exact hall j h hj
theorem far_l0 {w a s : Int} (hw : 1 ≤ w ∧ w ≤ 500) (ha : 0 ≤ a ∧ a ≤ w) (hs : 0 ≤ s ∧ s ≤ w) : ∀ (d : Nat) (f : Int) (k : Nat), f + d = a + s → 0 ≤ f → 3 * d + 10 ≤ k → (∀ x, isIm w a x = true → f ≤ mx (x - s) (s - x)) →
    ∃ r, spec_miFar.l0 k w a s 1 [] f = some [r] ∧ isIm w a r = true ∧ (∀ x, isIm w a x = true → ¬ lt s x r) ∧ mx (r - s) (s - r) ≤ a + s := by
  have him : isIm w a (-a) = true := by unfold isIm; rw [decide_eq_true (show 2 * w ∣ -a + a from ⟨0, by omega⟩), Bool.true_or]
  intro d
  induction d with
  | zero => ?_
  | succ d ih => ?_
  all_goals
    intro f k hf h0 hk hno
    obtain ⟨k, rfl⟩ : ∃ m, k = m + 4 := ⟨k - 4, by omega⟩
    have w1 : wrap64 (s - f) = s - f := wrap_id (by omega) (by omega)
    have w2 : wrap64 (s + f) = s + f := wrap_id (by omega) (by omega)
    have w3 : wrap64 (f + 1) = f + 1 := wrap_id (by omega) (by omega)
    have m1 := miIs_eq (w := w) (a := a) (x := s - f) hw ⟨by omega, by omega⟩ (by omega)
    have m2 := miIs_eq (w := w) (a := a) (x := s + f) hw ⟨by omega, by omega⟩ (by omega)
    have l0 : ((([] : List Int).length : Nat) : Int) < 1 := by simp
    have l1 : ∀ z : Int, ¬ ((([z] : List Int).length : Nat) : Int) < 1 := fun z => by simp
    have lb0 : ([] : List Int).length < 17592186044416 := by simp
    have e1 : mx (s - f - s) (s - (s - f)) = f := by rw [mx_abs]; split <;> omega
    have e2 : mx (s + f - s) (s - (s + f)) = f := by rw [mx_abs]; split <;> omega
    have both : ∀ x, mx (x - s) (s - x) = f → x = s - f ∨ x = s + f := fun x hx => by
      rw [mx_abs] at hx
      split at hx <;> omega
    have lend : ∀ (z : Int) (k : Nat), spec_miFar.l0 (k + 1) w a s 1 [z] (f + 1) = some [z] := fun z k => by
      rw [spec_miFar.l0]
      exact if_neg (l1 z)
    rw [spec_miFar.l0, w1, m1]
    rw [if_pos l0]
    simp only [Option.bind_some]
    cases b1 : isIm w a (s - f) with
    | true =>
      refine ⟨s - f, ?_, b1, fun x hx hlt => ?_, by omega⟩
      · rw [if_pos rfl, if_pos lb0]
        show spec_miFar.j1 (k + 3) w a s 1 [s - f] f = _
        rw [spec_miFar.j1]
        have j2 : spec_miFar.j2 (k + 2) w a s 1 [s - f] f false = some [s - f] := by
          rw [spec_miFar.j2, w3, if_neg (fun h => by cases h)]
          exact lend _ k
        by_cases c : f > 0
        · rw [if_pos c, if_neg (l1 _)]
          exact j2
        · rw [if_neg c]
          exact j2
      · have := hno x hx
        unfold lt at hlt
        rw [e1] at hlt
        rcases hlt with h | ⟨h, h'⟩
        · omega
        · rcases both x h with h | h <;> omega
    | false =>
      rw [if_neg (fun h => by cases h), spec_miFar.j1]
      have c : f > 0 ∨ f = 0 := by omega
      rcases c with c | c
      · rw [if_pos c, if_pos l0, w2, m2]
        simp only [Option.bind_some]
        cases b2 : isIm w a (s + f) with
        | true =>
          refine ⟨s + f, ?_, b2, fun x hx hlt => ?_, by omega⟩
          · rw [spec_miFar.j2, w2, w3, if_pos rfl, if_pos lb0]
            exact lend _ k
          · have := hno x hx
            unfold lt at hlt
            rw [e2] at hlt
            rcases hlt with h | ⟨h, h'⟩
            · omega
            · rcases both x h with h | h
              · rw [h, b1] at hx; cases hx
              · omega
        | false =>
          rw [spec_miFar.j2, w3, if_neg (fun h => by cases h)]
          first
            | exact ih (f + 1) (k + 1) (by omega) (by omega) (by omega) (fun x hx => by
                have h1 := hno x hx
                rcases Int.lt_or_eq_of_le h1 with h | h
                · omega
                · rcases both x h.symm with h | h
                  · rw [h, b1] at hx; cases hx
                  · rw [h, b2] at hx; cases hx)
            | (exfalso
               rw [show s - f = -a by omega, him] at b1
               cases b1)
      · rw [if_neg (by omega), spec_miFar.j2, w3, if_neg (fun h => by cases h)]
        first
          | exact ih (f + 1) (k + 1) (by omega) (by omega) (by omega) (fun x hx => by
              have h1 := hno x hx
              rcases Int.lt_or_eq_of_le h1 with h | h
              · omega
              · rcases both x h.symm with h | h
                · rw [h, b1] at hx; cases hx
                · rw [h, show s + f = s - f by omega, b1] at hx; cases hx)
          | (exfalso
             rw [show s - f = -a by omega, him] at b1
             cases b1)
theorem main : laws_FnExactNearestImage.Pure := by
  intro w a s _ _ _
  obtain ⟨k, hk⟩ : ∃ k : Nat, 100000 ≤ k := ⟨100000, Nat.le_refl _⟩
  refine ⟨k + 1, ?_⟩
  have key : ∃ z, spec_NearestImage.f (k + 1) w a s = some z ∧ impl_NearestImage.f (k + 1) w a s = some z := by
    unfold spec_NearestImage.f impl_NearestImage.f
    rw [miSeen_eq, isCorridor_eq, isCorridor_eq]
    simp only [Option.bind_some]
    cases ha : cg w a with
    | false => exact ⟨(0, false), by simp, by simp [impl_NearestImage.j0]⟩
    | true =>
      cases hs : cg w s with
      | false => exact ⟨(0, false), by simp, by simp [impl_NearestImage.j0]⟩
      | true =>
        obtain ⟨h1, h2⟩ := cg_of ha
        obtain ⟨_, h3⟩ := cg_of hs
        have w4 : wrap64 (4 * w) = 4 * w := wrap_id (by omega) (by omega)
        have wa : wrap64 (-a) = -a := wrap_id (by omega) (by omega)
        obtain ⟨r, e1, r1, r2, r3⟩ := far_l0 (w := w) (a := a) (s := s) h1 h2 h3 (a + s).toNat 0 (k + 1) (by omega) (by omega) (by omega) (fun x _ => by rw [mx_abs]; split <;> omega)
        have hmem := fun x => refL_mem (w := w) (a := a) (s := s) (far := 4 * w) (x := x) (by omega)
        have hlen : (refL w a s (4 * w)).length ≤ 5000 := by
          unfold refL
          refine Nat.le_trans (List.length_filter_le _ _) ?_
          rw [List.length_map, List.length_range]
          omega
        obtain ⟨q, f1, f2, f3, f4⟩ := impl_l0 (s := s) (by omega) (refL w a s (4 * w)) (by omega) (fun x hx => by have := ((hmem x).1 hx).1; omega) (refL w a s (4 * w)).length 0 (-a) k (by omega) (by omega) (by omega)
        simp only [Bool.and_self, if_true, Bool.not_true, impl_NearestImage.j0, Bool.false_eq_true, if_false]
        rw [w4, wa, near_eq h1 h2 h3 (by omega)]
        have e1' : spec_miFar.f (k + 1) w a s 1 = some [r] := e1
        rw [e1']
        simp only [Option.bind_some]
        refine ⟨(r, true), by rw [if_pos (by simp)]; rfl, ?_⟩
        have hin : r ∈ refL w a s (4 * w) := (hmem r).2 ⟨by rw [mx_abs] at r3; split at r3 <;> omega, r1⟩
        have hq : isIm w a q = true := by
          rcases f2 with h | h
          · rw [h]; unfold isIm; rw [decide_eq_true (show 2 * w ∣ -a + a from ⟨0, by omega⟩), Bool.true_or]
          · exact ((hmem q).1 h).2
        obtain ⟨j, hj, hjr⟩ := List.getElem_of_mem hin
        have n1 := f4 j (Nat.zero_le _) hj
        rw [hjr] at n1
        have n2 := r2 q hq
        have : q = r := by
          unfold lt at n1 n2
          rw [mx_abs, mx_abs] at n1 n2
          split at n1 <;> split at n1 <;> simp_all <;> omega
        rw [← this]
        exact f1
  obtain ⟨z, h1, h2⟩ := key
  unfold laws_FnExactNearestImage.f
  simp only [h1, h2, Option.bind_some, if_true, bne_self_eq_false, laws_FnExactNearestImage.j0, Bool.false_eq_true, if_false]
end LFnExactNearestImage

theorem FnExactNearestImage : laws_FnExactNearestImage.Pure := LFnExactNearestImage.main

end Go.Proofs.Ytgepcafeldhncaa.Pure
