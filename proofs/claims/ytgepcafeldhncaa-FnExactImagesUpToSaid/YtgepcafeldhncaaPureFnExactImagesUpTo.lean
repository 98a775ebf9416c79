/- For every corridor, place and number the program's ImagesUpTo and the reference's give the same; no condition beyond the numbers' kinds. -/
import Derived.Test.YtgepcafeldhncaaPFnExactImagesUpTox4
namespace Go.Proofs.Ytgepcafeldhncaa.Pure
open Go.RowKit Go.Proofs.Ytgepcafeldhncaa.PFnExactImagesUpTo Go.Proofs.YtgepcafeldhncaaW.PrintWords Go.Proofs.YtgepcafeldhncaaW.PrintLast
set_option linter.unusedVariables false
set_option linter.unusedSimpArgs false

namespace LFnExactImagesUpTo
theorem within_eq (a b c : Int) : impl_within.f a b c = some (decide (b ≤ a ∧ a ≤ c)) := by
  by_cases h1 : b ≤ a <;> by_cases h2 : a ≤ c <;> simp [impl_within.f, h1, h2]

theorem l1In_eq (a b c : Int) : spec_l1In.f a b c = some (decide (b ≤ a ∧ a ≤ c)) := by
  by_cases h1 : b ≤ a <;> by_cases h2 : a ≤ c <;> simp [spec_l1In.f, h1, h2]

theorem wrap_id {n : Int} (h0 : -9223372036854775808 ≤ n) (h1 : n ≤ 9223372036854775807) : wrap64 n = n := by
  unfold wrap64
  omega

theorem eqIntS_l0 (l : List Int) (hl : l.length ≤ 1000000000) (d : Nat) : ∀ (k i : Nat), i + d = l.length → d < k → laws_eqIntS.l0 k l l i = some true := by
  induction d with
  | zero =>
    intro k i hi hk
    obtain ⟨k, rfl⟩ : ∃ m, k = m + 1 := ⟨k - 1, by omega⟩
    simp only [laws_eqIntS.l0]
    rw [if_neg (by omega)]
  | succ d ih =>
    intro k i hi hk
    obtain ⟨k, rfl⟩ : ∃ m, k = m + 1 := ⟨k - 1, by omega⟩
    have e : wrap64 ((i : Int) + 1) = ((i + 1 : Nat) : Int) := by rw [wrap_id (by omega) (by omega)]; omega
    simp only [laws_eqIntS.l0]
    rw [if_pos (by omega), if_pos (by omega), if_pos (by omega)]
    simp only [if_true]
    rw [e]
    exact ih k (i + 1) (by omega) (by omega)
theorem eqIntS_same (k : Nat) (l : List Int) (hl : l.length ≤ 1000000000) (hk : l.length < k) : laws_eqIntS.f k l l = some true := by
  unfold laws_eqIntS.f
  rw [if_pos rfl]
  exact eqIntS_l0 l hl l.length k 0 (by omega) hk

/-- The numbers m, m + 1, .., as many as told. -/
def upto (m : Int) (n : Nat) : List Int := (List.range n).map fun j : Nat => m + (j : Int)
theorem upto_len (m : Int) (n : Nat) : (upto m n).length = n := by simp [upto]
theorem mark_l0 (m : Int) (h0 : 0 ≤ m) (h1 : m ≤ 1000000000) : ∀ (rest : List Int) (k i : Nat), rest.length < k → i + rest.length ≤ 1000000000 →
    laws_markIntS.l0 k (upto m i ++ rest) (m + i) i = some (m + ((i + rest.length : Nat) : Int), upto m (i + rest.length)) := by
  intro rest
  induction rest with
  | nil =>
    intro k i hk hb
    obtain ⟨k, rfl⟩ : ∃ m, k = m + 1 := ⟨k - 1, by simp at hk; omega⟩
    simp only [laws_markIntS.l0]
    rw [if_neg (by simp [upto_len])]
    simp
  | cons y ys ih =>
    intro k i hk hb
    simp only [List.length_cons] at hk hb ⊢
    obtain ⟨k, rfl⟩ : ∃ m, k = m + 1 := ⟨k - 1, by omega⟩
    have e1 : wrap64 ((i : Int) + 1) = ((i + 1 : Nat) : Int) := by rw [wrap_id (by omega) (by omega)]; omega
    have e2 : wrap64 (m + (i : Int) + 1) = m + ((i + 1 : Nat) : Int) := by rw [wrap_id (by omega) (by omega)]; omega
    have e3 : (upto m i ++ y :: ys).set ((i : Int)).toNat (m + (i : Int)) = upto m (i + 1) ++ ys := by
      rw [Int.toNat_natCast, List.set_append_right _ _ (by rw [upto_len]; exact Nat.le_refl _), upto_len, Nat.sub_self]
      simp [upto, List.range_succ]
    simp only [laws_markIntS.l0]
    rw [if_pos (by simp [upto_len]; omega), if_pos (by omega), e3, e1, e2, ih k (i + 1) (by omega) (by omega), show i + (ys.length + 1) = i + 1 + ys.length by omega]
theorem mark_eq (k : Nat) (l : List Int) (m : Int) (h0 : 0 ≤ m) (h1 : m ≤ 1000000000) (hl : l.length ≤ 1000000000) (hk : l.length < k) :
    laws_markIntS.f k l m = some (m + (l.length : Int), upto m l.length) := by
  have := mark_l0 m h0 h1 l k 0 hk (by omega)
  simpa [upto, laws_markIntS.f] using this
theorem held_l0 (m : Int) (n : Nat) (h0 : 0 ≤ m) (h1 : m ≤ 1000000000) (hn : n ≤ 1000000000) (d : Nat) : ∀ (k i : Nat), i + d = n → d < k →
    laws_heldIntS.l0 k (upto m n) (m + i) i = some (m + (n : Int)) := by
  induction d with
  | zero =>
    intro k i hi hk
    obtain ⟨k, rfl⟩ : ∃ m, k = m + 1 := ⟨k - 1, by omega⟩
    simp only [laws_heldIntS.l0]
    rw [if_neg (by simp [upto_len]; omega), show i = n by omega]
  | succ d ih =>
    intro k i hi hk
    obtain ⟨k, rfl⟩ : ∃ m, k = m + 1 := ⟨k - 1, by omega⟩
    have e1 : wrap64 ((i : Int) + 1) = ((i + 1 : Nat) : Int) := by rw [wrap_id (by omega) (by omega)]; omega
    have e2 : wrap64 (m + (i : Int) + 1) = m + ((i + 1 : Nat) : Int) := by rw [wrap_id (by omega) (by omega)]; omega
    have e3 : rd (upto m n) (i : Int) = m + (i : Int) := by
      unfold rd upto
      rw [Int.toNat_natCast, List.getD_eq_getElem?_getD, List.getElem?_map, List.getElem?_range (by omega)]
      rfl
    simp only [laws_heldIntS.l0]
    rw [if_pos (by simp [upto_len]; omega), if_pos (by omega), e3, if_pos rfl, e1, e2, ih k (i + 1) (by omega) (by omega)]
theorem held_eq (k n : Nat) (m : Int) (h0 : 0 ≤ m) (h1 : m ≤ 1000000000) (hn : n ≤ 1000000000) (hk : n < k) : laws_heldIntS.f k (upto m n) m = some (m + (n : Int)) := by
  have := held_l0 m n h0 h1 hn n k 0 (by omega) hk
  simpa [laws_heldIntS.f] using this

/-- Both words of so many reflections. -/
def Wd (n : Nat) : List ByteArray := (spec_miWords.f 100 (n : Int)).getD []
def okB (s : ByteArray) : Bool := decide (s.size ≤ 40) && (List.range s.size).all fun i => (bt s (i : Int) == 108 || bt s (i : Int) == 114)
theorem wd_all : ∀ n : Nat, n < 41 → (spec_miWords.f 100 (n : Int) = some (Wd n) ∧ (1 ≤ n → impl_wordsOf.f (n : Int) = some (Wd n)) ∧ (Wd n).length = 2 ∧ (Wd n).all okB = true) := by decide +kernel
theorem wd_zero : impl_wordsOf.f 0 = some [⟨#[]⟩] := by decide +kernel
theorem miWords_eq (n : Nat) (hn : n < 41) (k : Nat) (hk : 100 ≤ k) : spec_miWords.f k (n : Int) = some (Wd n) := by
  have : ∀ d, spec_miWords.f (100 + d) (n : Int) = some (Wd n) := by
    intro d
    induction d with
    | zero => exact (wd_all n hn).1
    | succ d ih => exact spec_miWords.mono _ _ _ ih
  have h := this (k - 100)
  rwa [show 100 + (k - 100) = k by omega] at h
structure okW (s : ByteArray) : Prop where
  size : s.size ≤ 40
  each : ∀ i : Nat, i < s.size → bt s (i : Int) = 108 ∨ bt s (i : Int) = 114
theorem okW_of {s : ByteArray} (h : okB s = true) : okW s := by
  unfold okB at h
  rw [Bool.and_eq_true, decide_eq_true_eq, List.all_eq_true] at h
  refine ⟨h.1, fun i hi => ?_⟩
  have := h.2 i (List.mem_range.2 hi)
  simpa using this
/-- Behind the reflections of a word: both go the same way. -/
theorem after_l0 {w : Int} (hw : 0 ≤ w ∧ w ≤ 500) {s : ByteArray} (hs : okW s) : ∀ (d i : Nat) (a : Int), i + d = s.size → -(1000 * i + 1000) ≤ a → a ≤ 1000 * i + 1000 →
    ∃ z, (∀ k, d < k → spec_miAfter.l0 k w a s i = some z) ∧ (∀ k, d < k → impl_imageAfter.l0 k w a s s.size i = some z) ∧ -(1000 * s.size + 1000) ≤ z ∧ z ≤ 1000 * s.size + 1000 := by
  have h40 := hs.size
  intro d
  induction d with
  | zero =>
    intro i a hi h0 h1
    refine ⟨a, fun k hk => ?_, fun k hk => ?_, by omega, by omega⟩
    · obtain ⟨k, rfl⟩ : ∃ m, k = m + 1 := ⟨k - 1, by omega⟩
      rw [spec_miAfter.l0]
      exact if_neg (by omega)
    · obtain ⟨k, rfl⟩ : ∃ m, k = m + 1 := ⟨k - 1, by omega⟩
      rw [impl_imageAfter.l0]
      exact if_neg (by omega)
  | succ d ih =>
    intro i a hi h0 h1
    have hlt : (i : Int) < (s.size : Int) := by omega
    have hi0 : (0 : Int) ≤ i := by omega
    have w1 : wrap64 (-a) = -a := wrap_id (by omega) (by omega)
    have w2 : wrap64 (2 * w) = 2 * w := wrap_id (by omega) (by omega)
    have w3 : wrap64 (2 * w - a) = 2 * w - a := wrap_id (by omega) (by omega)
    have w4 : wrap64 (-a + 2 * w) = 2 * w - a := by rw [wrap_id (by omega) (by omega)]; omega
    have wi : wrap64 ((i : Int) + 1) = ((i + 1 : Nat) : Int) := by rw [wrap_id (by omega) (by omega)]; omega
    rcases hs.each i (by omega) with c | c
    · obtain ⟨z, e1, e2, b1, b2⟩ := ih (i + 1) (-a) (by omega) (by omega) (by omega)
      refine ⟨z, fun k hk => ?_, fun k hk => ?_, b1, b2⟩
      · obtain ⟨k, rfl⟩ : ∃ m, k = m + 1 := ⟨k - 1, by omega⟩
        rw [spec_miAfter.l0, w1, wi]
        exact (if_pos hlt).trans ((if_pos hi0).trans ((if_pos c).trans (e1 k (by omega))))
      · obtain ⟨k, rfl⟩ : ∃ m, k = m + 1 := ⟨k - 1, by omega⟩
        rw [impl_imageAfter.l0, w1, wi]
        exact (if_pos hlt).trans ((if_pos hi0).trans ((if_pos hlt).trans ((if_neg (by rw [c]; omega)).trans (e2 k (by omega)))))
    · obtain ⟨z, e1, e2, b1, b2⟩ := ih (i + 1) (2 * w - a) (by omega) (by omega) (by omega)
      refine ⟨z, fun k hk => ?_, fun k hk => ?_, b1, b2⟩
      · obtain ⟨k, rfl⟩ : ∃ m, k = m + 1 := ⟨k - 1, by omega⟩
        rw [spec_miAfter.l0, w2, w3, wi]
        exact (if_pos hlt).trans ((if_pos hi0).trans ((if_neg (by rw [c]; omega)).trans (e1 k (by omega))))
      · obtain ⟨k, rfl⟩ : ∃ m, k = m + 1 := ⟨k - 1, by omega⟩
        rw [impl_imageAfter.l0, w1, w2, w4, wi]
        exact (if_pos hlt).trans ((if_pos hi0).trans ((if_pos hlt).trans ((if_pos c).trans (e2 k (by omega)))))
theorem after_eq {w a : Int} (hw : 0 ≤ w ∧ w ≤ 500) (ha : 0 ≤ a ∧ a ≤ 500) {s : ByteArray} (hs : okW s) : ∃ z, (∀ k, 50 ≤ k → spec_miAfter.f k w a s = some z) ∧ (∀ k, 50 ≤ k → impl_imageAfter.f k w a s = some z) := by
  have := hs.size
  obtain ⟨z, e1, e2, _⟩ := after_l0 hw hs s.size 0 a (by omega) (by omega) (by omega)
  exact ⟨z, fun k hk => e1 k (by omega), fun k hk => e2 k (by omega)⟩
theorem two_of {l : List ByteArray} (h : l.length = 2) (ho : l.all okB = true) : ∃ x y, l = [x, y] ∧ okW x ∧ okW y := by
  match l, h with
  | [x, y], _ =>
    simp at ho
    exact ⟨x, y, rfl, okW_of ho.1, okW_of ho.2⟩

def cg (w a : Int) : Bool := decide ((1 ≤ w ∧ w ≤ 500) ∧ 0 ≤ a ∧ a ≤ w)
theorem miGood_eq (w a : Int) : spec_miGood.f w a = some (cg w a) := by
  unfold spec_miGood.f
  simp only [l1In_eq, Option.bind_some, cg]
  by_cases h1 : 1 ≤ w ∧ w ≤ 500 <;> by_cases h2 : 0 ≤ a ∧ a ≤ w <;> simp [h1, h2]
theorem isCorridor_eq (w a : Int) : impl_isCorridor.f w a = some (cg w a) := by
  unfold impl_isCorridor.f
  simp only [within_eq, Option.bind_some, cg]
  by_cases h1 : 1 ≤ w ∧ w ≤ 500 <;> by_cases h2 : 0 ≤ a ∧ a ≤ w <;> simp [h1, h2]
theorem cg_of {w a : Int} (h : cg w a = true) : (1 ≤ w ∧ w ≤ 500) ∧ 0 ≤ a ∧ a ≤ w := of_decide_eq_true h

theorem strict_eq : ∀ l1 l2 : List Int, l1.Pairwise (fun x y => x < y) → l2.Pairwise (fun x y => x < y) → (∀ x, x ∈ l1 ↔ x ∈ l2) → l1 = l2 := by
  intro l1
  induction l1 with
  | nil =>
    intro l2 _ _ h
    cases l2 with
    | nil => rfl
    | cons y u => exact absurd ((h y).2 (by simp)) (by simp)
  | cons x t ih =>
    intro l2 h1 h2 h
    cases l2 with
    | nil => exact absurd ((h x).1 (by simp)) (by simp)
    | cons y u =>
      rw [List.pairwise_cons] at h1 h2
      have exy : x = y := by
        rcases List.mem_cons.1 ((h x).1 (by simp)) with e | e
        · exact e
        · rcases List.mem_cons.1 ((h y).2 (by simp)) with e2 | e2
          · exact e2.symm
          · have := h2.1 x e
            have := h1.1 y e2
            omega
      subst exy
      congr 1
      refine ih u h1.2 h2.2 (fun z => ?_)
      constructor
      · intro hz
        rcases List.mem_cons.1 ((h z).1 (by simp [hz])) with e | e
        · have := h1.1 z hz; omega
        · exact e
      · intro hz
        rcases List.mem_cons.1 ((h z).2 (by simp [hz])) with e | e
        · have := h2.1 z hz; omega
        · exact e
theorem get_le {zs : List Int} (hs : zs.Pairwise (fun x y => x ≤ y)) {i j : Nat} (hij : i ≤ j) (hj : j < zs.length) : zs.toArray[i]! ≤ zs.toArray[j]! := by
  have e : ∀ k, k < zs.length → ∀ hk : k < zs.length, zs.toArray[k]! = zs[k] := fun k _ hk => by simp [hk]
  rw [e i (by omega) (by omega), e j hj hj]
  rcases Nat.eq_or_lt_of_le hij with h | h
  · subst h; exact Int.le_refl _
  · exact List.pairwise_iff_getElem.1 hs i j (by omega) hj h
theorem mem_compact {zs : List Int} (x : Int) : x ∈ Lib.compact zs ↔ x ∈ zs := by
  unfold Lib.compact Lib.compactUpTo
  rw [List.mem_map]
  have e : ∀ k, ∀ hk : k < zs.length, zs.toArray[k]! = zs[k] := fun k hk => by simp [hk]
  constructor
  · rintro ⟨j, hj, rfl⟩
    have hj2 : j < zs.length := List.mem_range.1 (List.mem_filter.1 hj).1
    rw [e j hj2]
    exact List.getElem_mem _
  · intro hx
    obtain ⟨i, hi, rfl⟩ := List.getElem_of_mem hx
    -- the first place that holds it
    have key : ∀ i, (hi : i < zs.length) → ∃ j, j < zs.length ∧ zs.toArray[j]! = zs[i] ∧ Lib.keeps zs.toArray j = true := by
      intro i
      induction i with
      | zero => intro hi; exact ⟨0, hi, e 0 hi, by simp [Lib.keeps]⟩
      | succ i ih =>
        intro hi
        by_cases c : zs.toArray[i + 1]! = zs.toArray[i + 1 - 1]!
        · obtain ⟨j, h1, h2, h3⟩ := ih (by omega)
          refine ⟨j, h1, ?_, h3⟩
          rw [h2, ← e i (by omega), ← e (i + 1) hi]
          exact c.symm
        · exact ⟨i + 1, hi, e _ hi, Lib.keeps_pos c⟩
    obtain ⟨j, h1, h2, h3⟩ := key i hi
    exact ⟨j, List.mem_filter.2 ⟨List.mem_range.2 h1, h3⟩, h2⟩
theorem compact_strict {zs : List Int} (hs : zs.Pairwise (fun x y => x ≤ y)) : (Lib.compact zs).Pairwise (fun x y => x < y) := by
  unfold Lib.compact Lib.compactUpTo
  rw [List.pairwise_map, List.pairwise_filter]
  refine List.Pairwise.imp_of_mem ?_ List.pairwise_lt_range
  intro i j hi hj hij h1 h2
  have hj2 : j < zs.length := List.mem_range.1 hj
  have hne : zs.toArray[j]! ≠ zs.toArray[j - 1]! := by
    unfold Lib.keeps at h2
    have := of_decide_eq_true h2
    rcases this with h | h
    · omega
    · exact h
  have a := get_le hs (show i ≤ j - 1 by omega) (by omega)
  have b := get_le hs (show j - 1 ≤ j by omega) hj2
  omega
theorem inc_strict (ys : List Int) : (Lib.compact (ys.mergeSort fun x y => decide (x ≤ y))).Pairwise (fun x y => x < y) := by
  refine compact_strict ?_
  have := List.pairwise_mergeSort (le := fun x y : Int => decide (x ≤ y)) (fun a b c h1 h2 => by simp at *; omega) (fun a b => by simp; omega) ys
  exact this.imp (fun h => by simpa using h)
theorem inc_mem (ys : List Int) (x : Int) : x ∈ Lib.compact (ys.mergeSort fun x y => decide (x ≤ y)) ↔ x ∈ ys := by
  rw [mem_compact, List.mem_mergeSort]

theorem rd_get {l : List Int} {i : Nat} (h : i < l.length) : rd l (i : Int) = l[i] := by
  unfold rd
  rw [Int.toNat_natCast, List.getD_eq_getElem?_getD, List.getElem?_eq_getElem h]
  rfl
/-- A number put into a row that rises. -/
theorem put_l0 {l : List Int} (hs : l.Pairwise (fun x y => x < y)) (hl : l.length ≤ 1000) (x : Int) : ∀ (d i : Nat), i + d = l.length → (∀ j, (hj : j < l.length) → j < i → l[j] < x) →
    ∃ l', (∀ k, 2 * d + 5 ≤ k → spec_l1Put.l0 k l x i = some l') ∧ l'.Pairwise (fun x y => x < y) ∧ (∀ z, z ∈ l' ↔ z ∈ l ∨ z = x) ∧ l'.length ≤ l.length + 1 := by
  have ins : ∀ (i : Nat), i ≤ l.length → (∀ j, (hj : j < l.length) → j < i → l[j] < x) → (∀ j, (hj : j < l.length) → i ≤ j → x < l[j]) →
      (∀ k, spec_l1Put.j2 (k + 1) l x i false = some (l.take i ++ [x] ++ l.drop i)) ∧ (l.take i ++ [x] ++ l.drop i).Pairwise (fun x y => x < y) ∧ (∀ z, z ∈ l.take i ++ [x] ++ l.drop i ↔ z ∈ l ∨ z = x) ∧ (l.take i ++ [x] ++ l.drop i).length ≤ l.length + 1 := by
    intro i hi h1 h2
    have a : ∀ z ∈ l.take i, z < x := by
      intro z hz
      obtain ⟨j, hj, rfl⟩ := List.getElem_of_mem hz
      rw [List.getElem_take]
      rw [List.length_take] at hj
      exact h1 j (by omega) (by omega)
    have b : ∀ z ∈ l.drop i, x < z := by
      intro z hz
      obtain ⟨j, hj, rfl⟩ := List.getElem_of_mem hz
      rw [List.getElem_drop]
      rw [List.length_drop] at hj
      exact h2 (i + j) (by omega) (by omega)
    have e := List.take_append_drop i l
    have hs2 := hs
    rw [← e, List.pairwise_append] at hs2
    refine ⟨fun k => ?_, ?_, fun z => ?_, by simp; omega⟩
    · rw [spec_l1Put.j2, if_neg (fun h => by cases h)]
      simp only [Option.bind_some, List.nil_append, Int.toNat_natCast]
      have l1 : ([] : List Int).length + (l.take i).length < 17592186044416 := by simp; omega
      have l2 : (l.take i).length < 17592186044416 := by simp; omega
      have l3 : (l.take i ++ [x]).length + (l.drop i).length < 17592186044416 := by simp; omega
      rw [if_pos (show (0 : Int) ≤ i by omega), if_pos (show (i : Int) ≤ (l.length : Int) by omega), if_pos l1, if_pos l2, if_pos l3]
    · rw [List.append_assoc, List.pairwise_append]
      refine ⟨hs2.1, ?_, ?_⟩
      · rw [List.singleton_append, List.pairwise_cons]
        exact ⟨b, hs2.2.1⟩
      · intro y hy z hz
        rw [List.singleton_append, List.mem_cons] at hz
        rcases hz with rfl | hz
        · exact a y hy
        · exact hs2.2.2 y hy z hz
    · have : z ∈ l ↔ z ∈ l.take i ∨ z ∈ l.drop i := by rw [← List.mem_append, e]
      rw [this]
      simp only [List.mem_append, List.mem_singleton]
      constructor
      · rintro ((h | h) | h)
        · exact .inl (.inl h)
        · exact .inr h
        · exact .inl (.inr h)
      · rintro ((h | h) | h)
        · exact .inl (.inl h)
        · exact .inr h
        · exact .inl (.inr h)
  intro d
  induction d with
  | zero =>
    intro i hi h1
    obtain rfl : i = l.length := by omega
    obtain ⟨a, b, c, e⟩ := ins l.length (Nat.le_refl _) (fun j hj h => h1 j hj h) (fun j hj h => by omega)
    refine ⟨_, fun k hk => ?_, b, c, e⟩
    obtain ⟨k, rfl⟩ : ∃ m, k = m + 3 := ⟨k - 3, by omega⟩
    have hn : ¬ ((l.length : Nat) : Int) < (l.length : Int) := by omega
    rw [spec_l1Put.l0]
    refine (if_neg hn).trans ?_
    rw [spec_l1Put.j1, if_neg (fun h => by cases h), if_neg hn]
    exact a k
  | succ d ih =>
    intro i hi h1
    have hil : i < l.length := by omega
    have hI : (i : Int) < (l.length : Int) := by omega
    have h0 : (0 : Int) ≤ i := by omega
    have wi : wrap64 ((i : Int) + 1) = ((i + 1 : Nat) : Int) := by rw [wrap_id (by omega) (by omega)]; omega
    by_cases c : l[i] < x
    · obtain ⟨l', a, b, m, e⟩ := ih (i + 1) (by omega) (fun j hj h => by
        rcases Nat.lt_or_ge j i with g | g
        · exact h1 j hj g
        · obtain rfl : j = i := by omega
          exact c)
      refine ⟨l', fun k hk => ?_, b, m, e⟩
      obtain ⟨k, rfl⟩ : ∃ m, k = m + 2 := ⟨k - 2, by omega⟩
      rw [spec_l1Put.l0, rd_get hil, decide_eq_true c]
      refine (if_pos hI).trans ((if_pos h0).trans ?_)
      rw [spec_l1Put.j1, if_pos rfl, wi]
      exact a k (by omega)
    · have red : ∀ k, spec_l1Put.l0 (k + 3) l x i = spec_l1Put.j2 (k + 1) l x i (l[i] == x) := fun k => by
        rw [spec_l1Put.l0, rd_get hil, decide_eq_false c]
        refine (if_pos hI).trans ((if_pos h0).trans ?_)
        rw [spec_l1Put.j1, if_neg (fun h => by cases h), rd_get hil]
        exact (if_pos hI).trans (if_pos h0)
      by_cases e : l[i] = x
      · refine ⟨l, fun k hk => ?_, hs, fun z => ⟨.inl, fun h => h.elim id (fun h => by rw [h, ← e]; exact List.getElem_mem _)⟩, by omega⟩
        obtain ⟨k, rfl⟩ : ∃ m, k = m + 3 := ⟨k - 3, by omega⟩
        rw [red, show (l[i] == x) = true by rw [beq_iff_eq]; exact e, spec_l1Put.j2, if_pos rfl]
      · obtain ⟨a, b, m, q⟩ := ins i (by omega) h1 (fun j hj h => by
          rcases Nat.eq_or_lt_of_le h with g | g
          · subst g; omega
          · have := List.pairwise_iff_getElem.1 hs i j hil hj g
            omega)
        refine ⟨_, fun k hk => ?_, b, m, q⟩
        obtain ⟨k, rfl⟩ : ∃ m, k = m + 3 := ⟨k - 3, by omega⟩
        rw [red, show (l[i] == x) = false by rw [beq_eq_false_iff_ne]; exact e]
        exact a k
theorem put_eq {l : List Int} (hs : l.Pairwise (fun x y => x < y)) (hl : l.length ≤ 200) (x : Int) : ∃ l', (∀ k, 500 ≤ k → spec_l1Put.f k l x = some l') ∧ l'.Pairwise (fun x y => x < y) ∧ (∀ z, z ∈ l' ↔ z ∈ l ∨ z = x) ∧ l'.length ≤ l.length + 1 := by
  obtain ⟨l', a, b⟩ := put_l0 hs (by omega) x l.length 0 (by omega) (fun j _ h => by omega)
  exact ⟨l', fun k hk => a k (by omega), b⟩

theorem v0 : wrap64 ((0 : Int) + 1) = 1 := wrap_id (by omega) (by omega)
theorem v1 : wrap64 ((1 : Int) + 1) = 2 := wrap_id (by omega) (by omega)
theorem lp (x y : ByteArray) : ((([x, y] : List ByteArray).length : Nat) : Int) = 2 := rfl
theorem e0 (x y : ByteArray) : rdOf ByteArray.empty [x, y] 0 = x := rfl
theorem e1 (x y : ByteArray) : rdOf ByteArray.empty [x, y] 1 = y := rfl
theorem small {n : Nat} (h : n ≤ 1000) : n < 17592186044416 := by omega
theorem loop {w a : Int} (hw : 0 ≤ w ∧ w ≤ 500) (ha : 0 ≤ a ∧ a ≤ 500) (most : Int) (hm40 : 0 ≤ most ∧ most ≤ 40) : ∀ (d m : Nat) (S O : List Int), (m : Int) + d = most + 1 → 1 ≤ m → S.Pairwise (fun x y => x < y) → (∀ z, z ∈ S ↔ z ∈ O) → S.length ≤ 2 * m → O.length ≤ 2 * m →
    ∃ R, (∀ k, 1000 + 4 * d ≤ k → spec_miUpTo.l0 k w a most S m = some R) ∧ (∀ k, 1000 + 4 * d ≤ k → impl_ImagesUpTo.l0 k w a most O m = some (R, true)) ∧ R.length ≤ 100 := by
  intro d
  induction d with
  | zero =>
    intro m S O hm h1 hs hz hSl hOl
    refine ⟨S, fun k hk => ?_, fun k hk => ?_, by omega⟩
    · obtain ⟨k, rfl⟩ : ∃ m, k = m + 1 := ⟨k - 1, by omega⟩
      rw [spec_miUpTo.l0]
      exact if_neg (by omega)
    · obtain ⟨k, rfl⟩ : ∃ m, k = m + 1 := ⟨k - 1, by omega⟩
      rw [impl_ImagesUpTo.l0]
      refine (if_neg (by omega)).trans ?_
      unfold impl_increasing.f
      rw [if_pos (by omega)]
      have e : IcInc O = S := by
        unfold IcInc
        refine strict_eq _ _ (inc_strict O) hs (fun z => ?_)
        rw [inc_mem, hz]
      rw [e]
      rfl
  | succ d ih =>
    intro m S O hm h1 hs hz hSl hOl
    obtain ⟨_, g2, g3, g4⟩ := wd_all m (by omega)
    obtain ⟨x, y, hxy, ox, oy⟩ := two_of g3 g4
    obtain ⟨zx, x1, x2⟩ := after_eq hw ha ox
    obtain ⟨zy, y1, y2⟩ := after_eq hw ha oy
    obtain ⟨S1, p1, q1, r1, t1⟩ := put_eq hs (by omega) zx
    obtain ⟨S2, p2, q2, r2, t2⟩ := put_eq q1 (by omega) zy
    obtain ⟨R, s1, s2, hR⟩ := ih (m + 1) S2 (O ++ [zx] ++ [zy]) (by omega) (by omega) q2 (fun z => by
      rw [r2, r1, hz]
      simp only [List.mem_append, List.mem_singleton]) (by omega) (by simp; omega)
    have hle : (m : Int) ≤ most := by omega
    have hm41 : m < 41 := by omega
    have hO1 : O.length ≤ 1000 := by omega
    have hO2 : (O ++ [zx]).length ≤ 1000 := by rw [List.length_append]; show O.length + 1 ≤ 1000; omega
    have wm : wrap64 ((m : Int) + 1) = ((m + 1 : Nat) : Int) := by rw [wrap_id (by omega) (by omega)]; omega
    have c0 : (0 : Int) < 2 := by omega
    have c1 : (1 : Int) < 2 := by omega
    have c2 : ¬ (2 : Int) < 2 := by omega
    have n0 : (0 : Int) ≤ 0 := by omega
    have n1 : (0 : Int) ≤ 1 := by omega
    refine ⟨R, fun k hk => ?_, fun k hk => ?_, hR⟩
    · obtain ⟨k, rfl⟩ : ∃ m, k = m + 4 := ⟨k - 4, by omega⟩
      rw [spec_miUpTo.l0, miWords_eq m hm41 (k + 3) (by omega), hxy]
      refine (if_pos hle).trans ?_
      show spec_miUpTo.l1 (k + 3) w a most S m [x, y] 2 0 = _
      rw [spec_miUpTo.l1, lp, e0, x1 (k + 2) (by omega), v0]
      refine (if_pos c0).trans ((if_pos n0).trans ((if_pos c0).trans ?_))
      rw [Option.bind_some, p1 (k + 2) (by omega), Option.bind_some, spec_miUpTo.l1, lp, e1, y1 (k + 1) (by omega), v1]
      refine (if_pos c1).trans ((if_pos n1).trans ((if_pos c1).trans ?_))
      rw [Option.bind_some, p2 (k + 1) (by omega), Option.bind_some, spec_miUpTo.l1, wm]
      exact (if_neg c2).trans (s1 k (by omega))
    · obtain ⟨k, rfl⟩ : ∃ m, k = m + 4 := ⟨k - 4, by omega⟩
      have l1 : O.length < 17592186044416 := small hO1
      have l2 : (O ++ [zx]).length < 17592186044416 := small hO2
      rw [impl_ImagesUpTo.l0, g2 h1, hxy]
      refine (if_pos hle).trans ?_
      show impl_ImagesUpTo.l1 (k + 3) w a most O m [x, y] 2 0 = _
      rw [impl_ImagesUpTo.l1, lp, e0, x2 (k + 2) (by omega), v0]
      refine (if_pos c0).trans ((if_pos n0).trans ((if_pos c0).trans ?_))
      rw [Option.bind_some, if_pos l1, impl_ImagesUpTo.l1, lp, e1, y2 (k + 1) (by omega), v1]
      refine (if_pos c1).trans ((if_pos n1).trans ((if_pos c1).trans ?_))
      rw [Option.bind_some, if_pos l2, impl_ImagesUpTo.l1, wm]
      exact (if_neg c2).trans (s2 k (by omega))
theorem both (w a most : Int) : ∃ l b, l.length ≤ 100 ∧ (∀ k, 2000 ≤ k → spec_ImagesUpTo.f k w a most = some (l, b)) ∧ (∀ k, 2000 ≤ k → impl_ImagesUpTo.f k w a most = some (l, b)) := by
  cases h : cg w a with
  | false =>
    refine ⟨[], false, by simp, fun k hk => ?_, fun k hk => ?_⟩ <;> obtain ⟨k, rfl⟩ : ∃ m, k = m + 1 := ⟨k - 1, by omega⟩
    · unfold spec_ImagesUpTo.f
      rw [miGood_eq, h]
      simp [spec_ImagesUpTo.j0]
    · unfold impl_ImagesUpTo.f
      rw [isCorridor_eq, h]
      simp [impl_ImagesUpTo.j0]
  | true =>
    obtain ⟨h1, h2, h3⟩ := cg_of h
    by_cases c : 0 ≤ most ∧ most ≤ 40
    · obtain ⟨R, s1, s2, hR⟩ := loop (w := w) (a := a) ⟨by omega, by omega⟩ ⟨by omega, by omega⟩ most c most.toNat 1 [] [] (by omega) (by omega) List.Pairwise.nil (fun z => Iff.rfl) (by simp) (by simp)
      refine ⟨R, true, hR, fun k hk => ?_, fun k hk => ?_⟩ <;> obtain ⟨k, rfl⟩ : ∃ m, k = m + 1 := ⟨k - 1, by omega⟩
      · unfold spec_ImagesUpTo.f
        rw [miGood_eq, h]
        simp only [Option.bind_some, if_true, l1In_eq]
        rw [decide_eq_true c]
        simp only [Bool.not_true, spec_ImagesUpTo.j0, Bool.false_eq_true, if_false]
        have e : spec_miUpTo.f k w a most = some R := s1 k (by omega)
        rw [e]
        rfl
      · unfold impl_ImagesUpTo.f
        rw [isCorridor_eq, h]
        simp only [Option.bind_some, if_true, within_eq]
        rw [decide_eq_true c]
        simp only [Bool.not_true, impl_ImagesUpTo.j0, Bool.false_eq_true, if_false]
        exact s2 k (by omega)
    · refine ⟨[], false, by simp, fun k hk => ?_, fun k hk => ?_⟩ <;> obtain ⟨k, rfl⟩ : ∃ m, k = m + 1 := ⟨k - 1, by omega⟩
      · unfold spec_ImagesUpTo.f
        rw [miGood_eq, h]
        simp only [Option.bind_some, if_true, l1In_eq]
        rw [decide_eq_false c]
        simp [spec_ImagesUpTo.j0]
      · unfold impl_ImagesUpTo.f
        rw [isCorridor_eq, h]
        simp only [Option.bind_some, if_true, within_eq]
        rw [decide_eq_false c]
        simp [impl_ImagesUpTo.j0]
theorem main : laws_FnExactImagesUpTo.Pure := by
  intro w a most _ _ _
  obtain ⟨l, b, hl, hs, hi⟩ := both w a most
  obtain ⟨k, hk⟩ : ∃ k : Nat, 6000 ≤ k := ⟨6000, Nat.le_refl _⟩
  refine ⟨k + 2, ?_⟩
  simp only [laws_FnExactImagesUpTo.f, hs (k + 2) (by omega), hi (k + 2) (by omega), Option.bind_some]
  rw [eqIntS_same (k + 2) l (by omega) (by omega)]
  simp only [Option.bind_some, if_true, bne_self_eq_false, laws_FnExactImagesUpTo.j0, Bool.false_eq_true, if_false]
  rw [mark_eq (k + 1) l 1 (by omega) (by omega) (by omega) (by omega)]
  simp only [Option.bind_some]
  rw [held_eq (k + 1) l.length 1 (by omega) (by omega) (by omega) (by omega)]
  simp only [Option.bind_some, hi (k + 1) (by omega)]
  rw [if_neg (by omega), if_pos trivial, eqIntS_same (k + 1) l (by omega) (by omega)]
  simp only [Option.bind_some, if_true, bne_self_eq_false, laws_FnExactImagesUpTo.j1, Bool.false_eq_true, if_false]
  rw [held_eq k l.length 1 (by omega) (by omega) (by omega) (by omega)]
  simp only [Option.bind_some]
  rw [if_neg (by omega)]
  rfl
end LFnExactImagesUpTo

theorem FnExactImagesUpTo : laws_FnExactImagesUpTo.Pure := LFnExactImagesUpTo.main

end Go.Proofs.Ytgepcafeldhncaa.Pure
