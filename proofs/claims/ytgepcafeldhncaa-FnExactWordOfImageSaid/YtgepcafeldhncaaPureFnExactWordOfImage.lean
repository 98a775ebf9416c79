/- For every corridor, place and image the program's WordOfImage and the reference's give the same; no condition beyond the numbers' kinds. -/
import Derived.Test.YtgepcafeldhncaaPFnExactWordOfImagex2
namespace Go.Proofs.Ytgepcafeldhncaa.Pure
open Go.RowKit Go.Proofs.Ytgepcafeldhncaa.PFnExactWordOfImage Go.Proofs.YtgepcafeldhncaaW.PrintWords Go.Proofs.YtgepcafeldhncaaW.PrintLast
set_option linter.unusedVariables false
set_option linter.unusedSimpArgs false

namespace LFnExactWordOfImage
theorem within_eq (a b c : Int) : impl_within.f a b c = some (decide (b ≤ a ∧ a ≤ c)) := by
  by_cases h1 : b ≤ a <;> by_cases h2 : a ≤ c <;> simp [impl_within.f, h1, h2]

theorem l1In_eq (a b c : Int) : spec_l1In.f a b c = some (decide (b ≤ a ∧ a ≤ c)) := by
  by_cases h1 : b ≤ a <;> by_cases h2 : a ≤ c <;> simp [spec_l1In.f, h1, h2]

theorem wrap_id {n : Int} (h0 : -9223372036854775808 ≤ n) (h1 : n ≤ 9223372036854775807) : wrap64 n = n := by
  unfold wrap64
  omega

/-- Both words of so many reflections. -/
def Wd (n : Nat) : List ByteArray := (spec_miWords.f 100 (n : Int)).getD []
def okB (s : ByteArray) : Bool := decide (s.size ≤ 40) && (List.range s.size).all fun i => (bt s (i : Int) == 108 || bt s (i : Int) == 114)
theorem wd_all : ∀ n : Nat, n < 41 → (spec_miWords.f 100 (n : Int) = some (Wd n) ∧ (1 ≤ n → impl_wordsOf.f (n : Int) = some (Wd n)) ∧ (Wd n).length = 2 ∧ (Wd n).all okB = true) := by decide +kernel
theorem wd_zero : impl_wordsOf.f 0 = some [⟨#[]⟩] := by decide +kernel
theorem miWords_eq (n : Nat) (hn : n < 41) (k : Nat) (hk : 100 ≤ k) : spec_miWords.f k (n : Int) = some (Wd n) := by
  have : ∀ d, spec_miWords.f (100 + d) (n : Int) = some (Wd n) := by
    intro d
    induction d with
    | zero => exact (wd_all n hn).1
    | succ d ih => exact spec_miWords.mono _ _ _ ih
  have h := this (k - 100)
  rwa [show 100 + (k - 100) = k by omega] at h
structure okW (s : ByteArray) : Prop where
  size : s.size ≤ 40
  each : ∀ i : Nat, i < s.size → bt s (i : Int) = 108 ∨ bt s (i : Int) = 114
theorem okW_of {s : ByteArray} (h : okB s = true) : okW s := by
  unfold okB at h
  rw [Bool.and_eq_true, decide_eq_true_eq, List.all_eq_true] at h
  refine ⟨h.1, fun i hi => ?_⟩
  have := h.2 i (List.mem_range.2 hi)
  simpa using this
/-- Behind the reflections of a word: both go the same way. -/
theorem after_l0 {w : Int} (hw : 0 ≤ w ∧ w ≤ 500) {s : ByteArray} (hs : okW s) : ∀ (d i : Nat) (a : Int), i + d = s.size → -(1000 * i + 1000) ≤ a → a ≤ 1000 * i + 1000 →
    ∃ z, (∀ k, d < k → spec_miAfter.l0 k w a s i = some z) ∧ (∀ k, d < k → impl_imageAfter.l0 k w a s s.size i = some z) ∧ -(1000 * s.size + 1000) ≤ z ∧ z ≤ 1000 * s.size + 1000 := by
  have h40 := hs.size
  intro d
  induction d with
  | zero =>
    intro i a hi h0 h1
    refine ⟨a, fun k hk => ?_, fun k hk => ?_, by omega, by omega⟩
    · obtain ⟨k, rfl⟩ : ∃ m, k = m + 1 := ⟨k - 1, by omega⟩
      rw [spec_miAfter.l0]
      exact if_neg (by omega)
    · obtain ⟨k, rfl⟩ : ∃ m, k = m + 1 := ⟨k - 1, by omega⟩
      rw [impl_imageAfter.l0]
      exact if_neg (by omega)
  | succ d ih =>
    intro i a hi h0 h1
    have hlt : (i : Int) < (s.size : Int) := by omega
    have hi0 : (0 : Int) ≤ i := by omega
    have w1 : wrap64 (-a) = -a := wrap_id (by omega) (by omega)
    have w2 : wrap64 (2 * w) = 2 * w := wrap_id (by omega) (by omega)
    have w3 : wrap64 (2 * w - a) = 2 * w - a := wrap_id (by omega) (by omega)
    have w4 : wrap64 (-a + 2 * w) = 2 * w - a := by rw [wrap_id (by omega) (by omega)]; omega
    have wi : wrap64 ((i : Int) + 1) = ((i + 1 : Nat) : Int) := by rw [wrap_id (by omega) (by omega)]; omega
    rcases hs.each i (by omega) with c | c
    · obtain ⟨z, e1, e2, b1, b2⟩ := ih (i + 1) (-a) (by omega) (by omega) (by omega)
      refine ⟨z, fun k hk => ?_, fun k hk => ?_, b1, b2⟩
      · obtain ⟨k, rfl⟩ : ∃ m, k = m + 1 := ⟨k - 1, by omega⟩
        rw [spec_miAfter.l0, w1, wi]
        exact (if_pos hlt).trans ((if_pos hi0).trans ((if_pos c).trans (e1 k (by omega))))
      · obtain ⟨k, rfl⟩ : ∃ m, k = m + 1 := ⟨k - 1, by omega⟩
        rw [impl_imageAfter.l0, w1, wi]
        exact (if_pos hlt).trans ((if_pos hi0).trans ((if_pos hlt).trans ((if_neg (by rw [c]; omega)).trans (e2 k (by omega)))))
    · obtain ⟨z, e1, e2, b1, b2⟩ := ih (i + 1) (2 * w - a) (by omega) (by omega) (by omega)
      refine ⟨z, fun k hk => ?_, fun k hk => ?_, b1, b2⟩
      · obtain ⟨k, rfl⟩ : ∃ m, k = m + 1 := ⟨k - 1, by omega⟩
        rw [spec_miAfter.l0, w2, w3, wi]
        exact (if_pos hlt).trans ((if_pos hi0).trans ((if_neg (by rw [c]; omega)).trans (e1 k (by omega))))
      · obtain ⟨k, rfl⟩ : ∃ m, k = m + 1 := ⟨k - 1, by omega⟩
        rw [impl_imageAfter.l0, w1, w2, w4, wi]
        exact (if_pos hlt).trans ((if_pos hi0).trans ((if_pos hlt).trans ((if_pos c).trans (e2 k (by omega)))))
theorem after_eq {w a : Int} (hw : 0 ≤ w ∧ w ≤ 500) (ha : 0 ≤ a ∧ a ≤ 500) {s : ByteArray} (hs : okW s) : ∃ z, (∀ k, 50 ≤ k → spec_miAfter.f k w a s = some z) ∧ (∀ k, 50 ≤ k → impl_imageAfter.f k w a s = some z) := by
  have := hs.size
  obtain ⟨z, e1, e2, _⟩ := after_l0 hw hs s.size 0 a (by omega) (by omega) (by omega)
  exact ⟨z, fun k hk => e1 k (by omega), fun k hk => e2 k (by omega)⟩
theorem two_of {l : List ByteArray} (h : l.length = 2) (ho : l.all okB = true) : ∃ x y, l = [x, y] ∧ okW x ∧ okW y := by
  match l, h with
  | [x, y], _ =>
    simp at ho
    exact ⟨x, y, rfl, okW_of ho.1, okW_of ho.2⟩

def cg (w a : Int) : Bool := decide ((1 ≤ w ∧ w ≤ 500) ∧ 0 ≤ a ∧ a ≤ w)
theorem miGood_eq (w a : Int) : spec_miGood.f w a = some (cg w a) := by
  unfold spec_miGood.f
  simp only [l1In_eq, Option.bind_some, cg]
  by_cases h1 : 1 ≤ w ∧ w ≤ 500 <;> by_cases h2 : 0 ≤ a ∧ a ≤ w <;> simp [h1, h2]
theorem isCorridor_eq (w a : Int) : impl_isCorridor.f w a = some (cg w a) := by
  unfold impl_isCorridor.f
  simp only [within_eq, Option.bind_some, cg]
  by_cases h1 : 1 ≤ w ∧ w ≤ 500 <;> by_cases h2 : 0 ≤ a ∧ a ≤ w <;> simp [h1, h2]
theorem cg_of {w a : Int} (h : cg w a = true) : (1 ≤ w ∧ w ≤ 500) ∧ 0 ≤ a ∧ a ≤ w := of_decide_eq_true h

theorem loop {w a : Int} (hw : 0 ≤ w ∧ w ≤ 500) (ha : 0 ≤ a ∧ a ≤ 500) (im : Int) : ∀ (d m : Nat), m + d = 41 → 1 ≤ m →
    ∃ z, (∀ k, 200 + 4 * d ≤ k → spec_WordOfImage.l0 k w a im m = some z) ∧ (∀ k, 200 + 4 * d ≤ k → impl_WordOfImage.l0 k w a im m = some z) := by
  intro d
  induction d with
  | zero =>
    intro m hm h1
    refine ⟨(⟨#[]⟩, false), fun k hk => ?_, fun k hk => ?_⟩
    · obtain ⟨k, rfl⟩ : ∃ m, k = m + 1 := ⟨k - 1, by omega⟩
      rw [spec_WordOfImage.l0]
      exact if_neg (by omega)
    · obtain ⟨k, rfl⟩ : ∃ m, k = m + 1 := ⟨k - 1, by omega⟩
      rw [impl_WordOfImage.l0]
      exact if_neg (by omega)
  | succ d ih =>
    intro m hm h1
    obtain ⟨z, s1, s2⟩ := ih (m + 1) (by omega) (by omega)
    obtain ⟨_, g2, g3, g4⟩ := wd_all m (by omega)
    obtain ⟨x, y, hxy, ox, oy⟩ := two_of g3 g4
    obtain ⟨zx, x1, x2⟩ := after_eq hw ha ox
    obtain ⟨zy, y1, y2⟩ := after_eq hw ha oy
    have h40 : (m : Int) ≤ 40 := by omega
    have wm : wrap64 ((m : Int) + 1) = ((m + 1 : Nat) : Int) := by rw [wrap_id (by omega) (by omega)]; omega
    have v0 : wrap64 ((0 : Int) + 1) = 1 := wrap_id (by omega) (by omega)
    have v1 : wrap64 ((1 : Int) + 1) = 2 := wrap_id (by omega) (by omega)
    have lp : ((([x, y] : List ByteArray).length : Nat) : Int) = 2 := rfl
    have q0 : rdOf ByteArray.empty [x, y] 0 = x := rfl
    have q1 : rdOf ByteArray.empty [x, y] 1 = y := rfl
    have c0 : (0 : Int) < 2 := by omega
    have c1 : (1 : Int) < 2 := by omega
    have c2 : ¬ (2 : Int) < 2 := by omega
    have p0 : (0 : Int) ≤ 0 := by omega
    have p1 : (0 : Int) ≤ 1 := by omega
    refine ⟨if zx = im then (x, true) else if zy = im then (y, true) else z, fun k hk => ?_, fun k hk => ?_⟩
    · obtain ⟨k, rfl⟩ : ∃ m, k = m + 4 := ⟨k - 4, by omega⟩
      rw [spec_WordOfImage.l0, miWords_eq m (by omega) (k + 3) (by omega), hxy]
      refine (if_pos h40).trans ?_
      show spec_WordOfImage.l1 (k + 3) w a im m [x, y] 2 0 = _
      rw [spec_WordOfImage.l1, lp, q0, x1 (k + 2) (by omega), v0]
      refine (if_pos c0).trans ((if_pos p0).trans ((if_pos c0).trans ?_))
      show (if zx = im then some (x, true) else spec_WordOfImage.l1 (k + 2) w a im m [x, y] 2 1) = _
      by_cases e1 : zx = im
      · rw [if_pos e1, if_pos e1]
      · rw [if_neg e1, if_neg e1, spec_WordOfImage.l1, lp, q1, y1 (k + 1) (by omega), v1]
        refine (if_pos c1).trans ((if_pos p1).trans ((if_pos c1).trans ?_))
        show (if zy = im then some (y, true) else spec_WordOfImage.l1 (k + 1) w a im m [x, y] 2 2) = _
        by_cases e2 : zy = im
        · rw [if_pos e2, if_pos e2]
        · rw [if_neg e2, if_neg e2, spec_WordOfImage.l1, wm]
          exact (if_neg c2).trans (s1 k (by omega))
    · obtain ⟨k, rfl⟩ : ∃ m, k = m + 4 := ⟨k - 4, by omega⟩
      rw [impl_WordOfImage.l0, g2 h1, hxy]
      refine (if_pos h40).trans ?_
      show impl_WordOfImage.l1 (k + 3) w a im m [x, y] 2 0 = _
      rw [impl_WordOfImage.l1, lp, q0, x2 (k + 2) (by omega), v0]
      refine (if_pos c0).trans ((if_pos p0).trans ((if_pos c0).trans ?_))
      show (if zx = im then some (x, true) else impl_WordOfImage.l1 (k + 2) w a im m [x, y] 2 1) = _
      by_cases e1 : zx = im
      · rw [if_pos e1, if_pos e1]
      · rw [if_neg e1, if_neg e1, impl_WordOfImage.l1, lp, q1, y2 (k + 1) (by omega), v1]
        refine (if_pos c1).trans ((if_pos p1).trans ((if_pos c1).trans ?_))
        show (if zy = im then some (y, true) else impl_WordOfImage.l1 (k + 1) w a im m [x, y] 2 2) = _
        by_cases e2 : zy = im
        · rw [if_pos e2, if_pos e2]
        · rw [if_neg e2, if_neg e2, impl_WordOfImage.l1, wm]
          exact (if_neg c2).trans (s2 k (by omega))
theorem first {w a : Int} (im : Int) (k : Nat) : impl_WordOfImage.l0 (k + 3) w a im 0 = if a = im then some (⟨#[]⟩, true) else impl_WordOfImage.l0 k w a im 1 := by
  have v0 : wrap64 ((0 : Int) + 1) = 1 := wrap_id (by omega) (by omega)
  have lp : ((([⟨#[]⟩] : List ByteArray).length : Nat) : Int) = 1 := rfl
  have q0 : rdOf ByteArray.empty [⟨#[]⟩] 0 = ⟨#[]⟩ := rfl
  have c0 : (0 : Int) < 1 := by omega
  have p0 : (0 : Int) ≤ 0 := by omega
  have h40 : (0 : Int) ≤ 40 := by omega
  have hi : impl_imageAfter.f (k + 1) w a ⟨#[]⟩ = some a := by
    unfold impl_imageAfter.f
    rw [impl_imageAfter.l0]
    exact if_neg (show ¬ (0 : Int) < ((0 : Nat) : Int) by omega)
  rw [impl_WordOfImage.l0, wd_zero]
  refine (if_pos h40).trans ?_
  show impl_WordOfImage.l1 (k + 2) w a im 0 [⟨#[]⟩] 1 0 = _
  rw [impl_WordOfImage.l1, lp, q0, hi, v0]
  refine (if_pos c0).trans ((if_pos p0).trans ((if_pos c0).trans ?_))
  show (if a = im then some ((⟨#[]⟩ : ByteArray), true) else impl_WordOfImage.l1 (k + 1) w a im 0 [⟨#[]⟩] 1 1) = _
  by_cases e1 : a = im
  · rw [if_pos e1, if_pos e1]
  · rw [if_neg e1, if_neg e1, impl_WordOfImage.l1, v0]
    exact if_neg (show ¬ (1 : Int) < 1 by omega)
theorem main : laws_FnExactWordOfImage.Pure := by
  intro w a im _ _ _
  obtain ⟨k, hk⟩ : ∃ k : Nat, 1000 ≤ k := ⟨1000, Nat.le_refl _⟩
  refine ⟨k + 4, ?_⟩
  have key : ∃ z, spec_WordOfImage.f (k + 4) w a im = some z ∧ impl_WordOfImage.f (k + 4) w a im = some z := by
    unfold spec_WordOfImage.f impl_WordOfImage.f
    rw [miGood_eq, isCorridor_eq]
    simp only [Option.bind_some]
    cases h : cg w a with
    | false => exact ⟨(⟨#[]⟩, false), by simp [spec_WordOfImage.j0], by simp [impl_WordOfImage.j0]⟩
    | true =>
      obtain ⟨h1, h2, h3⟩ := cg_of h
      rw [if_pos rfl, if_pos rfl, l1In_eq, within_eq]
      simp only [Option.bind_some]
      by_cases c : -100000 ≤ im ∧ im ≤ 100000
      · obtain ⟨z, s1, s2⟩ := loop (w := w) (a := a) ⟨by omega, by omega⟩ ⟨by omega, by omega⟩ im 40 1 (by omega) (by omega)
        rw [decide_eq_true c]
        simp only [Bool.not_true, spec_WordOfImage.j0, impl_WordOfImage.j0, Bool.false_eq_true, if_false]
        refine ⟨if im = a then (⟨#[]⟩, true) else z, ?_, ?_⟩
        · by_cases e : im = a
          · rw [if_pos e, if_pos e]
          · rw [if_neg e, if_neg e]
            exact s1 (k + 3) (by omega)
        · rw [first]
          by_cases e : im = a
          · rw [if_pos e, if_pos e.symm]
          · rw [if_neg e, if_neg (fun h => e h.symm)]
            exact s2 k (by omega)
      · rw [decide_eq_false c]
        exact ⟨(⟨#[]⟩, false), by simp [spec_WordOfImage.j0], by simp [impl_WordOfImage.j0]⟩
  obtain ⟨z, h1, h2⟩ := key
  unfold laws_FnExactWordOfImage.f
  simp only [h1, h2, Option.bind_some, if_true, bne_self_eq_false, laws_FnExactWordOfImage.j0, Bool.false_eq_true, if_false]
end LFnExactWordOfImage

theorem FnExactWordOfImage : laws_FnExactWordOfImage.Pure := LFnExactWordOfImage.main

end Go.Proofs.Ytgepcafeldhncaa.Pure
