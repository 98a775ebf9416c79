/- For every corridor, place and word the program's ImageAfter and the reference's give the same; no condition beyond the numbers' kinds. -/
import Derived.Test.YtocolopnplachaaDoorPFnExactImageAfterx2
namespace Go.Proofs.YtocolopnplachaaDoor.Pure
open Go.RowKit Go.Proofs.YtocolopnplachaaDoor.PFnExactImageAfter Go.Proofs.YtocolopnplachaaDoorW.PrintWords Go.Proofs.YtocolopnplachaaDoorW.PrintLast
set_option linter.unusedVariables false
set_option linter.unusedSimpArgs false

namespace LFnExactImageAfter
theorem within_eq (a b c : Int) : impl_within.f a b c = some (decide (b ≤ a ∧ a ≤ c)) := by
  by_cases h1 : b ≤ a <;> by_cases h2 : a ≤ c <;> simp [impl_within.f, h1, h2]

theorem l1In_eq (a b c : Int) : spec_l1In.f a b c = some (decide (b ≤ a ∧ a ≤ c)) := by
  by_cases h1 : b ≤ a <;> by_cases h2 : a ≤ c <;> simp [spec_l1In.f, h1, h2]

theorem wrap_id {n : Int} (h0 : -9223372036854775808 ≤ n) (h1 : n ≤ 9223372036854775807) : wrap64 n = n := by
  unfold wrap64
  omega

def okB (s : ByteArray) : Bool := decide (s.size ≤ 40) && (List.range s.size).all fun i => (bt s (i : Int) == 108 || bt s (i : Int) == 114)
structure okW (s : ByteArray) : Prop where
  size : s.size ≤ 40
  each : ∀ i : Nat, i < s.size → bt s (i : Int) = 108 ∨ bt s (i : Int) = 114
theorem okW_of {s : ByteArray} (h : okB s = true) : okW s := by
  unfold okB at h
  rw [Bool.and_eq_true, decide_eq_true_eq, List.all_eq_true] at h
  refine ⟨h.1, fun i hi => ?_⟩
  have := h.2 i (List.mem_range.2 hi)
  simpa using this
/-- Behind the reflections of a word: both go the same way. -/
theorem after_l0 {w : Int} (hw : 0 ≤ w ∧ w ≤ 500) {s : ByteArray} (hs : okW s) : ∀ (d i : Nat) (a : Int), i + d = s.size → -(1000 * i + 1000) ≤ a → a ≤ 1000 * i + 1000 →
    ∃ z, (∀ k, d < k → spec_miAfter.l0 k w a s i = some z) ∧ (∀ k, d < k → impl_imageAfter.l0 k w a s s.size i = some z) ∧ -(1000 * s.size + 1000) ≤ z ∧ z ≤ 1000 * s.size + 1000 := by
  have h40 := hs.size
  intro d
  induction d with
  | zero =>
    intro i a hi h0 h1
    refine ⟨a, fun k hk => ?_, fun k hk => ?_, by omega, by omega⟩
    · obtain ⟨k, rfl⟩ : ∃ m, k = m + 1 := ⟨k - 1, by omega⟩
      rw [spec_miAfter.l0]
      exact if_neg (by omega)
    · obtain ⟨k, rfl⟩ : ∃ m, k = m + 1 := ⟨k - 1, by omega⟩
      rw [impl_imageAfter.l0]
      exact if_neg (by omega)
  | succ d ih =>
    intro i a hi h0 h1
    have hlt : (i : Int) < (s.size : Int) := by omega
    have hi0 : (0 : Int) ≤ i := by omega
    have w1 : wrap64 (-a) = -a := wrap_id (by omega) (by omega)
    have w2 : wrap64 (2 * w) = 2 * w := wrap_id (by omega) (by omega)
    have w3 : wrap64 (2 * w - a) = 2 * w - a := wrap_id (by omega) (by omega)
    have w4 : wrap64 (-a + 2 * w) = 2 * w - a := by rw [wrap_id (by omega) (by omega)]; omega
    have wi : wrap64 ((i : Int) + 1) = ((i + 1 : Nat) : Int) := by rw [wrap_id (by omega) (by omega)]; omega
    rcases hs.each i (by omega) with c | c
    · obtain ⟨z, e1, e2, b1, b2⟩ := ih (i + 1) (-a) (by omega) (by omega) (by omega)
      refine ⟨z, fun k hk => ?_, fun k hk => ?_, b1, b2⟩
      · obtain ⟨k, rfl⟩ : ∃ m, k = m + 1 := ⟨k - 1, by omega⟩
        rw [spec_miAfter.l0, w1, wi]
        exact (if_pos hlt).trans ((if_pos hi0).trans ((if_pos c).trans (e1 k (by omega))))
      · obtain ⟨k, rfl⟩ : ∃ m, k = m + 1 := ⟨k - 1, by omega⟩
        rw [impl_imageAfter.l0, w1, wi]
        exact (if_pos hlt).trans ((if_pos hi0).trans ((if_pos hlt).trans ((if_neg (by rw [c]; omega)).trans (e2 k (by omega)))))
    · obtain ⟨z, e1, e2, b1, b2⟩ := ih (i + 1) (2 * w - a) (by omega) (by omega) (by omega)
      refine ⟨z, fun k hk => ?_, fun k hk => ?_, b1, b2⟩
      · obtain ⟨k, rfl⟩ : ∃ m, k = m + 1 := ⟨k - 1, by omega⟩
        rw [spec_miAfter.l0, w2, w3, wi]
        exact (if_pos hlt).trans ((if_pos hi0).trans ((if_neg (by rw [c]; omega)).trans (e1 k (by omega))))
      · obtain ⟨k, rfl⟩ : ∃ m, k = m + 1 := ⟨k - 1, by omega⟩
        rw [impl_imageAfter.l0, w1, w2, w4, wi]
        exact (if_pos hlt).trans ((if_pos hi0).trans ((if_pos hlt).trans ((if_pos c).trans (e2 k (by omega)))))
theorem after_eq {w a : Int} (hw : 0 ≤ w ∧ w ≤ 500) (ha : 0 ≤ a ∧ a ≤ 500) {s : ByteArray} (hs : okW s) : ∃ z, (∀ k, 50 ≤ k → spec_miAfter.f k w a s = some z) ∧ (∀ k, 50 ≤ k → impl_imageAfter.f k w a s = some z) := by
  have := hs.size
  obtain ⟨z, e1, e2, _⟩ := after_l0 hw hs s.size 0 a (by omega) (by omega) (by omega)
  exact ⟨z, fun k hk => e1 k (by omega), fun k hk => e2 k (by omega)⟩

def cg (w a : Int) : Bool := decide ((1 ≤ w ∧ w ≤ 500) ∧ 0 ≤ a ∧ a ≤ w)
theorem miGood_eq (w a : Int) : spec_miGood.f w a = some (cg w a) := by
  unfold spec_miGood.f
  simp only [l1In_eq, Option.bind_some, cg]
  by_cases h1 : 1 ≤ w ∧ w ≤ 500 <;> by_cases h2 : 0 ≤ a ∧ a ≤ w <;> simp [h1, h2]
theorem isCorridor_eq (w a : Int) : impl_isCorridor.f w a = some (cg w a) := by
  unfold impl_isCorridor.f
  simp only [within_eq, Option.bind_some, cg]
  by_cases h1 : 1 ≤ w ∧ w ≤ 500 <;> by_cases h2 : 0 ≤ a ∧ a ≤ w <;> simp [h1, h2]
theorem cg_of {w a : Int} (h : cg w a = true) : (1 ≤ w ∧ w ≤ 500) ∧ 0 ≤ a ∧ a ≤ w := of_decide_eq_true h

/-- Is a list a word, behind such a sign? -/
def gl : Option UInt8 → List UInt8 → Bool
  | _, [] => true
  | p, b :: l => ((b == 108 || b == 114) && !(p == some b)) && gl (some b) l
def inW (b : UInt8) : Bool := ([108, 114] : List UInt8).contains b
theorem inW_eq (b : UInt8) : inW b = (b == 108 || b == 114) := by
  unfold inW
  rw [List.contains_cons, List.contains_cons, List.contains_nil, Bool.or_false]
theorem drop_nil {p : UInt8 → Bool} : ∀ l : List UInt8, (l.dropWhile p = [] ↔ ∀ x, x ∈ l → p x = true)
  | [] => by simp
  | b :: l => by
    have ih := drop_nil (p := p) l
    rw [List.dropWhile_cons]
    cases h : p b with
    | true => simp [h, ih]
    | false => simp [h]
theorem drop_keeps {p : UInt8 → Bool} {x : UInt8} (hx : p x = false) : ∀ l : List UInt8, x ∈ l → x ∈ l.dropWhile p
  | [], h => h
  | b :: l, h => by
    rw [List.dropWhile_cons]
    cases hb : p b with
    | false => simpa [hb] using h
    | true =>
      rcases List.mem_cons.1 h with rfl | h
      · rw [hx] at hb
        cases hb
      · simpa [hb] using drop_keeps hx l h
theorem trim_all (l : List UInt8) : (Lib.trimS l [108, 114]).isEmpty = l.all inW := by
  rw [Bool.eq_iff_iff, List.isEmpty_iff, List.all_eq_true]
  show List.dropWhile inW (List.reverse (List.dropWhile inW l.reverse)) = [] ↔ _
  rw [drop_nil]
  constructor
  · intro h x hx
    cases c : inW x with
    | true => rfl
    | false =>
      have := h x (by rw [List.mem_reverse]; exact drop_keeps c _ (by rw [List.mem_reverse]; exact hx))
      rw [c] at this
      exact this
  · intro h x hx
    rw [List.mem_reverse] at hx
    have h1 : x ∈ l.reverse := (List.dropWhile_sublist _).subset hx
    rw [List.mem_reverse] at h1
    exact h x h1
theorem contains_cons (b : UInt8) (l sub : List UInt8) : Lib.contains (b :: l) sub = (sub.isPrefixOf (b :: l) || Lib.contains l sub) := by
  unfold Lib.contains
  rw [Lib.index]
  have h0 := Lib.index_ge l sub
  cases c : sub.isPrefixOf (b :: l) with
  | true => simp
  | false =>
    rw [if_neg (by simp), Bool.false_or, decide_eq_decide]
    by_cases e : Lib.index l sub = -1
    · rw [if_pos (by rw [e]; rfl), e]
    · rw [if_neg (by simpa using e)]
      omega
theorem contains_nil (a : UInt8) : Lib.contains [] [a, a] = false := rfl
theorem gl_some : ∀ (l : List UInt8) (p : UInt8), inW p = true → gl (some p) l = (l.all inW && (!Lib.contains (p :: l) [108, 108] && !Lib.contains (p :: l) [114, 114]))
  | [], p, _ => by
    have h : ∀ a : UInt8, ([a, a] : List UInt8).isPrefixOf [p] = false := fun a => by simp [List.isPrefixOf]
    rw [contains_cons, contains_cons, h, h, contains_nil, contains_nil]
    rfl
  | b :: l, p, hp => by
    have h : ∀ a : UInt8, ([a, a] : List UInt8).isPrefixOf (p :: b :: l) = (a == p && a == b) := fun a => by simp [List.isPrefixOf]
    rw [contains_cons p, contains_cons p, h, h, List.all_cons, gl]
    rw [inW_eq] at hp
    cases hb : inW b with
    | false =>
      rw [inW_eq] at hb
      rw [hb]
      simp
    | true =>
      rw [gl_some l b hb]
      rw [inW_eq] at hb
      rw [hb]
      generalize l.all inW = x
      generalize Lib.contains (b :: l) [108, 108] = y
      generalize Lib.contains (b :: l) [114, 114] = z
      have e1 : p = 108 ∨ p = 114 := by simpa using hp
      have e2 : b = 108 ∨ b = 114 := by simpa using hb
      rcases e1 with rfl | rfl <;> rcases e2 with rfl | rfl <;> cases x <;> cases y <;> cases z <;> decide
theorem gl_none (l : List UInt8) : gl none l = (l.all inW && (!Lib.contains l [108, 108] && !Lib.contains l [114, 114])) := by
  cases l with
  | nil => rfl
  | cons b l =>
    rw [gl, List.all_cons]
    cases hb : inW b with
    | false =>
      rw [inW_eq] at hb
      rw [hb]
      simp
    | true =>
      rw [gl_some l b hb]
      rw [inW_eq] at hb
      rw [hb]
      simp
theorem isWord_eq (s : ByteArray) : impl_isWord.f s = some (decide ((s.size : Int) ≤ 40) && gl none s.data.toList) := by
  unfold impl_isWord.f
  rw [trim_all, gl_none]
/-- A text's byte is its list's. -/
theorem bt_list (s : ByteArray) (i : Nat) (h : i < s.size) : ∃ b, s.data.toList[i]? = some b ∧ bt s (i : Int) = (b.toNat : Int) := by
  refine ⟨s[i]'h, ?_, ?_⟩
  · have : s.data.toList[i]? = s.data[i]? := Array.getElem?_toList
    rw [this, Array.getElem?_eq_getElem h]
    rfl
  · have := bt_at s (i : Int) (by simpa using h)
    rw [← this]
    rfl
theorem word_l0 (s : ByteArray) (h40 : s.size ≤ 40) : ∀ (d i : Nat) (p : Option UInt8), i + d = s.size → ((i = 0 ∧ p = none) ∨ (0 < i ∧ p = s.data.toList[i - 1]?)) → ∀ k, d < k → spec_miWord.l0 k s i = some (gl p (s.data.toList.drop i)) := by
  intro d
  induction d with
  | zero =>
    intro i p hi hp k hk
    obtain ⟨k, rfl⟩ : ∃ m, k = m + 1 := ⟨k - 1, by omega⟩
    have : s.data.toList.drop i = [] := List.drop_eq_nil_of_le (by rw [← Lib.size_eq]; omega)
    rw [spec_miWord.l0, if_neg (by omega), this]
    cases p <;> rfl
  | succ d ih =>
    intro i p hi hp k hk
    obtain ⟨k, rfl⟩ : ∃ m, k = m + 1 := ⟨k - 1, by omega⟩
    have e : wrap64 ((i : Int) + 1) = ((i + 1 : Nat) : Int) := by rw [wrap_id (by omega) (by omega)]; omega
    obtain ⟨b, hb, hbt⟩ := bt_list s i (by omega)
    have hl : s.data.toList.drop i = b :: s.data.toList.drop (i + 1) := by
      obtain ⟨h1, h2⟩ := List.getElem?_eq_some_iff.1 hb
      rw [List.drop_eq_getElem_cons h1, h2]
    have n1 := ih (i + 1) (some b) (by omega) (.inr ⟨by omega, by rw [Nat.add_sub_cancel]; exact hb.symm⟩) k (by omega)
    rw [spec_miWord.l0, if_pos (by omega), if_pos (by omega), hl, gl, hbt, e, n1]
    have j108 : ((b.toNat : Int) = 108) ↔ b = 108 := by
      constructor
      · intro h
        exact UInt8.toNat_inj.1 (by show b.toNat = 108; omega)
      · rintro rfl
        rfl
    have j114 : ((b.toNat : Int) = 114) ↔ b = 114 := by
      constructor
      · intro h
        exact UInt8.toNat_inj.1 (by show b.toNat = 114; omega)
      · rintro rfl
        rfl
    rcases hp with ⟨rfl, rfl⟩ | ⟨h0, hp⟩
    · have z : ¬ ((0 : Nat) : Int) > 0 := by omega
      by_cases c1 : b = 108
      · rw [if_pos (j108.2 c1), if_neg z, c1]
        simp
      · rw [if_neg (fun h => c1 (j108.1 h))]
        by_cases c2 : b = 114
        · rw [if_pos (j114.2 c2), if_neg z, c2]
          simp
        · rw [if_neg (fun h => c2 (j114.1 h))]
          simp [c1, c2]
    · obtain ⟨q, hq, hqt⟩ := bt_list s (i - 1) (by omega)
      have z : ((i : Nat) : Int) > 0 := by omega
      have e1 : wrap64 ((i : Int) - 1) = ((i - 1 : Nat) : Int) := by rw [wrap_id (by omega) (by omega)]; omega
      have g1 : 0 ≤ wrap64 ((i : Int) - 1) := by rw [e1]; omega
      have g2 : wrap64 ((i : Int) - 1) < (s.size : Int) := by rw [e1]; omega
      rw [if_pos z, if_pos g1, if_pos g2, e1, hqt]
      rw [hq] at hp
      subst hp
      have jq : ((b.toNat : Int) = (q.toNat : Int)) ↔ q = b := by
        constructor
        · intro h
          exact UInt8.toNat_inj.1 (by omega)
        · rintro rfl
          rfl
      by_cases c3 : q = b
      · rw [if_pos (jq.2 c3)]
        have : ((some q : Option UInt8) == some b) = true := by rw [c3]; exact beq_self_eq_true _
        rw [this]
        by_cases c1 : b = 108
        · rw [if_pos (j108.2 c1)]
          simp
        · rw [if_neg (fun h => c1 (j108.1 h))]
          by_cases c2 : b = 114
          · rw [if_pos (j114.2 c2)]
            simp
          · rw [if_neg (fun h => c2 (j114.1 h))]
            simp
      · rw [if_neg (fun h => c3 (jq.1 h))]
        have : ((some q : Option UInt8) == some b) = false := by
          refine beq_eq_false_iff_ne.2 (fun h => c3 ?_)
          exact Option.some.inj h
        rw [this]
        by_cases c1 : b = 108
        · rw [if_pos (j108.2 c1), c1]
          simp
        · rw [if_neg (fun h => c1 (j108.1 h))]
          by_cases c2 : b = 114
          · rw [if_pos (j114.2 c2), c2]
            simp
          · rw [if_neg (fun h => c2 (j114.1 h))]
            simp [c1, c2]
theorem miWord_eq (s : ByteArray) (k : Nat) (hk : 100 ≤ k) : spec_miWord.f k s = some (decide ((s.size : Int) ≤ 40) && gl none s.data.toList) := by
  unfold spec_miWord.f
  by_cases c : (s.size : Int) > 40
  · rw [if_pos c, decide_eq_false (by omega)]
    rfl
  · rw [if_neg c, decide_eq_true (by omega)]
    have := word_l0 s (by omega) s.size 0 none (by omega) (.inl ⟨rfl, rfl⟩) k (by omega)
    rw [List.drop_zero] at this
    exact this
theorem okW_gl : ∀ (l : List UInt8) (p : Option UInt8), gl p l = true → ∀ b, b ∈ l → b = 108 ∨ b = 114
  | [], _, _, b, hb => by cases hb
  | x :: l, p, h, b, hb => by
    rw [gl, Bool.and_eq_true, Bool.and_eq_true] at h
    rcases List.mem_cons.1 hb with rfl | hb
    · simpa using h.1.1
    · exact okW_gl l _ h.2 b hb
theorem main : laws_FnExactImageAfter.Pure := by
  intro w a s _ _ _
  refine ⟨100, ?_⟩
  have key : ∃ z, spec_ImageAfter.f 100 w a s = some z ∧ impl_ImageAfter.f 100 w a s = some z := by
    unfold spec_ImageAfter.f impl_ImageAfter.f
    rw [miGood_eq, isCorridor_eq]
    simp only [Option.bind_some]
    cases hc : cg w a with
    | false => exact ⟨(0, false), by simp, by simp⟩
    | true =>
      rw [if_pos rfl, if_pos rfl, miWord_eq s 100 (Nat.le_refl _), isWord_eq]
      simp only [Option.bind_some]
      cases hw : (decide ((s.size : Int) ≤ 40) && gl none s.data.toList) with
      | false => exact ⟨(0, false), by simp, by simp⟩
      | true =>
        rw [Bool.and_eq_true] at hw
        have h40 := of_decide_eq_true hw.1
        have ok : okW s := by
          refine ⟨by omega, fun i hi => ?_⟩
          obtain ⟨b, hb, hbt⟩ := bt_list s i hi
          rcases okW_gl _ _ hw.2 b (List.mem_of_getElem? hb) with rfl | rfl
          · exact .inl hbt
          · exact .inr hbt
        have hcg := cg_of hc
        obtain ⟨z, e1, e2⟩ := after_eq (w := w) (a := a) (by omega) (by omega) ok
        refine ⟨(z, true), ?_, ?_⟩
        · rw [if_pos rfl, e1 100 (by omega)]
          rfl
        · rw [if_pos rfl, e2 100 (by omega)]
          rfl
  obtain ⟨z, h1, h2⟩ := key
  unfold laws_FnExactImageAfter.f
  by_cases c : (s.size : Int) > 1048576
  · rw [if_pos c]
  · rw [if_neg c]
    simp only [h1, h2, Option.bind_some, if_true, bne_self_eq_false, Bool.false_eq_true, if_false]
end LFnExactImageAfter

theorem FnExactImageAfter : laws_FnExactImageAfter.Pure := LFnExactImageAfter.main

end Go.Proofs.YtocolopnplachaaDoor.Pure
