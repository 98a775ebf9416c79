/- For every text the program's ParseTable and the reference's give the same; no condition beyond the text's kind. -/
import Derived.Test.YtjlggfcnpimpgaaDoorPFnExactParseTablex4
namespace Go.Proofs.YtjlggfcnpimpgaaDoor.Pure
open Go.RowKit Go.Proofs.YtjlggfcnpimpgaaDoor.PFnExactParseTable Go.Proofs.YtjlggfcnpimpgaaDoorW.PrintWords Go.Proofs.YtjlggfcnpimpgaaDoorW.PrintLast
set_option linter.unusedVariables false
set_option linter.unusedSimpArgs false

namespace LFnExactParseTable
theorem within_eq (a b c : Int) : impl_within.f a b c = some (decide (b ≤ a ∧ a ≤ c)) := by
  by_cases h1 : b ≤ a <;> by_cases h2 : a ≤ c <;> simp [impl_within.f, h1, h2]

theorem l1In_eq (a b c : Int) : spec_l1In.f a b c = some (decide (b ≤ a ∧ a ≤ c)) := by
  by_cases h1 : b ≤ a <;> by_cases h2 : a ≤ c <;> simp [spec_l1In.f, h1, h2]

theorem wrap_id {n : Int} (h0 : -9223372036854775808 ≤ n) (h1 : n ≤ 9223372036854775807) : wrap64 n = n := by
  unfold wrap64
  omega

def tb (W H : Int) : Bool := decide ((1 ≤ W ∧ W ≤ 60) ∧ 1 ≤ H ∧ H ≤ 60)
theorem IsTable_eq (W H : Int) : impl_IsTable.f W H = some (tb W H) := by
  simp only [impl_IsTable.f, within_eq, Option.bind_some, tb]
  by_cases h1 : 1 ≤ W ∧ W ≤ 60 <;> by_cases h2 : 1 ≤ H ∧ H ≤ 60 <;> simp [h1, h2]
theorem beTable_eq (W H : Int) : spec_beTable.f W H = some (tb W H) := by
  simp only [spec_beTable.f, l1In_eq, Option.bind_some, tb]
  by_cases h1 : 1 ≤ W ∧ W ≤ 60 <;> by_cases h2 : 1 ≤ H ∧ H ≤ 60 <;> simp [h1, h2]
theorem tb_of {W H : Int} (h : tb W H = true) : (1 ≤ W ∧ W ≤ 60) ∧ 1 ≤ H ∧ H ≤ 60 := of_decide_eq_true h

def two (i : Nat) : List UInt8 := if i < 10 then [UInt8.ofNat (48 + i)] else [UInt8.ofNat (48 + i / 10), UInt8.ofNat (48 + i % 10)]
theorem two_eq {i : Nat} (h : i < 100) : Lib.decDigits i = two i := by
  unfold two
  by_cases c : i < 10
  · rw [if_pos c, Lib.decDigits_one c]
  · rw [if_neg c, Lib.decDigits_two c h]
/-- A number's text. -/
def nm (i : Nat) : ByteArray := ⟨(two i).toArray⟩
theorem nm_all : ∀ n : Nat, n < 100 → spec_l1Num.f 5 (n : Int) = some (nm n) ∧ (nm n).size ≤ 2 := by decide +kernel
theorem l1Num_eq (n : Nat) (hn : n < 100) (k : Nat) (hk : 5 ≤ k) : spec_l1Num.f k (n : Int) = some (nm n) := by
  have : ∀ d, spec_l1Num.f (5 + d) (n : Int) = some (nm n) := by
    intro d
    induction d with
    | zero => exact (nm_all n hn).1
    | succ d ih => exact spec_l1Num.mono _ _ _ ih
  have h := this (k - 5)
  rwa [show 5 + (k - 5) = k by omega] at h
theorem x_size : (⟨#[120]⟩ : ByteArray).size = 1 := rfl
/-- A table's text. -/
def tx (w h : Nat) : ByteArray := (nm w ++ ⟨#[120]⟩) ++ nm h
theorem beText_eq (w h : Nat) (hw : w < 100) (hh : h < 100) (k : Nat) (hk : 5 ≤ k) : spec_beText.f k (w : Int) (h : Int) = some (tx w h) := by
  have a := (nm_all w hw).2
  have b := (nm_all h hh).2
  unfold spec_beText.f
  rw [l1Num_eq w hw k hk, l1Num_eq h hh k hk]
  simp only [Option.bind_some]
  rw [if_pos (by omega), if_pos (by rw [ByteArray.size_append, x_size]; omega)]
  rfl

/-! ### the reference ends -/
theorem split_l0 (s : ByteArray) (hs : s.size ≤ 1048576) : ∀ (d i : Nat) (acc : List ByteArray) (fr : Nat), i + d = s.size → fr ≤ i → acc.length ≤ i → ∃ parts, ∀ k, d < k → spec_l1Split.l0 k s 120 acc fr i = some parts := by
  intro d
  induction d with
  | zero =>
    intro i acc fr hi hf ha
    refine ⟨acc ++ [s.extract ((fr : Nat) : Int).toNat s.size], fun k hk => ?_⟩
    obtain ⟨k, rfl⟩ : ∃ m, k = m + 1 := ⟨k - 1, by omega⟩
    rw [spec_l1Split.l0, if_neg (by omega), if_pos (by omega), if_pos (by omega), if_pos (by omega)]
  | succ d ih =>
    intro i acc fr hi hf ha
    have e : wrap64 ((i : Int) + 1) = ((i + 1 : Nat) : Int) := by rw [wrap_id (by omega) (by omega)]; omega
    by_cases c : bt s (i : Int) = 120
    · obtain ⟨parts, hp⟩ := ih (i + 1) (acc ++ [s.extract ((fr : Nat) : Int).toNat ((i : Nat) : Int).toNat]) (i + 1) (by omega) (Nat.le_refl _) (by simp; omega)
      refine ⟨parts, fun k hk => ?_⟩
      obtain ⟨k, rfl⟩ : ∃ m, k = m + 1 := ⟨k - 1, by omega⟩
      rw [spec_l1Split.l0, if_pos (by omega), if_pos (by omega), if_pos c, if_pos (by omega), if_pos (by omega), if_pos (by omega), if_pos (by omega), e]
      exact hp k (by omega)
    · obtain ⟨parts, hp⟩ := ih (i + 1) acc fr (by omega) (by omega) (by omega)
      refine ⟨parts, fun k hk => ?_⟩
      obtain ⟨k, rfl⟩ : ∃ m, k = m + 1 := ⟨k - 1, by omega⟩
      rw [spec_l1Split.l0, if_pos (by omega), if_pos (by omega), if_neg c, e]
      exact hp k (by omega)
theorem read_l0 (s : ByteArray) (hs : s.size ≤ 6) : ∀ (d i : Nat) (n : Int), i + d = s.size → ∃ v, ∀ k, d < k → spec_l1Read.l0 k s n i = some v := by
  intro d
  induction d with
  | zero =>
    intro i n hi
    refine ⟨n, fun k hk => ?_⟩
    obtain ⟨k, rfl⟩ : ∃ m, k = m + 1 := ⟨k - 1, by omega⟩
    rw [spec_l1Read.l0, if_neg (by omega)]
  | succ d ih =>
    intro i n hi
    have e : wrap64 ((i : Int) + 1) = ((i + 1 : Nat) : Int) := by rw [wrap_id (by omega) (by omega)]; omega
    by_cases c1 : bt s (i : Int) < 48
    · refine ⟨-1, fun k hk => ?_⟩
      obtain ⟨k, rfl⟩ : ∃ m, k = m + 1 := ⟨k - 1, by omega⟩
      rw [spec_l1Read.l0, if_pos (by omega), if_pos (by omega), if_pos c1]
    · by_cases c2 : bt s (i : Int) > 57
      · refine ⟨-1, fun k hk => ?_⟩
        obtain ⟨k, rfl⟩ : ∃ m, k = m + 1 := ⟨k - 1, by omega⟩
        rw [spec_l1Read.l0, if_pos (by omega), if_pos (by omega), if_neg c1, if_pos c2]
      · obtain ⟨v, hv⟩ := ih (i + 1) (wrap64 ((wrap64 (10 * n)) + (((bt s (i : Int)) - 48) % 256))) (by omega)
        refine ⟨v, fun k hk => ?_⟩
        obtain ⟨k, rfl⟩ : ∃ m, k = m + 1 := ⟨k - 1, by omega⟩
        rw [spec_l1Read.l0, if_pos (by omega), if_pos (by omega), if_neg c1, if_neg c2, e]
        exact hv k (by omega)
theorem read_f (s : ByteArray) : ∃ v, ∀ k, 20 ≤ k → spec_l1Read.f k s = some v := by
  by_cases h : 1 ≤ (s.size : Int) ∧ (s.size : Int) ≤ 6
  · obtain ⟨v, hv⟩ := read_l0 s (by omega) s.size 0 0 (by omega)
    by_cases c : bt s 0 = 48 ∧ (s.size : Int) > 1
    · refine ⟨-1, fun k hk => ?_⟩
      obtain ⟨k, rfl⟩ : ∃ m, k = m + 1 := ⟨k - 1, by omega⟩
      unfold spec_l1Read.f
      rw [l1In_eq, decide_eq_true h]
      simp only [Option.bind_some]
      rw [if_pos trivial, if_pos (by omega), if_pos c.1, spec_l1Read.j0, decide_eq_true c.2, if_pos rfl]
    · refine ⟨v, fun k hk => ?_⟩
      obtain ⟨k, rfl⟩ : ∃ m, k = m + 1 := ⟨k - 1, by omega⟩
      unfold spec_l1Read.f
      rw [l1In_eq, decide_eq_true h]
      simp only [Option.bind_some]
      rw [if_pos trivial, if_pos (by omega)]
      by_cases c1 : bt s 0 = 48
      · rw [if_pos c1, spec_l1Read.j0, decide_eq_false (fun h2 => c ⟨c1, h2⟩), if_neg (by decide)]
        exact hv k (by omega)
      · rw [if_neg c1, spec_l1Read.j0, if_neg (by decide)]
        exact hv k (by omega)
  · refine ⟨-1, fun k hk => ?_⟩
    obtain ⟨k, rfl⟩ : ∃ m, k = m + 1 := ⟨k - 1, by omega⟩
    unfold spec_l1Read.f
    rw [l1In_eq, decide_eq_false h]
    simp only [Option.bind_some]
    rw [if_neg (by decide), spec_l1Read.j0, if_pos rfl]
theorem toList_inj {s t : ByteArray} (h : s.toList = t.toList) : s = t := by
  rw [Lib.toList_data, Lib.toList_data] at h
  rw [← Lib.mk_data s, ← Lib.mk_data t, h]
/-- What the reference gives: a table whose text it is, or nothing. -/
theorem spec_ends (s : ByteArray) (hs : s.size ≤ 1048576) : ∃ z, (∀ k, 2000000 ≤ k → spec_ParseTable.f k s = some z) ∧ ((∃ w h : Nat, tb w h = true ∧ s = tx w h ∧ z = ((w : Int), (h : Int), true)) ∨ z = (0, 0, false)) := by
  obtain ⟨parts, hp⟩ := split_l0 s hs s.size 0 [] 0 (by omega) (Nat.le_refl _) (Nat.zero_le _)
  have hsp : ∀ k, 2000000 ≤ k → spec_l1Split.f k s 120 = some parts := fun k hk => hp k (by omega)
  by_cases c5 : (s.size : Int) > 5
  · refine ⟨(0, 0, false), fun k hk => ?_, .inr rfl⟩
    obtain ⟨k, rfl⟩ : ∃ m, k = m + 1 := ⟨k - 1, by omega⟩
    unfold spec_ParseTable.f spec_beParse.f
    rw [hsp _ hk]
    simp only [Option.bind_some]
    rw [if_pos c5, spec_beParse.j0, if_pos rfl]
    rfl
  · by_cases c2 : (parts.length : Int) = 2
    · obtain ⟨a, ha⟩ := read_f (rdOf ByteArray.empty parts 0)
      obtain ⟨b, hb⟩ := read_f (rdOf ByteArray.empty parts 1)
      have go : ∀ k, 2000000 ≤ k → spec_beParse.f k s = (if tb a b = true then ((spec_beText.f (k - 1) a b).bind fun t131 => (some (a, b, (t131.toList == s.toList)))) else (some (a, b, false))) := by
        intro k hk
        obtain ⟨k, rfl⟩ : ∃ m, k = m + 1 := ⟨k - 1, by omega⟩
        unfold spec_beParse.f
        rw [hsp _ hk]
        simp only [Option.bind_some]
        have : ((parts.length : Int) != 2) = false := by rw [c2]; rfl
        rw [if_neg c5, this, spec_beParse.j0, if_neg (by decide), if_pos (by omega), ha k (by omega)]
        simp only [Option.bind_some]
        rw [if_pos (by omega), hb k (by omega)]
        simp only [Option.bind_some]
        rw [beTable_eq]
        rfl
      cases ht : tb a b with
      | false =>
        refine ⟨(0, 0, false), fun k hk => ?_, .inr rfl⟩
        unfold spec_ParseTable.f
        rw [go k hk, ht, if_neg (by decide)]
        rfl
      | true =>
        have t := tb_of ht
        obtain ⟨w, rfl⟩ := Int.eq_ofNat_of_zero_le (show 0 ≤ a by omega)
        obtain ⟨h, rfl⟩ := Int.eq_ofNat_of_zero_le (show 0 ≤ b by omega)
        have tx_is : ∀ k, 2000000 ≤ k → spec_beText.f (k - 1) (w : Int) (h : Int) = some (tx w h) := fun k hk => beText_eq w h (by omega) (by omega) (k - 1) (by omega)
        cases he : ((tx w h).toList == s.toList) with
        | false =>
          refine ⟨(0, 0, false), fun k hk => ?_, .inr rfl⟩
          unfold spec_ParseTable.f
          rw [go k hk, ht, if_pos rfl, tx_is k hk]
          simp only [Option.bind_some]
          rw [he, if_neg (by decide)]
        | true =>
          refine ⟨((w : Int), (h : Int), true), fun k hk => ?_, .inl ⟨w, h, ht, (toList_inj (eq_of_beq he)).symm, rfl⟩⟩
          unfold spec_ParseTable.f
          rw [go k hk, ht, if_pos rfl, tx_is k hk]
          simp only [Option.bind_some]
          rw [he, if_pos rfl]
    · refine ⟨(0, 0, false), fun k hk => ?_, .inr rfl⟩
      obtain ⟨k, rfl⟩ : ∃ m, k = m + 1 := ⟨k - 1, by omega⟩
      unfold spec_ParseTable.f spec_beParse.f
      rw [hsp _ hk]
      simp only [Option.bind_some]
      have : ((parts.length : Int) != 2) = true := by simpa using c2
      rw [if_neg c5, this, spec_beParse.j0, if_pos rfl]
      rfl
/-! ### a table's text is read back by the reference -/
theorem split_all : ∀ w : Nat, w < 61 → ∀ h : Nat, h < 61 → spec_l1Split.f 8 (tx w h) 120 = some [nm w, nm h] := by decide +kernel
theorem read_all : ∀ w : Nat, w < 61 → spec_l1Read.f 10 (nm w) = some (w : Int) := by decide +kernel
theorem split_mono (s : ByteArray) {z : List ByteArray} (h : spec_l1Split.f 8 s 120 = some z) : ∀ d, spec_l1Split.f (8 + d) s 120 = some z := by
  intro d
  induction d with
  | zero => exact h
  | succ d ih => exact spec_l1Split.mono _ _ _ _ ih
theorem read_mono (s : ByteArray) {z : Int} (h : spec_l1Read.f 10 s = some z) : ∀ d, spec_l1Read.f (10 + d) s = some z := by
  intro d
  induction d with
  | zero => exact h
  | succ d ih => exact spec_l1Read.mono _ _ _ ih
theorem spec_reads (w h : Nat) (t : tb w h = true) (k : Nat) (hk : 100 ≤ k) : spec_ParseTable.f k (tx w h) = some ((w : Int), (h : Int), true) := by
  have t' := tb_of t
  have a := (nm_all w (by omega)).2
  have b := (nm_all h (by omega)).2
  have sz : ((tx w h).size : Int) ≤ 5 := by
    unfold tx
    rw [ByteArray.size_append, ByteArray.size_append, x_size]
    omega
  obtain ⟨k, rfl⟩ : ∃ m, k = m + 1 := ⟨k - 1, by omega⟩
  have h1 : spec_l1Split.f (k + 1) (tx w h) 120 = some [nm w, nm h] := by
    have := split_mono _ (split_all w (by omega) h (by omega)) (k + 1 - 8)
    rwa [show 8 + (k + 1 - 8) = k + 1 by omega] at this
  have h2 : ∀ n : Nat, n < 61 → spec_l1Read.f k (nm n) = some (n : Int) := fun n hn => by
    have := read_mono _ (read_all n hn) (k - 10)
    rwa [show 10 + (k - 10) = k by omega] at this
  unfold spec_ParseTable.f spec_beParse.f
  rw [h1]
  simp only [Option.bind_some]
  have e0 : rdOf ByteArray.empty [nm w, nm h] 0 = nm w := rfl
  have e1 : rdOf ByteArray.empty [nm w, nm h] 1 = nm h := rfl
  have l2 : (([nm w, nm h] : List ByteArray).length : Int) = 2 := rfl
  rw [if_neg (by omega), l2]
  have : ((2 : Int) != 2) = false := rfl
  rw [this, spec_beParse.j0, if_neg (by decide), l2, if_pos (by omega), e0, h2 w (by omega)]
  simp only [Option.bind_some]
  rw [if_pos (by omega), e1, h2 h (by omega)]
  simp only [Option.bind_some]
  rw [beTable_eq, t]
  simp only [Option.bind_some]
  rw [if_pos trivial, beText_eq w h (by omega) (by omega) k (by omega)]
  simp only [Option.bind_some]
  have : ((tx w h).toList == (tx w h).toList) = true := beq_self_eq_true _
  rw [this, if_pos rfl]
/-! ### the program -/
theorem atoi_all : ∀ w : Nat, w < 61 → Lib.atoiAll (two w) = .ok (w : Int) := by decide +kernel
theorem cut_all : ∀ w : Nat, w < 61 → ∀ h : Nat, h < 61 → Lib.cut (tx w h).data.toList [120] = (two w, two h, true) := by decide +kernel
theorem itoa_two {w : Nat} (h : w < 100) : Lib.itoa (w : Int) = two w := by
  unfold Lib.itoa
  rw [if_neg (by omega), Int.toNat_natCast, two_eq h]
theorem numR_nm (w : Nat) (h : w < 61) : numR ⟨(two w).toArray⟩ = ((w : Int), true) := by
  unfold numR
  have : (⟨(two w).toArray⟩ : ByteArray).data.toList = two w := rfl
  rw [this, atoi_all w h]
  show ((w : Int), Lib.itoa (w : Int) == (⟨(two w).toArray⟩ : ByteArray).toList) = _
  rw [itoa_two (by omega), Lib.toList_data, this, beq_self_eq_true]
theorem numR_true {s : ByteArray} {v : Int} (h : numR s = (v, true)) (h1 : 1 ≤ v) (h2 : v ≤ 60) : s.data.toList = two v.toNat := by
  unfold numR at h
  split at h
  · rename_i u _
    have hv := (Prod.mk.inj h).1
    have := eq_of_beq (Prod.mk.inj h).2
    subst hv
    rw [Lib.toList_data] at this
    obtain ⟨w, rfl⟩ := Int.eq_ofNat_of_zero_le (show 0 ≤ u by omega)
    rw [itoa_two (by omega)] at this
    rw [← this, Int.toNat_natCast]
  · cases (Prod.mk.inj h).2
  · cases (Prod.mk.inj h).2
theorem cut_whole (l : List UInt8) : ((Lib.cut l [120]).1.length ≤ l.length ∧ (Lib.cut l [120]).2.1.length ≤ l.length) ∧ (l = (Lib.cut l [120]).1 ++ 120 :: (Lib.cut l [120]).2.1 ∨ (Lib.cut l [120]).2.1 = []) := by
  unfold Lib.cut
  rcases Lib.index_spec l [120] with ⟨h, _⟩ | ⟨i, h, hi, ho, _⟩
  · rw [h, if_neg (by omega)]
    exact ⟨⟨Nat.le_refl _, Nat.zero_le _⟩, .inr rfl⟩
  · rw [h, if_pos (by omega), Int.toNat_natCast]
    refine ⟨⟨by simp [List.length_take]; omega, by simp [List.length_drop]⟩, .inl ?_⟩
    show l = l.take i ++ 120 :: l.drop (i + 1)
    unfold Lib.occAt at ho
    cases hd : l.drop i with
    | nil =>
      rw [hd] at ho
      cases ho
    | cons b r =>
      rw [hd] at ho
      have hb : b = 120 := by
        have : ((120 : UInt8) == b) = true := by simpa [List.isPrefixOf] using ho
        exact (eq_of_beq this).symm
      have hr : l.drop (i + 1) = r := by
        have : l.drop (i + 1) = (l.drop i).drop 1 := by rw [List.drop_drop]
        rw [this, hd]
        rfl
      rw [hr]
      have := List.take_append_drop i l
      rw [hd, hb] at this
      exact this.symm
theorem bytes_of {s t : ByteArray} (h : s.data.toList = t.data.toList) : s = t := by
  rw [← Lib.mk_data s, ← Lib.mk_data t, h]
theorem impl_is (s : ByteArray) (hs : s.size ≤ 1048576) : ∃ z, impl_ParseTable.f s = some z ∧ ((∃ w h : Nat, tb w h = true ∧ s = tx w h ∧ z = ((w : Int), (h : Int), true)) ∨ (z = (0, 0, false) ∧ ∀ w h : Nat, tb w h = true → s ≠ tx w h)) := by
  have cw := cut_whole s.data.toList
  have sz : s.data.toList.length = s.size := (Lib.size_eq s).symm
  have e1 : (⟨(Lib.cut s.data.toList [120]).1.toArray⟩ : ByteArray).size ≤ 281474976710656 := by
    show (Lib.cut s.data.toList [120]).1.toArray.size ≤ _
    rw [List.size_toArray]
    omega
  have e2 : (⟨(Lib.cut s.data.toList [120]).2.1.toArray⟩ : ByteArray).size ≤ 281474976710656 := by
    show (Lib.cut s.data.toList [120]).2.1.toArray.size ≤ _
    rw [List.size_toArray]
    omega
  have red : impl_ParseTable.f s = (if (numR ⟨(Lib.cut s.data.toList [120]).1.toArray⟩).2 = true then (if (numR ⟨(Lib.cut s.data.toList [120]).2.1.toArray⟩).2 = true then (if tb (numR ⟨(Lib.cut s.data.toList [120]).1.toArray⟩).1 (numR ⟨(Lib.cut s.data.toList [120]).2.1.toArray⟩).1 = true then some ((numR ⟨(Lib.cut s.data.toList [120]).1.toArray⟩).1, (numR ⟨(Lib.cut s.data.toList [120]).2.1.toArray⟩).1, true) else some (0, 0, false)) else some (0, 0, false)) else some (0, 0, false)) := by
    unfold impl_ParseTable.f strings_Cut.f impl_number.f
    rw [if_pos (by omega)]
    show ((if (⟨(Lib.cut s.data.toList [120]).1.toArray⟩ : ByteArray).size ≤ 281474976710656 then some (numR ⟨(Lib.cut s.data.toList [120]).1.toArray⟩) else none).bind fun bt144 => ((if (⟨(Lib.cut s.data.toList [120]).2.1.toArray⟩ : ByteArray).size ≤ 281474976710656 then some (numR ⟨(Lib.cut s.data.toList [120]).2.1.toArray⟩) else none).bind fun bt146 => _)) = _
    rw [if_pos e1, if_pos e2]
    simp only [Option.bind_some, IsTable_eq]
  by_cases all : ∃ w h : Nat, tb w h = true ∧ s = tx w h
  · obtain ⟨w, h, t, rfl⟩ := all
    have t' := tb_of t
    refine ⟨((w : Int), (h : Int), true), ?_, .inl ⟨w, h, t, rfl, rfl⟩⟩
    rw [red, cut_all w (by omega) h (by omega)]
    simp only
    rw [numR_nm w (by omega), numR_nm h (by omega)]
    simp only
    rw [if_pos trivial, if_pos trivial, if_pos t]
  · have none_ : ∀ w h : Nat, tb w h = true → s ≠ tx w h := fun w h t e => all ⟨w, h, t, e⟩
    refine ⟨(0, 0, false), ?_, .inr ⟨rfl, none_⟩⟩
    rw [red]
    cases h1 : numR ⟨(Lib.cut s.data.toList [120]).1.toArray⟩ with
    | mk a one =>
      cases h2 : numR ⟨(Lib.cut s.data.toList [120]).2.1.toArray⟩ with
      | mk b two_ =>
        cases one with
        | false => rfl
        | true =>
          cases two_ with
          | false => rfl
          | true =>
            cases ht : tb a b with
            | false =>
              first | rfl | (simp only [if_true]; exact if_neg (by decide)) | (simp only [if_true]; rw [ht]; rfl)
            | true =>
              exfalso
              have t := tb_of ht
              have g1 := numR_true h1 (by omega) (by omega)
              have g2 := numR_true h2 (by omega) (by omega)
              have g1' : (Lib.cut s.data.toList [120]).1 = two a.toNat := g1
              have g2' : (Lib.cut s.data.toList [120]).2.1 = two b.toNat := g2
              rcases cw.2 with hw | hw
              · refine none_ a.toNat b.toNat ?_ (bytes_of ?_)
                · rw [Int.toNat_of_nonneg (by omega), Int.toNat_of_nonneg (by omega)]
                  exact ht
                · rw [hw, g1', g2']
                  unfold tx nm
                  simp [ByteArray.toList_data_append]
              · rw [hw] at g2'
                unfold two at g2'
                split at g2' <;> cases g2'
theorem main : laws_FnExactParseTable.Pure := by
  intro s _
  by_cases c : (s.size : Int) > 1048576
  · refine ⟨0, ?_⟩
    unfold laws_FnExactParseTable.f
    rw [if_pos c]
  · obtain ⟨z, h1, hz⟩ := spec_ends s (by omega)
    obtain ⟨y, h2, hy⟩ := impl_is s (by omega)
    obtain ⟨k, hk⟩ : ∃ k : Nat, 2000000 ≤ k := ⟨2000000, Nat.le_refl _⟩
    have e : z = y := by
      rcases hy with ⟨w, h, t, hs, rfl⟩ | ⟨rfl, hn⟩
      · have := spec_reads w h t k (by omega)
        rw [← hs, h1 k hk] at this
        exact Option.some.inj this
      · rcases hz with ⟨w, h, t, hs, rfl⟩ | rfl
        · exact absurd hs (hn w h t)
        · rfl
    subst e
    refine ⟨k, ?_⟩
    unfold laws_FnExactParseTable.f
    rw [if_neg c, h1 k hk, h2]
    simp only [Option.bind_some, laws_eqTable.f, if_true, bne_self_eq_false, Bool.false_eq_true, if_false]
end LFnExactParseTable

theorem FnExactParseTable : laws_FnExactParseTable.Pure := LFnExactParseTable.main

end Go.Proofs.YtjlggfcnpimpgaaDoor.Pure
