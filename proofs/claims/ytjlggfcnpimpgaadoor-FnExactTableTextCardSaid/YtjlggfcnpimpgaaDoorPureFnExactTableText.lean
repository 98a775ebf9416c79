/- For every table the program's TableText and the reference's give the same; no condition beyond the numbers' kinds. -/
import Derived.Test.YtjlggfcnpimpgaaDoorPFnExactTableTextx2
namespace Go.Proofs.YtjlggfcnpimpgaaDoor.Pure
open Go.RowKit Go.Proofs.YtjlggfcnpimpgaaDoor.PFnExactTableText Go.Proofs.YtjlggfcnpimpgaaDoorW.PrintWords Go.Proofs.YtjlggfcnpimpgaaDoorW.PrintLast
set_option linter.unusedVariables false
set_option linter.unusedSimpArgs false

namespace LFnExactTableText
theorem within_eq (a b c : Int) : impl_within.f a b c = some (decide (b ≤ a ∧ a ≤ c)) := by
  by_cases h1 : b ≤ a <;> by_cases h2 : a ≤ c <;> simp [impl_within.f, h1, h2]

theorem l1In_eq (a b c : Int) : spec_l1In.f a b c = some (decide (b ≤ a ∧ a ≤ c)) := by
  by_cases h1 : b ≤ a <;> by_cases h2 : a ≤ c <;> simp [spec_l1In.f, h1, h2]

def tb (W H : Int) : Bool := decide ((1 ≤ W ∧ W ≤ 60) ∧ 1 ≤ H ∧ H ≤ 60)
theorem IsTable_eq (W H : Int) : impl_IsTable.f W H = some (tb W H) := by
  simp only [impl_IsTable.f, within_eq, Option.bind_some, tb]
  by_cases h1 : 1 ≤ W ∧ W ≤ 60 <;> by_cases h2 : 1 ≤ H ∧ H ≤ 60 <;> simp [h1, h2]
theorem beTable_eq (W H : Int) : spec_beTable.f W H = some (tb W H) := by
  simp only [spec_beTable.f, l1In_eq, Option.bind_some, tb]
  by_cases h1 : 1 ≤ W ∧ W ≤ 60 <;> by_cases h2 : 1 ≤ H ∧ H ≤ 60 <;> simp [h1, h2]
theorem tb_of {W H : Int} (h : tb W H = true) : (1 ≤ W ∧ W ≤ 60) ∧ 1 ≤ H ∧ H ≤ 60 := of_decide_eq_true h

def two (i : Nat) : List UInt8 := if i < 10 then [UInt8.ofNat (48 + i)] else [UInt8.ofNat (48 + i / 10), UInt8.ofNat (48 + i % 10)]
theorem two_eq {i : Nat} (h : i < 100) : Lib.decDigits i = two i := by
  unfold two
  by_cases c : i < 10
  · rw [if_pos c, Lib.decDigits_one c]
  · rw [if_neg c, Lib.decDigits_two c h]
/-- A number's text. -/
def nm (i : Nat) : ByteArray := ⟨(two i).toArray⟩
theorem nm_all : ∀ n : Nat, n < 100 → spec_l1Num.f 5 (n : Int) = some (nm n) ∧ (nm n).size ≤ 2 := by decide +kernel
theorem l1Num_eq (n : Nat) (hn : n < 100) (k : Nat) (hk : 5 ≤ k) : spec_l1Num.f k (n : Int) = some (nm n) := by
  have : ∀ d, spec_l1Num.f (5 + d) (n : Int) = some (nm n) := by
    intro d
    induction d with
    | zero => exact (nm_all n hn).1
    | succ d ih => exact spec_l1Num.mono _ _ _ ih
  have h := this (k - 5)
  rwa [show 5 + (k - 5) = k by omega] at h
theorem x_size : (⟨#[120]⟩ : ByteArray).size = 1 := rfl
/-- A table's text. -/
def tx (w h : Nat) : ByteArray := (nm w ++ ⟨#[120]⟩) ++ nm h
theorem beText_eq (w h : Nat) (hw : w < 100) (hh : h < 100) (k : Nat) (hk : 5 ≤ k) : spec_beText.f k (w : Int) (h : Int) = some (tx w h) := by
  have a := (nm_all w hw).2
  have b := (nm_all h hh).2
  unfold spec_beText.f
  rw [l1Num_eq w hw k hk, l1Num_eq h hh k hk]
  simp only [Option.bind_some]
  rw [if_pos (by omega), if_pos (by rw [ByteArray.size_append, x_size]; omega)]
  rfl

theorem text_eq (n : Nat) (h : n < 100) : impl_text.f (n : Int) = some (nm n) := by
  unfold impl_text.f strconv_Itoa.f
  rw [if_pos ⟨by omega, by omega⟩]
  simp only [Option.bind_some]
  rw [Int.toNat_natCast, two_eq h]
  rfl
theorem main : laws_FnExactTableText.Pure := by
  intro W H _ _
  refine ⟨10, ?_⟩
  have key : ∃ z, spec_TableText.f 10 W H = some z ∧ impl_TableText.f W H = some z := by
    unfold spec_TableText.f impl_TableText.f
    rw [beTable_eq, IsTable_eq]
    simp only [Option.bind_some]
    cases hb : tb W H with
    | false => exact ⟨(⟨#[]⟩, false), by simp, by simp⟩
    | true =>
      have t := tb_of hb
      obtain ⟨w, rfl⟩ := Int.eq_ofNat_of_zero_le (show 0 ≤ W by omega)
      obtain ⟨h, rfl⟩ := Int.eq_ofNat_of_zero_le (show 0 ≤ H by omega)
      have a := (nm_all w (by omega)).2
      have b := (nm_all h (by omega)).2
      refine ⟨(tx w h, true), ?_, ?_⟩
      · rw [if_pos rfl, beText_eq w h (by omega) (by omega) 10 (by omega)]
        rfl
      · rw [if_pos rfl, text_eq w (by omega), text_eq h (by omega)]
        simp only [Option.bind_some]
        rw [if_pos (by omega), if_pos (by rw [ByteArray.size_append, x_size]; omega)]
        rfl
  obtain ⟨z, h1, h2⟩ := key
  unfold laws_FnExactTableText.f
  simp only [laws_toTable.f, Option.bind_some, h1, h2, if_true, bne_self_eq_false, Bool.false_eq_true, if_false]
end LFnExactTableText

theorem FnExactTableText : laws_FnExactTableText.Pure := LFnExactTableText.main

end Go.Proofs.YtjlggfcnpimpgaaDoor.Pure
