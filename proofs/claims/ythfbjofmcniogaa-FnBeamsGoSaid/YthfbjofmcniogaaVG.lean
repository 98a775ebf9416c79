-- Slots of a frame that is written out, read and filled by rules that are tried ahead of any other. Written by this session.
import Derived.Test.YthfbjofmcniogaaVN
set_option linter.unusedVariables false
namespace Go.Proofs.YthfbjofmcniogaaV
open Go.RowKit Go.Proofs.YthfbjofmcniogaaW.PrintWords Go.Proofs.YthfbjofmcniogaaW.PrintLast
/-- What slot t of the list holds. -/
def rdl : List Value → Nat → Value
  | [], _ => undef
  | x :: _, 0 => x
  | _ :: l, n + 1 => rdl l n
theorem rdl_zero {x : Value} {l : List Value} : rdl (x :: l) 0 = x := rfl
theorem rdl_succ {x : Value} {l : List Value} {n : Nat} : rdl (x :: l) (n + 1) = rdl l n := rfl
theorem rdl_eq : ∀ (l : List Value) (t : Nat), l.getD t undef = rdl l t
  | [], _ => rfl
  | x :: l, 0 => rfl
  | x :: l, t + 1 => by rw [List.getD_cons_succ, rdl_eq l t]; rfl
theorem eval_lit {l : List Value} {d : List Deferred} {t : Nat} : Act.eval ⟨l.toArray, d⟩ (.tmp t) = rdl l t := by
  show l.toArray.getD t undef = rdl l t
  rw [Array.getD_eq_getD_getElem?, List.getElem?_toArray, ← List.getD_eq_getElem?_getD, rdl_eq]
/-- The list with v in slot t. -/
def stl : List Value → Nat → Value → List Value
  | [], _, _ => []
  | _ :: l, 0, v => v :: l
  | x :: l, n + 1, v => x :: stl l n v
theorem stl_zero {x v : Value} {l : List Value} : stl (x :: l) 0 v = v :: l := rfl
theorem stl_succ {x v : Value} {l : List Value} {n : Nat} : stl (x :: l) (n + 1) v = x :: stl l n v := rfl
theorem stl_eq : ∀ (l : List Value) (t : Nat) (v : Value), l.set t v = stl l t v
  | [], _, _ => rfl
  | x :: l, 0, _ => rfl
  | x :: l, t + 1, v => by rw [List.set_cons_succ, stl_eq l t]; rfl
theorem put_lit {l : List Value} {d : List Deferred} {t : Nat} {v : Value} : Act.put ⟨l.toArray, d⟩ (some t) v = ⟨(stl l t v).toArray, d⟩ := by
  simp only [Act.put, List.setIfInBounds_toArray, stl_eq]
theorem nl0 {n : Nat} (h : (0 : Int) < (n : Int)) : 0 < n := by omega
theorem nl1 {n : Nat} (h : (1 : Int) < (n : Int)) : 1 < n := by omega
theorem nl2 {n : Nat} (h : (2 : Int) < (n : Int)) : 2 < n := by omega
theorem nl3 {n : Nat} (h : (3 : Int) < (n : Int)) : 3 < n := by omega
end Go.Proofs.YthfbjofmcniogaaV
