-- Slots of a frame that is written out, read and filled by rules that are tried ahead of any other. Written by this session.
import Derived.Test.YtnmhefdjakjngaaGreatDoorVM
set_option linter.unusedVariables false
namespace Go.Proofs.YtnmhefdjakjngaaGreatDoorV
open Go.RowKit Go.Proofs.YtnmhefdjakjngaaGreatDoorW.PrintWords Go.Proofs.YtnmhefdjakjngaaGreatDoorW.PrintLast
/-- What slot t of the list holds. -/
def rdl : List Value → Nat → Value
  | [], _ => undef
  | x :: _, 0 => x
  | _ :: l, n + 1 => rdl l n
theorem rdl_zero {x : Value} {l : List Value} : rdl (x :: l) 0 = x := rfl
theorem rdl_succ {x : Value} {l : List Value} {n : Nat} : rdl (x :: l) (n + 1) = rdl l n := rfl
theorem rdl_eq : ∀ (l : List Value) (t : Nat), l.getD t undef = rdl l t
  | [], _ => rfl
  | x :: l, 0 => rfl
  | x :: l, t + 1 => by rw [List.getD_cons_succ, rdl_eq l t]; rfl
theorem eval_lit {l : List Value} {d : List Deferred} {t : Nat} : Act.eval ⟨l.toArray, d⟩ (.tmp t) = rdl l t := by
  show l.toArray.getD t undef = rdl l t
  rw [Array.getD_eq_getD_getElem?, List.getElem?_toArray, ← List.getD_eq_getElem?_getD, rdl_eq]
/-- The list with v in slot t. -/
def stl : List Value → Nat → Value → List Value
  | [], _, _ => []
  | _ :: l, 0, v => v :: l
  | x :: l, n + 1, v => x :: stl l n v
theorem stl_zero {x v : Value} {l : List Value} : stl (x :: l) 0 v = v :: l := rfl
theorem stl_succ {x v : Value} {l : List Value} {n : Nat} : stl (x :: l) (n + 1) v = x :: stl l n v := rfl
theorem stl_eq : ∀ (l : List Value) (t : Nat) (v : Value), l.set t v = stl l t v
  | [], _, _ => rfl
  | x :: l, 0, _ => rfl
  | x :: l, t + 1, v => by rw [List.set_cons_succ, stl_eq l t]; rfl
theorem put_lit {l : List Value} {d : List Deferred} {t : Nat} {v : Value} : Act.put ⟨l.toArray, d⟩ (some t) v = ⟨(stl l t v).toArray, d⟩ := by
  simp only [Act.put, List.setIfInBounds_toArray, stl_eq]
theorem nl0 {n : Nat} (h : (0 : Int) < (n : Int)) : 0 < n := by omega
theorem nl1 {n : Nat} (h : (1 : Int) < (n : Int)) : 1 < n := by omega
theorem nl2 {n : Nat} (h : (2 : Int) < (n : Int)) : 2 < n := by omega
theorem nl3 {n : Nat} (h : (3 : Int) < (n : Int)) : 3 < n := by omega
section
variable {P : Program} {ops : Array Oper} {Q : Exit → Act → World → Prop} {md : Region.Mode} {S : World → Prop} {ds : List Nat} {T : Bool × List (List Nat × List Nat)} {B : List Nat}
variable {n m i κ t : Nat} {ps : List (Nat × Option Tmp × Nat)} {oi : Oper} {v v' : Value} {fuel : Nat} {l0 l1 : List Value} {de : List Deferred} {w : World}
/-! pA, pB, pT, pU again, over a frame that is written out: guards by the kernel, the new frame by definition. -/
theorem qA (HT : Aside0 (rtab md ops = T)) (h : Pl ps (wpAnyLast P md ops Q S ds fuel (bl n (m ||| 1 <<< i)) ⟨l1.toArray, de⟩ w))
    (hi : ops[i]? = some oi := by exact rfl) (hN : oi.dst = some t := by exact rfl) (hw : Region.wanted oi (yielded ops l0.toArray) = true := by rfl)
    (hc : anyT T (bl n m).toList (bl n (m ||| 1 <<< i)).toList i = true := by kernel_rfl)
    (hy : ∀ w', (execOp (Act.eval ⟨l0.toArray, de⟩) oi).run P w' = .ok (.value v) w' := by intro w'; go_simp; with_reducible rfl)
    (hv : v = v' := by ((try simp only [i64_w, i32_w]); rfl))
    (ha : stl l0 t v' = l1 := by (first | (dsimp only [stl_zero, stl_succ]; rfl) | dsimp only [stl_zero, stl_succ]))
    (hQ : ∀ c a w, Q (.panic c) (a.put oi.dst v) w → Q (.panic c) a w := by exact fun _ _ _ h => h) :
    Pl ((i, some t, 0) :: ps) (wpAnyLast P md ops Q S ds (fuel + 1) (bl n m) ⟨l0.toArray, de⟩ w) :=
  pure_ (bl n (m ||| 1 <<< i)) hi hN (any_of HT.out hc) hQ (Or.inl ⟨hw, hy⟩) (by rw [put_lit, hv, ha]) h
theorem qB (HT : Aside0 (rtab md ops = T)) (h : Pl ps (wpAnyLast P md ops Q S ds fuel (bl n (m ||| 1 <<< i)) ⟨l1.toArray, de⟩ w))
    (hi : ops[i]? = some oi := by exact rfl) (hN : oi.dst = some t := by exact rfl) (hw : Region.wanted oi (yielded ops l0.toArray) = false := by rfl)
    (hc : anyT T (bl n m).toList (bl n (m ||| 1 <<< i)).toList i = true := by kernel_rfl)
    (ha : stl l0 t undef = l1 := by (first | (dsimp only [stl_zero, stl_succ]; rfl) | dsimp only [stl_zero, stl_succ]))
    (hQ : ∀ c a w, Q (.panic c) (a.put oi.dst undef) w → Q (.panic c) a w := by exact fun _ _ _ h => h) :
    Pl ((i, some t, κ) :: ps) (wpAnyLast P md ops Q S ds (fuel + 1) (bl n m) ⟨l0.toArray, de⟩ w) :=
  pure_ (bl n (m ||| 1 <<< i)) hi hN (any_of HT.out hc) hQ (Or.inr ⟨hw, rfl⟩) (by rw [put_lit, ha]) h
theorem qT (HT : Aside0 (rtab md ops = T)) (HW : Aside0 (waitsOk T.2 B = true)) (hS : S w) (h : Pl ps (wpAnyLast P md ops Q S ds fuel (bl n (m ||| 1 <<< i)) ⟨l1.toArray, de⟩ w))
    (hi : ops[i]? = some oi := by exact rfl) (hN : oi.dst = some t := by exact rfl) (hw : Region.wanted oi (yielded ops l0.toArray) = true := by rfl)
    (hc : takeW T B ds (bl n m).toList (bl n (m ||| 1 <<< i)).toList i = true := by kernel_rfl)
    (hy : ∀ w', S w' → (execOp (Act.eval ⟨l0.toArray, de⟩) oi).run P w' = .ok (.value v) w' := by (intro w' hs_; go_simp; with_reducible rfl))
    (hv : v = v' := by ((try simp only [i64_w, i32_w]); rfl))
    (ha : stl l0 t v' = l1 := by (first | (dsimp only [stl_zero, stl_succ]; rfl) | dsimp only [stl_zero, stl_succ]))
    (hQ : ∀ c a w, Q (.panic c) (a.put oi.dst v) w → Q (.panic c) a w := by exact fun _ _ _ h => h) :
    Pl ((i, some t, 2) :: ps) (wpAnyLast P md ops Q S ds (fuel + 1) (bl n m) ⟨l0.toArray, de⟩ w) :=
  take_ (bl n (m ||| 1 <<< i)) hi hN (take_ofW HT.out HW.out hc) hQ (Or.inl ⟨hw, hy⟩) hS (by rw [put_lit, hv, ha]) h
theorem qU (HT : Aside0 (rtab md ops = T)) (hS : S w) (h : Pl ps (wpAnyLast P md ops Q S ds fuel (bl n (m ||| 1 <<< i)) ⟨l1.toArray, de⟩ w))
    (hi : ops[i]? = some oi := by exact rfl) (hN : oi.dst = some t := by exact rfl) (hw : Region.wanted oi (yielded ops l0.toArray) = true := by rfl)
    (hc : takeT T ds (bl n m).toList (bl n (m ||| 1 <<< i)).toList i = true := by kernel_rfl)
    (hy : ∀ w', S w' → (execOp (Act.eval ⟨l0.toArray, de⟩) oi).run P w' = .ok (.value v) w' := by (intro w' hs_; go_simp; with_reducible rfl))
    (hv : v = v' := by ((try simp only [i64_w, i32_w]); rfl))
    (ha : stl l0 t v' = l1 := by (first | (dsimp only [stl_zero, stl_succ]; rfl) | dsimp only [stl_zero, stl_succ]))
    (hQ : ∀ c a w, Q (.panic c) (a.put oi.dst v) w → Q (.panic c) a w := by exact fun _ _ _ h => h) :
    Pl ((i, some t, 2) :: ps) (wpAnyLast P md ops Q S ds (fuel + 1) (bl n m) ⟨l0.toArray, de⟩ w) :=
  take_ (bl n (m ||| 1 <<< i)) hi hN (take_of HT.out hc) hQ (Or.inl ⟨hw, hy⟩) hS (by rw [put_lit, hv, ha]) h
end
section
variable {P : Program} {id : Nat} {d : Bool} {Q : Exit → Act → World → Prop} {l l' b : List Oper} {a : Act} {w : World}
/-! A region of more than 64 operations is a list that is joined: its list written out, so that go_skip and go_guarded see its operations. -/
theorem rgl (h : (Code.region id l'.toArray d).wp P Q a w) (e : List.append l b = l' := by (dsimp only [List.append_eq, List.cons_append, List.nil_append] <;> rfl)) : (Code.region id (List.append l b).toArray d).wp P Q a w := by
  rw [e]
  exact h
end
/-- The world by a name. -/
theorem nmC {P : Program} {c : Code} {Q : Exit → Act → World → Prop} {a : Act} {W : World} (h : ∀ W_, W = W_ → c.wp P Q a W_) : c.wp P Q a W := h W rfl
end Go.Proofs.YtnmhefdjakjngaaGreatDoorV
