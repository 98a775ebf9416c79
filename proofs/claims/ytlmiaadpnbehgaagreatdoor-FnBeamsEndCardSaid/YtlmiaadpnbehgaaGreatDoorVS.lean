-- Steps of a region that draws, over a frame that is written out. Written by this session.
import Derived.Test.YtlmiaadpnbehgaaGreatDoorVF
set_option linter.unusedVariables false
namespace Go.Proofs.YtlmiaadpnbehgaaGreatDoorV
open Go.RowKit Go.Proofs.YtlmiaadpnbehgaaGreatDoorW.PrintWords Go.Proofs.YtlmiaadpnbehgaaGreatDoorW.PrintLast
section
variable {P : Program} {ops : Array Oper} {Q : Exit → Act → World → Prop} {md : Region.Mode} {S : World → Prop} {ds : List Nat} {T : Bool × List (List Nat × List Nat)} {B : List Nat}
variable {n m i κ t : Nat} {ps : List (Nat × Option Tmp × Nat)} {oi : Oper} {v v' : Value} {fuel : Nat} {l0 l1 : List Value} {de : List Deferred} {w : World}
/-! pA, pB, pT, pU again, over a frame that is written out: guards by the kernel, the new frame by definition. -/
theorem rA (HT : Aside0 (rtab md ops = T)) (h : Pl ps (wpAnyLast P md ops Q S ds fuel (bl n (m ||| 1 <<< i)) ⟨l1.toArray, de⟩ w))
    (hi : ops[i]? = some oi := by exact rfl) (hN : oi.dst = some t := by exact rfl) (hw : Region.wanted oi (yielded ops l0.toArray) = true := by rfl)
    (hc : anyT T (bl n m).toList (bl n (m ||| 1 <<< i)).toList i = true := by kernel_rfl)
    (hy : ∀ w', (execOp (Act.eval ⟨l0.toArray, de⟩) oi).run P w' = .ok (.value v) w' := by intro w'; go_simp; with_reducible rfl)
    (hv : v = v' := by ((try simp only [i64_w, i32_w]); rfl))
    (ha : stl l0 t v' = l1 := by (first | (dsimp only [stl_zero, stl_succ]; rfl) | dsimp only [stl_zero, stl_succ]))
    (hQ : ∀ c a w, Q (.panic c) (a.put oi.dst v) w → Q (.panic c) a w := by exact fun _ _ _ h => h) :
    Pl ((i, some t, 0) :: ps) (wpAnyLast P md ops Q S ds (fuel + 1) (bl n m) ⟨l0.toArray, de⟩ w) :=
  pure_ (bl n (m ||| 1 <<< i)) hi hN (any_of HT.out hc) hQ (Or.inl ⟨hw, hy⟩) (by rw [put_lit, hv, ha]) h
theorem rB (HT : Aside0 (rtab md ops = T)) (h : Pl ps (wpAnyLast P md ops Q S ds fuel (bl n (m ||| 1 <<< i)) ⟨l1.toArray, de⟩ w))
    (hi : ops[i]? = some oi := by exact rfl) (hN : oi.dst = some t := by exact rfl) (hw : Region.wanted oi (yielded ops l0.toArray) = false := by rfl)
    (hc : anyT T (bl n m).toList (bl n (m ||| 1 <<< i)).toList i = true := by kernel_rfl)
    (ha : stl l0 t undef = l1 := by (first | (dsimp only [stl_zero, stl_succ]; rfl) | dsimp only [stl_zero, stl_succ]))
    (hQ : ∀ c a w, Q (.panic c) (a.put oi.dst undef) w → Q (.panic c) a w := by exact fun _ _ _ h => h) :
    Pl ((i, some t, κ) :: ps) (wpAnyLast P md ops Q S ds (fuel + 1) (bl n m) ⟨l0.toArray, de⟩ w) :=
  pure_ (bl n (m ||| 1 <<< i)) hi hN (any_of HT.out hc) hQ (Or.inr ⟨hw, rfl⟩) (by rw [put_lit, ha]) h
theorem rT (HT : Aside0 (rtab md ops = T)) (HW : Aside0 (waitsOk T.2 B = true)) (hS : S w) (h : Pl ps (wpAnyLast P md ops Q S ds fuel (bl n (m ||| 1 <<< i)) ⟨l1.toArray, de⟩ w))
    (hi : ops[i]? = some oi := by exact rfl) (hN : oi.dst = some t := by exact rfl) (hw : Region.wanted oi (yielded ops l0.toArray) = true := by rfl)
    (hc : takeW T B ds (bl n m).toList (bl n (m ||| 1 <<< i)).toList i = true := by kernel_rfl)
    (hy : ∀ w', S w' → (execOp (Act.eval ⟨l0.toArray, de⟩) oi).run P w' = .ok (.value v) w' := by (intro w' hs_; go_simp; with_reducible rfl))
    (hv : v = v' := by ((try simp only [i64_w, i32_w]); rfl))
    (ha : stl l0 t v' = l1 := by (first | (dsimp only [stl_zero, stl_succ]; rfl) | dsimp only [stl_zero, stl_succ]))
    (hQ : ∀ c a w, Q (.panic c) (a.put oi.dst v) w → Q (.panic c) a w := by exact fun _ _ _ h => h) :
    Pl ((i, some t, 2) :: ps) (wpAnyLast P md ops Q S ds (fuel + 1) (bl n m) ⟨l0.toArray, de⟩ w) :=
  take_ (bl n (m ||| 1 <<< i)) hi hN (take_ofW HT.out HW.out hc) hQ (Or.inl ⟨hw, hy⟩) hS (by rw [put_lit, hv, ha]) h
theorem rU (HT : Aside0 (rtab md ops = T)) (hS : S w) (h : Pl ps (wpAnyLast P md ops Q S ds fuel (bl n (m ||| 1 <<< i)) ⟨l1.toArray, de⟩ w))
    (hi : ops[i]? = some oi := by exact rfl) (hN : oi.dst = some t := by exact rfl) (hw : Region.wanted oi (yielded ops l0.toArray) = true := by rfl)
    (hc : takeT T ds (bl n m).toList (bl n (m ||| 1 <<< i)).toList i = true := by kernel_rfl)
    (hy : ∀ w', S w' → (execOp (Act.eval ⟨l0.toArray, de⟩) oi).run P w' = .ok (.value v) w' := by (intro w' hs_; go_simp; with_reducible rfl))
    (hv : v = v' := by ((try simp only [i64_w, i32_w]); rfl))
    (ha : stl l0 t v' = l1 := by (first | (dsimp only [stl_zero, stl_succ]; rfl) | dsimp only [stl_zero, stl_succ]))
    (hQ : ∀ c a w, Q (.panic c) (a.put oi.dst v) w → Q (.panic c) a w := by exact fun _ _ _ h => h) :
    Pl ((i, some t, 2) :: ps) (wpAnyLast P md ops Q S ds (fuel + 1) (bl n m) ⟨l0.toArray, de⟩ w) :=
  take_ (bl n (m ||| 1 <<< i)) hi hN (take_of HT.out hc) hQ (Or.inl ⟨hw, hy⟩) hS (by rw [put_lit, hv, ha]) h
end
end Go.Proofs.YtlmiaadpnbehgaaGreatDoorV
