-- Written by xprint.py, a program of this session, for this seat; Lean checks it.
import Derived.Test.YtfdnhipjiofnaaaPFnExactSeenInx0
import Derived.Test.YtfdnhipjiofnaaaPFnExactSeenInx1
import Derived.Test.YtfdnhipjiofnaaaPFnExactSeenInx2
import Derived.Test.YtfdnhipjiofnaaaPFnExactSeenInx3
namespace Go.Proofs.Ytfdnhipjiofnaaa.PFnExactSeenIn
open Go.RowKit Go.Proofs.YtfdnhipjiofnaaaW.PrintWords Go.Proofs.YtfdnhipjiofnaaaW.PrintLast Go.Proofs.YtfdnhipjiofnaaaW.PrintMore
attribute [local go_sem] max2_int min2_int max_two min_two max_three min_three max_four min_four   -- for this text's walks alone
set_option linter.unusedVariables false
set_option linter.unusedSimpArgs false

/-! ### laws_markIntSS: function 13 -/
def laws_markIntSS.l0 : Nat → List (List Int) → Int → Int → Option (Int × List (List Int))
  | 0, _, _, _ => none
  | k + 1, x0, x1, x5 => if x5 < (x0.length : Int) then (if 0 ≤ x5 then ((laws_markIntS.f k (x0.getD x5.toNat []) x1).bind fun t => (laws_markIntSS.l0 k (x0.set x5.toNat t.2) t.1 (wrap64 (x5 + 1)))) else (none)) else (some (x1, x0))
def laws_markIntSS.f (k : Nat) (l0 : List (List Int)) (a1 : Int) : Option (Int × List (List Int)) := laws_markIntSS.l0 k l0 a1 0
theorem laws_markIntSS.mono_l : ∀ k, (∀ y0 y1 y2, LeO (laws_markIntSS.l0 k y0 y1 y2) (laws_markIntSS.l0 (k + 1) y0 y1 y2))
  | 0 => fun _ _ _ r h => by simp [laws_markIntSS.l0] at h
  | k + 1 => by
    have ih0 := laws_markIntSS.mono_l k
    intro y0 y1 y2
    unfold laws_markIntSS.l0
    refine LeO.ite ?_ (LeO.refl _)
    refine LeO.ite ?_ (LeO.refl _)
    exact LeO.bind (laws_markIntS.mono _ _ k) (fun _ => ih0 _ _ _)
theorem laws_markIntSS.mono : ∀ a0 a1 k, LeO (laws_markIntSS.f k a0 a1) (laws_markIntSS.f (k + 1) a0 a1) := fun a0 a1 k => laws_markIntSS.mono_l k _ _ _
set_option maxHeartbeats 8000000 in
set_option maxRecDepth 100000 in
theorem laws_markIntSS.calls (k : Nat) (P0_ : Nat → Prop) (u9000_ : Value) (l0 : List (List Int)) (a1 : Int) (r1 : Int) (r2 : List (List Int)) (w0 w : World) (hB : Below w0.heap.size w0 w) (ho0 : Kd.S (Kd.slice 3 (Kd.int .i64)) 22 w w0.heap.size P0_ u9000_ l0) (h : laws_markIntSS.f k l0 a1 = some (r1, r2)) :
    Calls Try.prog 13 #[u9000_, .int .i64 a1] w fun e w' => e = .returned (.int .i64 r1) ∧ Kd.S (Kd.slice 3 (Kd.int .i64)) 22 w' w0.heap.size (fun k_ => (P0_ k_ ∨ w.heap.size ≤ k_)) u9000_ r2 ∧ Below w0.heap.size w0 w' ∧ Kept w w' (fun k_ => P0_ k_) := by
  have HO0 := Aside0.mk (show Kd.S (Kd.slice 3 (Kd.int .i64)) 22 w w0.heap.size (fun k_ => (P0_ k_ ∨ w.heap.size ≤ k_)) u9000_ l0 from Kd.S_mono ho0 (fun k_ hk => (.inl hk)))
  have HK := Aside0.mk (Kept.refl w (fun k_ => P0_ k_))
  have HB := Aside0.mk hB
  clear hB ho0
  have H' := Aside0.mk (show laws_markIntSS.l0 k l0 a1 0 = some (r1, r2) from h)
  clear h
  go_enter Try.func13, Try.ntmps13
  go_wp2
  go_loopg [1, 5] k (fun kq v1 v5 w' => ∃ (x0_1 : List (List Int)) (x1_1 : Int) (x3_1 : Int), v1 = .int .i64 x1_1 ∧ v5 = .int .i64 x3_1 ∧ Aside0 (laws_markIntSS.l0 kq x0_1 x1_1 x3_1 = some (r1, r2)) ∧ Aside0 (kq ≤ k) ∧ Aside0 (Kd.S (Kd.slice 3 (Kd.int .i64)) 22 w' w0.heap.size (fun k_ => (P0_ k_ ∨ w.heap.size ≤ k_)) u9000_ x0_1) ∧ Aside0 (Kept w w' (fun k_ => P0_ k_)) ∧ Aside0 (Below w0.heap.size w0 w'))
  case atStart => exact ⟨l0, a1, 0, rfl, rfl, H', ⟨Nat.le_refl _⟩, HO0, HK, HB⟩
  case round =>
    clear H' HO0 HK HB
    obtain ⟨x0_1, x1_1, x3_1, rfl, rfl, HA, HK1, HO, HK, HB⟩ := hrel
    cases gk with
    | zero => exact absurd HA.out (by simp [laws_markIntSS.l0])
    | succ k1 =>
      have H := HA.out
      clear HA
      simp only [laws_markIntSS.l0] at H
      by_cases c3 : x3_1 < (x0_1.length : Int)
      · rw [if_pos c3] at H
        have c3b0 : decide (x3_1 < (x0_1.length : Int)) = true := decide_eq_true c3
        by_cases c4 : 0 ≤ x3_1
        · rw [if_pos c4] at H
          have c4b0 : decide (0 ≤ x3_1) = true := decide_eq_true c4
          replace H := Option.bind_eq_some_iff.mp H
          obtain ⟨⟨t1, t2⟩, A6, H⟩ := H
          have H' := Aside0.mk H
          have HC := Aside0.mk A6
          clear H A6
          obtain ⟨go5, co5, eo5, gb5, gl5, cl5, HG5⟩ := Kd.R_form (Kd.S_R HO.out) (by omega)
          subst eo5
          obtain ⟨oki, cs, hcl, hM, hcc, hfr, hoki, hH⟩ := Kd.S_elem HO.out [] x3_1 c4 c3
          obtain ⟨v, rfl, hR⟩ := hM
          obtain ⟨row, hrow⟩ : ∃ row, x0_1.getD x3_1.toNat [] = row := ⟨_, rfl⟩
          rw [hrow] at hR
          have HC2 := HC.out
          rw [hrow] at HC2
          replace HC := Aside0.mk HC2
          clear HC2
          clear hrow
          have hx := hcc 0 v rfl
          have hf := hfr 0
          have es : x3_1.toNat * (Kd.slice 3 (Kd.int .i64)).sz + 0 = x3_1.toNat := Nat.mul_one _
          rw [es] at hx hf
          obtain ⟨Ar, cr, er⟩ := Kd.R_slice hR
          subst er
          have HR := Aside0.mk hR
          have HH := Aside0.mk hH
          have HI := Aside0.mk hoki
          have p5 := eq_true c4
          have q5 := eq_true c3
          clear hR hH hoki hcc hfr hcl c3 c4 gb5 gl5 cl5 HG5 HO
          go_wp2_with fail
          with_reducible refine (laws_markIntS.calls k1 oki _ row x1_1 t1 t2 w0 _ HB.out HR.out HC.out).mono ?_
          rintro e w2 ⟨rfl, hR2, hB2, hK2⟩
          have hS := Kd.H_back (Kd.H_kept HH.out hK2 (fun _ _ h => h)) (x' := t2) (okp := oki) ⟨_, rfl, ⟨HR.out.1, hR2.2⟩⟩ (fun _ h => h)
          have HS := Aside0.mk hS
          have HK2 := Aside0.mk (HK.out.then_ hK2 (fun k_ hk => (HI.out k_ hk).1))
          have HB2 := Aside0.mk hB2
          clear hS hR2 hB2 hK2 HR HH HI
          go_wp2_with fail
          go_roundg k1
          case measure => have := HK1.out; omega
          case rel => exact ⟨_, _, _, rfl, rfl, H', ⟨by have := HK1.out; omega⟩, HS, HK2, HB2⟩
        · rw [if_neg c4] at H
          exact absurd H (by simp)
      · rw [if_neg c3] at H
        have c3b0 : decide (x3_1 < (x0_1.length : Int)) = false := decide_eq_false c3
        clear c3
        simp only [Option.some.injEq, Prod.mk.injEq] at H
        obtain ⟨rfl, rfl⟩ := H
        obtain ⟨Ao9, co9, eo9⟩ := Kd.R_slice (Kd.S_R HO.out)
        subst eo9
        go_wp2
        go_ret
        exact ⟨rfl, HO.out, HB.out, HK.out⟩

/-! ### laws_heldIntS: function 14 -/
def laws_heldIntS.l0 : Nat → List Int → Int → Int → Option (Int)
  | 0, _, _, _ => none
  | k + 1, x0, x1, x5 => if x5 < (x0.length : Int) then (if 0 ≤ x5 then (if (rd x0 x5) = x1 then (laws_heldIntS.l0 k x0 (wrap64 (x1 + 1)) (wrap64 (x5 + 1))) else (some (-1))) else (none)) else (some x1)
def laws_heldIntS.f (k : Nat) (l0 : List Int) (a1 : Int) : Option (Int) := laws_heldIntS.l0 k l0 a1 0
theorem laws_heldIntS.mono_l : ∀ k, (∀ y0 y1 y2, LeO (laws_heldIntS.l0 k y0 y1 y2) (laws_heldIntS.l0 (k + 1) y0 y1 y2))
  | 0 => fun _ _ _ r h => by simp [laws_heldIntS.l0] at h
  | k + 1 => by
    have ih0 := laws_heldIntS.mono_l k
    · intro y0 y1 y2
      unfold laws_heldIntS.l0
      repeat' first
      | (with_reducible exact ih0 _ _ _)
      | (with_reducible exact LeO.refl _)
      | (with_reducible exact LeO.none _)
      | (with_reducible refine LeO.ite ?_ ?_)
      | (with_reducible refine LeO.bind ?_ (fun _ => ?_))
      | exact ih0 _ _ _
      | exact LeO.none _
      | refine LeO.ite ?_ ?_
      | refine LeO.bind ?_ (fun _ => ?_)
theorem laws_heldIntS.mono : ∀ a0 a1 k, LeO (laws_heldIntS.f k a0 a1) (laws_heldIntS.f (k + 1) a0 a1) := by
  intro a0 a1 k
  have ih0 := laws_heldIntS.mono_l k
  unfold laws_heldIntS.f
  repeat' first
      | (with_reducible exact ih0 _ _ _)
      | (with_reducible exact LeO.refl _)
      | (with_reducible exact LeO.none _)
      | (with_reducible refine LeO.ite ?_ ?_)
      | (with_reducible refine LeO.bind ?_ (fun _ => ?_))
      | exact ih0 _ _ _
      | exact LeO.none _
      | refine LeO.ite ?_ ?_
      | refine LeO.bind ?_ (fun _ => ?_)
set_option maxHeartbeats 8000000 in
set_option maxRecDepth 100000 in
theorem laws_heldIntS.calls (k : Nat) (A0 : Option Addr) (c0 : Nat) (l0 : List Int) (a1 : Int) (r : Int) (w : World) (hr0 : Kd.C (Kd.int .i64) w A0 l0.length l0) (hc0 : l0.length ≤ c0) (h : laws_heldIntS.f k l0 a1 = some r) :
    Calls Try.prog 14 #[.slice A0 l0.length c0, .int .i64 a1] w fun e w' => e = .returned (.int .i64 r) ∧ Drawn0 w w' := by
  have HR0 := Aside0.mk hr0
  have HC0 := Aside0.mk hc0
  clear hr0 hc0
  have H : (laws_heldIntS.l0 k l0 a1 0) = some r := h
  clear h
  have H' := Aside0.mk H
  clear H
  go_enter Try.func14, Try.ntmps14
  go_wp2
  go_loopg [1, 5] k (fun kq v1 v5 w' => ∃ (x1_1 : Int) (x5_1 : Int), v1 = .int .i64 x1_1 ∧ v5 = .int .i64 x5_1 ∧ Aside0 (laws_heldIntS.l0 kq l0 x1_1 x5_1 = some r) ∧ Aside0 (kq ≤ k) ∧ Drawn0 w w')
  case atStart => exact ⟨(a1), (0), (by first | rfl | (simp; done) | (simp [*]; done)), (by first | rfl | (simp; done) | (simp [*]; done)), H', ⟨Nat.le_refl _⟩, by repeat (first | exact Drawn0.refl _ | apply Drawn0.step)⟩
  case round =>
    clear H'
    try clear c1
    try clear p2
    obtain ⟨x1_1, x5_1, rfl, rfl, HA, HK1, ⟨m1, rfl⟩⟩ := hrel
    cases gk with
    | zero => exact absurd HA.out (by simp [laws_heldIntS.l0])
    | succ k1 =>
      have H := HA.out
      clear HA
      simp only [laws_heldIntS.l0] at H
      by_cases c3 : x5_1 < (l0.length : Int)
      · rw [if_pos c3] at H
        have c3b0 : decide (x5_1 < (l0.length : Int)) = true := decide_eq_true c3
        clear c3
        by_cases c4 : 0 ≤ x5_1
        · rw [if_pos c4] at H
          have c4b0 : decide (0 ≤ x5_1) = true := decide_eq_true c4
          clear c4
          by_cases c5 : (rd l0 x5_1) = x1_1
          · rw [if_pos c5] at H
            have c5b0 : ((rd l0 x5_1) == x1_1) = true := beq_iff_eq.mpr c5
            have c5b1 : ((rd l0 x5_1) != x1_1) = false := bne_eq_false_iff_eq.mpr c5
            clear c5
            have H' := Aside0.mk H
            clear H
            have p171 : 0 ≤ (x5_1 : Int) := of_decide_eq_true (by first | (with_reducible assumption) | assumption)
            have q171 : x5_1 < (l0.length : Int) := of_decide_eq_true (by first | (with_reducible assumption) | assumption)
            obtain ⟨ad171, e171, hx171_0⟩ := Kd.at_int HR0.out x5_1 p171 q171
            cases e171
            replace p171 := eq_true p171
            replace q171 := eq_true q171
            go_wp2
            go_roundg k1
            case measure => have := HK1.out; omega
            case rel => exact ⟨(wrap64 (x1_1 + 1)), (wrap64 (x5_1 + 1)), (by first | rfl | (simp; done) | (simp [*]; done)), (by first | rfl | (simp; done) | (simp [*]; done)), H', ⟨by have := HK1.out; omega⟩, by repeat (first | exact Drawn0.refl _ | apply Drawn0.step)⟩
          · rw [if_neg c5] at H
            have c5b0 : ((rd l0 x5_1) == x1_1) = false := beq_eq_false_iff_ne.mpr c5
            have c5b1 : ((rd l0 x5_1) != x1_1) = true := bne_iff_ne.mpr c5
            obtain rfl := Option.some.inj H
            have p171 : 0 ≤ (x5_1 : Int) := of_decide_eq_true (by first | (with_reducible assumption) | assumption)
            have q171 : x5_1 < (l0.length : Int) := of_decide_eq_true (by first | (with_reducible assumption) | assumption)
            obtain ⟨ad171, e171, hx171_0⟩ := Kd.at_int HR0.out x5_1 p171 q171
            cases e171
            replace p171 := eq_true p171
            replace q171 := eq_true q171
            go_wp2
            go_ret
            exact ⟨by first | rfl | (simp; done) | (simp [*]; done), by repeat (first | exact Drawn0.refl _ | apply Drawn0.step)⟩
        · rw [if_neg c4] at H
          exact absurd H (by simp)
      · rw [if_neg c3] at H
        have c3b0 : decide (x5_1 < (l0.length : Int)) = false := decide_eq_false c3
        clear c3
        obtain rfl := Option.some.inj H
        go_wp2
        go_ret
        exact ⟨by first | rfl | (simp; done) | (simp [*]; done), by repeat (first | exact Drawn0.refl _ | apply Drawn0.step)⟩

/-! ### laws_FnExactSeenIn: function 3 -/
theorem si_R {w W W2 : World} {v : Value} {r : List Int} (h : Kd.R (Kd.int .i64) 3 W2 W.heap.size (fun _ => True) v r) (hB : Below w.heap.size w W) : ∃ A c, v = .slice A r.length c ∧ Aside0 (Kd.R (Kd.int .i64) 3 W2 w.heap.size (fun k => W.heap.size ≤ k ∧ k < W2.heap.size) (.slice A r.length c) r) := by
  obtain ⟨A, c, rfl⟩ := Kd.R_slice h
  exact ⟨A, c, rfl, ⟨Kd.R_lower (Kd.R_mono (Kd.R_bound h) (fun k hk => ⟨hk.2.1, hk.2.2.1⟩)) hB.size⟩⟩
theorem si_S {w W W2 : World} {v : Value} {r : List (List Int)} (h : Kd.S (Kd.slice 3 (Kd.int .i64)) 22 W2 W.heap.size (fun _ => True) v r) (hB : Below w.heap.size w W) : ∃ A c, v = .slice A r.length c ∧ Aside0 (Kd.S (Kd.slice 3 (Kd.int .i64)) 22 W2 w.heap.size (fun k => W.heap.size ≤ k ∧ k < W2.heap.size) (.slice A r.length c) r) := by
  obtain ⟨A, c, rfl⟩ := Kd.R_slice (Kd.S_R h)
  exact ⟨A, c, rfl, ⟨Kd.S_lower (Kd.S_mono (Kd.S_bound h) (fun k hk => ⟨hk.2.1, hk.2.2.1⟩)) hB.size⟩⟩
theorem si_held (k : Nat) {W : World} {B : Nat} {ok : Nat → Prop} {A : Option Addr} {n c : Nat} {xs : List Int} (h : Kd.R (Kd.int .i64) 3 W B ok (.slice A n c) xs) (a1 r : Int) (hf : laws_heldIntS.f k xs a1 = some r) : Calls Try.prog 14 #[.slice A n c, .int .i64 a1] W fun e w' => e = .returned (.int .i64 r) ∧ Drawn0 W w' := by
  obtain ⟨e, h2, h3⟩ := Kd.R_reads' h
  subst e
  exact laws_heldIntS.calls k _ _ xs a1 r W h3 h2 hf
/-- All that the law asks, behind the guards. -/
structure SiAll (k : Nat) (l0 : List Int) (l1 : List (List Int)) (a2 a3 : Int) (out : List Int) (ok : Bool) (k1 k2 m : Int) (R1 : List Int) (R2 : List (List Int)) (R3 : List Int) : Prop where
  c0 : laws_toIntS.f k l0 = some l0
  c1 : laws_toIntSS.f k l1 = some l1
  s : spec_SeenIn.f k l0 l1 a2 a3 = some (out, ok)
  i : impl_SeenIn.f k l0 l1 a2 a3 = some (out, ok)
  e : laws_eqIntS.f k out out = some true
  e0 : laws_eqIntS.f k l0 l0 = some true
  e1 : laws_eqIntSS.f k l1 l1 = some true
  m0 : laws_markIntS.f k l0 1 = some (k1, R1)
  m1 : laws_markIntSS.f k l1 k1 = some (k2, R2)
  p2 : 0 ≤ k2
  m2 : laws_markIntS.f k out 1 = some (m, R3)
  pm : 0 ≤ m
  h2 : laws_heldIntS.f k R3 1 = some m
  ln : R3.length = out.length
def SiG (k : Nat) (l0 : List Int) (l1 : List (List Int)) (a2 a3 : Int) : Prop := ∃ out ok k1 k2 m R1 R2 R3, SiAll k l0 l1 a2 a3 out ok k1 k2 m R1 R2 R3
open Classical in
noncomputable def laws_FnExactSeenIn.f (k : Nat) (l0 : List Int) (l1 : List (List Int)) (a2 a3 : Int) : Option Bool :=
  if (l0.length : Int) > 1048576 then some true else (laws_szIntSS.f k l1 1048576).bind fun t => if t < 0 then some true else if SiG k l0 l1 a2 a3 then some true else none
set_option maxHeartbeats 8000000 in
set_option maxRecDepth 100000 in
theorem laws_FnExactSeenIn.calls (k : Nat) (A0 : Option Addr) (c0 : Nat) (l0 : List Int) (A1 : Option Addr) (c1 : Nat) (l1 : List (List Int)) (a2 : Int) (a3 : Int) (r : Bool) (w : World) (hr0 : Kd.C (Kd.int .i64) w A0 l0.length l0) (hc0 : l0.length ≤ c0) (hr1 : Kd.C (Kd.slice 3 (Kd.int .i64)) w A1 l1.length l1) (hc1 : l1.length ≤ c1) (h : laws_FnExactSeenIn.f k l0 l1 a2 a3 = some r) :
    Calls Try.prog 3 #[.slice A0 l0.length c0, .slice A1 l1.length c1, .int .i64 a2, .int .i64 a3] w fun e w' => e = .returned (.bool r) ∧ Below w.heap.size w w' := by
  have HR0 := Aside0.mk hr0
  have HC0 := Aside0.mk hc0
  have HR1 := Aside0.mk hr1
  have HC1 := Aside0.mk hc1
  clear hr0 hc0 hr1 hc1
  have HB := Aside0.mk (Below.refl w.heap.size w)
  unfold laws_FnExactSeenIn.f at h
  by_cases q0 : (l0.length : Int) > 1048576
  · rw [if_pos q0] at h
    obtain rfl := Option.some.inj h
    have c3b0 : decide (1048576 < (l0.length : Int)) = true := decide_eq_true q0
    have c3b1 : decide (1048576 < l0.length) = true := decide_eq_true (by omega)
    clear q0 h
    go_enter Try.func3, Try.ntmps3
    go_wp2
    go_ret
    exact ⟨rfl, HB.out⟩
  rw [if_neg q0] at h
  have c3b0 : decide (1048576 < (l0.length : Int)) = false := decide_eq_false q0
  have c3b1 : decide (1048576 < l0.length) = false := decide_eq_false (by omega)
  clear q0
  obtain ⟨left, hl, h⟩ := Option.bind_eq_some_iff.mp h
  have HL := Aside0.mk hl
  clear hl
  by_cases q1 : left < 0
  · rw [if_pos q1] at h
    obtain rfl := Option.some.inj h
    have c5b0 : decide (left < 0) = true := decide_eq_true q1
    clear q1 h
    go_enter Try.func3, Try.ntmps3
    go_wp2_with fail
    with_reducible refine (laws_szIntSS.calls k _ _ l1 1048576 left _ HR1.out HC1.out HL.out).mono ?_
    rintro e w' ⟨rfl, ⟨nd, rfl⟩⟩
    go_wp2_with fail
    go_ret
    exact ⟨rfl, pw_below_drewN HB.out nd⟩
  rw [if_neg q1] at h
  have c5b0 : decide (left < 0) = false := decide_eq_false q1
  clear q1
  by_cases q2 : SiG k l0 l1 a2 a3
  case neg => rw [if_neg q2] at h; cases h
  rw [if_pos q2] at h
  obtain rfl := Option.some.inj h
  clear h
  obtain ⟨out, ok, k1, k2, m, R1, R2, R3, hall⟩ := q2
  have HA := Aside0.mk hall
  clear hall
  have hbn : (ok != ok) = false := by cases ok <;> rfl
  have hbe : (ok == ok) = true := by cases ok <;> rfl
  go_enter Try.func3, Try.ntmps3
  go_wp2_with fail
  with_reducible refine (laws_szIntSS.calls k _ _ l1 1048576 left _ (Kd.C_below HR1.out HB.out) HC1.out HL.out).mono ?_
  rintro e w1 ⟨rfl, ⟨nd, hw⟩⟩
  have hb : Below w.heap.size w w1 := by rw [hw]; exact pw_below_drewN (Below.refl _ _) nd
  clear hw nd
  have o1 := Aside0.mk hb.size
  replace HB := Aside0.mk (below_step HB.out hb)
  clear hb
  go_wp2_with fail
  with_reducible refine (laws_toIntS.calls k _ _ l0 l0 _ (Kd.C_below HR0.out HB.out) HC0.out HA.out.c0).mono ?_
  rintro e w2 ⟨v, rfl, hR, hb⟩
  obtain ⟨A_a, c_a, rfl, H_a⟩ := si_R hR HB.out
  clear hR
  have o2 := Aside0.mk hb.size
  replace HB := Aside0.mk (below_step HB.out hb)
  clear hb
  go_wp2_with fail
  with_reducible refine (laws_toIntSS.calls k _ _ l1 l1 _ (Kd.C_below HR1.out HB.out) HC1.out HA.out.c1).mono ?_
  rintro e w3 ⟨v, rfl, hR, hb⟩
  replace H_a := Aside0.mk (Kd.R_below H_a.out hb)
  obtain ⟨A_b, c_b, rfl, H_b⟩ := si_S hR HB.out
  clear hR
  have o3 := Aside0.mk hb.size
  replace HB := Aside0.mk (below_step HB.out hb)
  clear hb
  go_wp2_with fail
  with_reducible refine (spec_SeenIn.calls k _ _ l0 _ _ l1 a2 a3 out ok _ (Kd.R_reads' H_a.out).2.2 (Kd.R_reads' H_a.out).2.1 (Kd.S_reads' H_b.out).2.2 (Kd.S_reads' H_b.out).2.1 HA.out.s).mono ?_
  rintro e w4 ⟨v, rfl, hR, hb⟩
  replace H_a := Aside0.mk (Kd.R_below H_a.out hb)
  replace H_b := Aside0.mk (Kd.S_below H_b.out hb)
  obtain ⟨A_W, c_W, rfl, H_W⟩ := si_R hR HB.out
  clear hR
  have o4 := Aside0.mk hb.size
  replace HB := Aside0.mk (below_step HB.out hb)
  clear hb
  clear H_a
  clear H_b
  go_wp2_with fail
  with_reducible refine (laws_toIntS.calls k _ _ l0 l0 _ (Kd.C_below HR0.out HB.out) HC0.out HA.out.c0).mono ?_
  rintro e w5 ⟨v, rfl, hR, hb⟩
  replace H_W := Aside0.mk (Kd.R_below H_W.out hb)
  obtain ⟨A_x, c_x, rfl, H_x⟩ := si_R hR HB.out
  clear hR
  have o5 := Aside0.mk hb.size
  replace HB := Aside0.mk (below_step HB.out hb)
  clear hb
  go_wp2_with fail
  with_reducible refine (laws_toIntSS.calls k _ _ l1 l1 _ (Kd.C_below HR1.out HB.out) HC1.out HA.out.c1).mono ?_
  rintro e w6 ⟨v, rfl, hR, hb⟩
  replace H_W := Aside0.mk (Kd.R_below H_W.out hb)
  replace H_x := Aside0.mk (Kd.R_below H_x.out hb)
  obtain ⟨A_y, c_y, rfl, H_y⟩ := si_S hR HB.out
  clear hR
  have o6 := Aside0.mk hb.size
  replace HB := Aside0.mk (below_step HB.out hb)
  clear hb
  go_wp2_with fail
  with_reducible refine (impl_SeenIn.calls k _ _ _ l0 _ _ l1 a2 a3 out ok _ (Kd.R_V (base' := _) H_x.out) (Kd.S_reads' H_y.out).2.2 (Kd.S_reads' H_y.out).2.1 HA.out.i).mono ?_
  rintro e w7 ⟨v, rfl, hR, hb⟩
  replace H_W := Aside0.mk (Kd.R_below H_W.out hb)
  replace H_x := Aside0.mk (Kd.R_below H_x.out hb)
  replace H_y := Aside0.mk (Kd.S_below H_y.out hb)
  obtain ⟨A_g, c_g, rfl, H_g⟩ := si_R (Kd.R_mono hR (fun _ _ => trivial)) HB.out
  clear hR
  have o7 := Aside0.mk hb.size
  replace HB := Aside0.mk (below_step HB.out hb)
  clear hb
  go_wp2_with fail
  with_reducible refine (laws_eqIntS.calls k _ _ out _ _ out true _ (Kd.R_reads' H_g.out).2.2 (Kd.R_reads' H_g.out).2.1 (Kd.R_reads' H_W.out).2.2 (Kd.R_reads' H_W.out).2.1 HA.out.e).mono ?_
  rintro e w8 ⟨rfl, ⟨nd, hw⟩⟩
  have hb : Below w7.heap.size w7 w8 := by rw [hw]; exact pw_below_drewN (Below.refl _ _) nd
  clear hw nd
  replace H_W := Aside0.mk (Kd.R_below H_W.out hb)
  replace H_x := Aside0.mk (Kd.R_below H_x.out hb)
  replace H_y := Aside0.mk (Kd.S_below H_y.out hb)
  replace H_g := Aside0.mk (Kd.R_below H_g.out hb)
  have o8 := Aside0.mk hb.size
  replace HB := Aside0.mk (below_step HB.out hb)
  clear hb
  go_wp2_with fail
  with_reducible refine (laws_toIntS.calls k _ _ l0 l0 _ (Kd.C_below HR0.out HB.out) HC0.out HA.out.c0).mono ?_
  rintro e w9 ⟨v, rfl, hR, hb⟩
  replace H_W := Aside0.mk (Kd.R_below H_W.out hb)
  replace H_x := Aside0.mk (Kd.R_below H_x.out hb)
  replace H_y := Aside0.mk (Kd.S_below H_y.out hb)
  replace H_g := Aside0.mk (Kd.R_below H_g.out hb)
  obtain ⟨A_t, c_t, rfl, H_t⟩ := si_R hR HB.out
  clear hR
  have o9 := Aside0.mk hb.size
  replace HB := Aside0.mk (below_step HB.out hb)
  clear hb
  go_wp2_with fail
  with_reducible refine (laws_eqIntS.calls k _ _ l0 _ _ l0 true _ (Kd.R_reads' H_x.out).2.2 (Kd.R_reads' H_x.out).2.1 (Kd.R_reads' H_t.out).2.2 (Kd.R_reads' H_t.out).2.1 HA.out.e0).mono ?_
  rintro e w10 ⟨rfl, ⟨nd, hw⟩⟩
  have hb : Below w9.heap.size w9 w10 := by rw [hw]; exact pw_below_drewN (Below.refl _ _) nd
  clear hw nd
  replace H_W := Aside0.mk (Kd.R_below H_W.out hb)
  replace H_x := Aside0.mk (Kd.R_below H_x.out hb)
  replace H_y := Aside0.mk (Kd.S_below H_y.out hb)
  replace H_g := Aside0.mk (Kd.R_below H_g.out hb)
  replace H_t := Aside0.mk (Kd.R_below H_t.out hb)
  have o10 := Aside0.mk hb.size
  replace HB := Aside0.mk (below_step HB.out hb)
  clear hb
  clear H_t
  go_wp2_with fail
  with_reducible refine (laws_toIntSS.calls k _ _ l1 l1 _ (Kd.C_below HR1.out HB.out) HC1.out HA.out.c1).mono ?_
  rintro e w11 ⟨v, rfl, hR, hb⟩
  replace H_W := Aside0.mk (Kd.R_below H_W.out hb)
  replace H_x := Aside0.mk (Kd.R_below H_x.out hb)
  replace H_y := Aside0.mk (Kd.S_below H_y.out hb)
  replace H_g := Aside0.mk (Kd.R_below H_g.out hb)
  obtain ⟨A_u, c_u, rfl, H_u⟩ := si_S hR HB.out
  clear hR
  have o11 := Aside0.mk hb.size
  replace HB := Aside0.mk (below_step HB.out hb)
  clear hb
  go_wp2_with fail
  with_reducible refine (laws_eqIntSS.calls k _ _ l1 _ _ l1 true _ (Kd.S_reads' H_y.out).2.2 (Kd.S_reads' H_y.out).2.1 (Kd.S_reads' H_u.out).2.2 (Kd.S_reads' H_u.out).2.1 HA.out.e1).mono ?_
  rintro e w12 ⟨rfl, ⟨nd, hw⟩⟩
  have hb : Below w11.heap.size w11 w12 := by rw [hw]; exact pw_below_drewN (Below.refl _ _) nd
  clear hw nd
  replace H_W := Aside0.mk (Kd.R_below H_W.out hb)
  replace H_x := Aside0.mk (Kd.R_below H_x.out hb)
  replace H_y := Aside0.mk (Kd.S_below H_y.out hb)
  replace H_g := Aside0.mk (Kd.R_below H_g.out hb)
  replace H_u := Aside0.mk (Kd.S_below H_u.out hb)
  have o12 := Aside0.mk hb.size
  replace HB := Aside0.mk (below_step HB.out hb)
  clear hb
  clear H_u
  go_wp2_with fail
  with_reducible refine (laws_markIntS.calls k _ _ l0 1 k1 R1 w _ HB.out H_x.out HA.out.m0).mono ?_
  rintro e w13 ⟨rfl, hR, hb, hK⟩
  replace H_W := Aside0.mk (Kd.R_kept H_W.out hK (fun k hk hs => by have := o1.out; have := o2.out; have := o3.out; have := o4.out; have := o5.out; have := o6.out; have := o7.out; have := o8.out; omega))
  replace H_y := Aside0.mk (Kd.S_kept H_y.out hK (fun k hk hs => by have := o1.out; have := o2.out; have := o3.out; have := o4.out; have := o5.out; have := o6.out; have := o7.out; have := o8.out; omega))
  replace H_g := Aside0.mk (Kd.R_kept H_g.out hK (fun k hk hs => by have := o1.out; have := o2.out; have := o3.out; have := o4.out; have := o5.out; have := o6.out; have := o7.out; have := o8.out; omega))
  have H2_x := Aside0.mk (Kd.R_mono hR (fun k_ hk => hk))
  clear H_x hR
  have H_x := H2_x
  clear H2_x
  replace HB := Aside0.mk hb
  clear hb hK
  clear H_x
  go_wp2_with fail
  with_reducible refine (laws_markIntSS.calls k _ _ l1 k1 k2 R2 w _ HB.out H_y.out HA.out.m1).mono ?_
  rintro e w14 ⟨rfl, hR, hb, hK⟩
  replace H_W := Aside0.mk (Kd.R_kept H_W.out hK (fun k hk hs => by have := o1.out; have := o2.out; have := o3.out; have := o4.out; have := o5.out; have := o6.out; have := o7.out; have := o8.out; omega))
  replace H_g := Aside0.mk (Kd.R_kept H_g.out hK (fun k hk hs => by have := o1.out; have := o2.out; have := o3.out; have := o4.out; have := o5.out; have := o6.out; have := o7.out; have := o8.out; omega))
  have H2_y := Aside0.mk (Kd.S_mono hR (fun k_ hk => hk))
  clear H_y hR
  have H_y := H2_y
  clear H2_y
  replace HB := Aside0.mk hb
  clear hb hK
  clear H_y
  have d2 : decide (k2 < 0) = false := decide_eq_false (by have := HA.out.p2; omega)
  go_wp2_with fail
  with_reducible refine (laws_eqIntS.calls k _ _ out _ _ out true _ (Kd.R_reads' H_g.out).2.2 (Kd.R_reads' H_g.out).2.1 (Kd.R_reads' H_W.out).2.2 (Kd.R_reads' H_W.out).2.1 HA.out.e).mono ?_
  rintro e w15 ⟨rfl, ⟨nd, hw⟩⟩
  have hb : Below w14.heap.size w14 w15 := by rw [hw]; exact pw_below_drewN (Below.refl _ _) nd
  clear hw nd
  replace H_W := Aside0.mk (Kd.R_below H_W.out hb)
  replace H_g := Aside0.mk (Kd.R_below H_g.out hb)
  have o15 := Aside0.mk hb.size
  replace HB := Aside0.mk (below_step HB.out hb)
  clear hb
  go_wp2_with fail
  with_reducible refine (laws_markIntS.calls k _ _ out 1 m R3 w _ HB.out H_g.out HA.out.m2).mono ?_
  rintro e w16 ⟨rfl, hR, hb, hK⟩
  replace H_W := Aside0.mk (Kd.R_kept H_W.out hK (fun k hk hs => by have := o1.out; have := o2.out; have := o3.out; have := o4.out; have := o5.out; have := o6.out; have := o7.out; have := o8.out; omega))
  have H2_g := Aside0.mk (Kd.R_mono hR (fun k_ hk => hk))
  clear H_g hR
  have H_g := H2_g
  clear H2_g
  replace HB := Aside0.mk hb
  clear hb hK
  have hln := Aside0.mk HA.out.ln
  have dm : decide (m < 0) = false := decide_eq_false (by have := HA.out.pm; omega)
  have em : (m != m) = false := by simp
  go_wp2_with fail
  with_reducible refine (si_held k H_g.out 1 m HA.out.h2).mono ?_
  rintro e w17 ⟨rfl, ⟨nd, hw⟩⟩
  have hb : Below w16.heap.size w16 w17 := by rw [hw]; exact pw_below_drewN (Below.refl _ _) nd
  clear hw nd
  replace H_W := Aside0.mk (Kd.R_below H_W.out hb)
  replace H_g := Aside0.mk (Kd.R_below H_g.out hb)
  have o17 := Aside0.mk hb.size
  replace HB := Aside0.mk (below_step HB.out hb)
  clear hb
  go_wp2_with fail
  with_reducible refine (laws_toIntS.calls k _ _ l0 l0 _ (Kd.C_below HR0.out HB.out) HC0.out HA.out.c0).mono ?_
  rintro e w18 ⟨v, rfl, hR, hb⟩
  replace H_W := Aside0.mk (Kd.R_below H_W.out hb)
  replace H_g := Aside0.mk (Kd.R_below H_g.out hb)
  obtain ⟨A_p, c_p, rfl, H_p⟩ := si_R hR HB.out
  clear hR
  have o18 := Aside0.mk hb.size
  replace HB := Aside0.mk (below_step HB.out hb)
  clear hb
  go_wp2_with fail
  with_reducible refine (laws_toIntSS.calls k _ _ l1 l1 _ (Kd.C_below HR1.out HB.out) HC1.out HA.out.c1).mono ?_
  rintro e w19 ⟨v, rfl, hR, hb⟩
  replace H_W := Aside0.mk (Kd.R_below H_W.out hb)
  replace H_g := Aside0.mk (Kd.R_below H_g.out hb)
  replace H_p := Aside0.mk (Kd.R_below H_p.out hb)
  obtain ⟨A_q, c_q, rfl, H_q⟩ := si_S hR HB.out
  clear hR
  have o19 := Aside0.mk hb.size
  replace HB := Aside0.mk (below_step HB.out hb)
  clear hb
  go_wp2_with fail
  with_reducible refine (impl_SeenIn.calls k _ _ _ l0 _ _ l1 a2 a3 out ok _ (Kd.R_V (base' := _) H_p.out) (Kd.S_reads' H_q.out).2.2 (Kd.S_reads' H_q.out).2.1 HA.out.i).mono ?_
  rintro e w20 ⟨v, rfl, hR, hb⟩
  replace H_W := Aside0.mk (Kd.R_below H_W.out hb)
  replace H_g := Aside0.mk (Kd.R_below H_g.out hb)
  replace H_p := Aside0.mk (Kd.R_below H_p.out hb)
  replace H_q := Aside0.mk (Kd.S_below H_q.out hb)
  obtain ⟨A_h, c_h, rfl, H_h⟩ := si_R (Kd.R_mono hR (fun _ _ => trivial)) HB.out
  clear hR
  have o20 := Aside0.mk hb.size
  replace HB := Aside0.mk (below_step HB.out hb)
  clear hb
  clear H_p
  clear H_q
  go_wp2_with fail
  with_reducible refine (laws_eqIntS.calls k _ _ out _ _ out true _ (Kd.R_reads' H_h.out).2.2 (Kd.R_reads' H_h.out).2.1 (Kd.R_reads' H_W.out).2.2 (Kd.R_reads' H_W.out).2.1 HA.out.e).mono ?_
  rintro e w21 ⟨rfl, ⟨nd, hw⟩⟩
  have hb : Below w20.heap.size w20 w21 := by rw [hw]; exact pw_below_drewN (Below.refl _ _) nd
  clear hw nd
  replace H_W := Aside0.mk (Kd.R_below H_W.out hb)
  replace H_g := Aside0.mk (Kd.R_below H_g.out hb)
  replace H_h := Aside0.mk (Kd.R_below H_h.out hb)
  have o21 := Aside0.mk hb.size
  replace HB := Aside0.mk (below_step HB.out hb)
  clear hb
  go_wp2_with fail
  with_reducible refine (si_held k H_g.out 1 m HA.out.h2).mono ?_
  rintro e w22 ⟨rfl, ⟨nd, hw⟩⟩
  have hb : Below w21.heap.size w21 w22 := by rw [hw]; exact pw_below_drewN (Below.refl _ _) nd
  clear hw nd
  replace H_W := Aside0.mk (Kd.R_below H_W.out hb)
  replace H_g := Aside0.mk (Kd.R_below H_g.out hb)
  replace H_h := Aside0.mk (Kd.R_below H_h.out hb)
  have o22 := Aside0.mk hb.size
  replace HB := Aside0.mk (below_step HB.out hb)
  clear hb
  go_wp2_with fail
  go_ret
  exact ⟨rfl, HB.out⟩

/-- THE ONE PURE STATEMENT of laws_FnExactSeenIn: yours. -/
def laws_FnExactSeenIn.Pure : Prop := ∀ (l0 : List Int) (l1 : List (List Int)) (a2 : Int) (a3 : Int), l0.length ≤ maxLen → l0.length * 8 ≤ 140737488351232 → (∀ x ∈ l0, (Lit.int .i64 x).wf = true) → l1.length ≤ maxLen → (∀ x ∈ l1, x.length ≤ maxLen ∧ ∀ y ∈ x, (Lit.int .i64 y).wf = true) → (Lit.int .i64 a2).wf = true → (Lit.int .i64 a3).wf = true → ∃ k, laws_FnExactSeenIn.f k l0 l1 a2 a3 = some true
theorem laws_FnExactSeenIn.walk (P : laws_FnExactSeenIn.Pure) (a0 : Option Addr) (len0 cap0 : Nat) (z0 : List Int) (A1 : Option Addr) (c1 : Nat) (l1 : List (List Int)) (a2 : Int) (a3 : Int) (w : World) (w0 : (a0 = none ∧ len0 = 0 ∧ cap0 = 0 ∧ z0 = []) ∨ ∃ x, a0 = some x ∧ len0 ≤ cap0 ∧ cap0 ≤ maxLen ∧ z0.length = cap0 ∧ (∀ i, i < z0.length → w.cell? (x.add i) = some (.int .i64 (z0.getD i 0))) ∧ ∀ n ∈ z0, (Lit.int .i64 n).wf = true) (y0 : len0 * 8 ≤ 140737488351232) (hr1 : Kd.C (Kd.slice 3 (Kd.int .i64)) w A1 l1.length l1) (hc1 : l1.length ≤ c1) (hm1 : l1.length ≤ maxLen) (hw1 : ∀ x ∈ l1, x.length ≤ maxLen ∧ ∀ y ∈ x, (Lit.int .i64 y).wf = true) (w2 : (Lit.int .i64 a2).wf = true) (w3 : (Lit.int .i64 a3).wf = true) :
    Calls Try.prog 3 #[.slice a0 len0 cap0, .slice A1 l1.length c1, .int .i64 a2, .int .i64 a3] w fun e w' => e = .returned (.bool true) ∧ Below w.heap.size w w' := by
  obtain ⟨l0, rfl, hr0, hm0, hw0, hc0⟩ := ReadsInt.ofRowC w0
  obtain ⟨k, h⟩ := P l0 l1 a2 a3 hm0 y0 hw0 hm1 hw1 w2 w3
  refine (laws_FnExactSeenIn.calls k _ _ l0 _ _ l1 a2 a3 true w (Kd.C_of_reads (d := (0 : Int)) (h1 := fun _ => rfl) hr0) hc0 hr1 hc1 h).mono ?_
  rintro e w' ⟨rfl, hd⟩
  exact ⟨rfl, hd⟩

end Go.Proofs.Ytfdnhipjiofnaaa.PFnExactSeenIn
