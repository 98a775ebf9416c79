-- Written by xprint.py, a program of this session, for this seat; Lean checks it.
import Derived.Test.YtikhifalfemimaaPFnExactPlacesOfBeamx0
import Derived.Test.YtikhifalfemimaaPFnExactPlacesOfBeamx5
import Derived.Test.YtikhifalfemimaaPFnExactPlacesOfBeamx6
namespace Go.Proofs.Ytikhifalfemimaa.PFnExactPlacesOfBeam
open Go.RowKit Go.Proofs.YtikhifalfemimaaW.PrintWords Go.Proofs.YtikhifalfemimaaW.PrintLast Go.Proofs.YtikhifalfemimaaW.PrintMore
attribute [local go_sem] max2_int min2_int max_two min_two max_three min_three max_four min_four   -- for this text's walks alone
set_option linter.unusedVariables false
set_option linter.unusedSimpArgs false

/-! ### impl_follow: function 33 -/
/-! The beams, step by step, as functions that always answer. -/
def fwInw (W H : Int) (s : S30) : S30 := match impl_inward.f W H s.f0 s.f1 s.f2 s.f3 with | some r => ⟨r.1, r.2.1, r.2.2.1, r.2.2.2⟩ | none => s
theorem fwInw_eq (W H x y : Int) (r u : Bool) : impl_inward.f W H x y r u = some ((fwInw W H ⟨x, y, r, u⟩).f0, (fwInw W H ⟨x, y, r, u⟩).f1, (fwInw W H ⟨x, y, r, u⟩).f2, (fwInw W H ⟨x, y, r, u⟩).f3) := by
  have t : ∃ z, impl_inward.f W H x y r u = some z := by unfold impl_inward.f; (repeat' split) <;> exact ⟨_, rfl⟩
  obtain ⟨z, hz⟩ := t
  simp only [fwInw, hz]
def fwCor (W H : Int) (s : S30) : Bool := (impl_isCorner.f W H s.f0 s.f1 s.f2 s.f3).getD false
theorem fwCor_eq (W H x y : Int) (r u : Bool) : impl_isCorner.f W H x y r u = some (fwCor W H ⟨x, y, r, u⟩) := by
  have t : ∃ z, impl_isCorner.f W H x y r u = some z := by unfold impl_isCorner.f; (repeat' split) <;> exact ⟨_, rfl⟩
  obtain ⟨z, hz⟩ := t
  simp only [fwCor, hz, Option.getD_some]
def fwNext (W H : Int) (s : S30) : S30 × ByteArray := match impl_next.f W H s.f0 s.f1 s.f2 s.f3 with | some r => (⟨r.1, r.2.1, r.2.2.1, r.2.2.2.1⟩, r.2.2.2.2) | none => (s, ⟨#[]⟩)
theorem fwNext_eq (W H x y : Int) (r u : Bool) : impl_next.f W H x y r u = some ((fwNext W H ⟨x, y, r, u⟩).1.f0, (fwNext W H ⟨x, y, r, u⟩).1.f1, (fwNext W H ⟨x, y, r, u⟩).1.f2, (fwNext W H ⟨x, y, r, u⟩).1.f3, (fwNext W H ⟨x, y, r, u⟩).2) := by
  have t : ∃ z, impl_next.f W H x y r u = some z := by
    have s1 : ∀ q, ∃ z, impl_sign.f q = some z := fun q => by unfold impl_sign.f; split <;> exact ⟨_, rfl⟩
    obtain ⟨a, ha⟩ := s1 r
    obtain ⟨c, hc⟩ := s1 u
    unfold impl_next.f
    rw [ha, hc]
    simp only [Option.bind_some, fwCor_eq, fwInw_eq]
    (repeat' split) <;> exact ⟨_, rfl⟩
  obtain ⟨z, hz⟩ := t
  simp only [fwNext, hz]
/-- The beam behind k steps, and the side of its last bounce. -/
def fwSt (W H : Int) (b : S30) : Nat → S30 × ByteArray
  | 0 => (fwInw W H b, ⟨#[]⟩)
  | k + 1 => fwNext W H (fwSt W H b k).1
/-- Does it go on behind step k? -/
def fwGo (W H : Int) (b : S30) (steps : Int) (stop : Nat → Bool) (k : Nat) : Prop := stop k = false ∧ (k : Int) < steps ∧ (k = 0 ∨ fwCor W H (fwSt W H b k).1 = false)
/-- All is as it was, but for one block; more may have been laid. -/
structure FwMv (g : Nat) (W1 W2 : World) : Prop where
  os : W2.os = W1.os
  tape : W2.tape = W1.tape
  output : W2.output = W1.output
  size : W1.heap.size ≤ W2.heap.size
  block : ∀ i, i < W1.heap.size → i ≠ g → W2.heap[i]? = W1.heap[i]?
theorem FwMv.refl (g : Nat) (w : World) : FwMv g w w := ⟨rfl, rfl, rfl, Nat.le_refl _, fun _ _ _ => rfl⟩
theorem FwMv.trans {g : Nat} {a b c : World} (h : FwMv g a b) (k : FwMv g b c) : FwMv g a c :=
  ⟨k.os.trans h.os, k.tape.trans h.tape, k.output.trans h.output, Nat.le_trans h.size k.size, fun i hi hn => (k.block i (Nat.lt_of_lt_of_le hi h.size) hn).trans (h.block i hi hn)⟩
theorem FwMv.of_below {g : Nat} {a b : World} (h : Below a.heap.size a b) : FwMv g a b := ⟨h.os, h.tape, h.output, h.size, fun i hi _ => h.block i hi⟩
/-- The closure leaves both of follow's own variables as they are. -/
structure FwFr (T : Nat) (W1 W2 : World) : Prop where
  size : W1.heap.size ≤ W2.heap.size
  t : W2.heap[T]? = W1.heap[T]?
  b : W2.heap[T + 1]? = W1.heap[T + 1]?
abbrev fwVal (s : S30) : Value := .agg #[.int .i64 s.f0, .int .i64 s.f1, .bool s.f2, .bool s.f3]
structure FwRel (W H : Int) (b : S30) (I : Nat → World → Prop) (T k : Nat) (wr : World) : Prop where
  inv : I k wr
  lt : T + 1 < wr.heap.size
  ht : wr.heap[T]? = some (.cells #[.int .i64 W, .int .i64 H] 28 (0, 0))
  hb : wr.heap[T + 1]? = some (.cells #[.int .i64 (fwSt W H b k).1.f0, .int .i64 (fwSt W H b k).1.f1, .bool (fwSt W H b k).1.f2, .bool (fwSt W H b k).1.f3] 30 (0, 0))
theorem fw_cells {w : World} {g : Nat} {t : TypeId} {cs : Array Value} (h : w.heap[g]? = some (.cells cs t (0, 0))) (i : Nat) : w.cell? ⟨g, i, none⟩ = cs[i]? ∧ w.frozen? ⟨g, i, none⟩ = false := by
  constructor
  · simp [World.cell?, h]
  · simp [World.frozen?, h]
theorem fw_set {w : World} {g i : Nat} (v : Value) : FwMv g w (w.setCell ⟨g, i, none⟩ v) := ⟨rfl, rfl, rfl, by simp, fun k _ hk => Below.heap_setCell w _ v k hk⟩
/-- The four cells of a beam stored. -/
theorem fw_store {w : World} {g : Nat} {a b c d a' b' c' d' : Value} {t : TypeId} (h : w.heap[g]? = some (.cells #[a, b, c, d] t (0, 0))) :
    (((((w.setCell ⟨g, 0, none⟩ a').setCell ⟨g, 1, none⟩ b').setCell ⟨g, 2, none⟩ c').setCell ⟨g, 3, none⟩ d').heap[g]? = some (.cells #[a', b', c', d'] t (0, 0))) ∧
      FwMv g w ((((w.setCell ⟨g, 0, none⟩ a').setCell ⟨g, 1, none⟩ b').setCell ⟨g, 2, none⟩ c').setCell ⟨g, 3, none⟩ d') := by
  refine ⟨?_, (((fw_set a').trans (fw_set b')).trans (fw_set c')).trans (fw_set d')⟩
  exact heap_setCell_same _ g 3 _ t d' (heap_setCell_same _ g 2 _ t c' (heap_setCell_same _ g 1 _ t b' (heap_setCell_same _ g 0 _ t a' h)))
theorem fwRel_mv {W H : Int} {b : S30} {I : Nat → World → Prop} {T k : Nat} {w1 w2 : World} (hst : ∀ k W1 W2, I k W1 → FwMv (T + 1) W1 W2 → I k W2) (R : FwRel W H b I T k w1) (hb : Below w1.heap.size w1 w2) : FwRel W H b I T k w2 :=
  ⟨hst k w1 w2 R.inv (.of_below hb), Nat.lt_of_lt_of_le R.lt hb.size, (hb.block T (by have := R.lt; omega)).trans R.ht, (hb.block (T + 1) R.lt).trans R.hb⟩
theorem fw_two (w : World) (o1 o2 : Obj) : ((w.alloc o1).alloc o2).heap[w.heap.size]? = some o1 ∧ ((w.alloc o1).alloc o2).heap[w.heap.size + 1]? = some o2 ∧ ((w.alloc o1).alloc o2).heap.size = w.heap.size + 2 := by
  have e : ∀ (v : World) (o : Obj), (v.alloc o).heap = v.heap.push o := fun _ _ => rfl
  rw [e, e]
  exact ⟨by rw [Array.getElem?_push, if_neg (by simp), Array.getElem?_push, if_pos rfl], by rw [Array.getElem?_push, if_pos (by simp)], by simp⟩
set_option maxHeartbeats 8000000 in
set_option maxRecDepth 100000 in
theorem impl_follow.calls (W H x y : Int) (r u : Bool) (steps : Int) (g : Nat) (lb : Array Value) (eg : ∀ args w, (callFunc g args).run Try.prog w = .ok (.enter g args) w)
    (I : Nat → World → Prop) (stop : Nat → Bool) (N : Nat) (w : World) (hNb : N ≤ 1000000)
    (hgo : ∀ k, k < N → fwGo W H ⟨x, y, r, u⟩ steps stop k) (hend : ¬ fwGo W H ⟨x, y, r, u⟩ steps stop N)
    (hI0 : I 0 w) (hst : ∀ k W1 W2, I k W1 → FwMv (w.heap.size + 1) W1 W2 → I k W2)
    (hcall : ∀ k Wd, k ≤ N → w.heap.size + 1 < Wd.heap.size → I k Wd → Calls Try.prog g (#[.int .i64 (k : Int), fwVal (fwSt W H ⟨x, y, r, u⟩ k).1, .string (fwSt W H ⟨x, y, r, u⟩ k).2] ++ lb) Wd fun e w' => e = .returned (.bool (stop k)) ∧ I (k + 1) w' ∧ FwFr w.heap.size Wd w') :
    Calls Try.prog 33 #[.agg #[.int .i64 W, .int .i64 H], .agg #[.int .i64 x, .int .i64 y, .bool r, .bool u], .int .i64 steps, .func (.func g) #[] lb] w fun e w' => e = .returned (.tuple #[]) ∧ I (N + 1) w' := by
  have HST := Aside0.mk hst
  have HC := Aside0.mk hcall
  have HG := Aside0.mk hgo
  have HE := Aside0.mk hend
  have HI0 := Aside0.mk hI0
  have HIN := Aside0.mk (fwInw_eq W H x y r u)
  obtain ⟨s0, hs0⟩ : ∃ s, fwInw W H ⟨x, y, r, u⟩ = s := ⟨_, rfl⟩
  rw [hs0] at HIN
  have HS0 := Aside0.mk hs0
  clear hst hcall hgo hend hI0 hs0
  obtain ⟨x0, y0, r0, u0⟩ := s0
  go_enter Try.func33, Try.ntmps33
  go_wp2_with fail
  refine (impl_inward.calls _ _ _ _ _ _ _ _ _ _ _ HIN.out).mono ?_
  rintro e w1 ⟨rfl, hb1⟩
  have z1 : w.heap.size + 1 < w1.heap.size := by have := hb1.size; rw [(fw_two w _ _).2.2] at this; omega
  have q1 : w1.heap[w.heap.size + 1]? = some (.cells #[.int .i64 x, .int .i64 y, .bool r, .bool u] 30 (0, 0)) := (hb1.block _ (by rw [(fw_two w _ _).2.2]; omega)).trans (fw_two w _ _).2.1
  have q0 : w1.heap[w.heap.size]? = some (.cells #[.int .i64 W, .int .i64 H] 28 (0, 0)) := (hb1.block _ (by rw [(fw_two w _ _).2.2]; omega)).trans (fw_two w _ _).1
  have m1 : FwMv (w.heap.size + 1) w w1 := (FwMv.of_below (((Below.refl _ w).alloc (Nat.le_refl _) _).alloc (by simp) _)).trans (FwMv.of_below hb1)
  have c10 := (fw_cells q1 0).1
  have c11 := (fw_cells q1 1).1
  have c12 := (fw_cells q1 2).1
  have c13 := (fw_cells q1 3).1
  have f10 := (fw_cells q1 0).2
  have f11 := (fw_cells q1 1).2
  have f12 := (fw_cells q1 2).2
  have f13 := (fw_cells q1 3).2
  simp at c10 c11 c12 c13
  have hs := fw_store (a' := .int .i64 x0) (b' := .int .i64 y0) (c' := .bool r0) (d' := .bool u0) q1
  have HR0 : Aside0 (FwRel W H ⟨x, y, r, u⟩ I w.heap.size 0 ((((w1.setCell ⟨w.heap.size + 1, 0, none⟩ (.int .i64 x0)).setCell ⟨w.heap.size + 1, 1, none⟩ (.int .i64 y0)).setCell ⟨w.heap.size + 1, 2, none⟩ (.bool r0)).setCell ⟨w.heap.size + 1, 3, none⟩ (.bool u0))) := by
    refine ⟨⟨HST.out 0 w _ HI0.out (m1.trans hs.2), by simpa using z1, (hs.2.block _ (by omega) (by omega)).trans q0, ?_⟩⟩
    have e : (fwSt W H ⟨x, y, r, u⟩ 0).1 = ⟨x0, y0, r0, u0⟩ := HS0.out
    rw [e]
    exact hs.1
  clear q1 q0 hb1 hs m1
  go_wp2_with fail
  go_loopg [8, 9] N (fun gg s8 s9 wr => ∃ k : Nat, k ≤ N ∧ N - k ≤ gg ∧ s8 = .string (fwSt W H ⟨x, y, r, u⟩ k).2 ∧ s9 = .int .i64 (k : Int) ∧ Aside0 (FwRel W H ⟨x, y, r, u⟩ I w.heap.size k wr))
  case atStart => exact ⟨0, Nat.zero_le _, by omega, rfl, rfl, HR0⟩
  case round =>
    obtain ⟨k, hk, hgk, rfl, rfl, R⟩ := hrel
    clear c10 c11 c12 c13 f10 f11 f12 f13 z1 HR0
    have hc := HC.out k wr hk R.out.lt R.out.inv
    obtain ⟨sd, hsd⟩ : ∃ sd, (fwSt W H ⟨x, y, r, u⟩ k).2 = sd := ⟨_, rfl⟩
    obtain ⟨s, hs⟩ : ∃ s, (fwSt W H ⟨x, y, r, u⟩ k).1 = s := ⟨_, rfl⟩
    have hgk' : k < N → fwGo W H ⟨x, y, r, u⟩ steps stop k := HG.out k
    have hnk' : k = N → ¬ fwGo W H ⟨x, y, r, u⟩ steps stop k := fun e => e ▸ HE.out
    unfold fwGo at hgk' hnk'
    rw [hs] at hgk' hnk'
    have hb := R.out.hb
    have ht := R.out.ht
    rw [hsd, hs] at hc
    rw [hs] at hb
    rw [hsd]
    have HSS := Aside0.mk hs
    have HSD := Aside0.mk hsd
    clear hs hsd
    obtain ⟨sx, sy, sr, su⟩ := s
    have b0 := (fw_cells hb 0).1
    have b1 := (fw_cells hb 1).1
    have b2 := (fw_cells hb 2).1
    have b3 := (fw_cells hb 3).1
    simp at b0 b1 b2 b3
    have HBB := Aside0.mk hb
    have HTT := Aside0.mk ht
    have HCC := Aside0.mk hc
    have lt := R.out.lt
    clear hb ht hc
    obtain ⟨ns, hns⟩ : ∃ ns, fwNext W H ⟨sx, sy, sr, su⟩ = ns := ⟨_, rfl⟩
    have hnx := fwNext_eq W H sx sy sr su
    rw [hns] at hnx
    have he4 : fwSt W H ⟨x, y, r, u⟩ (k + 1) = ns := by rw [← hns, ← HSS.out]; rfl
    obtain ⟨⟨nx, ny, nr, nu⟩, nd⟩ := ns
    have HNX := Aside0.mk hnx
    have HE4 := Aside0.mk he4
    clear hns hnx he4
    have hco := fwCor_eq W H sx sy sr su
    cases hst : stop k with
    | true =>
      have hkN : N = k := by
        rcases Nat.lt_or_ge k N with c | c
        · have := (hgk' c).1; rw [hst] at this; cases this
        · omega
      rw [hst] at HCC
      clear hst hgk' hnk' hco
      subst hkN
      go_wp2_with fail
      refine HCC.out.mono ?_
      rintro e w2 ⟨rfl, hI2, hf2⟩
      go_wp2_with fail
      go_end0
      exact ⟨rfl, hI2⟩
    | false =>
      rw [hst] at HCC hgk' hnk'
      clear hst
      by_cases h1 : (k : Int) < steps
      · have d1 : decide ((k : Int) < steps) = true := decide_eq_true h1
        by_cases h0 : k = 0
        · have hkN : k < N := by
            rcases Nat.lt_or_ge k N with c | c
            · exact c
            · exact absurd ⟨rfl, h1, .inl h0⟩ (hnk' (by omega))
          have d0 : ((k : Int) == 0) = true := by rw [beq_iff_eq]; omega
          clear h0 h1 hgk' hnk' hco
          go_wp2_with fail
          refine HCC.out.mono ?_
          rintro e w2 ⟨rfl, hI2, hf2⟩
          have HI2 := Aside0.mk hI2
          have HF2 := Aside0.mk hf2
          have z2 : w.heap.size + 1 < w2.heap.size := Nat.lt_of_lt_of_le lt hf2.size
          have q2b := hf2.b.trans HBB.out
          have q2t := hf2.t.trans HTT.out
          have b20 := (fw_cells q2b 0).1
          have b21 := (fw_cells q2b 1).1
          have b22 := (fw_cells q2b 2).1
          have b23 := (fw_cells q2b 3).1
          have t20 := (fw_cells q2t 0).1
          have t21 := (fw_cells q2t 1).1
          have f20 := (fw_cells q2b 0).2
          have f21 := (fw_cells q2b 1).2
          have f22 := (fw_cells q2b 2).2
          have f23 := (fw_cells q2b 3).2
          simp at b20 b21 b22 b23 t20 t21
          have Q2b := Aside0.mk q2b
          have Q2t := Aside0.mk q2t
          clear q2b q2t
          clear hI2 hf2
          go_wp2_with fail
          refine (impl_next.calls _ _ _ _ _ _ _ _ _ _ _ _ HNX.out).mono ?_
          rintro e w4 ⟨rfl, hb4⟩
          have HB4 := Aside0.mk hb4
          have z4 : w.heap.size + 1 < w4.heap.size := Nat.lt_of_lt_of_le z2 hb4.size
          have q4b := (hb4.block _ z2).trans Q2b.out
          have q4t := (hb4.block _ (by omega)).trans Q2t.out
          have b40 := (fw_cells q4b 0).1
          have b41 := (fw_cells q4b 1).1
          have b42 := (fw_cells q4b 2).1
          have b43 := (fw_cells q4b 3).1
          have t40 := (fw_cells q4t 0).1
          have t41 := (fw_cells q4t 1).1
          have f40 := (fw_cells q4b 0).2
          have f41 := (fw_cells q4b 1).2
          have f42 := (fw_cells q4b 2).2
          have f43 := (fw_cells q4b 3).2
          simp at b40 b41 b42 b43 t40 t41
          have Q4b := Aside0.mk q4b
          have Q4t := Aside0.mk q4t
          clear q4b q4t
          clear hb4
          have hs4 := fw_store (a' := .int .i64 nx) (b' := .int .i64 ny) (c' := .bool nr) (d' := .bool nu) Q4b.out
          have HM : Aside0 (FwMv (w.heap.size + 1) w2 w4) := ⟨FwMv.of_below HB4.out⟩
          have HS4 := Aside0.mk hs4
          clear hs4
          go_wp2_with fail
          go_roundg (N - (k + 1))
          case measure => omega
          case rel =>
            refine ⟨k + 1, by omega, by omega, ?_, by go_num, ⟨⟨HST.out (k + 1) w2 _ HI2.out (HM.out.trans HS4.out.2), by simpa using z4, (HS4.out.2.block _ (by omega) (by omega)).trans Q4t.out, ?_⟩⟩⟩
            · rw [HE4.out]
            · rw [HE4.out]
              exact HS4.out.1
        · have d0 : ((k : Int) == 0) = false := by rw [beq_eq_false_iff_ne]; omega
          cases hc : fwCor W H ⟨sx, sy, sr, su⟩ with
          | true =>
            rw [hc] at hco
            have HCO := Aside0.mk hco
            have hkN : N = k := by
              rcases Nat.lt_or_ge k N with c | c
              · rcases (hgk' c).2.2 with h | h
                · exact absurd h h0
                · rw [hc] at h; cases h
              · omega
            clear hc hgk' hnk' h0 h1 hco
            subst hkN
            go_wp2_with fail
            refine HCC.out.mono ?_
            rintro e w2 ⟨rfl, hI2, hf2⟩
            have HI2 := Aside0.mk hI2
            have HF2 := Aside0.mk hf2
            have z2 : w.heap.size + 1 < w2.heap.size := Nat.lt_of_lt_of_le lt hf2.size
            have q2b := hf2.b.trans HBB.out
            have q2t := hf2.t.trans HTT.out
            have b20 := (fw_cells q2b 0).1
            have b21 := (fw_cells q2b 1).1
            have b22 := (fw_cells q2b 2).1
            have b23 := (fw_cells q2b 3).1
            have t20 := (fw_cells q2t 0).1
            have t21 := (fw_cells q2t 1).1
            have f20 := (fw_cells q2b 0).2
            have f21 := (fw_cells q2b 1).2
            have f22 := (fw_cells q2b 2).2
            have f23 := (fw_cells q2b 3).2
            simp at b20 b21 b22 b23 t20 t21
            have Q2b := Aside0.mk q2b
            have Q2t := Aside0.mk q2t
            clear q2b q2t
            clear hI2 hf2
            go_wp2_with fail
            refine (impl_isCorner.calls _ _ _ _ _ _ true _ HCO.out).mono ?_
            rintro e w3 ⟨rfl, hb3⟩
            have HB3 := Aside0.mk hb3
            have z3 : w.heap.size + 1 < w3.heap.size := Nat.lt_of_lt_of_le z2 hb3.size
            have q3b := (hb3.block _ z2).trans Q2b.out
            have q3t := (hb3.block _ (by omega)).trans Q2t.out
            have b30 := (fw_cells q3b 0).1
            have b31 := (fw_cells q3b 1).1
            have b32 := (fw_cells q3b 2).1
            have b33 := (fw_cells q3b 3).1
            have t30 := (fw_cells q3t 0).1
            have t31 := (fw_cells q3t 1).1
            have f30 := (fw_cells q3b 0).2
            have f31 := (fw_cells q3b 1).2
            have f32 := (fw_cells q3b 2).2
            have f33 := (fw_cells q3b 3).2
            simp at b30 b31 b32 b33 t30 t31
            have Q3b := Aside0.mk q3b
            have Q3t := Aside0.mk q3t
            clear q3b q3t
            clear hb3
            go_wp2_with fail
            go_end0
            exact ⟨rfl, HST.out _ w2 _ HI2.out (FwMv.of_below HB3.out)⟩
          | false =>
            rw [hc] at hco
            have HCO := Aside0.mk hco
            have hkN : k < N := by
              rcases Nat.lt_or_ge k N with c | c
              · exact c
              · exact absurd ⟨rfl, h1, .inr hc⟩ (hnk' (by omega))
            clear hc hgk' hnk' h0 h1 hco
            go_wp2_with fail
            refine HCC.out.mono ?_
            rintro e w2 ⟨rfl, hI2, hf2⟩
            have HI2 := Aside0.mk hI2
            have HF2 := Aside0.mk hf2
            have z2 : w.heap.size + 1 < w2.heap.size := Nat.lt_of_lt_of_le lt hf2.size
            have q2b := hf2.b.trans HBB.out
            have q2t := hf2.t.trans HTT.out
            have b20 := (fw_cells q2b 0).1
            have b21 := (fw_cells q2b 1).1
            have b22 := (fw_cells q2b 2).1
            have b23 := (fw_cells q2b 3).1
            have t20 := (fw_cells q2t 0).1
            have t21 := (fw_cells q2t 1).1
            have f20 := (fw_cells q2b 0).2
            have f21 := (fw_cells q2b 1).2
            have f22 := (fw_cells q2b 2).2
            have f23 := (fw_cells q2b 3).2
            simp at b20 b21 b22 b23 t20 t21
            have Q2b := Aside0.mk q2b
            have Q2t := Aside0.mk q2t
            clear q2b q2t
            clear hI2 hf2
            go_wp2_with fail
            refine (impl_isCorner.calls _ _ _ _ _ _ false _ HCO.out).mono ?_
            rintro e w3 ⟨rfl, hb3⟩
            have HB3 := Aside0.mk hb3
            have z3 : w.heap.size + 1 < w3.heap.size := Nat.lt_of_lt_of_le z2 hb3.size
            have q3b := (hb3.block _ z2).trans Q2b.out
            have q3t := (hb3.block _ (by omega)).trans Q2t.out
            have b30 := (fw_cells q3b 0).1
            have b31 := (fw_cells q3b 1).1
            have b32 := (fw_cells q3b 2).1
            have b33 := (fw_cells q3b 3).1
            have t30 := (fw_cells q3t 0).1
            have t31 := (fw_cells q3t 1).1
            have f30 := (fw_cells q3b 0).2
            have f31 := (fw_cells q3b 1).2
            have f32 := (fw_cells q3b 2).2
            have f33 := (fw_cells q3b 3).2
            simp at b30 b31 b32 b33 t30 t31
            have Q3b := Aside0.mk q3b
            have Q3t := Aside0.mk q3t
            clear q3b q3t
            clear hb3
            go_wp2_with fail
            refine (impl_next.calls _ _ _ _ _ _ _ _ _ _ _ _ HNX.out).mono ?_
            rintro e w4 ⟨rfl, hb4⟩
            have HB4 := Aside0.mk hb4
            have z4 : w.heap.size + 1 < w4.heap.size := Nat.lt_of_lt_of_le z3 hb4.size
            have q4b := (hb4.block _ z3).trans Q3b.out
            have q4t := (hb4.block _ (by omega)).trans Q3t.out
            have b40 := (fw_cells q4b 0).1
            have b41 := (fw_cells q4b 1).1
            have b42 := (fw_cells q4b 2).1
            have b43 := (fw_cells q4b 3).1
            have t40 := (fw_cells q4t 0).1
            have t41 := (fw_cells q4t 1).1
            have f40 := (fw_cells q4b 0).2
            have f41 := (fw_cells q4b 1).2
            have f42 := (fw_cells q4b 2).2
            have f43 := (fw_cells q4b 3).2
            simp at b40 b41 b42 b43 t40 t41
            have Q4b := Aside0.mk q4b
            have Q4t := Aside0.mk q4t
            clear q4b q4t
            clear hb4
            have hs4 := fw_store (a' := .int .i64 nx) (b' := .int .i64 ny) (c' := .bool nr) (d' := .bool nu) Q4b.out
            have HM : Aside0 (FwMv (w.heap.size + 1) w2 w4) := ⟨(FwMv.of_below HB3.out).trans (FwMv.of_below HB4.out)⟩
            have HS4 := Aside0.mk hs4
            clear hs4
            go_wp2_with fail
            go_roundg (N - (k + 1))
            case measure => omega
            case rel =>
              refine ⟨k + 1, by omega, by omega, ?_, by go_num, ⟨⟨HST.out (k + 1) w2 _ HI2.out (HM.out.trans HS4.out.2), by simpa using z4, (HS4.out.2.block _ (by omega) (by omega)).trans Q4t.out, ?_⟩⟩⟩
              · rw [HE4.out]
              · rw [HE4.out]
                exact HS4.out.1
      · have d1 : decide ((k : Int) < steps) = false := decide_eq_false h1
        have hkN : N = k := by
          rcases Nat.lt_or_ge k N with c | c
          · exact absurd (hgk' c).2.1 h1
          · omega
        clear hgk' hnk' hco h1
        subst hkN
        go_wp2_with fail
        refine HCC.out.mono ?_
        rintro e w2 ⟨rfl, hI2, hf2⟩
        go_wp2_with fail
        go_end0
        exact ⟨rfl, hI2⟩
/-- Where a way ends: the first step behind which it does not go on. -/
def fwEnd (go : Nat → Bool) : Nat → Nat → Nat
  | 0, k => k
  | f + 1, k => if go k = true then fwEnd go f (k + 1) else k
theorem fwEnd_is (go : Nat → Bool) : ∀ (f k : Nat), go (k + f) = false → k ≤ fwEnd go f k ∧ fwEnd go f k ≤ k + f ∧ go (fwEnd go f k) = false ∧ ∀ j, k ≤ j → j < fwEnd go f k → go j = true := by
  intro f
  induction f with
  | zero => intro k h; exact ⟨Nat.le_refl _, Nat.le_refl _, h, fun j h1 h2 => by simp [fwEnd] at h2; omega⟩
  | succ f ih =>
    intro k h
    unfold fwEnd
    by_cases c : go k = true
    · rw [if_pos c]
      obtain ⟨h1, h2, h3, h4⟩ := ih (k + 1) (by rw [show k + 1 + f = k + (f + 1) by omega]; exact h)
      refine ⟨by omega, by omega, h3, fun j j1 j2 => ?_⟩
      rcases Nat.eq_or_lt_of_le j1 with e | e
      · rw [← e]; exact c
      · exact h4 j e j2
    · rw [if_neg c]
      exact ⟨Nat.le_refl _, by omega, by simpa using c, fun j j1 j2 => by omega⟩
def fwGoB (W H : Int) (b : S30) (steps : Int) (stop : Nat → Bool) (k : Nat) : Bool := !(stop k) && (decide ((k : Int) < steps) && (decide (k = 0) || !(fwCor W H (fwSt W H b k).1)))
theorem fwGoB_iff {W H : Int} {b : S30} {steps : Int} {stop : Nat → Bool} {k : Nat} : fwGoB W H b steps stop k = true ↔ fwGo W H b steps stop k := by
  unfold fwGoB fwGo
  simp [and_assoc]
def fwN (W H : Int) (b : S30) (steps : Int) (stop : Nat → Bool) : Nat := fwEnd (fwGoB W H b steps stop) steps.toNat 0
theorem fwN_is (W H : Int) (b : S30) (steps : Int) (stop : Nat → Bool) (h0 : 0 ≤ steps) : (fwN W H b steps stop : Int) ≤ steps ∧ ¬ fwGo W H b steps stop (fwN W H b steps stop) ∧ ∀ j, j < fwN W H b steps stop → fwGo W H b steps stop j := by
  have z : fwGoB W H b steps stop (0 + steps.toNat) = false := by
    have : ¬ (((0 + steps.toNat : Nat) : Int) < steps) := by omega
    unfold fwGoB
    rw [decide_eq_false this]
    simp
  obtain ⟨h1, h2, h3, h4⟩ := fwEnd_is _ _ _ z
  exact ⟨by unfold fwN; omega, (fun h => by rw [← fwGoB_iff] at h; unfold fwN at h; rw [h3] at h; cases h), fun j hj => fwGoB_iff.1 (h4 j (by omega) hj)⟩
/-- What was there stands, but for some blocks. -/
structure FwOld (S : Nat → Prop) (W1 W2 : World) : Prop where
  os : W2.os = W1.os
  tape : W2.tape = W1.tape
  output : W2.output = W1.output
  size : W1.heap.size ≤ W2.heap.size
  block : ∀ i, i < W1.heap.size → ¬ S i → W2.heap[i]? = W1.heap[i]?
theorem FwOld.refl (S : Nat → Prop) (w : World) : FwOld S w w := ⟨rfl, rfl, rfl, Nat.le_refl _, fun _ _ _ => rfl⟩
theorem FwOld.mv {S : Nat → Prop} {a b c : World} (h : FwOld S a b) {g : Nat} (k : FwMv g b c) (hg : a.heap.size ≤ g ∨ S g) : FwOld S a c :=
  ⟨k.os.trans h.os, k.tape.trans h.tape, k.output.trans h.output, Nat.le_trans h.size k.size, fun i hi hn => (k.block i (Nat.lt_of_lt_of_le hi h.size) (fun e => by
    rcases hg with hg | hg
    · omega
    · exact hn (e ▸ hg))).trans (h.block i hi hn)⟩
theorem FwOld.below {S : Nat → Prop} {w a b : World} (h : Below w.heap.size w a) (k : FwOld S a b) (hS : ∀ i, S i → w.heap.size ≤ i) : Below w.heap.size w b :=
  ⟨k.os.trans h.os, k.tape.trans h.tape, k.output.trans h.output, Nat.le_trans h.size k.size, fun i hi => (k.block i (Nat.lt_of_lt_of_le hi h.size) (fun hs => by have := hS i hs; omega)).trans (h.block i hi)⟩
theorem fw_three (w : World) (o1 o2 o3 : Obj) : (((w.alloc o1).alloc o2).alloc o3).heap[w.heap.size]? = some o1 ∧ (((w.alloc o1).alloc o2).alloc o3).heap[w.heap.size + 1]? = some o2 ∧ (((w.alloc o1).alloc o2).alloc o3).heap[w.heap.size + 2]? = some o3 ∧ (((w.alloc o1).alloc o2).alloc o3).heap.size = w.heap.size + 3 := by
  have e : ∀ (v : World) (o : Obj), (v.alloc o).heap = v.heap.push o := fun _ _ => rfl
  obtain ⟨h1, h2, h3⟩ := fw_two w o1 o2
  rw [e _ o3]
  refine ⟨?_, ?_, ?_, by rw [Array.size_push, h3]⟩
  · rw [Array.getElem?_push, if_neg (by rw [h3]; omega), h1]
  · rw [Array.getElem?_push, if_neg (by rw [h3]; omega), h2]
  · rw [Array.getElem?_push, if_pos (by rw [h3])]
/-- A function with a body is entered when it is called. -/
theorem fw_enters {f : FuncId} {fn : Func} {c : Code} (hf : Try.prog.funcs[f]? = some fn) (hname : (fn.name == "runtime.NumGoroutine") = false) (hb : fn.body = some c) (args : Array Value) (w : World) : (callFunc f args).run Try.prog w = .ok (.enter f args) w := by
  have h1 : fn.name ≠ "runtime.NumGoroutine" := by simpa using hname
  simp [callFunc, hf, h1, hb, mark]

/-! ### impl_PlacesOfBeam: function 19 -/
theorem pl_info : (Try.prog.info? 44).map (fun i => (i.zero, i.size, i.bytes)) = some (some (.slice none 0 0), 1, 24) := by kernel_rfl
abbrev PlS (T cb : Nat) (W : World) (base : Nat) (v : Value) (xs : List (List Int)) : Prop := Kd.S (Kd.slice 3 (Kd.int .i64)) 44 W base (fun i => i ≠ T ∧ i ≠ T + 1 ∧ i ≠ cb) v xs
set_option maxHeartbeats 4000000 in
set_option maxRecDepth 100000 in
theorem pl_one (cb T : Nat) (k x y : Int) (r u : Bool) (sd : ByteArray) (w Wd : World) (v : Value) (xs : List (List Int)) (hlen : xs.length ≤ 1000) (hB : Below w.heap.size w Wd) (hwc : w.heap.size ≤ cb) (hcT : cb < T) (hT : T + 1 < Wd.heap.size) (hc : Wd.heap[cb]? = some (.cells #[v] 33 (0, 0))) (hS : PlS T cb Wd w.heap.size v xs) :
    Calls Try.prog 38 #[.int .i64 k, .agg #[.int .i64 x, .int .i64 y, .bool r, .bool u], .string sd, .pointer (some ⟨cb, 0, none⟩)] Wd fun e w' =>
      e = .returned (.bool false) ∧ Below w.heap.size w w' ∧ (∃ v', w'.heap[cb]? = some (.cells #[v'] 33 (0, 0)) ∧ PlS T cb w' w.heap.size v' (xs ++ [[x, y]])) ∧ FwFr T Wd w' := by
  obtain ⟨Av, cv, rfl⟩ := Kd.R_slice (Kd.S_R hS)
  have hal := below_alloc (Below.refl _ Wd) (.cells #[.int .i64 x, .int .i64 y, .bool r, .bool u] 30 (0, 0))
  have hlt : cb < Wd.heap.size := by omega
  have q1 := (hal.block _ hlt).trans hc
  have c1 := (fw_cells q1 0).1
  have f1 := (fw_cells q1 0).2
  simp at c1
  have S1 := Aside0.mk (Kd.S_alloc hS (.cells #[.int .i64 x, .int .i64 y, .bool r, .bool u] 30 (0, 0)))
  have B1 := Aside0.mk (below_alloc hB (.cells #[.int .i64 x, .int .i64 y, .bool r, .bool u] 30 (0, 0)))
  have HAL := Aside0.mk hal
  have Q1 := Aside0.mk q1
  have HT := Aside0.mk hT
  have HLEN := Aside0.mk hlen
  have HW := Aside0.mk hwc
  have HCT := Aside0.mk hcT
  clear hc hS hal hB hT hlen hwc hcT hlt q1
  go_enter Try.func38, Try.ntmps38
  go_wp2_with (first
    | ((with_reducible refine gate_dst (N := 13) rfl ?_); refine Kd.R_lit (Kd.int .i64) _ 3 ?hg (N := 13) ?hd (xs := ([x, y] : List Int)) (inner := [.int .i64 x, .int .i64 y]) (ok := fun _ => True) (okp := fun _ => True) ?hr ?hp (fun _ hk => hk) trivial (Below.refl _ _) (Nat.le_refl _) (by simp) ?_; (case hd => rfl); (case hg => rfl); (case hr => first | (go_simp; done) | (go_simp; rfl)); (case hp => exact (Reps.one (show Kd.M (Kd.int .i64) _ _ _ x [.int .i64 x] from rfl) (Reps.one (show Kd.M (Kd.int .i64) _ _ _ y [.int .i64 y] from rfl) (Reps.none _ _))));
       intro v1 w2 ho hb hg_ hnew_; clear hg_ hnew_;
       have S2 := Aside0.mk (Kd.S_elder' S1.out (Kd.R_base ho) hb);
       have RB := Aside0.mk (Kd.R_base ho);
       have R2 := Aside0.mk (Kd.R_lower ho B1.out.size);
       have B2 := Aside0.mk (below_step B1.out hb);
       have F2 := Aside0.mk (below_step HAL.out hb);
       have z2 := Aside0.mk hb.size;
       have Q2 := Aside0.mk ((hb.block cb (blk_lt Q1.out)).trans Q1.out);
       clear ho hb S1 B1 HAL;
       obtain ⟨Ao, co, eo⟩ := Kd.R_slice R2.out; subst eo)
    | ((with_reducible refine gate_builtin (b := .append) (xs := #[.tmp 8, .tmp 14]) rfl ?_); at_builtin;
       refine Kd.S_append (Kd.slice 3 (Kd.int .i64)) (w0 := w) w.heap.size rfl (.tmp 8) (.tmp 14) 33 44 (.slice none 0 0) 24 rfl Try.underlying33 pl_info rfl (by decide) (by omega) (.slice Av xs.length cv) xs ([x, y] : List Int) [.slice Ao ([x, y] : List Int).length co] (fun i => i ≠ T ∧ i ≠ T + 1 ∧ i ≠ cb) (fun k_ => some k_ = (.slice Ao ([x, y] : List Int).length co : Value).ownBlock) rfl rfl ?aP ?aK ?aF ?aO ?aB ?aS ?aL ?_;
       (case aP => exact Kd.M_row (Kd.R_tight rfl R2.out));
       (case aK => exact (fun k_ hk => ⟨by have h1 := RB.out k_ hk.symm; have h2 := HT.out; have h3 := HCT.out; simp at h1; omega, fun e => ((Kd.S_R S2.out).1 k_ e.symm).2 hk⟩));
       (case aF => exact (fun k_ hk => by have h1 := z2.out; have h2 := HT.out; have h3 := HCT.out; simp at h1; omega));
       (case aO => exact Kd.S_mono S2.out (fun k_ hk => ⟨hk.1, hk.2⟩));
       (case aB => exact B2.out);
       (case aS => exact B2.out.size);
       (case aL => have := HLEN.out; omega);
       intro v3 w3 ho hb hg hat; clear hat;
       have S3 := Aside0.mk ho;
       have B3 := Aside0.mk hb;
       have G3 := Aside0.mk hg;
       have hq3 := (hg.block cb (blk_lt Q2.out) (fun e => ((Kd.S_R S2.out).1 cb e.symm).1.2.2 rfl)).trans Q2.out;
       have Q3 := Aside0.mk hq3;
       have c3 := (fw_cells hq3 0).1; have f3 := (fw_cells hq3 0).2; simp at c3;
       clear ho hb hg hq3;
       obtain ⟨A3, n3, e3⟩ := Kd.R_slice (Kd.S_R S3.out); subst e3))
  go_ret
  have hT := HT.out
  have hCT := HCT.out
  have e1 : ∀ i, i = T ∨ i = T + 1 → w3.heap[i]? = Wd.heap[i]? := fun i hi => by
    have h1 : i < Wd.heap.size := by omega
    have h2 : i < w2.heap.size := Nat.lt_of_lt_of_le h1 F2.out.size
    exact (G3.out.block i h2 (fun e => by
      have := ((Kd.S_R S2.out).1 i e.symm).1
      omega)).trans (F2.out.block i h1)
  have el : (xs ++ [[x, y]]).length = xs.length + 1 := by simp
  have S4 := S3.out
  rw [el] at S4
  refine ⟨rfl, below_set B3.out HW.out, ⟨_, heap_setCell_same _ cb 0 _ 33 _ Q3.out, Kd.S_far (p := ⟨cb, 0, none⟩) S4 (fun k hk => hk.2.2) _⟩, ⟨?_, ?_, ?_⟩⟩
  · have := F2.out.size
    have := G3.out.size
    simp
    omega
  · exact (Below.heap_setCell w3 _ _ T (by show T ≠ cb; omega)).trans (e1 T (.inl rfl))
  · exact (Below.heap_setCell w3 _ _ (T + 1) (by show T + 1 ≠ cb; omega)).trans (e1 (T + 1) (.inr rfl))
/-- The places behind the first steps. -/
def plRows (W H : Int) (b : S30) : Nat → List (List Int)
  | 0 => []
  | k + 1 => plRows W H b k ++ [[(fwSt W H b k).1.f0, (fwSt W H b k).1.f1]]
theorem plRows_len (W H : Int) (b : S30) : ∀ k, (plRows W H b k).length = k
  | 0 => rfl
  | k + 1 => by rw [plRows, List.length_append, plRows_len W H b k]; rfl
def plN (W H : Int) (b : S30) (steps : Int) : Nat := fwN W H b steps (fun _ => false)
structure PlI (W H : Int) (b : S30) (T cb : Nat) (w : World) (k : Nat) (wr : World) : Prop where
  below : Below w.heap.size w wr
  lt : T ≤ wr.heap.size
  row : ∃ v, wr.heap[cb]? = some (.cells #[v] 33 (0, 0)) ∧ PlS T cb wr w.heap.size v (plRows W H b k)
theorem pl_way (W H x y : Int) (r u : Bool) (steps : Int) (h0 : 0 ≤ steps) (h1 : steps ≤ 300) (cb : Nat) (w wb : World) (hB : Below w.heap.size w wb) (hwc : w.heap.size ≤ cb) (hlt : cb < wb.heap.size) (v : Value) (hc : wb.heap[cb]? = some (.cells #[v] 33 (0, 0))) (hS : PlS wb.heap.size cb wb w.heap.size v []) :
    Calls Try.prog 33 #[.agg #[.int .i64 W, .int .i64 H], .agg #[.int .i64 x, .int .i64 y, .bool r, .bool u], .int .i64 steps, .func (.func 38) #[] #[.pointer (some ⟨cb, 0, none⟩)]] wb fun e w' =>
      e = .returned (.tuple #[]) ∧ PlI W H ⟨x, y, r, u⟩ wb.heap.size cb w (plN W H ⟨x, y, r, u⟩ steps + 1) w' := by
  obtain ⟨n1, n2, n3⟩ := fwN_is W H ⟨x, y, r, u⟩ steps (fun _ => false) h0
  refine impl_follow.calls W H x y r u steps 38 #[.pointer (some ⟨cb, 0, none⟩)] (fw_enters Try.func38 (by kernel_rfl) rfl) (PlI W H ⟨x, y, r, u⟩ wb.heap.size cb w) (fun _ => false) (plN W H ⟨x, y, r, u⟩ steps) wb (by unfold plN; omega) n3 n2 ⟨hB, Nat.le_refl _, v, hc, hS⟩ ?_ ?_
  · intro k W1 W2 hI hm
    obtain ⟨v, hv, hS⟩ := hI.row
    have hl := hI.lt
    refine ⟨⟨hm.os.trans hI.below.os, hm.tape.trans hI.below.tape, hm.output.trans hI.below.output, Nat.le_trans hI.below.size hm.size, fun i hi => ?_⟩, Nat.le_trans hl hm.size, v, (hm.block cb (by omega) (by omega)).trans hv, ?_⟩
    · have := hI.below.size
      exact (hm.block i (by omega) (by omega)).trans (hI.below.block i hi)
    · exact Kd.S_step hS (fun i hi hlt => hm.block i hlt hi.2.1)
  · intro k Wd hk hz hI
    obtain ⟨v, hv, hS⟩ := hI.row
    refine (pl_one cb wb.heap.size (k : Int) _ _ _ _ _ w Wd v _ (by rw [plRows_len]; unfold plN at hk; omega) hI.below hwc hlt hz hv hS).mono ?_
    rintro e w2 ⟨rfl, hb2, ⟨v', hv', hS'⟩, hf⟩
    exact ⟨rfl, ⟨hb2, Nat.le_trans hI.lt hf.size, v', hv', hS'⟩, hf⟩
def impl_PlacesOfBeam.f (a0_0 : Int) (a0_1 : Int) (a1_0 : Int) (a1_1 : Int) (a1_2 : Bool) (a1_3 : Bool) (a2 : Int) : Option (List (List Int) × Bool) :=
  (impl_IsBeam.f a0_0 a0_1 a1_0 a1_1 a1_2 a1_3).bind fun t1 => if t1 = true then (impl_within.f a2 0 300).bind fun t2 => if t2 = true then some (plRows a0_0 a0_1 ⟨a1_0, a1_1, a1_2, a1_3⟩ (plN a0_0 a0_1 ⟨a1_0, a1_1, a1_2, a1_3⟩ a2 + 1), true) else some ([], false) else some ([], false)
theorem pl_within {x a b : Int} (h : impl_within.f x a b = some true) : a ≤ x ∧ x ≤ b := by
  unfold impl_within.f at h
  by_cases c : x ≥ a
  · rw [if_pos c] at h
    exact ⟨c, of_decide_eq_true (Option.some.inj h)⟩
  · rw [if_neg c] at h
    cases h
set_option maxHeartbeats 8000000 in
set_option maxRecDepth 100000 in
theorem impl_PlacesOfBeam.calls (a0_0 : Int) (a0_1 : Int) (a1_0 : Int) (a1_1 : Int) (a1_2 : Bool) (a1_3 : Bool) (a2 : Int) (r1 : List (List Int)) (r2 : Bool) (w : World) (h : impl_PlacesOfBeam.f a0_0 a0_1 a1_0 a1_1 a1_2 a1_3 a2 = some (r1, r2)) :
    Calls Try.prog 19 #[.agg #[.int .i64 a0_0, .int .i64 a0_1], .agg #[.int .i64 a1_0, .int .i64 a1_1, .bool a1_2, .bool a1_3], .int .i64 a2] w fun e w' => ∃ v0_ : Value, e = .returned (.tuple #[v0_, .bool r2]) ∧ Kd.S (Kd.slice 3 (Kd.int .i64)) 44 w' w.heap.size (fun _ => True) v0_ r1 ∧ Below w.heap.size w w' := by
  unfold impl_PlacesOfBeam.f at h
  obtain ⟨t1, ht1, h⟩ := Option.bind_eq_some_iff.mp h
  have HT1 := Aside0.mk ht1
  clear ht1
  obtain ⟨p1, p2, ps⟩ := fw_two w (.cells #[.int .i64 a0_0, .int .i64 a0_1] 28 (0, 0)) (.cells #[.int .i64 a1_0, .int .i64 a1_1, .bool a1_2, .bool a1_3] 30 (0, 0))
  have HB0 := Aside0.mk (below_alloc (below_alloc (Below.refl _ w) (.cells #[.int .i64 a0_0, .int .i64 a0_1] 28 (0, 0))) (.cells #[.int .i64 a1_0, .int .i64 a1_1, .bool a1_2, .bool a1_3] 30 (0, 0)))
  have P := Aside0.mk (And.intro p1 (And.intro p2 ps))
  clear p1 p2 ps
  cases t1 with
  | false =>
    rw [if_neg (by decide)] at h
    obtain ⟨rfl, rfl⟩ := Prod.mk.inj (Option.some.inj h)
    clear h
    go_enter Try.func19, Try.ntmps19
    go_wp2_with fail
    with_reducible refine (impl_IsBeam.calls _ _ _ _ _ _ false _ HT1.out).mono ?_
    rintro e w1 ⟨rfl, hb1⟩
    have HB1 := Aside0.mk (below_step HB0.out hb1)
    clear hb1
    go_wp2_with fail
    go_ret2
    exact ⟨_, rfl, ⟨fun _ => 0, Kd.R_nil _ _ _ _ _⟩, HB1.out⟩
  | true =>
    rw [if_pos rfl] at h
    obtain ⟨t2, ht2, h⟩ := Option.bind_eq_some_iff.mp h
    have HT2 := Aside0.mk ht2
    clear ht2
    have H := Aside0.mk h
    clear h
    go_enter Try.func19, Try.ntmps19
    go_wp2_with fail
    with_reducible refine (impl_IsBeam.calls _ _ _ _ _ _ true _ HT1.out).mono ?_
    rintro e w1 ⟨rfl, hb1⟩
    have HB1 := Aside0.mk (below_step HB0.out hb1)
    have q1 := (hb1.block w.heap.size (by rw [P.out.2.2]; omega)).trans P.out.1
    have q2 := (hb1.block (w.heap.size + 1) (by rw [P.out.2.2]; omega)).trans P.out.2.1
    have z1 := Aside0.mk (show w.heap.size + 1 < w1.heap.size from Nat.lt_of_lt_of_le (by rw [P.out.2.2]; omega) hb1.size)
    have Q1 := Aside0.mk (And.intro q1 q2)
    clear hb1 q1 q2 P HB0
    go_wp2_with fail
    with_reducible refine (impl_within.calls a2 0 300 t2 _ HT2.out).mono ?_
    rintro e w2 ⟨rfl, ⟨nd, hw⟩⟩
    have hb2 : Below w1.heap.size w1 w2 := by rw [hw]; exact pw_below_drewN (Below.refl _ _) nd
    clear hw nd
    have HB2 := Aside0.mk (below_step HB1.out hb2)
    have z2 := Aside0.mk (Nat.lt_of_lt_of_le z1.out hb2.size)
    have q1 := (hb2.block w.heap.size (by have := z1.out; omega)).trans Q1.out.1
    have q2 := (hb2.block (w.heap.size + 1) z1.out).trans Q1.out.2
    have s10 := (fw_cells q1 0).1
    have s11 := (fw_cells q1 1).1
    have s20 := (fw_cells q2 0).1
    have s21 := (fw_cells q2 1).1
    have s22 := (fw_cells q2 2).1
    have s23 := (fw_cells q2 3).1
    simp at s10 s11 s20 s21 s22 s23
    clear hb2 HB1 z1 Q1
    cases t2 with
    | false =>
      have h := H.out
      rw [if_neg (by decide)] at h
      obtain ⟨rfl, rfl⟩ := Prod.mk.inj (Option.some.inj h)
      clear h H
      go_wp2_with fail
      go_ret2
      exact ⟨_, rfl, ⟨fun _ => 0, Kd.R_nil _ _ _ _ _⟩, HB2.out⟩
    | true =>
      have h := H.out
      rw [if_pos rfl] at h
      obtain ⟨rfl, rfl⟩ := Prod.mk.inj (Option.some.inj h)
      clear h H
      have hst := pl_within HT2.out
      have hz2 := z2.out
      have hba : Below w2.heap.size w2 (w2.alloc (.cells #[] 44)) := below_alloc (Below.refl _ w2) _
      have hal : Below w2.heap.size w2 ((w2.alloc (.cells #[] 44)).alloc (.cells #[.slice (some ⟨w2.heap.size, 0, none⟩) 0 0] 33)) := below_alloc hba _
      have a1 := (hal.block _ (by omega)).trans q1
      have a2' := (hal.block _ (by omega)).trans q2
      obtain ⟨f1, f2, fs⟩ := fw_two w2 (.cells #[] 44) (.cells #[.slice (some ⟨w2.heap.size, 0, none⟩) 0 0] 33)
      have hb3 := below_step HB2.out hal
      have hS0 : Kd.S (Kd.slice 3 (Kd.int .i64)) 44 (w2.alloc (.cells #[] 44)) w.heap.size (fun i => i = w2.heap.size) (.slice (some ⟨w2.heap.size, 0, none⟩) 0 0) [] := by
        refine ⟨fun _ => 0, fun k hk => ?_, [], ?_, ?_⟩
        · have : w2.heap.size = k := by simpa [Value.ownBlock] using hk
          exact this.symm
        · have h2 := World.ownsRow_lit (base := w.heap.size) (e := 44) (size := 1) w2 #[] 0 (by omega) (by simp [maxLen]) (by simp)
          simp at h2
          exact h2
        · exact ⟨rfl, fun m p hm => by simp at hm⟩
      have hS1 := Kd.S_alloc hS0 (.cells #[.slice (some ⟨w2.heap.size, 0, none⟩) 0 0] 33)
      obtain ⟨wb, hwb⟩ : ∃ wb, (w2.alloc (.cells #[] 44)).alloc (.cells #[.slice (some ⟨w2.heap.size, 0, none⟩) 0 0] 33) = wb := ⟨_, rfl⟩
      have c0 : ((w2.alloc (.cells #[] 44)).alloc (.cells #[.slice (some ⟨w2.heap.size, 0, none⟩) 0 0] 33)).heap.size = wb.heap.size := by rw [hwb]
      rw [hwb] at a1 a2' f2 hb3 hS1
      have s10 := (fw_cells a1 0).1
      have s11 := (fw_cells a1 1).1
      have s20 := (fw_cells a2' 0).1
      have s21 := (fw_cells a2' 1).1
      have s22 := (fw_cells a2' 2).1
      have s23 := (fw_cells a2' 3).1
      simp at s10 s11 s20 s21 s22 s23
      rw [← hwb] at s10 s11 s20 s21 s22 s23
      have hsz : wb.heap.size = w2.heap.size + 2 := by rw [← c0]; exact fs
      have HWAY := Aside0.mk (pl_way a0_0 a0_1 a1_0 a1_1 a1_2 a1_3 a2 hst.1 hst.2 (w2.heap.size + 1) w wb hb3 (by omega) (by omega) _ f2 (Kd.S_mono hS1 (fun i hi => by omega)))
      rw [← hwb] at HWAY
      clear hst hz2 hba hal a1 a2' f1 f2 fs hb3 hS0 hS1 hwb c0 hsz q1 q2 HB2 z2
      go_wp2_with fail
      refine HWAY.out.mono ?_
      rintro e w3 ⟨rfl, hI⟩
      obtain ⟨v, hv, hS⟩ := hI.row
      obtain ⟨Av, cv, rfl⟩ := Kd.R_slice (Kd.S_R hS)
      have c3 := (fw_cells hv 0).1
      have f3 := (fw_cells hv 0).2
      simp at c3
      have HE := Aside0.mk (And.intro (Kd.S_mono hS (fun _ _ => trivial)) hI.below)
      clear hI hv hS HWAY
      go_wp2_with fail
      go_ret2
      exact ⟨_, rfl, HE.out.1, HE.out.2⟩

/-! ### laws_eqIntS: function 39 -/
def laws_eqIntS.l0 : Nat → List Int → List Int → Int → Option (Bool)
  | 0, _, _, _ => none
  | k + 1, x0, x1, x5 => if x5 < (x0.length : Int) then (if 0 ≤ x5 then (if x5 < (x1.length : Int) then (if (rd x0 x5) = (rd x1 x5) then (laws_eqIntS.l0 k x0 x1 (wrap64 (x5 + 1))) else (some false)) else (none)) else (none)) else (some true)
def laws_eqIntS.f (k : Nat) (l0 : List Int) (l1 : List Int) : Option (Bool) := if (l0.length : Int) = (l1.length : Int) then (laws_eqIntS.l0 k l0 l1 0) else (some false)
theorem laws_eqIntS.mono_l : ∀ k, (∀ y0 y1 y2, LeO (laws_eqIntS.l0 k y0 y1 y2) (laws_eqIntS.l0 (k + 1) y0 y1 y2))
  | 0 => fun _ _ _ r h => by simp [laws_eqIntS.l0] at h
  | k + 1 => by
    have ih0 := laws_eqIntS.mono_l k
    · intro y0 y1 y2
      unfold laws_eqIntS.l0
      repeat' first
      | (with_reducible exact ih0 _ _ _)
      | (with_reducible exact LeO.refl _)
      | (with_reducible exact LeO.none _)
      | (with_reducible refine LeO.ite ?_ ?_)
      | (with_reducible refine LeO.bind ?_ (fun _ => ?_))
      | exact ih0 _ _ _
      | exact LeO.none _
      | refine LeO.ite ?_ ?_
      | refine LeO.bind ?_ (fun _ => ?_)
theorem laws_eqIntS.mono : ∀ a0 a1 k, LeO (laws_eqIntS.f k a0 a1) (laws_eqIntS.f (k + 1) a0 a1) := by
  intro a0 a1 k
  have ih0 := laws_eqIntS.mono_l k
  unfold laws_eqIntS.f
  repeat' first
      | (with_reducible exact ih0 _ _ _)
      | (with_reducible exact LeO.refl _)
      | (with_reducible exact LeO.none _)
      | (with_reducible refine LeO.ite ?_ ?_)
      | (with_reducible refine LeO.bind ?_ (fun _ => ?_))
      | exact ih0 _ _ _
      | exact LeO.none _
      | refine LeO.ite ?_ ?_
      | refine LeO.bind ?_ (fun _ => ?_)
set_option maxHeartbeats 8000000 in
set_option maxRecDepth 100000 in
theorem laws_eqIntS.calls (k : Nat) (A0 : Option Addr) (c0 : Nat) (l0 : List Int) (A1 : Option Addr) (c1 : Nat) (l1 : List Int) (r : Bool) (w : World) (hr0 : Kd.C (Kd.int .i64) w A0 l0.length l0) (hc0 : l0.length ≤ c0) (hr1 : Kd.C (Kd.int .i64) w A1 l1.length l1) (hc1 : l1.length ≤ c1) (h : laws_eqIntS.f k l0 l1 = some r) :
    Calls Try.prog 39 #[.slice A0 l0.length c0, .slice A1 l1.length c1] w fun e w' => e = .returned (.bool r) ∧ Drawn0 w w' := by
  have HR0 := Aside0.mk hr0
  have HC0 := Aside0.mk hc0
  clear hr0 hc0
  have HR1 := Aside0.mk hr1
  have HC1 := Aside0.mk hc1
  clear hr1 hc1
  have H : (if (l0.length : Int) = (l1.length : Int) then (laws_eqIntS.l0 k l0 l1 0) else (some false)) = some r := h
  clear h
  by_cases c3 : (l0.length : Int) = (l1.length : Int)
  · rw [if_pos c3] at H
    have c3b0 : ((l0.length : Int) == (l1.length : Int)) = true := beq_iff_eq.mpr c3
    have c3b1 : ((l0.length : Int) != (l1.length : Int)) = false := bne_eq_false_iff_eq.mpr c3
    have c3b2 : (l0.length == l1.length) = true := by first | simpa using c3 | (simp at c3 ⊢; omega)
    clear c3
    have H' := Aside0.mk H
    clear H
    go_enter Try.func39, Try.ntmps39
    go_wp2
    repeat (go_quiet (fail); try go_wp2)
    go_loopg [5] k (fun kq v5 w' => ∃ (x5_1 : Int), v5 = .int .i64 x5_1 ∧ Aside0 (laws_eqIntS.l0 kq l0 l1 x5_1 = some r) ∧ Aside0 (kq ≤ k) ∧ Drawn0 w w')
    case atStart => exact ⟨(0), (by first | rfl | (simp; done) | (simp [*]; done)), H', ⟨Nat.le_refl _⟩, by repeat (first | exact Drawn0.refl _ | apply Drawn0.step)⟩
    case round =>
      clear H'
      try clear c1
      try clear p2
      try clear c3
      try clear c3b0
      try clear c3b1
      try clear c3b2
      obtain ⟨x5_1, rfl, HA, HK1, ⟨m1, rfl⟩⟩ := hrel
      cases gk with
      | zero => exact absurd HA.out (by simp [laws_eqIntS.l0])
      | succ k1 =>
        have H := HA.out
        clear HA
        simp only [laws_eqIntS.l0] at H
        by_cases c4 : x5_1 < (l0.length : Int)
        · rw [if_pos c4] at H
          have c4b0 : decide (x5_1 < (l0.length : Int)) = true := decide_eq_true c4
          clear c4
          by_cases c5 : 0 ≤ x5_1
          · rw [if_pos c5] at H
            have c5b0 : decide (0 ≤ x5_1) = true := decide_eq_true c5
            clear c5
            by_cases c6 : x5_1 < (l1.length : Int)
            · rw [if_pos c6] at H
              have c6b0 : decide (x5_1 < (l1.length : Int)) = true := decide_eq_true c6
              clear c6
              by_cases c7 : (rd l0 x5_1) = (rd l1 x5_1)
              · rw [if_pos c7] at H
                have c7b0 : ((rd l0 x5_1) == (rd l1 x5_1)) = true := beq_iff_eq.mpr c7
                have c7b1 : ((rd l0 x5_1) != (rd l1 x5_1)) = false := bne_eq_false_iff_eq.mpr c7
                clear c7
                have H' := Aside0.mk H
                clear H
                have p225 : 0 ≤ (x5_1 : Int) := of_decide_eq_true (by first | (with_reducible assumption) | assumption)
                have q225 : x5_1 < (l0.length : Int) := of_decide_eq_true (by first | (with_reducible assumption) | assumption)
                obtain ⟨ad225, e225, hx225_0⟩ := Kd.at_int HR0.out x5_1 p225 q225
                cases e225
                replace p225 := eq_true p225
                replace q225 := eq_true q225
                have p226 : 0 ≤ (x5_1 : Int) := of_decide_eq_true (by first | (with_reducible assumption) | assumption)
                have q226 : x5_1 < (l1.length : Int) := of_decide_eq_true (by first | (with_reducible assumption) | assumption)
                obtain ⟨ad226, e226, hx226_0⟩ := Kd.at_int HR1.out x5_1 p226 q226
                cases e226
                replace p226 := eq_true p226
                replace q226 := eq_true q226
                go_wp2
                repeat (go_quiet (fail); try go_wp2)
                go_roundg k1
                case measure => have := HK1.out; omega
                case rel => exact ⟨(wrap64 (x5_1 + 1)), (by first | rfl | (simp; done) | (simp [*]; done)), H', ⟨by have := HK1.out; omega⟩, by repeat (first | exact Drawn0.refl _ | apply Drawn0.step)⟩
              · rw [if_neg c7] at H
                have c7b0 : ((rd l0 x5_1) == (rd l1 x5_1)) = false := beq_eq_false_iff_ne.mpr c7
                have c7b1 : ((rd l0 x5_1) != (rd l1 x5_1)) = true := bne_iff_ne.mpr c7
                obtain rfl := Option.some.inj H
                have p225 : 0 ≤ (x5_1 : Int) := of_decide_eq_true (by first | (with_reducible assumption) | assumption)
                have q225 : x5_1 < (l0.length : Int) := of_decide_eq_true (by first | (with_reducible assumption) | assumption)
                obtain ⟨ad225, e225, hx225_0⟩ := Kd.at_int HR0.out x5_1 p225 q225
                cases e225
                replace p225 := eq_true p225
                replace q225 := eq_true q225
                have p226 : 0 ≤ (x5_1 : Int) := of_decide_eq_true (by first | (with_reducible assumption) | assumption)
                have q226 : x5_1 < (l1.length : Int) := of_decide_eq_true (by first | (with_reducible assumption) | assumption)
                obtain ⟨ad226, e226, hx226_0⟩ := Kd.at_int HR1.out x5_1 p226 q226
                cases e226
                replace p226 := eq_true p226
                replace q226 := eq_true q226
                go_wp2
                repeat (go_quiet (fail); try go_wp2)
                go_ret
                exact ⟨by first | rfl | (simp; done) | (simp [*]; done), by repeat (first | exact Drawn0.refl _ | apply Drawn0.step)⟩
            · rw [if_neg c6] at H
              exact absurd H (by simp)
          · rw [if_neg c5] at H
            exact absurd H (by simp)
        · rw [if_neg c4] at H
          have c4b0 : decide (x5_1 < (l0.length : Int)) = false := decide_eq_false c4
          clear c4
          obtain rfl := Option.some.inj H
          go_wp2
          repeat (go_quiet (fail); try go_wp2)
          go_ret
          exact ⟨by first | rfl | (simp; done) | (simp [*]; done), by repeat (first | exact Drawn0.refl _ | apply Drawn0.step)⟩
  · rw [if_neg c3] at H
    have c3b0 : ((l0.length : Int) == (l1.length : Int)) = false := beq_eq_false_iff_ne.mpr c3
    have c3b1 : ((l0.length : Int) != (l1.length : Int)) = true := bne_iff_ne.mpr c3
    have c3b2 : (l0.length == l1.length) = false := by first | simpa using c3 | (simp at c3 ⊢; omega)
    obtain rfl := Option.some.inj H
    go_enter Try.func39, Try.ntmps39
    go_wp2
    repeat (go_quiet (fail); try go_wp2)
    go_ret
    exact ⟨by first | rfl | (simp; done) | (simp [*]; done), by repeat (first | exact Drawn0.refl _ | apply Drawn0.step)⟩

end Go.Proofs.Ytikhifalfemimaa.PFnExactPlacesOfBeam
