-- Written by xprint.py, a program of this session, for this seat; Lean checks it.
import Derived.Test.YthfbjofmcniogaaPFnExactCountPlacesx0
import Derived.Test.YthfbjofmcniogaaPFnExactCountPlacesx5
import Derived.Test.YthfbjofmcniogaaPFnExactCountPlacesx6
import Derived.Test.YthfbjofmcniogaaPFnExactCountPlacesx7
namespace Go.Proofs.Ythfbjofmcniogaa.PFnExactCountPlaces
open Go.RowKit Go.Proofs.YthfbjofmcniogaaW.PrintWords Go.Proofs.YthfbjofmcniogaaW.PrintLast Go.Proofs.YthfbjofmcniogaaW.PrintMore
attribute [local go_sem] max2_int min2_int max_two min_two max_three min_three max_four min_four   -- for this text's walks alone
set_option linter.unusedVariables false
set_option linter.unusedSimpArgs false

/-! ### impl_follow: function 46 -/
/-! The beams, step by step, as functions that always answer. -/
def fwInw (W H : Int) (s : S30) : S30 := match impl_inward.f W H s.f0 s.f1 s.f2 s.f3 with | some r => ⟨r.1, r.2.1, r.2.2.1, r.2.2.2⟩ | none => s
theorem fwInw_eq (W H x y : Int) (r u : Bool) : impl_inward.f W H x y r u = some ((fwInw W H ⟨x, y, r, u⟩).f0, (fwInw W H ⟨x, y, r, u⟩).f1, (fwInw W H ⟨x, y, r, u⟩).f2, (fwInw W H ⟨x, y, r, u⟩).f3) := by
  have t : ∃ z, impl_inward.f W H x y r u = some z := by unfold impl_inward.f; (repeat' split) <;> exact ⟨_, rfl⟩
  obtain ⟨z, hz⟩ := t
  simp only [fwInw, hz]
def fwCor (W H : Int) (s : S30) : Bool := (impl_isCorner.f W H s.f0 s.f1 s.f2 s.f3).getD false
theorem fwCor_eq (W H x y : Int) (r u : Bool) : impl_isCorner.f W H x y r u = some (fwCor W H ⟨x, y, r, u⟩) := by
  have t : ∃ z, impl_isCorner.f W H x y r u = some z := by unfold impl_isCorner.f; (repeat' split) <;> exact ⟨_, rfl⟩
  obtain ⟨z, hz⟩ := t
  simp only [fwCor, hz, Option.getD_some]
def fwNext (W H : Int) (s : S30) : S30 × ByteArray := match impl_next.f W H s.f0 s.f1 s.f2 s.f3 with | some r => (⟨r.1, r.2.1, r.2.2.1, r.2.2.2.1⟩, r.2.2.2.2) | none => (s, ⟨#[]⟩)
theorem fwNext_eq (W H x y : Int) (r u : Bool) : impl_next.f W H x y r u = some ((fwNext W H ⟨x, y, r, u⟩).1.f0, (fwNext W H ⟨x, y, r, u⟩).1.f1, (fwNext W H ⟨x, y, r, u⟩).1.f2, (fwNext W H ⟨x, y, r, u⟩).1.f3, (fwNext W H ⟨x, y, r, u⟩).2) := by
  have t : ∃ z, impl_next.f W H x y r u = some z := by
    have s1 : ∀ q, ∃ z, impl_sign.f q = some z := fun q => by unfold impl_sign.f; split <;> exact ⟨_, rfl⟩
    obtain ⟨a, ha⟩ := s1 r
    obtain ⟨c, hc⟩ := s1 u
    unfold impl_next.f
    rw [ha, hc]
    simp only [Option.bind_some, fwCor_eq, fwInw_eq]
    (repeat' split) <;> exact ⟨_, rfl⟩
  obtain ⟨z, hz⟩ := t
  simp only [fwNext, hz]
/-- The beam behind k steps, and the side of its last bounce. -/
def fwSt (W H : Int) (b : S30) : Nat → S30 × ByteArray
  | 0 => (fwInw W H b, ⟨#[]⟩)
  | k + 1 => fwNext W H (fwSt W H b k).1
/-- Does it go on behind step k? -/
def fwGo (W H : Int) (b : S30) (steps : Int) (stop : Nat → Bool) (k : Nat) : Prop := stop k = false ∧ (k : Int) < steps ∧ (k = 0 ∨ fwCor W H (fwSt W H b k).1 = false)
/-- All is as it was, but for one block; more may have been laid. -/
structure FwMv (g : Nat) (W1 W2 : World) : Prop where
  os : W2.os = W1.os
  tape : W2.tape = W1.tape
  output : W2.output = W1.output
  size : W1.heap.size ≤ W2.heap.size
  block : ∀ i, i < W1.heap.size → i ≠ g → W2.heap[i]? = W1.heap[i]?
theorem FwMv.refl (g : Nat) (w : World) : FwMv g w w := ⟨rfl, rfl, rfl, Nat.le_refl _, fun _ _ _ => rfl⟩
theorem FwMv.trans {g : Nat} {a b c : World} (h : FwMv g a b) (k : FwMv g b c) : FwMv g a c :=
  ⟨k.os.trans h.os, k.tape.trans h.tape, k.output.trans h.output, Nat.le_trans h.size k.size, fun i hi hn => (k.block i (Nat.lt_of_lt_of_le hi h.size) hn).trans (h.block i hi hn)⟩
theorem FwMv.of_below {g : Nat} {a b : World} (h : Below a.heap.size a b) : FwMv g a b := ⟨h.os, h.tape, h.output, h.size, fun i hi _ => h.block i hi⟩
/-- The closure leaves both of follow's own variables as they are. -/
structure FwFr (T : Nat) (W1 W2 : World) : Prop where
  size : W1.heap.size ≤ W2.heap.size
  t : W2.heap[T]? = W1.heap[T]?
  b : W2.heap[T + 1]? = W1.heap[T + 1]?
abbrev fwVal (s : S30) : Value := .agg #[.int .i64 s.f0, .int .i64 s.f1, .bool s.f2, .bool s.f3]
structure FwRel (W H : Int) (b : S30) (I : Nat → World → Prop) (T k : Nat) (wr : World) : Prop where
  inv : I k wr
  lt : T + 1 < wr.heap.size
  ht : wr.heap[T]? = some (.cells #[.int .i64 W, .int .i64 H] 28 (0, 0))
  hb : wr.heap[T + 1]? = some (.cells #[.int .i64 (fwSt W H b k).1.f0, .int .i64 (fwSt W H b k).1.f1, .bool (fwSt W H b k).1.f2, .bool (fwSt W H b k).1.f3] 30 (0, 0))
theorem fw_cells {w : World} {g : Nat} {t : TypeId} {cs : Array Value} (h : w.heap[g]? = some (.cells cs t (0, 0))) (i : Nat) : w.cell? ⟨g, i, none⟩ = cs[i]? ∧ w.frozen? ⟨g, i, none⟩ = false := by
  constructor
  · simp [World.cell?, h]
  · simp [World.frozen?, h]
theorem fw_set {w : World} {g i : Nat} (v : Value) : FwMv g w (w.setCell ⟨g, i, none⟩ v) := ⟨rfl, rfl, rfl, by simp, fun k _ hk => Below.heap_setCell w _ v k hk⟩
/-- The four cells of a beam stored. -/
theorem fw_store {w : World} {g : Nat} {a b c d a' b' c' d' : Value} {t : TypeId} (h : w.heap[g]? = some (.cells #[a, b, c, d] t (0, 0))) :
    (((((w.setCell ⟨g, 0, none⟩ a').setCell ⟨g, 1, none⟩ b').setCell ⟨g, 2, none⟩ c').setCell ⟨g, 3, none⟩ d').heap[g]? = some (.cells #[a', b', c', d'] t (0, 0))) ∧
      FwMv g w ((((w.setCell ⟨g, 0, none⟩ a').setCell ⟨g, 1, none⟩ b').setCell ⟨g, 2, none⟩ c').setCell ⟨g, 3, none⟩ d') := by
  refine ⟨?_, (((fw_set a').trans (fw_set b')).trans (fw_set c')).trans (fw_set d')⟩
  exact heap_setCell_same _ g 3 _ t d' (heap_setCell_same _ g 2 _ t c' (heap_setCell_same _ g 1 _ t b' (heap_setCell_same _ g 0 _ t a' h)))
theorem fwRel_mv {W H : Int} {b : S30} {I : Nat → World → Prop} {T k : Nat} {w1 w2 : World} (hst : ∀ k W1 W2, I k W1 → FwMv (T + 1) W1 W2 → I k W2) (R : FwRel W H b I T k w1) (hb : Below w1.heap.size w1 w2) : FwRel W H b I T k w2 :=
  ⟨hst k w1 w2 R.inv (.of_below hb), Nat.lt_of_lt_of_le R.lt hb.size, (hb.block T (by have := R.lt; omega)).trans R.ht, (hb.block (T + 1) R.lt).trans R.hb⟩
theorem fw_two (w : World) (o1 o2 : Obj) : ((w.alloc o1).alloc o2).heap[w.heap.size]? = some o1 ∧ ((w.alloc o1).alloc o2).heap[w.heap.size + 1]? = some o2 ∧ ((w.alloc o1).alloc o2).heap.size = w.heap.size + 2 := by
  have e : ∀ (v : World) (o : Obj), (v.alloc o).heap = v.heap.push o := fun _ _ => rfl
  rw [e, e]
  exact ⟨by rw [Array.getElem?_push, if_neg (by simp), Array.getElem?_push, if_pos rfl], by rw [Array.getElem?_push, if_pos (by simp)], by simp⟩
set_option maxHeartbeats 8000000 in
set_option maxRecDepth 100000 in
theorem impl_follow.calls (W H x y : Int) (r u : Bool) (steps : Int) (g : Nat) (lb : Array Value) (eg : ∀ args w, (callFunc g args).run Try.prog w = .ok (.enter g args) w)
    (I : Nat → World → Prop) (stop : Nat → Bool) (N : Nat) (w : World) (hNb : N ≤ 1000000)
    (hgo : ∀ k, k < N → fwGo W H ⟨x, y, r, u⟩ steps stop k) (hend : ¬ fwGo W H ⟨x, y, r, u⟩ steps stop N)
    (hI0 : I 0 w) (hst : ∀ k W1 W2, I k W1 → FwMv (w.heap.size + 1) W1 W2 → I k W2)
    (hcall : ∀ k Wd, k ≤ N → w.heap.size + 1 < Wd.heap.size → I k Wd → Calls Try.prog g (#[.int .i64 (k : Int), fwVal (fwSt W H ⟨x, y, r, u⟩ k).1, .string (fwSt W H ⟨x, y, r, u⟩ k).2] ++ lb) Wd fun e w' => e = .returned (.bool (stop k)) ∧ I (k + 1) w' ∧ FwFr w.heap.size Wd w') :
    Calls Try.prog 46 #[.agg #[.int .i64 W, .int .i64 H], .agg #[.int .i64 x, .int .i64 y, .bool r, .bool u], .int .i64 steps, .func (.func g) #[] lb] w fun e w' => e = .returned (.tuple #[]) ∧ I (N + 1) w' := by
  have HST := Aside0.mk hst
  have HC := Aside0.mk hcall
  have HG := Aside0.mk hgo
  have HE := Aside0.mk hend
  have HI0 := Aside0.mk hI0
  have HIN := Aside0.mk (fwInw_eq W H x y r u)
  obtain ⟨s0, hs0⟩ : ∃ s, fwInw W H ⟨x, y, r, u⟩ = s := ⟨_, rfl⟩
  rw [hs0] at HIN
  have HS0 := Aside0.mk hs0
  clear hst hcall hgo hend hI0 hs0
  obtain ⟨x0, y0, r0, u0⟩ := s0
  go_enter Try.func46, Try.ntmps46
  go_wp2_with fail
  refine (impl_inward.calls _ _ _ _ _ _ _ _ _ _ _ HIN.out).mono ?_
  rintro e w1 ⟨rfl, hb1⟩
  have z1 : w.heap.size + 1 < w1.heap.size := by have := hb1.size; rw [(fw_two w _ _).2.2] at this; omega
  have q1 : w1.heap[w.heap.size + 1]? = some (.cells #[.int .i64 x, .int .i64 y, .bool r, .bool u] 30 (0, 0)) := (hb1.block _ (by rw [(fw_two w _ _).2.2]; omega)).trans (fw_two w _ _).2.1
  have q0 : w1.heap[w.heap.size]? = some (.cells #[.int .i64 W, .int .i64 H] 28 (0, 0)) := (hb1.block _ (by rw [(fw_two w _ _).2.2]; omega)).trans (fw_two w _ _).1
  have m1 : FwMv (w.heap.size + 1) w w1 := (FwMv.of_below (((Below.refl _ w).alloc (Nat.le_refl _) _).alloc (by simp) _)).trans (FwMv.of_below hb1)
  have c10 := (fw_cells q1 0).1
  have c11 := (fw_cells q1 1).1
  have c12 := (fw_cells q1 2).1
  have c13 := (fw_cells q1 3).1
  have f10 := (fw_cells q1 0).2
  have f11 := (fw_cells q1 1).2
  have f12 := (fw_cells q1 2).2
  have f13 := (fw_cells q1 3).2
  simp at c10 c11 c12 c13
  have hs := fw_store (a' := .int .i64 x0) (b' := .int .i64 y0) (c' := .bool r0) (d' := .bool u0) q1
  have HR0 : Aside0 (FwRel W H ⟨x, y, r, u⟩ I w.heap.size 0 ((((w1.setCell ⟨w.heap.size + 1, 0, none⟩ (.int .i64 x0)).setCell ⟨w.heap.size + 1, 1, none⟩ (.int .i64 y0)).setCell ⟨w.heap.size + 1, 2, none⟩ (.bool r0)).setCell ⟨w.heap.size + 1, 3, none⟩ (.bool u0))) := by
    refine ⟨⟨HST.out 0 w _ HI0.out (m1.trans hs.2), by simpa using z1, (hs.2.block _ (by omega) (by omega)).trans q0, ?_⟩⟩
    have e : (fwSt W H ⟨x, y, r, u⟩ 0).1 = ⟨x0, y0, r0, u0⟩ := HS0.out
    rw [e]
    exact hs.1
  clear q1 q0 hb1 hs m1
  go_wp2_with fail
  go_loopg [8, 9] N (fun gg s8 s9 wr => ∃ k : Nat, k ≤ N ∧ N - k ≤ gg ∧ s8 = .string (fwSt W H ⟨x, y, r, u⟩ k).2 ∧ s9 = .int .i64 (k : Int) ∧ Aside0 (FwRel W H ⟨x, y, r, u⟩ I w.heap.size k wr))
  case atStart => exact ⟨0, Nat.zero_le _, by omega, rfl, rfl, HR0⟩
  case round =>
    obtain ⟨k, hk, hgk, rfl, rfl, R⟩ := hrel
    clear c10 c11 c12 c13 f10 f11 f12 f13 z1 HR0
    have hc := HC.out k wr hk R.out.lt R.out.inv
    obtain ⟨sd, hsd⟩ : ∃ sd, (fwSt W H ⟨x, y, r, u⟩ k).2 = sd := ⟨_, rfl⟩
    obtain ⟨s, hs⟩ : ∃ s, (fwSt W H ⟨x, y, r, u⟩ k).1 = s := ⟨_, rfl⟩
    have hgk' : k < N → fwGo W H ⟨x, y, r, u⟩ steps stop k := HG.out k
    have hnk' : k = N → ¬ fwGo W H ⟨x, y, r, u⟩ steps stop k := fun e => e ▸ HE.out
    unfold fwGo at hgk' hnk'
    rw [hs] at hgk' hnk'
    have hb := R.out.hb
    have ht := R.out.ht
    rw [hsd, hs] at hc
    rw [hs] at hb
    rw [hsd]
    have HSS := Aside0.mk hs
    have HSD := Aside0.mk hsd
    clear hs hsd
    obtain ⟨sx, sy, sr, su⟩ := s
    have b0 := (fw_cells hb 0).1
    have b1 := (fw_cells hb 1).1
    have b2 := (fw_cells hb 2).1
    have b3 := (fw_cells hb 3).1
    simp at b0 b1 b2 b3
    have HBB := Aside0.mk hb
    have HTT := Aside0.mk ht
    have HCC := Aside0.mk hc
    have lt := R.out.lt
    clear hb ht hc
    obtain ⟨ns, hns⟩ : ∃ ns, fwNext W H ⟨sx, sy, sr, su⟩ = ns := ⟨_, rfl⟩
    have hnx := fwNext_eq W H sx sy sr su
    rw [hns] at hnx
    have he4 : fwSt W H ⟨x, y, r, u⟩ (k + 1) = ns := by rw [← hns, ← HSS.out]; rfl
    obtain ⟨⟨nx, ny, nr, nu⟩, nd⟩ := ns
    have HNX := Aside0.mk hnx
    have HE4 := Aside0.mk he4
    clear hns hnx he4
    have hco := fwCor_eq W H sx sy sr su
    cases hst : stop k with
    | true =>
      have hkN : N = k := by
        rcases Nat.lt_or_ge k N with c | c
        · have := (hgk' c).1; rw [hst] at this; cases this
        · omega
      rw [hst] at HCC
      clear hst hgk' hnk' hco
      subst hkN
      go_wp2_with fail
      refine HCC.out.mono ?_
      rintro e w2 ⟨rfl, hI2, hf2⟩
      go_wp2_with fail
      go_end0
      exact ⟨rfl, hI2⟩
    | false =>
      rw [hst] at HCC hgk' hnk'
      clear hst
      by_cases h1 : (k : Int) < steps
      · have d1 : decide ((k : Int) < steps) = true := decide_eq_true h1
        by_cases h0 : k = 0
        · have hkN : k < N := by
            rcases Nat.lt_or_ge k N with c | c
            · exact c
            · exact absurd ⟨rfl, h1, .inl h0⟩ (hnk' (by omega))
          have d0 : ((k : Int) == 0) = true := by rw [beq_iff_eq]; omega
          clear h0 h1 hgk' hnk' hco
          go_wp2_with fail
          refine HCC.out.mono ?_
          rintro e w2 ⟨rfl, hI2, hf2⟩
          have HI2 := Aside0.mk hI2
          have HF2 := Aside0.mk hf2
          have z2 : w.heap.size + 1 < w2.heap.size := Nat.lt_of_lt_of_le lt hf2.size
          have q2b := hf2.b.trans HBB.out
          have q2t := hf2.t.trans HTT.out
          have b20 := (fw_cells q2b 0).1
          have b21 := (fw_cells q2b 1).1
          have b22 := (fw_cells q2b 2).1
          have b23 := (fw_cells q2b 3).1
          have t20 := (fw_cells q2t 0).1
          have t21 := (fw_cells q2t 1).1
          have f20 := (fw_cells q2b 0).2
          have f21 := (fw_cells q2b 1).2
          have f22 := (fw_cells q2b 2).2
          have f23 := (fw_cells q2b 3).2
          simp at b20 b21 b22 b23 t20 t21
          have Q2b := Aside0.mk q2b
          have Q2t := Aside0.mk q2t
          clear q2b q2t
          clear hI2 hf2
          go_wp2_with fail
          refine (impl_next.calls _ _ _ _ _ _ _ _ _ _ _ _ HNX.out).mono ?_
          rintro e w4 ⟨rfl, hb4⟩
          have HB4 := Aside0.mk hb4
          have z4 : w.heap.size + 1 < w4.heap.size := Nat.lt_of_lt_of_le z2 hb4.size
          have q4b := (hb4.block _ z2).trans Q2b.out
          have q4t := (hb4.block _ (by omega)).trans Q2t.out
          have b40 := (fw_cells q4b 0).1
          have b41 := (fw_cells q4b 1).1
          have b42 := (fw_cells q4b 2).1
          have b43 := (fw_cells q4b 3).1
          have t40 := (fw_cells q4t 0).1
          have t41 := (fw_cells q4t 1).1
          have f40 := (fw_cells q4b 0).2
          have f41 := (fw_cells q4b 1).2
          have f42 := (fw_cells q4b 2).2
          have f43 := (fw_cells q4b 3).2
          simp at b40 b41 b42 b43 t40 t41
          have Q4b := Aside0.mk q4b
          have Q4t := Aside0.mk q4t
          clear q4b q4t
          clear hb4
          have hs4 := fw_store (a' := .int .i64 nx) (b' := .int .i64 ny) (c' := .bool nr) (d' := .bool nu) Q4b.out
          have HM : Aside0 (FwMv (w.heap.size + 1) w2 w4) := ⟨FwMv.of_below HB4.out⟩
          have HS4 := Aside0.mk hs4
          clear hs4
          go_wp2_with fail
          go_roundg (N - (k + 1))
          case measure => omega
          case rel =>
            refine ⟨k + 1, by omega, by omega, ?_, by go_num, ⟨⟨HST.out (k + 1) w2 _ HI2.out (HM.out.trans HS4.out.2), by simpa using z4, (HS4.out.2.block _ (by omega) (by omega)).trans Q4t.out, ?_⟩⟩⟩
            · rw [HE4.out]
            · rw [HE4.out]
              exact HS4.out.1
        · have d0 : ((k : Int) == 0) = false := by rw [beq_eq_false_iff_ne]; omega
          cases hc : fwCor W H ⟨sx, sy, sr, su⟩ with
          | true =>
            rw [hc] at hco
            have HCO := Aside0.mk hco
            have hkN : N = k := by
              rcases Nat.lt_or_ge k N with c | c
              · rcases (hgk' c).2.2 with h | h
                · exact absurd h h0
                · rw [hc] at h; cases h
              · omega
            clear hc hgk' hnk' h0 h1 hco
            subst hkN
            go_wp2_with fail
            refine HCC.out.mono ?_
            rintro e w2 ⟨rfl, hI2, hf2⟩
            have HI2 := Aside0.mk hI2
            have HF2 := Aside0.mk hf2
            have z2 : w.heap.size + 1 < w2.heap.size := Nat.lt_of_lt_of_le lt hf2.size
            have q2b := hf2.b.trans HBB.out
            have q2t := hf2.t.trans HTT.out
            have b20 := (fw_cells q2b 0).1
            have b21 := (fw_cells q2b 1).1
            have b22 := (fw_cells q2b 2).1
            have b23 := (fw_cells q2b 3).1
            have t20 := (fw_cells q2t 0).1
            have t21 := (fw_cells q2t 1).1
            have f20 := (fw_cells q2b 0).2
            have f21 := (fw_cells q2b 1).2
            have f22 := (fw_cells q2b 2).2
            have f23 := (fw_cells q2b 3).2
            simp at b20 b21 b22 b23 t20 t21
            have Q2b := Aside0.mk q2b
            have Q2t := Aside0.mk q2t
            clear q2b q2t
            clear hI2 hf2
            go_wp2_with fail
            refine (impl_isCorner.calls _ _ _ _ _ _ true _ HCO.out).mono ?_
            rintro e w3 ⟨rfl, hb3⟩
            have HB3 := Aside0.mk hb3
            have z3 : w.heap.size + 1 < w3.heap.size := Nat.lt_of_lt_of_le z2 hb3.size
            have q3b := (hb3.block _ z2).trans Q2b.out
            have q3t := (hb3.block _ (by omega)).trans Q2t.out
            have b30 := (fw_cells q3b 0).1
            have b31 := (fw_cells q3b 1).1
            have b32 := (fw_cells q3b 2).1
            have b33 := (fw_cells q3b 3).1
            have t30 := (fw_cells q3t 0).1
            have t31 := (fw_cells q3t 1).1
            have f30 := (fw_cells q3b 0).2
            have f31 := (fw_cells q3b 1).2
            have f32 := (fw_cells q3b 2).2
            have f33 := (fw_cells q3b 3).2
            simp at b30 b31 b32 b33 t30 t31
            have Q3b := Aside0.mk q3b
            have Q3t := Aside0.mk q3t
            clear q3b q3t
            clear hb3
            go_wp2_with fail
            go_end0
            exact ⟨rfl, HST.out _ w2 _ HI2.out (FwMv.of_below HB3.out)⟩
          | false =>
            rw [hc] at hco
            have HCO := Aside0.mk hco
            have hkN : k < N := by
              rcases Nat.lt_or_ge k N with c | c
              · exact c
              · exact absurd ⟨rfl, h1, .inr hc⟩ (hnk' (by omega))
            clear hc hgk' hnk' h0 h1 hco
            go_wp2_with fail
            refine HCC.out.mono ?_
            rintro e w2 ⟨rfl, hI2, hf2⟩
            have HI2 := Aside0.mk hI2
            have HF2 := Aside0.mk hf2
            have z2 : w.heap.size + 1 < w2.heap.size := Nat.lt_of_lt_of_le lt hf2.size
            have q2b := hf2.b.trans HBB.out
            have q2t := hf2.t.trans HTT.out
            have b20 := (fw_cells q2b 0).1
            have b21 := (fw_cells q2b 1).1
            have b22 := (fw_cells q2b 2).1
            have b23 := (fw_cells q2b 3).1
            have t20 := (fw_cells q2t 0).1
            have t21 := (fw_cells q2t 1).1
            have f20 := (fw_cells q2b 0).2
            have f21 := (fw_cells q2b 1).2
            have f22 := (fw_cells q2b 2).2
            have f23 := (fw_cells q2b 3).2
            simp at b20 b21 b22 b23 t20 t21
            have Q2b := Aside0.mk q2b
            have Q2t := Aside0.mk q2t
            clear q2b q2t
            clear hI2 hf2
            go_wp2_with fail
            refine (impl_isCorner.calls _ _ _ _ _ _ false _ HCO.out).mono ?_
            rintro e w3 ⟨rfl, hb3⟩
            have HB3 := Aside0.mk hb3
            have z3 : w.heap.size + 1 < w3.heap.size := Nat.lt_of_lt_of_le z2 hb3.size
            have q3b := (hb3.block _ z2).trans Q2b.out
            have q3t := (hb3.block _ (by omega)).trans Q2t.out
            have b30 := (fw_cells q3b 0).1
            have b31 := (fw_cells q3b 1).1
            have b32 := (fw_cells q3b 2).1
            have b33 := (fw_cells q3b 3).1
            have t30 := (fw_cells q3t 0).1
            have t31 := (fw_cells q3t 1).1
            have f30 := (fw_cells q3b 0).2
            have f31 := (fw_cells q3b 1).2
            have f32 := (fw_cells q3b 2).2
            have f33 := (fw_cells q3b 3).2
            simp at b30 b31 b32 b33 t30 t31
            have Q3b := Aside0.mk q3b
            have Q3t := Aside0.mk q3t
            clear q3b q3t
            clear hb3
            go_wp2_with fail
            refine (impl_next.calls _ _ _ _ _ _ _ _ _ _ _ _ HNX.out).mono ?_
            rintro e w4 ⟨rfl, hb4⟩
            have HB4 := Aside0.mk hb4
            have z4 : w.heap.size + 1 < w4.heap.size := Nat.lt_of_lt_of_le z3 hb4.size
            have q4b := (hb4.block _ z3).trans Q3b.out
            have q4t := (hb4.block _ (by omega)).trans Q3t.out
            have b40 := (fw_cells q4b 0).1
            have b41 := (fw_cells q4b 1).1
            have b42 := (fw_cells q4b 2).1
            have b43 := (fw_cells q4b 3).1
            have t40 := (fw_cells q4t 0).1
            have t41 := (fw_cells q4t 1).1
            have f40 := (fw_cells q4b 0).2
            have f41 := (fw_cells q4b 1).2
            have f42 := (fw_cells q4b 2).2
            have f43 := (fw_cells q4b 3).2
            simp at b40 b41 b42 b43 t40 t41
            have Q4b := Aside0.mk q4b
            have Q4t := Aside0.mk q4t
            clear q4b q4t
            clear hb4
            have hs4 := fw_store (a' := .int .i64 nx) (b' := .int .i64 ny) (c' := .bool nr) (d' := .bool nu) Q4b.out
            have HM : Aside0 (FwMv (w.heap.size + 1) w2 w4) := ⟨(FwMv.of_below HB3.out).trans (FwMv.of_below HB4.out)⟩
            have HS4 := Aside0.mk hs4
            clear hs4
            go_wp2_with fail
            go_roundg (N - (k + 1))
            case measure => omega
            case rel =>
              refine ⟨k + 1, by omega, by omega, ?_, by go_num, ⟨⟨HST.out (k + 1) w2 _ HI2.out (HM.out.trans HS4.out.2), by simpa using z4, (HS4.out.2.block _ (by omega) (by omega)).trans Q4t.out, ?_⟩⟩⟩
              · rw [HE4.out]
              · rw [HE4.out]
                exact HS4.out.1
      · have d1 : decide ((k : Int) < steps) = false := decide_eq_false h1
        have hkN : N = k := by
          rcases Nat.lt_or_ge k N with c | c
          · exact absurd (hgk' c).2.1 h1
          · omega
        clear hgk' hnk' hco h1
        subst hkN
        go_wp2_with fail
        refine HCC.out.mono ?_
        rintro e w2 ⟨rfl, hI2, hf2⟩
        go_wp2_with fail
        go_end0
        exact ⟨rfl, hI2⟩
/-- Where a way ends: the first step behind which it does not go on. -/
def fwEnd (go : Nat → Bool) : Nat → Nat → Nat
  | 0, k => k
  | f + 1, k => if go k = true then fwEnd go f (k + 1) else k
theorem fwEnd_is (go : Nat → Bool) : ∀ (f k : Nat), go (k + f) = false → k ≤ fwEnd go f k ∧ fwEnd go f k ≤ k + f ∧ go (fwEnd go f k) = false ∧ ∀ j, k ≤ j → j < fwEnd go f k → go j = true := by
  intro f
  induction f with
  | zero => intro k h; exact ⟨Nat.le_refl _, Nat.le_refl _, h, fun j h1 h2 => by simp [fwEnd] at h2; omega⟩
  | succ f ih =>
    intro k h
    unfold fwEnd
    by_cases c : go k = true
    · rw [if_pos c]
      obtain ⟨h1, h2, h3, h4⟩ := ih (k + 1) (by rw [show k + 1 + f = k + (f + 1) by omega]; exact h)
      refine ⟨by omega, by omega, h3, fun j j1 j2 => ?_⟩
      rcases Nat.eq_or_lt_of_le j1 with e | e
      · rw [← e]; exact c
      · exact h4 j e j2
    · rw [if_neg c]
      exact ⟨Nat.le_refl _, by omega, by simpa using c, fun j j1 j2 => by omega⟩
def fwGoB (W H : Int) (b : S30) (steps : Int) (stop : Nat → Bool) (k : Nat) : Bool := !(stop k) && (decide ((k : Int) < steps) && (decide (k = 0) || !(fwCor W H (fwSt W H b k).1)))
theorem fwGoB_iff {W H : Int} {b : S30} {steps : Int} {stop : Nat → Bool} {k : Nat} : fwGoB W H b steps stop k = true ↔ fwGo W H b steps stop k := by
  unfold fwGoB fwGo
  simp [and_assoc]
def fwN (W H : Int) (b : S30) (steps : Int) (stop : Nat → Bool) : Nat := fwEnd (fwGoB W H b steps stop) steps.toNat 0
theorem fwN_is (W H : Int) (b : S30) (steps : Int) (stop : Nat → Bool) (h0 : 0 ≤ steps) : (fwN W H b steps stop : Int) ≤ steps ∧ ¬ fwGo W H b steps stop (fwN W H b steps stop) ∧ ∀ j, j < fwN W H b steps stop → fwGo W H b steps stop j := by
  have z : fwGoB W H b steps stop (0 + steps.toNat) = false := by
    have : ¬ (((0 + steps.toNat : Nat) : Int) < steps) := by omega
    unfold fwGoB
    rw [decide_eq_false this]
    simp
  obtain ⟨h1, h2, h3, h4⟩ := fwEnd_is _ _ _ z
  exact ⟨by unfold fwN; omega, (fun h => by rw [← fwGoB_iff] at h; unfold fwN at h; rw [h3] at h; cases h), fun j hj => fwGoB_iff.1 (h4 j (by omega) hj)⟩
/-- What was there stands, but for some blocks. -/
structure FwOld (S : Nat → Prop) (W1 W2 : World) : Prop where
  os : W2.os = W1.os
  tape : W2.tape = W1.tape
  output : W2.output = W1.output
  size : W1.heap.size ≤ W2.heap.size
  block : ∀ i, i < W1.heap.size → ¬ S i → W2.heap[i]? = W1.heap[i]?
theorem FwOld.refl (S : Nat → Prop) (w : World) : FwOld S w w := ⟨rfl, rfl, rfl, Nat.le_refl _, fun _ _ _ => rfl⟩
theorem FwOld.mv {S : Nat → Prop} {a b c : World} (h : FwOld S a b) {g : Nat} (k : FwMv g b c) (hg : a.heap.size ≤ g ∨ S g) : FwOld S a c :=
  ⟨k.os.trans h.os, k.tape.trans h.tape, k.output.trans h.output, Nat.le_trans h.size k.size, fun i hi hn => (k.block i (Nat.lt_of_lt_of_le hi h.size) (fun e => by
    rcases hg with hg | hg
    · omega
    · exact hn (e ▸ hg))).trans (h.block i hi hn)⟩
theorem FwOld.below {S : Nat → Prop} {w a b : World} (h : Below w.heap.size w a) (k : FwOld S a b) (hS : ∀ i, S i → w.heap.size ≤ i) : Below w.heap.size w b :=
  ⟨k.os.trans h.os, k.tape.trans h.tape, k.output.trans h.output, Nat.le_trans h.size k.size, fun i hi => (k.block i (Nat.lt_of_lt_of_le hi h.size) (fun hs => by have := hS i hs; omega)).trans (h.block i hi)⟩
theorem fw_three (w : World) (o1 o2 o3 : Obj) : (((w.alloc o1).alloc o2).alloc o3).heap[w.heap.size]? = some o1 ∧ (((w.alloc o1).alloc o2).alloc o3).heap[w.heap.size + 1]? = some o2 ∧ (((w.alloc o1).alloc o2).alloc o3).heap[w.heap.size + 2]? = some o3 ∧ (((w.alloc o1).alloc o2).alloc o3).heap.size = w.heap.size + 3 := by
  have e : ∀ (v : World) (o : Obj), (v.alloc o).heap = v.heap.push o := fun _ _ => rfl
  obtain ⟨h1, h2, h3⟩ := fw_two w o1 o2
  rw [e _ o3]
  refine ⟨?_, ?_, ?_, by rw [Array.size_push, h3]⟩
  · rw [Array.getElem?_push, if_neg (by rw [h3]; omega), h1]
  · rw [Array.getElem?_push, if_neg (by rw [h3]; omega), h2]
  · rw [Array.getElem?_push, if_pos (by rw [h3])]
/-- A function with a body is entered when it is called. -/
theorem fw_enters {f : FuncId} {fn : Func} {c : Code} (hf : Try.prog.funcs[f]? = some fn) (hname : (fn.name == "runtime.NumGoroutine") = false) (hb : fn.body = some c) (args : Array Value) (w : World) : (callFunc f args).run Try.prog w = .ok (.enter f args) w := by
  have h1 : fn.name ≠ "runtime.NumGoroutine" := by simpa using hname
  simp [callFunc, hf, h1, hb, mark]

/-! ### impl_around: function 50 -/
def impl_around.f (a0_0 : Int) (a0_1 : Int) : Option (Int) := some (wrap64 ((wrap64 (2 * a0_0)) * a0_1))
set_option maxHeartbeats 8000000 in
set_option maxRecDepth 100000 in
theorem impl_around.calls (a0_0 : Int) (a0_1 : Int) (r : Int) (w : World) (h : impl_around.f a0_0 a0_1 = some r) :
    Calls Try.prog 50 #[.agg #[.int .i64 a0_0, .int .i64 a0_1]] w fun e w' => e = .returned (.int .i64 r) ∧ Below w.heap.size w w' := by
  have hu28 := Try.underlying28
  have HB := Aside0.mk (Below.refl w.heap.size w)
  have H : (some (wrap64 ((wrap64 (2 * a0_0)) * a0_1))) = some r := h
  clear h
  obtain rfl := Option.some.inj H
  go_enter Try.func50, Try.ntmps50
  go_wp2_with (first | ((with_reducible refine gate_dst (N := 1) rfl ?_); refine box_event ?hg (N := 1) ?hd (cs := #[.int .i64 a0_0, .int .i64 a0_1]) (t := 28) ?hr ?_; (case hd => rfl); (case hg => rfl); (case hr => first | (go_simp; done) | (go_simp; rfl)); intro gb227 hg w2 hbox hb; have n0_ := Aside0.mk (below_step (by repeat (first | (with_reducible first | exact HB.out | apply below_alloc | apply pw_below_drewN | apply below_drew1) | exact HB.out)) hb); have n1_ := Aside0.mk (hbox); have n2_ := Aside0.mk ((by rw [hg]; exact (below_size (by repeat (first | (with_reducible first | exact HB.out | apply below_alloc | apply pw_below_drewN | apply below_drew1) | exact HB.out))) : w.heap.size ≤ gb227)); have n3_ := Aside0.mk ((by rw [hg]; exact (below_size (by repeat (first | (with_reducible first | exact HB.out | apply below_alloc | apply pw_below_drewN | apply below_drew1) | exact HB.out))) : w.heap.size ≤ gb227)); clear HB; have HB := n0_; have BK227 := n1_; have GW227 := n2_; have GE227 := n3_; clear n0_ n1_ n2_ n3_; clear hb hbox hg; have hcz3_0 : w2.cell? ⟨gb227, 0, none⟩ = some (.int .i64 a0_0) := (blk_cell BK227.out 0).trans rfl; have hcz3_1 : w2.cell? ⟨gb227, 1, none⟩ = some (.int .i64 a0_1) := (blk_cell BK227.out 1).trans rfl; have hfz3_0 := blk_frozen BK227.out 0; have hfz3_1 := blk_frozen BK227.out 1))
  go_ret
  exact ⟨by first | rfl | (simp [errW_none, errW_some] <;> rfl) | (simp [*, errW_none, errW_some] <;> rfl), by repeat (first | (with_reducible first | exact HB.out | apply below_alloc | apply pw_below_drewN | apply below_drew1 | refine below_set ?_ GE227.out) | exact HB.out)⟩

/-! ### impl_visits: function 42 -/
/-! ### A map keyed by a place. -/
section VisMap
open Go.Maps Go.WideShapes Go.MapKept Go.ChangeMaps Go.WideElems Go.WideMaps
theorem vs_laid : laidOutB Try.prog = true := by kernel_rfl
theorem vs_klaw : KeyLaw Try.prog 68 := deep_law_laid vs_laid (m := 9) (by decide) (of_decide_eq_true (by kernel_rfl)) (by kernel_rfl) (by kernel_rfl)
theorem vs_keyed : Keyed Try.prog 68 := Keyed.of_law vs_klaw
def vsKl (x y : Int) : Lit := .string (keyBytes [.int .i64 x, .int .i64 y])
theorem vs_types : ∃ n, Try.prog.types.size = n + 1 := ⟨Try.prog.types.size - 1, by kernel_rfl⟩
theorem vs_wf (x : Int) : (Lit.int .i64 x).wf = true ↔ -9223372036854775808 ≤ x ∧ x ≤ 9223372036854775807 := by
  have e0 : IntKind.i64.min = -9223372036854775808 := by decide
  have e1 : IntKind.i64.max = 9223372036854775807 := by decide
  simp [Lit.wf]
  omega
theorem vs_key {x y : Int} (hx : (Lit.int .i64 x).wf = true) (hy : (Lit.int .i64 y).wf = true) : keyOf Try.prog 68 (.agg #[.int .i64 x, .int .i64 y]) = some (vsKl x y) := by
  have c3 : Try.prog.cellsOf 3 = 1 := by kernel_rfl
  have cK : Try.prog.cellsOf 68 = 2 := by kernel_rfl
  have kt : Try.prog.keyType 68 = true := by kernel_rfl
  obtain ⟨n, hn⟩ := vs_types
  have l1 : Try.prog.keyLits (n + 1 + 1) 68 [.int .i64 x, .int .i64 y] = some [.int .i64 x, .int .i64 y] := by
    simp [Program.keyLits, Try.underlying68, Try.underlying3, cK, c3, hx, hy, List.range_succ]
  unfold keyOf
  simp only [Try.underlying68]
  have ec : (Value.agg #[.int .i64 x, .int .i64 y]).cells.toList = [.int .i64 x, .int .i64 y] := rfl
  rw [kt, hn, ec, l1]
  simp [Value.formed, Try.underlying68, cK, vsKl]
theorem vs_keyInv {v : Value} {kl : Lit} (h : keyOf Try.prog 68 v = some kl) : ∃ z : Int × Int, v = .agg #[.int .i64 z.1, .int .i64 z.2] ∧ kl = vsKl z.1 z.2 ∧ (Lit.int .i64 z.1).wf = true ∧ (Lit.int .i64 z.2).wf = true := by
  have c3 : Try.prog.cellsOf 3 = 1 := by kernel_rfl
  have cK : Try.prog.cellsOf 68 = 2 := by kernel_rfl
  have kt : Try.prog.keyType 68 = true := by kernel_rfl
  obtain ⟨n, hn⟩ := vs_types
  unfold keyOf at h
  simp only [Try.underlying68] at h
  rw [kt, hn] at h
  cases v with
  | agg cs =>
    by_cases hc : cs.size = 2
    · obtain ⟨a, b, rfl⟩ : ∃ a b, cs = #[a, b] := by
        obtain ⟨l⟩ := cs
        match l, hc with
        | [a, b], _ => exact ⟨a, b, rfl⟩
      have hf : Value.formed Try.prog 68 (.agg #[a, b]) = true := by simp [Value.formed, Try.underlying68, cK]
      have ec : (Value.agg #[a, b]).cells.toList = [a, b] := rfl
      rw [hf, ec] at h
      simp only [Bool.and_self, if_true] at h
      obtain ⟨ls, hls, hkl⟩ := Option.map_eq_some_iff.mp h
      clear h
      have ea : ∀ v : Value, ∀ z, Try.prog.keyLits (n + 1) 3 [v] = some z → ∃ x, v = .int .i64 x ∧ z = [.int .i64 x] ∧ (Lit.int .i64 x).wf = true := by
        intro v z hz
        cases v <;> simp [Program.keyLits, Try.underlying3] at hz
        obtain ⟨⟨rfl, hw⟩, rfl⟩ := hz
        exact ⟨_, rfl, rfl, hw⟩
      have hstep : Try.prog.keyLits (n + 1 + 1) 68 [a, b] = (if [a, b].length = Try.prog.cellsOf 68 then ((List.range 2).mapM fun i => Try.prog.keyLits (n + 1) 3 (([a, b].drop (i * Try.prog.cellsOf 3)).take (Try.prog.cellsOf 3))).map List.flatten else none) := by
        conv => lhs; unfold Program.keyLits
        simp only [Try.underlying68]
      rw [hstep, cK, c3] at hls
      simp [List.range_succ] at hls
      cases hz1 : Try.prog.keyLits (n + 1) 3 [a] with
      | none => rw [hz1] at hls; simp at hls
      | some z1 =>
      rw [hz1] at hls
      cases hz2 : Try.prog.keyLits (n + 1) 3 [b] with
      | none => rw [hz2] at hls; simp at hls
      | some z2 =>
      rw [hz2] at hls
      simp at hls
      subst hls
      obtain ⟨x, rfl, rfl, wx⟩ := ea a z1 hz1
      obtain ⟨y, rfl, rfl, wy⟩ := ea b z2 hz2
      exact ⟨(x, y), rfl, hkl.symm, wx, wy⟩
    · simp [Value.formed, Try.underlying68, cK, hc] at h
  | _ => simp [Value.formed, Try.underlying68] at h
/-- 'm[k]++' as the translation lays it: the entry is made ready, then filled. -/
theorem vs_entryStore {H : Type} {P : Program} {w : World} {t k e : TypeId} {R : Value → Option (DataW H × List MemPlace)} {b : Nat} {es : Array MapEntry} {clock : Nat} (K : KeyLaw P k) (ht : P.underlying t = some (.map k e)) {z : Value} (hz : ∀ u : World, (zeroValue e).run P u = .ok z u) (hb : w.heap[b]? = some (.map es clock)) (F : Fit P k R es clock)
    {key : Value} {kl : Lit} (hkey : keyOf P k key = some kl) :
    ∃ (v0 : Value) (st : Nat) (es1 : Array MapEntry) (clock1 : Nat), (Instr.mapEntry t (.map (some b)) key).run P w = .ok (.tuple #[v0, goInt st]) (setBlock w b (.map es1 clock1)) ∧
      (Instr.mapUpdate t (.map (some b)) key v0).run P w = .ok () (setBlock w b (.map es1 clock1)) ∧ (Instr.lookup t (.map (some b)) key false).run P w = .ok v0 w ∧
      ∀ (w2 : World) (val : Value), w2.heap[b]? = some (.map es1 clock1) → ∃ es' clock', (Instr.entryStore t (.map (some b)) (goInt st) val).run P w2 = .ok () (setBlock w2 b (.map es' clock')) ∧
        (Instr.mapUpdate t (.map (some b)) key val).run P w = .ok () (setBlock w b (.map es' clock')) := by
  obtain ⟨s1, s2, _⟩ := F.stamped
  rcases K.find w hkey es.toList F.keys with ⟨h1, h2⟩ | ⟨j, e0, h1, h2, h3⟩
  · refine ⟨z, clock, es.push ⟨key, z, clock⟩, clock + 1, ?_, ?_, ?_, fun w2 val hw2 => ⟨es.push ⟨key, val, clock⟩, clock + 1, ?_, ?_⟩⟩
    · simp [Instr.mapEntry, run_underlying ht, MapKept.run_getObj_map hb, K.check w false hkey, h1, hz, MapKept.run_setObj_map _ hb, Result.andThen, setBlock]
    · simp [Instr.mapUpdate, run_underlying ht, MapKept.run_getObj_map hb, K.check w false hkey, h1, MapKept.run_setObj_map _ hb, Result.andThen, setBlock]
    · simp [Instr.lookup, run_underlying ht, MapKept.run_getObj_map hb, K.check w es.isEmpty hkey, h1, hz, Result.andThen]
    · have hidx : (es.push ⟨key, z, clock⟩).findIdx? (fun e => ((e.born : Nat) : Int) == ((clock : Nat) : Int)) = some es.size := by
        rw [findIdx_arr]
        have := findIdx_born (l := (es.push ⟨key, z, clock⟩).toList) (j := es.size) (e0 := ⟨key, z, clock⟩) (by
          simp only [Array.toList_push, List.map_append, List.map_cons, List.map_nil]
          refine List.nodup_append.2 ⟨s2, by simp, fun a ha c hc e1 => ?_⟩
          simp only [List.mem_singleton] at hc
          obtain ⟨x, hx, rfl⟩ := List.mem_map.1 ha
          have := s1 x hx
          omega) (by simp)
        exact this
      have hmod : (es.push ⟨key, z, clock⟩).modify es.size (fun e => { e with val := val }) = es.push ⟨key, val, clock⟩ := by
        apply Array.ext'
        rw [Array.toList_modify, Array.toList_push, Array.toList_push, ← Array.length_toList, modify_last]
      simp [Instr.entryStore, MapKept.run_getObj_map hw2, asInt, asIntOf, goInt, hidx, hmod, MapKept.run_setObj_map _ hw2, Result.andThen, setBlock]
    · simp [Instr.mapUpdate, run_underlying ht, MapKept.run_getObj_map hb, K.check w false hkey, h1, MapKept.run_setObj_map _ hb, Result.andThen, setBlock]
  · have hj : es[j]? = some e0 := by simpa using h2
    have hsame : es.modify j (fun e => { e with key := key }) = es := by
      apply Array.ext'
      rw [Array.toList_modify, modify_eq_set _ _ _ _ h2]
      have : ({ e0 with key := key } : MapEntry) = e0 := by rw [← h3]
      rw [this]
      exact set_self _ _ _ h2
    have hsame2 : es.modify j (fun e => { e with key := key, val := e0.val }) = es := by
      apply Array.ext'
      rw [Array.toList_modify, modify_eq_set _ _ _ _ h2]
      have : ({ e0 with key := key, val := e0.val } : MapEntry) = e0 := by rw [← h3]
      rw [this]
      exact set_self _ _ _ h2
    refine ⟨e0.val, e0.born, es, clock, ?_, ?_, ?_, fun w2 val hw2 => ⟨es.modify j (fun e' => { e' with key := key, val := val }), clock, ?_, ?_⟩⟩
    · simp [Instr.mapEntry, run_underlying ht, MapKept.run_getObj_map hb, K.check w false hkey, h1, hj, h3, K.stays w hkey, hsame, MapKept.run_setObj_map _ hb, Result.andThen, setBlock]
    · simp [Instr.mapUpdate, run_underlying ht, MapKept.run_getObj_map hb, K.check w false hkey, h1, hj, h3, K.stays w hkey, hsame2, MapKept.run_setObj_map _ hb, Result.andThen, setBlock]
    · simp [Instr.lookup, run_underlying ht, MapKept.run_getObj_map hb, K.check w es.isEmpty hkey, h1, Result.andThen]
    · have hidx : es.findIdx? (fun e => ((e.born : Nat) : Int) == ((e0.born : Nat) : Int)) = some j := by
        rw [findIdx_arr]
        exact findIdx_born s2 h2
      have hmod : es.modify j (fun e => { e with val := val }) = es.modify j (fun e' => { e' with key := key, val := val }) := by
        apply Array.ext'
        rw [Array.toList_modify, Array.toList_modify, modify_eq_set _ _ _ _ h2, modify_eq_set _ _ _ _ h2, ← h3]
      simp [Instr.entryStore, MapKept.run_getObj_map hw2, asInt, asIntOf, goInt, hidx, hmod, MapKept.run_setObj_map _ hw2, Result.andThen, setBlock]
    · simp [Instr.mapUpdate, run_underlying ht, MapKept.run_getObj_map hb, K.check w false hkey, h1, hj, h3, K.stays w hkey, MapKept.run_setObj_map _ hb, Result.andThen, setBlock]
theorem vs_zero (w : World) : (zeroValue 3).run Try.prog w = .ok (.int .i64 0) w := by kernel_rfl
/-- The block alone tells what the map reads as. -/
theorem vs_block {H : Type} {P : Program} {k : TypeId} {R : Value → Option (DataW H × List MemPlace)} {w w' : World} {b n : Nat} {D : DataW H} (h : w.ownsMap P k R b n D) (hb : w'.heap[b]? = w.heap[b]?) : w'.ownsMap P k R b n D := by
  obtain ⟨es, clock, h1, F, h2, h3⟩ := h
  exact ⟨es, clock, hb.trans h1, F, h2, h3⟩
theorem vs_set (w : World) (b : Nat) (es : Array MapEntry) (clock : Nat) {o : Obj} (h : w.heap[b]? = some o) : (setBlock w b (.map es clock)).heap[b]? = some (.map es clock) ∧ w.grownBy (setBlock w b (.map es clock)) (some b) := by
  have hlt := (Array.getElem?_eq_some_iff.1 h).1
  refine ⟨?_, rfl, rfl, rfl, ?_, fun i _ hi => ?_⟩
  · simp [setBlock, hlt]
  · simp [setBlock]
  · have hne : b ≠ i := fun e => hi (by rw [e])
    simp [setBlock, hne]
abbrev vsOwns (w : World) (b n : Nat) (D : DataW Unit) : Prop := w.ownsMap Try.prog 68 (plainElem Try.prog 3) b n D
theorem vs_count (W : World) (B n : Nat) (D : DataW Unit) (hown : vsOwns W B n D) (hn : n < 1000000) {x y : Int} (hx : (Lit.int .i64 x).wf = true) (hy : (Lit.int .i64 y).wf = true) (hD : IsMap D) :
    ∃ (c st : Int) (W2 : World), (Instr.lookup 62 (.map (some B)) (.agg #[.int .i64 x, .int .i64 y]) false).run Try.prog W = .ok (.int .i64 c) W ∧ D.atKey (vsKl x y) (.lit (.int .i64 0)) = .lit (.int .i64 c) ∧
      (Instr.mapEntry 62 (.map (some B)) (.agg #[.int .i64 x, .int .i64 y])).run Try.prog W = .ok (.tuple #[.int .i64 c, .int .i64 st]) W2 ∧
      (Instr.lookup 62 (.map (some B)) (.agg #[.int .i64 x, .int .i64 y]) false).run Try.prog W2 = .ok (.int .i64 c) W2 ∧
      ∀ v, (Lit.int .i64 v).wf = true → ∃ W3, (Instr.entryStore 62 (.map (some B)) (.int .i64 st) (.int .i64 v)).run Try.prog W2 = .ok () W3 ∧ vsOwns W3 B (n + 1) (D.put (vsKl x y) (.lit (.int .i64 v))) ∧ W.grownBy W3 (some B) := by
  have hkey := vs_key hx hy
  obtain ⟨c, hrun, hat, hwc⟩ := hown.lookup_int vs_keyed Try.underlying62 Try.underlying3 (vs_zero W) hkey
  have hown' := hown
  obtain ⟨es, clock, hb, F, hs, hD'⟩ := hown'
  obtain ⟨v0, st, es1, clock1, m1, m2, m3, m4⟩ := vs_entryStore vs_klaw Try.underlying62 vs_zero hb F hkey
  rw [hrun] at m3
  obtain rfl : Value.int .i64 c = v0 := by injection m3
  have hn' : n < maxLen := by unfold maxLen; omega
  obtain ⟨w', u1, u2, u3⟩ := hown.update vs_keyed Try.underlying62 hn' hkey (plainElem_int (H := Unit) Try.underlying3 hwc)
  rw [m2] at u1
  obtain rfl : setBlock W B (.map es1 clock1) = w' := by injection u1
  obtain ⟨c2, l1, l2, l3⟩ := u2.lookup_int vs_keyed Try.underlying62 Try.underlying3 (vs_zero _) hkey
  rw [atKey_put_same hD (vs_keyed.key hkey)] at l2
  obtain rfl : c = c2 := by injection l2 with e; injection e
  refine ⟨c, st, _, hrun, hat, m1, l1, fun v hv => ?_⟩
  obtain ⟨q1, q2⟩ := vs_set W B es1 clock1 hb
  obtain ⟨es', clock', r1, r2⟩ := m4 (setBlock W B (.map es1 clock1)) (.int .i64 v) q1
  obtain ⟨w'', v1, v2, v3⟩ := hown.update vs_keyed Try.underlying62 hn' hkey (plainElem_int (H := Unit) Try.underlying3 hv)
  rw [r2] at v1
  obtain rfl : setBlock W B (.map es' clock') = w'' := by injection v1
  obtain ⟨p1, p2⟩ := vs_set (setBlock W B (.map es1 clock1)) B es' clock' q1
  exact ⟨_, r1, vs_block v2 (p1.trans (vs_set W B es' clock' hb).1.symm), q2.trans p2⟩
end VisMap
set_option maxHeartbeats 4000000 in
set_option maxRecDepth 100000 in
theorem vs_one (cb T B : Nat) (k x y : Int) (r u : Bool) (sd : ByteArray) (w Wd : World) (n : Nat) (D : DataW Unit) (hn : n < 1000000) (hx : (Lit.int .i64 x).wf = true) (hy : (Lit.int .i64 y).wf = true) (hB : Below w.heap.size w Wd) (hwB : w.heap.size ≤ B) (hcB : cb ≠ B) (hT : T + 1 < Wd.heap.size) (hBT : B < T) (hlt : cb < Wd.heap.size)
    (hc : Wd.heap[cb]? = some (.cells #[.map (some B)] 62 (0, 0))) (hown : vsOwns Wd B n D) (hD : Maps.IsMap D) :
    Calls Try.prog 74 #[.int .i64 k, .agg #[.int .i64 x, .int .i64 y, .bool r, .bool u], .string sd, .pointer (some ⟨cb, 0, none⟩)] Wd fun e w' =>
      e = .returned (.bool false) ∧ Below w.heap.size w w' ∧ (∃ c, D.atKey (vsKl x y) (.lit (.int .i64 0)) = .lit (.int .i64 c) ∧ vsOwns w' B (n + 1) (D.put (vsKl x y) (.lit (.int .i64 (wrap64 (c + 1)))))) ∧ w'.heap[cb]? = some (.cells #[.map (some B)] 62 (0, 0)) ∧ FwFr T Wd w' := by
  have hal := below_alloc (Below.refl _ Wd) (.cells #[.int .i64 x, .int .i64 y, .bool r, .bool u] 30 (0, 0))
  have q1 := (hal.block _ hlt).trans hc
  have c1 := (fw_cells q1 0).1
  simp at c1
  have o1 : vsOwns (Wd.alloc (.cells #[.int .i64 x, .int .i64 y, .bool r, .bool u] 30 (0, 0))).drew B n D := (hown.alloc _).drew
  obtain ⟨c, st, W2, e1, hat, e2, e3, e4⟩ := vs_count _ B n D o1 hn hx hy hD
  obtain ⟨W3, e5, e6, e7⟩ := e4 (wrap64 (c + 1)) ((vs_wf _).2 (by unfold wrap64; omega))
  have H6 := Aside0.mk e6
  have H7 := Aside0.mk e7
  have HAT := Aside0.mk hat
  have HAL := Aside0.mk hal
  have Q1 := Aside0.mk q1
  have HBB := Aside0.mk hB
  have HC := Aside0.mk (show cb ≠ B ∧ T + 1 < Wd.heap.size ∧ B < T ∧ cb < Wd.heap.size ∧ w.heap.size ≤ B from ⟨hcB, hT, hBT, hlt, hwB⟩)
  clear e4 e6 e7 hat hal q1 hB o1 hown hc hD hcB hT hBT hlt hwB hx hy
  go_enter Try.func74, Try.ntmps74
  go_wp2
  go_region
  all_goals (
    go_wp2
    go_ret
    have hc := HC.out
    have hg := H7.out
    have hz := HAL.out.size
    have e1 : ∀ i, i < Wd.heap.size → i ≠ B → W3.heap[i]? = Wd.heap[i]? := fun i hi hne => (hg.block i (Nat.lt_of_lt_of_le hi hz) (fun e => hne (by injection e))).trans (HAL.out.block i hi)
    refine ⟨rfl, ⟨hg.os.trans (HAL.out.os.trans HBB.out.os), hg.tape.trans (HAL.out.tape.trans HBB.out.tape), hg.output.trans (HAL.out.output.trans HBB.out.output), Nat.le_trans HBB.out.size (Nat.le_trans hz hg.size), fun i hi => ?_⟩, ⟨c, HAT.out, H6.out⟩, ?_, ⟨Nat.le_trans hz hg.size, ?_, ?_⟩⟩
    · have := HBB.out.size
      exact (e1 i (by omega) (by omega)).trans (HBB.out.block i hi)
    · exact (hg.block cb (Nat.lt_of_lt_of_le hc.2.2.2.1 hz) (fun e => hc.1 (by injection e))).trans Q1.out
    · exact e1 T (by omega) (by omega)
    · exact e1 (T + 1) (by omega) (by omega))
/-- What the map reads as behind k places; how often a place was passed; the places that were passed, each once. -/
def vsPt (W H : Int) (b : S30) (k : Nat) : Int × Int := ((fwSt W H b k).1.f0, (fwSt W H b k).1.f1)
def vsCnt (W H : Int) (b : S30) (q : Int × Int) : Nat → Nat
  | 0 => 0
  | k + 1 => vsCnt W H b q k + (if vsPt W H b k = q then 1 else 0)
def vsSet (W H : Int) (b : S30) : Nat → List (Int × Int)
  | 0 => []
  | k + 1 => if vsPt W H b k ∈ vsSet W H b k then vsSet W H b k else vsPt W H b k :: vsSet W H b k
def vsD (W H : Int) (b : S30) : Nat → DataW Unit
  | 0 => .map []
  | k + 1 => (vsD W H b k).put (vsKl (vsPt W H b k).1 (vsPt W H b k).2) (.lit (.int .i64 ((vsCnt W H b (vsPt W H b k) (k + 1) : Nat) : Int)))
theorem vsCnt_le (W H : Int) (b : S30) (q : Int × Int) : ∀ k, vsCnt W H b q k ≤ k
  | 0 => Nat.le_refl _
  | k + 1 => by
    have := vsCnt_le W H b q k
    simp only [vsCnt]
    split <;> omega
theorem vsKl_inj {x y x' y' : Int} (hx : (Lit.int .i64 x).wf = true) (hy : (Lit.int .i64 y).wf = true) (hx' : (Lit.int .i64 x').wf = true) (hy' : (Lit.int .i64 y').wf = true) (h : vsKl x y = vsKl x' y') : x = x' ∧ y = y' := by
  have e := vs_keyed.inj (vs_key hx hy) (h ▸ vs_key hx' hy')
  injection e with e
  have := congrArg Array.toList e
  simp at this
  exact this
structure VsWf (W H : Int) (b : S30) (n : Nat) : Prop where
  x : ∀ k, k ≤ n → (Lit.int .i64 (vsPt W H b k).1).wf = true
  y : ∀ k, k ≤ n → (Lit.int .i64 (vsPt W H b k).2).wf = true
def vsGood (q : Int × Int) : Prop := (Lit.int .i64 q.1).wf = true ∧ (Lit.int .i64 q.2).wf = true
theorem vsKl_ne {p q : Int × Int} (hp : vsGood p) (hq : vsGood q) (h : p ≠ q) : vsKl p.1 p.2 ≠ vsKl q.1 q.2 := fun e => h (by
  have := vsKl_inj hp.1 hp.2 hq.1 hq.2 e
  exact Prod.ext this.1 this.2)
theorem vsKl_lit {p : Int × Int} (hp : vsGood p) : WideAt.IsKeyLit (vsKl p.1 p.2) := vs_keyed.key (vs_key hp.1 hp.2)
/-- All that is known of the map. -/
structure VsIs (W H : Int) (b : S30) (k : Nat) (D : DataW Unit) : Prop where
  tidy : Maps.Tidy D
  at_ : ∀ q, vsGood q → D.atKey (vsKl q.1 q.2) (.lit (.int .i64 0)) = .lit (.int .i64 ((vsCnt W H b q k : Nat) : Int))
  has : ∀ q, vsGood q → Maps.has D (vsKl q.1 q.2) = decide (q ∈ vsSet W H b k)
  size : Maps.size D = (vsSet W H b k).length
theorem vsIs (W H : Int) (b : S30) (n : Nat) (hg : ∀ k, k < n → vsGood (vsPt W H b k)) : ∀ k, k ≤ n → VsIs W H b k (vsD W H b k) := by
  intro k
  induction k with
  | zero => intro _; exact ⟨Maps.tidy_empty, fun q _ => rfl, fun q _ => by simp [vsD, vsSet, Maps.has], rfl⟩
  | succ k ih =>
    intro hk
    have h := ih (by omega)
    have hp := hg k (by omega)
    refine ⟨h.tidy.put (vsKl_lit hp) _, fun q hq => ?_, fun q hq => ?_, ?_⟩
    · by_cases c : vsPt W H b k = q
      · subst c
        simp only [vsD]
        rw [Maps.atKey_put_same h.tidy.isMap (vsKl_lit hp)]
      · simp only [vsD]
        rw [Maps.atKey_put_other (vsKl_ne hq hp (fun e => c e.symm)), h.at_ q hq]
        simp [vsCnt, c]
    · by_cases c : vsPt W H b k = q
      · subst c
        simp only [vsD]
        rw [Maps.has_put_same h.tidy.isMap (vsKl_lit hp)]
        simp only [vsSet]
        split <;> simp [*]
      · simp only [vsD]
        rw [Maps.has_put_other (vsKl_ne hq hp (fun e => c e.symm)), h.has q hq]
        simp only [vsSet]
        split
        · rfl
        · simp [show q ≠ vsPt W H b k from fun e => c e.symm]
    · simp only [vsD]
      rw [Maps.size_put h.tidy, h.has _ hp, h.size]
      simp only [vsSet]
      by_cases c : vsPt W H b k ∈ vsSet W H b k <;> simp [c]
structure VsI (W H : Int) (b : S30) (T cb B : Nat) (w : World) (k : Nat) (wr : World) : Prop where
  below : Below w.heap.size w wr
  lt : T ≤ wr.heap.size
  cell : wr.heap[cb]? = some (.cells #[.map (some B)] 62 (0, 0))
  own : k ≤ 1000000 → vsOwns wr B k (vsD W H b k)
theorem vs_way (W H x y : Int) (r u : Bool) (steps : Int) (h0 : 0 ≤ steps) (h1 : steps ≤ 100000) (hg : ∀ k, vsGood (vsPt W H ⟨x, y, r, u⟩ k)) (cb B : Nat) (w wb : World) (hB : Below w.heap.size w wb) (hwc : w.heap.size ≤ cb) (hwB : w.heap.size ≤ B) (hcB : cb ≠ B) (hlt : cb < wb.heap.size) (hltB : B < wb.heap.size) (hc : wb.heap[cb]? = some (.cells #[.map (some B)] 62 (0, 0))) (hown : vsOwns wb B 0 (.map [])) :
    Calls Try.prog 46 #[.agg #[.int .i64 W, .int .i64 H], .agg #[.int .i64 x, .int .i64 y, .bool r, .bool u], .int .i64 steps, .func (.func 74) #[] #[.pointer (some ⟨cb, 0, none⟩)]] wb fun e w' =>
      e = .returned (.tuple #[]) ∧ VsI W H ⟨x, y, r, u⟩ wb.heap.size cb B w (fwN W H ⟨x, y, r, u⟩ steps (fun _ => false) + 1) w' := by
  obtain ⟨n1, n2, n3⟩ := fwN_is W H ⟨x, y, r, u⟩ steps (fun _ => false) h0
  refine impl_follow.calls W H x y r u steps 74 #[.pointer (some ⟨cb, 0, none⟩)] (fw_enters Try.func74 (by kernel_rfl) rfl) (VsI W H ⟨x, y, r, u⟩ wb.heap.size cb B w) (fun _ => false) (fwN W H ⟨x, y, r, u⟩ steps (fun _ => false)) wb (by omega) n3 n2 ⟨hB, Nat.le_refl _, hc, fun _ => hown⟩ ?_ ?_
  · intro k W1 W2 hI hm
    have hl := hI.lt
    refine ⟨⟨hm.os.trans hI.below.os, hm.tape.trans hI.below.tape, hm.output.trans hI.below.output, Nat.le_trans hI.below.size hm.size, fun i hi => ?_⟩, Nat.le_trans hl hm.size, (hm.block cb (by omega) (by omega)).trans hI.cell, fun hk => vs_block (hI.own hk) (hm.block B (by omega) (by omega))⟩
    have := hI.below.size
    exact (hm.block i (by omega) (by omega)).trans (hI.below.block i hi)
  · intro k Wd hk hz hI
    have his := vsIs W H ⟨x, y, r, u⟩ k (fun j _ => hg j) k (Nat.le_refl _)
    refine (vs_one cb wb.heap.size B (k : Int) _ _ _ _ _ w Wd k (vsD W H ⟨x, y, r, u⟩ k) (by omega) (hg k).1 (hg k).2 hI.below hwB hcB hz (by omega) (by omega) hI.cell (hI.own (by omega)) his.tidy.isMap).mono ?_
    rintro e w2 ⟨rfl, hb2, ⟨c, hc1, hc2⟩, hcell, hf⟩
    refine ⟨rfl, ⟨hb2, Nat.le_trans hI.lt hf.size, hcell, fun _ => ?_⟩, hf⟩
    have ha := his.at_ _ (hg k)
    have hcc : c = ((vsCnt W H ⟨x, y, r, u⟩ (vsPt W H ⟨x, y, r, u⟩ k) k : Nat) : Int) := by
      have e2 := hc1.symm.trans ha
      injection e2 with e2
      injection e2
    have hle := vsCnt_le W H ⟨x, y, r, u⟩ (vsPt W H ⟨x, y, r, u⟩ k) k
    have ew : wrap64 (c + 1) = ((vsCnt W H ⟨x, y, r, u⟩ (vsPt W H ⟨x, y, r, u⟩ k) (k + 1) : Nat) : Int) := by
      have : vsCnt W H ⟨x, y, r, u⟩ (vsPt W H ⟨x, y, r, u⟩ k) (k + 1) = vsCnt W H ⟨x, y, r, u⟩ (vsPt W H ⟨x, y, r, u⟩ k) k + 1 := by simp [vsCnt]
      unfold wrap64
      omega
    rw [ew] at hc2
    exact hc2
theorem vs_bounds {W H : Int} (h : (1 ≤ W ∧ W ≤ 60) ∧ 1 ≤ H ∧ H ≤ 60) : 0 ≤ 2 * W * H ∧ 2 * W * H ≤ 7200 ∧ wrap64 (wrap64 (2 * W) * H) = 2 * W * H := by
  have e1 : wrap64 (2 * W) = 2 * W := by unfold wrap64; omega
  have h1 : (2 * W * H).natAbs ≤ 120 * 60 := by rw [Int.natAbs_mul]; exact Nat.mul_le_mul (by omega) (by omega)
  have h2 : 0 ≤ 2 * W * H := Int.mul_nonneg (by omega) (by omega)
  refine ⟨h2, by omega, ?_⟩
  rw [e1]
  unfold wrap64
  omega
def vsN (W H : Int) (b : S30) : Nat := fwN W H b (2 * W * H) (fun _ => false)
set_option maxHeartbeats 8000000 in
set_option maxRecDepth 100000 in
theorem impl_visits.gives (a0_0 : Int) (a0_1 : Int) (a1_0 : Int) (a1_1 : Int) (a1_2 : Bool) (a1_3 : Bool) (w : World) (hh : (1 ≤ a0_0 ∧ a0_0 ≤ 60) ∧ 1 ≤ a0_1 ∧ a0_1 ≤ 60) (hg : ∀ k, vsGood (vsPt a0_0 a0_1 ⟨a1_0, a1_1, a1_2, a1_3⟩ k)) :
    Calls Try.prog 42 #[.agg #[.int .i64 a0_0, .int .i64 a0_1], .agg #[.int .i64 a1_0, .int .i64 a1_1, .bool a1_2, .bool a1_3]] w fun e w' =>
      e = .returned (.map (some (w.heap.size + 2))) ∧ vsOwns w' (w.heap.size + 2) (vsN a0_0 a0_1 ⟨a1_0, a1_1, a1_2, a1_3⟩ + 1) (vsD a0_0 a0_1 ⟨a1_0, a1_1, a1_2, a1_3⟩ (vsN a0_0 a0_1 ⟨a1_0, a1_1, a1_2, a1_3⟩ + 1)) ∧ Below w.heap.size w w' := by
  have hb := vs_bounds hh
  have HH := Aside0.mk hh
  have HG := Aside0.mk hg
  have HA : Aside0 (impl_around.f a0_0 a0_1 = some (2 * a0_0 * a0_1)) := ⟨by unfold impl_around.f; rw [hb.2.2]⟩
  clear hh hb hg
  have hmm := @run_makeMap Try.prog
  go_enter Try.func42, Try.ntmps42
  go_wp2_with fail
  obtain ⟨p1, p2, p3, p3s⟩ := fw_three w (.cells #[.int .i64 a0_0, .int .i64 a0_1] 28 (0, 0)) (.cells #[.int .i64 a1_0, .int .i64 a1_1, .bool a1_2, .bool a1_3] 30 (0, 0)) (.map #[] 0)
  have m0 := World.ownsMap_made (H := Unit) ((w.alloc (.cells #[.int .i64 a0_0, .int .i64 a0_1] 28 (0, 0))).alloc (.cells #[.int .i64 a1_0, .int .i64 a1_1, .bool a1_2, .bool a1_3] 30 (0, 0))) Try.prog 68 (plainElem Try.prog 3)
  rw [(fw_two w (.cells #[.int .i64 a0_0, .int .i64 a0_1] 28 (0, 0)) (.cells #[.int .i64 a1_0, .int .i64 a1_1, .bool a1_2, .bool a1_3] 30 (0, 0))).2.2] at m0
  have ha := below_alloc (Below.refl _ (((w.alloc (.cells #[.int .i64 a0_0, .int .i64 a0_1] 28 (0, 0))).alloc (.cells #[.int .i64 a1_0, .int .i64 a1_1, .bool a1_2, .bool a1_3] 30 (0, 0))).alloc (.map #[] 0))) (.cells #[.map (some (w.heap.size + 1 + 1))] 62 (0, 0))
  have k4 := (MapKept.heap_alloc (((w.alloc (.cells #[.int .i64 a0_0, .int .i64 a0_1] 28 (0, 0))).alloc (.cells #[.int .i64 a1_0, .int .i64 a1_1, .bool a1_2, .bool a1_3] 30 (0, 0))).alloc (.map #[] 0)) (.cells #[.map (some (w.heap.size + 1 + 1))] 62 (0, 0))).1
  rw [p3s] at ha k4
  have HB := Aside0.mk (below_alloc (below_alloc (below_alloc (below_alloc (Below.refl _ w) (.cells #[.int .i64 a0_0, .int .i64 a0_1] 28 (0, 0))) (.cells #[.int .i64 a1_0, .int .i64 a1_1, .bool a1_2, .bool a1_3] 30 (0, 0))) (.map #[] 0)) (.cells #[.map (some (w.heap.size + 1 + 1))] 62 (0, 0)))
  have hz4 : ((((w.alloc (.cells #[.int .i64 a0_0, .int .i64 a0_1] 28 (0, 0))).alloc (.cells #[.int .i64 a1_0, .int .i64 a1_1, .bool a1_2, .bool a1_3] 30 (0, 0))).alloc (.map #[] 0)).alloc (.cells #[.map (some (w.heap.size + 1 + 1))] 62 (0, 0))).heap.size = w.heap.size + 4 := by simp
  have hu28 := Try.underlying28
  have hu30 := Try.underlying30
  have m1 : vsOwns ((((w.alloc (.cells #[.int .i64 a0_0, .int .i64 a0_1] 28 (0, 0))).alloc (.cells #[.int .i64 a1_0, .int .i64 a1_1, .bool a1_2, .bool a1_3] 30 (0, 0))).alloc (.map #[] 0)).alloc (.cells #[.map (some (w.heap.size + 1 + 1))] 62 (0, 0))) (w.heap.size + 2) 0 (.map []) := m0.alloc _
  have g1 := (ha.block w.heap.size (by omega)).trans p1
  have g2 := (ha.block (w.heap.size + 1) (by omega)).trans p2
  obtain ⟨w5, hw5⟩ : ∃ w5, w5 = ((((w.alloc (.cells #[.int .i64 a0_0, .int .i64 a0_1] 28 (0, 0))).alloc (.cells #[.int .i64 a1_0, .int .i64 a1_1, .bool a1_2, .bool a1_3] 30 (0, 0))).alloc (.map #[] 0)).alloc (.cells #[.map (some (w.heap.size + 1 + 1))] 62 (0, 0))) := ⟨_, rfl⟩
  rw [← hw5] at m1 HB k4 hz4 g1 g2 ⊢
  clear hw5 m0 ha p1 p2 p3 p3s
  have HD : Aside0 (w5.drew.heap[w.heap.size]? = some (.cells #[.int .i64 a0_0, .int .i64 a0_1] 28 (0, 0)) ∧ w5.drew.heap[w.heap.size + 1]? = some (.cells #[.int .i64 a1_0, .int .i64 a1_1, .bool a1_2, .bool a1_3] 30 (0, 0)) ∧ w5.drew.heap[w.heap.size + 3]? = some (.cells #[.map (some (w.heap.size + 2))] 62 (0, 0)) ∧ w5.drew.heap.size = w.heap.size + 4 ∧ vsOwns w5.drew (w.heap.size + 2) 0 (.map [])) := ⟨g1, g2, k4, hz4, m1.drew⟩
  have HBD := Aside0.mk (below_step HB.out (below_drew (Below.refl _ w5)))
  clear HB g1 g2 k4 hz4 m1
  have C1 := (fw_cells HD.out.1)
  have C2 := (fw_cells HD.out.2.1)
  refine start_ (n := 6) (S := fun w' => w'.cell? ⟨w.heap.size, 0, none⟩ = some (.int .i64 a0_0) ∧ w'.cell? ⟨w.heap.size, 1, none⟩ = some (.int .i64 a0_1) ∧ w'.cell? ⟨w.heap.size + 1, 0, none⟩ = some (.int .i64 a1_0) ∧ w'.cell? ⟨w.heap.size + 1, 1, none⟩ = some (.int .i64 a1_1) ∧ w'.cell? ⟨w.heap.size + 1, 2, none⟩ = some (.bool a1_2) ∧ w'.cell? ⟨w.heap.size + 1, 3, none⟩ = some (.bool a1_3)) (ds := [5]) #[false, false, false, false, false, false] (by kernel_rfl) rfl rfl ⟨(C1 0).1, (C1 1).1, (C2 0).1, (C2 1).1, (C2 2).1, (C2 3).1⟩ (fun hHeld => ?_)
  clear C1 C2
  generalize w5.drew = w10 at HD HBD hHeld ⊢
  refine pure_ (i := 4) (N := some 11) (v := ?_) (a' := ?_) #[false, false, false, false, true, false] rfl rfl (by kernel_rfl) (fun _ _ _ h => h) (Or.inl ⟨by rfl, ?_⟩) ?_ ?_
  rotate_left
  · intro w'
    go_simp
    with_reducible rfl
  rotate_left
  · simp only [Act.put, List.setIfInBounds_toArray, List.set_cons_zero, List.set_cons_succ, i64_w, i32_w]
    rfl
  refine take_ (i := 0) (N := some 7) (v := ?_) (a' := ?_) #[true, false, false, false, true, false] rfl rfl (by kernel_rfl) (fun _ _ _ h => h) (Or.inl ⟨by rfl, ?_⟩) hHeld ?_ ?_
  rotate_left
  · rintro w' ⟨s0, s1, s2, s3, s4, s5⟩
    go_simp
    with_reducible rfl
  rotate_left
  · simp only [Act.put, List.setIfInBounds_toArray, List.set_cons_zero, List.set_cons_succ, i64_w, i32_w]
    rfl
  refine take_ (i := 1) (N := some 8) (v := ?_) (a' := ?_) #[true, true, false, false, true, false] rfl rfl (by kernel_rfl) (fun _ _ _ h => h) (Or.inl ⟨by rfl, ?_⟩) hHeld ?_ ?_
  rotate_left
  · rintro w' ⟨s0, s1, s2, s3, s4, s5⟩
    go_simp
    with_reducible rfl
  rotate_left
  · simp only [Act.put, List.setIfInBounds_toArray, List.set_cons_zero, List.set_cons_succ, i64_w, i32_w]
    rfl
  refine take_ (i := 2) (N := some 9) (v := ?_) (a' := ?_) #[true, true, true, false, true, false] rfl rfl (by kernel_rfl) (fun _ _ _ h => h) (Or.inl ⟨by rfl, ?_⟩) hHeld ?_ ?_
  rotate_left
  · rintro w' ⟨s0, s1, s2, s3, s4, s5⟩
    go_simp
    with_reducible rfl
  rotate_left
  · simp only [Act.put, List.setIfInBounds_toArray, List.set_cons_zero, List.set_cons_succ, i64_w, i32_w]
    rfl
  refine one_ (i := 3) (N := some 10) #[true, true, true, true, true, false] rfl rfl (by kernel_rfl) (by decide) (fun K hK => ?_)
  refine goes_ Try.func50 (by kernel_rfl) rfl #[.agg #[.int .i64 a0_0, .int .i64 a0_1]] (by rfl) rfl rfl (by (try simp only [List.map_toArray, List.map_cons, List.map_nil]); first | done | rfl | (simp only [List.length_drop, List.length_take]; rfl)) ?_
  with_reducible refine (impl_around.calls a0_0 a0_1 (2 * a0_0 * a0_1) _ HA.out).mono ?_
  rintro e w11 ⟨rfl, hb⟩
  refine ⟨_, rfl, ?_⟩
  have hz : w.heap.size + 3 < w10.heap.size := by rw [HD.out.2.2.2.1]; omega
  have q1 := (hb.block w.heap.size (by omega)).trans HD.out.1
  have q2 := (hb.block (w.heap.size + 1) (by omega)).trans HD.out.2.1
  have q4 := (hb.block (w.heap.size + 3) (by omega)).trans HD.out.2.2.1
  have q5 : vsOwns w11 (w.heap.size + 2) 0 (.map []) := vs_block HD.out.2.2.2.2 (hb.block (w.heap.size + 2) (by omega))
  have hz2 : w.heap.size + 3 < w11.heap.size := Nat.lt_of_lt_of_le hz hb.size
  have hbb := vs_bounds HH.out
  have HB11 := Aside0.mk (below_step HBD.out hb)
  have HWAY := Aside0.mk (vs_way a0_0 a0_1 a1_0 a1_1 a1_2 a1_3 (2 * a0_0 * a0_1) hbb.1 (by omega) HG.out (w.heap.size + 3) (w.heap.size + 2) w w11 HB11.out (by omega) (by omega) (by omega) hz2 (by omega) q4 q5)
  refine hK.out _ _ ⟨(fw_cells q1 0).1, (fw_cells q1 1).1, (fw_cells q2 0).1, (fw_cells q2 1).1, (fw_cells q2 2).1, (fw_cells q2 3).1⟩ (fun hHeld => ?_)
  clear hK K q1 q2 q4 q5 HD HBD hb hbb
  refine norm_ (a' := ?_) ?_ ?_
  rotate_left
  · show Act.put _ (some 10) _ = _
    simp only [Act.put, List.setIfInBounds_toArray, List.set_cons_zero, List.set_cons_succ, i64_w, i32_w]
    rfl
  refine last_ (i := 5) (N := some 12) #[true, true, true, true, true, true] rfl rfl (by kernel_rfl) (by decide) (fun K hK => ?_)
  refine goes_ Try.func46 (by kernel_rfl) rfl #[.agg #[.int .i64 a0_0, .int .i64 a0_1], .agg #[.int .i64 a1_0, .int .i64 a1_1, .bool a1_2, .bool a1_3], .int .i64 (2 * a0_0 * a0_1), .func (.func 74) #[] #[.pointer (some ⟨w.heap.size + 3, 0, none⟩)]] (by rfl) rfl rfl (by (try simp only [List.map_toArray, List.map_cons, List.map_nil]); first | done | rfl | (simp only [List.length_drop, List.length_take]; rfl)) ?_
  refine HWAY.out.mono ?_
  rintro e w12 ⟨rfl, hI⟩
  refine ⟨_, rfl, ?_⟩
  have c1 : w12.cell? ⟨w.heap.size + 1 + 1 + 1, 0, none⟩ = some (.map (some (w.heap.size + 2))) := (fw_cells hI.cell 0).1
  have hle : vsN a0_0 a0_1 ⟨a1_0, a1_1, a1_2, a1_3⟩ + 1 ≤ 1000000 := by
    have hbb := vs_bounds HH.out
    have := (fwN_is a0_0 a0_1 ⟨a1_0, a1_1, a1_2, a1_3⟩ (2 * a0_0 * a0_1) (fun _ => false) hbb.1).1
    unfold vsN
    omega
  have HE := Aside0.mk (And.intro (hI.own hle) hI.below)
  refine hK.out _ _ ?_
  clear hK K hI HWAY HB11 hHeld hle
  refine done_ (by kernel_rfl) ?_
  go_wp2_with fail
  go_ret
  exact ⟨rfl, HE.out.1, HE.out.2⟩

end Go.Proofs.Ythfbjofmcniogaa.PFnExactCountPlaces
