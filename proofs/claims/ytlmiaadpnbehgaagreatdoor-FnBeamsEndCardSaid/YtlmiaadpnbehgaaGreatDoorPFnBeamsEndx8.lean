-- Written by xprint.py, a program of this session, for this seat; Lean checks it.
import Derived.Test.YtlmiaadpnbehgaaGreatDoorVM
import Derived.Test.YtlmiaadpnbehgaaGreatDoorPFnBeamsEndx0
import Derived.Test.YtlmiaadpnbehgaaGreatDoorPFnBeamsEndx6
import Derived.Test.YtlmiaadpnbehgaaGreatDoorPFnBeamsEndx7
namespace Go.Proofs.YtlmiaadpnbehgaaGreatDoor.PFnBeamsEnd
open Go.Proofs.YtlmiaadpnbehgaaGreatDoorV Go.RowKit Go.Proofs.YtlmiaadpnbehgaaGreatDoorW.PrintWords Go.Proofs.YtlmiaadpnbehgaaGreatDoorW.PrintLast Go.Proofs.YtlmiaadpnbehgaaGreatDoorW.PrintMore
attribute [local go_sem] max2_int min2_int max_two min_two max_three min_three max_four min_four   -- for this text's walks alone
set_option linter.unusedVariables false
set_option linter.unusedSimpArgs false

/-! ### impl_follow: function 41 -/
/-! The beams, step by step, as functions that always answer. -/
def fwInw (W H : Int) (s : S27) : S27 := match impl_inward.f W H s.f0 s.f1 s.f2 s.f3 with | some r => ⟨r.1, r.2.1, r.2.2.1, r.2.2.2⟩ | none => s
theorem fwInw_eq (W H x y : Int) (r u : Bool) : impl_inward.f W H x y r u = some ((fwInw W H ⟨x, y, r, u⟩).f0, (fwInw W H ⟨x, y, r, u⟩).f1, (fwInw W H ⟨x, y, r, u⟩).f2, (fwInw W H ⟨x, y, r, u⟩).f3) := by
  have t : ∃ z, impl_inward.f W H x y r u = some z := by unfold impl_inward.f; (repeat' split) <;> exact ⟨_, rfl⟩
  obtain ⟨z, hz⟩ := t
  simp only [fwInw, hz]
def fwCor (W H : Int) (s : S27) : Bool := (impl_isCorner.f W H s.f0 s.f1 s.f2 s.f3).getD false
theorem fwCor_eq (W H x y : Int) (r u : Bool) : impl_isCorner.f W H x y r u = some (fwCor W H ⟨x, y, r, u⟩) := by
  have t : ∃ z, impl_isCorner.f W H x y r u = some z := by unfold impl_isCorner.f; (repeat' split) <;> exact ⟨_, rfl⟩
  obtain ⟨z, hz⟩ := t
  simp only [fwCor, hz, Option.getD_some]
def fwNext (W H : Int) (s : S27) : S27 × ByteArray := match impl_next.f W H s.f0 s.f1 s.f2 s.f3 with | some r => (⟨r.1, r.2.1, r.2.2.1, r.2.2.2.1⟩, r.2.2.2.2) | none => (s, ⟨#[]⟩)
theorem fwNext_eq (W H x y : Int) (r u : Bool) : impl_next.f W H x y r u = some ((fwNext W H ⟨x, y, r, u⟩).1.f0, (fwNext W H ⟨x, y, r, u⟩).1.f1, (fwNext W H ⟨x, y, r, u⟩).1.f2, (fwNext W H ⟨x, y, r, u⟩).1.f3, (fwNext W H ⟨x, y, r, u⟩).2) := by
  have t : ∃ z, impl_next.f W H x y r u = some z := by
    have s1 : ∀ q, ∃ z, impl_sign.f q = some z := fun q => by unfold impl_sign.f; split <;> exact ⟨_, rfl⟩
    obtain ⟨a, ha⟩ := s1 r
    obtain ⟨c, hc⟩ := s1 u
    unfold impl_next.f
    rw [ha, hc]
    simp only [Option.bind_some, fwCor_eq, fwInw_eq]
    (repeat' split) <;> exact ⟨_, rfl⟩
  obtain ⟨z, hz⟩ := t
  simp only [fwNext, hz]
/-- The beam behind k steps, and the side of its last bounce. -/
def fwSt (W H : Int) (b : S27) : Nat → S27 × ByteArray
  | 0 => (fwInw W H b, ⟨#[]⟩)
  | k + 1 => fwNext W H (fwSt W H b k).1
/-- Does it go on behind step k? -/
def fwGo (W H : Int) (b : S27) (steps : Int) (stop : Nat → Bool) (k : Nat) : Prop := stop k = false ∧ (k : Int) < steps ∧ (k = 0 ∨ fwCor W H (fwSt W H b k).1 = false)
/-- All is as it was, but for one block; more may have been laid. -/
structure FwMv (g : Nat) (W1 W2 : World) : Prop where
  os : W2.os = W1.os
  tape : W2.tape = W1.tape
  output : W2.output = W1.output
  size : W1.heap.size ≤ W2.heap.size
  block : ∀ i, i < W1.heap.size → i ≠ g → W2.heap[i]? = W1.heap[i]?
theorem FwMv.refl (g : Nat) (w : World) : FwMv g w w := ⟨rfl, rfl, rfl, Nat.le_refl _, fun _ _ _ => rfl⟩
theorem FwMv.trans {g : Nat} {a b c : World} (h : FwMv g a b) (k : FwMv g b c) : FwMv g a c :=
  ⟨k.os.trans h.os, k.tape.trans h.tape, k.output.trans h.output, Nat.le_trans h.size k.size, fun i hi hn => (k.block i (Nat.lt_of_lt_of_le hi h.size) hn).trans (h.block i hi hn)⟩
theorem FwMv.of_below {g : Nat} {a b : World} (h : Below a.heap.size a b) : FwMv g a b := ⟨h.os, h.tape, h.output, h.size, fun i hi _ => h.block i hi⟩
/-- The closure leaves both of follow's own variables as they are. -/
structure FwFr (T : Nat) (W1 W2 : World) : Prop where
  size : W1.heap.size ≤ W2.heap.size
  t : W2.heap[T]? = W1.heap[T]?
  b : W2.heap[T + 1]? = W1.heap[T + 1]?
abbrev fwVal (s : S27) : Value := .agg #[.int .i64 s.f0, .int .i64 s.f1, .bool s.f2, .bool s.f3]
structure FwRel (W H : Int) (b : S27) (I : Nat → World → Prop) (T k : Nat) (wr : World) : Prop where
  inv : I k wr
  lt : T + 1 < wr.heap.size
  ht : wr.heap[T]? = some (.cells #[.int .i64 W, .int .i64 H] 25 (0, 0))
  hb : wr.heap[T + 1]? = some (.cells #[.int .i64 (fwSt W H b k).1.f0, .int .i64 (fwSt W H b k).1.f1, .bool (fwSt W H b k).1.f2, .bool (fwSt W H b k).1.f3] 27 (0, 0))
theorem fw_cells {w : World} {g : Nat} {t : TypeId} {cs : Array Value} (h : w.heap[g]? = some (.cells cs t (0, 0))) (i : Nat) : w.cell? ⟨g, i, none⟩ = cs[i]? ∧ w.frozen? ⟨g, i, none⟩ = false := by
  constructor
  · simp [World.cell?, h]
  · simp [World.frozen?, h]
theorem fw_set {w : World} {g i : Nat} (v : Value) : FwMv g w (w.setCell ⟨g, i, none⟩ v) := ⟨rfl, rfl, rfl, by simp, fun k _ hk => Below.heap_setCell w _ v k hk⟩
/-- The four cells of a beam stored. -/
theorem fw_store {w : World} {g : Nat} {a b c d a' b' c' d' : Value} {t : TypeId} (h : w.heap[g]? = some (.cells #[a, b, c, d] t (0, 0))) :
    (((((w.setCell ⟨g, 0, none⟩ a').setCell ⟨g, 1, none⟩ b').setCell ⟨g, 2, none⟩ c').setCell ⟨g, 3, none⟩ d').heap[g]? = some (.cells #[a', b', c', d'] t (0, 0))) ∧
      FwMv g w ((((w.setCell ⟨g, 0, none⟩ a').setCell ⟨g, 1, none⟩ b').setCell ⟨g, 2, none⟩ c').setCell ⟨g, 3, none⟩ d') := by
  refine ⟨?_, (((fw_set a').trans (fw_set b')).trans (fw_set c')).trans (fw_set d')⟩
  exact heap_setCell_same _ g 3 _ t d' (heap_setCell_same _ g 2 _ t c' (heap_setCell_same _ g 1 _ t b' (heap_setCell_same _ g 0 _ t a' h)))
theorem fwRel_mv {W H : Int} {b : S27} {I : Nat → World → Prop} {T k : Nat} {w1 w2 : World} (hst : ∀ k W1 W2, I k W1 → FwMv (T + 1) W1 W2 → I k W2) (R : FwRel W H b I T k w1) (hb : Below w1.heap.size w1 w2) : FwRel W H b I T k w2 :=
  ⟨hst k w1 w2 R.inv (.of_below hb), Nat.lt_of_lt_of_le R.lt hb.size, (hb.block T (by have := R.lt; omega)).trans R.ht, (hb.block (T + 1) R.lt).trans R.hb⟩
theorem fw_two (w : World) (o1 o2 : Obj) : ((w.alloc o1).alloc o2).heap[w.heap.size]? = some o1 ∧ ((w.alloc o1).alloc o2).heap[w.heap.size + 1]? = some o2 ∧ ((w.alloc o1).alloc o2).heap.size = w.heap.size + 2 := by
  have e : ∀ (v : World) (o : Obj), (v.alloc o).heap = v.heap.push o := fun _ _ => rfl
  rw [e, e]
  exact ⟨by rw [Array.getElem?_push, if_neg (by simp), Array.getElem?_push, if_pos rfl], by rw [Array.getElem?_push, if_pos (by simp)], by simp⟩
set_option maxHeartbeats 8000000 in
set_option maxRecDepth 100000 in
theorem impl_follow.calls (W H x y : Int) (r u : Bool) (steps : Int) (g : Nat) (lb : Array Value) (eg : ∀ args w, (callFunc g args).run Tryz.prog w = .ok (.enter g args) w)
    (I : Nat → World → Prop) (stop : Nat → Bool) (N : Nat) (w : World) (hNb : N ≤ 1000000)
    (hgo : ∀ k, k < N → fwGo W H ⟨x, y, r, u⟩ steps stop k) (hend : ¬ fwGo W H ⟨x, y, r, u⟩ steps stop N)
    (hI0 : I 0 w) (hst : ∀ k W1 W2, I k W1 → FwMv (w.heap.size + 1) W1 W2 → I k W2)
    (hcall : ∀ k Wd, k ≤ N → w.heap.size + 1 < Wd.heap.size → I k Wd → Calls Tryz.prog g (#[.int .i64 (k : Int), fwVal (fwSt W H ⟨x, y, r, u⟩ k).1, .string (fwSt W H ⟨x, y, r, u⟩ k).2] ++ lb) Wd fun e w' => e = .returned (.bool (stop k)) ∧ I (k + 1) w' ∧ FwFr w.heap.size Wd w') :
    Calls Tryz.prog 41 #[.agg #[.int .i64 W, .int .i64 H], .agg #[.int .i64 x, .int .i64 y, .bool r, .bool u], .int .i64 steps, .func (.func g) #[] lb] w fun e w' => e = .returned (.tuple #[]) ∧ I (N + 1) w' := by
  have HST := Aside0.mk hst
  have HC := Aside0.mk hcall
  have HG := Aside0.mk hgo
  have HE := Aside0.mk hend
  have HI0 := Aside0.mk hI0
  have HIN := Aside0.mk (fwInw_eq W H x y r u)
  obtain ⟨s0, hs0⟩ : ∃ s, fwInw W H ⟨x, y, r, u⟩ = s := ⟨_, rfl⟩
  rw [hs0] at HIN
  have HS0 := Aside0.mk hs0
  clear hst hcall hgo hend hI0 hs0
  obtain ⟨x0, y0, r0, u0⟩ := s0
  go_enter Tryz.func41, Tryz.ntmps41
  go_wp2_with fail
  refine (impl_inward.calls _ _ _ _ _ _ _ _ _ _ _ HIN.out).mono ?_
  rintro e w1 ⟨rfl, hb1⟩
  have z1 : w.heap.size + 1 < w1.heap.size := by have := hb1.size; rw [(fw_two w _ _).2.2] at this; omega
  have q1 : w1.heap[w.heap.size + 1]? = some (.cells #[.int .i64 x, .int .i64 y, .bool r, .bool u] 27 (0, 0)) := (hb1.block _ (by rw [(fw_two w _ _).2.2]; omega)).trans (fw_two w _ _).2.1
  have q0 : w1.heap[w.heap.size]? = some (.cells #[.int .i64 W, .int .i64 H] 25 (0, 0)) := (hb1.block _ (by rw [(fw_two w _ _).2.2]; omega)).trans (fw_two w _ _).1
  have m1 : FwMv (w.heap.size + 1) w w1 := (FwMv.of_below (((Below.refl _ w).alloc (Nat.le_refl _) _).alloc (by simp) _)).trans (FwMv.of_below hb1)
  have c10 := (fw_cells q1 0).1
  have c11 := (fw_cells q1 1).1
  have c12 := (fw_cells q1 2).1
  have c13 := (fw_cells q1 3).1
  have f10 := (fw_cells q1 0).2
  have f11 := (fw_cells q1 1).2
  have f12 := (fw_cells q1 2).2
  have f13 := (fw_cells q1 3).2
  simp at c10 c11 c12 c13
  have hs := fw_store (a' := .int .i64 x0) (b' := .int .i64 y0) (c' := .bool r0) (d' := .bool u0) q1
  have HR0 : Aside0 (FwRel W H ⟨x, y, r, u⟩ I w.heap.size 0 ((((w1.setCell ⟨w.heap.size + 1, 0, none⟩ (.int .i64 x0)).setCell ⟨w.heap.size + 1, 1, none⟩ (.int .i64 y0)).setCell ⟨w.heap.size + 1, 2, none⟩ (.bool r0)).setCell ⟨w.heap.size + 1, 3, none⟩ (.bool u0))) := by
    refine ⟨⟨HST.out 0 w _ HI0.out (m1.trans hs.2), by simpa using z1, (hs.2.block _ (by omega) (by omega)).trans q0, ?_⟩⟩
    have e : (fwSt W H ⟨x, y, r, u⟩ 0).1 = ⟨x0, y0, r0, u0⟩ := HS0.out
    rw [e]
    exact hs.1
  clear q1 q0 hb1 hs m1
  go_wp2_with fail
  go_loopg [8, 9] N (fun gg s8 s9 wr => ∃ k : Nat, k ≤ N ∧ N - k ≤ gg ∧ s8 = .string (fwSt W H ⟨x, y, r, u⟩ k).2 ∧ s9 = .int .i64 (k : Int) ∧ Aside0 (FwRel W H ⟨x, y, r, u⟩ I w.heap.size k wr))
  case atStart => exact ⟨0, Nat.zero_le _, by omega, rfl, rfl, HR0⟩
  case round =>
    obtain ⟨k, hk, hgk, rfl, rfl, R⟩ := hrel
    clear c10 c11 c12 c13 f10 f11 f12 f13 z1 HR0
    have hc := HC.out k wr hk R.out.lt R.out.inv
    obtain ⟨sd, hsd⟩ : ∃ sd, (fwSt W H ⟨x, y, r, u⟩ k).2 = sd := ⟨_, rfl⟩
    obtain ⟨s, hs⟩ : ∃ s, (fwSt W H ⟨x, y, r, u⟩ k).1 = s := ⟨_, rfl⟩
    have hgk' : k < N → fwGo W H ⟨x, y, r, u⟩ steps stop k := HG.out k
    have hnk' : k = N → ¬ fwGo W H ⟨x, y, r, u⟩ steps stop k := fun e => e ▸ HE.out
    unfold fwGo at hgk' hnk'
    rw [hs] at hgk' hnk'
    have hb := R.out.hb
    have ht := R.out.ht
    rw [hsd, hs] at hc
    rw [hs] at hb
    rw [hsd]
    have HSS := Aside0.mk hs
    have HSD := Aside0.mk hsd
    clear hs hsd
    obtain ⟨sx, sy, sr, su⟩ := s
    have b0 := (fw_cells hb 0).1
    have b1 := (fw_cells hb 1).1
    have b2 := (fw_cells hb 2).1
    have b3 := (fw_cells hb 3).1
    simp at b0 b1 b2 b3
    have HBB := Aside0.mk hb
    have HTT := Aside0.mk ht
    have HCC := Aside0.mk hc
    have lt := R.out.lt
    clear hb ht hc
    obtain ⟨ns, hns⟩ : ∃ ns, fwNext W H ⟨sx, sy, sr, su⟩ = ns := ⟨_, rfl⟩
    have hnx := fwNext_eq W H sx sy sr su
    rw [hns] at hnx
    have he4 : fwSt W H ⟨x, y, r, u⟩ (k + 1) = ns := by rw [← hns, ← HSS.out]; rfl
    obtain ⟨⟨nx, ny, nr, nu⟩, nd⟩ := ns
    have HNX := Aside0.mk hnx
    have HE4 := Aside0.mk he4
    clear hns hnx he4
    have hco := fwCor_eq W H sx sy sr su
    cases hst : stop k with
    | true =>
      have hkN : N = k := by
        rcases Nat.lt_or_ge k N with c | c
        · have := (hgk' c).1; rw [hst] at this; cases this
        · omega
      rw [hst] at HCC
      clear hst hgk' hnk' hco
      subst hkN
      go_wp2_with fail
      refine HCC.out.mono ?_
      rintro e w2 ⟨rfl, hI2, hf2⟩
      go_wp2_with fail
      go_end0
      exact ⟨rfl, hI2⟩
    | false =>
      rw [hst] at HCC hgk' hnk'
      clear hst
      by_cases h1 : (k : Int) < steps
      · have d1 : decide ((k : Int) < steps) = true := decide_eq_true h1
        by_cases h0 : k = 0
        · have hkN : k < N := by
            rcases Nat.lt_or_ge k N with c | c
            · exact c
            · exact absurd ⟨rfl, h1, .inl h0⟩ (hnk' (by omega))
          have d0 : ((k : Int) == 0) = true := by rw [beq_iff_eq]; omega
          clear h0 h1 hgk' hnk' hco
          go_wp2_with fail
          refine HCC.out.mono ?_
          rintro e w2 ⟨rfl, hI2, hf2⟩
          have HI2 := Aside0.mk hI2
          have HF2 := Aside0.mk hf2
          have z2 : w.heap.size + 1 < w2.heap.size := Nat.lt_of_lt_of_le lt hf2.size
          have q2b := hf2.b.trans HBB.out
          have q2t := hf2.t.trans HTT.out
          have b20 := (fw_cells q2b 0).1
          have b21 := (fw_cells q2b 1).1
          have b22 := (fw_cells q2b 2).1
          have b23 := (fw_cells q2b 3).1
          have t20 := (fw_cells q2t 0).1
          have t21 := (fw_cells q2t 1).1
          have f20 := (fw_cells q2b 0).2
          have f21 := (fw_cells q2b 1).2
          have f22 := (fw_cells q2b 2).2
          have f23 := (fw_cells q2b 3).2
          simp at b20 b21 b22 b23 t20 t21
          have Q2b := Aside0.mk q2b
          have Q2t := Aside0.mk q2t
          clear q2b q2t
          clear hI2 hf2
          go_wp2_with fail
          refine (impl_next.calls _ _ _ _ _ _ _ _ _ _ _ _ HNX.out).mono ?_
          rintro e w4 ⟨rfl, hb4⟩
          have HB4 := Aside0.mk hb4
          have z4 : w.heap.size + 1 < w4.heap.size := Nat.lt_of_lt_of_le z2 hb4.size
          have q4b := (hb4.block _ z2).trans Q2b.out
          have q4t := (hb4.block _ (by omega)).trans Q2t.out
          have b40 := (fw_cells q4b 0).1
          have b41 := (fw_cells q4b 1).1
          have b42 := (fw_cells q4b 2).1
          have b43 := (fw_cells q4b 3).1
          have t40 := (fw_cells q4t 0).1
          have t41 := (fw_cells q4t 1).1
          have f40 := (fw_cells q4b 0).2
          have f41 := (fw_cells q4b 1).2
          have f42 := (fw_cells q4b 2).2
          have f43 := (fw_cells q4b 3).2
          simp at b40 b41 b42 b43 t40 t41
          have Q4b := Aside0.mk q4b
          have Q4t := Aside0.mk q4t
          clear q4b q4t
          clear hb4
          have hs4 := fw_store (a' := .int .i64 nx) (b' := .int .i64 ny) (c' := .bool nr) (d' := .bool nu) Q4b.out
          have HM : Aside0 (FwMv (w.heap.size + 1) w2 w4) := ⟨FwMv.of_below HB4.out⟩
          have HS4 := Aside0.mk hs4
          clear hs4
          go_wp2_with fail
          go_roundg (N - (k + 1))
          case measure => omega
          case rel =>
            refine ⟨k + 1, by omega, by omega, ?_, by go_num, ⟨⟨HST.out (k + 1) w2 _ HI2.out (HM.out.trans HS4.out.2), by simpa using z4, (HS4.out.2.block _ (by omega) (by omega)).trans Q4t.out, ?_⟩⟩⟩
            · rw [HE4.out]
            · rw [HE4.out]
              exact HS4.out.1
        · have d0 : ((k : Int) == 0) = false := by rw [beq_eq_false_iff_ne]; omega
          cases hc : fwCor W H ⟨sx, sy, sr, su⟩ with
          | true =>
            rw [hc] at hco
            have HCO := Aside0.mk hco
            have hkN : N = k := by
              rcases Nat.lt_or_ge k N with c | c
              · rcases (hgk' c).2.2 with h | h
                · exact absurd h h0
                · rw [hc] at h; cases h
              · omega
            clear hc hgk' hnk' h0 h1 hco
            subst hkN
            go_wp2_with fail
            refine HCC.out.mono ?_
            rintro e w2 ⟨rfl, hI2, hf2⟩
            have HI2 := Aside0.mk hI2
            have HF2 := Aside0.mk hf2
            have z2 : w.heap.size + 1 < w2.heap.size := Nat.lt_of_lt_of_le lt hf2.size
            have q2b := hf2.b.trans HBB.out
            have q2t := hf2.t.trans HTT.out
            have b20 := (fw_cells q2b 0).1
            have b21 := (fw_cells q2b 1).1
            have b22 := (fw_cells q2b 2).1
            have b23 := (fw_cells q2b 3).1
            have t20 := (fw_cells q2t 0).1
            have t21 := (fw_cells q2t 1).1
            have f20 := (fw_cells q2b 0).2
            have f21 := (fw_cells q2b 1).2
            have f22 := (fw_cells q2b 2).2
            have f23 := (fw_cells q2b 3).2
            simp at b20 b21 b22 b23 t20 t21
            have Q2b := Aside0.mk q2b
            have Q2t := Aside0.mk q2t
            clear q2b q2t
            clear hI2 hf2
            go_wp2_with fail
            refine (impl_isCorner.calls _ _ _ _ _ _ true _ HCO.out).mono ?_
            rintro e w3 ⟨rfl, hb3⟩
            have HB3 := Aside0.mk hb3
            have z3 : w.heap.size + 1 < w3.heap.size := Nat.lt_of_lt_of_le z2 hb3.size
            have q3b := (hb3.block _ z2).trans Q2b.out
            have q3t := (hb3.block _ (by omega)).trans Q2t.out
            have b30 := (fw_cells q3b 0).1
            have b31 := (fw_cells q3b 1).1
            have b32 := (fw_cells q3b 2).1
            have b33 := (fw_cells q3b 3).1
            have t30 := (fw_cells q3t 0).1
            have t31 := (fw_cells q3t 1).1
            have f30 := (fw_cells q3b 0).2
            have f31 := (fw_cells q3b 1).2
            have f32 := (fw_cells q3b 2).2
            have f33 := (fw_cells q3b 3).2
            simp at b30 b31 b32 b33 t30 t31
            have Q3b := Aside0.mk q3b
            have Q3t := Aside0.mk q3t
            clear q3b q3t
            clear hb3
            go_wp2_with fail
            go_end0
            exact ⟨rfl, HST.out _ w2 _ HI2.out (FwMv.of_below HB3.out)⟩
          | false =>
            rw [hc] at hco
            have HCO := Aside0.mk hco
            have hkN : k < N := by
              rcases Nat.lt_or_ge k N with c | c
              · exact c
              · exact absurd ⟨rfl, h1, .inr hc⟩ (hnk' (by omega))
            clear hc hgk' hnk' h0 h1 hco
            go_wp2_with fail
            refine HCC.out.mono ?_
            rintro e w2 ⟨rfl, hI2, hf2⟩
            have HI2 := Aside0.mk hI2
            have HF2 := Aside0.mk hf2
            have z2 : w.heap.size + 1 < w2.heap.size := Nat.lt_of_lt_of_le lt hf2.size
            have q2b := hf2.b.trans HBB.out
            have q2t := hf2.t.trans HTT.out
            have b20 := (fw_cells q2b 0).1
            have b21 := (fw_cells q2b 1).1
            have b22 := (fw_cells q2b 2).1
            have b23 := (fw_cells q2b 3).1
            have t20 := (fw_cells q2t 0).1
            have t21 := (fw_cells q2t 1).1
            have f20 := (fw_cells q2b 0).2
            have f21 := (fw_cells q2b 1).2
            have f22 := (fw_cells q2b 2).2
            have f23 := (fw_cells q2b 3).2
            simp at b20 b21 b22 b23 t20 t21
            have Q2b := Aside0.mk q2b
            have Q2t := Aside0.mk q2t
            clear q2b q2t
            clear hI2 hf2
            go_wp2_with fail
            refine (impl_isCorner.calls _ _ _ _ _ _ false _ HCO.out).mono ?_
            rintro e w3 ⟨rfl, hb3⟩
            have HB3 := Aside0.mk hb3
            have z3 : w.heap.size + 1 < w3.heap.size := Nat.lt_of_lt_of_le z2 hb3.size
            have q3b := (hb3.block _ z2).trans Q2b.out
            have q3t := (hb3.block _ (by omega)).trans Q2t.out
            have b30 := (fw_cells q3b 0).1
            have b31 := (fw_cells q3b 1).1
            have b32 := (fw_cells q3b 2).1
            have b33 := (fw_cells q3b 3).1
            have t30 := (fw_cells q3t 0).1
            have t31 := (fw_cells q3t 1).1
            have f30 := (fw_cells q3b 0).2
            have f31 := (fw_cells q3b 1).2
            have f32 := (fw_cells q3b 2).2
            have f33 := (fw_cells q3b 3).2
            simp at b30 b31 b32 b33 t30 t31
            have Q3b := Aside0.mk q3b
            have Q3t := Aside0.mk q3t
            clear q3b q3t
            clear hb3
            go_wp2_with fail
            refine (impl_next.calls _ _ _ _ _ _ _ _ _ _ _ _ HNX.out).mono ?_
            rintro e w4 ⟨rfl, hb4⟩
            have HB4 := Aside0.mk hb4
            have z4 : w.heap.size + 1 < w4.heap.size := Nat.lt_of_lt_of_le z3 hb4.size
            have q4b := (hb4.block _ z3).trans Q3b.out
            have q4t := (hb4.block _ (by omega)).trans Q3t.out
            have b40 := (fw_cells q4b 0).1
            have b41 := (fw_cells q4b 1).1
            have b42 := (fw_cells q4b 2).1
            have b43 := (fw_cells q4b 3).1
            have t40 := (fw_cells q4t 0).1
            have t41 := (fw_cells q4t 1).1
            have f40 := (fw_cells q4b 0).2
            have f41 := (fw_cells q4b 1).2
            have f42 := (fw_cells q4b 2).2
            have f43 := (fw_cells q4b 3).2
            simp at b40 b41 b42 b43 t40 t41
            have Q4b := Aside0.mk q4b
            have Q4t := Aside0.mk q4t
            clear q4b q4t
            clear hb4
            have hs4 := fw_store (a' := .int .i64 nx) (b' := .int .i64 ny) (c' := .bool nr) (d' := .bool nu) Q4b.out
            have HM : Aside0 (FwMv (w.heap.size + 1) w2 w4) := ⟨(FwMv.of_below HB3.out).trans (FwMv.of_below HB4.out)⟩
            have HS4 := Aside0.mk hs4
            clear hs4
            go_wp2_with fail
            go_roundg (N - (k + 1))
            case measure => omega
            case rel =>
              refine ⟨k + 1, by omega, by omega, ?_, by go_num, ⟨⟨HST.out (k + 1) w2 _ HI2.out (HM.out.trans HS4.out.2), by simpa using z4, (HS4.out.2.block _ (by omega) (by omega)).trans Q4t.out, ?_⟩⟩⟩
              · rw [HE4.out]
              · rw [HE4.out]
                exact HS4.out.1
      · have d1 : decide ((k : Int) < steps) = false := decide_eq_false h1
        have hkN : N = k := by
          rcases Nat.lt_or_ge k N with c | c
          · exact absurd (hgk' c).2.1 h1
          · omega
        clear hgk' hnk' hco h1
        subst hkN
        go_wp2_with fail
        refine HCC.out.mono ?_
        rintro e w2 ⟨rfl, hI2, hf2⟩
        go_wp2_with fail
        go_end0
        exact ⟨rfl, hI2⟩
/-- Where a way ends: the first step behind which it does not go on. -/
def fwEnd (go : Nat → Bool) : Nat → Nat → Nat
  | 0, k => k
  | f + 1, k => if go k = true then fwEnd go f (k + 1) else k
theorem fwEnd_is (go : Nat → Bool) : ∀ (f k : Nat), go (k + f) = false → k ≤ fwEnd go f k ∧ fwEnd go f k ≤ k + f ∧ go (fwEnd go f k) = false ∧ ∀ j, k ≤ j → j < fwEnd go f k → go j = true := by
  intro f
  induction f with
  | zero => intro k h; exact ⟨Nat.le_refl _, Nat.le_refl _, h, fun j h1 h2 => by simp [fwEnd] at h2; omega⟩
  | succ f ih =>
    intro k h
    unfold fwEnd
    by_cases c : go k = true
    · rw [if_pos c]
      obtain ⟨h1, h2, h3, h4⟩ := ih (k + 1) (by rw [show k + 1 + f = k + (f + 1) by omega]; exact h)
      refine ⟨by omega, by omega, h3, fun j j1 j2 => ?_⟩
      rcases Nat.eq_or_lt_of_le j1 with e | e
      · rw [← e]; exact c
      · exact h4 j e j2
    · rw [if_neg c]
      exact ⟨Nat.le_refl _, by omega, by simpa using c, fun j j1 j2 => by omega⟩
def fwGoB (W H : Int) (b : S27) (steps : Int) (stop : Nat → Bool) (k : Nat) : Bool := !(stop k) && (decide ((k : Int) < steps) && (decide (k = 0) || !(fwCor W H (fwSt W H b k).1)))
theorem fwGoB_iff {W H : Int} {b : S27} {steps : Int} {stop : Nat → Bool} {k : Nat} : fwGoB W H b steps stop k = true ↔ fwGo W H b steps stop k := by
  unfold fwGoB fwGo
  simp [and_assoc]
def fwN (W H : Int) (b : S27) (steps : Int) (stop : Nat → Bool) : Nat := fwEnd (fwGoB W H b steps stop) steps.toNat 0
theorem fwN_is (W H : Int) (b : S27) (steps : Int) (stop : Nat → Bool) (h0 : 0 ≤ steps) : (fwN W H b steps stop : Int) ≤ steps ∧ ¬ fwGo W H b steps stop (fwN W H b steps stop) ∧ ∀ j, j < fwN W H b steps stop → fwGo W H b steps stop j := by
  have z : fwGoB W H b steps stop (0 + steps.toNat) = false := by
    have : ¬ (((0 + steps.toNat : Nat) : Int) < steps) := by omega
    unfold fwGoB
    rw [decide_eq_false this]
    simp
  obtain ⟨h1, h2, h3, h4⟩ := fwEnd_is _ _ _ z
  exact ⟨by unfold fwN; omega, (fun h => by rw [← fwGoB_iff] at h; unfold fwN at h; rw [h3] at h; cases h), fun j hj => fwGoB_iff.1 (h4 j (by omega) hj)⟩
/-- What was there stands, but for some blocks. -/
structure FwOld (S : Nat → Prop) (W1 W2 : World) : Prop where
  os : W2.os = W1.os
  tape : W2.tape = W1.tape
  output : W2.output = W1.output
  size : W1.heap.size ≤ W2.heap.size
  block : ∀ i, i < W1.heap.size → ¬ S i → W2.heap[i]? = W1.heap[i]?
theorem FwOld.refl (S : Nat → Prop) (w : World) : FwOld S w w := ⟨rfl, rfl, rfl, Nat.le_refl _, fun _ _ _ => rfl⟩
theorem FwOld.mv {S : Nat → Prop} {a b c : World} (h : FwOld S a b) {g : Nat} (k : FwMv g b c) (hg : a.heap.size ≤ g ∨ S g) : FwOld S a c :=
  ⟨k.os.trans h.os, k.tape.trans h.tape, k.output.trans h.output, Nat.le_trans h.size k.size, fun i hi hn => (k.block i (Nat.lt_of_lt_of_le hi h.size) (fun e => by
    rcases hg with hg | hg
    · omega
    · exact hn (e ▸ hg))).trans (h.block i hi hn)⟩
theorem FwOld.below {S : Nat → Prop} {w a b : World} (h : Below w.heap.size w a) (k : FwOld S a b) (hS : ∀ i, S i → w.heap.size ≤ i) : Below w.heap.size w b :=
  ⟨k.os.trans h.os, k.tape.trans h.tape, k.output.trans h.output, Nat.le_trans h.size k.size, fun i hi => (k.block i (Nat.lt_of_lt_of_le hi h.size) (fun hs => by have := hS i hs; omega)).trans (h.block i hi)⟩
theorem fw_three (w : World) (o1 o2 o3 : Obj) : (((w.alloc o1).alloc o2).alloc o3).heap[w.heap.size]? = some o1 ∧ (((w.alloc o1).alloc o2).alloc o3).heap[w.heap.size + 1]? = some o2 ∧ (((w.alloc o1).alloc o2).alloc o3).heap[w.heap.size + 2]? = some o3 ∧ (((w.alloc o1).alloc o2).alloc o3).heap.size = w.heap.size + 3 := by
  have e : ∀ (v : World) (o : Obj), (v.alloc o).heap = v.heap.push o := fun _ _ => rfl
  obtain ⟨h1, h2, h3⟩ := fw_two w o1 o2
  rw [e _ o3]
  refine ⟨?_, ?_, ?_, by rw [Array.size_push, h3]⟩
  · rw [Array.getElem?_push, if_neg (by rw [h3]; omega), h1]
  · rw [Array.getElem?_push, if_neg (by rw [h3]; omega), h2]
  · rw [Array.getElem?_push, if_pos (by rw [h3])]
/-- A function with a body is entered when it is called. -/
theorem fw_enters {f : FuncId} {fn : Func} {c : Code} (hf : Tryz.prog.funcs[f]? = some fn) (hname : (fn.name == "runtime.NumGoroutine") = false) (hb : fn.body = some c) (args : Array Value) (w : World) : (callFunc f args).run Tryz.prog w = .ok (.enter f args) w := by
  have h1 : fn.name ≠ "runtime.NumGoroutine" := by simpa using hname
  simp [callFunc, hf, h1, hb, mark]

/-! ### impl_around: function 62 -/
def impl_around.f (a0_0 : Int) (a0_1 : Int) : Option (Int) := some (wrap64 ((wrap64 (2 * a0_0)) * a0_1))
set_option maxHeartbeats 8000000 in
set_option maxRecDepth 100000 in
theorem impl_around.calls (a0_0 : Int) (a0_1 : Int) (r : Int) (w : World) (h : impl_around.f a0_0 a0_1 = some r) :
    Calls Tryz.prog 62 #[.agg #[.int .i64 a0_0, .int .i64 a0_1]] w fun e w' => e = .returned (.int .i64 r) ∧ Below w.heap.size w w' := by
  have hu25 := Tryz.underlying25
  have HB := Aside0.mk (Below.refl w.heap.size w)
  have H : (some (wrap64 ((wrap64 (2 * a0_0)) * a0_1))) = some r := h
  clear h
  obtain rfl := Option.some.inj H
  go_enter Tryz.func62, Tryz.ntmps62
  go_wp2_with (first | ((with_reducible refine gate_dst (N := 1) rfl ?_); refine box_event ?hg (N := 1) ?hd (cs := #[.int .i64 a0_0, .int .i64 a0_1]) (t := 25) ?hr ?_; (case hd => rfl); (case hg => rfl); (case hr => first | (go_simp; done) | (go_simp; rfl)); intro gb250 hg w2 hbox hb; have n0_ := Aside0.mk (below_step (by repeat (first | (with_reducible first | exact HB.out | apply below_alloc | apply pw_below_drewN | apply below_drew1) | exact HB.out)) hb); have n1_ := Aside0.mk (hbox); have n2_ := Aside0.mk ((by rw [hg]; exact (below_size (by repeat (first | (with_reducible first | exact HB.out | apply below_alloc | apply pw_below_drewN | apply below_drew1) | exact HB.out))) : w.heap.size ≤ gb250)); have n3_ := Aside0.mk ((by rw [hg]; exact (below_size (by repeat (first | (with_reducible first | exact HB.out | apply below_alloc | apply pw_below_drewN | apply below_drew1) | exact HB.out))) : w.heap.size ≤ gb250)); clear HB; have HB := n0_; have BK250 := n1_; have GW250 := n2_; have GE250 := n3_; clear n0_ n1_ n2_ n3_; clear hb hbox hg; have hcz3_0 : w2.cell? ⟨gb250, 0, none⟩ = some (.int .i64 a0_0) := (blk_cell BK250.out 0).trans rfl; have hcz3_1 : w2.cell? ⟨gb250, 1, none⟩ = some (.int .i64 a0_1) := (blk_cell BK250.out 1).trans rfl; have hfz3_0 := blk_frozen BK250.out 0; have hfz3_1 := blk_frozen BK250.out 1))
  go_ret
  exact ⟨by first | rfl | (simp [errW_none, errW_some] <;> rfl) | (simp [*, errW_none, errW_some] <;> rfl), by repeat (first | (with_reducible first | exact HB.out | apply below_alloc | apply pw_below_drewN | apply below_drew1 | refine below_set ?_ GE250.out) | exact HB.out)⟩

end Go.Proofs.YtlmiaadpnbehgaaGreatDoor.PFnBeamsEnd
