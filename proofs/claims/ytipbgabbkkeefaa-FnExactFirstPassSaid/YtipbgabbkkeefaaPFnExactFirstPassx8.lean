-- Written by xprint.py, a program of this session, for this seat; Lean checks it.
import Derived.Test.YtipbgabbkkeefaaPFnExactFirstPassx0
import Derived.Test.YtipbgabbkkeefaaPFnExactFirstPassx5
import Derived.Test.YtipbgabbkkeefaaPFnExactFirstPassx6
import Derived.Test.YtipbgabbkkeefaaPFnExactFirstPassx7
namespace Go.Proofs.Ytipbgabbkkeefaa.PFnExactFirstPass
open Go.RowKit Go.Proofs.YtipbgabbkkeefaaW.PrintWords Go.Proofs.YtipbgabbkkeefaaW.PrintLast Go.Proofs.YtipbgabbkkeefaaW.PrintMore
attribute [local go_sem] max2_int min2_int max_two min_two   -- for this text's walks alone
set_option linter.unusedVariables false
set_option linter.unusedSimpArgs false

/-! ### impl_follow: function 63 -/
/-! The beams, step by step, as functions that always answer. -/
def fwInw (W H : Int) (s : S30) : S30 := match impl_inward.f W H s.f0 s.f1 s.f2 s.f3 with | some r => ⟨r.1, r.2.1, r.2.2.1, r.2.2.2⟩ | none => s
theorem fwInw_eq (W H x y : Int) (r u : Bool) : impl_inward.f W H x y r u = some ((fwInw W H ⟨x, y, r, u⟩).f0, (fwInw W H ⟨x, y, r, u⟩).f1, (fwInw W H ⟨x, y, r, u⟩).f2, (fwInw W H ⟨x, y, r, u⟩).f3) := by
  have t : ∃ z, impl_inward.f W H x y r u = some z := by unfold impl_inward.f; (repeat' split) <;> exact ⟨_, rfl⟩
  obtain ⟨z, hz⟩ := t
  simp only [fwInw, hz]
def fwCor (W H : Int) (s : S30) : Bool := (impl_isCorner.f W H s.f0 s.f1 s.f2 s.f3).getD false
theorem fwCor_eq (W H x y : Int) (r u : Bool) : impl_isCorner.f W H x y r u = some (fwCor W H ⟨x, y, r, u⟩) := by
  have t : ∃ z, impl_isCorner.f W H x y r u = some z := by unfold impl_isCorner.f; (repeat' split) <;> exact ⟨_, rfl⟩
  obtain ⟨z, hz⟩ := t
  simp only [fwCor, hz, Option.getD_some]
def fwNext (W H : Int) (s : S30) : S30 × ByteArray := match impl_next.f W H s.f0 s.f1 s.f2 s.f3 with | some r => (⟨r.1, r.2.1, r.2.2.1, r.2.2.2.1⟩, r.2.2.2.2) | none => (s, ⟨#[]⟩)
theorem fwNext_eq (W H x y : Int) (r u : Bool) : impl_next.f W H x y r u = some ((fwNext W H ⟨x, y, r, u⟩).1.f0, (fwNext W H ⟨x, y, r, u⟩).1.f1, (fwNext W H ⟨x, y, r, u⟩).1.f2, (fwNext W H ⟨x, y, r, u⟩).1.f3, (fwNext W H ⟨x, y, r, u⟩).2) := by
  have t : ∃ z, impl_next.f W H x y r u = some z := by
    have s1 : ∀ q, ∃ z, impl_sign.f q = some z := fun q => by unfold impl_sign.f; split <;> exact ⟨_, rfl⟩
    obtain ⟨a, ha⟩ := s1 r
    obtain ⟨c, hc⟩ := s1 u
    unfold impl_next.f
    rw [ha, hc]
    simp only [Option.bind_some, fwCor_eq, fwInw_eq]
    (repeat' split) <;> exact ⟨_, rfl⟩
  obtain ⟨z, hz⟩ := t
  simp only [fwNext, hz]
/-- The beam behind k steps, and the side of its last bounce. -/
def fwSt (W H : Int) (b : S30) : Nat → S30 × ByteArray
  | 0 => (fwInw W H b, ⟨#[]⟩)
  | k + 1 => fwNext W H (fwSt W H b k).1
/-- Does it go on behind step k? -/
def fwGo (W H : Int) (b : S30) (steps : Int) (stop : Nat → Bool) (k : Nat) : Prop := stop k = false ∧ (k : Int) < steps ∧ (k = 0 ∨ fwCor W H (fwSt W H b k).1 = false)
/-- All is as it was, but for one block; more may have been laid. -/
structure FwMv (g : Nat) (W1 W2 : World) : Prop where
  os : W2.os = W1.os
  tape : W2.tape = W1.tape
  output : W2.output = W1.output
  size : W1.heap.size ≤ W2.heap.size
  block : ∀ i, i < W1.heap.size → i ≠ g → W2.heap[i]? = W1.heap[i]?
theorem FwMv.refl (g : Nat) (w : World) : FwMv g w w := ⟨rfl, rfl, rfl, Nat.le_refl _, fun _ _ _ => rfl⟩
theorem FwMv.trans {g : Nat} {a b c : World} (h : FwMv g a b) (k : FwMv g b c) : FwMv g a c :=
  ⟨k.os.trans h.os, k.tape.trans h.tape, k.output.trans h.output, Nat.le_trans h.size k.size, fun i hi hn => (k.block i (Nat.lt_of_lt_of_le hi h.size) hn).trans (h.block i hi hn)⟩
theorem FwMv.of_below {g : Nat} {a b : World} (h : Below a.heap.size a b) : FwMv g a b := ⟨h.os, h.tape, h.output, h.size, fun i hi _ => h.block i hi⟩
/-- The closure leaves both of follow's own variables as they are. -/
structure FwFr (T : Nat) (W1 W2 : World) : Prop where
  size : W1.heap.size ≤ W2.heap.size
  t : W2.heap[T]? = W1.heap[T]?
  b : W2.heap[T + 1]? = W1.heap[T + 1]?
abbrev fwVal (s : S30) : Value := .agg #[.int .i64 s.f0, .int .i64 s.f1, .bool s.f2, .bool s.f3]
structure FwRel (W H : Int) (b : S30) (I : Nat → World → Prop) (T k : Nat) (wr : World) : Prop where
  inv : I k wr
  lt : T + 1 < wr.heap.size
  ht : wr.heap[T]? = some (.cells #[.int .i64 W, .int .i64 H] 28 (0, 0))
  hb : wr.heap[T + 1]? = some (.cells #[.int .i64 (fwSt W H b k).1.f0, .int .i64 (fwSt W H b k).1.f1, .bool (fwSt W H b k).1.f2, .bool (fwSt W H b k).1.f3] 30 (0, 0))
theorem fw_cells {w : World} {g : Nat} {t : TypeId} {cs : Array Value} (h : w.heap[g]? = some (.cells cs t (0, 0))) (i : Nat) : w.cell? ⟨g, i, none⟩ = cs[i]? ∧ w.frozen? ⟨g, i, none⟩ = false := by
  constructor
  · simp [World.cell?, h]
  · simp [World.frozen?, h]
theorem fw_set {w : World} {g i : Nat} (v : Value) : FwMv g w (w.setCell ⟨g, i, none⟩ v) := ⟨rfl, rfl, rfl, by simp, fun k _ hk => Below.heap_setCell w _ v k hk⟩
/-- The four cells of a beam stored. -/
theorem fw_store {w : World} {g : Nat} {a b c d a' b' c' d' : Value} {t : TypeId} (h : w.heap[g]? = some (.cells #[a, b, c, d] t (0, 0))) :
    (((((w.setCell ⟨g, 0, none⟩ a').setCell ⟨g, 1, none⟩ b').setCell ⟨g, 2, none⟩ c').setCell ⟨g, 3, none⟩ d').heap[g]? = some (.cells #[a', b', c', d'] t (0, 0))) ∧
      FwMv g w ((((w.setCell ⟨g, 0, none⟩ a').setCell ⟨g, 1, none⟩ b').setCell ⟨g, 2, none⟩ c').setCell ⟨g, 3, none⟩ d') := by
  refine ⟨?_, (((fw_set a').trans (fw_set b')).trans (fw_set c')).trans (fw_set d')⟩
  exact heap_setCell_same _ g 3 _ t d' (heap_setCell_same _ g 2 _ t c' (heap_setCell_same _ g 1 _ t b' (heap_setCell_same _ g 0 _ t a' h)))
theorem fwRel_mv {W H : Int} {b : S30} {I : Nat → World → Prop} {T k : Nat} {w1 w2 : World} (hst : ∀ k W1 W2, I k W1 → FwMv (T + 1) W1 W2 → I k W2) (R : FwRel W H b I T k w1) (hb : Below w1.heap.size w1 w2) : FwRel W H b I T k w2 :=
  ⟨hst k w1 w2 R.inv (.of_below hb), Nat.lt_of_lt_of_le R.lt hb.size, (hb.block T (by have := R.lt; omega)).trans R.ht, (hb.block (T + 1) R.lt).trans R.hb⟩
theorem fw_two (w : World) (o1 o2 : Obj) : ((w.alloc o1).alloc o2).heap[w.heap.size]? = some o1 ∧ ((w.alloc o1).alloc o2).heap[w.heap.size + 1]? = some o2 ∧ ((w.alloc o1).alloc o2).heap.size = w.heap.size + 2 := by
  have e : ∀ (v : World) (o : Obj), (v.alloc o).heap = v.heap.push o := fun _ _ => rfl
  rw [e, e]
  exact ⟨by rw [Array.getElem?_push, if_neg (by simp), Array.getElem?_push, if_pos rfl], by rw [Array.getElem?_push, if_pos (by simp)], by simp⟩
set_option maxHeartbeats 8000000 in
set_option maxRecDepth 100000 in
theorem impl_follow.calls (W H x y : Int) (r u : Bool) (steps : Int) (g : Nat) (lb : Array Value) (eg : ∀ args w, (callFunc g args).run Try.prog w = .ok (.enter g args) w)
    (I : Nat → World → Prop) (stop : Nat → Bool) (N : Nat) (w : World) (hNb : N ≤ 1000000)
    (hgo : ∀ k, k < N → fwGo W H ⟨x, y, r, u⟩ steps stop k) (hend : ¬ fwGo W H ⟨x, y, r, u⟩ steps stop N)
    (hI0 : I 0 w) (hst : ∀ k W1 W2, I k W1 → FwMv (w.heap.size + 1) W1 W2 → I k W2)
    (hcall : ∀ k Wd, k ≤ N → w.heap.size + 1 < Wd.heap.size → I k Wd → Calls Try.prog g (#[.int .i64 (k : Int), fwVal (fwSt W H ⟨x, y, r, u⟩ k).1, .string (fwSt W H ⟨x, y, r, u⟩ k).2] ++ lb) Wd fun e w' => e = .returned (.bool (stop k)) ∧ I (k + 1) w' ∧ FwFr w.heap.size Wd w') :
    Calls Try.prog 63 #[.agg #[.int .i64 W, .int .i64 H], .agg #[.int .i64 x, .int .i64 y, .bool r, .bool u], .int .i64 steps, .func (.func g) #[] lb] w fun e w' => e = .returned (.tuple #[]) ∧ I (N + 1) w' := by
  have HST := Aside0.mk hst
  have HC := Aside0.mk hcall
  have HG := Aside0.mk hgo
  have HE := Aside0.mk hend
  have HI0 := Aside0.mk hI0
  have HIN := Aside0.mk (fwInw_eq W H x y r u)
  obtain ⟨s0, hs0⟩ : ∃ s, fwInw W H ⟨x, y, r, u⟩ = s := ⟨_, rfl⟩
  rw [hs0] at HIN
  have HS0 := Aside0.mk hs0
  clear hst hcall hgo hend hI0 hs0
  obtain ⟨x0, y0, r0, u0⟩ := s0
  go_enter Try.func63, Try.ntmps63
  go_wp2_with fail
  refine (impl_inward.calls _ _ _ _ _ _ _ _ _ _ _ HIN.out).mono ?_
  rintro e w1 ⟨rfl, hb1⟩
  have z1 : w.heap.size + 1 < w1.heap.size := by have := hb1.size; rw [(fw_two w _ _).2.2] at this; omega
  have q1 : w1.heap[w.heap.size + 1]? = some (.cells #[.int .i64 x, .int .i64 y, .bool r, .bool u] 30 (0, 0)) := (hb1.block _ (by rw [(fw_two w _ _).2.2]; omega)).trans (fw_two w _ _).2.1
  have q0 : w1.heap[w.heap.size]? = some (.cells #[.int .i64 W, .int .i64 H] 28 (0, 0)) := (hb1.block _ (by rw [(fw_two w _ _).2.2]; omega)).trans (fw_two w _ _).1
  have m1 : FwMv (w.heap.size + 1) w w1 := (FwMv.of_below (((Below.refl _ w).alloc (Nat.le_refl _) _).alloc (by simp) _)).trans (FwMv.of_below hb1)
  have c10 := (fw_cells q1 0).1
  have c11 := (fw_cells q1 1).1
  have c12 := (fw_cells q1 2).1
  have c13 := (fw_cells q1 3).1
  have f10 := (fw_cells q1 0).2
  have f11 := (fw_cells q1 1).2
  have f12 := (fw_cells q1 2).2
  have f13 := (fw_cells q1 3).2
  simp at c10 c11 c12 c13
  have hs := fw_store (a' := .int .i64 x0) (b' := .int .i64 y0) (c' := .bool r0) (d' := .bool u0) q1
  have HR0 : Aside0 (FwRel W H ⟨x, y, r, u⟩ I w.heap.size 0 ((((w1.setCell ⟨w.heap.size + 1, 0, none⟩ (.int .i64 x0)).setCell ⟨w.heap.size + 1, 1, none⟩ (.int .i64 y0)).setCell ⟨w.heap.size + 1, 2, none⟩ (.bool r0)).setCell ⟨w.heap.size + 1, 3, none⟩ (.bool u0))) := by
    refine ⟨⟨HST.out 0 w _ HI0.out (m1.trans hs.2), by simpa using z1, (hs.2.block _ (by omega) (by omega)).trans q0, ?_⟩⟩
    have e : (fwSt W H ⟨x, y, r, u⟩ 0).1 = ⟨x0, y0, r0, u0⟩ := HS0.out
    rw [e]
    exact hs.1
  clear q1 q0 hb1 hs m1
  go_wp2_with fail
  go_loopg [8, 9] N (fun gg s8 s9 wr => ∃ k : Nat, k ≤ N ∧ N - k ≤ gg ∧ s8 = .string (fwSt W H ⟨x, y, r, u⟩ k).2 ∧ s9 = .int .i64 (k : Int) ∧ Aside0 (FwRel W H ⟨x, y, r, u⟩ I w.heap.size k wr))
  case atStart => exact ⟨0, Nat.zero_le _, by omega, rfl, rfl, HR0⟩
  case round =>
    obtain ⟨k, hk, hgk, rfl, rfl, R⟩ := hrel
    clear c10 c11 c12 c13 f10 f11 f12 f13 z1 HR0
    have hc := HC.out k wr hk R.out.lt R.out.inv
    obtain ⟨sd, hsd⟩ : ∃ sd, (fwSt W H ⟨x, y, r, u⟩ k).2 = sd := ⟨_, rfl⟩
    obtain ⟨s, hs⟩ : ∃ s, (fwSt W H ⟨x, y, r, u⟩ k).1 = s := ⟨_, rfl⟩
    have hgk' : k < N → fwGo W H ⟨x, y, r, u⟩ steps stop k := HG.out k
    have hnk' : k = N → ¬ fwGo W H ⟨x, y, r, u⟩ steps stop k := fun e => e ▸ HE.out
    unfold fwGo at hgk' hnk'
    rw [hs] at hgk' hnk'
    have hb := R.out.hb
    have ht := R.out.ht
    rw [hsd, hs] at hc
    rw [hs] at hb
    rw [hsd]
    have HSS := Aside0.mk hs
    have HSD := Aside0.mk hsd
    clear hs hsd
    obtain ⟨sx, sy, sr, su⟩ := s
    have b0 := (fw_cells hb 0).1
    have b1 := (fw_cells hb 1).1
    have b2 := (fw_cells hb 2).1
    have b3 := (fw_cells hb 3).1
    simp at b0 b1 b2 b3
    have HBB := Aside0.mk hb
    have HTT := Aside0.mk ht
    have HCC := Aside0.mk hc
    have lt := R.out.lt
    clear hb ht hc
    obtain ⟨ns, hns⟩ : ∃ ns, fwNext W H ⟨sx, sy, sr, su⟩ = ns := ⟨_, rfl⟩
    have hnx := fwNext_eq W H sx sy sr su
    rw [hns] at hnx
    have he4 : fwSt W H ⟨x, y, r, u⟩ (k + 1) = ns := by rw [← hns, ← HSS.out]; rfl
    obtain ⟨⟨nx, ny, nr, nu⟩, nd⟩ := ns
    have HNX := Aside0.mk hnx
    have HE4 := Aside0.mk he4
    clear hns hnx he4
    have hco := fwCor_eq W H sx sy sr su
    cases hst : stop k with
    | true =>
      have hkN : N = k := by
        rcases Nat.lt_or_ge k N with c | c
        · have := (hgk' c).1; rw [hst] at this; cases this
        · omega
      rw [hst] at HCC
      clear hst hgk' hnk' hco
      subst hkN
      go_wp2_with fail
      refine HCC.out.mono ?_
      rintro e w2 ⟨rfl, hI2, hf2⟩
      go_wp2_with fail
      go_end0
      exact ⟨rfl, hI2⟩
    | false =>
      rw [hst] at HCC hgk' hnk'
      clear hst
      by_cases h1 : (k : Int) < steps
      · have d1 : decide ((k : Int) < steps) = true := decide_eq_true h1
        by_cases h0 : k = 0
        · have hkN : k < N := by
            rcases Nat.lt_or_ge k N with c | c
            · exact c
            · exact absurd ⟨rfl, h1, .inl h0⟩ (hnk' (by omega))
          have d0 : ((k : Int) == 0) = true := by rw [beq_iff_eq]; omega
          clear h0 h1 hgk' hnk' hco
          go_wp2_with fail
          refine HCC.out.mono ?_
          rintro e w2 ⟨rfl, hI2, hf2⟩
          have HI2 := Aside0.mk hI2
          have HF2 := Aside0.mk hf2
          have z2 : w.heap.size + 1 < w2.heap.size := Nat.lt_of_lt_of_le lt hf2.size
          have q2b := hf2.b.trans HBB.out
          have q2t := hf2.t.trans HTT.out
          have b20 := (fw_cells q2b 0).1
          have b21 := (fw_cells q2b 1).1
          have b22 := (fw_cells q2b 2).1
          have b23 := (fw_cells q2b 3).1
          have t20 := (fw_cells q2t 0).1
          have t21 := (fw_cells q2t 1).1
          have f20 := (fw_cells q2b 0).2
          have f21 := (fw_cells q2b 1).2
          have f22 := (fw_cells q2b 2).2
          have f23 := (fw_cells q2b 3).2
          simp at b20 b21 b22 b23 t20 t21
          have Q2b := Aside0.mk q2b
          have Q2t := Aside0.mk q2t
          clear q2b q2t
          clear hI2 hf2
          go_wp2_with fail
          refine (impl_next.calls _ _ _ _ _ _ _ _ _ _ _ _ HNX.out).mono ?_
          rintro e w4 ⟨rfl, hb4⟩
          have HB4 := Aside0.mk hb4
          have z4 : w.heap.size + 1 < w4.heap.size := Nat.lt_of_lt_of_le z2 hb4.size
          have q4b := (hb4.block _ z2).trans Q2b.out
          have q4t := (hb4.block _ (by omega)).trans Q2t.out
          have b40 := (fw_cells q4b 0).1
          have b41 := (fw_cells q4b 1).1
          have b42 := (fw_cells q4b 2).1
          have b43 := (fw_cells q4b 3).1
          have t40 := (fw_cells q4t 0).1
          have t41 := (fw_cells q4t 1).1
          have f40 := (fw_cells q4b 0).2
          have f41 := (fw_cells q4b 1).2
          have f42 := (fw_cells q4b 2).2
          have f43 := (fw_cells q4b 3).2
          simp at b40 b41 b42 b43 t40 t41
          have Q4b := Aside0.mk q4b
          have Q4t := Aside0.mk q4t
          clear q4b q4t
          clear hb4
          have hs4 := fw_store (a' := .int .i64 nx) (b' := .int .i64 ny) (c' := .bool nr) (d' := .bool nu) Q4b.out
          have HM : Aside0 (FwMv (w.heap.size + 1) w2 w4) := ⟨FwMv.of_below HB4.out⟩
          have HS4 := Aside0.mk hs4
          clear hs4
          go_wp2_with fail
          go_roundg (N - (k + 1))
          case measure => omega
          case rel =>
            refine ⟨k + 1, by omega, by omega, ?_, by go_num, ⟨⟨HST.out (k + 1) w2 _ HI2.out (HM.out.trans HS4.out.2), by simpa using z4, (HS4.out.2.block _ (by omega) (by omega)).trans Q4t.out, ?_⟩⟩⟩
            · rw [HE4.out]
            · rw [HE4.out]
              exact HS4.out.1
        · have d0 : ((k : Int) == 0) = false := by rw [beq_eq_false_iff_ne]; omega
          cases hc : fwCor W H ⟨sx, sy, sr, su⟩ with
          | true =>
            rw [hc] at hco
            have HCO := Aside0.mk hco
            have hkN : N = k := by
              rcases Nat.lt_or_ge k N with c | c
              · rcases (hgk' c).2.2 with h | h
                · exact absurd h h0
                · rw [hc] at h; cases h
              · omega
            clear hc hgk' hnk' h0 h1 hco
            subst hkN
            go_wp2_with fail
            refine HCC.out.mono ?_
            rintro e w2 ⟨rfl, hI2, hf2⟩
            have HI2 := Aside0.mk hI2
            have HF2 := Aside0.mk hf2
            have z2 : w.heap.size + 1 < w2.heap.size := Nat.lt_of_lt_of_le lt hf2.size
            have q2b := hf2.b.trans HBB.out
            have q2t := hf2.t.trans HTT.out
            have b20 := (fw_cells q2b 0).1
            have b21 := (fw_cells q2b 1).1
            have b22 := (fw_cells q2b 2).1
            have b23 := (fw_cells q2b 3).1
            have t20 := (fw_cells q2t 0).1
            have t21 := (fw_cells q2t 1).1
            have f20 := (fw_cells q2b 0).2
            have f21 := (fw_cells q2b 1).2
            have f22 := (fw_cells q2b 2).2
            have f23 := (fw_cells q2b 3).2
            simp at b20 b21 b22 b23 t20 t21
            have Q2b := Aside0.mk q2b
            have Q2t := Aside0.mk q2t
            clear q2b q2t
            clear hI2 hf2
            go_wp2_with fail
            refine (impl_isCorner.calls _ _ _ _ _ _ true _ HCO.out).mono ?_
            rintro e w3 ⟨rfl, hb3⟩
            have HB3 := Aside0.mk hb3
            have z3 : w.heap.size + 1 < w3.heap.size := Nat.lt_of_lt_of_le z2 hb3.size
            have q3b := (hb3.block _ z2).trans Q2b.out
            have q3t := (hb3.block _ (by omega)).trans Q2t.out
            have b30 := (fw_cells q3b 0).1
            have b31 := (fw_cells q3b 1).1
            have b32 := (fw_cells q3b 2).1
            have b33 := (fw_cells q3b 3).1
            have t30 := (fw_cells q3t 0).1
            have t31 := (fw_cells q3t 1).1
            have f30 := (fw_cells q3b 0).2
            have f31 := (fw_cells q3b 1).2
            have f32 := (fw_cells q3b 2).2
            have f33 := (fw_cells q3b 3).2
            simp at b30 b31 b32 b33 t30 t31
            have Q3b := Aside0.mk q3b
            have Q3t := Aside0.mk q3t
            clear q3b q3t
            clear hb3
            go_wp2_with fail
            go_end0
            exact ⟨rfl, HST.out _ w2 _ HI2.out (FwMv.of_below HB3.out)⟩
          | false =>
            rw [hc] at hco
            have HCO := Aside0.mk hco
            have hkN : k < N := by
              rcases Nat.lt_or_ge k N with c | c
              · exact c
              · exact absurd ⟨rfl, h1, .inr hc⟩ (hnk' (by omega))
            clear hc hgk' hnk' h0 h1 hco
            go_wp2_with fail
            refine HCC.out.mono ?_
            rintro e w2 ⟨rfl, hI2, hf2⟩
            have HI2 := Aside0.mk hI2
            have HF2 := Aside0.mk hf2
            have z2 : w.heap.size + 1 < w2.heap.size := Nat.lt_of_lt_of_le lt hf2.size
            have q2b := hf2.b.trans HBB.out
            have q2t := hf2.t.trans HTT.out
            have b20 := (fw_cells q2b 0).1
            have b21 := (fw_cells q2b 1).1
            have b22 := (fw_cells q2b 2).1
            have b23 := (fw_cells q2b 3).1
            have t20 := (fw_cells q2t 0).1
            have t21 := (fw_cells q2t 1).1
            have f20 := (fw_cells q2b 0).2
            have f21 := (fw_cells q2b 1).2
            have f22 := (fw_cells q2b 2).2
            have f23 := (fw_cells q2b 3).2
            simp at b20 b21 b22 b23 t20 t21
            have Q2b := Aside0.mk q2b
            have Q2t := Aside0.mk q2t
            clear q2b q2t
            clear hI2 hf2
            go_wp2_with fail
            refine (impl_isCorner.calls _ _ _ _ _ _ false _ HCO.out).mono ?_
            rintro e w3 ⟨rfl, hb3⟩
            have HB3 := Aside0.mk hb3
            have z3 : w.heap.size + 1 < w3.heap.size := Nat.lt_of_lt_of_le z2 hb3.size
            have q3b := (hb3.block _ z2).trans Q2b.out
            have q3t := (hb3.block _ (by omega)).trans Q2t.out
            have b30 := (fw_cells q3b 0).1
            have b31 := (fw_cells q3b 1).1
            have b32 := (fw_cells q3b 2).1
            have b33 := (fw_cells q3b 3).1
            have t30 := (fw_cells q3t 0).1
            have t31 := (fw_cells q3t 1).1
            have f30 := (fw_cells q3b 0).2
            have f31 := (fw_cells q3b 1).2
            have f32 := (fw_cells q3b 2).2
            have f33 := (fw_cells q3b 3).2
            simp at b30 b31 b32 b33 t30 t31
            have Q3b := Aside0.mk q3b
            have Q3t := Aside0.mk q3t
            clear q3b q3t
            clear hb3
            go_wp2_with fail
            refine (impl_next.calls _ _ _ _ _ _ _ _ _ _ _ _ HNX.out).mono ?_
            rintro e w4 ⟨rfl, hb4⟩
            have HB4 := Aside0.mk hb4
            have z4 : w.heap.size + 1 < w4.heap.size := Nat.lt_of_lt_of_le z3 hb4.size
            have q4b := (hb4.block _ z3).trans Q3b.out
            have q4t := (hb4.block _ (by omega)).trans Q3t.out
            have b40 := (fw_cells q4b 0).1
            have b41 := (fw_cells q4b 1).1
            have b42 := (fw_cells q4b 2).1
            have b43 := (fw_cells q4b 3).1
            have t40 := (fw_cells q4t 0).1
            have t41 := (fw_cells q4t 1).1
            have f40 := (fw_cells q4b 0).2
            have f41 := (fw_cells q4b 1).2
            have f42 := (fw_cells q4b 2).2
            have f43 := (fw_cells q4b 3).2
            simp at b40 b41 b42 b43 t40 t41
            have Q4b := Aside0.mk q4b
            have Q4t := Aside0.mk q4t
            clear q4b q4t
            clear hb4
            have hs4 := fw_store (a' := .int .i64 nx) (b' := .int .i64 ny) (c' := .bool nr) (d' := .bool nu) Q4b.out
            have HM : Aside0 (FwMv (w.heap.size + 1) w2 w4) := ⟨(FwMv.of_below HB3.out).trans (FwMv.of_below HB4.out)⟩
            have HS4 := Aside0.mk hs4
            clear hs4
            go_wp2_with fail
            go_roundg (N - (k + 1))
            case measure => omega
            case rel =>
              refine ⟨k + 1, by omega, by omega, ?_, by go_num, ⟨⟨HST.out (k + 1) w2 _ HI2.out (HM.out.trans HS4.out.2), by simpa using z4, (HS4.out.2.block _ (by omega) (by omega)).trans Q4t.out, ?_⟩⟩⟩
              · rw [HE4.out]
              · rw [HE4.out]
                exact HS4.out.1
      · have d1 : decide ((k : Int) < steps) = false := decide_eq_false h1
        have hkN : N = k := by
          rcases Nat.lt_or_ge k N with c | c
          · exact absurd (hgk' c).2.1 h1
          · omega
        clear hgk' hnk' hco h1
        subst hkN
        go_wp2_with fail
        refine HCC.out.mono ?_
        rintro e w2 ⟨rfl, hI2, hf2⟩
        go_wp2_with fail
        go_end0
        exact ⟨rfl, hI2⟩
/-- Where a way ends: the first step behind which it does not go on. -/
def fwEnd (go : Nat → Bool) : Nat → Nat → Nat
  | 0, k => k
  | f + 1, k => if go k = true then fwEnd go f (k + 1) else k
theorem fwEnd_is (go : Nat → Bool) : ∀ (f k : Nat), go (k + f) = false → k ≤ fwEnd go f k ∧ fwEnd go f k ≤ k + f ∧ go (fwEnd go f k) = false ∧ ∀ j, k ≤ j → j < fwEnd go f k → go j = true := by
  intro f
  induction f with
  | zero => intro k h; exact ⟨Nat.le_refl _, Nat.le_refl _, h, fun j h1 h2 => by simp [fwEnd] at h2; omega⟩
  | succ f ih =>
    intro k h
    unfold fwEnd
    by_cases c : go k = true
    · rw [if_pos c]
      obtain ⟨h1, h2, h3, h4⟩ := ih (k + 1) (by rw [show k + 1 + f = k + (f + 1) by omega]; exact h)
      refine ⟨by omega, by omega, h3, fun j j1 j2 => ?_⟩
      rcases Nat.eq_or_lt_of_le j1 with e | e
      · rw [← e]; exact c
      · exact h4 j e j2
    · rw [if_neg c]
      exact ⟨Nat.le_refl _, by omega, by simpa using c, fun j j1 j2 => by omega⟩
def fwGoB (W H : Int) (b : S30) (steps : Int) (stop : Nat → Bool) (k : Nat) : Bool := !(stop k) && (decide ((k : Int) < steps) && (decide (k = 0) || !(fwCor W H (fwSt W H b k).1)))
theorem fwGoB_iff {W H : Int} {b : S30} {steps : Int} {stop : Nat → Bool} {k : Nat} : fwGoB W H b steps stop k = true ↔ fwGo W H b steps stop k := by
  unfold fwGoB fwGo
  simp [and_assoc]
def fwN (W H : Int) (b : S30) (steps : Int) (stop : Nat → Bool) : Nat := fwEnd (fwGoB W H b steps stop) steps.toNat 0
theorem fwN_is (W H : Int) (b : S30) (steps : Int) (stop : Nat → Bool) (h0 : 0 ≤ steps) : (fwN W H b steps stop : Int) ≤ steps ∧ ¬ fwGo W H b steps stop (fwN W H b steps stop) ∧ ∀ j, j < fwN W H b steps stop → fwGo W H b steps stop j := by
  have z : fwGoB W H b steps stop (0 + steps.toNat) = false := by
    have : ¬ (((0 + steps.toNat : Nat) : Int) < steps) := by omega
    unfold fwGoB
    rw [decide_eq_false this]
    simp
  obtain ⟨h1, h2, h3, h4⟩ := fwEnd_is _ _ _ z
  exact ⟨by unfold fwN; omega, (fun h => by rw [← fwGoB_iff] at h; unfold fwN at h; rw [h3] at h; cases h), fun j hj => fwGoB_iff.1 (h4 j (by omega) hj)⟩
/-- What was there stands, but for some blocks. -/
structure FwOld (S : Nat → Prop) (W1 W2 : World) : Prop where
  os : W2.os = W1.os
  tape : W2.tape = W1.tape
  output : W2.output = W1.output
  size : W1.heap.size ≤ W2.heap.size
  block : ∀ i, i < W1.heap.size → ¬ S i → W2.heap[i]? = W1.heap[i]?
theorem FwOld.refl (S : Nat → Prop) (w : World) : FwOld S w w := ⟨rfl, rfl, rfl, Nat.le_refl _, fun _ _ _ => rfl⟩
theorem FwOld.mv {S : Nat → Prop} {a b c : World} (h : FwOld S a b) {g : Nat} (k : FwMv g b c) (hg : a.heap.size ≤ g ∨ S g) : FwOld S a c :=
  ⟨k.os.trans h.os, k.tape.trans h.tape, k.output.trans h.output, Nat.le_trans h.size k.size, fun i hi hn => (k.block i (Nat.lt_of_lt_of_le hi h.size) (fun e => by
    rcases hg with hg | hg
    · omega
    · exact hn (e ▸ hg))).trans (h.block i hi hn)⟩
theorem FwOld.below {S : Nat → Prop} {w a b : World} (h : Below w.heap.size w a) (k : FwOld S a b) (hS : ∀ i, S i → w.heap.size ≤ i) : Below w.heap.size w b :=
  ⟨k.os.trans h.os, k.tape.trans h.tape, k.output.trans h.output, Nat.le_trans h.size k.size, fun i hi => (k.block i (Nat.lt_of_lt_of_le hi h.size) (fun hs => by have := hS i hs; omega)).trans (h.block i hi)⟩
theorem fw_three (w : World) (o1 o2 o3 : Obj) : (((w.alloc o1).alloc o2).alloc o3).heap[w.heap.size]? = some o1 ∧ (((w.alloc o1).alloc o2).alloc o3).heap[w.heap.size + 1]? = some o2 ∧ (((w.alloc o1).alloc o2).alloc o3).heap[w.heap.size + 2]? = some o3 ∧ (((w.alloc o1).alloc o2).alloc o3).heap.size = w.heap.size + 3 := by
  have e : ∀ (v : World) (o : Obj), (v.alloc o).heap = v.heap.push o := fun _ _ => rfl
  obtain ⟨h1, h2, h3⟩ := fw_two w o1 o2
  rw [e _ o3]
  refine ⟨?_, ?_, ?_, by rw [Array.size_push, h3]⟩
  · rw [Array.getElem?_push, if_neg (by rw [h3]; omega), h1]
  · rw [Array.getElem?_push, if_neg (by rw [h3]; omega), h2]
  · rw [Array.getElem?_push, if_pos (by rw [h3])]
/-- A function with a body is entered when it is called. -/
theorem fw_enters {f : FuncId} {fn : Func} {c : Code} (hf : Try.prog.funcs[f]? = some fn) (hname : (fn.name == "runtime.NumGoroutine") = false) (hb : fn.body = some c) (args : Array Value) (w : World) : (callFunc f args).run Try.prog w = .ok (.enter f args) w := by
  have h1 : fn.name ≠ "runtime.NumGoroutine" := by simpa using hname
  simp [callFunc, hf, h1, hb, mark]

/-! ### impl_around: function 64 -/
def impl_around.f (a0_0 : Int) (a0_1 : Int) : Option (Int) := some (wrap64 ((wrap64 (2 * a0_0)) * a0_1))
set_option maxHeartbeats 8000000 in
set_option maxRecDepth 100000 in
theorem impl_around.calls (a0_0 : Int) (a0_1 : Int) (r : Int) (w : World) (h : impl_around.f a0_0 a0_1 = some r) :
    Calls Try.prog 64 #[.agg #[.int .i64 a0_0, .int .i64 a0_1]] w fun e w' => e = .returned (.int .i64 r) ∧ Below w.heap.size w w' := by
  have hu28 := Try.underlying28
  have HB := Aside0.mk (Below.refl w.heap.size w)
  have H : (some (wrap64 ((wrap64 (2 * a0_0)) * a0_1))) = some r := h
  clear h
  obtain rfl := Option.some.inj H
  go_enter Try.func64, Try.ntmps64
  go_wp2_with (first | ((with_reducible refine gate_dst (N := 1) rfl ?_); refine box_event ?hg (N := 1) ?hd (cs := #[.int .i64 a0_0, .int .i64 a0_1]) (t := 28) ?hr ?_; (case hd => rfl); (case hg => rfl); (case hr => first | (go_simp; done) | (go_simp; rfl)); intro gb229 hg w2 hbox hb; have n0_ := Aside0.mk (below_step (by repeat (first | (with_reducible first | exact HB.out | apply below_alloc | apply pw_below_drewN | apply below_drew1) | exact HB.out)) hb); have n1_ := Aside0.mk (hbox); have n2_ := Aside0.mk ((by rw [hg]; exact (below_size (by repeat (first | (with_reducible first | exact HB.out | apply below_alloc | apply pw_below_drewN | apply below_drew1) | exact HB.out))) : w.heap.size ≤ gb229)); have n3_ := Aside0.mk ((by rw [hg]; exact (below_size (by repeat (first | (with_reducible first | exact HB.out | apply below_alloc | apply pw_below_drewN | apply below_drew1) | exact HB.out))) : w.heap.size ≤ gb229)); clear HB; have HB := n0_; have BK229 := n1_; have GW229 := n2_; have GE229 := n3_; clear n0_ n1_ n2_ n3_; clear hb hbox hg; have hcz3_0 : w2.cell? ⟨gb229, 0, none⟩ = some (.int .i64 a0_0) := (blk_cell BK229.out 0).trans rfl; have hcz3_1 : w2.cell? ⟨gb229, 1, none⟩ = some (.int .i64 a0_1) := (blk_cell BK229.out 1).trans rfl; have hfz3_0 := blk_frozen BK229.out 0; have hfz3_1 := blk_frozen BK229.out 1))
  go_ret
  exact ⟨by first | rfl | (simp [errW_none, errW_some] <;> rfl) | (simp [*, errW_none, errW_some] <;> rfl), by repeat (first | (with_reducible first | exact HB.out | apply below_alloc | apply pw_below_drewN | apply below_drew1 | refine below_set ?_ GE229.out) | exact HB.out)⟩

/-! ### impl_firstPass: function 60 -/
/-- Is the beam behind k steps at this place? -/
def fwHit (W H : Int) (b : S30) (px py : Int) (k : Nat) : Bool := decide ((fwSt W H b k).1.f0 = px) && decide ((fwSt W H b k).1.f1 = py)
def fwPassN (W H : Int) (b : S30) (px py : Int) : Nat := fwN W H b (2 * W * H) (fwHit W H b px py)
def impl_firstPass.f (a0_0 : Int) (a0_1 : Int) (a1_0 : Int) (a1_1 : Int) (a1_2 : Bool) (a1_3 : Bool) (a2 : Int) (a3 : Int) : Option (Int) :=
  if (1 ≤ a0_0 ∧ a0_0 ≤ 60) ∧ 1 ≤ a0_1 ∧ a0_1 ≤ 60 then some (if fwHit a0_0 a0_1 ⟨a1_0, a1_1, a1_2, a1_3⟩ a2 a3 (fwPassN a0_0 a0_1 ⟨a1_0, a1_1, a1_2, a1_3⟩ a2 a3) = true then (fwPassN a0_0 a0_1 ⟨a1_0, a1_1, a1_2, a1_3⟩ a2 a3 : Int) else -1) else none
set_option maxHeartbeats 4000000 in
theorem impl_firstPass.one (cb xb yb : Nat) (k x y px py v : Int) (r u : Bool) (s : ByteArray) (w : World) (hlt : cb < w.heap.size) (hx : xb < w.heap.size) (hy : yb < w.heap.size) (hc : w.heap[cb]? = some (.cells #[.int .i64 v] 3 (0, 0))) (hcx : w.heap[xb]? = some (.cells #[.int .i64 px] 3 (0, 0))) (hcy : w.heap[yb]? = some (.cells #[.int .i64 py] 3 (0, 0))) (hk : 0 ≤ k) (hv : v = -1) :
    Calls Try.prog 92 #[.int .i64 k, .agg #[.int .i64 x, .int .i64 y, .bool r, .bool u], .string s, .pointer (some ⟨xb, 0, none⟩), .pointer (some ⟨yb, 0, none⟩), .pointer (some ⟨cb, 0, none⟩)] w fun e w' => e = .returned (.bool (decide (x = px) && decide (y = py))) ∧ w'.heap[cb]? = some (.cells #[.int .i64 (if (decide (x = px) && decide (y = py)) = true then k else v)] 3 (0, 0)) ∧ FwMv cb w w' := by
  subst hv
  have hal := below_alloc (Below.refl _ w) (.cells #[.int .i64 x, .int .i64 y, .bool r, .bool u] 30 (0, 0))
  have q1 := (hal.block _ hlt).trans hc
  have q2 := (hal.block _ hx).trans hcx
  have q3 := (hal.block _ hy).trans hcy
  have c1 := (fw_cells q1 0).1
  have c2 := (fw_cells q2 0).1
  have c3 := (fw_cells q3 0).1
  have f1 := (fw_cells q1 0).2
  simp at c1 c2 c3
  have HC := Aside0.mk hc
  have HW := Aside0.mk hal
  have HQ := Aside0.mk q1
  clear hc hcx hcy q1 q2 q3 hal
  by_cases h1 : x = px
  · by_cases h2 : y = py
    · subst h1 h2
      have d5 : decide (0 ≤ k) = true := decide_eq_true hk
      have g1 := heap_setCell_same w cb 0 _ 3 (.int .i64 k) HC.out
      have hb2 := below_alloc (Below.refl _ (w.setCell ⟨cb, 0, none⟩ (.int .i64 k))) (.cells #[.int .i64 x, .int .i64 y, .bool r, .bool u] 30 (0, 0))
      have g2 := (hb2.block cb (by simpa using hlt)).trans g1
      have g3 := (fw_cells g2 0).1
      simp at g3
      have G2 := Aside0.mk g2
      have HM := Aside0.mk ((fw_set (w := w) (g := cb) (i := 0) (.int .i64 k)).trans (FwMv.of_below hb2))
      clear g1 hb2 g2
      go_enter Try.func92, Try.ntmps92
      go_wp2
      all_goals go_ret
      all_goals exact ⟨by simp [hk], by simpa using G2.out, HM.out⟩
    · have d3 : (y == py) = false := by simpa using h2
      have d4 : decide (0 ≤ (-1 : Int)) = false := by decide
      subst h1
      go_enter Try.func92, Try.ntmps92
      go_wp2
      all_goals go_ret
      all_goals exact ⟨by simp [h2], by simpa [h2] using HQ.out, FwMv.of_below HW.out⟩
  · have d3 : (x == px) = false := by simpa using h1
    have d4 : decide (0 ≤ (-1 : Int)) = false := by decide
    go_enter Try.func92, Try.ntmps92
    go_wp2
    all_goals go_ret
    all_goals exact ⟨by simp [h1], by simpa [h1] using HQ.out, FwMv.of_below HW.out⟩
theorem fw_five (w : World) (o1 o2 o3 o4 o5 : Obj) : (((((w.alloc o1).alloc o2).alloc o3).alloc o4).alloc o5).heap[w.heap.size]? = some o1 ∧ (((((w.alloc o1).alloc o2).alloc o3).alloc o4).alloc o5).heap[w.heap.size + 1]? = some o2 ∧ (((((w.alloc o1).alloc o2).alloc o3).alloc o4).alloc o5).heap[w.heap.size + 2]? = some o3 ∧ (((((w.alloc o1).alloc o2).alloc o3).alloc o4).alloc o5).heap[w.heap.size + 3]? = some o4 ∧ (((((w.alloc o1).alloc o2).alloc o3).alloc o4).alloc o5).heap[w.heap.size + 4]? = some o5 ∧ (((((w.alloc o1).alloc o2).alloc o3).alloc o4).alloc o5).heap.size = w.heap.size + 5 := by
  obtain ⟨h1, h2, h3, h4⟩ := fw_three w o1 o2 o3
  obtain ⟨k1, k2, k3⟩ := fw_two (((w.alloc o1).alloc o2).alloc o3) o4 o5
  have b := below_alloc (below_alloc (Below.refl _ (((w.alloc o1).alloc o2).alloc o3)) o4) o5
  rw [h4] at k1 k2 k3 b
  exact ⟨(b.block _ (by omega)).trans h1, (b.block _ (by omega)).trans h2, (b.block _ (by omega)).trans h3, k1, k2, k3⟩
structure fpI (wb : World) (cb : Nat) (v : Nat → Int) (k : Nat) (wr : World) : Prop where
  old : FwOld (fun i => i = cb) wb wr
  cell : wr.heap[cb]? = some (.cells #[.int .i64 (v k)] 3 (0, 0))
def fpV (hit : Nat → Bool) : Nat → Int
  | 0 => -1
  | k + 1 => if hit k = true then (k : Int) else -1
theorem fp_bounds {W H : Int} (h : (1 ≤ W ∧ W ≤ 60) ∧ 1 ≤ H ∧ H ≤ 60) : 0 ≤ 2 * W * H ∧ 2 * W * H ≤ 7200 ∧ wrap64 (wrap64 (2 * W) * H) = 2 * W * H := by
  have e1 : wrap64 (2 * W) = 2 * W := by unfold wrap64; omega
  have h1 : (2 * W * H).natAbs ≤ 120 * 60 := by rw [Int.natAbs_mul]; exact Nat.mul_le_mul (by omega) (by omega)
  have h2 : 0 ≤ 2 * W * H := Int.mul_nonneg (by omega) (by omega)
  refine ⟨h2, by omega, ?_⟩
  rw [e1]
  unfold wrap64
  omega
/-- The way with the closure that looks for a place. -/
theorem impl_firstPass.way (W H x y : Int) (r u : Bool) (px py : Int) (hh : (1 ≤ W ∧ W ≤ 60) ∧ 1 ≤ H ∧ H ≤ 60) (cb xb yb : Nat) (wb : World) (hlt : cb < wb.heap.size) (hx : xb < wb.heap.size) (hy : yb < wb.heap.size) (hxc : xb ≠ cb) (hyc : yb ≠ cb) (hc : wb.heap[cb]? = some (.cells #[.int .i64 (-1)] 3 (0, 0))) (hcx : wb.heap[xb]? = some (.cells #[.int .i64 px] 3 (0, 0))) (hcy : wb.heap[yb]? = some (.cells #[.int .i64 py] 3 (0, 0))) :
    Calls Try.prog 63 #[.agg #[.int .i64 W, .int .i64 H], .agg #[.int .i64 x, .int .i64 y, .bool r, .bool u], .int .i64 (2 * W * H), .func (.func 92) #[] #[.pointer (some ⟨xb, 0, none⟩), .pointer (some ⟨yb, 0, none⟩), .pointer (some ⟨cb, 0, none⟩)]] wb fun e w' =>
      e = .returned (.tuple #[]) ∧ FwOld (fun i => i = cb) wb w' ∧ w'.heap[cb]? = some (.cells #[.int .i64 (if fwHit W H ⟨x, y, r, u⟩ px py (fwPassN W H ⟨x, y, r, u⟩ px py) = true then (fwPassN W H ⟨x, y, r, u⟩ px py : Int) else -1)] 3 (0, 0)) := by
  have hb := fp_bounds hh
  obtain ⟨n1, n2, n3⟩ := fwN_is W H ⟨x, y, r, u⟩ (2 * W * H) (fwHit W H ⟨x, y, r, u⟩ px py) hb.1
  refine (impl_follow.calls W H x y r u (2 * W * H) 92 #[.pointer (some ⟨xb, 0, none⟩), .pointer (some ⟨yb, 0, none⟩), .pointer (some ⟨cb, 0, none⟩)] (fw_enters Try.func92 (by kernel_rfl) rfl) (fpI wb cb (fpV (fwHit W H ⟨x, y, r, u⟩ px py))) (fwHit W H ⟨x, y, r, u⟩ px py) (fwPassN W H ⟨x, y, r, u⟩ px py) wb (by unfold fwPassN; omega) n3 n2 ⟨FwOld.refl _ _, hc⟩ ?_ ?_).mono ?_
  · intro k W1 W2 hI hm
    exact ⟨hI.old.mv hm (.inl (by omega)), (hm.block cb (Nat.lt_of_lt_of_le hlt hI.old.size) (by omega)).trans hI.cell⟩
  · intro k Wd hk hz hI
    have hv : fpV (fwHit W H ⟨x, y, r, u⟩ px py) k = -1 := by
      cases k with
      | zero => rfl
      | succ j =>
        have := (n3 j hk).1
        simp only [fpV, this, Bool.false_eq_true, if_false]
    refine (impl_firstPass.one cb xb yb (k : Int) _ _ px py _ _ _ _ Wd (Nat.lt_of_lt_of_le hlt hI.old.size) (Nat.lt_of_lt_of_le hx hI.old.size) (Nat.lt_of_lt_of_le hy hI.old.size) hI.cell ((hI.old.block xb hx hxc).trans hcx) ((hI.old.block yb hy hyc).trans hcy) (by omega) hv).mono ?_
    rintro e w2 ⟨rfl, hc2, hm2⟩
    rw [hv] at hc2
    exact ⟨rfl, ⟨hI.old.mv hm2 (.inr rfl), hc2⟩, ⟨hm2.size, hm2.block _ (by omega) (by omega), hm2.block _ hz (by omega)⟩⟩
  · rintro e w2 ⟨rfl, hI⟩
    exact ⟨rfl, hI.old, hI.cell⟩
set_option maxHeartbeats 8000000 in
set_option maxRecDepth 100000 in
theorem impl_firstPass.calls (a0_0 : Int) (a0_1 : Int) (a1_0 : Int) (a1_1 : Int) (a1_2 : Bool) (a1_3 : Bool) (a2 : Int) (a3 : Int) (r : Int) (w : World) (h : impl_firstPass.f a0_0 a0_1 a1_0 a1_1 a1_2 a1_3 a2 a3 = some r) :
    Calls Try.prog 60 #[.agg #[.int .i64 a0_0, .int .i64 a0_1], .agg #[.int .i64 a1_0, .int .i64 a1_1, .bool a1_2, .bool a1_3], .int .i64 a2, .int .i64 a3] w fun e w' => e = .returned (.int .i64 r) ∧ Below w.heap.size w w' := by
  unfold impl_firstPass.f at h
  by_cases hh : (1 ≤ a0_0 ∧ a0_0 ≤ 60) ∧ 1 ≤ a0_1 ∧ a0_1 ≤ 60
  · rw [if_pos hh] at h
    have HR := Aside0.mk (Option.some.inj h)
    have hb := fp_bounds hh
    have HH := Aside0.mk hh
    have HA : Aside0 (impl_around.f a0_0 a0_1 = some (2 * a0_0 * a0_1)) := ⟨by unfold impl_around.f; rw [hb.2.2]⟩
    clear h hh hb
    obtain ⟨p1, p2, p3, p4, p5, ps⟩ := fw_five w (.cells #[.int .i64 a0_0, .int .i64 a0_1] 28 (0, 0)) (.cells #[.int .i64 a1_0, .int .i64 a1_1, .bool a1_2, .bool a1_3] 30 (0, 0)) (.cells #[.int .i64 a2] 3 (0, 0)) (.cells #[.int .i64 a3] 3 (0, 0)) (.cells #[.int .i64 (-1)] 3 (0, 0))
    have HB := Aside0.mk (below_alloc (below_alloc (below_alloc (below_alloc (below_alloc (Below.refl _ w) (.cells #[.int .i64 a0_0, .int .i64 a0_1] 28 (0, 0))) (.cells #[.int .i64 a1_0, .int .i64 a1_1, .bool a1_2, .bool a1_3] 30 (0, 0))) (.cells #[.int .i64 a2] 3 (0, 0))) (.cells #[.int .i64 a3] 3 (0, 0))) (.cells #[.int .i64 (-1)] 3 (0, 0)))
    have P := Aside0.mk (And.intro p1 (And.intro p2 (And.intro p3 (And.intro p4 (And.intro p5 ps)))))
    clear p1 p2 p3 p4 p5 ps
    go_enter Try.func60, Try.ntmps60
    go_wp2_with fail
    have hu28 := Try.underlying28
    have hu30 := Try.underlying30
    obtain ⟨w5, hw5⟩ : ∃ w5, w5 = (((((w.alloc (.cells #[.int .i64 a0_0, .int .i64 a0_1] 28 (0, 0))).alloc (.cells #[.int .i64 a1_0, .int .i64 a1_1, .bool a1_2, .bool a1_3] 30 (0, 0))).alloc (.cells #[.int .i64 a2] 3 (0, 0))).alloc (.cells #[.int .i64 a3] 3 (0, 0))).alloc (.cells #[.int .i64 (-1)] 3 (0, 0))) := ⟨_, rfl⟩
    rw [← hw5] at P HB ⊢
    clear hw5
    have HD : Aside0 (w5.drew.heap[w.heap.size]? = some (.cells #[.int .i64 a0_0, .int .i64 a0_1] 28 (0, 0)) ∧ w5.drew.heap[w.heap.size + 1]? = some (.cells #[.int .i64 a1_0, .int .i64 a1_1, .bool a1_2, .bool a1_3] 30 (0, 0)) ∧ w5.drew.heap[w.heap.size + 2]? = some (.cells #[.int .i64 a2] 3 (0, 0)) ∧ w5.drew.heap[w.heap.size + 3]? = some (.cells #[.int .i64 a3] 3 (0, 0)) ∧ w5.drew.heap[w.heap.size + 4]? = some (.cells #[.int .i64 (-1)] 3 (0, 0)) ∧ w5.drew.heap.size = w.heap.size + 5) := ⟨P.out⟩
    have HBD := Aside0.mk (below_step HB.out (below_drew (Below.refl _ w5)))
    clear P HB
    have C1 := (fw_cells HD.out.1)
    have C2 := (fw_cells HD.out.2.1)
    refine start_ (n := 6) (S := fun w' => w'.cell? ⟨w.heap.size, 0, none⟩ = some (.int .i64 a0_0) ∧ w'.cell? ⟨w.heap.size, 1, none⟩ = some (.int .i64 a0_1) ∧ w'.cell? ⟨w.heap.size + 1, 0, none⟩ = some (.int .i64 a1_0) ∧ w'.cell? ⟨w.heap.size + 1, 1, none⟩ = some (.int .i64 a1_1) ∧ w'.cell? ⟨w.heap.size + 1, 2, none⟩ = some (.bool a1_2) ∧ w'.cell? ⟨w.heap.size + 1, 3, none⟩ = some (.bool a1_3)) (ds := [5]) #[false, false, false, false, false, false] (by kernel_rfl) rfl rfl ⟨(C1 0).1, (C1 1).1, (C2 0).1, (C2 1).1, (C2 2).1, (C2 3).1⟩ (fun hHeld => ?_)
    clear C1 C2
    generalize w5.drew = w10 at HD HBD hHeld ⊢
    refine pure_ (i := 4) (N := some 14) (v := ?_) (a' := ?_) #[false, false, false, false, true, false] rfl rfl (by kernel_rfl) (fun _ _ _ h => h) (Or.inl ⟨by rfl, ?_⟩) ?_ ?_
    rotate_left
    · intro w'
      go_simp
      with_reducible rfl
    rotate_left
    · simp only [Act.put, List.setIfInBounds_toArray, List.set_cons_zero, List.set_cons_succ, i64_w, i32_w]
      rfl
    refine take_ (i := 0) (N := some 10) (v := ?_) (a' := ?_) #[true, false, false, false, true, false] rfl rfl (by kernel_rfl) (fun _ _ _ h => h) (Or.inl ⟨by rfl, ?_⟩) hHeld ?_ ?_
    rotate_left
    · rintro w' ⟨s0, s1, s2, s3, s4, s5⟩
      go_simp
      with_reducible rfl
    rotate_left
    · simp only [Act.put, List.setIfInBounds_toArray, List.set_cons_zero, List.set_cons_succ, i64_w, i32_w]
      rfl
    refine take_ (i := 1) (N := some 11) (v := ?_) (a' := ?_) #[true, true, false, false, true, false] rfl rfl (by kernel_rfl) (fun _ _ _ h => h) (Or.inl ⟨by rfl, ?_⟩) hHeld ?_ ?_
    rotate_left
    · rintro w' ⟨s0, s1, s2, s3, s4, s5⟩
      go_simp
      with_reducible rfl
    rotate_left
    · simp only [Act.put, List.setIfInBounds_toArray, List.set_cons_zero, List.set_cons_succ, i64_w, i32_w]
      rfl
    refine take_ (i := 2) (N := some 12) (v := ?_) (a' := ?_) #[true, true, true, false, true, false] rfl rfl (by kernel_rfl) (fun _ _ _ h => h) (Or.inl ⟨by rfl, ?_⟩) hHeld ?_ ?_
    rotate_left
    · rintro w' ⟨s0, s1, s2, s3, s4, s5⟩
      go_simp
      with_reducible rfl
    rotate_left
    · simp only [Act.put, List.setIfInBounds_toArray, List.set_cons_zero, List.set_cons_succ, i64_w, i32_w]
      rfl
    refine one_ (i := 3) (N := some 13) #[true, true, true, true, true, false] rfl rfl (by kernel_rfl) (by decide) (fun K hK => ?_)
    refine goes_ Try.func64 (by kernel_rfl) rfl #[.agg #[.int .i64 a0_0, .int .i64 a0_1]] (by rfl) rfl rfl (by (try simp only [List.map_toArray, List.map_cons, List.map_nil]); first | done | rfl | (simp only [List.length_drop, List.length_take]; rfl)) ?_
    with_reducible refine (impl_around.calls a0_0 a0_1 (2 * a0_0 * a0_1) _ HA.out).mono ?_
    rintro e w11 ⟨rfl, hb⟩
    refine ⟨_, rfl, ?_⟩
    have hz : w.heap.size + 4 < w10.heap.size := by rw [HD.out.2.2.2.2.2]; omega
    have q1 := (hb.block w.heap.size (by omega)).trans HD.out.1
    have q2 := (hb.block (w.heap.size + 1) (by omega)).trans HD.out.2.1
    have q3 := (hb.block (w.heap.size + 2) (by omega)).trans HD.out.2.2.1
    have q4 := (hb.block (w.heap.size + 3) (by omega)).trans HD.out.2.2.2.1
    have q5 := (hb.block (w.heap.size + 4) (by omega)).trans HD.out.2.2.2.2.1
    have hz2 : w.heap.size + 4 < w11.heap.size := Nat.lt_of_lt_of_le hz hb.size
    have HB11 := Aside0.mk (below_step HBD.out hb)
    have HWAY := Aside0.mk (impl_firstPass.way a0_0 a0_1 a1_0 a1_1 a1_2 a1_3 a2 a3 HH.out (w.heap.size + 4) (w.heap.size + 2) (w.heap.size + 3) w11 hz2 (by omega) (by omega) (by omega) (by omega) q5 q3 q4)
    refine hK.out _ _ ⟨(fw_cells q1 0).1, (fw_cells q1 1).1, (fw_cells q2 0).1, (fw_cells q2 1).1, (fw_cells q2 2).1, (fw_cells q2 3).1⟩ (fun hHeld => ?_)
    clear hK K q1 q2 q3 q4 q5 HD HBD hb
    refine norm_ (a' := ?_) ?_ ?_
    rotate_left
    · show Act.put _ (some 13) _ = _
      simp only [Act.put, List.setIfInBounds_toArray, List.set_cons_zero, List.set_cons_succ, i64_w, i32_w]
      rfl
    refine last_ (i := 5) (N := some 15) #[true, true, true, true, true, true] rfl rfl (by kernel_rfl) (by decide) (fun K hK => ?_)
    refine goes_ Try.func63 (by kernel_rfl) rfl #[.agg #[.int .i64 a0_0, .int .i64 a0_1], .agg #[.int .i64 a1_0, .int .i64 a1_1, .bool a1_2, .bool a1_3], .int .i64 (2 * a0_0 * a0_1), .func (.func 92) #[] #[.pointer (some ⟨w.heap.size + 2, 0, none⟩), .pointer (some ⟨w.heap.size + 3, 0, none⟩), .pointer (some ⟨w.heap.size + 4, 0, none⟩)]] (by rfl) rfl rfl (by (try simp only [List.map_toArray, List.map_cons, List.map_nil]); first | done | rfl | (simp only [List.length_drop, List.length_take]; rfl)) ?_
    refine HWAY.out.mono ?_
    rintro e w12 ⟨rfl, ho, hc⟩
    refine ⟨_, rfl, ?_⟩
    rw [HR.out] at hc
    have c1 := (fw_cells hc 0).1
    simp at c1
    have HB12 := Aside0.mk (FwOld.below (S := fun i => i = w.heap.size + 4) HB11.out ho (fun i hi => by omega))
    refine hK.out _ _ ?_
    clear hK K hc ho HWAY HB11 hHeld
    refine done_ (by kernel_rfl) ?_
    go_wp2_with fail
    go_ret
    exact ⟨rfl, HB12.out⟩
  · rw [if_neg hh] at h
    cases h

/-! ### impl_FirstPass: function 22 -/
def impl_FirstPass.f (a0_0 : Int) (a0_1 : Int) (a1_0 : Int) (a1_1 : Int) (a1_2 : Bool) (a1_3 : Bool) (a2 : Int) (a3 : Int) : Option (Int × Bool) := (impl_areOn.f a0_0 a0_1 a1_0 a1_1 a1_2 a1_3 a2 a3).bind fun t232 => (if t232 = true then ((impl_firstPass.f a0_0 a0_1 a1_0 a1_1 a1_2 a1_3 a2 a3).bind fun t233 => (some (mx 0 t233, decide (t233 ≥ 0)))) else (some (0, false)))
set_option maxHeartbeats 8000000 in
set_option maxRecDepth 100000 in
theorem impl_FirstPass.calls (a0_0 : Int) (a0_1 : Int) (a1_0 : Int) (a1_1 : Int) (a1_2 : Bool) (a1_3 : Bool) (a2 : Int) (a3 : Int) (r1 : Int) (r2 : Bool) (w : World) (h : impl_FirstPass.f a0_0 a0_1 a1_0 a1_1 a1_2 a1_3 a2 a3 = some (r1, r2)) :
    Calls Try.prog 22 #[.agg #[.int .i64 a0_0, .int .i64 a0_1], .agg #[.int .i64 a1_0, .int .i64 a1_1, .bool a1_2, .bool a1_3], .int .i64 a2, .int .i64 a3] w fun e w' => e = .returned (.tuple #[.int .i64 r1, .bool r2]) ∧ Below w.heap.size w w' := by
  have hu28 := Try.underlying28
  have hu30 := Try.underlying30
  have HB := Aside0.mk (Below.refl w.heap.size w)
  have H : ((impl_areOn.f a0_0 a0_1 a1_0 a1_1 a1_2 a1_3 a2 a3).bind fun t232 => (if t232 = true then ((impl_firstPass.f a0_0 a0_1 a1_0 a1_1 a1_2 a1_3 a2 a3).bind fun t233 => (some (mx 0 t233, decide (t233 ≥ 0)))) else (some (0, false)))) = some (r1, r2) := h
  clear h
  replace H := Option.bind_eq_some_iff.mp H
  obtain ⟨t232, A50, H⟩ := H
  replace H : (if t232 = true then ((impl_firstPass.f a0_0 a0_1 a1_0 a1_1 a1_2 a1_3 a2 a3).bind fun t233 => (some (mx 0 t233, decide (t233 ≥ 0)))) else (some (0, false))) = some (r1, r2) := H
  have A5 := Aside0.mk A50
  clear A50
  by_cases c6 : t232 = true
  · subst c6
    have H1 : ((impl_firstPass.f a0_0 a0_1 a1_0 a1_1 a1_2 a1_3 a2 a3).bind fun t233 => (some (mx 0 t233, decide (t233 ≥ 0)))) = some (r1, r2) := by rw [if_pos rfl] at H; exact H
    clear H
    have H := H1
    clear H1
    replace H := Option.bind_eq_some_iff.mp H
    obtain ⟨t233, A70, H⟩ := H
    replace H : (some (mx 0 t233, decide (t233 ≥ 0))) = some (r1, r2) := H
    have A7 := Aside0.mk A70
    clear A70
    obtain ⟨ji8, hji8⟩ : ∃ j_ : Int, (mx 0 t233) = j_ := ⟨_, rfl⟩
    replace H : (some (ji8, decide (t233 ≥ 0))) = some (r1, r2) := by first | (rw [hji8] at H; exact H) | (simp only [hji8] at H ⊢; exact H)
    (try rw [hji8] at A5)
    (try rw [hji8] at A7)
    (try (have hji8l : 0 ≤ ji8 := by (rw [← hji8]; unfold mx; (repeat' split) <;> omega)))
    (try (have hji8m : 0 ≤ ji8 := by omega))
    have hji8_ : (if 0 < t233 then t233 else 0) = ji8 := hji8
    simp only [Option.some.injEq, Prod.mk.injEq] at H
    obtain ⟨rfl, rfl⟩ := H
    go_enter Try.func22, Try.ntmps22
    go_wp2_with (first | ((with_reducible refine gate_dst (N := 4) rfl ?_); refine box_event ?hg (N := 4) ?hd (cs := #[.int .i64 a0_0, .int .i64 a0_1]) (t := 28) ?hr ?_; (case hd => rfl); (case hg => rfl); (case hr => first | (go_simp; done) | (go_simp; rfl)); intro gb230 hg w9 hbox hb; have n0_ := Aside0.mk (below_step (by repeat (first | (with_reducible first | exact HB.out | apply below_alloc | apply pw_below_drewN | apply below_drew1) | exact HB.out)) hb); have n1_ := Aside0.mk (hbox); have n2_ := Aside0.mk ((by rw [hg]; exact (below_size (by repeat (first | (with_reducible first | exact HB.out | apply below_alloc | apply pw_below_drewN | apply below_drew1) | exact HB.out))) : w.heap.size ≤ gb230)); have n3_ := Aside0.mk ((by rw [hg]; exact (below_size (by repeat (first | (with_reducible first | exact HB.out | apply below_alloc | apply pw_below_drewN | apply below_drew1) | exact HB.out))) : w.heap.size ≤ gb230)); clear HB; have HB := n0_; have BK230 := n1_; have GW230 := n2_; have GE230 := n3_; clear n0_ n1_ n2_ n3_; clear hb hbox hg) | ((with_reducible refine gate_dst (N := 5) rfl ?_); refine box_event ?hg (N := 5) ?hd (cs := #[.int .i64 a1_0, .int .i64 a1_1, .bool a1_2, .bool a1_3]) (t := 30) ?hr ?_; (case hd => rfl); (case hg => rfl); (case hr => first | (go_simp; done) | (go_simp; rfl)); intro gb231 hg w10 hbox hb; have n0_ := Aside0.mk (blk_below (g := gb230) (o := .cells #[.int .i64 a0_0, .int .i64 a0_1] 28 (0, 0)) (by (with_reducible repeat (first | refine blk_drewN ?_ _ | refine blk_drew ?_ | refine blk_alloc ?_ _)); exact BK230.out) hb); have n1_ := Aside0.mk (below_step (by repeat (first | (with_reducible first | exact HB.out | apply below_alloc | apply pw_below_drewN | apply below_drew1 | refine below_set ?_ GE230.out) | exact HB.out)) hb); have n2_ := Aside0.mk (hbox); have n3_ := Aside0.mk ((by rw [hg]; exact (below_size (by repeat (first | (with_reducible first | exact HB.out | apply below_alloc | apply pw_below_drewN | apply below_drew1 | refine below_set ?_ GE230.out) | exact HB.out))) : w.heap.size ≤ gb231)); have n4_ := Aside0.mk ((by rw [hg]; exact (below_size (by repeat (first | (with_reducible first | exact HB.out | apply below_alloc | apply pw_below_drewN | apply below_drew1 | refine below_set ?_ GE230.out) | exact HB.out))) : w.heap.size ≤ gb231)); have n5_ := Aside0.mk ((by rw [hg]; exact Nat.ne_of_lt (blk_lt (g := gb230) (o := .cells #[.int .i64 a0_0, .int .i64 a0_1] 28 (0, 0)) (by (with_reducible repeat (first | refine blk_drewN ?_ _ | refine blk_drew ?_ | refine blk_alloc ?_ _)); exact BK230.out)) : gb230 ≠ gb231)); have n6_ := Aside0.mk ((by rw [hg]; exact Nat.ne_of_gt (blk_lt (g := gb230) (o := .cells #[.int .i64 a0_0, .int .i64 a0_1] 28 (0, 0)) (by (with_reducible repeat (first | refine blk_drewN ?_ _ | refine blk_drew ?_ | refine blk_alloc ?_ _)); exact BK230.out)) : gb231 ≠ gb230)); clear BK230; clear HB; have BK230 := n0_; have HB := n1_; have BK231 := n2_; have GW231 := n3_; have GE231 := n4_; have NB230_231 := n5_; have NB231_230 := n6_; clear n0_ n1_ n2_ n3_ n4_ n5_ n6_; clear hb hbox hg; have hnb11 := NB230_231.out; have hnc11 := NB231_230.out; have hcz12_0 : w10.cell? ⟨gb230, 0, none⟩ = some (.int .i64 a0_0) := (blk_cell BK230.out 0).trans rfl; have hcz12_1 : w10.cell? ⟨gb230, 1, none⟩ = some (.int .i64 a0_1) := (blk_cell BK230.out 1).trans rfl; have hfz12_0 := blk_frozen BK230.out 0; have hfz12_1 := blk_frozen BK230.out 1; have hcz13_0 : w10.cell? ⟨gb231, 0, none⟩ = some (.int .i64 a1_0) := (blk_cell BK231.out 0).trans rfl; have hcz13_1 : w10.cell? ⟨gb231, 1, none⟩ = some (.int .i64 a1_1) := (blk_cell BK231.out 1).trans rfl; have hcz13_2 : w10.cell? ⟨gb231, 2, none⟩ = some (.bool a1_2) := (blk_cell BK231.out 2).trans rfl; have hcz13_3 : w10.cell? ⟨gb231, 3, none⟩ = some (.bool a1_3) := (blk_cell BK231.out 3).trans rfl; have hfz13_0 := blk_frozen BK231.out 0; have hfz13_1 := blk_frozen BK231.out 1; have hfz13_2 := blk_frozen BK231.out 2; have hfz13_3 := blk_frozen BK231.out 3) | ((with_reducible refine gate_callee (f := 59) rfl ?_); refine goesL_ (some 15) rfl rfl Try.func59 (by kernel_rfl) rfl #[.agg #[.int .i64 a0_0, .int .i64 a0_1], .agg #[.int .i64 a1_0, .int .i64 a1_1, .bool a1_2, .bool a1_3], .int .i64 a2, .int .i64 a3] rfl (by (try simp only [List.map_toArray, List.map_cons, List.map_nil]); first | done | rfl | (simp only [List.length_drop, List.length_take]; rfl)) ?_; (with_reducible refine (impl_areOn.calls a0_0 a0_1 a1_0 a1_1 a1_2 a1_3 a2 a3 true _ A5.out).mono ?_); rintro e w14 ⟨rfl, hb⟩; refine ⟨_, rfl, ?_⟩; have n0_ := Aside0.mk (blk_below (g := gb230) (o := .cells #[.int .i64 a0_0, .int .i64 a0_1] 28 (0, 0)) (by (with_reducible repeat (first | refine blk_drewN ?_ _ | refine blk_drew ?_ | refine blk_alloc ?_ _)); exact BK230.out) hb); have n1_ := Aside0.mk (blk_below (g := gb231) (o := .cells #[.int .i64 a1_0, .int .i64 a1_1, .bool a1_2, .bool a1_3] 30 (0, 0)) (by (with_reducible repeat (first | refine blk_drewN ?_ _ | refine blk_drew ?_ | refine blk_alloc ?_ _)); exact BK231.out) hb); have n2_ := Aside0.mk (below_step (by repeat (first | (with_reducible first | exact HB.out | apply below_alloc | apply pw_below_drewN | apply below_drew1 | refine below_set ?_ GE230.out | refine below_set ?_ GE231.out) | exact HB.out)) hb); clear BK230; clear BK231; clear HB; have BK230 := n0_; have BK231 := n1_; have HB := n2_; clear n0_ n1_ n2_; (try clear hb); (try clear hb2); (try clear hk); (try clear hi); have hcz15_0 : w14.cell? ⟨gb230, 0, none⟩ = some (.int .i64 a0_0) := (blk_cell BK230.out 0).trans rfl; have hcz15_1 : w14.cell? ⟨gb230, 1, none⟩ = some (.int .i64 a0_1) := (blk_cell BK230.out 1).trans rfl; have hfz15_0 := blk_frozen BK230.out 0; have hfz15_1 := blk_frozen BK230.out 1; have hcz16_0 : w14.cell? ⟨gb231, 0, none⟩ = some (.int .i64 a1_0) := (blk_cell BK231.out 0).trans rfl; have hcz16_1 : w14.cell? ⟨gb231, 1, none⟩ = some (.int .i64 a1_1) := (blk_cell BK231.out 1).trans rfl; have hcz16_2 : w14.cell? ⟨gb231, 2, none⟩ = some (.bool a1_2) := (blk_cell BK231.out 2).trans rfl; have hcz16_3 : w14.cell? ⟨gb231, 3, none⟩ = some (.bool a1_3) := (blk_cell BK231.out 3).trans rfl; have hfz16_0 := blk_frozen BK231.out 0; have hfz16_1 := blk_frozen BK231.out 1; have hfz16_2 := blk_frozen BK231.out 2; have hfz16_3 := blk_frozen BK231.out 3) | ((with_reducible refine gate_callee (f := 60) rfl ?_); refine goesL_ (some 21) rfl rfl Try.func60 (by kernel_rfl) rfl #[.agg #[.int .i64 a0_0, .int .i64 a0_1], .agg #[.int .i64 a1_0, .int .i64 a1_1, .bool a1_2, .bool a1_3], .int .i64 a2, .int .i64 a3] rfl (by (try simp only [List.map_toArray, List.map_cons, List.map_nil]); first | done | rfl | (simp only [List.length_drop, List.length_take]; rfl)) ?_; (with_reducible refine (impl_firstPass.calls a0_0 a0_1 a1_0 a1_1 a1_2 a1_3 a2 a3 t233 _ A7.out).mono ?_); rintro e w17 ⟨rfl, hb⟩; refine ⟨_, rfl, ?_⟩; have n0_ := Aside0.mk (blk_below (g := gb230) (o := .cells #[.int .i64 a0_0, .int .i64 a0_1] 28 (0, 0)) (by (with_reducible repeat (first | refine blk_drewN ?_ _ | refine blk_drew ?_ | refine blk_alloc ?_ _)); exact BK230.out) hb); have n1_ := Aside0.mk (blk_below (g := gb231) (o := .cells #[.int .i64 a1_0, .int .i64 a1_1, .bool a1_2, .bool a1_3] 30 (0, 0)) (by (with_reducible repeat (first | refine blk_drewN ?_ _ | refine blk_drew ?_ | refine blk_alloc ?_ _)); exact BK231.out) hb); have n2_ := Aside0.mk (below_step (by repeat (first | (with_reducible first | exact HB.out | apply below_alloc | apply pw_below_drewN | apply below_drew1 | refine below_set ?_ GE230.out | refine below_set ?_ GE231.out) | exact HB.out)) hb); clear BK230; clear BK231; clear HB; have BK230 := n0_; have BK231 := n1_; have HB := n2_; clear n0_ n1_ n2_; (try clear hb); (try clear hb2); (try clear hk); (try clear hi)))
    go_ret2
    exact ⟨by first | rfl | (simp [errW_none, errW_some] <;> rfl) | (simp only [← hji8]; first | rfl | (simp [errW_none, errW_some] <;> rfl)) | (simp [*, errW_none, errW_some] <;> rfl), by repeat (first | (with_reducible first | exact HB.out | apply below_alloc | apply pw_below_drewN | apply below_drew1 | refine below_set ?_ GE230.out | refine below_set ?_ GE231.out) | exact HB.out)⟩
  · replace c6 := Bool.eq_false_iff.mpr c6
    subst c6
    have H1 : (some (0, false)) = some (r1, r2) := by rw [if_neg (show ¬ (false = true) by decide)] at H; exact H
    clear H
    have H := H1
    clear H1
    simp only [Option.some.injEq, Prod.mk.injEq] at H
    obtain ⟨rfl, rfl⟩ := H
    go_enter Try.func22, Try.ntmps22
    go_wp2_with (first | ((with_reducible refine gate_dst (N := 4) rfl ?_); refine box_event ?hg (N := 4) ?hd (cs := #[.int .i64 a0_0, .int .i64 a0_1]) (t := 28) ?hr ?_; (case hd => rfl); (case hg => rfl); (case hr => first | (go_simp; done) | (go_simp; rfl)); intro gb230 hg w18 hbox hb; have n0_ := Aside0.mk (below_step (by repeat (first | (with_reducible first | exact HB.out | apply below_alloc | apply pw_below_drewN | apply below_drew1) | exact HB.out)) hb); have n1_ := Aside0.mk (hbox); have n2_ := Aside0.mk ((by rw [hg]; exact (below_size (by repeat (first | (with_reducible first | exact HB.out | apply below_alloc | apply pw_below_drewN | apply below_drew1) | exact HB.out))) : w.heap.size ≤ gb230)); have n3_ := Aside0.mk ((by rw [hg]; exact (below_size (by repeat (first | (with_reducible first | exact HB.out | apply below_alloc | apply pw_below_drewN | apply below_drew1) | exact HB.out))) : w.heap.size ≤ gb230)); clear HB; have HB := n0_; have BK230 := n1_; have GW230 := n2_; have GE230 := n3_; clear n0_ n1_ n2_ n3_; clear hb hbox hg) | ((with_reducible refine gate_dst (N := 5) rfl ?_); refine box_event ?hg (N := 5) ?hd (cs := #[.int .i64 a1_0, .int .i64 a1_1, .bool a1_2, .bool a1_3]) (t := 30) ?hr ?_; (case hd => rfl); (case hg => rfl); (case hr => first | (go_simp; done) | (go_simp; rfl)); intro gb231 hg w19 hbox hb; have n0_ := Aside0.mk (blk_below (g := gb230) (o := .cells #[.int .i64 a0_0, .int .i64 a0_1] 28 (0, 0)) (by (with_reducible repeat (first | refine blk_drewN ?_ _ | refine blk_drew ?_ | refine blk_alloc ?_ _)); exact BK230.out) hb); have n1_ := Aside0.mk (below_step (by repeat (first | (with_reducible first | exact HB.out | apply below_alloc | apply pw_below_drewN | apply below_drew1 | refine below_set ?_ GE230.out) | exact HB.out)) hb); have n2_ := Aside0.mk (hbox); have n3_ := Aside0.mk ((by rw [hg]; exact (below_size (by repeat (first | (with_reducible first | exact HB.out | apply below_alloc | apply pw_below_drewN | apply below_drew1 | refine below_set ?_ GE230.out) | exact HB.out))) : w.heap.size ≤ gb231)); have n4_ := Aside0.mk ((by rw [hg]; exact (below_size (by repeat (first | (with_reducible first | exact HB.out | apply below_alloc | apply pw_below_drewN | apply below_drew1 | refine below_set ?_ GE230.out) | exact HB.out))) : w.heap.size ≤ gb231)); have n5_ := Aside0.mk ((by rw [hg]; exact Nat.ne_of_lt (blk_lt (g := gb230) (o := .cells #[.int .i64 a0_0, .int .i64 a0_1] 28 (0, 0)) (by (with_reducible repeat (first | refine blk_drewN ?_ _ | refine blk_drew ?_ | refine blk_alloc ?_ _)); exact BK230.out)) : gb230 ≠ gb231)); have n6_ := Aside0.mk ((by rw [hg]; exact Nat.ne_of_gt (blk_lt (g := gb230) (o := .cells #[.int .i64 a0_0, .int .i64 a0_1] 28 (0, 0)) (by (with_reducible repeat (first | refine blk_drewN ?_ _ | refine blk_drew ?_ | refine blk_alloc ?_ _)); exact BK230.out)) : gb231 ≠ gb230)); clear BK230; clear HB; have BK230 := n0_; have HB := n1_; have BK231 := n2_; have GW231 := n3_; have GE231 := n4_; have NB230_231 := n5_; have NB231_230 := n6_; clear n0_ n1_ n2_ n3_ n4_ n5_ n6_; clear hb hbox hg; have hnb20 := NB230_231.out; have hnc20 := NB231_230.out; have hcz21_0 : w19.cell? ⟨gb230, 0, none⟩ = some (.int .i64 a0_0) := (blk_cell BK230.out 0).trans rfl; have hcz21_1 : w19.cell? ⟨gb230, 1, none⟩ = some (.int .i64 a0_1) := (blk_cell BK230.out 1).trans rfl; have hfz21_0 := blk_frozen BK230.out 0; have hfz21_1 := blk_frozen BK230.out 1; have hcz22_0 : w19.cell? ⟨gb231, 0, none⟩ = some (.int .i64 a1_0) := (blk_cell BK231.out 0).trans rfl; have hcz22_1 : w19.cell? ⟨gb231, 1, none⟩ = some (.int .i64 a1_1) := (blk_cell BK231.out 1).trans rfl; have hcz22_2 : w19.cell? ⟨gb231, 2, none⟩ = some (.bool a1_2) := (blk_cell BK231.out 2).trans rfl; have hcz22_3 : w19.cell? ⟨gb231, 3, none⟩ = some (.bool a1_3) := (blk_cell BK231.out 3).trans rfl; have hfz22_0 := blk_frozen BK231.out 0; have hfz22_1 := blk_frozen BK231.out 1; have hfz22_2 := blk_frozen BK231.out 2; have hfz22_3 := blk_frozen BK231.out 3) | ((with_reducible refine gate_callee (f := 59) rfl ?_); refine goesL_ (some 15) rfl rfl Try.func59 (by kernel_rfl) rfl #[.agg #[.int .i64 a0_0, .int .i64 a0_1], .agg #[.int .i64 a1_0, .int .i64 a1_1, .bool a1_2, .bool a1_3], .int .i64 a2, .int .i64 a3] rfl (by (try simp only [List.map_toArray, List.map_cons, List.map_nil]); first | done | rfl | (simp only [List.length_drop, List.length_take]; rfl)) ?_; (with_reducible refine (impl_areOn.calls a0_0 a0_1 a1_0 a1_1 a1_2 a1_3 a2 a3 false _ A5.out).mono ?_); rintro e w23 ⟨rfl, hb⟩; refine ⟨_, rfl, ?_⟩; have n0_ := Aside0.mk (blk_below (g := gb230) (o := .cells #[.int .i64 a0_0, .int .i64 a0_1] 28 (0, 0)) (by (with_reducible repeat (first | refine blk_drewN ?_ _ | refine blk_drew ?_ | refine blk_alloc ?_ _)); exact BK230.out) hb); have n1_ := Aside0.mk (blk_below (g := gb231) (o := .cells #[.int .i64 a1_0, .int .i64 a1_1, .bool a1_2, .bool a1_3] 30 (0, 0)) (by (with_reducible repeat (first | refine blk_drewN ?_ _ | refine blk_drew ?_ | refine blk_alloc ?_ _)); exact BK231.out) hb); have n2_ := Aside0.mk (below_step (by repeat (first | (with_reducible first | exact HB.out | apply below_alloc | apply pw_below_drewN | apply below_drew1 | refine below_set ?_ GE230.out | refine below_set ?_ GE231.out) | exact HB.out)) hb); clear BK230; clear BK231; clear HB; have BK230 := n0_; have BK231 := n1_; have HB := n2_; clear n0_ n1_ n2_; (try clear hb); (try clear hb2); (try clear hk); (try clear hi)))
    go_ret2
    exact ⟨by first | rfl | (simp [errW_none, errW_some] <;> rfl) | (simp [*, errW_none, errW_some] <;> rfl), by repeat (first | (with_reducible first | exact HB.out | apply below_alloc | apply pw_below_drewN | apply below_drew1 | refine below_set ?_ GE230.out | refine below_set ?_ GE231.out) | exact HB.out)⟩

end Go.Proofs.Ytipbgabbkkeefaa.PFnExactFirstPass
