-- Written by xprint.py, a program of this session, for this seat; Lean checks it.
import Derived.Test.YtlmiaadpnbehgaaGreatDoorVM
import Derived.Test.YtlmiaadpnbehgaaGreatDoorPFnBeamsEndx0
import Derived.Test.YtlmiaadpnbehgaaGreatDoorPFnBeamsEndx6
import Derived.Test.YtlmiaadpnbehgaaGreatDoorPFnBeamsEndx7
import Derived.Test.YtlmiaadpnbehgaaGreatDoorPFnBeamsEndx8
namespace Go.Proofs.YtlmiaadpnbehgaaGreatDoor.PFnBeamsEnd
open Go.Proofs.YtlmiaadpnbehgaaGreatDoorV Go.RowKit Go.Proofs.YtlmiaadpnbehgaaGreatDoorW.PrintWords Go.Proofs.YtlmiaadpnbehgaaGreatDoorW.PrintLast Go.Proofs.YtlmiaadpnbehgaaGreatDoorW.PrintMore
attribute [local go_sem] max2_int min2_int max_two min_two max_three min_three max_four min_four   -- for this text's walks alone
set_option linter.unusedVariables false
set_option linter.unusedSimpArgs false

/-! ### impl_toCorner: function 33 -/
/-- The sides of all bounces behind k steps. -/
def fwSides (W H : Int) (b : S27) : Nat → ByteArray
  | 0 => ⟨#[]⟩ ++ (fwSt W H b 0).2
  | k + 1 => fwSides W H b k ++ (fwSt W H b (k + 1)).2
/-- Is the beam behind k steps at a corner, but for the first? -/
def fwStop (W H : Int) (b : S27) (k : Nat) : Bool := decide (0 < k) && fwCor W H (fwSt W H b k).1
def fwCornN (W H : Int) (b : S27) : Nat := fwN W H b (2 * W * H) (fwStop W H b)
def impl_toCorner.f (a0_0 : Int) (a0_1 : Int) (a1_0 : Int) (a1_1 : Int) (a1_2 : Bool) (a1_3 : Bool) : Option (Int × Int × Int × Bool × Bool × ByteArray × Bool) :=
  (impl_IsBeam.f a0_0 a0_1 a1_0 a1_1 a1_2 a1_3).bind fun t1 => if t1 = true then
    (if fwStop a0_0 a0_1 ⟨a1_0, a1_1, a1_2, a1_3⟩ (fwCornN a0_0 a0_1 ⟨a1_0, a1_1, a1_2, a1_3⟩) = true then
      some ((fwCornN a0_0 a0_1 ⟨a1_0, a1_1, a1_2, a1_3⟩ : Int), (fwSt a0_0 a0_1 ⟨a1_0, a1_1, a1_2, a1_3⟩ (fwCornN a0_0 a0_1 ⟨a1_0, a1_1, a1_2, a1_3⟩)).1.f0, (fwSt a0_0 a0_1 ⟨a1_0, a1_1, a1_2, a1_3⟩ (fwCornN a0_0 a0_1 ⟨a1_0, a1_1, a1_2, a1_3⟩)).1.f1, (fwSt a0_0 a0_1 ⟨a1_0, a1_1, a1_2, a1_3⟩ (fwCornN a0_0 a0_1 ⟨a1_0, a1_1, a1_2, a1_3⟩)).1.f2, (fwSt a0_0 a0_1 ⟨a1_0, a1_1, a1_2, a1_3⟩ (fwCornN a0_0 a0_1 ⟨a1_0, a1_1, a1_2, a1_3⟩)).1.f3, fwSides a0_0 a0_1 ⟨a1_0, a1_1, a1_2, a1_3⟩ (fwCornN a0_0 a0_1 ⟨a1_0, a1_1, a1_2, a1_3⟩), true)
    else some (0, 0, 0, false, false, fwSides a0_0 a0_1 ⟨a1_0, a1_1, a1_2, a1_3⟩ (fwCornN a0_0 a0_1 ⟨a1_0, a1_1, a1_2, a1_3⟩), false))
  else some (0, 0, 0, false, false, ⟨#[]⟩, false)
/-- A side's text is one byte at most. -/
theorem fwNext_small (W H : Int) (s : S27) : (fwNext W H s).2.size ≤ 1 := by
  obtain ⟨x, y, r, u⟩ := s
  have s1 : ∀ q, ∃ z, impl_sign.f q = some z := fun q => by unfold impl_sign.f; split <;> exact ⟨_, rfl⟩
  obtain ⟨a, ha⟩ := s1 r
  obtain ⟨c, hc⟩ := s1 u
  have t : ∃ z, impl_next.f W H x y r u = some z ∧ z.2.2.2.2.size ≤ 1 := by
    unfold impl_next.f
    rw [ha, hc]
    simp only [Option.bind_some, fwCor_eq, fwInw_eq]
    (repeat' split) <;> exact ⟨_, rfl, by show ByteArray.size _ ≤ 1; first | exact Nat.zero_le _ | exact Nat.le_refl _⟩
  obtain ⟨z, hz, hs⟩ := t
  simp only [fwNext, hz]
  exact hs
theorem fwSides_small (W H : Int) (b : S27) : ∀ k, (fwSides W H b k).size ≤ k := by
  intro k
  induction k with
  | zero => exact Nat.le_of_eq rfl
  | succ k ih =>
    have : (fwSt W H b (k + 1)).2.size ≤ 1 := fwNext_small W H _
    simp only [fwSides, ByteArray.size_append]
    omega
theorem FwOld.trans {S : Nat → Prop} {a b c : World} (h : FwOld S a b) (k : FwOld S b c) : FwOld S a c :=
  ⟨k.os.trans h.os, k.tape.trans h.tape, k.output.trans h.output, Nat.le_trans h.size k.size, fun i hi hn => (k.block i (Nat.lt_of_lt_of_le hi h.size) hn).trans (h.block i hi hn)⟩
theorem FwOld.of_mv {S : Nat → Prop} {a b : World} {g : Nat} (k : FwMv g a b) (hg : a.heap.size ≤ g ∨ S g) : FwOld S a b := (FwOld.refl S a).mv k hg
/-- What the closure has kept. -/
structure tcI (wb : World) (bo st en fo : Nat) (txt : ByteArray) (n : Int) (s : S27) (f : Bool) (wr : World) : Prop where
  old : FwOld (fun i => i = bo ∨ i = st ∨ i = en ∨ i = fo) wb wr
  hb : wr.heap[bo]? = some (.cells #[.string txt] 9 (0, 0))
  hs : wr.heap[st]? = some (.cells #[.int .i64 n] 3 (0, 0))
  he : wr.heap[en]? = some (.cells #[.int .i64 s.f0, .int .i64 s.f1, .bool s.f2, .bool s.f3] 27 (0, 0))
  hf : wr.heap[fo]? = some (.cells #[.bool f] 4 (0, 0))
/-- The four cells' blocks, apart and there. -/
structure tcP (N bo st en fo : Nat) : Prop where
  b : bo < N
  s : st < N
  e : en < N
  f : fo < N
  bs : st ≠ bo
  be : en ≠ bo
  bf : fo ≠ bo
  se : en ≠ st
  sf : fo ≠ st
  ef : fo ≠ en
theorem tcP.up {N M bo st en fo : Nat} (h : tcP N bo st en fo) (hm : N ≤ M) : tcP M bo st en fo :=
  ⟨Nat.lt_of_lt_of_le h.b hm, Nat.lt_of_lt_of_le h.s hm, Nat.lt_of_lt_of_le h.e hm, Nat.lt_of_lt_of_le h.f hm, h.bs, h.be, h.bf, h.se, h.sf, h.ef⟩
theorem tcI.mv {wb w w' : World} {bo st en fo : Nat} {txt : ByteArray} {n : Int} {s : S27} {f : Bool} (h : tcI wb bo st en fo txt n s f w) (p : tcP w.heap.size bo st en fo) {g : Nat} (k : FwMv g w w') (hg : wb.heap.size ≤ g) (hn : bo ≠ g ∧ st ≠ g ∧ en ≠ g ∧ fo ≠ g) : tcI wb bo st en fo txt n s f w' :=
  ⟨h.old.mv k (.inl hg), (k.block _ p.b hn.1).trans h.hb, (k.block _ p.s hn.2.1).trans h.hs, (k.block _ p.e hn.2.2.1).trans h.he, (k.block _ p.f hn.2.2.2).trans h.hf⟩
theorem tcI.below {wb w w' : World} {bo st en fo : Nat} {txt : ByteArray} {n : Int} {s : S27} {f : Bool} (h : tcI wb bo st en fo txt n s f w) (p : tcP w.heap.size bo st en fo) (k : Below w.heap.size w w') : tcI wb bo st en fo txt n s f w' :=
  ⟨h.old.trans ⟨k.os, k.tape, k.output, k.size, fun i hi _ => k.block i hi⟩, (k.block _ p.b).trans h.hb, (k.block _ p.s).trans h.hs, (k.block _ p.e).trans h.he, (k.block _ p.f).trans h.hf⟩
theorem tcI.text {wb w : World} {bo st en fo : Nat} {txt txt' : ByteArray} {n : Int} {s : S27} {f : Bool} (h : tcI wb bo st en fo txt n s f w) (p : tcP w.heap.size bo st en fo) : tcI wb bo st en fo txt' n s f (w.setCell ⟨bo, 0, none⟩ (.string txt')) :=
  ⟨h.old.trans (FwOld.of_mv (fw_set _) (.inr (.inl rfl))), heap_setCell_same w bo 0 _ 9 (.string txt') h.hb, ((fw_set (w := w) (g := bo) (i := 0) (.string txt')).block _ p.s p.bs).trans h.hs, ((fw_set (w := w) (g := bo) (i := 0) (.string txt')).block _ p.e p.be).trans h.he, ((fw_set (w := w) (g := bo) (i := 0) (.string txt')).block _ p.f p.bf).trans h.hf⟩
set_option maxRecDepth 100000 in
set_option maxHeartbeats 4000000 in
/-- A visit of the first beam: it is no corner that counts. -/
theorem impl_toCorner.first (bo tb st en fo : Nat) (x y n : Int) (r u : Bool) (s0 : S27) (txt sd : ByteArray) (wb w : World) (hsz : txt.size + sd.size ≤ 9223372036854775807) (hI : tcI wb bo st en fo txt n s0 false w) (p : tcP w.heap.size bo st en fo) :
    Calls Tryz.prog 63 #[.int .i64 0, .agg #[.int .i64 x, .int .i64 y, .bool r, .bool u], .string sd, .pointer (some ⟨bo, 0, none⟩), .pointer (some ⟨tb, 0, none⟩), .pointer (some ⟨st, 0, none⟩), .pointer (some ⟨en, 0, none⟩), .pointer (some ⟨fo, 0, none⟩)] w fun e w' => e = .returned (.bool false) ∧ tcI wb bo st en fo (txt ++ sd) n s0 false w' := by
  have hal := below_alloc (Below.refl _ w) (.cells #[.int .i64 x, .int .i64 y, .bool r, .bool u] 27 (0, 0))
  have q1 := (hal.block _ p.b).trans hI.hb
  have c1 := (fw_cells q1 0).1
  have f1 := (fw_cells q1 0).2
  have hF := (hI.below p hal).text (txt' := txt ++ sd) (p.up hal.size)
  have c2 := (fw_cells hF.hf 0).1
  simp at c1 c2
  have HF := Aside0.mk hF
  clear hI q1 hal hF
  go_enter Tryz.func63, Tryz.ntmps63
  go_wp2
  all_goals go_ret
  all_goals exact ⟨rfl, HF.out⟩
set_option maxRecDepth 100000 in
set_option maxHeartbeats 4000000 in
/-- A later visit that is at no corner. -/
theorem impl_toCorner.past (bo tb st en fo : Nat) (W H k x y n : Int) (r u : Bool) (s0 : S27) (txt sd : ByteArray) (wb w : World) (hk : 0 < k) (hsz : txt.size + sd.size ≤ 9223372036854775807) (hI : tcI wb bo st en fo txt n s0 false w) (p : tcP w.heap.size bo st en fo) (htb : w.heap[tb]? = some (.cells #[.int .i64 W, .int .i64 H] 25 (0, 0))) (hlt : tb < w.heap.size) (hne : tb ≠ bo) (hc : fwCor W H ⟨x, y, r, u⟩ = false) :
    Calls Tryz.prog 63 #[.int .i64 k, .agg #[.int .i64 x, .int .i64 y, .bool r, .bool u], .string sd, .pointer (some ⟨bo, 0, none⟩), .pointer (some ⟨tb, 0, none⟩), .pointer (some ⟨st, 0, none⟩), .pointer (some ⟨en, 0, none⟩), .pointer (some ⟨fo, 0, none⟩)] w fun e w' => e = .returned (.bool false) ∧ tcI wb bo st en fo (txt ++ sd) n s0 false w' := by
  have hal := below_alloc (Below.refl _ w) (.cells #[.int .i64 x, .int .i64 y, .bool r, .bool u] 27 (0, 0))
  have hco := fwCor_eq W H x y r u
  rw [hc] at hco
  have HCO := Aside0.mk hco
  have d1 : decide (0 < k) = true := decide_eq_true hk
  have q1 := (hal.block _ p.b).trans hI.hb
  have c1 := (fw_cells q1 0).1
  have f1 := (fw_cells q1 0).2
  have pp := p.up hal.size
  have hF := (hI.below p hal).text (txt' := txt ++ sd) pp
  have qt := ((fw_set (w := w.alloc (.cells #[.int .i64 x, .int .i64 y, .bool r, .bool u] 27 (0, 0))) (g := bo) (i := 0) (.string (txt ++ sd))).block _ (Nat.lt_of_lt_of_le hlt hal.size) hne).trans ((hal.block _ hlt).trans htb)
  have t0 := (fw_cells qt 0).1
  have t1 := (fw_cells qt 1).1
  have qb : (w.alloc (.cells #[.int .i64 x, .int .i64 y, .bool r, .bool u] 27 (0, 0))).heap[w.heap.size]? = some (.cells #[.int .i64 x, .int .i64 y, .bool r, .bool u] 27 (0, 0)) := by
    show (w.heap.push _)[w.heap.size]? = _
    rw [Array.getElem?_push, if_pos rfl]
  have qc := ((fw_set (w := w.alloc (.cells #[.int .i64 x, .int .i64 y, .bool r, .bool u] 27 (0, 0))) (g := bo) (i := 0) (.string (txt ++ sd))).block w.heap.size (by show _ < (w.heap.push _).size; simp) (by have := p.b; omega)).trans qb
  have b0 := (fw_cells qc 0).1
  have b1 := (fw_cells qc 1).1
  have b2 := (fw_cells qc 2).1
  have b3 := (fw_cells qc 3).1
  simp at c1 t0 t1 b0 b1 b2 b3
  have HF := Aside0.mk hF
  have HP := Aside0.mk pp
  clear hI q1 hal hF qt qb qc hco hc htb hlt hne hk p pp
  go_enter Tryz.func63, Tryz.ntmps63
  go_wp2_with fail
  refine (impl_isCorner.calls _ _ _ _ _ _ false _ HCO.out).mono ?_
  rintro e w3 ⟨rfl, hb3⟩
  have hG := HF.out.below (by simpa using HP.out) hb3
  have c3 := (fw_cells hG.hf 0).1
  simp at c3
  have HG := Aside0.mk hG
  clear hb3 hG HF HP
  go_wp2_with fail
  go_ret
  exact ⟨rfl, HG.out⟩
theorem tcI.num {wb w : World} {bo st en fo : Nat} {txt : ByteArray} {n n' : Int} {s : S27} {f : Bool} (h : tcI wb bo st en fo txt n s f w) (p : tcP w.heap.size bo st en fo) : tcI wb bo st en fo txt n' s f (w.setCell ⟨st, 0, none⟩ (.int .i64 n')) :=
  have b := (fw_set (w := w) (g := st) (i := 0) (.int .i64 n')).block
  ⟨h.old.trans (FwOld.of_mv (fw_set _) (.inr (.inr (.inl rfl)))), (b _ p.b p.bs.symm).trans h.hb, heap_setCell_same w st 0 _ 3 (.int .i64 n') h.hs, (b _ p.e p.se).trans h.he, (b _ p.f p.sf).trans h.hf⟩
theorem tcI.end_ {wb w : World} {bo st en fo : Nat} {txt : ByteArray} {n x y : Int} {r u : Bool} {s : S27} {f : Bool} (h : tcI wb bo st en fo txt n s f w) (p : tcP w.heap.size bo st en fo) : tcI wb bo st en fo txt n ⟨x, y, r, u⟩ f ((((w.setCell ⟨en, 0, none⟩ (.int .i64 x)).setCell ⟨en, 1, none⟩ (.int .i64 y)).setCell ⟨en, 2, none⟩ (.bool r)).setCell ⟨en, 3, none⟩ (.bool u)) :=
  have k := fw_store (a' := .int .i64 x) (b' := .int .i64 y) (c' := .bool r) (d' := .bool u) h.he
  have b := k.2.block
  ⟨h.old.trans (FwOld.of_mv k.2 (.inr (.inr (.inr (.inl rfl))))), (b _ p.b p.be.symm).trans h.hb, (b _ p.s p.se.symm).trans h.hs, k.1, (b _ p.f p.ef).trans h.hf⟩
theorem tcI.found {wb w : World} {bo st en fo : Nat} {txt : ByteArray} {n : Int} {s : S27} {f f' : Bool} (h : tcI wb bo st en fo txt n s f w) (p : tcP w.heap.size bo st en fo) : tcI wb bo st en fo txt n s f' (w.setCell ⟨fo, 0, none⟩ (.bool f')) :=
  have b := (fw_set (w := w) (g := fo) (i := 0) (.bool f')).block
  ⟨h.old.trans (FwOld.of_mv (fw_set _) (.inr (.inr (.inr (.inr rfl))))), (b _ p.b p.bf.symm).trans h.hb, (b _ p.s p.sf.symm).trans h.hs, (b _ p.e p.ef.symm).trans h.he, heap_setCell_same w fo 0 _ 4 (.bool f') h.hf⟩
set_option maxRecDepth 100000 in
set_option maxHeartbeats 4000000 in
/-- A later visit that is at a corner. -/
theorem impl_toCorner.stopped (bo tb st en fo : Nat) (W H k x y n : Int) (r u : Bool) (s0 : S27) (txt sd : ByteArray) (wb w : World) (hk : 0 < k) (hsz : txt.size + sd.size ≤ 9223372036854775807) (hI : tcI wb bo st en fo txt n s0 false w) (p : tcP w.heap.size bo st en fo) (htb : w.heap[tb]? = some (.cells #[.int .i64 W, .int .i64 H] 25 (0, 0))) (hlt : tb < w.heap.size) (hne : tb ≠ bo) (hc : fwCor W H ⟨x, y, r, u⟩ = true) :
    Calls Tryz.prog 63 #[.int .i64 k, .agg #[.int .i64 x, .int .i64 y, .bool r, .bool u], .string sd, .pointer (some ⟨bo, 0, none⟩), .pointer (some ⟨tb, 0, none⟩), .pointer (some ⟨st, 0, none⟩), .pointer (some ⟨en, 0, none⟩), .pointer (some ⟨fo, 0, none⟩)] w fun e w' => e = .returned (.bool true) ∧ tcI wb bo st en fo (txt ++ sd) k ⟨x, y, r, u⟩ true w' := by
 have hal := below_alloc (Below.refl _ w) (.cells #[.int .i64 x, .int .i64 y, .bool r, .bool u] 27 (0, 0))
 have hco := fwCor_eq W H x y r u
 rw [hc] at hco
 have HCO := Aside0.mk hco
 have d1 : decide (0 < k) = true := decide_eq_true hk
 have q1 := (hal.block _ p.b).trans hI.hb
 have c1 := (fw_cells q1 0).1
 have f1 := (fw_cells q1 0).2
 have pp := p.up hal.size
 have hF := (hI.below p hal).text (txt' := txt ++ sd) pp
 have qt := ((fw_set (w := w.alloc (.cells #[.int .i64 x, .int .i64 y, .bool r, .bool u] 27 (0, 0))) (g := bo) (i := 0) (.string (txt ++ sd))).block _ (Nat.lt_of_lt_of_le hlt hal.size) hne).trans ((hal.block _ hlt).trans htb)
 have t0 := (fw_cells qt 0).1
 have t1 := (fw_cells qt 1).1
 have qb : (w.alloc (.cells #[.int .i64 x, .int .i64 y, .bool r, .bool u] 27 (0, 0))).heap[w.heap.size]? = some (.cells #[.int .i64 x, .int .i64 y, .bool r, .bool u] 27 (0, 0)) := by
  show (w.heap.push _)[w.heap.size]? = _
  rw [Array.getElem?_push, if_pos rfl]
 have qc := ((fw_set (w := w.alloc (.cells #[.int .i64 x, .int .i64 y, .bool r, .bool u] 27 (0, 0))) (g := bo) (i := 0) (.string (txt ++ sd))).block w.heap.size (by show _ < (w.heap.push _).size; simp) (by have := p.b; omega)).trans qb
 have b0 := (fw_cells qc 0).1
 have b1 := (fw_cells qc 1).1
 have b2 := (fw_cells qc 2).1
 have b3 := (fw_cells qc 3).1
 have HQC := Aside0.mk qc
 have HLT : Aside0 (w.heap.size < (w.alloc (.cells #[.int .i64 x, .int .i64 y, .bool r, .bool u] 27 (0, 0))).heap.size) := ⟨by show _ < (w.heap.push _).size; simp⟩
 simp at c1 t0 t1 b0 b1 b2 b3
 have HF := Aside0.mk hF
 have HP := Aside0.mk pp
 have HLTS := Aside0.mk p
 clear hI q1 hal hF qt qb qc hco hc htb hlt hne hk p pp
 go_enter Tryz.func63, Tryz.ntmps63
 go_wp2_with fail
 refine (impl_isCorner.calls _ _ _ _ _ _ true _ HCO.out).mono ?_
 rintro e w3 ⟨rfl, a6⟩
 have b7 : tcP w3.heap.size bo st en fo := HP.out.up (by have := a6.size; simpa using this)
 have qd := (a6.block w.heap.size (by simp)).trans HQC.out
 have x0 := (fw_cells qd 0).1
 have x1 := (fw_cells qd 1).1
 have x2 := (fw_cells qd 2).1
 have x3 := (fw_cells qd 3).1
 simp at x0 x1 x2 x3
 have hG := HF.out.below (by simpa using HP.out) a6
 have c3 := (fw_cells hG.hf 0).1
 simp at c3
 have b8 := Aside0.mk qd
 have HLX : Aside0 (w.heap.size < w3.heap.size) := ⟨by have := a6.size; simp at this; omega⟩
 have HNE : Aside0 (w.heap.size ≠ bo ∧ w.heap.size ≠ st ∧ w.heap.size ≠ en ∧ w.heap.size ≠ fo) := ⟨by have := HLTS.out; have p1 := this.b; have p2 := this.s; have p3 := this.e; have p4 := this.f; omega⟩
 have HG := Aside0.mk hG
 have a9 := Aside0.mk b7
 clear a6 hG HF HP b7 qd
 go_wp2_with fail
 refine st0_ 5 [q 0 22, qt 1 23, qn 2 3, qn 3 3, qn 4 3] (S := fun w' => w'.cell? ⟨w.heap.size, 0, none⟩ = some (.int .i64 x) ∧ w'.cell? ⟨w.heap.size, 1, none⟩ = some (.int .i64 y) ∧ w'.cell? ⟨w.heap.size, 2, none⟩ = some (.bool r) ∧ w'.cell? ⟨w.heap.size, 3, none⟩ = some (.bool u)) (ds := [3, 4]) ⟨x0, x1, x2, x3⟩ (fun hHeld HT_ HW_ => ?_)
 have c8 := Tryz.underlying27
 have hd := below_drew (Below.refl w3.heap.size w3)
 have a7 := Aside0.mk (HG.out.below a9.out hd)
 have b4 := Aside0.mk (a9.out.up hd.size)
 have b9 := Aside0.mk ((hd.block _ HLX.out).trans b8.out)
 have c0 := Aside0.mk (Nat.lt_of_lt_of_le HLX.out hd.size)
 clear hd HG a9 b8 HLX
 generalize w3.drew = w4 at a7 b4 b9 c0 hHeld ⊢
 clear c3 x0 x1 x2 x3
 have g4 := (fw_cells a7.out.hs 0).2
 have c4 := (fw_cells a7.out.hs 0).1
 simp at c4
 iterate 2 (first | refine pA HT_ ?_ | refine pU HT_ hHeld ?_)
 refine pO HT_ fun K hK => ?_
 refine skip_ (w1 := ?_) (by rfl) rfl ?_ ?_
 rotate_left
 ·(
 go_simp
 rfl
 )
 have a5 := Aside0.mk (a7.out.num (n' := k) b4.out)
 have b5 : Aside0 (tcP (w4.setCell ⟨st, 0, none⟩ (.int .i64 k)).heap.size bo st en fo) := ⟨by simpa using b4.out⟩
 have q5 := ((fw_set (w := w4) (g := st) (i := 0) (.int .i64 k)).block w.heap.size c0.out HNE.out.2.1).trans b9.out
 refine hK.out _ _ ⟨(fw_cells q5 0).1, (fw_cells q5 1).1, (fw_cells q5 2).1, (fw_cells q5 3).1⟩ (fun hHeld => ?_)
 clear hK K q5 g4 c4
 generalize w4.setCell ⟨st, 0, none⟩ (.int .i64 k) = w5 at a5 b5 hHeld ⊢
 have h0 := fw_cells a5.out.he 0
 have h1 := fw_cells a5.out.he 1
 have h2 := fw_cells a5.out.he 2
 have h3 := fw_cells a5.out.he 3
 have e0 := h0.1
 have e1 := h1.1
 have e2 := h2.1
 have e3 := h3.1
 have k0 := h0.2
 have k1 := h1.2
 have k2 := h2.2
 have k3 := h3.2
 simp at e0 e1 e2 e3
 clear h0 h1 h2 h3
 refine pL HT_ fun K hK => ?_
 refine skip_ (w1 := ?_) (by rfl) rfl ?_ ?_
 rotate_left
 ·(
 go_simp
 rfl
 )
 have a8 := Aside0.mk (a5.out.end_ (x := x) (y := y) (r := r) (u := u) b5.out)
 have c5 : Aside0 (tcP ((((w5.setCell ⟨en, 0, none⟩ (.int .i64 x)).setCell ⟨en, 1, none⟩ (.int .i64 y)).setCell ⟨en, 2, none⟩ (.bool r)).setCell ⟨en, 3, none⟩ (.bool u)).heap.size bo st en fo) := ⟨by simpa using b5.out⟩
 refine hK.out _ _ ?_
 clear hK K e0 e1 e2 e3 k0 k1 k2 k3
 generalize ((((w5.setCell ⟨en, 0, none⟩ (.int .i64 x)).setCell ⟨en, 1, none⟩ (.int .i64 y)).setCell ⟨en, 2, none⟩ (.bool r)).setCell ⟨en, 3, none⟩ (.bool u)) = w6 at a8 c5 ⊢
 have c6 := (fw_cells a8.out.hf 0).1
 have g6 := (fw_cells a8.out.hf 0).2
 simp at c6
 refine pL HT_ fun K hK => ?_
 refine skip_ (w1 := ?_) (by rfl) rfl ?_ ?_
 rotate_left
 ·(
 go_simp
 rfl
 )
 have b6 := Aside0.mk (a8.out.found (f' := true) c5.out)
 refine hK.out _ _ ?_
 clear hK K c6 g6
 generalize w6.setCell ⟨fo, 0, none⟩ (.bool true) = w7 at b6 ⊢
 have c7 := (fw_cells b6.out.hf 0).1
 simp at c7
 refine pD HT_ ?_
 go_wp2_with fail
 go_ret
 exact ⟨rfl, b6.out⟩
theorem tc_bounds {W H : Int} (h : (1 ≤ W ∧ W ≤ 60) ∧ 1 ≤ H ∧ H ≤ 60) : 0 ≤ 2 * W * H ∧ 2 * W * H ≤ 7200 ∧ wrap64 (wrap64 (2 * W) * H) = 2 * W * H := by
  have e1 : wrap64 (2 * W) = 2 * W := by unfold wrap64; omega
  have h1 : (2 * W * H).natAbs ≤ 120 * 60 := by rw [Int.natAbs_mul]; exact Nat.mul_le_mul (by omega) (by omega)
  have h2 : 0 ≤ 2 * W * H := Int.mul_nonneg (by omega) (by omega)
  refine ⟨h2, by omega, ?_⟩
  rw [e1]
  unfold wrap64
  omega
theorem tc_IsBeam_some (W H x y : Int) (r u : Bool) : ∃ b, impl_IsBeam.f W H x y r u = some b := by
  have tcw : ∀ x a b : Int, ∃ r, impl_within.f x a b = some r := fun x a b => by unfold impl_within.f; split <;> exact ⟨_, rfl⟩
  obtain ⟨a1, h1⟩ := tcw W 1 60
  obtain ⟨a2, h2⟩ := tcw H 1 60
  obtain ⟨a3, h3⟩ := tcw x 0 W
  obtain ⟨a4, h4⟩ := tcw y 0 H
  unfold impl_IsBeam.f impl_IsTable.f
  cases a1 <;> cases a2 <;> cases a3 <;> cases a4 <;> simp [h1, h2, h3, h4]
theorem tc_IsBeam_true {W H x y : Int} {r u : Bool} (h : impl_IsBeam.f W H x y r u = some true) : (1 ≤ W ∧ W ≤ 60) ∧ 1 ≤ H ∧ H ≤ 60 := by
  have within_is : ∀ x a b : Int, impl_within.f x a b = some (decide (a ≤ x) && decide (x ≤ b)) := fun x a b => by
    unfold impl_within.f
    by_cases c : x ≥ a
    · rw [if_pos c, decide_eq_true (by omega : a ≤ x)]; rfl
    · rw [if_neg c, decide_eq_false (by omega : ¬ a ≤ x)]; rfl
  unfold impl_IsBeam.f impl_IsTable.f at h
  simp only [within_is, Option.bind_some] at h
  by_cases c1 : 1 ≤ W <;> by_cases c2 : W ≤ 60 <;> by_cases c3 : 1 ≤ H <;> by_cases c4 : H ≤ 60 <;> simp [c1, c2, c3, c4] at h <;> exact ⟨⟨c1, c2⟩, c3, c4⟩
def tcTxt (W H : Int) (b : S27) : Nat → ByteArray
  | 0 => ⟨#[]⟩
  | k + 1 => fwSides W H b k
theorem tcTxt_succ (W H : Int) (b : S27) (k : Nat) : fwSides W H b k = tcTxt W H b k ++ (fwSt W H b k).2 := by cases k <;> rfl
theorem tcTxt_small (W H : Int) (b : S27) (k : Nat) : (tcTxt W H b k).size ≤ k := by
  cases k with
  | zero => exact Nat.le_of_eq rfl
  | succ k => exact Nat.le_succ_of_le (fwSides_small W H b k)
theorem fwSt_small (W H : Int) (b : S27) (k : Nat) : (fwSt W H b k).2.size ≤ 1 := by
  cases k with
  | zero => exact Nat.zero_le _
  | succ k => exact fwNext_small W H _
def tcNum (stop : Nat → Bool) : Nat → Int
  | 0 => 0
  | k + 1 => if stop k = true then (k : Int) else 0
def tcEnd (stop : Nat → Bool) (st : Nat → S27) : Nat → S27
  | 0 => ⟨0, 0, false, false⟩
  | k + 1 => if stop k = true then st k else ⟨0, 0, false, false⟩
def tcFnd (stop : Nat → Bool) : Nat → Bool
  | 0 => false
  | k + 1 => stop k
theorem tc_before {stop : Nat → Bool} (st : Nat → S27) : ∀ k, (∀ j, j < k → stop j = false) → tcNum stop k = 0 ∧ tcEnd stop st k = ⟨0, 0, false, false⟩ ∧ tcFnd stop k = false := by
  intro k h
  cases k with
  | zero => exact ⟨rfl, rfl, rfl⟩
  | succ k =>
    have := h k (Nat.lt_succ_self k)
    simp [tcNum, tcEnd, tcFnd, this]
/-- The way with the closure that looks for a corner. -/
theorem impl_toCorner.way (W H x y : Int) (r u : Bool) (hh : (1 ≤ W ∧ W ≤ 60) ∧ 1 ≤ H ∧ H ≤ 60) (bo tb st en fo : Nat) (wb : World) (p : tcP wb.heap.size bo st en fo) (htl : tb < wb.heap.size) (hne : tb ≠ bo ∧ tb ≠ st ∧ tb ≠ en ∧ tb ≠ fo)
    (hI : tcI wb bo st en fo ⟨#[]⟩ 0 ⟨0, 0, false, false⟩ false wb) (htb : wb.heap[tb]? = some (.cells #[.int .i64 W, .int .i64 H] 25 (0, 0))) :
    Calls Tryz.prog 41 #[.agg #[.int .i64 W, .int .i64 H], .agg #[.int .i64 x, .int .i64 y, .bool r, .bool u], .int .i64 (2 * W * H), .func (.func 63) #[] #[.pointer (some ⟨bo, 0, none⟩), .pointer (some ⟨tb, 0, none⟩), .pointer (some ⟨st, 0, none⟩), .pointer (some ⟨en, 0, none⟩), .pointer (some ⟨fo, 0, none⟩)]] wb fun e w' =>
      e = .returned (.tuple #[]) ∧ tcI wb bo st en fo (fwSides W H ⟨x, y, r, u⟩ (fwCornN W H ⟨x, y, r, u⟩)) (if fwStop W H ⟨x, y, r, u⟩ (fwCornN W H ⟨x, y, r, u⟩) = true then (fwCornN W H ⟨x, y, r, u⟩ : Int) else 0) (if fwStop W H ⟨x, y, r, u⟩ (fwCornN W H ⟨x, y, r, u⟩) = true then (fwSt W H ⟨x, y, r, u⟩ (fwCornN W H ⟨x, y, r, u⟩)).1 else ⟨0, 0, false, false⟩) (fwStop W H ⟨x, y, r, u⟩ (fwCornN W H ⟨x, y, r, u⟩)) w' := by
  have hb := tc_bounds hh
  obtain ⟨n1, n2, n3⟩ := fwN_is W H ⟨x, y, r, u⟩ (2 * W * H) (fwStop W H ⟨x, y, r, u⟩) hb.1
  have hN : fwCornN W H ⟨x, y, r, u⟩ ≤ 7200 := by unfold fwCornN; omega
  refine (impl_follow.calls W H x y r u (2 * W * H) 63 #[.pointer (some ⟨bo, 0, none⟩), .pointer (some ⟨tb, 0, none⟩), .pointer (some ⟨st, 0, none⟩), .pointer (some ⟨en, 0, none⟩), .pointer (some ⟨fo, 0, none⟩)] (fw_enters Tryz.func63 kr rfl)
    (fun k wr => tcI wb bo st en fo (tcTxt W H ⟨x, y, r, u⟩ k) (tcNum (fwStop W H ⟨x, y, r, u⟩) k) (tcEnd (fwStop W H ⟨x, y, r, u⟩) (fun j => (fwSt W H ⟨x, y, r, u⟩ j).1) k) (tcFnd (fwStop W H ⟨x, y, r, u⟩) k) wr) (fwStop W H ⟨x, y, r, u⟩) (fwCornN W H ⟨x, y, r, u⟩) wb (by omega) n3 n2 hI ?_ ?_).mono ?_
  · intro k W1 W2 hI hm
    have p1 := p.up hI.old.size
    exact hI.mv p1 hm (by omega) ⟨by have := p.b; omega, by have := p.s; omega, by have := p.e; omega, by have := p.f; omega⟩
  · intro k Wd hk hz hI
    obtain ⟨e1, e2, e3⟩ := tc_before (stop := fwStop W H ⟨x, y, r, u⟩) (fun j => (fwSt W H ⟨x, y, r, u⟩ j).1) k (fun j hj => (n3 j (by unfold fwCornN at hk; omega)).1)
    have p1 := p.up hI.old.size
    have pt : ¬ (tb = bo ∨ tb = st ∨ tb = en ∨ tb = fo) := by omega
    have ht1 := (hI.old.block tb htl pt).trans htb
    have hlt1 := Nat.lt_of_lt_of_le htl hI.old.size
    rw [e1, e2, e3] at hI
    have hJ : tcI Wd bo st en fo (tcTxt W H ⟨x, y, r, u⟩ k) 0 ⟨0, 0, false, false⟩ false Wd := ⟨FwOld.refl _ _, hI.hb, hI.hs, hI.he, hI.hf⟩
    have hsz : (tcTxt W H ⟨x, y, r, u⟩ k).size + (fwSt W H ⟨x, y, r, u⟩ k).2.size ≤ 9223372036854775807 := by
      have := tcTxt_small W H ⟨x, y, r, u⟩ k
      have := fwSt_small W H ⟨x, y, r, u⟩ k
      omega
    have fin : ∀ (n : Int) (s : S27) (f : Bool) (w2 : World), fwStop W H ⟨x, y, r, u⟩ k = f → (if f = true then n = k ∧ s = (fwSt W H ⟨x, y, r, u⟩ k).1 else n = 0 ∧ s = ⟨0, 0, false, false⟩) → tcI Wd bo st en fo (tcTxt W H ⟨x, y, r, u⟩ k ++ (fwSt W H ⟨x, y, r, u⟩ k).2) n s f w2 →
        tcI wb bo st en fo (tcTxt W H ⟨x, y, r, u⟩ (k + 1)) (tcNum (fwStop W H ⟨x, y, r, u⟩) (k + 1)) (tcEnd (fwStop W H ⟨x, y, r, u⟩) (fun j => (fwSt W H ⟨x, y, r, u⟩ j).1) (k + 1)) (tcFnd (fwStop W H ⟨x, y, r, u⟩) (k + 1)) w2 ∧ FwFr wb.heap.size Wd w2 := by
      intro n s f w2 hf hq hT
      refine ⟨?_, ⟨hT.old.size, hT.old.block _ (by omega) (by have := p.b; have := p.s; have := p.e; have := p.f; omega), hT.old.block _ (by omega) (by have := p.b; have := p.s; have := p.e; have := p.f; omega)⟩⟩
      have hT2 : tcI wb bo st en fo (tcTxt W H ⟨x, y, r, u⟩ k ++ (fwSt W H ⟨x, y, r, u⟩ k).2) n s f w2 := ⟨hI.old.trans hT.old, hT.hb, hT.hs, hT.he, hT.hf⟩
      rw [← tcTxt_succ] at hT2
      simp only [tcTxt, tcNum, tcEnd, tcFnd, hf]
      cases f with
      | true =>
        rw [if_pos rfl] at hq
        obtain ⟨rfl, rfl⟩ := hq
        rw [if_pos rfl, if_pos rfl]
        exact hT2
      | false =>
        rw [if_neg (by simp)] at hq
        obtain ⟨rfl, rfl⟩ := hq
        rw [if_neg (by simp), if_neg (by simp)]
        exact hT2
    rcases Nat.eq_zero_or_pos k with hk0 | hk0
    · subst hk0
      refine (impl_toCorner.first bo tb st en fo _ _ 0 _ _ ⟨0, 0, false, false⟩ _ _ Wd Wd hsz hJ p1).mono ?_
      rintro e w2 ⟨rfl, hT⟩
      have hs : fwStop W H ⟨x, y, r, u⟩ 0 = false := rfl
      rw [hs]
      exact ⟨rfl, fin _ _ _ _ hs ⟨rfl, rfl⟩ hT⟩
    · cases hc : fwCor W H (fwSt W H ⟨x, y, r, u⟩ k).1 with
      | false =>
        refine (impl_toCorner.past bo tb st en fo W H (k : Int) _ _ 0 _ _ ⟨0, 0, false, false⟩ _ _ Wd Wd (by omega) hsz hJ p1 ht1 hlt1 hne.1 hc).mono ?_
        rintro e w2 ⟨rfl, hT⟩
        have hs : fwStop W H ⟨x, y, r, u⟩ k = false := by unfold fwStop; rw [hc]; simp
        rw [hs]
        exact ⟨rfl, fin _ _ _ _ hs ⟨rfl, rfl⟩ hT⟩
      | true =>
        refine (impl_toCorner.stopped bo tb st en fo W H (k : Int) _ _ 0 _ _ ⟨0, 0, false, false⟩ _ _ Wd Wd (by omega) hsz hJ p1 ht1 hlt1 hne.1 hc).mono ?_
        rintro e w2 ⟨rfl, hT⟩
        have hs : fwStop W H ⟨x, y, r, u⟩ k = true := by unfold fwStop; rw [hc, decide_eq_true hk0]; rfl
        rw [hs]
        exact ⟨rfl, fin _ _ _ _ hs ⟨rfl, rfl⟩ hT⟩
  · rintro e w2 ⟨rfl, hI⟩
    exact ⟨rfl, hI⟩
theorem tc_seven (w : World) (o1 o2 o3 o4 o5 o6 o7 : Obj) : ∃ v, v = (((((((w.alloc o1).alloc o2).alloc o3).alloc o4).alloc o5).alloc o6).alloc o7) ∧ v.heap[w.heap.size]? = some o1 ∧ v.heap[w.heap.size + 1]? = some o2 ∧ v.heap[w.heap.size + 2]? = some o3 ∧ v.heap[w.heap.size + 3]? = some o4 ∧ v.heap[w.heap.size + 4]? = some o5 ∧ v.heap[w.heap.size + 5]? = some o6 ∧ v.heap[w.heap.size + 6]? = some o7 ∧ v.heap.size = w.heap.size + 7 ∧ Below w.heap.size w v := by
  obtain ⟨h1, h2, h3, h4⟩ := fw_three w o1 o2 o3
  obtain ⟨k1, k2, k3, k4⟩ := fw_three (((w.alloc o1).alloc o2).alloc o3) o4 o5 o6
  have b := below_alloc (below_alloc (below_alloc (Below.refl _ (((w.alloc o1).alloc o2).alloc o3)) o4) o5) o6
  rw [h4] at k1 k2 k3 k4 b
  have b2 := below_alloc (Below.refl _ ((((((w.alloc o1).alloc o2).alloc o3).alloc o4).alloc o5).alloc o6)) o7
  have n := blk_new ((((((w.alloc o1).alloc o2).alloc o3).alloc o4).alloc o5).alloc o6) o7
  rw [k4] at n b2
  have bb : Below w.heap.size w (((((((w.alloc o1).alloc o2).alloc o3).alloc o4).alloc o5).alloc o6).alloc o7) := below_alloc (below_alloc (below_alloc (below_alloc (below_alloc (below_alloc (below_alloc (Below.refl _ w) o1) o2) o3) o4) o5) o6) o7
  refine ⟨_, rfl, ?_, ?_, ?_, ?_, ?_, ?_, n, ?_, bb⟩
  · exact (b2.block _ (by omega)).trans ((b.block _ (by omega)).trans h1)
  · exact (b2.block _ (by omega)).trans ((b.block _ (by omega)).trans h2)
  · exact (b2.block _ (by omega)).trans ((b.block _ (by omega)).trans h3)
  · exact (b2.block _ (by omega)).trans k1
  · exact (b2.block _ (by omega)).trans k2
  · exact (b2.block _ (by omega)).trans k3
  · show (((((((w.alloc o1).alloc o2).alloc o3).alloc o4).alloc o5).alloc o6).heap.push o7).size = _
    rw [Array.size_push, k4]
abbrev impl_toCorner.pl0 : List (Nat × Option Tmp × Nat) := [qt 0 24, qt 1 25, qt 2 26, qt 3 27, q 4 4, qn 5 3, q 6 6, q 7 7]
set_option maxHeartbeats 8000000 in
set_option maxRecDepth 100000 in
theorem impl_toCorner.calls (a0_0 : Int) (a0_1 : Int) (a1_0 : Int) (a1_1 : Int) (a1_2 : Bool) (a1_3 : Bool) (r1 : Int) (r2 : Int) (r3 : Int) (r4 : Bool) (r5 : Bool) (r6 : ByteArray) (r7 : Bool) (w : World) (h : impl_toCorner.f a0_0 a0_1 a1_0 a1_1 a1_2 a1_3 = some (r1, r2, r3, r4, r5, r6, r7)) :
    Calls Tryz.prog 33 #[.agg #[.int .i64 a0_0, .int .i64 a0_1], .agg #[.int .i64 a1_0, .int .i64 a1_1, .bool a1_2, .bool a1_3]] w fun e w' => e = .returned (.tuple #[.int .i64 r1, .agg #[.int .i64 r2, .int .i64 r3, .bool r4, .bool r5], .string r6, .bool r7]) ∧ Below w.heap.size w w' := by
 obtain ⟨t1, a8⟩ := tc_IsBeam_some a0_0 a0_1 a1_0 a1_1 a1_2 a1_3
 unfold impl_toCorner.f at h
 rw [a8] at h
 simp only [Option.bind_some] at h
 have c5 := Aside0.mk a8
 obtain ⟨w7, c8, p0, p1, p2, p3, p4, p5, p6, ps, pb⟩ := tc_seven w (.cells #[.int .i64 a0_0, .int .i64 a0_1] 25 (0, 0)) (.cells #[.int .i64 a1_0, .int .i64 a1_1, .bool a1_2, .bool a1_3] 27 (0, 0)) (.cells #[.int .i64 0, .int .i64 0, .bool false, .bool false] 27 (0, 0)) (.cells #[.int .i64 0] 3 (0, 0)) (.cells #[.int .i64 0, .int .i64 0, .bool false, .bool false] 27 (0, 0)) (.cells #[.string ⟨#[]⟩] 9 (0, 0)) (.cells #[.bool false] 4 (0, 0))
 have P := Aside0.mk (And.intro p0 (And.intro p1 (And.intro p2 (And.intro p3 (And.intro p4 (And.intro p5 (And.intro p6 (And.intro ps pb))))))))
 have a9 := Aside0.mk c8
 clear p0 p1 p2 p3 p4 p5 p6 ps pb c8
 cases t1 with
 | false =>
  rw [if_neg (by simp)] at h
  simp only [Option.some.injEq, Prod.mk.injEq] at h
  obtain ⟨rfl, rfl, rfl, rfl, rfl, rfl, rfl⟩ := h
  clear a8
  go_enter Tryz.func33, Tryz.ntmps33
  go_wp2_with fail
  rw [← a9.out]
  refine (impl_IsBeam.calls _ _ _ _ _ _ false _ c5.out).mono ?_
  rintro e w1 ⟨rfl, a6⟩
  have q3 := (a6.block (w.heap.size + 2) (by rw [P.out.2.2.2.2.2.2.2.1]; omega)).trans P.out.2.2.1
  have b4 := (fw_cells q3 0).1
  have b5 := (fw_cells q3 1).1
  have b6 := (fw_cells q3 2).1
  have b7 := (fw_cells q3 3).1
  have d7 := (fw_cells q3 0).2
  have d8 := (fw_cells q3 1).2
  have d9 := (fw_cells q3 2).2
  have e4 := (fw_cells q3 3).2
  simp at b4 b5 b6 b7
  have e5 := Aside0.mk (below_step P.out.2.2.2.2.2.2.2.2 a6)
  have HS := Aside0.mk (fw_store (a' := .int .i64 0) (b' := .int .i64 0) (c' := .bool false) (d' := .bool false) q3)
  clear a6 q3
  go_wp2_with fail
  refine bodyPost_ret (results_list (rs := [.tmp 4, .cell 5 27, .tmp 6, .tmp 7]) rfl (by simp) (.tmp (.cell (w.heap.size + 2) 27 #[.int .i64 0, .int .i64 0, .bool false, .bool false] (0, 0) _ rfl HS.out.1 Tryz.underlying27 rfl kr (.tmp (.tmp .nil))))) rfl ⟨rfl, ?_⟩
  exact FwOld.below (S := fun i => i = w.heap.size + 2) e5.out ((FwOld.refl _ _).mv HS.out.2 (.inr rfl)) (fun i hi => by omega)
 | true =>
  rw [if_pos rfl] at h
  have HR := Aside0.mk h
  have hh := tc_IsBeam_true a8
  have hb := tc_bounds hh
  have HH := Aside0.mk hh
  have HA : Aside0 (impl_around.f a0_0 a0_1 = some (2 * a0_0 * a0_1)) := ⟨by unfold impl_around.f; rw [hb.2.2]⟩
  clear h a8 hh hb
  go_enter Tryz.func33, Tryz.ntmps33
  go_wp2_with fail
  rw [← a9.out]
  clear a9
  refine (impl_IsBeam.calls _ _ _ _ _ _ true _ c5.out).mono ?_
  rintro e w1 ⟨rfl, a6⟩
  have hz : w.heap.size + 6 < w1.heap.size := Nat.lt_of_lt_of_le (by rw [P.out.2.2.2.2.2.2.2.1]; omega) a6.size
  have e6 : w7.heap.size = w.heap.size + 7 := P.out.2.2.2.2.2.2.2.1
  have HD : Aside0 (w1.drew.heap[w.heap.size]? = some (.cells #[.int .i64 a0_0, .int .i64 a0_1] 25 (0, 0)) ∧ w1.drew.heap[w.heap.size + 1]? = some (.cells #[.int .i64 a1_0, .int .i64 a1_1, .bool a1_2, .bool a1_3] 27 (0, 0)) ∧ w1.drew.heap[w.heap.size + 2]? = some (.cells #[.int .i64 0, .int .i64 0, .bool false, .bool false] 27 (0, 0)) ∧ w1.drew.heap[w.heap.size + 3]? = some (.cells #[.int .i64 0] 3 (0, 0)) ∧ w1.drew.heap[w.heap.size + 4]? = some (.cells #[.int .i64 0, .int .i64 0, .bool false, .bool false] 27 (0, 0)) ∧ w1.drew.heap[w.heap.size + 5]? = some (.cells #[.string ⟨#[]⟩] 9 (0, 0)) ∧ w1.drew.heap[w.heap.size + 6]? = some (.cells #[.bool false] 4 (0, 0)) ∧ w.heap.size + 6 < w1.drew.heap.size) :=
   ⟨⟨(a6.block _ (by omega)).trans P.out.1, (a6.block _ (by omega)).trans P.out.2.1, (a6.block _ (by omega)).trans P.out.2.2.1, (a6.block _ (by omega)).trans P.out.2.2.2.1, (a6.block _ (by omega)).trans P.out.2.2.2.2.1, (a6.block _ (by omega)).trans P.out.2.2.2.2.2.1, (a6.block _ (by omega)).trans P.out.2.2.2.2.2.2.1, hz⟩⟩
  have HBD := Aside0.mk (below_step P.out.2.2.2.2.2.2.2.2 (below_step a6 (below_drew (Below.refl _ w1))))
  have C1 := (fw_cells HD.out.1)
  have C2 := (fw_cells HD.out.2.1)
  clear P e6 hz a6
  go_wp2_with fail
  have d5 := Tryz.underlying25
  have d6 := Tryz.underlying27
  refine st0_ 6 [q 4 22, qt 0 18, qt 1 19, qt 2 20, qo 3 21, qo 5 23] (S := fun w' => w'.cell? ⟨w.heap.size, 0, none⟩ = some (.int .i64 a0_0) ∧ w'.cell? ⟨w.heap.size, 1, none⟩ = some (.int .i64 a0_1) ∧ w'.cell? ⟨w.heap.size + 1, 0, none⟩ = some (.int .i64 a1_0) ∧ w'.cell? ⟨w.heap.size + 1, 1, none⟩ = some (.int .i64 a1_1) ∧ w'.cell? ⟨w.heap.size + 1, 2, none⟩ = some (.bool a1_2) ∧ w'.cell? ⟨w.heap.size + 1, 3, none⟩ = some (.bool a1_3)) (ds := [5]) ⟨(C1 0).1, (C1 1).1, (C2 0).1, (C2 1).1, (C2 2).1, (C2 3).1⟩ (fun hHeld HT_ HW_ => ?_)
  clear C1 C2
  generalize w1.drew = e7 at HD HBD hHeld ⊢
  iterate 4 (first | refine pA HT_ ?_ | refine pU HT_ hHeld ?_)
  refine pO HT_ fun K hK => ?_
  refine goes_ Tryz.func62 kr rfl #[.agg #[.int .i64 a0_0, .int .i64 a0_1]] (by rfl) rfl rfl sM ?_
  with_reducible refine (impl_around.calls a0_0 a0_1 (2 * a0_0 * a0_1) _ HA.out).mono ?_
  rintro e c9 ⟨rfl, hb⟩
  refine ⟨_, rfl, ?_⟩
  have hz : w.heap.size + 6 < e7.heap.size := HD.out.2.2.2.2.2.2.2
  have q1 := (hb.block w.heap.size (by omega)).trans HD.out.1
  have q2 := (hb.block (w.heap.size + 1) (by omega)).trans HD.out.2.1
  have q3 := (hb.block (w.heap.size + 2) (by omega)).trans HD.out.2.2.1
  have q4 := (hb.block (w.heap.size + 3) (by omega)).trans HD.out.2.2.2.1
  have q5 := (hb.block (w.heap.size + 4) (by omega)).trans HD.out.2.2.2.2.1
  have q6 := (hb.block (w.heap.size + 5) (by omega)).trans HD.out.2.2.2.2.2.1
  have q7 := (hb.block (w.heap.size + 6) (by omega)).trans HD.out.2.2.2.2.2.2.1
  have d0 : w.heap.size + 6 < c9.heap.size := Nat.lt_of_lt_of_le hz hb.size
  have d2 := Aside0.mk d0
  have b8 := Aside0.mk (below_step HBD.out hb)
  have d3 := Aside0.mk q3
  have HWAY := Aside0.mk (impl_toCorner.way a0_0 a0_1 a1_0 a1_1 a1_2 a1_3 HH.out (w.heap.size + 5) w.heap.size (w.heap.size + 3) (w.heap.size + 4) (w.heap.size + 6) c9 ⟨by omega, by omega, by omega, by omega, by omega, by omega, by omega, by omega, by omega, by omega⟩ (by omega) ⟨by omega, by omega, by omega, by omega⟩ ⟨FwOld.refl _ _, q6, q4, q5, q7⟩ q1)
  refine hK.out _ _ ⟨(fw_cells q1 0).1, (fw_cells q1 1).1, (fw_cells q2 0).1, (fw_cells q2 1).1, (fw_cells q2 2).1, (fw_cells q2 3).1⟩ (fun hHeld => ?_)
  clear hK K q1 q2 q3 q4 q5 q6 q7 HD HBD hb hz d0
  refine nP ?_
  refine pL HT_ fun K hK => ?_
  refine goes_ Tryz.func41 kr rfl #[.agg #[.int .i64 a0_0, .int .i64 a0_1], .agg #[.int .i64 a1_0, .int .i64 a1_1, .bool a1_2, .bool a1_3], .int .i64 (2 * a0_0 * a0_1), .func (.func 63) #[] #[.pointer (some ⟨w.heap.size + 5, 0, none⟩), .pointer (some ⟨w.heap.size, 0, none⟩), .pointer (some ⟨w.heap.size + 3, 0, none⟩), .pointer (some ⟨w.heap.size + 4, 0, none⟩), .pointer (some ⟨w.heap.size + 6, 0, none⟩)]] (by rfl) rfl rfl sM ?_
  refine HWAY.out.mono ?_
  rintro e a7 ⟨rfl, hT⟩
  refine ⟨_, rfl, ?_⟩
  obtain ⟨n, hn⟩ : ∃ n : Int, (if fwStop a0_0 a0_1 ⟨a1_0, a1_1, a1_2, a1_3⟩ (fwCornN a0_0 a0_1 ⟨a1_0, a1_1, a1_2, a1_3⟩) = true then (fwCornN a0_0 a0_1 ⟨a1_0, a1_1, a1_2, a1_3⟩ : Int) else 0) = n := ⟨_, rfl⟩
  obtain ⟨s, hs⟩ : ∃ s : S27, (if fwStop a0_0 a0_1 ⟨a1_0, a1_1, a1_2, a1_3⟩ (fwCornN a0_0 a0_1 ⟨a1_0, a1_1, a1_2, a1_3⟩) = true then (fwSt a0_0 a0_1 ⟨a1_0, a1_1, a1_2, a1_3⟩ (fwCornN a0_0 a0_1 ⟨a1_0, a1_1, a1_2, a1_3⟩)).1 else ⟨0, 0, false, false⟩) = s := ⟨_, rfl⟩
  rw [hn, hs] at hT
  have hR := HR.out
  obtain ⟨ok, hok⟩ : ∃ ok, fwStop a0_0 a0_1 ⟨a1_0, a1_1, a1_2, a1_3⟩ (fwCornN a0_0 a0_1 ⟨a1_0, a1_1, a1_2, a1_3⟩) = ok := ⟨_, rfl⟩
  rw [hok] at hT hn hs hR
  have hE : n = r1 ∧ s.f0 = r2 ∧ s.f1 = r3 ∧ s.f2 = r4 ∧ s.f3 = r5 ∧ fwSides a0_0 a0_1 ⟨a1_0, a1_1, a1_2, a1_3⟩ (fwCornN a0_0 a0_1 ⟨a1_0, a1_1, a1_2, a1_3⟩) = r6 ∧ ok = r7 := by
   cases ok with
   | true =>
    rw [if_pos rfl] at hn hs hR
    subst hn hs
    simpa only [Option.some.injEq, Prod.mk.injEq] using hR
   | false =>
    rw [if_neg (by simp)] at hn hs hR
    subst hn hs
    simpa only [Option.some.injEq, Prod.mk.injEq] using hR
  clear hn hs hR hok HR
  obtain ⟨rfl, rfl, rfl, rfl, rfl, d4, rfl⟩ := hE
  rw [d4] at hT
  clear d4
  have hz := d2.out
  have b9 := Aside0.mk (below_step (FwOld.below (S := fun i => i = w.heap.size + 5 ∨ i = w.heap.size + 3 ∨ i = w.heap.size + 4 ∨ i = w.heap.size + 6) b8.out hT.old (fun i hi => by omega)) (below_drew (Below.refl _ a7)))
  have c0 : Aside0 (a7.drew.heap[w.heap.size + 2]? = some (.cells #[.int .i64 0, .int .i64 0, .bool false, .bool false] 27 (0, 0))) := ⟨(hT.old.block (w.heap.size + 2) (by omega) (by omega)).trans d3.out⟩
  have a5 : Aside0 (a7.drew.heap[w.heap.size + 5]? = some (.cells #[.string r6] 9 (0, 0)) ∧ a7.drew.heap[w.heap.size + 3]? = some (.cells #[.int .i64 n] 3 (0, 0)) ∧ a7.drew.heap[w.heap.size + 4]? = some (.cells #[.int .i64 s.f0, .int .i64 s.f1, .bool s.f2, .bool s.f3] 27 (0, 0)) ∧ a7.drew.heap[w.heap.size + 6]? = some (.cells #[.bool ok] 4 (0, 0)) ∧ w.heap.size + 6 < a7.drew.heap.size) := ⟨hT.hb, hT.hs, hT.he, hT.hf, Nat.lt_of_lt_of_le hz hT.old.size⟩
  refine hK.out _ _ ?_
  clear hK K hT HWAY b8 d3 hz d2 hHeld
  refine pD HT_ ?_
  go_wp2_with fail
  have d5 := Tryz.underlying25
  have d6 := Tryz.underlying27
  refine st0_ 8 impl_toCorner.pl0 (S := fun w' => w'.cell? ⟨w.heap.size + 3, 0, none⟩ = some (.int .i64 n) ∧ w'.cell? ⟨w.heap.size + 4, 0, none⟩ = some (.int .i64 s.f0) ∧ w'.cell? ⟨w.heap.size + 4, 1, none⟩ = some (.int .i64 s.f1) ∧ w'.cell? ⟨w.heap.size + 4, 2, none⟩ = some (.bool s.f2) ∧ w'.cell? ⟨w.heap.size + 4, 3, none⟩ = some (.bool s.f3) ∧ w'.cell? ⟨w.heap.size + 5, 0, none⟩ = some (.string r6) ∧ w'.cell? ⟨w.heap.size + 6, 0, none⟩ = some (.bool ok)) (ds := []) ⟨(fw_cells a5.out.2.1 0).1, (fw_cells a5.out.2.2.1 0).1, (fw_cells a5.out.2.2.1 1).1, (fw_cells a5.out.2.2.1 2).1, (fw_cells a5.out.2.2.1 3).1, (fw_cells a5.out.1 0).1, (fw_cells a5.out.2.2.2.1 0).1⟩ (fun hHeld HT_ HW_ => ?_)
  generalize a7.drew = e8 at b9 c0 a5 hHeld ⊢
  iterate 5 (first | refine pA HT_ ?_ | refine pU HT_ hHeld ?_)
  have q3 := c0.out
  have b4 := (fw_cells q3 0).1
  have b5 := (fw_cells q3 1).1
  have b6 := (fw_cells q3 2).1
  have b7 := (fw_cells q3 3).1
  have d7 := (fw_cells q3 0).2
  have d8 := (fw_cells q3 1).2
  have d9 := (fw_cells q3 2).2
  have e4 := (fw_cells q3 3).2
  simp at b4 b5 b6 b7
  have HS := Aside0.mk (fw_store (a' := .int .i64 s.f0) (b' := .int .i64 s.f1) (c' := .bool s.f2) (d' := .bool s.f3) q3)
  clear q3
  refine pO HT_ fun K hK => ?_
  refine skip_ (w1 := ?_) (by rfl) rfl ?_ ?_
  rotate_left
  ·(
  go_simp
  rfl
  )
  have m := HS.out.2.block
  have l := a5.out.2.2.2.2
  have m3 := (m (w.heap.size + 3) (by omega) (by omega)).trans a5.out.2.1
  have m4 := (m (w.heap.size + 4) (by omega) (by omega)).trans a5.out.2.2.1
  have m5 := (m (w.heap.size + 5) (by omega) (by omega)).trans a5.out.1
  have m6 := (m (w.heap.size + 6) (by omega) (by omega)).trans a5.out.2.2.2.1
  refine hK.out _ _ ⟨(fw_cells m3 0).1, (fw_cells m4 0).1, (fw_cells m4 1).1, (fw_cells m4 2).1, (fw_cells m4 3).1, (fw_cells m5 0).1, (fw_cells m6 0).1⟩ (fun hHeld => ?_)
  clear hK K m l m3 m4 m5 m6
  iterate 2 refine pA HT_ ?_
  refine pD HT_ ?_
  go_wp2_with fail
  refine bodyPost_ret (results_list (rs := [.tmp 4, .cell 5 27, .tmp 6, .tmp 7]) rfl (by simp) (.tmp (.cell (w.heap.size + 2) 27 #[.int .i64 s.f0, .int .i64 s.f1, .bool s.f2, .bool s.f3] (0, 0) _ rfl HS.out.1 Tryz.underlying27 rfl kr (.tmp (.tmp .nil))))) rfl ⟨rfl, ?_⟩
  exact FwOld.below (S := fun i => i = w.heap.size + 2) b9.out ((FwOld.refl _ _).mv HS.out.2 (.inr rfl)) (fun i hi => by omega)

/-! ### impl_StepsToCorner: function 6 -/
def impl_StepsToCorner.f (a0_0 : Int) (a0_1 : Int) (a1_0 : Int) (a1_1 : Int) (a1_2 : Bool) (a1_3 : Bool) : Option (Int × Bool) := (impl_toCorner.f a0_0 a0_1 a1_0 a1_1 a1_2 a1_3).bind fun bt253 => (some (bt253.1, bt253.2.2.2.2.2.2))
set_option maxHeartbeats 8000000 in
set_option maxRecDepth 100000 in
theorem impl_StepsToCorner.calls (a0_0 : Int) (a0_1 : Int) (a1_0 : Int) (a1_1 : Int) (a1_2 : Bool) (a1_3 : Bool) (r1 : Int) (r2 : Bool) (w : World) (h : impl_StepsToCorner.f a0_0 a0_1 a1_0 a1_1 a1_2 a1_3 = some (r1, r2)) :
    Calls Tryz.prog 6 #[.agg #[.int .i64 a0_0, .int .i64 a0_1], .agg #[.int .i64 a1_0, .int .i64 a1_1, .bool a1_2, .bool a1_3]] w fun e w' => e = .returned (.tuple #[.int .i64 r1, .bool r2]) ∧ Below w.heap.size w w' := by
 have i6 := Tryz.underlying25
 have i7 := Tryz.underlying27
 have HB := Aside0.mk (Below.refl w.heap.size w)
 have H := h
 unfold impl_StepsToCorner.f at H
 clear h
 obtain ⟨⟨b8, b9, c0, c5, c8, c9, d0⟩, A3, H⟩ := bD H
 try dsimp only at H
 simp only [Option.some.injEq, Prod.mk.injEq] at H
 obtain ⟨rfl, rfl⟩ := H
 go_enter Tryz.func6, Tryz.ntmps6
 go_wp2_with (first | ((with_reducible refine gate_dst (N := 2) rfl ?_); refine box_ (cs := #[.int .i64 a0_0, .int .i64 a0_1]) (t := 25) fun g8 hg w4 hbox hb => ?_; have a5 := Aside0.mk (hbox); have g9 := bS HB hg; have h5 := bS HB hg; replace HB := Aside0.mk (below_step bB hb); clear hb hbox hg) | ((with_reducible refine gate_dst (N := 3) rfl ?_); refine box_ (cs := #[.int .i64 a1_0, .int .i64 a1_1, .bool a1_2, .bool a1_3]) (t := 27) fun h6 hg w5 hbox hb => ?_; have a6 := Aside0.mk (hbox); have h7 := bS HB hg; have h8 := bS HB hg; have a7 := bL a5 hg; have a8 := bM a5 hg; replace a5 := bQ a5 hb; replace HB := Aside0.mk (below_step bB hb); clear hb hbox hg; have i9 := a7.out; have j0 := a8.out; obtain ⟨e4, e5, e6, e7⟩ := cf2 a5; obtain ⟨e8, e9, g0, g1, g2, g3, g5, g7⟩ := cf4 a6) | ((with_reducible refine gate_callee (f := 33) rfl ?_); refine goesL_ (some 13) rfl rfl Tryz.func33 kr rfl #[.agg #[.int .i64 a0_0, .int .i64 a0_1], .agg #[.int .i64 a1_0, .int .i64 a1_1, .bool a1_2, .bool a1_3]] rfl sM ?_; (with_reducible refine (impl_toCorner.calls a0_0 a0_1 a1_0 a1_1 a1_2 a1_3 b8 b9 c0 c5 c8 c9 d0 _ A3.out).mono ?_); rintro e w9 ⟨rfl, hb⟩; refine ⟨_, rfl, ?_⟩; replace a5 := bQ a5 hb; replace a6 := bQ a6 hb; replace HB := Aside0.mk (below_step bB hb); (try clear hb)) | ((with_reducible refine gate_dst (N := 7) rfl ?_); refine box_ (cs := #[.int .i64 0, .int .i64 0, .bool false, .bool false]) (t := 27) fun h9 hg j1 hbox hb => ?_; have b7 := Aside0.mk (hbox); have i0 := bS HB hg; have i1 := bS HB hg; have a9 := bL a5 hg; have b4 := bM a5 hg; have b5 := bL a6 hg; have b6 := bM a6 hg; replace a5 := bQ a5 hb; replace a6 := bQ a6 hb; replace HB := Aside0.mk (below_step bB hb); clear hb hbox hg; have i2 := b4.out; have i3 := a9.out; have i4 := b6.out; have i5 := b5.out; obtain ⟨d2, d3, d4, d5, d6, d7, d8, d9⟩ := cf4 b7))
 go_ret2
 exact ⟨sE, bI⟩

/-! ### spec_l1In: function 54 -/
def spec_l1In.f (a0 : Int) (a1 : Int) (a2 : Int) : Option (Bool) := if a0 ≥ a1 then (some (decide (a0 ≤ a2))) else (some false)
set_option maxHeartbeats 8000000 in
set_option maxRecDepth 100000 in
theorem spec_l1In.calls (a0 : Int) (a1 : Int) (a2 : Int) (r : Bool) (w : World) (h : spec_l1In.f a0 a1 a2 = some r) :
    Calls Tryz.prog 54 #[.int .i64 a0, .int .i64 a1, .int .i64 a2] w fun e w' => e = .returned (.bool r) ∧ Drawn0 w w' := by
 have H := h
 unfold spec_l1In.f at H
 clear h
 by_cases c4 : a0 ≥ a1
 rw [if_pos c4] at H
 have a5 : decide (a1 ≤ a0) = true := decide_eq_true c4
 clear c4
 obtain rfl := Option.some.inj H
 rotate_left
 rw [if_neg c4] at H
 have a5 : decide (a1 ≤ a0) = false := decide_eq_false c4
 clear c4
 obtain rfl := Option.some.inj H
 rotate_left
 all_goals (go_enter Tryz.func54, Tryz.ntmps54)
 all_goals go_wp2
 all_goals go_ret
 all_goals (exact ⟨by first | rfl | (simp; done) | (simp [*]; done), by repeat (first | exact Drawn0.refl _ | apply Drawn0.step)⟩)

/-! ### spec_beTable: function 46 -/
def spec_beTable.f (a0_0 : Int) (a0_1 : Int) : Option (Bool) := (spec_l1In.f a0_0 1 60).bind fun t262 => (if t262 = true then ((spec_l1In.f a0_1 1 60).bind fun t263 => (some t263)) else (some false))
set_option maxHeartbeats 8000000 in
set_option maxRecDepth 100000 in
theorem spec_beTable.calls (a0_0 : Int) (a0_1 : Int) (r : Bool) (w : World) (h : spec_beTable.f a0_0 a0_1 = some r) :
    Calls Tryz.prog 46 #[.agg #[.int .i64 a0_0, .int .i64 a0_1]] w fun e w' => e = .returned (.bool r) ∧ Below w.heap.size w w' := by
 have b6 := Tryz.underlying25
 have HB := Aside0.mk (Below.refl w.heap.size w)
 have H := h
 unfold spec_beTable.f at H
 clear h
 obtain ⟨a5, A2, H⟩ := bD H
 try dsimp only at H
 by_cases c3 : a5 = true
 subst c3
 rw [if_pos rfl] at H
 obtain ⟨a6, A4, H⟩ := bD H
 try dsimp only at H
 obtain rfl := Option.some.inj H
 rotate_left
 replace c3 := Bool.eq_false_iff.mpr c3
 subst c3
 rw [if_neg nft] at H
 obtain rfl := Option.some.inj H
 rotate_left
 all_goals (go_enter Tryz.func46, Tryz.ntmps46)
 all_goals (go_wp2_with (first | ((with_reducible refine gate_dst (N := 1) rfl ?_); refine box_ (cs := #[.int .i64 a0_0, .int .i64 a0_1]) (t := 25) fun b7 hg c0 hbox hb => ?_; have a7 := Aside0.mk (hbox); have b8 := bS HB hg; have b9 := bS HB hg; replace HB := Aside0.mk (below_step bB hb); clear hb hbox hg; obtain ⟨a8, a9, b4, b5⟩ := cf2 a7) | ((with_reducible refine gate_callee (f := 54) rfl ?_); refine goesL_ (some 5) rfl rfl Tryz.func54 kr rfl #[.int .i64 a0_0, .int .i64 1, .int .i64 60] rfl sM ?_; (with_reducible refine (spec_l1In.calls a0_0 1 60 true _ A2.out).mono ?_); rintro e w' ⟨rfl, ⟨nd, rfl⟩⟩; refine ⟨_, rfl, ?_⟩) | (go_at_call 54; (with_reducible refine (spec_l1In.calls a0_1 1 60 a6 _ A4.out).mono ?_); rintro e w' ⟨rfl, ⟨nd, rfl⟩⟩) | ((with_reducible refine gate_callee (f := 54) rfl ?_); refine goesL_ (some 5) rfl rfl Tryz.func54 kr rfl #[.int .i64 a0_0, .int .i64 1, .int .i64 60] rfl sM ?_; (with_reducible refine (spec_l1In.calls a0_0 1 60 false _ A2.out).mono ?_); rintro e w' ⟨rfl, ⟨nd, rfl⟩⟩; refine ⟨_, rfl, ?_⟩)))
 all_goals go_ret
 all_goals (exact ⟨sE, bI⟩)

/-! ### spec_beGood: function 34 -/
def spec_beGood.f (a0_0 : Int) (a0_1 : Int) (a1_0 : Int) (a1_1 : Int) (a1_2 : Bool) (a1_3 : Bool) : Option (Bool) := (spec_beTable.f a0_0 a0_1).bind fun t266 => (if t266 = true then ((spec_l1In.f a1_0 0 a0_0).bind fun t267 => (if t267 = true then ((spec_l1In.f a1_1 0 a0_1).bind fun t268 => (some t268)) else (some false))) else (some false))
set_option maxHeartbeats 8000000 in
set_option maxRecDepth 100000 in
theorem spec_beGood.calls (a0_0 : Int) (a0_1 : Int) (a1_0 : Int) (a1_1 : Int) (a1_2 : Bool) (a1_3 : Bool) (r : Bool) (w : World) (h : spec_beGood.f a0_0 a0_1 a1_0 a1_1 a1_2 a1_3 = some r) :
    Calls Tryz.prog 34 #[.agg #[.int .i64 a0_0, .int .i64 a0_1], .agg #[.int .i64 a1_0, .int .i64 a1_1, .bool a1_2, .bool a1_3]] w fun e w' => e = .returned (.bool r) ∧ Below w.heap.size w w' := by
 have e6 := Tryz.underlying25
 have e7 := Tryz.underlying27
 have HB := Aside0.mk (Below.refl w.heap.size w)
 have H := h
 unfold spec_beGood.f at H
 clear h
 obtain ⟨a9, A3, H⟩ := bD H
 try dsimp only at H
 by_cases c4 : a9 = true
 subst c4
 rw [if_pos rfl] at H
 obtain ⟨b4, A5, H⟩ := bD H
 try dsimp only at H
 by_cases c6 : b4 = true
 subst c6
 rw [if_pos rfl] at H
 obtain ⟨b5, A7, H⟩ := bD H
 try dsimp only at H
 obtain rfl := Option.some.inj H
 rotate_left
 replace c6 := Bool.eq_false_iff.mpr c6
 subst c6
 rw [if_neg nft] at H
 obtain rfl := Option.some.inj H
 rotate_left
 replace c4 := Bool.eq_false_iff.mpr c4
 subst c4
 rw [if_neg nft] at H
 obtain rfl := Option.some.inj H
 rotate_left
 all_goals (go_enter Tryz.func34, Tryz.ntmps34)
 all_goals (go_wp2_with (first | ((with_reducible refine gate_dst (N := 2) rfl ?_); refine box_ (cs := #[.int .i64 a0_0, .int .i64 a0_1]) (t := 25) fun e8 hg g5 hbox hb => ?_; have a5 := Aside0.mk (hbox); have e9 := bS HB hg; have g0 := bS HB hg; replace HB := Aside0.mk (below_step bB hb); clear hb hbox hg) | ((with_reducible refine gate_dst (N := 3) rfl ?_); refine box_ (cs := #[.int .i64 a1_0, .int .i64 a1_1, .bool a1_2, .bool a1_3]) (t := 27) fun g1 hg g7 hbox hb => ?_; have a6 := Aside0.mk (hbox); have g2 := bS HB hg; have g3 := bS HB hg; have a7 := bL a5 hg; have a8 := bM a5 hg; replace a5 := bQ a5 hb; replace HB := Aside0.mk (below_step bB hb); clear hb hbox hg; have e4 := a7.out; have e5 := a8.out; obtain ⟨b6, b7, b8, b9⟩ := cf2 a5) | ((with_reducible refine gate_callee (f := 46) rfl ?_); refine goesL_ (some 6) rfl rfl Tryz.func46 kr rfl #[.agg #[.int .i64 a0_0, .int .i64 a0_1]] rfl sM ?_; (with_reducible refine (spec_beTable.calls a0_0 a0_1 true _ A3.out).mono ?_); rintro e d9 ⟨rfl, hb⟩; refine ⟨_, rfl, ?_⟩; replace a5 := bQ a5 hb; replace a6 := bQ a6 hb; replace HB := Aside0.mk (below_step bB hb); (try clear hb); obtain ⟨c0, c5, c8, c9, d0, d2, d3, d4⟩ := cf4 a6; obtain ⟨d5, d6, d7, d8⟩ := cf2 a5) | (go_at_call 54; (with_reducible refine (spec_l1In.calls a1_0 0 a0_0 true _ A5.out).mono ?_); rintro e w' ⟨rfl, ⟨nd, rfl⟩⟩) | (go_at_call 54; (with_reducible refine (spec_l1In.calls a1_1 0 a0_1 b5 _ A7.out).mono ?_); rintro e w' ⟨rfl, ⟨nd, rfl⟩⟩) | (go_at_call 54; (with_reducible refine (spec_l1In.calls a1_0 0 a0_0 false _ A5.out).mono ?_); rintro e w' ⟨rfl, ⟨nd, rfl⟩⟩) | ((with_reducible refine gate_callee (f := 46) rfl ?_); refine goesL_ (some 6) rfl rfl Tryz.func46 kr rfl #[.agg #[.int .i64 a0_0, .int .i64 a0_1]] rfl sM ?_; (with_reducible refine (spec_beTable.calls a0_0 a0_1 false _ A3.out).mono ?_); rintro e d9 ⟨rfl, hb⟩; refine ⟨_, rfl, ?_⟩; replace a5 := bQ a5 hb; replace a6 := bQ a6 hb; replace HB := Aside0.mk (below_step bB hb); (try clear hb))))
 all_goals go_ret
 all_goals (exact ⟨sE, bI⟩)

/-! ### spec_beCorner: function 67 -/
def spec_beCorner.f (a0_0 : Int) (a0_1 : Int) (a1_0 : Int) (a1_1 : Int) (a1_2 : Bool) (a1_3 : Bool) : Option (Bool) := if a1_0 = 0 then (if a1_1 = 0 then (some true) else (some (a1_1 == a0_1))) else (if a1_0 = a0_0 then (if a1_1 = 0 then (some true) else (some (a1_1 == a0_1))) else (some false))
set_option maxHeartbeats 8000000 in
set_option maxRecDepth 100000 in
theorem spec_beCorner.calls (a0_0 : Int) (a0_1 : Int) (a1_0 : Int) (a1_1 : Int) (a1_2 : Bool) (a1_3 : Bool) (r : Bool) (w : World) (h : spec_beCorner.f a0_0 a0_1 a1_0 a1_1 a1_2 a1_3 = some r) :
    Calls Tryz.prog 67 #[.agg #[.int .i64 a0_0, .int .i64 a0_1], .agg #[.int .i64 a1_0, .int .i64 a1_1, .bool a1_2, .bool a1_3]] w fun e w' => e = .returned (.bool r) ∧ Below w.heap.size w w' := by
 have e8 := Tryz.underlying25
 have e9 := Tryz.underlying27
 have HB := Aside0.mk (Below.refl w.heap.size w)
 have H := h
 unfold spec_beCorner.f at H
 clear h
 by_cases c3 : a1_0 = 0
 rw [if_pos c3] at H
 obtain ⟨b8, b9⟩ := yE c3
 clear c3
 by_cases c4 : a1_1 = 0
 rw [if_pos c4] at H
 obtain ⟨c0, c5⟩ := yE c4
 clear c4
 obtain rfl := Option.some.inj H
 rotate_left
 rw [if_neg c4] at H
 obtain ⟨c0, c5⟩ := nE c4
 obtain rfl := Option.some.inj H
 rotate_left
 rw [if_neg c3] at H
 obtain ⟨b8, b9⟩ := nE c3
 by_cases a6 : a1_0 = a0_0
 rw [if_pos a6] at H
 obtain ⟨b4, b5⟩ := yE a6
 clear a6
 by_cases a7 : a1_1 = 0
 rw [if_pos a7] at H
 obtain ⟨b6, b7⟩ := yE a7
 clear a7
 obtain rfl := Option.some.inj H
 rotate_left
 rw [if_neg a7] at H
 obtain ⟨b6, b7⟩ := nE a7
 obtain rfl := Option.some.inj H
 rotate_left
 rw [if_neg a6] at H
 obtain ⟨b4, b5⟩ := nE a6
 obtain rfl := Option.some.inj H
 rotate_left
 all_goals (go_enter Tryz.func67, Tryz.ntmps67)
 all_goals (go_wp2_with (first | ((with_reducible refine gate_dst (N := 2) rfl ?_); refine box_ (cs := #[.int .i64 a0_0, .int .i64 a0_1]) (t := 25) fun g0 hg g8 hbox hb => ?_; have a5 := Aside0.mk (hbox); have g1 := bS HB hg; have g2 := bS HB hg; replace HB := Aside0.mk (below_step bB hb); clear hb hbox hg) | ((with_reducible refine gate_dst (N := 3) rfl ?_); refine box_ (cs := #[.int .i64 a1_0, .int .i64 a1_1, .bool a1_2, .bool a1_3]) (t := 27) fun g3 hg g9 hbox hb => ?_; have c8 := Aside0.mk (hbox); have g5 := bS HB hg; have g7 := bS HB hg; have a8 := bL a5 hg; have a9 := bM a5 hg; replace a5 := bQ a5 hb; replace HB := Aside0.mk (below_step bB hb); clear hb hbox hg; have e6 := a9.out; have e7 := a8.out; obtain ⟨c9, d0, d2, d3, d4, d5, d6, d7⟩ := cf4 c8; obtain ⟨d8, d9, e4, e5⟩ := cf2 a5)))
 all_goals go_ret
 all_goals (exact ⟨sE, bI⟩)

end Go.Proofs.YtlmiaadpnbehgaaGreatDoor.PFnBeamsEnd
