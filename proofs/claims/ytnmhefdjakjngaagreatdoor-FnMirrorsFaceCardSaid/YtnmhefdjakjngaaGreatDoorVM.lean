-- Short words for what the printed walks say again and again. Written by this session.
import Derived.Test.YtnmhefdjakjngaaGreatDoorVW
set_option linter.unusedVariables false
namespace Go.Proofs.YtnmhefdjakjngaaGreatDoorV
open Go.RowKit Go.Proofs.YtnmhefdjakjngaaGreatDoorW.PrintWords Go.Proofs.YtnmhefdjakjngaaGreatDoorW.PrintLast
theorem kr {p : Prop} (h : p := by kernel_rfl) : p := h
theorem asm {p : Prop} (h : p := by first | (with_reducible assumption) | assumption) : p := h
theorem sR {p : Prop} (h : p := by first | rfl | (simp; done) | (simp [*]; done)) : p := h
theorem sE {p : Prop} (h : p := by first | rfl | (simp [errW_none, errW_some] <;> rfl) | (simp [*, errW_none, errW_some] <;> rfl)) : p := h
theorem sM {p : Prop} (h : p := by (try simp only [List.map_toArray, List.map_cons, List.map_nil]); first | done | rfl | (simp only [List.length_drop, List.length_take]; rfl)) : p := h
theorem nft : ¬ (false = true) := by decide
theorem fy {r : Bool} {p : Prop} (HT : Aside0 (r = true)) (H : some false = some r) : p := absurd (Option.some.inj H) (by rw [HT.out]; decide)
theorem fz {r : Bool} {p : Prop} {F : Nat → Option Bool} (HT : Aside0 (r = true)) (k : Nat) (H : F k = some r) (h0 : F 0 = none := by rfl) (h1 : ∀ k, F (k + 1) = some false := by intro k_; first | rfl | exact if_pos rfl) : p := by
  cases k with
  | zero => rw [h0] at H; cases H
  | succ k => rw [h1] at H; exact fy HT H
theorem bD {α β : Type} {o : Option α} {f : α → Option β} {r : β} (h : o.bind f = some r) : ∃ a, Aside0 (o = some a) ∧ f a = some r := by
  obtain ⟨a, h1, h2⟩ := Option.bind_eq_some_iff.mp h
  exact ⟨a, ⟨h1⟩, h2⟩
theorem nt {α : Type} [BEq α] [LawfulBEq α] [DecidableEq α] {a b : α} (h : (a != b) = true) : (a != b) = true ∧ decide (a = b) = false ∧ (a == b) = false ∧ ¬ (a = b) := by
  have h1 : ¬ a = b := by simpa using h
  exact ⟨h, decide_eq_false h1, beq_eq_false_iff_ne.mpr h1, h1⟩
theorem nf {α : Type} [BEq α] [LawfulBEq α] [DecidableEq α] {a b : α} (h : ¬ (a != b) = true) : (a != b) = false ∧ decide (a = b) = true ∧ (a == b) = true := by
  have h1 : a = b := by simpa using h
  exact ⟨by simpa using h, decide_eq_true h1, beq_iff_eq.mpr h1⟩
theorem yE {α : Type} [BEq α] [LawfulBEq α] {a b : α} (h : a = b) : (a == b) = true ∧ (a != b) = false := ⟨beq_iff_eq.mpr h, bne_eq_false_iff_eq.mpr h⟩
theorem nE {α : Type} [BEq α] [LawfulBEq α] {a b : α} (h : ¬ a = b) : (a == b) = false ∧ (a != b) = true := ⟨beq_eq_false_iff_ne.mpr h, bne_iff_ne.mpr h⟩
theorem blkF {w : World} {g : Nat} {t : TypeId} {cs : Array Value} {p : Addr} {u : Value} (hp : g ≠ p.block) (h : w.heap[g]? = some (.cells cs t (0, 0))) : (w.setCell p u).heap[g]? = some (.cells cs t (0, 0)) := blk_far h hp u
theorem bD1 {w : World} {g : Nat} {o : Obj} (x : Aside0 (w.heap[g]? = some o)) : Aside0 (w.drew.heap[g]? = some o) := x
theorem bF {w X W : World} {g : Nat} {o : Obj} (hW : X = W) (x : Aside0 (w.heap[g]? = some o)) (h : w.heap[g]? = some o → X.heap[g]? = some o := by (intro hx_; repeat (first | (with_reducible first | exact hx_ | apply blk_drewN | apply blk_drew | apply blk_alloc) | ((with_reducible apply blkF); exact (Aside0.out (by assumption))) | (with_reducible apply blkP) | ((with_reducible show Array.setIfInBounds _ _ _ = _); rfl)))) : Aside0 (W.heap[g]? = some o) := ⟨hW ▸ h x.out⟩
theorem bFp {w X W : World} {g : Nat} {o0 : Obj} (hW : X = W) (o : Obj) (x : Aside0 (w.heap[g]? = some o0)) (h : w.heap[g]? = some o0 → X.heap[g]? = some o := by (intro hx_; repeat (first | (with_reducible first | exact hx_ | apply blk_drewN | apply blk_drew | apply blk_alloc) | ((with_reducible apply blkF); exact (Aside0.out (by assumption))) | (with_reducible apply blkP) | ((with_reducible show Array.setIfInBounds _ _ _ = _); rfl)))) : Aside0 (W.heap[g]? = some o) := ⟨hW ▸ h x.out⟩
theorem blkP {w : World} {g : Nat} {t : TypeId} {cs cs' : Array Value} {i : Nat} {u : Value} (h : w.heap[g]? = some (.cells cs t (0, 0))) (e : cs.setIfInBounds i u = cs') : (w.setCell ⟨g, i, none⟩ u).heap[g]? = some (.cells cs' t (0, 0)) := blk_put h i u e
theorem bG {w w0 X W : World} (x : Aside0 (Below w.heap.size w w0)) (hW : X = W) (h : Below w.heap.size w X := by repeat (first | (with_reducible first | exact HB.out | apply below_alloc | apply pw_below_drewN | apply below_drew1 | refine below_set ?_ (Aside0.out (by assumption))) | exact HB.out)) : Aside0 (Below w.heap.size w W) := ⟨hW ▸ h⟩
theorem cB {w : World} {g i : Nat} {t : TypeId} {cs : Array Value} {v : Value} (x : Aside0 (w.heap[g]? = some (.cells cs t (0, 0)))) (e : cs[i]? = some v) : w.cell? ⟨g, i, none⟩ = some v := (blk_cell x.out i).trans e
theorem cb {w : World} {g : Nat} {t : TypeId} {cs : Array Value} {v : Value} (x : Aside0 (w.heap[g]? = some (.cells cs t (0, 0)))) (i : Nat) (e : cs[i]? = some v := by rfl) : w.cell? ⟨g, i, none⟩ = some v := (blk_cell x.out i).trans e
theorem cS {p : Prop} (h : p := by repeat (first | exact trivial | refine And.intro ?_ ?_ | (with_reducible assumption) | ((with_reducible apply cB); (first | (with_reducible assumption) | assumption); rfl) | assumption)) : p := h
theorem kK {p : Prop} (h : p := by repeat (first | (with_reducible first | exact HK.out | apply KeepBut.set_ | apply keep_drewN | apply keep_drew | apply keep_alloc | refine keep_far ?_ (Aside0.out (by assumption)) _) | exact HK.out)) : p := h
theorem kI {p : Prop} (h : p := by repeat (first | (with_reducible first | exact HI0.out | apply IsS51.alloc | apply IsS51.drewN | apply IsS51.drew | apply IsS51.set_1 | apply IsS51.set_2 | refine IsS51.far ?_ (Aside0.out (by assumption)) _) | exact HI0.out)) : p := h
theorem bI {p : Prop} (h : p := by repeat (first | (with_reducible first | exact HB.out | apply below_alloc | apply pw_below_drewN | apply below_drew1 | refine below_set ?_ (IsS51.ge HI0.out) | refine below_set ?_ (Aside0.out (by assumption))) | exact HB.out)) : p := h
theorem kS {w w1 W : World} {g g' : Nat} (x : Aside0 (KeepBut w w1 g none)) (hg : g' = W.heap.size) (h : KeepBut w W g none := by repeat (first | (with_reducible first | exact HK.out | apply KeepBut.set_ | apply keep_drewN | apply keep_drew | apply keep_alloc | refine keep_far ?_ (Aside0.out (by assumption)) _) | exact HK.out)) : Aside0 (w.heap.size ≤ g') := ⟨by rw [hg]; exact keep_size h⟩
theorem kE {w0 w w1 W : World} {g g' : Nat} (y : Aside0 (w0.heap.size ≤ w.heap.size)) (x : Aside0 (KeepBut w w1 g none)) (hg : g' = W.heap.size) (h : KeepBut w W g none := by repeat (first | (with_reducible first | exact HK.out | apply KeepBut.set_ | apply keep_drewN | apply keep_drew | apply keep_alloc | refine keep_far ?_ (Aside0.out (by assumption)) _) | exact HK.out)) : Aside0 (w0.heap.size ≤ g') := ⟨Nat.le_trans y.out (by rw [hg]; exact keep_size h)⟩
theorem kN {W : World} {g g' : Nat} (hg : g' = W.heap.size) (h : g < W.heap.size := by exact IsS51.lt (by repeat (first | (with_reducible first | exact HI0.out | apply IsS51.alloc | apply IsS51.drewN | apply IsS51.drew | apply IsS51.set_1 | apply IsS51.set_2 | refine IsS51.far ?_ (Aside0.out (by assumption)) _) | exact HI0.out))) : Aside0 (g ≠ g') := ⟨by rw [hg]; exact Nat.ne_of_lt h⟩
theorem kM {W : World} {g g' : Nat} (hg : g' = W.heap.size) (h : g < W.heap.size := by exact IsS51.lt (by repeat (first | (with_reducible first | exact HI0.out | apply IsS51.alloc | apply IsS51.drewN | apply IsS51.drew | apply IsS51.set_1 | apply IsS51.set_2 | refine IsS51.far ?_ (Aside0.out (by assumption)) _) | exact HI0.out))) : Aside0 (g' ≠ g) := ⟨by rw [hg]; exact Nat.ne_of_gt h⟩
theorem dSet (W : World) (n : Nat) (a : Addr) (v : Value) : (W.drewN n).setCell a v = (W.setCell a v).drewN n := rfl
theorem bB {p : Prop} (h : p := by repeat (first | (with_reducible first | exact HB.out | apply below_alloc | apply pw_below_drewN | apply below_drew1 | refine below_set ?_ (Aside0.out (by assumption))) | exact HB.out)) : p := h
theorem bK {p q : Prop} (x : Aside0 q) (h : q → p := by (intro hx_; repeat (first | (with_reducible first | exact hx_ | apply blk_drewN | apply blk_drew | apply blk_alloc) | ((with_reducible apply blkF); exact (Aside0.out (by assumption))) | (with_reducible apply blkP) | ((with_reducible show Array.setIfInBounds _ _ _ = _); rfl)))) : p := h x.out
theorem bA {p q : Prop} (x : Aside0 q) (h : q → p := by (intro hx_; repeat (first | (with_reducible first | exact hx_ | apply blk_drewN | apply blk_drew | apply blk_alloc) | ((with_reducible apply blkF); exact (Aside0.out (by assumption))) | (with_reducible apply blkP) | ((with_reducible show Array.setIfInBounds _ _ _ = _); rfl)))) : Aside0 p := ⟨h x.out⟩
theorem bQ {w W w1 : World} {g : Nat} {o : Obj} (x : Aside0 (w.heap[g]? = some o)) (hb : Below W.heap.size W w1) (h : w.heap[g]? = some o → W.heap[g]? = some o := by (intro hx_; repeat (first | (with_reducible first | exact hx_ | apply blk_drewN | apply blk_drew | apply blk_alloc) | ((with_reducible apply blkF); exact (Aside0.out (by assumption))) | (with_reducible apply blkP) | ((with_reducible show Array.setIfInBounds _ _ _ = _); rfl)))) : Aside0 (w1.heap[g]? = some o) := ⟨blk_below (h x.out) hb⟩
theorem bP {w W w1 : World} {g : Nat} {o0 : Obj} (o : Obj) (x : Aside0 (w.heap[g]? = some o0)) (hb : Below W.heap.size W w1) (h : w.heap[g]? = some o0 → W.heap[g]? = some o := by (intro hx_; repeat (first | (with_reducible first | exact hx_ | apply blk_drewN | apply blk_drew | apply blk_alloc) | ((with_reducible apply blkF); exact (Aside0.out (by assumption))) | (with_reducible apply blkP) | ((with_reducible show Array.setIfInBounds _ _ _ = _); rfl)))) : Aside0 (w1.heap[g]? = some o) := ⟨blk_below (h x.out) hb⟩
theorem bS {w w0 W : World} {g : Nat} (x : Aside0 (Below w.heap.size w w0)) (hg : g = W.heap.size) (h : Below w.heap.size w W := by repeat (first | (with_reducible first | exact HB.out | apply below_alloc | apply pw_below_drewN | apply below_drew1 | refine below_set ?_ (Aside0.out (by assumption))) | exact HB.out)) : Aside0 (w.heap.size ≤ g) := ⟨by rw [hg]; exact below_size h⟩
theorem bL {w W : World} {g g' : Nat} {o : Obj} (x : Aside0 (w.heap[g]? = some o)) (hg : g' = W.heap.size) (h : w.heap[g]? = some o → W.heap[g]? = some o := by (intro hx_; repeat (first | (with_reducible first | exact hx_ | apply blk_drewN | apply blk_drew | apply blk_alloc) | ((with_reducible apply blkF); exact (Aside0.out (by assumption))) | (with_reducible apply blkP) | ((with_reducible show Array.setIfInBounds _ _ _ = _); rfl)))) : Aside0 (g ≠ g') := ⟨by rw [hg]; exact Nat.ne_of_lt (blk_lt (h x.out))⟩
theorem bLp {w W : World} {g g' : Nat} {o0 : Obj} (o : Obj) (x : Aside0 (w.heap[g]? = some o0)) (hg : g' = W.heap.size) (h : w.heap[g]? = some o0 → W.heap[g]? = some o := by (intro hx_; repeat (first | (with_reducible first | exact hx_ | apply blk_drewN | apply blk_drew | apply blk_alloc) | ((with_reducible apply blkF); exact (Aside0.out (by assumption))) | (with_reducible apply blkP) | ((with_reducible show Array.setIfInBounds _ _ _ = _); rfl)))) : Aside0 (g ≠ g') := ⟨by rw [hg]; exact Nat.ne_of_lt (blk_lt (h x.out))⟩
theorem bM {w W : World} {g g' : Nat} {o : Obj} (x : Aside0 (w.heap[g]? = some o)) (hg : g' = W.heap.size) (h : w.heap[g]? = some o → W.heap[g]? = some o := by (intro hx_; repeat (first | (with_reducible first | exact hx_ | apply blk_drewN | apply blk_drew | apply blk_alloc) | ((with_reducible apply blkF); exact (Aside0.out (by assumption))) | (with_reducible apply blkP) | ((with_reducible show Array.setIfInBounds _ _ _ = _); rfl)))) : Aside0 (g' ≠ g) := ⟨by rw [hg]; exact Nat.ne_of_gt (blk_lt (h x.out))⟩
theorem bMp {w W : World} {g g' : Nat} {o0 : Obj} (o : Obj) (x : Aside0 (w.heap[g]? = some o0)) (hg : g' = W.heap.size) (h : w.heap[g]? = some o0 → W.heap[g]? = some o := by (intro hx_; repeat (first | (with_reducible first | exact hx_ | apply blk_drewN | apply blk_drew | apply blk_alloc) | ((with_reducible apply blkF); exact (Aside0.out (by assumption))) | (with_reducible apply blkP) | ((with_reducible show Array.setIfInBounds _ _ _ = _); rfl)))) : Aside0 (g' ≠ g) := ⟨by rw [hg]; exact Nat.ne_of_gt (blk_lt (h x.out))⟩
theorem oS {p q : Prop} (x : Aside0 q) (h : q → p := by (intro hx_; (with_reducible repeat (first | apply Kd.S_alloc | apply Kd.S_drewN | apply Kd.S_drew)); exact hx_)) : p := h x.out
theorem oR {p q : Prop} (x : Aside0 q) (h : q → p := by (intro hx_; (with_reducible repeat (first | apply Kd.R_alloc | apply Kd.R_drewN | apply Kd.R_drew)); exact hx_)) : p := h x.out
theorem cR {p q : Prop} (x : Aside0 q) (h : q → p := by (intro hx_; repeat (first | (with_reducible exact hx_) | (with_reducible refine Kd.C_alloc ?_ _) | (with_reducible refine Kd.C_drewN ?_ _) | (with_reducible refine Kd.C_drew ?_) | exact hx_))) : p := h x.out
section
variable {w : World} {g : Nat} {t : TypeId} {a b c d e f : Value}
theorem cf1 (x : Aside0 (w.heap[g]? = some (.cells #[a] t (0, 0)))) : w.cell? ⟨g, 0, none⟩ = some a ∧ w.frozen? ⟨g, 0, none⟩ = false := ⟨blk_cell x.out 0, blk_frozen x.out 0⟩
theorem cf2 (x : Aside0 (w.heap[g]? = some (.cells #[a, b] t (0, 0)))) : w.cell? ⟨g, 0, none⟩ = some a ∧ w.cell? ⟨g, 1, none⟩ = some b ∧ w.frozen? ⟨g, 0, none⟩ = false ∧ w.frozen? ⟨g, 1, none⟩ = false := ⟨blk_cell x.out 0, blk_cell x.out 1, blk_frozen x.out 0, blk_frozen x.out 1⟩
theorem cf3 (x : Aside0 (w.heap[g]? = some (.cells #[a, b, c] t (0, 0)))) : w.cell? ⟨g, 0, none⟩ = some a ∧ w.cell? ⟨g, 1, none⟩ = some b ∧ w.cell? ⟨g, 2, none⟩ = some c ∧ w.frozen? ⟨g, 0, none⟩ = false ∧ w.frozen? ⟨g, 1, none⟩ = false ∧ w.frozen? ⟨g, 2, none⟩ = false := ⟨blk_cell x.out 0, blk_cell x.out 1, blk_cell x.out 2, blk_frozen x.out 0, blk_frozen x.out 1, blk_frozen x.out 2⟩
theorem cf4 (x : Aside0 (w.heap[g]? = some (.cells #[a, b, c, d] t (0, 0)))) : w.cell? ⟨g, 0, none⟩ = some a ∧ w.cell? ⟨g, 1, none⟩ = some b ∧ w.cell? ⟨g, 2, none⟩ = some c ∧ w.cell? ⟨g, 3, none⟩ = some d ∧ w.frozen? ⟨g, 0, none⟩ = false ∧ w.frozen? ⟨g, 1, none⟩ = false ∧ w.frozen? ⟨g, 2, none⟩ = false ∧ w.frozen? ⟨g, 3, none⟩ = false := ⟨blk_cell x.out 0, blk_cell x.out 1, blk_cell x.out 2, blk_cell x.out 3, blk_frozen x.out 0, blk_frozen x.out 1, blk_frozen x.out 2, blk_frozen x.out 3⟩
theorem cc2 (x : Aside0 (w.heap[g]? = some (.cells #[a, b] t (0, 0)))) : w.cell? ⟨g, 0, none⟩ = some a ∧ w.cell? ⟨g, 1, none⟩ = some b := ⟨blk_cell x.out 0, blk_cell x.out 1⟩
theorem cc3 (x : Aside0 (w.heap[g]? = some (.cells #[a, b, c] t (0, 0)))) : w.cell? ⟨g, 0, none⟩ = some a ∧ w.cell? ⟨g, 1, none⟩ = some b ∧ w.cell? ⟨g, 2, none⟩ = some c := ⟨blk_cell x.out 0, blk_cell x.out 1, blk_cell x.out 2⟩
theorem cc4 (x : Aside0 (w.heap[g]? = some (.cells #[a, b, c, d] t (0, 0)))) : w.cell? ⟨g, 0, none⟩ = some a ∧ w.cell? ⟨g, 1, none⟩ = some b ∧ w.cell? ⟨g, 2, none⟩ = some c ∧ w.cell? ⟨g, 3, none⟩ = some d := ⟨blk_cell x.out 0, blk_cell x.out 1, blk_cell x.out 2, blk_cell x.out 3⟩
end
section
variable {P : Program} {ops : Array Oper} {rest : List Oper} {o : Oper} {a : Act} {Q : Exit → Act → World → Prop} {W : World}
theorem box_ {cs : Array Value} {t : TypeId} (h : ∀ g, g = W.heap.size → ∀ w1, w1.heap[g]? = some (.cells cs t (0, 0)) → Below W.heap.size W w1 → wpList P ops Q rest (a.put o.dst (.pointer (some ⟨g, 0, none⟩))) w1) (hgd : o.guard = none := by rfl)
    (hrun : (execOp a.eval o).run P W = .ok (.value (.pointer (some ⟨W.heap.size, 0, none⟩))) (W.alloc (.cells cs t (0, 0))) := by first | (go_simp; done) | (go_simp; rfl)) : wpList P ops Q (o :: rest) a W :=
  Kd.event_run hgd hrun (h _ rfl _ (blk_new W _) (below_alloc (Below.refl _ _) _))
end
/-! ### Regions by a plan: the operations in the order in which they are taken; what has come up is a number's bits -/
def bls (n m : Nat) : List Bool := (List.range n).map fun i => m.testBit i
def bl (n m : Nat) : Array Bool := (bls n m).toArray
theorem bl_zero (n : Nat) : Array.replicate n false = bl n 0 := by
  apply Array.ext'
  simp only [bl, bls, Array.toList_replicate, Nat.zero_testBit]
  rw [List.map_const', List.length_range]
def Pl (_ : List (Nat × Option Tmp × Nat)) (p : Prop) : Prop := p
abbrev q (i t : Nat) : Nat × Option Tmp × Nat := (i, some t, 0)
abbrev qb (i t : Nat) : Nat × Option Tmp × Nat := (i, some t, 1)
abbrev qt (i t : Nat) : Nat × Option Tmp × Nat := (i, some t, 2)
abbrev qo (i t : Nat) : Nat × Option Tmp × Nat := (i, some t, 3)
abbrev qn (i k : Nat) : Nat × Option Tmp × Nat := (i, none, k)
section
variable {P : Program} {ops : Array Oper} {Q : Exit → Act → World → Prop} {md : Region.Mode} {S : World → Prop} {ds : List Nat} {T : Bool × List (List Nat × List Nat)} {B : List Nat}
theorem st_ {id : Nat} {a : Act} {w : World} (n : Nat) (ps : List (Nat × Option Tmp × Nat)) (hT : rtab .any ops = T) (hB : waitsOk T.2 B = true) (hS : S w.drew)
    (h : S w.drew → Aside0 (rtab .any ops = T) → Aside0 (waitsOk T.2 B = true) → Pl ps (wpAnyLast P .any ops Q S ds n (bl n 0) a w.drew)) (hm : P.follows .mixedOrders = true := by kernel_rfl) (hn : ops.size = n := by rfl) : (Code.region id ops true).wp P Q a w :=
  start_ (bl n 0) hm hn (bl_zero n) hS (fun hs => h hs ⟨hT⟩ ⟨hB⟩)
theorem st0_ {id : Nat} {a : Act} {w : World} (n : Nat) (ps : List (Nat × Option Tmp × Nat)) (hS : S w.drew)
    (h : S w.drew → Aside0 (rtab .any ops = rtab .any ops) → Aside0 (waitsOk (rtab .any ops).2 [] = true) → Pl ps (wpAnyLast P .any ops Q S ds n (bl n 0) a w.drew)) (hB : waitsOk (rtab .any ops).2 [] = true := by kernel_rfl) (hm : P.follows .mixedOrders = true := by kernel_rfl) (hn : ops.size = n := by rfl) : (Code.region id ops true).wp P Q a w :=
  start_ (bl n 0) hm hn (bl_zero n) hS (fun hs => h hs ⟨rfl⟩ ⟨hB⟩)
theorem pA {n m i : Nat} {N : Option Tmp} {ps : List (Nat × Option Tmp × Nat)} {oi : Oper} {v : Value} {fuel : Nat} {a a' : Act} {w : World} (HT : Aside0 (rtab md ops = T)) (h : Pl ps (wpAnyLast P md ops Q S ds fuel (bl n (m ||| 1 <<< i)) a' w))
    (hi : ops[i]? = some oi := by exact rfl) (hN : oi.dst = N := by exact rfl) (hw : Region.wanted oi (yielded ops a.tmps) = true := by rfl)
    (hc : anyT T (bl n m).toList (bl n (m ||| 1 <<< i)).toList i = true := by kernel_rfl)
    (hy : ∀ w', (execOp a.eval oi).run P w' = .ok (.value v) w' := by intro w'; go_simp; with_reducible rfl)
    (ha : a.put N v = a' := by (simp only [Act.put, List.setIfInBounds_toArray, List.set_cons_zero, List.set_cons_succ, i64_w, i32_w]; rfl))
    (hQ : ∀ c a w, Q (.panic c) (a.put oi.dst v) w → Q (.panic c) a w := by exact fun _ _ _ h => h) :
    Pl ((i, N, 0) :: ps) (wpAnyLast P md ops Q S ds (fuel + 1) (bl n m) a w) :=
  pure_ (bl n (m ||| 1 <<< i)) hi hN (any_of HT.out hc) hQ (Or.inl ⟨hw, hy⟩) ha h
theorem pB {n m i κ : Nat} {N : Option Tmp} {ps : List (Nat × Option Tmp × Nat)} {oi : Oper} {fuel : Nat} {a a' : Act} {w : World} (HT : Aside0 (rtab md ops = T)) (h : Pl ps (wpAnyLast P md ops Q S ds fuel (bl n (m ||| 1 <<< i)) a' w))
    (hi : ops[i]? = some oi := by exact rfl) (hN : oi.dst = N := by exact rfl) (hw : Region.wanted oi (yielded ops a.tmps) = false := by rfl)
    (hc : anyT T (bl n m).toList (bl n (m ||| 1 <<< i)).toList i = true := by kernel_rfl)
    (ha : a.put N undef = a' := by (simp only [Act.put, List.setIfInBounds_toArray, List.set_cons_zero, List.set_cons_succ, i64_w, i32_w]; rfl))
    (hQ : ∀ c a w, Q (.panic c) (a.put oi.dst undef) w → Q (.panic c) a w := by exact fun _ _ _ h => h) :
    Pl ((i, N, κ) :: ps) (wpAnyLast P md ops Q S ds (fuel + 1) (bl n m) a w) :=
  pure_ (bl n (m ||| 1 <<< i)) hi hN (any_of HT.out hc) hQ (Or.inr ⟨hw, rfl⟩) ha h
theorem pT {n m i : Nat} {N : Option Tmp} {ps : List (Nat × Option Tmp × Nat)} {oi : Oper} {v : Value} {fuel : Nat} {a a' : Act} {w : World} (HT : Aside0 (rtab md ops = T)) (HW : Aside0 (waitsOk T.2 B = true)) (hS : S w) (h : Pl ps (wpAnyLast P md ops Q S ds fuel (bl n (m ||| 1 <<< i)) a' w))
    (hi : ops[i]? = some oi := by exact rfl) (hN : oi.dst = N := by exact rfl) (hw : Region.wanted oi (yielded ops a.tmps) = true := by rfl)
    (hc : takeW T B ds (bl n m).toList (bl n (m ||| 1 <<< i)).toList i = true := by kernel_rfl)
    (hy : ∀ w', S w' → (execOp a.eval oi).run P w' = .ok (.value v) w' := by (intro w' hs_; (repeat (obtain ⟨_, hs_⟩ := hs_)); go_simp; with_reducible rfl))
    (ha : a.put N v = a' := by (simp only [Act.put, List.setIfInBounds_toArray, List.set_cons_zero, List.set_cons_succ, i64_w, i32_w]; rfl))
    (hQ : ∀ c a w, Q (.panic c) (a.put oi.dst v) w → Q (.panic c) a w := by exact fun _ _ _ h => h) :
    Pl ((i, N, 2) :: ps) (wpAnyLast P md ops Q S ds (fuel + 1) (bl n m) a w) :=
  take_ (bl n (m ||| 1 <<< i)) hi hN (take_ofW HT.out HW.out hc) hQ (Or.inl ⟨hw, hy⟩) hS ha h
theorem pU {n m i : Nat} {N : Option Tmp} {ps : List (Nat × Option Tmp × Nat)} {oi : Oper} {v : Value} {fuel : Nat} {a a' : Act} {w : World} (HT : Aside0 (rtab md ops = T)) (hS : S w) (h : Pl ps (wpAnyLast P md ops Q S ds fuel (bl n (m ||| 1 <<< i)) a' w))
    (hi : ops[i]? = some oi := by exact rfl) (hN : oi.dst = N := by exact rfl) (hw : Region.wanted oi (yielded ops a.tmps) = true := by rfl)
    (hc : takeT T ds (bl n m).toList (bl n (m ||| 1 <<< i)).toList i = true := by kernel_rfl)
    (hy : ∀ w', S w' → (execOp a.eval oi).run P w' = .ok (.value v) w' := by (intro w' hs_; (repeat (obtain ⟨_, hs_⟩ := hs_)); go_simp; with_reducible rfl))
    (ha : a.put N v = a' := by (simp only [Act.put, List.setIfInBounds_toArray, List.set_cons_zero, List.set_cons_succ, i64_w, i32_w]; rfl))
    (hQ : ∀ c a w, Q (.panic c) (a.put oi.dst v) w → Q (.panic c) a w := by exact fun _ _ _ h => h) :
    Pl ((i, N, 2) :: ps) (wpAnyLast P md ops Q S ds (fuel + 1) (bl n m) a w) :=
  take_ (bl n (m ||| 1 <<< i)) hi hN (take_of HT.out hc) hQ (Or.inl ⟨hw, hy⟩) hS ha h
theorem pO {n m i : Nat} {N : Option Tmp} {ps : List (Nat × Option Tmp × Nat)} {oi : Oper} {fuel : Nat} {a : Act} {w : World} (HT : Aside0 (rtab md ops = T))
    (h : ∀ K : Act → World → Prop, Shut (∀ a' w', S w' → (S w' → Pl ps (wpAnyLast P md ops Q S ds fuel (bl n (m ||| 1 <<< i)) a' w')) → K a' w') → if Region.wanted oi (yielded ops a.tmps) = true then Oper.wp P oi a w K Q else K (a.put N undef) w)
    (hi : ops[i]? = some oi := by exact rfl) (hN : oi.dst = N := by exact rfl)
    (hc : (readyT T.2 (bl n m).toList == [i] && (bl n m).toList.set i true == (bl n (m ||| 1 <<< i)).toList) = true := by kernel_rfl) (hd : i ∉ ds := by decide) :
    Pl ((i, N, 3) :: ps) (wpAnyLast P md ops Q S ds (fuel + 1) (bl n m) a w) :=
  one_ (bl n (m ||| 1 <<< i)) hi hN (one_of HT.out hc) hd h
theorem pL {n m i : Nat} {N : Option Tmp} {ps : List (Nat × Option Tmp × Nat)} {oi : Oper} {fuel : Nat} {a : Act} {w : World} (HT : Aside0 (rtab md ops = T))
    (h : ∀ K : Act → World → Prop, Shut (∀ a' w', Pl ps (wpAnyLast P md ops Q S ds fuel (bl n (m ||| 1 <<< i)) a' w') → K a' w') → if Region.wanted oi (yielded ops a.tmps) = true then Oper.wp P oi a w K Q else K (a.put N undef) w)
    (hi : ops[i]? = some oi := by exact rfl) (hN : oi.dst = N := by exact rfl)
    (hc : (readyT T.2 (bl n m).toList == [i] && (bl n m).toList.set i true == (bl n (m ||| 1 <<< i)).toList) = true := by kernel_rfl) (hd : i ∈ ds := by decide) :
    Pl ((i, N, 3) :: ps) (wpAnyLast P md ops Q S ds (fuel + 1) (bl n m) a w) :=
  last_ (bl n (m ||| 1 <<< i)) hi hN (one_of HT.out hc) hd h
theorem pD {n m : Nat} {fuel : Nat} {a : Act} {w : World} (HT : Aside0 (rtab md ops = T)) (h : Q .normal a w) (hc : (readyT T.2 (bl n m).toList == []) = true := by kernel_rfl) : Pl [] (wpAnyLast P md ops Q S ds fuel (bl n m) a w) := done_ (done_of HT.out hc) h
theorem nP {ps : List (Nat × Option Tmp × Nat)} {fuel : Nat} {l : Array Bool} {a a' : Act} {w : World} (h : Pl ps (wpAnyLast P md ops Q S ds fuel l a' w)) (ha : a = a' := by (simp only [Act.put, List.setIfInBounds_toArray, List.set_cons_zero, List.set_cons_succ, i64_w, i32_w]; rfl)) : Pl ps (wpAnyLast P md ops Q S ds fuel l a w) := norm_ ha h
end
end Go.Proofs.YtnmhefdjakjngaaGreatDoorV
