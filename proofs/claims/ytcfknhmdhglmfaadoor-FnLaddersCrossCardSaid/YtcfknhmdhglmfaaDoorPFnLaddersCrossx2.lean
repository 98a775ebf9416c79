-- Written by xprint.py, a program of this session, for this seat; Lean checks it.
import Derived.Test.YtcfknhmdhglmfaaDoorVM
import Derived.Test.YtcfknhmdhglmfaaDoorPFnLaddersCrossx0
namespace Go.Proofs.YtcfknhmdhglmfaaDoor.PFnLaddersCross
open Go.Proofs.YtcfknhmdhglmfaaDoorV Go.RowKit Go.Proofs.YtcfknhmdhglmfaaDoorW.PrintWords Go.Proofs.YtcfknhmdhglmfaaDoorW.PrintLast Go.Proofs.YtcfknhmdhglmfaaDoorW.PrintMore
attribute [local go_sem] max2_int min2_int max_two min_two max_three min_three max_four min_four   -- for this text's walks alone
set_option linter.unusedVariables false
set_option linter.unusedSimpArgs false

/-! ### laws_big: function 4 -/
def laws_big.f (l0 : List Int) (l1 : List Int) : Option (Bool) := if (l0.length : Int) > 1048576 then (some true) else (some (decide ((l1.length : Int) > (wrap64 (1048576 - (l0.length : Int))))))
set_option maxHeartbeats 8000000 in
set_option maxRecDepth 100000 in
theorem laws_big.calls (A0 : Option Addr) (c0 : Nat) (l0 : List Int) (A1 : Option Addr) (c1 : Nat) (l1 : List Int) (r : Bool) (w : World) (hr0 : Kd.C (Kd.int .u8) w A0 l0.length l0) (hc0 : l0.length ≤ c0) (hr1 : Kd.C (Kd.int .u8) w A1 l1.length l1) (hc1 : l1.length ≤ c1) (h : laws_big.f l0 l1 = some r) :
    Calls Tryd.prog 4 #[.slice A0 l0.length c0, .slice A1 l1.length c1] w fun e w' => e = .returned (.bool r) ∧ Drawn0 w w' := by
 have a5 := Aside0.mk hr0
 have a6 := Aside0.mk hc0
 clear hr0 hc0
 have a7 := Aside0.mk hr1
 have a8 := Aside0.mk hc1
 clear hr1 hc1
 have H := h
 unfold laws_big.f at H
 clear h
 by_cases c3 : (l0.length : Int) > 1048576
 rw [if_pos c3] at H
 have a3 : decide (1048576 < (l0.length : Int)) = true := decide_eq_true c3
 have a4 : decide (1048576 < l0.length) = true := decide_eq_true (by omega)
 clear c3
 obtain rfl := Option.some.inj H
 rotate_left
 rw [if_neg c3] at H
 have a3 : decide (1048576 < (l0.length : Int)) = false := decide_eq_false c3
 have a4 : decide (1048576 < l0.length) = false := decide_eq_false (by omega)
 clear c3
 obtain rfl := Option.some.inj H
 rotate_left
 all_goals (go_enter Tryd.func4, Tryd.ntmps4)
 all_goals go_wp2
 all_goals go_ret
 all_goals (exact ⟨by first | rfl | (simp; done) | (simp [*]; done), by repeat (first | exact Drawn0.refl _ | apply Drawn0.step)⟩)

/-- A state of type 61 at block g of W; what its slices lead to came in by w0. -/
def IsS61 (w0 W : World) (g : Nat) (f0 : List Int) (f1 : Int) (f2 : Int) : Prop := ∃ A0 c0, W.heap[g]? = some (.cells #[.slice A0 f0.length c0, .int .i64 f1, .int .u64 f2] 61 (0, 0)) ∧ w0.heap.size ≤ g ∧ Kd.C (Kd.int .u8) w0 A0 f0.length f0
theorem IsS61.grown {w0 W : World} {g : Nat} {f0 : List Int} {f1 : Int} {f2 : Int} {W1 : World} {row : Option Nat} (h : IsS61 w0 W g f0 f1 f2) (hw : W.grownBy W1 row) (hne : some g ≠ row) : IsS61 w0 W1 g f0 f1 f2 := by
  obtain ⟨A0, c0, hb, hg, hr0⟩ := h
  exact ⟨A0, c0, blk_grown hb hw hne, hg, hr0⟩
theorem IsS61.own_neN {w0 W : World} {g : Nat} {f0 : List Int} {f1 : Int} {f2 : Int} {α : Type} {d : Kd α} {e : Nat} {base : Nat} {ok : Nat → Prop} {v : Value} {xs : List α} (h : IsS61 w0 W g f0 f1 f2) (ho : Kd.N d e W base ok v xs) (ht : e ≠ 61) : some g ≠ v.ownBlock := by
  obtain ⟨A0, c0, hb, hg, hr0⟩ := h
  exact Kd.N_ne ho hb ht
theorem IsS61.fresh {w0 W : World} {g : Nat} {f0 : List Int} {f1 : Int} {f2 : Int} (h : IsS61 w0 W g f0 f1 f2) : ∀ k, W.heap.size ≤ k → k ≠ g := by
  obtain ⟨A0, c0, hb, hg, hr0⟩ := h
  exact Kd.freshB hb
theorem IsS61.kept {w0 W : World} {g : Nat} {f0 : List Int} {f1 : Int} {f2 : Int} {W1 : World} {S : Nat → Prop} (h : IsS61 w0 W g f0 f1 f2) (hk : Kept W W1 S) (hne : ¬ S g) : IsS61 w0 W1 g f0 f1 f2 := by
  obtain ⟨A0, c0, hb, hg, hr0⟩ := h
  exact ⟨A0, c0, blk_kept hb hk hne, hg, hr0⟩
theorem IsS61.below {w0 W : World} {g : Nat} {f0 : List Int} {f1 : Int} {f2 : Int} {W1 : World} (h : IsS61 w0 W g f0 f1 f2) (hw : Below W.heap.size W W1) : IsS61 w0 W1 g f0 f1 f2 := h.grown (grown_of_below hw none) (by simp)
theorem IsS61.alloc {w0 W : World} {g : Nat} {f0 : List Int} {f1 : Int} {f2 : Int} (h : IsS61 w0 W g f0 f1 f2) (o : Obj) : IsS61 w0 (W.alloc o) g f0 f1 f2 := h.below (below_alloc (Below.refl _ _) o)
theorem IsS61.drewN {w0 W : World} {g : Nat} {f0 : List Int} {f1 : Int} {f2 : Int} (h : IsS61 w0 W g f0 f1 f2) (m : Nat) : IsS61 w0 (W.drewN m) g f0 f1 f2 := h
theorem IsS61.drew {w0 W : World} {g : Nat} {f0 : List Int} {f1 : Int} {f2 : Int} (h : IsS61 w0 W g f0 f1 f2) : IsS61 w0 W.drew g f0 f1 f2 := h
theorem IsS61.at_ {w0 W : World} {g : Nat} {f0 : List Int} {f1 : Int} {f2 : Int} {w' : World} {m : Nat} (hq : W.drewN m = w') (h : IsS61 w0 W g f0 f1 f2) : IsS61 w0 w' g f0 f1 f2 := by subst hq; exact IsS61.drewN h m
theorem IsS61.apart {w0 W : World} {g : Nat} {f0 : List Int} {f1 : Int} {f2 : Int} {α : Type} {d : Kd α} {e : Nat} {base : Nat} {ok : Nat → Prop} {v : Value} {xs : List α} (h : IsS61 w0 W g f0 f1 f2) (ho : d.R e W base ok v xs) (ht : ∀ q, q ∈ e :: d.E → q ≠ 61) : d.R e W base (fun k => ok k ∧ k ≠ g) v xs := by
  obtain ⟨A0, c0, hb, hg, hr0⟩ := h
  exact Kd.R_types ho hb ht
theorem IsS61.own_ne {w0 W : World} {g : Nat} {f0 : List Int} {f1 : Int} {f2 : Int} {α : Type} {d : Kd α} {e : Nat} {base : Nat} {ok : Nat → Prop} {v : Value} {xs : List α} (h : IsS61 w0 W g f0 f1 f2) (ho : d.R e W base ok v xs) (ht : e ≠ 61) : some g ≠ v.ownBlock := by
  obtain ⟨A0, c0, hb, hg, hr0⟩ := h
  exact Kd.R_ne ho hb ht
theorem IsS61.apartQ {w0 W : World} {g : Nat} {f0 : List Int} {f1 : Int} {f2 : Int} {α : Type} {d : Kd α} {e : Nat} {base : Nat} {ok : Nat → Prop} {v : Value} {xs : List α} (h : IsS61 w0 W g f0 f1 f2) (ho : d.Q e W base ok v xs) (ht : ∀ q, q ∈ e :: d.E → q ≠ 61) : d.Q e W base (fun k => ok k ∧ k ≠ g) v xs := by
  obtain ⟨A0, c0, hb, hg, hr0⟩ := h
  exact Kd.Q_types ho hb ht
theorem IsS61.own_neQ {w0 W : World} {g : Nat} {f0 : List Int} {f1 : Int} {f2 : Int} {α : Type} {d : Kd α} {e : Nat} {base : Nat} {ok : Nat → Prop} {v : Value} {xs : List α} (h : IsS61 w0 W g f0 f1 f2) (ho : d.Q e W base ok v xs) (ht : e ≠ 61) : some g ≠ v.ownBlock := by
  obtain ⟨A0, c0, hb, hg, hr0⟩ := h
  exact Kd.Q_ne ho hb ht
theorem IsS61.apartS {w0 W : World} {g : Nat} {f0 : List Int} {f1 : Int} {f2 : Int} {α : Type} {d : Kd α} {e : Nat} {base : Nat} {ok : Nat → Prop} {v : Value} {xs : List α} (h : IsS61 w0 W g f0 f1 f2) (ho : d.S e W base ok v xs) (ht : ∀ q, q ∈ e :: d.E → q ≠ 61) : d.S e W base (fun k => ok k ∧ k ≠ g) v xs := by
  obtain ⟨A0, c0, hb, hg, hr0⟩ := h
  exact Kd.S_types ho hb ht
theorem IsS61.own_neS {w0 W : World} {g : Nat} {f0 : List Int} {f1 : Int} {f2 : Int} {α : Type} {d : Kd α} {e : Nat} {base : Nat} {ok : Nat → Prop} {v : Value} {xs : List α} (h : IsS61 w0 W g f0 f1 f2) (ho : d.S e W base ok v xs) (ht : e ≠ 61) : some g ≠ v.ownBlock := by
  obtain ⟨A0, c0, hb, hg, hr0⟩ := h
  exact Kd.S_ne ho hb ht
theorem IsS61.lt {w0 W : World} {g : Nat} {f0 : List Int} {f1 : Int} {f2 : Int} (h : IsS61 w0 W g f0 f1 f2) : g < W.heap.size := by
  obtain ⟨A0, c0, hb, hg, hr0⟩ := h
  exact blk_lt hb
theorem IsS61.ge {w0 W : World} {g : Nat} {f0 : List Int} {f1 : Int} {f2 : Int} (h : IsS61 w0 W g f0 f1 f2) : w0.heap.size ≤ g := by
  obtain ⟨A0, c0, hb, hg, hr0⟩ := h
  exact hg
theorem IsS61.ne_blk {w0 W : World} {g : Nat} {f0 : List Int} {f1 : Int} {f2 : Int} {a : Nat} {cs : Array Value} {t : TypeId} {fr : Nat × Nat} (h : IsS61 w0 W g f0 f1 f2) (hb2 : W.heap[a]? = some (.cells cs t fr)) (ht : t ≠ 61) : g ≠ a := by
  obtain ⟨A0, c0, hb, hg, hr0⟩ := h
  rintro rfl
  rw [hb] at hb2
  injection hb2 with hb2
  injection hb2 with _ ht2
  exact ht ht2.symm
theorem IsS61.far {w0 W : World} {g : Nat} {f0 : List Int} {f1 : Int} {f2 : Int} {p : Addr} (h : IsS61 w0 W g f0 f1 f2) (hne : g ≠ p.block) (u : Value) : IsS61 w0 (W.setCell p u) g f0 f1 f2 := by
  obtain ⟨A0, c0, hb, hg, hr0⟩ := h
  exact ⟨A0, c0, blk_far hb hne u, hg, hr0⟩
theorem cellS61_0 {W : World} {g : Nat} {A0 : Option Addr} {c0 : Nat} {f0 : List Int} {f1 : Int} {f2 : Int} (h : W.heap[g]? = some (.cells #[.slice A0 f0.length c0, .int .i64 f1, .int .u64 f2] 61 (0, 0))) : W.cell? ⟨g, 0, none⟩ = some (.slice A0 f0.length c0) := (blk_cell h 0).trans rfl
theorem cellS61_1 {W : World} {g : Nat} {A0 : Option Addr} {c0 : Nat} {f0 : List Int} {f1 : Int} {f2 : Int} (h : W.heap[g]? = some (.cells #[.slice A0 f0.length c0, .int .i64 f1, .int .u64 f2] 61 (0, 0))) : W.cell? ⟨g, 1, none⟩ = some (.int .i64 f1) := (blk_cell h 1).trans rfl
theorem IsS61.set_1 {w0 W : World} {g : Nat} {f0 : List Int} {f1 : Int} {f2 : Int} (h : IsS61 w0 W g f0 f1 f2) (x : Int) : IsS61 w0 (W.setCell ⟨g, 1, none⟩ (.int .i64 x)) g f0 x f2 := by
  obtain ⟨A0, c0, hb, hg, hr0⟩ := h
  exact ⟨A0, c0, by simpa using blk_set hb 1 (.int .i64 x), hg, hr0⟩
theorem cellS61_2 {W : World} {g : Nat} {A0 : Option Addr} {c0 : Nat} {f0 : List Int} {f1 : Int} {f2 : Int} (h : W.heap[g]? = some (.cells #[.slice A0 f0.length c0, .int .i64 f1, .int .u64 f2] 61 (0, 0))) : W.cell? ⟨g, 2, none⟩ = some (.int .u64 f2) := (blk_cell h 2).trans rfl
theorem IsS61.set_2 {w0 W : World} {g : Nat} {f0 : List Int} {f1 : Int} {f2 : Int} (h : IsS61 w0 W g f0 f1 f2) (x : Int) : IsS61 w0 (W.setCell ⟨g, 2, none⟩ (.int .u64 x)) g f0 f1 x := by
  obtain ⟨A0, c0, hb, hg, hr0⟩ := h
  exact ⟨A0, c0, by simpa using blk_set hb 2 (.int .u64 x), hg, hr0⟩
theorem IsS61.new (w0 W : World) (A0 : Option Addr) (c0 : Nat) (f0 : List Int) (f1 : Int) (f2 : Int) (hB : Below w0.heap.size w0 W) (hr0 : Kd.C (Kd.int .u8) w0 A0 f0.length f0) : IsS61 w0 (W.alloc (.cells #[.slice A0 f0.length c0, .int .i64 f1, .int .u64 f2] 61)) W.heap.size f0 f1 f2 := ⟨A0, c0, by simpa using heap_alloc_new W _, hB.size, hr0⟩

/-! ### spec_l1Cur_next: function 63 -/
def spec_l1Cur_next.f (s0_0 : List Int) (s0_1 : Int) (s0_2 : Int) : Option (Int × Int × Int) := if s0_1 < (s0_0.length : Int) then (if 0 ≤ s0_1 then (if (wrap64 (s0_1 + 1)) ≤ (s0_0.length : Int) then (some (wrap64 (rd s0_0 s0_1), wrap64 (s0_1 + 1), IntKind.u64.wrap ((IntKind.u64.wrap ((IntKind.u64.wrap (s0_2 * 6364136223846793005)) + (IntKind.u64.wrap (wrap64 (rd s0_0 s0_1))))) + 1442695040888963407))) else (some (wrap64 (Go.bits .and .u64 ((IntKind.u64.wrap ((IntKind.u64.wrap ((IntKind.u64.wrap (s0_2 * 6364136223846793005)) + (IntKind.u64.wrap (wrap64 (rd s0_0 s0_1))))) + 1442695040888963407)) / 1099511627776) 255), wrap64 (s0_1 + 1), IntKind.u64.wrap ((IntKind.u64.wrap ((IntKind.u64.wrap (s0_2 * 6364136223846793005)) + (IntKind.u64.wrap (wrap64 (rd s0_0 s0_1))))) + 1442695040888963407)))) else (none)) else (if (wrap64 (s0_1 + 1)) ≤ (s0_0.length : Int) then (some (0, wrap64 (s0_1 + 1), IntKind.u64.wrap ((IntKind.u64.wrap ((IntKind.u64.wrap (s0_2 * 6364136223846793005)) + 0)) + 1442695040888963407))) else (some (wrap64 (Go.bits .and .u64 ((IntKind.u64.wrap ((IntKind.u64.wrap ((IntKind.u64.wrap (s0_2 * 6364136223846793005)) + 0)) + 1442695040888963407)) / 1099511627776) 255), wrap64 (s0_1 + 1), IntKind.u64.wrap ((IntKind.u64.wrap ((IntKind.u64.wrap (s0_2 * 6364136223846793005)) + 0)) + 1442695040888963407))))
set_option maxHeartbeats 8000000 in
set_option maxRecDepth 100000 in
theorem spec_l1Cur_next.calls (g : Nat) (s0_0 : List Int) (s0_1 : Int) (s0_2 : Int) (r1 : Int) (r2 : Int) (r3 : Int) (w0 w : World) (hI : IsS61 w0 w g s0_0 s0_1 s0_2) (hB : Below w0.heap.size w0 w) (h : spec_l1Cur_next.f s0_0 s0_1 s0_2 = some (r1, r2, r3)) :
    Calls Tryd.prog 63 #[.pointer (some ⟨g, 0, none⟩)] w fun e w' => e = .returned (.int .i64 r1) ∧ IsS61 w0 w' g s0_0 r2 r3 ∧ Below w0.heap.size w0 w' ∧ KeepBut w w' g none := by
 have HI0 := Aside0.mk hI
 have HK := Aside0.mk (KeepBut.refl w g none)
 have HL := Aside0.mk hB.size
 clear hI
 have g3 := Aside0.mk hB.size
 have HB := Aside0.mk hB
 clear hB
 have H := h
 unfold spec_l1Cur_next.f at H
 clear h
 by_cases c2 : s0_1 < (s0_0.length : Int)
 rw [if_pos c2] at H
 have b6 : decide (s0_1 < (s0_0.length : Int)) = true := decide_eq_true c2
 clear c2
 by_cases c3 : 0 ≤ s0_1
 rw [if_pos c3] at H
 have g2 : decide (0 ≤ s0_1) = true := decide_eq_true c3
 clear c3
 by_cases c4 : (wrap64 (s0_1 + 1)) ≤ (s0_0.length : Int)
 rw [if_pos c4] at H
 have b7 : decide ((wrap64 (s0_1 + 1)) ≤ (s0_0.length : Int)) = true := decide_eq_true c4
 clear c4
 simp only [Option.some.injEq, Prod.mk.injEq] at H
 obtain ⟨rfl, rfl, rfl⟩ := H
 obtain ⟨c8, c9, a6, b8, HSz5_0⟩ := HI0.out
 have b1 := cellS61_0 a6
 have d0 := cellS61_1 a6
 have d1 := cellS61_2 a6
 have d2 := blk_frozen a6 1
 have d3 := blk_frozen a6 2
 clear a6 b8
 have a4 : 0 ≤ (s0_1 : Int) := of_decide_eq_true asm
 have a5 : s0_1 < (s0_0.length : Int) := of_decide_eq_true asm
 obtain ⟨b5, b0, a3⟩ := Kd.at_int HSz5_0 s0_1 a4 a5
 cases b0
 replace a3 := pw_cell_below HB.out a3
 replace a4 := eq_true a4
 replace a5 := eq_true a5
 rotate_left
 rw [if_neg c4] at H
 have b7 : decide ((wrap64 (s0_1 + 1)) ≤ (s0_0.length : Int)) = false := decide_eq_false c4
 clear c4
 simp only [Option.some.injEq, Prod.mk.injEq] at H
 obtain ⟨rfl, rfl, rfl⟩ := H
 obtain ⟨d4, d5, a7, b9, HSz6_0⟩ := HI0.out
 have b2 := cellS61_0 a7
 (try (have es_ := Option.some.inj (b1.symm.trans b2); injection es_ with ea_ en_ ec_; subst ea_; subst ec_; clear en_))
 have d6 := cellS61_1 a7
 have d7 := cellS61_2 a7
 have d8 := blk_frozen a7 1
 have d9 := blk_frozen a7 2
 clear a7 b9
 have a4 : 0 ≤ (s0_1 : Int) := of_decide_eq_true asm
 have a5 : s0_1 < (s0_0.length : Int) := of_decide_eq_true asm
 obtain ⟨b5, b0, a3⟩ := Kd.at_int HSz6_0 s0_1 a4 a5
 cases b0
 replace a3 := pw_cell_below HB.out a3
 replace a4 := eq_true a4
 replace a5 := eq_true a5
 rotate_left
 rw [if_neg c3] at H
 exact absurd H (by simp)
 rw [if_neg c2] at H
 have b6 : decide (s0_1 < (s0_0.length : Int)) = false := decide_eq_false c2
 clear c2
 by_cases c7 : (wrap64 (s0_1 + 1)) ≤ (s0_0.length : Int)
 rw [if_pos c7] at H
 have c1 : decide ((wrap64 (s0_1 + 1)) ≤ (s0_0.length : Int)) = true := decide_eq_true c7
 clear c7
 simp only [Option.some.injEq, Prod.mk.injEq] at H
 obtain ⟨rfl, rfl, rfl⟩ := H
 obtain ⟨e0, e1, a8, c5, HSz8_0⟩ := HI0.out
 have b3 := cellS61_0 a8
 have e2 := cellS61_1 a8
 have e3 := cellS61_2 a8
 have e4 := blk_frozen a8 1
 have e5 := blk_frozen a8 2
 clear a8 c5
 rotate_left
 rw [if_neg c7] at H
 have c1 : decide ((wrap64 (s0_1 + 1)) ≤ (s0_0.length : Int)) = false := decide_eq_false c7
 clear c7
 simp only [Option.some.injEq, Prod.mk.injEq] at H
 obtain ⟨rfl, rfl, rfl⟩ := H
 obtain ⟨e6, e7, a9, c6, HSz9_0⟩ := HI0.out
 have b4 := cellS61_0 a9
 (try (have es_ := Option.some.inj (b3.symm.trans b4); injection es_ with ea_ en_ ec_; subst ea_; subst ec_; clear en_))
 have e8 := cellS61_1 a9
 have e9 := cellS61_2 a9
 have g0 := blk_frozen a9 1
 have g1 := blk_frozen a9 2
 clear a9 c6
 rotate_left
 all_goals (go_enter Tryd.func63, Tryd.ntmps63)
 all_goals go_wp2
 all_goals (repeat (go_quiet (fail); try go_wp2))
 all_goals go_ret
 all_goals ((try simp only [Int.add_zero]); exact ⟨sE, kI, bI, kK⟩)

/-! ### spec_l1Cur_pick: function 48 -/
def spec_l1Cur_pick.f (s0_0 : List Int) (s0_1 : Int) (s0_2 : Int) (a1 : Int) : Option (Int × Int × Int) := if a1 ≤ 1 then (some (0, s0_1, s0_2)) else ((spec_l1Cur_next.f s0_0 s0_1 s0_2).bind fun bt102 => (if a1 > 200 then ((spec_l1Cur_next.f s0_0 bt102.2.1 bt102.2.2).bind fun bt105 => (if a1 = 0 then (none) else (some (Int.tmod (wrap64 ((wrap64 (bt102.1 * 256)) + bt105.1)) a1, bt105.2.1, bt105.2.2)))) else (if a1 = 0 then (none) else (some (Int.tmod bt102.1 a1, bt102.2.1, bt102.2.2)))))
set_option maxHeartbeats 8000000 in
set_option maxRecDepth 100000 in
theorem spec_l1Cur_pick.calls (g : Nat) (s0_0 : List Int) (s0_1 : Int) (s0_2 : Int) (a1 : Int) (r1 : Int) (r2 : Int) (r3 : Int) (w0 w : World) (hI : IsS61 w0 w g s0_0 s0_1 s0_2) (hB : Below w0.heap.size w0 w) (h : spec_l1Cur_pick.f s0_0 s0_1 s0_2 a1 = some (r1, r2, r3)) :
    Calls Tryd.prog 48 #[.pointer (some ⟨g, 0, none⟩), .int .i64 a1] w fun e w' => e = .returned (.int .i64 r1) ∧ IsS61 w0 w' g s0_0 r2 r3 ∧ Below w0.heap.size w0 w' ∧ KeepBut w w' g none := by
 have HI0 := Aside0.mk hI
 have HK := Aside0.mk (KeepBut.refl w g none)
 have HL := Aside0.mk hB.size
 clear hI
 have b6 := Aside0.mk hB.size
 have HB := Aside0.mk hB
 clear hB
 have H := h
 unfold spec_l1Cur_pick.f at H
 clear h
 by_cases c3 : a1 ≤ 1
 ·(
 rw [if_pos c3] at H
 have a6 : decide (a1 ≤ 1) = true := decide_eq_true c3
 clear c3
 simp only [Option.some.injEq, Prod.mk.injEq] at H
 obtain ⟨rfl, rfl, rfl⟩ := H
 go_enter Tryd.func48, Tryd.ntmps48
 go_wp2
 go_ret
 exact ⟨sE, kI, bI, kK⟩
 )
 ·(
 rw [if_neg c3] at H
 have a6 : decide (a1 ≤ 1) = false := decide_eq_false c3
 clear c3
 obtain ⟨⟨a7, a3, a4⟩, A4, H⟩ := bD H
 try dsimp only at H
 by_cases c5 : a1 > 200
 rw [if_pos c5] at H
 have a8 : decide (200 < a1) = true := decide_eq_true c5
 clear c5
 obtain ⟨⟨a9, b0, b1⟩, A6, H⟩ := bD H
 try dsimp only at H
 by_cases c7 : a1 = 0
 rw [if_pos c7] at H
 exact absurd H (by simp)
 rw [if_neg c7] at H
 obtain ⟨b4, b5⟩ := nE c7
 simp only [Option.some.injEq, Prod.mk.injEq] at H
 obtain ⟨rfl, rfl, rfl⟩ := H
 rotate_left
 rw [if_neg c5] at H
 have a8 : decide (200 < a1) = false := decide_eq_false c5
 clear c5
 by_cases a5 : a1 = 0
 rw [if_pos a5] at H
 exact absurd H (by simp)
 rw [if_neg a5] at H
 obtain ⟨b2, b3⟩ := nE a5
 simp only [Option.some.injEq, Prod.mk.injEq] at H
 obtain ⟨rfl, rfl, rfl⟩ := H
 rotate_left
 all_goals (go_enter Tryd.func48, Tryd.ntmps48)
 all_goals (go_wp2_with (first | ((with_reducible refine gate_callee (f := 63) rfl ?_); refine goesL_ (some 9) rfl rfl Tryd.func63 kr rfl #[.pointer (some ⟨g, 0, none⟩)] rfl sM ?_; (with_reducible refine (spec_l1Cur_next.calls g s0_0 s0_1 s0_2 a7 a3 a4 w0 _ ?side1 ?side2 A4.out).mono ?_); (case side1 => exact kI); (case side2 => exact bI); rintro e b7 ⟨rfl, hi, hb, hk⟩; refine ⟨_, rfl, ?_⟩; replace HK := Aside0.mk (KeepBut.trans (w := w) kK hk (.inl rfl)); replace HB := Aside0.mk (hb); replace HI0 := Aside0.mk (hi); (try clear hb); (try clear hk); (try clear hi)) | ((with_reducible refine gate_callee (f := 63) rfl ?_); refine goesL_ (some 15) rfl rfl Tryd.func63 kr rfl #[.pointer (some ⟨g, 0, none⟩)] rfl sM ?_; (with_reducible refine (spec_l1Cur_next.calls g s0_0 a3 a4 a9 b0 b1 w0 _ ?side1 ?side2 A6.out).mono ?_); (case side1 => exact kI); (case side2 => exact bI); rintro e b8 ⟨rfl, hi, hb, hk⟩; refine ⟨_, rfl, ?_⟩; replace HK := Aside0.mk (KeepBut.trans (w := w) kK hk (.inl rfl)); replace HB := Aside0.mk (hb); replace HI0 := Aside0.mk (hi); (try clear hb); (try clear hk); (try clear hi))))
 all_goals go_ret
 all_goals ((try simp only [Int.add_zero]); exact ⟨sE, kI, bI, kK⟩)
 )

/-! ### spec_l1Cur_among: function 55 -/
def spec_l1Cur_among.f (s0_0 : List Int) (s0_1 : Int) (s0_2 : Int) (l1 : List Int) : Option (Int × Int × Int) := (spec_l1Cur_pick.f s0_0 s0_1 s0_2 (l1.length : Int)).bind fun bt108 => (if 0 ≤ bt108.1 then (if bt108.1 < (l1.length : Int) then (some (rd l1 bt108.1, bt108.2.1, bt108.2.2)) else (none)) else (none))
set_option maxHeartbeats 8000000 in
set_option maxRecDepth 100000 in
theorem spec_l1Cur_among.calls (g : Nat) (s0_0 : List Int) (s0_1 : Int) (s0_2 : Int) (A1 : Option Addr) (c1 : Nat) (l1 : List Int) (r1 : Int) (r2 : Int) (r3 : Int) (w0 w : World) (hI : IsS61 w0 w g s0_0 s0_1 s0_2) (hB : Below w0.heap.size w0 w) (hr1 : Kd.C (Kd.int .i64) w A1 l1.length l1) (hc1 : l1.length ≤ c1) (hf1 : ∀ ad, A1 = some ad → 0 < l1.length → ad.block ≠ g) (h : spec_l1Cur_among.f s0_0 s0_1 s0_2 l1 = some (r1, r2, r3)) :
    Calls Tryd.prog 55 #[.pointer (some ⟨g, 0, none⟩), .slice A1 l1.length c1] w fun e w' => e = .returned (.int .i64 r1) ∧ IsS61 w0 w' g s0_0 r2 r3 ∧ Below w0.heap.size w0 w' ∧ KeepBut w w' g none := by
 have b1 := Aside0.mk hr1
 have b4 := Aside0.mk hc1
 clear hr1 hc1
 have HI0 := Aside0.mk hI
 have HK := Aside0.mk (KeepBut.refl w g none)
 have HL := Aside0.mk hB.size
 clear hI
 have b5 := Aside0.mk hB.size
 have HB := Aside0.mk hB
 clear hB
 have H := h
 unfold spec_l1Cur_among.f at H
 clear h
 obtain ⟨⟨a3, a8, a9⟩, A3, H⟩ := bD H
 try dsimp only at H
 by_cases c4 : 0 ≤ a3
 ·(
 rw [if_pos c4] at H
 have b2 : decide (0 ≤ a3) = true := decide_eq_true c4
 clear c4
 by_cases c5 : a3 < (l1.length : Int)
 ·(
 rw [if_pos c5] at H
 have b3 : decide (a3 < (l1.length : Int)) = true := decide_eq_true c5
 clear c5
 simp only [Option.some.injEq, Prod.mk.injEq] at H
 obtain ⟨rfl, rfl, rfl⟩ := H
 go_enter Tryd.func55, Tryd.ntmps55
 go_wp2_with (first | ((with_reducible refine gate_callee (f := 48) rfl ?_); refine goesL_ (some 9) rfl rfl Tryd.func48 kr rfl #[.pointer (some ⟨g, 0, none⟩), .int .i64 (l1.length : Int)] rfl sM ?_; (with_reducible refine (spec_l1Cur_pick.calls g s0_0 s0_1 s0_2 (l1.length : Int) a3 a8 a9 w0 _ ?side1 ?side2 A3.out).mono ?_); (case side1 => exact kI); (case side2 => exact bI); rintro e w6 ⟨rfl, hi, hb, hk⟩; refine ⟨_, rfl, ?_⟩; replace HK := Aside0.mk (KeepBut.trans (w := w) kK hk (.inl rfl)); replace HB := Aside0.mk (hb); replace HI0 := Aside0.mk (hi); (try clear hb); (try clear hk); (try clear hi); have a5 : 0 ≤ (a3 : Int) := of_decide_eq_true asm; have a6 : a3 < (l1.length : Int) := of_decide_eq_true asm; obtain ⟨a7, b0, a4⟩ := Kd.at_int b1.out a3 a5 a6; cases b0; replace a4 := keep_cell HK.out a4 (by first | (rw [add_block]; exact hf1 _ rfl (by omega)) | exact hf1 _ rfl (by omega) | exact hf1 a7 rfl (by omega)); replace a5 := eq_true a5; replace a6 := eq_true a6))
 go_ret
 exact ⟨sE, kI, bI, kK⟩
 )
 ·(
 rw [if_neg c5] at H
 exact absurd H (by simp)
 )
 )
 ·(
 rw [if_neg c4] at H
 exact absurd H (by simp)
 )

/-! ### spec_l1Cur_sureLadders: function 62 -/
def spec_l1Cur_sureLadders.f (s0_0 : List Int) (s0_1 : Int) (s0_2 : Int) : Option (Int × Int × Int × Int × Int) := (spec_l1Cur_pick.f s0_0 s0_1 s0_2 6).bind fun bt113 => (if bt113.1 = 0 then (some (56, 105, 42, bt113.2.1, bt113.2.2)) else (if bt113.1 = 1 then ((spec_l1Cur_pick.f s0_0 bt113.2.1 bt113.2.2 9).bind fun bt116 => ((spec_l1Cur_among.f s0_0 bt116.2.1 bt116.2.2 (([5, 9, 16, 35] : List Int))).bind fun bt122 => ((spec_l1Cur_among.f s0_0 bt122.2.1 bt122.2.2 (([5, 9, 16, 35] : List Int))).bind fun bt128 => (some (wrap64 (12 * (wrap64 (1 + bt116.1))), wrap64 (bt122.1 * (wrap64 (1 + bt116.1))), wrap64 (bt128.1 * (wrap64 (1 + bt116.1))), bt128.2.1, bt128.2.2))))) else ((spec_l1Cur_pick.f s0_0 bt113.2.1 bt113.2.2 20).bind fun bt131 => ((spec_l1Cur_pick.f s0_0 bt131.2.1 bt131.2.2 20).bind fun bt134 => ((spec_l1Cur_pick.f s0_0 bt134.2.1 bt134.2.2 20).bind fun bt137 => (some (wrap64 (1 + bt131.1), wrap64 (1 + bt134.1), wrap64 (1 + bt137.1), bt137.2.1, bt137.2.2)))))))
set_option maxHeartbeats 8000000 in
set_option maxRecDepth 100000 in
theorem spec_l1Cur_sureLadders.calls (g : Nat) (s0_0 : List Int) (s0_1 : Int) (s0_2 : Int) (r1 : Int) (r2 : Int) (r3 : Int) (r4 : Int) (r5 : Int) (w0 w : World) (hI : IsS61 w0 w g s0_0 s0_1 s0_2) (hB : Below w0.heap.size w0 w) (h : spec_l1Cur_sureLadders.f s0_0 s0_1 s0_2 = some (r1, r2, r3, r4, r5)) :
    Calls Tryd.prog 62 #[.pointer (some ⟨g, 0, none⟩)] w fun e w' => e = .returned (.agg #[.int .i64 r1, .int .i64 r2, .int .i64 r3]) ∧ IsS61 w0 w' g s0_0 r4 r5 ∧ Below w0.heap.size w0 w' ∧ KeepBut w w' g none := by
 have i1 := Tryd.underlying25
 have HI0 := Aside0.mk hI
 have HK := Aside0.mk (KeepBut.refl w g none)
 have HL := Aside0.mk hB.size
 clear hI
 have h2 := Aside0.mk hB.size
 have HB := Aside0.mk hB
 clear hB
 have H := h
 unfold spec_l1Cur_sureLadders.f at H
 clear h
 obtain ⟨⟨d0, d1, d2⟩, A2, H⟩ := bD H
 try dsimp only at H
 by_cases c3 : d0 = 0
 rw [if_pos c3] at H
 obtain ⟨e8, e9⟩ := yE c3
 clear c3
 simp only [Option.some.injEq, Prod.mk.injEq] at H
 obtain ⟨rfl, rfl, rfl, rfl, rfl⟩ := H
 rotate_left
 rw [if_neg c3] at H
 obtain ⟨e8, e9⟩ := nE c3
 by_cases c8 : d0 = 1
 rw [if_pos c8] at H
 obtain ⟨g0, g1⟩ := yE c8
 clear c8
 obtain ⟨⟨a8, c6, c7⟩, A9, H⟩ := bD H
 try dsimp only at H
 obtain ⟨d3, b0⟩ : ∃ y_ : List Int, y_ = (([5, 9, 16, 35] : List Int)) := ⟨_, rfl⟩
 replace H : ((spec_l1Cur_among.f s0_0 c6 c7 d3).bind fun c9 => ((spec_l1Cur_among.f s0_0 c9.2.1 c9.2.2 (([5, 9, 16, 35] : List Int))).bind fun a9 => (some (wrap64 (12 * (wrap64 (1 + a8))), wrap64 (c9.1 * (wrap64 (1 + a8))), wrap64 (a9.1 * (wrap64 (1 + a8))), a9.2.1, a9.2.2)))) = some (r1, r2, r3, r4, r5) := by first | (rw [b0]; with_reducible exact H) | (have b4 := (Option.bind_some _ _).symm.trans H; rw [b0]; with_reducible exact b4) | (have b4 := (Option.bind_some _ _).symm.trans H; with_reducible exact b4) | with_reducible exact H | (rw [b0]; exact H) | exact H
 have d6 := Aside0.mk b0
 clear b0
 obtain ⟨⟨d4, b5, b6⟩, h3, H⟩ := bD H
 try dsimp only at H
 obtain ⟨d5, b1⟩ : ∃ y_ : List Int, y_ = (([5, 9, 16, 35] : List Int)) := ⟨_, rfl⟩
 replace H : ((spec_l1Cur_among.f s0_0 b5 b6 d5).bind fun a9 => (some (wrap64 (12 * (wrap64 (1 + a8))), wrap64 (d4 * (wrap64 (1 + a8))), wrap64 (a9.1 * (wrap64 (1 + a8))), a9.2.1, a9.2.2))) = some (r1, r2, r3, r4, r5) := by first | (rw [b1]; with_reducible exact H) | (have b4 := (Option.bind_some _ _).symm.trans H; rw [b1]; with_reducible exact b4) | (have b4 := (Option.bind_some _ _).symm.trans H; with_reducible exact b4) | with_reducible exact H | (rw [b1]; exact H) | exact H
 have d7 := Aside0.mk b1
 clear b1
 obtain ⟨⟨e0, g2, g3⟩, h4, H⟩ := bD H
 try dsimp only at H
 simp only [Option.some.injEq, Prod.mk.injEq] at H
 obtain ⟨rfl, rfl, rfl, rfl, rfl⟩ := H
 rotate_left
 rw [if_neg c8] at H
 obtain ⟨g0, g1⟩ := nE c8
 obtain ⟨⟨e1, e2, e3⟩, h5, H⟩ := bD H
 try dsimp only at H
 obtain ⟨⟨e4, e5, e6⟩, h6, H⟩ := bD H
 try dsimp only at H
 obtain ⟨⟨e7, g4, g5⟩, h7, H⟩ := bD H
 try dsimp only at H
 simp only [Option.some.injEq, Prod.mk.injEq] at H
 obtain ⟨rfl, rfl, rfl, rfl, rfl⟩ := H
 rotate_left
 all_goals (go_enter Tryd.func62, Tryd.ntmps62)
 all_goals (go_wp2_with (first | ((with_reducible refine gate_dst (N := 2) rfl ?_); refine box_ (cs := #[.int .i64 0, .int .i64 0, .int .i64 0]) (t := 25) fun a6 hg i4 hbox hb => ?_; have a3 := Aside0.mk (hbox); have i2 := (kS HK hg); have i3 := (kE h2 HK hg); have a5 := Aside0.mk ((by rw [hg]; exact Nat.ne_of_lt (IsS61.lt (show IsS61 w0 _ g s0_0 s0_1 s0_2 from by repeat (first | (with_reducible first | exact HI0.out | apply IsS61.alloc | apply IsS61.drewN | apply IsS61.drew | apply IsS61.set_1 | apply IsS61.set_2) | exact HI0.out))) : g ≠ a6)); have a4 := Aside0.mk ((by rw [hg]; exact Nat.ne_of_gt (IsS61.lt (show IsS61 w0 _ g s0_0 s0_1 s0_2 from by repeat (first | (with_reducible first | exact HI0.out | apply IsS61.alloc | apply IsS61.drewN | apply IsS61.drew | apply IsS61.set_1 | apply IsS61.set_2) | exact HI0.out))) : a6 ≠ g)); replace HI0 := Aside0.mk (IsS61.below kI hb); replace HK := Aside0.mk (KeepBut.trans (w := w) kK (KeepBut.of_below hb g none) (.inl rfl)); replace HB := Aside0.mk (below_step bI hb); clear hb hbox hg) | ((with_reducible refine gate_callee (f := 48) rfl ?_); refine goesL_ (some 5) rfl rfl Tryd.func48 kr rfl #[.pointer (some ⟨g, 0, none⟩), .int .i64 6] rfl sM ?_; (with_reducible refine (spec_l1Cur_pick.calls g s0_0 s0_1 s0_2 6 d0 d1 d2 w0 _ ?side1 ?side2 A2.out).mono ?_); (case side1 => exact kI); (case side2 => exact bI); rintro e i5 ⟨rfl, hi, hb, hk⟩; refine ⟨_, rfl, ?_⟩; replace a3 := Aside0.mk (KeepBut.blk hk (g' := a6) (o := .cells #[.int .i64 0, .int .i64 0, .int .i64 0] 25 (0, 0)) (bK a3) a4.out (by simp)); replace HK := Aside0.mk (KeepBut.trans (w := w) kK hk (.inl rfl)); replace HB := Aside0.mk (hb); replace HI0 := Aside0.mk (hi); (try clear hb); (try clear hk); (try clear hi); have d8 := a4.out; have d9 := a5.out; obtain ⟨b8, b9, c1, c2, c4, c5⟩ := cf3 a3) | ((with_reducible refine gate_callee (f := 48) rfl ?_); refine goesL_ (some 12) rfl rfl Tryd.func48 kr rfl #[.pointer (some ⟨g, 0, none⟩), .int .i64 9] rfl sM ?_; (with_reducible refine (spec_l1Cur_pick.calls g s0_0 d1 d2 9 a8 c6 c7 w0 _ ?side1 ?side2 A9.out).mono ?_); (case side1 => exact kI); (case side2 => exact bI); rintro e h8 ⟨rfl, hi, hb, hk⟩; refine ⟨_, rfl, ?_⟩; replace a3 := Aside0.mk (KeepBut.blk hk (g' := a6) (o := .cells #[.int .i64 0, .int .i64 0, .int .i64 0] 25 (0, 0)) (bK a3) a4.out (by simp)); replace HK := Aside0.mk (KeepBut.trans (w := w) kK hk (.inl rfl)); replace HB := Aside0.mk (hb); replace HI0 := Aside0.mk (hi); (try clear hb); (try clear hk); (try clear hi)) | ((with_reducible refine gate_dst (N := 17) rfl ?_); refine Kd.R_lit (Kd.int .i64) _ 3 ?hg (N := 17) ?hd (xs := ([5, 9, 16, 35] : List Int)) (inner := [.int .i64 5, .int .i64 9, .int .i64 16, .int .i64 35]) (ok := fun _ => True) (okp := fun _ => True) ?hr ?hp (fun _ hk => hk) trivial (Below.refl _ _) (Nat.le_refl _) (by simp) ?_; (case hd => rfl); (case hg => rfl); (case hr => first | (go_simp; done) | (go_simp; rfl)); (case hp => exact (Reps.one (show Kd.M (Kd.int .i64) _ _ _ 5 [.int .i64 5] from rfl) (Reps.one (show Kd.M (Kd.int .i64) _ _ _ 9 [.int .i64 9] from rfl) (Reps.one (show Kd.M (Kd.int .i64) _ _ _ 16 [.int .i64 16] from rfl) (Reps.one (show Kd.M (Kd.int .i64) _ _ _ 35 [.int .i64 35] from rfl) (Reps.none _ _)))))); intro i6 h9 b7 hb hg_ hnew_; clear hg_ hnew_; (first | rw [← d6.out] at b7 | (simp only [Int.reduceToNat] at b7; rw [← d6.out] at b7)); have a7 := Aside0.mk (Kd.R_lower b7 (keep_size (w := w) (g := g) (row := none) kK)); replace HI0 := Aside0.mk (IsS61.below kI hb); replace a3 := bQ a3 hb; replace HK := Aside0.mk (KeepBut.trans (w := w) kK (KeepBut.of_below hb g none) (.inl rfl)); replace HB := Aside0.mk (below_step bI hb); clear hb b7; obtain ⟨g6, g7, g8⟩ := Kd.R_slice a7.out; subst g8) | ((with_reducible refine gate_callee (f := 55) rfl ?_); refine goesL_ (some 18) rfl rfl Tryd.func55 kr rfl #[.pointer (some ⟨g, 0, none⟩), .slice g6 d3.length g7] rfl sM ?_; (with_reducible refine (spec_l1Cur_among.calls g s0_0 c6 c7 _ _ d3 d4 b5 b6 w0 _ ?side1 ?side2 ?side3 ?side4 ?side5 h3.out).mono ?_); (case side1 => exact kI); (case side2 => exact bI); (case side3 => repeat (first | exact (Kd.R_reads' a7.out).2.2 | (with_reducible refine Kd.C_alloc ?_ _) | (with_reducible refine Kd.C_drewN ?_ _) | (with_reducible refine Kd.C_drew ?_))); (case side4 => exact (Kd.R_reads' a7.out).2.1); (case side5 => exact far_slice (IsS61.own_ne HI0.out a7.out (by decide))); rintro e i0 ⟨rfl, hi, hb, hk⟩; refine ⟨_, rfl, ?_⟩; replace a3 := Aside0.mk (KeepBut.blk hk (g' := a6) (o := .cells #[.int .i64 0, .int .i64 0, .int .i64 0] 25 (0, 0)) (bK a3) a4.out (by simp)); replace a7 := Aside0.mk (Kd.R_mono (Kd.R_keep (IsS61.apart (show IsS61 w0 _ g s0_0 c6 c7 from by repeat (first | (with_reducible first | exact HI0.out | apply IsS61.alloc | apply IsS61.drewN | apply IsS61.drew | apply IsS61.set_1 | apply IsS61.set_2 | refine IsS61.far ?_ a5.out _) | exact HI0.out)) (oR a7) (by decide)) hk (fun _ h => h.2)) (fun _ h => h.1)); replace HK := Aside0.mk (KeepBut.trans (w := w) kK hk (.inl rfl)); replace HB := Aside0.mk (hb); replace HI0 := Aside0.mk (hi); (try clear hb); (try clear hk); (try clear hi)) | ((with_reducible refine gate_dst (N := 22) rfl ?_); refine Kd.R_lit (Kd.int .i64) _ 3 ?hg (N := 22) ?hd (xs := ([5, 9, 16, 35] : List Int)) (inner := [.int .i64 5, .int .i64 9, .int .i64 16, .int .i64 35]) (ok := fun _ => True) (okp := fun _ => True) ?hr ?hp (fun _ hk => hk) trivial (Below.refl _ _) (Nat.le_refl _) (by simp) ?_; (case hd => rfl); (case hg => rfl); (case hr => first | (go_simp; done) | (go_simp; rfl)); (case hp => exact (Reps.one (show Kd.M (Kd.int .i64) _ _ _ 5 [.int .i64 5] from rfl) (Reps.one (show Kd.M (Kd.int .i64) _ _ _ 9 [.int .i64 9] from rfl) (Reps.one (show Kd.M (Kd.int .i64) _ _ _ 16 [.int .i64 16] from rfl) (Reps.one (show Kd.M (Kd.int .i64) _ _ _ 35 [.int .i64 35] from rfl) (Reps.none _ _)))))); intro i7 i9 b2 hb hg_ hnew_; clear hg_ hnew_; (first | rw [← d7.out] at b2 | (simp only [Int.reduceToNat] at b2; rw [← d7.out] at b2)); have b3 := Aside0.mk (Kd.R_lower (Kd.R_new' b2 (Kd.R_lt (oR a7))) (keep_size (w := w) (g := g) (row := none) kK)); replace a7 := Aside0.mk (Kd.R_elder' (oR a7) (Kd.R_base b2) hb); replace HI0 := Aside0.mk (IsS61.below kI hb); replace a3 := bQ a3 hb; replace HK := Aside0.mk (KeepBut.trans (w := w) kK (KeepBut.of_below hb g none) (.inl rfl)); replace HB := Aside0.mk (below_step bI hb); clear hb b2; obtain ⟨g9, h0, h1⟩ := Kd.R_slice b3.out; subst h1) | ((with_reducible refine gate_callee (f := 55) rfl ?_); refine goesL_ (some 23) rfl rfl Tryd.func55 kr rfl #[.pointer (some ⟨g, 0, none⟩), .slice g9 d5.length h0] rfl sM ?_; (with_reducible refine (spec_l1Cur_among.calls g s0_0 b5 b6 _ _ d5 e0 g2 g3 w0 _ ?side1 ?side2 ?side3 ?side4 ?side5 h4.out).mono ?_); (case side1 => exact kI); (case side2 => exact bI); (case side3 => repeat (first | exact (Kd.R_reads' b3.out).2.2 | (with_reducible refine Kd.C_alloc ?_ _) | (with_reducible refine Kd.C_drewN ?_ _) | (with_reducible refine Kd.C_drew ?_))); (case side4 => exact (Kd.R_reads' b3.out).2.1); (case side5 => exact far_slice (IsS61.own_ne HI0.out b3.out (by decide))); rintro e j0 ⟨rfl, hi, hb, hk⟩; refine ⟨_, rfl, ?_⟩; replace a3 := Aside0.mk (KeepBut.blk hk (g' := a6) (o := .cells #[.int .i64 0, .int .i64 0, .int .i64 0] 25 (0, 0)) (bK a3) a4.out (by simp)); replace a7 := Aside0.mk (Kd.R_mono (Kd.R_keep (IsS61.apart (show IsS61 w0 _ g s0_0 b5 b6 from by repeat (first | (with_reducible first | exact HI0.out | apply IsS61.alloc | apply IsS61.drewN | apply IsS61.drew | apply IsS61.set_1 | apply IsS61.set_2 | refine IsS61.far ?_ a5.out _) | exact HI0.out)) (oR a7) (by decide)) hk (fun _ h => h.2)) (fun _ h => h.1)); replace b3 := Aside0.mk (Kd.R_mono (Kd.R_keep (IsS61.apart (show IsS61 w0 _ g s0_0 b5 b6 from by repeat (first | (with_reducible first | exact HI0.out | apply IsS61.alloc | apply IsS61.drewN | apply IsS61.drew | apply IsS61.set_1 | apply IsS61.set_2 | refine IsS61.far ?_ a5.out _) | exact HI0.out)) (oR b3) (by decide)) hk (fun _ h => h.2)) (fun _ h => h.1)); replace HK := Aside0.mk (KeepBut.trans (w := w) kK hk (.inl rfl)); replace HB := Aside0.mk (hb); replace HI0 := Aside0.mk (hi); (try clear hb); (try clear hk); (try clear hi); have d8 := a4.out; have d9 := a5.out; obtain ⟨b8, b9, c1, c2, c4, c5⟩ := cf3 a3) | ((with_reducible refine gate_callee (f := 48) rfl ?_); refine goesL_ (some 28) rfl rfl Tryd.func48 kr rfl #[.pointer (some ⟨g, 0, none⟩), .int .i64 20] rfl sM ?_; (with_reducible refine (spec_l1Cur_pick.calls g s0_0 d1 d2 20 e1 e2 e3 w0 _ ?side1 ?side2 h5.out).mono ?_); (case side1 => exact kI); (case side2 => exact bI); rintro e h8 ⟨rfl, hi, hb, hk⟩; refine ⟨_, rfl, ?_⟩; replace a3 := Aside0.mk (KeepBut.blk hk (g' := a6) (o := .cells #[.int .i64 0, .int .i64 0, .int .i64 0] 25 (0, 0)) (bK a3) a4.out (by simp)); replace HK := Aside0.mk (KeepBut.trans (w := w) kK hk (.inl rfl)); replace HB := Aside0.mk (hb); replace HI0 := Aside0.mk (hi); (try clear hb); (try clear hk); (try clear hi)) | ((with_reducible refine gate_callee (f := 48) rfl ?_); refine goesL_ (some 31) rfl rfl Tryd.func48 kr rfl #[.pointer (some ⟨g, 0, none⟩), .int .i64 20] rfl sM ?_; (with_reducible refine (spec_l1Cur_pick.calls g s0_0 e2 e3 20 e4 e5 e6 w0 _ ?side1 ?side2 h6.out).mono ?_); (case side1 => exact kI); (case side2 => exact bI); rintro e h9 ⟨rfl, hi, hb, hk⟩; refine ⟨_, rfl, ?_⟩; replace a3 := Aside0.mk (KeepBut.blk hk (g' := a6) (o := .cells #[.int .i64 0, .int .i64 0, .int .i64 0] 25 (0, 0)) (bK a3) a4.out (by simp)); replace HK := Aside0.mk (KeepBut.trans (w := w) kK hk (.inl rfl)); replace HB := Aside0.mk (hb); replace HI0 := Aside0.mk (hi); (try clear hb); (try clear hk); (try clear hi)) | ((with_reducible refine gate_callee (f := 48) rfl ?_); refine goesL_ (some 34) rfl rfl Tryd.func48 kr rfl #[.pointer (some ⟨g, 0, none⟩), .int .i64 20] rfl sM ?_; (with_reducible refine (spec_l1Cur_pick.calls g s0_0 e5 e6 20 e7 g4 g5 w0 _ ?side1 ?side2 h7.out).mono ?_); (case side1 => exact kI); (case side2 => exact bI); rintro e i0 ⟨rfl, hi, hb, hk⟩; refine ⟨_, rfl, ?_⟩; replace a3 := Aside0.mk (KeepBut.blk hk (g' := a6) (o := .cells #[.int .i64 0, .int .i64 0, .int .i64 0] 25 (0, 0)) (bK a3) a4.out (by simp)); replace HK := Aside0.mk (KeepBut.trans (w := w) kK hk (.inl rfl)); replace HB := Aside0.mk (hb); replace HI0 := Aside0.mk (hi); (try clear hb); (try clear hk); (try clear hi); have d8 := a4.out; have d9 := a5.out; obtain ⟨b8, b9, c1, c2, c4, c5⟩ := cf3 a3)))
 ·(
 refine bodyPost_ret (results_cell_row rfl _ _ a6 25 #[.int .i64 56, .int .i64 105, .int .i64 42] (0, 0) _ rfl (bK a3) Tryd.underlying25 rfl kr) rfl ?_
 exact ⟨sE, kI, bI, kK⟩
 )
 ·(
 refine bodyPost_ret (results_cell_row rfl _ _ a6 25 #[.int .i64 (wrap64 (12 * (wrap64 (1 + a8)))), .int .i64 (wrap64 (d4 * (wrap64 (1 + a8)))), .int .i64 (wrap64 (e0 * (wrap64 (1 + a8))))] (0, 0) _ rfl (bK a3) Tryd.underlying25 rfl kr) rfl ?_
 exact ⟨sE, kI, bI, kK⟩
 )
 ·(
 refine bodyPost_ret (results_cell_row rfl _ _ a6 25 #[.int .i64 (wrap64 (1 + e1)), .int .i64 (wrap64 (1 + e4)), .int .i64 (wrap64 (1 + e7))] (0, 0) _ rfl (bK a3) Tryd.underlying25 rfl kr) rfl ?_
 exact ⟨sE, kI, bI, kK⟩
 )

/-! ### spec_l1Cur_ladders: function 46 -/
def spec_l1Cur_ladders.f (s0_0 : List Int) (s0_1 : Int) (s0_2 : Int) : Option (Int × Int × Int × Int × Int) := (spec_l1Cur_sureLadders.f s0_0 s0_1 s0_2).bind fun bt141 => ((spec_l1Cur_pick.f s0_0 bt141.2.2.2.1 bt141.2.2.2.2 20).bind fun bt147 => (if bt147.1 = 0 then ((spec_l1Cur_among.f s0_0 bt147.2.1 bt147.2.2 (([(-1), 0, 1, 1000, 1001, 4611686018427387904] : List Int))).bind fun bt153 => (some (bt153.1, bt141.2.1, bt141.2.2.1, bt153.2.1, bt153.2.2))) else (if bt147.1 = 1 then ((spec_l1Cur_among.f s0_0 bt147.2.1 bt147.2.2 (([(-1), 0, 1, 1000, 1001, 4611686018427387904] : List Int))).bind fun bt159 => (some (bt141.1, bt159.1, bt141.2.2.1, bt159.2.1, bt159.2.2))) else (if bt147.1 = 2 then ((spec_l1Cur_among.f s0_0 bt147.2.1 bt147.2.2 (([(-1), 0, 1, 1000, 1001, 4611686018427387904] : List Int))).bind fun bt165 => (some (bt141.1, bt141.2.1, bt165.1, bt165.2.1, bt165.2.2))) else (some (bt141.1, bt141.2.1, bt141.2.2.1, bt147.2.1, bt147.2.2))))))
set_option maxHeartbeats 8000000 in
set_option maxRecDepth 100000 in
theorem spec_l1Cur_ladders.calls (g : Nat) (s0_0 : List Int) (s0_1 : Int) (s0_2 : Int) (r1 : Int) (r2 : Int) (r3 : Int) (r4 : Int) (r5 : Int) (w0 w : World) (hI : IsS61 w0 w g s0_0 s0_1 s0_2) (hB : Below w0.heap.size w0 w) (h : spec_l1Cur_ladders.f s0_0 s0_1 s0_2 = some (r1, r2, r3, r4, r5)) :
    Calls Tryd.prog 46 #[.pointer (some ⟨g, 0, none⟩)] w fun e w' => e = .returned (.agg #[.int .i64 r1, .int .i64 r2, .int .i64 r3]) ∧ IsS61 w0 w' g s0_0 r4 r5 ∧ Below w0.heap.size w0 w' ∧ KeepBut w w' g none := by
 have j9 := Tryd.underlying25
 have HI0 := Aside0.mk hI
 have HK := Aside0.mk (KeepBut.refl w g none)
 have HL := Aside0.mk hB.size
 clear hI
 have h4 := Aside0.mk hB.size
 have HB := Aside0.mk hB
 clear hB
 have H := h
 unfold spec_l1Cur_ladders.f at H
 clear h
 obtain ⟨⟨b0, b1, b2, d9, e0⟩, A2, H⟩ := bD H
 try dsimp only at H
 obtain ⟨⟨e1, b3, b4⟩, A3, H⟩ := bD H
 try dsimp only at H
 by_cases c4 : e1 = 0
 rw [if_pos c4] at H
 obtain ⟨h8, h9⟩ := yE c4
 clear c4
 obtain ⟨e9, b8⟩ : ∃ y_ : List Int, y_ = (([(-1), 0, 1, 1000, 1001, 4611686018427387904] : List Int)) := ⟨_, rfl⟩
 replace H : ((spec_l1Cur_among.f s0_0 b3 b4 e9).bind fun e2 => (some (e2.1, b1, b2, e2.2.1, e2.2.2))) = some (r1, r2, r3, r4, r5) := by first | (rw [b8]; with_reducible exact H) | (have b6 := (Option.bind_some _ _).symm.trans H; rw [b8]; with_reducible exact b6) | (have b6 := (Option.bind_some _ _).symm.trans H; with_reducible exact b6) | with_reducible exact H | (rw [b8]; exact H) | exact H
 have g4 := Aside0.mk b8
 clear b8
 obtain ⟨⟨g7, i0, i1⟩, A5, H⟩ := bD H
 try dsimp only at H
 simp only [Option.some.injEq, Prod.mk.injEq] at H
 obtain ⟨rfl, rfl, rfl, rfl, rfl⟩ := H
 rotate_left
 rw [if_neg c4] at H
 obtain ⟨h8, h9⟩ := nE c4
 by_cases e7 : e1 = 1
 rw [if_pos e7] at H
 obtain ⟨h0, h1⟩ := yE e7
 clear e7
 obtain ⟨g0, b9⟩ : ∃ y_ : List Int, y_ = (([(-1), 0, 1, 1000, 1001, 4611686018427387904] : List Int)) := ⟨_, rfl⟩
 replace H : ((spec_l1Cur_among.f s0_0 b3 b4 g0).bind fun e3 => (some (b0, e3.1, b2, e3.2.1, e3.2.2))) = some (r1, r2, r3, r4, r5) := by first | (rw [b9]; with_reducible exact H) | (have b6 := (Option.bind_some _ _).symm.trans H; rw [b9]; with_reducible exact b6) | (have b6 := (Option.bind_some _ _).symm.trans H; with_reducible exact b6) | with_reducible exact H | (rw [b9]; exact H) | exact H
 have g5 := Aside0.mk b9
 clear b9
 obtain ⟨⟨g8, i2, i3⟩, j3, H⟩ := bD H
 try dsimp only at H
 simp only [Option.some.injEq, Prod.mk.injEq] at H
 obtain ⟨rfl, rfl, rfl, rfl, rfl⟩ := H
 rotate_left
 rw [if_neg e7] at H
 obtain ⟨h0, h1⟩ := nE e7
 by_cases e8 : e1 = 2
 rw [if_pos e8] at H
 obtain ⟨h2, h3⟩ := yE e8
 clear e8
 obtain ⟨g1, c1⟩ : ∃ y_ : List Int, y_ = (([(-1), 0, 1, 1000, 1001, 4611686018427387904] : List Int)) := ⟨_, rfl⟩
 replace H : ((spec_l1Cur_among.f s0_0 b3 b4 g1).bind fun e4 => (some (b0, b1, e4.1, e4.2.1, e4.2.2))) = some (r1, r2, r3, r4, r5) := by first | (rw [c1]; with_reducible exact H) | (have b6 := (Option.bind_some _ _).symm.trans H; rw [c1]; with_reducible exact b6) | (have b6 := (Option.bind_some _ _).symm.trans H; with_reducible exact b6) | with_reducible exact H | (rw [c1]; exact H) | exact H
 have g6 := Aside0.mk c1
 clear c1
 obtain ⟨⟨g9, i4, i5⟩, j4, H⟩ := bD H
 try dsimp only at H
 simp only [Option.some.injEq, Prod.mk.injEq] at H
 obtain ⟨rfl, rfl, rfl, rfl, rfl⟩ := H
 rotate_left
 rw [if_neg e8] at H
 obtain ⟨h2, h3⟩ := nE e8
 simp only [Option.some.injEq, Prod.mk.injEq] at H
 obtain ⟨rfl, rfl, rfl, rfl, rfl⟩ := H
 rotate_left
 all_goals (go_enter Tryd.func46, Tryd.ntmps46)
 all_goals (go_wp2_with (first | ((with_reducible refine gate_dst (N := 2) rfl ?_); refine box_ (cs := #[.int .i64 0, .int .i64 0, .int .i64 0]) (t := 25) fun a9 hg k4 hbox hb => ?_; have a3 := Aside0.mk (hbox); have k0 := (kS HK hg); have k1 := (kE h4 HK hg); have a5 := Aside0.mk ((by rw [hg]; exact Nat.ne_of_lt (IsS61.lt (show IsS61 w0 _ g s0_0 s0_1 s0_2 from by repeat (first | (with_reducible first | exact HI0.out | apply IsS61.alloc | apply IsS61.drewN | apply IsS61.drew | apply IsS61.set_1 | apply IsS61.set_2) | exact HI0.out))) : g ≠ a9)); have a8 := Aside0.mk ((by rw [hg]; exact Nat.ne_of_gt (IsS61.lt (show IsS61 w0 _ g s0_0 s0_1 s0_2 from by repeat (first | (with_reducible first | exact HI0.out | apply IsS61.alloc | apply IsS61.drewN | apply IsS61.drew | apply IsS61.set_1 | apply IsS61.set_2) | exact HI0.out))) : a9 ≠ g)); replace HI0 := Aside0.mk (IsS61.below kI hb); replace HK := Aside0.mk (KeepBut.trans (w := w) kK (KeepBut.of_below hb g none) (.inl rfl)); replace HB := Aside0.mk (below_step bI hb); clear hb hbox hg) | ((with_reducible refine gate_callee (f := 62) rfl ?_); refine goesL_ (some 5) rfl rfl Tryd.func62 kr rfl #[.pointer (some ⟨g, 0, none⟩)] rfl sM ?_; (with_reducible refine (spec_l1Cur_sureLadders.calls g s0_0 s0_1 s0_2 b0 b1 b2 d9 e0 w0 _ ?side1 ?side2 A2.out).mono ?_); (case side1 => exact kI); (case side2 => exact bI); rintro e k5 ⟨rfl, hi, hb, hk⟩; refine ⟨_, rfl, ?_⟩; replace a3 := Aside0.mk (KeepBut.blk hk (g' := a9) (o := .cells #[.int .i64 0, .int .i64 0, .int .i64 0] 25 (0, 0)) (bK a3) a8.out (by simp)); replace HK := Aside0.mk (KeepBut.trans (w := w) kK hk (.inl rfl)); replace HB := Aside0.mk (hb); replace HI0 := Aside0.mk (hi); (try clear hb); (try clear hk); (try clear hi)) | ((with_reducible refine gate_dst (N := 3) rfl ?_); refine box_ (cs := #[.int .i64 0, .int .i64 0, .int .i64 0]) (t := 25) fun c2 hg k6 hbox hb => ?_; have a6 := Aside0.mk (hbox); have k2 := (kS HK hg); have k3 := (kE h4 HK hg); have g2 := bL a3 hg; have g3 := bM a3 hg; have b5 := Aside0.mk ((by rw [hg]; exact Nat.ne_of_lt (IsS61.lt (show IsS61 w0 _ g s0_0 d9 e0 from by repeat (first | (with_reducible first | exact HI0.out | apply IsS61.alloc | apply IsS61.drewN | apply IsS61.drew | apply IsS61.set_1 | apply IsS61.set_2 | refine IsS61.far ?_ a5.out _) | exact HI0.out))) : g ≠ c2)); have b7 := Aside0.mk ((by rw [hg]; exact Nat.ne_of_gt (IsS61.lt (show IsS61 w0 _ g s0_0 d9 e0 from by repeat (first | (with_reducible first | exact HI0.out | apply IsS61.alloc | apply IsS61.drewN | apply IsS61.drew | apply IsS61.set_1 | apply IsS61.set_2 | refine IsS61.far ?_ a5.out _) | exact HI0.out))) : c2 ≠ g)); replace HI0 := Aside0.mk (IsS61.below kI hb); replace a3 := bQ a3 hb; replace HK := Aside0.mk (KeepBut.trans (w := w) kK (KeepBut.of_below hb g none) (.inl rfl)); replace HB := Aside0.mk (below_step bI hb); clear hb hbox hg; have j5 := g3.out; have j6 := g2.out; have j7 := b7.out; have j8 := b5.out; obtain ⟨i6, i7, i9, j0, j1, j2⟩ := cf3 a6) | ((with_reducible refine gate_callee (f := 48) rfl ?_); refine goesL_ (some 7) rfl rfl Tryd.func48 kr rfl #[.pointer (some ⟨g, 0, none⟩), .int .i64 20] rfl sM ?_; (with_reducible refine (spec_l1Cur_pick.calls g s0_0 d9 e0 20 e1 b3 b4 w0 _ ?side1 ?side2 A3.out).mono ?_); (case side1 => exact kI); (case side2 => exact bI); rintro e k7 ⟨rfl, hi, hb, hk⟩; refine ⟨_, rfl, ?_⟩; replace a3 := Aside0.mk (KeepBut.blk hk (g' := a9) (o := .cells #[.int .i64 0, .int .i64 0, .int .i64 0] 25 (0, 0)) (bK a3) a8.out (by simp)); replace a6 := Aside0.mk (KeepBut.blk hk (g' := c2) (o := .cells #[.int .i64 b0, .int .i64 b1, .int .i64 b2] 25 (0, 0)) (bK a6) b7.out (by simp)); replace HK := Aside0.mk (KeepBut.trans (w := w) kK hk (.inl rfl)); replace HB := Aside0.mk (hb); replace HI0 := Aside0.mk (hi); (try clear hb); (try clear hk); (try clear hi); obtain ⟨c3, c5, c6, c7, c8, c9⟩ := cf3 a6; have e5 := a8.out; have e6 := a5.out; obtain ⟨d0, d1, d2, d3, d4, d5⟩ := cf3 a3) | ((with_reducible refine gate_dst (N := 11) rfl ?_); refine Kd.R_lit (Kd.int .i64) _ 3 ?hg (N := 11) ?hd (xs := ([(-1), 0, 1, 1000, 1001, 4611686018427387904] : List Int)) (inner := [.int .i64 (-1), .int .i64 0, .int .i64 1, .int .i64 1000, .int .i64 1001, .int .i64 4611686018427387904]) (ok := fun _ => True) (okp := fun _ => True) ?hr ?hp (fun _ hk => hk) trivial (Below.refl _ _) (Nat.le_refl _) (by simp) ?_; (case hd => rfl); (case hg => rfl); (case hr => first | (go_simp; done) | (go_simp; rfl)); (case hp => exact (Reps.one (show Kd.M (Kd.int .i64) _ _ _ (-1) [.int .i64 (-1)] from rfl) (Reps.one (show Kd.M (Kd.int .i64) _ _ _ 0 [.int .i64 0] from rfl) (Reps.one (show Kd.M (Kd.int .i64) _ _ _ 1 [.int .i64 1] from rfl) (Reps.one (show Kd.M (Kd.int .i64) _ _ _ 1000 [.int .i64 1000] from rfl) (Reps.one (show Kd.M (Kd.int .i64) _ _ _ 1001 [.int .i64 1001] from rfl) (Reps.one (show Kd.M (Kd.int .i64) _ _ _ 4611686018427387904 [.int .i64 4611686018427387904] from rfl) (Reps.none _ _)))))))); intro h5 h6 a7 hb hg_ hnew_; clear hg_ hnew_; (first | rw [← g4.out] at a7 | (simp only [Int.reduceToNat] at a7; rw [← g4.out] at a7)); have a4 := Aside0.mk (Kd.R_lower a7 (keep_size (w := w) (g := g) (row := none) kK)); replace HI0 := Aside0.mk (IsS61.below kI hb); replace a3 := bQ a3 hb; replace a6 := bQ a6 hb; replace HK := Aside0.mk (KeepBut.trans (w := w) kK (KeepBut.of_below hb g none) (.inl rfl)); replace HB := Aside0.mk (below_step bI hb); clear hb a7; obtain ⟨d6, d7, d8⟩ := Kd.R_slice a4.out; subst d8) | ((with_reducible refine gate_callee (f := 55) rfl ?_); refine goesL_ (some 12) rfl rfl Tryd.func55 kr rfl #[.pointer (some ⟨g, 0, none⟩), .slice d6 e9.length d7] rfl sM ?_; (with_reducible refine (spec_l1Cur_among.calls g s0_0 b3 b4 _ _ e9 g7 i0 i1 w0 _ ?side1 ?side2 ?side3 ?side4 ?side5 A5.out).mono ?_); (case side1 => exact kI); (case side2 => exact bI); (case side3 => repeat (first | exact (Kd.R_reads' a4.out).2.2 | (with_reducible refine Kd.C_alloc ?_ _) | (with_reducible refine Kd.C_drewN ?_ _) | (with_reducible refine Kd.C_drew ?_))); (case side4 => exact (Kd.R_reads' a4.out).2.1); (case side5 => exact far_slice (IsS61.own_ne HI0.out a4.out (by decide))); rintro e h7 ⟨rfl, hi, hb, hk⟩; refine ⟨_, rfl, ?_⟩; replace a3 := Aside0.mk (KeepBut.blk hk (g' := a9) (o := .cells #[.int .i64 0, .int .i64 0, .int .i64 0] 25 (0, 0)) (bK a3) a8.out (by simp)); replace a6 := Aside0.mk (KeepBut.blk hk (g' := c2) (o := .cells #[.int .i64 b0, .int .i64 b1, .int .i64 b2] 25 (0, 0)) (bK a6) b7.out (by simp)); replace a4 := Aside0.mk (Kd.R_mono (Kd.R_keep (IsS61.apart (show IsS61 w0 _ g s0_0 b3 b4 from by repeat (first | (with_reducible first | exact HI0.out | apply IsS61.alloc | apply IsS61.drewN | apply IsS61.drew | apply IsS61.set_1 | apply IsS61.set_2 | refine IsS61.far ?_ a5.out _ | refine IsS61.far ?_ b5.out _) | exact HI0.out)) (oR a4) (by decide)) hk (fun _ h => h.2)) (fun _ h => h.1)); replace HK := Aside0.mk (KeepBut.trans (w := w) kK hk (.inl rfl)); replace HB := Aside0.mk (hb); replace HI0 := Aside0.mk (hi); (try clear hb); (try clear hk); (try clear hi); obtain ⟨c3, c5, c6, c7, c8, c9⟩ := cf3 a6; have e5 := a8.out; have e6 := a5.out; obtain ⟨d0, d1, d2, d3, d4, d5⟩ := cf3 a3) | ((with_reducible refine gate_dst (N := 17) rfl ?_); refine Kd.R_lit (Kd.int .i64) _ 3 ?hg (N := 17) ?hd (xs := ([(-1), 0, 1, 1000, 1001, 4611686018427387904] : List Int)) (inner := [.int .i64 (-1), .int .i64 0, .int .i64 1, .int .i64 1000, .int .i64 1001, .int .i64 4611686018427387904]) (ok := fun _ => True) (okp := fun _ => True) ?hr ?hp (fun _ hk => hk) trivial (Below.refl _ _) (Nat.le_refl _) (by simp) ?_; (case hd => rfl); (case hg => rfl); (case hr => first | (go_simp; done) | (go_simp; rfl)); (case hp => exact (Reps.one (show Kd.M (Kd.int .i64) _ _ _ (-1) [.int .i64 (-1)] from rfl) (Reps.one (show Kd.M (Kd.int .i64) _ _ _ 0 [.int .i64 0] from rfl) (Reps.one (show Kd.M (Kd.int .i64) _ _ _ 1 [.int .i64 1] from rfl) (Reps.one (show Kd.M (Kd.int .i64) _ _ _ 1000 [.int .i64 1000] from rfl) (Reps.one (show Kd.M (Kd.int .i64) _ _ _ 1001 [.int .i64 1001] from rfl) (Reps.one (show Kd.M (Kd.int .i64) _ _ _ 4611686018427387904 [.int .i64 4611686018427387904] from rfl) (Reps.none _ _)))))))); intro h5 h6 a7 hb hg_ hnew_; clear hg_ hnew_; (first | rw [← g5.out] at a7 | (simp only [Int.reduceToNat] at a7; rw [← g5.out] at a7)); have a4 := Aside0.mk (Kd.R_lower a7 (keep_size (w := w) (g := g) (row := none) kK)); replace HI0 := Aside0.mk (IsS61.below kI hb); replace a3 := bQ a3 hb; replace a6 := bQ a6 hb; replace HK := Aside0.mk (KeepBut.trans (w := w) kK (KeepBut.of_below hb g none) (.inl rfl)); replace HB := Aside0.mk (below_step bI hb); clear hb a7; obtain ⟨d6, d7, d8⟩ := Kd.R_slice a4.out; subst d8) | ((with_reducible refine gate_callee (f := 55) rfl ?_); refine goesL_ (some 18) rfl rfl Tryd.func55 kr rfl #[.pointer (some ⟨g, 0, none⟩), .slice d6 g0.length d7] rfl sM ?_; (with_reducible refine (spec_l1Cur_among.calls g s0_0 b3 b4 _ _ g0 g8 i2 i3 w0 _ ?side1 ?side2 ?side3 ?side4 ?side5 j3.out).mono ?_); (case side1 => exact kI); (case side2 => exact bI); (case side3 => repeat (first | exact (Kd.R_reads' a4.out).2.2 | (with_reducible refine Kd.C_alloc ?_ _) | (with_reducible refine Kd.C_drewN ?_ _) | (with_reducible refine Kd.C_drew ?_))); (case side4 => exact (Kd.R_reads' a4.out).2.1); (case side5 => exact far_slice (IsS61.own_ne HI0.out a4.out (by decide))); rintro e h7 ⟨rfl, hi, hb, hk⟩; refine ⟨_, rfl, ?_⟩; replace a3 := Aside0.mk (KeepBut.blk hk (g' := a9) (o := .cells #[.int .i64 0, .int .i64 0, .int .i64 0] 25 (0, 0)) (bK a3) a8.out (by simp)); replace a6 := Aside0.mk (KeepBut.blk hk (g' := c2) (o := .cells #[.int .i64 b0, .int .i64 b1, .int .i64 b2] 25 (0, 0)) (bK a6) b7.out (by simp)); replace a4 := Aside0.mk (Kd.R_mono (Kd.R_keep (IsS61.apart (show IsS61 w0 _ g s0_0 b3 b4 from by repeat (first | (with_reducible first | exact HI0.out | apply IsS61.alloc | apply IsS61.drewN | apply IsS61.drew | apply IsS61.set_1 | apply IsS61.set_2 | refine IsS61.far ?_ a5.out _ | refine IsS61.far ?_ b5.out _) | exact HI0.out)) (oR a4) (by decide)) hk (fun _ h => h.2)) (fun _ h => h.1)); replace HK := Aside0.mk (KeepBut.trans (w := w) kK hk (.inl rfl)); replace HB := Aside0.mk (hb); replace HI0 := Aside0.mk (hi); (try clear hb); (try clear hk); (try clear hi); obtain ⟨c3, c5, c6, c7, c8, c9⟩ := cf3 a6; have e5 := a8.out; have e6 := a5.out; obtain ⟨d0, d1, d2, d3, d4, d5⟩ := cf3 a3) | ((with_reducible refine gate_dst (N := 23) rfl ?_); refine Kd.R_lit (Kd.int .i64) _ 3 ?hg (N := 23) ?hd (xs := ([(-1), 0, 1, 1000, 1001, 4611686018427387904] : List Int)) (inner := [.int .i64 (-1), .int .i64 0, .int .i64 1, .int .i64 1000, .int .i64 1001, .int .i64 4611686018427387904]) (ok := fun _ => True) (okp := fun _ => True) ?hr ?hp (fun _ hk => hk) trivial (Below.refl _ _) (Nat.le_refl _) (by simp) ?_; (case hd => rfl); (case hg => rfl); (case hr => first | (go_simp; done) | (go_simp; rfl)); (case hp => exact (Reps.one (show Kd.M (Kd.int .i64) _ _ _ (-1) [.int .i64 (-1)] from rfl) (Reps.one (show Kd.M (Kd.int .i64) _ _ _ 0 [.int .i64 0] from rfl) (Reps.one (show Kd.M (Kd.int .i64) _ _ _ 1 [.int .i64 1] from rfl) (Reps.one (show Kd.M (Kd.int .i64) _ _ _ 1000 [.int .i64 1000] from rfl) (Reps.one (show Kd.M (Kd.int .i64) _ _ _ 1001 [.int .i64 1001] from rfl) (Reps.one (show Kd.M (Kd.int .i64) _ _ _ 4611686018427387904 [.int .i64 4611686018427387904] from rfl) (Reps.none _ _)))))))); intro h5 h6 a7 hb hg_ hnew_; clear hg_ hnew_; (first | rw [← g6.out] at a7 | (simp only [Int.reduceToNat] at a7; rw [← g6.out] at a7)); have a4 := Aside0.mk (Kd.R_lower a7 (keep_size (w := w) (g := g) (row := none) kK)); replace HI0 := Aside0.mk (IsS61.below kI hb); replace a3 := bQ a3 hb; replace a6 := bQ a6 hb; replace HK := Aside0.mk (KeepBut.trans (w := w) kK (KeepBut.of_below hb g none) (.inl rfl)); replace HB := Aside0.mk (below_step bI hb); clear hb a7; obtain ⟨d6, d7, d8⟩ := Kd.R_slice a4.out; subst d8) | ((with_reducible refine gate_callee (f := 55) rfl ?_); refine goesL_ (some 24) rfl rfl Tryd.func55 kr rfl #[.pointer (some ⟨g, 0, none⟩), .slice d6 g1.length d7] rfl sM ?_; (with_reducible refine (spec_l1Cur_among.calls g s0_0 b3 b4 _ _ g1 g9 i4 i5 w0 _ ?side1 ?side2 ?side3 ?side4 ?side5 j4.out).mono ?_); (case side1 => exact kI); (case side2 => exact bI); (case side3 => repeat (first | exact (Kd.R_reads' a4.out).2.2 | (with_reducible refine Kd.C_alloc ?_ _) | (with_reducible refine Kd.C_drewN ?_ _) | (with_reducible refine Kd.C_drew ?_))); (case side4 => exact (Kd.R_reads' a4.out).2.1); (case side5 => exact far_slice (IsS61.own_ne HI0.out a4.out (by decide))); rintro e h7 ⟨rfl, hi, hb, hk⟩; refine ⟨_, rfl, ?_⟩; replace a3 := Aside0.mk (KeepBut.blk hk (g' := a9) (o := .cells #[.int .i64 0, .int .i64 0, .int .i64 0] 25 (0, 0)) (bK a3) a8.out (by simp)); replace a6 := Aside0.mk (KeepBut.blk hk (g' := c2) (o := .cells #[.int .i64 b0, .int .i64 b1, .int .i64 b2] 25 (0, 0)) (bK a6) b7.out (by simp)); replace a4 := Aside0.mk (Kd.R_mono (Kd.R_keep (IsS61.apart (show IsS61 w0 _ g s0_0 b3 b4 from by repeat (first | (with_reducible first | exact HI0.out | apply IsS61.alloc | apply IsS61.drewN | apply IsS61.drew | apply IsS61.set_1 | apply IsS61.set_2 | refine IsS61.far ?_ a5.out _ | refine IsS61.far ?_ b5.out _) | exact HI0.out)) (oR a4) (by decide)) hk (fun _ h => h.2)) (fun _ h => h.1)); replace HK := Aside0.mk (KeepBut.trans (w := w) kK hk (.inl rfl)); replace HB := Aside0.mk (hb); replace HI0 := Aside0.mk (hi); (try clear hb); (try clear hk); (try clear hi); obtain ⟨c3, c5, c6, c7, c8, c9⟩ := cf3 a6; have e5 := a8.out; have e6 := a5.out; obtain ⟨d0, d1, d2, d3, d4, d5⟩ := cf3 a3)))
 ·(
 refine bodyPost_ret (results_cell_row rfl _ _ a9 25 #[.int .i64 g7, .int .i64 b1, .int .i64 b2] (0, 0) _ rfl (bK a3) Tryd.underlying25 rfl kr) rfl ?_
 exact ⟨sE, kI, bI, kK⟩
 )
 ·(
 refine bodyPost_ret (results_cell_row rfl _ _ a9 25 #[.int .i64 b0, .int .i64 g8, .int .i64 b2] (0, 0) _ rfl (bK a3) Tryd.underlying25 rfl kr) rfl ?_
 exact ⟨sE, kI, bI, kK⟩
 )
 ·(
 refine bodyPost_ret (results_cell_row rfl _ _ a9 25 #[.int .i64 b0, .int .i64 b1, .int .i64 g9] (0, 0) _ rfl (bK a3) Tryd.underlying25 rfl kr) rfl ?_
 exact ⟨sE, kI, bI, kK⟩
 )
 ·(
 refine bodyPost_ret (results_cell_row rfl _ _ a9 25 #[.int .i64 b0, .int .i64 b1, .int .i64 b2] (0, 0) _ rfl (bK a3) Tryd.underlying25 rfl kr) rfl ?_
 exact ⟨sE, kI, bI, kK⟩
 )

/-! ### spec_l1Cur_one: function 47 -/
def spec_l1Cur_one.f (s0_0 : List Int) (s0_1 : Int) (s0_2 : Int) (a1 : Int) : Option (Bool × Int × Int) := (spec_l1Cur_pick.f s0_0 s0_1 s0_2 a1).bind fun bt168 => (some ((bt168.1 == 0), bt168.2.1, bt168.2.2))
set_option maxHeartbeats 8000000 in
set_option maxRecDepth 100000 in
theorem spec_l1Cur_one.calls (g : Nat) (s0_0 : List Int) (s0_1 : Int) (s0_2 : Int) (a1 : Int) (r1 : Bool) (r2 : Int) (r3 : Int) (w0 w : World) (hI : IsS61 w0 w g s0_0 s0_1 s0_2) (hB : Below w0.heap.size w0 w) (h : spec_l1Cur_one.f s0_0 s0_1 s0_2 a1 = some (r1, r2, r3)) :
    Calls Tryd.prog 47 #[.pointer (some ⟨g, 0, none⟩), .int .i64 a1] w fun e w' => e = .returned (.bool r1) ∧ IsS61 w0 w' g s0_0 r2 r3 ∧ Below w0.heap.size w0 w' ∧ KeepBut w w' g none := by
 have HI0 := Aside0.mk hI
 have HK := Aside0.mk (KeepBut.refl w g none)
 have HL := Aside0.mk hB.size
 clear hI
 have a6 := Aside0.mk hB.size
 have HB := Aside0.mk hB
 clear hB
 have H := h
 unfold spec_l1Cur_one.f at H
 clear h
 obtain ⟨⟨a3, a4, a5⟩, A3, H⟩ := bD H
 try dsimp only at H
 simp only [Option.some.injEq, Prod.mk.injEq] at H
 obtain ⟨rfl, rfl, rfl⟩ := H
 go_enter Tryd.func47, Tryd.ntmps47
 go_wp2_with (first | ((with_reducible refine gate_callee (f := 48) rfl ?_); refine goesL_ (some 7) rfl rfl Tryd.func48 kr rfl #[.pointer (some ⟨g, 0, none⟩), .int .i64 a1] rfl sM ?_; (with_reducible refine (spec_l1Cur_pick.calls g s0_0 s0_1 s0_2 a1 a3 a4 a5 w0 _ ?side1 ?side2 A3.out).mono ?_); (case side1 => exact kI); (case side2 => exact bI); rintro e w4 ⟨rfl, hi, hb, hk⟩; refine ⟨_, rfl, ?_⟩; replace HK := Aside0.mk (KeepBut.trans (w := w) kK hk (.inl rfl)); replace HB := Aside0.mk (hb); replace HI0 := Aside0.mk (hi); (try clear hb); (try clear hk); (try clear hi)))
 go_ret
 exact ⟨sE, kI, bI, kK⟩

/-! ### spec_l1Least: function 49 -/
def spec_l1Least.f (a0 : Int) (a1 : Int) : Option (Int) := if a0 < a1 then (some a0) else (some a1)
set_option maxHeartbeats 8000000 in
set_option maxRecDepth 100000 in
theorem spec_l1Least.calls (a0 : Int) (a1 : Int) (r : Int) (w : World) (h : spec_l1Least.f a0 a1 = some r) :
    Calls Tryd.prog 49 #[.int .i64 a0, .int .i64 a1] w fun e w' => e = .returned (.int .i64 r) ∧ Drawn0 w w' := by
 have H := h
 unfold spec_l1Least.f at H
 clear h
 by_cases c3 : a0 < a1
 rw [if_pos c3] at H
 have a3 : decide (a0 < a1) = true := decide_eq_true c3
 clear c3
 obtain rfl := Option.some.inj H
 rotate_left
 rw [if_neg c3] at H
 have a3 : decide (a0 < a1) = false := decide_eq_false c3
 clear c3
 obtain rfl := Option.some.inj H
 rotate_left
 all_goals (go_enter Tryd.func49, Tryd.ntmps49)
 all_goals go_wp2
 all_goals go_ret
 all_goals (exact ⟨by first | rfl | (simp; done) | (simp [*]; done), by repeat (first | exact Drawn0.refl _ | apply Drawn0.step)⟩)

/-! ### spec_l1Most: function 50 -/
def spec_l1Most.f (a0 : Int) (a1 : Int) : Option (Int) := if a0 > a1 then (some a0) else (some a1)
set_option maxHeartbeats 8000000 in
set_option maxRecDepth 100000 in
theorem spec_l1Most.calls (a0 : Int) (a1 : Int) (r : Int) (w : World) (h : spec_l1Most.f a0 a1 = some r) :
    Calls Tryd.prog 50 #[.int .i64 a0, .int .i64 a1] w fun e w' => e = .returned (.int .i64 r) ∧ Drawn0 w w' := by
 have H := h
 unfold spec_l1Most.f at H
 clear h
 by_cases c3 : a0 > a1
 rw [if_pos c3] at H
 have a3 : decide (a1 < a0) = true := decide_eq_true c3
 clear c3
 obtain rfl := Option.some.inj H
 rotate_left
 rw [if_neg c3] at H
 have a3 : decide (a1 < a0) = false := decide_eq_false c3
 clear c3
 obtain rfl := Option.some.inj H
 rotate_left
 all_goals (go_enter Tryd.func50, Tryd.ntmps50)
 all_goals go_wp2
 all_goals go_ret
 all_goals (exact ⟨by first | rfl | (simp; done) | (simp [*]; done), by repeat (first | exact Drawn0.refl _ | apply Drawn0.step)⟩)

/-! ### spec_DrawAreLadders: function 36 -/
theorem kQ {w W w1 : World} {g g' : Nat} {o : Obj} (x : Aside0 (w.heap[g]? = some o)) (hk : KeepBut W w1 g' none) (hne : Aside0 (g ≠ g')) (h : w.heap[g]? = some o → W.heap[g]? = some o := by (intro hx_; (with_reducible repeat (first | refine blk_drewN ?_ _ | refine blk_drew ?_ | refine blk_alloc ?_ _)); exact hx_)) : Aside0 (w1.heap[g]? = some o) :=
  ⟨(hk.2 g (blk_lt (h x.out)) hne.out (by simp)).trans (h x.out)⟩
def spec_DrawAreLadders.f (l0 : List Int) : Option (Int × Int × Int) := (spec_l1Cur_ladders.f l0 0 0).bind fun t => some (t.1, t.2.1, t.2.2.1)
set_option maxHeartbeats 8000000 in
set_option maxRecDepth 100000 in
theorem spec_DrawAreLadders.calls (A0 : Option Addr) (c0 : Nat) (l0 : List Int) (r1 r2 r3 : Int) (w : World) (hr0 : Kd.C (Kd.int .u8) w A0 l0.length l0) (hc0 : l0.length ≤ c0) (h : spec_DrawAreLadders.f l0 = some (r1, r2, r3)) :
    Calls Tryd.prog 36 #[.slice A0 l0.length c0] w fun e w' => e = .returned (.agg #[.int .i64 r1, .int .i64 r2, .int .i64 r3]) ∧ Below w.heap.size w w' := by
 unfold spec_DrawAreLadders.f at h
 obtain ⟨⟨t1, t2, t3, a6, a7⟩, h1, h⟩ := Option.bind_eq_some_iff.mp h
 simp only [Option.some.injEq, Prod.mk.injEq] at h
 obtain ⟨rfl, rfl, rfl⟩ := h
 have H1 := Aside0.mk h1
 have HR := Aside0.mk hr0
 clear h1 hr0
 have hu := Tryd.underlying25
 have HB := Aside0.mk (Below.refl w.heap.size w)
 go_enter Tryd.func36, Tryd.ntmps36
 go_wp2_with (first | ((with_reducible refine gate_dst (N := 2) rfl ?_); refine box_ (cs := #[.int .i64 0, .int .i64 0, .int .i64 0]) (t := 25) fun g2 hg b1 hbox hb => ?_; have B2 := Aside0.mk hbox; have b2 := bS HB hg; replace HB := Aside0.mk (below_step bB hb); clear hb hbox hg) | ((with_reducible refine gate_dst (N := 6) rfl ?_); refine box_ (cs := #[.slice A0 l0.length c0, .int .i64 0, .int .u64 0]) (t := 61) fun gC hg w_C hbox hb => ?_; have BC := Aside0.mk hbox; have GEC := bS HB hg; have a5 := bL B2 hg; have a9 := bM B2 hg; replace B2 := bQ B2 hb; replace HB := Aside0.mk (below_step bB hb); clear hb hbox hg) | ((with_reducible refine gate_callee (f := 46) rfl ?_); refine goesL_ (some 8) rfl rfl Tryd.func46 kr rfl #[.pointer (some ⟨gC, 0, none⟩)] rfl sM ?_; (with_reducible refine (spec_l1Cur_ladders.calls gC l0 0 0  t1 t2 t3 a6 a7 w _ ?side1 ?side2 H1.out).mono ?_); (case side1 => exact ⟨A0, c0, bK BC, GEC.out, HR.out⟩); (case side2 => exact bB); rintro e b0 ⟨rfl, hi, hb, hk⟩; refine ⟨_, rfl, ?_⟩; replace B2 := kQ B2 hk a5; clear BC; obtain ⟨A1, c1, a3, a8, a4⟩ := hi; have BC := Aside0.mk a3; have b3 := Aside0.mk a4; replace HB := Aside0.mk hb; clear a3 a8 a4 hb hk; obtain ⟨z1, z2, z3, z4, z5, z6⟩ := cf3 B2))
 refine bodyPost_ret (results_cell_row rfl _ _ g2 25 #[.int .i64 t1, .int .i64 t2, .int .i64 t3] (0, 0) _ rfl (bK B2) hu rfl kr) rfl ?_
 exact ⟨rfl, bB⟩
def spec_DrawMoveWall.f (l0 : List Int) : Option (Int × Int × Int × Int) :=
  (spec_l1Cur_ladders.f l0 0 0).bind fun t => (spec_l1Cur_among.f l0 t.2.2.2.1 t.2.2.2.2 [0, 1, -1, 5, -5, -19, 990, 1000, -1000, 1001, -1001]).bind fun s => some (t.1, t.2.1, t.2.2.1, s.1)
set_option maxHeartbeats 8000000 in
set_option maxRecDepth 100000 in
theorem spec_DrawMoveWall.calls (A0 : Option Addr) (c0 : Nat) (l0 : List Int) (r1 r2 r3 r4 : Int) (w : World) (hr0 : Kd.C (Kd.int .u8) w A0 l0.length l0) (hc0 : l0.length ≤ c0) (h : spec_DrawMoveWall.f l0 = some (r1, r2, r3, r4)) :
    Calls Tryd.prog 33 #[.slice A0 l0.length c0] w fun e w' => e = .returned (.tuple #[.agg #[.int .i64 r1, .int .i64 r2, .int .i64 r3], .int .i64 r4]) ∧ Below w.heap.size w w' := by
 unfold spec_DrawMoveWall.f at h
 obtain ⟨⟨t1, t2, t3, a5, a6⟩, h1, h⟩ := Option.bind_eq_some_iff.mp h
 obtain ⟨⟨s, p', q'⟩, h2, h⟩ := Option.bind_eq_some_iff.mp h
 simp only [Option.some.injEq, Prod.mk.injEq] at h
 obtain ⟨rfl, rfl, rfl, rfl⟩ := h
 obtain ⟨ys, hyys⟩ : ∃ ys : List Int, ys = [0, 1, -1, 5, -5, -19, 990, 1000, -1000, 1001, -1001] := ⟨_, rfl⟩
 have H2 : Aside0 (spec_l1Cur_among.f l0 a5 a6 ys = some (s, p', q')) := ⟨by rw [hyys]; exact h2⟩
 have HYys := Aside0.mk hyys
 clear hyys h2
 have H1 := Aside0.mk h1
 have HR := Aside0.mk hr0
 clear h1 hr0
 have hu := Tryd.underlying25
 have HB := Aside0.mk (Below.refl w.heap.size w)
 go_enter Tryd.func33, Tryd.ntmps33
 go_wp2_with (first | ((with_reducible refine gate_dst (N := 2) rfl ?_); refine box_ (cs := #[.int .i64 0, .int .i64 0, .int .i64 0]) (t := 25) fun g2 hg b6 hbox hb => ?_; have B2 := Aside0.mk hbox; have b7 := bS HB hg; replace HB := Aside0.mk (below_step bB hb); clear hb hbox hg) | ((with_reducible refine gate_dst (N := 7) rfl ?_); refine box_ (cs := #[.slice A0 l0.length c0, .int .i64 0, .int .u64 0]) (t := 61) fun gC hg w_C hbox hb => ?_; have BC := Aside0.mk hbox; have GEC := bS HB hg; have a8 := bL B2 hg; have b3 := bM B2 hg; replace B2 := bQ B2 hb; replace HB := Aside0.mk (below_step bB hb); clear hb hbox hg) | ((with_reducible refine gate_callee (f := 46) rfl ?_); refine goesL_ (some 9) rfl rfl Tryd.func46 kr rfl #[.pointer (some ⟨gC, 0, none⟩)] rfl sM ?_; (with_reducible refine (spec_l1Cur_ladders.calls gC l0 0 0  t1 t2 t3 a5 a6 w _ ?side1 ?side2 H1.out).mono ?_); (case side1 => exact ⟨A0, c0, bK BC, GEC.out, HR.out⟩); (case side2 => exact bB); rintro e b4 ⟨rfl, hi, hb, hk⟩; refine ⟨_, rfl, ?_⟩; replace B2 := kQ B2 hk a8; clear BC; obtain ⟨A1, c1, a3, a9, a4⟩ := hi; have BC := Aside0.mk a3; have a7 := Aside0.mk a4; replace HB := Aside0.mk hb; clear a3 a9 a4 hb hk) | ((with_reducible refine gate_dst (N := 11) rfl ?_); refine Kd.R_lit (Kd.int .i64) _ 3 ?hg (N := 11) ?hd (xs := ([0, 1, (-1), 5, (-5), (-19), 990, 1000, (-1000), 1001, (-1001)] : List Int)) (inner := [.int .i64 0, .int .i64 1, .int .i64 (-1), .int .i64 5, .int .i64 (-5), .int .i64 (-19), .int .i64 990, .int .i64 1000, .int .i64 (-1000), .int .i64 1001, .int .i64 (-1001)]) (ok := fun _ => True) (okp := fun _ => True) ?hr ?hp (fun _ hk => hk) trivial (Below.refl _ _) (Nat.le_refl _) (by simp) ?_; (case hd => rfl); (case hg => rfl); (case hr => first | (go_simp; done) | (go_simp; rfl)); (case hp => exact (Reps.one (show Kd.M (Kd.int .i64) _ _ _ 0 [.int .i64 0] from rfl) (Reps.one (show Kd.M (Kd.int .i64) _ _ _ 1 [.int .i64 1] from rfl) (Reps.one (show Kd.M (Kd.int .i64) _ _ _ (-1) [.int .i64 (-1)] from rfl) (Reps.one (show Kd.M (Kd.int .i64) _ _ _ 5 [.int .i64 5] from rfl) (Reps.one (show Kd.M (Kd.int .i64) _ _ _ (-5) [.int .i64 (-5)] from rfl) (Reps.one (show Kd.M (Kd.int .i64) _ _ _ (-19) [.int .i64 (-19)] from rfl) (Reps.one (show Kd.M (Kd.int .i64) _ _ _ 990 [.int .i64 990] from rfl) (Reps.one (show Kd.M (Kd.int .i64) _ _ _ 1000 [.int .i64 1000] from rfl) (Reps.one (show Kd.M (Kd.int .i64) _ _ _ (-1000) [.int .i64 (-1000)] from rfl) (Reps.one (show Kd.M (Kd.int .i64) _ _ _ 1001 [.int .i64 1001] from rfl) (Reps.one (show Kd.M (Kd.int .i64) _ _ _ (-1001) [.int .i64 (-1001)] from rfl) (Reps.none _ _))))))))))))); intro v5 b5 hr hb hg_ hnew_; clear hg_ hnew_; (first | rw [← HYys.out] at hr | (simp only [Int.reduceToNat] at hr; rw [← HYys.out] at hr)); have R5 := Aside0.mk (Kd.R_lower hr (below_size bB)); replace B2 := bQ B2 hb; replace BC := bQ BC hb; replace HB := Aside0.mk (below_step bB hb); clear hr hb; obtain ⟨A5, b0, b1⟩ := Kd.R_slice R5.out; subst b1) | ((with_reducible refine gate_callee (f := 55) rfl ?_); refine goesL_ (some 12) rfl rfl Tryd.func55 kr rfl #[.pointer (some ⟨gC, 0, none⟩), .slice A5 ys.length b0] rfl sM ?_; (with_reducible refine (spec_l1Cur_among.calls gC l0 a5 a6 _ _ ys s p' q' w _ ?side1 ?side2 ?side3 ?side4 ?side5 H2.out).mono ?_); (case side1 => exact ⟨A1, c1, bK BC, GEC.out, a7.out⟩); (case side2 => exact bB); (case side3 => exact (Kd.R_reads' R5.out).2.2); (case side4 => exact (Kd.R_reads' R5.out).2.1); (case side5 => exact far_slice (IsS61.own_ne (show IsS61 w _ gC l0 a5 a6 from ⟨A1, c1, bK BC, GEC.out, a7.out⟩) R5.out (by decide))); rintro e b2 ⟨rfl, hi, hb, hk⟩; refine ⟨_, rfl, ?_⟩; replace B2 := kQ B2 hk a8; clear BC a7 A1 c1; obtain ⟨A1, c1, a3, a9, a4⟩ := hi; have BC := Aside0.mk a3; have a7 := Aside0.mk a4; replace HB := Aside0.mk hb; clear a3 a9 a4 hb hk; obtain ⟨z1, z2, z3, z4, z5, z6⟩ := cf3 B2))
 refine bodyPost_ret (results_list (rs := [.cell 2 25, .tmp 3]) rfl (by simp) (.cell g2 25 #[.int .i64 t1, .int .i64 t2, .int .i64 t3] (0, 0) _ rfl (bK B2) hu rfl kr (.tmp .nil))) rfl ?_
 exact ⟨rfl, bB⟩
def spec_DrawOtherHeight.f (l0 : List Int) : Option (Int × Int × Int) :=
  (spec_l1Cur_one.f l0 0 0 8).bind fun o => if o.1 = true then (spec_l1Cur_among.f l0 o.2.1 o.2.2 [-1, 0, 1, 1000, 1001]).bind fun a => (spec_l1Cur_among.f l0 a.2.1 a.2.2 [-1, 0, 1, 1000, 1001]).bind fun b => (spec_l1Cur_among.f l0 b.2.1 b.2.2 [-1, 0, 1, 1000, 1001]).bind fun c => some (a.1, b.1, c.1)
    else (spec_l1Cur_pick.f l0 o.2.1 o.2.2 30).bind fun a => (spec_l1Cur_pick.f l0 a.2.1 a.2.2 30).bind fun b => (spec_l1Cur_pick.f l0 b.2.1 b.2.2 4).bind fun c => some (wrap64 (1 + a.1), wrap64 (1 + b.1), wrap64 (1 + c.1))
set_option maxHeartbeats 8000000 in
set_option maxRecDepth 100000 in
theorem spec_DrawOtherHeight.calls (A0 : Option Addr) (c0 : Nat) (l0 : List Int) (r1 r2 r3 : Int) (w : World) (hr0 : Kd.C (Kd.int .u8) w A0 l0.length l0) (hc0 : l0.length ≤ c0) (h : spec_DrawOtherHeight.f l0 = some (r1, r2, r3)) :
    Calls Tryd.prog 31 #[.slice A0 l0.length c0] w fun e w' => e = .returned (.tuple #[.int .i64 r1, .int .i64 r2, .int .i64 r3]) ∧ Below w.heap.size w w' := by
 unfold spec_DrawOtherHeight.f at h
 obtain ⟨⟨o1, a7, a8⟩, h1, h⟩ := Option.bind_eq_some_iff.mp h
 have HH := Aside0.mk h
 clear h
 have H1 := Aside0.mk h1
 have HR := Aside0.mk hr0
 clear h1 hr0
 have hu := Tryd.underlying25
 have HB := Aside0.mk (Below.refl w.heap.size w)
 cases o1 with
 | true =>
  have h := HH.out
  try dsimp only at h
  rw [if_pos rfl] at h
  obtain ⟨⟨a, p1, q1⟩, h2, h⟩ := Option.bind_eq_some_iff.mp h
  obtain ⟨⟨b, p2, q2⟩, h3, h⟩ := Option.bind_eq_some_iff.mp h
  obtain ⟨⟨c, p3, q3⟩, h4, h⟩ := Option.bind_eq_some_iff.mp h
  simp only [Option.some.injEq, Prod.mk.injEq] at h
  obtain ⟨rfl, rfl, rfl⟩ := h
  obtain ⟨ys, hys⟩ : ∃ ys : List Int, ys = [-1, 0, 1, 1000, 1001] := ⟨_, rfl⟩
  have H2 : Aside0 (spec_l1Cur_among.f l0 a7 a8 ys = some (a, p1, q1)) := ⟨by rw [hys]; exact h2⟩
  have H3 : Aside0 (spec_l1Cur_among.f l0 p1 q1 ys = some (b, p2, q2)) := ⟨by rw [hys]; exact h3⟩
  have H4 : Aside0 (spec_l1Cur_among.f l0 p2 q2 ys = some (c, p3, q3)) := ⟨by rw [hys]; exact h4⟩
  have HYys := Aside0.mk hys
  clear hys h2 h3 h4 HH
  go_enter Tryd.func31, Tryd.ntmps31
  go_wp2_with (first | ((with_reducible refine gate_dst (N := 8) rfl ?_); refine box_ (cs := #[.slice A0 l0.length c0, .int .i64 0, .int .u64 0]) (t := 61) fun gC hg w_C hbox hb => ?_; have BC := Aside0.mk hbox; have GEC := bS HB hg; replace HB := Aside0.mk (below_step bB hb); clear hb hbox hg) | ((with_reducible refine gate_callee (f := 47) rfl ?_); refine goesL_ (some 10) rfl rfl Tryd.func47 kr rfl #[.pointer (some ⟨gC, 0, none⟩), .int .i64 8] rfl sM ?_; (with_reducible refine (spec_l1Cur_one.calls gC l0 0 0 8 true a7 a8 w _ ?side1 ?side2 H1.out).mono ?_); (case side1 => exact ⟨A0, c0, bK BC, GEC.out, HR.out⟩); (case side2 => exact bB); rintro e a9 ⟨rfl, hi, hb, hk⟩; refine ⟨_, rfl, ?_⟩; clear BC; obtain ⟨A1, c1, a3, a6, a4⟩ := hi; have BC := Aside0.mk a3; have a5 := Aside0.mk a4; replace HB := Aside0.mk hb; clear a3 a6 a4 hb hk) | ((with_reducible refine gate_dst (N := 12) rfl ?_); refine Kd.R_lit (Kd.int .i64) _ 3 ?hg (N := 12) ?hd (xs := ([(-1), 0, 1, 1000, 1001] : List Int)) (inner := [.int .i64 (-1), .int .i64 0, .int .i64 1, .int .i64 1000, .int .i64 1001]) (ok := fun _ => True) (okp := fun _ => True) ?hr ?hp (fun _ hk => hk) trivial (Below.refl _ _) (Nat.le_refl _) (by simp) ?_; (case hd => rfl); (case hg => rfl); (case hr => first | (go_simp; done) | (go_simp; rfl)); (case hp => exact (Reps.one (show Kd.M (Kd.int .i64) _ _ _ (-1) [.int .i64 (-1)] from rfl) (Reps.one (show Kd.M (Kd.int .i64) _ _ _ 0 [.int .i64 0] from rfl) (Reps.one (show Kd.M (Kd.int .i64) _ _ _ 1 [.int .i64 1] from rfl) (Reps.one (show Kd.M (Kd.int .i64) _ _ _ 1000 [.int .i64 1000] from rfl) (Reps.one (show Kd.M (Kd.int .i64) _ _ _ 1001 [.int .i64 1001] from rfl) (Reps.none _ _))))))); intro v5 c4 hr hb hg_ hnew_; clear hg_ hnew_; (first | rw [← HYys.out] at hr | (simp only [Int.reduceToNat] at hr; rw [← HYys.out] at hr)); have R5 := Aside0.mk (Kd.R_lower hr (below_size bB)); replace BC := bQ BC hb; replace HB := Aside0.mk (below_step bB hb); clear hr hb; obtain ⟨A5, b0, b1⟩ := Kd.R_slice R5.out; subst b1) | ((with_reducible refine gate_callee (f := 55) rfl ?_); refine goesL_ (some 13) rfl rfl Tryd.func55 kr rfl #[.pointer (some ⟨gC, 0, none⟩), .slice A5 ys.length b0] rfl sM ?_; (with_reducible refine (spec_l1Cur_among.calls gC l0 a7 a8 _ _ ys a p1 q1 w _ ?side1 ?side2 ?side3 ?side4 ?side5 H2.out).mono ?_); (case side1 => exact ⟨A1, c1, bK BC, GEC.out, a5.out⟩); (case side2 => exact bB); (case side3 => exact (Kd.R_reads' R5.out).2.2); (case side4 => exact (Kd.R_reads' R5.out).2.1); (case side5 => exact far_slice (IsS61.own_ne (show IsS61 w _ gC l0 a7 a8 from ⟨A1, c1, bK BC, GEC.out, a5.out⟩) R5.out (by decide))); rintro e b6 ⟨rfl, hi, hb, hk⟩; refine ⟨_, rfl, ?_⟩; clear BC a5 A1 c1; obtain ⟨A1, c1, a3, a6, a4⟩ := hi; have BC := Aside0.mk a3; have a5 := Aside0.mk a4; replace HB := Aside0.mk hb; clear a3 a6 a4 hb hk) | ((with_reducible refine gate_dst (N := 15) rfl ?_); refine Kd.R_lit (Kd.int .i64) _ 3 ?hg (N := 15) ?hd (xs := ([(-1), 0, 1, 1000, 1001] : List Int)) (inner := [.int .i64 (-1), .int .i64 0, .int .i64 1, .int .i64 1000, .int .i64 1001]) (ok := fun _ => True) (okp := fun _ => True) ?hr ?hp (fun _ hk => hk) trivial (Below.refl _ _) (Nat.le_refl _) (by simp) ?_; (case hd => rfl); (case hg => rfl); (case hr => first | (go_simp; done) | (go_simp; rfl)); (case hp => exact (Reps.one (show Kd.M (Kd.int .i64) _ _ _ (-1) [.int .i64 (-1)] from rfl) (Reps.one (show Kd.M (Kd.int .i64) _ _ _ 0 [.int .i64 0] from rfl) (Reps.one (show Kd.M (Kd.int .i64) _ _ _ 1 [.int .i64 1] from rfl) (Reps.one (show Kd.M (Kd.int .i64) _ _ _ 1000 [.int .i64 1000] from rfl) (Reps.one (show Kd.M (Kd.int .i64) _ _ _ 1001 [.int .i64 1001] from rfl) (Reps.none _ _))))))); intro v6 c5 hr hb hg_ hnew_; clear hg_ hnew_; (first | rw [← HYys.out] at hr | (simp only [Int.reduceToNat] at hr; rw [← HYys.out] at hr)); have R6 := Aside0.mk (Kd.R_lower hr (below_size bB)); replace BC := bQ BC hb; replace HB := Aside0.mk (below_step bB hb); clear hr hb; obtain ⟨A6, b2, b3⟩ := Kd.R_slice R6.out; subst b3) | ((with_reducible refine gate_callee (f := 55) rfl ?_); refine goesL_ (some 16) rfl rfl Tryd.func55 kr rfl #[.pointer (some ⟨gC, 0, none⟩), .slice A6 ys.length b2] rfl sM ?_; (with_reducible refine (spec_l1Cur_among.calls gC l0 p1 q1 _ _ ys b p2 q2 w _ ?side1 ?side2 ?side3 ?side4 ?side5 H3.out).mono ?_); (case side1 => exact ⟨A1, c1, bK BC, GEC.out, a5.out⟩); (case side2 => exact bB); (case side3 => exact (Kd.R_reads' R6.out).2.2); (case side4 => exact (Kd.R_reads' R6.out).2.1); (case side5 => exact far_slice (IsS61.own_ne (show IsS61 w _ gC l0 p1 q1 from ⟨A1, c1, bK BC, GEC.out, a5.out⟩) R6.out (by decide))); rintro e b7 ⟨rfl, hi, hb, hk⟩; refine ⟨_, rfl, ?_⟩; clear BC a5 A1 c1; obtain ⟨A1, c1, a3, a6, a4⟩ := hi; have BC := Aside0.mk a3; have a5 := Aside0.mk a4; replace HB := Aside0.mk hb; clear a3 a6 a4 hb hk) | ((with_reducible refine gate_dst (N := 18) rfl ?_); refine Kd.R_lit (Kd.int .i64) _ 3 ?hg (N := 18) ?hd (xs := ([(-1), 0, 1, 1000, 1001] : List Int)) (inner := [.int .i64 (-1), .int .i64 0, .int .i64 1, .int .i64 1000, .int .i64 1001]) (ok := fun _ => True) (okp := fun _ => True) ?hr ?hp (fun _ hk => hk) trivial (Below.refl _ _) (Nat.le_refl _) (by simp) ?_; (case hd => rfl); (case hg => rfl); (case hr => first | (go_simp; done) | (go_simp; rfl)); (case hp => exact (Reps.one (show Kd.M (Kd.int .i64) _ _ _ (-1) [.int .i64 (-1)] from rfl) (Reps.one (show Kd.M (Kd.int .i64) _ _ _ 0 [.int .i64 0] from rfl) (Reps.one (show Kd.M (Kd.int .i64) _ _ _ 1 [.int .i64 1] from rfl) (Reps.one (show Kd.M (Kd.int .i64) _ _ _ 1000 [.int .i64 1000] from rfl) (Reps.one (show Kd.M (Kd.int .i64) _ _ _ 1001 [.int .i64 1001] from rfl) (Reps.none _ _))))))); intro v7 c6 hr hb hg_ hnew_; clear hg_ hnew_; (first | rw [← HYys.out] at hr | (simp only [Int.reduceToNat] at hr; rw [← HYys.out] at hr)); have R7 := Aside0.mk (Kd.R_lower hr (below_size bB)); replace BC := bQ BC hb; replace HB := Aside0.mk (below_step bB hb); clear hr hb; obtain ⟨A7, b4, b5⟩ := Kd.R_slice R7.out; subst b5) | ((with_reducible refine gate_callee (f := 55) rfl ?_); refine goesL_ (some 19) rfl rfl Tryd.func55 kr rfl #[.pointer (some ⟨gC, 0, none⟩), .slice A7 ys.length b4] rfl sM ?_; (with_reducible refine (spec_l1Cur_among.calls gC l0 p2 q2 _ _ ys c p3 q3 w _ ?side1 ?side2 ?side3 ?side4 ?side5 H4.out).mono ?_); (case side1 => exact ⟨A1, c1, bK BC, GEC.out, a5.out⟩); (case side2 => exact bB); (case side3 => exact (Kd.R_reads' R7.out).2.2); (case side4 => exact (Kd.R_reads' R7.out).2.1); (case side5 => exact far_slice (IsS61.own_ne (show IsS61 w _ gC l0 p2 q2 from ⟨A1, c1, bK BC, GEC.out, a5.out⟩) R7.out (by decide))); rintro e b8 ⟨rfl, hi, hb, hk⟩; refine ⟨_, rfl, ?_⟩; clear BC a5 A1 c1; obtain ⟨A1, c1, a3, a6, a4⟩ := hi; have BC := Aside0.mk a3; have a5 := Aside0.mk a4; replace HB := Aside0.mk hb; clear a3 a6 a4 hb hk))
  refine bodyPost_ret (results_list (rs := [.tmp 2, .tmp 3, .tmp 4]) rfl (by simp) (.tmp (.tmp (.tmp .nil)))) rfl ?_
  exact ⟨rfl, bB⟩
 | false =>
  have h := HH.out
  try dsimp only at h
  rw [if_neg (by simp)] at h
  obtain ⟨⟨a, p1, q1⟩, h2, h⟩ := Option.bind_eq_some_iff.mp h
  obtain ⟨⟨b, p2, q2⟩, h3, h⟩ := Option.bind_eq_some_iff.mp h
  obtain ⟨⟨c, p3, q3⟩, h4, h⟩ := Option.bind_eq_some_iff.mp h
  simp only [Option.some.injEq, Prod.mk.injEq] at h
  obtain ⟨rfl, rfl, rfl⟩ := h
  have H2 := Aside0.mk h2
  have H3 := Aside0.mk h3
  have H4 := Aside0.mk h4
  clear h2 h3 h4 HH
  go_enter Tryd.func31, Tryd.ntmps31
  go_wp2_with (first | ((with_reducible refine gate_dst (N := 8) rfl ?_); refine box_ (cs := #[.slice A0 l0.length c0, .int .i64 0, .int .u64 0]) (t := 61) fun gC hg w_C hbox hb => ?_; have BC := Aside0.mk hbox; have GEC := bS HB hg; replace HB := Aside0.mk (below_step bB hb); clear hb hbox hg) | ((with_reducible refine gate_callee (f := 47) rfl ?_); refine goesL_ (some 10) rfl rfl Tryd.func47 kr rfl #[.pointer (some ⟨gC, 0, none⟩), .int .i64 8] rfl sM ?_; (with_reducible refine (spec_l1Cur_one.calls gC l0 0 0 8 false a7 a8 w _ ?side1 ?side2 H1.out).mono ?_); (case side1 => exact ⟨A0, c0, bK BC, GEC.out, HR.out⟩); (case side2 => exact bB); rintro e a9 ⟨rfl, hi, hb, hk⟩; refine ⟨_, rfl, ?_⟩; clear BC; obtain ⟨A1, c1, a3, a6, a4⟩ := hi; have BC := Aside0.mk a3; have a5 := Aside0.mk a4; replace HB := Aside0.mk hb; clear a3 a6 a4 hb hk) | ((with_reducible refine gate_callee (f := 48) rfl ?_); refine goesL_ (some 21) rfl rfl Tryd.func48 kr rfl #[.pointer (some ⟨gC, 0, none⟩), .int .i64 30] rfl sM ?_; (with_reducible refine (spec_l1Cur_pick.calls gC l0 a7 a8 30 a p1 q1 w _ ?side1 ?side2 H2.out).mono ?_); (case side1 => exact ⟨A1, c1, bK BC, GEC.out, a5.out⟩); (case side2 => exact bB); rintro e b9 ⟨rfl, hi, hb, hk⟩; refine ⟨_, rfl, ?_⟩; clear BC a5 A1 c1; obtain ⟨A1, c1, a3, a6, a4⟩ := hi; have BC := Aside0.mk a3; have a5 := Aside0.mk a4; replace HB := Aside0.mk hb; clear a3 a6 a4 hb hk) | ((with_reducible refine gate_callee (f := 48) rfl ?_); refine goesL_ (some 24) rfl rfl Tryd.func48 kr rfl #[.pointer (some ⟨gC, 0, none⟩), .int .i64 30] rfl sM ?_; (with_reducible refine (spec_l1Cur_pick.calls gC l0 p1 q1 30 b p2 q2 w _ ?side1 ?side2 H3.out).mono ?_); (case side1 => exact ⟨A1, c1, bK BC, GEC.out, a5.out⟩); (case side2 => exact bB); rintro e c2 ⟨rfl, hi, hb, hk⟩; refine ⟨_, rfl, ?_⟩; clear BC a5 A1 c1; obtain ⟨A1, c1, a3, a6, a4⟩ := hi; have BC := Aside0.mk a3; have a5 := Aside0.mk a4; replace HB := Aside0.mk hb; clear a3 a6 a4 hb hk) | ((with_reducible refine gate_callee (f := 48) rfl ?_); refine goesL_ (some 27) rfl rfl Tryd.func48 kr rfl #[.pointer (some ⟨gC, 0, none⟩), .int .i64 4] rfl sM ?_; (with_reducible refine (spec_l1Cur_pick.calls gC l0 p2 q2 4 c p3 q3 w _ ?side1 ?side2 H4.out).mono ?_); (case side1 => exact ⟨A1, c1, bK BC, GEC.out, a5.out⟩); (case side2 => exact bB); rintro e c3 ⟨rfl, hi, hb, hk⟩; refine ⟨_, rfl, ?_⟩; clear BC a5 A1 c1; obtain ⟨A1, c1, a3, a6, a4⟩ := hi; have BC := Aside0.mk a3; have a5 := Aside0.mk a4; replace HB := Aside0.mk hb; clear a3 a6 a4 hb hk))
  refine bodyPost_ret (results_list (rs := [.tmp 2, .tmp 3, .tmp 4]) rfl (by simp) (.tmp (.tmp (.tmp .nil)))) rfl ?_
  exact ⟨rfl, bB⟩
def spec_DrawHeightAt.f (l0 : List Int) : Option (Int × Int × Int × Bool × Int) :=
  (spec_l1Cur_ladders.f l0 0 0).bind fun t => (spec_l1Cur_one.f l0 t.2.2.2.1 t.2.2.2.2 2).bind fun o => (spec_l1Most.f 1 t.1).bind fun m => (spec_l1Least.f 60 m).bind fun n => (spec_l1Cur_pick.f l0 o.2.1 o.2.2 (wrap64 (n + 2))).bind fun a => (spec_l1Cur_pick.f l0 a.2.1 a.2.2 9).bind fun b => some (t.1, t.2.1, t.2.2.1, o.1, wrap64 (a.1 - wrap64 (b.1.tdiv 8)))
set_option maxHeartbeats 8000000 in
set_option maxRecDepth 100000 in
theorem spec_DrawHeightAt.calls (A0 : Option Addr) (c0 : Nat) (l0 : List Int) (r1 r2 r3 : Int) (r4 : Bool) (r5 : Int) (w : World) (hr0 : Kd.C (Kd.int .u8) w A0 l0.length l0) (hc0 : l0.length ≤ c0) (h : spec_DrawHeightAt.f l0 = some (r1, r2, r3, r4, r5)) :
    Calls Tryd.prog 26 #[.slice A0 l0.length c0] w fun e w' => e = .returned (.tuple #[.agg #[.int .i64 r1, .int .i64 r2, .int .i64 r3], .bool r4, .int .i64 r5]) ∧ Below w.heap.size w w' := by
 unfold spec_DrawHeightAt.f at h
 obtain ⟨⟨t1, t2, t3, a9, b0⟩, h1, h⟩ := Option.bind_eq_some_iff.mp h
 obtain ⟨⟨o1, b2, b3⟩, h2, h⟩ := Option.bind_eq_some_iff.mp h
 obtain ⟨m1, h3, h⟩ := Option.bind_eq_some_iff.mp h
 obtain ⟨n1, h4, h⟩ := Option.bind_eq_some_iff.mp h
 obtain ⟨⟨a1, b4, b5⟩, h5, h⟩ := Option.bind_eq_some_iff.mp h
 obtain ⟨⟨b1, b7, b8⟩, h6, h⟩ := Option.bind_eq_some_iff.mp h
 simp only [Option.some.injEq, Prod.mk.injEq] at h
 obtain ⟨rfl, rfl, rfl, rfl, rfl⟩ := h
 have H1 := Aside0.mk h1
 have H2 := Aside0.mk h2
 have H3 := Aside0.mk h3
 have H4 := Aside0.mk h4
 have H5 := Aside0.mk h5
 have H6 := Aside0.mk h6
 have HR := Aside0.mk hr0
 clear h1 h2 h3 h4 h5 h6 hr0
 have hu := Tryd.underlying25
 have HB := Aside0.mk (Below.refl w.heap.size w)
 go_enter Tryd.func26, Tryd.ntmps26
 go_wp2_with (first | ((with_reducible refine gate_dst (N := 2) rfl ?_); refine box_ (cs := #[.int .i64 0, .int .i64 0, .int .i64 0]) (t := 25) fun g2 hg c7 hbox hb => ?_; have B2 := Aside0.mk hbox; have c8 := bS HB hg; replace HB := Aside0.mk (below_step bB hb); clear hb hbox hg) | ((with_reducible refine gate_dst (N := 9) rfl ?_); refine box_ (cs := #[.slice A0 l0.length c0, .int .i64 0, .int .u64 0]) (t := 61) fun gC hg w_C hbox hb => ?_; have BC := Aside0.mk hbox; have GEC := bS HB hg; have a7 := bL B2 hg; have c3 := bM B2 hg; replace B2 := bQ B2 hb; replace HB := Aside0.mk (below_step bB hb); clear hb hbox hg) | ((with_reducible refine gate_callee (f := 46) rfl ?_); refine goesL_ (some 11) rfl rfl Tryd.func46 kr rfl #[.pointer (some ⟨gC, 0, none⟩)] rfl sM ?_; (with_reducible refine (spec_l1Cur_ladders.calls gC l0 0 0  t1 t2 t3 a9 b0 w _ ?side1 ?side2 H1.out).mono ?_); (case side1 => exact ⟨A0, c0, bK BC, GEC.out, HR.out⟩); (case side2 => exact bB); rintro e c2 ⟨rfl, hi, hb, hk⟩; refine ⟨_, rfl, ?_⟩; replace B2 := kQ B2 hk a7; clear BC; obtain ⟨A1, c1, a3, a6, a4⟩ := hi; have BC := Aside0.mk a3; have a5 := Aside0.mk a4; replace HB := Aside0.mk hb; clear a3 a6 a4 hb hk) | ((with_reducible refine gate_dst (N := 6) rfl ?_); refine box_ (cs := #[.int .i64 0, .int .i64 0, .int .i64 0]) (t := 25) fun g6 hg b9 hbox hb => ?_; have B6 := Aside0.mk hbox; have c9 := bS HB hg; have c4 := bL B2 hg; have c5 := bM B2 hg; have c6 := bL BC hg; have a8 := bM BC hg; replace B2 := bQ B2 hb; replace BC := bQ BC hb; replace HB := Aside0.mk (below_step bB hb); clear hb hbox hg; obtain ⟨z1, z2, z3, z4, z5, z6⟩ := cf3 B6))
 generalize hW_ : ((b9.setCell ⟨g6, 0, none⟩ (.int .i64 t1)).setCell ⟨g6, 1, none⟩ (.int .i64 t2)).setCell ⟨g6, 2, none⟩ (.int .i64 t3) = W8
 have b6 := bFp hW_ (.cells #[.int .i64 t1, .int .i64 t2, .int .i64 t3] 25 (0, 0)) B6
 replace B2 := bF hW_ B2
 replace BC := bF hW_ BC
 replace HB := bG HB hW_
 clear B6 hW_ z1 z2 z3 z4 z5 z6
 replace B6 := bD1 b6
 replace B2 := bD1 B2
 replace BC := bD1 BC
 replace HB := Aside0.mk (below_drew1 HB.out)
 clear b6
 refine st0_ 17 [qt 0 12, q 1 13, q 3 15, qt 4 16, qt 5 17, q 10 22, qo 2 14, qo 6 18, qo 7 19, q 8 20, qo 9 21, qo 11 23, q 12 24, q 13 25, qn 14 3, q 15 3, q 16 4] (S := fun w' => w'.cell? ⟨g6, 0, none⟩ = some (.int .i64 t1) ∧ w'.cell? ⟨g6, 1, none⟩ = some (.int .i64 t2) ∧ w'.cell? ⟨g6, 2, none⟩ = some (.int .i64 t3)) (ds := []) cS (fun hHeld HT_ HW_ => ?_)
 generalize W8.drew = W9 at B2 BC B6 HB hHeld ⊢
 iterate 6 (first | refine pA HT_ ?_ | refine pU HT_ hHeld ?_)
 refine pO HT_ fun K hK => ?_
 have HI := Aside0.mk (show IsS61 w W9 gC l0 a9 b0 from ⟨A1, c1, BC.out, GEC.out, a5.out⟩)
 refine goes_ Tryd.func47 kr rfl #[.pointer (some ⟨gC, 0, none⟩), .int .i64 2] (by rfl) rfl rfl sM ?_
 with_reducible refine (spec_l1Cur_one.calls gC l0 a9 b0 2 o1 b2 b3 w _ HI.out HB.out H2.out).mono ?_
 rintro e wX ⟨rfl, hi, hb, hk⟩
 refine ⟨_, rfl, ?_⟩
 replace B2 := kQ B2 hk a7
 replace B6 := kQ B6 hk a8
 replace HB := Aside0.mk hb
 clear HI BC a5 A1 c1
 obtain ⟨A1, c1, a3, a6, a4⟩ := hi
 have BC := Aside0.mk a3
 have a5 := Aside0.mk a4
 clear a3 a6 a4 hb hk
 refine hK.out _ _ cS (fun hHeld => ?_)
 clear hK K
 refine nP ?_
 refine pO HT_ fun K hK => ?_
 refine goes_ Tryd.func50 kr rfl #[.int .i64 1, .int .i64 t1] (by rfl) rfl rfl sM ?_
 with_reducible refine (spec_l1Most.calls 1 t1 m1 _ H3.out).mono ?_
 rintro e wY ⟨rfl, hdr⟩
 refine ⟨_, rfl, ?_⟩
 replace B2 := bQ B2 hdr.below
 replace B6 := bQ B6 hdr.below
 replace BC := bQ BC hdr.below
 replace HB := Aside0.mk (below_step bB hdr.below)
 clear hdr
 refine hK.out _ _ cS (fun hHeld => ?_)
 clear hK K
 refine nP ?_
 refine pO HT_ fun K hK => ?_
 refine goes_ Tryd.func49 kr rfl #[.int .i64 60, .int .i64 m1] (by rfl) rfl rfl sM ?_
 with_reducible refine (spec_l1Least.calls 60 m1 n1 _ H4.out).mono ?_
 rintro e wZ ⟨rfl, hdr⟩
 refine ⟨_, rfl, ?_⟩
 replace B2 := bQ B2 hdr.below
 replace B6 := bQ B6 hdr.below
 replace BC := bQ BC hdr.below
 replace HB := Aside0.mk (below_step bB hdr.below)
 clear hdr
 refine hK.out _ _ cS (fun hHeld => ?_)
 clear hK K
 refine nP ?_
 refine pA HT_ ?_
 refine pO HT_ fun K hK => ?_
 have HI := Aside0.mk (show IsS61 w wZ gC l0 b2 b3 from ⟨A1, c1, BC.out, GEC.out, a5.out⟩)
 refine goes_ Tryd.func48 kr rfl #[.pointer (some ⟨gC, 0, none⟩), .int .i64 (wrap64 (n1 + 2))] (by rfl) rfl rfl sM ?_
 with_reducible refine (spec_l1Cur_pick.calls gC l0 b2 b3 (wrap64 (n1 + 2)) a1 b4 b5 w _ HI.out HB.out H5.out).mono ?_
 rintro e xX ⟨rfl, hi, hb, hk⟩
 refine ⟨_, rfl, ?_⟩
 replace B2 := kQ B2 hk a7
 replace B6 := kQ B6 hk a8
 replace HB := Aside0.mk hb
 clear HI BC a5 A1 c1
 obtain ⟨A1, c1, a3, a6, a4⟩ := hi
 have BC := Aside0.mk a3
 have a5 := Aside0.mk a4
 clear a3 a6 a4 hb hk
 refine hK.out _ _ cS (fun hHeld => ?_)
 clear hK K
 refine nP ?_
 refine pO HT_ fun K hK => ?_
 have HI := Aside0.mk (show IsS61 w xX gC l0 b4 b5 from ⟨A1, c1, BC.out, GEC.out, a5.out⟩)
 refine goes_ Tryd.func48 kr rfl #[.pointer (some ⟨gC, 0, none⟩), .int .i64 9] (by rfl) rfl rfl sM ?_
 with_reducible refine (spec_l1Cur_pick.calls gC l0 b4 b5 9 b1 b7 b8 w _ HI.out HB.out H6.out).mono ?_
 rintro e wB ⟨rfl, hi, hb, hk⟩
 refine ⟨_, rfl, ?_⟩
 replace B2 := kQ B2 hk a7
 replace B6 := kQ B6 hk a8
 replace HB := Aside0.mk hb
 clear HI BC a5 A1 c1
 obtain ⟨A1, c1, a3, a6, a4⟩ := hi
 have BC := Aside0.mk a3
 have a5 := Aside0.mk a4
 clear a3 a6 a4 hb hk
 refine hK.out _ _ cS (fun hHeld => ?_)
 clear hK K
 refine nP ?_
 iterate 2 refine pA HT_ ?_
 clear BC a5
 refine pO HT_ fun K hK => ?_
 obtain ⟨z1, z2, z3, z4, z5, z6⟩ := cf3 B2
 refine skip_ (w1 := ?_) (by rfl) rfl ?_ ?_
 rotate_left
 ·(
  go_simp
  rfl
 )
 refine hK.out _ _ ⟨(blk_cell (bK B6) 0).trans rfl, (blk_cell (bK B6) 1).trans rfl, (blk_cell (bK B6) 2).trans rfl⟩ (fun hHeld => ?_)
 clear hK K z1 z2 z3 z4 z5 z6
 generalize hW_ : ((wB.setCell ⟨g2, 0, none⟩ (.int .i64 t1)).setCell ⟨g2, 1, none⟩ (.int .i64 t2)).setCell ⟨g2, 2, none⟩ (.int .i64 t3) = wC at hHeld ⊢
 replace B2 := bFp hW_ (.cells #[.int .i64 t1, .int .i64 t2, .int .i64 t3] 25 (0, 0)) B2
 replace HB := bG HB hW_
 clear hW_
 iterate 2 refine pA HT_ ?_
 refine pD HT_ ?_
 try go_wp2
 refine bodyPost_ret (results_list (rs := [.cell 2 25, .tmp 3, .tmp 4]) rfl (by simp) (.cell g2 25 _ (0, 0) _ rfl B2.out hu rfl kr (.tmp (.tmp .nil)))) rfl ?_
 exact ⟨rfl, HB.out⟩

/-! ### spec_DrawCrossHeight: function 5 -/
def spec_DrawCrossHeight.f (l0 : List Int) : Option (Int × Int × Int) := (spec_DrawAreLadders.f l0).bind fun bt172 => (some (bt172.1, bt172.2.1, bt172.2.2))
set_option maxHeartbeats 8000000 in
set_option maxRecDepth 100000 in
theorem spec_DrawCrossHeight.calls (A0 : Option Addr) (c0 : Nat) (l0 : List Int) (r1 : Int) (r2 : Int) (r3 : Int) (w : World) (hr0 : Kd.C (Kd.int .u8) w A0 l0.length l0) (hc0 : l0.length ≤ c0) (h : spec_DrawCrossHeight.f l0 = some (r1, r2, r3)) :
    Calls Tryd.prog 5 #[.slice A0 l0.length c0] w fun e w' => e = .returned (.agg #[.int .i64 r1, .int .i64 r2, .int .i64 r3]) ∧ Below w.heap.size w w' := by
 have b8 := Tryd.underlying25
 have a8 := Aside0.mk hr0
 have a9 := Aside0.mk hc0
 clear hr0 hc0
 have HB := Aside0.mk (Below.refl w.heap.size w)
 have H := h
 unfold spec_DrawCrossHeight.f at H
 clear h
 obtain ⟨⟨a4, a5, a6⟩, A2, H⟩ := bD H
 try dsimp only at H
 simp only [Option.some.injEq, Prod.mk.injEq] at H
 obtain ⟨rfl, rfl, rfl⟩ := H
 go_enter Tryd.func5, Tryd.ntmps5
 go_wp2_with (first | ((with_reducible refine gate_dst (N := 2) rfl ?_); refine box_ (cs := #[.int .i64 0, .int .i64 0, .int .i64 0]) (t := 25) fun a7 hg w3 hbox hb => ?_; have a3 := Aside0.mk (hbox); have b6 := bS HB hg; have b7 := bS HB hg; replace HB := Aside0.mk (below_step bB hb); clear hb hbox hg) | ((with_reducible refine gate_callee (f := 36) rfl ?_); refine goesL_ (some 4) rfl rfl Tryd.func36 kr rfl #[.slice A0 l0.length c0] rfl sM ?_; (with_reducible refine (spec_DrawAreLadders.calls _ _ l0 a4 a5 a6 _ ?side1 ?side2 A2.out).mono ?_); (case side1 => repeat (first | exact (Kd.C_below a8.out HB.out) | (with_reducible refine Kd.C_alloc ?_ _) | (with_reducible refine Kd.C_drewN ?_ _) | (with_reducible refine Kd.C_drew ?_))); (case side2 => exact a9.out); rintro e w4 ⟨rfl, hb⟩; refine ⟨_, rfl, ?_⟩; replace a3 := bQ a3 hb; replace HB := Aside0.mk (below_step bB hb); (try clear hb); obtain ⟨b0, b1, b2, b3, b4, b5⟩ := cf3 a3))
 refine bodyPost_ret (results_cell_row rfl _ _ a7 25 #[.int .i64 a4, .int .i64 a5, .int .i64 a6] (0, 0) _ rfl (bK a3) Tryd.underlying25 rfl kr) rfl ?_
 exact ⟨sE, bI⟩

/-! ### impl_within: function 51 -/
def impl_within.f (a0 : Int) (a1 : Int) (a2 : Int) : Option (Bool) := if a0 ≥ a1 then (some (decide (a0 ≤ a2))) else (some false)
set_option maxHeartbeats 8000000 in
set_option maxRecDepth 100000 in
theorem impl_within.calls (a0 : Int) (a1 : Int) (a2 : Int) (r : Bool) (w : World) (h : impl_within.f a0 a1 a2 = some r) :
    Calls Tryd.prog 51 #[.int .i64 a0, .int .i64 a1, .int .i64 a2] w fun e w' => e = .returned (.bool r) ∧ Drawn0 w w' := by
 have H := h
 unfold impl_within.f at H
 clear h
 by_cases c4 : a0 ≥ a1
 rw [if_pos c4] at H
 have a3 : decide (a1 ≤ a0) = true := decide_eq_true c4
 clear c4
 obtain rfl := Option.some.inj H
 rotate_left
 rw [if_neg c4] at H
 have a3 : decide (a1 ≤ a0) = false := decide_eq_false c4
 clear c4
 obtain rfl := Option.some.inj H
 rotate_left
 all_goals (go_enter Tryd.func51, Tryd.ntmps51)
 all_goals go_wp2
 all_goals go_ret
 all_goals (exact ⟨by first | rfl | (simp; done) | (simp [*]; done), by repeat (first | exact Drawn0.refl _ | apply Drawn0.step)⟩)

/-! ### impl_isWide: function 43 -/
def impl_isWide.f (a0 : Int) : Option (Bool) := (impl_within.f a0 1 1000).bind fun t175 => (some t175)
set_option maxHeartbeats 8000000 in
set_option maxRecDepth 100000 in
theorem impl_isWide.calls (a0 : Int) (r : Bool) (w : World) (h : impl_isWide.f a0 = some r) :
    Calls Tryd.prog 43 #[.int .i64 a0] w fun e w' => e = .returned (.bool r) ∧ Drawn0 w w' := by
 have H := h
 unfold impl_isWide.f at H
 clear h
 obtain ⟨a3, A2, H⟩ := bD H
 try dsimp only at H
 obtain rfl := Option.some.inj H
 go_enter Tryd.func43, Tryd.ntmps43
 go_wp2_with (first | ((with_reducible refine gate_callee (f := 51) rfl ?_); refine goesL_ (some 4) rfl rfl Tryd.func51 kr rfl #[.int .i64 a0, .int .i64 1, .int .i64 1000] rfl sM ?_; (with_reducible refine (impl_within.calls a0 1 1000 a3 _ A2.out).mono ?_); rintro e w' ⟨rfl, ⟨nd, rfl⟩⟩; refine ⟨_, rfl, ?_⟩))
 go_ret
 exact ⟨by first | rfl | (simp; done) | (simp [*]; done), by repeat (first | exact Drawn0.refl _ | apply Drawn0.step)⟩

end Go.Proofs.YtcfknhmdhglmfaaDoor.PFnLaddersCross
