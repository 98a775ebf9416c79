-- Written by xprint.py, a program of this session, for this seat; Lean checks it.
import Derived.Test.YtnmhefdjakjngaaGreatDoorVM
import Derived.Test.YtnmhefdjakjngaaGreatDoorPFnMirrorsFacex0
namespace Go.Proofs.YtnmhefdjakjngaaGreatDoor.PFnMirrorsFace
open Go.Proofs.YtnmhefdjakjngaaGreatDoorV Go.RowKit Go.Proofs.YtnmhefdjakjngaaGreatDoorW.PrintWords Go.Proofs.YtnmhefdjakjngaaGreatDoorW.PrintLast Go.Proofs.YtnmhefdjakjngaaGreatDoorW.PrintMore
attribute [local go_sem] max2_int min2_int max_two min_two max_three min_three max_four min_four   -- for this text's walks alone
set_option linter.unusedVariables false
set_option linter.unusedSimpArgs false

/-! ### laws_big: function 4 -/
def laws_big.f (l0 : List Int) (l1 : List Int) : Option (Bool) := if (l0.length : Int) > 1048576 then (some true) else (some (decide ((l1.length : Int) > (wrap64 (1048576 - (l0.length : Int))))))
set_option maxHeartbeats 8000000 in
set_option maxRecDepth 100000 in
theorem laws_big.calls (A0 : Option Addr) (c0 : Nat) (l0 : List Int) (A1 : Option Addr) (c1 : Nat) (l1 : List Int) (r : Bool) (w : World) (hr0 : Kd.C (Kd.int .u8) w A0 l0.length l0) (hc0 : l0.length ≤ c0) (hr1 : Kd.C (Kd.int .u8) w A1 l1.length l1) (hc1 : l1.length ≤ c1) (h : laws_big.f l0 l1 = some r) :
    Calls Tryz.prog 4 #[.slice A0 l0.length c0, .slice A1 l1.length c1] w fun e w' => e = .returned (.bool r) ∧ Drawn0 w w' := by
 have a5 := Aside0.mk hr0
 have a6 := Aside0.mk hc0
 clear hr0 hc0
 have a7 := Aside0.mk hr1
 have a8 := Aside0.mk hc1
 clear hr1 hc1
 have H := h
 unfold laws_big.f at H
 clear h
 by_cases c3 : (l0.length : Int) > 1048576
 rw [if_pos c3] at H
 have a3 : decide (1048576 < (l0.length : Int)) = true := decide_eq_true c3
 have a4 : decide (1048576 < l0.length) = true := decide_eq_true (by omega)
 clear c3
 obtain rfl := Option.some.inj H
 rotate_left
 rw [if_neg c3] at H
 have a3 : decide (1048576 < (l0.length : Int)) = false := decide_eq_false c3
 have a4 : decide (1048576 < l0.length) = false := decide_eq_false (by omega)
 clear c3
 obtain rfl := Option.some.inj H
 rotate_left
 all_goals (go_enter Tryz.func4, Tryz.ntmps4)
 all_goals go_wp2
 all_goals go_ret
 all_goals (exact ⟨by first | rfl | (simp; done) | (simp [*]; done), by repeat (first | exact Drawn0.refl _ | apply Drawn0.step)⟩)

/-- A state of type 51 at block g of W; what its slices lead to came in by w0. -/
def IsS51 (w0 W : World) (g : Nat) (f0 : List Int) (f1 : Int) (f2 : Int) : Prop := ∃ A0 c0, W.heap[g]? = some (.cells #[.slice A0 f0.length c0, .int .i64 f1, .int .u64 f2] 51 (0, 0)) ∧ w0.heap.size ≤ g ∧ Kd.C (Kd.int .u8) w0 A0 f0.length f0
theorem IsS51.grown {w0 W : World} {g : Nat} {f0 : List Int} {f1 : Int} {f2 : Int} {W1 : World} {row : Option Nat} (h : IsS51 w0 W g f0 f1 f2) (hw : W.grownBy W1 row) (hne : some g ≠ row) : IsS51 w0 W1 g f0 f1 f2 := by
  obtain ⟨A0, c0, hb, hg, hr0⟩ := h
  exact ⟨A0, c0, blk_grown hb hw hne, hg, hr0⟩
theorem IsS51.own_neN {w0 W : World} {g : Nat} {f0 : List Int} {f1 : Int} {f2 : Int} {α : Type} {d : Kd α} {e : Nat} {base : Nat} {ok : Nat → Prop} {v : Value} {xs : List α} (h : IsS51 w0 W g f0 f1 f2) (ho : Kd.N d e W base ok v xs) (ht : e ≠ 51) : some g ≠ v.ownBlock := by
  obtain ⟨A0, c0, hb, hg, hr0⟩ := h
  exact Kd.N_ne ho hb ht
theorem IsS51.fresh {w0 W : World} {g : Nat} {f0 : List Int} {f1 : Int} {f2 : Int} (h : IsS51 w0 W g f0 f1 f2) : ∀ k, W.heap.size ≤ k → k ≠ g := by
  obtain ⟨A0, c0, hb, hg, hr0⟩ := h
  exact Kd.freshB hb
theorem IsS51.kept {w0 W : World} {g : Nat} {f0 : List Int} {f1 : Int} {f2 : Int} {W1 : World} {S : Nat → Prop} (h : IsS51 w0 W g f0 f1 f2) (hk : Kept W W1 S) (hne : ¬ S g) : IsS51 w0 W1 g f0 f1 f2 := by
  obtain ⟨A0, c0, hb, hg, hr0⟩ := h
  exact ⟨A0, c0, blk_kept hb hk hne, hg, hr0⟩
theorem IsS51.below {w0 W : World} {g : Nat} {f0 : List Int} {f1 : Int} {f2 : Int} {W1 : World} (h : IsS51 w0 W g f0 f1 f2) (hw : Below W.heap.size W W1) : IsS51 w0 W1 g f0 f1 f2 := h.grown (grown_of_below hw none) (by simp)
theorem IsS51.alloc {w0 W : World} {g : Nat} {f0 : List Int} {f1 : Int} {f2 : Int} (h : IsS51 w0 W g f0 f1 f2) (o : Obj) : IsS51 w0 (W.alloc o) g f0 f1 f2 := h.below (below_alloc (Below.refl _ _) o)
theorem IsS51.drewN {w0 W : World} {g : Nat} {f0 : List Int} {f1 : Int} {f2 : Int} (h : IsS51 w0 W g f0 f1 f2) (m : Nat) : IsS51 w0 (W.drewN m) g f0 f1 f2 := h
theorem IsS51.drew {w0 W : World} {g : Nat} {f0 : List Int} {f1 : Int} {f2 : Int} (h : IsS51 w0 W g f0 f1 f2) : IsS51 w0 W.drew g f0 f1 f2 := h
theorem IsS51.at_ {w0 W : World} {g : Nat} {f0 : List Int} {f1 : Int} {f2 : Int} {w' : World} {m : Nat} (hq : W.drewN m = w') (h : IsS51 w0 W g f0 f1 f2) : IsS51 w0 w' g f0 f1 f2 := by subst hq; exact IsS51.drewN h m
theorem IsS51.apart {w0 W : World} {g : Nat} {f0 : List Int} {f1 : Int} {f2 : Int} {α : Type} {d : Kd α} {e : Nat} {base : Nat} {ok : Nat → Prop} {v : Value} {xs : List α} (h : IsS51 w0 W g f0 f1 f2) (ho : d.R e W base ok v xs) (ht : ∀ q, q ∈ e :: d.E → q ≠ 51) : d.R e W base (fun k => ok k ∧ k ≠ g) v xs := by
  obtain ⟨A0, c0, hb, hg, hr0⟩ := h
  exact Kd.R_types ho hb ht
theorem IsS51.own_ne {w0 W : World} {g : Nat} {f0 : List Int} {f1 : Int} {f2 : Int} {α : Type} {d : Kd α} {e : Nat} {base : Nat} {ok : Nat → Prop} {v : Value} {xs : List α} (h : IsS51 w0 W g f0 f1 f2) (ho : d.R e W base ok v xs) (ht : e ≠ 51) : some g ≠ v.ownBlock := by
  obtain ⟨A0, c0, hb, hg, hr0⟩ := h
  exact Kd.R_ne ho hb ht
theorem IsS51.apartQ {w0 W : World} {g : Nat} {f0 : List Int} {f1 : Int} {f2 : Int} {α : Type} {d : Kd α} {e : Nat} {base : Nat} {ok : Nat → Prop} {v : Value} {xs : List α} (h : IsS51 w0 W g f0 f1 f2) (ho : d.Q e W base ok v xs) (ht : ∀ q, q ∈ e :: d.E → q ≠ 51) : d.Q e W base (fun k => ok k ∧ k ≠ g) v xs := by
  obtain ⟨A0, c0, hb, hg, hr0⟩ := h
  exact Kd.Q_types ho hb ht
theorem IsS51.own_neQ {w0 W : World} {g : Nat} {f0 : List Int} {f1 : Int} {f2 : Int} {α : Type} {d : Kd α} {e : Nat} {base : Nat} {ok : Nat → Prop} {v : Value} {xs : List α} (h : IsS51 w0 W g f0 f1 f2) (ho : d.Q e W base ok v xs) (ht : e ≠ 51) : some g ≠ v.ownBlock := by
  obtain ⟨A0, c0, hb, hg, hr0⟩ := h
  exact Kd.Q_ne ho hb ht
theorem IsS51.apartS {w0 W : World} {g : Nat} {f0 : List Int} {f1 : Int} {f2 : Int} {α : Type} {d : Kd α} {e : Nat} {base : Nat} {ok : Nat → Prop} {v : Value} {xs : List α} (h : IsS51 w0 W g f0 f1 f2) (ho : d.S e W base ok v xs) (ht : ∀ q, q ∈ e :: d.E → q ≠ 51) : d.S e W base (fun k => ok k ∧ k ≠ g) v xs := by
  obtain ⟨A0, c0, hb, hg, hr0⟩ := h
  exact Kd.S_types ho hb ht
theorem IsS51.own_neS {w0 W : World} {g : Nat} {f0 : List Int} {f1 : Int} {f2 : Int} {α : Type} {d : Kd α} {e : Nat} {base : Nat} {ok : Nat → Prop} {v : Value} {xs : List α} (h : IsS51 w0 W g f0 f1 f2) (ho : d.S e W base ok v xs) (ht : e ≠ 51) : some g ≠ v.ownBlock := by
  obtain ⟨A0, c0, hb, hg, hr0⟩ := h
  exact Kd.S_ne ho hb ht
theorem IsS51.lt {w0 W : World} {g : Nat} {f0 : List Int} {f1 : Int} {f2 : Int} (h : IsS51 w0 W g f0 f1 f2) : g < W.heap.size := by
  obtain ⟨A0, c0, hb, hg, hr0⟩ := h
  exact blk_lt hb
theorem IsS51.ge {w0 W : World} {g : Nat} {f0 : List Int} {f1 : Int} {f2 : Int} (h : IsS51 w0 W g f0 f1 f2) : w0.heap.size ≤ g := by
  obtain ⟨A0, c0, hb, hg, hr0⟩ := h
  exact hg
theorem IsS51.ne_blk {w0 W : World} {g : Nat} {f0 : List Int} {f1 : Int} {f2 : Int} {a : Nat} {cs : Array Value} {t : TypeId} {fr : Nat × Nat} (h : IsS51 w0 W g f0 f1 f2) (hb2 : W.heap[a]? = some (.cells cs t fr)) (ht : t ≠ 51) : g ≠ a := by
  obtain ⟨A0, c0, hb, hg, hr0⟩ := h
  rintro rfl
  rw [hb] at hb2
  injection hb2 with hb2
  injection hb2 with _ ht2
  exact ht ht2.symm
theorem IsS51.far {w0 W : World} {g : Nat} {f0 : List Int} {f1 : Int} {f2 : Int} {p : Addr} (h : IsS51 w0 W g f0 f1 f2) (hne : g ≠ p.block) (u : Value) : IsS51 w0 (W.setCell p u) g f0 f1 f2 := by
  obtain ⟨A0, c0, hb, hg, hr0⟩ := h
  exact ⟨A0, c0, blk_far hb hne u, hg, hr0⟩
theorem cellS51_0 {W : World} {g : Nat} {A0 : Option Addr} {c0 : Nat} {f0 : List Int} {f1 : Int} {f2 : Int} (h : W.heap[g]? = some (.cells #[.slice A0 f0.length c0, .int .i64 f1, .int .u64 f2] 51 (0, 0))) : W.cell? ⟨g, 0, none⟩ = some (.slice A0 f0.length c0) := (blk_cell h 0).trans rfl
theorem cellS51_1 {W : World} {g : Nat} {A0 : Option Addr} {c0 : Nat} {f0 : List Int} {f1 : Int} {f2 : Int} (h : W.heap[g]? = some (.cells #[.slice A0 f0.length c0, .int .i64 f1, .int .u64 f2] 51 (0, 0))) : W.cell? ⟨g, 1, none⟩ = some (.int .i64 f1) := (blk_cell h 1).trans rfl
theorem IsS51.set_1 {w0 W : World} {g : Nat} {f0 : List Int} {f1 : Int} {f2 : Int} (h : IsS51 w0 W g f0 f1 f2) (x : Int) : IsS51 w0 (W.setCell ⟨g, 1, none⟩ (.int .i64 x)) g f0 x f2 := by
  obtain ⟨A0, c0, hb, hg, hr0⟩ := h
  exact ⟨A0, c0, by simpa using blk_set hb 1 (.int .i64 x), hg, hr0⟩
theorem cellS51_2 {W : World} {g : Nat} {A0 : Option Addr} {c0 : Nat} {f0 : List Int} {f1 : Int} {f2 : Int} (h : W.heap[g]? = some (.cells #[.slice A0 f0.length c0, .int .i64 f1, .int .u64 f2] 51 (0, 0))) : W.cell? ⟨g, 2, none⟩ = some (.int .u64 f2) := (blk_cell h 2).trans rfl
theorem IsS51.set_2 {w0 W : World} {g : Nat} {f0 : List Int} {f1 : Int} {f2 : Int} (h : IsS51 w0 W g f0 f1 f2) (x : Int) : IsS51 w0 (W.setCell ⟨g, 2, none⟩ (.int .u64 x)) g f0 f1 x := by
  obtain ⟨A0, c0, hb, hg, hr0⟩ := h
  exact ⟨A0, c0, by simpa using blk_set hb 2 (.int .u64 x), hg, hr0⟩
theorem IsS51.new (w0 W : World) (A0 : Option Addr) (c0 : Nat) (f0 : List Int) (f1 : Int) (f2 : Int) (hB : Below w0.heap.size w0 W) (hr0 : Kd.C (Kd.int .u8) w0 A0 f0.length f0) : IsS51 w0 (W.alloc (.cells #[.slice A0 f0.length c0, .int .i64 f1, .int .u64 f2] 51)) W.heap.size f0 f1 f2 := ⟨A0, c0, by simpa using heap_alloc_new W _, hB.size, hr0⟩

/-! ### spec_l1Cur_next: function 75 -/
def spec_l1Cur_next.f (s0_0 : List Int) (s0_1 : Int) (s0_2 : Int) : Option (Int × Int × Int) := if s0_1 < (s0_0.length : Int) then (if 0 ≤ s0_1 then (if (wrap64 (s0_1 + 1)) ≤ (s0_0.length : Int) then (some (wrap64 (rd s0_0 s0_1), wrap64 (s0_1 + 1), IntKind.u64.wrap ((IntKind.u64.wrap ((IntKind.u64.wrap (s0_2 * 6364136223846793005)) + (IntKind.u64.wrap (wrap64 (rd s0_0 s0_1))))) + 1442695040888963407))) else (some (wrap64 (Go.bits .and .u64 ((IntKind.u64.wrap ((IntKind.u64.wrap ((IntKind.u64.wrap (s0_2 * 6364136223846793005)) + (IntKind.u64.wrap (wrap64 (rd s0_0 s0_1))))) + 1442695040888963407)) / 1099511627776) 255), wrap64 (s0_1 + 1), IntKind.u64.wrap ((IntKind.u64.wrap ((IntKind.u64.wrap (s0_2 * 6364136223846793005)) + (IntKind.u64.wrap (wrap64 (rd s0_0 s0_1))))) + 1442695040888963407)))) else (none)) else (if (wrap64 (s0_1 + 1)) ≤ (s0_0.length : Int) then (some (0, wrap64 (s0_1 + 1), IntKind.u64.wrap ((IntKind.u64.wrap ((IntKind.u64.wrap (s0_2 * 6364136223846793005)) + 0)) + 1442695040888963407))) else (some (wrap64 (Go.bits .and .u64 ((IntKind.u64.wrap ((IntKind.u64.wrap ((IntKind.u64.wrap (s0_2 * 6364136223846793005)) + 0)) + 1442695040888963407)) / 1099511627776) 255), wrap64 (s0_1 + 1), IntKind.u64.wrap ((IntKind.u64.wrap ((IntKind.u64.wrap (s0_2 * 6364136223846793005)) + 0)) + 1442695040888963407))))
set_option maxHeartbeats 8000000 in
set_option maxRecDepth 100000 in
theorem spec_l1Cur_next.calls (g : Nat) (s0_0 : List Int) (s0_1 : Int) (s0_2 : Int) (r1 : Int) (r2 : Int) (r3 : Int) (w0 w : World) (hI : IsS51 w0 w g s0_0 s0_1 s0_2) (hB : Below w0.heap.size w0 w) (h : spec_l1Cur_next.f s0_0 s0_1 s0_2 = some (r1, r2, r3)) :
    Calls Tryz.prog 75 #[.pointer (some ⟨g, 0, none⟩)] w fun e w' => e = .returned (.int .i64 r1) ∧ IsS51 w0 w' g s0_0 r2 r3 ∧ Below w0.heap.size w0 w' ∧ KeepBut w w' g none := by
 have HI0 := Aside0.mk hI
 have HK := Aside0.mk (KeepBut.refl w g none)
 have HL := Aside0.mk hB.size
 clear hI
 have g3 := Aside0.mk hB.size
 have HB := Aside0.mk hB
 clear hB
 have H := h
 unfold spec_l1Cur_next.f at H
 clear h
 by_cases c2 : s0_1 < (s0_0.length : Int)
 rw [if_pos c2] at H
 have b6 : decide (s0_1 < (s0_0.length : Int)) = true := decide_eq_true c2
 clear c2
 by_cases c3 : 0 ≤ s0_1
 rw [if_pos c3] at H
 have g2 : decide (0 ≤ s0_1) = true := decide_eq_true c3
 clear c3
 by_cases c4 : (wrap64 (s0_1 + 1)) ≤ (s0_0.length : Int)
 rw [if_pos c4] at H
 have b7 : decide ((wrap64 (s0_1 + 1)) ≤ (s0_0.length : Int)) = true := decide_eq_true c4
 clear c4
 simp only [Option.some.injEq, Prod.mk.injEq] at H
 obtain ⟨rfl, rfl, rfl⟩ := H
 obtain ⟨c8, c9, a6, b8, HSz5_0⟩ := HI0.out
 have b1 := cellS51_0 a6
 have d0 := cellS51_1 a6
 have d1 := cellS51_2 a6
 have d2 := blk_frozen a6 1
 have d3 := blk_frozen a6 2
 clear a6 b8
 have a4 : 0 ≤ (s0_1 : Int) := of_decide_eq_true asm
 have a5 : s0_1 < (s0_0.length : Int) := of_decide_eq_true asm
 obtain ⟨b5, b0, a3⟩ := Kd.at_int HSz5_0 s0_1 a4 a5
 cases b0
 replace a3 := pw_cell_below HB.out a3
 replace a4 := eq_true a4
 replace a5 := eq_true a5
 rotate_left
 rw [if_neg c4] at H
 have b7 : decide ((wrap64 (s0_1 + 1)) ≤ (s0_0.length : Int)) = false := decide_eq_false c4
 clear c4
 simp only [Option.some.injEq, Prod.mk.injEq] at H
 obtain ⟨rfl, rfl, rfl⟩ := H
 obtain ⟨d4, d5, a7, b9, HSz6_0⟩ := HI0.out
 have b2 := cellS51_0 a7
 (try (have es_ := Option.some.inj (b1.symm.trans b2); injection es_ with ea_ en_ ec_; subst ea_; subst ec_; clear en_))
 have d6 := cellS51_1 a7
 have d7 := cellS51_2 a7
 have d8 := blk_frozen a7 1
 have d9 := blk_frozen a7 2
 clear a7 b9
 have a4 : 0 ≤ (s0_1 : Int) := of_decide_eq_true asm
 have a5 : s0_1 < (s0_0.length : Int) := of_decide_eq_true asm
 obtain ⟨b5, b0, a3⟩ := Kd.at_int HSz6_0 s0_1 a4 a5
 cases b0
 replace a3 := pw_cell_below HB.out a3
 replace a4 := eq_true a4
 replace a5 := eq_true a5
 rotate_left
 rw [if_neg c3] at H
 exact absurd H (by simp)
 rw [if_neg c2] at H
 have b6 : decide (s0_1 < (s0_0.length : Int)) = false := decide_eq_false c2
 clear c2
 by_cases c7 : (wrap64 (s0_1 + 1)) ≤ (s0_0.length : Int)
 rw [if_pos c7] at H
 have c1 : decide ((wrap64 (s0_1 + 1)) ≤ (s0_0.length : Int)) = true := decide_eq_true c7
 clear c7
 simp only [Option.some.injEq, Prod.mk.injEq] at H
 obtain ⟨rfl, rfl, rfl⟩ := H
 obtain ⟨e0, e1, a8, c5, HSz8_0⟩ := HI0.out
 have b3 := cellS51_0 a8
 have e2 := cellS51_1 a8
 have e3 := cellS51_2 a8
 have e4 := blk_frozen a8 1
 have e5 := blk_frozen a8 2
 clear a8 c5
 rotate_left
 rw [if_neg c7] at H
 have c1 : decide ((wrap64 (s0_1 + 1)) ≤ (s0_0.length : Int)) = false := decide_eq_false c7
 clear c7
 simp only [Option.some.injEq, Prod.mk.injEq] at H
 obtain ⟨rfl, rfl, rfl⟩ := H
 obtain ⟨e6, e7, a9, c6, HSz9_0⟩ := HI0.out
 have b4 := cellS51_0 a9
 (try (have es_ := Option.some.inj (b3.symm.trans b4); injection es_ with ea_ en_ ec_; subst ea_; subst ec_; clear en_))
 have e8 := cellS51_1 a9
 have e9 := cellS51_2 a9
 have g0 := blk_frozen a9 1
 have g1 := blk_frozen a9 2
 clear a9 c6
 rotate_left
 all_goals (go_enter Tryz.func75, Tryz.ntmps75)
 all_goals go_wp2
 all_goals (repeat (go_quiet (fail); try go_wp2))
 all_goals go_ret
 all_goals ((try simp only [Int.add_zero]); exact ⟨sE, kI, bI, kK⟩)

/-! ### spec_l1Cur_pick: function 52 -/
def spec_l1Cur_pick.f (s0_0 : List Int) (s0_1 : Int) (s0_2 : Int) (a1 : Int) : Option (Int × Int × Int) := if a1 ≤ 1 then (some (0, s0_1, s0_2)) else ((spec_l1Cur_next.f s0_0 s0_1 s0_2).bind fun bt102 => (if a1 > 200 then ((spec_l1Cur_next.f s0_0 bt102.2.1 bt102.2.2).bind fun bt105 => (if a1 = 0 then (none) else (some (Int.tmod (wrap64 ((wrap64 (bt102.1 * 256)) + bt105.1)) a1, bt105.2.1, bt105.2.2)))) else (if a1 = 0 then (none) else (some (Int.tmod bt102.1 a1, bt102.2.1, bt102.2.2)))))
set_option maxHeartbeats 8000000 in
set_option maxRecDepth 100000 in
theorem spec_l1Cur_pick.calls (g : Nat) (s0_0 : List Int) (s0_1 : Int) (s0_2 : Int) (a1 : Int) (r1 : Int) (r2 : Int) (r3 : Int) (w0 w : World) (hI : IsS51 w0 w g s0_0 s0_1 s0_2) (hB : Below w0.heap.size w0 w) (h : spec_l1Cur_pick.f s0_0 s0_1 s0_2 a1 = some (r1, r2, r3)) :
    Calls Tryz.prog 52 #[.pointer (some ⟨g, 0, none⟩), .int .i64 a1] w fun e w' => e = .returned (.int .i64 r1) ∧ IsS51 w0 w' g s0_0 r2 r3 ∧ Below w0.heap.size w0 w' ∧ KeepBut w w' g none := by
 have HI0 := Aside0.mk hI
 have HK := Aside0.mk (KeepBut.refl w g none)
 have HL := Aside0.mk hB.size
 clear hI
 have b6 := Aside0.mk hB.size
 have HB := Aside0.mk hB
 clear hB
 have H := h
 unfold spec_l1Cur_pick.f at H
 clear h
 by_cases c3 : a1 ≤ 1
 ·(
 rw [if_pos c3] at H
 have a6 : decide (a1 ≤ 1) = true := decide_eq_true c3
 clear c3
 simp only [Option.some.injEq, Prod.mk.injEq] at H
 obtain ⟨rfl, rfl, rfl⟩ := H
 go_enter Tryz.func52, Tryz.ntmps52
 go_wp2
 go_ret
 exact ⟨sE, kI, bI, kK⟩
 )
 ·(
 rw [if_neg c3] at H
 have a6 : decide (a1 ≤ 1) = false := decide_eq_false c3
 clear c3
 obtain ⟨⟨a7, a3, a4⟩, A4, H⟩ := bD H
 try dsimp only at H
 by_cases c5 : a1 > 200
 rw [if_pos c5] at H
 have a8 : decide (200 < a1) = true := decide_eq_true c5
 clear c5
 obtain ⟨⟨a9, b0, b1⟩, A6, H⟩ := bD H
 try dsimp only at H
 by_cases c7 : a1 = 0
 rw [if_pos c7] at H
 exact absurd H (by simp)
 rw [if_neg c7] at H
 obtain ⟨b4, b5⟩ := nE c7
 simp only [Option.some.injEq, Prod.mk.injEq] at H
 obtain ⟨rfl, rfl, rfl⟩ := H
 rotate_left
 rw [if_neg c5] at H
 have a8 : decide (200 < a1) = false := decide_eq_false c5
 clear c5
 by_cases a5 : a1 = 0
 rw [if_pos a5] at H
 exact absurd H (by simp)
 rw [if_neg a5] at H
 obtain ⟨b2, b3⟩ := nE a5
 simp only [Option.some.injEq, Prod.mk.injEq] at H
 obtain ⟨rfl, rfl, rfl⟩ := H
 rotate_left
 all_goals (go_enter Tryz.func52, Tryz.ntmps52)
 all_goals (go_wp2_with (first | ((with_reducible refine gate_callee (f := 75) rfl ?_); refine goesL_ (some 9) rfl rfl Tryz.func75 kr rfl #[.pointer (some ⟨g, 0, none⟩)] rfl sM ?_; (with_reducible refine (spec_l1Cur_next.calls g s0_0 s0_1 s0_2 a7 a3 a4 w0 _ ?side1 ?side2 A4.out).mono ?_); (case side1 => exact kI); (case side2 => exact bI); rintro e b7 ⟨rfl, hi, hb, hk⟩; refine ⟨_, rfl, ?_⟩; replace HK := Aside0.mk (KeepBut.trans (w := w) kK hk (.inl rfl)); replace HB := Aside0.mk (hb); replace HI0 := Aside0.mk (hi); (try clear hb); (try clear hk); (try clear hi)) | ((with_reducible refine gate_callee (f := 75) rfl ?_); refine goesL_ (some 15) rfl rfl Tryz.func75 kr rfl #[.pointer (some ⟨g, 0, none⟩)] rfl sM ?_; (with_reducible refine (spec_l1Cur_next.calls g s0_0 a3 a4 a9 b0 b1 w0 _ ?side1 ?side2 A6.out).mono ?_); (case side1 => exact kI); (case side2 => exact bI); rintro e b8 ⟨rfl, hi, hb, hk⟩; refine ⟨_, rfl, ?_⟩; replace HK := Aside0.mk (KeepBut.trans (w := w) kK hk (.inl rfl)); replace HB := Aside0.mk (hb); replace HI0 := Aside0.mk (hi); (try clear hb); (try clear hk); (try clear hi))))
 all_goals go_ret
 all_goals ((try simp only [Int.add_zero]); exact ⟨sE, kI, bI, kK⟩)
 )

/-! ### spec_l1Cur_among: function 37 -/
def spec_l1Cur_among.f (s0_0 : List Int) (s0_1 : Int) (s0_2 : Int) (l1 : List Int) : Option (Int × Int × Int) := (spec_l1Cur_pick.f s0_0 s0_1 s0_2 (l1.length : Int)).bind fun bt108 => (if 0 ≤ bt108.1 then (if bt108.1 < (l1.length : Int) then (some (rd l1 bt108.1, bt108.2.1, bt108.2.2)) else (none)) else (none))
set_option maxHeartbeats 8000000 in
set_option maxRecDepth 100000 in
theorem spec_l1Cur_among.calls (g : Nat) (s0_0 : List Int) (s0_1 : Int) (s0_2 : Int) (A1 : Option Addr) (c1 : Nat) (l1 : List Int) (r1 : Int) (r2 : Int) (r3 : Int) (w0 w : World) (hI : IsS51 w0 w g s0_0 s0_1 s0_2) (hB : Below w0.heap.size w0 w) (hr1 : Kd.C (Kd.int .i64) w A1 l1.length l1) (hc1 : l1.length ≤ c1) (hf1 : ∀ ad, A1 = some ad → 0 < l1.length → ad.block ≠ g) (h : spec_l1Cur_among.f s0_0 s0_1 s0_2 l1 = some (r1, r2, r3)) :
    Calls Tryz.prog 37 #[.pointer (some ⟨g, 0, none⟩), .slice A1 l1.length c1] w fun e w' => e = .returned (.int .i64 r1) ∧ IsS51 w0 w' g s0_0 r2 r3 ∧ Below w0.heap.size w0 w' ∧ KeepBut w w' g none := by
 have b1 := Aside0.mk hr1
 have b4 := Aside0.mk hc1
 clear hr1 hc1
 have HI0 := Aside0.mk hI
 have HK := Aside0.mk (KeepBut.refl w g none)
 have HL := Aside0.mk hB.size
 clear hI
 have b5 := Aside0.mk hB.size
 have HB := Aside0.mk hB
 clear hB
 have H := h
 unfold spec_l1Cur_among.f at H
 clear h
 obtain ⟨⟨a3, a8, a9⟩, A3, H⟩ := bD H
 try dsimp only at H
 by_cases c4 : 0 ≤ a3
 ·(
 rw [if_pos c4] at H
 have b2 : decide (0 ≤ a3) = true := decide_eq_true c4
 clear c4
 by_cases c5 : a3 < (l1.length : Int)
 ·(
 rw [if_pos c5] at H
 have b3 : decide (a3 < (l1.length : Int)) = true := decide_eq_true c5
 clear c5
 simp only [Option.some.injEq, Prod.mk.injEq] at H
 obtain ⟨rfl, rfl, rfl⟩ := H
 go_enter Tryz.func37, Tryz.ntmps37
 go_wp2_with (first | ((with_reducible refine gate_callee (f := 52) rfl ?_); refine goesL_ (some 9) rfl rfl Tryz.func52 kr rfl #[.pointer (some ⟨g, 0, none⟩), .int .i64 (l1.length : Int)] rfl sM ?_; (with_reducible refine (spec_l1Cur_pick.calls g s0_0 s0_1 s0_2 (l1.length : Int) a3 a8 a9 w0 _ ?side1 ?side2 A3.out).mono ?_); (case side1 => exact kI); (case side2 => exact bI); rintro e w6 ⟨rfl, hi, hb, hk⟩; refine ⟨_, rfl, ?_⟩; replace HK := Aside0.mk (KeepBut.trans (w := w) kK hk (.inl rfl)); replace HB := Aside0.mk (hb); replace HI0 := Aside0.mk (hi); (try clear hb); (try clear hk); (try clear hi); have a5 : 0 ≤ (a3 : Int) := of_decide_eq_true asm; have a6 : a3 < (l1.length : Int) := of_decide_eq_true asm; obtain ⟨a7, b0, a4⟩ := Kd.at_int b1.out a3 a5 a6; cases b0; replace a4 := keep_cell HK.out a4 (by first | (rw [add_block]; exact hf1 _ rfl (by omega)) | exact hf1 _ rfl (by omega) | exact hf1 a7 rfl (by omega)); replace a5 := eq_true a5; replace a6 := eq_true a6))
 go_ret
 exact ⟨sE, kI, bI, kK⟩
 )
 ·(
 rw [if_neg c5] at H
 exact absurd H (by simp)
 )
 )
 ·(
 rw [if_neg c4] at H
 exact absurd H (by simp)
 )

/-! ### spec_l1Cur_one: function 50 -/
def spec_l1Cur_one.f (s0_0 : List Int) (s0_1 : Int) (s0_2 : Int) (a1 : Int) : Option (Bool × Int × Int) := (spec_l1Cur_pick.f s0_0 s0_1 s0_2 a1).bind fun bt112 => (some ((bt112.1 == 0), bt112.2.1, bt112.2.2))
set_option maxHeartbeats 8000000 in
set_option maxRecDepth 100000 in
theorem spec_l1Cur_one.calls (g : Nat) (s0_0 : List Int) (s0_1 : Int) (s0_2 : Int) (a1 : Int) (r1 : Bool) (r2 : Int) (r3 : Int) (w0 w : World) (hI : IsS51 w0 w g s0_0 s0_1 s0_2) (hB : Below w0.heap.size w0 w) (h : spec_l1Cur_one.f s0_0 s0_1 s0_2 a1 = some (r1, r2, r3)) :
    Calls Tryz.prog 50 #[.pointer (some ⟨g, 0, none⟩), .int .i64 a1] w fun e w' => e = .returned (.bool r1) ∧ IsS51 w0 w' g s0_0 r2 r3 ∧ Below w0.heap.size w0 w' ∧ KeepBut w w' g none := by
 have HI0 := Aside0.mk hI
 have HK := Aside0.mk (KeepBut.refl w g none)
 have HL := Aside0.mk hB.size
 clear hI
 have a6 := Aside0.mk hB.size
 have HB := Aside0.mk hB
 clear hB
 have H := h
 unfold spec_l1Cur_one.f at H
 clear h
 obtain ⟨⟨a3, a4, a5⟩, A3, H⟩ := bD H
 try dsimp only at H
 simp only [Option.some.injEq, Prod.mk.injEq] at H
 obtain ⟨rfl, rfl, rfl⟩ := H
 go_enter Tryz.func50, Tryz.ntmps50
 go_wp2_with (first | ((with_reducible refine gate_callee (f := 52) rfl ?_); refine goesL_ (some 7) rfl rfl Tryz.func52 kr rfl #[.pointer (some ⟨g, 0, none⟩), .int .i64 a1] rfl sM ?_; (with_reducible refine (spec_l1Cur_pick.calls g s0_0 s0_1 s0_2 a1 a3 a4 a5 w0 _ ?side1 ?side2 A3.out).mono ?_); (case side1 => exact kI); (case side2 => exact bI); rintro e w4 ⟨rfl, hi, hb, hk⟩; refine ⟨_, rfl, ?_⟩; replace HK := Aside0.mk (KeepBut.trans (w := w) kK hk (.inl rfl)); replace HB := Aside0.mk (hb); replace HI0 := Aside0.mk (hi); (try clear hb); (try clear hk); (try clear hi)))
 go_ret
 exact ⟨sE, kI, bI, kK⟩

/-! ### spec_l1Cur_corridor: function 36 -/
def spec_l1Cur_corridor.f (s0_0 : List Int) (s0_1 : Int) (s0_2 : Int) : Option (Int × Int × Int × Int) := (spec_l1Cur_one.f s0_0 s0_1 s0_2 12).bind fun bt115 => (if bt115.1 = true then ((spec_l1Cur_among.f s0_0 bt115.2.1 bt115.2.2 (([0, (-1), 1, 500, 501, 4611686018427387904] : List Int))).bind fun bt121 => ((spec_l1Cur_among.f s0_0 bt121.2.1 bt121.2.2 (([0, 1, (-1)] : List Int))).bind fun bt127 => (some (bt121.1, bt127.1, bt127.2.1, bt127.2.2)))) else ((spec_l1Cur_pick.f s0_0 bt115.2.1 bt115.2.2 9).bind fun bt130 => ((spec_l1Cur_pick.f s0_0 bt130.2.1 bt130.2.2 (wrap64 ((wrap64 (1 + bt130.1)) + 2))).bind fun bt133 => ((spec_l1Cur_pick.f s0_0 bt133.2.1 bt133.2.2 9).bind fun bt136 => (some (wrap64 (1 + bt130.1), wrap64 (bt133.1 - (wrap64 (Int.tdiv bt136.1 8))), bt136.2.1, bt136.2.2))))))
set_option maxHeartbeats 8000000 in
set_option maxRecDepth 100000 in
theorem spec_l1Cur_corridor.calls (g : Nat) (s0_0 : List Int) (s0_1 : Int) (s0_2 : Int) (r1 : Int) (r2 : Int) (r3 : Int) (r4 : Int) (w0 w : World) (hI : IsS51 w0 w g s0_0 s0_1 s0_2) (hB : Below w0.heap.size w0 w) (h : spec_l1Cur_corridor.f s0_0 s0_1 s0_2 = some (r1, r2, r3, r4)) :
    Calls Tryz.prog 36 #[.pointer (some ⟨g, 0, none⟩)] w fun e w' => e = .returned (.tuple #[.int .i64 r1, .int .i64 r2]) ∧ IsS51 w0 w' g s0_0 r3 r4 ∧ Below w0.heap.size w0 w' ∧ KeepBut w w' g none := by
 have HI0 := Aside0.mk hI
 have HK := Aside0.mk (KeepBut.refl w g none)
 have HL := Aside0.mk hB.size
 clear hI
 have e7 := Aside0.mk hB.size
 have HB := Aside0.mk hB
 clear hB
 have H := h
 unfold spec_l1Cur_corridor.f at H
 clear h
 obtain ⟨⟨c8, a8, a9⟩, A2, H⟩ := bD H
 try dsimp only at H
 by_cases c3 : c8 = true
 ·(
 subst c3
 rw [if_pos rfl] at H
 obtain ⟨b6, a6⟩ : ∃ y_ : List Int, y_ = (([0, (-1), 1, 500, 501, 4611686018427387904] : List Int)) := ⟨_, rfl⟩
 replace H : ((spec_l1Cur_among.f s0_0 a8 a9 b6).bind fun b4 => ((spec_l1Cur_among.f s0_0 b4.2.1 b4.2.2 (([0, 1, (-1)] : List Int))).bind fun a4 => (some (b4.1, a4.1, a4.2.1, a4.2.2)))) = some (r1, r2, r3, r4) := by first | (rw [a6]; with_reducible exact H) | (have b1 := (Option.bind_some _ _).symm.trans H; rw [a6]; with_reducible exact b1) | (have b1 := (Option.bind_some _ _).symm.trans H; with_reducible exact b1) | with_reducible exact H | (rw [a6]; exact H) | exact H
 have b9 := Aside0.mk a6
 clear a6
 obtain ⟨⟨c2, b2, b3⟩, A4, H⟩ := bD H
 try dsimp only at H
 obtain ⟨b7, a7⟩ : ∃ y_ : List Int, y_ = (([0, 1, (-1)] : List Int)) := ⟨_, rfl⟩
 replace H : ((spec_l1Cur_among.f s0_0 b2 b3 b7).bind fun a4 => (some (c2, a4.1, a4.2.1, a4.2.2))) = some (r1, r2, r3, r4) := by first | (rw [a7]; with_reducible exact H) | (have b1 := (Option.bind_some _ _).symm.trans H; rw [a7]; with_reducible exact b1) | (have b1 := (Option.bind_some _ _).symm.trans H; with_reducible exact b1) | with_reducible exact H | (rw [a7]; exact H) | exact H
 have c1 := Aside0.mk a7
 clear a7
 obtain ⟨⟨c9, d0, d1⟩, A5, H⟩ := bD H
 try dsimp only at H
 simp only [Option.some.injEq, Prod.mk.injEq] at H
 obtain ⟨rfl, rfl, rfl, rfl⟩ := H
 go_enter Tryz.func36, Tryz.ntmps36
 go_wp2_with (first | ((with_reducible refine gate_callee (f := 50) rfl ?_); refine goesL_ (some 6) rfl rfl Tryz.func50 kr rfl #[.pointer (some ⟨g, 0, none⟩), .int .i64 12] rfl sM ?_; (with_reducible refine (spec_l1Cur_one.calls g s0_0 s0_1 s0_2 12 true a8 a9 w0 _ ?side1 ?side2 A2.out).mono ?_); (case side1 => exact kI); (case side2 => exact bI); rintro e w6 ⟨rfl, hi, hb, hk⟩; refine ⟨_, rfl, ?_⟩; replace HK := Aside0.mk (KeepBut.trans (w := w) kK hk (.inl rfl)); replace HB := Aside0.mk (hb); replace HI0 := Aside0.mk (hi); (try clear hb); (try clear hk); (try clear hi)) | ((with_reducible refine gate_dst (N := 8) rfl ?_); refine Kd.R_lit (Kd.int .i64) _ 3 ?hg (N := 8) ?hd (xs := ([0, (-1), 1, 500, 501, 4611686018427387904] : List Int)) (inner := [.int .i64 0, .int .i64 (-1), .int .i64 1, .int .i64 500, .int .i64 501, .int .i64 4611686018427387904]) (ok := fun _ => True) (okp := fun _ => True) ?hr ?hp (fun _ hk => hk) trivial (Below.refl _ _) (Nat.le_refl _) (by simp) ?_; (case hd => rfl); (case hg => rfl); (case hr => first | (go_simp; done) | (go_simp; rfl)); (case hp => exact (Reps.one (show Kd.M (Kd.int .i64) _ _ _ 0 [.int .i64 0] from rfl) (Reps.one (show Kd.M (Kd.int .i64) _ _ _ (-1) [.int .i64 (-1)] from rfl) (Reps.one (show Kd.M (Kd.int .i64) _ _ _ 1 [.int .i64 1] from rfl) (Reps.one (show Kd.M (Kd.int .i64) _ _ _ 500 [.int .i64 500] from rfl) (Reps.one (show Kd.M (Kd.int .i64) _ _ _ 501 [.int .i64 501] from rfl) (Reps.one (show Kd.M (Kd.int .i64) _ _ _ 4611686018427387904 [.int .i64 4611686018427387904] from rfl) (Reps.none _ _)))))))); intro e5 w7 b5 hb hg_ hnew_; clear hg_ hnew_; (first | rw [← b9.out] at b5 | (simp only [Int.reduceToNat] at b5; rw [← b9.out] at b5)); have a3 := Aside0.mk (Kd.R_lower b5 (keep_size (w := w) (g := g) (row := none) kK)); replace HI0 := Aside0.mk (IsS51.below kI hb); replace HK := Aside0.mk (KeepBut.trans (w := w) kK (KeepBut.of_below hb g none) (.inl rfl)); replace HB := Aside0.mk (below_step bI hb); clear hb b5; obtain ⟨d9, e0, e1⟩ := Kd.R_slice a3.out; subst e1) | ((with_reducible refine gate_callee (f := 37) rfl ?_); refine goesL_ (some 9) rfl rfl Tryz.func37 kr rfl #[.pointer (some ⟨g, 0, none⟩), .slice d9 b6.length e0] rfl sM ?_; (with_reducible refine (spec_l1Cur_among.calls g s0_0 a8 a9 _ _ b6 c2 b2 b3 w0 _ ?side1 ?side2 ?side3 ?side4 ?side5 A4.out).mono ?_); (case side1 => exact kI); (case side2 => exact bI); (case side3 => repeat (first | exact (Kd.R_reads' a3.out).2.2 | (with_reducible refine Kd.C_alloc ?_ _) | (with_reducible refine Kd.C_drewN ?_ _) | (with_reducible refine Kd.C_drew ?_))); (case side4 => exact (Kd.R_reads' a3.out).2.1); (case side5 => exact far_slice (IsS51.own_ne HI0.out a3.out (by decide))); rintro e e8 ⟨rfl, hi, hb, hk⟩; refine ⟨_, rfl, ?_⟩; replace a3 := Aside0.mk (Kd.R_mono (Kd.R_keep (IsS51.apart (show IsS51 w0 _ g s0_0 a8 a9 from by repeat (first | (with_reducible first | exact HI0.out | apply IsS51.alloc | apply IsS51.drewN | apply IsS51.drew | apply IsS51.set_1 | apply IsS51.set_2) | exact HI0.out)) (oR a3) (by decide)) hk (fun _ h => h.2)) (fun _ h => h.1)); replace HK := Aside0.mk (KeepBut.trans (w := w) kK hk (.inl rfl)); replace HB := Aside0.mk (hb); replace HI0 := Aside0.mk (hi); (try clear hb); (try clear hk); (try clear hi)) | ((with_reducible refine gate_dst (N := 11) rfl ?_); refine Kd.R_lit (Kd.int .i64) _ 3 ?hg (N := 11) ?hd (xs := ([0, 1, (-1)] : List Int)) (inner := [.int .i64 0, .int .i64 1, .int .i64 (-1)]) (ok := fun _ => True) (okp := fun _ => True) ?hr ?hp (fun _ hk => hk) trivial (Below.refl _ _) (Nat.le_refl _) (by simp) ?_; (case hd => rfl); (case hg => rfl); (case hr => first | (go_simp; done) | (go_simp; rfl)); (case hp => exact (Reps.one (show Kd.M (Kd.int .i64) _ _ _ 0 [.int .i64 0] from rfl) (Reps.one (show Kd.M (Kd.int .i64) _ _ _ 1 [.int .i64 1] from rfl) (Reps.one (show Kd.M (Kd.int .i64) _ _ _ (-1) [.int .i64 (-1)] from rfl) (Reps.none _ _))))); intro e6 e9 b0 hb hg_ hnew_; clear hg_ hnew_; (first | rw [← c1.out] at b0 | (simp only [Int.reduceToNat] at b0; rw [← c1.out] at b0)); have a5 := Aside0.mk (Kd.R_lower (Kd.R_new' b0 (Kd.R_lt (oR a3))) (keep_size (w := w) (g := g) (row := none) kK)); replace a3 := Aside0.mk (Kd.R_elder' (oR a3) (Kd.R_base b0) hb); replace HI0 := Aside0.mk (IsS51.below kI hb); replace HK := Aside0.mk (KeepBut.trans (w := w) kK (KeepBut.of_below hb g none) (.inl rfl)); replace HB := Aside0.mk (below_step bI hb); clear hb b0; obtain ⟨d2, d3, d4⟩ := Kd.R_slice a5.out; subst d4) | ((with_reducible refine gate_callee (f := 37) rfl ?_); refine goesL_ (some 12) rfl rfl Tryz.func37 kr rfl #[.pointer (some ⟨g, 0, none⟩), .slice d2 b7.length d3] rfl sM ?_; (with_reducible refine (spec_l1Cur_among.calls g s0_0 b2 b3 _ _ b7 c9 d0 d1 w0 _ ?side1 ?side2 ?side3 ?side4 ?side5 A5.out).mono ?_); (case side1 => exact kI); (case side2 => exact bI); (case side3 => repeat (first | exact (Kd.R_reads' a5.out).2.2 | (with_reducible refine Kd.C_alloc ?_ _) | (with_reducible refine Kd.C_drewN ?_ _) | (with_reducible refine Kd.C_drew ?_))); (case side4 => exact (Kd.R_reads' a5.out).2.1); (case side5 => exact far_slice (IsS51.own_ne HI0.out a5.out (by decide))); rintro e g0 ⟨rfl, hi, hb, hk⟩; refine ⟨_, rfl, ?_⟩; replace a3 := Aside0.mk (Kd.R_mono (Kd.R_keep (IsS51.apart (show IsS51 w0 _ g s0_0 b2 b3 from by repeat (first | (with_reducible first | exact HI0.out | apply IsS51.alloc | apply IsS51.drewN | apply IsS51.drew | apply IsS51.set_1 | apply IsS51.set_2) | exact HI0.out)) (oR a3) (by decide)) hk (fun _ h => h.2)) (fun _ h => h.1)); replace a5 := Aside0.mk (Kd.R_mono (Kd.R_keep (IsS51.apart (show IsS51 w0 _ g s0_0 b2 b3 from by repeat (first | (with_reducible first | exact HI0.out | apply IsS51.alloc | apply IsS51.drewN | apply IsS51.drew | apply IsS51.set_1 | apply IsS51.set_2) | exact HI0.out)) (oR a5) (by decide)) hk (fun _ h => h.2)) (fun _ h => h.1)); replace HK := Aside0.mk (KeepBut.trans (w := w) kK hk (.inl rfl)); replace HB := Aside0.mk (hb); replace HI0 := Aside0.mk (hi); (try clear hb); (try clear hk); (try clear hi)))
 go_ret2
 exact ⟨sE, kI, bI, kK⟩
 )
 ·(
 replace c3 := Bool.eq_false_iff.mpr c3
 subst c3
 rw [if_neg nft] at H
 obtain ⟨⟨b8, c4, c5⟩, e2, H⟩ := bD H
 try dsimp only at H
 obtain ⟨⟨d5, c6, c7⟩, e3, H⟩ := bD H
 try dsimp only at H
 obtain ⟨⟨d6, d7, d8⟩, e4, H⟩ := bD H
 try dsimp only at H
 simp only [Option.some.injEq, Prod.mk.injEq] at H
 obtain ⟨rfl, rfl, rfl, rfl⟩ := H
 go_enter Tryz.func36, Tryz.ntmps36
 go_wp2_with (first | ((with_reducible refine gate_callee (f := 50) rfl ?_); refine goesL_ (some 6) rfl rfl Tryz.func50 kr rfl #[.pointer (some ⟨g, 0, none⟩), .int .i64 12] rfl sM ?_; (with_reducible refine (spec_l1Cur_one.calls g s0_0 s0_1 s0_2 12 false a8 a9 w0 _ ?side1 ?side2 A2.out).mono ?_); (case side1 => exact kI); (case side2 => exact bI); rintro e g1 ⟨rfl, hi, hb, hk⟩; refine ⟨_, rfl, ?_⟩; replace HK := Aside0.mk (KeepBut.trans (w := w) kK hk (.inl rfl)); replace HB := Aside0.mk (hb); replace HI0 := Aside0.mk (hi); (try clear hb); (try clear hk); (try clear hi)) | ((with_reducible refine gate_callee (f := 52) rfl ?_); refine goesL_ (some 14) rfl rfl Tryz.func52 kr rfl #[.pointer (some ⟨g, 0, none⟩), .int .i64 9] rfl sM ?_; (with_reducible refine (spec_l1Cur_pick.calls g s0_0 a8 a9 9 b8 c4 c5 w0 _ ?side1 ?side2 e2.out).mono ?_); (case side1 => exact kI); (case side2 => exact bI); rintro e g2 ⟨rfl, hi, hb, hk⟩; refine ⟨_, rfl, ?_⟩; replace HK := Aside0.mk (KeepBut.trans (w := w) kK hk (.inl rfl)); replace HB := Aside0.mk (hb); replace HI0 := Aside0.mk (hi); (try clear hb); (try clear hk); (try clear hi)) | ((with_reducible refine gate_callee (f := 52) rfl ?_); refine goesL_ (some 20) rfl rfl Tryz.func52 kr rfl #[.pointer (some ⟨g, 0, none⟩), .int .i64 (wrap64 ((wrap64 (1 + b8)) + 2))] rfl sM ?_; (with_reducible refine (spec_l1Cur_pick.calls g s0_0 c4 c5 (wrap64 ((wrap64 (1 + b8)) + 2)) d5 c6 c7 w0 _ ?side1 ?side2 e3.out).mono ?_); (case side1 => exact kI); (case side2 => exact bI); rintro e g3 ⟨rfl, hi, hb, hk⟩; refine ⟨_, rfl, ?_⟩; replace HK := Aside0.mk (KeepBut.trans (w := w) kK hk (.inl rfl)); replace HB := Aside0.mk (hb); replace HI0 := Aside0.mk (hi); (try clear hb); (try clear hk); (try clear hi)) | ((with_reducible refine gate_callee (f := 52) rfl ?_); refine goesL_ (some 22) rfl rfl Tryz.func52 kr rfl #[.pointer (some ⟨g, 0, none⟩), .int .i64 9] rfl sM ?_; (with_reducible refine (spec_l1Cur_pick.calls g s0_0 c6 c7 9 d6 d7 d8 w0 _ ?side1 ?side2 e4.out).mono ?_); (case side1 => exact kI); (case side2 => exact bI); rintro e g4 ⟨rfl, hi, hb, hk⟩; refine ⟨_, rfl, ?_⟩; replace HK := Aside0.mk (KeepBut.trans (w := w) kK hk (.inl rfl)); replace HB := Aside0.mk (hb); replace HI0 := Aside0.mk (hi); (try clear hb); (try clear hk); (try clear hi)))
 go_ret2
 exact ⟨sE, kI, bI, kK⟩
 )

/-! ### spec_miWords: function 51 -/
def spec_miWords.l0 : Nat → Int → ByteArray → ByteArray → Int → Option (List ByteArray)
  | 0, _, _, _, _ => none
  | k + 1, x0, x3, x4, x5 => if x5 < x0 then (if (Int.tmod x5 2) = 0 then (if x3.size + 1 ≤ 9223372036854775807 then (if x4.size + 1 ≤ 9223372036854775807 then (spec_miWords.l0 k x0 (x3 ++ (⟨#[108]⟩ : ByteArray)) (x4 ++ (⟨#[114]⟩ : ByteArray)) (wrap64 (x5 + 1))) else (none)) else (none)) else (if x3.size + 1 ≤ 9223372036854775807 then (if x4.size + 1 ≤ 9223372036854775807 then (spec_miWords.l0 k x0 (x3 ++ (⟨#[114]⟩ : ByteArray)) (x4 ++ (⟨#[108]⟩ : ByteArray)) (wrap64 (x5 + 1))) else (none)) else (none))) else (some (([x3, x4] : List ByteArray)))
def spec_miWords.f (k : Nat) (a0 : Int) : Option (List ByteArray) := spec_miWords.l0 k a0 (⟨#[]⟩ : ByteArray) (⟨#[]⟩ : ByteArray) 0
theorem spec_miWords.mono_l : ∀ k, (∀ y0 y1 y2 y3, LeO (spec_miWords.l0 k y0 y1 y2 y3) (spec_miWords.l0 (k + 1) y0 y1 y2 y3))
  | 0 => fun _ _ _ _ r h => by simp [spec_miWords.l0] at h
  | k + 1 => by
    have ih0 := spec_miWords.mono_l k
    · intro y0 y1 y2 y3
      unfold spec_miWords.l0
      repeat' first
      | (with_reducible exact ih0 _ _ _ _)
      | (with_reducible exact LeO.refl _)
      | (with_reducible exact LeO.none _)
      | (with_reducible refine LeO.ite ?_ ?_)
      | (with_reducible refine LeO.bind ?_ (fun _ => ?_))
      | exact ih0 _ _ _ _
      | exact LeO.none _
      | refine LeO.ite ?_ ?_
      | refine LeO.bind ?_ (fun _ => ?_)
theorem spec_miWords.mono : ∀ a0 k, LeO (spec_miWords.f k a0) (spec_miWords.f (k + 1) a0) := by
  intro a0 k
  have ih0 := spec_miWords.mono_l k
  unfold spec_miWords.f
  repeat' first
      | (with_reducible exact ih0 _ _ _ _)
      | (with_reducible exact LeO.refl _)
      | (with_reducible exact LeO.none _)
      | (with_reducible refine LeO.ite ?_ ?_)
      | (with_reducible refine LeO.bind ?_ (fun _ => ?_))
      | exact ih0 _ _ _ _
      | exact LeO.none _
      | refine LeO.ite ?_ ?_
      | refine LeO.bind ?_ (fun _ => ?_)
set_option maxHeartbeats 8000000 in
set_option maxRecDepth 100000 in
theorem spec_miWords.calls (k : Nat) (a0 : Int) (r : List ByteArray) (w : World) (h : spec_miWords.f k a0 = some r) :
    Calls Tryz.prog 51 #[.int .i64 a0] w fun e w' => ∃ v0_ : Value, e = .returned (v0_) ∧ Kd.R Kd.string 9 w' w.heap.size (fun _ => True) v0_ r ∧ Below w.heap.size w w' := by
 have HB := Aside0.mk (Below.refl w.heap.size w)
 have H := h
 unfold spec_miWords.f at H
 clear h
 have H' := Aside0.mk H
 clear H
 go_enter Tryz.func51, Tryz.ntmps51
 go_wp2
 go_loopg [3, 4, 5] k (fun kq v3 v4 v5 w' => ∃ (a3 : ByteArray) (a4 : ByteArray) (a5 : Int), v3 = .string a3 ∧ v4 = .string a4 ∧ v5 = .int .i64 a5 ∧ Aside0 (spec_miWords.l0 kq a0 a3 a4 a5 = some r) ∧ Aside0 (kq ≤ k) ∧ Aside0 (Below w.heap.size w w'))
 case atStart => exact ⟨((⟨#[]⟩ : ByteArray)), ((⟨#[]⟩ : ByteArray)), (0), sR, sR, sR, H', ⟨Nat.le_refl _⟩, ⟨bB⟩⟩
 case round => (
 clear H'
 obtain ⟨a3, a4, a5, rfl, rfl, rfl, HA, HK1, HB⟩ := hrel
 cases gk with
 | zero => exact absurd HA.out (by simp [spec_miWords.l0])
 | succ k1 => (
 have H := HA.out
 clear HA
 simp only [spec_miWords.l0] at H
 by_cases c2 : a5 < a0
 ·(
 rw [if_pos c2] at H
 have b1 : decide (a5 < a0) = true := decide_eq_true c2
 clear c2
 by_cases c3 : (Int.tmod a5 2) = 0
 ·(
 rw [if_pos c3] at H
 obtain ⟨b2, b3⟩ := yE c3
 clear c3
 by_cases c4 : a3.size + 1 ≤ 9223372036854775807
 ·(
 rw [if_pos c4] at H
 have b5 := eq_true c4
 have b6 : decide (a3.size + 1 ≤ 9223372036854775807) = true := decide_eq_true c4
 try have b7 : (9223372036854775807 < a3.size + 1) = False := eq_false (Nat.not_lt.2 c4)
 by_cases c5 : a4.size + 1 ≤ 9223372036854775807
 ·(
 rw [if_pos c5] at H
 have b8 := eq_true c5
 have b9 : decide (a4.size + 1 ≤ 9223372036854775807) = true := decide_eq_true c5
 try have c1 : (9223372036854775807 < a4.size + 1) = False := eq_false (Nat.not_lt.2 c5)
 have H' := Aside0.mk H
 clear H
 go_wp2
 go_roundg k1
 case measure => have := HK1.out; omega
 case rel => exact ⟨(a3 ++ (⟨#[108]⟩ : ByteArray)), (a4 ++ (⟨#[114]⟩ : ByteArray)), (wrap64 (a5 + 1)), sR, sR, sR, H', ⟨by have := HK1.out; omega⟩, ⟨bB⟩⟩
 )
 ·(
 rw [if_neg c5] at H
 exact absurd H (by simp)
 )
 )
 ·(
 rw [if_neg c4] at H
 exact absurd H (by simp)
 )
 )
 ·(
 rw [if_neg c3] at H
 obtain ⟨b2, b3⟩ := nE c3
 by_cases c6 : a3.size + 1 ≤ 9223372036854775807
 ·(
 rw [if_pos c6] at H
 have c8 := eq_true c6
 have c9 : decide (a3.size + 1 ≤ 9223372036854775807) = true := decide_eq_true c6
 try have d0 : (9223372036854775807 < a3.size + 1) = False := eq_false (Nat.not_lt.2 c6)
 by_cases c7 : a4.size + 1 ≤ 9223372036854775807
 ·(
 rw [if_pos c7] at H
 have d1 := eq_true c7
 have d2 : decide (a4.size + 1 ≤ 9223372036854775807) = true := decide_eq_true c7
 try have d3 : (9223372036854775807 < a4.size + 1) = False := eq_false (Nat.not_lt.2 c7)
 have H' := Aside0.mk H
 clear H
 go_wp2
 go_roundg k1
 case measure => have := HK1.out; omega
 case rel => exact ⟨(a3 ++ (⟨#[114]⟩ : ByteArray)), (a4 ++ (⟨#[108]⟩ : ByteArray)), (wrap64 (a5 + 1)), sR, sR, sR, H', ⟨by have := HK1.out; omega⟩, ⟨bB⟩⟩
 )
 ·(
 rw [if_neg c7] at H
 exact absurd H (by simp)
 )
 )
 ·(
 rw [if_neg c6] at H
 exact absurd H (by simp)
 )
 )
 )
 ·(
 rw [if_neg c2] at H
 have b1 : decide (a5 < a0) = false := decide_eq_false c2
 clear c2
 obtain ⟨b4, a6⟩ : ∃ y_ : List ByteArray, y_ = (([a3, a4] : List ByteArray)) := ⟨_, rfl⟩
 replace H : (some b4) = some r := by first | (rw [a6]; with_reducible exact H) | (have a9 := (Option.bind_some _ _).symm.trans H; rw [a6]; with_reducible exact a9) | (have a9 := (Option.bind_some _ _).symm.trans H; with_reducible exact a9) | with_reducible exact H | (rw [a6]; exact H) | exact H
 have a8 := Aside0.mk a6
 clear a6
 obtain rfl := Option.some.inj H
 go_wp2_with (first | ((with_reducible refine gate_dst (N := 24) rfl ?_); refine Kd.R_lit Kd.string _ 9 ?hg (N := 24) ?hd (xs := ([a3, a4] : List ByteArray)) (inner := [.string a3, .string a4]) (ok := fun _ => True) (okp := fun _ => True) ?hr ?hp (fun _ hk => hk) trivial (Below.refl _ _) (Nat.le_refl _) (by simp) ?_; (case hd => rfl); (case hg => rfl); (case hr => first | (go_simp; done) | (go_simp; rfl)); (case hp => exact (Reps.one (show Kd.M Kd.string _ _ _ a3 [.string a3] from rfl) (Reps.one (show Kd.M Kd.string _ _ _ a4 [.string a4] from rfl) (Reps.none _ _)))); intro d4 w8 a7 hb hg_ hnew_; clear hg_ hnew_; (first | rw [← a8.out] at a7 | (simp only [Int.reduceToNat] at a7; rw [← a8.out] at a7)); have b0 := Aside0.mk (Kd.R_lower a7 (below_size bB)); replace HB := Aside0.mk (below_step bB hb); clear hb a7))
 go_ret
 exact ⟨_, sE, by (with_reducible repeat (first | apply Kd.R_alloc | apply Kd.R_drewN | apply Kd.R_drew)); exact b0.out, bI⟩
 )
 )
 )

/-! ### spec_l1Cur_of: function 74 -/
def spec_l1Cur_of.f (s0_0 : List Int) (s0_1 : Int) (s0_2 : Int) (l1 : List ByteArray) : Option (ByteArray × Int × Int) := (spec_l1Cur_pick.f s0_0 s0_1 s0_2 (l1.length : Int)).bind fun bt142 => (if 0 ≤ bt142.1 then (if bt142.1 < (l1.length : Int) then (some (rdOf ByteArray.empty l1 bt142.1, bt142.2.1, bt142.2.2)) else (none)) else (none))
set_option maxHeartbeats 8000000 in
set_option maxRecDepth 100000 in
theorem spec_l1Cur_of.calls (g : Nat) (s0_0 : List Int) (s0_1 : Int) (s0_2 : Int) (A1 : Option Addr) (c1 : Nat) (l1 : List ByteArray) (r1 : ByteArray) (r2 : Int) (r3 : Int) (w0 w : World) (hI : IsS51 w0 w g s0_0 s0_1 s0_2) (hB : Below w0.heap.size w0 w) (hr1 : Kd.C Kd.string w A1 l1.length l1) (hc1 : l1.length ≤ c1) (hf1 : ∀ ad, A1 = some ad → 0 < l1.length → ad.block ≠ g) (h : spec_l1Cur_of.f s0_0 s0_1 s0_2 l1 = some (r1, r2, r3)) :
    Calls Tryz.prog 74 #[.pointer (some ⟨g, 0, none⟩), .slice A1 l1.length c1] w fun e w' => e = .returned (.string r1) ∧ IsS51 w0 w' g s0_0 r2 r3 ∧ Below w0.heap.size w0 w' ∧ KeepBut w w' g none := by
 have b1 := Aside0.mk hr1
 have b4 := Aside0.mk hc1
 clear hr1 hc1
 have HI0 := Aside0.mk hI
 have HK := Aside0.mk (KeepBut.refl w g none)
 have HL := Aside0.mk hB.size
 clear hI
 have b5 := Aside0.mk hB.size
 have HB := Aside0.mk hB
 clear hB
 have H := h
 unfold spec_l1Cur_of.f at H
 clear h
 obtain ⟨⟨a3, a8, a9⟩, A3, H⟩ := bD H
 try dsimp only at H
 by_cases c4 : 0 ≤ a3
 ·(
 rw [if_pos c4] at H
 have b2 : decide (0 ≤ a3) = true := decide_eq_true c4
 clear c4
 by_cases c5 : a3 < (l1.length : Int)
 ·(
 rw [if_pos c5] at H
 have b3 : decide (a3 < (l1.length : Int)) = true := decide_eq_true c5
 clear c5
 simp only [Option.some.injEq, Prod.mk.injEq] at H
 obtain ⟨rfl, rfl, rfl⟩ := H
 go_enter Tryz.func74, Tryz.ntmps74
 go_wp2_with (first | ((with_reducible refine gate_callee (f := 52) rfl ?_); refine goesL_ (some 9) rfl rfl Tryz.func52 kr rfl #[.pointer (some ⟨g, 0, none⟩), .int .i64 (l1.length : Int)] rfl sM ?_; (with_reducible refine (spec_l1Cur_pick.calls g s0_0 s0_1 s0_2 (l1.length : Int) a3 a8 a9 w0 _ ?side1 ?side2 A3.out).mono ?_); (case side1 => exact kI); (case side2 => exact bI); rintro e w6 ⟨rfl, hi, hb, hk⟩; refine ⟨_, rfl, ?_⟩; replace HK := Aside0.mk (KeepBut.trans (w := w) kK hk (.inl rfl)); replace HB := Aside0.mk (hb); replace HI0 := Aside0.mk (hi); (try clear hb); (try clear hk); (try clear hi); have a5 : 0 ≤ (a3 : Int) := of_decide_eq_true asm; have a6 : a3 < (l1.length : Int) := of_decide_eq_true asm; obtain ⟨a7, b0, a4⟩ := Kd.at_string b1.out a3 a5 a6; cases b0; replace a4 := keep_cell HK.out a4 (by first | (rw [add_block]; exact hf1 _ rfl (by omega)) | exact hf1 _ rfl (by omega) | exact hf1 a7 rfl (by omega)); replace a5 := eq_true a5; replace a6 := eq_true a6))
 go_ret
 exact ⟨sE, kI, bI, kK⟩
 )
 ·(
 rw [if_neg c5] at H
 exact absurd H (by simp)
 )
 )
 ·(
 rw [if_neg c4] at H
 exact absurd H (by simp)
 )

/-! ### spec_l1Cur_word: function 47 -/
def spec_l1Cur_word.f (k : Nat) (s0_0 : List Int) (s0_1 : Int) (s0_2 : Int) : Option (ByteArray × Int × Int) := (spec_l1Cur_one.f s0_0 s0_1 s0_2 12).bind fun bt146 => (if bt146.1 = true then ((spec_l1Cur_of.f s0_0 bt146.2.1 bt146.2.2 (([(⟨#[120]⟩ : ByteArray), (⟨#[108, 108]⟩ : ByteArray), (⟨#[108, 114, 32]⟩ : ByteArray), (⟨#[108, 114, 108, 114, 108, 114, 108, 114, 108, 114, 108, 114, 108, 114, 108, 114, 108, 114, 108, 114, 108, 114, 108, 114, 108, 114, 108, 114, 108, 114, 108, 114, 108, 114, 108, 114, 108, 114, 108, 114, 108]⟩ : ByteArray)] : List ByteArray))).bind fun bt152 => (some (bt152.1, bt152.2.1, bt152.2.2))) else ((spec_l1Cur_pick.f s0_0 bt146.2.1 bt146.2.2 6).bind fun bt155 => ((spec_miWords.f k bt155.1).bind fun t158 => ((spec_l1Cur_pick.f s0_0 bt155.2.1 bt155.2.2 2).bind fun bt161 => (if 0 ≤ bt161.1 then (if bt161.1 < (t158.length : Int) then (some (rdOf ByteArray.empty t158 bt161.1, bt161.2.1, bt161.2.2)) else (none)) else (none))))))
theorem spec_l1Cur_word.mono : ∀ a0 a1 a2 k, LeO (spec_l1Cur_word.f k a0 a1 a2) (spec_l1Cur_word.f (k + 1) a0 a1 a2) := by
  intro a0 a1 a2 k
  unfold spec_l1Cur_word.f
  repeat' first
      | (with_reducible exact spec_miWords.mono _ _)
      | (with_reducible exact LeO.refl _)
      | (with_reducible exact LeO.none _)
      | (with_reducible refine LeO.ite ?_ ?_)
      | (with_reducible refine LeO.bind ?_ (fun _ => ?_))
      | exact spec_miWords.mono _ _
      | exact LeO.none _
      | refine LeO.ite ?_ ?_
      | refine LeO.bind ?_ (fun _ => ?_)
set_option maxHeartbeats 8000000 in
set_option maxRecDepth 100000 in
theorem spec_l1Cur_word.calls (k : Nat) (g : Nat) (s0_0 : List Int) (s0_1 : Int) (s0_2 : Int) (r1 : ByteArray) (r2 : Int) (r3 : Int) (w0 w : World) (hI : IsS51 w0 w g s0_0 s0_1 s0_2) (hB : Below w0.heap.size w0 w) (h : spec_l1Cur_word.f k s0_0 s0_1 s0_2 = some (r1, r2, r3)) :
    Calls Tryz.prog 47 #[.pointer (some ⟨g, 0, none⟩)] w fun e w' => e = .returned (.string r1) ∧ IsS51 w0 w' g s0_0 r2 r3 ∧ Below w0.heap.size w0 w' ∧ KeepBut w w' g none := by
 have HI0 := Aside0.mk hI
 have HK := Aside0.mk (KeepBut.refl w g none)
 have HL := Aside0.mk hB.size
 clear hI
 have e7 := Aside0.mk hB.size
 have HB := Aside0.mk hB
 clear hB
 have H := h
 unfold spec_l1Cur_word.f at H
 clear h
 obtain ⟨⟨c5, a6, a7⟩, A2, H⟩ := bD H
 try dsimp only at H
 by_cases c3 : c5 = true
 ·(
 subst c3
 rw [if_pos rfl] at H
 obtain ⟨b2, a5⟩ : ∃ y_ : List ByteArray, y_ = (([(⟨#[120]⟩ : ByteArray), (⟨#[108, 108]⟩ : ByteArray), (⟨#[108, 114, 32]⟩ : ByteArray), (⟨#[108, 114, 108, 114, 108, 114, 108, 114, 108, 114, 108, 114, 108, 114, 108, 114, 108, 114, 108, 114, 108, 114, 108, 114, 108, 114, 108, 114, 108, 114, 108, 114, 108, 114, 108, 114, 108, 114, 108, 114, 108]⟩ : ByteArray)] : List ByteArray)) := ⟨_, rfl⟩
 replace H : ((spec_l1Cur_of.f s0_0 a6 a7 b2).bind fun a9 => (some (a9.1, a9.2.1, a9.2.2))) = some (r1, r2, r3) := by first | (rw [a5]; with_reducible exact H) | (have c2 := (Option.bind_some _ _).symm.trans H; rw [a5]; with_reducible exact c2) | (have c2 := (Option.bind_some _ _).symm.trans H; with_reducible exact c2) | with_reducible exact H | (rw [a5]; exact H) | exact H
 have b8 := Aside0.mk a5
 clear a5
 obtain ⟨⟨c6, c7, c8⟩, A4, H⟩ := bD H
 try dsimp only at H
 simp only [Option.some.injEq, Prod.mk.injEq] at H
 obtain ⟨rfl, rfl, rfl⟩ := H
 go_enter Tryz.func47, Tryz.ntmps47
 go_wp2_with (first | ((with_reducible refine gate_callee (f := 50) rfl ?_); refine goesL_ (some 5) rfl rfl Tryz.func50 kr rfl #[.pointer (some ⟨g, 0, none⟩), .int .i64 12] rfl sM ?_; (with_reducible refine (spec_l1Cur_one.calls g s0_0 s0_1 s0_2 12 true a6 a7 w0 _ ?side1 ?side2 A2.out).mono ?_); (case side1 => exact kI); (case side2 => exact bI); rintro e w5 ⟨rfl, hi, hb, hk⟩; refine ⟨_, rfl, ?_⟩; replace HK := Aside0.mk (KeepBut.trans (w := w) kK hk (.inl rfl)); replace HB := Aside0.mk (hb); replace HI0 := Aside0.mk (hi); (try clear hb); (try clear hk); (try clear hi)) | ((with_reducible refine gate_dst (N := 7) rfl ?_); refine Kd.R_lit Kd.string _ 9 ?hg (N := 7) ?hd (xs := ([(⟨#[120]⟩ : ByteArray), (⟨#[108, 108]⟩ : ByteArray), (⟨#[108, 114, 32]⟩ : ByteArray), (⟨#[108, 114, 108, 114, 108, 114, 108, 114, 108, 114, 108, 114, 108, 114, 108, 114, 108, 114, 108, 114, 108, 114, 108, 114, 108, 114, 108, 114, 108, 114, 108, 114, 108, 114, 108, 114, 108, 114, 108, 114, 108]⟩ : ByteArray)] : List ByteArray)) (inner := [.string (⟨#[120]⟩ : ByteArray), .string (⟨#[108, 108]⟩ : ByteArray), .string (⟨#[108, 114, 32]⟩ : ByteArray), .string (⟨#[108, 114, 108, 114, 108, 114, 108, 114, 108, 114, 108, 114, 108, 114, 108, 114, 108, 114, 108, 114, 108, 114, 108, 114, 108, 114, 108, 114, 108, 114, 108, 114, 108, 114, 108, 114, 108, 114, 108, 114, 108]⟩ : ByteArray)]) (ok := fun _ => True) (okp := fun _ => True) ?hr ?hp (fun _ hk => hk) trivial (Below.refl _ _) (Nat.le_refl _) (by simp) ?_; (case hd => rfl); (case hg => rfl); (case hr => first | (go_simp; done) | (go_simp; rfl)); (case hp => exact (Reps.one (show Kd.M Kd.string _ _ _ (⟨#[120]⟩ : ByteArray) [.string (⟨#[120]⟩ : ByteArray)] from rfl) (Reps.one (show Kd.M Kd.string _ _ _ (⟨#[108, 108]⟩ : ByteArray) [.string (⟨#[108, 108]⟩ : ByteArray)] from rfl) (Reps.one (show Kd.M Kd.string _ _ _ (⟨#[108, 114, 32]⟩ : ByteArray) [.string (⟨#[108, 114, 32]⟩ : ByteArray)] from rfl) (Reps.one (show Kd.M Kd.string _ _ _ (⟨#[108, 114, 108, 114, 108, 114, 108, 114, 108, 114, 108, 114, 108, 114, 108, 114, 108, 114, 108, 114, 108, 114, 108, 114, 108, 114, 108, 114, 108, 114, 108, 114, 108, 114, 108, 114, 108, 114, 108, 114, 108]⟩ : ByteArray) [.string (⟨#[108, 114, 108, 114, 108, 114, 108, 114, 108, 114, 108, 114, 108, 114, 108, 114, 108, 114, 108, 114, 108, 114, 108, 114, 108, 114, 108, 114, 108, 114, 108, 114, 108, 114, 108, 114, 108, 114, 108, 114, 108]⟩ : ByteArray)] from rfl) (Reps.none _ _)))))); intro e3 w6 b1 hb hg_ hnew_; clear hg_ hnew_; (first | rw [← b8.out] at b1 | (simp only [Int.reduceToNat] at b1; rw [← b8.out] at b1)); have a4 := Aside0.mk (Kd.R_lower b1 (keep_size (w := w) (g := g) (row := none) kK)); replace HI0 := Aside0.mk (IsS51.below kI hb); replace HK := Aside0.mk (KeepBut.trans (w := w) kK (KeepBut.of_below hb g none) (.inl rfl)); replace HB := Aside0.mk (below_step bI hb); clear hb b1; obtain ⟨d4, d5, d6⟩ := Kd.R_slice a4.out; subst d6) | ((with_reducible refine gate_callee (f := 74) rfl ?_); refine goesL_ (some 8) rfl rfl Tryz.func74 kr rfl #[.pointer (some ⟨g, 0, none⟩), .slice d4 b2.length d5] rfl sM ?_; (with_reducible refine (spec_l1Cur_of.calls g s0_0 a6 a7 _ _ b2 c6 c7 c8 w0 _ ?side1 ?side2 ?side3 ?side4 ?side5 A4.out).mono ?_); (case side1 => exact kI); (case side2 => exact bI); (case side3 => repeat (first | exact (Kd.R_reads' a4.out).2.2 | (with_reducible refine Kd.C_alloc ?_ _) | (with_reducible refine Kd.C_drewN ?_ _) | (with_reducible refine Kd.C_drew ?_))); (case side4 => exact (Kd.R_reads' a4.out).2.1); (case side5 => exact far_slice (IsS51.own_ne HI0.out a4.out (by decide))); rintro e w9 ⟨rfl, hi, hb, hk⟩; refine ⟨_, rfl, ?_⟩; replace a4 := Aside0.mk (Kd.R_mono (Kd.R_keep (IsS51.apart (show IsS51 w0 _ g s0_0 a6 a7 from by repeat (first | (with_reducible first | exact HI0.out | apply IsS51.alloc | apply IsS51.drewN | apply IsS51.drew | apply IsS51.set_1 | apply IsS51.set_2) | exact HI0.out)) (oR a4) (by decide)) hk (fun _ h => h.2)) (fun _ h => h.1)); replace HK := Aside0.mk (KeepBut.trans (w := w) kK hk (.inl rfl)); replace HB := Aside0.mk (hb); replace HI0 := Aside0.mk (hi); (try clear hb); (try clear hk); (try clear hi)))
 go_ret
 exact ⟨sE, kI, bI, kK⟩
 )
 ·(
 replace c3 := Bool.eq_false_iff.mpr c3
 subst c3
 rw [if_neg nft] at H
 obtain ⟨⟨b3, b4, b5⟩, d7, H⟩ := bD H
 try dsimp only at H
 obtain ⟨b0, d8, H⟩ := bD H
 try dsimp only at H
 obtain ⟨⟨a3, c9, d0⟩, d9, H⟩ := bD H
 try dsimp only at H
 by_cases b9 : 0 ≤ a3
 ·(
 rw [if_pos b9] at H
 have e0 : decide (0 ≤ a3) = true := decide_eq_true b9
 clear b9
 by_cases c1 : a3 < (b0.length : Int)
 ·(
 rw [if_pos c1] at H
 have e1 : decide (a3 < (b0.length : Int)) = true := decide_eq_true c1
 clear c1
 simp only [Option.some.injEq, Prod.mk.injEq] at H
 obtain ⟨rfl, rfl, rfl⟩ := H
 go_enter Tryz.func47, Tryz.ntmps47
 go_wp2_with (first | ((with_reducible refine gate_callee (f := 50) rfl ?_); refine goesL_ (some 5) rfl rfl Tryz.func50 kr rfl #[.pointer (some ⟨g, 0, none⟩), .int .i64 12] rfl sM ?_; (with_reducible refine (spec_l1Cur_one.calls g s0_0 s0_1 s0_2 12 false a6 a7 w0 _ ?side1 ?side2 A2.out).mono ?_); (case side1 => exact kI); (case side2 => exact bI); rintro e e8 ⟨rfl, hi, hb, hk⟩; refine ⟨_, rfl, ?_⟩; replace HK := Aside0.mk (KeepBut.trans (w := w) kK hk (.inl rfl)); replace HB := Aside0.mk (hb); replace HI0 := Aside0.mk (hi); (try clear hb); (try clear hk); (try clear hi)) | ((with_reducible refine gate_callee (f := 52) rfl ?_); refine goesL_ (some 10) rfl rfl Tryz.func52 kr rfl #[.pointer (some ⟨g, 0, none⟩), .int .i64 6] rfl sM ?_; (with_reducible refine (spec_l1Cur_pick.calls g s0_0 a6 a7 6 b3 b4 b5 w0 _ ?side1 ?side2 d7.out).mono ?_); (case side1 => exact kI); (case side2 => exact bI); rintro e e9 ⟨rfl, hi, hb, hk⟩; refine ⟨_, rfl, ?_⟩; replace HK := Aside0.mk (KeepBut.trans (w := w) kK hk (.inl rfl)); replace HB := Aside0.mk (hb); replace HI0 := Aside0.mk (hi); (try clear hb); (try clear hk); (try clear hi)) | ((with_reducible refine gate_callee (f := 51) rfl ?_); refine goesL_ (some 12) rfl rfl Tryz.func51 kr rfl #[.int .i64 b3] rfl sM ?_; (with_reducible refine (spec_miWords.calls k b3 b0 _ d8.out).mono ?_); rintro e g0 ⟨e4, rfl, c4, hb⟩; refine ⟨_, rfl, ?_⟩; have a8 := Aside0.mk (Kd.R_lower c4 (keep_size (w := w) (g := g) (row := none) kK)); replace HI0 := Aside0.mk (IsS51.below kI hb); replace HK := Aside0.mk (KeepBut.trans (w := w) kK (KeepBut.of_below hb g none) (.inl rfl)); replace HB := Aside0.mk (below_step bI hb); (try clear hb); (try clear c4)) | ((with_reducible refine gate_callee (f := 52) rfl ?_); refine goesL_ (some 14) rfl rfl Tryz.func52 kr rfl #[.pointer (some ⟨g, 0, none⟩), .int .i64 2] rfl sM ?_; (with_reducible refine (spec_l1Cur_pick.calls g s0_0 b4 b5 2 a3 c9 d0 w0 _ ?side1 ?side2 d9.out).mono ?_); (case side1 => exact kI); (case side2 => exact bI); rintro e g1 ⟨rfl, hi, hb, hk⟩; refine ⟨_, rfl, ?_⟩; replace a8 := Aside0.mk (Kd.R_mono (Kd.R_keep (IsS51.apart (show IsS51 w0 _ g s0_0 b4 b5 from by repeat (first | (with_reducible first | exact HI0.out | apply IsS51.alloc | apply IsS51.drewN | apply IsS51.drew | apply IsS51.set_1 | apply IsS51.set_2) | exact HI0.out)) (oR a8) (by decide)) hk (fun _ h => h.2)) (fun _ h => h.1)); replace HK := Aside0.mk (KeepBut.trans (w := w) kK hk (.inl rfl)); replace HB := Aside0.mk (hb); replace HI0 := Aside0.mk (hi); (try clear hb); (try clear hk); (try clear hi); obtain ⟨e5, e6, d1⟩ := Kd.R_slice a8.out; subst d1; have b6 : 0 ≤ (a3 : Int) := of_decide_eq_true asm; have b7 : a3 < (b0.length : Int) := of_decide_eq_true asm; obtain ⟨e2, d2, d3⟩ := Kd.at_string (Kd.R_reads' a8.out).2.2 a3 b6 b7; cases d2; replace b6 := eq_true b6; replace b7 := eq_true b7))
 go_ret
 exact ⟨sE, kI, bI, kK⟩
 )
 ·(
 rw [if_neg c1] at H
 exact absurd H (by simp)
 )
 )
 ·(
 rw [if_neg b9] at H
 exact absurd H (by simp)
 )
 )

/-! ### spec_l1Least: function 53 -/
def spec_l1Least.f (a0 : Int) (a1 : Int) : Option (Int) := if a0 < a1 then (some a0) else (some a1)
set_option maxHeartbeats 8000000 in
set_option maxRecDepth 100000 in
theorem spec_l1Least.calls (a0 : Int) (a1 : Int) (r : Int) (w : World) (h : spec_l1Least.f a0 a1 = some r) :
    Calls Tryz.prog 53 #[.int .i64 a0, .int .i64 a1] w fun e w' => e = .returned (.int .i64 r) ∧ Drawn0 w w' := by
 have H := h
 unfold spec_l1Least.f at H
 clear h
 by_cases c3 : a0 < a1
 rw [if_pos c3] at H
 have a3 : decide (a0 < a1) = true := decide_eq_true c3
 clear c3
 obtain rfl := Option.some.inj H
 rotate_left
 rw [if_neg c3] at H
 have a3 : decide (a0 < a1) = false := decide_eq_false c3
 clear c3
 obtain rfl := Option.some.inj H
 rotate_left
 all_goals (go_enter Tryz.func53, Tryz.ntmps53)
 all_goals go_wp2
 all_goals go_ret
 all_goals (exact ⟨by first | rfl | (simp; done) | (simp [*]; done), by repeat (first | exact Drawn0.refl _ | apply Drawn0.step)⟩)

/-! ### spec_l1Most: function 54 -/
def spec_l1Most.f (a0 : Int) (a1 : Int) : Option (Int) := if a0 > a1 then (some a0) else (some a1)
set_option maxHeartbeats 8000000 in
set_option maxRecDepth 100000 in
theorem spec_l1Most.calls (a0 : Int) (a1 : Int) (r : Int) (w : World) (h : spec_l1Most.f a0 a1 = some r) :
    Calls Tryz.prog 54 #[.int .i64 a0, .int .i64 a1] w fun e w' => e = .returned (.int .i64 r) ∧ Drawn0 w w' := by
 have H := h
 unfold spec_l1Most.f at H
 clear h
 by_cases c3 : a0 > a1
 rw [if_pos c3] at H
 have a3 : decide (a1 < a0) = true := decide_eq_true c3
 clear c3
 obtain rfl := Option.some.inj H
 rotate_left
 rw [if_neg c3] at H
 have a3 : decide (a1 < a0) = false := decide_eq_false c3
 clear c3
 obtain rfl := Option.some.inj H
 rotate_left
 all_goals (go_enter Tryz.func54, Tryz.ntmps54)
 all_goals go_wp2
 all_goals go_ret
 all_goals (exact ⟨by first | rfl | (simp; done) | (simp [*]; done), by repeat (first | exact Drawn0.refl _ | apply Drawn0.step)⟩)

/-! ### spec_l1Cur_wedge: function 62 -/
def spec_l1Cur_wedge.f (s0_0 : List Int) (s0_1 : Int) (s0_2 : Int) : Option (Int × Int × Int × Int) := (spec_l1Cur_among.f s0_0 s0_1 s0_2 (([90, 60, 45, 36, 30, 20, 18, 12, 10, 6, 90, 60, 0, 50, 180, 1, (-1)] : List Int))).bind fun bt168 => ((spec_l1Most.f 1 bt168.1).bind fun t171 => ((spec_l1Cur_pick.f s0_0 bt168.2.1 bt168.2.2 (wrap64 (t171 + 1))).bind fun bt172 => ((spec_l1Cur_pick.f s0_0 bt172.2.1 bt172.2.2 16).bind fun bt175 => (some (bt168.1, wrap64 (bt172.1 - (wrap64 (Int.tdiv bt175.1 15))), bt175.2.1, bt175.2.2)))))
set_option maxHeartbeats 8000000 in
set_option maxRecDepth 100000 in
theorem spec_l1Cur_wedge.calls (g : Nat) (s0_0 : List Int) (s0_1 : Int) (s0_2 : Int) (r1 : Int) (r2 : Int) (r3 : Int) (r4 : Int) (w0 w : World) (hI : IsS51 w0 w g s0_0 s0_1 s0_2) (hB : Below w0.heap.size w0 w) (h : spec_l1Cur_wedge.f s0_0 s0_1 s0_2 = some (r1, r2, r3, r4)) :
    Calls Tryz.prog 62 #[.pointer (some ⟨g, 0, none⟩)] w fun e w' => e = .returned (.tuple #[.int .i64 r1, .int .i64 r2]) ∧ IsS51 w0 w' g s0_0 r3 r4 ∧ Below w0.heap.size w0 w' ∧ KeepBut w w' g none := by
 have HI0 := Aside0.mk hI
 have HK := Aside0.mk (KeepBut.refl w g none)
 have HL := Aside0.mk hB.size
 clear hI
 have c7 := Aside0.mk hB.size
 have HB := Aside0.mk hB
 clear hB
 have H := h
 unfold spec_l1Cur_wedge.f at H
 clear h
 obtain ⟨b0, a4⟩ : ∃ y_ : List Int, y_ = (([90, 60, 45, 36, 30, 20, 18, 12, 10, 6, 90, 60, 0, 50, 180, 1, (-1)] : List Int)) := ⟨_, rfl⟩
 replace H : ((spec_l1Cur_among.f s0_0 s0_1 s0_2 b0).bind fun a5 => ((spec_l1Most.f 1 a5.1).bind fun a6 => ((spec_l1Cur_pick.f s0_0 a5.2.1 a5.2.2 (wrap64 (a6 + 1))).bind fun a7 => ((spec_l1Cur_pick.f s0_0 a7.2.1 a7.2.2 16).bind fun a8 => (some (a5.1, wrap64 (a7.1 - (wrap64 (Int.tdiv a8.1 15))), a8.2.1, a8.2.2)))))) = some (r1, r2, r3, r4) := by first | (rw [a4]; with_reducible exact H) | (have b7 := (Option.bind_some _ _).symm.trans H; rw [a4]; with_reducible exact b7) | (have b7 := (Option.bind_some _ _).symm.trans H; with_reducible exact b7) | with_reducible exact H | (rw [a4]; exact H) | exact H
 have b6 := Aside0.mk a4
 clear a4
 obtain ⟨⟨b1, b2, b3⟩, A2, H⟩ := bD H
 try dsimp only at H
 obtain ⟨a6, A3, H⟩ := bD H
 try dsimp only at H
 obtain ⟨⟨b8, b4, b5⟩, A4, H⟩ := bD H
 try dsimp only at H
 obtain ⟨⟨b9, c1, c2⟩, A5, H⟩ := bD H
 try dsimp only at H
 simp only [Option.some.injEq, Prod.mk.injEq] at H
 obtain ⟨rfl, rfl, rfl, rfl⟩ := H
 go_enter Tryz.func62, Tryz.ntmps62
 go_wp2_with (first | ((with_reducible refine gate_dst (N := 6) rfl ?_); refine Kd.R_lit (Kd.int .i64) _ 3 ?hg (N := 6) ?hd (xs := ([90, 60, 45, 36, 30, 20, 18, 12, 10, 6, 90, 60, 0, 50, 180, 1, (-1)] : List Int)) (inner := [.int .i64 90, .int .i64 60, .int .i64 45, .int .i64 36, .int .i64 30, .int .i64 20, .int .i64 18, .int .i64 12, .int .i64 10, .int .i64 6, .int .i64 90, .int .i64 60, .int .i64 0, .int .i64 50, .int .i64 180, .int .i64 1, .int .i64 (-1)]) (ok := fun _ => True) (okp := fun _ => True) ?hr ?hp (fun _ hk => hk) trivial (Below.refl _ _) (Nat.le_refl _) (by simp) ?_; (case hd => rfl); (case hg => rfl); (case hr => first | (go_simp; done) | (go_simp; rfl)); (case hp => exact (Reps.one (show Kd.M (Kd.int .i64) _ _ _ 90 [.int .i64 90] from rfl) (Reps.one (show Kd.M (Kd.int .i64) _ _ _ 60 [.int .i64 60] from rfl) (Reps.one (show Kd.M (Kd.int .i64) _ _ _ 45 [.int .i64 45] from rfl) (Reps.one (show Kd.M (Kd.int .i64) _ _ _ 36 [.int .i64 36] from rfl) (Reps.one (show Kd.M (Kd.int .i64) _ _ _ 30 [.int .i64 30] from rfl) (Reps.one (show Kd.M (Kd.int .i64) _ _ _ 20 [.int .i64 20] from rfl) (Reps.one (show Kd.M (Kd.int .i64) _ _ _ 18 [.int .i64 18] from rfl) (Reps.one (show Kd.M (Kd.int .i64) _ _ _ 12 [.int .i64 12] from rfl) (Reps.one (show Kd.M (Kd.int .i64) _ _ _ 10 [.int .i64 10] from rfl) (Reps.one (show Kd.M (Kd.int .i64) _ _ _ 6 [.int .i64 6] from rfl) (Reps.one (show Kd.M (Kd.int .i64) _ _ _ 90 [.int .i64 90] from rfl) (Reps.one (show Kd.M (Kd.int .i64) _ _ _ 60 [.int .i64 60] from rfl) (Reps.one (show Kd.M (Kd.int .i64) _ _ _ 0 [.int .i64 0] from rfl) (Reps.one (show Kd.M (Kd.int .i64) _ _ _ 50 [.int .i64 50] from rfl) (Reps.one (show Kd.M (Kd.int .i64) _ _ _ 180 [.int .i64 180] from rfl) (Reps.one (show Kd.M (Kd.int .i64) _ _ _ 1 [.int .i64 1] from rfl) (Reps.one (show Kd.M (Kd.int .i64) _ _ _ (-1) [.int .i64 (-1)] from rfl) (Reps.none _ _))))))))))))))))))); intro c6 w6 a9 hb hg_ hnew_; clear hg_ hnew_; (first | rw [← b6.out] at a9 | (simp only [Int.reduceToNat] at a9; rw [← b6.out] at a9)); have a3 := Aside0.mk (Kd.R_lower a9 (keep_size (w := w) (g := g) (row := none) kK)); replace HI0 := Aside0.mk (IsS51.below kI hb); replace HK := Aside0.mk (KeepBut.trans (w := w) kK (KeepBut.of_below hb g none) (.inl rfl)); replace HB := Aside0.mk (below_step bI hb); clear hb a9; obtain ⟨c3, c4, c5⟩ := Kd.R_slice a3.out; subst c5) | ((with_reducible refine gate_callee (f := 37) rfl ?_); refine goesL_ (some 7) rfl rfl Tryz.func37 kr rfl #[.pointer (some ⟨g, 0, none⟩), .slice c3 b0.length c4] rfl sM ?_; (with_reducible refine (spec_l1Cur_among.calls g s0_0 s0_1 s0_2 _ _ b0 b1 b2 b3 w0 _ ?side1 ?side2 ?side3 ?side4 ?side5 A2.out).mono ?_); (case side1 => exact kI); (case side2 => exact bI); (case side3 => repeat (first | exact (Kd.R_reads' a3.out).2.2 | (with_reducible refine Kd.C_alloc ?_ _) | (with_reducible refine Kd.C_drewN ?_ _) | (with_reducible refine Kd.C_drew ?_))); (case side4 => exact (Kd.R_reads' a3.out).2.1); (case side5 => exact far_slice (IsS51.own_ne HI0.out a3.out (by decide))); rintro e w9 ⟨rfl, hi, hb, hk⟩; refine ⟨_, rfl, ?_⟩; replace a3 := Aside0.mk (Kd.R_mono (Kd.R_keep (IsS51.apart (show IsS51 w0 _ g s0_0 s0_1 s0_2 from by repeat (first | (with_reducible first | exact HI0.out | apply IsS51.alloc | apply IsS51.drewN | apply IsS51.drew | apply IsS51.set_1 | apply IsS51.set_2) | exact HI0.out)) (oR a3) (by decide)) hk (fun _ h => h.2)) (fun _ h => h.1)); replace HK := Aside0.mk (KeepBut.trans (w := w) kK hk (.inl rfl)); replace HB := Aside0.mk (hb); replace HI0 := Aside0.mk (hi); (try clear hb); (try clear hk); (try clear hi)) | ((with_reducible refine gate_callee (f := 54) rfl ?_); refine goesL_ (some 11) rfl rfl Tryz.func54 kr rfl #[.int .i64 1, .int .i64 b1] rfl sM ?_; (with_reducible refine (spec_l1Most.calls 1 b1 a6 _ A3.out).mono ?_); rintro e w' ⟨rfl, ⟨nd, rfl⟩⟩; refine ⟨_, rfl, ?_⟩) | ((with_reducible refine gate_callee (f := 52) rfl ?_); refine goesL_ (some 13) rfl rfl Tryz.func52 kr rfl #[.pointer (some ⟨g, 0, none⟩), .int .i64 (wrap64 (a6 + 1))] rfl sM ?_; (with_reducible refine (spec_l1Cur_pick.calls g s0_0 b2 b3 (wrap64 (a6 + 1)) b8 b4 b5 w0 _ ?side1 ?side2 A4.out).mono ?_); (case side1 => exact kI); (case side2 => exact bI); rintro e c8 ⟨rfl, hi, hb, hk⟩; refine ⟨_, rfl, ?_⟩; replace a3 := Aside0.mk (Kd.R_mono (Kd.R_keep (IsS51.apart (show IsS51 w0 _ g s0_0 b2 b3 from by repeat (first | (with_reducible first | exact HI0.out | apply IsS51.alloc | apply IsS51.drewN | apply IsS51.drew | apply IsS51.set_1 | apply IsS51.set_2) | exact HI0.out)) (oR a3) (by decide)) hk (fun _ h => h.2)) (fun _ h => h.1)); replace HK := Aside0.mk (KeepBut.trans (w := w) kK hk (.inl rfl)); replace HB := Aside0.mk (hb); replace HI0 := Aside0.mk (hi); (try clear hb); (try clear hk); (try clear hi)) | ((with_reducible refine gate_callee (f := 52) rfl ?_); refine goesL_ (some 15) rfl rfl Tryz.func52 kr rfl #[.pointer (some ⟨g, 0, none⟩), .int .i64 16] rfl sM ?_; (with_reducible refine (spec_l1Cur_pick.calls g s0_0 b4 b5 16 b9 c1 c2 w0 _ ?side1 ?side2 A5.out).mono ?_); (case side1 => exact kI); (case side2 => exact bI); rintro e c9 ⟨rfl, hi, hb, hk⟩; refine ⟨_, rfl, ?_⟩; replace a3 := Aside0.mk (Kd.R_mono (Kd.R_keep (IsS51.apart (show IsS51 w0 _ g s0_0 b4 b5 from by repeat (first | (with_reducible first | exact HI0.out | apply IsS51.alloc | apply IsS51.drewN | apply IsS51.drew | apply IsS51.set_1 | apply IsS51.set_2) | exact HI0.out)) (oR a3) (by decide)) hk (fun _ h => h.2)) (fun _ h => h.1)); replace HK := Aside0.mk (KeepBut.trans (w := w) kK hk (.inl rfl)); replace HB := Aside0.mk (hb); replace HI0 := Aside0.mk (hi); (try clear hb); (try clear hk); (try clear hi)))
 go_ret2
 exact ⟨sE, kI, bI, kK⟩

end Go.Proofs.YtnmhefdjakjngaaGreatDoor.PFnMirrorsFace
