-- Written by xprint.py, a program of this session, for this seat; Lean checks it.
import Derived.Test.YtlmiaadpnbehgaaGreatDoorVM
import Derived.Test.YtlmiaadpnbehgaaGreatDoorPFnBeamsEndx0
import Derived.Test.YtlmiaadpnbehgaaGreatDoorPFnBeamsEndx1
import Derived.Test.YtlmiaadpnbehgaaGreatDoorPFnBeamsEndx9
import Derived.Test.YtlmiaadpnbehgaaGreatDoorPFnBeamsEndx19
namespace Go.Proofs.YtlmiaadpnbehgaaGreatDoor.PFnBeamsEnd
open Go.Proofs.YtlmiaadpnbehgaaGreatDoorV Go.RowKit Go.Proofs.YtlmiaadpnbehgaaGreatDoorW.PrintWords Go.Proofs.YtlmiaadpnbehgaaGreatDoorW.PrintLast Go.Proofs.YtlmiaadpnbehgaaGreatDoorW.PrintMore
attribute [local go_sem] max2_int min2_int max_two min_two max_three min_three max_four min_four   -- for this text's walks alone
set_option linter.unusedVariables false
set_option linter.unusedSimpArgs false

attribute [local go_sem high] eqA25
/-! ### spec_ParseTable: function 28 -/
def spec_ParseTable.f (k : Nat) (a0 : ByteArray) : Option (Int × Int × Bool) := (spec_beParse.f k a0).bind fun bt475 => (if bt475.2.2 = true then (some (bt475.1, bt475.2.1, true)) else (some (0, 0, false)))
theorem spec_ParseTable.mono : ∀ a0 k, LeO (spec_ParseTable.f k a0) (spec_ParseTable.f (k + 1) a0) := by
  intro a0 k
  unfold spec_ParseTable.f
  repeat' first
      | (with_reducible exact spec_beParse.mono _ _)
      | (with_reducible exact LeO.refl _)
      | (with_reducible exact LeO.none _)
      | (with_reducible refine LeO.ite ?_ ?_)
      | (with_reducible refine LeO.bind ?_ (fun _ => ?_))
      | exact spec_beParse.mono _ _
      | exact LeO.none _
      | refine LeO.ite ?_ ?_
      | refine LeO.bind ?_ (fun _ => ?_)
set_option maxHeartbeats 8000000 in
set_option maxRecDepth 100000 in
theorem spec_ParseTable.calls (k : Nat) (a0 : ByteArray) (r1 : Int) (r2 : Int) (r3 : Bool) (w : World) (h : spec_ParseTable.f k a0 = some (r1, r2, r3)) :
    Calls Tryz.prog 28 #[.string a0] w fun e w' => e = .returned (.tuple #[.agg #[.int .i64 r1, .int .i64 r2], .bool r3]) ∧ Below w.heap.size w w' := by
 have c1 := Tryz.underlying25
 have HB := Aside0.mk (Below.refl w.heap.size w)
 have H := h
 unfold spec_ParseTable.f at H
 clear h
 obtain ⟨⟨a3, a4, a8⟩, A2, H⟩ := bD H
 try dsimp only at H
 by_cases c3 : a8 = true
 subst c3
 rw [if_pos rfl] at H
 simp only [Option.some.injEq, Prod.mk.injEq] at H
 obtain ⟨rfl, rfl, rfl⟩ := H
 rotate_left
 replace c3 := Bool.eq_false_iff.mpr c3
 subst c3
 rw [if_neg nft] at H
 simp only [Option.some.injEq, Prod.mk.injEq] at H
 obtain ⟨rfl, rfl, rfl⟩ := H
 rotate_left
 all_goals (go_enter Tryz.func28, Tryz.ntmps28)
 all_goals (go_wp2_with (first | ((with_reducible refine gate_dst (N := 2) rfl ?_); refine box_ (cs := #[.int .i64 0, .int .i64 0]) (t := 25) fun a7 hg c8 hbox hb => ?_; have a2 := Aside0.mk (hbox); have c2 := bS HB hg; have c4 := bS HB hg; replace HB := Aside0.mk (below_step bB hb); clear hb hbox hg) | ((with_reducible refine gate_callee (f := 60) rfl ?_); refine goesL_ (some 8) rfl rfl Tryz.func60 kr rfl #[.string a0] rfl sM ?_; (with_reducible refine (spec_beParse.calls k a0 a3 a4 true _ A2.out).mono ?_); rintro e b8 ⟨rfl, hb⟩; refine ⟨_, rfl, ?_⟩; replace a2 := bQ a2 hb; replace HB := Aside0.mk (below_step bB hb); (try clear hb)) | ((with_reducible refine gate_dst (N := 4) rfl ?_); refine box_ (cs := #[.int .i64 0, .int .i64 0]) (t := 25) fun c5 hg c9 hbox hb => ?_; have a9 := Aside0.mk (hbox); have c6 := bS HB hg; have c7 := bS HB hg; have a5 := bL a2 hg; have a6 := bM a2 hg; replace a2 := bQ a2 hb; replace HB := Aside0.mk (below_step bB hb); clear hb hbox hg; have b9 := a6.out; have c0 := a5.out; obtain ⟨b0, b1, b2, b3⟩ := cf2 a9; obtain ⟨b4, b5, b6, b7⟩ := cf2 a2) | ((with_reducible refine gate_callee (f := 60) rfl ?_); refine goesL_ (some 8) rfl rfl Tryz.func60 kr rfl #[.string a0] rfl sM ?_; (with_reducible refine (spec_beParse.calls k a0 a3 a4 false _ A2.out).mono ?_); rintro e b8 ⟨rfl, hb⟩; refine ⟨_, rfl, ?_⟩; replace a2 := bQ a2 hb; replace HB := Aside0.mk (below_step bB hb); (try clear hb))))
 ·(
 refine bodyPost_ret (results_ct rfl _ _ a7 25 #[.int .i64 a3, .int .i64 a4] (0, 0) _ rfl (bK a2) Tryz.underlying25 rfl kr) rfl ?_
 exact ⟨sE, bI⟩
 )
 ·(
 refine bodyPost_ret (results_ct rfl _ _ a7 25 #[.int .i64 0, .int .i64 0] (0, 0) _ rfl (bK a2) Tryz.underlying25 rfl kr) rfl ?_
 exact ⟨sE, bI⟩
 )

/-! ### laws_jTables: function 29 -/
def laws_jTables.l0 : Nat → List (S25) → List (S25) → Int → Int → Option (Bool)
  | 0, _, _, _, _ => none
  | k + 1, x0, x1, x12, x13 => if x13 < x12 then (if 0 ≤ x13 then (if x13 < (x0.length : Int) then (if x13 < (x1.length : Int) then (if (!(((rd_T25 x0 x13).f0) == ((rd_T25 x1 x13).f0)) || (!(((rd_T25 x0 x13).f1) == ((rd_T25 x1 x13).f1)))) = true then (some false) else (laws_jTables.l0 k x0 x1 x12 (wrap64 (x13 + 1)))) else (none)) else (none)) else (none)) else (some true)
def laws_jTables.f (k : Nat) (l0 : List (S25)) (l1 : List (S25)) : Option (Bool) := if (l0.length : Int) = (l1.length : Int) then (laws_jTables.l0 k l0 l1 (l0.length : Int) 0) else (some false)
theorem laws_jTables.mono_l : ∀ k, (∀ y0 y1 y2 y3, LeO (laws_jTables.l0 k y0 y1 y2 y3) (laws_jTables.l0 (k + 1) y0 y1 y2 y3))
  | 0 => fun _ _ _ _ r h => by simp [laws_jTables.l0] at h
  | k + 1 => by
    have ih0 := laws_jTables.mono_l k
    · intro y0 y1 y2 y3
      unfold laws_jTables.l0
      repeat' first
      | (with_reducible exact ih0 _ _ _ _)
      | (with_reducible exact LeO.refl _)
      | (with_reducible exact LeO.none _)
      | (with_reducible refine LeO.ite ?_ ?_)
      | (with_reducible refine LeO.bind ?_ (fun _ => ?_))
      | exact ih0 _ _ _ _
      | exact LeO.none _
      | refine LeO.ite ?_ ?_
      | refine LeO.bind ?_ (fun _ => ?_)
theorem laws_jTables.mono : ∀ a0 a1 k, LeO (laws_jTables.f k a0 a1) (laws_jTables.f (k + 1) a0 a1) := by
  intro a0 a1 k
  have ih0 := laws_jTables.mono_l k
  unfold laws_jTables.f
  repeat' first
      | (with_reducible exact ih0 _ _ _ _)
      | (with_reducible exact LeO.refl _)
      | (with_reducible exact LeO.none _)
      | (with_reducible refine LeO.ite ?_ ?_)
      | (with_reducible refine LeO.bind ?_ (fun _ => ?_))
      | exact ih0 _ _ _ _
      | exact LeO.none _
      | refine LeO.ite ?_ ?_
      | refine LeO.bind ?_ (fun _ => ?_)
set_option maxHeartbeats 8000000 in
set_option maxRecDepth 100000 in
theorem laws_jTables.calls (k : Nat) (A0 : Option Addr) (c0 : Nat) (l0 : List (S25)) (A1 : Option Addr) (c1 : Nat) (l1 : List (S25)) (r : Bool) (w : World) (hr0 : Kd.C k25 w A0 l0.length l0) (hc0 : l0.length ≤ c0) (hr1 : Kd.C k25 w A1 l1.length l1) (hc1 : l1.length ≤ c1) (h : laws_jTables.f k l0 l1 = some r) :
    Calls Tryz.prog 29 #[.slice A0 l0.length c0, .slice A1 l1.length c1] w fun e w' => e = .returned (.bool r) ∧ Drawn0 w w' := by
 have d1 := Tryz.underlying25
 have b8 := Aside0.mk hr0
 have d5 := Aside0.mk hc0
 clear hr0 hc0
 have b9 := Aside0.mk hr1
 have d6 := Aside0.mk hc1
 clear hr1 hc1
 have H := h
 unfold laws_jTables.f at H
 clear h
 by_cases c3 : (l0.length : Int) = (l1.length : Int)
 ·(
 rw [if_pos c3] at H
 obtain ⟨b3, b4⟩ := yE c3
 have b5 : (l0.length == l1.length) = true := by first | simpa using c3 | (simp at c3 ⊢; omega)
 clear c3
 have H' := Aside0.mk H
 clear H
 go_enter Tryz.func29, Tryz.ntmps29
 go_wp2
 repeat (go_quiet (fail); try go_wp2)
 go_loopg [13] k (fun kq d0 w' => ∃ (a2 : Int), d0 = .int .i64 a2 ∧ Aside0 (laws_jTables.l0 kq l0 l1 (l0.length : Int) a2 = some r) ∧ Aside0 (kq ≤ k) ∧ Drawn0 w w')
 case atStart => exact ⟨(0), sR, H', ⟨Nat.le_refl _⟩, by repeat (first | exact Drawn0.refl _ | apply Drawn0.step)⟩
 case round => (
 clear H'
 try clear b3
 try clear b4
 try clear b5
 obtain ⟨a2, rfl, HA, HK1, ⟨m1, rfl⟩⟩ := hrel
 cases gk with
 | zero => exact absurd HA.out (by simp [laws_jTables.l0])
 | succ k1 => (
 have H := HA.out
 clear HA
 simp only [laws_jTables.l0] at H
 by_cases c4 : a2 < (l0.length : Int)
 ·(
 rw [if_pos c4] at H
 have c2 : decide (a2 < (l0.length : Int)) = true := decide_eq_true c4
 clear c4
 by_cases c5 : 0 ≤ a2
 ·(
 rw [if_pos c5] at H
 have d2 : decide (0 ≤ a2) = true := decide_eq_true c5
 clear c5
 by_cases c6 : a2 < (l0.length : Int)
 ·(
 rw [if_pos c6] at H
 have d3 : decide (a2 < (l0.length : Int)) = true := decide_eq_true c6
 clear c6
 by_cases c7 : a2 < (l1.length : Int)
 ·(
 rw [if_pos c7] at H
 have d4 : decide (a2 < (l1.length : Int)) = true := decide_eq_true c7
 clear c7
 by_cases c8 : (!(((rd_T25 l0 a2).f0) == ((rd_T25 l1 a2).f0)) || (!(((rd_T25 l0 a2).f1) == ((rd_T25 l1 a2).f1)))) = true
 ·(
 rw [if_pos c8] at H
 have c9 : (!(((rd_T25 l0 a2).f0) == ((rd_T25 l1 a2).f0)) || (!(((rd_T25 l0 a2).f1) == ((rd_T25 l1 a2).f1)))) = true := c8
 clear c8
 obtain rfl := Option.some.inj H
 have a3 : 0 ≤ (a2 : Int) := of_decide_eq_true asm
 have a4 : a2 < (l0.length : Int) := of_decide_eq_true asm
 obtain ⟨b6, a7, a9, b0⟩ := at_T25 b8.out a2 a3 a4
 cases a7
 replace a3 := eq_true a3
 replace a4 := eq_true a4
 have a5 : 0 ≤ (a2 : Int) := of_decide_eq_true asm
 have a6 : a2 < (l1.length : Int) := of_decide_eq_true asm
 obtain ⟨b7, a8, b1, b2⟩ := at_T25 b9.out a2 a5 a6
 cases a8
 replace a5 := eq_true a5
 replace a6 := eq_true a6
 go_wp2
 repeat (go_quiet (fail); try go_wp2)
 go_ret
 exact ⟨by first | rfl | (simp; done) | (simp [*]; done), by repeat (first | exact Drawn0.refl _ | apply Drawn0.step)⟩
 )
 ·(
 rw [if_neg c8] at H
 have c9 : (!(((rd_T25 l0 a2).f0) == ((rd_T25 l1 a2).f0)) || (!(((rd_T25 l0 a2).f1) == ((rd_T25 l1 a2).f1)))) = false := by simpa using c8
 clear c8
 have H' := Aside0.mk H
 clear H
 have a3 : 0 ≤ (a2 : Int) := of_decide_eq_true asm
 have a4 : a2 < (l0.length : Int) := of_decide_eq_true asm
 obtain ⟨b6, a7, a9, b0⟩ := at_T25 b8.out a2 a3 a4
 cases a7
 replace a3 := eq_true a3
 replace a4 := eq_true a4
 have a5 : 0 ≤ (a2 : Int) := of_decide_eq_true asm
 have a6 : a2 < (l1.length : Int) := of_decide_eq_true asm
 obtain ⟨b7, a8, b1, b2⟩ := at_T25 b9.out a2 a5 a6
 cases a8
 replace a5 := eq_true a5
 replace a6 := eq_true a6
 go_wp2
 repeat (go_quiet (fail); try go_wp2)
 go_roundg k1
 case measure => have := HK1.out; omega
 case rel => exact ⟨(wrap64 (a2 + 1)), sR, H', ⟨by have := HK1.out; omega⟩, by repeat (first | exact Drawn0.refl _ | apply Drawn0.step)⟩
 )
 )
 ·(
 rw [if_neg c7] at H
 exact absurd H (by simp)
 )
 )
 ·(
 rw [if_neg c6] at H
 exact absurd H (by simp)
 )
 )
 ·(
 rw [if_neg c5] at H
 exact absurd H (by simp)
 )
 )
 ·(
 rw [if_neg c4] at H
 have c2 : decide (a2 < (l0.length : Int)) = false := decide_eq_false c4
 clear c4
 obtain rfl := Option.some.inj H
 go_wp2
 repeat (go_quiet (fail); try go_wp2)
 go_ret
 exact ⟨by first | rfl | (simp; done) | (simp [*]; done), by repeat (first | exact Drawn0.refl _ | apply Drawn0.step)⟩
 )
 )
 )
 )
 ·(
 rw [if_neg c3] at H
 obtain ⟨b3, b4⟩ := nE c3
 have b5 : (l0.length == l1.length) = false := by first | simpa using c3 | (simp at c3 ⊢; omega)
 obtain rfl := Option.some.inj H
 go_enter Tryz.func29, Tryz.ntmps29
 go_wp2
 repeat (go_quiet (fail); try go_wp2)
 go_ret
 exact ⟨by first | rfl | (simp; done) | (simp [*]; done), by repeat (first | exact Drawn0.refl _ | apply Drawn0.step)⟩
 )

/-! ### spec_IsTable: function 31 -/
def spec_IsTable.f (a0_0 : Int) (a0_1 : Int) : Option (Bool) := (spec_beTable.f a0_0 a0_1).bind fun t482 => (some t482)
set_option maxHeartbeats 8000000 in
set_option maxRecDepth 100000 in
theorem spec_IsTable.calls (a0_0 : Int) (a0_1 : Int) (r : Bool) (w : World) (h : spec_IsTable.f a0_0 a0_1 = some r) :
    Calls Tryz.prog 31 #[.agg #[.int .i64 a0_0, .int .i64 a0_1]] w fun e w' => e = .returned (.bool r) ∧ Below w.heap.size w w' := by
 have b1 := Tryz.underlying25
 have HB := Aside0.mk (Below.refl w.heap.size w)
 have H := h
 unfold spec_IsTable.f at H
 clear h
 obtain ⟨a3, A2, H⟩ := bD H
 try dsimp only at H
 obtain rfl := Option.some.inj H
 go_enter Tryz.func31, Tryz.ntmps31
 go_wp2_with (first | ((with_reducible refine gate_dst (N := 1) rfl ?_); refine box_ (cs := #[.int .i64 a0_0, .int .i64 a0_1]) (t := 25) fun a8 hg w3 hbox hb => ?_; have a2 := Aside0.mk (hbox); have a9 := bS HB hg; have b0 := bS HB hg; replace HB := Aside0.mk (below_step bB hb); clear hb hbox hg; obtain ⟨a4, a5, a6, a7⟩ := cf2 a2) | ((with_reducible refine gate_callee (f := 46) rfl ?_); refine goesL_ (some 4) rfl rfl Tryz.func46 kr rfl #[.agg #[.int .i64 a0_0, .int .i64 a0_1]] rfl sM ?_; (with_reducible refine (spec_beTable.calls a0_0 a0_1 a3 _ A2.out).mono ?_); rintro e w5 ⟨rfl, hb⟩; refine ⟨_, rfl, ?_⟩; replace a2 := bQ a2 hb; replace HB := Aside0.mk (below_step bB hb); (try clear hb)))
 go_ret
 exact ⟨sE, bI⟩

end Go.Proofs.YtlmiaadpnbehgaaGreatDoor.PFnBeamsEnd
