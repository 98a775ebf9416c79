-- Written by xprint.py, a program of this session, for this seat; Lean checks it.
import Derived.Test.YtcfknhmdhglmfaaGreatDoorVM
import Derived.Test.YtcfknhmdhglmfaaGreatDoorPFnLaddersWholex0
import Derived.Test.YtcfknhmdhglmfaaGreatDoorPFnLaddersWholex1
import Derived.Test.YtcfknhmdhglmfaaGreatDoorPFnLaddersWholex3
import Derived.Test.YtcfknhmdhglmfaaGreatDoorPFnLaddersWholex8
import Derived.Test.YtcfknhmdhglmfaaGreatDoorPFnLaddersWholex10
namespace Go.Proofs.YtcfknhmdhglmfaaGreatDoor.PFnLaddersWhole
open Go.Proofs.YtcfknhmdhglmfaaGreatDoorV Go.RowKit Go.Proofs.YtcfknhmdhglmfaaGreatDoorW.PrintWords Go.Proofs.YtcfknhmdhglmfaaGreatDoorW.PrintLast Go.Proofs.YtcfknhmdhglmfaaGreatDoorW.PrintMore
attribute [local go_sem] max2_int min2_int max_two min_two max_three min_three max_four min_four   -- for this text's walks alone
set_option linter.unusedVariables false
set_option linter.unusedSimpArgs false

attribute [local go_sem high] eqA25
/-! ### spec_ParseLadders: function 29 -/
def spec_ParseLadders.f (k : Nat) (a0 : ByteArray) : Option (Int × Int × Int × Bool) := (spec_clParse.f k a0).bind fun bt398 => (if bt398.2.2.2 = true then (some (bt398.1, bt398.2.1, bt398.2.2.1, true)) else (some (0, 0, 0, false)))
theorem spec_ParseLadders.mono : ∀ a0 k, LeO (spec_ParseLadders.f k a0) (spec_ParseLadders.f (k + 1) a0) := by
  intro a0 k
  unfold spec_ParseLadders.f
  repeat' first
      | (with_reducible exact spec_clParse.mono _ _)
      | (with_reducible exact LeO.refl _)
      | (with_reducible exact LeO.none _)
      | (with_reducible refine LeO.ite ?_ ?_)
      | (with_reducible refine LeO.bind ?_ (fun _ => ?_))
      | exact spec_clParse.mono _ _
      | exact LeO.none _
      | refine LeO.ite ?_ ?_
      | refine LeO.bind ?_ (fun _ => ?_)
set_option maxHeartbeats 8000000 in
set_option maxRecDepth 100000 in
theorem spec_ParseLadders.calls (k : Nat) (a0 : ByteArray) (r1 : Int) (r2 : Int) (r3 : Int) (r4 : Bool) (w : World) (h : spec_ParseLadders.f k a0 = some (r1, r2, r3, r4)) :
    Calls Tryz.prog 29 #[.string a0] w fun e w' => e = .returned (.tuple #[.agg #[.int .i64 r1, .int .i64 r2, .int .i64 r3], .bool r4]) ∧ Below w.heap.size w w' := by
 have c7 := Tryz.underlying25
 have HB := Aside0.mk (Below.refl w.heap.size w)
 have H := h
 unfold spec_ParseLadders.f at H
 clear h
 obtain ⟨⟨a3, a4, a5, a9⟩, A2, H⟩ := bD H
 try dsimp only at H
 by_cases c3 : a9 = true
 subst c3
 rw [if_pos rfl] at H
 simp only [Option.some.injEq, Prod.mk.injEq] at H
 obtain ⟨rfl, rfl, rfl, rfl⟩ := H
 rotate_left
 replace c3 := Bool.eq_false_iff.mpr c3
 subst c3
 rw [if_neg nft] at H
 simp only [Option.some.injEq, Prod.mk.injEq] at H
 obtain ⟨rfl, rfl, rfl, rfl⟩ := H
 rotate_left
 all_goals (go_enter Tryz.func29, Tryz.ntmps29)
 all_goals (go_wp2_with (first | ((with_reducible refine gate_dst (N := 2) rfl ?_); refine box_ (cs := #[.int .i64 0, .int .i64 0, .int .i64 0]) (t := 25) fun a8 hg d3 hbox hb => ?_; have a2 := Aside0.mk (hbox); have c8 := bS HB hg; have c9 := bS HB hg; replace HB := Aside0.mk (below_step bB hb); clear hb hbox hg) | ((with_reducible refine gate_callee (f := 56) rfl ?_); refine goesL_ (some 8) rfl rfl Tryz.func56 kr rfl #[.string a0] rfl sM ?_; (with_reducible refine (spec_clParse.calls k a0 a3 a4 a5 true _ A2.out).mono ?_); rintro e c4 ⟨rfl, hb⟩; refine ⟨_, rfl, ?_⟩; replace a2 := bQ a2 hb; replace HB := Aside0.mk (below_step bB hb); (try clear hb)) | ((with_reducible refine gate_dst (N := 4) rfl ?_); refine box_ (cs := #[.int .i64 0, .int .i64 0, .int .i64 0]) (t := 25) fun d0 hg d4 hbox hb => ?_; have b0 := Aside0.mk (hbox); have d1 := bS HB hg; have d2 := bS HB hg; have a6 := bL a2 hg; have a7 := bM a2 hg; replace a2 := bQ a2 hb; replace HB := Aside0.mk (below_step bB hb); clear hb hbox hg; have c5 := a7.out; have c6 := a6.out; obtain ⟨b1, b2, b3, b4, b5, b6⟩ := cf3 b0; obtain ⟨b7, b8, b9, c0, c1, c2⟩ := cf3 a2) | ((with_reducible refine gate_callee (f := 56) rfl ?_); refine goesL_ (some 8) rfl rfl Tryz.func56 kr rfl #[.string a0] rfl sM ?_; (with_reducible refine (spec_clParse.calls k a0 a3 a4 a5 false _ A2.out).mono ?_); rintro e c4 ⟨rfl, hb⟩; refine ⟨_, rfl, ?_⟩; replace a2 := bQ a2 hb; replace HB := Aside0.mk (below_step bB hb); (try clear hb))))
 ·(
 refine bodyPost_ret (results_ct rfl _ _ a8 25 #[.int .i64 a3, .int .i64 a4, .int .i64 a5] (0, 0) _ rfl (bK a2) Tryz.underlying25 rfl kr) rfl ?_
 exact ⟨sE, bI⟩
 )
 ·(
 refine bodyPost_ret (results_ct rfl _ _ a8 25 #[.int .i64 0, .int .i64 0, .int .i64 0] (0, 0) _ rfl (bK a2) Tryz.underlying25 rfl kr) rfl ?_
 exact ⟨sE, bI⟩
 )

/-! ### laws_jSame: function 57 -/
def laws_jSame.l0 : Nat → List Int → List Int → Int → Int → Option (Bool)
  | 0, _, _, _, _ => none
  | k + 1, x0, x1, x12, x13 => if x13 < x12 then (if 0 ≤ x13 then (if x13 < (x0.length : Int) then (if x13 < (x1.length : Int) then (if (rd x0 x13) = (rd x1 x13) then (laws_jSame.l0 k x0 x1 x12 (wrap64 (x13 + 1))) else (some false)) else (none)) else (none)) else (none)) else (some true)
def laws_jSame.f (k : Nat) (l0 : List Int) (l1 : List Int) : Option (Bool) := if (l0.length : Int) = (l1.length : Int) then (laws_jSame.l0 k l0 l1 (l0.length : Int) 0) else (some false)
theorem laws_jSame.mono_l : ∀ k, (∀ y0 y1 y2 y3, LeO (laws_jSame.l0 k y0 y1 y2 y3) (laws_jSame.l0 (k + 1) y0 y1 y2 y3))
  | 0 => fun _ _ _ _ r h => by simp [laws_jSame.l0] at h
  | k + 1 => by
    have ih0 := laws_jSame.mono_l k
    · intro y0 y1 y2 y3
      unfold laws_jSame.l0
      repeat' first
      | (with_reducible exact ih0 _ _ _ _)
      | (with_reducible exact LeO.refl _)
      | (with_reducible exact LeO.none _)
      | (with_reducible refine LeO.ite ?_ ?_)
      | (with_reducible refine LeO.bind ?_ (fun _ => ?_))
      | exact ih0 _ _ _ _
      | exact LeO.none _
      | refine LeO.ite ?_ ?_
      | refine LeO.bind ?_ (fun _ => ?_)
theorem laws_jSame.mono : ∀ a0 a1 k, LeO (laws_jSame.f k a0 a1) (laws_jSame.f (k + 1) a0 a1) := by
  intro a0 a1 k
  have ih0 := laws_jSame.mono_l k
  unfold laws_jSame.f
  repeat' first
      | (with_reducible exact ih0 _ _ _ _)
      | (with_reducible exact LeO.refl _)
      | (with_reducible exact LeO.none _)
      | (with_reducible refine LeO.ite ?_ ?_)
      | (with_reducible refine LeO.bind ?_ (fun _ => ?_))
      | exact ih0 _ _ _ _
      | exact LeO.none _
      | refine LeO.ite ?_ ?_
      | refine LeO.bind ?_ (fun _ => ?_)
set_option maxHeartbeats 8000000 in
set_option maxRecDepth 100000 in
theorem laws_jSame.calls (k : Nat) (A0 : Option Addr) (c0 : Nat) (l0 : List Int) (A1 : Option Addr) (c1 : Nat) (l1 : List Int) (r : Bool) (w : World) (hr0 : Kd.C (Kd.int .i64) w A0 l0.length l0) (hc0 : l0.length ≤ c0) (hr1 : Kd.C (Kd.int .i64) w A1 l1.length l1) (hc1 : l1.length ≤ c1) (h : laws_jSame.f k l0 l1 = some r) :
    Calls Tryz.prog 57 #[.slice A0 l0.length c0, .slice A1 l1.length c1] w fun e w' => e = .returned (.bool r) ∧ Drawn0 w w' := by
 have b6 := Aside0.mk hr0
 have d3 := Aside0.mk hc0
 clear hr0 hc0
 have b7 := Aside0.mk hr1
 have d4 := Aside0.mk hc1
 clear hr1 hc1
 have H := h
 unfold laws_jSame.f at H
 clear h
 by_cases c3 : (l0.length : Int) = (l1.length : Int)
 ·(
 rw [if_pos c3] at H
 obtain ⟨b1, b2⟩ := yE c3
 have b3 : (l0.length == l1.length) = true := by first | simpa using c3 | (simp at c3 ⊢; omega)
 clear c3
 have H' := Aside0.mk H
 clear H
 go_enter Tryz.func57, Tryz.ntmps57
 go_wp2
 repeat (go_quiet (fail); try go_wp2)
 go_loopg [13] k (fun kq c9 w' => ∃ (a2 : Int), c9 = .int .i64 a2 ∧ Aside0 (laws_jSame.l0 kq l0 l1 (l0.length : Int) a2 = some r) ∧ Aside0 (kq ≤ k) ∧ Drawn0 w w')
 case atStart => exact ⟨(0), sR, H', ⟨Nat.le_refl _⟩, by repeat (first | exact Drawn0.refl _ | apply Drawn0.step)⟩
 case round => (
 clear H'
 try clear b1
 try clear b2
 try clear b3
 obtain ⟨a2, rfl, HA, HK1, ⟨m1, rfl⟩⟩ := hrel
 cases gk with
 | zero => exact absurd HA.out (by simp [laws_jSame.l0])
 | succ k1 => (
 have H := HA.out
 clear HA
 simp only [laws_jSame.l0] at H
 by_cases c4 : a2 < (l0.length : Int)
 ·(
 rw [if_pos c4] at H
 have b8 : decide (a2 < (l0.length : Int)) = true := decide_eq_true c4
 clear c4
 by_cases c5 : 0 ≤ a2
 ·(
 rw [if_pos c5] at H
 have d0 : decide (0 ≤ a2) = true := decide_eq_true c5
 clear c5
 by_cases c6 : a2 < (l0.length : Int)
 ·(
 rw [if_pos c6] at H
 have d1 : decide (a2 < (l0.length : Int)) = true := decide_eq_true c6
 clear c6
 by_cases c7 : a2 < (l1.length : Int)
 ·(
 rw [if_pos c7] at H
 have d2 : decide (a2 < (l1.length : Int)) = true := decide_eq_true c7
 clear c7
 by_cases c8 : (rd l0 a2) = (rd l1 a2)
 ·(
 rw [if_pos c8] at H
 obtain ⟨b9, c2⟩ := yE c8
 clear c8
 have H' := Aside0.mk H
 clear H
 have a3 : 0 ≤ (a2 : Int) := of_decide_eq_true asm
 have a4 : a2 < (l0.length : Int) := of_decide_eq_true asm
 obtain ⟨b4, a7, a9⟩ := Kd.at_int b6.out a2 a3 a4
 cases a7
 replace a3 := eq_true a3
 replace a4 := eq_true a4
 have a5 : 0 ≤ (a2 : Int) := of_decide_eq_true asm
 have a6 : a2 < (l1.length : Int) := of_decide_eq_true asm
 obtain ⟨b5, a8, b0⟩ := Kd.at_int b7.out a2 a5 a6
 cases a8
 replace a5 := eq_true a5
 replace a6 := eq_true a6
 go_wp2
 repeat (go_quiet (fail); try go_wp2)
 go_roundg k1
 case measure => have := HK1.out; omega
 case rel => exact ⟨(wrap64 (a2 + 1)), sR, H', ⟨by have := HK1.out; omega⟩, by repeat (first | exact Drawn0.refl _ | apply Drawn0.step)⟩
 )
 ·(
 rw [if_neg c8] at H
 obtain ⟨b9, c2⟩ := nE c8
 obtain rfl := Option.some.inj H
 have a3 : 0 ≤ (a2 : Int) := of_decide_eq_true asm
 have a4 : a2 < (l0.length : Int) := of_decide_eq_true asm
 obtain ⟨b4, a7, a9⟩ := Kd.at_int b6.out a2 a3 a4
 cases a7
 replace a3 := eq_true a3
 replace a4 := eq_true a4
 have a5 : 0 ≤ (a2 : Int) := of_decide_eq_true asm
 have a6 : a2 < (l1.length : Int) := of_decide_eq_true asm
 obtain ⟨b5, a8, b0⟩ := Kd.at_int b7.out a2 a5 a6
 cases a8
 replace a5 := eq_true a5
 replace a6 := eq_true a6
 go_wp2
 repeat (go_quiet (fail); try go_wp2)
 go_ret
 exact ⟨by first | rfl | (simp; done) | (simp [*]; done), by repeat (first | exact Drawn0.refl _ | apply Drawn0.step)⟩
 )
 )
 ·(
 rw [if_neg c7] at H
 exact absurd H (by simp)
 )
 )
 ·(
 rw [if_neg c6] at H
 exact absurd H (by simp)
 )
 )
 ·(
 rw [if_neg c5] at H
 exact absurd H (by simp)
 )
 )
 ·(
 rw [if_neg c4] at H
 have b8 : decide (a2 < (l0.length : Int)) = false := decide_eq_false c4
 clear c4
 obtain rfl := Option.some.inj H
 go_wp2
 repeat (go_quiet (fail); try go_wp2)
 go_ret
 exact ⟨by first | rfl | (simp; done) | (simp [*]; done), by repeat (first | exact Drawn0.refl _ | apply Drawn0.step)⟩
 )
 )
 )
 )
 ·(
 rw [if_neg c3] at H
 obtain ⟨b1, b2⟩ := nE c3
 have b3 : (l0.length == l1.length) = false := by first | simpa using c3 | (simp at c3 ⊢; omega)
 obtain rfl := Option.some.inj H
 go_enter Tryz.func57, Tryz.ntmps57
 go_wp2
 repeat (go_quiet (fail); try go_wp2)
 go_ret
 exact ⟨by first | rfl | (simp; done) | (simp [*]; done), by repeat (first | exact Drawn0.refl _ | apply Drawn0.step)⟩
 )

/-! ### laws_jRows: function 30 -/
def laws_jRows.l0 : Nat → List (List Int) → List (List Int) → Int → Int → Option (Bool)
  | 0, _, _, _, _ => none
  | k + 1, x0, x1, x12, x13 => if x13 < x12 then (if 0 ≤ x13 then (if x13 < (x0.length : Int) then (if x13 < (x1.length : Int) then ((laws_jSame.f k (rd_L3 x0 x13) (rd_L3 x1 x13)).bind fun t407 => (if t407 = true then (laws_jRows.l0 k x0 x1 x12 (wrap64 (x13 + 1))) else (some false))) else (none)) else (none)) else (none)) else (some true)
def laws_jRows.f (k : Nat) (l0 : List (List Int)) (l1 : List (List Int)) : Option (Bool) := if (l0.length : Int) = (l1.length : Int) then (laws_jRows.l0 k l0 l1 (l0.length : Int) 0) else (some false)
theorem laws_jRows.mono_l : ∀ k, (∀ y0 y1 y2 y3, LeO (laws_jRows.l0 k y0 y1 y2 y3) (laws_jRows.l0 (k + 1) y0 y1 y2 y3))
  | 0 => fun _ _ _ _ r h => by simp [laws_jRows.l0] at h
  | k + 1 => by
    have ih0 := laws_jRows.mono_l k
    · intro y0 y1 y2 y3
      unfold laws_jRows.l0
      repeat' first
      | (with_reducible exact ih0 _ _ _ _)
      | (with_reducible exact laws_jSame.mono _ _ _)
      | (with_reducible exact LeO.refl _)
      | (with_reducible exact LeO.none _)
      | (with_reducible refine LeO.ite ?_ ?_)
      | (with_reducible refine LeO.bind ?_ (fun _ => ?_))
      | exact ih0 _ _ _ _
      | exact laws_jSame.mono _ _ _
      | exact LeO.none _
      | refine LeO.ite ?_ ?_
      | refine LeO.bind ?_ (fun _ => ?_)
theorem laws_jRows.mono : ∀ a0 a1 k, LeO (laws_jRows.f k a0 a1) (laws_jRows.f (k + 1) a0 a1) := by
  intro a0 a1 k
  have ih0 := laws_jRows.mono_l k
  unfold laws_jRows.f
  repeat' first
      | (with_reducible exact ih0 _ _ _ _)
      | (with_reducible exact laws_jSame.mono _ _ _)
      | (with_reducible exact LeO.refl _)
      | (with_reducible exact LeO.none _)
      | (with_reducible refine LeO.ite ?_ ?_)
      | (with_reducible refine LeO.bind ?_ (fun _ => ?_))
      | exact ih0 _ _ _ _
      | exact laws_jSame.mono _ _ _
      | exact LeO.none _
      | refine LeO.ite ?_ ?_
      | refine LeO.bind ?_ (fun _ => ?_)
set_option maxHeartbeats 8000000 in
set_option maxRecDepth 100000 in
theorem laws_jRows.calls (k : Nat) (A0 : Option Addr) (c0 : Nat) (l0 : List (List Int)) (A1 : Option Addr) (c1 : Nat) (l1 : List (List Int)) (r : Bool) (w : World) (hr0 : Kd.C (Kd.slice 3 (Kd.int .i64)) w A0 l0.length l0) (hc0 : l0.length ≤ c0) (hr1 : Kd.C (Kd.slice 3 (Kd.int .i64)) w A1 l1.length l1) (hc1 : l1.length ≤ c1) (h : laws_jRows.f k l0 l1 = some r) :
    Calls Tryz.prog 30 #[.slice A0 l0.length c0, .slice A1 l1.length c1] w fun e w' => e = .returned (.bool r) ∧ Drawn0 w w' := by
 have d6 := Aside0.mk hr0
 have e4 := Aside0.mk hc0
 clear hr0 hc0
 have d7 := Aside0.mk hr1
 have e5 := Aside0.mk hc1
 clear hr1 hc1
 have H := h
 unfold laws_jRows.f at H
 clear h
 by_cases c3 : (l0.length : Int) = (l1.length : Int)
 ·(
 rw [if_pos c3] at H
 obtain ⟨b9, c2⟩ := yE c3
 have c8 : (l0.length == l1.length) = true := by first | simpa using c3 | (simp at c3 ⊢; omega)
 clear c3
 have H' := Aside0.mk H
 clear H
 go_enter Tryz.func30, Tryz.ntmps30
 go_wp2
 repeat (go_quiet (fail); try go_wp2)
 go_loopg [13] k (fun kq e0 w' => ∃ (a2 : Int), e0 = .int .i64 a2 ∧ Aside0 (laws_jRows.l0 kq l0 l1 (l0.length : Int) a2 = some r) ∧ Aside0 (kq ≤ k) ∧ Drawn0 w w')
 case atStart => exact ⟨(0), sR, H', ⟨Nat.le_refl _⟩, by repeat (first | exact Drawn0.refl _ | apply Drawn0.step)⟩
 case round => (
 clear H'
 try clear b9
 try clear c2
 try clear c8
 obtain ⟨a2, rfl, HA, HK1, ⟨m1, rfl⟩⟩ := hrel
 cases gk with
 | zero => exact absurd HA.out (by simp [laws_jRows.l0])
 | succ k1 => (
 have H := HA.out
 clear HA
 simp only [laws_jRows.l0] at H
 by_cases c4 : a2 < (l0.length : Int)
 ·(
 rw [if_pos c4] at H
 have d8 : decide (a2 < (l0.length : Int)) = true := decide_eq_true c4
 clear c4
 by_cases c5 : 0 ≤ a2
 ·(
 rw [if_pos c5] at H
 have e1 : decide (0 ≤ a2) = true := decide_eq_true c5
 clear c5
 by_cases c6 : a2 < (l0.length : Int)
 ·(
 rw [if_pos c6] at H
 have e2 : decide (a2 < (l0.length : Int)) = true := decide_eq_true c6
 clear c6
 by_cases c7 : a2 < (l1.length : Int)
 ·(
 rw [if_pos c7] at H
 have e3 : decide (a2 < (l1.length : Int)) = true := decide_eq_true c7
 clear c7
 obtain ⟨d9, A8, H⟩ := bD H
 try dsimp only at H
 by_cases c9 : d9 = true
 ·(
 subst c9
 rw [if_pos rfl] at H
 have H' := Aside0.mk H
 clear H
 have b1 : 0 ≤ (a2 : Int) := of_decide_eq_true asm
 have b2 : a2 < (l0.length : Int) := of_decide_eq_true asm
 obtain ⟨d4, d0, d1, b5, b7, a7, a8⟩ := at_L3 d6.out a2 b1 b2
 cases b5
 have a3 := Aside0.mk a8
 have a4 := Aside0.mk a7
 clear a8 a7
 replace b1 := eq_true b1
 replace b2 := eq_true b2
 have b3 : 0 ≤ (a2 : Int) := of_decide_eq_true asm
 have b4 : a2 < (l1.length : Int) := of_decide_eq_true asm
 obtain ⟨d5, d2, d3, b6, b8, a9, b0⟩ := at_L3 d7.out a2 b3 b4
 cases b6
 have a5 := Aside0.mk b0
 have a6 := Aside0.mk a9
 clear b0 a9
 replace b3 := eq_true b3
 replace b4 := eq_true b4
 go_wp2_with (first | (go_at_call 57; (with_reducible refine (laws_jSame.calls k1 _ _ (rd_L3 l0 a2) _ _ (rd_L3 l1 a2) true _ ?side1 ?side2 ?side3 ?side4 A8.out).mono ?_); (case side1 => repeat (first | exact a3.out | (with_reducible refine Kd.C_alloc ?_ _) | (with_reducible refine Kd.C_drewN ?_ _) | (with_reducible refine Kd.C_drew ?_))); (case side2 => exact a4.out); (case side3 => repeat (first | exact a5.out | (with_reducible refine Kd.C_alloc ?_ _) | (with_reducible refine Kd.C_drewN ?_ _) | (with_reducible refine Kd.C_drew ?_))); (case side4 => exact a6.out); rintro e w' ⟨rfl, ⟨nd, rfl⟩⟩; (try first | exact ⟨rfl, _, World.drewN_drewN _ _ _⟩ | exact ⟨rfl, _, Eq.trans (World.drewN_drewN _ _ _) (congrArg (World.drewN _) (Nat.add_assoc _ _ _))⟩)))
 repeat (go_quiet (first | (go_at_call 57; (with_reducible refine (laws_jSame.calls k1 _ _ (rd_L3 l0 a2) _ _ (rd_L3 l1 a2) true _ ?side1 ?side2 ?side3 ?side4 A8.out).mono ?_); (case side1 => repeat (first | exact a3.out | (with_reducible refine Kd.C_alloc ?_ _) | (with_reducible refine Kd.C_drewN ?_ _) | (with_reducible refine Kd.C_drew ?_))); (case side2 => exact a4.out); (case side3 => repeat (first | exact a5.out | (with_reducible refine Kd.C_alloc ?_ _) | (with_reducible refine Kd.C_drewN ?_ _) | (with_reducible refine Kd.C_drew ?_))); (case side4 => exact a6.out); rintro e w' ⟨rfl, ⟨nd, rfl⟩⟩; (try first | exact ⟨rfl, _, World.drewN_drewN _ _ _⟩ | exact ⟨rfl, _, Eq.trans (World.drewN_drewN _ _ _) (congrArg (World.drewN _) (Nat.add_assoc _ _ _))⟩))); try go_wp2_with (first | (go_at_call 57; (with_reducible refine (laws_jSame.calls k1 _ _ (rd_L3 l0 a2) _ _ (rd_L3 l1 a2) true _ ?side1 ?side2 ?side3 ?side4 A8.out).mono ?_); (case side1 => repeat (first | exact a3.out | (with_reducible refine Kd.C_alloc ?_ _) | (with_reducible refine Kd.C_drewN ?_ _) | (with_reducible refine Kd.C_drew ?_))); (case side2 => exact a4.out); (case side3 => repeat (first | exact a5.out | (with_reducible refine Kd.C_alloc ?_ _) | (with_reducible refine Kd.C_drewN ?_ _) | (with_reducible refine Kd.C_drew ?_))); (case side4 => exact a6.out); rintro e w' ⟨rfl, ⟨nd, rfl⟩⟩; (try first | exact ⟨rfl, _, World.drewN_drewN _ _ _⟩ | exact ⟨rfl, _, Eq.trans (World.drewN_drewN _ _ _) (congrArg (World.drewN _) (Nat.add_assoc _ _ _))⟩))))
 go_roundg k1
 case measure => have := HK1.out; omega
 case rel => exact ⟨(wrap64 (a2 + 1)), sR, H', ⟨by have := HK1.out; omega⟩, by repeat (first | exact Drawn0.refl _ | apply Drawn0.step)⟩
 )
 ·(
 replace c9 := Bool.eq_false_iff.mpr c9
 subst c9
 rw [if_neg nft] at H
 obtain rfl := Option.some.inj H
 have b1 : 0 ≤ (a2 : Int) := of_decide_eq_true asm
 have b2 : a2 < (l0.length : Int) := of_decide_eq_true asm
 obtain ⟨d4, d0, d1, b5, b7, a7, a8⟩ := at_L3 d6.out a2 b1 b2
 cases b5
 have a3 := Aside0.mk a8
 have a4 := Aside0.mk a7
 clear a8 a7
 replace b1 := eq_true b1
 replace b2 := eq_true b2
 have b3 : 0 ≤ (a2 : Int) := of_decide_eq_true asm
 have b4 : a2 < (l1.length : Int) := of_decide_eq_true asm
 obtain ⟨d5, d2, d3, b6, b8, a9, b0⟩ := at_L3 d7.out a2 b3 b4
 cases b6
 have a5 := Aside0.mk b0
 have a6 := Aside0.mk a9
 clear b0 a9
 replace b3 := eq_true b3
 replace b4 := eq_true b4
 go_wp2_with (first | (go_at_call 57; (with_reducible refine (laws_jSame.calls k1 _ _ (rd_L3 l0 a2) _ _ (rd_L3 l1 a2) false _ ?side1 ?side2 ?side3 ?side4 A8.out).mono ?_); (case side1 => repeat (first | exact a3.out | (with_reducible refine Kd.C_alloc ?_ _) | (with_reducible refine Kd.C_drewN ?_ _) | (with_reducible refine Kd.C_drew ?_))); (case side2 => exact a4.out); (case side3 => repeat (first | exact a5.out | (with_reducible refine Kd.C_alloc ?_ _) | (with_reducible refine Kd.C_drewN ?_ _) | (with_reducible refine Kd.C_drew ?_))); (case side4 => exact a6.out); rintro e w' ⟨rfl, ⟨nd, rfl⟩⟩; (try first | exact ⟨rfl, _, World.drewN_drewN _ _ _⟩ | exact ⟨rfl, _, Eq.trans (World.drewN_drewN _ _ _) (congrArg (World.drewN _) (Nat.add_assoc _ _ _))⟩)))
 repeat (go_quiet (first | (go_at_call 57; (with_reducible refine (laws_jSame.calls k1 _ _ (rd_L3 l0 a2) _ _ (rd_L3 l1 a2) false _ ?side1 ?side2 ?side3 ?side4 A8.out).mono ?_); (case side1 => repeat (first | exact a3.out | (with_reducible refine Kd.C_alloc ?_ _) | (with_reducible refine Kd.C_drewN ?_ _) | (with_reducible refine Kd.C_drew ?_))); (case side2 => exact a4.out); (case side3 => repeat (first | exact a5.out | (with_reducible refine Kd.C_alloc ?_ _) | (with_reducible refine Kd.C_drewN ?_ _) | (with_reducible refine Kd.C_drew ?_))); (case side4 => exact a6.out); rintro e w' ⟨rfl, ⟨nd, rfl⟩⟩; (try first | exact ⟨rfl, _, World.drewN_drewN _ _ _⟩ | exact ⟨rfl, _, Eq.trans (World.drewN_drewN _ _ _) (congrArg (World.drewN _) (Nat.add_assoc _ _ _))⟩))); try go_wp2_with (first | (go_at_call 57; (with_reducible refine (laws_jSame.calls k1 _ _ (rd_L3 l0 a2) _ _ (rd_L3 l1 a2) false _ ?side1 ?side2 ?side3 ?side4 A8.out).mono ?_); (case side1 => repeat (first | exact a3.out | (with_reducible refine Kd.C_alloc ?_ _) | (with_reducible refine Kd.C_drewN ?_ _) | (with_reducible refine Kd.C_drew ?_))); (case side2 => exact a4.out); (case side3 => repeat (first | exact a5.out | (with_reducible refine Kd.C_alloc ?_ _) | (with_reducible refine Kd.C_drewN ?_ _) | (with_reducible refine Kd.C_drew ?_))); (case side4 => exact a6.out); rintro e w' ⟨rfl, ⟨nd, rfl⟩⟩; (try first | exact ⟨rfl, _, World.drewN_drewN _ _ _⟩ | exact ⟨rfl, _, Eq.trans (World.drewN_drewN _ _ _) (congrArg (World.drewN _) (Nat.add_assoc _ _ _))⟩))))
 go_ret
 exact ⟨by first | rfl | (simp; done) | (simp [*]; done), by repeat (first | exact Drawn0.refl _ | apply Drawn0.step)⟩
 )
 )
 ·(
 rw [if_neg c7] at H
 exact absurd H (by simp)
 )
 )
 ·(
 rw [if_neg c6] at H
 exact absurd H (by simp)
 )
 )
 ·(
 rw [if_neg c5] at H
 exact absurd H (by simp)
 )
 )
 ·(
 rw [if_neg c4] at H
 have d8 : decide (a2 < (l0.length : Int)) = false := decide_eq_false c4
 clear c4
 obtain rfl := Option.some.inj H
 go_wp2
 repeat (go_quiet (fail); try go_wp2)
 go_ret
 exact ⟨by first | rfl | (simp; done) | (simp [*]; done), by repeat (first | exact Drawn0.refl _ | apply Drawn0.step)⟩
 )
 )
 )
 )
 ·(
 rw [if_neg c3] at H
 obtain ⟨b9, c2⟩ := nE c3
 have c8 : (l0.length == l1.length) = false := by first | simpa using c3 | (simp at c3 ⊢; omega)
 obtain rfl := Option.some.inj H
 go_enter Tryz.func30, Tryz.ntmps30
 go_wp2
 repeat (go_quiet (fail); try go_wp2)
 go_ret
 exact ⟨by first | rfl | (simp; done) | (simp [*]; done), by repeat (first | exact Drawn0.refl _ | apply Drawn0.step)⟩
 )

/-! ### laws_jLadders: function 31 -/
def laws_jLadders.l0 : Nat → List (S25) → List (S25) → Int → Int → Option (Bool)
  | 0, _, _, _, _ => none
  | k + 1, x0, x1, x12, x13 => if x13 < x12 then (if 0 ≤ x13 then (if x13 < (x0.length : Int) then (if x13 < (x1.length : Int) then (if (!(((rd_T25 x0 x13).f0) == ((rd_T25 x1 x13).f0)) || (!(((rd_T25 x0 x13).f1) == ((rd_T25 x1 x13).f1)) || (!(((rd_T25 x0 x13).f2) == ((rd_T25 x1 x13).f2))))) = true then (some false) else (laws_jLadders.l0 k x0 x1 x12 (wrap64 (x13 + 1)))) else (none)) else (none)) else (none)) else (some true)
def laws_jLadders.f (k : Nat) (l0 : List (S25)) (l1 : List (S25)) : Option (Bool) := if (l0.length : Int) = (l1.length : Int) then (laws_jLadders.l0 k l0 l1 (l0.length : Int) 0) else (some false)
theorem laws_jLadders.mono_l : ∀ k, (∀ y0 y1 y2 y3, LeO (laws_jLadders.l0 k y0 y1 y2 y3) (laws_jLadders.l0 (k + 1) y0 y1 y2 y3))
  | 0 => fun _ _ _ _ r h => by simp [laws_jLadders.l0] at h
  | k + 1 => by
    have ih0 := laws_jLadders.mono_l k
    · intro y0 y1 y2 y3
      unfold laws_jLadders.l0
      repeat' first
      | (with_reducible exact ih0 _ _ _ _)
      | (with_reducible exact LeO.refl _)
      | (with_reducible exact LeO.none _)
      | (with_reducible refine LeO.ite ?_ ?_)
      | (with_reducible refine LeO.bind ?_ (fun _ => ?_))
      | exact ih0 _ _ _ _
      | exact LeO.none _
      | refine LeO.ite ?_ ?_
      | refine LeO.bind ?_ (fun _ => ?_)
theorem laws_jLadders.mono : ∀ a0 a1 k, LeO (laws_jLadders.f k a0 a1) (laws_jLadders.f (k + 1) a0 a1) := by
  intro a0 a1 k
  have ih0 := laws_jLadders.mono_l k
  unfold laws_jLadders.f
  repeat' first
      | (with_reducible exact ih0 _ _ _ _)
      | (with_reducible exact LeO.refl _)
      | (with_reducible exact LeO.none _)
      | (with_reducible refine LeO.ite ?_ ?_)
      | (with_reducible refine LeO.bind ?_ (fun _ => ?_))
      | exact ih0 _ _ _ _
      | exact LeO.none _
      | refine LeO.ite ?_ ?_
      | refine LeO.bind ?_ (fun _ => ?_)
set_option maxHeartbeats 8000000 in
set_option maxRecDepth 100000 in
theorem laws_jLadders.calls (k : Nat) (A0 : Option Addr) (c0 : Nat) (l0 : List (S25)) (A1 : Option Addr) (c1 : Nat) (l1 : List (S25)) (r : Bool) (w : World) (hr0 : Kd.C k25 w A0 l0.length l0) (hc0 : l0.length ≤ c0) (hr1 : Kd.C k25 w A1 l1.length l1) (hc1 : l1.length ≤ c1) (h : laws_jLadders.f k l0 l1 = some r) :
    Calls Tryz.prog 31 #[.slice A0 l0.length c0, .slice A1 l1.length c1] w fun e w' => e = .returned (.bool r) ∧ Drawn0 w w' := by
 have d3 := Tryz.underlying25
 have c2 := Aside0.mk hr0
 have d7 := Aside0.mk hc0
 clear hr0 hc0
 have c9 := Aside0.mk hr1
 have d8 := Aside0.mk hc1
 clear hr1 hc1
 have H := h
 unfold laws_jLadders.f at H
 clear h
 by_cases c3 : (l0.length : Int) = (l1.length : Int)
 ·(
 rw [if_pos c3] at H
 obtain ⟨b5, b6⟩ := yE c3
 have b7 : (l0.length == l1.length) = true := by first | simpa using c3 | (simp at c3 ⊢; omega)
 clear c3
 have H' := Aside0.mk H
 clear H
 go_enter Tryz.func31, Tryz.ntmps31
 go_wp2
 repeat (go_quiet (fail); try go_wp2)
 go_loopg [13] k (fun kq d2 w' => ∃ (a2 : Int), d2 = .int .i64 a2 ∧ Aside0 (laws_jLadders.l0 kq l0 l1 (l0.length : Int) a2 = some r) ∧ Aside0 (kq ≤ k) ∧ Drawn0 w w')
 case atStart => exact ⟨(0), sR, H', ⟨Nat.le_refl _⟩, by repeat (first | exact Drawn0.refl _ | apply Drawn0.step)⟩
 case round => (
 clear H'
 try clear b5
 try clear b6
 try clear b7
 obtain ⟨a2, rfl, HA, HK1, ⟨m1, rfl⟩⟩ := hrel
 cases gk with
 | zero => exact absurd HA.out (by simp [laws_jLadders.l0])
 | succ k1 => (
 have H := HA.out
 clear HA
 simp only [laws_jLadders.l0] at H
 by_cases c4 : a2 < (l0.length : Int)
 ·(
 rw [if_pos c4] at H
 have d0 : decide (a2 < (l0.length : Int)) = true := decide_eq_true c4
 clear c4
 by_cases c5 : 0 ≤ a2
 ·(
 rw [if_pos c5] at H
 have d4 : decide (0 ≤ a2) = true := decide_eq_true c5
 clear c5
 by_cases c6 : a2 < (l0.length : Int)
 ·(
 rw [if_pos c6] at H
 have d5 : decide (a2 < (l0.length : Int)) = true := decide_eq_true c6
 clear c6
 by_cases c7 : a2 < (l1.length : Int)
 ·(
 rw [if_pos c7] at H
 have d6 : decide (a2 < (l1.length : Int)) = true := decide_eq_true c7
 clear c7
 by_cases c8 : (!(((rd_T25 l0 a2).f0) == ((rd_T25 l1 a2).f0)) || (!(((rd_T25 l0 a2).f1) == ((rd_T25 l1 a2).f1)) || (!(((rd_T25 l0 a2).f2) == ((rd_T25 l1 a2).f2))))) = true
 ·(
 rw [if_pos c8] at H
 have d1 : (!(((rd_T25 l0 a2).f0) == ((rd_T25 l1 a2).f0)) || (!(((rd_T25 l0 a2).f1) == ((rd_T25 l1 a2).f1)) || (!(((rd_T25 l0 a2).f2) == ((rd_T25 l1 a2).f2))))) = true := c8
 clear c8
 obtain rfl := Option.some.inj H
 have a3 : 0 ≤ (a2 : Int) := of_decide_eq_true asm
 have a4 : a2 < (l0.length : Int) := of_decide_eq_true asm
 obtain ⟨b8, a7, a9, b0, b1⟩ := at_T25 c2.out a2 a3 a4
 cases a7
 replace a3 := eq_true a3
 replace a4 := eq_true a4
 have a5 : 0 ≤ (a2 : Int) := of_decide_eq_true asm
 have a6 : a2 < (l1.length : Int) := of_decide_eq_true asm
 obtain ⟨b9, a8, b2, b3, b4⟩ := at_T25 c9.out a2 a5 a6
 cases a8
 replace a5 := eq_true a5
 replace a6 := eq_true a6
 go_wp2
 repeat (go_quiet (fail); try go_wp2)
 go_ret
 exact ⟨by first | rfl | (simp; done) | (simp [*]; done), by repeat (first | exact Drawn0.refl _ | apply Drawn0.step)⟩
 )
 ·(
 rw [if_neg c8] at H
 have d1 : (!(((rd_T25 l0 a2).f0) == ((rd_T25 l1 a2).f0)) || (!(((rd_T25 l0 a2).f1) == ((rd_T25 l1 a2).f1)) || (!(((rd_T25 l0 a2).f2) == ((rd_T25 l1 a2).f2))))) = false := by simpa using c8
 clear c8
 have H' := Aside0.mk H
 clear H
 have a3 : 0 ≤ (a2 : Int) := of_decide_eq_true asm
 have a4 : a2 < (l0.length : Int) := of_decide_eq_true asm
 obtain ⟨b8, a7, a9, b0, b1⟩ := at_T25 c2.out a2 a3 a4
 cases a7
 replace a3 := eq_true a3
 replace a4 := eq_true a4
 have a5 : 0 ≤ (a2 : Int) := of_decide_eq_true asm
 have a6 : a2 < (l1.length : Int) := of_decide_eq_true asm
 obtain ⟨b9, a8, b2, b3, b4⟩ := at_T25 c9.out a2 a5 a6
 cases a8
 replace a5 := eq_true a5
 replace a6 := eq_true a6
 go_wp2
 repeat (go_quiet (fail); try go_wp2)
 go_roundg k1
 case measure => have := HK1.out; omega
 case rel => exact ⟨(wrap64 (a2 + 1)), sR, H', ⟨by have := HK1.out; omega⟩, by repeat (first | exact Drawn0.refl _ | apply Drawn0.step)⟩
 )
 )
 ·(
 rw [if_neg c7] at H
 exact absurd H (by simp)
 )
 )
 ·(
 rw [if_neg c6] at H
 exact absurd H (by simp)
 )
 )
 ·(
 rw [if_neg c5] at H
 exact absurd H (by simp)
 )
 )
 ·(
 rw [if_neg c4] at H
 have d0 : decide (a2 < (l0.length : Int)) = false := decide_eq_false c4
 clear c4
 obtain rfl := Option.some.inj H
 go_wp2
 repeat (go_quiet (fail); try go_wp2)
 go_ret
 exact ⟨by first | rfl | (simp; done) | (simp [*]; done), by repeat (first | exact Drawn0.refl _ | apply Drawn0.step)⟩
 )
 )
 )
 )
 ·(
 rw [if_neg c3] at H
 obtain ⟨b5, b6⟩ := nE c3
 have b7 : (l0.length == l1.length) = false := by first | simpa using c3 | (simp at c3 ⊢; omega)
 obtain rfl := Option.some.inj H
 go_enter Tryz.func31, Tryz.ntmps31
 go_wp2
 repeat (go_quiet (fail); try go_wp2)
 go_ret
 exact ⟨by first | rfl | (simp; done) | (simp [*]; done), by repeat (first | exact Drawn0.refl _ | apply Drawn0.step)⟩
 )

/-! ### strconv_Itoa: function 67 -/
def strconv_Itoa.f (a0 : Int) : Option ByteArray := if -9223372036854775808 ≤ a0 ∧ a0 ≤ 9223372036854775807 then some ⟨(Lib.itoa a0).toArray⟩ else none
theorem strconv_Itoa.calls (a0 : Int) (r : ByteArray) (w : World) (h : strconv_Itoa.f a0 = some r) (hw : PtW w) :
    Calls Tryz.prog 67 #[.int .i64 a0] w fun e w' => e = .returned (.string r) ∧ Below w.heap.size w w' := by
  unfold strconv_Itoa.f at h
  by_cases c : -9223372036854775808 ≤ a0 ∧ a0 ≤ 9223372036854775807
  · rw [if_pos c] at h
    obtain rfl := Option.some.inj h
    refine (Tryz.strconv_Itoa a0 c.1 c.2 w hw.tab).mono ?_
    rintro e w1 ⟨rfl, k, os, rfl⟩
    exact ⟨rfl, Lib.below_grow _ _ (Nat.le_refl _) _ _⟩
  · rw [if_neg c] at h
    cases h

/-! ### impl_text: function 58 -/
def impl_text.f (a0 : Int) : Option (ByteArray) := (strconv_Itoa.f a0).bind fun t410 => (some t410)
set_option maxHeartbeats 8000000 in
set_option maxRecDepth 100000 in
theorem impl_text.calls (a0 : Int) (r : ByteArray) (w : World) (h : impl_text.f a0 = some r) (hw_ : PtW w) :
    Calls Tryz.prog 58 #[.int .i64 a0] w fun e w' => e = .returned (.string r) ∧ Below w.heap.size w w' := by
 have HM := Aside0.mk hw_
 clear hw_
 have HB := Aside0.mk (Below.refl w.heap.size w)
 have H := h
 unfold impl_text.f at H
 clear h
 obtain ⟨a2, A2, H⟩ := bD H
 try dsimp only at H
 obtain rfl := Option.some.inj H
 go_enter Tryz.func58, Tryz.ntmps58
 go_wp2_with (first | ((with_reducible refine gate_callee (f := 67) rfl ?_); refine goesL_ (some 4) rfl rfl Tryz.func67 kr rfl #[.int .i64 a0] rfl sM ?_; (with_reducible refine (strconv_Itoa.calls a0 a2 _ A2.out (HM.out.below (by repeat (first | (with_reducible first | exact HB.out | apply below_alloc | apply pw_below_drewN | apply below_drew1 | refine below_set ?_ (Aside0.out (by assumption))) | exact HB.out)))).mono ?_); rintro e w3 ⟨rfl, hb⟩; refine ⟨_, rfl, ?_⟩; replace HB := Aside0.mk (below_step bB hb); (try clear hb)))
 go_ret
 exact ⟨sE, bI⟩

/-! ### impl_LaddersText: function 32 -/
def impl_LaddersText.f (a0_0 : Int) (a0_1 : Int) (a0_2 : Int) : Option (ByteArray × Bool) := (impl_AreLadders.f a0_0 a0_1 a0_2).bind fun t412 => (if t412 = true then ((impl_text.f a0_0).bind fun t413 => (if t413.size + 1 ≤ 9223372036854775807 then ((impl_text.f a0_1).bind fun t414 => (if (t413 ++ (⟨#[58]⟩ : ByteArray)).size + t414.size ≤ 9223372036854775807 then (if ((t413 ++ (⟨#[58]⟩ : ByteArray)) ++ t414).size + 1 ≤ 9223372036854775807 then ((impl_text.f a0_2).bind fun t415 => (if (((t413 ++ (⟨#[58]⟩ : ByteArray)) ++ t414) ++ (⟨#[47]⟩ : ByteArray)).size + t415.size ≤ 9223372036854775807 then (some ((((t413 ++ (⟨#[58]⟩ : ByteArray)) ++ t414) ++ (⟨#[47]⟩ : ByteArray)) ++ t415, true)) else (none))) else (none)) else (none))) else (none))) else (some ((⟨#[]⟩ : ByteArray), false)))
def impl_LaddersText.T3 : Bool × List (List Nat × List Nat) := (true, [([], []), ([0], [0]), ([1], [1]), ([2], [2]), ([], []), ([4], [4]), ([5, 2], [5]), ([3, 6], [3, 6]), ([7], [7]), ([], []), ([9], [9]), ([10, 6], [10]), ([8, 11], [8, 11]), ([12, 11, 0, 1, 2, 3, 4, 5, 6, 7, 8, 9, 10, 11, 12], [12]), ([13, 0, 1, 2, 3, 4, 5, 6, 7, 8, 9, 10, 11, 12, 13], [])])
def impl_LaddersText.B3 : List Nat := [0, 1, 3, 7, 0, 16, 55, 127, 255, 0, 512, 1655, 4095, 8191, 16383]
theorem impl_LaddersText.tab3 : rtab .any (opsOf Tryz.f32 3) = impl_LaddersText.T3 := by kernel_rfl
theorem impl_LaddersText.bits3 : waitsOk impl_LaddersText.T3.2 impl_LaddersText.B3 = true := by kernel_rfl
abbrev impl_LaddersText.pl0 : List (Nat × Option Tmp × Nat) := [q 0 7, q 4 11, q 9 16, qt 1 8, qt 5 12, qt 10 17, qo 2 9, q 3 10, qo 6 13, q 7 14, q 8 15, qo 11 18, q 12 19, q 13 2, q 14 3]
set_option maxHeartbeats 8000000 in
set_option maxRecDepth 100000 in
theorem impl_LaddersText.calls (a0_0 : Int) (a0_1 : Int) (a0_2 : Int) (r1 : ByteArray) (r2 : Bool) (w : World) (h : impl_LaddersText.f a0_0 a0_1 a0_2 = some (r1, r2)) (hw_ : PtW w) :
    Calls Tryz.prog 32 #[.agg #[.int .i64 a0_0, .int .i64 a0_1, .int .i64 a0_2]] w fun e w' => e = .returned (.tuple #[.string r1, .bool r2]) ∧ Below w.heap.size w w' := by
 have HM := Aside0.mk hw_
 clear hw_
 have d2 := Tryz.underlying25
 have HB := Aside0.mk (Below.refl w.heap.size w)
 have H := h
 unfold impl_LaddersText.f at H
 clear h
 obtain ⟨b0, A2, H⟩ := bD H
 try dsimp only at H
 by_cases c3 : b0 = true
 ·(
 subst c3
 rw [if_pos rfl] at H
 obtain ⟨a3, A4, H⟩ := bD H
 try dsimp only at H
 by_cases c5 : a3.size + 1 ≤ 9223372036854775807
 ·(
 rw [if_pos c5] at H
 have d3 := eq_true c5
 have d4 : decide (a3.size + 1 ≤ 9223372036854775807) = true := decide_eq_true c5
 try have d5 : (9223372036854775807 < a3.size + 1) = False := eq_false (Nat.not_lt.2 c5)
 obtain ⟨a4, A6, H⟩ := bD H
 try dsimp only at H
 by_cases c7 : (a3 ++ (⟨#[58]⟩ : ByteArray)).size + a4.size ≤ 9223372036854775807
 ·(
 rw [if_pos c7] at H
 have d6 := eq_true c7
 have d7 : decide ((a3 ++ (⟨#[58]⟩ : ByteArray)).size + a4.size ≤ 9223372036854775807) = true := decide_eq_true c7
 try have d8 : (9223372036854775807 < (a3 ++ (⟨#[58]⟩ : ByteArray)).size + a4.size) = False := eq_false (Nat.not_lt.2 c7)
 try have d9 : (9223372036854775807 < a3.size + 1 + a4.size) = False := eq_false (Nat.not_lt.2 (by have z_ := c7; rw [ByteArray.size_append] at z_; exact z_))
 by_cases c8 : ((a3 ++ (⟨#[58]⟩ : ByteArray)) ++ a4).size + 1 ≤ 9223372036854775807
 ·(
 rw [if_pos c8] at H
 have e0 := eq_true c8
 have e1 : decide (((a3 ++ (⟨#[58]⟩ : ByteArray)) ++ a4).size + 1 ≤ 9223372036854775807) = true := decide_eq_true c8
 try have e2 : (9223372036854775807 < ((a3 ++ (⟨#[58]⟩ : ByteArray)) ++ a4).size + 1) = False := eq_false (Nat.not_lt.2 c8)
 try have e3 : (9223372036854775807 < a3.size + 1 + a4.size + 1) = False := eq_false (Nat.not_lt.2 (by have z_ := c8; simp only [ByteArray.size_append] at z_; exact z_))
 obtain ⟨a6, A9, H⟩ := bD H
 try dsimp only at H
 by_cases a7 : (((a3 ++ (⟨#[58]⟩ : ByteArray)) ++ a4) ++ (⟨#[47]⟩ : ByteArray)).size + a6.size ≤ 9223372036854775807
 ·(
 rw [if_pos a7] at H
 have c6 := eq_true a7
 have c9 : decide ((((a3 ++ (⟨#[58]⟩ : ByteArray)) ++ a4) ++ (⟨#[47]⟩ : ByteArray)).size + a6.size ≤ 9223372036854775807) = true := decide_eq_true a7
 try have d0 : (9223372036854775807 < (((a3 ++ (⟨#[58]⟩ : ByteArray)) ++ a4) ++ (⟨#[47]⟩ : ByteArray)).size + a6.size) = False := eq_false (Nat.not_lt.2 a7)
 try have d1 : (9223372036854775807 < a3.size + 1 + a4.size + 1 + a6.size) = False := eq_false (Nat.not_lt.2 (by have z_ := a7; simp only [ByteArray.size_append] at z_; exact z_))
 simp only [Option.some.injEq, Prod.mk.injEq] at H
 obtain ⟨rfl, rfl⟩ := H
 go_enter Tryz.func32, Tryz.ntmps32
 try go_wp2_with (first | ((with_reducible refine gate_dst (N := 1) rfl ?_); refine box_ (cs := #[.int .i64 a0_0, .int .i64 a0_1, .int .i64 a0_2]) (t := 25) fun a5 hg e4 hbox hb => ?_; have a2 := Aside0.mk (hbox); have a8 := bS HB hg; have a9 := bS HB hg; replace HB := Aside0.mk (below_step bB hb); clear hb hbox hg; obtain ⟨b1, b2, b3, b4, b5, b6⟩ := cf3 a2) | ((with_reducible refine gate_callee (f := 12) rfl ?_); refine goesL_ (some 5) rfl rfl Tryz.func12 kr rfl #[.agg #[.int .i64 a0_0, .int .i64 a0_1, .int .i64 a0_2]] rfl sM ?_; (with_reducible refine (impl_AreLadders.calls a0_0 a0_1 a0_2 true _ A2.out).mono ?_); rintro e c4 ⟨rfl, hb⟩; refine ⟨_, rfl, ?_⟩; replace a2 := bQ a2 hb; replace HB := Aside0.mk (below_step bB hb); (try clear hb)))
 replace a2 := bD1 a2
 replace HB := Aside0.mk (below_drew1 HB.out)
 refine st_ 15 impl_LaddersText.pl0 (S := fun w' => w'.cell? ⟨a5, 0, none⟩ = some (.int .i64 a0_0) ∧ w'.cell? ⟨a5, 1, none⟩ = some (.int .i64 a0_1) ∧ w'.cell? ⟨a5, 2, none⟩ = some (.int .i64 a0_2)) (ds := []) impl_LaddersText.tab3 impl_LaddersText.bits3 cS (fun hHeld HT_ HW_ => ?_)
 generalize c4.drew = e5 at a2 HB hHeld ⊢
 iterate 6 (first | refine pA HT_ ?_ | refine pT HT_ HW_ hHeld ?_)
 refine pO HT_ fun K hK => ?_
 refine goes_ Tryz.func58 kr rfl #[.int .i64 a0_0] (by rfl) rfl rfl sM ?_
 with_reducible refine (impl_text.calls a0_0 a3 _ A4.out (HM.out.below (by repeat (first | (with_reducible first | exact HB.out | apply below_alloc | apply pw_below_drewN | apply below_drew1 | refine below_set ?_ (Aside0.out (by assumption))) | exact HB.out)))).mono ?_
 rintro e e6 ⟨rfl, hb⟩
 refine ⟨_, rfl, ?_⟩
 replace a2 := bQ a2 hb
 replace HB := Aside0.mk (below_step bB hb)
 try clear hb
 refine hK.out _ _ cS (fun hHeld => ?_)
 clear hK K
 refine nP ?_
 refine pA HT_ ?_
 refine pO HT_ fun K hK => ?_
 refine goes_ Tryz.func58 kr rfl #[.int .i64 a0_1] (by rfl) rfl rfl sM ?_
 with_reducible refine (impl_text.calls a0_1 a4 _ A6.out (HM.out.below (by repeat (first | (with_reducible first | exact HB.out | apply below_alloc | apply pw_below_drewN | apply below_drew1 | refine below_set ?_ (Aside0.out (by assumption))) | exact HB.out)))).mono ?_
 rintro e e7 ⟨rfl, hb⟩
 refine ⟨_, rfl, ?_⟩
 replace a2 := bQ a2 hb
 replace HB := Aside0.mk (below_step bB hb)
 try clear hb
 refine hK.out _ _ cS (fun hHeld => ?_)
 clear hK K
 refine nP ?_
 iterate 2 refine pA HT_ ?_
 refine pO HT_ fun K hK => ?_
 refine goes_ Tryz.func58 kr rfl #[.int .i64 a0_2] (by rfl) rfl rfl sM ?_
 with_reducible refine (impl_text.calls a0_2 a6 _ A9.out (HM.out.below (by repeat (first | (with_reducible first | exact HB.out | apply below_alloc | apply pw_below_drewN | apply below_drew1 | refine below_set ?_ (Aside0.out (by assumption))) | exact HB.out)))).mono ?_
 rintro e e8 ⟨rfl, hb⟩
 refine ⟨_, rfl, ?_⟩
 replace a2 := bQ a2 hb
 replace HB := Aside0.mk (below_step bB hb)
 try clear hb
 refine hK.out _ _ cS (fun hHeld => ?_)
 clear hK K
 refine nP ?_
 iterate 3 refine pA HT_ ?_
 refine pD HT_ ?_
 try go_wp2
 (try rw [dSet])
 go_ret2
 exact ⟨sE, bI⟩
 )
 ·(
 rw [if_neg a7] at H
 exact absurd H (by simp)
 )
 )
 ·(
 rw [if_neg c8] at H
 exact absurd H (by simp)
 )
 )
 ·(
 rw [if_neg c7] at H
 exact absurd H (by simp)
 )
 )
 ·(
 rw [if_neg c5] at H
 exact absurd H (by simp)
 )
 )
 ·(
 replace c3 := Bool.eq_false_iff.mpr c3
 subst c3
 rw [if_neg nft] at H
 simp only [Option.some.injEq, Prod.mk.injEq] at H
 obtain ⟨rfl, rfl⟩ := H
 go_enter Tryz.func32, Tryz.ntmps32
 go_wp2_with (first | ((with_reducible refine gate_dst (N := 1) rfl ?_); refine box_ (cs := #[.int .i64 a0_0, .int .i64 a0_1, .int .i64 a0_2]) (t := 25) fun a5 hg e9 hbox hb => ?_; have a2 := Aside0.mk (hbox); have a8 := bS HB hg; have a9 := bS HB hg; replace HB := Aside0.mk (below_step bB hb); clear hb hbox hg; obtain ⟨b7, b8, b9, c0, c1, c2⟩ := cf3 a2) | ((with_reducible refine gate_callee (f := 12) rfl ?_); refine goesL_ (some 5) rfl rfl Tryz.func12 kr rfl #[.agg #[.int .i64 a0_0, .int .i64 a0_1, .int .i64 a0_2]] rfl sM ?_; (with_reducible refine (impl_AreLadders.calls a0_0 a0_1 a0_2 false _ A2.out).mono ?_); rintro e g0 ⟨rfl, hb⟩; refine ⟨_, rfl, ?_⟩; replace a2 := bQ a2 hb; replace HB := Aside0.mk (below_step bB hb); (try clear hb)))
 go_ret2
 exact ⟨sE, bI⟩
 )

end Go.Proofs.YtcfknhmdhglmfaaGreatDoor.PFnLaddersWhole
