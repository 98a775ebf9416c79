-- Written by xprint.py, a program of this session, for this seat; Lean checks it.
import Derived.Test.YtlmiaadpnbehgaaGreatDoorVM
import Derived.Test.YtlmiaadpnbehgaaGreatDoorPFnBeamsEndx0
import Derived.Test.YtlmiaadpnbehgaaGreatDoorPFnBeamsEndx3
namespace Go.Proofs.YtlmiaadpnbehgaaGreatDoor.PFnBeamsEnd
open Go.Proofs.YtlmiaadpnbehgaaGreatDoorV Go.RowKit Go.Proofs.YtlmiaadpnbehgaaGreatDoorW.PrintWords Go.Proofs.YtlmiaadpnbehgaaGreatDoorW.PrintLast Go.Proofs.YtlmiaadpnbehgaaGreatDoorW.PrintMore
attribute [local go_sem] max2_int min2_int max_two min_two max_three min_three max_four min_four   -- for this text's walks alone
set_option linter.unusedVariables false
set_option linter.unusedSimpArgs false

/-! ### spec_l1Cur_spoilt: function 57 -/
mutual
def spec_l1Cur_spoilt.l0 : Nat → ByteArray → ByteArray → Int → List Int → Int → Int → Option (ByteArray × Int × Int)
  | 0, _, _, _, _, _, _ => none
  | k + 1, x1, x2, x7, x1000, x1001, x1002 => if x7 > 0 then (spec_l1Cur_spoilt.j1 k x1 x2 x7 (decide ((x1.size : Int) > 0)) x1000 x1001 x1002) else (spec_l1Cur_spoilt.j1 k x1 x2 x7 false x1000 x1001 x1002)
def spec_l1Cur_spoilt.j1 : Nat → ByteArray → ByteArray → Int → Bool → List Int → Int → Int → Option (ByteArray × Int × Int)
  | 0, _, _, _, _, _, _, _ => none
  | k + 1, x1, x2, x7, x19, x1000, x1001, x1002 => if x19 = true then ((spec_l1Cur_pick.f x1000 x1001 x1002 (x1.size : Int)).bind fun bt135 => ((spec_l1Cur_pick.f x1000 bt135.2.1 bt135.2.2 (x2.size : Int)).bind fun bt138 => (if 0 ≤ bt138.1 then (if bt138.1 < (x2.size : Int) then ((some (([bt x2 bt138.1] : List Int) : List Int)).bind fun y141 => ((spec_l1Cur_pick.f x1000 bt138.2.1 bt138.2.2 3).bind fun bt144 => (if bt144.1 = 0 then (if 0 ≤ bt135.1 then (if bt135.1 ≤ (x1.size : Int) then (if (x1.extract 0 (bt135.1 : Int).toNat).size + (strOfNums y141).size ≤ 9223372036854775807 then (if ((x1.extract 0 (bt135.1 : Int).toNat) ++ (strOfNums y141)).size + (x1.extract (bt135.1 : Int).toNat x1.size).size ≤ 9223372036854775807 then (spec_l1Cur_spoilt.l0 k (((x1.extract 0 (bt135.1 : Int).toNat) ++ (strOfNums y141)) ++ (x1.extract (bt135.1 : Int).toNat x1.size)) x2 (wrap64 (x7 - 1)) x1000 bt144.2.1 bt144.2.2) else (none)) else (none)) else (none)) else (none)) else (if bt144.1 = 1 then (if 0 ≤ bt135.1 then (if bt135.1 ≤ (x1.size : Int) then (if (x1.extract 0 (bt135.1 : Int).toNat).size + (strOfNums y141).size ≤ 9223372036854775807 then (if 0 ≤ (wrap64 (bt135.1 + 1)) then (if (wrap64 (bt135.1 + 1)) ≤ (x1.size : Int) then (if ((x1.extract 0 (bt135.1 : Int).toNat) ++ (strOfNums y141)).size + (x1.extract ((wrap64 (bt135.1 + 1)) : Int).toNat x1.size).size ≤ 9223372036854775807 then (spec_l1Cur_spoilt.l0 k (((x1.extract 0 (bt135.1 : Int).toNat) ++ (strOfNums y141)) ++ (x1.extract ((wrap64 (bt135.1 + 1)) : Int).toNat x1.size)) x2 (wrap64 (x7 - 1)) x1000 bt144.2.1 bt144.2.2) else (none)) else (none)) else (none)) else (none)) else (none)) else (none)) else (if 0 ≤ bt135.1 then (if bt135.1 ≤ (x1.size : Int) then (if 0 ≤ (wrap64 (bt135.1 + 1)) then (if (wrap64 (bt135.1 + 1)) ≤ (x1.size : Int) then (if (x1.extract 0 (bt135.1 : Int).toNat).size + (x1.extract ((wrap64 (bt135.1 + 1)) : Int).toNat x1.size).size ≤ 9223372036854775807 then (spec_l1Cur_spoilt.l0 k ((x1.extract 0 (bt135.1 : Int).toNat) ++ (x1.extract ((wrap64 (bt135.1 + 1)) : Int).toNat x1.size)) x2 (wrap64 (x7 - 1)) x1000 bt144.2.1 bt144.2.2) else (none)) else (none)) else (none)) else (none)) else (none)))))) else (none)) else (none)))) else (some (x1, x1001, x1002))
end
def spec_l1Cur_spoilt.f (k : Nat) (s0_0 : List Int) (s0_1 : Int) (s0_2 : Int) (a1 : ByteArray) (a2 : ByteArray) : Option (ByteArray × Int × Int) := (spec_l1Cur_pick.f s0_0 s0_1 s0_2 2).bind fun bt132 => (spec_l1Cur_spoilt.l0 k a1 a2 (wrap64 (1 + bt132.1)) s0_0 bt132.2.1 bt132.2.2)
theorem spec_l1Cur_spoilt.mono_l : ∀ k, (∀ y0 y1 y2 y3 y4 y5, LeO (spec_l1Cur_spoilt.l0 k y0 y1 y2 y3 y4 y5) (spec_l1Cur_spoilt.l0 (k + 1) y0 y1 y2 y3 y4 y5)) ∧ (∀ y0 y1 y2 y3 y4 y5 y6, LeO (spec_l1Cur_spoilt.j1 k y0 y1 y2 y3 y4 y5 y6) (spec_l1Cur_spoilt.j1 (k + 1) y0 y1 y2 y3 y4 y5 y6))
  | 0 => ⟨fun _ _ _ _ _ _ r h => by simp [spec_l1Cur_spoilt.l0] at h, fun _ _ _ _ _ _ _ r h => by simp [spec_l1Cur_spoilt.j1] at h⟩
  | k + 1 => by
    obtain ⟨ih0, ih1⟩ := spec_l1Cur_spoilt.mono_l k
    refine ⟨?_, ?_⟩
    · intro y0 y1 y2 y3 y4 y5
      unfold spec_l1Cur_spoilt.l0
      repeat' first
      | (with_reducible exact ih0 _ _ _ _ _ _)
      | (with_reducible exact ih1 _ _ _ _ _ _ _)
      | (with_reducible exact LeO.refl _)
      | (with_reducible exact LeO.none _)
      | (with_reducible refine LeO.ite ?_ ?_)
      | (with_reducible refine LeO.bind ?_ (fun _ => ?_))
      | exact ih0 _ _ _ _ _ _
      | exact ih1 _ _ _ _ _ _ _
      | exact LeO.none _
      | refine LeO.ite ?_ ?_
      | refine LeO.bind ?_ (fun _ => ?_)
    · intro y0 y1 y2 y3 y4 y5 y6
      unfold spec_l1Cur_spoilt.j1
      repeat' first
      | (with_reducible exact ih0 _ _ _ _ _ _)
      | (with_reducible exact ih1 _ _ _ _ _ _ _)
      | (with_reducible exact LeO.refl _)
      | (with_reducible exact LeO.none _)
      | (with_reducible refine LeO.ite ?_ ?_)
      | (with_reducible refine LeO.bind ?_ (fun _ => ?_))
      | exact ih0 _ _ _ _ _ _
      | exact ih1 _ _ _ _ _ _ _
      | exact LeO.none _
      | refine LeO.ite ?_ ?_
      | refine LeO.bind ?_ (fun _ => ?_)
theorem spec_l1Cur_spoilt.mono : ∀ a0 a1 a2 a3 a4 k, LeO (spec_l1Cur_spoilt.f k a0 a1 a2 a3 a4) (spec_l1Cur_spoilt.f (k + 1) a0 a1 a2 a3 a4) := by
  intro a0 a1 a2 a3 a4 k
  obtain ⟨ih0, ih1⟩ := spec_l1Cur_spoilt.mono_l k
  unfold spec_l1Cur_spoilt.f
  repeat' first
      | (with_reducible exact ih0 _ _ _ _ _ _)
      | (with_reducible exact ih1 _ _ _ _ _ _ _)
      | (with_reducible exact LeO.refl _)
      | (with_reducible exact LeO.none _)
      | (with_reducible refine LeO.ite ?_ ?_)
      | (with_reducible refine LeO.bind ?_ (fun _ => ?_))
      | exact ih0 _ _ _ _ _ _
      | exact ih1 _ _ _ _ _ _ _
      | exact LeO.none _
      | refine LeO.ite ?_ ?_
      | refine LeO.bind ?_ (fun _ => ?_)
set_option maxHeartbeats 8000000 in
set_option maxRecDepth 100000 in
theorem spec_l1Cur_spoilt.calls (k : Nat) (g : Nat) (s0_0 : List Int) (s0_1 : Int) (s0_2 : Int) (a1 : ByteArray) (a2 : ByteArray) (r1 : ByteArray) (r2 : Int) (r3 : Int) (w0 w : World) (hI : IsS73 w0 w g s0_0 s0_1 s0_2) (hB : Below w0.heap.size w0 w) (h : spec_l1Cur_spoilt.f k s0_0 s0_1 s0_2 a1 a2 = some (r1, r2, r3)) :
    Calls Tryz.prog 57 #[.pointer (some ⟨g, 0, none⟩), .string a1, .string a2] w fun e w' => e = .returned (.string r1) ∧ IsS73 w0 w' g s0_0 r2 r3 ∧ Below w0.heap.size w0 w' ∧ KeepBut w w' g none := by
 have HI0 := Aside0.mk hI
 have HK := Aside0.mk (KeepBut.refl w g none)
 have HL := Aside0.mk hB.size
 clear hI
 have n8 := Aside0.mk hB.size
 have HB := Aside0.mk hB
 clear hB
 have H := h
 unfold spec_l1Cur_spoilt.f at H
 clear h
 obtain ⟨⟨e1, e2, e3⟩, A4, H⟩ := bD H
 try dsimp only at H
 have H' := Aside0.mk H
 clear H
 go_enter Tryz.func57, Tryz.ntmps57
 go_wp2_with (first | (go_at_call 52; (with_reducible refine (spec_l1Cur_pick.calls g s0_0 s0_1 s0_2 2 e1 e2 e3 w0 _ ?side1 ?side2 A4.out).mono ?_); (case side1 => exact kI); (case side2 => exact bI); rintro e w5 ⟨rfl, hi, hb, hk⟩; replace HK := Aside0.mk (KeepBut.trans (w := w) kK hk (.inl rfl)); replace HB := Aside0.mk (hb); replace HI0 := Aside0.mk (hi); (try clear hb); (try clear hk); (try clear hi)))
 repeat (go_quiet (first | (go_at_call 52; (with_reducible refine (spec_l1Cur_pick.calls g s0_0 s0_1 s0_2 2 e1 e2 e3 w0 _ ?side1 ?side2 A4.out).mono ?_); (case side1 => exact kI); (case side2 => exact bI); rintro e w5 ⟨rfl, hi, hb, hk⟩; replace HK := Aside0.mk (KeepBut.trans (w := w) kK hk (.inl rfl)); replace HB := Aside0.mk (hb); replace HI0 := Aside0.mk (hi); (try clear hb); (try clear hk); (try clear hi))); try go_wp2_with (first | (go_at_call 52; (with_reducible refine (spec_l1Cur_pick.calls g s0_0 s0_1 s0_2 2 e1 e2 e3 w0 _ ?side1 ?side2 A4.out).mono ?_); (case side1 => exact kI); (case side2 => exact bI); rintro e w5 ⟨rfl, hi, hb, hk⟩; replace HK := Aside0.mk (KeepBut.trans (w := w) kK hk (.inl rfl)); replace HB := Aside0.mk (hb); replace HI0 := Aside0.mk (hi); (try clear hb); (try clear hk); (try clear hi))))
 go_loopg [1, 7] k (fun kq v1 v7 w' => ∃ (a5 : ByteArray) (c2 : Int) (b1 : Int) (b2 : Int), v1 = .string a5 ∧ v7 = .int .i64 c2 ∧ Aside0 (spec_l1Cur_spoilt.l0 kq a5 a2 c2 s0_0 b1 b2 = some (r1, r2, r3)) ∧ Aside0 (kq ≤ k) ∧ Aside0 (IsS73 w0 w' g s0_0 b1 b2) ∧ Aside0 (KeepBut w w' g none) ∧ Aside0 (Below w0.heap.size w0 w'))
 case atStart => exact ⟨(a1), (wrap64 (1 + e1)), (e2), (e3), sR, sR, H', ⟨Nat.le_refl _⟩, ⟨kI⟩, ⟨kK⟩, ⟨bI⟩⟩
 case round => (
 clear H'
 obtain ⟨a5, c2, b1, b2, rfl, rfl, HA, HK1, HI0, HK, HB⟩ := hrel
 cases gk with
 | zero => exact absurd HA.out (by simp [spec_l1Cur_spoilt.l0])
 | succ k1 => (
 have H := HA.out
 clear HA
 simp only [spec_l1Cur_spoilt.l0] at H
 have h6 := Aside0.mk H
 clear H
 go_upto_region 2 with (fail)
 repeat (go_quiet (fail); go_upto_region 2 with (fail))
 go_cut [19] (fun j5 wc => ∃ (kq : Nat) (d8 : Bool), j5 = .bool d8 ∧ Aside0 (spec_l1Cur_spoilt.j1 kq a5 a2 c2 d8 s0_0 b1 b2 = some (r1, r2, r3)) ∧ Aside0 (kq ≤ k1) ∧ Aside0 (IsS73 w0 wc g s0_0 b1 b2) ∧ Aside0 (KeepBut w wc g none) ∧ Aside0 (Below w0.heap.size w0 wc))
 case first => (
 have H := h6.out
 clear h6
 by_cases c7 : c2 > 0
 ·(
 rw [if_pos c7] at H
 have d9 : decide (0 < c2) = true := decide_eq_true c7
 clear c7
 (first | rw [d9] | (simp only [i64_w, i32_w]; rw [d9]) | skip)
 have H' := Aside0.mk H
 clear H
 go_wp2
 repeat (go_quiet (fail); try go_wp2)
 go_meet
 case rel => exact ⟨_, (decide ((a5.size : Int) > 0)), sR, H', ⟨by have := HK1.out; first | omega | exact Nat.le_refl _⟩, ⟨kI⟩, ⟨kK⟩, ⟨bI⟩⟩
 )
 ·(
 rw [if_neg c7] at H
 have d9 : decide (0 < c2) = false := decide_eq_false c7
 clear c7
 (first | rw [d9] | (simp only [i64_w, i32_w]; rw [d9]) | skip)
 have H' := Aside0.mk H
 clear H
 go_wp2
 repeat (go_quiet (fail); try go_wp2)
 go_meet
 case rel => exact ⟨_, (false), sR, H', ⟨by have := HK1.out; first | omega | exact Nat.le_refl _⟩, ⟨kI⟩, ⟨kK⟩, ⟨bI⟩⟩
 )
 )
 case rest => (
 clear h6
 obtain ⟨kq, d8, rfl, HA, HJ5, HI0, HK, HB⟩ := hcut
 cases kq with
 | zero => exact absurd HA.out (by simp [spec_l1Cur_spoilt.j1])
 | succ e0 => (
 have H := HA.out
 clear HA
 simp only [spec_l1Cur_spoilt.j1] at H
 by_cases c8 : d8 = true
 ·(
 subst c8
 rw [if_pos rfl] at H
 obtain ⟨⟨a7, b7, b8⟩, A9, H⟩ := bD H
 try dsimp only at H
 obtain ⟨⟨a6, a9, b0⟩, d3, H⟩ := bD H
 try dsimp only at H
 by_cases h1 : 0 ≤ a6
 ·(
 rw [if_pos h1] at H
 have j8 : decide (0 ≤ a6) = true := decide_eq_true h1
 clear h1
 by_cases h2 : a6 < (a2.size : Int)
 ·(
 rw [if_pos h2] at H
 have j9 : decide (a6 < (a2.size : Int)) = true := decide_eq_true h2
 clear h2
 obtain ⟨b4, d7⟩ : ∃ y_ : List Int, y_ = (([bt a2 a6] : List Int)) := ⟨_, rfl⟩
 replace H : ((spec_l1Cur_pick.f s0_0 a9 b0 3).bind fun c6 => (if c6.1 = 0 then (if 0 ≤ a7 then (if a7 ≤ (a5.size : Int) then (if (a5.extract 0 (a7 : Int).toNat).size + (strOfNums b4).size ≤ 9223372036854775807 then (if ((a5.extract 0 (a7 : Int).toNat) ++ (strOfNums b4)).size + (a5.extract (a7 : Int).toNat a5.size).size ≤ 9223372036854775807 then (spec_l1Cur_spoilt.l0 e0 (((a5.extract 0 (a7 : Int).toNat) ++ (strOfNums b4)) ++ (a5.extract (a7 : Int).toNat a5.size)) a2 (wrap64 (c2 - 1)) s0_0 c6.2.1 c6.2.2) else (none)) else (none)) else (none)) else (none)) else (if c6.1 = 1 then (if 0 ≤ a7 then (if a7 ≤ (a5.size : Int) then (if (a5.extract 0 (a7 : Int).toNat).size + (strOfNums b4).size ≤ 9223372036854775807 then (if 0 ≤ (wrap64 (a7 + 1)) then (if (wrap64 (a7 + 1)) ≤ (a5.size : Int) then (if ((a5.extract 0 (a7 : Int).toNat) ++ (strOfNums b4)).size + (a5.extract ((wrap64 (a7 + 1)) : Int).toNat a5.size).size ≤ 9223372036854775807 then (spec_l1Cur_spoilt.l0 e0 (((a5.extract 0 (a7 : Int).toNat) ++ (strOfNums b4)) ++ (a5.extract ((wrap64 (a7 + 1)) : Int).toNat a5.size)) a2 (wrap64 (c2 - 1)) s0_0 c6.2.1 c6.2.2) else (none)) else (none)) else (none)) else (none)) else (none)) else (none)) else (if 0 ≤ a7 then (if a7 ≤ (a5.size : Int) then (if 0 ≤ (wrap64 (a7 + 1)) then (if (wrap64 (a7 + 1)) ≤ (a5.size : Int) then (if (a5.extract 0 (a7 : Int).toNat).size + (a5.extract ((wrap64 (a7 + 1)) : Int).toNat a5.size).size ≤ 9223372036854775807 then (spec_l1Cur_spoilt.l0 e0 ((a5.extract 0 (a7 : Int).toNat) ++ (a5.extract ((wrap64 (a7 + 1)) : Int).toNat a5.size)) a2 (wrap64 (c2 - 1)) s0_0 c6.2.1 c6.2.2) else (none)) else (none)) else (none)) else (none)) else (none))))) = some (r1, r2, r3) := by first | (rw [d7]; with_reducible exact H) | (have h7 := (Option.bind_some _ _).symm.trans H; rw [d7]; with_reducible exact h7) | (have h7 := (Option.bind_some _ _).symm.trans H; with_reducible exact h7) | with_reducible exact H | (rw [d7]; exact H) | exact H
 have b3 := Aside0.mk d7
 clear d7
 obtain ⟨⟨c5, c3, c4⟩, d4, H⟩ := bD H
 try dsimp only at H
 by_cases e4 : c5 = 0
 ·(
 rw [if_pos e4] at H
 obtain ⟨h8, h9⟩ := yE e4
 clear e4
 by_cases e5 : 0 ≤ a7
 ·(
 rw [if_pos e5] at H
 have k0 := eq_true e5
 have k2 : decide (0 ≤ a7) = true := decide_eq_true e5
 clear e5
 by_cases e6 : a7 ≤ (a5.size : Int)
 ·(
 rw [if_pos e6] at H
 have k3 := eq_true e6
 have k4 : decide (a7 ≤ (a5.size : Int)) = true := decide_eq_true e6
 clear e6
 by_cases e7 : (a5.extract 0 (a7 : Int).toNat).size + (strOfNums b4).size ≤ 9223372036854775807
 ·(
 rw [if_pos e7] at H
 have k5 := eq_true e7
 have k6 : decide ((a5.extract 0 (a7 : Int).toNat).size + (strOfNums b4).size ≤ 9223372036854775807) = true := decide_eq_true e7
 try have k7 : (9223372036854775807 < (a5.extract 0 (a7 : Int).toNat).size + (strOfNums b4).size) = False := eq_false (Nat.not_lt.2 e7)
 have k8 := eq_true (of_decide_eq_true asm : 0 ≤ a7)
 have k9 := eq_true (of_decide_eq_true asm : a7 ≤ (a5.size : Int))
 by_cases e8 : ((a5.extract 0 (a7 : Int).toNat) ++ (strOfNums b4)).size + (a5.extract (a7 : Int).toNat a5.size).size ≤ 9223372036854775807
 ·(
 rw [if_pos e8] at H
 have l0 := eq_true e8
 have l1 : decide (((a5.extract 0 (a7 : Int).toNat) ++ (strOfNums b4)).size + (a5.extract (a7 : Int).toNat a5.size).size ≤ 9223372036854775807) = true := decide_eq_true e8
 try have l2 : (9223372036854775807 < ((a5.extract 0 (a7 : Int).toNat) ++ (strOfNums b4)).size + (a5.extract (a7 : Int).toNat a5.size).size) = False := eq_false (Nat.not_lt.2 e8)
 have H' := Aside0.mk H
 clear H
 go_wp2_with (first | (go_at_call 52; (with_reducible refine (spec_l1Cur_pick.calls g s0_0 b1 b2 (a5.size : Int) a7 b7 b8 w0 _ ?side1 ?side2 A9.out).mono ?_); (case side1 => exact kI); (case side2 => exact bI); rintro e i2 ⟨rfl, hi, hb, hk⟩; replace HK := Aside0.mk (KeepBut.trans (w := w) kK hk (.inl rfl)); replace HB := Aside0.mk (hb); replace HI0 := Aside0.mk (hi); (try clear hb); (try clear hk); (try clear hi)) | (go_at_call 52; (with_reducible refine (spec_l1Cur_pick.calls g s0_0 b7 b8 (a2.size : Int) a6 a9 b0 w0 _ ?side1 ?side2 d3.out).mono ?_); (case side1 => exact kI); (case side2 => exact bI); rintro e i3 ⟨rfl, hi, hb, hk⟩; replace HK := Aside0.mk (KeepBut.trans (w := w) kK hk (.inl rfl)); replace HB := Aside0.mk (hb); replace HI0 := Aside0.mk (hi); (try clear hb); (try clear hk); (try clear hi); have b5 : 0 ≤ (a6 : Int) := of_decide_eq_true asm; have b6 : a6 < (a2.size : Int) := of_decide_eq_true asm; have d5 := bt_at a2 a6; replace b5 := eq_true b5; replace b6 := eq_true b6) | ((with_reducible refine gate_dst (N := 32) rfl ?_); (try (refine gate_guard (by rfl) ?_; dsimp only)); refine Kd.R_lit (Kd.int .u8) _ 5 ?hg (N := 32) ?hd (xs := ([bt a2 a6] : List Int)) (inner := [.int .u8 (bt a2 a6)]) (ok := fun _ => True) (okp := fun _ => True) ?hr ?hp (fun _ hk => hk) trivial (Below.refl _ _) (Nat.le_refl _) (by simp) ?_; (case hd => rfl); (case hg => rfl); (case hr => first | (go_simp; done) | (go_simp; rfl)); (case hp => exact (Reps.one (show Kd.M (Kd.int .u8) _ _ _ (bt a2 a6) [.int .u8 (bt a2 a6)] from rfl) (Reps.none _ _))); intro d6 i4 b9 hb hg_ hnew_; clear hg_ hnew_; (first | rw [← b3.out] at b9 | (simp only [Int.reduceToNat] at b9; rw [← b3.out] at b9)); have a8 := Aside0.mk (Kd.R_lower b9 (keep_size (w := w) (g := g) (row := none) kK)); replace HI0 := Aside0.mk (IsS73.below kI hb); replace HK := Aside0.mk (KeepBut.trans (w := w) kK (KeepBut.of_below hb g none) (.inl rfl)); replace HB := Aside0.mk (below_step bI hb); clear hb b9; have h3 := own_string (P := Tryz.prog) Tryz.underlying22 Tryz.underlying5 Tryz.underlying9 (Kd.own_of_R a8.out)) | (go_at_call 52; (with_reducible refine (spec_l1Cur_pick.calls g s0_0 a9 b0 3 c5 c3 c4 w0 _ ?side1 ?side2 d4.out).mono ?_); (case side1 => exact kI); (case side2 => exact bI); rintro e i5 ⟨rfl, hi, hb, hk⟩; replace a8 := Aside0.mk (Kd.R_mono (Kd.R_keep (IsS73.apart (show IsS73 w0 _ g s0_0 a9 b0 from by repeat (first | (with_reducible first | exact HI0.out | apply IsS73.alloc | apply IsS73.drewN | apply IsS73.drew | apply IsS73.set_1 | apply IsS73.set_2) | exact HI0.out)) (oR a8) (by decide)) hk (fun _ h => h.2)) (fun _ h => h.1)); replace HK := Aside0.mk (KeepBut.trans (w := w) kK hk (.inl rfl)); replace HB := Aside0.mk (hb); replace HI0 := Aside0.mk (hi); (try clear hb); (try clear hk); (try clear hi)))
 repeat (go_quiet (first | (go_at_call 52; (with_reducible refine (spec_l1Cur_pick.calls g s0_0 b1 b2 (a5.size : Int) a7 b7 b8 w0 _ ?side1 ?side2 A9.out).mono ?_); (case side1 => exact kI); (case side2 => exact bI); rintro e i2 ⟨rfl, hi, hb, hk⟩; replace HK := Aside0.mk (KeepBut.trans (w := w) kK hk (.inl rfl)); replace HB := Aside0.mk (hb); replace HI0 := Aside0.mk (hi); (try clear hb); (try clear hk); (try clear hi)) | (go_at_call 52; (with_reducible refine (spec_l1Cur_pick.calls g s0_0 b7 b8 (a2.size : Int) a6 a9 b0 w0 _ ?side1 ?side2 d3.out).mono ?_); (case side1 => exact kI); (case side2 => exact bI); rintro e i3 ⟨rfl, hi, hb, hk⟩; replace HK := Aside0.mk (KeepBut.trans (w := w) kK hk (.inl rfl)); replace HB := Aside0.mk (hb); replace HI0 := Aside0.mk (hi); (try clear hb); (try clear hk); (try clear hi); have b5 : 0 ≤ (a6 : Int) := of_decide_eq_true asm; have b6 : a6 < (a2.size : Int) := of_decide_eq_true asm; have d5 := bt_at a2 a6; replace b5 := eq_true b5; replace b6 := eq_true b6) | ((with_reducible refine gate_dst (N := 32) rfl ?_); (try (refine gate_guard (by rfl) ?_; dsimp only)); refine Kd.R_lit (Kd.int .u8) _ 5 ?hg (N := 32) ?hd (xs := ([bt a2 a6] : List Int)) (inner := [.int .u8 (bt a2 a6)]) (ok := fun _ => True) (okp := fun _ => True) ?hr ?hp (fun _ hk => hk) trivial (Below.refl _ _) (Nat.le_refl _) (by simp) ?_; (case hd => rfl); (case hg => rfl); (case hr => first | (go_simp; done) | (go_simp; rfl)); (case hp => exact (Reps.one (show Kd.M (Kd.int .u8) _ _ _ (bt a2 a6) [.int .u8 (bt a2 a6)] from rfl) (Reps.none _ _))); intro d6 i4 b9 hb hg_ hnew_; clear hg_ hnew_; (first | rw [← b3.out] at b9 | (simp only [Int.reduceToNat] at b9; rw [← b3.out] at b9)); have a8 := Aside0.mk (Kd.R_lower b9 (keep_size (w := w) (g := g) (row := none) kK)); replace HI0 := Aside0.mk (IsS73.below kI hb); replace HK := Aside0.mk (KeepBut.trans (w := w) kK (KeepBut.of_below hb g none) (.inl rfl)); replace HB := Aside0.mk (below_step bI hb); clear hb b9; have h3 := own_string (P := Tryz.prog) Tryz.underlying22 Tryz.underlying5 Tryz.underlying9 (Kd.own_of_R a8.out)) | (go_at_call 52; (with_reducible refine (spec_l1Cur_pick.calls g s0_0 a9 b0 3 c5 c3 c4 w0 _ ?side1 ?side2 d4.out).mono ?_); (case side1 => exact kI); (case side2 => exact bI); rintro e i5 ⟨rfl, hi, hb, hk⟩; replace a8 := Aside0.mk (Kd.R_mono (Kd.R_keep (IsS73.apart (show IsS73 w0 _ g s0_0 a9 b0 from by repeat (first | (with_reducible first | exact HI0.out | apply IsS73.alloc | apply IsS73.drewN | apply IsS73.drew | apply IsS73.set_1 | apply IsS73.set_2) | exact HI0.out)) (oR a8) (by decide)) hk (fun _ h => h.2)) (fun _ h => h.1)); replace HK := Aside0.mk (KeepBut.trans (w := w) kK hk (.inl rfl)); replace HB := Aside0.mk (hb); replace HI0 := Aside0.mk (hi); (try clear hb); (try clear hk); (try clear hi))); try go_wp2_with (first | (go_at_call 52; (with_reducible refine (spec_l1Cur_pick.calls g s0_0 b1 b2 (a5.size : Int) a7 b7 b8 w0 _ ?side1 ?side2 A9.out).mono ?_); (case side1 => exact kI); (case side2 => exact bI); rintro e i2 ⟨rfl, hi, hb, hk⟩; replace HK := Aside0.mk (KeepBut.trans (w := w) kK hk (.inl rfl)); replace HB := Aside0.mk (hb); replace HI0 := Aside0.mk (hi); (try clear hb); (try clear hk); (try clear hi)) | (go_at_call 52; (with_reducible refine (spec_l1Cur_pick.calls g s0_0 b7 b8 (a2.size : Int) a6 a9 b0 w0 _ ?side1 ?side2 d3.out).mono ?_); (case side1 => exact kI); (case side2 => exact bI); rintro e i3 ⟨rfl, hi, hb, hk⟩; replace HK := Aside0.mk (KeepBut.trans (w := w) kK hk (.inl rfl)); replace HB := Aside0.mk (hb); replace HI0 := Aside0.mk (hi); (try clear hb); (try clear hk); (try clear hi); have b5 : 0 ≤ (a6 : Int) := of_decide_eq_true asm; have b6 : a6 < (a2.size : Int) := of_decide_eq_true asm; have d5 := bt_at a2 a6; replace b5 := eq_true b5; replace b6 := eq_true b6) | ((with_reducible refine gate_dst (N := 32) rfl ?_); (try (refine gate_guard (by rfl) ?_; dsimp only)); refine Kd.R_lit (Kd.int .u8) _ 5 ?hg (N := 32) ?hd (xs := ([bt a2 a6] : List Int)) (inner := [.int .u8 (bt a2 a6)]) (ok := fun _ => True) (okp := fun _ => True) ?hr ?hp (fun _ hk => hk) trivial (Below.refl _ _) (Nat.le_refl _) (by simp) ?_; (case hd => rfl); (case hg => rfl); (case hr => first | (go_simp; done) | (go_simp; rfl)); (case hp => exact (Reps.one (show Kd.M (Kd.int .u8) _ _ _ (bt a2 a6) [.int .u8 (bt a2 a6)] from rfl) (Reps.none _ _))); intro d6 i4 b9 hb hg_ hnew_; clear hg_ hnew_; (first | rw [← b3.out] at b9 | (simp only [Int.reduceToNat] at b9; rw [← b3.out] at b9)); have a8 := Aside0.mk (Kd.R_lower b9 (keep_size (w := w) (g := g) (row := none) kK)); replace HI0 := Aside0.mk (IsS73.below kI hb); replace HK := Aside0.mk (KeepBut.trans (w := w) kK (KeepBut.of_below hb g none) (.inl rfl)); replace HB := Aside0.mk (below_step bI hb); clear hb b9; have h3 := own_string (P := Tryz.prog) Tryz.underlying22 Tryz.underlying5 Tryz.underlying9 (Kd.own_of_R a8.out)) | (go_at_call 52; (with_reducible refine (spec_l1Cur_pick.calls g s0_0 a9 b0 3 c5 c3 c4 w0 _ ?side1 ?side2 d4.out).mono ?_); (case side1 => exact kI); (case side2 => exact bI); rintro e i5 ⟨rfl, hi, hb, hk⟩; replace a8 := Aside0.mk (Kd.R_mono (Kd.R_keep (IsS73.apart (show IsS73 w0 _ g s0_0 a9 b0 from by repeat (first | (with_reducible first | exact HI0.out | apply IsS73.alloc | apply IsS73.drewN | apply IsS73.drew | apply IsS73.set_1 | apply IsS73.set_2) | exact HI0.out)) (oR a8) (by decide)) hk (fun _ h => h.2)) (fun _ h => h.1)); replace HK := Aside0.mk (KeepBut.trans (w := w) kK hk (.inl rfl)); replace HB := Aside0.mk (hb); replace HI0 := Aside0.mk (hi); (try clear hb); (try clear hk); (try clear hi))))
 go_roundg e0
 case measure => have := HK1.out; have := HJ5.out; omega
 case rel => exact ⟨(((a5.extract 0 (a7 : Int).toNat) ++ (strOfNums b4)) ++ (a5.extract (a7 : Int).toNat a5.size)), (wrap64 (c2 - 1)), (c3), (c4), sR, sR, H', ⟨by have := HK1.out; have := HJ5.out; omega⟩, ⟨kI⟩, ⟨kK⟩, ⟨bI⟩⟩
 )
 ·(
 rw [if_neg e8] at H
 exact absurd H (by simp)
 )
 )
 ·(
 rw [if_neg e7] at H
 exact absurd H (by simp)
 )
 )
 ·(
 rw [if_neg e6] at H
 exact absurd H (by simp)
 )
 )
 ·(
 rw [if_neg e5] at H
 exact absurd H (by simp)
 )
 )
 ·(
 rw [if_neg e4] at H
 obtain ⟨h8, h9⟩ := nE e4
 by_cases e9 : c5 = 1
 ·(
 rw [if_pos e9] at H
 obtain ⟨i0, i1⟩ := yE e9
 clear e9
 by_cases g0 : 0 ≤ a7
 ·(
 rw [if_pos g0] at H
 have l3 := eq_true g0
 have l4 : decide (0 ≤ a7) = true := decide_eq_true g0
 clear g0
 by_cases g1 : a7 ≤ (a5.size : Int)
 ·(
 rw [if_pos g1] at H
 have l5 := eq_true g1
 have l6 : decide (a7 ≤ (a5.size : Int)) = true := decide_eq_true g1
 clear g1
 by_cases g2 : (a5.extract 0 (a7 : Int).toNat).size + (strOfNums b4).size ≤ 9223372036854775807
 ·(
 rw [if_pos g2] at H
 have l7 := eq_true g2
 have l8 : decide ((a5.extract 0 (a7 : Int).toNat).size + (strOfNums b4).size ≤ 9223372036854775807) = true := decide_eq_true g2
 try have l9 : (9223372036854775807 < (a5.extract 0 (a7 : Int).toNat).size + (strOfNums b4).size) = False := eq_false (Nat.not_lt.2 g2)
 obtain ⟨c9, d0⟩ : ∃ j_ : Int, (wrap64 (a7 + 1)) = j_ := ⟨_, rfl⟩
 (first | rw [d0] at H | simp only [d0] at H)
 (try rw [d0] at A9)
 (try rw [d0] at d3)
 (try rw [d0] at d4)
 have j6 : (IntKind.i64.wrap (a7 + 1)) = c9 := (i64_w _).trans d0
 by_cases g3 : 0 ≤ (c9)
 ·(
 rw [if_pos g3] at H
 have m0 := eq_true g3
 have m1 : decide (0 ≤ (c9)) = true := decide_eq_true g3
 clear g3
 by_cases g4 : (c9) ≤ (a5.size : Int)
 ·(
 rw [if_pos g4] at H
 have m2 := eq_true g4
 have m3 : decide ((c9) ≤ (a5.size : Int)) = true := decide_eq_true g4
 clear g4
 by_cases g5 : ((a5.extract 0 (a7 : Int).toNat) ++ (strOfNums b4)).size + (a5.extract ((c9) : Int).toNat a5.size).size ≤ 9223372036854775807
 ·(
 rw [if_pos g5] at H
 have m4 := eq_true g5
 have m5 : decide (((a5.extract 0 (a7 : Int).toNat) ++ (strOfNums b4)).size + (a5.extract ((c9) : Int).toNat a5.size).size ≤ 9223372036854775807) = true := decide_eq_true g5
 try have m6 : (9223372036854775807 < ((a5.extract 0 (a7 : Int).toNat) ++ (strOfNums b4)).size + (a5.extract ((c9) : Int).toNat a5.size).size) = False := eq_false (Nat.not_lt.2 g5)
 have H' := Aside0.mk H
 clear H
 go_wp2_with (first | (go_at_call 52; (with_reducible refine (spec_l1Cur_pick.calls g s0_0 b1 b2 (a5.size : Int) a7 b7 b8 w0 _ ?side1 ?side2 A9.out).mono ?_); (case side1 => exact kI); (case side2 => exact bI); rintro e i6 ⟨rfl, hi, hb, hk⟩; replace HK := Aside0.mk (KeepBut.trans (w := w) kK hk (.inl rfl)); replace HB := Aside0.mk (hb); replace HI0 := Aside0.mk (hi); (try clear hb); (try clear hk); (try clear hi)) | (go_at_call 52; (with_reducible refine (spec_l1Cur_pick.calls g s0_0 b7 b8 (a2.size : Int) a6 a9 b0 w0 _ ?side1 ?side2 d3.out).mono ?_); (case side1 => exact kI); (case side2 => exact bI); rintro e i7 ⟨rfl, hi, hb, hk⟩; replace HK := Aside0.mk (KeepBut.trans (w := w) kK hk (.inl rfl)); replace HB := Aside0.mk (hb); replace HI0 := Aside0.mk (hi); (try clear hb); (try clear hk); (try clear hi); have b5 : 0 ≤ (a6 : Int) := of_decide_eq_true asm; have b6 : a6 < (a2.size : Int) := of_decide_eq_true asm; have d5 := bt_at a2 a6; replace b5 := eq_true b5; replace b6 := eq_true b6) | ((with_reducible refine gate_dst (N := 32) rfl ?_); (try (refine gate_guard (by rfl) ?_; dsimp only)); refine Kd.R_lit (Kd.int .u8) _ 5 ?hg (N := 32) ?hd (xs := ([bt a2 a6] : List Int)) (inner := [.int .u8 (bt a2 a6)]) (ok := fun _ => True) (okp := fun _ => True) ?hr ?hp (fun _ hk => hk) trivial (Below.refl _ _) (Nat.le_refl _) (by simp) ?_; (case hd => rfl); (case hg => rfl); (case hr => first | (go_simp; done) | (go_simp; rfl)); (case hp => exact (Reps.one (show Kd.M (Kd.int .u8) _ _ _ (bt a2 a6) [.int .u8 (bt a2 a6)] from rfl) (Reps.none _ _))); intro d6 i9 c0 hb hg_ hnew_; clear hg_ hnew_; (first | rw [← b3.out] at c0 | (simp only [Int.reduceToNat] at c0; rw [← b3.out] at c0)); have a8 := Aside0.mk (Kd.R_lower c0 (keep_size (w := w) (g := g) (row := none) kK)); replace HI0 := Aside0.mk (IsS73.below kI hb); replace HK := Aside0.mk (KeepBut.trans (w := w) kK (KeepBut.of_below hb g none) (.inl rfl)); replace HB := Aside0.mk (below_step bI hb); clear hb c0; have h4 := own_string (P := Tryz.prog) Tryz.underlying22 Tryz.underlying5 Tryz.underlying9 (Kd.own_of_R a8.out)) | (go_at_call 52; (with_reducible refine (spec_l1Cur_pick.calls g s0_0 a9 b0 3 c5 c3 c4 w0 _ ?side1 ?side2 d4.out).mono ?_); (case side1 => exact kI); (case side2 => exact bI); rintro e j0 ⟨rfl, hi, hb, hk⟩; replace a8 := Aside0.mk (Kd.R_mono (Kd.R_keep (IsS73.apart (show IsS73 w0 _ g s0_0 a9 b0 from by repeat (first | (with_reducible first | exact HI0.out | apply IsS73.alloc | apply IsS73.drewN | apply IsS73.drew | apply IsS73.set_1 | apply IsS73.set_2) | exact HI0.out)) (oR a8) (by decide)) hk (fun _ h => h.2)) (fun _ h => h.1)); replace HK := Aside0.mk (KeepBut.trans (w := w) kK hk (.inl rfl)); replace HB := Aside0.mk (hb); replace HI0 := Aside0.mk (hi); (try clear hb); (try clear hk); (try clear hi)))
 repeat (go_quiet (first | (go_at_call 52; (with_reducible refine (spec_l1Cur_pick.calls g s0_0 b1 b2 (a5.size : Int) a7 b7 b8 w0 _ ?side1 ?side2 A9.out).mono ?_); (case side1 => exact kI); (case side2 => exact bI); rintro e i6 ⟨rfl, hi, hb, hk⟩; replace HK := Aside0.mk (KeepBut.trans (w := w) kK hk (.inl rfl)); replace HB := Aside0.mk (hb); replace HI0 := Aside0.mk (hi); (try clear hb); (try clear hk); (try clear hi)) | (go_at_call 52; (with_reducible refine (spec_l1Cur_pick.calls g s0_0 b7 b8 (a2.size : Int) a6 a9 b0 w0 _ ?side1 ?side2 d3.out).mono ?_); (case side1 => exact kI); (case side2 => exact bI); rintro e i7 ⟨rfl, hi, hb, hk⟩; replace HK := Aside0.mk (KeepBut.trans (w := w) kK hk (.inl rfl)); replace HB := Aside0.mk (hb); replace HI0 := Aside0.mk (hi); (try clear hb); (try clear hk); (try clear hi); have b5 : 0 ≤ (a6 : Int) := of_decide_eq_true asm; have b6 : a6 < (a2.size : Int) := of_decide_eq_true asm; have d5 := bt_at a2 a6; replace b5 := eq_true b5; replace b6 := eq_true b6) | ((with_reducible refine gate_dst (N := 32) rfl ?_); (try (refine gate_guard (by rfl) ?_; dsimp only)); refine Kd.R_lit (Kd.int .u8) _ 5 ?hg (N := 32) ?hd (xs := ([bt a2 a6] : List Int)) (inner := [.int .u8 (bt a2 a6)]) (ok := fun _ => True) (okp := fun _ => True) ?hr ?hp (fun _ hk => hk) trivial (Below.refl _ _) (Nat.le_refl _) (by simp) ?_; (case hd => rfl); (case hg => rfl); (case hr => first | (go_simp; done) | (go_simp; rfl)); (case hp => exact (Reps.one (show Kd.M (Kd.int .u8) _ _ _ (bt a2 a6) [.int .u8 (bt a2 a6)] from rfl) (Reps.none _ _))); intro d6 i9 c0 hb hg_ hnew_; clear hg_ hnew_; (first | rw [← b3.out] at c0 | (simp only [Int.reduceToNat] at c0; rw [← b3.out] at c0)); have a8 := Aside0.mk (Kd.R_lower c0 (keep_size (w := w) (g := g) (row := none) kK)); replace HI0 := Aside0.mk (IsS73.below kI hb); replace HK := Aside0.mk (KeepBut.trans (w := w) kK (KeepBut.of_below hb g none) (.inl rfl)); replace HB := Aside0.mk (below_step bI hb); clear hb c0; have h4 := own_string (P := Tryz.prog) Tryz.underlying22 Tryz.underlying5 Tryz.underlying9 (Kd.own_of_R a8.out)) | (go_at_call 52; (with_reducible refine (spec_l1Cur_pick.calls g s0_0 a9 b0 3 c5 c3 c4 w0 _ ?side1 ?side2 d4.out).mono ?_); (case side1 => exact kI); (case side2 => exact bI); rintro e j0 ⟨rfl, hi, hb, hk⟩; replace a8 := Aside0.mk (Kd.R_mono (Kd.R_keep (IsS73.apart (show IsS73 w0 _ g s0_0 a9 b0 from by repeat (first | (with_reducible first | exact HI0.out | apply IsS73.alloc | apply IsS73.drewN | apply IsS73.drew | apply IsS73.set_1 | apply IsS73.set_2) | exact HI0.out)) (oR a8) (by decide)) hk (fun _ h => h.2)) (fun _ h => h.1)); replace HK := Aside0.mk (KeepBut.trans (w := w) kK hk (.inl rfl)); replace HB := Aside0.mk (hb); replace HI0 := Aside0.mk (hi); (try clear hb); (try clear hk); (try clear hi))); try go_wp2_with (first | (go_at_call 52; (with_reducible refine (spec_l1Cur_pick.calls g s0_0 b1 b2 (a5.size : Int) a7 b7 b8 w0 _ ?side1 ?side2 A9.out).mono ?_); (case side1 => exact kI); (case side2 => exact bI); rintro e i6 ⟨rfl, hi, hb, hk⟩; replace HK := Aside0.mk (KeepBut.trans (w := w) kK hk (.inl rfl)); replace HB := Aside0.mk (hb); replace HI0 := Aside0.mk (hi); (try clear hb); (try clear hk); (try clear hi)) | (go_at_call 52; (with_reducible refine (spec_l1Cur_pick.calls g s0_0 b7 b8 (a2.size : Int) a6 a9 b0 w0 _ ?side1 ?side2 d3.out).mono ?_); (case side1 => exact kI); (case side2 => exact bI); rintro e i7 ⟨rfl, hi, hb, hk⟩; replace HK := Aside0.mk (KeepBut.trans (w := w) kK hk (.inl rfl)); replace HB := Aside0.mk (hb); replace HI0 := Aside0.mk (hi); (try clear hb); (try clear hk); (try clear hi); have b5 : 0 ≤ (a6 : Int) := of_decide_eq_true asm; have b6 : a6 < (a2.size : Int) := of_decide_eq_true asm; have d5 := bt_at a2 a6; replace b5 := eq_true b5; replace b6 := eq_true b6) | ((with_reducible refine gate_dst (N := 32) rfl ?_); (try (refine gate_guard (by rfl) ?_; dsimp only)); refine Kd.R_lit (Kd.int .u8) _ 5 ?hg (N := 32) ?hd (xs := ([bt a2 a6] : List Int)) (inner := [.int .u8 (bt a2 a6)]) (ok := fun _ => True) (okp := fun _ => True) ?hr ?hp (fun _ hk => hk) trivial (Below.refl _ _) (Nat.le_refl _) (by simp) ?_; (case hd => rfl); (case hg => rfl); (case hr => first | (go_simp; done) | (go_simp; rfl)); (case hp => exact (Reps.one (show Kd.M (Kd.int .u8) _ _ _ (bt a2 a6) [.int .u8 (bt a2 a6)] from rfl) (Reps.none _ _))); intro d6 i9 c0 hb hg_ hnew_; clear hg_ hnew_; (first | rw [← b3.out] at c0 | (simp only [Int.reduceToNat] at c0; rw [← b3.out] at c0)); have a8 := Aside0.mk (Kd.R_lower c0 (keep_size (w := w) (g := g) (row := none) kK)); replace HI0 := Aside0.mk (IsS73.below kI hb); replace HK := Aside0.mk (KeepBut.trans (w := w) kK (KeepBut.of_below hb g none) (.inl rfl)); replace HB := Aside0.mk (below_step bI hb); clear hb c0; have h4 := own_string (P := Tryz.prog) Tryz.underlying22 Tryz.underlying5 Tryz.underlying9 (Kd.own_of_R a8.out)) | (go_at_call 52; (with_reducible refine (spec_l1Cur_pick.calls g s0_0 a9 b0 3 c5 c3 c4 w0 _ ?side1 ?side2 d4.out).mono ?_); (case side1 => exact kI); (case side2 => exact bI); rintro e j0 ⟨rfl, hi, hb, hk⟩; replace a8 := Aside0.mk (Kd.R_mono (Kd.R_keep (IsS73.apart (show IsS73 w0 _ g s0_0 a9 b0 from by repeat (first | (with_reducible first | exact HI0.out | apply IsS73.alloc | apply IsS73.drewN | apply IsS73.drew | apply IsS73.set_1 | apply IsS73.set_2) | exact HI0.out)) (oR a8) (by decide)) hk (fun _ h => h.2)) (fun _ h => h.1)); replace HK := Aside0.mk (KeepBut.trans (w := w) kK hk (.inl rfl)); replace HB := Aside0.mk (hb); replace HI0 := Aside0.mk (hi); (try clear hb); (try clear hk); (try clear hi))))
 go_roundg e0
 case measure => have := HK1.out; have := HJ5.out; omega
 case rel => exact ⟨(((a5.extract 0 (a7 : Int).toNat) ++ (strOfNums b4)) ++ (a5.extract ((c9) : Int).toNat a5.size)), (wrap64 (c2 - 1)), (c3), (c4), (by first | rfl | (simp; done) | (simp only [← d0] <;> (first | rfl | simp)) | (simp [*]; done)), sR, H', ⟨by have := HK1.out; have := HJ5.out; omega⟩, ⟨kI⟩, ⟨kK⟩, ⟨bI⟩⟩
 )
 ·(
 rw [if_neg g5] at H
 exact absurd H (by simp)
 )
 )
 ·(
 rw [if_neg g4] at H
 exact absurd H (by simp)
 )
 )
 ·(
 rw [if_neg g3] at H
 exact absurd H (by simp)
 )
 )
 ·(
 rw [if_neg g2] at H
 exact absurd H (by simp)
 )
 )
 ·(
 rw [if_neg g1] at H
 exact absurd H (by simp)
 )
 )
 ·(
 rw [if_neg g0] at H
 exact absurd H (by simp)
 )
 )
 ·(
 rw [if_neg e9] at H
 obtain ⟨i0, i1⟩ := nE e9
 by_cases g6 : 0 ≤ a7
 ·(
 rw [if_pos g6] at H
 have m7 := eq_true g6
 have m8 : decide (0 ≤ a7) = true := decide_eq_true g6
 clear g6
 by_cases g7 : a7 ≤ (a5.size : Int)
 ·(
 rw [if_pos g7] at H
 have m9 := eq_true g7
 have n0 : decide (a7 ≤ (a5.size : Int)) = true := decide_eq_true g7
 clear g7
 obtain ⟨d1, d2⟩ : ∃ j_ : Int, (wrap64 (a7 + 1)) = j_ := ⟨_, rfl⟩
 (first | rw [d2] at H | simp only [d2] at H)
 (try rw [d2] at A9)
 (try rw [d2] at d3)
 (try rw [d2] at d4)
 have j7 : (IntKind.i64.wrap (a7 + 1)) = d1 := (i64_w _).trans d2
 by_cases g8 : 0 ≤ (d1)
 ·(
 rw [if_pos g8] at H
 have n1 := eq_true g8
 have n2 : decide (0 ≤ (d1)) = true := decide_eq_true g8
 clear g8
 by_cases g9 : (d1) ≤ (a5.size : Int)
 ·(
 rw [if_pos g9] at H
 have n3 := eq_true g9
 have n4 : decide ((d1) ≤ (a5.size : Int)) = true := decide_eq_true g9
 clear g9
 by_cases h0 : (a5.extract 0 (a7 : Int).toNat).size + (a5.extract ((d1) : Int).toNat a5.size).size ≤ 9223372036854775807
 ·(
 rw [if_pos h0] at H
 have n5 := eq_true h0
 have n6 : decide ((a5.extract 0 (a7 : Int).toNat).size + (a5.extract ((d1) : Int).toNat a5.size).size ≤ 9223372036854775807) = true := decide_eq_true h0
 try have n7 : (9223372036854775807 < (a5.extract 0 (a7 : Int).toNat).size + (a5.extract ((d1) : Int).toNat a5.size).size) = False := eq_false (Nat.not_lt.2 h0)
 have H' := Aside0.mk H
 clear H
 go_wp2_with (first | (go_at_call 52; (with_reducible refine (spec_l1Cur_pick.calls g s0_0 b1 b2 (a5.size : Int) a7 b7 b8 w0 _ ?side1 ?side2 A9.out).mono ?_); (case side1 => exact kI); (case side2 => exact bI); rintro e j1 ⟨rfl, hi, hb, hk⟩; replace HK := Aside0.mk (KeepBut.trans (w := w) kK hk (.inl rfl)); replace HB := Aside0.mk (hb); replace HI0 := Aside0.mk (hi); (try clear hb); (try clear hk); (try clear hi)) | (go_at_call 52; (with_reducible refine (spec_l1Cur_pick.calls g s0_0 b7 b8 (a2.size : Int) a6 a9 b0 w0 _ ?side1 ?side2 d3.out).mono ?_); (case side1 => exact kI); (case side2 => exact bI); rintro e j2 ⟨rfl, hi, hb, hk⟩; replace HK := Aside0.mk (KeepBut.trans (w := w) kK hk (.inl rfl)); replace HB := Aside0.mk (hb); replace HI0 := Aside0.mk (hi); (try clear hb); (try clear hk); (try clear hi); have b5 : 0 ≤ (a6 : Int) := of_decide_eq_true asm; have b6 : a6 < (a2.size : Int) := of_decide_eq_true asm; have d5 := bt_at a2 a6; replace b5 := eq_true b5; replace b6 := eq_true b6) | ((with_reducible refine gate_dst (N := 32) rfl ?_); (try (refine gate_guard (by rfl) ?_; dsimp only)); refine Kd.R_lit (Kd.int .u8) _ 5 ?hg (N := 32) ?hd (xs := ([bt a2 a6] : List Int)) (inner := [.int .u8 (bt a2 a6)]) (ok := fun _ => True) (okp := fun _ => True) ?hr ?hp (fun _ hk => hk) trivial (Below.refl _ _) (Nat.le_refl _) (by simp) ?_; (case hd => rfl); (case hg => rfl); (case hr => first | (go_simp; done) | (go_simp; rfl)); (case hp => exact (Reps.one (show Kd.M (Kd.int .u8) _ _ _ (bt a2 a6) [.int .u8 (bt a2 a6)] from rfl) (Reps.none _ _))); intro d6 j3 c1 hb hg_ hnew_; clear hg_ hnew_; (first | rw [← b3.out] at c1 | (simp only [Int.reduceToNat] at c1; rw [← b3.out] at c1)); have a8 := Aside0.mk (Kd.R_lower c1 (keep_size (w := w) (g := g) (row := none) kK)); replace HI0 := Aside0.mk (IsS73.below kI hb); replace HK := Aside0.mk (KeepBut.trans (w := w) kK (KeepBut.of_below hb g none) (.inl rfl)); replace HB := Aside0.mk (below_step bI hb); clear hb c1; have h5 := own_string (P := Tryz.prog) Tryz.underlying22 Tryz.underlying5 Tryz.underlying9 (Kd.own_of_R a8.out)) | (go_at_call 52; (with_reducible refine (spec_l1Cur_pick.calls g s0_0 a9 b0 3 c5 c3 c4 w0 _ ?side1 ?side2 d4.out).mono ?_); (case side1 => exact kI); (case side2 => exact bI); rintro e j4 ⟨rfl, hi, hb, hk⟩; replace a8 := Aside0.mk (Kd.R_mono (Kd.R_keep (IsS73.apart (show IsS73 w0 _ g s0_0 a9 b0 from by repeat (first | (with_reducible first | exact HI0.out | apply IsS73.alloc | apply IsS73.drewN | apply IsS73.drew | apply IsS73.set_1 | apply IsS73.set_2) | exact HI0.out)) (oR a8) (by decide)) hk (fun _ h => h.2)) (fun _ h => h.1)); replace HK := Aside0.mk (KeepBut.trans (w := w) kK hk (.inl rfl)); replace HB := Aside0.mk (hb); replace HI0 := Aside0.mk (hi); (try clear hb); (try clear hk); (try clear hi)))
 repeat (go_quiet (first | (go_at_call 52; (with_reducible refine (spec_l1Cur_pick.calls g s0_0 b1 b2 (a5.size : Int) a7 b7 b8 w0 _ ?side1 ?side2 A9.out).mono ?_); (case side1 => exact kI); (case side2 => exact bI); rintro e j1 ⟨rfl, hi, hb, hk⟩; replace HK := Aside0.mk (KeepBut.trans (w := w) kK hk (.inl rfl)); replace HB := Aside0.mk (hb); replace HI0 := Aside0.mk (hi); (try clear hb); (try clear hk); (try clear hi)) | (go_at_call 52; (with_reducible refine (spec_l1Cur_pick.calls g s0_0 b7 b8 (a2.size : Int) a6 a9 b0 w0 _ ?side1 ?side2 d3.out).mono ?_); (case side1 => exact kI); (case side2 => exact bI); rintro e j2 ⟨rfl, hi, hb, hk⟩; replace HK := Aside0.mk (KeepBut.trans (w := w) kK hk (.inl rfl)); replace HB := Aside0.mk (hb); replace HI0 := Aside0.mk (hi); (try clear hb); (try clear hk); (try clear hi); have b5 : 0 ≤ (a6 : Int) := of_decide_eq_true asm; have b6 : a6 < (a2.size : Int) := of_decide_eq_true asm; have d5 := bt_at a2 a6; replace b5 := eq_true b5; replace b6 := eq_true b6) | ((with_reducible refine gate_dst (N := 32) rfl ?_); (try (refine gate_guard (by rfl) ?_; dsimp only)); refine Kd.R_lit (Kd.int .u8) _ 5 ?hg (N := 32) ?hd (xs := ([bt a2 a6] : List Int)) (inner := [.int .u8 (bt a2 a6)]) (ok := fun _ => True) (okp := fun _ => True) ?hr ?hp (fun _ hk => hk) trivial (Below.refl _ _) (Nat.le_refl _) (by simp) ?_; (case hd => rfl); (case hg => rfl); (case hr => first | (go_simp; done) | (go_simp; rfl)); (case hp => exact (Reps.one (show Kd.M (Kd.int .u8) _ _ _ (bt a2 a6) [.int .u8 (bt a2 a6)] from rfl) (Reps.none _ _))); intro d6 j3 c1 hb hg_ hnew_; clear hg_ hnew_; (first | rw [← b3.out] at c1 | (simp only [Int.reduceToNat] at c1; rw [← b3.out] at c1)); have a8 := Aside0.mk (Kd.R_lower c1 (keep_size (w := w) (g := g) (row := none) kK)); replace HI0 := Aside0.mk (IsS73.below kI hb); replace HK := Aside0.mk (KeepBut.trans (w := w) kK (KeepBut.of_below hb g none) (.inl rfl)); replace HB := Aside0.mk (below_step bI hb); clear hb c1; have h5 := own_string (P := Tryz.prog) Tryz.underlying22 Tryz.underlying5 Tryz.underlying9 (Kd.own_of_R a8.out)) | (go_at_call 52; (with_reducible refine (spec_l1Cur_pick.calls g s0_0 a9 b0 3 c5 c3 c4 w0 _ ?side1 ?side2 d4.out).mono ?_); (case side1 => exact kI); (case side2 => exact bI); rintro e j4 ⟨rfl, hi, hb, hk⟩; replace a8 := Aside0.mk (Kd.R_mono (Kd.R_keep (IsS73.apart (show IsS73 w0 _ g s0_0 a9 b0 from by repeat (first | (with_reducible first | exact HI0.out | apply IsS73.alloc | apply IsS73.drewN | apply IsS73.drew | apply IsS73.set_1 | apply IsS73.set_2) | exact HI0.out)) (oR a8) (by decide)) hk (fun _ h => h.2)) (fun _ h => h.1)); replace HK := Aside0.mk (KeepBut.trans (w := w) kK hk (.inl rfl)); replace HB := Aside0.mk (hb); replace HI0 := Aside0.mk (hi); (try clear hb); (try clear hk); (try clear hi))); try go_wp2_with (first | (go_at_call 52; (with_reducible refine (spec_l1Cur_pick.calls g s0_0 b1 b2 (a5.size : Int) a7 b7 b8 w0 _ ?side1 ?side2 A9.out).mono ?_); (case side1 => exact kI); (case side2 => exact bI); rintro e j1 ⟨rfl, hi, hb, hk⟩; replace HK := Aside0.mk (KeepBut.trans (w := w) kK hk (.inl rfl)); replace HB := Aside0.mk (hb); replace HI0 := Aside0.mk (hi); (try clear hb); (try clear hk); (try clear hi)) | (go_at_call 52; (with_reducible refine (spec_l1Cur_pick.calls g s0_0 b7 b8 (a2.size : Int) a6 a9 b0 w0 _ ?side1 ?side2 d3.out).mono ?_); (case side1 => exact kI); (case side2 => exact bI); rintro e j2 ⟨rfl, hi, hb, hk⟩; replace HK := Aside0.mk (KeepBut.trans (w := w) kK hk (.inl rfl)); replace HB := Aside0.mk (hb); replace HI0 := Aside0.mk (hi); (try clear hb); (try clear hk); (try clear hi); have b5 : 0 ≤ (a6 : Int) := of_decide_eq_true asm; have b6 : a6 < (a2.size : Int) := of_decide_eq_true asm; have d5 := bt_at a2 a6; replace b5 := eq_true b5; replace b6 := eq_true b6) | ((with_reducible refine gate_dst (N := 32) rfl ?_); (try (refine gate_guard (by rfl) ?_; dsimp only)); refine Kd.R_lit (Kd.int .u8) _ 5 ?hg (N := 32) ?hd (xs := ([bt a2 a6] : List Int)) (inner := [.int .u8 (bt a2 a6)]) (ok := fun _ => True) (okp := fun _ => True) ?hr ?hp (fun _ hk => hk) trivial (Below.refl _ _) (Nat.le_refl _) (by simp) ?_; (case hd => rfl); (case hg => rfl); (case hr => first | (go_simp; done) | (go_simp; rfl)); (case hp => exact (Reps.one (show Kd.M (Kd.int .u8) _ _ _ (bt a2 a6) [.int .u8 (bt a2 a6)] from rfl) (Reps.none _ _))); intro d6 j3 c1 hb hg_ hnew_; clear hg_ hnew_; (first | rw [← b3.out] at c1 | (simp only [Int.reduceToNat] at c1; rw [← b3.out] at c1)); have a8 := Aside0.mk (Kd.R_lower c1 (keep_size (w := w) (g := g) (row := none) kK)); replace HI0 := Aside0.mk (IsS73.below kI hb); replace HK := Aside0.mk (KeepBut.trans (w := w) kK (KeepBut.of_below hb g none) (.inl rfl)); replace HB := Aside0.mk (below_step bI hb); clear hb c1; have h5 := own_string (P := Tryz.prog) Tryz.underlying22 Tryz.underlying5 Tryz.underlying9 (Kd.own_of_R a8.out)) | (go_at_call 52; (with_reducible refine (spec_l1Cur_pick.calls g s0_0 a9 b0 3 c5 c3 c4 w0 _ ?side1 ?side2 d4.out).mono ?_); (case side1 => exact kI); (case side2 => exact bI); rintro e j4 ⟨rfl, hi, hb, hk⟩; replace a8 := Aside0.mk (Kd.R_mono (Kd.R_keep (IsS73.apart (show IsS73 w0 _ g s0_0 a9 b0 from by repeat (first | (with_reducible first | exact HI0.out | apply IsS73.alloc | apply IsS73.drewN | apply IsS73.drew | apply IsS73.set_1 | apply IsS73.set_2) | exact HI0.out)) (oR a8) (by decide)) hk (fun _ h => h.2)) (fun _ h => h.1)); replace HK := Aside0.mk (KeepBut.trans (w := w) kK hk (.inl rfl)); replace HB := Aside0.mk (hb); replace HI0 := Aside0.mk (hi); (try clear hb); (try clear hk); (try clear hi))))
 go_roundg e0
 case measure => have := HK1.out; have := HJ5.out; omega
 case rel => exact ⟨((a5.extract 0 (a7 : Int).toNat) ++ (a5.extract ((d1) : Int).toNat a5.size)), (wrap64 (c2 - 1)), (c3), (c4), (by first | rfl | (simp; done) | (simp only [← d2] <;> (first | rfl | simp)) | (simp [*]; done)), sR, H', ⟨by have := HK1.out; have := HJ5.out; omega⟩, ⟨kI⟩, ⟨kK⟩, ⟨bI⟩⟩
 )
 ·(
 rw [if_neg h0] at H
 exact absurd H (by simp)
 )
 )
 ·(
 rw [if_neg g9] at H
 exact absurd H (by simp)
 )
 )
 ·(
 rw [if_neg g8] at H
 exact absurd H (by simp)
 )
 )
 ·(
 rw [if_neg g7] at H
 exact absurd H (by simp)
 )
 )
 ·(
 rw [if_neg g6] at H
 exact absurd H (by simp)
 )
 )
 )
 )
 ·(
 rw [if_neg h2] at H
 exact absurd H (by simp)
 )
 )
 ·(
 rw [if_neg h1] at H
 exact absurd H (by simp)
 )
 )
 ·(
 replace c8 := Bool.eq_false_iff.mpr c8
 subst c8
 rw [if_neg nft] at H
 simp only [Option.some.injEq, Prod.mk.injEq] at H
 obtain ⟨rfl, rfl, rfl⟩ := H
 go_wp2
 repeat (go_quiet (fail); try go_wp2)
 go_ret
 exact ⟨sE, kI, bI, kK⟩
 )
 )
 )
 )
 )

/-! ### spec_l1Cur_table: function 71 -/
def spec_l1Cur_table.f (s0_0 : List Int) (s0_1 : Int) (s0_2 : Int) : Option (Int × Int × Int × Int) := (spec_l1Cur_sureTable.f s0_0 s0_1 s0_2).bind fun bt148 => ((spec_l1Cur_pick.f s0_0 bt148.2.2.1 bt148.2.2.2 20).bind fun bt153 => (if bt153.1 = 0 then ((spec_l1Cur_among.f s0_0 bt153.2.1 bt153.2.2 (([(-1), 0, 1, 60, 61, 4611686018427387904] : List Int))).bind fun bt159 => (some (bt159.1, bt148.2.1, bt159.2.1, bt159.2.2))) else (if bt153.1 = 1 then ((spec_l1Cur_among.f s0_0 bt153.2.1 bt153.2.2 (([(-1), 0, 1, 60, 61, 4611686018427387904] : List Int))).bind fun bt165 => (some (bt148.1, bt165.1, bt165.2.1, bt165.2.2))) else (some (bt148.1, bt148.2.1, bt153.2.1, bt153.2.2)))))
set_option maxHeartbeats 8000000 in
set_option maxRecDepth 100000 in
theorem spec_l1Cur_table.calls (g : Nat) (s0_0 : List Int) (s0_1 : Int) (s0_2 : Int) (r1 : Int) (r2 : Int) (r3 : Int) (r4 : Int) (w0 w : World) (hI : IsS73 w0 w g s0_0 s0_1 s0_2) (hB : Below w0.heap.size w0 w) (h : spec_l1Cur_table.f s0_0 s0_1 s0_2 = some (r1, r2, r3, r4)) :
    Calls Tryz.prog 71 #[.pointer (some ⟨g, 0, none⟩)] w fun e w' => e = .returned (.agg #[.int .i64 r1, .int .i64 r2]) ∧ IsS73 w0 w' g s0_0 r3 r4 ∧ Below w0.heap.size w0 w' ∧ KeepBut w w' g none := by
 have i1 := Tryz.underlying25
 have HI0 := Aside0.mk hI
 have HK := Aside0.mk (KeepBut.refl w g none)
 have HL := Aside0.mk hB.size
 clear hI
 have g2 := Aside0.mk hB.size
 have HB := Aside0.mk hB
 clear hB
 have H := h
 unfold spec_l1Cur_table.f at H
 clear h
 obtain ⟨⟨b2, b3, d1, d2⟩, A2, H⟩ := bD H
 try dsimp only at H
 obtain ⟨⟨d6, b4, b5⟩, A3, H⟩ := bD H
 try dsimp only at H
 by_cases c4 : d6 = 0
 rw [if_pos c4] at H
 obtain ⟨g3, g4⟩ := yE c4
 clear c4
 obtain ⟨d7, b7⟩ : ∃ y_ : List Int, y_ = (([(-1), 0, 1, 60, 61, 4611686018427387904] : List Int)) := ⟨_, rfl⟩
 replace H : ((spec_l1Cur_among.f s0_0 b4 b5 d7).bind fun d3 => (some (d3.1, b3, d3.2.1, d3.2.2))) = some (r1, r2, r3, r4) := by first | (rw [b7]; with_reducible exact H) | (have c0 := (Option.bind_some _ _).symm.trans H; rw [b7]; with_reducible exact c0) | (have c0 := (Option.bind_some _ _).symm.trans H; with_reducible exact c0) | with_reducible exact H | (rw [b7]; exact H) | exact H
 have e4 := Aside0.mk b7
 clear b7
 obtain ⟨⟨e8, g5, g6⟩, A5, H⟩ := bD H
 try dsimp only at H
 simp only [Option.some.injEq, Prod.mk.injEq] at H
 obtain ⟨rfl, rfl, rfl, rfl⟩ := H
 rotate_left
 rw [if_neg c4] at H
 obtain ⟨g3, g4⟩ := nE c4
 by_cases d5 : d6 = 1
 rw [if_pos d5] at H
 obtain ⟨g0, g1⟩ := yE d5
 clear d5
 obtain ⟨d8, b8⟩ : ∃ y_ : List Int, y_ = (([(-1), 0, 1, 60, 61, 4611686018427387904] : List Int)) := ⟨_, rfl⟩
 replace H : ((spec_l1Cur_among.f s0_0 b4 b5 d8).bind fun d4 => (some (b2, d4.1, d4.2.1, d4.2.2))) = some (r1, r2, r3, r4) := by first | (rw [b8]; with_reducible exact H) | (have c0 := (Option.bind_some _ _).symm.trans H; rw [b8]; with_reducible exact c0) | (have c0 := (Option.bind_some _ _).symm.trans H; with_reducible exact c0) | with_reducible exact H | (rw [b8]; exact H) | exact H
 have e5 := Aside0.mk b8
 clear b8
 obtain ⟨⟨e9, g7, g8⟩, h3, H⟩ := bD H
 try dsimp only at H
 simp only [Option.some.injEq, Prod.mk.injEq] at H
 obtain ⟨rfl, rfl, rfl, rfl⟩ := H
 rotate_left
 rw [if_neg d5] at H
 obtain ⟨g0, g1⟩ := nE d5
 simp only [Option.some.injEq, Prod.mk.injEq] at H
 obtain ⟨rfl, rfl, rfl, rfl⟩ := H
 rotate_left
 all_goals (go_enter Tryz.func71, Tryz.ntmps71)
 all_goals (go_wp2_with (first | ((with_reducible refine gate_dst (N := 2) rfl ?_); refine box_ (cs := #[.int .i64 0, .int .i64 0]) (t := 25) fun b1 hg i6 hbox hb => ?_; have a5 := Aside0.mk (hbox); have i2 := (kS HK hg); have i3 := (kE g2 HK hg); have a6 := Aside0.mk ((by rw [hg]; exact Nat.ne_of_lt (IsS73.lt (show IsS73 w0 _ g s0_0 s0_1 s0_2 from by repeat (first | (with_reducible first | exact HI0.out | apply IsS73.alloc | apply IsS73.drewN | apply IsS73.drew | apply IsS73.set_1 | apply IsS73.set_2) | exact HI0.out))) : g ≠ b1)); have a9 := Aside0.mk ((by rw [hg]; exact Nat.ne_of_gt (IsS73.lt (show IsS73 w0 _ g s0_0 s0_1 s0_2 from by repeat (first | (with_reducible first | exact HI0.out | apply IsS73.alloc | apply IsS73.drewN | apply IsS73.drew | apply IsS73.set_1 | apply IsS73.set_2) | exact HI0.out))) : b1 ≠ g)); replace HI0 := Aside0.mk (IsS73.below kI hb); replace HK := Aside0.mk (KeepBut.trans (w := w) kK (KeepBut.of_below hb g none) (.inl rfl)); replace HB := Aside0.mk (below_step bI hb); clear hb hbox hg) | ((with_reducible refine gate_callee (f := 56) rfl ?_); refine goesL_ (some 5) rfl rfl Tryz.func56 kr rfl #[.pointer (some ⟨g, 0, none⟩)] rfl sM ?_; (with_reducible refine (spec_l1Cur_sureTable.calls g s0_0 s0_1 s0_2 b2 b3 d1 d2 w0 _ ?side1 ?side2 A2.out).mono ?_); (case side1 => exact kI); (case side2 => exact bI); rintro e i7 ⟨rfl, hi, hb, hk⟩; refine ⟨_, rfl, ?_⟩; replace a5 := Aside0.mk (KeepBut.blk hk (g' := b1) (o := .cells #[.int .i64 0, .int .i64 0] 25 (0, 0)) (bK a5) a9.out (by simp)); replace HK := Aside0.mk (KeepBut.trans (w := w) kK hk (.inl rfl)); replace HB := Aside0.mk (hb); replace HI0 := Aside0.mk (hi); (try clear hb); (try clear hk); (try clear hi)) | ((with_reducible refine gate_dst (N := 3) rfl ?_); refine box_ (cs := #[.int .i64 0, .int .i64 0]) (t := 25) fun c1 hg i9 hbox hb => ?_; have a7 := Aside0.mk (hbox); have i4 := (kS HK hg); have i5 := (kE g2 HK hg); have d9 := bL a5 hg; have e0 := bM a5 hg; have b6 := Aside0.mk ((by rw [hg]; exact Nat.ne_of_lt (IsS73.lt (show IsS73 w0 _ g s0_0 d1 d2 from by repeat (first | (with_reducible first | exact HI0.out | apply IsS73.alloc | apply IsS73.drewN | apply IsS73.drew | apply IsS73.set_1 | apply IsS73.set_2 | refine IsS73.far ?_ a6.out _) | exact HI0.out))) : g ≠ c1)); have b9 := Aside0.mk ((by rw [hg]; exact Nat.ne_of_gt (IsS73.lt (show IsS73 w0 _ g s0_0 d1 d2 from by repeat (first | (with_reducible first | exact HI0.out | apply IsS73.alloc | apply IsS73.drewN | apply IsS73.drew | apply IsS73.set_1 | apply IsS73.set_2 | refine IsS73.far ?_ a6.out _) | exact HI0.out))) : c1 ≠ g)); replace HI0 := Aside0.mk (IsS73.below kI hb); replace a5 := bQ a5 hb; replace HK := Aside0.mk (KeepBut.trans (w := w) kK (KeepBut.of_below hb g none) (.inl rfl)); replace HB := Aside0.mk (below_step bI hb); clear hb hbox hg; have h7 := e0.out; have h8 := d9.out; have h9 := b9.out; have i0 := b6.out; obtain ⟨g9, h0, h1, h2⟩ := cf2 a7) | ((with_reducible refine gate_callee (f := 52) rfl ?_); refine goesL_ (some 7) rfl rfl Tryz.func52 kr rfl #[.pointer (some ⟨g, 0, none⟩), .int .i64 20] rfl sM ?_; (with_reducible refine (spec_l1Cur_pick.calls g s0_0 d1 d2 20 d6 b4 b5 w0 _ ?side1 ?side2 A3.out).mono ?_); (case side1 => exact kI); (case side2 => exact bI); rintro e j0 ⟨rfl, hi, hb, hk⟩; refine ⟨_, rfl, ?_⟩; replace a5 := Aside0.mk (KeepBut.blk hk (g' := b1) (o := .cells #[.int .i64 0, .int .i64 0] 25 (0, 0)) (bK a5) a9.out (by simp)); replace a7 := Aside0.mk (KeepBut.blk hk (g' := c1) (o := .cells #[.int .i64 b2, .int .i64 b3] 25 (0, 0)) (bK a7) b9.out (by simp)); replace HK := Aside0.mk (KeepBut.trans (w := w) kK hk (.inl rfl)); replace HB := Aside0.mk (hb); replace HI0 := Aside0.mk (hi); (try clear hb); (try clear hk); (try clear hi); obtain ⟨c2, c3, c5, c6⟩ := cf2 a7; have e6 := a9.out; have e7 := a6.out; obtain ⟨c7, c8, c9, d0⟩ := cf2 a5) | ((with_reducible refine gate_dst (N := 11) rfl ?_); refine Kd.R_lit (Kd.int .i64) _ 3 ?hg (N := 11) ?hd (xs := ([(-1), 0, 1, 60, 61, 4611686018427387904] : List Int)) (inner := [.int .i64 (-1), .int .i64 0, .int .i64 1, .int .i64 60, .int .i64 61, .int .i64 4611686018427387904]) (ok := fun _ => True) (okp := fun _ => True) ?hr ?hp (fun _ hk => hk) trivial (Below.refl _ _) (Nat.le_refl _) (by simp) ?_; (case hd => rfl); (case hg => rfl); (case hr => first | (go_simp; done) | (go_simp; rfl)); (case hp => exact (Reps.one (show Kd.M (Kd.int .i64) _ _ _ (-1) [.int .i64 (-1)] from rfl) (Reps.one (show Kd.M (Kd.int .i64) _ _ _ 0 [.int .i64 0] from rfl) (Reps.one (show Kd.M (Kd.int .i64) _ _ _ 1 [.int .i64 1] from rfl) (Reps.one (show Kd.M (Kd.int .i64) _ _ _ 60 [.int .i64 60] from rfl) (Reps.one (show Kd.M (Kd.int .i64) _ _ _ 61 [.int .i64 61] from rfl) (Reps.one (show Kd.M (Kd.int .i64) _ _ _ 4611686018427387904 [.int .i64 4611686018427387904] from rfl) (Reps.none _ _)))))))); intro h4 h5 b0 hb hg_ hnew_; clear hg_ hnew_; (first | rw [← e4.out] at b0 | (simp only [Int.reduceToNat] at b0; rw [← e4.out] at b0)); have a8 := Aside0.mk (Kd.R_lower b0 (keep_size (w := w) (g := g) (row := none) kK)); replace HI0 := Aside0.mk (IsS73.below kI hb); replace a5 := bQ a5 hb; replace a7 := bQ a7 hb; replace HK := Aside0.mk (KeepBut.trans (w := w) kK (KeepBut.of_below hb g none) (.inl rfl)); replace HB := Aside0.mk (below_step bI hb); clear hb b0; obtain ⟨e1, e2, e3⟩ := Kd.R_slice a8.out; subst e3) | ((with_reducible refine gate_callee (f := 51) rfl ?_); refine goesL_ (some 12) rfl rfl Tryz.func51 kr rfl #[.pointer (some ⟨g, 0, none⟩), .slice e1 d7.length e2] rfl sM ?_; (with_reducible refine (spec_l1Cur_among.calls g s0_0 b4 b5 _ _ d7 e8 g5 g6 w0 _ ?side1 ?side2 ?side3 ?side4 ?side5 A5.out).mono ?_); (case side1 => exact kI); (case side2 => exact bI); (case side3 => repeat (first | exact (Kd.R_reads' a8.out).2.2 | (with_reducible refine Kd.C_alloc ?_ _) | (with_reducible refine Kd.C_drewN ?_ _) | (with_reducible refine Kd.C_drew ?_))); (case side4 => exact (Kd.R_reads' a8.out).2.1); (case side5 => exact far_slice (IsS73.own_ne HI0.out a8.out (by decide))); rintro e h6 ⟨rfl, hi, hb, hk⟩; refine ⟨_, rfl, ?_⟩; replace a5 := Aside0.mk (KeepBut.blk hk (g' := b1) (o := .cells #[.int .i64 0, .int .i64 0] 25 (0, 0)) (bK a5) a9.out (by simp)); replace a7 := Aside0.mk (KeepBut.blk hk (g' := c1) (o := .cells #[.int .i64 b2, .int .i64 b3] 25 (0, 0)) (bK a7) b9.out (by simp)); replace a8 := Aside0.mk (Kd.R_mono (Kd.R_keep (IsS73.apart (show IsS73 w0 _ g s0_0 b4 b5 from by repeat (first | (with_reducible first | exact HI0.out | apply IsS73.alloc | apply IsS73.drewN | apply IsS73.drew | apply IsS73.set_1 | apply IsS73.set_2 | refine IsS73.far ?_ a6.out _ | refine IsS73.far ?_ b6.out _) | exact HI0.out)) (oR a8) (by decide)) hk (fun _ h => h.2)) (fun _ h => h.1)); replace HK := Aside0.mk (KeepBut.trans (w := w) kK hk (.inl rfl)); replace HB := Aside0.mk (hb); replace HI0 := Aside0.mk (hi); (try clear hb); (try clear hk); (try clear hi); obtain ⟨c2, c3, c5, c6⟩ := cf2 a7; have e6 := a9.out; have e7 := a6.out; obtain ⟨c7, c8, c9, d0⟩ := cf2 a5) | ((with_reducible refine gate_dst (N := 17) rfl ?_); refine Kd.R_lit (Kd.int .i64) _ 3 ?hg (N := 17) ?hd (xs := ([(-1), 0, 1, 60, 61, 4611686018427387904] : List Int)) (inner := [.int .i64 (-1), .int .i64 0, .int .i64 1, .int .i64 60, .int .i64 61, .int .i64 4611686018427387904]) (ok := fun _ => True) (okp := fun _ => True) ?hr ?hp (fun _ hk => hk) trivial (Below.refl _ _) (Nat.le_refl _) (by simp) ?_; (case hd => rfl); (case hg => rfl); (case hr => first | (go_simp; done) | (go_simp; rfl)); (case hp => exact (Reps.one (show Kd.M (Kd.int .i64) _ _ _ (-1) [.int .i64 (-1)] from rfl) (Reps.one (show Kd.M (Kd.int .i64) _ _ _ 0 [.int .i64 0] from rfl) (Reps.one (show Kd.M (Kd.int .i64) _ _ _ 1 [.int .i64 1] from rfl) (Reps.one (show Kd.M (Kd.int .i64) _ _ _ 60 [.int .i64 60] from rfl) (Reps.one (show Kd.M (Kd.int .i64) _ _ _ 61 [.int .i64 61] from rfl) (Reps.one (show Kd.M (Kd.int .i64) _ _ _ 4611686018427387904 [.int .i64 4611686018427387904] from rfl) (Reps.none _ _)))))))); intro h4 h5 b0 hb hg_ hnew_; clear hg_ hnew_; (first | rw [← e5.out] at b0 | (simp only [Int.reduceToNat] at b0; rw [← e5.out] at b0)); have a8 := Aside0.mk (Kd.R_lower b0 (keep_size (w := w) (g := g) (row := none) kK)); replace HI0 := Aside0.mk (IsS73.below kI hb); replace a5 := bQ a5 hb; replace a7 := bQ a7 hb; replace HK := Aside0.mk (KeepBut.trans (w := w) kK (KeepBut.of_below hb g none) (.inl rfl)); replace HB := Aside0.mk (below_step bI hb); clear hb b0; obtain ⟨e1, e2, e3⟩ := Kd.R_slice a8.out; subst e3) | ((with_reducible refine gate_callee (f := 51) rfl ?_); refine goesL_ (some 18) rfl rfl Tryz.func51 kr rfl #[.pointer (some ⟨g, 0, none⟩), .slice e1 d8.length e2] rfl sM ?_; (with_reducible refine (spec_l1Cur_among.calls g s0_0 b4 b5 _ _ d8 e9 g7 g8 w0 _ ?side1 ?side2 ?side3 ?side4 ?side5 h3.out).mono ?_); (case side1 => exact kI); (case side2 => exact bI); (case side3 => repeat (first | exact (Kd.R_reads' a8.out).2.2 | (with_reducible refine Kd.C_alloc ?_ _) | (with_reducible refine Kd.C_drewN ?_ _) | (with_reducible refine Kd.C_drew ?_))); (case side4 => exact (Kd.R_reads' a8.out).2.1); (case side5 => exact far_slice (IsS73.own_ne HI0.out a8.out (by decide))); rintro e h6 ⟨rfl, hi, hb, hk⟩; refine ⟨_, rfl, ?_⟩; replace a5 := Aside0.mk (KeepBut.blk hk (g' := b1) (o := .cells #[.int .i64 0, .int .i64 0] 25 (0, 0)) (bK a5) a9.out (by simp)); replace a7 := Aside0.mk (KeepBut.blk hk (g' := c1) (o := .cells #[.int .i64 b2, .int .i64 b3] 25 (0, 0)) (bK a7) b9.out (by simp)); replace a8 := Aside0.mk (Kd.R_mono (Kd.R_keep (IsS73.apart (show IsS73 w0 _ g s0_0 b4 b5 from by repeat (first | (with_reducible first | exact HI0.out | apply IsS73.alloc | apply IsS73.drewN | apply IsS73.drew | apply IsS73.set_1 | apply IsS73.set_2 | refine IsS73.far ?_ a6.out _ | refine IsS73.far ?_ b6.out _) | exact HI0.out)) (oR a8) (by decide)) hk (fun _ h => h.2)) (fun _ h => h.1)); replace HK := Aside0.mk (KeepBut.trans (w := w) kK hk (.inl rfl)); replace HB := Aside0.mk (hb); replace HI0 := Aside0.mk (hi); (try clear hb); (try clear hk); (try clear hi); obtain ⟨c2, c3, c5, c6⟩ := cf2 a7; have e6 := a9.out; have e7 := a6.out; obtain ⟨c7, c8, c9, d0⟩ := cf2 a5)))
 ·(
 refine bodyPost_ret (results_cell_row rfl _ _ b1 25 #[.int .i64 e8, .int .i64 b3] (0, 0) _ rfl (bK a5) Tryz.underlying25 rfl kr) rfl ?_
 exact ⟨sE, kI, bI, kK⟩
 )
 ·(
 refine bodyPost_ret (results_cell_row rfl _ _ b1 25 #[.int .i64 b2, .int .i64 e9] (0, 0) _ rfl (bK a5) Tryz.underlying25 rfl kr) rfl ?_
 exact ⟨sE, kI, bI, kK⟩
 )
 ·(
 refine bodyPost_ret (results_cell_row rfl _ _ b1 25 #[.int .i64 b2, .int .i64 b3] (0, 0) _ rfl (bK a5) Tryz.underlying25 rfl kr) rfl ?_
 exact ⟨sE, kI, bI, kK⟩
 )

/-! ### spec_l1Least: function 79 -/
def spec_l1Least.f (a0 : Int) (a1 : Int) : Option (Int) := if a0 < a1 then (some a0) else (some a1)
set_option maxHeartbeats 8000000 in
set_option maxRecDepth 100000 in
theorem spec_l1Least.calls (a0 : Int) (a1 : Int) (r : Int) (w : World) (h : spec_l1Least.f a0 a1 = some r) :
    Calls Tryz.prog 79 #[.int .i64 a0, .int .i64 a1] w fun e w' => e = .returned (.int .i64 r) ∧ Drawn0 w w' := by
 have H := h
 unfold spec_l1Least.f at H
 clear h
 by_cases c3 : a0 < a1
 rw [if_pos c3] at H
 have a5 : decide (a0 < a1) = true := decide_eq_true c3
 clear c3
 obtain rfl := Option.some.inj H
 rotate_left
 rw [if_neg c3] at H
 have a5 : decide (a0 < a1) = false := decide_eq_false c3
 clear c3
 obtain rfl := Option.some.inj H
 rotate_left
 all_goals (go_enter Tryz.func79, Tryz.ntmps79)
 all_goals go_wp2
 all_goals go_ret
 all_goals (exact ⟨by first | rfl | (simp; done) | (simp [*]; done), by repeat (first | exact Drawn0.refl _ | apply Drawn0.step)⟩)

/-! ### spec_l1Most: function 80 -/
def spec_l1Most.f (a0 : Int) (a1 : Int) : Option (Int) := if a0 > a1 then (some a0) else (some a1)
set_option maxHeartbeats 8000000 in
set_option maxRecDepth 100000 in
theorem spec_l1Most.calls (a0 : Int) (a1 : Int) (r : Int) (w : World) (h : spec_l1Most.f a0 a1 = some r) :
    Calls Tryz.prog 80 #[.int .i64 a0, .int .i64 a1] w fun e w' => e = .returned (.int .i64 r) ∧ Drawn0 w w' := by
 have H := h
 unfold spec_l1Most.f at H
 clear h
 by_cases c3 : a0 > a1
 rw [if_pos c3] at H
 have a5 : decide (a1 < a0) = true := decide_eq_true c3
 clear c3
 obtain rfl := Option.some.inj H
 rotate_left
 rw [if_neg c3] at H
 have a5 : decide (a1 < a0) = false := decide_eq_false c3
 clear c3
 obtain rfl := Option.some.inj H
 rotate_left
 all_goals (go_enter Tryz.func80, Tryz.ntmps80)
 all_goals go_wp2
 all_goals go_ret
 all_goals (exact ⟨by first | rfl | (simp; done) | (simp [*]; done), by repeat (first | exact Drawn0.refl _ | apply Drawn0.step)⟩)

end Go.Proofs.YtlmiaadpnbehgaaGreatDoor.PFnBeamsEnd
