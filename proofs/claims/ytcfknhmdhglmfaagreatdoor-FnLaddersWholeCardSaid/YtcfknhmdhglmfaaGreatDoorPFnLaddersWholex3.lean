-- Written by xprint.py, a program of this session, for this seat; Lean checks it.
import Derived.Test.YtcfknhmdhglmfaaGreatDoorVM
import Derived.Test.YtcfknhmdhglmfaaGreatDoorPFnLaddersWholex0
import Derived.Test.YtcfknhmdhglmfaaGreatDoorPFnLaddersWholex2
namespace Go.Proofs.YtcfknhmdhglmfaaGreatDoor.PFnLaddersWhole
open Go.Proofs.YtcfknhmdhglmfaaGreatDoorV Go.RowKit Go.Proofs.YtcfknhmdhglmfaaGreatDoorW.PrintWords Go.Proofs.YtcfknhmdhglmfaaGreatDoorW.PrintLast Go.Proofs.YtcfknhmdhglmfaaGreatDoorW.PrintMore
attribute [local go_sem] max2_int min2_int max_two min_two max_three min_three max_four min_four   -- for this text's walks alone
set_option linter.unusedVariables false
set_option linter.unusedSimpArgs false

/-! ### spec_clText: function 51 -/
def spec_clText.f (k : Nat) (a0_0 : Int) (a0_1 : Int) (a0_2 : Int) : Option (ByteArray) := (spec_l1Num.f k a0_0).bind fun t179 => (if t179.size + 1 ≤ 9223372036854775807 then ((spec_l1Num.f k a0_1).bind fun t180 => (if (t179 ++ (⟨#[58]⟩ : ByteArray)).size + t180.size ≤ 9223372036854775807 then (if ((t179 ++ (⟨#[58]⟩ : ByteArray)) ++ t180).size + 1 ≤ 9223372036854775807 then ((spec_l1Num.f k a0_2).bind fun t181 => (if (((t179 ++ (⟨#[58]⟩ : ByteArray)) ++ t180) ++ (⟨#[47]⟩ : ByteArray)).size + t181.size ≤ 9223372036854775807 then (some ((((t179 ++ (⟨#[58]⟩ : ByteArray)) ++ t180) ++ (⟨#[47]⟩ : ByteArray)) ++ t181)) else (none))) else (none)) else (none))) else (none))
theorem spec_clText.mono : ∀ a0 a1 a2 k, LeO (spec_clText.f k a0 a1 a2) (spec_clText.f (k + 1) a0 a1 a2) := by
  intro a0 a1 a2 k
  unfold spec_clText.f
  repeat' first
      | (with_reducible exact spec_l1Num.mono _ _)
      | (with_reducible exact LeO.refl _)
      | (with_reducible exact LeO.none _)
      | (with_reducible refine LeO.ite ?_ ?_)
      | (with_reducible refine LeO.bind ?_ (fun _ => ?_))
      | exact spec_l1Num.mono _ _
      | exact LeO.none _
      | refine LeO.ite ?_ ?_
      | refine LeO.bind ?_ (fun _ => ?_)
def spec_clText.T1 : Bool × List (List Nat × List Nat) := (true, [([], []), ([0], [0]), ([1], [1]), ([2], [2]), ([], []), ([4], [4]), ([5, 2], [5]), ([3, 6], [3, 6]), ([7], [7]), ([], []), ([9], [9]), ([10, 6], [10]), ([8, 11], [8, 11]), ([12, 11, 0, 1, 2, 3, 4, 5, 6, 7, 8, 9, 10, 11, 12], [12])])
def spec_clText.B1 : List Nat := [0, 1, 3, 7, 0, 16, 55, 127, 255, 0, 512, 1655, 4095, 8191]
theorem spec_clText.tab1 : rtab .any (opsOf Tryz.f51 1) = spec_clText.T1 := by kernel_rfl
theorem spec_clText.bits1 : waitsOk spec_clText.T1.2 spec_clText.B1 = true := by kernel_rfl
abbrev spec_clText.pl0 : List (Nat × Option Tmp × Nat) := [q 0 3, q 4 7, q 9 12, qt 1 4, qt 5 8, qt 10 13, qo 2 5, q 3 6, qo 6 9, q 7 10, q 8 11, qo 11 14, q 12 15, q 13 2]
set_option maxHeartbeats 8000000 in
set_option maxRecDepth 100000 in
theorem spec_clText.calls (k : Nat) (a0_0 : Int) (a0_1 : Int) (a0_2 : Int) (r : ByteArray) (w : World) (h : spec_clText.f k a0_0 a0_1 a0_2 = some r) :
    Calls Tryz.prog 51 #[.agg #[.int .i64 a0_0, .int .i64 a0_1, .int .i64 a0_2]] w fun e w' => e = .returned (.string r) ∧ Below w.heap.size w w' := by
 have b2 := Tryz.underlying25
 have HB := Aside0.mk (Below.refl w.heap.size w)
 have H := h
 unfold spec_clText.f at H
 clear h
 obtain ⟨a5, A2, H⟩ := bD H
 try dsimp only at H
 by_cases c3 : a5.size + 1 ≤ 9223372036854775807
 ·(
 rw [if_pos c3] at H
 have b3 := eq_true c3
 have b4 : decide (a5.size + 1 ≤ 9223372036854775807) = true := decide_eq_true c3
 try have b5 : (9223372036854775807 < a5.size + 1) = False := eq_false (Nat.not_lt.2 c3)
 obtain ⟨a6, A4, H⟩ := bD H
 try dsimp only at H
 by_cases c5 : (a5 ++ (⟨#[58]⟩ : ByteArray)).size + a6.size ≤ 9223372036854775807
 ·(
 rw [if_pos c5] at H
 have b6 := eq_true c5
 have b7 : decide ((a5 ++ (⟨#[58]⟩ : ByteArray)).size + a6.size ≤ 9223372036854775807) = true := decide_eq_true c5
 try have b8 : (9223372036854775807 < (a5 ++ (⟨#[58]⟩ : ByteArray)).size + a6.size) = False := eq_false (Nat.not_lt.2 c5)
 try have b9 : (9223372036854775807 < a5.size + 1 + a6.size) = False := eq_false (Nat.not_lt.2 (by have z_ := c5; rw [ByteArray.size_append] at z_; exact z_))
 by_cases c6 : ((a5 ++ (⟨#[58]⟩ : ByteArray)) ++ a6).size + 1 ≤ 9223372036854775807
 ·(
 rw [if_pos c6] at H
 have c0 := eq_true c6
 have c1 : decide (((a5 ++ (⟨#[58]⟩ : ByteArray)) ++ a6).size + 1 ≤ 9223372036854775807) = true := decide_eq_true c6
 try have c2 : (9223372036854775807 < ((a5 ++ (⟨#[58]⟩ : ByteArray)) ++ a6).size + 1) = False := eq_false (Nat.not_lt.2 c6)
 try have c4 : (9223372036854775807 < a5.size + 1 + a6.size + 1) = False := eq_false (Nat.not_lt.2 (by have z_ := c6; simp only [ByteArray.size_append] at z_; exact z_))
 obtain ⟨a8, A7, H⟩ := bD H
 try dsimp only at H
 by_cases c8 : (((a5 ++ (⟨#[58]⟩ : ByteArray)) ++ a6) ++ (⟨#[47]⟩ : ByteArray)).size + a8.size ≤ 9223372036854775807
 ·(
 rw [if_pos c8] at H
 have c7 := eq_true c8
 have c9 : decide ((((a5 ++ (⟨#[58]⟩ : ByteArray)) ++ a6) ++ (⟨#[47]⟩ : ByteArray)).size + a8.size ≤ 9223372036854775807) = true := decide_eq_true c8
 try have d0 : (9223372036854775807 < (((a5 ++ (⟨#[58]⟩ : ByteArray)) ++ a6) ++ (⟨#[47]⟩ : ByteArray)).size + a8.size) = False := eq_false (Nat.not_lt.2 c8)
 try have d1 : (9223372036854775807 < a5.size + 1 + a6.size + 1 + a8.size) = False := eq_false (Nat.not_lt.2 (by have z_ := c8; simp only [ByteArray.size_append] at z_; exact z_))
 obtain rfl := Option.some.inj H
 go_enter Tryz.func51, Tryz.ntmps51
 try go_wp2_with (first | ((with_reducible refine gate_dst (N := 1) rfl ?_); refine box_ (cs := #[.int .i64 a0_0, .int .i64 a0_1, .int .i64 a0_2]) (t := 25) fun a9 hg w9 hbox hb => ?_; have a7 := Aside0.mk (hbox); have b0 := bS HB hg; have b1 := bS HB hg; replace HB := Aside0.mk (below_step bB hb); clear hb hbox hg))
 replace a7 := bD1 a7
 replace HB := Aside0.mk (below_drew1 HB.out)
 refine st_ 14 spec_clText.pl0 (S := fun w' => w'.cell? ⟨a9, 0, none⟩ = some (.int .i64 a0_0) ∧ w'.cell? ⟨a9, 1, none⟩ = some (.int .i64 a0_1) ∧ w'.cell? ⟨a9, 2, none⟩ = some (.int .i64 a0_2)) (ds := []) spec_clText.tab1 spec_clText.bits1 cS (fun hHeld HT_ HW_ => ?_)
 generalize w9.drew = d2 at a7 HB hHeld ⊢
 iterate 6 (first | refine pA HT_ ?_ | refine pT HT_ HW_ hHeld ?_)
 refine pO HT_ fun K hK => ?_
 refine goes_ Tryz.func62 kr rfl #[.int .i64 a0_0] (by rfl) rfl rfl sM ?_
 with_reducible refine (spec_l1Num.calls k a0_0 a5 _ A2.out).mono ?_
 rintro e d3 ⟨rfl, hb⟩
 refine ⟨_, rfl, ?_⟩
 replace a7 := bQ a7 hb
 replace HB := Aside0.mk (below_step bB hb)
 try clear hb
 refine hK.out _ _ cS (fun hHeld => ?_)
 clear hK K
 refine nP ?_
 refine pA HT_ ?_
 refine pO HT_ fun K hK => ?_
 refine goes_ Tryz.func62 kr rfl #[.int .i64 a0_1] (by rfl) rfl rfl sM ?_
 with_reducible refine (spec_l1Num.calls k a0_1 a6 _ A4.out).mono ?_
 rintro e d4 ⟨rfl, hb⟩
 refine ⟨_, rfl, ?_⟩
 replace a7 := bQ a7 hb
 replace HB := Aside0.mk (below_step bB hb)
 try clear hb
 refine hK.out _ _ cS (fun hHeld => ?_)
 clear hK K
 refine nP ?_
 iterate 2 refine pA HT_ ?_
 refine pO HT_ fun K hK => ?_
 refine goes_ Tryz.func62 kr rfl #[.int .i64 a0_2] (by rfl) rfl rfl sM ?_
 with_reducible refine (spec_l1Num.calls k a0_2 a8 _ A7.out).mono ?_
 rintro e d5 ⟨rfl, hb⟩
 refine ⟨_, rfl, ?_⟩
 replace a7 := bQ a7 hb
 replace HB := Aside0.mk (below_step bB hb)
 try clear hb
 refine hK.out _ _ cS (fun hHeld => ?_)
 clear hK K
 refine nP ?_
 iterate 2 refine pA HT_ ?_
 refine pD HT_ ?_
 try go_wp2
 (try rw [dSet])
 go_ret
 exact ⟨sE, bI⟩
 )
 ·(
 rw [if_neg c8] at H
 exact absurd H (by simp)
 )
 )
 ·(
 rw [if_neg c6] at H
 exact absurd H (by simp)
 )
 )
 ·(
 rw [if_neg c5] at H
 exact absurd H (by simp)
 )
 )
 ·(
 rw [if_neg c3] at H
 exact absurd H (by simp)
 )

/-! ### spec_l1Cur_spoilt: function 53 -/
mutual
def spec_l1Cur_spoilt.l0 : Nat → ByteArray → ByteArray → Int → List Int → Int → Int → Option (ByteArray × Int × Int)
  | 0, _, _, _, _, _, _ => none
  | k + 1, x1, x2, x7, x1000, x1001, x1002 => if x7 > 0 then (spec_l1Cur_spoilt.j1 k x1 x2 x7 (decide ((x1.size : Int) > 0)) x1000 x1001 x1002) else (spec_l1Cur_spoilt.j1 k x1 x2 x7 false x1000 x1001 x1002)
def spec_l1Cur_spoilt.j1 : Nat → ByteArray → ByteArray → Int → Bool → List Int → Int → Int → Option (ByteArray × Int × Int)
  | 0, _, _, _, _, _, _, _ => none
  | k + 1, x1, x2, x7, x19, x1000, x1001, x1002 => if x19 = true then ((spec_l1Cur_pick.f x1000 x1001 x1002 (x1.size : Int)).bind fun bt185 => ((spec_l1Cur_pick.f x1000 bt185.2.1 bt185.2.2 (x2.size : Int)).bind fun bt188 => (if 0 ≤ bt188.1 then (if bt188.1 < (x2.size : Int) then ((some (([bt x2 bt188.1] : List Int) : List Int)).bind fun y191 => ((spec_l1Cur_pick.f x1000 bt188.2.1 bt188.2.2 3).bind fun bt194 => (if bt194.1 = 0 then (if 0 ≤ bt185.1 then (if bt185.1 ≤ (x1.size : Int) then (if (x1.extract 0 (bt185.1 : Int).toNat).size + (strOfNums y191).size ≤ 9223372036854775807 then (if ((x1.extract 0 (bt185.1 : Int).toNat) ++ (strOfNums y191)).size + (x1.extract (bt185.1 : Int).toNat x1.size).size ≤ 9223372036854775807 then (spec_l1Cur_spoilt.l0 k (((x1.extract 0 (bt185.1 : Int).toNat) ++ (strOfNums y191)) ++ (x1.extract (bt185.1 : Int).toNat x1.size)) x2 (wrap64 (x7 - 1)) x1000 bt194.2.1 bt194.2.2) else (none)) else (none)) else (none)) else (none)) else (if bt194.1 = 1 then (if 0 ≤ bt185.1 then (if bt185.1 ≤ (x1.size : Int) then (if (x1.extract 0 (bt185.1 : Int).toNat).size + (strOfNums y191).size ≤ 9223372036854775807 then (if 0 ≤ (wrap64 (bt185.1 + 1)) then (if (wrap64 (bt185.1 + 1)) ≤ (x1.size : Int) then (if ((x1.extract 0 (bt185.1 : Int).toNat) ++ (strOfNums y191)).size + (x1.extract ((wrap64 (bt185.1 + 1)) : Int).toNat x1.size).size ≤ 9223372036854775807 then (spec_l1Cur_spoilt.l0 k (((x1.extract 0 (bt185.1 : Int).toNat) ++ (strOfNums y191)) ++ (x1.extract ((wrap64 (bt185.1 + 1)) : Int).toNat x1.size)) x2 (wrap64 (x7 - 1)) x1000 bt194.2.1 bt194.2.2) else (none)) else (none)) else (none)) else (none)) else (none)) else (none)) else (if 0 ≤ bt185.1 then (if bt185.1 ≤ (x1.size : Int) then (if 0 ≤ (wrap64 (bt185.1 + 1)) then (if (wrap64 (bt185.1 + 1)) ≤ (x1.size : Int) then (if (x1.extract 0 (bt185.1 : Int).toNat).size + (x1.extract ((wrap64 (bt185.1 + 1)) : Int).toNat x1.size).size ≤ 9223372036854775807 then (spec_l1Cur_spoilt.l0 k ((x1.extract 0 (bt185.1 : Int).toNat) ++ (x1.extract ((wrap64 (bt185.1 + 1)) : Int).toNat x1.size)) x2 (wrap64 (x7 - 1)) x1000 bt194.2.1 bt194.2.2) else (none)) else (none)) else (none)) else (none)) else (none)))))) else (none)) else (none)))) else (some (x1, x1001, x1002))
end
def spec_l1Cur_spoilt.f (k : Nat) (s0_0 : List Int) (s0_1 : Int) (s0_2 : Int) (a1 : ByteArray) (a2 : ByteArray) : Option (ByteArray × Int × Int) := (spec_l1Cur_pick.f s0_0 s0_1 s0_2 2).bind fun bt182 => (spec_l1Cur_spoilt.l0 k a1 a2 (wrap64 (1 + bt182.1)) s0_0 bt182.2.1 bt182.2.2)
theorem spec_l1Cur_spoilt.mono_l : ∀ k, (∀ y0 y1 y2 y3 y4 y5, LeO (spec_l1Cur_spoilt.l0 k y0 y1 y2 y3 y4 y5) (spec_l1Cur_spoilt.l0 (k + 1) y0 y1 y2 y3 y4 y5)) ∧ (∀ y0 y1 y2 y3 y4 y5 y6, LeO (spec_l1Cur_spoilt.j1 k y0 y1 y2 y3 y4 y5 y6) (spec_l1Cur_spoilt.j1 (k + 1) y0 y1 y2 y3 y4 y5 y6))
  | 0 => ⟨fun _ _ _ _ _ _ r h => by simp [spec_l1Cur_spoilt.l0] at h, fun _ _ _ _ _ _ _ r h => by simp [spec_l1Cur_spoilt.j1] at h⟩
  | k + 1 => by
    obtain ⟨ih0, ih1⟩ := spec_l1Cur_spoilt.mono_l k
    refine ⟨?_, ?_⟩
    · intro y0 y1 y2 y3 y4 y5
      unfold spec_l1Cur_spoilt.l0
      repeat' first
      | (with_reducible exact ih0 _ _ _ _ _ _)
      | (with_reducible exact ih1 _ _ _ _ _ _ _)
      | (with_reducible exact LeO.refl _)
      | (with_reducible exact LeO.none _)
      | (with_reducible refine LeO.ite ?_ ?_)
      | (with_reducible refine LeO.bind ?_ (fun _ => ?_))
      | exact ih0 _ _ _ _ _ _
      | exact ih1 _ _ _ _ _ _ _
      | exact LeO.none _
      | refine LeO.ite ?_ ?_
      | refine LeO.bind ?_ (fun _ => ?_)
    · intro y0 y1 y2 y3 y4 y5 y6
      unfold spec_l1Cur_spoilt.j1
      repeat' first
      | (with_reducible exact ih0 _ _ _ _ _ _)
      | (with_reducible exact ih1 _ _ _ _ _ _ _)
      | (with_reducible exact LeO.refl _)
      | (with_reducible exact LeO.none _)
      | (with_reducible refine LeO.ite ?_ ?_)
      | (with_reducible refine LeO.bind ?_ (fun _ => ?_))
      | exact ih0 _ _ _ _ _ _
      | exact ih1 _ _ _ _ _ _ _
      | exact LeO.none _
      | refine LeO.ite ?_ ?_
      | refine LeO.bind ?_ (fun _ => ?_)
theorem spec_l1Cur_spoilt.mono : ∀ a0 a1 a2 a3 a4 k, LeO (spec_l1Cur_spoilt.f k a0 a1 a2 a3 a4) (spec_l1Cur_spoilt.f (k + 1) a0 a1 a2 a3 a4) := by
  intro a0 a1 a2 a3 a4 k
  obtain ⟨ih0, ih1⟩ := spec_l1Cur_spoilt.mono_l k
  unfold spec_l1Cur_spoilt.f
  repeat' first
      | (with_reducible exact ih0 _ _ _ _ _ _)
      | (with_reducible exact ih1 _ _ _ _ _ _ _)
      | (with_reducible exact LeO.refl _)
      | (with_reducible exact LeO.none _)
      | (with_reducible refine LeO.ite ?_ ?_)
      | (with_reducible refine LeO.bind ?_ (fun _ => ?_))
      | exact ih0 _ _ _ _ _ _
      | exact ih1 _ _ _ _ _ _ _
      | exact LeO.none _
      | refine LeO.ite ?_ ?_
      | refine LeO.bind ?_ (fun _ => ?_)
set_option maxHeartbeats 8000000 in
set_option maxRecDepth 100000 in
theorem spec_l1Cur_spoilt.calls (k : Nat) (g : Nat) (s0_0 : List Int) (s0_1 : Int) (s0_2 : Int) (a1 : ByteArray) (a2 : ByteArray) (r1 : ByteArray) (r2 : Int) (r3 : Int) (w0 w : World) (hI : IsS61 w0 w g s0_0 s0_1 s0_2) (hB : Below w0.heap.size w0 w) (h : spec_l1Cur_spoilt.f k s0_0 s0_1 s0_2 a1 a2 = some (r1, r2, r3)) :
    Calls Tryz.prog 53 #[.pointer (some ⟨g, 0, none⟩), .string a1, .string a2] w fun e w' => e = .returned (.string r1) ∧ IsS61 w0 w' g s0_0 r2 r3 ∧ Below w0.heap.size w0 w' ∧ KeepBut w w' g none := by
 have HI0 := Aside0.mk hI
 have HK := Aside0.mk (KeepBut.refl w g none)
 have HL := Aside0.mk hB.size
 clear hI
 have n9 := Aside0.mk hB.size
 have HB := Aside0.mk hB
 clear hB
 have H := h
 unfold spec_l1Cur_spoilt.f at H
 clear h
 obtain ⟨⟨e1, e2, e3⟩, A4, H⟩ := bD H
 try dsimp only at H
 have H' := Aside0.mk H
 clear H
 go_enter Tryz.func53, Tryz.ntmps53
 go_wp2_with (first | (go_at_call 44; (with_reducible refine (spec_l1Cur_pick.calls g s0_0 s0_1 s0_2 2 e1 e2 e3 w0 _ ?side1 ?side2 A4.out).mono ?_); (case side1 => exact kI); (case side2 => exact bI); rintro e w5 ⟨rfl, hi, hb, hk⟩; replace HK := Aside0.mk (KeepBut.trans (w := w) kK hk (.inl rfl)); replace HB := Aside0.mk (hb); replace HI0 := Aside0.mk (hi); (try clear hb); (try clear hk); (try clear hi)))
 repeat (go_quiet (first | (go_at_call 44; (with_reducible refine (spec_l1Cur_pick.calls g s0_0 s0_1 s0_2 2 e1 e2 e3 w0 _ ?side1 ?side2 A4.out).mono ?_); (case side1 => exact kI); (case side2 => exact bI); rintro e w5 ⟨rfl, hi, hb, hk⟩; replace HK := Aside0.mk (KeepBut.trans (w := w) kK hk (.inl rfl)); replace HB := Aside0.mk (hb); replace HI0 := Aside0.mk (hi); (try clear hb); (try clear hk); (try clear hi))); try go_wp2_with (first | (go_at_call 44; (with_reducible refine (spec_l1Cur_pick.calls g s0_0 s0_1 s0_2 2 e1 e2 e3 w0 _ ?side1 ?side2 A4.out).mono ?_); (case side1 => exact kI); (case side2 => exact bI); rintro e w5 ⟨rfl, hi, hb, hk⟩; replace HK := Aside0.mk (KeepBut.trans (w := w) kK hk (.inl rfl)); replace HB := Aside0.mk (hb); replace HI0 := Aside0.mk (hi); (try clear hb); (try clear hk); (try clear hi))))
 go_loopg [1, 7] k (fun kq v1 v7 w' => ∃ (a5 : ByteArray) (c2 : Int) (b1 : Int) (b2 : Int), v1 = .string a5 ∧ v7 = .int .i64 c2 ∧ Aside0 (spec_l1Cur_spoilt.l0 kq a5 a2 c2 s0_0 b1 b2 = some (r1, r2, r3)) ∧ Aside0 (kq ≤ k) ∧ Aside0 (IsS61 w0 w' g s0_0 b1 b2) ∧ Aside0 (KeepBut w w' g none) ∧ Aside0 (Below w0.heap.size w0 w'))
 case atStart => exact ⟨(a1), (wrap64 (1 + e1)), (e2), (e3), sR, sR, H', ⟨Nat.le_refl _⟩, ⟨kI⟩, ⟨kK⟩, ⟨bI⟩⟩
 case round => (
 clear H'
 obtain ⟨a5, c2, b1, b2, rfl, rfl, HA, HK1, HI0, HK, HB⟩ := hrel
 cases gk with
 | zero => exact absurd HA.out (by simp [spec_l1Cur_spoilt.l0])
 | succ k1 => (
 have H := HA.out
 clear HA
 simp only [spec_l1Cur_spoilt.l0] at H
 have h6 := Aside0.mk H
 clear H
 go_upto_region 2 with (fail)
 repeat (go_quiet (fail); go_upto_region 2 with (fail))
 go_cut [19] (fun j5 wc => ∃ (kq : Nat) (d8 : Bool), j5 = .bool d8 ∧ Aside0 (spec_l1Cur_spoilt.j1 kq a5 a2 c2 d8 s0_0 b1 b2 = some (r1, r2, r3)) ∧ Aside0 (kq ≤ k1) ∧ Aside0 (IsS61 w0 wc g s0_0 b1 b2) ∧ Aside0 (KeepBut w wc g none) ∧ Aside0 (Below w0.heap.size w0 wc))
 case first => (
 have H := h6.out
 clear h6
 by_cases c7 : c2 > 0
 ·(
 rw [if_pos c7] at H
 have d9 : decide (0 < c2) = true := decide_eq_true c7
 clear c7
 (first | rw [d9] | (simp only [i64_w, i32_w]; rw [d9]) | skip)
 have H' := Aside0.mk H
 clear H
 go_wp2
 repeat (go_quiet (fail); try go_wp2)
 go_meet
 case rel => exact ⟨_, (decide ((a5.size : Int) > 0)), sR, H', ⟨by have := HK1.out; first | omega | exact Nat.le_refl _⟩, ⟨kI⟩, ⟨kK⟩, ⟨bI⟩⟩
 )
 ·(
 rw [if_neg c7] at H
 have d9 : decide (0 < c2) = false := decide_eq_false c7
 clear c7
 (first | rw [d9] | (simp only [i64_w, i32_w]; rw [d9]) | skip)
 have H' := Aside0.mk H
 clear H
 go_wp2
 repeat (go_quiet (fail); try go_wp2)
 go_meet
 case rel => exact ⟨_, (false), sR, H', ⟨by have := HK1.out; first | omega | exact Nat.le_refl _⟩, ⟨kI⟩, ⟨kK⟩, ⟨bI⟩⟩
 )
 )
 case rest => (
 clear h6
 obtain ⟨kq, d8, rfl, HA, HJ5, HI0, HK, HB⟩ := hcut
 cases kq with
 | zero => exact absurd HA.out (by simp [spec_l1Cur_spoilt.j1])
 | succ e0 => (
 have H := HA.out
 clear HA
 simp only [spec_l1Cur_spoilt.j1] at H
 by_cases c8 : d8 = true
 ·(
 subst c8
 rw [if_pos rfl] at H
 obtain ⟨⟨a7, b7, b8⟩, A9, H⟩ := bD H
 try dsimp only at H
 obtain ⟨⟨a6, a9, b0⟩, d3, H⟩ := bD H
 try dsimp only at H
 by_cases h1 : 0 ≤ a6
 ·(
 rw [if_pos h1] at H
 have j8 : decide (0 ≤ a6) = true := decide_eq_true h1
 clear h1
 by_cases h2 : a6 < (a2.size : Int)
 ·(
 rw [if_pos h2] at H
 have j9 : decide (a6 < (a2.size : Int)) = true := decide_eq_true h2
 clear h2
 obtain ⟨b4, d7⟩ : ∃ y_ : List Int, y_ = (([bt a2 a6] : List Int)) := ⟨_, rfl⟩
 replace H : ((spec_l1Cur_pick.f s0_0 a9 b0 3).bind fun c6 => (if c6.1 = 0 then (if 0 ≤ a7 then (if a7 ≤ (a5.size : Int) then (if (a5.extract 0 (a7 : Int).toNat).size + (strOfNums b4).size ≤ 9223372036854775807 then (if ((a5.extract 0 (a7 : Int).toNat) ++ (strOfNums b4)).size + (a5.extract (a7 : Int).toNat a5.size).size ≤ 9223372036854775807 then (spec_l1Cur_spoilt.l0 e0 (((a5.extract 0 (a7 : Int).toNat) ++ (strOfNums b4)) ++ (a5.extract (a7 : Int).toNat a5.size)) a2 (wrap64 (c2 - 1)) s0_0 c6.2.1 c6.2.2) else (none)) else (none)) else (none)) else (none)) else (if c6.1 = 1 then (if 0 ≤ a7 then (if a7 ≤ (a5.size : Int) then (if (a5.extract 0 (a7 : Int).toNat).size + (strOfNums b4).size ≤ 9223372036854775807 then (if 0 ≤ (wrap64 (a7 + 1)) then (if (wrap64 (a7 + 1)) ≤ (a5.size : Int) then (if ((a5.extract 0 (a7 : Int).toNat) ++ (strOfNums b4)).size + (a5.extract ((wrap64 (a7 + 1)) : Int).toNat a5.size).size ≤ 9223372036854775807 then (spec_l1Cur_spoilt.l0 e0 (((a5.extract 0 (a7 : Int).toNat) ++ (strOfNums b4)) ++ (a5.extract ((wrap64 (a7 + 1)) : Int).toNat a5.size)) a2 (wrap64 (c2 - 1)) s0_0 c6.2.1 c6.2.2) else (none)) else (none)) else (none)) else (none)) else (none)) else (none)) else (if 0 ≤ a7 then (if a7 ≤ (a5.size : Int) then (if 0 ≤ (wrap64 (a7 + 1)) then (if (wrap64 (a7 + 1)) ≤ (a5.size : Int) then (if (a5.extract 0 (a7 : Int).toNat).size + (a5.extract ((wrap64 (a7 + 1)) : Int).toNat a5.size).size ≤ 9223372036854775807 then (spec_l1Cur_spoilt.l0 e0 ((a5.extract 0 (a7 : Int).toNat) ++ (a5.extract ((wrap64 (a7 + 1)) : Int).toNat a5.size)) a2 (wrap64 (c2 - 1)) s0_0 c6.2.1 c6.2.2) else (none)) else (none)) else (none)) else (none)) else (none))))) = some (r1, r2, r3) := by first | (rw [d7]; with_reducible exact H) | (have h7 := (Option.bind_some _ _).symm.trans H; rw [d7]; with_reducible exact h7) | (have h7 := (Option.bind_some _ _).symm.trans H; with_reducible exact h7) | with_reducible exact H | (rw [d7]; exact H) | exact H
 have b3 := Aside0.mk d7
 clear d7
 obtain ⟨⟨c5, c3, c4⟩, d4, H⟩ := bD H
 try dsimp only at H
 by_cases e4 : c5 = 0
 ·(
 rw [if_pos e4] at H
 obtain ⟨h8, h9⟩ := yE e4
 clear e4
 by_cases e5 : 0 ≤ a7
 ·(
 rw [if_pos e5] at H
 have k0 := eq_true e5
 have k2 : decide (0 ≤ a7) = true := decide_eq_true e5
 clear e5
 by_cases e6 : a7 ≤ (a5.size : Int)
 ·(
 rw [if_pos e6] at H
 have k3 := eq_true e6
 have k4 : decide (a7 ≤ (a5.size : Int)) = true := decide_eq_true e6
 clear e6
 by_cases e7 : (a5.extract 0 (a7 : Int).toNat).size + (strOfNums b4).size ≤ 9223372036854775807
 ·(
 rw [if_pos e7] at H
 have k5 := eq_true e7
 have k6 : decide ((a5.extract 0 (a7 : Int).toNat).size + (strOfNums b4).size ≤ 9223372036854775807) = true := decide_eq_true e7
 try have k7 : (9223372036854775807 < (a5.extract 0 (a7 : Int).toNat).size + (strOfNums b4).size) = False := eq_false (Nat.not_lt.2 e7)
 have k8 := eq_true (of_decide_eq_true asm : 0 ≤ a7)
 have k9 := eq_true (of_decide_eq_true asm : a7 ≤ (a5.size : Int))
 by_cases e8 : ((a5.extract 0 (a7 : Int).toNat) ++ (strOfNums b4)).size + (a5.extract (a7 : Int).toNat a5.size).size ≤ 9223372036854775807
 ·(
 rw [if_pos e8] at H
 have l1 := eq_true e8
 have l2 : decide (((a5.extract 0 (a7 : Int).toNat) ++ (strOfNums b4)).size + (a5.extract (a7 : Int).toNat a5.size).size ≤ 9223372036854775807) = true := decide_eq_true e8
 try have l3 : (9223372036854775807 < ((a5.extract 0 (a7 : Int).toNat) ++ (strOfNums b4)).size + (a5.extract (a7 : Int).toNat a5.size).size) = False := eq_false (Nat.not_lt.2 e8)
 have H' := Aside0.mk H
 clear H
 go_wp2_with (first | (go_at_call 44; (with_reducible refine (spec_l1Cur_pick.calls g s0_0 b1 b2 (a5.size : Int) a7 b7 b8 w0 _ ?side1 ?side2 A9.out).mono ?_); (case side1 => exact kI); (case side2 => exact bI); rintro e i2 ⟨rfl, hi, hb, hk⟩; replace HK := Aside0.mk (KeepBut.trans (w := w) kK hk (.inl rfl)); replace HB := Aside0.mk (hb); replace HI0 := Aside0.mk (hi); (try clear hb); (try clear hk); (try clear hi)) | (go_at_call 44; (with_reducible refine (spec_l1Cur_pick.calls g s0_0 b7 b8 (a2.size : Int) a6 a9 b0 w0 _ ?side1 ?side2 d3.out).mono ?_); (case side1 => exact kI); (case side2 => exact bI); rintro e i3 ⟨rfl, hi, hb, hk⟩; replace HK := Aside0.mk (KeepBut.trans (w := w) kK hk (.inl rfl)); replace HB := Aside0.mk (hb); replace HI0 := Aside0.mk (hi); (try clear hb); (try clear hk); (try clear hi); have b5 : 0 ≤ (a6 : Int) := of_decide_eq_true asm; have b6 : a6 < (a2.size : Int) := of_decide_eq_true asm; have d5 := bt_at a2 a6; replace b5 := eq_true b5; replace b6 := eq_true b6) | ((with_reducible refine gate_dst (N := 32) rfl ?_); (try (refine gate_guard (by rfl) ?_; dsimp only)); refine Kd.R_lit (Kd.int .u8) _ 5 ?hg (N := 32) ?hd (xs := ([bt a2 a6] : List Int)) (inner := [.int .u8 (bt a2 a6)]) (ok := fun _ => True) (okp := fun _ => True) ?hr ?hp (fun _ hk => hk) trivial (Below.refl _ _) (Nat.le_refl _) (by simp) ?_; (case hd => rfl); (case hg => rfl); (case hr => first | (go_simp; done) | (go_simp; rfl)); (case hp => exact (Reps.one (show Kd.M (Kd.int .u8) _ _ _ (bt a2 a6) [.int .u8 (bt a2 a6)] from rfl) (Reps.none _ _))); intro d6 i4 b9 hb hg_ hnew_; clear hg_ hnew_; (first | rw [← b3.out] at b9 | (simp only [Int.reduceToNat] at b9; rw [← b3.out] at b9)); have a8 := Aside0.mk (Kd.R_lower b9 (keep_size (w := w) (g := g) (row := none) kK)); replace HI0 := Aside0.mk (IsS61.below kI hb); replace HK := Aside0.mk (KeepBut.trans (w := w) kK (KeepBut.of_below hb g none) (.inl rfl)); replace HB := Aside0.mk (below_step bI hb); clear hb b9; have h3 := own_string (P := Tryz.prog) Tryz.underlying22 Tryz.underlying5 Tryz.underlying9 (Kd.own_of_R a8.out)) | (go_at_call 44; (with_reducible refine (spec_l1Cur_pick.calls g s0_0 a9 b0 3 c5 c3 c4 w0 _ ?side1 ?side2 d4.out).mono ?_); (case side1 => exact kI); (case side2 => exact bI); rintro e i5 ⟨rfl, hi, hb, hk⟩; replace a8 := Aside0.mk (Kd.R_mono (Kd.R_keep (IsS61.apart (show IsS61 w0 _ g s0_0 a9 b0 from by repeat (first | (with_reducible first | exact HI0.out | apply IsS61.alloc | apply IsS61.drewN | apply IsS61.drew | apply IsS61.set_1 | apply IsS61.set_2) | exact HI0.out)) (oR a8) (by decide)) hk (fun _ h => h.2)) (fun _ h => h.1)); replace HK := Aside0.mk (KeepBut.trans (w := w) kK hk (.inl rfl)); replace HB := Aside0.mk (hb); replace HI0 := Aside0.mk (hi); (try clear hb); (try clear hk); (try clear hi)))
 repeat (go_quiet (first | (go_at_call 44; (with_reducible refine (spec_l1Cur_pick.calls g s0_0 b1 b2 (a5.size : Int) a7 b7 b8 w0 _ ?side1 ?side2 A9.out).mono ?_); (case side1 => exact kI); (case side2 => exact bI); rintro e i2 ⟨rfl, hi, hb, hk⟩; replace HK := Aside0.mk (KeepBut.trans (w := w) kK hk (.inl rfl)); replace HB := Aside0.mk (hb); replace HI0 := Aside0.mk (hi); (try clear hb); (try clear hk); (try clear hi)) | (go_at_call 44; (with_reducible refine (spec_l1Cur_pick.calls g s0_0 b7 b8 (a2.size : Int) a6 a9 b0 w0 _ ?side1 ?side2 d3.out).mono ?_); (case side1 => exact kI); (case side2 => exact bI); rintro e i3 ⟨rfl, hi, hb, hk⟩; replace HK := Aside0.mk (KeepBut.trans (w := w) kK hk (.inl rfl)); replace HB := Aside0.mk (hb); replace HI0 := Aside0.mk (hi); (try clear hb); (try clear hk); (try clear hi); have b5 : 0 ≤ (a6 : Int) := of_decide_eq_true asm; have b6 : a6 < (a2.size : Int) := of_decide_eq_true asm; have d5 := bt_at a2 a6; replace b5 := eq_true b5; replace b6 := eq_true b6) | ((with_reducible refine gate_dst (N := 32) rfl ?_); (try (refine gate_guard (by rfl) ?_; dsimp only)); refine Kd.R_lit (Kd.int .u8) _ 5 ?hg (N := 32) ?hd (xs := ([bt a2 a6] : List Int)) (inner := [.int .u8 (bt a2 a6)]) (ok := fun _ => True) (okp := fun _ => True) ?hr ?hp (fun _ hk => hk) trivial (Below.refl _ _) (Nat.le_refl _) (by simp) ?_; (case hd => rfl); (case hg => rfl); (case hr => first | (go_simp; done) | (go_simp; rfl)); (case hp => exact (Reps.one (show Kd.M (Kd.int .u8) _ _ _ (bt a2 a6) [.int .u8 (bt a2 a6)] from rfl) (Reps.none _ _))); intro d6 i4 b9 hb hg_ hnew_; clear hg_ hnew_; (first | rw [← b3.out] at b9 | (simp only [Int.reduceToNat] at b9; rw [← b3.out] at b9)); have a8 := Aside0.mk (Kd.R_lower b9 (keep_size (w := w) (g := g) (row := none) kK)); replace HI0 := Aside0.mk (IsS61.below kI hb); replace HK := Aside0.mk (KeepBut.trans (w := w) kK (KeepBut.of_below hb g none) (.inl rfl)); replace HB := Aside0.mk (below_step bI hb); clear hb b9; have h3 := own_string (P := Tryz.prog) Tryz.underlying22 Tryz.underlying5 Tryz.underlying9 (Kd.own_of_R a8.out)) | (go_at_call 44; (with_reducible refine (spec_l1Cur_pick.calls g s0_0 a9 b0 3 c5 c3 c4 w0 _ ?side1 ?side2 d4.out).mono ?_); (case side1 => exact kI); (case side2 => exact bI); rintro e i5 ⟨rfl, hi, hb, hk⟩; replace a8 := Aside0.mk (Kd.R_mono (Kd.R_keep (IsS61.apart (show IsS61 w0 _ g s0_0 a9 b0 from by repeat (first | (with_reducible first | exact HI0.out | apply IsS61.alloc | apply IsS61.drewN | apply IsS61.drew | apply IsS61.set_1 | apply IsS61.set_2) | exact HI0.out)) (oR a8) (by decide)) hk (fun _ h => h.2)) (fun _ h => h.1)); replace HK := Aside0.mk (KeepBut.trans (w := w) kK hk (.inl rfl)); replace HB := Aside0.mk (hb); replace HI0 := Aside0.mk (hi); (try clear hb); (try clear hk); (try clear hi))); try go_wp2_with (first | (go_at_call 44; (with_reducible refine (spec_l1Cur_pick.calls g s0_0 b1 b2 (a5.size : Int) a7 b7 b8 w0 _ ?side1 ?side2 A9.out).mono ?_); (case side1 => exact kI); (case side2 => exact bI); rintro e i2 ⟨rfl, hi, hb, hk⟩; replace HK := Aside0.mk (KeepBut.trans (w := w) kK hk (.inl rfl)); replace HB := Aside0.mk (hb); replace HI0 := Aside0.mk (hi); (try clear hb); (try clear hk); (try clear hi)) | (go_at_call 44; (with_reducible refine (spec_l1Cur_pick.calls g s0_0 b7 b8 (a2.size : Int) a6 a9 b0 w0 _ ?side1 ?side2 d3.out).mono ?_); (case side1 => exact kI); (case side2 => exact bI); rintro e i3 ⟨rfl, hi, hb, hk⟩; replace HK := Aside0.mk (KeepBut.trans (w := w) kK hk (.inl rfl)); replace HB := Aside0.mk (hb); replace HI0 := Aside0.mk (hi); (try clear hb); (try clear hk); (try clear hi); have b5 : 0 ≤ (a6 : Int) := of_decide_eq_true asm; have b6 : a6 < (a2.size : Int) := of_decide_eq_true asm; have d5 := bt_at a2 a6; replace b5 := eq_true b5; replace b6 := eq_true b6) | ((with_reducible refine gate_dst (N := 32) rfl ?_); (try (refine gate_guard (by rfl) ?_; dsimp only)); refine Kd.R_lit (Kd.int .u8) _ 5 ?hg (N := 32) ?hd (xs := ([bt a2 a6] : List Int)) (inner := [.int .u8 (bt a2 a6)]) (ok := fun _ => True) (okp := fun _ => True) ?hr ?hp (fun _ hk => hk) trivial (Below.refl _ _) (Nat.le_refl _) (by simp) ?_; (case hd => rfl); (case hg => rfl); (case hr => first | (go_simp; done) | (go_simp; rfl)); (case hp => exact (Reps.one (show Kd.M (Kd.int .u8) _ _ _ (bt a2 a6) [.int .u8 (bt a2 a6)] from rfl) (Reps.none _ _))); intro d6 i4 b9 hb hg_ hnew_; clear hg_ hnew_; (first | rw [← b3.out] at b9 | (simp only [Int.reduceToNat] at b9; rw [← b3.out] at b9)); have a8 := Aside0.mk (Kd.R_lower b9 (keep_size (w := w) (g := g) (row := none) kK)); replace HI0 := Aside0.mk (IsS61.below kI hb); replace HK := Aside0.mk (KeepBut.trans (w := w) kK (KeepBut.of_below hb g none) (.inl rfl)); replace HB := Aside0.mk (below_step bI hb); clear hb b9; have h3 := own_string (P := Tryz.prog) Tryz.underlying22 Tryz.underlying5 Tryz.underlying9 (Kd.own_of_R a8.out)) | (go_at_call 44; (with_reducible refine (spec_l1Cur_pick.calls g s0_0 a9 b0 3 c5 c3 c4 w0 _ ?side1 ?side2 d4.out).mono ?_); (case side1 => exact kI); (case side2 => exact bI); rintro e i5 ⟨rfl, hi, hb, hk⟩; replace a8 := Aside0.mk (Kd.R_mono (Kd.R_keep (IsS61.apart (show IsS61 w0 _ g s0_0 a9 b0 from by repeat (first | (with_reducible first | exact HI0.out | apply IsS61.alloc | apply IsS61.drewN | apply IsS61.drew | apply IsS61.set_1 | apply IsS61.set_2) | exact HI0.out)) (oR a8) (by decide)) hk (fun _ h => h.2)) (fun _ h => h.1)); replace HK := Aside0.mk (KeepBut.trans (w := w) kK hk (.inl rfl)); replace HB := Aside0.mk (hb); replace HI0 := Aside0.mk (hi); (try clear hb); (try clear hk); (try clear hi))))
 go_roundg e0
 case measure => have := HK1.out; have := HJ5.out; omega
 case rel => exact ⟨(((a5.extract 0 (a7 : Int).toNat) ++ (strOfNums b4)) ++ (a5.extract (a7 : Int).toNat a5.size)), (wrap64 (c2 - 1)), (c3), (c4), sR, sR, H', ⟨by have := HK1.out; have := HJ5.out; omega⟩, ⟨kI⟩, ⟨kK⟩, ⟨bI⟩⟩
 )
 ·(
 rw [if_neg e8] at H
 exact absurd H (by simp)
 )
 )
 ·(
 rw [if_neg e7] at H
 exact absurd H (by simp)
 )
 )
 ·(
 rw [if_neg e6] at H
 exact absurd H (by simp)
 )
 )
 ·(
 rw [if_neg e5] at H
 exact absurd H (by simp)
 )
 )
 ·(
 rw [if_neg e4] at H
 obtain ⟨h8, h9⟩ := nE e4
 by_cases e9 : c5 = 1
 ·(
 rw [if_pos e9] at H
 obtain ⟨i0, i1⟩ := yE e9
 clear e9
 by_cases g0 : 0 ≤ a7
 ·(
 rw [if_pos g0] at H
 have l4 := eq_true g0
 have l5 : decide (0 ≤ a7) = true := decide_eq_true g0
 clear g0
 by_cases g1 : a7 ≤ (a5.size : Int)
 ·(
 rw [if_pos g1] at H
 have l6 := eq_true g1
 have l7 : decide (a7 ≤ (a5.size : Int)) = true := decide_eq_true g1
 clear g1
 by_cases g2 : (a5.extract 0 (a7 : Int).toNat).size + (strOfNums b4).size ≤ 9223372036854775807
 ·(
 rw [if_pos g2] at H
 have l8 := eq_true g2
 have l9 : decide ((a5.extract 0 (a7 : Int).toNat).size + (strOfNums b4).size ≤ 9223372036854775807) = true := decide_eq_true g2
 try have m0 : (9223372036854775807 < (a5.extract 0 (a7 : Int).toNat).size + (strOfNums b4).size) = False := eq_false (Nat.not_lt.2 g2)
 obtain ⟨c9, d0⟩ : ∃ j_ : Int, (wrap64 (a7 + 1)) = j_ := ⟨_, rfl⟩
 (first | rw [d0] at H | simp only [d0] at H)
 (try rw [d0] at A9)
 (try rw [d0] at d3)
 (try rw [d0] at d4)
 have j6 : (IntKind.i64.wrap (a7 + 1)) = c9 := (i64_w _).trans d0
 by_cases g3 : 0 ≤ (c9)
 ·(
 rw [if_pos g3] at H
 have m1 := eq_true g3
 have m2 : decide (0 ≤ (c9)) = true := decide_eq_true g3
 clear g3
 by_cases g4 : (c9) ≤ (a5.size : Int)
 ·(
 rw [if_pos g4] at H
 have m3 := eq_true g4
 have m4 : decide ((c9) ≤ (a5.size : Int)) = true := decide_eq_true g4
 clear g4
 by_cases g5 : ((a5.extract 0 (a7 : Int).toNat) ++ (strOfNums b4)).size + (a5.extract ((c9) : Int).toNat a5.size).size ≤ 9223372036854775807
 ·(
 rw [if_pos g5] at H
 have m5 := eq_true g5
 have m6 : decide (((a5.extract 0 (a7 : Int).toNat) ++ (strOfNums b4)).size + (a5.extract ((c9) : Int).toNat a5.size).size ≤ 9223372036854775807) = true := decide_eq_true g5
 try have m7 : (9223372036854775807 < ((a5.extract 0 (a7 : Int).toNat) ++ (strOfNums b4)).size + (a5.extract ((c9) : Int).toNat a5.size).size) = False := eq_false (Nat.not_lt.2 g5)
 have H' := Aside0.mk H
 clear H
 go_wp2_with (first | (go_at_call 44; (with_reducible refine (spec_l1Cur_pick.calls g s0_0 b1 b2 (a5.size : Int) a7 b7 b8 w0 _ ?side1 ?side2 A9.out).mono ?_); (case side1 => exact kI); (case side2 => exact bI); rintro e i6 ⟨rfl, hi, hb, hk⟩; replace HK := Aside0.mk (KeepBut.trans (w := w) kK hk (.inl rfl)); replace HB := Aside0.mk (hb); replace HI0 := Aside0.mk (hi); (try clear hb); (try clear hk); (try clear hi)) | (go_at_call 44; (with_reducible refine (spec_l1Cur_pick.calls g s0_0 b7 b8 (a2.size : Int) a6 a9 b0 w0 _ ?side1 ?side2 d3.out).mono ?_); (case side1 => exact kI); (case side2 => exact bI); rintro e i7 ⟨rfl, hi, hb, hk⟩; replace HK := Aside0.mk (KeepBut.trans (w := w) kK hk (.inl rfl)); replace HB := Aside0.mk (hb); replace HI0 := Aside0.mk (hi); (try clear hb); (try clear hk); (try clear hi); have b5 : 0 ≤ (a6 : Int) := of_decide_eq_true asm; have b6 : a6 < (a2.size : Int) := of_decide_eq_true asm; have d5 := bt_at a2 a6; replace b5 := eq_true b5; replace b6 := eq_true b6) | ((with_reducible refine gate_dst (N := 32) rfl ?_); (try (refine gate_guard (by rfl) ?_; dsimp only)); refine Kd.R_lit (Kd.int .u8) _ 5 ?hg (N := 32) ?hd (xs := ([bt a2 a6] : List Int)) (inner := [.int .u8 (bt a2 a6)]) (ok := fun _ => True) (okp := fun _ => True) ?hr ?hp (fun _ hk => hk) trivial (Below.refl _ _) (Nat.le_refl _) (by simp) ?_; (case hd => rfl); (case hg => rfl); (case hr => first | (go_simp; done) | (go_simp; rfl)); (case hp => exact (Reps.one (show Kd.M (Kd.int .u8) _ _ _ (bt a2 a6) [.int .u8 (bt a2 a6)] from rfl) (Reps.none _ _))); intro d6 i9 c0 hb hg_ hnew_; clear hg_ hnew_; (first | rw [← b3.out] at c0 | (simp only [Int.reduceToNat] at c0; rw [← b3.out] at c0)); have a8 := Aside0.mk (Kd.R_lower c0 (keep_size (w := w) (g := g) (row := none) kK)); replace HI0 := Aside0.mk (IsS61.below kI hb); replace HK := Aside0.mk (KeepBut.trans (w := w) kK (KeepBut.of_below hb g none) (.inl rfl)); replace HB := Aside0.mk (below_step bI hb); clear hb c0; have h4 := own_string (P := Tryz.prog) Tryz.underlying22 Tryz.underlying5 Tryz.underlying9 (Kd.own_of_R a8.out)) | (go_at_call 44; (with_reducible refine (spec_l1Cur_pick.calls g s0_0 a9 b0 3 c5 c3 c4 w0 _ ?side1 ?side2 d4.out).mono ?_); (case side1 => exact kI); (case side2 => exact bI); rintro e j0 ⟨rfl, hi, hb, hk⟩; replace a8 := Aside0.mk (Kd.R_mono (Kd.R_keep (IsS61.apart (show IsS61 w0 _ g s0_0 a9 b0 from by repeat (first | (with_reducible first | exact HI0.out | apply IsS61.alloc | apply IsS61.drewN | apply IsS61.drew | apply IsS61.set_1 | apply IsS61.set_2) | exact HI0.out)) (oR a8) (by decide)) hk (fun _ h => h.2)) (fun _ h => h.1)); replace HK := Aside0.mk (KeepBut.trans (w := w) kK hk (.inl rfl)); replace HB := Aside0.mk (hb); replace HI0 := Aside0.mk (hi); (try clear hb); (try clear hk); (try clear hi)))
 repeat (go_quiet (first | (go_at_call 44; (with_reducible refine (spec_l1Cur_pick.calls g s0_0 b1 b2 (a5.size : Int) a7 b7 b8 w0 _ ?side1 ?side2 A9.out).mono ?_); (case side1 => exact kI); (case side2 => exact bI); rintro e i6 ⟨rfl, hi, hb, hk⟩; replace HK := Aside0.mk (KeepBut.trans (w := w) kK hk (.inl rfl)); replace HB := Aside0.mk (hb); replace HI0 := Aside0.mk (hi); (try clear hb); (try clear hk); (try clear hi)) | (go_at_call 44; (with_reducible refine (spec_l1Cur_pick.calls g s0_0 b7 b8 (a2.size : Int) a6 a9 b0 w0 _ ?side1 ?side2 d3.out).mono ?_); (case side1 => exact kI); (case side2 => exact bI); rintro e i7 ⟨rfl, hi, hb, hk⟩; replace HK := Aside0.mk (KeepBut.trans (w := w) kK hk (.inl rfl)); replace HB := Aside0.mk (hb); replace HI0 := Aside0.mk (hi); (try clear hb); (try clear hk); (try clear hi); have b5 : 0 ≤ (a6 : Int) := of_decide_eq_true asm; have b6 : a6 < (a2.size : Int) := of_decide_eq_true asm; have d5 := bt_at a2 a6; replace b5 := eq_true b5; replace b6 := eq_true b6) | ((with_reducible refine gate_dst (N := 32) rfl ?_); (try (refine gate_guard (by rfl) ?_; dsimp only)); refine Kd.R_lit (Kd.int .u8) _ 5 ?hg (N := 32) ?hd (xs := ([bt a2 a6] : List Int)) (inner := [.int .u8 (bt a2 a6)]) (ok := fun _ => True) (okp := fun _ => True) ?hr ?hp (fun _ hk => hk) trivial (Below.refl _ _) (Nat.le_refl _) (by simp) ?_; (case hd => rfl); (case hg => rfl); (case hr => first | (go_simp; done) | (go_simp; rfl)); (case hp => exact (Reps.one (show Kd.M (Kd.int .u8) _ _ _ (bt a2 a6) [.int .u8 (bt a2 a6)] from rfl) (Reps.none _ _))); intro d6 i9 c0 hb hg_ hnew_; clear hg_ hnew_; (first | rw [← b3.out] at c0 | (simp only [Int.reduceToNat] at c0; rw [← b3.out] at c0)); have a8 := Aside0.mk (Kd.R_lower c0 (keep_size (w := w) (g := g) (row := none) kK)); replace HI0 := Aside0.mk (IsS61.below kI hb); replace HK := Aside0.mk (KeepBut.trans (w := w) kK (KeepBut.of_below hb g none) (.inl rfl)); replace HB := Aside0.mk (below_step bI hb); clear hb c0; have h4 := own_string (P := Tryz.prog) Tryz.underlying22 Tryz.underlying5 Tryz.underlying9 (Kd.own_of_R a8.out)) | (go_at_call 44; (with_reducible refine (spec_l1Cur_pick.calls g s0_0 a9 b0 3 c5 c3 c4 w0 _ ?side1 ?side2 d4.out).mono ?_); (case side1 => exact kI); (case side2 => exact bI); rintro e j0 ⟨rfl, hi, hb, hk⟩; replace a8 := Aside0.mk (Kd.R_mono (Kd.R_keep (IsS61.apart (show IsS61 w0 _ g s0_0 a9 b0 from by repeat (first | (with_reducible first | exact HI0.out | apply IsS61.alloc | apply IsS61.drewN | apply IsS61.drew | apply IsS61.set_1 | apply IsS61.set_2) | exact HI0.out)) (oR a8) (by decide)) hk (fun _ h => h.2)) (fun _ h => h.1)); replace HK := Aside0.mk (KeepBut.trans (w := w) kK hk (.inl rfl)); replace HB := Aside0.mk (hb); replace HI0 := Aside0.mk (hi); (try clear hb); (try clear hk); (try clear hi))); try go_wp2_with (first | (go_at_call 44; (with_reducible refine (spec_l1Cur_pick.calls g s0_0 b1 b2 (a5.size : Int) a7 b7 b8 w0 _ ?side1 ?side2 A9.out).mono ?_); (case side1 => exact kI); (case side2 => exact bI); rintro e i6 ⟨rfl, hi, hb, hk⟩; replace HK := Aside0.mk (KeepBut.trans (w := w) kK hk (.inl rfl)); replace HB := Aside0.mk (hb); replace HI0 := Aside0.mk (hi); (try clear hb); (try clear hk); (try clear hi)) | (go_at_call 44; (with_reducible refine (spec_l1Cur_pick.calls g s0_0 b7 b8 (a2.size : Int) a6 a9 b0 w0 _ ?side1 ?side2 d3.out).mono ?_); (case side1 => exact kI); (case side2 => exact bI); rintro e i7 ⟨rfl, hi, hb, hk⟩; replace HK := Aside0.mk (KeepBut.trans (w := w) kK hk (.inl rfl)); replace HB := Aside0.mk (hb); replace HI0 := Aside0.mk (hi); (try clear hb); (try clear hk); (try clear hi); have b5 : 0 ≤ (a6 : Int) := of_decide_eq_true asm; have b6 : a6 < (a2.size : Int) := of_decide_eq_true asm; have d5 := bt_at a2 a6; replace b5 := eq_true b5; replace b6 := eq_true b6) | ((with_reducible refine gate_dst (N := 32) rfl ?_); (try (refine gate_guard (by rfl) ?_; dsimp only)); refine Kd.R_lit (Kd.int .u8) _ 5 ?hg (N := 32) ?hd (xs := ([bt a2 a6] : List Int)) (inner := [.int .u8 (bt a2 a6)]) (ok := fun _ => True) (okp := fun _ => True) ?hr ?hp (fun _ hk => hk) trivial (Below.refl _ _) (Nat.le_refl _) (by simp) ?_; (case hd => rfl); (case hg => rfl); (case hr => first | (go_simp; done) | (go_simp; rfl)); (case hp => exact (Reps.one (show Kd.M (Kd.int .u8) _ _ _ (bt a2 a6) [.int .u8 (bt a2 a6)] from rfl) (Reps.none _ _))); intro d6 i9 c0 hb hg_ hnew_; clear hg_ hnew_; (first | rw [← b3.out] at c0 | (simp only [Int.reduceToNat] at c0; rw [← b3.out] at c0)); have a8 := Aside0.mk (Kd.R_lower c0 (keep_size (w := w) (g := g) (row := none) kK)); replace HI0 := Aside0.mk (IsS61.below kI hb); replace HK := Aside0.mk (KeepBut.trans (w := w) kK (KeepBut.of_below hb g none) (.inl rfl)); replace HB := Aside0.mk (below_step bI hb); clear hb c0; have h4 := own_string (P := Tryz.prog) Tryz.underlying22 Tryz.underlying5 Tryz.underlying9 (Kd.own_of_R a8.out)) | (go_at_call 44; (with_reducible refine (spec_l1Cur_pick.calls g s0_0 a9 b0 3 c5 c3 c4 w0 _ ?side1 ?side2 d4.out).mono ?_); (case side1 => exact kI); (case side2 => exact bI); rintro e j0 ⟨rfl, hi, hb, hk⟩; replace a8 := Aside0.mk (Kd.R_mono (Kd.R_keep (IsS61.apart (show IsS61 w0 _ g s0_0 a9 b0 from by repeat (first | (with_reducible first | exact HI0.out | apply IsS61.alloc | apply IsS61.drewN | apply IsS61.drew | apply IsS61.set_1 | apply IsS61.set_2) | exact HI0.out)) (oR a8) (by decide)) hk (fun _ h => h.2)) (fun _ h => h.1)); replace HK := Aside0.mk (KeepBut.trans (w := w) kK hk (.inl rfl)); replace HB := Aside0.mk (hb); replace HI0 := Aside0.mk (hi); (try clear hb); (try clear hk); (try clear hi))))
 go_roundg e0
 case measure => have := HK1.out; have := HJ5.out; omega
 case rel => exact ⟨(((a5.extract 0 (a7 : Int).toNat) ++ (strOfNums b4)) ++ (a5.extract ((c9) : Int).toNat a5.size)), (wrap64 (c2 - 1)), (c3), (c4), (by first | rfl | (simp; done) | (simp only [← d0] <;> (first | rfl | simp)) | (simp [*]; done)), sR, H', ⟨by have := HK1.out; have := HJ5.out; omega⟩, ⟨kI⟩, ⟨kK⟩, ⟨bI⟩⟩
 )
 ·(
 rw [if_neg g5] at H
 exact absurd H (by simp)
 )
 )
 ·(
 rw [if_neg g4] at H
 exact absurd H (by simp)
 )
 )
 ·(
 rw [if_neg g3] at H
 exact absurd H (by simp)
 )
 )
 ·(
 rw [if_neg g2] at H
 exact absurd H (by simp)
 )
 )
 ·(
 rw [if_neg g1] at H
 exact absurd H (by simp)
 )
 )
 ·(
 rw [if_neg g0] at H
 exact absurd H (by simp)
 )
 )
 ·(
 rw [if_neg e9] at H
 obtain ⟨i0, i1⟩ := nE e9
 by_cases g6 : 0 ≤ a7
 ·(
 rw [if_pos g6] at H
 have m8 := eq_true g6
 have m9 : decide (0 ≤ a7) = true := decide_eq_true g6
 clear g6
 by_cases g7 : a7 ≤ (a5.size : Int)
 ·(
 rw [if_pos g7] at H
 have n0 := eq_true g7
 have n1 : decide (a7 ≤ (a5.size : Int)) = true := decide_eq_true g7
 clear g7
 obtain ⟨d1, d2⟩ : ∃ j_ : Int, (wrap64 (a7 + 1)) = j_ := ⟨_, rfl⟩
 (first | rw [d2] at H | simp only [d2] at H)
 (try rw [d2] at A9)
 (try rw [d2] at d3)
 (try rw [d2] at d4)
 have j7 : (IntKind.i64.wrap (a7 + 1)) = d1 := (i64_w _).trans d2
 by_cases g8 : 0 ≤ (d1)
 ·(
 rw [if_pos g8] at H
 have n2 := eq_true g8
 have n3 : decide (0 ≤ (d1)) = true := decide_eq_true g8
 clear g8
 by_cases g9 : (d1) ≤ (a5.size : Int)
 ·(
 rw [if_pos g9] at H
 have n4 := eq_true g9
 have n5 : decide ((d1) ≤ (a5.size : Int)) = true := decide_eq_true g9
 clear g9
 by_cases h0 : (a5.extract 0 (a7 : Int).toNat).size + (a5.extract ((d1) : Int).toNat a5.size).size ≤ 9223372036854775807
 ·(
 rw [if_pos h0] at H
 have n6 := eq_true h0
 have n7 : decide ((a5.extract 0 (a7 : Int).toNat).size + (a5.extract ((d1) : Int).toNat a5.size).size ≤ 9223372036854775807) = true := decide_eq_true h0
 try have n8 : (9223372036854775807 < (a5.extract 0 (a7 : Int).toNat).size + (a5.extract ((d1) : Int).toNat a5.size).size) = False := eq_false (Nat.not_lt.2 h0)
 have H' := Aside0.mk H
 clear H
 go_wp2_with (first | (go_at_call 44; (with_reducible refine (spec_l1Cur_pick.calls g s0_0 b1 b2 (a5.size : Int) a7 b7 b8 w0 _ ?side1 ?side2 A9.out).mono ?_); (case side1 => exact kI); (case side2 => exact bI); rintro e j1 ⟨rfl, hi, hb, hk⟩; replace HK := Aside0.mk (KeepBut.trans (w := w) kK hk (.inl rfl)); replace HB := Aside0.mk (hb); replace HI0 := Aside0.mk (hi); (try clear hb); (try clear hk); (try clear hi)) | (go_at_call 44; (with_reducible refine (spec_l1Cur_pick.calls g s0_0 b7 b8 (a2.size : Int) a6 a9 b0 w0 _ ?side1 ?side2 d3.out).mono ?_); (case side1 => exact kI); (case side2 => exact bI); rintro e j2 ⟨rfl, hi, hb, hk⟩; replace HK := Aside0.mk (KeepBut.trans (w := w) kK hk (.inl rfl)); replace HB := Aside0.mk (hb); replace HI0 := Aside0.mk (hi); (try clear hb); (try clear hk); (try clear hi); have b5 : 0 ≤ (a6 : Int) := of_decide_eq_true asm; have b6 : a6 < (a2.size : Int) := of_decide_eq_true asm; have d5 := bt_at a2 a6; replace b5 := eq_true b5; replace b6 := eq_true b6) | ((with_reducible refine gate_dst (N := 32) rfl ?_); (try (refine gate_guard (by rfl) ?_; dsimp only)); refine Kd.R_lit (Kd.int .u8) _ 5 ?hg (N := 32) ?hd (xs := ([bt a2 a6] : List Int)) (inner := [.int .u8 (bt a2 a6)]) (ok := fun _ => True) (okp := fun _ => True) ?hr ?hp (fun _ hk => hk) trivial (Below.refl _ _) (Nat.le_refl _) (by simp) ?_; (case hd => rfl); (case hg => rfl); (case hr => first | (go_simp; done) | (go_simp; rfl)); (case hp => exact (Reps.one (show Kd.M (Kd.int .u8) _ _ _ (bt a2 a6) [.int .u8 (bt a2 a6)] from rfl) (Reps.none _ _))); intro d6 j3 c1 hb hg_ hnew_; clear hg_ hnew_; (first | rw [← b3.out] at c1 | (simp only [Int.reduceToNat] at c1; rw [← b3.out] at c1)); have a8 := Aside0.mk (Kd.R_lower c1 (keep_size (w := w) (g := g) (row := none) kK)); replace HI0 := Aside0.mk (IsS61.below kI hb); replace HK := Aside0.mk (KeepBut.trans (w := w) kK (KeepBut.of_below hb g none) (.inl rfl)); replace HB := Aside0.mk (below_step bI hb); clear hb c1; have h5 := own_string (P := Tryz.prog) Tryz.underlying22 Tryz.underlying5 Tryz.underlying9 (Kd.own_of_R a8.out)) | (go_at_call 44; (with_reducible refine (spec_l1Cur_pick.calls g s0_0 a9 b0 3 c5 c3 c4 w0 _ ?side1 ?side2 d4.out).mono ?_); (case side1 => exact kI); (case side2 => exact bI); rintro e j4 ⟨rfl, hi, hb, hk⟩; replace a8 := Aside0.mk (Kd.R_mono (Kd.R_keep (IsS61.apart (show IsS61 w0 _ g s0_0 a9 b0 from by repeat (first | (with_reducible first | exact HI0.out | apply IsS61.alloc | apply IsS61.drewN | apply IsS61.drew | apply IsS61.set_1 | apply IsS61.set_2) | exact HI0.out)) (oR a8) (by decide)) hk (fun _ h => h.2)) (fun _ h => h.1)); replace HK := Aside0.mk (KeepBut.trans (w := w) kK hk (.inl rfl)); replace HB := Aside0.mk (hb); replace HI0 := Aside0.mk (hi); (try clear hb); (try clear hk); (try clear hi)))
 repeat (go_quiet (first | (go_at_call 44; (with_reducible refine (spec_l1Cur_pick.calls g s0_0 b1 b2 (a5.size : Int) a7 b7 b8 w0 _ ?side1 ?side2 A9.out).mono ?_); (case side1 => exact kI); (case side2 => exact bI); rintro e j1 ⟨rfl, hi, hb, hk⟩; replace HK := Aside0.mk (KeepBut.trans (w := w) kK hk (.inl rfl)); replace HB := Aside0.mk (hb); replace HI0 := Aside0.mk (hi); (try clear hb); (try clear hk); (try clear hi)) | (go_at_call 44; (with_reducible refine (spec_l1Cur_pick.calls g s0_0 b7 b8 (a2.size : Int) a6 a9 b0 w0 _ ?side1 ?side2 d3.out).mono ?_); (case side1 => exact kI); (case side2 => exact bI); rintro e j2 ⟨rfl, hi, hb, hk⟩; replace HK := Aside0.mk (KeepBut.trans (w := w) kK hk (.inl rfl)); replace HB := Aside0.mk (hb); replace HI0 := Aside0.mk (hi); (try clear hb); (try clear hk); (try clear hi); have b5 : 0 ≤ (a6 : Int) := of_decide_eq_true asm; have b6 : a6 < (a2.size : Int) := of_decide_eq_true asm; have d5 := bt_at a2 a6; replace b5 := eq_true b5; replace b6 := eq_true b6) | ((with_reducible refine gate_dst (N := 32) rfl ?_); (try (refine gate_guard (by rfl) ?_; dsimp only)); refine Kd.R_lit (Kd.int .u8) _ 5 ?hg (N := 32) ?hd (xs := ([bt a2 a6] : List Int)) (inner := [.int .u8 (bt a2 a6)]) (ok := fun _ => True) (okp := fun _ => True) ?hr ?hp (fun _ hk => hk) trivial (Below.refl _ _) (Nat.le_refl _) (by simp) ?_; (case hd => rfl); (case hg => rfl); (case hr => first | (go_simp; done) | (go_simp; rfl)); (case hp => exact (Reps.one (show Kd.M (Kd.int .u8) _ _ _ (bt a2 a6) [.int .u8 (bt a2 a6)] from rfl) (Reps.none _ _))); intro d6 j3 c1 hb hg_ hnew_; clear hg_ hnew_; (first | rw [← b3.out] at c1 | (simp only [Int.reduceToNat] at c1; rw [← b3.out] at c1)); have a8 := Aside0.mk (Kd.R_lower c1 (keep_size (w := w) (g := g) (row := none) kK)); replace HI0 := Aside0.mk (IsS61.below kI hb); replace HK := Aside0.mk (KeepBut.trans (w := w) kK (KeepBut.of_below hb g none) (.inl rfl)); replace HB := Aside0.mk (below_step bI hb); clear hb c1; have h5 := own_string (P := Tryz.prog) Tryz.underlying22 Tryz.underlying5 Tryz.underlying9 (Kd.own_of_R a8.out)) | (go_at_call 44; (with_reducible refine (spec_l1Cur_pick.calls g s0_0 a9 b0 3 c5 c3 c4 w0 _ ?side1 ?side2 d4.out).mono ?_); (case side1 => exact kI); (case side2 => exact bI); rintro e j4 ⟨rfl, hi, hb, hk⟩; replace a8 := Aside0.mk (Kd.R_mono (Kd.R_keep (IsS61.apart (show IsS61 w0 _ g s0_0 a9 b0 from by repeat (first | (with_reducible first | exact HI0.out | apply IsS61.alloc | apply IsS61.drewN | apply IsS61.drew | apply IsS61.set_1 | apply IsS61.set_2) | exact HI0.out)) (oR a8) (by decide)) hk (fun _ h => h.2)) (fun _ h => h.1)); replace HK := Aside0.mk (KeepBut.trans (w := w) kK hk (.inl rfl)); replace HB := Aside0.mk (hb); replace HI0 := Aside0.mk (hi); (try clear hb); (try clear hk); (try clear hi))); try go_wp2_with (first | (go_at_call 44; (with_reducible refine (spec_l1Cur_pick.calls g s0_0 b1 b2 (a5.size : Int) a7 b7 b8 w0 _ ?side1 ?side2 A9.out).mono ?_); (case side1 => exact kI); (case side2 => exact bI); rintro e j1 ⟨rfl, hi, hb, hk⟩; replace HK := Aside0.mk (KeepBut.trans (w := w) kK hk (.inl rfl)); replace HB := Aside0.mk (hb); replace HI0 := Aside0.mk (hi); (try clear hb); (try clear hk); (try clear hi)) | (go_at_call 44; (with_reducible refine (spec_l1Cur_pick.calls g s0_0 b7 b8 (a2.size : Int) a6 a9 b0 w0 _ ?side1 ?side2 d3.out).mono ?_); (case side1 => exact kI); (case side2 => exact bI); rintro e j2 ⟨rfl, hi, hb, hk⟩; replace HK := Aside0.mk (KeepBut.trans (w := w) kK hk (.inl rfl)); replace HB := Aside0.mk (hb); replace HI0 := Aside0.mk (hi); (try clear hb); (try clear hk); (try clear hi); have b5 : 0 ≤ (a6 : Int) := of_decide_eq_true asm; have b6 : a6 < (a2.size : Int) := of_decide_eq_true asm; have d5 := bt_at a2 a6; replace b5 := eq_true b5; replace b6 := eq_true b6) | ((with_reducible refine gate_dst (N := 32) rfl ?_); (try (refine gate_guard (by rfl) ?_; dsimp only)); refine Kd.R_lit (Kd.int .u8) _ 5 ?hg (N := 32) ?hd (xs := ([bt a2 a6] : List Int)) (inner := [.int .u8 (bt a2 a6)]) (ok := fun _ => True) (okp := fun _ => True) ?hr ?hp (fun _ hk => hk) trivial (Below.refl _ _) (Nat.le_refl _) (by simp) ?_; (case hd => rfl); (case hg => rfl); (case hr => first | (go_simp; done) | (go_simp; rfl)); (case hp => exact (Reps.one (show Kd.M (Kd.int .u8) _ _ _ (bt a2 a6) [.int .u8 (bt a2 a6)] from rfl) (Reps.none _ _))); intro d6 j3 c1 hb hg_ hnew_; clear hg_ hnew_; (first | rw [← b3.out] at c1 | (simp only [Int.reduceToNat] at c1; rw [← b3.out] at c1)); have a8 := Aside0.mk (Kd.R_lower c1 (keep_size (w := w) (g := g) (row := none) kK)); replace HI0 := Aside0.mk (IsS61.below kI hb); replace HK := Aside0.mk (KeepBut.trans (w := w) kK (KeepBut.of_below hb g none) (.inl rfl)); replace HB := Aside0.mk (below_step bI hb); clear hb c1; have h5 := own_string (P := Tryz.prog) Tryz.underlying22 Tryz.underlying5 Tryz.underlying9 (Kd.own_of_R a8.out)) | (go_at_call 44; (with_reducible refine (spec_l1Cur_pick.calls g s0_0 a9 b0 3 c5 c3 c4 w0 _ ?side1 ?side2 d4.out).mono ?_); (case side1 => exact kI); (case side2 => exact bI); rintro e j4 ⟨rfl, hi, hb, hk⟩; replace a8 := Aside0.mk (Kd.R_mono (Kd.R_keep (IsS61.apart (show IsS61 w0 _ g s0_0 a9 b0 from by repeat (first | (with_reducible first | exact HI0.out | apply IsS61.alloc | apply IsS61.drewN | apply IsS61.drew | apply IsS61.set_1 | apply IsS61.set_2) | exact HI0.out)) (oR a8) (by decide)) hk (fun _ h => h.2)) (fun _ h => h.1)); replace HK := Aside0.mk (KeepBut.trans (w := w) kK hk (.inl rfl)); replace HB := Aside0.mk (hb); replace HI0 := Aside0.mk (hi); (try clear hb); (try clear hk); (try clear hi))))
 go_roundg e0
 case measure => have := HK1.out; have := HJ5.out; omega
 case rel => exact ⟨((a5.extract 0 (a7 : Int).toNat) ++ (a5.extract ((d1) : Int).toNat a5.size)), (wrap64 (c2 - 1)), (c3), (c4), (by first | rfl | (simp; done) | (simp only [← d2] <;> (first | rfl | simp)) | (simp [*]; done)), sR, H', ⟨by have := HK1.out; have := HJ5.out; omega⟩, ⟨kI⟩, ⟨kK⟩, ⟨bI⟩⟩
 )
 ·(
 rw [if_neg h0] at H
 exact absurd H (by simp)
 )
 )
 ·(
 rw [if_neg g9] at H
 exact absurd H (by simp)
 )
 )
 ·(
 rw [if_neg g8] at H
 exact absurd H (by simp)
 )
 )
 ·(
 rw [if_neg g7] at H
 exact absurd H (by simp)
 )
 )
 ·(
 rw [if_neg g6] at H
 exact absurd H (by simp)
 )
 )
 )
 )
 ·(
 rw [if_neg h2] at H
 exact absurd H (by simp)
 )
 )
 ·(
 rw [if_neg h1] at H
 exact absurd H (by simp)
 )
 )
 ·(
 replace c8 := Bool.eq_false_iff.mpr c8
 subst c8
 rw [if_neg nft] at H
 simp only [Option.some.injEq, Prod.mk.injEq] at H
 obtain ⟨rfl, rfl, rfl⟩ := H
 go_wp2
 repeat (go_quiet (fail); try go_wp2)
 go_ret
 exact ⟨sE, kI, bI, kK⟩
 )
 )
 )
 )
 )

/-! ### spec_DrawAreLadders: function 33 -/
theorem kQ {w W w1 : World} {g g' : Nat} {o : Obj} (x : Aside0 (w.heap[g]? = some o)) (hk : KeepBut W w1 g' none) (hne : Aside0 (g ≠ g')) (h : w.heap[g]? = some o → W.heap[g]? = some o := by (intro hx_; (with_reducible repeat (first | refine blk_drewN ?_ _ | refine blk_drew ?_ | refine blk_alloc ?_ _)); exact hx_)) : Aside0 (w1.heap[g]? = some o) :=
  ⟨(hk.2 g (blk_lt (h x.out)) hne.out (by simp)).trans (h x.out)⟩
def spec_DrawAreLadders.f (l0 : List Int) : Option (Int × Int × Int) := (spec_l1Cur_ladders.f l0 0 0).bind fun t => some (t.1, t.2.1, t.2.2.1)
set_option maxHeartbeats 8000000 in
set_option maxRecDepth 100000 in
theorem spec_DrawAreLadders.calls (A0 : Option Addr) (c0 : Nat) (l0 : List Int) (r1 r2 r3 : Int) (w : World) (hr0 : Kd.C (Kd.int .u8) w A0 l0.length l0) (hc0 : l0.length ≤ c0) (h : spec_DrawAreLadders.f l0 = some (r1, r2, r3)) :
    Calls Tryz.prog 33 #[.slice A0 l0.length c0] w fun e w' => e = .returned (.agg #[.int .i64 r1, .int .i64 r2, .int .i64 r3]) ∧ Below w.heap.size w w' := by
 unfold spec_DrawAreLadders.f at h
 obtain ⟨⟨t1, t2, t3, a8, a9⟩, h1, h⟩ := Option.bind_eq_some_iff.mp h
 simp only [Option.some.injEq, Prod.mk.injEq] at h
 obtain ⟨rfl, rfl, rfl⟩ := h
 have H1 := Aside0.mk h1
 have HR := Aside0.mk hr0
 clear h1 hr0
 have hu := Tryz.underlying25
 have HB := Aside0.mk (Below.refl w.heap.size w)
 go_enter Tryz.func33, Tryz.ntmps33
 go_wp2_with (first | ((with_reducible refine gate_dst (N := 2) rfl ?_); refine box_ (cs := #[.int .i64 0, .int .i64 0, .int .i64 0]) (t := 25) fun g2 hg b3 hbox hb => ?_; have B2 := Aside0.mk hbox; have b4 := bS HB hg; replace HB := Aside0.mk (below_step bB hb); clear hb hbox hg) | ((with_reducible refine gate_dst (N := 6) rfl ?_); refine box_ (cs := #[.slice A0 l0.length c0, .int .i64 0, .int .u64 0]) (t := 61) fun gC hg w_C hbox hb => ?_; have BC := Aside0.mk hbox; have GEC := bS HB hg; have a7 := bL B2 hg; have b1 := bM B2 hg; replace B2 := bQ B2 hb; replace HB := Aside0.mk (below_step bB hb); clear hb hbox hg) | ((with_reducible refine gate_callee (f := 49) rfl ?_); refine goesL_ (some 8) rfl rfl Tryz.func49 kr rfl #[.pointer (some ⟨gC, 0, none⟩)] rfl sM ?_; (with_reducible refine (spec_l1Cur_ladders.calls gC l0 0 0  t1 t2 t3 a8 a9 w _ ?side1 ?side2 H1.out).mono ?_); (case side1 => exact ⟨A0, c0, bK BC, GEC.out, HR.out⟩); (case side2 => exact bB); rintro e b2 ⟨rfl, hi, hb, hk⟩; refine ⟨_, rfl, ?_⟩; replace B2 := kQ B2 hk a7; clear BC; obtain ⟨A1, c1, a5, b0, a6⟩ := hi; have BC := Aside0.mk a5; have b5 := Aside0.mk a6; replace HB := Aside0.mk hb; clear a5 b0 a6 hb hk; obtain ⟨z1, z2, z3, z4, z5, z6⟩ := cf3 B2))
 refine bodyPost_ret (results_cell_row rfl _ _ g2 25 #[.int .i64 t1, .int .i64 t2, .int .i64 t3] (0, 0) _ rfl (bK B2) hu rfl kr) rfl ?_
 exact ⟨rfl, bB⟩
def spec_DrawTimesLadders.f (l0 : List Int) : Option (Int × Int × Int × Int) :=
  (spec_l1Cur_ladders.f l0 0 0).bind fun t => (spec_l1Cur_among.f l0 t.2.2.2.1 t.2.2.2.2 [1, 2, 3, 10, 50, 1000, 1001, 0, -1]).bind fun s => some (t.1, t.2.1, t.2.2.1, s.1)
set_option maxHeartbeats 8000000 in
set_option maxRecDepth 100000 in
theorem spec_DrawTimesLadders.calls (A0 : Option Addr) (c0 : Nat) (l0 : List Int) (r1 r2 r3 r4 : Int) (w : World) (hr0 : Kd.C (Kd.int .u8) w A0 l0.length l0) (hc0 : l0.length ≤ c0) (h : spec_DrawTimesLadders.f l0 = some (r1, r2, r3, r4)) :
    Calls Tryz.prog 24 #[.slice A0 l0.length c0] w fun e w' => e = .returned (.tuple #[.agg #[.int .i64 r1, .int .i64 r2, .int .i64 r3], .int .i64 r4]) ∧ Below w.heap.size w w' := by
 unfold spec_DrawTimesLadders.f at h
 obtain ⟨⟨t1, t2, t3, a7, a8⟩, h1, h⟩ := Option.bind_eq_some_iff.mp h
 obtain ⟨⟨s, p', q'⟩, h2, h⟩ := Option.bind_eq_some_iff.mp h
 simp only [Option.some.injEq, Prod.mk.injEq] at h
 obtain ⟨rfl, rfl, rfl, rfl⟩ := h
 obtain ⟨ys, hyys⟩ : ∃ ys : List Int, ys = [1, 2, 3, 10, 50, 1000, 1001, 0, -1] := ⟨_, rfl⟩
 have H2 : Aside0 (spec_l1Cur_among.f l0 a7 a8 ys = some (s, p', q')) := ⟨by rw [hyys]; exact h2⟩
 have HYys := Aside0.mk hyys
 clear hyys h2
 have H1 := Aside0.mk h1
 have HR := Aside0.mk hr0
 clear h1 hr0
 have hu := Tryz.underlying25
 have HB := Aside0.mk (Below.refl w.heap.size w)
 go_enter Tryz.func24, Tryz.ntmps24
 go_wp2_with (first | ((with_reducible refine gate_dst (N := 2) rfl ?_); refine box_ (cs := #[.int .i64 0, .int .i64 0, .int .i64 0]) (t := 25) fun g2 hg b8 hbox hb => ?_; have B2 := Aside0.mk hbox; have b9 := bS HB hg; replace HB := Aside0.mk (below_step bB hb); clear hb hbox hg) | ((with_reducible refine gate_dst (N := 7) rfl ?_); refine box_ (cs := #[.slice A0 l0.length c0, .int .i64 0, .int .u64 0]) (t := 61) fun gC hg w_C hbox hb => ?_; have BC := Aside0.mk hbox; have GEC := bS HB hg; have b0 := bL B2 hg; have b5 := bM B2 hg; replace B2 := bQ B2 hb; replace HB := Aside0.mk (below_step bB hb); clear hb hbox hg) | ((with_reducible refine gate_callee (f := 49) rfl ?_); refine goesL_ (some 9) rfl rfl Tryz.func49 kr rfl #[.pointer (some ⟨gC, 0, none⟩)] rfl sM ?_; (with_reducible refine (spec_l1Cur_ladders.calls gC l0 0 0  t1 t2 t3 a7 a8 w _ ?side1 ?side2 H1.out).mono ?_); (case side1 => exact ⟨A0, c0, bK BC, GEC.out, HR.out⟩); (case side2 => exact bB); rintro e b6 ⟨rfl, hi, hb, hk⟩; refine ⟨_, rfl, ?_⟩; replace B2 := kQ B2 hk b0; clear BC; obtain ⟨A1, c1, a5, b1, a6⟩ := hi; have BC := Aside0.mk a5; have a9 := Aside0.mk a6; replace HB := Aside0.mk hb; clear a5 b1 a6 hb hk) | ((with_reducible refine gate_dst (N := 11) rfl ?_); refine Kd.R_lit (Kd.int .i64) _ 3 ?hg (N := 11) ?hd (xs := ([1, 2, 3, 10, 50, 1000, 1001, 0, (-1)] : List Int)) (inner := [.int .i64 1, .int .i64 2, .int .i64 3, .int .i64 10, .int .i64 50, .int .i64 1000, .int .i64 1001, .int .i64 0, .int .i64 (-1)]) (ok := fun _ => True) (okp := fun _ => True) ?hr ?hp (fun _ hk => hk) trivial (Below.refl _ _) (Nat.le_refl _) (by simp) ?_; (case hd => rfl); (case hg => rfl); (case hr => first | (go_simp; done) | (go_simp; rfl)); (case hp => exact (Reps.one (show Kd.M (Kd.int .i64) _ _ _ 1 [.int .i64 1] from rfl) (Reps.one (show Kd.M (Kd.int .i64) _ _ _ 2 [.int .i64 2] from rfl) (Reps.one (show Kd.M (Kd.int .i64) _ _ _ 3 [.int .i64 3] from rfl) (Reps.one (show Kd.M (Kd.int .i64) _ _ _ 10 [.int .i64 10] from rfl) (Reps.one (show Kd.M (Kd.int .i64) _ _ _ 50 [.int .i64 50] from rfl) (Reps.one (show Kd.M (Kd.int .i64) _ _ _ 1000 [.int .i64 1000] from rfl) (Reps.one (show Kd.M (Kd.int .i64) _ _ _ 1001 [.int .i64 1001] from rfl) (Reps.one (show Kd.M (Kd.int .i64) _ _ _ 0 [.int .i64 0] from rfl) (Reps.one (show Kd.M (Kd.int .i64) _ _ _ (-1) [.int .i64 (-1)] from rfl) (Reps.none _ _))))))))))); intro v5 b7 hr hb hg_ hnew_; clear hg_ hnew_; (first | rw [← HYys.out] at hr | (simp only [Int.reduceToNat] at hr; rw [← HYys.out] at hr)); have R5 := Aside0.mk (Kd.R_lower hr (below_size bB)); replace B2 := bQ B2 hb; replace BC := bQ BC hb; replace HB := Aside0.mk (below_step bB hb); clear hr hb; obtain ⟨A5, b2, b3⟩ := Kd.R_slice R5.out; subst b3) | ((with_reducible refine gate_callee (f := 43) rfl ?_); refine goesL_ (some 12) rfl rfl Tryz.func43 kr rfl #[.pointer (some ⟨gC, 0, none⟩), .slice A5 ys.length b2] rfl sM ?_; (with_reducible refine (spec_l1Cur_among.calls gC l0 a7 a8 _ _ ys s p' q' w _ ?side1 ?side2 ?side3 ?side4 ?side5 H2.out).mono ?_); (case side1 => exact ⟨A1, c1, bK BC, GEC.out, a9.out⟩); (case side2 => exact bB); (case side3 => exact (Kd.R_reads' R5.out).2.2); (case side4 => exact (Kd.R_reads' R5.out).2.1); (case side5 => exact far_slice (IsS61.own_ne (show IsS61 w _ gC l0 a7 a8 from ⟨A1, c1, bK BC, GEC.out, a9.out⟩) R5.out (by decide))); rintro e b4 ⟨rfl, hi, hb, hk⟩; refine ⟨_, rfl, ?_⟩; replace B2 := kQ B2 hk b0; clear BC a9 A1 c1; obtain ⟨A1, c1, a5, b1, a6⟩ := hi; have BC := Aside0.mk a5; have a9 := Aside0.mk a6; replace HB := Aside0.mk hb; clear a5 b1 a6 hb hk; obtain ⟨z1, z2, z3, z4, z5, z6⟩ := cf3 B2))
 refine bodyPost_ret (results_list (rs := [.cell 2 25, .tmp 3]) rfl (by simp) (.cell g2 25 #[.int .i64 t1, .int .i64 t2, .int .i64 t3] (0, 0) _ rfl (bK B2) hu rfl kr (.tmp .nil))) rfl ?_
 exact ⟨rfl, bB⟩
def spec_DrawWholeCrossings.f (l0 : List Int) : Option Int :=
  (spec_l1Cur_among.f l0 0 0 [1, 5, 20, 60, 75, 100, 118, 119, 120, 150, 151, 0, -1]).bind fun s => some s.1
set_option maxHeartbeats 8000000 in
set_option maxRecDepth 100000 in
theorem spec_DrawWholeCrossings.calls (A0 : Option Addr) (c0 : Nat) (l0 : List Int) (r1 : Int) (w : World) (hr0 : Kd.C (Kd.int .u8) w A0 l0.length l0) (hc0 : l0.length ≤ c0) (h : spec_DrawWholeCrossings.f l0 = some (r1)) :
    Calls Tryz.prog 19 #[.slice A0 l0.length c0] w fun e w' => e = .returned (.int .i64 r1) ∧ Below w.heap.size w w' := by
 unfold spec_DrawWholeCrossings.f at h
 obtain ⟨⟨s, p', q'⟩, h2, h⟩ := Option.bind_eq_some_iff.mp h
 simp only [Option.some.injEq] at h
 subst h
 obtain ⟨ys, hyys⟩ : ∃ ys : List Int, ys = [1, 5, 20, 60, 75, 100, 118, 119, 120, 150, 151, 0, -1] := ⟨_, rfl⟩
 have H2 : Aside0 (spec_l1Cur_among.f l0 0 0 ys = some (s, p', q')) := ⟨by rw [hyys]; exact h2⟩
 have HYys := Aside0.mk hyys
 clear hyys h2
 have HR := Aside0.mk hr0
 clear hr0
 have hu := Tryz.underlying25
 have HB := Aside0.mk (Below.refl w.heap.size w)
 go_enter Tryz.func19, Tryz.ntmps19
 go_wp2_with (first | ((with_reducible refine gate_dst (N := 6) rfl ?_); refine box_ (cs := #[.slice A0 l0.length c0, .int .i64 0, .int .u64 0]) (t := 61) fun gC hg w_C hbox hb => ?_; have BC := Aside0.mk hbox; have GEC := bS HB hg; replace HB := Aside0.mk (below_step bB hb); clear hb hbox hg) | ((with_reducible refine gate_dst (N := 8) rfl ?_); refine Kd.R_lit (Kd.int .i64) _ 3 ?hg (N := 8) ?hd (xs := ([1, 5, 20, 60, 75, 100, 118, 119, 120, 150, 151, 0, (-1)] : List Int)) (inner := [.int .i64 1, .int .i64 5, .int .i64 20, .int .i64 60, .int .i64 75, .int .i64 100, .int .i64 118, .int .i64 119, .int .i64 120, .int .i64 150, .int .i64 151, .int .i64 0, .int .i64 (-1)]) (ok := fun _ => True) (okp := fun _ => True) ?hr ?hp (fun _ hk => hk) trivial (Below.refl _ _) (Nat.le_refl _) (by simp) ?_; (case hd => rfl); (case hg => rfl); (case hr => first | (go_simp; done) | (go_simp; rfl)); (case hp => exact (Reps.one (show Kd.M (Kd.int .i64) _ _ _ 1 [.int .i64 1] from rfl) (Reps.one (show Kd.M (Kd.int .i64) _ _ _ 5 [.int .i64 5] from rfl) (Reps.one (show Kd.M (Kd.int .i64) _ _ _ 20 [.int .i64 20] from rfl) (Reps.one (show Kd.M (Kd.int .i64) _ _ _ 60 [.int .i64 60] from rfl) (Reps.one (show Kd.M (Kd.int .i64) _ _ _ 75 [.int .i64 75] from rfl) (Reps.one (show Kd.M (Kd.int .i64) _ _ _ 100 [.int .i64 100] from rfl) (Reps.one (show Kd.M (Kd.int .i64) _ _ _ 118 [.int .i64 118] from rfl) (Reps.one (show Kd.M (Kd.int .i64) _ _ _ 119 [.int .i64 119] from rfl) (Reps.one (show Kd.M (Kd.int .i64) _ _ _ 120 [.int .i64 120] from rfl) (Reps.one (show Kd.M (Kd.int .i64) _ _ _ 150 [.int .i64 150] from rfl) (Reps.one (show Kd.M (Kd.int .i64) _ _ _ 151 [.int .i64 151] from rfl) (Reps.one (show Kd.M (Kd.int .i64) _ _ _ 0 [.int .i64 0] from rfl) (Reps.one (show Kd.M (Kd.int .i64) _ _ _ (-1) [.int .i64 (-1)] from rfl) (Reps.none _ _))))))))))))))); intro v5 b0 hr hb hg_ hnew_; clear hg_ hnew_; (first | rw [← HYys.out] at hr | (simp only [Int.reduceToNat] at hr; rw [← HYys.out] at hr)); have R5 := Aside0.mk (Kd.R_lower hr (below_size bB)); replace BC := bQ BC hb; replace HB := Aside0.mk (below_step bB hb); clear hr hb; obtain ⟨A5, a7, a8⟩ := Kd.R_slice R5.out; subst a8) | ((with_reducible refine gate_callee (f := 43) rfl ?_); refine goesL_ (some 9) rfl rfl Tryz.func43 kr rfl #[.pointer (some ⟨gC, 0, none⟩), .slice A5 ys.length a7] rfl sM ?_; (with_reducible refine (spec_l1Cur_among.calls gC l0 0 0 _ _ ys s p' q' w _ ?side1 ?side2 ?side3 ?side4 ?side5 H2.out).mono ?_); (case side1 => exact ⟨A0, c0, bK BC, GEC.out, HR.out⟩); (case side2 => exact bB); (case side3 => exact (Kd.R_reads' R5.out).2.2); (case side4 => exact (Kd.R_reads' R5.out).2.1); (case side5 => exact far_slice (IsS61.own_ne (show IsS61 w _ gC l0 0 0 from ⟨A0, c0, bK BC, GEC.out, HR.out⟩) R5.out (by decide))); rintro e b1 ⟨rfl, hi, hb, hk⟩; refine ⟨_, rfl, ?_⟩; clear BC; obtain ⟨A1, c1, a5, a9, a6⟩ := hi; have BC := Aside0.mk a5; have b2 := Aside0.mk a6; replace HB := Aside0.mk hb; clear a5 a9 a6 hb hk))
 go_ret
 exact ⟨rfl, bB⟩
def spec_DrawPairsFor.f (l0 : List Int) : Option Int :=
  (spec_l1Cur_one.f l0 0 0 8).bind fun o => if o.1 = true then (spec_l1Cur_among.f l0 o.2.1 o.2.2 [-1, 0, 1, 180, 200, 201, 4611686018427387904]).bind fun a => some a.1
    else (spec_l1Cur_pick.f l0 o.2.1 o.2.2 60).bind fun a => some (wrap64 (1 + a.1))
set_option maxHeartbeats 8000000 in
set_option maxRecDepth 100000 in
theorem spec_DrawPairsFor.calls (A0 : Option Addr) (c0 : Nat) (l0 : List Int) (r1 : Int) (w : World) (hr0 : Kd.C (Kd.int .u8) w A0 l0.length l0) (hc0 : l0.length ≤ c0) (h : spec_DrawPairsFor.f l0 = some (r1)) :
    Calls Tryz.prog 14 #[.slice A0 l0.length c0] w fun e w' => e = .returned (.int .i64 r1) ∧ Below w.heap.size w w' := by
 unfold spec_DrawPairsFor.f at h
 obtain ⟨⟨o1, a9, b0⟩, h1, h⟩ := Option.bind_eq_some_iff.mp h
 have HH := Aside0.mk h
 clear h
 have H1 := Aside0.mk h1
 have HR := Aside0.mk hr0
 clear h1 hr0
 have HB := Aside0.mk (Below.refl w.heap.size w)
 cases o1 with
 | true =>
  have h := HH.out
  try dsimp only at h
  rw [if_pos rfl] at h
  obtain ⟨⟨a, p1, q1⟩, h2, h⟩ := Option.bind_eq_some_iff.mp h
  simp only [Option.some.injEq] at h
  subst h
  obtain ⟨ys, hys⟩ : ∃ ys : List Int, ys = [-1, 0, 1, 180, 200, 201, 4611686018427387904] := ⟨_, rfl⟩
  have H2 : Aside0 (spec_l1Cur_among.f l0 a9 b0 ys = some (a, p1, q1)) := ⟨by rw [hys]; exact h2⟩
  have HYys := Aside0.mk hys
  clear hys h2 HH
  go_enter Tryz.func14, Tryz.ntmps14
  go_wp2_with (first | ((with_reducible refine gate_dst (N := 6) rfl ?_); refine box_ (cs := #[.slice A0 l0.length c0, .int .i64 0, .int .u64 0]) (t := 61) fun gC hg w_C hbox hb => ?_; have BC := Aside0.mk hbox; have GEC := bS HB hg; replace HB := Aside0.mk (below_step bB hb); clear hb hbox hg) | ((with_reducible refine gate_callee (f := 42) rfl ?_); refine goesL_ (some 8) rfl rfl Tryz.func42 kr rfl #[.pointer (some ⟨gC, 0, none⟩), .int .i64 8] rfl sM ?_; (with_reducible refine (spec_l1Cur_one.calls gC l0 0 0 8 true a9 b0 w _ ?side1 ?side2 H1.out).mono ?_); (case side1 => exact ⟨A0, c0, bK BC, GEC.out, HR.out⟩); (case side2 => exact bB); rintro e b1 ⟨rfl, hi, hb, hk⟩; refine ⟨_, rfl, ?_⟩; clear BC; obtain ⟨A1, c1, a5, a8, a6⟩ := hi; have BC := Aside0.mk a5; have a7 := Aside0.mk a6; replace HB := Aside0.mk hb; clear a5 a8 a6 hb hk) | ((with_reducible refine gate_dst (N := 10) rfl ?_); refine Kd.R_lit (Kd.int .i64) _ 3 ?hg (N := 10) ?hd (xs := ([(-1), 0, 1, 180, 200, 201, 4611686018427387904] : List Int)) (inner := [.int .i64 (-1), .int .i64 0, .int .i64 1, .int .i64 180, .int .i64 200, .int .i64 201, .int .i64 4611686018427387904]) (ok := fun _ => True) (okp := fun _ => True) ?hr ?hp (fun _ hk => hk) trivial (Below.refl _ _) (Nat.le_refl _) (by simp) ?_; (case hd => rfl); (case hg => rfl); (case hr => first | (go_simp; done) | (go_simp; rfl)); (case hp => exact (Reps.one (show Kd.M (Kd.int .i64) _ _ _ (-1) [.int .i64 (-1)] from rfl) (Reps.one (show Kd.M (Kd.int .i64) _ _ _ 0 [.int .i64 0] from rfl) (Reps.one (show Kd.M (Kd.int .i64) _ _ _ 1 [.int .i64 1] from rfl) (Reps.one (show Kd.M (Kd.int .i64) _ _ _ 180 [.int .i64 180] from rfl) (Reps.one (show Kd.M (Kd.int .i64) _ _ _ 200 [.int .i64 200] from rfl) (Reps.one (show Kd.M (Kd.int .i64) _ _ _ 201 [.int .i64 201] from rfl) (Reps.one (show Kd.M (Kd.int .i64) _ _ _ 4611686018427387904 [.int .i64 4611686018427387904] from rfl) (Reps.none _ _))))))))); intro v5 b6 hr hb hg_ hnew_; clear hg_ hnew_; (first | rw [← HYys.out] at hr | (simp only [Int.reduceToNat] at hr; rw [← HYys.out] at hr)); have R5 := Aside0.mk (Kd.R_lower hr (below_size bB)); replace BC := bQ BC hb; replace HB := Aside0.mk (below_step bB hb); clear hr hb; obtain ⟨A5, b2, b3⟩ := Kd.R_slice R5.out; subst b3) | ((with_reducible refine gate_callee (f := 43) rfl ?_); refine goesL_ (some 11) rfl rfl Tryz.func43 kr rfl #[.pointer (some ⟨gC, 0, none⟩), .slice A5 ys.length b2] rfl sM ?_; (with_reducible refine (spec_l1Cur_among.calls gC l0 a9 b0 _ _ ys a p1 q1 w _ ?side1 ?side2 ?side3 ?side4 ?side5 H2.out).mono ?_); (case side1 => exact ⟨A1, c1, bK BC, GEC.out, a7.out⟩); (case side2 => exact bB); (case side3 => exact (Kd.R_reads' R5.out).2.2); (case side4 => exact (Kd.R_reads' R5.out).2.1); (case side5 => exact far_slice (IsS61.own_ne (show IsS61 w _ gC l0 a9 b0 from ⟨A1, c1, bK BC, GEC.out, a7.out⟩) R5.out (by decide))); rintro e b4 ⟨rfl, hi, hb, hk⟩; refine ⟨_, rfl, ?_⟩; clear BC a7 A1 c1; obtain ⟨A1, c1, a5, a8, a6⟩ := hi; have BC := Aside0.mk a5; have a7 := Aside0.mk a6; replace HB := Aside0.mk hb; clear a5 a8 a6 hb hk))
  go_ret
  exact ⟨rfl, bB⟩
 | false =>
  have h := HH.out
  try dsimp only at h
  rw [if_neg (by simp)] at h
  obtain ⟨⟨a, p1, q1⟩, h2, h⟩ := Option.bind_eq_some_iff.mp h
  simp only [Option.some.injEq] at h
  subst h
  have H2 := Aside0.mk h2
  clear h2 HH
  go_enter Tryz.func14, Tryz.ntmps14
  go_wp2_with (first | ((with_reducible refine gate_dst (N := 6) rfl ?_); refine box_ (cs := #[.slice A0 l0.length c0, .int .i64 0, .int .u64 0]) (t := 61) fun gC hg w_C hbox hb => ?_; have BC := Aside0.mk hbox; have GEC := bS HB hg; replace HB := Aside0.mk (below_step bB hb); clear hb hbox hg) | ((with_reducible refine gate_callee (f := 42) rfl ?_); refine goesL_ (some 8) rfl rfl Tryz.func42 kr rfl #[.pointer (some ⟨gC, 0, none⟩), .int .i64 8] rfl sM ?_; (with_reducible refine (spec_l1Cur_one.calls gC l0 0 0 8 false a9 b0 w _ ?side1 ?side2 H1.out).mono ?_); (case side1 => exact ⟨A0, c0, bK BC, GEC.out, HR.out⟩); (case side2 => exact bB); rintro e b1 ⟨rfl, hi, hb, hk⟩; refine ⟨_, rfl, ?_⟩; clear BC; obtain ⟨A1, c1, a5, a8, a6⟩ := hi; have BC := Aside0.mk a5; have a7 := Aside0.mk a6; replace HB := Aside0.mk hb; clear a5 a8 a6 hb hk) | ((with_reducible refine gate_callee (f := 44) rfl ?_); refine goesL_ (some 13) rfl rfl Tryz.func44 kr rfl #[.pointer (some ⟨gC, 0, none⟩), .int .i64 60] rfl sM ?_; (with_reducible refine (spec_l1Cur_pick.calls gC l0 a9 b0 60 a p1 q1 w _ ?side1 ?side2 H2.out).mono ?_); (case side1 => exact ⟨A1, c1, bK BC, GEC.out, a7.out⟩); (case side2 => exact bB); rintro e b5 ⟨rfl, hi, hb, hk⟩; refine ⟨_, rfl, ?_⟩; clear BC a7 A1 c1; obtain ⟨A1, c1, a5, a8, a6⟩ := hi; have BC := Aside0.mk a5; have a7 := Aside0.mk a6; replace HB := Aside0.mk hb; clear a5 a8 a6 hb hk))
  go_ret
  exact ⟨rfl, bB⟩
def spec_DrawParseLadders.f (k : Nat) (l0 : List Int) : Option ByteArray :=
  (spec_l1Cur_sureLadders.f l0 0 0).bind fun t => (spec_clText.f k t.1 t.2.1 t.2.2.1).bind fun s => (spec_l1Cur_one.f l0 t.2.2.2.1 t.2.2.2.2 3).bind fun o => if o.1 = true then (spec_l1Cur_spoilt.f k l0 o.2.1 o.2.2 s (⟨#[48, 49, 50, 53, 58, 47, 120]⟩ : ByteArray)).bind fun z => some z.1 else some s
set_option maxHeartbeats 8000000 in
set_option maxRecDepth 100000 in
theorem spec_DrawParseLadders.calls (k : Nat) (A0 : Option Addr) (c0 : Nat) (l0 : List Int) (r1 : ByteArray) (w : World) (hr0 : Kd.C (Kd.int .u8) w A0 l0.length l0) (hc0 : l0.length ≤ c0) (h : spec_DrawParseLadders.f k l0 = some (r1)) :
    Calls Tryz.prog 27 #[.slice A0 l0.length c0] w fun e w' => e = .returned (.string r1) ∧ Below w.heap.size w w' := by
 unfold spec_DrawParseLadders.f at h
 obtain ⟨⟨t1, t2, t3, a9, b0⟩, h1, h⟩ := Option.bind_eq_some_iff.mp h
 obtain ⟨s1, h2, h⟩ := Option.bind_eq_some_iff.mp h
 obtain ⟨⟨o1, b1, b2⟩, h3, h⟩ := Option.bind_eq_some_iff.mp h
 have HH := Aside0.mk h
 clear h
 have H1 := Aside0.mk h1
 have H2 := Aside0.mk h2
 have H3 := Aside0.mk h3
 have HR := Aside0.mk hr0
 clear h1 h2 h3 hr0
 have HB := Aside0.mk (Below.refl w.heap.size w)
 cases o1 with
 | true =>
  have h := HH.out
  try dsimp only at h
  rw [if_pos rfl] at h
  obtain ⟨⟨z1, p1, q1⟩, h4, h⟩ := Option.bind_eq_some_iff.mp h
  simp only [Option.some.injEq] at h
  subst h
  have H4 := Aside0.mk h4
  clear h4 HH
  go_enter Tryz.func27, Tryz.ntmps27
  go_wp2_with (first | ((with_reducible refine gate_dst (N := 7) rfl ?_); refine box_ (cs := #[.slice A0 l0.length c0, .int .i64 0, .int .u64 0]) (t := 61) fun gC hg w_C hbox hb => ?_; have BC := Aside0.mk hbox; have GEC := bS HB hg; replace HB := Aside0.mk (below_step bB hb); clear hb hbox hg) | ((with_reducible refine gate_callee (f := 52) rfl ?_); refine goesL_ (some 9) rfl rfl Tryz.func52 kr rfl #[.pointer (some ⟨gC, 0, none⟩)] rfl sM ?_; (with_reducible refine (spec_l1Cur_sureLadders.calls gC l0 0 0  t1 t2 t3 a9 b0 w _ ?side1 ?side2 H1.out).mono ?_); (case side1 => exact ⟨A0, c0, bK BC, GEC.out, HR.out⟩); (case side2 => exact bB); rintro e b4 ⟨rfl, hi, hb, hk⟩; refine ⟨_, rfl, ?_⟩; clear BC; obtain ⟨A1, c1, a5, a8, a6⟩ := hi; have BC := Aside0.mk a5; have a7 := Aside0.mk a6; replace HB := Aside0.mk hb; clear a5 a8 a6 hb hk) | ((with_reducible refine gate_callee (f := 51) rfl ?_); refine goesL_ (some 10) rfl rfl Tryz.func51 kr rfl #[.agg #[.int .i64 t1, .int .i64 t2, .int .i64 t3]] rfl sM ?_; (with_reducible refine (spec_clText.calls k t1 t2 t3 s1 _ H2.out).mono ?_); rintro e w_t ⟨rfl, hb⟩; refine ⟨_, rfl, ?_⟩; replace BC := bQ BC hb; replace HB := Aside0.mk (below_step bB hb); clear hb) | ((with_reducible refine gate_callee (f := 42) rfl ?_); refine goesL_ (some 12) rfl rfl Tryz.func42 kr rfl #[.pointer (some ⟨gC, 0, none⟩), .int .i64 3] rfl sM ?_; (with_reducible refine (spec_l1Cur_one.calls gC l0 a9 b0 3 true b1 b2 w _ ?side1 ?side2 H3.out).mono ?_); (case side1 => exact ⟨A1, c1, bK BC, GEC.out, a7.out⟩); (case side2 => exact bB); rintro e b3 ⟨rfl, hi, hb, hk⟩; refine ⟨_, rfl, ?_⟩; clear BC a7 A1 c1; obtain ⟨A1, c1, a5, a8, a6⟩ := hi; have BC := Aside0.mk a5; have a7 := Aside0.mk a6; replace HB := Aside0.mk hb; clear a5 a8 a6 hb hk) | ((with_reducible refine gate_callee (f := 53) rfl ?_); refine goesL_ (some 15) rfl rfl Tryz.func53 kr rfl #[.pointer (some ⟨gC, 0, none⟩), .string s1, .string (⟨#[48, 49, 50, 53, 58, 47, 120]⟩ : ByteArray)] rfl sM ?_; (with_reducible refine (spec_l1Cur_spoilt.calls k gC l0 b1 b2 s1 (⟨#[48, 49, 50, 53, 58, 47, 120]⟩ : ByteArray) z1 p1 q1 w _ ?side1 ?side2 H4.out).mono ?_); (case side1 => exact ⟨A1, c1, bK BC, GEC.out, a7.out⟩); (case side2 => exact bB); rintro e w_s ⟨rfl, hi, hb, hk⟩; refine ⟨_, rfl, ?_⟩; clear BC a7 A1 c1 hi hk; replace HB := Aside0.mk hb; clear hb))
  go_ret
  exact ⟨rfl, bB⟩
 | false =>
  have h := HH.out
  try dsimp only at h
  rw [if_neg (by simp)] at h
  simp only [Option.some.injEq] at h
  subst h
  clear HH
  go_enter Tryz.func27, Tryz.ntmps27
  go_wp2_with (first | ((with_reducible refine gate_dst (N := 7) rfl ?_); refine box_ (cs := #[.slice A0 l0.length c0, .int .i64 0, .int .u64 0]) (t := 61) fun gC hg w_C hbox hb => ?_; have BC := Aside0.mk hbox; have GEC := bS HB hg; replace HB := Aside0.mk (below_step bB hb); clear hb hbox hg) | ((with_reducible refine gate_callee (f := 52) rfl ?_); refine goesL_ (some 9) rfl rfl Tryz.func52 kr rfl #[.pointer (some ⟨gC, 0, none⟩)] rfl sM ?_; (with_reducible refine (spec_l1Cur_sureLadders.calls gC l0 0 0  t1 t2 t3 a9 b0 w _ ?side1 ?side2 H1.out).mono ?_); (case side1 => exact ⟨A0, c0, bK BC, GEC.out, HR.out⟩); (case side2 => exact bB); rintro e b4 ⟨rfl, hi, hb, hk⟩; refine ⟨_, rfl, ?_⟩; clear BC; obtain ⟨A1, c1, a5, a8, a6⟩ := hi; have BC := Aside0.mk a5; have a7 := Aside0.mk a6; replace HB := Aside0.mk hb; clear a5 a8 a6 hb hk) | ((with_reducible refine gate_callee (f := 51) rfl ?_); refine goesL_ (some 10) rfl rfl Tryz.func51 kr rfl #[.agg #[.int .i64 t1, .int .i64 t2, .int .i64 t3]] rfl sM ?_; (with_reducible refine (spec_clText.calls k t1 t2 t3 s1 _ H2.out).mono ?_); rintro e w_t ⟨rfl, hb⟩; refine ⟨_, rfl, ?_⟩; replace BC := bQ BC hb; replace HB := Aside0.mk (below_step bB hb); clear hb) | ((with_reducible refine gate_callee (f := 42) rfl ?_); refine goesL_ (some 12) rfl rfl Tryz.func42 kr rfl #[.pointer (some ⟨gC, 0, none⟩), .int .i64 3] rfl sM ?_; (with_reducible refine (spec_l1Cur_one.calls gC l0 a9 b0 3 false b1 b2 w _ ?side1 ?side2 H3.out).mono ?_); (case side1 => exact ⟨A1, c1, bK BC, GEC.out, a7.out⟩); (case side2 => exact bB); rintro e b3 ⟨rfl, hi, hb, hk⟩; refine ⟨_, rfl, ?_⟩; clear BC a7 A1 c1; obtain ⟨A1, c1, a5, a8, a6⟩ := hi; have BC := Aside0.mk a5; have a7 := Aside0.mk a6; replace HB := Aside0.mk hb; clear a5 a8 a6 hb hk))
  go_ret
  exact ⟨rfl, bB⟩

/-! ### spec_DrawSquaresOf: function 5 -/
def spec_DrawSquaresOf.f (l0 : List Int) : Option (Int × Int × Int) := (spec_DrawAreLadders.f l0).bind fun bt198 => (some (bt198.1, bt198.2.1, bt198.2.2))
set_option maxHeartbeats 8000000 in
set_option maxRecDepth 100000 in
theorem spec_DrawSquaresOf.calls (A0 : Option Addr) (c0 : Nat) (l0 : List Int) (r1 : Int) (r2 : Int) (r3 : Int) (w : World) (hr0 : Kd.C (Kd.int .u8) w A0 l0.length l0) (hc0 : l0.length ≤ c0) (h : spec_DrawSquaresOf.f l0 = some (r1, r2, r3)) :
    Calls Tryz.prog 5 #[.slice A0 l0.length c0] w fun e w' => e = .returned (.agg #[.int .i64 r1, .int .i64 r2, .int .i64 r3]) ∧ Below w.heap.size w w' := by
 have c1 := Tryz.underlying25
 have b0 := Aside0.mk hr0
 have b1 := Aside0.mk hc0
 clear hr0 hc0
 have HB := Aside0.mk (Below.refl w.heap.size w)
 have H := h
 unfold spec_DrawSquaresOf.f at H
 clear h
 obtain ⟨⟨a6, a7, a8⟩, A2, H⟩ := bD H
 try dsimp only at H
 simp only [Option.some.injEq, Prod.mk.injEq] at H
 obtain ⟨rfl, rfl, rfl⟩ := H
 go_enter Tryz.func5, Tryz.ntmps5
 go_wp2_with (first | ((with_reducible refine gate_dst (N := 2) rfl ?_); refine box_ (cs := #[.int .i64 0, .int .i64 0, .int .i64 0]) (t := 25) fun a9 hg w3 hbox hb => ?_; have a5 := Aside0.mk (hbox); have b8 := bS HB hg; have b9 := bS HB hg; replace HB := Aside0.mk (below_step bB hb); clear hb hbox hg) | ((with_reducible refine gate_callee (f := 33) rfl ?_); refine goesL_ (some 4) rfl rfl Tryz.func33 kr rfl #[.slice A0 l0.length c0] rfl sM ?_; (with_reducible refine (spec_DrawAreLadders.calls _ _ l0 a6 a7 a8 _ ?side1 ?side2 A2.out).mono ?_); (case side1 => repeat (first | exact (Kd.C_below b0.out HB.out) | (with_reducible refine Kd.C_alloc ?_ _) | (with_reducible refine Kd.C_drewN ?_ _) | (with_reducible refine Kd.C_drew ?_))); (case side2 => exact b1.out); rintro e w4 ⟨rfl, hb⟩; refine ⟨_, rfl, ?_⟩; replace a5 := bQ a5 hb; replace HB := Aside0.mk (below_step bB hb); (try clear hb); obtain ⟨b2, b3, b4, b5, b6, b7⟩ := cf3 a5))
 refine bodyPost_ret (results_cell_row rfl _ _ a9 25 #[.int .i64 a6, .int .i64 a7, .int .i64 a8] (0, 0) _ rfl (bK a5) Tryz.underlying25 rfl kr) rfl ?_
 exact ⟨sE, bI⟩

/-! ### impl_within: function 45 -/
def impl_within.f (a0 : Int) (a1 : Int) (a2 : Int) : Option (Bool) := if a0 ≥ a1 then (some (decide (a0 ≤ a2))) else (some false)
set_option maxHeartbeats 8000000 in
set_option maxRecDepth 100000 in
theorem impl_within.calls (a0 : Int) (a1 : Int) (a2 : Int) (r : Bool) (w : World) (h : impl_within.f a0 a1 a2 = some r) :
    Calls Tryz.prog 45 #[.int .i64 a0, .int .i64 a1, .int .i64 a2] w fun e w' => e = .returned (.bool r) ∧ Drawn0 w w' := by
 have H := h
 unfold impl_within.f at H
 clear h
 by_cases c4 : a0 ≥ a1
 rw [if_pos c4] at H
 have a5 : decide (a1 ≤ a0) = true := decide_eq_true c4
 clear c4
 obtain rfl := Option.some.inj H
 rotate_left
 rw [if_neg c4] at H
 have a5 : decide (a1 ≤ a0) = false := decide_eq_false c4
 clear c4
 obtain rfl := Option.some.inj H
 rotate_left
 all_goals (go_enter Tryz.func45, Tryz.ntmps45)
 all_goals go_wp2
 all_goals go_ret
 all_goals (exact ⟨by first | rfl | (simp; done) | (simp [*]; done), by repeat (first | exact Drawn0.refl _ | apply Drawn0.step)⟩)

/-! ### impl_isWide: function 40 -/
def impl_isWide.f (a0 : Int) : Option (Bool) := (impl_within.f a0 1 1000).bind fun t201 => (some t201)
set_option maxHeartbeats 8000000 in
set_option maxRecDepth 100000 in
theorem impl_isWide.calls (a0 : Int) (r : Bool) (w : World) (h : impl_isWide.f a0 = some r) :
    Calls Tryz.prog 40 #[.int .i64 a0] w fun e w' => e = .returned (.bool r) ∧ Drawn0 w w' := by
 have H := h
 unfold impl_isWide.f at H
 clear h
 obtain ⟨a5, A2, H⟩ := bD H
 try dsimp only at H
 obtain rfl := Option.some.inj H
 go_enter Tryz.func40, Tryz.ntmps40
 go_wp2_with (first | ((with_reducible refine gate_callee (f := 45) rfl ?_); refine goesL_ (some 4) rfl rfl Tryz.func45 kr rfl #[.int .i64 a0, .int .i64 1, .int .i64 1000] rfl sM ?_; (with_reducible refine (impl_within.calls a0 1 1000 a5 _ A2.out).mono ?_); rintro e w' ⟨rfl, ⟨nd, rfl⟩⟩; refine ⟨_, rfl, ?_⟩))
 go_ret
 exact ⟨by first | rfl | (simp; done) | (simp [*]; done), by repeat (first | exact Drawn0.refl _ | apply Drawn0.step)⟩

/-! ### impl_AreLadders: function 12 -/
def impl_AreLadders.f (a0_0 : Int) (a0_1 : Int) (a0_2 : Int) : Option (Bool) := (impl_isWide.f a0_0).bind fun t203 => (if t203 = true then ((impl_isWide.f a0_1).bind fun t204 => (if t204 = true then ((impl_isWide.f a0_2).bind fun t205 => (some t205)) else (some false))) else (some false))
set_option maxHeartbeats 8000000 in
set_option maxRecDepth 100000 in
theorem impl_AreLadders.calls (a0_0 : Int) (a0_1 : Int) (a0_2 : Int) (r : Bool) (w : World) (h : impl_AreLadders.f a0_0 a0_1 a0_2 = some r) :
    Calls Tryz.prog 12 #[.agg #[.int .i64 a0_0, .int .i64 a0_1, .int .i64 a0_2]] w fun e w' => e = .returned (.bool r) ∧ Below w.heap.size w w' := by
 have b5 := Tryz.underlying25
 have HB := Aside0.mk (Below.refl w.heap.size w)
 have H := h
 unfold impl_AreLadders.f at H
 clear h
 obtain ⟨a5, A2, H⟩ := bD H
 try dsimp only at H
 by_cases c3 : a5 = true
 subst c3
 rw [if_pos rfl] at H
 obtain ⟨a6, A4, H⟩ := bD H
 try dsimp only at H
 by_cases c5 : a6 = true
 subst c5
 rw [if_pos rfl] at H
 obtain ⟨a7, A6, H⟩ := bD H
 try dsimp only at H
 obtain rfl := Option.some.inj H
 rotate_left
 replace c5 := Bool.eq_false_iff.mpr c5
 subst c5
 rw [if_neg nft] at H
 obtain rfl := Option.some.inj H
 rotate_left
 replace c3 := Bool.eq_false_iff.mpr c3
 subst c3
 rw [if_neg nft] at H
 obtain rfl := Option.some.inj H
 rotate_left
 all_goals (go_enter Tryz.func12, Tryz.ntmps12)
 all_goals (go_wp2_with (first | ((with_reducible refine gate_dst (N := 1) rfl ?_); refine box_ (cs := #[.int .i64 a0_0, .int .i64 a0_1, .int .i64 a0_2]) (t := 25) fun b6 hg b9 hbox hb => ?_; have a8 := Aside0.mk (hbox); have b7 := bS HB hg; have b8 := bS HB hg; replace HB := Aside0.mk (below_step bB hb); clear hb hbox hg; obtain ⟨a9, b0, b1, b2, b3, b4⟩ := cf3 a8) | ((with_reducible refine gate_callee (f := 40) rfl ?_); refine goesL_ (some 5) rfl rfl Tryz.func40 kr rfl #[.int .i64 a0_0] rfl sM ?_; (with_reducible refine (impl_isWide.calls a0_0 true _ A2.out).mono ?_); rintro e w' ⟨rfl, ⟨nd, rfl⟩⟩; refine ⟨_, rfl, ?_⟩) | (go_at_call 40; (with_reducible refine (impl_isWide.calls a0_1 true _ A4.out).mono ?_); rintro e w' ⟨rfl, ⟨nd, rfl⟩⟩) | (go_at_call 40; (with_reducible refine (impl_isWide.calls a0_2 a7 _ A6.out).mono ?_); rintro e w' ⟨rfl, ⟨nd, rfl⟩⟩) | (go_at_call 40; (with_reducible refine (impl_isWide.calls a0_1 false _ A4.out).mono ?_); rintro e w' ⟨rfl, ⟨nd, rfl⟩⟩) | ((with_reducible refine gate_callee (f := 40) rfl ?_); refine goesL_ (some 5) rfl rfl Tryz.func40 kr rfl #[.int .i64 a0_0] rfl sM ?_; (with_reducible refine (impl_isWide.calls a0_0 false _ A2.out).mono ?_); rintro e w' ⟨rfl, ⟨nd, rfl⟩⟩; refine ⟨_, rfl, ?_⟩)))
 all_goals go_ret
 all_goals (exact ⟨sE, bI⟩)

end Go.Proofs.YtcfknhmdhglmfaaGreatDoor.PFnLaddersWhole
