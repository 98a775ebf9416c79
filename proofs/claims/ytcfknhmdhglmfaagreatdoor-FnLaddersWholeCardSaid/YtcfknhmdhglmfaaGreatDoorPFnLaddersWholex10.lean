-- Written by xprint.py, a program of this session, for this seat; Lean checks it.
import Derived.Test.YtcfknhmdhglmfaaGreatDoorVM
import Derived.Test.YtcfknhmdhglmfaaGreatDoorPFnLaddersWholex0
import Derived.Test.YtcfknhmdhglmfaaGreatDoorPFnLaddersWholex3
import Derived.Test.YtcfknhmdhglmfaaGreatDoorPFnLaddersWholex4
import Derived.Test.YtcfknhmdhglmfaaGreatDoorPFnLaddersWholex8
import Derived.Test.YtcfknhmdhglmfaaGreatDoorPFnLaddersWholex9
namespace Go.Proofs.YtcfknhmdhglmfaaGreatDoor.PFnLaddersWhole
open Go.Proofs.YtcfknhmdhglmfaaGreatDoorV Go.RowKit Go.Proofs.YtcfknhmdhglmfaaGreatDoorW.PrintWords Go.Proofs.YtcfknhmdhglmfaaGreatDoorW.PrintLast Go.Proofs.YtcfknhmdhglmfaaGreatDoorW.PrintMore
attribute [local go_sem] max2_int min2_int max_two min_two max_three min_three max_four min_four   -- for this text's walks alone
set_option linter.unusedVariables false
set_option linter.unusedSimpArgs false

/-! ### spec_clParse: function 56 -/
def spec_clParse.j0 : Nat → ByteArray → List ByteArray → Bool → Option (Int × Int × Int × Bool)
  | 0, _, _, _ => none
  | k + 1, x0, x4, x16 => if x16 = true then (some (0, 0, 0, false)) else (if 1 < (x4.length : Int) then ((spec_l1Split.f k (rdOf ByteArray.empty x4 1) 47).bind fun t385 => (if (t385.length : Int) = 2 then (if 0 < (x4.length : Int) then ((spec_l1Read.f k (rdOf ByteArray.empty x4 0)).bind fun t389 => (if 0 < (t385.length : Int) then ((spec_l1Read.f k (rdOf ByteArray.empty t385 0)).bind fun t391 => (if 1 < (t385.length : Int) then ((spec_l1Read.f k (rdOf ByteArray.empty t385 1)).bind fun t393 => ((spec_clGood.f t389 t391 t393).bind fun t395 => (if t395 = true then ((spec_clText.f k t389 t391 t393).bind fun t396 => (some (t389, t391, t393, (t396.toList == x0.toList)))) else (some (t389, t391, t393, false))))) else (none))) else (none))) else (none)) else (some (0, 0, 0, false)))) else (none))
def spec_clParse.f (k : Nat) (a0 : ByteArray) : Option (Int × Int × Int × Bool) := (spec_l1Split.f k a0 58).bind fun t381 => (if (a0.size : Int) > 14 then (spec_clParse.j0 k a0 t381 true) else (spec_clParse.j0 k a0 t381 ((t381.length : Int) != 2)))
theorem spec_clParse.mono_l : ∀ k, (∀ y0 y1 y2, LeO (spec_clParse.j0 k y0 y1 y2) (spec_clParse.j0 (k + 1) y0 y1 y2))
  | 0 => fun _ _ _ r h => by simp [spec_clParse.j0] at h
  | k + 1 => by
    have ih0 := spec_clParse.mono_l k
    · intro y0 y1 y2
      unfold spec_clParse.j0
      repeat' first
      | (with_reducible exact ih0 _ _ _)
      | (with_reducible exact spec_clText.mono _ _ _ _)
      | (with_reducible exact spec_l1Read.mono _ _)
      | (with_reducible exact spec_l1Split.mono _ _ _)
      | (with_reducible exact LeO.refl _)
      | (with_reducible exact LeO.none _)
      | (with_reducible refine LeO.ite ?_ ?_)
      | (with_reducible refine LeO.bind ?_ (fun _ => ?_))
      | exact ih0 _ _ _
      | exact spec_clText.mono _ _ _ _
      | exact spec_l1Read.mono _ _
      | exact spec_l1Split.mono _ _ _
      | exact LeO.none _
      | refine LeO.ite ?_ ?_
      | refine LeO.bind ?_ (fun _ => ?_)
theorem spec_clParse.mono : ∀ a0 k, LeO (spec_clParse.f k a0) (spec_clParse.f (k + 1) a0) := by
  intro a0 k
  have ih0 := spec_clParse.mono_l k
  unfold spec_clParse.f
  repeat' first
      | (with_reducible exact ih0 _ _ _)
      | (with_reducible exact spec_clText.mono _ _ _ _)
      | (with_reducible exact spec_l1Read.mono _ _)
      | (with_reducible exact spec_l1Split.mono _ _ _)
      | (with_reducible exact LeO.refl _)
      | (with_reducible exact LeO.none _)
      | (with_reducible refine LeO.ite ?_ ?_)
      | (with_reducible refine LeO.bind ?_ (fun _ => ?_))
      | exact ih0 _ _ _
      | exact spec_clText.mono _ _ _ _
      | exact spec_l1Read.mono _ _
      | exact spec_l1Split.mono _ _ _
      | exact LeO.none _
      | refine LeO.ite ?_ ?_
      | refine LeO.bind ?_ (fun _ => ?_)
def spec_clParse.T7 : Bool × List (List Nat × List Nat) := (true, [([], []), ([0], [0]), ([1], [1]), ([2], [2]), ([], []), ([4], [4]), ([5], [5]), ([6, 3], [6]), ([], []), ([8], [8]), ([9], [9]), ([10, 7], [10]), ([3, 7, 11], [3, 7, 11]), ([], []), ([13, 12, 11, 0, 1, 2, 3, 4, 5, 6, 7, 8, 9, 10, 11, 12, 13], [12, 13])])
def spec_clParse.B7 : List Nat := [0, 1, 3, 7, 0, 16, 48, 127, 0, 256, 768, 2047, 4095, 0, 16383]
theorem spec_clParse.tab7 : rtab .any (opsOf Tryz.f56 7) = spec_clParse.T7 := by kernel_rfl
theorem spec_clParse.bits7 : waitsOk spec_clParse.T7.2 spec_clParse.B7 = true := by kernel_rfl
def spec_clParse.T8 : Bool × List (List Nat × List Nat) := (true, [([], []), ([], []), ([1], [1]), ([2, 2], [2]), ([3], [3]), ([4, 3, 3], [3, 4]), ([3], [3]), ([5, 6, 3], [3, 5, 6]), ([3, 7], [3, 7]), ([0, 5, 0], [0]), ([8, 9, 0, 1, 2, 3, 4, 5, 6, 7, 8, 9], [8])])
def spec_clParse.B8 : List Nat := [0, 0, 2, 6, 14, 30, 14, 126, 254, 63, 1023]
theorem spec_clParse.tab8 : rtab .any (opsOf Tryz.f56 8) = spec_clParse.T8 := by kernel_rfl
theorem spec_clParse.bits8 : waitsOk spec_clParse.T8.2 spec_clParse.B8 = true := by kernel_rfl
abbrev spec_clParse.pl0 : List (Nat × Option Tmp × Nat) := [qt 0 39, qt 1 40, qo 2 41, q 3 42, q 6 45, qt 4 43, qo 5 44, q 7 46, q 8 47, qn 9 3, q 10 3]
abbrev spec_clParse.pl1 : List (Nat × Option Tmp × Nat) := [qt 0 39, qt 1 40, qo 2 41, q 3 42, qt 4 43, q 5 44, q 6 45, q 7 46, q 8 47, qn 9 3, q 10 3]
set_option maxHeartbeats 8000000 in
set_option maxRecDepth 100000 in
theorem spec_clParse.calls (k : Nat) (a0 : ByteArray) (r1 : Int) (r2 : Int) (r3 : Int) (r4 : Bool) (w : World) (h : spec_clParse.f k a0 = some (r1, r2, r3, r4)) :
    Calls Tryz.prog 56 #[.string a0] w fun e w' => e = .returned (.tuple #[.agg #[.int .i64 r1, .int .i64 r2, .int .i64 r3], .bool r4]) ∧ Below w.heap.size w w' := by
 have q7 := Tryz.underlying25
 have HB := Aside0.mk (Below.refl w.heap.size w)
 have H := h
 unfold spec_clParse.f at H
 clear h
 obtain ⟨a9, A2, H⟩ := bD H
 try dsimp only at H
 have h8 := Aside0.mk H
 clear H
 go_enter Tryz.func56, Tryz.ntmps56
 go_upto_region 2 with (first | ((with_reducible refine gate_dst (N := 2) rfl ?_); (try (refine gate_guard (by rfl) ?_; dsimp only)); refine box_ (cs := #[.int .i64 0, .int .i64 0, .int .i64 0]) (t := 25) fun b0 hg w4 hbox hb => ?_; have a3 := Aside0.mk (hbox); have o5 := bS HB hg; have o6 := bS HB hg; replace HB := Aside0.mk (below_step bB hb); clear hb hbox hg) | ((with_reducible refine gate_callee (f := 65) rfl ?_); refine goesL_ (some 8) rfl rfl Tryz.func65 kr rfl #[.string a0, .int .u8 58] rfl sM ?_; (with_reducible refine (spec_l1Split.calls k a0 58 a9 _ A2.out).mono ?_); rintro e w5 ⟨j2, rfl, c5, hb⟩; refine ⟨_, rfl, ?_⟩; have e5 := Aside0.mk (Kd.R_lower c5 (below_size bB)); replace a3 := bQ a3 hb; replace HB := Aside0.mk (below_step bB hb); (try clear hb); (try clear c5)))
 (try simp only [Act.put, List.setIfInBounds_toArray, List.set_cons_zero, List.set_cons_succ])
 go_cut [16] (fun n2 wc => ∃ (kq : Nat) (e1 : Bool), n2 = .bool e1 ∧ Aside0 (spec_clParse.j0 kq a0 a9 e1 = some (r1, r2, r3, r4)) ∧ Aside0 (kq ≤ k) ∧ Aside0 (Kd.R Kd.string 9 wc w.heap.size (fun _ => True) j2 a9) ∧ Aside0 (wc.heap[b0]? = some (.cells #[.int .i64 0, .int .i64 0, .int .i64 0] 25 (0, 0))) ∧ Aside0 (Below w.heap.size w wc))
 case first => (
 have H := h8.out
 clear h8
 by_cases c6 : (a0.size : Int) > 14
 ·(
 rw [if_pos c6] at H
 have e2 : decide (14 < (a0.size : Int)) = true := decide_eq_true c6
 have j3 : decide (14 < a0.size) = true := decide_eq_true (by omega)
 clear c6
 (first | rw [e2] | (simp only [i64_w, i32_w]; rw [e2]) | skip)
 have H' := Aside0.mk H
 clear H
 go_wp2
 go_meet
 case rel => exact ⟨_, (true), sR, H', ⟨by first | omega | exact Nat.le_refl _⟩, ⟨oR e5⟩, (bA a3), ⟨bB⟩⟩
 )
 ·(
 rw [if_neg c6] at H
 have e2 : decide (14 < (a0.size : Int)) = false := decide_eq_false c6
 have j3 : decide (14 < a0.size) = false := decide_eq_false (by omega)
 clear c6
 (first | rw [e2] | (simp only [i64_w, i32_w]; rw [e2]) | skip)
 have H' := Aside0.mk H
 clear H
 obtain ⟨u5, u6, n3⟩ := Kd.R_slice e5.out
 subst n3
 go_wp2
 go_meet
 case rel => exact ⟨_, (((a9.length : Int) != 2)), sR, H', ⟨by first | omega | exact Nat.le_refl _⟩, ⟨oR e5⟩, (bA a3), ⟨bB⟩⟩
 )
 )
 case rest => (
 clear h8
 obtain ⟨kq, e1, rfl, HA, HJ2, a6, a3, HB⟩ := hcut
 cases kq with
 | zero => exact absurd HA.out (by simp [spec_clParse.j0])
 | succ c1 => (
 have H := HA.out
 clear HA
 simp only [spec_clParse.j0] at H
 by_cases c8 : e1 = true
 ·(
 subst c8
 rw [if_pos rfl] at H
 simp only [Option.some.injEq, Prod.mk.injEq] at H
 obtain ⟨rfl, rfl, rfl, rfl⟩ := H
 obtain ⟨n4, n5, n6, n7, n8, n9⟩ := cf3 a3
 go_wp2
 refine bodyPost_ret (results_ct rfl _ _ b0 25 #[.int .i64 0, .int .i64 0, .int .i64 0] (0, 0) _ rfl (bK a3) Tryz.underlying25 rfl kr) rfl ?_
 exact ⟨sE, bI⟩
 )
 ·(
 replace c8 := Bool.eq_false_iff.mpr c8
 subst c8
 rw [if_neg nft] at H
 by_cases h1 : 1 < (a9.length : Int)
 ·(
 rw [if_pos h1] at H
 have o7 : decide (1 < (a9.length : Int)) = true := decide_eq_true h1
 have o8 : decide (1 < a9.length) = true := decide_eq_true (by omega)
 clear h1
 obtain ⟨a7, h9, H⟩ := bD H
 try dsimp only at H
 by_cases e8 : (a7.length : Int) = 2
 ·(
 rw [if_pos e8] at H
 obtain ⟨i5, i6⟩ := yE e8
 clear e8
 by_cases h2 : 0 < (a9.length : Int)
 ·(
 rw [if_pos h2] at H
 have o9 : decide (0 < (a9.length : Int)) = true := decide_eq_true h2
 have p0 : decide (0 < a9.length) = true := decide_eq_true (by omega)
 clear h2
 obtain ⟨b4, h3, H⟩ := bD H
 try dsimp only at H
 by_cases h4 : 0 < (a7.length : Int)
 ·(
 rw [if_pos h4] at H
 have p1 : decide (0 < (a7.length : Int)) = true := decide_eq_true h4
 have p2 : decide (0 < a7.length) = true := decide_eq_true (by omega)
 clear h4
 obtain ⟨b3, e4, H⟩ := bD H
 try dsimp only at H
 by_cases h5 : 1 < (a7.length : Int)
 ·(
 rw [if_pos h5] at H
 have p3 : decide (1 < (a7.length : Int)) = true := decide_eq_true h5
 have p4 : decide (1 < a7.length) = true := decide_eq_true (by omega)
 clear h5
 obtain ⟨b2, e0, H⟩ := bD H
 try dsimp only at H
 obtain ⟨j4, j1, H⟩ := bD H
 try dsimp only at H
 by_cases h6 : j4 = true
 ·(
 subst h6
 rw [if_pos rfl] at H
 obtain ⟨j5, o0, H⟩ := bD H
 try dsimp only at H
 simp only [Option.some.injEq, Prod.mk.injEq] at H
 obtain ⟨rfl, rfl, rfl, rfl⟩ := H
 obtain ⟨q8, d6, j6⟩ := Kd.R_slice a6.out
 subst j6
 have c3 : 0 ≤ (1 : Int) := (by omega)
 have c4 : 1 < (a9.length : Int) := of_decide_eq_true asm
 obtain ⟨b5, e3, c2⟩ := Kd.at_string (Kd.R_reads' a6.out).2.2 1 c3 c4
 cases e3
 (try simp only [show (1 : Int).toNat = 1 from rfl, Nat.reduceMul, Nat.reduceEqDiff, Go.Addr.add, ↓reduceIte] at c2)
 have h7 : (1 < a9.length) = True := eq_true (by omega)
 (try rw [show ((1 : Int)).toNat = 1 from rfl] at c2)
 replace c3 := eq_true c3
 replace c4 := eq_true c4
 try go_wp2_with (first | ((with_reducible refine gate_callee (f := 65) rfl ?_); refine goesL_ (some 21) rfl rfl Tryz.func65 kr rfl #[.string (rdOf ByteArray.empty a9 1), .int .u8 47] rfl sM ?_; (with_reducible refine (spec_l1Split.calls c1 (rdOf ByteArray.empty a9 1) 47 a7 _ h9.out).mono ?_); rintro e o1 ⟨i0, rfl, c5, hb⟩; refine ⟨_, rfl, ?_⟩; have a2 := Aside0.mk (Kd.R_lower (Kd.R_new' c5 (Kd.R_lt (oR a6))) (below_size bB)); replace a6 := Aside0.mk (Kd.R_elder' (oR a6) (Kd.R_base c5) hb); replace a3 := bQ a3 hb; replace HB := Aside0.mk (below_step bB hb); (try clear hb); (try clear c5); obtain ⟨q9, d7, j7⟩ := Kd.R_slice a2.out; subst j7))
 replace a6 := Aside0.mk (Kd.R_drew a6.out)
 replace a2 := Aside0.mk (Kd.R_drew a2.out)
 replace a3 := bD1 a3
 replace HB := Aside0.mk (below_drew1 HB.out)
 have d0 : 0 ≤ (0 : Int) := (by omega)
 have d1 : 0 < (a9.length : Int) := of_decide_eq_true asm
 obtain ⟨e6, g8, b8⟩ := Kd.at_string (Kd.R_reads' a6.out).2.2 0 d0 d1
 obtain rfl : b5 = e6 := (by injection g8)
 have i7 : (0 < a9.length) = True := eq_true (by omega)
 (try rw [show ((0 : Int)).toNat = 0 from rfl] at b8)
 (try rw [Addr.add_zero'] at b8)
 replace d0 := eq_true d0
 replace d1 := eq_true d1
 have d2 : 0 ≤ (0 : Int) := (by omega)
 have d3 : 0 < (a7.length : Int) := of_decide_eq_true asm
 obtain ⟨b1, g9, b9⟩ := Kd.at_string (Kd.R_reads' a2.out).2.2 0 d2 d3
 cases g9
 have i9 : (0 < a7.length) = True := eq_true (by omega)
 (try rw [show ((0 : Int)).toNat = 0 from rfl] at b9)
 (try rw [Addr.add_zero'] at b9)
 replace d2 := eq_true d2
 replace d3 := eq_true d3
 have d4 : 0 ≤ (1 : Int) := (by omega)
 have d5 : 1 < (a7.length : Int) := of_decide_eq_true asm
 obtain ⟨e7, h0, c0⟩ := Kd.at_string (Kd.R_reads' a2.out).2.2 1 d4 d5
 obtain rfl : b1 = e7 := (by injection h0)
 (try simp only [show (1 : Int).toNat = 1 from rfl, Nat.reduceMul, Nat.reduceEqDiff, Go.Addr.add, ↓reduceIte] at c0)
 have j0 : (1 < a7.length) = True := eq_true (by omega)
 (try rw [show ((1 : Int)).toNat = 1 from rfl] at c0)
 replace d4 := eq_true d4
 replace d5 := eq_true d5
 refine start_ (n := 15) (S := fun w' => w'.cell? b5 = some (.string (rdOf ByteArray.empty a9 0)) ∧ w'.cell? b1 = some (.string (rdOf ByteArray.empty a7 0)) ∧ w'.cell? ⟨b1.block, b1.off + 1, none⟩ = some (.string (rdOf ByteArray.empty a7 1))) (ds := []) #[false, false, false, false, false, false, false, false, false, false, false, false, false, false, false] kr rfl rfl ⟨b8, b9, c0⟩ (fun hHeld => ?_); refine with_tabW spec_clParse.tab7 spec_clParse.bits7 (fun HT_ HW_ => ?_)
 generalize o1.drew = u7 at a6 a2 a3 HB b8 b9 c0 hHeld ⊢
 refine pure_ (i := 0) (N := some 26) (v := ?_) (a' := ?_) #[true, false, false, false, false, false, false, false, false, false, false, false, false, false, false] rfl rfl (any_of HT_.out kr) (fun _ _ _ h => h) (Or.inl ⟨by rfl, ?_⟩) ?_ ?_
 rotate_left
 ·(
 intro w'
 go_simp
 with_reducible rfl
 )
 rotate_left
 ·(
 simp only [Act.put, List.setIfInBounds_toArray, List.set_cons_zero, List.set_cons_succ, i64_w, i32_w]
 rfl
 )
 refine pure_ (i := 1) (N := some 27) (v := ?_) (a' := ?_) #[true, true, false, false, false, false, false, false, false, false, false, false, false, false, false] rfl rfl (any_of HT_.out kr) (fun _ _ _ h => h) (Or.inl ⟨by rfl, ?_⟩) ?_ ?_
 rotate_left
 ·(
 intro w'
 go_simp
 with_reducible rfl
 )
 rotate_left
 ·(
 simp only [Act.put, List.setIfInBounds_toArray, List.set_cons_zero, List.set_cons_succ, i64_w, i32_w]
 rfl
 )
 refine pure_ (i := 4) (N := some 30) (v := ?_) (a' := ?_) #[true, true, false, false, true, false, false, false, false, false, false, false, false, false, false] rfl rfl (any_of HT_.out kr) (fun _ _ _ h => h) (Or.inl ⟨by rfl, ?_⟩) ?_ ?_
 rotate_left
 ·(
 intro w'
 go_simp
 with_reducible rfl
 )
 rotate_left
 ·(
 simp only [Act.put, List.setIfInBounds_toArray, List.set_cons_zero, List.set_cons_succ, i64_w, i32_w]
 rfl
 )
 refine pure_ (i := 5) (N := some 31) (v := ?_) (a' := ?_) #[true, true, false, false, true, true, false, false, false, false, false, false, false, false, false] rfl rfl (any_of HT_.out kr) (fun _ _ _ h => h) (Or.inl ⟨by rfl, ?_⟩) ?_ ?_
 rotate_left
 ·(
 intro w'
 go_simp
 with_reducible rfl
 )
 rotate_left
 ·(
 simp only [Act.put, List.setIfInBounds_toArray, List.set_cons_zero, List.set_cons_succ, i64_w, i32_w]
 rfl
 )
 refine pure_ (i := 8) (N := some 34) (v := ?_) (a' := ?_) #[true, true, false, false, true, true, false, false, true, false, false, false, false, false, false] rfl rfl (any_of HT_.out kr) (fun _ _ _ h => h) (Or.inl ⟨by rfl, ?_⟩) ?_ ?_
 rotate_left
 ·(
 intro w'
 go_simp
 with_reducible rfl
 )
 rotate_left
 ·(
 simp only [Act.put, List.setIfInBounds_toArray, List.set_cons_zero, List.set_cons_succ, i64_w, i32_w]
 rfl
 )
 refine pure_ (i := 9) (N := some 35) (v := ?_) (a' := ?_) #[true, true, false, false, true, true, false, false, true, true, false, false, false, false, false] rfl rfl (any_of HT_.out kr) (fun _ _ _ h => h) (Or.inl ⟨by rfl, ?_⟩) ?_ ?_
 rotate_left
 ·(
 intro w'
 go_simp
 with_reducible rfl
 )
 rotate_left
 ·(
 simp only [Act.put, List.setIfInBounds_toArray, List.set_cons_zero, List.set_cons_succ, i64_w, i32_w]
 rfl
 )
 refine take_ (i := 2) (N := some 28) (v := ?_) (a' := ?_) #[true, true, true, false, true, true, false, false, true, true, false, false, false, false, false] rfl rfl (take_ofW HT_.out HW_.out kr) (fun _ _ _ h => h) (Or.inl ⟨by rfl, ?_⟩) hHeld ?_ ?_
 rotate_left
 ·(
 rintro w' ⟨s0, s1, s2⟩
 go_simp
 with_reducible rfl
 )
 rotate_left
 ·(
 simp only [Act.put, List.setIfInBounds_toArray, List.set_cons_zero, List.set_cons_succ, i64_w, i32_w]
 rfl
 )
 refine take_ (i := 6) (N := some 32) (v := ?_) (a' := ?_) #[true, true, true, false, true, true, true, false, true, true, false, false, false, false, false] rfl rfl (take_ofW HT_.out HW_.out kr) (fun _ _ _ h => h) (Or.inl ⟨by rfl, ?_⟩) hHeld ?_ ?_
 rotate_left
 ·(
 rintro w' ⟨s0, s1, s2⟩
 go_simp
 with_reducible rfl
 )
 rotate_left
 ·(
 simp only [Act.put, List.setIfInBounds_toArray, List.set_cons_zero, List.set_cons_succ, i64_w, i32_w]
 rfl
 )
 refine take_ (i := 10) (N := some 36) (v := ?_) (a' := ?_) #[true, true, true, false, true, true, true, false, true, true, true, false, false, false, false] rfl rfl (take_ofW HT_.out HW_.out kr) (fun _ _ _ h => h) (Or.inl ⟨by rfl, ?_⟩) hHeld ?_ ?_
 rotate_left
 ·(
 rintro w' ⟨s0, s1, s2⟩
 go_simp
 with_reducible rfl
 )
 rotate_left
 ·(
 simp only [Act.put, List.setIfInBounds_toArray, List.set_cons_zero, List.set_cons_succ, i64_w, i32_w]
 rfl
 )
 refine join_ (σ := Nat) 1 #[true, true, true, true, true, true, true, true, true, true, true, true, true, true, false] (fun s_ => [(29, .int .i64 b4), (33, .int .i64 b3), (37, .int .i64 b2), (6, .pointer (some ⟨s_, 0, none⟩)), (38, .agg #[.int .i64 b4, .int .i64 b3, .int .i64 b2])]) (fun s_ w' => (w'.cell? b5 = some (.string (rdOf ByteArray.empty a9 0)) ∧ w'.cell? b1 = some (.string (rdOf ByteArray.empty a7 0)) ∧ w'.cell? ⟨b1.block, b1.off + 1, none⟩ = some (.string (rdOf ByteArray.empty a7 1))) ∧ (Kd.R Kd.string 9 w' w.heap.size (fun k_ => some k_ ≠ (.slice (some b5) a9.length d6 : Value).ownBlock) (.slice (some b1) a7.length d7) a7) ∧ (Kd.R Kd.string 9 w' w.heap.size (fun k_ => some k_ ≠ (.slice (some b1) a7.length d7 : Value).ownBlock) (.slice (some b5) a9.length d6) a9) ∧ (w'.heap[b0]? = some (.cells #[.int .i64 0, .int .i64 0, .int .i64 0] 25 (0, 0))) ∧ (w'.heap[s_]? = some (.cells #[.int .i64 0, .int .i64 0, .int .i64 0] 25 (0, 0))) ∧ (w.heap.size ≤ s_) ∧ (w.heap.size ≤ s_) ∧ (b0 ≠ s_) ∧ (s_ ≠ b0) ∧ (Below w.heap.size w w')) ?_ ?_
 rotate_left
 ·(
 intro hCont
 refine two_ (i := 3) (j := 13) (Ni := some 29) (Nj := some 6) #[true, true, true, true, true, true, true, false, true, true, true, false, false, false, false] #[true, true, true, false, true, true, true, false, true, true, true, false, false, true, false] rfl rfl rfl rfl (two_of HT_.out kr) (by decide) (by decide) (fun K hK => ?_) (fun K hK => ?_)
 ·(
 skip
 refine goes_ Tryz.func66 kr rfl #[.string (rdOf ByteArray.empty a9 0)] (by rfl) rfl rfl sM ?_
 with_reducible refine (spec_l1Read.calls c1 (rdOf ByteArray.empty a9 0) b4 _ h3.out).mono ?_
 rintro e w' ⟨rfl, ⟨nd, rfl⟩⟩
 refine ⟨_, rfl, ?_⟩
 refine hK.out _ _ ⟨hHeld.1, hHeld.2.1, hHeld.2.2⟩ (fun hHeld => ?_)
 clear hK K
 refine norm_ (a' := ?_) ?_ ?_
 rotate_left
 · show Act.put _ (some 29) _ = _
   simp only [Act.put, List.setIfInBounds_toArray, List.set_cons_zero, List.set_cons_succ, i64_w, i32_w]
   rfl
 refine two_ (i := 7) (j := 13) (Ni := some 33) (Nj := some 6) #[true, true, true, true, true, true, true, true, true, true, true, false, false, false, false] #[true, true, true, true, true, true, true, false, true, true, true, false, false, true, false] rfl rfl rfl rfl (two_of HT_.out kr) (by decide) (by decide) (fun K hK => ?_) (fun K hK => ?_)
 ·(
 skip
 refine goes_ Tryz.func66 kr rfl #[.string (rdOf ByteArray.empty a7 0)] (by rfl) rfl rfl sM ?_
 with_reducible refine (spec_l1Read.calls c1 (rdOf ByteArray.empty a7 0) b3 _ e4.out).mono ?_
 rintro e w' ⟨rfl, ⟨nd, rfl⟩⟩
 refine ⟨_, rfl, ?_⟩
 refine hK.out _ _ ⟨hHeld.1, hHeld.2.1, hHeld.2.2⟩ (fun hHeld => ?_)
 clear hK K
 refine norm_ (a' := ?_) ?_ ?_
 rotate_left
 · show Act.put _ (some 33) _ = _
   simp only [Act.put, List.setIfInBounds_toArray, List.set_cons_zero, List.set_cons_succ, i64_w, i32_w]
   rfl
 refine two_ (i := 11) (j := 13) (Ni := some 37) (Nj := some 6) #[true, true, true, true, true, true, true, true, true, true, true, true, false, false, false] #[true, true, true, true, true, true, true, true, true, true, true, false, false, true, false] rfl rfl rfl rfl (two_of HT_.out kr) (by decide) (by decide) (fun K hK => ?_) (fun K hK => ?_)
 ·(
 skip
 refine goes_ Tryz.func66 kr rfl #[.string (rdOf ByteArray.empty a7 1)] (by rfl) rfl rfl sM ?_
 with_reducible refine (spec_l1Read.calls c1 (rdOf ByteArray.empty a7 1) b2 _ e0.out).mono ?_
 rintro e w' ⟨rfl, ⟨nd, rfl⟩⟩
 refine ⟨_, rfl, ?_⟩
 refine hK.out _ _ ⟨hHeld.1, hHeld.2.1, hHeld.2.2⟩ (fun hHeld => ?_)
 clear hK K
 refine norm_ (a' := ?_) ?_ ?_
 rotate_left
 · show Act.put _ (some 37) _ = _
   simp only [Act.put, List.setIfInBounds_toArray, List.set_cons_zero, List.set_cons_succ, i64_w, i32_w]
   rfl
 refine pure_ (i := 12) (N := some 38) (v := ?_) (a' := ?_) #[true, true, true, true, true, true, true, true, true, true, true, true, true, false, false] rfl rfl (any_of HT_.out kr) (fun _ _ _ h => h) (Or.inl ⟨by rfl, ?_⟩) ?_ ?_
 rotate_left
 ·(
 intro w'
 go_simp
 with_reducible rfl
 )
 rotate_left
 ·(
 simp only [Act.put, List.setIfInBounds_toArray, List.set_cons_zero, List.set_cons_succ, i64_w, i32_w]
 rfl
 )
 refine one_ (i := 13) (N := some 6) #[true, true, true, true, true, true, true, true, true, true, true, true, true, true, false] rfl rfl (one_of HT_.out kr) (by decide) (fun K hK => ?_)
 refine box_step ?hg (N := 6) ?hd (cs := #[.int .i64 0, .int .i64 0, .int .i64 0]) (t := 25) ?hr ?_; (case hd => rfl); (case hg => rfl); (case hr => first | (go_simp; done) | (go_simp; rfl))
 intro a4 hg i1 hbox hb
 have HS0_ := (hb.cell (World.block_lt_of_cell? _ _ (hHeld.1))).trans (hHeld.1)
 have HS1_ := (hb.cell (World.block_lt_of_cell? _ _ (hHeld.2.1))).trans (hHeld.2.1)
 have HS2_ := (hb.cell (World.block_lt_of_cell? _ _ (hHeld.2.2))).trans (hHeld.2.2)
 have a1 := Aside0.mk (hbox)
 have b6 := bS HB hg
 have b7 := bS HB hg
 have a8 := bL a3 hg
 have a5 := bM a3 hg
 replace a6 := Aside0.mk (Kd.R_below (oR a6) hb)
 replace a2 := Aside0.mk (Kd.R_below (oR a2) hb)
 replace a3 := bQ a3 hb
 replace HB := Aside0.mk (below_step bB hb)
 clear hb hbox hg
 refine hK.out _ _ ⟨HS0_, HS1_, HS2_⟩ (fun hHeld => ?_)
 clear hK K
 refine norm_ (a' := ?_) ?_ ?_
 rotate_left
 · show Act.put _ (some 6) _ = _
   simp only [Act.put, List.setIfInBounds_toArray, List.set_cons_zero, List.set_cons_succ, i64_w, i32_w]
   rfl
 exact norm_ (by simp only [putAll, Act.put, List.setIfInBounds_toArray, List.set_cons_zero, List.set_cons_succ]) (hCont (a4) _ ⟨hHeld, (by (with_reducible repeat (first | apply Kd.R_alloc | apply Kd.R_drewN | apply Kd.R_drew)); exact Kd.R_mono a2.out (fun _ hk => hk.2)), (by (with_reducible repeat (first | apply Kd.R_alloc | apply Kd.R_drewN | apply Kd.R_drew)); exact Kd.R_mono a6.out (fun _ hk => hk.2)), (bK a3), (bK a1), b6.out, b7.out, a8.out, a5.out, bB⟩)
 )
 ·(
 skip
 refine box_step ?hg (N := 6) ?hd (cs := #[.int .i64 0, .int .i64 0, .int .i64 0]) (t := 25) ?hr ?_; (case hd => rfl); (case hg => rfl); (case hr => first | (go_simp; done) | (go_simp; rfl))
 intro a4 hg i1 hbox hb
 have HS0_ := (hb.cell (World.block_lt_of_cell? _ _ (hHeld.1))).trans (hHeld.1)
 have HS1_ := (hb.cell (World.block_lt_of_cell? _ _ (hHeld.2.1))).trans (hHeld.2.1)
 have HS2_ := (hb.cell (World.block_lt_of_cell? _ _ (hHeld.2.2))).trans (hHeld.2.2)
 have a1 := Aside0.mk (hbox)
 have b6 := bS HB hg
 have b7 := bS HB hg
 have a8 := bL a3 hg
 have a5 := bM a3 hg
 replace a6 := Aside0.mk (Kd.R_below (oR a6) hb)
 replace a2 := Aside0.mk (Kd.R_below (oR a2) hb)
 replace a3 := bQ a3 hb
 replace HB := Aside0.mk (below_step bB hb)
 clear hb hbox hg
 refine hK.out _ _ ⟨HS0_, HS1_, HS2_⟩ (fun hHeld => ?_)
 clear hK K
 refine norm_ (a' := ?_) ?_ ?_
 rotate_left
 · show Act.put _ (some 6) _ = _
   simp only [Act.put, List.setIfInBounds_toArray, List.set_cons_zero, List.set_cons_succ, i64_w, i32_w]
   rfl
 refine one_ (i := 11) (N := some 37) #[true, true, true, true, true, true, true, true, true, true, true, true, false, true, false] rfl rfl (one_of HT_.out kr) (by decide) (fun K hK => ?_)
 refine goes_ Tryz.func66 kr rfl #[.string (rdOf ByteArray.empty a7 1)] (by rfl) rfl rfl sM ?_
 with_reducible refine (spec_l1Read.calls c1 (rdOf ByteArray.empty a7 1) b2 _ e0.out).mono ?_
 rintro e w' ⟨rfl, ⟨nd, rfl⟩⟩
 refine ⟨_, rfl, ?_⟩
 refine hK.out _ _ ⟨hHeld.1, hHeld.2.1, hHeld.2.2⟩ (fun hHeld => ?_)
 clear hK K
 refine norm_ (a' := ?_) ?_ ?_
 rotate_left
 · show Act.put _ (some 37) _ = _
   simp only [Act.put, List.setIfInBounds_toArray, List.set_cons_zero, List.set_cons_succ, i64_w, i32_w]
   rfl
 refine pure_ (i := 12) (N := some 38) (v := ?_) (a' := ?_) #[true, true, true, true, true, true, true, true, true, true, true, true, true, true, false] rfl rfl (any_of HT_.out kr) (fun _ _ _ h => h) (Or.inl ⟨by rfl, ?_⟩) ?_ ?_
 rotate_left
 ·(
 intro w'
 go_simp
 with_reducible rfl
 )
 rotate_left
 ·(
 simp only [Act.put, List.setIfInBounds_toArray, List.set_cons_zero, List.set_cons_succ, i64_w, i32_w]
 rfl
 )
 exact norm_ (by simp only [putAll, Act.put, List.setIfInBounds_toArray, List.set_cons_zero, List.set_cons_succ]) (hCont (a4) _ ⟨hHeld, (by (with_reducible repeat (first | apply Kd.R_alloc | apply Kd.R_drewN | apply Kd.R_drew)); exact Kd.R_mono a2.out (fun _ hk => hk.2)), (by (with_reducible repeat (first | apply Kd.R_alloc | apply Kd.R_drewN | apply Kd.R_drew)); exact Kd.R_mono a6.out (fun _ hk => hk.2)), (bK a3), (bK a1), b6.out, b7.out, a8.out, a5.out, bB⟩)
 )
 )
 ·(
 skip
 refine box_step ?hg (N := 6) ?hd (cs := #[.int .i64 0, .int .i64 0, .int .i64 0]) (t := 25) ?hr ?_; (case hd => rfl); (case hg => rfl); (case hr => first | (go_simp; done) | (go_simp; rfl))
 intro a4 hg i1 hbox hb
 have HS0_ := (hb.cell (World.block_lt_of_cell? _ _ (hHeld.1))).trans (hHeld.1)
 have HS1_ := (hb.cell (World.block_lt_of_cell? _ _ (hHeld.2.1))).trans (hHeld.2.1)
 have HS2_ := (hb.cell (World.block_lt_of_cell? _ _ (hHeld.2.2))).trans (hHeld.2.2)
 have a1 := Aside0.mk (hbox)
 have b6 := bS HB hg
 have b7 := bS HB hg
 have a8 := bL a3 hg
 have a5 := bM a3 hg
 replace a6 := Aside0.mk (Kd.R_below (oR a6) hb)
 replace a2 := Aside0.mk (Kd.R_below (oR a2) hb)
 replace a3 := bQ a3 hb
 replace HB := Aside0.mk (below_step bB hb)
 clear hb hbox hg
 refine hK.out _ _ ⟨HS0_, HS1_, HS2_⟩ (fun hHeld => ?_)
 clear hK K
 refine norm_ (a' := ?_) ?_ ?_
 rotate_left
 · show Act.put _ (some 6) _ = _
   simp only [Act.put, List.setIfInBounds_toArray, List.set_cons_zero, List.set_cons_succ, i64_w, i32_w]
   rfl
 refine one_ (i := 7) (N := some 33) #[true, true, true, true, true, true, true, true, true, true, true, false, false, true, false] rfl rfl (one_of HT_.out kr) (by decide) (fun K hK => ?_)
 refine goes_ Tryz.func66 kr rfl #[.string (rdOf ByteArray.empty a7 0)] (by rfl) rfl rfl sM ?_
 with_reducible refine (spec_l1Read.calls c1 (rdOf ByteArray.empty a7 0) b3 _ e4.out).mono ?_
 rintro e w' ⟨rfl, ⟨nd, rfl⟩⟩
 refine ⟨_, rfl, ?_⟩
 refine hK.out _ _ ⟨hHeld.1, hHeld.2.1, hHeld.2.2⟩ (fun hHeld => ?_)
 clear hK K
 refine norm_ (a' := ?_) ?_ ?_
 rotate_left
 · show Act.put _ (some 33) _ = _
   simp only [Act.put, List.setIfInBounds_toArray, List.set_cons_zero, List.set_cons_succ, i64_w, i32_w]
   rfl
 refine one_ (i := 11) (N := some 37) #[true, true, true, true, true, true, true, true, true, true, true, true, false, true, false] rfl rfl (one_of HT_.out kr) (by decide) (fun K hK => ?_)
 refine goes_ Tryz.func66 kr rfl #[.string (rdOf ByteArray.empty a7 1)] (by rfl) rfl rfl sM ?_
 with_reducible refine (spec_l1Read.calls c1 (rdOf ByteArray.empty a7 1) b2 _ e0.out).mono ?_
 rintro e w' ⟨rfl, ⟨nd, rfl⟩⟩
 refine ⟨_, rfl, ?_⟩
 refine hK.out _ _ ⟨hHeld.1, hHeld.2.1, hHeld.2.2⟩ (fun hHeld => ?_)
 clear hK K
 refine norm_ (a' := ?_) ?_ ?_
 rotate_left
 · show Act.put _ (some 37) _ = _
   simp only [Act.put, List.setIfInBounds_toArray, List.set_cons_zero, List.set_cons_succ, i64_w, i32_w]
   rfl
 refine pure_ (i := 12) (N := some 38) (v := ?_) (a' := ?_) #[true, true, true, true, true, true, true, true, true, true, true, true, true, true, false] rfl rfl (any_of HT_.out kr) (fun _ _ _ h => h) (Or.inl ⟨by rfl, ?_⟩) ?_ ?_
 rotate_left
 ·(
 intro w'
 go_simp
 with_reducible rfl
 )
 rotate_left
 ·(
 simp only [Act.put, List.setIfInBounds_toArray, List.set_cons_zero, List.set_cons_succ, i64_w, i32_w]
 rfl
 )
 exact norm_ (by simp only [putAll, Act.put, List.setIfInBounds_toArray, List.set_cons_zero, List.set_cons_succ]) (hCont (a4) _ ⟨hHeld, (by (with_reducible repeat (first | apply Kd.R_alloc | apply Kd.R_drewN | apply Kd.R_drew)); exact Kd.R_mono a2.out (fun _ hk => hk.2)), (by (with_reducible repeat (first | apply Kd.R_alloc | apply Kd.R_drewN | apply Kd.R_drew)); exact Kd.R_mono a6.out (fun _ hk => hk.2)), (bK a3), (bK a1), b6.out, b7.out, a8.out, a5.out, bB⟩)
 )
 )
 ·(
 skip
 refine box_step ?hg (N := 6) ?hd (cs := #[.int .i64 0, .int .i64 0, .int .i64 0]) (t := 25) ?hr ?_; (case hd => rfl); (case hg => rfl); (case hr => first | (go_simp; done) | (go_simp; rfl))
 intro a4 hg i1 hbox hb
 have HS0_ := (hb.cell (World.block_lt_of_cell? _ _ (hHeld.1))).trans (hHeld.1)
 have HS1_ := (hb.cell (World.block_lt_of_cell? _ _ (hHeld.2.1))).trans (hHeld.2.1)
 have HS2_ := (hb.cell (World.block_lt_of_cell? _ _ (hHeld.2.2))).trans (hHeld.2.2)
 have a1 := Aside0.mk (hbox)
 have b6 := bS HB hg
 have b7 := bS HB hg
 have a8 := bL a3 hg
 have a5 := bM a3 hg
 replace a6 := Aside0.mk (Kd.R_below (oR a6) hb)
 replace a2 := Aside0.mk (Kd.R_below (oR a2) hb)
 replace a3 := bQ a3 hb
 replace HB := Aside0.mk (below_step bB hb)
 clear hb hbox hg
 refine hK.out _ _ ⟨HS0_, HS1_, HS2_⟩ (fun hHeld => ?_)
 clear hK K
 refine norm_ (a' := ?_) ?_ ?_
 rotate_left
 · show Act.put _ (some 6) _ = _
   simp only [Act.put, List.setIfInBounds_toArray, List.set_cons_zero, List.set_cons_succ, i64_w, i32_w]
   rfl
 refine one_ (i := 3) (N := some 29) #[true, true, true, true, true, true, true, false, true, true, true, false, false, true, false] rfl rfl (one_of HT_.out kr) (by decide) (fun K hK => ?_)
 refine goes_ Tryz.func66 kr rfl #[.string (rdOf ByteArray.empty a9 0)] (by rfl) rfl rfl sM ?_
 with_reducible refine (spec_l1Read.calls c1 (rdOf ByteArray.empty a9 0) b4 _ h3.out).mono ?_
 rintro e w' ⟨rfl, ⟨nd, rfl⟩⟩
 refine ⟨_, rfl, ?_⟩
 refine hK.out _ _ ⟨hHeld.1, hHeld.2.1, hHeld.2.2⟩ (fun hHeld => ?_)
 clear hK K
 refine norm_ (a' := ?_) ?_ ?_
 rotate_left
 · show Act.put _ (some 29) _ = _
   simp only [Act.put, List.setIfInBounds_toArray, List.set_cons_zero, List.set_cons_succ, i64_w, i32_w]
   rfl
 refine one_ (i := 7) (N := some 33) #[true, true, true, true, true, true, true, true, true, true, true, false, false, true, false] rfl rfl (one_of HT_.out kr) (by decide) (fun K hK => ?_)
 refine goes_ Tryz.func66 kr rfl #[.string (rdOf ByteArray.empty a7 0)] (by rfl) rfl rfl sM ?_
 with_reducible refine (spec_l1Read.calls c1 (rdOf ByteArray.empty a7 0) b3 _ e4.out).mono ?_
 rintro e w' ⟨rfl, ⟨nd, rfl⟩⟩
 refine ⟨_, rfl, ?_⟩
 refine hK.out _ _ ⟨hHeld.1, hHeld.2.1, hHeld.2.2⟩ (fun hHeld => ?_)
 clear hK K
 refine norm_ (a' := ?_) ?_ ?_
 rotate_left
 · show Act.put _ (some 33) _ = _
   simp only [Act.put, List.setIfInBounds_toArray, List.set_cons_zero, List.set_cons_succ, i64_w, i32_w]
   rfl
 refine one_ (i := 11) (N := some 37) #[true, true, true, true, true, true, true, true, true, true, true, true, false, true, false] rfl rfl (one_of HT_.out kr) (by decide) (fun K hK => ?_)
 refine goes_ Tryz.func66 kr rfl #[.string (rdOf ByteArray.empty a7 1)] (by rfl) rfl rfl sM ?_
 with_reducible refine (spec_l1Read.calls c1 (rdOf ByteArray.empty a7 1) b2 _ e0.out).mono ?_
 rintro e w' ⟨rfl, ⟨nd, rfl⟩⟩
 refine ⟨_, rfl, ?_⟩
 refine hK.out _ _ ⟨hHeld.1, hHeld.2.1, hHeld.2.2⟩ (fun hHeld => ?_)
 clear hK K
 refine norm_ (a' := ?_) ?_ ?_
 rotate_left
 · show Act.put _ (some 37) _ = _
   simp only [Act.put, List.setIfInBounds_toArray, List.set_cons_zero, List.set_cons_succ, i64_w, i32_w]
   rfl
 refine pure_ (i := 12) (N := some 38) (v := ?_) (a' := ?_) #[true, true, true, true, true, true, true, true, true, true, true, true, true, true, false] rfl rfl (any_of HT_.out kr) (fun _ _ _ h => h) (Or.inl ⟨by rfl, ?_⟩) ?_ ?_
 rotate_left
 ·(
 intro w'
 go_simp
 with_reducible rfl
 )
 rotate_left
 ·(
 simp only [Act.put, List.setIfInBounds_toArray, List.set_cons_zero, List.set_cons_succ, i64_w, i32_w]
 rfl
 )
 exact norm_ (by simp only [putAll, Act.put, List.setIfInBounds_toArray, List.set_cons_zero, List.set_cons_succ]) (hCont (a4) _ ⟨hHeld, (by (with_reducible repeat (first | apply Kd.R_alloc | apply Kd.R_drewN | apply Kd.R_drew)); exact Kd.R_mono a2.out (fun _ hk => hk.2)), (by (with_reducible repeat (first | apply Kd.R_alloc | apply Kd.R_drewN | apply Kd.R_drew)); exact Kd.R_mono a6.out (fun _ hk => hk.2)), (bK a3), (bK a1), b6.out, b7.out, a8.out, a5.out, bB⟩)
 )
 )
 rintro a4 c7 ⟨hS_, e9, g0, g1, g2, g3, g4, g5, g6, g7⟩
 have a1 : Aside0 (c7.heap[a4]? = some (.cells #[.int .i64 0, .int .i64 0, .int .i64 0] 25 (0, 0))) := ⟨g2⟩
 have b6 : Aside0 (w.heap.size ≤ a4) := ⟨g3⟩
 have b7 : Aside0 (w.heap.size ≤ a4) := ⟨g4⟩
 have a8 : Aside0 (b0 ≠ a4) := ⟨g5⟩
 have a5 : Aside0 (a4 ≠ b0) := ⟨g6⟩
 replace a2 : Aside0 (Kd.R Kd.string 9 c7 w.heap.size (fun k_ => some k_ ≠ (.slice (some b5) a9.length d6 : Value).ownBlock) (.slice (some b1) a7.length d7) a7) := ⟨e9⟩
 replace a6 : Aside0 (Kd.R Kd.string 9 c7 w.heap.size (fun k_ => some k_ ≠ (.slice (some b1) a7.length d7 : Value).ownBlock) (.slice (some b5) a9.length d6) a9) := ⟨g0⟩
 replace a3 : Aside0 (c7.heap[b0]? = some (.cells #[.int .i64 0, .int .i64 0, .int .i64 0] 25 (0, 0))) := ⟨g1⟩
 replace HB : Aside0 (Below w.heap.size w c7) := ⟨g7⟩
 clear e9 g0 g1 g2 g3 g4 g5 g6 g7
 have hHeld : c7.cell? b5 = some (.string (rdOf ByteArray.empty a9 0)) ∧ c7.cell? b1 = some (.string (rdOf ByteArray.empty a7 0)) ∧ c7.cell? ⟨b1.block, b1.off + 1, none⟩ = some (.string (rdOf ByteArray.empty a7 1)) := hS_
 refine norm_ (a' := ?_) ?_ ?_
 rotate_left
 ·(
 simp only [putAll, Act.put, List.setIfInBounds_toArray, List.set_cons_zero, List.set_cons_succ]
 rfl
 )
 refine one_ (i := 14) (N := none) #[true, true, true, true, true, true, true, true, true, true, true, true, true, true, true] rfl rfl (one_of HT_.out kr) (by decide) (fun K hK => ?_)
 have r0 : c7.cell? ⟨a4, 0, none⟩ = some (.int .i64 0) := (blk_cell a1.out 0).trans rfl
 have p5 := blk_frozen a1.out 0
 have k2 := a8.out
 have k3 := a5.out
 have r5 : c7.cell? ⟨a4, 1, none⟩ = some (.int .i64 0) := (blk_cell a1.out 1).trans rfl
 have p6 := blk_frozen a1.out 1
 have k4 := a8.out
 have k5 := a5.out
 have r6 : c7.cell? ⟨a4, 2, none⟩ = some (.int .i64 0) := (blk_cell a1.out 2).trans rfl
 have p7 := blk_frozen a1.out 2
 have k6 := a8.out
 have k7 := a5.out
 refine skip_ (w1 := ?_) (by rfl) rfl ?_ ?_
 rotate_left
 ·(
 go_simp
 rfl
 )
 refine hK.out _ _ ⟨((cell_far (p := ⟨a4, _, none⟩) (by first | exact Kd.own_blk (Kd.R_ne a6.out a1.out (by decide)) | (rw [add_block]; exact Kd.own_blk (Kd.R_ne a6.out a1.out (by decide))) | (show (Addr.add _ _).block ≠ _; rw [add_block]; exact Kd.own_blk (Kd.R_ne a6.out a1.out (by decide))) | (dsimp only; exact Kd.own_blk (Kd.R_ne a6.out a1.out (by decide)))) _).trans (((cell_far (p := ⟨a4, _, none⟩) (by first | exact Kd.own_blk (Kd.R_ne a6.out a1.out (by decide)) | (rw [add_block]; exact Kd.own_blk (Kd.R_ne a6.out a1.out (by decide))) | (show (Addr.add _ _).block ≠ _; rw [add_block]; exact Kd.own_blk (Kd.R_ne a6.out a1.out (by decide))) | (dsimp only; exact Kd.own_blk (Kd.R_ne a6.out a1.out (by decide)))) _).trans (((cell_far (p := ⟨a4, _, none⟩) (by first | exact Kd.own_blk (Kd.R_ne a6.out a1.out (by decide)) | (rw [add_block]; exact Kd.own_blk (Kd.R_ne a6.out a1.out (by decide))) | (show (Addr.add _ _).block ≠ _; rw [add_block]; exact Kd.own_blk (Kd.R_ne a6.out a1.out (by decide))) | (dsimp only; exact Kd.own_blk (Kd.R_ne a6.out a1.out (by decide)))) _).trans (hHeld.1)))))), ((cell_far (p := ⟨a4, _, none⟩) (by first | exact Kd.own_blk (Kd.R_ne a2.out a1.out (by decide)) | (rw [add_block]; exact Kd.own_blk (Kd.R_ne a2.out a1.out (by decide))) | (show (Addr.add _ _).block ≠ _; rw [add_block]; exact Kd.own_blk (Kd.R_ne a2.out a1.out (by decide))) | (dsimp only; exact Kd.own_blk (Kd.R_ne a2.out a1.out (by decide)))) _).trans (((cell_far (p := ⟨a4, _, none⟩) (by first | exact Kd.own_blk (Kd.R_ne a2.out a1.out (by decide)) | (rw [add_block]; exact Kd.own_blk (Kd.R_ne a2.out a1.out (by decide))) | (show (Addr.add _ _).block ≠ _; rw [add_block]; exact Kd.own_blk (Kd.R_ne a2.out a1.out (by decide))) | (dsimp only; exact Kd.own_blk (Kd.R_ne a2.out a1.out (by decide)))) _).trans (((cell_far (p := ⟨a4, _, none⟩) (by first | exact Kd.own_blk (Kd.R_ne a2.out a1.out (by decide)) | (rw [add_block]; exact Kd.own_blk (Kd.R_ne a2.out a1.out (by decide))) | (show (Addr.add _ _).block ≠ _; rw [add_block]; exact Kd.own_blk (Kd.R_ne a2.out a1.out (by decide))) | (dsimp only; exact Kd.own_blk (Kd.R_ne a2.out a1.out (by decide)))) _).trans (hHeld.2.1)))))), ((cell_far (p := ⟨a4, _, none⟩) (by first | exact Kd.own_blk (Kd.R_ne a2.out a1.out (by decide)) | (rw [add_block]; exact Kd.own_blk (Kd.R_ne a2.out a1.out (by decide))) | (show (Addr.add _ _).block ≠ _; rw [add_block]; exact Kd.own_blk (Kd.R_ne a2.out a1.out (by decide))) | (dsimp only; exact Kd.own_blk (Kd.R_ne a2.out a1.out (by decide)))) _).trans (((cell_far (p := ⟨a4, _, none⟩) (by first | exact Kd.own_blk (Kd.R_ne a2.out a1.out (by decide)) | (rw [add_block]; exact Kd.own_blk (Kd.R_ne a2.out a1.out (by decide))) | (show (Addr.add _ _).block ≠ _; rw [add_block]; exact Kd.own_blk (Kd.R_ne a2.out a1.out (by decide))) | (dsimp only; exact Kd.own_blk (Kd.R_ne a2.out a1.out (by decide)))) _).trans (((cell_far (p := ⟨a4, _, none⟩) (by first | exact Kd.own_blk (Kd.R_ne a2.out a1.out (by decide)) | (rw [add_block]; exact Kd.own_blk (Kd.R_ne a2.out a1.out (by decide))) | (show (Addr.add _ _).block ≠ _; rw [add_block]; exact Kd.own_blk (Kd.R_ne a2.out a1.out (by decide))) | (dsimp only; exact Kd.own_blk (Kd.R_ne a2.out a1.out (by decide)))) _).trans (hHeld.2.2))))))⟩ (fun hHeld => ?_)
 clear hK K
 refine done_ (done_of HT_.out kr) ?_
 try go_wp2
 (try rw [dSet])
 have n0_ : Aside0 (Kd.R Kd.string 9 (((c7.setCell ⟨a4, 0, none⟩ (.int .i64 b4)).setCell ⟨a4, 1, none⟩ (.int .i64 b3)).setCell ⟨a4, 2, none⟩ (.int .i64 b2)) w.heap.size (fun k_ => some k_ ≠ (.slice (some b1) a7.length d7 : Value).ownBlock) (.slice (some b5) a9.length d6) a9) := ⟨by (with_reducible repeat (first | apply Kd.R_alloc | apply Kd.R_drewN | apply Kd.R_drew)); exact Kd.R_mono (Kd.R_far (p := ⟨a4, 2, none⟩) (Kd.R_far (p := ⟨a4, 1, none⟩) (Kd.R_far (p := ⟨a4, 0, none⟩) (Kd.R_types a6.out a1.out (by decide)) (fun _ hk => hk.2) (.int .i64 b4)) (fun _ hk => hk.2) (.int .i64 b3)) (fun _ hk => hk.2) (.int .i64 b2)) (fun _ hk => hk.1)⟩
 have n1_ : Aside0 (Kd.R Kd.string 9 (((c7.setCell ⟨a4, 0, none⟩ (.int .i64 b4)).setCell ⟨a4, 1, none⟩ (.int .i64 b3)).setCell ⟨a4, 2, none⟩ (.int .i64 b2)) w.heap.size (fun k_ => some k_ ≠ (.slice (some b5) a9.length d6 : Value).ownBlock) (.slice (some b1) a7.length d7) a7) := ⟨by (with_reducible repeat (first | apply Kd.R_alloc | apply Kd.R_drewN | apply Kd.R_drew)); exact Kd.R_mono (Kd.R_far (p := ⟨a4, 2, none⟩) (Kd.R_far (p := ⟨a4, 1, none⟩) (Kd.R_far (p := ⟨a4, 0, none⟩) (Kd.R_types a2.out a1.out (by decide)) (fun _ hk => hk.2) (.int .i64 b4)) (fun _ hk => hk.2) (.int .i64 b3)) (fun _ hk => hk.2) (.int .i64 b2)) (fun _ hk => hk.1)⟩
 generalize hW_ : (((c7.setCell ⟨a4, 0, none⟩ (.int .i64 b4)).setCell ⟨a4, 1, none⟩ (.int .i64 b3)).setCell ⟨a4, 2, none⟩ (.int .i64 b2)) = o2 at n0_ n1_ ⊢
 have nB_ := bG HB hW_
 replace a3 := bF hW_ a3
 replace a1 := bFp hW_ (.cells #[.int .i64 b4, .int .i64 b3, .int .i64 b2] 25 (0, 0)) a1
 try clear a6
 have a6 := n0_
 clear n0_
 try clear a2
 have a2 := n1_
 clear n1_ HB
 have HB := nB_
 clear nB_ hW_
 replace a6 := Aside0.mk (Kd.R_drew a6.out)
 replace a2 := Aside0.mk (Kd.R_drew a2.out)
 replace a3 := bD1 a3
 replace a1 := bD1 a1
 replace HB := Aside0.mk (below_drew1 HB.out)
 refine st_ 11 spec_clParse.pl0 (S := fun w' => w'.cell? ⟨a4, 0, none⟩ = some (.int .i64 b4) ∧ w'.cell? ⟨a4, 1, none⟩ = some (.int .i64 b3) ∧ w'.cell? ⟨a4, 2, none⟩ = some (.int .i64 b2)) (ds := []) spec_clParse.tab8 spec_clParse.bits8 cS (fun hHeld HT_ HW_ => ?_)
 generalize o2.drew = u9 at a6 a2 a3 a1 HB hHeld ⊢
 iterate 2 refine pT HT_ HW_ hHeld ?_
 refine pO HT_ fun K hK => ?_
 refine goes_ Tryz.func34 kr rfl #[.agg #[.int .i64 b4, .int .i64 b3, .int .i64 b2]] (by rfl) rfl rfl sM ?_
 with_reducible refine (spec_clGood.calls b4 b3 b2 true _ j1.out).mono ?_
 rintro e v0 ⟨rfl, hb⟩
 refine ⟨_, rfl, ?_⟩
 replace a6 := Aside0.mk (Kd.R_below (oR a6) hb)
 replace a2 := Aside0.mk (Kd.R_below (oR a2) hb)
 replace a3 := bQ a3 hb
 replace a1 := bQ a1 hb
 replace HB := Aside0.mk (below_step bB hb)
 try clear hb
 refine hK.out _ _ cS (fun hHeld => ?_)
 clear hK K
 refine nP ?_
 iterate 3 (first | refine pA HT_ ?_ | refine pT HT_ HW_ hHeld ?_)
 refine pO HT_ fun K hK => ?_
 refine goes_ Tryz.func51 kr rfl #[.agg #[.int .i64 b4, .int .i64 b3, .int .i64 b2]] (by rfl) rfl rfl sM ?_
 with_reducible refine (spec_clText.calls c1 b4 b3 b2 j5 _ o0.out).mono ?_
 rintro e i2 ⟨rfl, hb⟩
 refine ⟨_, rfl, ?_⟩
 replace a6 := Aside0.mk (Kd.R_below (oR a6) hb)
 replace a2 := Aside0.mk (Kd.R_below (oR a2) hb)
 replace a3 := bQ a3 hb
 replace a1 := bQ a1 hb
 replace HB := Aside0.mk (below_step bB hb)
 try clear hb
 refine hK.out _ _ cS (fun hHeld => ?_)
 clear hK K
 refine nP ?_
 iterate 2 refine pA HT_ ?_
 refine pO HT_ fun K hK => ?_
 have r7 : i2.cell? ⟨b0, 0, none⟩ = some (.int .i64 0) := (blk_cell a3.out 0).trans rfl
 have p8 := blk_frozen a3.out 0
 have k8 := a5.out
 have k9 := a8.out
 have r8 : i2.cell? ⟨b0, 1, none⟩ = some (.int .i64 0) := (blk_cell a3.out 1).trans rfl
 have p9 := blk_frozen a3.out 1
 have l0 := a5.out
 have l1 := a8.out
 have r9 : i2.cell? ⟨b0, 2, none⟩ = some (.int .i64 0) := (blk_cell a3.out 2).trans rfl
 have q0 := blk_frozen a3.out 2
 have l2 := a5.out
 have l3 := a8.out
 refine skip_ (w1 := ?_) (by rfl) rfl ?_ ?_
 rotate_left
 ·(
 go_simp
 rfl
 )
 refine hK.out _ _ ⟨((cell_far (p := ⟨b0, _, none⟩) a5.out _).trans (((cell_far (p := ⟨b0, _, none⟩) a5.out _).trans (((cell_far (p := ⟨b0, _, none⟩) a5.out _).trans (hHeld.1)))))), ((cell_far (p := ⟨b0, _, none⟩) a5.out _).trans (((cell_far (p := ⟨b0, _, none⟩) a5.out _).trans (((cell_far (p := ⟨b0, _, none⟩) a5.out _).trans (hHeld.2.1)))))), ((cell_far (p := ⟨b0, _, none⟩) a5.out _).trans (((cell_far (p := ⟨b0, _, none⟩) a5.out _).trans (((cell_far (p := ⟨b0, _, none⟩) a5.out _).trans (hHeld.2.2))))))⟩ (fun hHeld => ?_)
 clear hK K
 refine pA HT_ ?_
 refine pD HT_ ?_
 try go_wp2
 (try rw [dSet])
 refine bodyPost_ret (results_ct rfl _ _ b0 25 #[.int .i64 b4, .int .i64 b3, .int .i64 b2] (0, 0) _ rfl (bK a3) Tryz.underlying25 rfl kr) rfl ?_
 exact ⟨sE, bI⟩
 )
 ·(
 replace h6 := Bool.eq_false_iff.mpr h6
 subst h6
 rw [if_neg nft] at H
 simp only [Option.some.injEq, Prod.mk.injEq] at H
 obtain ⟨rfl, rfl, rfl, rfl⟩ := H
 obtain ⟨s3, d8, j8⟩ := Kd.R_slice a6.out
 subst j8
 have c3 : 0 ≤ (1 : Int) := (by omega)
 have c4 : 1 < (a9.length : Int) := of_decide_eq_true asm
 obtain ⟨b5, e3, c2⟩ := Kd.at_string (Kd.R_reads' a6.out).2.2 1 c3 c4
 cases e3
 (try simp only [show (1 : Int).toNat = 1 from rfl, Nat.reduceMul, Nat.reduceEqDiff, Go.Addr.add, ↓reduceIte] at c2)
 have h7 : (1 < a9.length) = True := eq_true (by omega)
 (try rw [show ((1 : Int)).toNat = 1 from rfl] at c2)
 replace c3 := eq_true c3
 replace c4 := eq_true c4
 try go_wp2_with (first | ((with_reducible refine gate_callee (f := 65) rfl ?_); refine goesL_ (some 21) rfl rfl Tryz.func65 kr rfl #[.string (rdOf ByteArray.empty a9 1), .int .u8 47] rfl sM ?_; (with_reducible refine (spec_l1Split.calls c1 (rdOf ByteArray.empty a9 1) 47 a7 _ h9.out).mono ?_); rintro e o3 ⟨i0, rfl, c5, hb⟩; refine ⟨_, rfl, ?_⟩; have a2 := Aside0.mk (Kd.R_lower (Kd.R_new' c5 (Kd.R_lt (oR a6))) (below_size bB)); replace a6 := Aside0.mk (Kd.R_elder' (oR a6) (Kd.R_base c5) hb); replace a3 := bQ a3 hb; replace HB := Aside0.mk (below_step bB hb); (try clear hb); (try clear c5); obtain ⟨s4, d9, j9⟩ := Kd.R_slice a2.out; subst j9))
 replace a6 := Aside0.mk (Kd.R_drew a6.out)
 replace a2 := Aside0.mk (Kd.R_drew a2.out)
 replace a3 := bD1 a3
 replace HB := Aside0.mk (below_drew1 HB.out)
 have d0 : 0 ≤ (0 : Int) := (by omega)
 have d1 : 0 < (a9.length : Int) := of_decide_eq_true asm
 obtain ⟨e6, g8, b8⟩ := Kd.at_string (Kd.R_reads' a6.out).2.2 0 d0 d1
 obtain rfl : b5 = e6 := (by injection g8)
 have i7 : (0 < a9.length) = True := eq_true (by omega)
 (try rw [show ((0 : Int)).toNat = 0 from rfl] at b8)
 (try rw [Addr.add_zero'] at b8)
 replace d0 := eq_true d0
 replace d1 := eq_true d1
 have d2 : 0 ≤ (0 : Int) := (by omega)
 have d3 : 0 < (a7.length : Int) := of_decide_eq_true asm
 obtain ⟨b1, g9, b9⟩ := Kd.at_string (Kd.R_reads' a2.out).2.2 0 d2 d3
 cases g9
 have i9 : (0 < a7.length) = True := eq_true (by omega)
 (try rw [show ((0 : Int)).toNat = 0 from rfl] at b9)
 (try rw [Addr.add_zero'] at b9)
 replace d2 := eq_true d2
 replace d3 := eq_true d3
 have d4 : 0 ≤ (1 : Int) := (by omega)
 have d5 : 1 < (a7.length : Int) := of_decide_eq_true asm
 obtain ⟨e7, h0, c0⟩ := Kd.at_string (Kd.R_reads' a2.out).2.2 1 d4 d5
 obtain rfl : b1 = e7 := (by injection h0)
 (try simp only [show (1 : Int).toNat = 1 from rfl, Nat.reduceMul, Nat.reduceEqDiff, Go.Addr.add, ↓reduceIte] at c0)
 have j0 : (1 < a7.length) = True := eq_true (by omega)
 (try rw [show ((1 : Int)).toNat = 1 from rfl] at c0)
 replace d4 := eq_true d4
 replace d5 := eq_true d5
 refine start_ (n := 15) (S := fun w' => w'.cell? b5 = some (.string (rdOf ByteArray.empty a9 0)) ∧ w'.cell? b1 = some (.string (rdOf ByteArray.empty a7 0)) ∧ w'.cell? ⟨b1.block, b1.off + 1, none⟩ = some (.string (rdOf ByteArray.empty a7 1))) (ds := []) #[false, false, false, false, false, false, false, false, false, false, false, false, false, false, false] kr rfl rfl ⟨b8, b9, c0⟩ (fun hHeld => ?_); refine with_tabW spec_clParse.tab7 spec_clParse.bits7 (fun HT_ HW_ => ?_)
 generalize o3.drew = v1 at a6 a2 a3 HB b8 b9 c0 hHeld ⊢
 refine pure_ (i := 0) (N := some 26) (v := ?_) (a' := ?_) #[true, false, false, false, false, false, false, false, false, false, false, false, false, false, false] rfl rfl (any_of HT_.out kr) (fun _ _ _ h => h) (Or.inl ⟨by rfl, ?_⟩) ?_ ?_
 rotate_left
 ·(
 intro w'
 go_simp
 with_reducible rfl
 )
 rotate_left
 ·(
 simp only [Act.put, List.setIfInBounds_toArray, List.set_cons_zero, List.set_cons_succ, i64_w, i32_w]
 rfl
 )
 refine pure_ (i := 1) (N := some 27) (v := ?_) (a' := ?_) #[true, true, false, false, false, false, false, false, false, false, false, false, false, false, false] rfl rfl (any_of HT_.out kr) (fun _ _ _ h => h) (Or.inl ⟨by rfl, ?_⟩) ?_ ?_
 rotate_left
 ·(
 intro w'
 go_simp
 with_reducible rfl
 )
 rotate_left
 ·(
 simp only [Act.put, List.setIfInBounds_toArray, List.set_cons_zero, List.set_cons_succ, i64_w, i32_w]
 rfl
 )
 refine pure_ (i := 4) (N := some 30) (v := ?_) (a' := ?_) #[true, true, false, false, true, false, false, false, false, false, false, false, false, false, false] rfl rfl (any_of HT_.out kr) (fun _ _ _ h => h) (Or.inl ⟨by rfl, ?_⟩) ?_ ?_
 rotate_left
 ·(
 intro w'
 go_simp
 with_reducible rfl
 )
 rotate_left
 ·(
 simp only [Act.put, List.setIfInBounds_toArray, List.set_cons_zero, List.set_cons_succ, i64_w, i32_w]
 rfl
 )
 refine pure_ (i := 5) (N := some 31) (v := ?_) (a' := ?_) #[true, true, false, false, true, true, false, false, false, false, false, false, false, false, false] rfl rfl (any_of HT_.out kr) (fun _ _ _ h => h) (Or.inl ⟨by rfl, ?_⟩) ?_ ?_
 rotate_left
 ·(
 intro w'
 go_simp
 with_reducible rfl
 )
 rotate_left
 ·(
 simp only [Act.put, List.setIfInBounds_toArray, List.set_cons_zero, List.set_cons_succ, i64_w, i32_w]
 rfl
 )
 refine pure_ (i := 8) (N := some 34) (v := ?_) (a' := ?_) #[true, true, false, false, true, true, false, false, true, false, false, false, false, false, false] rfl rfl (any_of HT_.out kr) (fun _ _ _ h => h) (Or.inl ⟨by rfl, ?_⟩) ?_ ?_
 rotate_left
 ·(
 intro w'
 go_simp
 with_reducible rfl
 )
 rotate_left
 ·(
 simp only [Act.put, List.setIfInBounds_toArray, List.set_cons_zero, List.set_cons_succ, i64_w, i32_w]
 rfl
 )
 refine pure_ (i := 9) (N := some 35) (v := ?_) (a' := ?_) #[true, true, false, false, true, true, false, false, true, true, false, false, false, false, false] rfl rfl (any_of HT_.out kr) (fun _ _ _ h => h) (Or.inl ⟨by rfl, ?_⟩) ?_ ?_
 rotate_left
 ·(
 intro w'
 go_simp
 with_reducible rfl
 )
 rotate_left
 ·(
 simp only [Act.put, List.setIfInBounds_toArray, List.set_cons_zero, List.set_cons_succ, i64_w, i32_w]
 rfl
 )
 refine take_ (i := 2) (N := some 28) (v := ?_) (a' := ?_) #[true, true, true, false, true, true, false, false, true, true, false, false, false, false, false] rfl rfl (take_ofW HT_.out HW_.out kr) (fun _ _ _ h => h) (Or.inl ⟨by rfl, ?_⟩) hHeld ?_ ?_
 rotate_left
 ·(
 rintro w' ⟨s0, s1, s2⟩
 go_simp
 with_reducible rfl
 )
 rotate_left
 ·(
 simp only [Act.put, List.setIfInBounds_toArray, List.set_cons_zero, List.set_cons_succ, i64_w, i32_w]
 rfl
 )
 refine take_ (i := 6) (N := some 32) (v := ?_) (a' := ?_) #[true, true, true, false, true, true, true, false, true, true, false, false, false, false, false] rfl rfl (take_ofW HT_.out HW_.out kr) (fun _ _ _ h => h) (Or.inl ⟨by rfl, ?_⟩) hHeld ?_ ?_
 rotate_left
 ·(
 rintro w' ⟨s0, s1, s2⟩
 go_simp
 with_reducible rfl
 )
 rotate_left
 ·(
 simp only [Act.put, List.setIfInBounds_toArray, List.set_cons_zero, List.set_cons_succ, i64_w, i32_w]
 rfl
 )
 refine take_ (i := 10) (N := some 36) (v := ?_) (a' := ?_) #[true, true, true, false, true, true, true, false, true, true, true, false, false, false, false] rfl rfl (take_ofW HT_.out HW_.out kr) (fun _ _ _ h => h) (Or.inl ⟨by rfl, ?_⟩) hHeld ?_ ?_
 rotate_left
 ·(
 rintro w' ⟨s0, s1, s2⟩
 go_simp
 with_reducible rfl
 )
 rotate_left
 ·(
 simp only [Act.put, List.setIfInBounds_toArray, List.set_cons_zero, List.set_cons_succ, i64_w, i32_w]
 rfl
 )
 refine join_ (σ := Nat) 1 #[true, true, true, true, true, true, true, true, true, true, true, true, true, true, false] (fun s_ => [(29, .int .i64 b4), (33, .int .i64 b3), (37, .int .i64 b2), (6, .pointer (some ⟨s_, 0, none⟩)), (38, .agg #[.int .i64 b4, .int .i64 b3, .int .i64 b2])]) (fun s_ w' => (w'.cell? b5 = some (.string (rdOf ByteArray.empty a9 0)) ∧ w'.cell? b1 = some (.string (rdOf ByteArray.empty a7 0)) ∧ w'.cell? ⟨b1.block, b1.off + 1, none⟩ = some (.string (rdOf ByteArray.empty a7 1))) ∧ (Kd.R Kd.string 9 w' w.heap.size (fun k_ => some k_ ≠ (.slice (some b5) a9.length d8 : Value).ownBlock) (.slice (some b1) a7.length d9) a7) ∧ (Kd.R Kd.string 9 w' w.heap.size (fun k_ => some k_ ≠ (.slice (some b1) a7.length d9 : Value).ownBlock) (.slice (some b5) a9.length d8) a9) ∧ (w'.heap[b0]? = some (.cells #[.int .i64 0, .int .i64 0, .int .i64 0] 25 (0, 0))) ∧ (w'.heap[s_]? = some (.cells #[.int .i64 0, .int .i64 0, .int .i64 0] 25 (0, 0))) ∧ (w.heap.size ≤ s_) ∧ (w.heap.size ≤ s_) ∧ (b0 ≠ s_) ∧ (s_ ≠ b0) ∧ (Below w.heap.size w w')) ?_ ?_
 rotate_left
 ·(
 intro hCont
 refine two_ (i := 3) (j := 13) (Ni := some 29) (Nj := some 6) #[true, true, true, true, true, true, true, false, true, true, true, false, false, false, false] #[true, true, true, false, true, true, true, false, true, true, true, false, false, true, false] rfl rfl rfl rfl (two_of HT_.out kr) (by decide) (by decide) (fun K hK => ?_) (fun K hK => ?_)
 ·(
 skip
 refine goes_ Tryz.func66 kr rfl #[.string (rdOf ByteArray.empty a9 0)] (by rfl) rfl rfl sM ?_
 with_reducible refine (spec_l1Read.calls c1 (rdOf ByteArray.empty a9 0) b4 _ h3.out).mono ?_
 rintro e w' ⟨rfl, ⟨nd, rfl⟩⟩
 refine ⟨_, rfl, ?_⟩
 refine hK.out _ _ ⟨hHeld.1, hHeld.2.1, hHeld.2.2⟩ (fun hHeld => ?_)
 clear hK K
 refine norm_ (a' := ?_) ?_ ?_
 rotate_left
 · show Act.put _ (some 29) _ = _
   simp only [Act.put, List.setIfInBounds_toArray, List.set_cons_zero, List.set_cons_succ, i64_w, i32_w]
   rfl
 refine two_ (i := 7) (j := 13) (Ni := some 33) (Nj := some 6) #[true, true, true, true, true, true, true, true, true, true, true, false, false, false, false] #[true, true, true, true, true, true, true, false, true, true, true, false, false, true, false] rfl rfl rfl rfl (two_of HT_.out kr) (by decide) (by decide) (fun K hK => ?_) (fun K hK => ?_)
 ·(
 skip
 refine goes_ Tryz.func66 kr rfl #[.string (rdOf ByteArray.empty a7 0)] (by rfl) rfl rfl sM ?_
 with_reducible refine (spec_l1Read.calls c1 (rdOf ByteArray.empty a7 0) b3 _ e4.out).mono ?_
 rintro e w' ⟨rfl, ⟨nd, rfl⟩⟩
 refine ⟨_, rfl, ?_⟩
 refine hK.out _ _ ⟨hHeld.1, hHeld.2.1, hHeld.2.2⟩ (fun hHeld => ?_)
 clear hK K
 refine norm_ (a' := ?_) ?_ ?_
 rotate_left
 · show Act.put _ (some 33) _ = _
   simp only [Act.put, List.setIfInBounds_toArray, List.set_cons_zero, List.set_cons_succ, i64_w, i32_w]
   rfl
 refine two_ (i := 11) (j := 13) (Ni := some 37) (Nj := some 6) #[true, true, true, true, true, true, true, true, true, true, true, true, false, false, false] #[true, true, true, true, true, true, true, true, true, true, true, false, false, true, false] rfl rfl rfl rfl (two_of HT_.out kr) (by decide) (by decide) (fun K hK => ?_) (fun K hK => ?_)
 ·(
 skip
 refine goes_ Tryz.func66 kr rfl #[.string (rdOf ByteArray.empty a7 1)] (by rfl) rfl rfl sM ?_
 with_reducible refine (spec_l1Read.calls c1 (rdOf ByteArray.empty a7 1) b2 _ e0.out).mono ?_
 rintro e w' ⟨rfl, ⟨nd, rfl⟩⟩
 refine ⟨_, rfl, ?_⟩
 refine hK.out _ _ ⟨hHeld.1, hHeld.2.1, hHeld.2.2⟩ (fun hHeld => ?_)
 clear hK K
 refine norm_ (a' := ?_) ?_ ?_
 rotate_left
 · show Act.put _ (some 37) _ = _
   simp only [Act.put, List.setIfInBounds_toArray, List.set_cons_zero, List.set_cons_succ, i64_w, i32_w]
   rfl
 refine pure_ (i := 12) (N := some 38) (v := ?_) (a' := ?_) #[true, true, true, true, true, true, true, true, true, true, true, true, true, false, false] rfl rfl (any_of HT_.out kr) (fun _ _ _ h => h) (Or.inl ⟨by rfl, ?_⟩) ?_ ?_
 rotate_left
 ·(
 intro w'
 go_simp
 with_reducible rfl
 )
 rotate_left
 ·(
 simp only [Act.put, List.setIfInBounds_toArray, List.set_cons_zero, List.set_cons_succ, i64_w, i32_w]
 rfl
 )
 refine one_ (i := 13) (N := some 6) #[true, true, true, true, true, true, true, true, true, true, true, true, true, true, false] rfl rfl (one_of HT_.out kr) (by decide) (fun K hK => ?_)
 refine box_step ?hg (N := 6) ?hd (cs := #[.int .i64 0, .int .i64 0, .int .i64 0]) (t := 25) ?hr ?_; (case hd => rfl); (case hg => rfl); (case hr => first | (go_simp; done) | (go_simp; rfl))
 intro a4 hg i3 hbox hb
 have HS0_ := (hb.cell (World.block_lt_of_cell? _ _ (hHeld.1))).trans (hHeld.1)
 have HS1_ := (hb.cell (World.block_lt_of_cell? _ _ (hHeld.2.1))).trans (hHeld.2.1)
 have HS2_ := (hb.cell (World.block_lt_of_cell? _ _ (hHeld.2.2))).trans (hHeld.2.2)
 have a1 := Aside0.mk (hbox)
 have b6 := bS HB hg
 have b7 := bS HB hg
 have a8 := bL a3 hg
 have a5 := bM a3 hg
 replace a6 := Aside0.mk (Kd.R_below (oR a6) hb)
 replace a2 := Aside0.mk (Kd.R_below (oR a2) hb)
 replace a3 := bQ a3 hb
 replace HB := Aside0.mk (below_step bB hb)
 clear hb hbox hg
 refine hK.out _ _ ⟨HS0_, HS1_, HS2_⟩ (fun hHeld => ?_)
 clear hK K
 refine norm_ (a' := ?_) ?_ ?_
 rotate_left
 · show Act.put _ (some 6) _ = _
   simp only [Act.put, List.setIfInBounds_toArray, List.set_cons_zero, List.set_cons_succ, i64_w, i32_w]
   rfl
 exact norm_ (by simp only [putAll, Act.put, List.setIfInBounds_toArray, List.set_cons_zero, List.set_cons_succ]) (hCont (a4) _ ⟨hHeld, (by (with_reducible repeat (first | apply Kd.R_alloc | apply Kd.R_drewN | apply Kd.R_drew)); exact Kd.R_mono a2.out (fun _ hk => hk.2)), (by (with_reducible repeat (first | apply Kd.R_alloc | apply Kd.R_drewN | apply Kd.R_drew)); exact Kd.R_mono a6.out (fun _ hk => hk.2)), (bK a3), (bK a1), b6.out, b7.out, a8.out, a5.out, bB⟩)
 )
 ·(
 skip
 refine box_step ?hg (N := 6) ?hd (cs := #[.int .i64 0, .int .i64 0, .int .i64 0]) (t := 25) ?hr ?_; (case hd => rfl); (case hg => rfl); (case hr => first | (go_simp; done) | (go_simp; rfl))
 intro a4 hg i3 hbox hb
 have HS0_ := (hb.cell (World.block_lt_of_cell? _ _ (hHeld.1))).trans (hHeld.1)
 have HS1_ := (hb.cell (World.block_lt_of_cell? _ _ (hHeld.2.1))).trans (hHeld.2.1)
 have HS2_ := (hb.cell (World.block_lt_of_cell? _ _ (hHeld.2.2))).trans (hHeld.2.2)
 have a1 := Aside0.mk (hbox)
 have b6 := bS HB hg
 have b7 := bS HB hg
 have a8 := bL a3 hg
 have a5 := bM a3 hg
 replace a6 := Aside0.mk (Kd.R_below (oR a6) hb)
 replace a2 := Aside0.mk (Kd.R_below (oR a2) hb)
 replace a3 := bQ a3 hb
 replace HB := Aside0.mk (below_step bB hb)
 clear hb hbox hg
 refine hK.out _ _ ⟨HS0_, HS1_, HS2_⟩ (fun hHeld => ?_)
 clear hK K
 refine norm_ (a' := ?_) ?_ ?_
 rotate_left
 · show Act.put _ (some 6) _ = _
   simp only [Act.put, List.setIfInBounds_toArray, List.set_cons_zero, List.set_cons_succ, i64_w, i32_w]
   rfl
 refine one_ (i := 11) (N := some 37) #[true, true, true, true, true, true, true, true, true, true, true, true, false, true, false] rfl rfl (one_of HT_.out kr) (by decide) (fun K hK => ?_)
 refine goes_ Tryz.func66 kr rfl #[.string (rdOf ByteArray.empty a7 1)] (by rfl) rfl rfl sM ?_
 with_reducible refine (spec_l1Read.calls c1 (rdOf ByteArray.empty a7 1) b2 _ e0.out).mono ?_
 rintro e w' ⟨rfl, ⟨nd, rfl⟩⟩
 refine ⟨_, rfl, ?_⟩
 refine hK.out _ _ ⟨hHeld.1, hHeld.2.1, hHeld.2.2⟩ (fun hHeld => ?_)
 clear hK K
 refine norm_ (a' := ?_) ?_ ?_
 rotate_left
 · show Act.put _ (some 37) _ = _
   simp only [Act.put, List.setIfInBounds_toArray, List.set_cons_zero, List.set_cons_succ, i64_w, i32_w]
   rfl
 refine pure_ (i := 12) (N := some 38) (v := ?_) (a' := ?_) #[true, true, true, true, true, true, true, true, true, true, true, true, true, true, false] rfl rfl (any_of HT_.out kr) (fun _ _ _ h => h) (Or.inl ⟨by rfl, ?_⟩) ?_ ?_
 rotate_left
 ·(
 intro w'
 go_simp
 with_reducible rfl
 )
 rotate_left
 ·(
 simp only [Act.put, List.setIfInBounds_toArray, List.set_cons_zero, List.set_cons_succ, i64_w, i32_w]
 rfl
 )
 exact norm_ (by simp only [putAll, Act.put, List.setIfInBounds_toArray, List.set_cons_zero, List.set_cons_succ]) (hCont (a4) _ ⟨hHeld, (by (with_reducible repeat (first | apply Kd.R_alloc | apply Kd.R_drewN | apply Kd.R_drew)); exact Kd.R_mono a2.out (fun _ hk => hk.2)), (by (with_reducible repeat (first | apply Kd.R_alloc | apply Kd.R_drewN | apply Kd.R_drew)); exact Kd.R_mono a6.out (fun _ hk => hk.2)), (bK a3), (bK a1), b6.out, b7.out, a8.out, a5.out, bB⟩)
 )
 )
 ·(
 skip
 refine box_step ?hg (N := 6) ?hd (cs := #[.int .i64 0, .int .i64 0, .int .i64 0]) (t := 25) ?hr ?_; (case hd => rfl); (case hg => rfl); (case hr => first | (go_simp; done) | (go_simp; rfl))
 intro a4 hg i3 hbox hb
 have HS0_ := (hb.cell (World.block_lt_of_cell? _ _ (hHeld.1))).trans (hHeld.1)
 have HS1_ := (hb.cell (World.block_lt_of_cell? _ _ (hHeld.2.1))).trans (hHeld.2.1)
 have HS2_ := (hb.cell (World.block_lt_of_cell? _ _ (hHeld.2.2))).trans (hHeld.2.2)
 have a1 := Aside0.mk (hbox)
 have b6 := bS HB hg
 have b7 := bS HB hg
 have a8 := bL a3 hg
 have a5 := bM a3 hg
 replace a6 := Aside0.mk (Kd.R_below (oR a6) hb)
 replace a2 := Aside0.mk (Kd.R_below (oR a2) hb)
 replace a3 := bQ a3 hb
 replace HB := Aside0.mk (below_step bB hb)
 clear hb hbox hg
 refine hK.out _ _ ⟨HS0_, HS1_, HS2_⟩ (fun hHeld => ?_)
 clear hK K
 refine norm_ (a' := ?_) ?_ ?_
 rotate_left
 · show Act.put _ (some 6) _ = _
   simp only [Act.put, List.setIfInBounds_toArray, List.set_cons_zero, List.set_cons_succ, i64_w, i32_w]
   rfl
 refine one_ (i := 7) (N := some 33) #[true, true, true, true, true, true, true, true, true, true, true, false, false, true, false] rfl rfl (one_of HT_.out kr) (by decide) (fun K hK => ?_)
 refine goes_ Tryz.func66 kr rfl #[.string (rdOf ByteArray.empty a7 0)] (by rfl) rfl rfl sM ?_
 with_reducible refine (spec_l1Read.calls c1 (rdOf ByteArray.empty a7 0) b3 _ e4.out).mono ?_
 rintro e w' ⟨rfl, ⟨nd, rfl⟩⟩
 refine ⟨_, rfl, ?_⟩
 refine hK.out _ _ ⟨hHeld.1, hHeld.2.1, hHeld.2.2⟩ (fun hHeld => ?_)
 clear hK K
 refine norm_ (a' := ?_) ?_ ?_
 rotate_left
 · show Act.put _ (some 33) _ = _
   simp only [Act.put, List.setIfInBounds_toArray, List.set_cons_zero, List.set_cons_succ, i64_w, i32_w]
   rfl
 refine one_ (i := 11) (N := some 37) #[true, true, true, true, true, true, true, true, true, true, true, true, false, true, false] rfl rfl (one_of HT_.out kr) (by decide) (fun K hK => ?_)
 refine goes_ Tryz.func66 kr rfl #[.string (rdOf ByteArray.empty a7 1)] (by rfl) rfl rfl sM ?_
 with_reducible refine (spec_l1Read.calls c1 (rdOf ByteArray.empty a7 1) b2 _ e0.out).mono ?_
 rintro e w' ⟨rfl, ⟨nd, rfl⟩⟩
 refine ⟨_, rfl, ?_⟩
 refine hK.out _ _ ⟨hHeld.1, hHeld.2.1, hHeld.2.2⟩ (fun hHeld => ?_)
 clear hK K
 refine norm_ (a' := ?_) ?_ ?_
 rotate_left
 · show Act.put _ (some 37) _ = _
   simp only [Act.put, List.setIfInBounds_toArray, List.set_cons_zero, List.set_cons_succ, i64_w, i32_w]
   rfl
 refine pure_ (i := 12) (N := some 38) (v := ?_) (a' := ?_) #[true, true, true, true, true, true, true, true, true, true, true, true, true, true, false] rfl rfl (any_of HT_.out kr) (fun _ _ _ h => h) (Or.inl ⟨by rfl, ?_⟩) ?_ ?_
 rotate_left
 ·(
 intro w'
 go_simp
 with_reducible rfl
 )
 rotate_left
 ·(
 simp only [Act.put, List.setIfInBounds_toArray, List.set_cons_zero, List.set_cons_succ, i64_w, i32_w]
 rfl
 )
 exact norm_ (by simp only [putAll, Act.put, List.setIfInBounds_toArray, List.set_cons_zero, List.set_cons_succ]) (hCont (a4) _ ⟨hHeld, (by (with_reducible repeat (first | apply Kd.R_alloc | apply Kd.R_drewN | apply Kd.R_drew)); exact Kd.R_mono a2.out (fun _ hk => hk.2)), (by (with_reducible repeat (first | apply Kd.R_alloc | apply Kd.R_drewN | apply Kd.R_drew)); exact Kd.R_mono a6.out (fun _ hk => hk.2)), (bK a3), (bK a1), b6.out, b7.out, a8.out, a5.out, bB⟩)
 )
 )
 ·(
 skip
 refine box_step ?hg (N := 6) ?hd (cs := #[.int .i64 0, .int .i64 0, .int .i64 0]) (t := 25) ?hr ?_; (case hd => rfl); (case hg => rfl); (case hr => first | (go_simp; done) | (go_simp; rfl))
 intro a4 hg i3 hbox hb
 have HS0_ := (hb.cell (World.block_lt_of_cell? _ _ (hHeld.1))).trans (hHeld.1)
 have HS1_ := (hb.cell (World.block_lt_of_cell? _ _ (hHeld.2.1))).trans (hHeld.2.1)
 have HS2_ := (hb.cell (World.block_lt_of_cell? _ _ (hHeld.2.2))).trans (hHeld.2.2)
 have a1 := Aside0.mk (hbox)
 have b6 := bS HB hg
 have b7 := bS HB hg
 have a8 := bL a3 hg
 have a5 := bM a3 hg
 replace a6 := Aside0.mk (Kd.R_below (oR a6) hb)
 replace a2 := Aside0.mk (Kd.R_below (oR a2) hb)
 replace a3 := bQ a3 hb
 replace HB := Aside0.mk (below_step bB hb)
 clear hb hbox hg
 refine hK.out _ _ ⟨HS0_, HS1_, HS2_⟩ (fun hHeld => ?_)
 clear hK K
 refine norm_ (a' := ?_) ?_ ?_
 rotate_left
 · show Act.put _ (some 6) _ = _
   simp only [Act.put, List.setIfInBounds_toArray, List.set_cons_zero, List.set_cons_succ, i64_w, i32_w]
   rfl
 refine one_ (i := 3) (N := some 29) #[true, true, true, true, true, true, true, false, true, true, true, false, false, true, false] rfl rfl (one_of HT_.out kr) (by decide) (fun K hK => ?_)
 refine goes_ Tryz.func66 kr rfl #[.string (rdOf ByteArray.empty a9 0)] (by rfl) rfl rfl sM ?_
 with_reducible refine (spec_l1Read.calls c1 (rdOf ByteArray.empty a9 0) b4 _ h3.out).mono ?_
 rintro e w' ⟨rfl, ⟨nd, rfl⟩⟩
 refine ⟨_, rfl, ?_⟩
 refine hK.out _ _ ⟨hHeld.1, hHeld.2.1, hHeld.2.2⟩ (fun hHeld => ?_)
 clear hK K
 refine norm_ (a' := ?_) ?_ ?_
 rotate_left
 · show Act.put _ (some 29) _ = _
   simp only [Act.put, List.setIfInBounds_toArray, List.set_cons_zero, List.set_cons_succ, i64_w, i32_w]
   rfl
 refine one_ (i := 7) (N := some 33) #[true, true, true, true, true, true, true, true, true, true, true, false, false, true, false] rfl rfl (one_of HT_.out kr) (by decide) (fun K hK => ?_)
 refine goes_ Tryz.func66 kr rfl #[.string (rdOf ByteArray.empty a7 0)] (by rfl) rfl rfl sM ?_
 with_reducible refine (spec_l1Read.calls c1 (rdOf ByteArray.empty a7 0) b3 _ e4.out).mono ?_
 rintro e w' ⟨rfl, ⟨nd, rfl⟩⟩
 refine ⟨_, rfl, ?_⟩
 refine hK.out _ _ ⟨hHeld.1, hHeld.2.1, hHeld.2.2⟩ (fun hHeld => ?_)
 clear hK K
 refine norm_ (a' := ?_) ?_ ?_
 rotate_left
 · show Act.put _ (some 33) _ = _
   simp only [Act.put, List.setIfInBounds_toArray, List.set_cons_zero, List.set_cons_succ, i64_w, i32_w]
   rfl
 refine one_ (i := 11) (N := some 37) #[true, true, true, true, true, true, true, true, true, true, true, true, false, true, false] rfl rfl (one_of HT_.out kr) (by decide) (fun K hK => ?_)
 refine goes_ Tryz.func66 kr rfl #[.string (rdOf ByteArray.empty a7 1)] (by rfl) rfl rfl sM ?_
 with_reducible refine (spec_l1Read.calls c1 (rdOf ByteArray.empty a7 1) b2 _ e0.out).mono ?_
 rintro e w' ⟨rfl, ⟨nd, rfl⟩⟩
 refine ⟨_, rfl, ?_⟩
 refine hK.out _ _ ⟨hHeld.1, hHeld.2.1, hHeld.2.2⟩ (fun hHeld => ?_)
 clear hK K
 refine norm_ (a' := ?_) ?_ ?_
 rotate_left
 · show Act.put _ (some 37) _ = _
   simp only [Act.put, List.setIfInBounds_toArray, List.set_cons_zero, List.set_cons_succ, i64_w, i32_w]
   rfl
 refine pure_ (i := 12) (N := some 38) (v := ?_) (a' := ?_) #[true, true, true, true, true, true, true, true, true, true, true, true, true, true, false] rfl rfl (any_of HT_.out kr) (fun _ _ _ h => h) (Or.inl ⟨by rfl, ?_⟩) ?_ ?_
 rotate_left
 ·(
 intro w'
 go_simp
 with_reducible rfl
 )
 rotate_left
 ·(
 simp only [Act.put, List.setIfInBounds_toArray, List.set_cons_zero, List.set_cons_succ, i64_w, i32_w]
 rfl
 )
 exact norm_ (by simp only [putAll, Act.put, List.setIfInBounds_toArray, List.set_cons_zero, List.set_cons_succ]) (hCont (a4) _ ⟨hHeld, (by (with_reducible repeat (first | apply Kd.R_alloc | apply Kd.R_drewN | apply Kd.R_drew)); exact Kd.R_mono a2.out (fun _ hk => hk.2)), (by (with_reducible repeat (first | apply Kd.R_alloc | apply Kd.R_drewN | apply Kd.R_drew)); exact Kd.R_mono a6.out (fun _ hk => hk.2)), (bK a3), (bK a1), b6.out, b7.out, a8.out, a5.out, bB⟩)
 )
 )
 rintro a4 c9 ⟨hS_, e9, g0, g1, g2, g3, g4, g5, g6, g7⟩
 have a1 : Aside0 (c9.heap[a4]? = some (.cells #[.int .i64 0, .int .i64 0, .int .i64 0] 25 (0, 0))) := ⟨g2⟩
 have b6 : Aside0 (w.heap.size ≤ a4) := ⟨g3⟩
 have b7 : Aside0 (w.heap.size ≤ a4) := ⟨g4⟩
 have a8 : Aside0 (b0 ≠ a4) := ⟨g5⟩
 have a5 : Aside0 (a4 ≠ b0) := ⟨g6⟩
 replace a2 : Aside0 (Kd.R Kd.string 9 c9 w.heap.size (fun k_ => some k_ ≠ (.slice (some b5) a9.length d8 : Value).ownBlock) (.slice (some b1) a7.length d9) a7) := ⟨e9⟩
 replace a6 : Aside0 (Kd.R Kd.string 9 c9 w.heap.size (fun k_ => some k_ ≠ (.slice (some b1) a7.length d9 : Value).ownBlock) (.slice (some b5) a9.length d8) a9) := ⟨g0⟩
 replace a3 : Aside0 (c9.heap[b0]? = some (.cells #[.int .i64 0, .int .i64 0, .int .i64 0] 25 (0, 0))) := ⟨g1⟩
 replace HB : Aside0 (Below w.heap.size w c9) := ⟨g7⟩
 clear e9 g0 g1 g2 g3 g4 g5 g6 g7
 have hHeld : c9.cell? b5 = some (.string (rdOf ByteArray.empty a9 0)) ∧ c9.cell? b1 = some (.string (rdOf ByteArray.empty a7 0)) ∧ c9.cell? ⟨b1.block, b1.off + 1, none⟩ = some (.string (rdOf ByteArray.empty a7 1)) := hS_
 refine norm_ (a' := ?_) ?_ ?_
 rotate_left
 ·(
 simp only [putAll, Act.put, List.setIfInBounds_toArray, List.set_cons_zero, List.set_cons_succ]
 rfl
 )
 refine one_ (i := 14) (N := none) #[true, true, true, true, true, true, true, true, true, true, true, true, true, true, true] rfl rfl (one_of HT_.out kr) (by decide) (fun K hK => ?_)
 have s5 : c9.cell? ⟨a4, 0, none⟩ = some (.int .i64 0) := (blk_cell a1.out 0).trans rfl
 have q1 := blk_frozen a1.out 0
 have l4 := a8.out
 have l5 := a5.out
 have s6 : c9.cell? ⟨a4, 1, none⟩ = some (.int .i64 0) := (blk_cell a1.out 1).trans rfl
 have q2 := blk_frozen a1.out 1
 have l6 := a8.out
 have l7 := a5.out
 have s7 : c9.cell? ⟨a4, 2, none⟩ = some (.int .i64 0) := (blk_cell a1.out 2).trans rfl
 have q3 := blk_frozen a1.out 2
 have l8 := a8.out
 have l9 := a5.out
 refine skip_ (w1 := ?_) (by rfl) rfl ?_ ?_
 rotate_left
 ·(
 go_simp
 rfl
 )
 refine hK.out _ _ ⟨((cell_far (p := ⟨a4, _, none⟩) (by first | exact Kd.own_blk (Kd.R_ne a6.out a1.out (by decide)) | (rw [add_block]; exact Kd.own_blk (Kd.R_ne a6.out a1.out (by decide))) | (show (Addr.add _ _).block ≠ _; rw [add_block]; exact Kd.own_blk (Kd.R_ne a6.out a1.out (by decide))) | (dsimp only; exact Kd.own_blk (Kd.R_ne a6.out a1.out (by decide)))) _).trans (((cell_far (p := ⟨a4, _, none⟩) (by first | exact Kd.own_blk (Kd.R_ne a6.out a1.out (by decide)) | (rw [add_block]; exact Kd.own_blk (Kd.R_ne a6.out a1.out (by decide))) | (show (Addr.add _ _).block ≠ _; rw [add_block]; exact Kd.own_blk (Kd.R_ne a6.out a1.out (by decide))) | (dsimp only; exact Kd.own_blk (Kd.R_ne a6.out a1.out (by decide)))) _).trans (((cell_far (p := ⟨a4, _, none⟩) (by first | exact Kd.own_blk (Kd.R_ne a6.out a1.out (by decide)) | (rw [add_block]; exact Kd.own_blk (Kd.R_ne a6.out a1.out (by decide))) | (show (Addr.add _ _).block ≠ _; rw [add_block]; exact Kd.own_blk (Kd.R_ne a6.out a1.out (by decide))) | (dsimp only; exact Kd.own_blk (Kd.R_ne a6.out a1.out (by decide)))) _).trans (hHeld.1)))))), ((cell_far (p := ⟨a4, _, none⟩) (by first | exact Kd.own_blk (Kd.R_ne a2.out a1.out (by decide)) | (rw [add_block]; exact Kd.own_blk (Kd.R_ne a2.out a1.out (by decide))) | (show (Addr.add _ _).block ≠ _; rw [add_block]; exact Kd.own_blk (Kd.R_ne a2.out a1.out (by decide))) | (dsimp only; exact Kd.own_blk (Kd.R_ne a2.out a1.out (by decide)))) _).trans (((cell_far (p := ⟨a4, _, none⟩) (by first | exact Kd.own_blk (Kd.R_ne a2.out a1.out (by decide)) | (rw [add_block]; exact Kd.own_blk (Kd.R_ne a2.out a1.out (by decide))) | (show (Addr.add _ _).block ≠ _; rw [add_block]; exact Kd.own_blk (Kd.R_ne a2.out a1.out (by decide))) | (dsimp only; exact Kd.own_blk (Kd.R_ne a2.out a1.out (by decide)))) _).trans (((cell_far (p := ⟨a4, _, none⟩) (by first | exact Kd.own_blk (Kd.R_ne a2.out a1.out (by decide)) | (rw [add_block]; exact Kd.own_blk (Kd.R_ne a2.out a1.out (by decide))) | (show (Addr.add _ _).block ≠ _; rw [add_block]; exact Kd.own_blk (Kd.R_ne a2.out a1.out (by decide))) | (dsimp only; exact Kd.own_blk (Kd.R_ne a2.out a1.out (by decide)))) _).trans (hHeld.2.1)))))), ((cell_far (p := ⟨a4, _, none⟩) (by first | exact Kd.own_blk (Kd.R_ne a2.out a1.out (by decide)) | (rw [add_block]; exact Kd.own_blk (Kd.R_ne a2.out a1.out (by decide))) | (show (Addr.add _ _).block ≠ _; rw [add_block]; exact Kd.own_blk (Kd.R_ne a2.out a1.out (by decide))) | (dsimp only; exact Kd.own_blk (Kd.R_ne a2.out a1.out (by decide)))) _).trans (((cell_far (p := ⟨a4, _, none⟩) (by first | exact Kd.own_blk (Kd.R_ne a2.out a1.out (by decide)) | (rw [add_block]; exact Kd.own_blk (Kd.R_ne a2.out a1.out (by decide))) | (show (Addr.add _ _).block ≠ _; rw [add_block]; exact Kd.own_blk (Kd.R_ne a2.out a1.out (by decide))) | (dsimp only; exact Kd.own_blk (Kd.R_ne a2.out a1.out (by decide)))) _).trans (((cell_far (p := ⟨a4, _, none⟩) (by first | exact Kd.own_blk (Kd.R_ne a2.out a1.out (by decide)) | (rw [add_block]; exact Kd.own_blk (Kd.R_ne a2.out a1.out (by decide))) | (show (Addr.add _ _).block ≠ _; rw [add_block]; exact Kd.own_blk (Kd.R_ne a2.out a1.out (by decide))) | (dsimp only; exact Kd.own_blk (Kd.R_ne a2.out a1.out (by decide)))) _).trans (hHeld.2.2))))))⟩ (fun hHeld => ?_)
 clear hK K
 refine done_ (done_of HT_.out kr) ?_
 try go_wp2
 (try rw [dSet])
 have n0_ : Aside0 (Kd.R Kd.string 9 (((c9.setCell ⟨a4, 0, none⟩ (.int .i64 b4)).setCell ⟨a4, 1, none⟩ (.int .i64 b3)).setCell ⟨a4, 2, none⟩ (.int .i64 b2)) w.heap.size (fun k_ => some k_ ≠ (.slice (some b1) a7.length d9 : Value).ownBlock) (.slice (some b5) a9.length d8) a9) := ⟨by (with_reducible repeat (first | apply Kd.R_alloc | apply Kd.R_drewN | apply Kd.R_drew)); exact Kd.R_mono (Kd.R_far (p := ⟨a4, 2, none⟩) (Kd.R_far (p := ⟨a4, 1, none⟩) (Kd.R_far (p := ⟨a4, 0, none⟩) (Kd.R_types a6.out a1.out (by decide)) (fun _ hk => hk.2) (.int .i64 b4)) (fun _ hk => hk.2) (.int .i64 b3)) (fun _ hk => hk.2) (.int .i64 b2)) (fun _ hk => hk.1)⟩
 have n1_ : Aside0 (Kd.R Kd.string 9 (((c9.setCell ⟨a4, 0, none⟩ (.int .i64 b4)).setCell ⟨a4, 1, none⟩ (.int .i64 b3)).setCell ⟨a4, 2, none⟩ (.int .i64 b2)) w.heap.size (fun k_ => some k_ ≠ (.slice (some b5) a9.length d8 : Value).ownBlock) (.slice (some b1) a7.length d9) a7) := ⟨by (with_reducible repeat (first | apply Kd.R_alloc | apply Kd.R_drewN | apply Kd.R_drew)); exact Kd.R_mono (Kd.R_far (p := ⟨a4, 2, none⟩) (Kd.R_far (p := ⟨a4, 1, none⟩) (Kd.R_far (p := ⟨a4, 0, none⟩) (Kd.R_types a2.out a1.out (by decide)) (fun _ hk => hk.2) (.int .i64 b4)) (fun _ hk => hk.2) (.int .i64 b3)) (fun _ hk => hk.2) (.int .i64 b2)) (fun _ hk => hk.1)⟩
 generalize hW_ : (((c9.setCell ⟨a4, 0, none⟩ (.int .i64 b4)).setCell ⟨a4, 1, none⟩ (.int .i64 b3)).setCell ⟨a4, 2, none⟩ (.int .i64 b2)) = o4 at n0_ n1_ ⊢
 have nB_ := bG HB hW_
 replace a3 := bF hW_ a3
 replace a1 := bFp hW_ (.cells #[.int .i64 b4, .int .i64 b3, .int .i64 b2] 25 (0, 0)) a1
 try clear a6
 have a6 := n0_
 clear n0_
 try clear a2
 have a2 := n1_
 clear n1_ HB
 have HB := nB_
 clear nB_ hW_
 replace a6 := Aside0.mk (Kd.R_drew a6.out)
 replace a2 := Aside0.mk (Kd.R_drew a2.out)
 replace a3 := bD1 a3
 replace a1 := bD1 a1
 replace HB := Aside0.mk (below_drew1 HB.out)
 refine st_ 11 spec_clParse.pl1 (S := fun w' => w'.cell? ⟨a4, 0, none⟩ = some (.int .i64 b4) ∧ w'.cell? ⟨a4, 1, none⟩ = some (.int .i64 b3) ∧ w'.cell? ⟨a4, 2, none⟩ = some (.int .i64 b2)) (ds := []) spec_clParse.tab8 spec_clParse.bits8 cS (fun hHeld HT_ HW_ => ?_)
 generalize o4.drew = v2 at a6 a2 a3 a1 HB hHeld ⊢
 iterate 2 refine pT HT_ HW_ hHeld ?_
 refine pO HT_ fun K hK => ?_
 refine goes_ Tryz.func34 kr rfl #[.agg #[.int .i64 b4, .int .i64 b3, .int .i64 b2]] (by rfl) rfl rfl sM ?_
 with_reducible refine (spec_clGood.calls b4 b3 b2 false _ j1.out).mono ?_
 rintro e i4 ⟨rfl, hb⟩
 refine ⟨_, rfl, ?_⟩
 replace a6 := Aside0.mk (Kd.R_below (oR a6) hb)
 replace a2 := Aside0.mk (Kd.R_below (oR a2) hb)
 replace a3 := bQ a3 hb
 replace a1 := bQ a1 hb
 replace HB := Aside0.mk (below_step bB hb)
 try clear hb
 refine hK.out _ _ cS (fun hHeld => ?_)
 clear hK K
 refine nP ?_
 iterate 6 (first | refine pA HT_ ?_ | refine pB HT_ ?_)
 refine pO HT_ fun K hK => ?_
 have s8 : i4.cell? ⟨b0, 0, none⟩ = some (.int .i64 0) := (blk_cell a3.out 0).trans rfl
 have q4 := blk_frozen a3.out 0
 have m0 := a5.out
 have m1 := a8.out
 have s9 : i4.cell? ⟨b0, 1, none⟩ = some (.int .i64 0) := (blk_cell a3.out 1).trans rfl
 have q5 := blk_frozen a3.out 1
 have m2 := a5.out
 have m3 := a8.out
 have u0 : i4.cell? ⟨b0, 2, none⟩ = some (.int .i64 0) := (blk_cell a3.out 2).trans rfl
 have q6 := blk_frozen a3.out 2
 have m4 := a5.out
 have m5 := a8.out
 refine skip_ (w1 := ?_) (by rfl) rfl ?_ ?_
 rotate_left
 ·(
 go_simp
 rfl
 )
 refine hK.out _ _ ⟨((cell_far (p := ⟨b0, _, none⟩) a5.out _).trans (((cell_far (p := ⟨b0, _, none⟩) a5.out _).trans (((cell_far (p := ⟨b0, _, none⟩) a5.out _).trans (hHeld.1)))))), ((cell_far (p := ⟨b0, _, none⟩) a5.out _).trans (((cell_far (p := ⟨b0, _, none⟩) a5.out _).trans (((cell_far (p := ⟨b0, _, none⟩) a5.out _).trans (hHeld.2.1)))))), ((cell_far (p := ⟨b0, _, none⟩) a5.out _).trans (((cell_far (p := ⟨b0, _, none⟩) a5.out _).trans (((cell_far (p := ⟨b0, _, none⟩) a5.out _).trans (hHeld.2.2))))))⟩ (fun hHeld => ?_)
 clear hK K
 refine pA HT_ ?_
 refine pD HT_ ?_
 try go_wp2
 (try rw [dSet])
 refine bodyPost_ret (results_ct rfl _ _ b0 25 #[.int .i64 b4, .int .i64 b3, .int .i64 b2] (0, 0) _ rfl (bK a3) Tryz.underlying25 rfl kr) rfl ?_
 exact ⟨sE, bI⟩
 )
 )
 ·(
 rw [if_neg h5] at H
 exact absurd H (by simp)
 )
 )
 ·(
 rw [if_neg h4] at H
 exact absurd H (by simp)
 )
 )
 ·(
 rw [if_neg h2] at H
 exact absurd H (by simp)
 )
 )
 ·(
 rw [if_neg e8] at H
 obtain ⟨i5, i6⟩ := nE e8
 simp only [Option.some.injEq, Prod.mk.injEq] at H
 obtain ⟨rfl, rfl, rfl, rfl⟩ := H
 obtain ⟨u1, u2, k0⟩ := Kd.R_slice a6.out
 subst k0
 have c3 : 0 ≤ (1 : Int) := (by omega)
 have c4 : 1 < (a9.length : Int) := of_decide_eq_true asm
 obtain ⟨b5, e3, c2⟩ := Kd.at_string (Kd.R_reads' a6.out).2.2 1 c3 c4
 cases e3
 (try simp only [show (1 : Int).toNat = 1 from rfl, Nat.reduceMul, Nat.reduceEqDiff, Go.Addr.add, ↓reduceIte] at c2)
 have h7 : (1 < a9.length) = True := eq_true (by omega)
 (try rw [show ((1 : Int)).toNat = 1 from rfl] at c2)
 replace c3 := eq_true c3
 replace c4 := eq_true c4
 go_wp2_with (first | ((with_reducible refine gate_callee (f := 65) rfl ?_); refine goesL_ (some 21) rfl rfl Tryz.func65 kr rfl #[.string (rdOf ByteArray.empty a9 1), .int .u8 47] rfl sM ?_; (with_reducible refine (spec_l1Split.calls c1 (rdOf ByteArray.empty a9 1) 47 a7 _ h9.out).mono ?_); rintro e v3 ⟨i0, rfl, c5, hb⟩; refine ⟨_, rfl, ?_⟩; have a2 := Aside0.mk (Kd.R_lower (Kd.R_new' c5 (Kd.R_lt (oR a6))) (below_size bB)); replace a6 := Aside0.mk (Kd.R_elder' (oR a6) (Kd.R_base c5) hb); replace a3 := bQ a3 hb; replace HB := Aside0.mk (below_step bB hb); (try clear hb); (try clear c5); obtain ⟨u3, u4, k1⟩ := Kd.R_slice a2.out; subst k1; obtain ⟨m6, m7, m8, m9, n0, n1⟩ := cf3 a3))
 refine bodyPost_ret (results_ct rfl _ _ b0 25 #[.int .i64 0, .int .i64 0, .int .i64 0] (0, 0) _ rfl (bK a3) Tryz.underlying25 rfl kr) rfl ?_
 exact ⟨sE, bI⟩
 )
 )
 ·(
 rw [if_neg h1] at H
 exact absurd H (by simp)
 )
 )
 )
 )

end Go.Proofs.YtcfknhmdhglmfaaGreatDoor.PFnLaddersWhole
