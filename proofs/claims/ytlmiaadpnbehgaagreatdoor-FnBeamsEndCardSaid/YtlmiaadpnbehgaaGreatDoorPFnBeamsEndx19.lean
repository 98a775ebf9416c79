-- Written by xprint.py, a program of this session, for this seat; Lean checks it.
import Derived.Test.YtlmiaadpnbehgaaGreatDoorVM
import Derived.Test.YtlmiaadpnbehgaaGreatDoorPFnBeamsEndx0
import Derived.Test.YtlmiaadpnbehgaaGreatDoorPFnBeamsEndx3
import Derived.Test.YtlmiaadpnbehgaaGreatDoorPFnBeamsEndx9
import Derived.Test.YtlmiaadpnbehgaaGreatDoorPFnBeamsEndx17
import Derived.Test.YtlmiaadpnbehgaaGreatDoorPFnBeamsEndx18
namespace Go.Proofs.YtlmiaadpnbehgaaGreatDoor.PFnBeamsEnd
open Go.Proofs.YtlmiaadpnbehgaaGreatDoorV Go.RowKit Go.Proofs.YtlmiaadpnbehgaaGreatDoorW.PrintWords Go.Proofs.YtlmiaadpnbehgaaGreatDoorW.PrintLast Go.Proofs.YtlmiaadpnbehgaaGreatDoorW.PrintMore
attribute [local go_sem] max2_int min2_int max_two min_two max_three min_three max_four min_four   -- for this text's walks alone
set_option linter.unusedVariables false
set_option linter.unusedSimpArgs false

/-! ### spec_beParse: function 60 -/
def spec_beParse.j0 : Nat → ByteArray → List ByteArray → Bool → Option (Int × Int × Bool)
  | 0, _, _, _ => none
  | k + 1, x0, x4, x15 => if x15 = true then (some (0, 0, false)) else (if 0 < (x4.length : Int) then ((spec_l1Read.f k (rdOf ByteArray.empty x4 0)).bind fun t468 => (if 1 < (x4.length : Int) then ((spec_l1Read.f k (rdOf ByteArray.empty x4 1)).bind fun t470 => ((spec_beTable.f t468 t470).bind fun t472 => (if t472 = true then ((spec_beText.f k t468 t470).bind fun t473 => (some (t468, t470, (t473.toList == x0.toList)))) else (some (t468, t470, false))))) else (none))) else (none))
def spec_beParse.f (k : Nat) (a0 : ByteArray) : Option (Int × Int × Bool) := (spec_l1Split.f k a0 120).bind fun t464 => (if (a0.size : Int) > 5 then (spec_beParse.j0 k a0 t464 true) else (spec_beParse.j0 k a0 t464 ((t464.length : Int) != 2)))
theorem spec_beParse.mono_l : ∀ k, (∀ y0 y1 y2, LeO (spec_beParse.j0 k y0 y1 y2) (spec_beParse.j0 (k + 1) y0 y1 y2))
  | 0 => fun _ _ _ r h => by simp [spec_beParse.j0] at h
  | k + 1 => by
    have ih0 := spec_beParse.mono_l k
    · intro y0 y1 y2
      unfold spec_beParse.j0
      repeat' first
      | (with_reducible exact ih0 _ _ _)
      | (with_reducible exact spec_beText.mono _ _ _)
      | (with_reducible exact spec_l1Read.mono _ _)
      | (with_reducible exact spec_l1Split.mono _ _ _)
      | (with_reducible exact LeO.refl _)
      | (with_reducible exact LeO.none _)
      | (with_reducible refine LeO.ite ?_ ?_)
      | (with_reducible refine LeO.bind ?_ (fun _ => ?_))
      | exact ih0 _ _ _
      | exact spec_beText.mono _ _ _
      | exact spec_l1Read.mono _ _
      | exact spec_l1Split.mono _ _ _
      | exact LeO.none _
      | refine LeO.ite ?_ ?_
      | refine LeO.bind ?_ (fun _ => ?_)
theorem spec_beParse.mono : ∀ a0 k, LeO (spec_beParse.f k a0) (spec_beParse.f (k + 1) a0) := by
  intro a0 k
  have ih0 := spec_beParse.mono_l k
  unfold spec_beParse.f
  repeat' first
      | (with_reducible exact ih0 _ _ _)
      | (with_reducible exact spec_beText.mono _ _ _)
      | (with_reducible exact spec_l1Read.mono _ _)
      | (with_reducible exact spec_l1Split.mono _ _ _)
      | (with_reducible exact LeO.refl _)
      | (with_reducible exact LeO.none _)
      | (with_reducible refine LeO.ite ?_ ?_)
      | (with_reducible refine LeO.bind ?_ (fun _ => ?_))
      | exact ih0 _ _ _
      | exact spec_beText.mono _ _ _
      | exact spec_l1Read.mono _ _
      | exact spec_l1Split.mono _ _ _
      | exact LeO.none _
      | refine LeO.ite ?_ ?_
      | refine LeO.bind ?_ (fun _ => ?_)
def spec_beParse.T4 : Bool × List (List Nat × List Nat) := (true, [([], []), ([0], [0]), ([1], [1]), ([2], [2]), ([], []), ([4], [4]), ([5], [5]), ([6, 3], [6]), ([3, 7], [3, 7]), ([], []), ([9, 8, 7, 0, 1, 2, 3, 4, 5, 6, 7, 8, 9], [8, 9])])
def spec_beParse.B4 : List Nat := [0, 1, 3, 7, 0, 16, 48, 127, 255, 0, 1023]
theorem spec_beParse.tab4 : rtab .any (opsOf Tryz.f60 4) = spec_beParse.T4 := by kernel_rfl
theorem spec_beParse.bits4 : waitsOk spec_beParse.T4.2 spec_beParse.B4 = true := by kernel_rfl
def spec_beParse.T5 : Bool × List (List Nat × List Nat) := (true, [([], []), ([], []), ([1], [1]), ([2, 2], [2]), ([3], [3]), ([4, 3, 3], [3, 4]), ([3], [3]), ([5, 6, 3], [3, 5, 6]), ([3, 7], [3, 7]), ([0, 5, 0], [0]), ([8, 9, 0, 1, 2, 3, 4, 5, 6, 7, 8, 9], [8])])
def spec_beParse.B5 : List Nat := [0, 0, 2, 6, 14, 30, 14, 126, 254, 63, 1023]
theorem spec_beParse.tab5 : rtab .any (opsOf Tryz.f60 5) = spec_beParse.T5 := by kernel_rfl
theorem spec_beParse.bits5 : waitsOk spec_beParse.T5.2 spec_beParse.B5 = true := by kernel_rfl
abbrev spec_beParse.pl0 : List (Nat × Option Tmp × Nat) := [qt 0 26, qt 1 27, qo 2 28, q 3 29, q 6 32, qt 4 30, qo 5 31, q 7 33, q 8 34, qn 9 3, q 10 3]
abbrev spec_beParse.pl1 : List (Nat × Option Tmp × Nat) := [qt 0 26, qt 1 27, qo 2 28, q 3 29, qt 4 30, q 5 31, q 6 32, q 7 33, q 8 34, qn 9 3, q 10 3]
set_option maxHeartbeats 8000000 in
set_option maxRecDepth 100000 in
theorem spec_beParse.calls (k : Nat) (a0 : ByteArray) (r1 : Int) (r2 : Int) (r3 : Bool) (w : World) (h : spec_beParse.f k a0 = some (r1, r2, r3)) :
    Calls Tryz.prog 60 #[.string a0] w fun e w' => e = .returned (.tuple #[.agg #[.int .i64 r1, .int .i64 r2], .bool r3]) ∧ Below w.heap.size w w' := by
 have l1 := Tryz.underlying25
 have HB := Aside0.mk (Below.refl w.heap.size w)
 have H := h
 unfold spec_beParse.f at H
 clear h
 obtain ⟨a6, A2, H⟩ := bD H
 try dsimp only at H
 have e6 := Aside0.mk H
 clear H
 go_enter Tryz.func60, Tryz.ntmps60
 go_upto_region 2 with (first | ((with_reducible refine gate_dst (N := 2) rfl ?_); (try (refine gate_guard (by rfl) ?_; dsimp only)); refine box_ (cs := #[.int .i64 0, .int .i64 0]) (t := 25) fun a8 hg w4 hbox hb => ?_; have a1 := Aside0.mk (hbox); have j7 := bS HB hg; have j8 := bS HB hg; replace HB := Aside0.mk (below_step bB hb); clear hb hbox hg) | ((with_reducible refine gate_callee (f := 77) rfl ?_); refine goesL_ (some 7) rfl rfl Tryz.func77 kr rfl #[.string a0, .int .u8 120] rfl sM ?_; (with_reducible refine (spec_l1Split.calls k a0 120 a6 _ A2.out).mono ?_); rintro e w5 ⟨g7, rfl, g1, hb⟩; refine ⟨_, rfl, ?_⟩; have c7 := Aside0.mk (Kd.R_lower g1 (below_size bB)); replace a1 := bQ a1 hb; replace HB := Aside0.mk (below_step bB hb); (try clear hb); (try clear g1)))
 (try simp only [Act.put, List.setIfInBounds_toArray, List.set_cons_zero, List.set_cons_succ])
 go_cut [15] (fun i7 wc => ∃ (kq : Nat) (c3 : Bool), i7 = .bool c3 ∧ Aside0 (spec_beParse.j0 kq a0 a6 c3 = some (r1, r2, r3)) ∧ Aside0 (kq ≤ k) ∧ Aside0 (Kd.R Kd.string 9 wc w.heap.size (fun _ => True) g7 a6) ∧ Aside0 (wc.heap[a8]? = some (.cells #[.int .i64 0, .int .i64 0] 25 (0, 0))) ∧ Aside0 (Below w.heap.size w wc))
 case first => (
 have H := e6.out
 clear e6
 by_cases c6 : (a0.size : Int) > 5
 ·(
 rw [if_pos c6] at H
 have c4 : decide (5 < (a0.size : Int)) = true := decide_eq_true c6
 have g8 : decide (5 < a0.size) = true := decide_eq_true (by omega)
 clear c6
 (first | rw [c4] | (simp only [i64_w, i32_w]; rw [c4]) | skip)
 have H' := Aside0.mk H
 clear H
 go_wp2
 go_meet
 case rel => exact ⟨_, (true), sR, H', ⟨by first | omega | exact Nat.le_refl _⟩, ⟨oR c7⟩, (bA a1), ⟨bB⟩⟩
 )
 ·(
 rw [if_neg c6] at H
 have c4 : decide (5 < (a0.size : Int)) = false := decide_eq_false c6
 have g8 : decide (5 < a0.size) = false := decide_eq_false (by omega)
 clear c6
 (first | rw [c4] | (simp only [i64_w, i32_w]; rw [c4]) | skip)
 have H' := Aside0.mk H
 clear H
 obtain ⟨m2, m3, i9⟩ := Kd.R_slice c7.out
 subst i9
 go_wp2
 go_meet
 case rel => exact ⟨_, (((a6.length : Int) != 2)), sR, H', ⟨by first | omega | exact Nat.le_refl _⟩, ⟨oR c7⟩, (bA a1), ⟨bB⟩⟩
 )
 )
 case rest => (
 clear e6
 obtain ⟨kq, c3, rfl, HA, HJ2, a3, a1, HB⟩ := hcut
 cases kq with
 | zero => exact absurd HA.out (by simp [spec_beParse.j0])
 | succ b6 => (
 have H := HA.out
 clear HA
 simp only [spec_beParse.j0] at H
 by_cases c8 : c3 = true
 ·(
 subst c8
 rw [if_pos rfl] at H
 simp only [Option.some.injEq, Prod.mk.injEq] at H
 obtain ⟨rfl, rfl, rfl⟩ := H
 obtain ⟨j0, j1, j2, j3⟩ := cf2 a1
 go_wp2
 refine bodyPost_ret (results_ct rfl _ _ a8 25 #[.int .i64 0, .int .i64 0] (0, 0) _ rfl (bK a1) Tryz.underlying25 rfl kr) rfl ?_
 exact ⟨sE, bI⟩
 )
 ·(
 replace c8 := Bool.eq_false_iff.mpr c8
 subst c8
 rw [if_neg nft] at H
 by_cases e2 : 0 < (a6.length : Int)
 ·(
 rw [if_pos e2] at H
 have j9 : decide (0 < (a6.length : Int)) = true := decide_eq_true e2
 have k0 : decide (0 < a6.length) = true := decide_eq_true (by omega)
 clear e2
 obtain ⟨b1, e3, H⟩ := bD H
 try dsimp only at H
 by_cases e4 : 1 < (a6.length : Int)
 ·(
 rw [if_pos e4] at H
 have k1 : decide (1 < (a6.length : Int)) = true := decide_eq_true e4
 have k2 : decide (1 < a6.length) = true := decide_eq_true (by omega)
 clear e4
 obtain ⟨b0, c5, H⟩ := bD H
 try dsimp only at H
 obtain ⟨g9, g2, H⟩ := bD H
 try dsimp only at H
 by_cases e5 : g9 = true
 ·(
 subst e5
 rw [if_pos rfl] at H
 obtain ⟨h0, j4, H⟩ := bD H
 try dsimp only at H
 simp only [Option.some.injEq, Prod.mk.injEq] at H
 obtain ⟨rfl, rfl, rfl⟩ := H
 try go_wp2
 replace a3 := Aside0.mk (Kd.R_drew a3.out)
 replace a1 := bD1 a1
 replace HB := Aside0.mk (below_drew1 HB.out)
 obtain ⟨l2, d8, e7⟩ := Kd.R_slice a3.out
 (first | subst e7 | (injection e7 with f1_ f2_ f3_; have f4_ := f1_.symm; have f5_ := f3_.symm; clear f1_ f2_ f3_; subst f4_; subst f5_))
 have b9 : 0 ≤ (0 : Int) := (by omega)
 have c0 : 0 < (a6.length : Int) := of_decide_eq_true asm
 obtain ⟨a9, d9, b2⟩ := Kd.at_string (Kd.R_reads' a3.out).2.2 0 b9 c0
 cases d9
 have e9 : (0 < a6.length) = True := eq_true (by omega)
 (try rw [show ((0 : Int)).toNat = 0 from rfl] at b2)
 (try rw [Addr.add_zero'] at b2)
 replace b9 := eq_true b9
 replace c0 := eq_true c0
 have c1 : 0 ≤ (1 : Int) := (by omega)
 have c2 : 1 < (a6.length : Int) := of_decide_eq_true asm
 obtain ⟨c9, e0, b3⟩ := Kd.at_string (Kd.R_reads' a3.out).2.2 1 c1 c2
 obtain rfl : a9 = c9 := (by injection e0)
 (try simp only [show (1 : Int).toNat = 1 from rfl, Nat.reduceMul, Nat.reduceEqDiff, Go.Addr.add, ↓reduceIte] at b3)
 have g0 : (1 < a6.length) = True := eq_true (by omega)
 (try rw [show ((1 : Int)).toNat = 1 from rfl] at b3)
 replace c1 := eq_true c1
 replace c2 := eq_true c2
 refine start_ (n := 11) (S := fun w' => w'.cell? a9 = some (.string (rdOf ByteArray.empty a6 0)) ∧ w'.cell? ⟨a9.block, a9.off + 1, none⟩ = some (.string (rdOf ByteArray.empty a6 1))) (ds := []) #[false, false, false, false, false, false, false, false, false, false, false] kr rfl rfl ⟨b2, b3⟩ (fun hHeld => ?_); refine with_tabW spec_beParse.tab4 spec_beParse.bits4 (fun HT_ HW_ => ?_)
 generalize wc.drew = m4 at a3 a1 HB b2 b3 hHeld ⊢
 refine pure_ (i := 0) (N := some 17) (v := ?_) (a' := ?_) #[true, false, false, false, false, false, false, false, false, false, false] rfl rfl (any_of HT_.out kr) (fun _ _ _ h => h) (Or.inl ⟨by rfl, ?_⟩) ?_ ?_
 rotate_left
 ·(
 intro w'
 go_simp
 with_reducible rfl
 )
 rotate_left
 ·(
 simp only [Act.put, List.setIfInBounds_toArray, List.set_cons_zero, List.set_cons_succ, i64_w, i32_w]
 rfl
 )
 refine pure_ (i := 1) (N := some 18) (v := ?_) (a' := ?_) #[true, true, false, false, false, false, false, false, false, false, false] rfl rfl (any_of HT_.out kr) (fun _ _ _ h => h) (Or.inl ⟨by rfl, ?_⟩) ?_ ?_
 rotate_left
 ·(
 intro w'
 go_simp
 with_reducible rfl
 )
 rotate_left
 ·(
 simp only [Act.put, List.setIfInBounds_toArray, List.set_cons_zero, List.set_cons_succ, i64_w, i32_w]
 rfl
 )
 refine pure_ (i := 4) (N := some 21) (v := ?_) (a' := ?_) #[true, true, false, false, true, false, false, false, false, false, false] rfl rfl (any_of HT_.out kr) (fun _ _ _ h => h) (Or.inl ⟨by rfl, ?_⟩) ?_ ?_
 rotate_left
 ·(
 intro w'
 go_simp
 with_reducible rfl
 )
 rotate_left
 ·(
 simp only [Act.put, List.setIfInBounds_toArray, List.set_cons_zero, List.set_cons_succ, i64_w, i32_w]
 rfl
 )
 refine pure_ (i := 5) (N := some 22) (v := ?_) (a' := ?_) #[true, true, false, false, true, true, false, false, false, false, false] rfl rfl (any_of HT_.out kr) (fun _ _ _ h => h) (Or.inl ⟨by rfl, ?_⟩) ?_ ?_
 rotate_left
 ·(
 intro w'
 go_simp
 with_reducible rfl
 )
 rotate_left
 ·(
 simp only [Act.put, List.setIfInBounds_toArray, List.set_cons_zero, List.set_cons_succ, i64_w, i32_w]
 rfl
 )
 refine take_ (i := 2) (N := some 19) (v := ?_) (a' := ?_) #[true, true, true, false, true, true, false, false, false, false, false] rfl rfl (take_ofW HT_.out HW_.out kr) (fun _ _ _ h => h) (Or.inl ⟨by rfl, ?_⟩) hHeld ?_ ?_
 rotate_left
 ·(
 rintro w' ⟨s0, s1⟩
 go_simp
 with_reducible rfl
 )
 rotate_left
 ·(
 simp only [Act.put, List.setIfInBounds_toArray, List.set_cons_zero, List.set_cons_succ, i64_w, i32_w]
 rfl
 )
 refine take_ (i := 6) (N := some 23) (v := ?_) (a' := ?_) #[true, true, true, false, true, true, true, false, false, false, false] rfl rfl (take_ofW HT_.out HW_.out kr) (fun _ _ _ h => h) (Or.inl ⟨by rfl, ?_⟩) hHeld ?_ ?_
 rotate_left
 ·(
 rintro w' ⟨s0, s1⟩
 go_simp
 with_reducible rfl
 )
 rotate_left
 ·(
 simp only [Act.put, List.setIfInBounds_toArray, List.set_cons_zero, List.set_cons_succ, i64_w, i32_w]
 rfl
 )
 refine join_ (σ := Nat) 1 #[true, true, true, true, true, true, true, true, true, true, false] (fun s_ => [(20, .int .i64 b1), (24, .int .i64 b0), (5, .pointer (some ⟨s_, 0, none⟩)), (25, .agg #[.int .i64 b1, .int .i64 b0])]) (fun s_ w' => (w'.cell? a9 = some (.string (rdOf ByteArray.empty a6 0)) ∧ w'.cell? ⟨a9.block, a9.off + 1, none⟩ = some (.string (rdOf ByteArray.empty a6 1))) ∧ (Kd.R Kd.string 9 w' w.heap.size (fun _ => True) (.slice (some a9) a6.length d8) a6) ∧ (w'.heap[a8]? = some (.cells #[.int .i64 0, .int .i64 0] 25 (0, 0))) ∧ (w'.heap[s_]? = some (.cells #[.int .i64 0, .int .i64 0] 25 (0, 0))) ∧ (w.heap.size ≤ s_) ∧ (w.heap.size ≤ s_) ∧ (a8 ≠ s_) ∧ (s_ ≠ a8) ∧ (Below w.heap.size w w')) ?_ ?_
 rotate_left
 ·(
 intro hCont
 refine two_ (i := 3) (j := 9) (Ni := some 20) (Nj := some 5) #[true, true, true, true, true, true, true, false, false, false, false] #[true, true, true, false, true, true, true, false, false, true, false] rfl rfl rfl rfl (two_of HT_.out kr) (by decide) (by decide) (fun K hK => ?_) (fun K hK => ?_)
 ·(
 skip
 refine goes_ Tryz.func78 kr rfl #[.string (rdOf ByteArray.empty a6 0)] (by rfl) rfl rfl sM ?_
 with_reducible refine (spec_l1Read.calls b6 (rdOf ByteArray.empty a6 0) b1 _ e3.out).mono ?_
 rintro e w' ⟨rfl, ⟨nd, rfl⟩⟩
 refine ⟨_, rfl, ?_⟩
 refine hK.out _ _ ⟨hHeld.1, hHeld.2⟩ (fun hHeld => ?_)
 clear hK K
 refine norm_ (a' := ?_) ?_ ?_
 rotate_left
 · show Act.put _ (some 20) _ = _
   simp only [Act.put, List.setIfInBounds_toArray, List.set_cons_zero, List.set_cons_succ, i64_w, i32_w]
   rfl
 refine two_ (i := 7) (j := 9) (Ni := some 24) (Nj := some 5) #[true, true, true, true, true, true, true, true, false, false, false] #[true, true, true, true, true, true, true, false, false, true, false] rfl rfl rfl rfl (two_of HT_.out kr) (by decide) (by decide) (fun K hK => ?_) (fun K hK => ?_)
 ·(
 skip
 refine goes_ Tryz.func78 kr rfl #[.string (rdOf ByteArray.empty a6 1)] (by rfl) rfl rfl sM ?_
 with_reducible refine (spec_l1Read.calls b6 (rdOf ByteArray.empty a6 1) b0 _ c5.out).mono ?_
 rintro e w' ⟨rfl, ⟨nd, rfl⟩⟩
 refine ⟨_, rfl, ?_⟩
 refine hK.out _ _ ⟨hHeld.1, hHeld.2⟩ (fun hHeld => ?_)
 clear hK K
 refine norm_ (a' := ?_) ?_ ?_
 rotate_left
 · show Act.put _ (some 24) _ = _
   simp only [Act.put, List.setIfInBounds_toArray, List.set_cons_zero, List.set_cons_succ, i64_w, i32_w]
   rfl
 refine pure_ (i := 8) (N := some 25) (v := ?_) (a' := ?_) #[true, true, true, true, true, true, true, true, true, false, false] rfl rfl (any_of HT_.out kr) (fun _ _ _ h => h) (Or.inl ⟨by rfl, ?_⟩) ?_ ?_
 rotate_left
 ·(
 intro w'
 go_simp
 with_reducible rfl
 )
 rotate_left
 ·(
 simp only [Act.put, List.setIfInBounds_toArray, List.set_cons_zero, List.set_cons_succ, i64_w, i32_w]
 rfl
 )
 refine one_ (i := 9) (N := some 5) #[true, true, true, true, true, true, true, true, true, true, false] rfl rfl (one_of HT_.out kr) (by decide) (fun K hK => ?_)
 refine box_step ?hg (N := 5) ?hd (cs := #[.int .i64 0, .int .i64 0]) (t := 25) ?hr ?_; (case hd => rfl); (case hg => rfl); (case hr => first | (go_simp; done) | (go_simp; rfl))
 intro a5 hg g3 hbox hb
 have HS0_ := (hb.cell (World.block_lt_of_cell? _ _ (hHeld.1))).trans (hHeld.1)
 have HS1_ := (hb.cell (World.block_lt_of_cell? _ _ (hHeld.2))).trans (hHeld.2)
 have a2 := Aside0.mk (hbox)
 have b4 := bS HB hg
 have b5 := bS HB hg
 have a7 := bL a1 hg
 have a4 := bM a1 hg
 replace a3 := Aside0.mk (Kd.R_below (oR a3) hb)
 replace a1 := bQ a1 hb
 replace HB := Aside0.mk (below_step bB hb)
 clear hb hbox hg
 refine hK.out _ _ ⟨HS0_, HS1_⟩ (fun hHeld => ?_)
 clear hK K
 refine norm_ (a' := ?_) ?_ ?_
 rotate_left
 · show Act.put _ (some 5) _ = _
   simp only [Act.put, List.setIfInBounds_toArray, List.set_cons_zero, List.set_cons_succ, i64_w, i32_w]
   rfl
 exact norm_ (by simp only [putAll, Act.put, List.setIfInBounds_toArray, List.set_cons_zero, List.set_cons_succ]) (hCont (a5) _ ⟨hHeld, (oR a3), (bK a1), (bK a2), b4.out, b5.out, a7.out, a4.out, bB⟩)
 )
 ·(
 skip
 refine box_step ?hg (N := 5) ?hd (cs := #[.int .i64 0, .int .i64 0]) (t := 25) ?hr ?_; (case hd => rfl); (case hg => rfl); (case hr => first | (go_simp; done) | (go_simp; rfl))
 intro a5 hg g3 hbox hb
 have HS0_ := (hb.cell (World.block_lt_of_cell? _ _ (hHeld.1))).trans (hHeld.1)
 have HS1_ := (hb.cell (World.block_lt_of_cell? _ _ (hHeld.2))).trans (hHeld.2)
 have a2 := Aside0.mk (hbox)
 have b4 := bS HB hg
 have b5 := bS HB hg
 have a7 := bL a1 hg
 have a4 := bM a1 hg
 replace a3 := Aside0.mk (Kd.R_below (oR a3) hb)
 replace a1 := bQ a1 hb
 replace HB := Aside0.mk (below_step bB hb)
 clear hb hbox hg
 refine hK.out _ _ ⟨HS0_, HS1_⟩ (fun hHeld => ?_)
 clear hK K
 refine norm_ (a' := ?_) ?_ ?_
 rotate_left
 · show Act.put _ (some 5) _ = _
   simp only [Act.put, List.setIfInBounds_toArray, List.set_cons_zero, List.set_cons_succ, i64_w, i32_w]
   rfl
 refine one_ (i := 7) (N := some 24) #[true, true, true, true, true, true, true, true, false, true, false] rfl rfl (one_of HT_.out kr) (by decide) (fun K hK => ?_)
 refine goes_ Tryz.func78 kr rfl #[.string (rdOf ByteArray.empty a6 1)] (by rfl) rfl rfl sM ?_
 with_reducible refine (spec_l1Read.calls b6 (rdOf ByteArray.empty a6 1) b0 _ c5.out).mono ?_
 rintro e w' ⟨rfl, ⟨nd, rfl⟩⟩
 refine ⟨_, rfl, ?_⟩
 refine hK.out _ _ ⟨hHeld.1, hHeld.2⟩ (fun hHeld => ?_)
 clear hK K
 refine norm_ (a' := ?_) ?_ ?_
 rotate_left
 · show Act.put _ (some 24) _ = _
   simp only [Act.put, List.setIfInBounds_toArray, List.set_cons_zero, List.set_cons_succ, i64_w, i32_w]
   rfl
 refine pure_ (i := 8) (N := some 25) (v := ?_) (a' := ?_) #[true, true, true, true, true, true, true, true, true, true, false] rfl rfl (any_of HT_.out kr) (fun _ _ _ h => h) (Or.inl ⟨by rfl, ?_⟩) ?_ ?_
 rotate_left
 ·(
 intro w'
 go_simp
 with_reducible rfl
 )
 rotate_left
 ·(
 simp only [Act.put, List.setIfInBounds_toArray, List.set_cons_zero, List.set_cons_succ, i64_w, i32_w]
 rfl
 )
 exact norm_ (by simp only [putAll, Act.put, List.setIfInBounds_toArray, List.set_cons_zero, List.set_cons_succ]) (hCont (a5) _ ⟨hHeld, (oR a3), (bK a1), (bK a2), b4.out, b5.out, a7.out, a4.out, bB⟩)
 )
 )
 ·(
 skip
 refine box_step ?hg (N := 5) ?hd (cs := #[.int .i64 0, .int .i64 0]) (t := 25) ?hr ?_; (case hd => rfl); (case hg => rfl); (case hr => first | (go_simp; done) | (go_simp; rfl))
 intro a5 hg g3 hbox hb
 have HS0_ := (hb.cell (World.block_lt_of_cell? _ _ (hHeld.1))).trans (hHeld.1)
 have HS1_ := (hb.cell (World.block_lt_of_cell? _ _ (hHeld.2))).trans (hHeld.2)
 have a2 := Aside0.mk (hbox)
 have b4 := bS HB hg
 have b5 := bS HB hg
 have a7 := bL a1 hg
 have a4 := bM a1 hg
 replace a3 := Aside0.mk (Kd.R_below (oR a3) hb)
 replace a1 := bQ a1 hb
 replace HB := Aside0.mk (below_step bB hb)
 clear hb hbox hg
 refine hK.out _ _ ⟨HS0_, HS1_⟩ (fun hHeld => ?_)
 clear hK K
 refine norm_ (a' := ?_) ?_ ?_
 rotate_left
 · show Act.put _ (some 5) _ = _
   simp only [Act.put, List.setIfInBounds_toArray, List.set_cons_zero, List.set_cons_succ, i64_w, i32_w]
   rfl
 refine one_ (i := 3) (N := some 20) #[true, true, true, true, true, true, true, false, false, true, false] rfl rfl (one_of HT_.out kr) (by decide) (fun K hK => ?_)
 refine goes_ Tryz.func78 kr rfl #[.string (rdOf ByteArray.empty a6 0)] (by rfl) rfl rfl sM ?_
 with_reducible refine (spec_l1Read.calls b6 (rdOf ByteArray.empty a6 0) b1 _ e3.out).mono ?_
 rintro e w' ⟨rfl, ⟨nd, rfl⟩⟩
 refine ⟨_, rfl, ?_⟩
 refine hK.out _ _ ⟨hHeld.1, hHeld.2⟩ (fun hHeld => ?_)
 clear hK K
 refine norm_ (a' := ?_) ?_ ?_
 rotate_left
 · show Act.put _ (some 20) _ = _
   simp only [Act.put, List.setIfInBounds_toArray, List.set_cons_zero, List.set_cons_succ, i64_w, i32_w]
   rfl
 refine one_ (i := 7) (N := some 24) #[true, true, true, true, true, true, true, true, false, true, false] rfl rfl (one_of HT_.out kr) (by decide) (fun K hK => ?_)
 refine goes_ Tryz.func78 kr rfl #[.string (rdOf ByteArray.empty a6 1)] (by rfl) rfl rfl sM ?_
 with_reducible refine (spec_l1Read.calls b6 (rdOf ByteArray.empty a6 1) b0 _ c5.out).mono ?_
 rintro e w' ⟨rfl, ⟨nd, rfl⟩⟩
 refine ⟨_, rfl, ?_⟩
 refine hK.out _ _ ⟨hHeld.1, hHeld.2⟩ (fun hHeld => ?_)
 clear hK K
 refine norm_ (a' := ?_) ?_ ?_
 rotate_left
 · show Act.put _ (some 24) _ = _
   simp only [Act.put, List.setIfInBounds_toArray, List.set_cons_zero, List.set_cons_succ, i64_w, i32_w]
   rfl
 refine pure_ (i := 8) (N := some 25) (v := ?_) (a' := ?_) #[true, true, true, true, true, true, true, true, true, true, false] rfl rfl (any_of HT_.out kr) (fun _ _ _ h => h) (Or.inl ⟨by rfl, ?_⟩) ?_ ?_
 rotate_left
 ·(
 intro w'
 go_simp
 with_reducible rfl
 )
 rotate_left
 ·(
 simp only [Act.put, List.setIfInBounds_toArray, List.set_cons_zero, List.set_cons_succ, i64_w, i32_w]
 rfl
 )
 exact norm_ (by simp only [putAll, Act.put, List.setIfInBounds_toArray, List.set_cons_zero, List.set_cons_succ]) (hCont (a5) _ ⟨hHeld, (oR a3), (bK a1), (bK a2), b4.out, b5.out, a7.out, a4.out, bB⟩)
 )
 )
 rintro a5 b7 ⟨hS_, d0, d1, d2, d3, d4, d5, d6, d7⟩
 have a2 : Aside0 (b7.heap[a5]? = some (.cells #[.int .i64 0, .int .i64 0] 25 (0, 0))) := ⟨d2⟩
 have b4 : Aside0 (w.heap.size ≤ a5) := ⟨d3⟩
 have b5 : Aside0 (w.heap.size ≤ a5) := ⟨d4⟩
 have a7 : Aside0 (a8 ≠ a5) := ⟨d5⟩
 have a4 : Aside0 (a5 ≠ a8) := ⟨d6⟩
 replace a3 : Aside0 (Kd.R Kd.string 9 b7 w.heap.size (fun _ => True) (.slice (some a9) a6.length d8) a6) := ⟨d0⟩
 replace a1 : Aside0 (b7.heap[a8]? = some (.cells #[.int .i64 0, .int .i64 0] 25 (0, 0))) := ⟨d1⟩
 replace HB : Aside0 (Below w.heap.size w b7) := ⟨d7⟩
 clear d0 d1 d2 d3 d4 d5 d6 d7
 have hHeld : b7.cell? a9 = some (.string (rdOf ByteArray.empty a6 0)) ∧ b7.cell? ⟨a9.block, a9.off + 1, none⟩ = some (.string (rdOf ByteArray.empty a6 1)) := hS_
 refine norm_ (a' := ?_) ?_ ?_
 rotate_left
 ·(
 simp only [putAll, Act.put, List.setIfInBounds_toArray, List.set_cons_zero, List.set_cons_succ]
 rfl
 )
 refine one_ (i := 10) (N := none) #[true, true, true, true, true, true, true, true, true, true, true] rfl rfl (one_of HT_.out kr) (by decide) (fun K hK => ?_)
 have l3 : b7.cell? ⟨a5, 0, none⟩ = some (.int .i64 0) := (blk_cell a2.out 0).trans rfl
 have k3 := blk_frozen a2.out 0
 have h1 := a7.out
 have h2 := a4.out
 have l4 : b7.cell? ⟨a5, 1, none⟩ = some (.int .i64 0) := (blk_cell a2.out 1).trans rfl
 have k4 := blk_frozen a2.out 1
 have h3 := a7.out
 have h4 := a4.out
 refine skip_ (w1 := ?_) (by rfl) rfl ?_ ?_
 rotate_left
 ·(
 go_simp
 rfl
 )
 refine hK.out _ _ ⟨((cell_far (p := ⟨a5, _, none⟩) (by first | exact Kd.own_blk (Kd.R_ne a3.out a2.out (by decide)) | (rw [add_block]; exact Kd.own_blk (Kd.R_ne a3.out a2.out (by decide))) | (show (Addr.add _ _).block ≠ _; rw [add_block]; exact Kd.own_blk (Kd.R_ne a3.out a2.out (by decide))) | (dsimp only; exact Kd.own_blk (Kd.R_ne a3.out a2.out (by decide)))) _).trans (((cell_far (p := ⟨a5, _, none⟩) (by first | exact Kd.own_blk (Kd.R_ne a3.out a2.out (by decide)) | (rw [add_block]; exact Kd.own_blk (Kd.R_ne a3.out a2.out (by decide))) | (show (Addr.add _ _).block ≠ _; rw [add_block]; exact Kd.own_blk (Kd.R_ne a3.out a2.out (by decide))) | (dsimp only; exact Kd.own_blk (Kd.R_ne a3.out a2.out (by decide)))) _).trans (hHeld.1)))), ((cell_far (p := ⟨a5, _, none⟩) (by first | exact Kd.own_blk (Kd.R_ne a3.out a2.out (by decide)) | (rw [add_block]; exact Kd.own_blk (Kd.R_ne a3.out a2.out (by decide))) | (show (Addr.add _ _).block ≠ _; rw [add_block]; exact Kd.own_blk (Kd.R_ne a3.out a2.out (by decide))) | (dsimp only; exact Kd.own_blk (Kd.R_ne a3.out a2.out (by decide)))) _).trans (((cell_far (p := ⟨a5, _, none⟩) (by first | exact Kd.own_blk (Kd.R_ne a3.out a2.out (by decide)) | (rw [add_block]; exact Kd.own_blk (Kd.R_ne a3.out a2.out (by decide))) | (show (Addr.add _ _).block ≠ _; rw [add_block]; exact Kd.own_blk (Kd.R_ne a3.out a2.out (by decide))) | (dsimp only; exact Kd.own_blk (Kd.R_ne a3.out a2.out (by decide)))) _).trans (hHeld.2))))⟩ (fun hHeld => ?_)
 clear hK K
 refine done_ (done_of HT_.out kr) ?_
 try go_wp2
 (try rw [dSet])
 have n0_ : Aside0 (Kd.R Kd.string 9 ((b7.setCell ⟨a5, 0, none⟩ (.int .i64 b1)).setCell ⟨a5, 1, none⟩ (.int .i64 b0)) w.heap.size (fun _ => True) (.slice (some a9) a6.length d8) a6) := ⟨by (with_reducible repeat (first | apply Kd.R_alloc | apply Kd.R_drewN | apply Kd.R_drew)); exact Kd.R_mono (Kd.R_far (p := ⟨a5, 1, none⟩) (Kd.R_far (p := ⟨a5, 0, none⟩) (Kd.R_types a3.out a2.out (by decide)) (fun _ hk => hk.2) (.int .i64 b1)) (fun _ hk => hk.2) (.int .i64 b0)) (fun _ hk => trivial)⟩
 generalize hW_ : ((b7.setCell ⟨a5, 0, none⟩ (.int .i64 b1)).setCell ⟨a5, 1, none⟩ (.int .i64 b0)) = j5 at n0_ ⊢
 have nB_ := bG HB hW_
 replace a1 := bF hW_ a1
 replace a2 := bFp hW_ (.cells #[.int .i64 b1, .int .i64 b0] 25 (0, 0)) a2
 try clear a3
 have a3 := n0_
 clear n0_ HB
 have HB := nB_
 clear nB_ hW_
 replace a3 := Aside0.mk (Kd.R_drew a3.out)
 replace a1 := bD1 a1
 replace a2 := bD1 a2
 replace HB := Aside0.mk (below_drew1 HB.out)
 refine st_ 11 spec_beParse.pl0 (S := fun w' => w'.cell? ⟨a5, 0, none⟩ = some (.int .i64 b1) ∧ w'.cell? ⟨a5, 1, none⟩ = some (.int .i64 b0)) (ds := []) spec_beParse.tab5 spec_beParse.bits5 cS (fun hHeld HT_ HW_ => ?_)
 generalize j5.drew = m5 at a3 a1 a2 HB hHeld ⊢
 iterate 2 refine pT HT_ HW_ hHeld ?_
 refine pO HT_ fun K hK => ?_
 refine goes_ Tryz.func46 kr rfl #[.agg #[.int .i64 b1, .int .i64 b0]] (by rfl) rfl rfl sM ?_
 with_reducible refine (spec_beTable.calls b1 b0 true _ g2.out).mono ?_
 rintro e m6 ⟨rfl, hb⟩
 refine ⟨_, rfl, ?_⟩
 replace a3 := Aside0.mk (Kd.R_below (oR a3) hb)
 replace a1 := bQ a1 hb
 replace a2 := bQ a2 hb
 replace HB := Aside0.mk (below_step bB hb)
 try clear hb
 refine hK.out _ _ cS (fun hHeld => ?_)
 clear hK K
 refine nP ?_
 iterate 3 (first | refine pA HT_ ?_ | refine pT HT_ HW_ hHeld ?_)
 refine pO HT_ fun K hK => ?_
 refine goes_ Tryz.func49 kr rfl #[.agg #[.int .i64 b1, .int .i64 b0]] (by rfl) rfl rfl sM ?_
 with_reducible refine (spec_beText.calls b6 b1 b0 h0 _ j4.out).mono ?_
 rintro e g4 ⟨rfl, hb⟩
 refine ⟨_, rfl, ?_⟩
 replace a3 := Aside0.mk (Kd.R_below (oR a3) hb)
 replace a1 := bQ a1 hb
 replace a2 := bQ a2 hb
 replace HB := Aside0.mk (below_step bB hb)
 try clear hb
 refine hK.out _ _ cS (fun hHeld => ?_)
 clear hK K
 refine nP ?_
 iterate 2 refine pA HT_ ?_
 refine pO HT_ fun K hK => ?_
 have l5 : g4.cell? ⟨a8, 0, none⟩ = some (.int .i64 0) := (blk_cell a1.out 0).trans rfl
 have k5 := blk_frozen a1.out 0
 have h5 := a4.out
 have h6 := a7.out
 have l6 : g4.cell? ⟨a8, 1, none⟩ = some (.int .i64 0) := (blk_cell a1.out 1).trans rfl
 have k6 := blk_frozen a1.out 1
 have h7 := a4.out
 have h8 := a7.out
 refine skip_ (w1 := ?_) (by rfl) rfl ?_ ?_
 rotate_left
 ·(
 go_simp
 rfl
 )
 refine hK.out _ _ ⟨((cell_far (p := ⟨a8, _, none⟩) a4.out _).trans (((cell_far (p := ⟨a8, _, none⟩) a4.out _).trans (hHeld.1)))), ((cell_far (p := ⟨a8, _, none⟩) a4.out _).trans (((cell_far (p := ⟨a8, _, none⟩) a4.out _).trans (hHeld.2))))⟩ (fun hHeld => ?_)
 clear hK K
 refine pA HT_ ?_
 refine pD HT_ ?_
 try go_wp2
 (try rw [dSet])
 refine bodyPost_ret (results_ct rfl _ _ a8 25 #[.int .i64 b1, .int .i64 b0] (0, 0) _ rfl (bK a1) Tryz.underlying25 rfl kr) rfl ?_
 exact ⟨sE, bI⟩
 )
 ·(
 replace e5 := Bool.eq_false_iff.mpr e5
 subst e5
 rw [if_neg nft] at H
 simp only [Option.some.injEq, Prod.mk.injEq] at H
 obtain ⟨rfl, rfl, rfl⟩ := H
 try go_wp2
 replace a3 := Aside0.mk (Kd.R_drew a3.out)
 replace a1 := bD1 a1
 replace HB := Aside0.mk (below_drew1 HB.out)
 obtain ⟨l7, e1, e8⟩ := Kd.R_slice a3.out
 (first | subst e8 | (injection e8 with f1_ f2_ f3_; have f4_ := f1_.symm; have f5_ := f3_.symm; clear f1_ f2_ f3_; subst f4_; subst f5_))
 have b9 : 0 ≤ (0 : Int) := (by omega)
 have c0 : 0 < (a6.length : Int) := of_decide_eq_true asm
 obtain ⟨a9, d9, b2⟩ := Kd.at_string (Kd.R_reads' a3.out).2.2 0 b9 c0
 cases d9
 have e9 : (0 < a6.length) = True := eq_true (by omega)
 (try rw [show ((0 : Int)).toNat = 0 from rfl] at b2)
 (try rw [Addr.add_zero'] at b2)
 replace b9 := eq_true b9
 replace c0 := eq_true c0
 have c1 : 0 ≤ (1 : Int) := (by omega)
 have c2 : 1 < (a6.length : Int) := of_decide_eq_true asm
 obtain ⟨c9, e0, b3⟩ := Kd.at_string (Kd.R_reads' a3.out).2.2 1 c1 c2
 obtain rfl : a9 = c9 := (by injection e0)
 (try simp only [show (1 : Int).toNat = 1 from rfl, Nat.reduceMul, Nat.reduceEqDiff, Go.Addr.add, ↓reduceIte] at b3)
 have g0 : (1 < a6.length) = True := eq_true (by omega)
 (try rw [show ((1 : Int)).toNat = 1 from rfl] at b3)
 replace c1 := eq_true c1
 replace c2 := eq_true c2
 refine start_ (n := 11) (S := fun w' => w'.cell? a9 = some (.string (rdOf ByteArray.empty a6 0)) ∧ w'.cell? ⟨a9.block, a9.off + 1, none⟩ = some (.string (rdOf ByteArray.empty a6 1))) (ds := []) #[false, false, false, false, false, false, false, false, false, false, false] kr rfl rfl ⟨b2, b3⟩ (fun hHeld => ?_); refine with_tabW spec_beParse.tab4 spec_beParse.bits4 (fun HT_ HW_ => ?_)
 generalize wc.drew = m7 at a3 a1 HB b2 b3 hHeld ⊢
 refine pure_ (i := 0) (N := some 17) (v := ?_) (a' := ?_) #[true, false, false, false, false, false, false, false, false, false, false] rfl rfl (any_of HT_.out kr) (fun _ _ _ h => h) (Or.inl ⟨by rfl, ?_⟩) ?_ ?_
 rotate_left
 ·(
 intro w'
 go_simp
 with_reducible rfl
 )
 rotate_left
 ·(
 simp only [Act.put, List.setIfInBounds_toArray, List.set_cons_zero, List.set_cons_succ, i64_w, i32_w]
 rfl
 )
 refine pure_ (i := 1) (N := some 18) (v := ?_) (a' := ?_) #[true, true, false, false, false, false, false, false, false, false, false] rfl rfl (any_of HT_.out kr) (fun _ _ _ h => h) (Or.inl ⟨by rfl, ?_⟩) ?_ ?_
 rotate_left
 ·(
 intro w'
 go_simp
 with_reducible rfl
 )
 rotate_left
 ·(
 simp only [Act.put, List.setIfInBounds_toArray, List.set_cons_zero, List.set_cons_succ, i64_w, i32_w]
 rfl
 )
 refine pure_ (i := 4) (N := some 21) (v := ?_) (a' := ?_) #[true, true, false, false, true, false, false, false, false, false, false] rfl rfl (any_of HT_.out kr) (fun _ _ _ h => h) (Or.inl ⟨by rfl, ?_⟩) ?_ ?_
 rotate_left
 ·(
 intro w'
 go_simp
 with_reducible rfl
 )
 rotate_left
 ·(
 simp only [Act.put, List.setIfInBounds_toArray, List.set_cons_zero, List.set_cons_succ, i64_w, i32_w]
 rfl
 )
 refine pure_ (i := 5) (N := some 22) (v := ?_) (a' := ?_) #[true, true, false, false, true, true, false, false, false, false, false] rfl rfl (any_of HT_.out kr) (fun _ _ _ h => h) (Or.inl ⟨by rfl, ?_⟩) ?_ ?_
 rotate_left
 ·(
 intro w'
 go_simp
 with_reducible rfl
 )
 rotate_left
 ·(
 simp only [Act.put, List.setIfInBounds_toArray, List.set_cons_zero, List.set_cons_succ, i64_w, i32_w]
 rfl
 )
 refine take_ (i := 2) (N := some 19) (v := ?_) (a' := ?_) #[true, true, true, false, true, true, false, false, false, false, false] rfl rfl (take_ofW HT_.out HW_.out kr) (fun _ _ _ h => h) (Or.inl ⟨by rfl, ?_⟩) hHeld ?_ ?_
 rotate_left
 ·(
 rintro w' ⟨s0, s1⟩
 go_simp
 with_reducible rfl
 )
 rotate_left
 ·(
 simp only [Act.put, List.setIfInBounds_toArray, List.set_cons_zero, List.set_cons_succ, i64_w, i32_w]
 rfl
 )
 refine take_ (i := 6) (N := some 23) (v := ?_) (a' := ?_) #[true, true, true, false, true, true, true, false, false, false, false] rfl rfl (take_ofW HT_.out HW_.out kr) (fun _ _ _ h => h) (Or.inl ⟨by rfl, ?_⟩) hHeld ?_ ?_
 rotate_left
 ·(
 rintro w' ⟨s0, s1⟩
 go_simp
 with_reducible rfl
 )
 rotate_left
 ·(
 simp only [Act.put, List.setIfInBounds_toArray, List.set_cons_zero, List.set_cons_succ, i64_w, i32_w]
 rfl
 )
 refine join_ (σ := Nat) 1 #[true, true, true, true, true, true, true, true, true, true, false] (fun s_ => [(20, .int .i64 b1), (24, .int .i64 b0), (5, .pointer (some ⟨s_, 0, none⟩)), (25, .agg #[.int .i64 b1, .int .i64 b0])]) (fun s_ w' => (w'.cell? a9 = some (.string (rdOf ByteArray.empty a6 0)) ∧ w'.cell? ⟨a9.block, a9.off + 1, none⟩ = some (.string (rdOf ByteArray.empty a6 1))) ∧ (Kd.R Kd.string 9 w' w.heap.size (fun _ => True) (.slice (some a9) a6.length e1) a6) ∧ (w'.heap[a8]? = some (.cells #[.int .i64 0, .int .i64 0] 25 (0, 0))) ∧ (w'.heap[s_]? = some (.cells #[.int .i64 0, .int .i64 0] 25 (0, 0))) ∧ (w.heap.size ≤ s_) ∧ (w.heap.size ≤ s_) ∧ (a8 ≠ s_) ∧ (s_ ≠ a8) ∧ (Below w.heap.size w w')) ?_ ?_
 rotate_left
 ·(
 intro hCont
 refine two_ (i := 3) (j := 9) (Ni := some 20) (Nj := some 5) #[true, true, true, true, true, true, true, false, false, false, false] #[true, true, true, false, true, true, true, false, false, true, false] rfl rfl rfl rfl (two_of HT_.out kr) (by decide) (by decide) (fun K hK => ?_) (fun K hK => ?_)
 ·(
 skip
 refine goes_ Tryz.func78 kr rfl #[.string (rdOf ByteArray.empty a6 0)] (by rfl) rfl rfl sM ?_
 with_reducible refine (spec_l1Read.calls b6 (rdOf ByteArray.empty a6 0) b1 _ e3.out).mono ?_
 rintro e w' ⟨rfl, ⟨nd, rfl⟩⟩
 refine ⟨_, rfl, ?_⟩
 refine hK.out _ _ ⟨hHeld.1, hHeld.2⟩ (fun hHeld => ?_)
 clear hK K
 refine norm_ (a' := ?_) ?_ ?_
 rotate_left
 · show Act.put _ (some 20) _ = _
   simp only [Act.put, List.setIfInBounds_toArray, List.set_cons_zero, List.set_cons_succ, i64_w, i32_w]
   rfl
 refine two_ (i := 7) (j := 9) (Ni := some 24) (Nj := some 5) #[true, true, true, true, true, true, true, true, false, false, false] #[true, true, true, true, true, true, true, false, false, true, false] rfl rfl rfl rfl (two_of HT_.out kr) (by decide) (by decide) (fun K hK => ?_) (fun K hK => ?_)
 ·(
 skip
 refine goes_ Tryz.func78 kr rfl #[.string (rdOf ByteArray.empty a6 1)] (by rfl) rfl rfl sM ?_
 with_reducible refine (spec_l1Read.calls b6 (rdOf ByteArray.empty a6 1) b0 _ c5.out).mono ?_
 rintro e w' ⟨rfl, ⟨nd, rfl⟩⟩
 refine ⟨_, rfl, ?_⟩
 refine hK.out _ _ ⟨hHeld.1, hHeld.2⟩ (fun hHeld => ?_)
 clear hK K
 refine norm_ (a' := ?_) ?_ ?_
 rotate_left
 · show Act.put _ (some 24) _ = _
   simp only [Act.put, List.setIfInBounds_toArray, List.set_cons_zero, List.set_cons_succ, i64_w, i32_w]
   rfl
 refine pure_ (i := 8) (N := some 25) (v := ?_) (a' := ?_) #[true, true, true, true, true, true, true, true, true, false, false] rfl rfl (any_of HT_.out kr) (fun _ _ _ h => h) (Or.inl ⟨by rfl, ?_⟩) ?_ ?_
 rotate_left
 ·(
 intro w'
 go_simp
 with_reducible rfl
 )
 rotate_left
 ·(
 simp only [Act.put, List.setIfInBounds_toArray, List.set_cons_zero, List.set_cons_succ, i64_w, i32_w]
 rfl
 )
 refine one_ (i := 9) (N := some 5) #[true, true, true, true, true, true, true, true, true, true, false] rfl rfl (one_of HT_.out kr) (by decide) (fun K hK => ?_)
 refine box_step ?hg (N := 5) ?hd (cs := #[.int .i64 0, .int .i64 0]) (t := 25) ?hr ?_; (case hd => rfl); (case hg => rfl); (case hr => first | (go_simp; done) | (go_simp; rfl))
 intro a5 hg g5 hbox hb
 have HS0_ := (hb.cell (World.block_lt_of_cell? _ _ (hHeld.1))).trans (hHeld.1)
 have HS1_ := (hb.cell (World.block_lt_of_cell? _ _ (hHeld.2))).trans (hHeld.2)
 have a2 := Aside0.mk (hbox)
 have b4 := bS HB hg
 have b5 := bS HB hg
 have a7 := bL a1 hg
 have a4 := bM a1 hg
 replace a3 := Aside0.mk (Kd.R_below (oR a3) hb)
 replace a1 := bQ a1 hb
 replace HB := Aside0.mk (below_step bB hb)
 clear hb hbox hg
 refine hK.out _ _ ⟨HS0_, HS1_⟩ (fun hHeld => ?_)
 clear hK K
 refine norm_ (a' := ?_) ?_ ?_
 rotate_left
 · show Act.put _ (some 5) _ = _
   simp only [Act.put, List.setIfInBounds_toArray, List.set_cons_zero, List.set_cons_succ, i64_w, i32_w]
   rfl
 exact norm_ (by simp only [putAll, Act.put, List.setIfInBounds_toArray, List.set_cons_zero, List.set_cons_succ]) (hCont (a5) _ ⟨hHeld, (oR a3), (bK a1), (bK a2), b4.out, b5.out, a7.out, a4.out, bB⟩)
 )
 ·(
 skip
 refine box_step ?hg (N := 5) ?hd (cs := #[.int .i64 0, .int .i64 0]) (t := 25) ?hr ?_; (case hd => rfl); (case hg => rfl); (case hr => first | (go_simp; done) | (go_simp; rfl))
 intro a5 hg g5 hbox hb
 have HS0_ := (hb.cell (World.block_lt_of_cell? _ _ (hHeld.1))).trans (hHeld.1)
 have HS1_ := (hb.cell (World.block_lt_of_cell? _ _ (hHeld.2))).trans (hHeld.2)
 have a2 := Aside0.mk (hbox)
 have b4 := bS HB hg
 have b5 := bS HB hg
 have a7 := bL a1 hg
 have a4 := bM a1 hg
 replace a3 := Aside0.mk (Kd.R_below (oR a3) hb)
 replace a1 := bQ a1 hb
 replace HB := Aside0.mk (below_step bB hb)
 clear hb hbox hg
 refine hK.out _ _ ⟨HS0_, HS1_⟩ (fun hHeld => ?_)
 clear hK K
 refine norm_ (a' := ?_) ?_ ?_
 rotate_left
 · show Act.put _ (some 5) _ = _
   simp only [Act.put, List.setIfInBounds_toArray, List.set_cons_zero, List.set_cons_succ, i64_w, i32_w]
   rfl
 refine one_ (i := 7) (N := some 24) #[true, true, true, true, true, true, true, true, false, true, false] rfl rfl (one_of HT_.out kr) (by decide) (fun K hK => ?_)
 refine goes_ Tryz.func78 kr rfl #[.string (rdOf ByteArray.empty a6 1)] (by rfl) rfl rfl sM ?_
 with_reducible refine (spec_l1Read.calls b6 (rdOf ByteArray.empty a6 1) b0 _ c5.out).mono ?_
 rintro e w' ⟨rfl, ⟨nd, rfl⟩⟩
 refine ⟨_, rfl, ?_⟩
 refine hK.out _ _ ⟨hHeld.1, hHeld.2⟩ (fun hHeld => ?_)
 clear hK K
 refine norm_ (a' := ?_) ?_ ?_
 rotate_left
 · show Act.put _ (some 24) _ = _
   simp only [Act.put, List.setIfInBounds_toArray, List.set_cons_zero, List.set_cons_succ, i64_w, i32_w]
   rfl
 refine pure_ (i := 8) (N := some 25) (v := ?_) (a' := ?_) #[true, true, true, true, true, true, true, true, true, true, false] rfl rfl (any_of HT_.out kr) (fun _ _ _ h => h) (Or.inl ⟨by rfl, ?_⟩) ?_ ?_
 rotate_left
 ·(
 intro w'
 go_simp
 with_reducible rfl
 )
 rotate_left
 ·(
 simp only [Act.put, List.setIfInBounds_toArray, List.set_cons_zero, List.set_cons_succ, i64_w, i32_w]
 rfl
 )
 exact norm_ (by simp only [putAll, Act.put, List.setIfInBounds_toArray, List.set_cons_zero, List.set_cons_succ]) (hCont (a5) _ ⟨hHeld, (oR a3), (bK a1), (bK a2), b4.out, b5.out, a7.out, a4.out, bB⟩)
 )
 )
 ·(
 skip
 refine box_step ?hg (N := 5) ?hd (cs := #[.int .i64 0, .int .i64 0]) (t := 25) ?hr ?_; (case hd => rfl); (case hg => rfl); (case hr => first | (go_simp; done) | (go_simp; rfl))
 intro a5 hg g5 hbox hb
 have HS0_ := (hb.cell (World.block_lt_of_cell? _ _ (hHeld.1))).trans (hHeld.1)
 have HS1_ := (hb.cell (World.block_lt_of_cell? _ _ (hHeld.2))).trans (hHeld.2)
 have a2 := Aside0.mk (hbox)
 have b4 := bS HB hg
 have b5 := bS HB hg
 have a7 := bL a1 hg
 have a4 := bM a1 hg
 replace a3 := Aside0.mk (Kd.R_below (oR a3) hb)
 replace a1 := bQ a1 hb
 replace HB := Aside0.mk (below_step bB hb)
 clear hb hbox hg
 refine hK.out _ _ ⟨HS0_, HS1_⟩ (fun hHeld => ?_)
 clear hK K
 refine norm_ (a' := ?_) ?_ ?_
 rotate_left
 · show Act.put _ (some 5) _ = _
   simp only [Act.put, List.setIfInBounds_toArray, List.set_cons_zero, List.set_cons_succ, i64_w, i32_w]
   rfl
 refine one_ (i := 3) (N := some 20) #[true, true, true, true, true, true, true, false, false, true, false] rfl rfl (one_of HT_.out kr) (by decide) (fun K hK => ?_)
 refine goes_ Tryz.func78 kr rfl #[.string (rdOf ByteArray.empty a6 0)] (by rfl) rfl rfl sM ?_
 with_reducible refine (spec_l1Read.calls b6 (rdOf ByteArray.empty a6 0) b1 _ e3.out).mono ?_
 rintro e w' ⟨rfl, ⟨nd, rfl⟩⟩
 refine ⟨_, rfl, ?_⟩
 refine hK.out _ _ ⟨hHeld.1, hHeld.2⟩ (fun hHeld => ?_)
 clear hK K
 refine norm_ (a' := ?_) ?_ ?_
 rotate_left
 · show Act.put _ (some 20) _ = _
   simp only [Act.put, List.setIfInBounds_toArray, List.set_cons_zero, List.set_cons_succ, i64_w, i32_w]
   rfl
 refine one_ (i := 7) (N := some 24) #[true, true, true, true, true, true, true, true, false, true, false] rfl rfl (one_of HT_.out kr) (by decide) (fun K hK => ?_)
 refine goes_ Tryz.func78 kr rfl #[.string (rdOf ByteArray.empty a6 1)] (by rfl) rfl rfl sM ?_
 with_reducible refine (spec_l1Read.calls b6 (rdOf ByteArray.empty a6 1) b0 _ c5.out).mono ?_
 rintro e w' ⟨rfl, ⟨nd, rfl⟩⟩
 refine ⟨_, rfl, ?_⟩
 refine hK.out _ _ ⟨hHeld.1, hHeld.2⟩ (fun hHeld => ?_)
 clear hK K
 refine norm_ (a' := ?_) ?_ ?_
 rotate_left
 · show Act.put _ (some 24) _ = _
   simp only [Act.put, List.setIfInBounds_toArray, List.set_cons_zero, List.set_cons_succ, i64_w, i32_w]
   rfl
 refine pure_ (i := 8) (N := some 25) (v := ?_) (a' := ?_) #[true, true, true, true, true, true, true, true, true, true, false] rfl rfl (any_of HT_.out kr) (fun _ _ _ h => h) (Or.inl ⟨by rfl, ?_⟩) ?_ ?_
 rotate_left
 ·(
 intro w'
 go_simp
 with_reducible rfl
 )
 rotate_left
 ·(
 simp only [Act.put, List.setIfInBounds_toArray, List.set_cons_zero, List.set_cons_succ, i64_w, i32_w]
 rfl
 )
 exact norm_ (by simp only [putAll, Act.put, List.setIfInBounds_toArray, List.set_cons_zero, List.set_cons_succ]) (hCont (a5) _ ⟨hHeld, (oR a3), (bK a1), (bK a2), b4.out, b5.out, a7.out, a4.out, bB⟩)
 )
 )
 rintro a5 b8 ⟨hS_, d0, d1, d2, d3, d4, d5, d6, d7⟩
 have a2 : Aside0 (b8.heap[a5]? = some (.cells #[.int .i64 0, .int .i64 0] 25 (0, 0))) := ⟨d2⟩
 have b4 : Aside0 (w.heap.size ≤ a5) := ⟨d3⟩
 have b5 : Aside0 (w.heap.size ≤ a5) := ⟨d4⟩
 have a7 : Aside0 (a8 ≠ a5) := ⟨d5⟩
 have a4 : Aside0 (a5 ≠ a8) := ⟨d6⟩
 replace a3 : Aside0 (Kd.R Kd.string 9 b8 w.heap.size (fun _ => True) (.slice (some a9) a6.length e1) a6) := ⟨d0⟩
 replace a1 : Aside0 (b8.heap[a8]? = some (.cells #[.int .i64 0, .int .i64 0] 25 (0, 0))) := ⟨d1⟩
 replace HB : Aside0 (Below w.heap.size w b8) := ⟨d7⟩
 clear d0 d1 d2 d3 d4 d5 d6 d7
 have hHeld : b8.cell? a9 = some (.string (rdOf ByteArray.empty a6 0)) ∧ b8.cell? ⟨a9.block, a9.off + 1, none⟩ = some (.string (rdOf ByteArray.empty a6 1)) := hS_
 refine norm_ (a' := ?_) ?_ ?_
 rotate_left
 ·(
 simp only [putAll, Act.put, List.setIfInBounds_toArray, List.set_cons_zero, List.set_cons_succ]
 rfl
 )
 refine one_ (i := 10) (N := none) #[true, true, true, true, true, true, true, true, true, true, true] rfl rfl (one_of HT_.out kr) (by decide) (fun K hK => ?_)
 have l8 : b8.cell? ⟨a5, 0, none⟩ = some (.int .i64 0) := (blk_cell a2.out 0).trans rfl
 have k7 := blk_frozen a2.out 0
 have h9 := a7.out
 have i0 := a4.out
 have l9 : b8.cell? ⟨a5, 1, none⟩ = some (.int .i64 0) := (blk_cell a2.out 1).trans rfl
 have k8 := blk_frozen a2.out 1
 have i1 := a7.out
 have i2 := a4.out
 refine skip_ (w1 := ?_) (by rfl) rfl ?_ ?_
 rotate_left
 ·(
 go_simp
 rfl
 )
 refine hK.out _ _ ⟨((cell_far (p := ⟨a5, _, none⟩) (by first | exact Kd.own_blk (Kd.R_ne a3.out a2.out (by decide)) | (rw [add_block]; exact Kd.own_blk (Kd.R_ne a3.out a2.out (by decide))) | (show (Addr.add _ _).block ≠ _; rw [add_block]; exact Kd.own_blk (Kd.R_ne a3.out a2.out (by decide))) | (dsimp only; exact Kd.own_blk (Kd.R_ne a3.out a2.out (by decide)))) _).trans (((cell_far (p := ⟨a5, _, none⟩) (by first | exact Kd.own_blk (Kd.R_ne a3.out a2.out (by decide)) | (rw [add_block]; exact Kd.own_blk (Kd.R_ne a3.out a2.out (by decide))) | (show (Addr.add _ _).block ≠ _; rw [add_block]; exact Kd.own_blk (Kd.R_ne a3.out a2.out (by decide))) | (dsimp only; exact Kd.own_blk (Kd.R_ne a3.out a2.out (by decide)))) _).trans (hHeld.1)))), ((cell_far (p := ⟨a5, _, none⟩) (by first | exact Kd.own_blk (Kd.R_ne a3.out a2.out (by decide)) | (rw [add_block]; exact Kd.own_blk (Kd.R_ne a3.out a2.out (by decide))) | (show (Addr.add _ _).block ≠ _; rw [add_block]; exact Kd.own_blk (Kd.R_ne a3.out a2.out (by decide))) | (dsimp only; exact Kd.own_blk (Kd.R_ne a3.out a2.out (by decide)))) _).trans (((cell_far (p := ⟨a5, _, none⟩) (by first | exact Kd.own_blk (Kd.R_ne a3.out a2.out (by decide)) | (rw [add_block]; exact Kd.own_blk (Kd.R_ne a3.out a2.out (by decide))) | (show (Addr.add _ _).block ≠ _; rw [add_block]; exact Kd.own_blk (Kd.R_ne a3.out a2.out (by decide))) | (dsimp only; exact Kd.own_blk (Kd.R_ne a3.out a2.out (by decide)))) _).trans (hHeld.2))))⟩ (fun hHeld => ?_)
 clear hK K
 refine done_ (done_of HT_.out kr) ?_
 try go_wp2
 (try rw [dSet])
 have n0_ : Aside0 (Kd.R Kd.string 9 ((b8.setCell ⟨a5, 0, none⟩ (.int .i64 b1)).setCell ⟨a5, 1, none⟩ (.int .i64 b0)) w.heap.size (fun _ => True) (.slice (some a9) a6.length e1) a6) := ⟨by (with_reducible repeat (first | apply Kd.R_alloc | apply Kd.R_drewN | apply Kd.R_drew)); exact Kd.R_mono (Kd.R_far (p := ⟨a5, 1, none⟩) (Kd.R_far (p := ⟨a5, 0, none⟩) (Kd.R_types a3.out a2.out (by decide)) (fun _ hk => hk.2) (.int .i64 b1)) (fun _ hk => hk.2) (.int .i64 b0)) (fun _ hk => trivial)⟩
 generalize hW_ : ((b8.setCell ⟨a5, 0, none⟩ (.int .i64 b1)).setCell ⟨a5, 1, none⟩ (.int .i64 b0)) = j6 at n0_ ⊢
 have nB_ := bG HB hW_
 replace a1 := bF hW_ a1
 replace a2 := bFp hW_ (.cells #[.int .i64 b1, .int .i64 b0] 25 (0, 0)) a2
 try clear a3
 have a3 := n0_
 clear n0_ HB
 have HB := nB_
 clear nB_ hW_
 replace a3 := Aside0.mk (Kd.R_drew a3.out)
 replace a1 := bD1 a1
 replace a2 := bD1 a2
 replace HB := Aside0.mk (below_drew1 HB.out)
 refine st_ 11 spec_beParse.pl1 (S := fun w' => w'.cell? ⟨a5, 0, none⟩ = some (.int .i64 b1) ∧ w'.cell? ⟨a5, 1, none⟩ = some (.int .i64 b0)) (ds := []) spec_beParse.tab5 spec_beParse.bits5 cS (fun hHeld HT_ HW_ => ?_)
 generalize j6.drew = m8 at a3 a1 a2 HB hHeld ⊢
 iterate 2 refine pT HT_ HW_ hHeld ?_
 refine pO HT_ fun K hK => ?_
 refine goes_ Tryz.func46 kr rfl #[.agg #[.int .i64 b1, .int .i64 b0]] (by rfl) rfl rfl sM ?_
 with_reducible refine (spec_beTable.calls b1 b0 false _ g2.out).mono ?_
 rintro e g6 ⟨rfl, hb⟩
 refine ⟨_, rfl, ?_⟩
 replace a3 := Aside0.mk (Kd.R_below (oR a3) hb)
 replace a1 := bQ a1 hb
 replace a2 := bQ a2 hb
 replace HB := Aside0.mk (below_step bB hb)
 try clear hb
 refine hK.out _ _ cS (fun hHeld => ?_)
 clear hK K
 refine nP ?_
 iterate 6 (first | refine pA HT_ ?_ | refine pB HT_ ?_)
 refine pO HT_ fun K hK => ?_
 have m0 : g6.cell? ⟨a8, 0, none⟩ = some (.int .i64 0) := (blk_cell a1.out 0).trans rfl
 have k9 := blk_frozen a1.out 0
 have i3 := a4.out
 have i4 := a7.out
 have m1 : g6.cell? ⟨a8, 1, none⟩ = some (.int .i64 0) := (blk_cell a1.out 1).trans rfl
 have l0 := blk_frozen a1.out 1
 have i5 := a4.out
 have i6 := a7.out
 refine skip_ (w1 := ?_) (by rfl) rfl ?_ ?_
 rotate_left
 ·(
 go_simp
 rfl
 )
 refine hK.out _ _ ⟨((cell_far (p := ⟨a8, _, none⟩) a4.out _).trans (((cell_far (p := ⟨a8, _, none⟩) a4.out _).trans (hHeld.1)))), ((cell_far (p := ⟨a8, _, none⟩) a4.out _).trans (((cell_far (p := ⟨a8, _, none⟩) a4.out _).trans (hHeld.2))))⟩ (fun hHeld => ?_)
 clear hK K
 refine pA HT_ ?_
 refine pD HT_ ?_
 try go_wp2
 (try rw [dSet])
 refine bodyPost_ret (results_ct rfl _ _ a8 25 #[.int .i64 b1, .int .i64 b0] (0, 0) _ rfl (bK a1) Tryz.underlying25 rfl kr) rfl ?_
 exact ⟨sE, bI⟩
 )
 )
 ·(
 rw [if_neg e4] at H
 exact absurd H (by simp)
 )
 )
 ·(
 rw [if_neg e2] at H
 exact absurd H (by simp)
 )
 )
 )
 )

end Go.Proofs.YtlmiaadpnbehgaaGreatDoor.PFnBeamsEnd
