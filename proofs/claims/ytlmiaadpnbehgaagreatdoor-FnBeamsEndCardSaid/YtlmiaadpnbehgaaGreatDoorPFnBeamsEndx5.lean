-- Written by xprint.py, a program of this session, for this seat; Lean checks it.
import Derived.Test.YtlmiaadpnbehgaaGreatDoorVM
import Derived.Test.YtlmiaadpnbehgaaGreatDoorPFnBeamsEndx0
import Derived.Test.YtlmiaadpnbehgaaGreatDoorPFnBeamsEndx3
import Derived.Test.YtlmiaadpnbehgaaGreatDoorPFnBeamsEndx4
namespace Go.Proofs.YtlmiaadpnbehgaaGreatDoor.PFnBeamsEnd
open Go.Proofs.YtlmiaadpnbehgaaGreatDoorV Go.RowKit Go.Proofs.YtlmiaadpnbehgaaGreatDoorW.PrintWords Go.Proofs.YtlmiaadpnbehgaaGreatDoorW.PrintLast Go.Proofs.YtlmiaadpnbehgaaGreatDoorW.PrintMore
attribute [local go_sem] max2_int min2_int max_two min_two max_three min_three max_four min_four   -- for this text's walks alone
set_option linter.unusedVariables false
set_option linter.unusedSimpArgs false

/-! ### spec_l1Cur_beam: function 61 -/
def spec_l1Cur_beam.f (s0_0 : List Int) (s0_1 : Int) (s0_2 : Int) : Option (Int × Int × Int × Int × Bool × Bool × Int × Int) := (spec_l1Cur_table.f s0_0 s0_1 s0_2).bind fun bt170 => ((spec_l1Most.f 0 bt170.1).bind fun t175 => ((spec_l1Least.f 60 t175).bind fun t176 => ((spec_l1Cur_pick.f s0_0 bt170.2.2.1 bt170.2.2.2 (wrap64 (t176 + 1))).bind fun bt177 => ((spec_l1Most.f 0 bt170.2.1).bind fun t180 => ((spec_l1Least.f 60 t180).bind fun t181 => ((spec_l1Cur_pick.f s0_0 bt177.2.1 bt177.2.2 (wrap64 (t181 + 1))).bind fun bt182 => ((spec_l1Cur_one.f s0_0 bt182.2.1 bt182.2.2 2).bind fun bt185 => ((spec_l1Cur_one.f s0_0 bt185.2.1 bt185.2.2 2).bind fun bt188 => ((spec_l1Cur_pick.f s0_0 bt188.2.1 bt188.2.2 14).bind fun bt192 => (if bt192.1 = 0 then ((spec_l1Cur_among.f s0_0 bt192.2.1 bt192.2.2 (([(-1), 0, 9, 61, 4611686018427387904] : List Int))).bind fun bt198 => (some (bt170.1, bt170.2.1, bt198.1, bt182.1, bt185.1, bt188.1, bt198.2.1, bt198.2.2))) else (if bt192.1 = 1 then ((spec_l1Cur_among.f s0_0 bt192.2.1 bt192.2.2 (([(-1), 0, 9, 61, 4611686018427387904] : List Int))).bind fun bt204 => (some (bt170.1, bt170.2.1, bt177.1, bt204.1, bt185.1, bt188.1, bt204.2.1, bt204.2.2))) else (if bt192.1 = 2 then (some (bt170.1, bt170.2.1, 0, 0, true, true, bt192.2.1, bt192.2.2)) else (if bt192.1 = 3 then (some (bt170.1, bt170.2.1, 0, 0, true, true, bt192.2.1, bt192.2.2)) else (some (bt170.1, bt170.2.1, bt177.1, bt182.1, bt185.1, bt188.1, bt192.2.1, bt192.2.2)))))))))))))))
def spec_l1Cur_beam.T2 : Bool × List (List Nat × List Nat) := (true, [([], []), ([], []), ([1], [1]), ([2], [2]), ([3, 3], [3]), ([4], [4]), ([0, 5, 4], [0, 5]), ([], []), ([], []), ([8], [8]), ([9, 6], [9]), ([10, 10], [10]), ([11], [11]), ([7, 12, 11], [7, 12]), ([], []), ([14, 13], [14]), ([], []), ([16, 15], [16]), ([6, 13, 15, 17], [6, 13, 15, 17]), ([], []), ([19, 18, 17, 0, 1, 2, 3, 4, 5, 6, 7, 8, 9, 10, 11, 12, 13, 14, 15, 16, 17, 18, 19], [18, 19])])
def spec_l1Cur_beam.B2 : List Nat := [0, 0, 2, 6, 14, 30, 63, 0, 0, 256, 895, 1919, 3967, 8191, 0, 32767, 0, 131071, 262143, 0, 1048575]
theorem spec_l1Cur_beam.tab2 : rtab .any (opsOf Tryz.f61 2) = spec_l1Cur_beam.T2 := by kernel_rfl
theorem spec_l1Cur_beam.bits2 : waitsOk spec_l1Cur_beam.T2.2 spec_l1Cur_beam.B2 = true := by kernel_rfl
set_option maxHeartbeats 8000000 in
set_option maxRecDepth 100000 in
theorem spec_l1Cur_beam.calls (g : Nat) (s0_0 : List Int) (s0_1 : Int) (s0_2 : Int) (r1 : Int) (r2 : Int) (r3 : Int) (r4 : Int) (r5 : Bool) (r6 : Bool) (r7 : Int) (r8 : Int) (w0 w : World) (hI : IsS73 w0 w g s0_0 s0_1 s0_2) (hB : Below w0.heap.size w0 w) (h : spec_l1Cur_beam.f s0_0 s0_1 s0_2 = some (r1, r2, r3, r4, r5, r6, r7, r8)) :
    Calls Tryz.prog 61 #[.pointer (some ⟨g, 0, none⟩)] w fun e w' => e = .returned (.tuple #[.agg #[.int .i64 r1, .int .i64 r2], .agg #[.int .i64 r3, .int .i64 r4, .bool r5, .bool r6]]) ∧ IsS73 w0 w' g s0_0 r7 r8 ∧ Below w0.heap.size w0 w' ∧ KeepBut w w' g none := by
 have D8 := Tryz.underlying25
 have D9 := Tryz.underlying27
 have HI0 := Aside0.mk hI
 have HK := Aside0.mk (KeepBut.refl w g none)
 have HL := Aside0.mk hB.size
 clear hI
 have l5 := Aside0.mk hB.size
 have HB := Aside0.mk hB
 clear hB
 have H := h
 unfold spec_l1Cur_beam.f at H
 clear h
 obtain ⟨⟨b1, b2, g8, g9⟩, A2, H⟩ := bD H
 try dsimp only at H
 obtain ⟨h0, A3, H⟩ := bD H
 try dsimp only at H
 obtain ⟨d3, A4, H⟩ := bD H
 try dsimp only at H
 obtain ⟨⟨e6, h1, h2⟩, A5, H⟩ := bD H
 try dsimp only at H
 obtain ⟨i5, A6, H⟩ := bD H
 try dsimp only at H
 obtain ⟨h3, A7, H⟩ := bD H
 try dsimp only at H
 obtain ⟨⟨g5, k2, k3⟩, A8, H⟩ := bD H
 try dsimp only at H
 obtain ⟨⟨g0, k4, k5⟩, A9, H⟩ := bD H
 try dsimp only at H
 obtain ⟨⟨g6, j3, j4⟩, y4, H⟩ := bD H
 try dsimp only at H
 obtain ⟨⟨k7, j5, j6⟩, v2, H⟩ := bD H
 try dsimp only at H
 have HQ_ := Aside0.mk H
 clear H
 go_enter Tryz.func61, Tryz.ntmps61
 try go_wp2_with (first | ((with_reducible refine gate_dst (N := 2) rfl ?_); refine box_ (cs := #[.int .i64 0, .int .i64 0]) (t := 25) fun a7 hg F0 hbox hb => ?_; have a6 := Aside0.mk (hbox); have E0 := (kS HK hg); have E1 := (kE l5 HK hg); have c8 := Aside0.mk ((by rw [hg]; exact Nat.ne_of_lt (IsS73.lt (show IsS73 w0 _ g s0_0 s0_1 s0_2 from by repeat (first | (with_reducible first | exact HI0.out | apply IsS73.alloc | apply IsS73.drewN | apply IsS73.drew | apply IsS73.set_1 | apply IsS73.set_2) | exact HI0.out))) : g ≠ a7)); have g2 := Aside0.mk ((by rw [hg]; exact Nat.ne_of_gt (IsS73.lt (show IsS73 w0 _ g s0_0 s0_1 s0_2 from by repeat (first | (with_reducible first | exact HI0.out | apply IsS73.alloc | apply IsS73.drewN | apply IsS73.drew | apply IsS73.set_1 | apply IsS73.set_2) | exact HI0.out))) : a7 ≠ g)); replace HI0 := Aside0.mk (IsS73.below kI hb); replace HK := Aside0.mk (KeepBut.trans (w := w) kK (KeepBut.of_below hb g none) (.inl rfl)); replace HB := Aside0.mk (below_step bI hb); clear hb hbox hg) | ((with_reducible refine gate_dst (N := 3) rfl ?_); refine box_ (cs := #[.int .i64 0, .int .i64 0, .bool false, .bool false]) (t := 27) fun a2 hg F1 hbox hb => ?_; have a3 := Aside0.mk (hbox); have E2 := (kS HK hg); have E3 := (kE l5 HK hg); have c0 := bL a6 hg; have c1 := bM a6 hg; have c9 := Aside0.mk ((by rw [hg]; exact Nat.ne_of_lt (IsS73.lt (show IsS73 w0 _ g s0_0 s0_1 s0_2 from by repeat (first | (with_reducible first | exact HI0.out | apply IsS73.alloc | apply IsS73.drewN | apply IsS73.drew | apply IsS73.set_1 | apply IsS73.set_2 | refine IsS73.far ?_ c8.out _) | exact HI0.out))) : g ≠ a2)); have g3 := Aside0.mk ((by rw [hg]; exact Nat.ne_of_gt (IsS73.lt (show IsS73 w0 _ g s0_0 s0_1 s0_2 from by repeat (first | (with_reducible first | exact HI0.out | apply IsS73.alloc | apply IsS73.drewN | apply IsS73.drew | apply IsS73.set_1 | apply IsS73.set_2 | refine IsS73.far ?_ c8.out _) | exact HI0.out))) : a2 ≠ g)); replace HI0 := Aside0.mk (IsS73.below kI hb); replace a6 := bQ a6 hb; replace HK := Aside0.mk (KeepBut.trans (w := w) kK (KeepBut.of_below hb g none) (.inl rfl)); replace HB := Aside0.mk (below_step bI hb); clear hb hbox hg) | ((with_reducible refine gate_callee (f := 71) rfl ?_); refine goesL_ (some 7) rfl rfl Tryz.func71 kr rfl #[.pointer (some ⟨g, 0, none⟩)] rfl sM ?_; (with_reducible refine (spec_l1Cur_table.calls g s0_0 s0_1 s0_2 b1 b2 g8 g9 w0 _ ?side1 ?side2 A2.out).mono ?_); (case side1 => exact kI); (case side2 => exact bI); rintro e F2 ⟨rfl, hi, hb, hk⟩; refine ⟨_, rfl, ?_⟩; replace a6 := Aside0.mk (KeepBut.blk hk (g' := a7) (o := .cells #[.int .i64 0, .int .i64 0] 25 (0, 0)) (bK a6) g2.out (by simp)); replace a3 := Aside0.mk (KeepBut.blk hk (g' := a2) (o := .cells #[.int .i64 0, .int .i64 0, .bool false, .bool false] 27 (0, 0)) (bK a3) g3.out (by simp)); replace HK := Aside0.mk (KeepBut.trans (w := w) kK hk (.inl rfl)); replace HB := Aside0.mk (hb); replace HI0 := Aside0.mk (hi); (try clear hb); (try clear hk); (try clear hi)) | ((with_reducible refine gate_dst (N := 4) rfl ?_); refine box_ (cs := #[.int .i64 0, .int .i64 0]) (t := 25) fun a4 hg q8 hbox hb => ?_; have a8 := Aside0.mk (hbox); have E4 := (kS HK hg); have E5 := (kE l5 HK hg); have g7 := bL a6 hg; have b9 := bM a6 hg; have d1 := bL a3 hg; have b0 := bM a3 hg; have d2 := Aside0.mk ((by rw [hg]; exact Nat.ne_of_lt (IsS73.lt (show IsS73 w0 _ g s0_0 g8 g9 from by repeat (first | (with_reducible first | exact HI0.out | apply IsS73.alloc | apply IsS73.drewN | apply IsS73.drew | apply IsS73.set_1 | apply IsS73.set_2 | refine IsS73.far ?_ c8.out _ | refine IsS73.far ?_ c9.out _) | exact HI0.out))) : g ≠ a4)); have g4 := Aside0.mk ((by rw [hg]; exact Nat.ne_of_gt (IsS73.lt (show IsS73 w0 _ g s0_0 g8 g9 from by repeat (first | (with_reducible first | exact HI0.out | apply IsS73.alloc | apply IsS73.drewN | apply IsS73.drew | apply IsS73.set_1 | apply IsS73.set_2 | refine IsS73.far ?_ c8.out _ | refine IsS73.far ?_ c9.out _) | exact HI0.out))) : a4 ≠ g)); replace HI0 := Aside0.mk (IsS73.below kI hb); replace a6 := bQ a6 hb; replace a3 := bQ a3 hb; replace HK := Aside0.mk (KeepBut.trans (w := w) kK (KeepBut.of_below hb g none) (.inl rfl)); replace HB := Aside0.mk (below_step bI hb); clear hb hbox hg; have C8 := b9.out; have C9 := g7.out; have D0 := b0.out; have D1 := d1.out; have D2 := g4.out; have D3 := d2.out; obtain ⟨y7, y8, y9, z0⟩ := cf2 a8))
 have h7 : Aside0 (((q8.setCell ⟨a4, 0, none⟩ (.int .i64 b1)).setCell ⟨a4, 1, none⟩ (.int .i64 b2)).heap[a7]? = some (.cells #[.int .i64 0, .int .i64 0] 25 (0, 0))) := (bA a6)
 have h8 : Aside0 (((q8.setCell ⟨a4, 0, none⟩ (.int .i64 b1)).setCell ⟨a4, 1, none⟩ (.int .i64 b2)).heap[a2]? = some (.cells #[.int .i64 0, .int .i64 0, .bool false, .bool false] 27 (0, 0))) := (bA a3)
 have h9 : Aside0 (((q8.setCell ⟨a4, 0, none⟩ (.int .i64 b1)).setCell ⟨a4, 1, none⟩ (.int .i64 b2)).heap[a4]? = some (.cells #[.int .i64 b1, .int .i64 b2] 25 (0, 0))) := (bA a8)
 have i0 : Aside0 (IsS73 w0 ((q8.setCell ⟨a4, 0, none⟩ (.int .i64 b1)).setCell ⟨a4, 1, none⟩ (.int .i64 b2)) g s0_0 g8 g9) := ⟨kI⟩
 have i1 : Aside0 (KeepBut w ((q8.setCell ⟨a4, 0, none⟩ (.int .i64 b1)).setCell ⟨a4, 1, none⟩ (.int .i64 b2)) g none) := ⟨kK⟩
 have i2 : Aside0 (Below w0.heap.size w0 ((q8.setCell ⟨a4, 0, none⟩ (.int .i64 b1)).setCell ⟨a4, 1, none⟩ (.int .i64 b2))) := ⟨bI⟩
 try clear a6
 try clear a3
 try clear a8
 (try clear HI0)
 (try clear HK)
 (try clear HB)
 generalize ((q8.setCell ⟨a4, 0, none⟩ (.int .i64 b1)).setCell ⟨a4, 1, none⟩ (.int .i64 b2)) = C3 at h7 h8 h9 i0 i1 i2 ⊢
 have a6 := h7
 have a3 := h8
 have a8 := h9
 have HI0 := i0
 have HK := i1
 have HB := i2
 clear h7 h8 h9 i0 i1 i2
 replace a6 := bD1 a6
 replace a3 := bD1 a3
 replace a8 := bD1 a8
 replace HI0 := Aside0.mk (IsS73.drew HI0.out)
 replace HK := Aside0.mk (keep_drew HK.out)
 replace HB := Aside0.mk (below_drew1 HB.out)
 refine start_ (n := 21) (S := fun w' => w'.cell? ⟨a4, 0, none⟩ = some (.int .i64 b1) ∧ w'.cell? ⟨a4, 1, none⟩ = some (.int .i64 b2)) (ds := []) #[false, false, false, false, false, false, false, false, false, false, false, false, false, false, false, false, false, false, false, false, false] kr rfl rfl cS (fun hHeld => ?_); refine with_tabW spec_l1Cur_beam.tab2 spec_l1Cur_beam.bits2 (fun HT_ HW_ => ?_)
 generalize C3.drew = F3 at a6 a3 a8 HI0 HK HB hHeld ⊢
 refine pure_ (i := 0) (N := some 8) (v := ?_) (a' := ?_) #[true, false, false, false, false, false, false, false, false, false, false, false, false, false, false, false, false, false, false, false, false] rfl rfl (any_of HT_.out kr) (fun _ _ _ h => h) (Or.inl ⟨by rfl, ?_⟩) ?_ ?_
 rotate_left
 ·(
 intro w'
 go_simp
 with_reducible rfl
 )
 rotate_left
 ·(
 simp only [Act.put, List.setIfInBounds_toArray, List.set_cons_zero, List.set_cons_succ, i64_w, i32_w]
 rfl
 )
 refine pure_ (i := 1) (N := some 9) (v := ?_) (a' := ?_) #[true, true, false, false, false, false, false, false, false, false, false, false, false, false, false, false, false, false, false, false, false] rfl rfl (any_of HT_.out kr) (fun _ _ _ h => h) (Or.inl ⟨by rfl, ?_⟩) ?_ ?_
 rotate_left
 ·(
 intro w'
 go_simp
 with_reducible rfl
 )
 rotate_left
 ·(
 simp only [Act.put, List.setIfInBounds_toArray, List.set_cons_zero, List.set_cons_succ, i64_w, i32_w]
 rfl
 )
 refine pure_ (i := 7) (N := some 15) (v := ?_) (a' := ?_) #[true, true, false, false, false, false, false, true, false, false, false, false, false, false, false, false, false, false, false, false, false] rfl rfl (any_of HT_.out kr) (fun _ _ _ h => h) (Or.inl ⟨by rfl, ?_⟩) ?_ ?_
 rotate_left
 ·(
 intro w'
 go_simp
 with_reducible rfl
 )
 rotate_left
 ·(
 simp only [Act.put, List.setIfInBounds_toArray, List.set_cons_zero, List.set_cons_succ, i64_w, i32_w]
 rfl
 )
 refine pure_ (i := 8) (N := some 16) (v := ?_) (a' := ?_) #[true, true, false, false, false, false, false, true, true, false, false, false, false, false, false, false, false, false, false, false, false] rfl rfl (any_of HT_.out kr) (fun _ _ _ h => h) (Or.inl ⟨by rfl, ?_⟩) ?_ ?_
 rotate_left
 ·(
 intro w'
 go_simp
 with_reducible rfl
 )
 rotate_left
 ·(
 simp only [Act.put, List.setIfInBounds_toArray, List.set_cons_zero, List.set_cons_succ, i64_w, i32_w]
 rfl
 )
 refine pure_ (i := 14) (N := some 22) (v := ?_) (a' := ?_) #[true, true, false, false, false, false, false, true, true, false, false, false, false, false, true, false, false, false, false, false, false] rfl rfl (any_of HT_.out kr) (fun _ _ _ h => h) (Or.inl ⟨by rfl, ?_⟩) ?_ ?_
 rotate_left
 ·(
 intro w'
 go_simp
 with_reducible rfl
 )
 rotate_left
 ·(
 simp only [Act.put, List.setIfInBounds_toArray, List.set_cons_zero, List.set_cons_succ, i64_w, i32_w]
 rfl
 )
 refine pure_ (i := 16) (N := some 24) (v := ?_) (a' := ?_) #[true, true, false, false, false, false, false, true, true, false, false, false, false, false, true, false, true, false, false, false, false] rfl rfl (any_of HT_.out kr) (fun _ _ _ h => h) (Or.inl ⟨by rfl, ?_⟩) ?_ ?_
 rotate_left
 ·(
 intro w'
 go_simp
 with_reducible rfl
 )
 rotate_left
 ·(
 simp only [Act.put, List.setIfInBounds_toArray, List.set_cons_zero, List.set_cons_succ, i64_w, i32_w]
 rfl
 )
 refine take_ (i := 2) (N := some 10) (v := ?_) (a' := ?_) #[true, true, true, false, false, false, false, true, true, false, false, false, false, false, true, false, true, false, false, false, false] rfl rfl (take_ofW HT_.out HW_.out kr) (fun _ _ _ h => h) (Or.inl ⟨by rfl, ?_⟩) hHeld ?_ ?_
 rotate_left
 ·(
 rintro w' ⟨s0, C4⟩
 go_simp
 with_reducible rfl
 )
 rotate_left
 ·(
 simp only [Act.put, List.setIfInBounds_toArray, List.set_cons_zero, List.set_cons_succ, i64_w, i32_w]
 rfl
 )
 refine take_ (i := 9) (N := some 17) (v := ?_) (a' := ?_) #[true, true, true, false, false, false, false, true, true, true, false, false, false, false, true, false, true, false, false, false, false] rfl rfl (take_ofW HT_.out HW_.out kr) (fun _ _ _ h => h) (Or.inl ⟨by rfl, ?_⟩) hHeld ?_ ?_
 rotate_left
 ·(
 rintro w' ⟨s0, C4⟩
 go_simp
 with_reducible rfl
 )
 rotate_left
 ·(
 simp only [Act.put, List.setIfInBounds_toArray, List.set_cons_zero, List.set_cons_succ, i64_w, i32_w]
 rfl
 )
 refine join_ (σ := Nat) 1 #[true, true, true, true, true, true, true, true, true, true, true, true, true, true, true, true, true, true, true, true, false] (fun s_ => [(11, .int .i64 h0), (12, .int .i64 d3), (14, .int .i64 e6), (18, .int .i64 i5), (19, .int .i64 h3), (21, .int .i64 g5), (23, .bool g0), (25, .bool g6), (5, .pointer (some ⟨s_, 0, none⟩)), (13, .int .i64 (wrap64 (d3 + 1))), (20, .int .i64 (wrap64 (h3 + 1))), (26, .agg #[.int .i64 e6, .int .i64 g5, .bool g0, .bool g6])]) (fun s_ w' => (w'.cell? ⟨a4, 0, none⟩ = some (.int .i64 b1) ∧ w'.cell? ⟨a4, 1, none⟩ = some (.int .i64 b2)) ∧ (w'.heap[a7]? = some (.cells #[.int .i64 0, .int .i64 0] 25 (0, 0))) ∧ (w'.heap[a2]? = some (.cells #[.int .i64 0, .int .i64 0, .bool false, .bool false] 27 (0, 0))) ∧ (w'.heap[a4]? = some (.cells #[.int .i64 b1, .int .i64 b2] 25 (0, 0))) ∧ (w'.heap[s_]? = some (.cells #[.int .i64 0, .int .i64 0, .bool false, .bool false] 27 (0, 0))) ∧ (w.heap.size ≤ s_) ∧ (w0.heap.size ≤ s_) ∧ (g ≠ s_) ∧ (s_ ≠ g) ∧ (a7 ≠ s_) ∧ (s_ ≠ a7) ∧ (a2 ≠ s_) ∧ (s_ ≠ a2) ∧ (a4 ≠ s_) ∧ (s_ ≠ a4) ∧ (IsS73 w0 w' g s0_0 j3 j4) ∧ (KeepBut w w' g none) ∧ (Below w0.heap.size w0 w')) ?_ ?_
 rotate_left
 ·(
 intro i3
 refine join_ (σ := Unit) 2 #[true, true, true, true, true, true, true, true, true, true, true, true, true, true, true, true, true, true, true, false, false] (fun s_ => [(11, .int .i64 h0), (12, .int .i64 d3), (14, .int .i64 e6), (18, .int .i64 i5), (19, .int .i64 h3), (21, .int .i64 g5), (23, .bool g0), (25, .bool g6), (13, .int .i64 (wrap64 (d3 + 1))), (20, .int .i64 (wrap64 (h3 + 1))), (26, .agg #[.int .i64 e6, .int .i64 g5, .bool g0, .bool g6])]) (fun s_ w' => (w'.cell? ⟨a4, 0, none⟩ = some (.int .i64 b1) ∧ w'.cell? ⟨a4, 1, none⟩ = some (.int .i64 b2)) ∧ (w'.heap[a7]? = some (.cells #[.int .i64 0, .int .i64 0] 25 (0, 0))) ∧ (w'.heap[a2]? = some (.cells #[.int .i64 0, .int .i64 0, .bool false, .bool false] 27 (0, 0))) ∧ (w'.heap[a4]? = some (.cells #[.int .i64 b1, .int .i64 b2] 25 (0, 0))) ∧ (IsS73 w0 w' g s0_0 j3 j4) ∧ (KeepBut w w' g none) ∧ (Below w0.heap.size w0 w')) ?_ ?_
 rotate_left
 ·(
 intro k1
 refine join_ (σ := Nat) 3 #[true, true, true, true, true, true, true, true, true, true, true, true, true, true, true, true, true, false, false, true, false] (fun s_ => [(11, .int .i64 h0), (12, .int .i64 d3), (14, .int .i64 e6), (18, .int .i64 i5), (19, .int .i64 h3), (21, .int .i64 g5), (23, .bool g0), (5, .pointer (some ⟨s_, 0, none⟩)), (13, .int .i64 (wrap64 (d3 + 1))), (20, .int .i64 (wrap64 (h3 + 1)))]) (fun s_ w' => (w'.cell? ⟨a4, 0, none⟩ = some (.int .i64 b1) ∧ w'.cell? ⟨a4, 1, none⟩ = some (.int .i64 b2)) ∧ (w'.heap[a7]? = some (.cells #[.int .i64 0, .int .i64 0] 25 (0, 0))) ∧ (w'.heap[a2]? = some (.cells #[.int .i64 0, .int .i64 0, .bool false, .bool false] 27 (0, 0))) ∧ (w'.heap[a4]? = some (.cells #[.int .i64 b1, .int .i64 b2] 25 (0, 0))) ∧ (w'.heap[s_]? = some (.cells #[.int .i64 0, .int .i64 0, .bool false, .bool false] 27 (0, 0))) ∧ (w.heap.size ≤ s_) ∧ (w0.heap.size ≤ s_) ∧ (g ≠ s_) ∧ (s_ ≠ g) ∧ (a7 ≠ s_) ∧ (s_ ≠ a7) ∧ (a2 ≠ s_) ∧ (s_ ≠ a2) ∧ (a4 ≠ s_) ∧ (s_ ≠ a4) ∧ (IsS73 w0 w' g s0_0 k4 k5) ∧ (KeepBut w w' g none) ∧ (Below w0.heap.size w0 w')) ?_ ?_
 rotate_left
 ·(
 intro i4
 refine join_ (σ := Unit) 4 #[true, true, true, true, true, true, true, true, true, true, true, true, true, true, true, true, true, false, false, false, false] (fun s_ => [(11, .int .i64 h0), (12, .int .i64 d3), (14, .int .i64 e6), (18, .int .i64 i5), (19, .int .i64 h3), (21, .int .i64 g5), (23, .bool g0), (13, .int .i64 (wrap64 (d3 + 1))), (20, .int .i64 (wrap64 (h3 + 1)))]) (fun s_ w' => (w'.cell? ⟨a4, 0, none⟩ = some (.int .i64 b1) ∧ w'.cell? ⟨a4, 1, none⟩ = some (.int .i64 b2)) ∧ (w'.heap[a7]? = some (.cells #[.int .i64 0, .int .i64 0] 25 (0, 0))) ∧ (w'.heap[a2]? = some (.cells #[.int .i64 0, .int .i64 0, .bool false, .bool false] 27 (0, 0))) ∧ (w'.heap[a4]? = some (.cells #[.int .i64 b1, .int .i64 b2] 25 (0, 0))) ∧ (IsS73 w0 w' g s0_0 k4 k5) ∧ (KeepBut w w' g none) ∧ (Below w0.heap.size w0 w')) ?_ ?_
 rotate_left
 ·(
 intro k8
 refine join_ (σ := Nat) 4 #[true, true, true, true, true, true, true, true, true, true, true, true, true, true, true, false, true, false, false, true, false] (fun s_ => [(11, .int .i64 h0), (12, .int .i64 d3), (14, .int .i64 e6), (18, .int .i64 i5), (19, .int .i64 h3), (21, .int .i64 g5), (5, .pointer (some ⟨s_, 0, none⟩)), (13, .int .i64 (wrap64 (d3 + 1))), (20, .int .i64 (wrap64 (h3 + 1)))]) (fun s_ w' => (w'.cell? ⟨a4, 0, none⟩ = some (.int .i64 b1) ∧ w'.cell? ⟨a4, 1, none⟩ = some (.int .i64 b2)) ∧ (w'.heap[a7]? = some (.cells #[.int .i64 0, .int .i64 0] 25 (0, 0))) ∧ (w'.heap[a2]? = some (.cells #[.int .i64 0, .int .i64 0, .bool false, .bool false] 27 (0, 0))) ∧ (w'.heap[a4]? = some (.cells #[.int .i64 b1, .int .i64 b2] 25 (0, 0))) ∧ (w'.heap[s_]? = some (.cells #[.int .i64 0, .int .i64 0, .bool false, .bool false] 27 (0, 0))) ∧ (w.heap.size ≤ s_) ∧ (w0.heap.size ≤ s_) ∧ (g ≠ s_) ∧ (s_ ≠ g) ∧ (a7 ≠ s_) ∧ (s_ ≠ a7) ∧ (a2 ≠ s_) ∧ (s_ ≠ a2) ∧ (a4 ≠ s_) ∧ (s_ ≠ a4) ∧ (IsS73 w0 w' g s0_0 k2 k3) ∧ (KeepBut w w' g none) ∧ (Below w0.heap.size w0 w')) ?_ ?_
 rotate_left
 ·(
 intro i9
 refine join_ (σ := Unit) 5 #[true, true, true, true, true, true, true, true, true, true, true, true, true, true, true, false, true, false, false, false, false] (fun s_ => [(11, .int .i64 h0), (12, .int .i64 d3), (14, .int .i64 e6), (18, .int .i64 i5), (19, .int .i64 h3), (21, .int .i64 g5), (13, .int .i64 (wrap64 (d3 + 1))), (20, .int .i64 (wrap64 (h3 + 1)))]) (fun s_ w' => (w'.cell? ⟨a4, 0, none⟩ = some (.int .i64 b1) ∧ w'.cell? ⟨a4, 1, none⟩ = some (.int .i64 b2)) ∧ (w'.heap[a7]? = some (.cells #[.int .i64 0, .int .i64 0] 25 (0, 0))) ∧ (w'.heap[a2]? = some (.cells #[.int .i64 0, .int .i64 0, .bool false, .bool false] 27 (0, 0))) ∧ (w'.heap[a4]? = some (.cells #[.int .i64 b1, .int .i64 b2] 25 (0, 0))) ∧ (IsS73 w0 w' g s0_0 k2 k3) ∧ (KeepBut w w' g none) ∧ (Below w0.heap.size w0 w')) ?_ ?_
 rotate_left
 ·(
 intro o6
 refine join_ (σ := Nat) 5 #[true, true, true, true, true, true, true, true, true, true, true, true, true, false, true, false, true, false, false, true, false] (fun s_ => [(11, .int .i64 h0), (12, .int .i64 d3), (14, .int .i64 e6), (18, .int .i64 i5), (19, .int .i64 h3), (5, .pointer (some ⟨s_, 0, none⟩)), (13, .int .i64 (wrap64 (d3 + 1))), (20, .int .i64 (wrap64 (h3 + 1)))]) (fun s_ w' => (w'.cell? ⟨a4, 0, none⟩ = some (.int .i64 b1) ∧ w'.cell? ⟨a4, 1, none⟩ = some (.int .i64 b2)) ∧ (w'.heap[a7]? = some (.cells #[.int .i64 0, .int .i64 0] 25 (0, 0))) ∧ (w'.heap[a2]? = some (.cells #[.int .i64 0, .int .i64 0, .bool false, .bool false] 27 (0, 0))) ∧ (w'.heap[a4]? = some (.cells #[.int .i64 b1, .int .i64 b2] 25 (0, 0))) ∧ (w'.heap[s_]? = some (.cells #[.int .i64 0, .int .i64 0, .bool false, .bool false] 27 (0, 0))) ∧ (w.heap.size ≤ s_) ∧ (w0.heap.size ≤ s_) ∧ (g ≠ s_) ∧ (s_ ≠ g) ∧ (a7 ≠ s_) ∧ (s_ ≠ a7) ∧ (a2 ≠ s_) ∧ (s_ ≠ a2) ∧ (a4 ≠ s_) ∧ (s_ ≠ a4) ∧ (IsS73 w0 w' g s0_0 h1 h2) ∧ (KeepBut w w' g none) ∧ (Below w0.heap.size w0 w')) ?_ ?_
 rotate_left
 ·(
 intro j9
 refine join_ (σ := Unit) 6 #[true, true, true, true, true, true, true, true, true, true, true, true, true, false, true, false, true, false, false, false, false] (fun s_ => [(11, .int .i64 h0), (12, .int .i64 d3), (14, .int .i64 e6), (18, .int .i64 i5), (19, .int .i64 h3), (13, .int .i64 (wrap64 (d3 + 1))), (20, .int .i64 (wrap64 (h3 + 1)))]) (fun s_ w' => (w'.cell? ⟨a4, 0, none⟩ = some (.int .i64 b1) ∧ w'.cell? ⟨a4, 1, none⟩ = some (.int .i64 b2)) ∧ (w'.heap[a7]? = some (.cells #[.int .i64 0, .int .i64 0] 25 (0, 0))) ∧ (w'.heap[a2]? = some (.cells #[.int .i64 0, .int .i64 0, .bool false, .bool false] 27 (0, 0))) ∧ (w'.heap[a4]? = some (.cells #[.int .i64 b1, .int .i64 b2] 25 (0, 0))) ∧ (IsS73 w0 w' g s0_0 h1 h2) ∧ (KeepBut w w' g none) ∧ (Below w0.heap.size w0 w')) ?_ ?_
 rotate_left
 ·(
 intro p2
 refine join_ (σ := Nat) 7 #[true, true, true, true, true, true, true, true, true, true, true, false, false, false, true, false, true, false, false, true, false] (fun s_ => [(11, .int .i64 h0), (12, .int .i64 d3), (14, .int .i64 e6), (18, .int .i64 i5), (5, .pointer (some ⟨s_, 0, none⟩)), (13, .int .i64 (wrap64 (d3 + 1)))]) (fun s_ w' => (w'.cell? ⟨a4, 0, none⟩ = some (.int .i64 b1) ∧ w'.cell? ⟨a4, 1, none⟩ = some (.int .i64 b2)) ∧ (w'.heap[a7]? = some (.cells #[.int .i64 0, .int .i64 0] 25 (0, 0))) ∧ (w'.heap[a2]? = some (.cells #[.int .i64 0, .int .i64 0, .bool false, .bool false] 27 (0, 0))) ∧ (w'.heap[a4]? = some (.cells #[.int .i64 b1, .int .i64 b2] 25 (0, 0))) ∧ (w'.heap[s_]? = some (.cells #[.int .i64 0, .int .i64 0, .bool false, .bool false] 27 (0, 0))) ∧ (w.heap.size ≤ s_) ∧ (w0.heap.size ≤ s_) ∧ (g ≠ s_) ∧ (s_ ≠ g) ∧ (a7 ≠ s_) ∧ (s_ ≠ a7) ∧ (a2 ≠ s_) ∧ (s_ ≠ a2) ∧ (a4 ≠ s_) ∧ (s_ ≠ a4) ∧ (IsS73 w0 w' g s0_0 h1 h2) ∧ (KeepBut w w' g none) ∧ (Below w0.heap.size w0 w')) ?_ ?_
 rotate_left
 ·(
 intro k6
 refine join_ (σ := Unit) 8 #[true, true, true, true, true, true, true, true, true, true, true, false, false, false, true, false, true, false, false, false, false] (fun s_ => [(11, .int .i64 h0), (12, .int .i64 d3), (14, .int .i64 e6), (18, .int .i64 i5), (13, .int .i64 (wrap64 (d3 + 1)))]) (fun s_ w' => (w'.cell? ⟨a4, 0, none⟩ = some (.int .i64 b1) ∧ w'.cell? ⟨a4, 1, none⟩ = some (.int .i64 b2)) ∧ (w'.heap[a7]? = some (.cells #[.int .i64 0, .int .i64 0] 25 (0, 0))) ∧ (w'.heap[a2]? = some (.cells #[.int .i64 0, .int .i64 0, .bool false, .bool false] 27 (0, 0))) ∧ (w'.heap[a4]? = some (.cells #[.int .i64 b1, .int .i64 b2] 25 (0, 0))) ∧ (IsS73 w0 w' g s0_0 h1 h2) ∧ (KeepBut w w' g none) ∧ (Below w0.heap.size w0 w')) ?_ ?_
 rotate_left
 ·(
 intro s4
 refine join_ (σ := Nat) 8 #[true, true, true, true, true, true, true, true, true, true, false, false, false, false, true, false, true, false, false, true, false] (fun s_ => [(11, .int .i64 h0), (12, .int .i64 d3), (14, .int .i64 e6), (5, .pointer (some ⟨s_, 0, none⟩)), (13, .int .i64 (wrap64 (d3 + 1)))]) (fun s_ w' => (w'.cell? ⟨a4, 0, none⟩ = some (.int .i64 b1) ∧ w'.cell? ⟨a4, 1, none⟩ = some (.int .i64 b2)) ∧ (w'.heap[a7]? = some (.cells #[.int .i64 0, .int .i64 0] 25 (0, 0))) ∧ (w'.heap[a2]? = some (.cells #[.int .i64 0, .int .i64 0, .bool false, .bool false] 27 (0, 0))) ∧ (w'.heap[a4]? = some (.cells #[.int .i64 b1, .int .i64 b2] 25 (0, 0))) ∧ (w'.heap[s_]? = some (.cells #[.int .i64 0, .int .i64 0, .bool false, .bool false] 27 (0, 0))) ∧ (w.heap.size ≤ s_) ∧ (w0.heap.size ≤ s_) ∧ (g ≠ s_) ∧ (s_ ≠ g) ∧ (a7 ≠ s_) ∧ (s_ ≠ a7) ∧ (a2 ≠ s_) ∧ (s_ ≠ a2) ∧ (a4 ≠ s_) ∧ (s_ ≠ a4) ∧ (IsS73 w0 w' g s0_0 h1 h2) ∧ (KeepBut w w' g none) ∧ (Below w0.heap.size w0 w')) ?_ ?_
 rotate_left
 ·(
 intro o7
 refine join_ (σ := Unit) 9 #[true, true, true, true, true, true, true, true, true, true, false, false, false, false, true, false, true, false, false, false, false] (fun s_ => [(11, .int .i64 h0), (12, .int .i64 d3), (14, .int .i64 e6), (13, .int .i64 (wrap64 (d3 + 1)))]) (fun s_ w' => (w'.cell? ⟨a4, 0, none⟩ = some (.int .i64 b1) ∧ w'.cell? ⟨a4, 1, none⟩ = some (.int .i64 b2)) ∧ (w'.heap[a7]? = some (.cells #[.int .i64 0, .int .i64 0] 25 (0, 0))) ∧ (w'.heap[a2]? = some (.cells #[.int .i64 0, .int .i64 0, .bool false, .bool false] 27 (0, 0))) ∧ (w'.heap[a4]? = some (.cells #[.int .i64 b1, .int .i64 b2] 25 (0, 0))) ∧ (IsS73 w0 w' g s0_0 h1 h2) ∧ (KeepBut w w' g none) ∧ (Below w0.heap.size w0 w')) ?_ ?_
 rotate_left
 ·(
 intro v6
 refine join_ (σ := Nat) 9 #[true, true, true, true, true, true, false, true, true, true, false, false, false, false, true, false, true, false, false, true, false] (fun s_ => [(11, .int .i64 h0), (12, .int .i64 d3), (5, .pointer (some ⟨s_, 0, none⟩)), (13, .int .i64 (wrap64 (d3 + 1)))]) (fun s_ w' => (w'.cell? ⟨a4, 0, none⟩ = some (.int .i64 b1) ∧ w'.cell? ⟨a4, 1, none⟩ = some (.int .i64 b2)) ∧ (w'.heap[a7]? = some (.cells #[.int .i64 0, .int .i64 0] 25 (0, 0))) ∧ (w'.heap[a2]? = some (.cells #[.int .i64 0, .int .i64 0, .bool false, .bool false] 27 (0, 0))) ∧ (w'.heap[a4]? = some (.cells #[.int .i64 b1, .int .i64 b2] 25 (0, 0))) ∧ (w'.heap[s_]? = some (.cells #[.int .i64 0, .int .i64 0, .bool false, .bool false] 27 (0, 0))) ∧ (w.heap.size ≤ s_) ∧ (w0.heap.size ≤ s_) ∧ (g ≠ s_) ∧ (s_ ≠ g) ∧ (a7 ≠ s_) ∧ (s_ ≠ a7) ∧ (a2 ≠ s_) ∧ (s_ ≠ a2) ∧ (a4 ≠ s_) ∧ (s_ ≠ a4) ∧ (IsS73 w0 w' g s0_0 g8 g9) ∧ (KeepBut w w' g none) ∧ (Below w0.heap.size w0 w')) ?_ ?_
 rotate_left
 ·(
 intro q1
 refine join_ (σ := Unit) 10 #[true, true, true, true, true, true, false, true, true, true, false, false, false, false, true, false, true, false, false, false, false] (fun s_ => [(11, .int .i64 h0), (12, .int .i64 d3), (13, .int .i64 (wrap64 (d3 + 1)))]) (fun s_ w' => (w'.cell? ⟨a4, 0, none⟩ = some (.int .i64 b1) ∧ w'.cell? ⟨a4, 1, none⟩ = some (.int .i64 b2)) ∧ (w'.heap[a7]? = some (.cells #[.int .i64 0, .int .i64 0] 25 (0, 0))) ∧ (w'.heap[a2]? = some (.cells #[.int .i64 0, .int .i64 0, .bool false, .bool false] 27 (0, 0))) ∧ (w'.heap[a4]? = some (.cells #[.int .i64 b1, .int .i64 b2] 25 (0, 0))) ∧ (IsS73 w0 w' g s0_0 g8 g9) ∧ (KeepBut w w' g none) ∧ (Below w0.heap.size w0 w')) ?_ ?_
 rotate_left
 ·(
 intro x1
 refine join_ (σ := Nat) 11 #[true, true, true, true, false, false, false, true, true, true, false, false, false, false, true, false, true, false, false, true, false] (fun s_ => [(11, .int .i64 h0), (5, .pointer (some ⟨s_, 0, none⟩))]) (fun s_ w' => (w'.cell? ⟨a4, 0, none⟩ = some (.int .i64 b1) ∧ w'.cell? ⟨a4, 1, none⟩ = some (.int .i64 b2)) ∧ (w'.heap[a7]? = some (.cells #[.int .i64 0, .int .i64 0] 25 (0, 0))) ∧ (w'.heap[a2]? = some (.cells #[.int .i64 0, .int .i64 0, .bool false, .bool false] 27 (0, 0))) ∧ (w'.heap[a4]? = some (.cells #[.int .i64 b1, .int .i64 b2] 25 (0, 0))) ∧ (w'.heap[s_]? = some (.cells #[.int .i64 0, .int .i64 0, .bool false, .bool false] 27 (0, 0))) ∧ (w.heap.size ≤ s_) ∧ (w0.heap.size ≤ s_) ∧ (g ≠ s_) ∧ (s_ ≠ g) ∧ (a7 ≠ s_) ∧ (s_ ≠ a7) ∧ (a2 ≠ s_) ∧ (s_ ≠ a2) ∧ (a4 ≠ s_) ∧ (s_ ≠ a4) ∧ (IsS73 w0 w' g s0_0 g8 g9) ∧ (KeepBut w w' g none) ∧ (Below w0.heap.size w0 w')) ?_ ?_
 rotate_left
 ·(
 intro s5
 refine join_ (σ := Unit) 12 #[true, true, true, true, false, false, false, true, true, true, false, false, false, false, true, false, true, false, false, false, false] (fun s_ => [(11, .int .i64 h0)]) (fun s_ w' => (w'.cell? ⟨a4, 0, none⟩ = some (.int .i64 b1) ∧ w'.cell? ⟨a4, 1, none⟩ = some (.int .i64 b2)) ∧ (w'.heap[a7]? = some (.cells #[.int .i64 0, .int .i64 0] 25 (0, 0))) ∧ (w'.heap[a2]? = some (.cells #[.int .i64 0, .int .i64 0, .bool false, .bool false] 27 (0, 0))) ∧ (w'.heap[a4]? = some (.cells #[.int .i64 b1, .int .i64 b2] 25 (0, 0))) ∧ (IsS73 w0 w' g s0_0 g8 g9) ∧ (KeepBut w w' g none) ∧ (Below w0.heap.size w0 w')) ?_ ?_
 rotate_left
 ·(
 intro y5
 refine join_ (σ := Nat) 12 #[true, true, true, false, false, false, false, true, true, true, false, false, false, false, true, false, true, false, false, true, false] (fun s_ => [(5, .pointer (some ⟨s_, 0, none⟩))]) (fun s_ w' => (w'.cell? ⟨a4, 0, none⟩ = some (.int .i64 b1) ∧ w'.cell? ⟨a4, 1, none⟩ = some (.int .i64 b2)) ∧ (w'.heap[a7]? = some (.cells #[.int .i64 0, .int .i64 0] 25 (0, 0))) ∧ (w'.heap[a2]? = some (.cells #[.int .i64 0, .int .i64 0, .bool false, .bool false] 27 (0, 0))) ∧ (w'.heap[a4]? = some (.cells #[.int .i64 b1, .int .i64 b2] 25 (0, 0))) ∧ (w'.heap[s_]? = some (.cells #[.int .i64 0, .int .i64 0, .bool false, .bool false] 27 (0, 0))) ∧ (w.heap.size ≤ s_) ∧ (w0.heap.size ≤ s_) ∧ (g ≠ s_) ∧ (s_ ≠ g) ∧ (a7 ≠ s_) ∧ (s_ ≠ a7) ∧ (a2 ≠ s_) ∧ (s_ ≠ a2) ∧ (a4 ≠ s_) ∧ (s_ ≠ a4) ∧ (IsS73 w0 w' g s0_0 g8 g9) ∧ (KeepBut w w' g none) ∧ (Below w0.heap.size w0 w')) ?_ ?_
 rotate_left
 ·(
 intro y6
 refine two_ (i := 3) (j := 19) (Ni := some 11) (Nj := some 5) #[true, true, true, true, false, false, false, true, true, true, false, false, false, false, true, false, true, false, false, false, false] #[true, true, true, false, false, false, false, true, true, true, false, false, false, false, true, false, true, false, false, true, false] rfl rfl rfl rfl (two_of HT_.out kr) (by decide) (by decide) (fun K hK => ?_) (fun K hK => ?_)
 ·(
 skip
 refine goes_ Tryz.func80 kr rfl #[.int .i64 0, .int .i64 b1] (by rfl) rfl rfl sM ?_
 with_reducible refine (spec_l1Most.calls 0 b1 h0 _ A3.out).mono ?_
 rintro e w' ⟨rfl, ⟨nd, rfl⟩⟩
 refine ⟨_, rfl, ?_⟩
 refine hK.out _ _ cS (fun hHeld => ?_)
 clear hK K
 refine norm_ (a' := ?_) ?_ ?_
 rotate_left
 · show Act.put _ (some 11) _ = _
   simp only [Act.put, List.setIfInBounds_toArray, List.set_cons_zero, List.set_cons_succ, i64_w, i32_w]
   rfl
 exact norm_ (by first | (simp only [putAll, Act.put, List.setIfInBounds_toArray, List.set_cons_zero, List.set_cons_succ]; done) | (simp only [putAll, Act.put, List.setIfInBounds_toArray, List.set_cons_zero, List.set_cons_succ]; rfl)) (y5 () _ ⟨hHeld, (bK a6), (bK a3), (bK a8), kI, kK, bI⟩)
 )
 ·(
 skip
 refine box_step ?hg (N := 5) ?hd (cs := #[.int .i64 0, .int .i64 0, .bool false, .bool false]) (t := 27) ?hr ?_; (case hd => rfl); (case hg => rfl); (case hr => first | (go_simp; done) | (go_simp; rfl))
 intro a1 hg j2 hbox hb
 have b4 := Aside0.mk (hbox)
 have d4 := (kS HK hg)
 have d5 := (kE l5 HK hg)
 have b3 := bL a6 hg
 have a5 := bM a6 hg
 have a9 := bL a3 hg
 have a0 := bM a3 hg
 have b5 := bL a8 hg
 have b6 := bM a8 hg
 have b7 := Aside0.mk ((by rw [hg]; exact Nat.ne_of_lt (IsS73.lt (show IsS73 w0 _ g s0_0 g8 g9 from by repeat (first | (with_reducible first | exact HI0.out | apply IsS73.alloc | apply IsS73.drewN | apply IsS73.drew | apply IsS73.set_1 | apply IsS73.set_2 | refine IsS73.far ?_ c8.out _ | refine IsS73.far ?_ c9.out _ | refine IsS73.far ?_ d2.out _) | exact HI0.out))) : g ≠ a1))
 have b8 := Aside0.mk ((by rw [hg]; exact Nat.ne_of_gt (IsS73.lt (show IsS73 w0 _ g s0_0 g8 g9 from by repeat (first | (with_reducible first | exact HI0.out | apply IsS73.alloc | apply IsS73.drewN | apply IsS73.drew | apply IsS73.set_1 | apply IsS73.set_2 | refine IsS73.far ?_ c8.out _ | refine IsS73.far ?_ c9.out _ | refine IsS73.far ?_ d2.out _) | exact HI0.out))) : a1 ≠ g))
 replace HI0 := Aside0.mk (IsS73.below kI hb)
 replace a6 := bQ a6 hb
 replace a3 := bQ a3 hb
 replace a8 := bQ a8 hb
 replace HK := Aside0.mk (KeepBut.trans (w := w) kK (KeepBut.of_below hb g none) (.inl rfl))
 replace HB := Aside0.mk (below_step bI hb)
 clear hb hbox hg
 refine hK.out _ _ cS (fun hHeld => ?_)
 clear hK K
 refine norm_ (a' := ?_) ?_ ?_
 rotate_left
 · show Act.put _ (some 5) _ = _
   simp only [Act.put, List.setIfInBounds_toArray, List.set_cons_zero, List.set_cons_succ, i64_w, i32_w]
   rfl
 exact norm_ (by first | (simp only [putAll, Act.put, List.setIfInBounds_toArray, List.set_cons_zero, List.set_cons_succ]; done) | (simp only [putAll, Act.put, List.setIfInBounds_toArray, List.set_cons_zero, List.set_cons_succ]; rfl)) (y6 (a1) _ ⟨hHeld, (bK a6), (bK a3), (bK a8), (bK b4), d4.out, d5.out, b7.out, b8.out, b3.out, a5.out, a9.out, a0.out, b5.out, b6.out, kI, kK, bI⟩)
 )
 )
 ·(
 skip
 rintro a1 d0 ⟨hS_, c2, c3, c4, c5, c6, c7, e7, e8, e9, d7, d8, d9, e0, e1, e2, e3, e4⟩
 have b4 : Aside0 (d0.heap[a1]? = some (.cells #[.int .i64 0, .int .i64 0, .bool false, .bool false] 27 (0, 0))) := ⟨c5⟩
 have d4 : Aside0 (w.heap.size ≤ a1) := ⟨c6⟩
 have d5 : Aside0 (w0.heap.size ≤ a1) := ⟨c7⟩
 have b7 : Aside0 (g ≠ a1) := ⟨e7⟩
 have b8 : Aside0 (a1 ≠ g) := ⟨e8⟩
 have b3 : Aside0 (a7 ≠ a1) := ⟨e9⟩
 have a5 : Aside0 (a1 ≠ a7) := ⟨d7⟩
 have a9 : Aside0 (a2 ≠ a1) := ⟨d8⟩
 have a0 : Aside0 (a1 ≠ a2) := ⟨d9⟩
 have b5 : Aside0 (a4 ≠ a1) := ⟨e0⟩
 have b6 : Aside0 (a1 ≠ a4) := ⟨e1⟩
 replace a6 : Aside0 (d0.heap[a7]? = some (.cells #[.int .i64 0, .int .i64 0] 25 (0, 0))) := ⟨c2⟩
 replace a3 : Aside0 (d0.heap[a2]? = some (.cells #[.int .i64 0, .int .i64 0, .bool false, .bool false] 27 (0, 0))) := ⟨c3⟩
 replace a8 : Aside0 (d0.heap[a4]? = some (.cells #[.int .i64 b1, .int .i64 b2] 25 (0, 0))) := ⟨c4⟩
 replace HI0 : Aside0 (IsS73 w0 d0 g s0_0 g8 g9) := ⟨e2⟩
 replace HK : Aside0 (KeepBut w d0 g none) := ⟨e3⟩
 replace HB : Aside0 (Below w0.heap.size w0 d0) := ⟨e4⟩
 clear c2 c3 c4 c5 c6 c7 e7 e8 e9 d7 d8 d9 e0 e1 e2 e3 e4
 have hHeld : d0.cell? ⟨a4, 0, none⟩ = some (.int .i64 b1) ∧ d0.cell? ⟨a4, 1, none⟩ = some (.int .i64 b2) := hS_
 refine norm_ (a' := ?_) ?_ ?_
 rotate_left
 ·(
 simp only [putAll, Act.put, List.setIfInBounds_toArray, List.set_cons_zero, List.set_cons_succ]
 rfl
 )
 refine one_ (i := 3) (N := some 11) #[true, true, true, true, false, false, false, true, true, true, false, false, false, false, true, false, true, false, false, true, false] rfl rfl (one_of HT_.out kr) (by decide) (fun K hK => ?_)
 refine goes_ Tryz.func80 kr rfl #[.int .i64 0, .int .i64 b1] (by rfl) rfl rfl sM ?_
 with_reducible refine (spec_l1Most.calls 0 b1 h0 _ A3.out).mono ?_
 rintro e w' ⟨rfl, ⟨nd, rfl⟩⟩
 refine ⟨_, rfl, ?_⟩
 refine hK.out _ _ cS (fun hHeld => ?_)
 clear hK K
 refine norm_ (a' := ?_) ?_ ?_
 rotate_left
 · show Act.put _ (some 11) _ = _
   simp only [Act.put, List.setIfInBounds_toArray, List.set_cons_zero, List.set_cons_succ, i64_w, i32_w]
   rfl
 exact norm_ (by first | (simp only [putAll, Act.put, List.setIfInBounds_toArray, List.set_cons_zero, List.set_cons_succ]; done) | (simp only [putAll, Act.put, List.setIfInBounds_toArray, List.set_cons_zero, List.set_cons_succ]; rfl)) (s5 (a1) _ ⟨hHeld, (bK a6), (bK a3), (bK a8), (bK b4), d4.out, d5.out, b7.out, b8.out, b3.out, a5.out, a9.out, a0.out, b5.out, b6.out, kI, kK, bI⟩)
 )
 )
 ·(
 skip
 rintro _ j2 ⟨hS_, c2, c3, c4, c5, c6, c7⟩
 replace a6 : Aside0 (j2.heap[a7]? = some (.cells #[.int .i64 0, .int .i64 0] 25 (0, 0))) := ⟨c2⟩
 replace a3 : Aside0 (j2.heap[a2]? = some (.cells #[.int .i64 0, .int .i64 0, .bool false, .bool false] 27 (0, 0))) := ⟨c3⟩
 replace a8 : Aside0 (j2.heap[a4]? = some (.cells #[.int .i64 b1, .int .i64 b2] 25 (0, 0))) := ⟨c4⟩
 replace HI0 : Aside0 (IsS73 w0 j2 g s0_0 g8 g9) := ⟨c5⟩
 replace HK : Aside0 (KeepBut w j2 g none) := ⟨c6⟩
 replace HB : Aside0 (Below w0.heap.size w0 j2) := ⟨c7⟩
 clear c2 c3 c4 c5 c6 c7
 have hHeld : j2.cell? ⟨a4, 0, none⟩ = some (.int .i64 b1) ∧ j2.cell? ⟨a4, 1, none⟩ = some (.int .i64 b2) := hS_
 refine norm_ (a' := ?_) ?_ ?_
 rotate_left
 ·(
 simp only [putAll, Act.put, List.setIfInBounds_toArray, List.set_cons_zero, List.set_cons_succ]
 rfl
 )
 refine two_ (i := 4) (j := 19) (Ni := some 12) (Nj := some 5) #[true, true, true, true, true, false, false, true, true, true, false, false, false, false, true, false, true, false, false, false, false] #[true, true, true, true, false, false, false, true, true, true, false, false, false, false, true, false, true, false, false, true, false] rfl rfl rfl rfl (two_of HT_.out kr) (by decide) (by decide) (fun K hK => ?_) (fun K hK => ?_)
 ·(
 skip
 refine goes_ Tryz.func79 kr rfl #[.int .i64 60, .int .i64 h0] (by rfl) rfl rfl sM ?_
 with_reducible refine (spec_l1Least.calls 60 h0 d3 _ A4.out).mono ?_
 rintro e w' ⟨rfl, ⟨nd, rfl⟩⟩
 refine ⟨_, rfl, ?_⟩
 refine hK.out _ _ cS (fun hHeld => ?_)
 clear hK K
 refine norm_ (a' := ?_) ?_ ?_
 rotate_left
 · show Act.put _ (some 12) _ = _
   simp only [Act.put, List.setIfInBounds_toArray, List.set_cons_zero, List.set_cons_succ, i64_w, i32_w]
   rfl
 refine pure_ (i := 5) (N := some 13) (v := ?_) (a' := ?_) #[true, true, true, true, true, true, false, true, true, true, false, false, false, false, true, false, true, false, false, false, false] rfl rfl (any_of HT_.out kr) (fun _ _ _ h => h) (Or.inl ⟨by rfl, ?_⟩) ?_ ?_
 rotate_left
 ·(
 intro w'
 go_simp
 with_reducible rfl
 )
 rotate_left
 ·(
 simp only [Act.put, List.setIfInBounds_toArray, List.set_cons_zero, List.set_cons_succ, i64_w, i32_w]
 rfl
 )
 exact norm_ (by first | (simp only [putAll, Act.put, List.setIfInBounds_toArray, List.set_cons_zero, List.set_cons_succ]; done) | (simp only [putAll, Act.put, List.setIfInBounds_toArray, List.set_cons_zero, List.set_cons_succ]; rfl)) (x1 () _ ⟨hHeld, (bK a6), (bK a3), (bK a8), kI, kK, bI⟩)
 )
 ·(
 skip
 refine box_step ?hg (N := 5) ?hd (cs := #[.int .i64 0, .int .i64 0, .bool false, .bool false]) (t := 27) ?hr ?_; (case hd => rfl); (case hg => rfl); (case hr => first | (go_simp; done) | (go_simp; rfl))
 intro a1 hg d0 hbox hb
 have b4 := Aside0.mk (hbox)
 have d4 := (kS HK hg)
 have d5 := (kE l5 HK hg)
 have b3 := bL a6 hg
 have a5 := bM a6 hg
 have a9 := bL a3 hg
 have a0 := bM a3 hg
 have b5 := bL a8 hg
 have b6 := bM a8 hg
 have b7 := Aside0.mk ((by rw [hg]; exact Nat.ne_of_lt (IsS73.lt (show IsS73 w0 _ g s0_0 g8 g9 from by repeat (first | (with_reducible first | exact HI0.out | apply IsS73.alloc | apply IsS73.drewN | apply IsS73.drew | apply IsS73.set_1 | apply IsS73.set_2 | refine IsS73.far ?_ c8.out _ | refine IsS73.far ?_ c9.out _ | refine IsS73.far ?_ d2.out _) | exact HI0.out))) : g ≠ a1))
 have b8 := Aside0.mk ((by rw [hg]; exact Nat.ne_of_gt (IsS73.lt (show IsS73 w0 _ g s0_0 g8 g9 from by repeat (first | (with_reducible first | exact HI0.out | apply IsS73.alloc | apply IsS73.drewN | apply IsS73.drew | apply IsS73.set_1 | apply IsS73.set_2 | refine IsS73.far ?_ c8.out _ | refine IsS73.far ?_ c9.out _ | refine IsS73.far ?_ d2.out _) | exact HI0.out))) : a1 ≠ g))
 replace HI0 := Aside0.mk (IsS73.below kI hb)
 replace a6 := bQ a6 hb
 replace a3 := bQ a3 hb
 replace a8 := bQ a8 hb
 replace HK := Aside0.mk (KeepBut.trans (w := w) kK (KeepBut.of_below hb g none) (.inl rfl))
 replace HB := Aside0.mk (below_step bI hb)
 clear hb hbox hg
 refine hK.out _ _ cS (fun hHeld => ?_)
 clear hK K
 refine norm_ (a' := ?_) ?_ ?_
 rotate_left
 · show Act.put _ (some 5) _ = _
   simp only [Act.put, List.setIfInBounds_toArray, List.set_cons_zero, List.set_cons_succ, i64_w, i32_w]
   rfl
 exact norm_ (by first | (simp only [putAll, Act.put, List.setIfInBounds_toArray, List.set_cons_zero, List.set_cons_succ]; done) | (simp only [putAll, Act.put, List.setIfInBounds_toArray, List.set_cons_zero, List.set_cons_succ]; rfl)) (s5 (a1) _ ⟨hHeld, (bK a6), (bK a3), (bK a8), (bK b4), d4.out, d5.out, b7.out, b8.out, b3.out, a5.out, a9.out, a0.out, b5.out, b6.out, kI, kK, bI⟩)
 )
 )
 )
 ·(
 skip
 rintro a1 d0 ⟨hS_, c2, c3, c4, c5, c6, c7, e7, e8, e9, d7, d8, d9, e0, e1, e2, e3, e4⟩
 have b4 : Aside0 (d0.heap[a1]? = some (.cells #[.int .i64 0, .int .i64 0, .bool false, .bool false] 27 (0, 0))) := ⟨c5⟩
 have d4 : Aside0 (w.heap.size ≤ a1) := ⟨c6⟩
 have d5 : Aside0 (w0.heap.size ≤ a1) := ⟨c7⟩
 have b7 : Aside0 (g ≠ a1) := ⟨e7⟩
 have b8 : Aside0 (a1 ≠ g) := ⟨e8⟩
 have b3 : Aside0 (a7 ≠ a1) := ⟨e9⟩
 have a5 : Aside0 (a1 ≠ a7) := ⟨d7⟩
 have a9 : Aside0 (a2 ≠ a1) := ⟨d8⟩
 have a0 : Aside0 (a1 ≠ a2) := ⟨d9⟩
 have b5 : Aside0 (a4 ≠ a1) := ⟨e0⟩
 have b6 : Aside0 (a1 ≠ a4) := ⟨e1⟩
 replace a6 : Aside0 (d0.heap[a7]? = some (.cells #[.int .i64 0, .int .i64 0] 25 (0, 0))) := ⟨c2⟩
 replace a3 : Aside0 (d0.heap[a2]? = some (.cells #[.int .i64 0, .int .i64 0, .bool false, .bool false] 27 (0, 0))) := ⟨c3⟩
 replace a8 : Aside0 (d0.heap[a4]? = some (.cells #[.int .i64 b1, .int .i64 b2] 25 (0, 0))) := ⟨c4⟩
 replace HI0 : Aside0 (IsS73 w0 d0 g s0_0 g8 g9) := ⟨e2⟩
 replace HK : Aside0 (KeepBut w d0 g none) := ⟨e3⟩
 replace HB : Aside0 (Below w0.heap.size w0 d0) := ⟨e4⟩
 clear c2 c3 c4 c5 c6 c7 e7 e8 e9 d7 d8 d9 e0 e1 e2 e3 e4
 have hHeld : d0.cell? ⟨a4, 0, none⟩ = some (.int .i64 b1) ∧ d0.cell? ⟨a4, 1, none⟩ = some (.int .i64 b2) := hS_
 refine norm_ (a' := ?_) ?_ ?_
 rotate_left
 ·(
 simp only [putAll, Act.put, List.setIfInBounds_toArray, List.set_cons_zero, List.set_cons_succ]
 rfl
 )
 refine one_ (i := 4) (N := some 12) #[true, true, true, true, true, false, false, true, true, true, false, false, false, false, true, false, true, false, false, true, false] rfl rfl (one_of HT_.out kr) (by decide) (fun K hK => ?_)
 refine goes_ Tryz.func79 kr rfl #[.int .i64 60, .int .i64 h0] (by rfl) rfl rfl sM ?_
 with_reducible refine (spec_l1Least.calls 60 h0 d3 _ A4.out).mono ?_
 rintro e w' ⟨rfl, ⟨nd, rfl⟩⟩
 refine ⟨_, rfl, ?_⟩
 refine hK.out _ _ cS (fun hHeld => ?_)
 clear hK K
 refine norm_ (a' := ?_) ?_ ?_
 rotate_left
 · show Act.put _ (some 12) _ = _
   simp only [Act.put, List.setIfInBounds_toArray, List.set_cons_zero, List.set_cons_succ, i64_w, i32_w]
   rfl
 refine pure_ (i := 5) (N := some 13) (v := ?_) (a' := ?_) #[true, true, true, true, true, true, false, true, true, true, false, false, false, false, true, false, true, false, false, true, false] rfl rfl (any_of HT_.out kr) (fun _ _ _ h => h) (Or.inl ⟨by rfl, ?_⟩) ?_ ?_
 rotate_left
 ·(
 intro w'
 go_simp
 with_reducible rfl
 )
 rotate_left
 ·(
 simp only [Act.put, List.setIfInBounds_toArray, List.set_cons_zero, List.set_cons_succ, i64_w, i32_w]
 rfl
 )
 exact norm_ (by first | (simp only [putAll, Act.put, List.setIfInBounds_toArray, List.set_cons_zero, List.set_cons_succ]; done) | (simp only [putAll, Act.put, List.setIfInBounds_toArray, List.set_cons_zero, List.set_cons_succ]; rfl)) (q1 (a1) _ ⟨hHeld, (bK a6), (bK a3), (bK a8), (bK b4), d4.out, d5.out, b7.out, b8.out, b3.out, a5.out, a9.out, a0.out, b5.out, b6.out, kI, kK, bI⟩)
 )
 )
 ·(
 skip
 rintro _ j2 ⟨hS_, c2, c3, c4, c5, c6, c7⟩
 replace a6 : Aside0 (j2.heap[a7]? = some (.cells #[.int .i64 0, .int .i64 0] 25 (0, 0))) := ⟨c2⟩
 replace a3 : Aside0 (j2.heap[a2]? = some (.cells #[.int .i64 0, .int .i64 0, .bool false, .bool false] 27 (0, 0))) := ⟨c3⟩
 replace a8 : Aside0 (j2.heap[a4]? = some (.cells #[.int .i64 b1, .int .i64 b2] 25 (0, 0))) := ⟨c4⟩
 replace HI0 : Aside0 (IsS73 w0 j2 g s0_0 g8 g9) := ⟨c5⟩
 replace HK : Aside0 (KeepBut w j2 g none) := ⟨c6⟩
 replace HB : Aside0 (Below w0.heap.size w0 j2) := ⟨c7⟩
 clear c2 c3 c4 c5 c6 c7
 have hHeld : j2.cell? ⟨a4, 0, none⟩ = some (.int .i64 b1) ∧ j2.cell? ⟨a4, 1, none⟩ = some (.int .i64 b2) := hS_
 refine norm_ (a' := ?_) ?_ ?_
 rotate_left
 ·(
 simp only [putAll, Act.put, List.setIfInBounds_toArray, List.set_cons_zero, List.set_cons_succ]
 rfl
 )
 refine two_ (i := 6) (j := 19) (Ni := some 14) (Nj := some 5) #[true, true, true, true, true, true, true, true, true, true, false, false, false, false, true, false, true, false, false, false, false] #[true, true, true, true, true, true, false, true, true, true, false, false, false, false, true, false, true, false, false, true, false] rfl rfl rfl rfl (two_of HT_.out kr) (by decide) (by decide) (fun K hK => ?_) (fun K hK => ?_)
 ·(
 skip
 refine goes_ Tryz.func52 kr rfl #[.pointer (some ⟨g, 0, none⟩), .int .i64 (wrap64 (d3 + 1))] (by rfl) rfl rfl sM ?_
 with_reducible refine (spec_l1Cur_pick.calls g s0_0 g8 g9 (wrap64 (d3 + 1)) e6 h1 h2 w0 _ ?side1 ?side2 A5.out).mono ?_
 (case side1 => exact kI)
 (case side2 => exact bI)
 rintro e d0 ⟨rfl, hi, hb, hk⟩
 refine ⟨_, rfl, ?_⟩
 replace a6 := Aside0.mk (KeepBut.blk hk (g' := a7) (o := .cells #[.int .i64 0, .int .i64 0] 25 (0, 0)) (bK a6) g2.out (by simp))
 replace a3 := Aside0.mk (KeepBut.blk hk (g' := a2) (o := .cells #[.int .i64 0, .int .i64 0, .bool false, .bool false] 27 (0, 0)) (bK a3) g3.out (by simp))
 replace a8 := Aside0.mk (KeepBut.blk hk (g' := a4) (o := .cells #[.int .i64 b1, .int .i64 b2] 25 (0, 0)) (bK a8) g4.out (by simp))
 replace HK := Aside0.mk (KeepBut.trans (w := w) kK hk (.inl rfl))
 replace HB := Aside0.mk (hb)
 replace HI0 := Aside0.mk (hi)
 try clear hb
 (try clear hk)
 (try clear hi)
 refine hK.out _ _ cS (fun hHeld => ?_)
 clear hK K
 refine norm_ (a' := ?_) ?_ ?_
 rotate_left
 · show Act.put _ (some 14) _ = _
   simp only [Act.put, List.setIfInBounds_toArray, List.set_cons_zero, List.set_cons_succ, i64_w, i32_w]
   rfl
 exact norm_ (by first | (simp only [putAll, Act.put, List.setIfInBounds_toArray, List.set_cons_zero, List.set_cons_succ]; done) | (simp only [putAll, Act.put, List.setIfInBounds_toArray, List.set_cons_zero, List.set_cons_succ]; rfl)) (v6 () _ ⟨hHeld, (bK a6), (bK a3), (bK a8), kI, kK, bI⟩)
 )
 ·(
 skip
 refine box_step ?hg (N := 5) ?hd (cs := #[.int .i64 0, .int .i64 0, .bool false, .bool false]) (t := 27) ?hr ?_; (case hd => rfl); (case hg => rfl); (case hr => first | (go_simp; done) | (go_simp; rfl))
 intro a1 hg d0 hbox hb
 have b4 := Aside0.mk (hbox)
 have d4 := (kS HK hg)
 have d5 := (kE l5 HK hg)
 have b3 := bL a6 hg
 have a5 := bM a6 hg
 have a9 := bL a3 hg
 have a0 := bM a3 hg
 have b5 := bL a8 hg
 have b6 := bM a8 hg
 have b7 := Aside0.mk ((by rw [hg]; exact Nat.ne_of_lt (IsS73.lt (show IsS73 w0 _ g s0_0 g8 g9 from by repeat (first | (with_reducible first | exact HI0.out | apply IsS73.alloc | apply IsS73.drewN | apply IsS73.drew | apply IsS73.set_1 | apply IsS73.set_2 | refine IsS73.far ?_ c8.out _ | refine IsS73.far ?_ c9.out _ | refine IsS73.far ?_ d2.out _) | exact HI0.out))) : g ≠ a1))
 have b8 := Aside0.mk ((by rw [hg]; exact Nat.ne_of_gt (IsS73.lt (show IsS73 w0 _ g s0_0 g8 g9 from by repeat (first | (with_reducible first | exact HI0.out | apply IsS73.alloc | apply IsS73.drewN | apply IsS73.drew | apply IsS73.set_1 | apply IsS73.set_2 | refine IsS73.far ?_ c8.out _ | refine IsS73.far ?_ c9.out _ | refine IsS73.far ?_ d2.out _) | exact HI0.out))) : a1 ≠ g))
 replace HI0 := Aside0.mk (IsS73.below kI hb)
 replace a6 := bQ a6 hb
 replace a3 := bQ a3 hb
 replace a8 := bQ a8 hb
 replace HK := Aside0.mk (KeepBut.trans (w := w) kK (KeepBut.of_below hb g none) (.inl rfl))
 replace HB := Aside0.mk (below_step bI hb)
 clear hb hbox hg
 refine hK.out _ _ cS (fun hHeld => ?_)
 clear hK K
 refine norm_ (a' := ?_) ?_ ?_
 rotate_left
 · show Act.put _ (some 5) _ = _
   simp only [Act.put, List.setIfInBounds_toArray, List.set_cons_zero, List.set_cons_succ, i64_w, i32_w]
   rfl
 exact norm_ (by first | (simp only [putAll, Act.put, List.setIfInBounds_toArray, List.set_cons_zero, List.set_cons_succ]; done) | (simp only [putAll, Act.put, List.setIfInBounds_toArray, List.set_cons_zero, List.set_cons_succ]; rfl)) (q1 (a1) _ ⟨hHeld, (bK a6), (bK a3), (bK a8), (bK b4), d4.out, d5.out, b7.out, b8.out, b3.out, a5.out, a9.out, a0.out, b5.out, b6.out, kI, kK, bI⟩)
 )
 )
 )
 ·(
 skip
 rintro a1 d0 ⟨hS_, c2, c3, c4, c5, c6, c7, e7, e8, e9, d7, d8, d9, e0, e1, e2, e3, e4⟩
 have b4 : Aside0 (d0.heap[a1]? = some (.cells #[.int .i64 0, .int .i64 0, .bool false, .bool false] 27 (0, 0))) := ⟨c5⟩
 have d4 : Aside0 (w.heap.size ≤ a1) := ⟨c6⟩
 have d5 : Aside0 (w0.heap.size ≤ a1) := ⟨c7⟩
 have b7 : Aside0 (g ≠ a1) := ⟨e7⟩
 have b8 : Aside0 (a1 ≠ g) := ⟨e8⟩
 have b3 : Aside0 (a7 ≠ a1) := ⟨e9⟩
 have a5 : Aside0 (a1 ≠ a7) := ⟨d7⟩
 have a9 : Aside0 (a2 ≠ a1) := ⟨d8⟩
 have a0 : Aside0 (a1 ≠ a2) := ⟨d9⟩
 have b5 : Aside0 (a4 ≠ a1) := ⟨e0⟩
 have b6 : Aside0 (a1 ≠ a4) := ⟨e1⟩
 replace a6 : Aside0 (d0.heap[a7]? = some (.cells #[.int .i64 0, .int .i64 0] 25 (0, 0))) := ⟨c2⟩
 replace a3 : Aside0 (d0.heap[a2]? = some (.cells #[.int .i64 0, .int .i64 0, .bool false, .bool false] 27 (0, 0))) := ⟨c3⟩
 replace a8 : Aside0 (d0.heap[a4]? = some (.cells #[.int .i64 b1, .int .i64 b2] 25 (0, 0))) := ⟨c4⟩
 replace HI0 : Aside0 (IsS73 w0 d0 g s0_0 g8 g9) := ⟨e2⟩
 replace HK : Aside0 (KeepBut w d0 g none) := ⟨e3⟩
 replace HB : Aside0 (Below w0.heap.size w0 d0) := ⟨e4⟩
 clear c2 c3 c4 c5 c6 c7 e7 e8 e9 d7 d8 d9 e0 e1 e2 e3 e4
 have hHeld : d0.cell? ⟨a4, 0, none⟩ = some (.int .i64 b1) ∧ d0.cell? ⟨a4, 1, none⟩ = some (.int .i64 b2) := hS_
 refine norm_ (a' := ?_) ?_ ?_
 rotate_left
 ·(
 simp only [putAll, Act.put, List.setIfInBounds_toArray, List.set_cons_zero, List.set_cons_succ]
 rfl
 )
 refine one_ (i := 6) (N := some 14) #[true, true, true, true, true, true, true, true, true, true, false, false, false, false, true, false, true, false, false, true, false] rfl rfl (one_of HT_.out kr) (by decide) (fun K hK => ?_)
 refine goes_ Tryz.func52 kr rfl #[.pointer (some ⟨g, 0, none⟩), .int .i64 (wrap64 (d3 + 1))] (by rfl) rfl rfl sM ?_
 with_reducible refine (spec_l1Cur_pick.calls g s0_0 g8 g9 (wrap64 (d3 + 1)) e6 h1 h2 w0 _ ?side1 ?side2 A5.out).mono ?_
 (case side1 => exact kI)
 (case side2 => exact bI)
 rintro e e5 ⟨rfl, hi, hb, hk⟩
 refine ⟨_, rfl, ?_⟩
 replace a6 := Aside0.mk (KeepBut.blk hk (g' := a7) (o := .cells #[.int .i64 0, .int .i64 0] 25 (0, 0)) (bK a6) g2.out (by simp))
 replace a3 := Aside0.mk (KeepBut.blk hk (g' := a2) (o := .cells #[.int .i64 0, .int .i64 0, .bool false, .bool false] 27 (0, 0)) (bK a3) g3.out (by simp))
 replace a8 := Aside0.mk (KeepBut.blk hk (g' := a4) (o := .cells #[.int .i64 b1, .int .i64 b2] 25 (0, 0)) (bK a8) g4.out (by simp))
 replace b4 := Aside0.mk (KeepBut.blk hk (g' := a1) (o := .cells #[.int .i64 0, .int .i64 0, .bool false, .bool false] 27 (0, 0)) (bK b4) b8.out (by simp))
 replace HK := Aside0.mk (KeepBut.trans (w := w) kK hk (.inl rfl))
 replace HB := Aside0.mk (hb)
 replace HI0 := Aside0.mk (hi)
 try clear hb
 (try clear hk)
 (try clear hi)
 refine hK.out _ _ cS (fun hHeld => ?_)
 clear hK K
 refine norm_ (a' := ?_) ?_ ?_
 rotate_left
 · show Act.put _ (some 14) _ = _
   simp only [Act.put, List.setIfInBounds_toArray, List.set_cons_zero, List.set_cons_succ, i64_w, i32_w]
   rfl
 exact norm_ (by first | (simp only [putAll, Act.put, List.setIfInBounds_toArray, List.set_cons_zero, List.set_cons_succ]; done) | (simp only [putAll, Act.put, List.setIfInBounds_toArray, List.set_cons_zero, List.set_cons_succ]; rfl)) (o7 (a1) _ ⟨hHeld, (bK a6), (bK a3), (bK a8), (bK b4), d4.out, d5.out, b7.out, b8.out, b3.out, a5.out, a9.out, a0.out, b5.out, b6.out, kI, kK, bI⟩)
 )
 )
 ·(
 skip
 rintro _ d0 ⟨hS_, c2, c3, c4, c5, c6, c7⟩
 replace a6 : Aside0 (d0.heap[a7]? = some (.cells #[.int .i64 0, .int .i64 0] 25 (0, 0))) := ⟨c2⟩
 replace a3 : Aside0 (d0.heap[a2]? = some (.cells #[.int .i64 0, .int .i64 0, .bool false, .bool false] 27 (0, 0))) := ⟨c3⟩
 replace a8 : Aside0 (d0.heap[a4]? = some (.cells #[.int .i64 b1, .int .i64 b2] 25 (0, 0))) := ⟨c4⟩
 replace HI0 : Aside0 (IsS73 w0 d0 g s0_0 h1 h2) := ⟨c5⟩
 replace HK : Aside0 (KeepBut w d0 g none) := ⟨c6⟩
 replace HB : Aside0 (Below w0.heap.size w0 d0) := ⟨c7⟩
 clear c2 c3 c4 c5 c6 c7
 have hHeld : d0.cell? ⟨a4, 0, none⟩ = some (.int .i64 b1) ∧ d0.cell? ⟨a4, 1, none⟩ = some (.int .i64 b2) := hS_
 refine norm_ (a' := ?_) ?_ ?_
 rotate_left
 ·(
 simp only [putAll, Act.put, List.setIfInBounds_toArray, List.set_cons_zero, List.set_cons_succ]
 rfl
 )
 refine two_ (i := 10) (j := 19) (Ni := some 18) (Nj := some 5) #[true, true, true, true, true, true, true, true, true, true, true, false, false, false, true, false, true, false, false, false, false] #[true, true, true, true, true, true, true, true, true, true, false, false, false, false, true, false, true, false, false, true, false] rfl rfl rfl rfl (two_of HT_.out kr) (by decide) (by decide) (fun K hK => ?_) (fun K hK => ?_)
 ·(
 skip
 refine goes_ Tryz.func80 kr rfl #[.int .i64 0, .int .i64 b2] (by rfl) rfl rfl sM ?_
 with_reducible refine (spec_l1Most.calls 0 b2 i5 _ A6.out).mono ?_
 rintro e w' ⟨rfl, ⟨nd, rfl⟩⟩
 refine ⟨_, rfl, ?_⟩
 refine hK.out _ _ cS (fun hHeld => ?_)
 clear hK K
 refine norm_ (a' := ?_) ?_ ?_
 rotate_left
 · show Act.put _ (some 18) _ = _
   simp only [Act.put, List.setIfInBounds_toArray, List.set_cons_zero, List.set_cons_succ, i64_w, i32_w]
   rfl
 exact norm_ (by first | (simp only [putAll, Act.put, List.setIfInBounds_toArray, List.set_cons_zero, List.set_cons_succ]; done) | (simp only [putAll, Act.put, List.setIfInBounds_toArray, List.set_cons_zero, List.set_cons_succ]; rfl)) (s4 () _ ⟨hHeld, (bK a6), (bK a3), (bK a8), kI, kK, bI⟩)
 )
 ·(
 skip
 refine box_step ?hg (N := 5) ?hd (cs := #[.int .i64 0, .int .i64 0, .bool false, .bool false]) (t := 27) ?hr ?_; (case hd => rfl); (case hg => rfl); (case hr => first | (go_simp; done) | (go_simp; rfl))
 intro a1 hg e5 hbox hb
 have b4 := Aside0.mk (hbox)
 have d4 := (kS HK hg)
 have d5 := (kE l5 HK hg)
 have b3 := bL a6 hg
 have a5 := bM a6 hg
 have a9 := bL a3 hg
 have a0 := bM a3 hg
 have b5 := bL a8 hg
 have b6 := bM a8 hg
 have b7 := Aside0.mk ((by rw [hg]; exact Nat.ne_of_lt (IsS73.lt (show IsS73 w0 _ g s0_0 h1 h2 from by repeat (first | (with_reducible first | exact HI0.out | apply IsS73.alloc | apply IsS73.drewN | apply IsS73.drew | apply IsS73.set_1 | apply IsS73.set_2 | refine IsS73.far ?_ c8.out _ | refine IsS73.far ?_ c9.out _ | refine IsS73.far ?_ d2.out _) | exact HI0.out))) : g ≠ a1))
 have b8 := Aside0.mk ((by rw [hg]; exact Nat.ne_of_gt (IsS73.lt (show IsS73 w0 _ g s0_0 h1 h2 from by repeat (first | (with_reducible first | exact HI0.out | apply IsS73.alloc | apply IsS73.drewN | apply IsS73.drew | apply IsS73.set_1 | apply IsS73.set_2 | refine IsS73.far ?_ c8.out _ | refine IsS73.far ?_ c9.out _ | refine IsS73.far ?_ d2.out _) | exact HI0.out))) : a1 ≠ g))
 replace HI0 := Aside0.mk (IsS73.below kI hb)
 replace a6 := bQ a6 hb
 replace a3 := bQ a3 hb
 replace a8 := bQ a8 hb
 replace HK := Aside0.mk (KeepBut.trans (w := w) kK (KeepBut.of_below hb g none) (.inl rfl))
 replace HB := Aside0.mk (below_step bI hb)
 clear hb hbox hg
 refine hK.out _ _ cS (fun hHeld => ?_)
 clear hK K
 refine norm_ (a' := ?_) ?_ ?_
 rotate_left
 · show Act.put _ (some 5) _ = _
   simp only [Act.put, List.setIfInBounds_toArray, List.set_cons_zero, List.set_cons_succ, i64_w, i32_w]
   rfl
 exact norm_ (by first | (simp only [putAll, Act.put, List.setIfInBounds_toArray, List.set_cons_zero, List.set_cons_succ]; done) | (simp only [putAll, Act.put, List.setIfInBounds_toArray, List.set_cons_zero, List.set_cons_succ]; rfl)) (o7 (a1) _ ⟨hHeld, (bK a6), (bK a3), (bK a8), (bK b4), d4.out, d5.out, b7.out, b8.out, b3.out, a5.out, a9.out, a0.out, b5.out, b6.out, kI, kK, bI⟩)
 )
 )
 )
 ·(
 skip
 rintro a1 e5 ⟨hS_, c2, c3, c4, c5, c6, c7, e7, e8, e9, d7, d8, d9, e0, e1, e2, e3, e4⟩
 have b4 : Aside0 (e5.heap[a1]? = some (.cells #[.int .i64 0, .int .i64 0, .bool false, .bool false] 27 (0, 0))) := ⟨c5⟩
 have d4 : Aside0 (w.heap.size ≤ a1) := ⟨c6⟩
 have d5 : Aside0 (w0.heap.size ≤ a1) := ⟨c7⟩
 have b7 : Aside0 (g ≠ a1) := ⟨e7⟩
 have b8 : Aside0 (a1 ≠ g) := ⟨e8⟩
 have b3 : Aside0 (a7 ≠ a1) := ⟨e9⟩
 have a5 : Aside0 (a1 ≠ a7) := ⟨d7⟩
 have a9 : Aside0 (a2 ≠ a1) := ⟨d8⟩
 have a0 : Aside0 (a1 ≠ a2) := ⟨d9⟩
 have b5 : Aside0 (a4 ≠ a1) := ⟨e0⟩
 have b6 : Aside0 (a1 ≠ a4) := ⟨e1⟩
 replace a6 : Aside0 (e5.heap[a7]? = some (.cells #[.int .i64 0, .int .i64 0] 25 (0, 0))) := ⟨c2⟩
 replace a3 : Aside0 (e5.heap[a2]? = some (.cells #[.int .i64 0, .int .i64 0, .bool false, .bool false] 27 (0, 0))) := ⟨c3⟩
 replace a8 : Aside0 (e5.heap[a4]? = some (.cells #[.int .i64 b1, .int .i64 b2] 25 (0, 0))) := ⟨c4⟩
 replace HI0 : Aside0 (IsS73 w0 e5 g s0_0 h1 h2) := ⟨e2⟩
 replace HK : Aside0 (KeepBut w e5 g none) := ⟨e3⟩
 replace HB : Aside0 (Below w0.heap.size w0 e5) := ⟨e4⟩
 clear c2 c3 c4 c5 c6 c7 e7 e8 e9 d7 d8 d9 e0 e1 e2 e3 e4
 have hHeld : e5.cell? ⟨a4, 0, none⟩ = some (.int .i64 b1) ∧ e5.cell? ⟨a4, 1, none⟩ = some (.int .i64 b2) := hS_
 refine norm_ (a' := ?_) ?_ ?_
 rotate_left
 ·(
 simp only [putAll, Act.put, List.setIfInBounds_toArray, List.set_cons_zero, List.set_cons_succ]
 rfl
 )
 refine one_ (i := 10) (N := some 18) #[true, true, true, true, true, true, true, true, true, true, true, false, false, false, true, false, true, false, false, true, false] rfl rfl (one_of HT_.out kr) (by decide) (fun K hK => ?_)
 refine goes_ Tryz.func80 kr rfl #[.int .i64 0, .int .i64 b2] (by rfl) rfl rfl sM ?_
 with_reducible refine (spec_l1Most.calls 0 b2 i5 _ A6.out).mono ?_
 rintro e w' ⟨rfl, ⟨nd, rfl⟩⟩
 refine ⟨_, rfl, ?_⟩
 refine hK.out _ _ cS (fun hHeld => ?_)
 clear hK K
 refine norm_ (a' := ?_) ?_ ?_
 rotate_left
 · show Act.put _ (some 18) _ = _
   simp only [Act.put, List.setIfInBounds_toArray, List.set_cons_zero, List.set_cons_succ, i64_w, i32_w]
   rfl
 exact norm_ (by first | (simp only [putAll, Act.put, List.setIfInBounds_toArray, List.set_cons_zero, List.set_cons_succ]; done) | (simp only [putAll, Act.put, List.setIfInBounds_toArray, List.set_cons_zero, List.set_cons_succ]; rfl)) (k6 (a1) _ ⟨hHeld, (bK a6), (bK a3), (bK a8), (bK b4), d4.out, d5.out, b7.out, b8.out, b3.out, a5.out, a9.out, a0.out, b5.out, b6.out, kI, kK, bI⟩)
 )
 )
 ·(
 skip
 rintro _ d0 ⟨hS_, c2, c3, c4, c5, c6, c7⟩
 replace a6 : Aside0 (d0.heap[a7]? = some (.cells #[.int .i64 0, .int .i64 0] 25 (0, 0))) := ⟨c2⟩
 replace a3 : Aside0 (d0.heap[a2]? = some (.cells #[.int .i64 0, .int .i64 0, .bool false, .bool false] 27 (0, 0))) := ⟨c3⟩
 replace a8 : Aside0 (d0.heap[a4]? = some (.cells #[.int .i64 b1, .int .i64 b2] 25 (0, 0))) := ⟨c4⟩
 replace HI0 : Aside0 (IsS73 w0 d0 g s0_0 h1 h2) := ⟨c5⟩
 replace HK : Aside0 (KeepBut w d0 g none) := ⟨c6⟩
 replace HB : Aside0 (Below w0.heap.size w0 d0) := ⟨c7⟩
 clear c2 c3 c4 c5 c6 c7
 have hHeld : d0.cell? ⟨a4, 0, none⟩ = some (.int .i64 b1) ∧ d0.cell? ⟨a4, 1, none⟩ = some (.int .i64 b2) := hS_
 refine norm_ (a' := ?_) ?_ ?_
 rotate_left
 ·(
 simp only [putAll, Act.put, List.setIfInBounds_toArray, List.set_cons_zero, List.set_cons_succ]
 rfl
 )
 refine two_ (i := 11) (j := 19) (Ni := some 19) (Nj := some 5) #[true, true, true, true, true, true, true, true, true, true, true, true, false, false, true, false, true, false, false, false, false] #[true, true, true, true, true, true, true, true, true, true, true, false, false, false, true, false, true, false, false, true, false] rfl rfl rfl rfl (two_of HT_.out kr) (by decide) (by decide) (fun K hK => ?_) (fun K hK => ?_)
 ·(
 skip
 refine goes_ Tryz.func79 kr rfl #[.int .i64 60, .int .i64 i5] (by rfl) rfl rfl sM ?_
 with_reducible refine (spec_l1Least.calls 60 i5 h3 _ A7.out).mono ?_
 rintro e w' ⟨rfl, ⟨nd, rfl⟩⟩
 refine ⟨_, rfl, ?_⟩
 refine hK.out _ _ cS (fun hHeld => ?_)
 clear hK K
 refine norm_ (a' := ?_) ?_ ?_
 rotate_left
 · show Act.put _ (some 19) _ = _
   simp only [Act.put, List.setIfInBounds_toArray, List.set_cons_zero, List.set_cons_succ, i64_w, i32_w]
   rfl
 refine pure_ (i := 12) (N := some 20) (v := ?_) (a' := ?_) #[true, true, true, true, true, true, true, true, true, true, true, true, true, false, true, false, true, false, false, false, false] rfl rfl (any_of HT_.out kr) (fun _ _ _ h => h) (Or.inl ⟨by rfl, ?_⟩) ?_ ?_
 rotate_left
 ·(
 intro w'
 go_simp
 with_reducible rfl
 )
 rotate_left
 ·(
 simp only [Act.put, List.setIfInBounds_toArray, List.set_cons_zero, List.set_cons_succ, i64_w, i32_w]
 rfl
 )
 exact norm_ (by first | (simp only [putAll, Act.put, List.setIfInBounds_toArray, List.set_cons_zero, List.set_cons_succ]; done) | (simp only [putAll, Act.put, List.setIfInBounds_toArray, List.set_cons_zero, List.set_cons_succ]; rfl)) (p2 () _ ⟨hHeld, (bK a6), (bK a3), (bK a8), kI, kK, bI⟩)
 )
 ·(
 skip
 refine box_step ?hg (N := 5) ?hd (cs := #[.int .i64 0, .int .i64 0, .bool false, .bool false]) (t := 27) ?hr ?_; (case hd => rfl); (case hg => rfl); (case hr => first | (go_simp; done) | (go_simp; rfl))
 intro a1 hg e5 hbox hb
 have b4 := Aside0.mk (hbox)
 have d4 := (kS HK hg)
 have d5 := (kE l5 HK hg)
 have b3 := bL a6 hg
 have a5 := bM a6 hg
 have a9 := bL a3 hg
 have a0 := bM a3 hg
 have b5 := bL a8 hg
 have b6 := bM a8 hg
 have b7 := Aside0.mk ((by rw [hg]; exact Nat.ne_of_lt (IsS73.lt (show IsS73 w0 _ g s0_0 h1 h2 from by repeat (first | (with_reducible first | exact HI0.out | apply IsS73.alloc | apply IsS73.drewN | apply IsS73.drew | apply IsS73.set_1 | apply IsS73.set_2 | refine IsS73.far ?_ c8.out _ | refine IsS73.far ?_ c9.out _ | refine IsS73.far ?_ d2.out _) | exact HI0.out))) : g ≠ a1))
 have b8 := Aside0.mk ((by rw [hg]; exact Nat.ne_of_gt (IsS73.lt (show IsS73 w0 _ g s0_0 h1 h2 from by repeat (first | (with_reducible first | exact HI0.out | apply IsS73.alloc | apply IsS73.drewN | apply IsS73.drew | apply IsS73.set_1 | apply IsS73.set_2 | refine IsS73.far ?_ c8.out _ | refine IsS73.far ?_ c9.out _ | refine IsS73.far ?_ d2.out _) | exact HI0.out))) : a1 ≠ g))
 replace HI0 := Aside0.mk (IsS73.below kI hb)
 replace a6 := bQ a6 hb
 replace a3 := bQ a3 hb
 replace a8 := bQ a8 hb
 replace HK := Aside0.mk (KeepBut.trans (w := w) kK (KeepBut.of_below hb g none) (.inl rfl))
 replace HB := Aside0.mk (below_step bI hb)
 clear hb hbox hg
 refine hK.out _ _ cS (fun hHeld => ?_)
 clear hK K
 refine norm_ (a' := ?_) ?_ ?_
 rotate_left
 · show Act.put _ (some 5) _ = _
   simp only [Act.put, List.setIfInBounds_toArray, List.set_cons_zero, List.set_cons_succ, i64_w, i32_w]
   rfl
 exact norm_ (by first | (simp only [putAll, Act.put, List.setIfInBounds_toArray, List.set_cons_zero, List.set_cons_succ]; done) | (simp only [putAll, Act.put, List.setIfInBounds_toArray, List.set_cons_zero, List.set_cons_succ]; rfl)) (k6 (a1) _ ⟨hHeld, (bK a6), (bK a3), (bK a8), (bK b4), d4.out, d5.out, b7.out, b8.out, b3.out, a5.out, a9.out, a0.out, b5.out, b6.out, kI, kK, bI⟩)
 )
 )
 )
 ·(
 skip
 rintro a1 e5 ⟨hS_, c2, c3, c4, c5, c6, c7, e7, e8, e9, d7, d8, d9, e0, e1, e2, e3, e4⟩
 have b4 : Aside0 (e5.heap[a1]? = some (.cells #[.int .i64 0, .int .i64 0, .bool false, .bool false] 27 (0, 0))) := ⟨c5⟩
 have d4 : Aside0 (w.heap.size ≤ a1) := ⟨c6⟩
 have d5 : Aside0 (w0.heap.size ≤ a1) := ⟨c7⟩
 have b7 : Aside0 (g ≠ a1) := ⟨e7⟩
 have b8 : Aside0 (a1 ≠ g) := ⟨e8⟩
 have b3 : Aside0 (a7 ≠ a1) := ⟨e9⟩
 have a5 : Aside0 (a1 ≠ a7) := ⟨d7⟩
 have a9 : Aside0 (a2 ≠ a1) := ⟨d8⟩
 have a0 : Aside0 (a1 ≠ a2) := ⟨d9⟩
 have b5 : Aside0 (a4 ≠ a1) := ⟨e0⟩
 have b6 : Aside0 (a1 ≠ a4) := ⟨e1⟩
 replace a6 : Aside0 (e5.heap[a7]? = some (.cells #[.int .i64 0, .int .i64 0] 25 (0, 0))) := ⟨c2⟩
 replace a3 : Aside0 (e5.heap[a2]? = some (.cells #[.int .i64 0, .int .i64 0, .bool false, .bool false] 27 (0, 0))) := ⟨c3⟩
 replace a8 : Aside0 (e5.heap[a4]? = some (.cells #[.int .i64 b1, .int .i64 b2] 25 (0, 0))) := ⟨c4⟩
 replace HI0 : Aside0 (IsS73 w0 e5 g s0_0 h1 h2) := ⟨e2⟩
 replace HK : Aside0 (KeepBut w e5 g none) := ⟨e3⟩
 replace HB : Aside0 (Below w0.heap.size w0 e5) := ⟨e4⟩
 clear c2 c3 c4 c5 c6 c7 e7 e8 e9 d7 d8 d9 e0 e1 e2 e3 e4
 have hHeld : e5.cell? ⟨a4, 0, none⟩ = some (.int .i64 b1) ∧ e5.cell? ⟨a4, 1, none⟩ = some (.int .i64 b2) := hS_
 refine norm_ (a' := ?_) ?_ ?_
 rotate_left
 ·(
 simp only [putAll, Act.put, List.setIfInBounds_toArray, List.set_cons_zero, List.set_cons_succ]
 rfl
 )
 refine one_ (i := 11) (N := some 19) #[true, true, true, true, true, true, true, true, true, true, true, true, false, false, true, false, true, false, false, true, false] rfl rfl (one_of HT_.out kr) (by decide) (fun K hK => ?_)
 refine goes_ Tryz.func79 kr rfl #[.int .i64 60, .int .i64 i5] (by rfl) rfl rfl sM ?_
 with_reducible refine (spec_l1Least.calls 60 i5 h3 _ A7.out).mono ?_
 rintro e w' ⟨rfl, ⟨nd, rfl⟩⟩
 refine ⟨_, rfl, ?_⟩
 refine hK.out _ _ cS (fun hHeld => ?_)
 clear hK K
 refine norm_ (a' := ?_) ?_ ?_
 rotate_left
 · show Act.put _ (some 19) _ = _
   simp only [Act.put, List.setIfInBounds_toArray, List.set_cons_zero, List.set_cons_succ, i64_w, i32_w]
   rfl
 refine pure_ (i := 12) (N := some 20) (v := ?_) (a' := ?_) #[true, true, true, true, true, true, true, true, true, true, true, true, true, false, true, false, true, false, false, true, false] rfl rfl (any_of HT_.out kr) (fun _ _ _ h => h) (Or.inl ⟨by rfl, ?_⟩) ?_ ?_
 rotate_left
 ·(
 intro w'
 go_simp
 with_reducible rfl
 )
 rotate_left
 ·(
 simp only [Act.put, List.setIfInBounds_toArray, List.set_cons_zero, List.set_cons_succ, i64_w, i32_w]
 rfl
 )
 exact norm_ (by first | (simp only [putAll, Act.put, List.setIfInBounds_toArray, List.set_cons_zero, List.set_cons_succ]; done) | (simp only [putAll, Act.put, List.setIfInBounds_toArray, List.set_cons_zero, List.set_cons_succ]; rfl)) (j9 (a1) _ ⟨hHeld, (bK a6), (bK a3), (bK a8), (bK b4), d4.out, d5.out, b7.out, b8.out, b3.out, a5.out, a9.out, a0.out, b5.out, b6.out, kI, kK, bI⟩)
 )
 )
 ·(
 skip
 rintro _ d0 ⟨hS_, c2, c3, c4, c5, c6, c7⟩
 replace a6 : Aside0 (d0.heap[a7]? = some (.cells #[.int .i64 0, .int .i64 0] 25 (0, 0))) := ⟨c2⟩
 replace a3 : Aside0 (d0.heap[a2]? = some (.cells #[.int .i64 0, .int .i64 0, .bool false, .bool false] 27 (0, 0))) := ⟨c3⟩
 replace a8 : Aside0 (d0.heap[a4]? = some (.cells #[.int .i64 b1, .int .i64 b2] 25 (0, 0))) := ⟨c4⟩
 replace HI0 : Aside0 (IsS73 w0 d0 g s0_0 h1 h2) := ⟨c5⟩
 replace HK : Aside0 (KeepBut w d0 g none) := ⟨c6⟩
 replace HB : Aside0 (Below w0.heap.size w0 d0) := ⟨c7⟩
 clear c2 c3 c4 c5 c6 c7
 have hHeld : d0.cell? ⟨a4, 0, none⟩ = some (.int .i64 b1) ∧ d0.cell? ⟨a4, 1, none⟩ = some (.int .i64 b2) := hS_
 refine norm_ (a' := ?_) ?_ ?_
 rotate_left
 ·(
 simp only [putAll, Act.put, List.setIfInBounds_toArray, List.set_cons_zero, List.set_cons_succ]
 rfl
 )
 refine two_ (i := 13) (j := 19) (Ni := some 21) (Nj := some 5) #[true, true, true, true, true, true, true, true, true, true, true, true, true, true, true, false, true, false, false, false, false] #[true, true, true, true, true, true, true, true, true, true, true, true, true, false, true, false, true, false, false, true, false] rfl rfl rfl rfl (two_of HT_.out kr) (by decide) (by decide) (fun K hK => ?_) (fun K hK => ?_)
 ·(
 skip
 refine goes_ Tryz.func52 kr rfl #[.pointer (some ⟨g, 0, none⟩), .int .i64 (wrap64 (h3 + 1))] (by rfl) rfl rfl sM ?_
 with_reducible refine (spec_l1Cur_pick.calls g s0_0 h1 h2 (wrap64 (h3 + 1)) g5 k2 k3 w0 _ ?side1 ?side2 A8.out).mono ?_
 (case side1 => exact kI)
 (case side2 => exact bI)
 rintro e e5 ⟨rfl, hi, hb, hk⟩
 refine ⟨_, rfl, ?_⟩
 replace a6 := Aside0.mk (KeepBut.blk hk (g' := a7) (o := .cells #[.int .i64 0, .int .i64 0] 25 (0, 0)) (bK a6) g2.out (by simp))
 replace a3 := Aside0.mk (KeepBut.blk hk (g' := a2) (o := .cells #[.int .i64 0, .int .i64 0, .bool false, .bool false] 27 (0, 0)) (bK a3) g3.out (by simp))
 replace a8 := Aside0.mk (KeepBut.blk hk (g' := a4) (o := .cells #[.int .i64 b1, .int .i64 b2] 25 (0, 0)) (bK a8) g4.out (by simp))
 replace HK := Aside0.mk (KeepBut.trans (w := w) kK hk (.inl rfl))
 replace HB := Aside0.mk (hb)
 replace HI0 := Aside0.mk (hi)
 try clear hb
 (try clear hk)
 (try clear hi)
 refine hK.out _ _ cS (fun hHeld => ?_)
 clear hK K
 refine norm_ (a' := ?_) ?_ ?_
 rotate_left
 · show Act.put _ (some 21) _ = _
   simp only [Act.put, List.setIfInBounds_toArray, List.set_cons_zero, List.set_cons_succ, i64_w, i32_w]
   rfl
 exact norm_ (by first | (simp only [putAll, Act.put, List.setIfInBounds_toArray, List.set_cons_zero, List.set_cons_succ]; done) | (simp only [putAll, Act.put, List.setIfInBounds_toArray, List.set_cons_zero, List.set_cons_succ]; rfl)) (o6 () _ ⟨hHeld, (bK a6), (bK a3), (bK a8), kI, kK, bI⟩)
 )
 ·(
 skip
 refine box_step ?hg (N := 5) ?hd (cs := #[.int .i64 0, .int .i64 0, .bool false, .bool false]) (t := 27) ?hr ?_; (case hd => rfl); (case hg => rfl); (case hr => first | (go_simp; done) | (go_simp; rfl))
 intro a1 hg e5 hbox hb
 have b4 := Aside0.mk (hbox)
 have d4 := (kS HK hg)
 have d5 := (kE l5 HK hg)
 have b3 := bL a6 hg
 have a5 := bM a6 hg
 have a9 := bL a3 hg
 have a0 := bM a3 hg
 have b5 := bL a8 hg
 have b6 := bM a8 hg
 have b7 := Aside0.mk ((by rw [hg]; exact Nat.ne_of_lt (IsS73.lt (show IsS73 w0 _ g s0_0 h1 h2 from by repeat (first | (with_reducible first | exact HI0.out | apply IsS73.alloc | apply IsS73.drewN | apply IsS73.drew | apply IsS73.set_1 | apply IsS73.set_2 | refine IsS73.far ?_ c8.out _ | refine IsS73.far ?_ c9.out _ | refine IsS73.far ?_ d2.out _) | exact HI0.out))) : g ≠ a1))
 have b8 := Aside0.mk ((by rw [hg]; exact Nat.ne_of_gt (IsS73.lt (show IsS73 w0 _ g s0_0 h1 h2 from by repeat (first | (with_reducible first | exact HI0.out | apply IsS73.alloc | apply IsS73.drewN | apply IsS73.drew | apply IsS73.set_1 | apply IsS73.set_2 | refine IsS73.far ?_ c8.out _ | refine IsS73.far ?_ c9.out _ | refine IsS73.far ?_ d2.out _) | exact HI0.out))) : a1 ≠ g))
 replace HI0 := Aside0.mk (IsS73.below kI hb)
 replace a6 := bQ a6 hb
 replace a3 := bQ a3 hb
 replace a8 := bQ a8 hb
 replace HK := Aside0.mk (KeepBut.trans (w := w) kK (KeepBut.of_below hb g none) (.inl rfl))
 replace HB := Aside0.mk (below_step bI hb)
 clear hb hbox hg
 refine hK.out _ _ cS (fun hHeld => ?_)
 clear hK K
 refine norm_ (a' := ?_) ?_ ?_
 rotate_left
 · show Act.put _ (some 5) _ = _
   simp only [Act.put, List.setIfInBounds_toArray, List.set_cons_zero, List.set_cons_succ, i64_w, i32_w]
   rfl
 exact norm_ (by first | (simp only [putAll, Act.put, List.setIfInBounds_toArray, List.set_cons_zero, List.set_cons_succ]; done) | (simp only [putAll, Act.put, List.setIfInBounds_toArray, List.set_cons_zero, List.set_cons_succ]; rfl)) (j9 (a1) _ ⟨hHeld, (bK a6), (bK a3), (bK a8), (bK b4), d4.out, d5.out, b7.out, b8.out, b3.out, a5.out, a9.out, a0.out, b5.out, b6.out, kI, kK, bI⟩)
 )
 )
 )
 ·(
 skip
 rintro a1 e5 ⟨hS_, c2, c3, c4, c5, c6, c7, e7, e8, e9, d7, d8, d9, e0, e1, e2, e3, e4⟩
 have b4 : Aside0 (e5.heap[a1]? = some (.cells #[.int .i64 0, .int .i64 0, .bool false, .bool false] 27 (0, 0))) := ⟨c5⟩
 have d4 : Aside0 (w.heap.size ≤ a1) := ⟨c6⟩
 have d5 : Aside0 (w0.heap.size ≤ a1) := ⟨c7⟩
 have b7 : Aside0 (g ≠ a1) := ⟨e7⟩
 have b8 : Aside0 (a1 ≠ g) := ⟨e8⟩
 have b3 : Aside0 (a7 ≠ a1) := ⟨e9⟩
 have a5 : Aside0 (a1 ≠ a7) := ⟨d7⟩
 have a9 : Aside0 (a2 ≠ a1) := ⟨d8⟩
 have a0 : Aside0 (a1 ≠ a2) := ⟨d9⟩
 have b5 : Aside0 (a4 ≠ a1) := ⟨e0⟩
 have b6 : Aside0 (a1 ≠ a4) := ⟨e1⟩
 replace a6 : Aside0 (e5.heap[a7]? = some (.cells #[.int .i64 0, .int .i64 0] 25 (0, 0))) := ⟨c2⟩
 replace a3 : Aside0 (e5.heap[a2]? = some (.cells #[.int .i64 0, .int .i64 0, .bool false, .bool false] 27 (0, 0))) := ⟨c3⟩
 replace a8 : Aside0 (e5.heap[a4]? = some (.cells #[.int .i64 b1, .int .i64 b2] 25 (0, 0))) := ⟨c4⟩
 replace HI0 : Aside0 (IsS73 w0 e5 g s0_0 h1 h2) := ⟨e2⟩
 replace HK : Aside0 (KeepBut w e5 g none) := ⟨e3⟩
 replace HB : Aside0 (Below w0.heap.size w0 e5) := ⟨e4⟩
 clear c2 c3 c4 c5 c6 c7 e7 e8 e9 d7 d8 d9 e0 e1 e2 e3 e4
 have hHeld : e5.cell? ⟨a4, 0, none⟩ = some (.int .i64 b1) ∧ e5.cell? ⟨a4, 1, none⟩ = some (.int .i64 b2) := hS_
 refine norm_ (a' := ?_) ?_ ?_
 rotate_left
 ·(
 simp only [putAll, Act.put, List.setIfInBounds_toArray, List.set_cons_zero, List.set_cons_succ]
 rfl
 )
 refine one_ (i := 13) (N := some 21) #[true, true, true, true, true, true, true, true, true, true, true, true, true, true, true, false, true, false, false, true, false] rfl rfl (one_of HT_.out kr) (by decide) (fun K hK => ?_)
 refine goes_ Tryz.func52 kr rfl #[.pointer (some ⟨g, 0, none⟩), .int .i64 (wrap64 (h3 + 1))] (by rfl) rfl rfl sM ?_
 with_reducible refine (spec_l1Cur_pick.calls g s0_0 h1 h2 (wrap64 (h3 + 1)) g5 k2 k3 w0 _ ?side1 ?side2 A8.out).mono ?_
 (case side1 => exact kI)
 (case side2 => exact bI)
 rintro e h4 ⟨rfl, hi, hb, hk⟩
 refine ⟨_, rfl, ?_⟩
 replace a6 := Aside0.mk (KeepBut.blk hk (g' := a7) (o := .cells #[.int .i64 0, .int .i64 0] 25 (0, 0)) (bK a6) g2.out (by simp))
 replace a3 := Aside0.mk (KeepBut.blk hk (g' := a2) (o := .cells #[.int .i64 0, .int .i64 0, .bool false, .bool false] 27 (0, 0)) (bK a3) g3.out (by simp))
 replace a8 := Aside0.mk (KeepBut.blk hk (g' := a4) (o := .cells #[.int .i64 b1, .int .i64 b2] 25 (0, 0)) (bK a8) g4.out (by simp))
 replace b4 := Aside0.mk (KeepBut.blk hk (g' := a1) (o := .cells #[.int .i64 0, .int .i64 0, .bool false, .bool false] 27 (0, 0)) (bK b4) b8.out (by simp))
 replace HK := Aside0.mk (KeepBut.trans (w := w) kK hk (.inl rfl))
 replace HB := Aside0.mk (hb)
 replace HI0 := Aside0.mk (hi)
 try clear hb
 (try clear hk)
 (try clear hi)
 refine hK.out _ _ cS (fun hHeld => ?_)
 clear hK K
 refine norm_ (a' := ?_) ?_ ?_
 rotate_left
 · show Act.put _ (some 21) _ = _
   simp only [Act.put, List.setIfInBounds_toArray, List.set_cons_zero, List.set_cons_succ, i64_w, i32_w]
   rfl
 exact norm_ (by first | (simp only [putAll, Act.put, List.setIfInBounds_toArray, List.set_cons_zero, List.set_cons_succ]; done) | (simp only [putAll, Act.put, List.setIfInBounds_toArray, List.set_cons_zero, List.set_cons_succ]; rfl)) (i9 (a1) _ ⟨hHeld, (bK a6), (bK a3), (bK a8), (bK b4), d4.out, d5.out, b7.out, b8.out, b3.out, a5.out, a9.out, a0.out, b5.out, b6.out, kI, kK, bI⟩)
 )
 )
 ·(
 skip
 rintro _ e5 ⟨hS_, c2, c3, c4, c5, c6, c7⟩
 replace a6 : Aside0 (e5.heap[a7]? = some (.cells #[.int .i64 0, .int .i64 0] 25 (0, 0))) := ⟨c2⟩
 replace a3 : Aside0 (e5.heap[a2]? = some (.cells #[.int .i64 0, .int .i64 0, .bool false, .bool false] 27 (0, 0))) := ⟨c3⟩
 replace a8 : Aside0 (e5.heap[a4]? = some (.cells #[.int .i64 b1, .int .i64 b2] 25 (0, 0))) := ⟨c4⟩
 replace HI0 : Aside0 (IsS73 w0 e5 g s0_0 k2 k3) := ⟨c5⟩
 replace HK : Aside0 (KeepBut w e5 g none) := ⟨c6⟩
 replace HB : Aside0 (Below w0.heap.size w0 e5) := ⟨c7⟩
 clear c2 c3 c4 c5 c6 c7
 have hHeld : e5.cell? ⟨a4, 0, none⟩ = some (.int .i64 b1) ∧ e5.cell? ⟨a4, 1, none⟩ = some (.int .i64 b2) := hS_
 refine norm_ (a' := ?_) ?_ ?_
 rotate_left
 ·(
 simp only [putAll, Act.put, List.setIfInBounds_toArray, List.set_cons_zero, List.set_cons_succ]
 rfl
 )
 refine two_ (i := 15) (j := 19) (Ni := some 23) (Nj := some 5) #[true, true, true, true, true, true, true, true, true, true, true, true, true, true, true, true, true, false, false, false, false] #[true, true, true, true, true, true, true, true, true, true, true, true, true, true, true, false, true, false, false, true, false] rfl rfl rfl rfl (two_of HT_.out kr) (by decide) (by decide) (fun K hK => ?_) (fun K hK => ?_)
 ·(
 skip
 refine goes_ Tryz.func50 kr rfl #[.pointer (some ⟨g, 0, none⟩), .int .i64 2] (by rfl) rfl rfl sM ?_
 with_reducible refine (spec_l1Cur_one.calls g s0_0 k2 k3 2 g0 k4 k5 w0 _ ?side1 ?side2 A9.out).mono ?_
 (case side1 => exact kI)
 (case side2 => exact bI)
 rintro e h4 ⟨rfl, hi, hb, hk⟩
 refine ⟨_, rfl, ?_⟩
 replace a6 := Aside0.mk (KeepBut.blk hk (g' := a7) (o := .cells #[.int .i64 0, .int .i64 0] 25 (0, 0)) (bK a6) g2.out (by simp))
 replace a3 := Aside0.mk (KeepBut.blk hk (g' := a2) (o := .cells #[.int .i64 0, .int .i64 0, .bool false, .bool false] 27 (0, 0)) (bK a3) g3.out (by simp))
 replace a8 := Aside0.mk (KeepBut.blk hk (g' := a4) (o := .cells #[.int .i64 b1, .int .i64 b2] 25 (0, 0)) (bK a8) g4.out (by simp))
 replace HK := Aside0.mk (KeepBut.trans (w := w) kK hk (.inl rfl))
 replace HB := Aside0.mk (hb)
 replace HI0 := Aside0.mk (hi)
 try clear hb
 (try clear hk)
 (try clear hi)
 refine hK.out _ _ cS (fun hHeld => ?_)
 clear hK K
 refine norm_ (a' := ?_) ?_ ?_
 rotate_left
 · show Act.put _ (some 23) _ = _
   simp only [Act.put, List.setIfInBounds_toArray, List.set_cons_zero, List.set_cons_succ, i64_w, i32_w]
   rfl
 exact norm_ (by first | (simp only [putAll, Act.put, List.setIfInBounds_toArray, List.set_cons_zero, List.set_cons_succ]; done) | (simp only [putAll, Act.put, List.setIfInBounds_toArray, List.set_cons_zero, List.set_cons_succ]; rfl)) (k8 () _ ⟨hHeld, (bK a6), (bK a3), (bK a8), kI, kK, bI⟩)
 )
 ·(
 skip
 refine box_step ?hg (N := 5) ?hd (cs := #[.int .i64 0, .int .i64 0, .bool false, .bool false]) (t := 27) ?hr ?_; (case hd => rfl); (case hg => rfl); (case hr => first | (go_simp; done) | (go_simp; rfl))
 intro a1 hg h4 hbox hb
 have b4 := Aside0.mk (hbox)
 have d4 := (kS HK hg)
 have d5 := (kE l5 HK hg)
 have b3 := bL a6 hg
 have a5 := bM a6 hg
 have a9 := bL a3 hg
 have a0 := bM a3 hg
 have b5 := bL a8 hg
 have b6 := bM a8 hg
 have b7 := Aside0.mk ((by rw [hg]; exact Nat.ne_of_lt (IsS73.lt (show IsS73 w0 _ g s0_0 k2 k3 from by repeat (first | (with_reducible first | exact HI0.out | apply IsS73.alloc | apply IsS73.drewN | apply IsS73.drew | apply IsS73.set_1 | apply IsS73.set_2 | refine IsS73.far ?_ c8.out _ | refine IsS73.far ?_ c9.out _ | refine IsS73.far ?_ d2.out _) | exact HI0.out))) : g ≠ a1))
 have b8 := Aside0.mk ((by rw [hg]; exact Nat.ne_of_gt (IsS73.lt (show IsS73 w0 _ g s0_0 k2 k3 from by repeat (first | (with_reducible first | exact HI0.out | apply IsS73.alloc | apply IsS73.drewN | apply IsS73.drew | apply IsS73.set_1 | apply IsS73.set_2 | refine IsS73.far ?_ c8.out _ | refine IsS73.far ?_ c9.out _ | refine IsS73.far ?_ d2.out _) | exact HI0.out))) : a1 ≠ g))
 replace HI0 := Aside0.mk (IsS73.below kI hb)
 replace a6 := bQ a6 hb
 replace a3 := bQ a3 hb
 replace a8 := bQ a8 hb
 replace HK := Aside0.mk (KeepBut.trans (w := w) kK (KeepBut.of_below hb g none) (.inl rfl))
 replace HB := Aside0.mk (below_step bI hb)
 clear hb hbox hg
 refine hK.out _ _ cS (fun hHeld => ?_)
 clear hK K
 refine norm_ (a' := ?_) ?_ ?_
 rotate_left
 · show Act.put _ (some 5) _ = _
   simp only [Act.put, List.setIfInBounds_toArray, List.set_cons_zero, List.set_cons_succ, i64_w, i32_w]
   rfl
 exact norm_ (by first | (simp only [putAll, Act.put, List.setIfInBounds_toArray, List.set_cons_zero, List.set_cons_succ]; done) | (simp only [putAll, Act.put, List.setIfInBounds_toArray, List.set_cons_zero, List.set_cons_succ]; rfl)) (i9 (a1) _ ⟨hHeld, (bK a6), (bK a3), (bK a8), (bK b4), d4.out, d5.out, b7.out, b8.out, b3.out, a5.out, a9.out, a0.out, b5.out, b6.out, kI, kK, bI⟩)
 )
 )
 )
 ·(
 skip
 rintro a1 h4 ⟨hS_, c2, c3, c4, c5, c6, c7, e7, e8, e9, d7, d8, d9, e0, e1, e2, e3, e4⟩
 have b4 : Aside0 (h4.heap[a1]? = some (.cells #[.int .i64 0, .int .i64 0, .bool false, .bool false] 27 (0, 0))) := ⟨c5⟩
 have d4 : Aside0 (w.heap.size ≤ a1) := ⟨c6⟩
 have d5 : Aside0 (w0.heap.size ≤ a1) := ⟨c7⟩
 have b7 : Aside0 (g ≠ a1) := ⟨e7⟩
 have b8 : Aside0 (a1 ≠ g) := ⟨e8⟩
 have b3 : Aside0 (a7 ≠ a1) := ⟨e9⟩
 have a5 : Aside0 (a1 ≠ a7) := ⟨d7⟩
 have a9 : Aside0 (a2 ≠ a1) := ⟨d8⟩
 have a0 : Aside0 (a1 ≠ a2) := ⟨d9⟩
 have b5 : Aside0 (a4 ≠ a1) := ⟨e0⟩
 have b6 : Aside0 (a1 ≠ a4) := ⟨e1⟩
 replace a6 : Aside0 (h4.heap[a7]? = some (.cells #[.int .i64 0, .int .i64 0] 25 (0, 0))) := ⟨c2⟩
 replace a3 : Aside0 (h4.heap[a2]? = some (.cells #[.int .i64 0, .int .i64 0, .bool false, .bool false] 27 (0, 0))) := ⟨c3⟩
 replace a8 : Aside0 (h4.heap[a4]? = some (.cells #[.int .i64 b1, .int .i64 b2] 25 (0, 0))) := ⟨c4⟩
 replace HI0 : Aside0 (IsS73 w0 h4 g s0_0 k2 k3) := ⟨e2⟩
 replace HK : Aside0 (KeepBut w h4 g none) := ⟨e3⟩
 replace HB : Aside0 (Below w0.heap.size w0 h4) := ⟨e4⟩
 clear c2 c3 c4 c5 c6 c7 e7 e8 e9 d7 d8 d9 e0 e1 e2 e3 e4
 have hHeld : h4.cell? ⟨a4, 0, none⟩ = some (.int .i64 b1) ∧ h4.cell? ⟨a4, 1, none⟩ = some (.int .i64 b2) := hS_
 refine norm_ (a' := ?_) ?_ ?_
 rotate_left
 ·(
 simp only [putAll, Act.put, List.setIfInBounds_toArray, List.set_cons_zero, List.set_cons_succ]
 rfl
 )
 refine one_ (i := 15) (N := some 23) #[true, true, true, true, true, true, true, true, true, true, true, true, true, true, true, true, true, false, false, true, false] rfl rfl (one_of HT_.out kr) (by decide) (fun K hK => ?_)
 refine goes_ Tryz.func50 kr rfl #[.pointer (some ⟨g, 0, none⟩), .int .i64 2] (by rfl) rfl rfl sM ?_
 with_reducible refine (spec_l1Cur_one.calls g s0_0 k2 k3 2 g0 k4 k5 w0 _ ?side1 ?side2 A9.out).mono ?_
 (case side1 => exact kI)
 (case side2 => exact bI)
 rintro e h5 ⟨rfl, hi, hb, hk⟩
 refine ⟨_, rfl, ?_⟩
 replace a6 := Aside0.mk (KeepBut.blk hk (g' := a7) (o := .cells #[.int .i64 0, .int .i64 0] 25 (0, 0)) (bK a6) g2.out (by simp))
 replace a3 := Aside0.mk (KeepBut.blk hk (g' := a2) (o := .cells #[.int .i64 0, .int .i64 0, .bool false, .bool false] 27 (0, 0)) (bK a3) g3.out (by simp))
 replace a8 := Aside0.mk (KeepBut.blk hk (g' := a4) (o := .cells #[.int .i64 b1, .int .i64 b2] 25 (0, 0)) (bK a8) g4.out (by simp))
 replace b4 := Aside0.mk (KeepBut.blk hk (g' := a1) (o := .cells #[.int .i64 0, .int .i64 0, .bool false, .bool false] 27 (0, 0)) (bK b4) b8.out (by simp))
 replace HK := Aside0.mk (KeepBut.trans (w := w) kK hk (.inl rfl))
 replace HB := Aside0.mk (hb)
 replace HI0 := Aside0.mk (hi)
 try clear hb
 (try clear hk)
 (try clear hi)
 refine hK.out _ _ cS (fun hHeld => ?_)
 clear hK K
 refine norm_ (a' := ?_) ?_ ?_
 rotate_left
 · show Act.put _ (some 23) _ = _
   simp only [Act.put, List.setIfInBounds_toArray, List.set_cons_zero, List.set_cons_succ, i64_w, i32_w]
   rfl
 exact norm_ (by first | (simp only [putAll, Act.put, List.setIfInBounds_toArray, List.set_cons_zero, List.set_cons_succ]; done) | (simp only [putAll, Act.put, List.setIfInBounds_toArray, List.set_cons_zero, List.set_cons_succ]; rfl)) (i4 (a1) _ ⟨hHeld, (bK a6), (bK a3), (bK a8), (bK b4), d4.out, d5.out, b7.out, b8.out, b3.out, a5.out, a9.out, a0.out, b5.out, b6.out, kI, kK, bI⟩)
 )
 )
 ·(
 skip
 rintro _ h4 ⟨hS_, c2, c3, c4, c5, c6, c7⟩
 replace a6 : Aside0 (h4.heap[a7]? = some (.cells #[.int .i64 0, .int .i64 0] 25 (0, 0))) := ⟨c2⟩
 replace a3 : Aside0 (h4.heap[a2]? = some (.cells #[.int .i64 0, .int .i64 0, .bool false, .bool false] 27 (0, 0))) := ⟨c3⟩
 replace a8 : Aside0 (h4.heap[a4]? = some (.cells #[.int .i64 b1, .int .i64 b2] 25 (0, 0))) := ⟨c4⟩
 replace HI0 : Aside0 (IsS73 w0 h4 g s0_0 k4 k5) := ⟨c5⟩
 replace HK : Aside0 (KeepBut w h4 g none) := ⟨c6⟩
 replace HB : Aside0 (Below w0.heap.size w0 h4) := ⟨c7⟩
 clear c2 c3 c4 c5 c6 c7
 have hHeld : h4.cell? ⟨a4, 0, none⟩ = some (.int .i64 b1) ∧ h4.cell? ⟨a4, 1, none⟩ = some (.int .i64 b2) := hS_
 refine norm_ (a' := ?_) ?_ ?_
 rotate_left
 ·(
 simp only [putAll, Act.put, List.setIfInBounds_toArray, List.set_cons_zero, List.set_cons_succ]
 rfl
 )
 refine two_ (i := 17) (j := 19) (Ni := some 25) (Nj := some 5) #[true, true, true, true, true, true, true, true, true, true, true, true, true, true, true, true, true, true, false, false, false] #[true, true, true, true, true, true, true, true, true, true, true, true, true, true, true, true, true, false, false, true, false] rfl rfl rfl rfl (two_of HT_.out kr) (by decide) (by decide) (fun K hK => ?_) (fun K hK => ?_)
 ·(
 skip
 refine goes_ Tryz.func50 kr rfl #[.pointer (some ⟨g, 0, none⟩), .int .i64 2] (by rfl) rfl rfl sM ?_
 with_reducible refine (spec_l1Cur_one.calls g s0_0 k4 k5 2 g6 j3 j4 w0 _ ?side1 ?side2 y4.out).mono ?_
 (case side1 => exact kI)
 (case side2 => exact bI)
 rintro e h5 ⟨rfl, hi, hb, hk⟩
 refine ⟨_, rfl, ?_⟩
 replace a6 := Aside0.mk (KeepBut.blk hk (g' := a7) (o := .cells #[.int .i64 0, .int .i64 0] 25 (0, 0)) (bK a6) g2.out (by simp))
 replace a3 := Aside0.mk (KeepBut.blk hk (g' := a2) (o := .cells #[.int .i64 0, .int .i64 0, .bool false, .bool false] 27 (0, 0)) (bK a3) g3.out (by simp))
 replace a8 := Aside0.mk (KeepBut.blk hk (g' := a4) (o := .cells #[.int .i64 b1, .int .i64 b2] 25 (0, 0)) (bK a8) g4.out (by simp))
 replace HK := Aside0.mk (KeepBut.trans (w := w) kK hk (.inl rfl))
 replace HB := Aside0.mk (hb)
 replace HI0 := Aside0.mk (hi)
 try clear hb
 (try clear hk)
 (try clear hi)
 refine hK.out _ _ cS (fun hHeld => ?_)
 clear hK K
 refine norm_ (a' := ?_) ?_ ?_
 rotate_left
 · show Act.put _ (some 25) _ = _
   simp only [Act.put, List.setIfInBounds_toArray, List.set_cons_zero, List.set_cons_succ, i64_w, i32_w]
   rfl
 refine pure_ (i := 18) (N := some 26) (v := ?_) (a' := ?_) #[true, true, true, true, true, true, true, true, true, true, true, true, true, true, true, true, true, true, true, false, false] rfl rfl (any_of HT_.out kr) (fun _ _ _ h => h) (Or.inl ⟨by rfl, ?_⟩) ?_ ?_
 rotate_left
 ·(
 intro w'
 go_simp
 with_reducible rfl
 )
 rotate_left
 ·(
 simp only [Act.put, List.setIfInBounds_toArray, List.set_cons_zero, List.set_cons_succ, i64_w, i32_w]
 rfl
 )
 exact norm_ (by first | (simp only [putAll, Act.put, List.setIfInBounds_toArray, List.set_cons_zero, List.set_cons_succ]; done) | (simp only [putAll, Act.put, List.setIfInBounds_toArray, List.set_cons_zero, List.set_cons_succ]; rfl)) (k1 () _ ⟨hHeld, (bK a6), (bK a3), (bK a8), kI, kK, bI⟩)
 )
 ·(
 skip
 refine box_step ?hg (N := 5) ?hd (cs := #[.int .i64 0, .int .i64 0, .bool false, .bool false]) (t := 27) ?hr ?_; (case hd => rfl); (case hg => rfl); (case hr => first | (go_simp; done) | (go_simp; rfl))
 intro a1 hg h5 hbox hb
 have b4 := Aside0.mk (hbox)
 have d4 := (kS HK hg)
 have d5 := (kE l5 HK hg)
 have b3 := bL a6 hg
 have a5 := bM a6 hg
 have a9 := bL a3 hg
 have a0 := bM a3 hg
 have b5 := bL a8 hg
 have b6 := bM a8 hg
 have b7 := Aside0.mk ((by rw [hg]; exact Nat.ne_of_lt (IsS73.lt (show IsS73 w0 _ g s0_0 k4 k5 from by repeat (first | (with_reducible first | exact HI0.out | apply IsS73.alloc | apply IsS73.drewN | apply IsS73.drew | apply IsS73.set_1 | apply IsS73.set_2 | refine IsS73.far ?_ c8.out _ | refine IsS73.far ?_ c9.out _ | refine IsS73.far ?_ d2.out _) | exact HI0.out))) : g ≠ a1))
 have b8 := Aside0.mk ((by rw [hg]; exact Nat.ne_of_gt (IsS73.lt (show IsS73 w0 _ g s0_0 k4 k5 from by repeat (first | (with_reducible first | exact HI0.out | apply IsS73.alloc | apply IsS73.drewN | apply IsS73.drew | apply IsS73.set_1 | apply IsS73.set_2 | refine IsS73.far ?_ c8.out _ | refine IsS73.far ?_ c9.out _ | refine IsS73.far ?_ d2.out _) | exact HI0.out))) : a1 ≠ g))
 replace HI0 := Aside0.mk (IsS73.below kI hb)
 replace a6 := bQ a6 hb
 replace a3 := bQ a3 hb
 replace a8 := bQ a8 hb
 replace HK := Aside0.mk (KeepBut.trans (w := w) kK (KeepBut.of_below hb g none) (.inl rfl))
 replace HB := Aside0.mk (below_step bI hb)
 clear hb hbox hg
 refine hK.out _ _ cS (fun hHeld => ?_)
 clear hK K
 refine norm_ (a' := ?_) ?_ ?_
 rotate_left
 · show Act.put _ (some 5) _ = _
   simp only [Act.put, List.setIfInBounds_toArray, List.set_cons_zero, List.set_cons_succ, i64_w, i32_w]
   rfl
 exact norm_ (by first | (simp only [putAll, Act.put, List.setIfInBounds_toArray, List.set_cons_zero, List.set_cons_succ]; done) | (simp only [putAll, Act.put, List.setIfInBounds_toArray, List.set_cons_zero, List.set_cons_succ]; rfl)) (i4 (a1) _ ⟨hHeld, (bK a6), (bK a3), (bK a8), (bK b4), d4.out, d5.out, b7.out, b8.out, b3.out, a5.out, a9.out, a0.out, b5.out, b6.out, kI, kK, bI⟩)
 )
 )
 )
 ·(
 skip
 rintro a1 h5 ⟨hS_, c2, c3, c4, c5, c6, c7, e7, e8, e9, d7, d8, d9, e0, e1, e2, e3, e4⟩
 have b4 : Aside0 (h5.heap[a1]? = some (.cells #[.int .i64 0, .int .i64 0, .bool false, .bool false] 27 (0, 0))) := ⟨c5⟩
 have d4 : Aside0 (w.heap.size ≤ a1) := ⟨c6⟩
 have d5 : Aside0 (w0.heap.size ≤ a1) := ⟨c7⟩
 have b7 : Aside0 (g ≠ a1) := ⟨e7⟩
 have b8 : Aside0 (a1 ≠ g) := ⟨e8⟩
 have b3 : Aside0 (a7 ≠ a1) := ⟨e9⟩
 have a5 : Aside0 (a1 ≠ a7) := ⟨d7⟩
 have a9 : Aside0 (a2 ≠ a1) := ⟨d8⟩
 have a0 : Aside0 (a1 ≠ a2) := ⟨d9⟩
 have b5 : Aside0 (a4 ≠ a1) := ⟨e0⟩
 have b6 : Aside0 (a1 ≠ a4) := ⟨e1⟩
 replace a6 : Aside0 (h5.heap[a7]? = some (.cells #[.int .i64 0, .int .i64 0] 25 (0, 0))) := ⟨c2⟩
 replace a3 : Aside0 (h5.heap[a2]? = some (.cells #[.int .i64 0, .int .i64 0, .bool false, .bool false] 27 (0, 0))) := ⟨c3⟩
 replace a8 : Aside0 (h5.heap[a4]? = some (.cells #[.int .i64 b1, .int .i64 b2] 25 (0, 0))) := ⟨c4⟩
 replace HI0 : Aside0 (IsS73 w0 h5 g s0_0 k4 k5) := ⟨e2⟩
 replace HK : Aside0 (KeepBut w h5 g none) := ⟨e3⟩
 replace HB : Aside0 (Below w0.heap.size w0 h5) := ⟨e4⟩
 clear c2 c3 c4 c5 c6 c7 e7 e8 e9 d7 d8 d9 e0 e1 e2 e3 e4
 have hHeld : h5.cell? ⟨a4, 0, none⟩ = some (.int .i64 b1) ∧ h5.cell? ⟨a4, 1, none⟩ = some (.int .i64 b2) := hS_
 refine norm_ (a' := ?_) ?_ ?_
 rotate_left
 ·(
 simp only [putAll, Act.put, List.setIfInBounds_toArray, List.set_cons_zero, List.set_cons_succ]
 rfl
 )
 refine one_ (i := 17) (N := some 25) #[true, true, true, true, true, true, true, true, true, true, true, true, true, true, true, true, true, true, false, true, false] rfl rfl (one_of HT_.out kr) (by decide) (fun K hK => ?_)
 refine goes_ Tryz.func50 kr rfl #[.pointer (some ⟨g, 0, none⟩), .int .i64 2] (by rfl) rfl rfl sM ?_
 with_reducible refine (spec_l1Cur_one.calls g s0_0 k4 k5 2 g6 j3 j4 w0 _ ?side1 ?side2 y4.out).mono ?_
 (case side1 => exact kI)
 (case side2 => exact bI)
 rintro e i6 ⟨rfl, hi, hb, hk⟩
 refine ⟨_, rfl, ?_⟩
 replace a6 := Aside0.mk (KeepBut.blk hk (g' := a7) (o := .cells #[.int .i64 0, .int .i64 0] 25 (0, 0)) (bK a6) g2.out (by simp))
 replace a3 := Aside0.mk (KeepBut.blk hk (g' := a2) (o := .cells #[.int .i64 0, .int .i64 0, .bool false, .bool false] 27 (0, 0)) (bK a3) g3.out (by simp))
 replace a8 := Aside0.mk (KeepBut.blk hk (g' := a4) (o := .cells #[.int .i64 b1, .int .i64 b2] 25 (0, 0)) (bK a8) g4.out (by simp))
 replace b4 := Aside0.mk (KeepBut.blk hk (g' := a1) (o := .cells #[.int .i64 0, .int .i64 0, .bool false, .bool false] 27 (0, 0)) (bK b4) b8.out (by simp))
 replace HK := Aside0.mk (KeepBut.trans (w := w) kK hk (.inl rfl))
 replace HB := Aside0.mk (hb)
 replace HI0 := Aside0.mk (hi)
 try clear hb
 (try clear hk)
 (try clear hi)
 refine hK.out _ _ cS (fun hHeld => ?_)
 clear hK K
 refine norm_ (a' := ?_) ?_ ?_
 rotate_left
 · show Act.put _ (some 25) _ = _
   simp only [Act.put, List.setIfInBounds_toArray, List.set_cons_zero, List.set_cons_succ, i64_w, i32_w]
   rfl
 refine pure_ (i := 18) (N := some 26) (v := ?_) (a' := ?_) #[true, true, true, true, true, true, true, true, true, true, true, true, true, true, true, true, true, true, true, true, false] rfl rfl (any_of HT_.out kr) (fun _ _ _ h => h) (Or.inl ⟨by rfl, ?_⟩) ?_ ?_
 rotate_left
 ·(
 intro w'
 go_simp
 with_reducible rfl
 )
 rotate_left
 ·(
 simp only [Act.put, List.setIfInBounds_toArray, List.set_cons_zero, List.set_cons_succ, i64_w, i32_w]
 rfl
 )
 exact norm_ (by first | (simp only [putAll, Act.put, List.setIfInBounds_toArray, List.set_cons_zero, List.set_cons_succ]; done) | (simp only [putAll, Act.put, List.setIfInBounds_toArray, List.set_cons_zero, List.set_cons_succ]; rfl)) (i3 (a1) _ ⟨hHeld, (bK a6), (bK a3), (bK a8), (bK b4), d4.out, d5.out, b7.out, b8.out, b3.out, a5.out, a9.out, a0.out, b5.out, b6.out, kI, kK, bI⟩)
 )
 )
 ·(
 skip
 rintro _ h5 ⟨hS_, c2, c3, c4, c5, c6, c7⟩
 replace a6 : Aside0 (h5.heap[a7]? = some (.cells #[.int .i64 0, .int .i64 0] 25 (0, 0))) := ⟨c2⟩
 replace a3 : Aside0 (h5.heap[a2]? = some (.cells #[.int .i64 0, .int .i64 0, .bool false, .bool false] 27 (0, 0))) := ⟨c3⟩
 replace a8 : Aside0 (h5.heap[a4]? = some (.cells #[.int .i64 b1, .int .i64 b2] 25 (0, 0))) := ⟨c4⟩
 replace HI0 : Aside0 (IsS73 w0 h5 g s0_0 j3 j4) := ⟨c5⟩
 replace HK : Aside0 (KeepBut w h5 g none) := ⟨c6⟩
 replace HB : Aside0 (Below w0.heap.size w0 h5) := ⟨c7⟩
 clear c2 c3 c4 c5 c6 c7
 have hHeld : h5.cell? ⟨a4, 0, none⟩ = some (.int .i64 b1) ∧ h5.cell? ⟨a4, 1, none⟩ = some (.int .i64 b2) := hS_
 refine norm_ (a' := ?_) ?_ ?_
 rotate_left
 ·(
 simp only [putAll, Act.put, List.setIfInBounds_toArray, List.set_cons_zero, List.set_cons_succ]
 rfl
 )
 refine one_ (i := 19) (N := some 5) #[true, true, true, true, true, true, true, true, true, true, true, true, true, true, true, true, true, true, true, true, false] rfl rfl (one_of HT_.out kr) (by decide) (fun K hK => ?_)
 refine box_step ?hg (N := 5) ?hd (cs := #[.int .i64 0, .int .i64 0, .bool false, .bool false]) (t := 27) ?hr ?_; (case hd => rfl); (case hg => rfl); (case hr => first | (go_simp; done) | (go_simp; rfl))
 intro a1 hg i6 hbox hb
 have b4 := Aside0.mk (hbox)
 have d4 := (kS HK hg)
 have d5 := (kE l5 HK hg)
 have b3 := bL a6 hg
 have a5 := bM a6 hg
 have a9 := bL a3 hg
 have a0 := bM a3 hg
 have b5 := bL a8 hg
 have b6 := bM a8 hg
 have b7 := Aside0.mk ((by rw [hg]; exact Nat.ne_of_lt (IsS73.lt (show IsS73 w0 _ g s0_0 j3 j4 from by repeat (first | (with_reducible first | exact HI0.out | apply IsS73.alloc | apply IsS73.drewN | apply IsS73.drew | apply IsS73.set_1 | apply IsS73.set_2 | refine IsS73.far ?_ c8.out _ | refine IsS73.far ?_ c9.out _ | refine IsS73.far ?_ d2.out _) | exact HI0.out))) : g ≠ a1))
 have b8 := Aside0.mk ((by rw [hg]; exact Nat.ne_of_gt (IsS73.lt (show IsS73 w0 _ g s0_0 j3 j4 from by repeat (first | (with_reducible first | exact HI0.out | apply IsS73.alloc | apply IsS73.drewN | apply IsS73.drew | apply IsS73.set_1 | apply IsS73.set_2 | refine IsS73.far ?_ c8.out _ | refine IsS73.far ?_ c9.out _ | refine IsS73.far ?_ d2.out _) | exact HI0.out))) : a1 ≠ g))
 replace HI0 := Aside0.mk (IsS73.below kI hb)
 replace a6 := bQ a6 hb
 replace a3 := bQ a3 hb
 replace a8 := bQ a8 hb
 replace HK := Aside0.mk (KeepBut.trans (w := w) kK (KeepBut.of_below hb g none) (.inl rfl))
 replace HB := Aside0.mk (below_step bI hb)
 clear hb hbox hg
 refine hK.out _ _ cS (fun hHeld => ?_)
 clear hK K
 refine norm_ (a' := ?_) ?_ ?_
 rotate_left
 · show Act.put _ (some 5) _ = _
   simp only [Act.put, List.setIfInBounds_toArray, List.set_cons_zero, List.set_cons_succ, i64_w, i32_w]
   rfl
 exact norm_ (by first | (simp only [putAll, Act.put, List.setIfInBounds_toArray, List.set_cons_zero, List.set_cons_succ]; done) | (simp only [putAll, Act.put, List.setIfInBounds_toArray, List.set_cons_zero, List.set_cons_succ]; rfl)) (i3 (a1) _ ⟨hHeld, (bK a6), (bK a3), (bK a8), (bK b4), d4.out, d5.out, b7.out, b8.out, b3.out, a5.out, a9.out, a0.out, b5.out, b6.out, kI, kK, bI⟩)
 )
 )
 rintro a1 i6 ⟨hS_, c2, c3, c4, c5, c6, c7, e7, e8, e9, d7, d8, d9, e0, e1, e2, e3, e4⟩
 have b4 : Aside0 (i6.heap[a1]? = some (.cells #[.int .i64 0, .int .i64 0, .bool false, .bool false] 27 (0, 0))) := ⟨c5⟩
 have d4 : Aside0 (w.heap.size ≤ a1) := ⟨c6⟩
 have d5 : Aside0 (w0.heap.size ≤ a1) := ⟨c7⟩
 have b7 : Aside0 (g ≠ a1) := ⟨e7⟩
 have b8 : Aside0 (a1 ≠ g) := ⟨e8⟩
 have b3 : Aside0 (a7 ≠ a1) := ⟨e9⟩
 have a5 : Aside0 (a1 ≠ a7) := ⟨d7⟩
 have a9 : Aside0 (a2 ≠ a1) := ⟨d8⟩
 have a0 : Aside0 (a1 ≠ a2) := ⟨d9⟩
 have b5 : Aside0 (a4 ≠ a1) := ⟨e0⟩
 have b6 : Aside0 (a1 ≠ a4) := ⟨e1⟩
 replace a6 : Aside0 (i6.heap[a7]? = some (.cells #[.int .i64 0, .int .i64 0] 25 (0, 0))) := ⟨c2⟩
 replace a3 : Aside0 (i6.heap[a2]? = some (.cells #[.int .i64 0, .int .i64 0, .bool false, .bool false] 27 (0, 0))) := ⟨c3⟩
 replace a8 : Aside0 (i6.heap[a4]? = some (.cells #[.int .i64 b1, .int .i64 b2] 25 (0, 0))) := ⟨c4⟩
 replace HI0 : Aside0 (IsS73 w0 i6 g s0_0 j3 j4) := ⟨e2⟩
 replace HK : Aside0 (KeepBut w i6 g none) := ⟨e3⟩
 replace HB : Aside0 (Below w0.heap.size w0 i6) := ⟨e4⟩
 clear c2 c3 c4 c5 c6 c7 e7 e8 e9 d7 d8 d9 e0 e1 e2 e3 e4
 have hHeld : i6.cell? ⟨a4, 0, none⟩ = some (.int .i64 b1) ∧ i6.cell? ⟨a4, 1, none⟩ = some (.int .i64 b2) := hS_
 refine norm_ (a' := ?_) ?_ ?_
 rotate_left
 ·(
 simp only [putAll, Act.put, List.setIfInBounds_toArray, List.set_cons_zero, List.set_cons_succ]
 rfl
 )
 refine one_ (i := 20) (N := none) #[true, true, true, true, true, true, true, true, true, true, true, true, true, true, true, true, true, true, true, true, true] rfl rfl (one_of HT_.out kr) (by decide) (fun K hK => ?_)
 have E6 : i6.cell? ⟨a1, 0, none⟩ = some (.int .i64 0) := (blk_cell b4.out 0).trans rfl
 have D4 := blk_frozen b4.out 0
 have z1 := b3.out
 have z2 := a9.out
 have z3 := b5.out
 have z4 := a5.out
 have z5 := a0.out
 have z6 := b6.out
 have E7 : i6.cell? ⟨a1, 1, none⟩ = some (.int .i64 0) := (blk_cell b4.out 1).trans rfl
 have D5 := blk_frozen b4.out 1
 have z7 := b3.out
 have z8 := a9.out
 have z9 := b5.out
 have A0 := a5.out
 have A1 := a0.out
 have B0 := b6.out
 have E8 : i6.cell? ⟨a1, 2, none⟩ = some (.bool false) := (blk_cell b4.out 2).trans rfl
 have D6 := blk_frozen b4.out 2
 have B1 := b3.out
 have B2 := a9.out
 have B3 := b5.out
 have B4 := a5.out
 have B5 := a0.out
 have B6 := b6.out
 have E9 : i6.cell? ⟨a1, 3, none⟩ = some (.bool false) := (blk_cell b4.out 3).trans rfl
 have D7 := blk_frozen b4.out 3
 have B7 := b3.out
 have B8 := a9.out
 have B9 := b5.out
 have C0 := a5.out
 have C1 := a0.out
 have C2 := b6.out
 refine skip_ (w1 := ?_) (by rfl) rfl ?_ ?_
 rotate_left
 ·(
 go_simp
 rfl
 )
 refine hK.out _ _ ⟨((cell_far (p := ⟨a1, _, none⟩) b5.out _).trans (((cell_far (p := ⟨a1, _, none⟩) b5.out _).trans (((cell_far (p := ⟨a1, _, none⟩) b5.out _).trans (((cell_far (p := ⟨a1, _, none⟩) b5.out _).trans (hHeld.1)))))))), ((cell_far (p := ⟨a1, _, none⟩) b5.out _).trans (((cell_far (p := ⟨a1, _, none⟩) b5.out _).trans (((cell_far (p := ⟨a1, _, none⟩) b5.out _).trans (((cell_far (p := ⟨a1, _, none⟩) b5.out _).trans (hHeld.2))))))))⟩ (fun hHeld => ?_)
 clear hK K
 refine done_ (done_of HT_.out kr) ?_
 have H := HQ_.out
 clear HQ_
 by_cases v3 : k7 = 0
 ·(
 rw [if_pos v3] at H
 obtain ⟨x8, x9⟩ := yE v3
 clear v3
 obtain ⟨q9, o9⟩ : ∃ y_ : List Int, y_ = (([(-1), 0, 9, 61, 4611686018427387904] : List Int)) := ⟨_, rfl⟩
 replace H : ((spec_l1Cur_among.f s0_0 j5 j6 q9).bind fun s6 => (some (b1, b2, s6.1, g5, g0, g6, s6.2.1, s6.2.2))) = some (r1, r2, r3, r4, r5, r6, r7, r8) := by first | (rw [o9]; with_reducible exact H) | (have r0 := (Option.bind_some _ _).symm.trans H; rw [o9]; with_reducible exact r0) | (have r0 := (Option.bind_some _ _).symm.trans H; with_reducible exact r0) | with_reducible exact H | (rw [o9]; exact H) | exact H
 have v9 := Aside0.mk o9
 clear o9
 obtain ⟨⟨j0, x2, x3⟩, C5, H⟩ := bD H
 try dsimp only at H
 simp only [Option.some.injEq, Prod.mk.injEq] at H
 obtain ⟨rfl, rfl, rfl, rfl, rfl, rfl, rfl, rfl⟩ := H
 try go_wp2_with (first | ((with_reducible refine gate_callee (f := 52) rfl ?_); refine goesL_ (some 28) rfl rfl Tryz.func52 kr rfl #[.pointer (some ⟨g, 0, none⟩), .int .i64 14] rfl sM ?_; (with_reducible refine (spec_l1Cur_pick.calls g s0_0 j3 j4 14 k7 j5 j6 w0 _ ?side1 ?side2 v2.out).mono ?_); (case side1 => exact kI); (case side2 => exact bI); rintro e h6 ⟨rfl, hi, hb, hk⟩; refine ⟨_, rfl, ?_⟩; replace a6 := Aside0.mk (KeepBut.blk hk (g' := a7) (o := .cells #[.int .i64 0, .int .i64 0] 25 (0, 0)) (bK a6) g2.out (by simp)); replace a3 := Aside0.mk (KeepBut.blk hk (g' := a2) (o := .cells #[.int .i64 0, .int .i64 0, .bool false, .bool false] 27 (0, 0)) (bK a3) g3.out (by simp)); replace a8 := Aside0.mk (KeepBut.blk hk (g' := a4) (o := .cells #[.int .i64 b1, .int .i64 b2] 25 (0, 0)) (bK a8) g4.out (by simp)); replace b4 := Aside0.mk (KeepBut.blk hk (g' := a1) (o := .cells #[.int .i64 e6, .int .i64 g5, .bool g0, .bool g6] 27 (0, 0)) (bK b4) b8.out (by simp)); replace HK := Aside0.mk (KeepBut.trans (w := w) kK hk (.inl rfl)); replace HB := Aside0.mk (hb); replace HI0 := Aside0.mk (hi); (try clear hb); (try clear hk); (try clear hi)) | ((with_reducible refine gate_dst (N := 32) rfl ?_); refine Kd.R_lit (Kd.int .i64) _ 3 ?hg (N := 32) ?hd (xs := ([(-1), 0, 9, 61, 4611686018427387904] : List Int)) (inner := [.int .i64 (-1), .int .i64 0, .int .i64 9, .int .i64 61, .int .i64 4611686018427387904]) (ok := fun _ => True) (okp := fun _ => True) ?hr ?hp (fun _ hk => hk) trivial (Below.refl _ _) (Nat.le_refl _) (by simp) ?_; (case hd => rfl); (case hg => rfl); (case hr => first | (go_simp; done) | (go_simp; rfl)); (case hp => exact (Reps.one (show Kd.M (Kd.int .i64) _ _ _ (-1) [.int .i64 (-1)] from rfl) (Reps.one (show Kd.M (Kd.int .i64) _ _ _ 0 [.int .i64 0] from rfl) (Reps.one (show Kd.M (Kd.int .i64) _ _ _ 9 [.int .i64 9] from rfl) (Reps.one (show Kd.M (Kd.int .i64) _ _ _ 61 [.int .i64 61] from rfl) (Reps.one (show Kd.M (Kd.int .i64) _ _ _ 4611686018427387904 [.int .i64 4611686018427387904] from rfl) (Reps.none _ _))))))); intro C6 j8 k0 hb hg_ hnew_; clear hg_ hnew_; (first | rw [← v9.out] at k0 | (simp only [Int.reduceToNat] at k0; rw [← v9.out] at k0)); have g1 := Aside0.mk (Kd.R_lower k0 (keep_size (w := w) (g := g) (row := none) kK)); replace HI0 := Aside0.mk (IsS73.below kI hb); replace a6 := bQ a6 hb; replace a3 := bQ a3 hb; replace a8 := bQ a8 hb; replace b4 := bQ b4 hb; replace HK := Aside0.mk (KeepBut.trans (w := w) kK (KeepBut.of_below hb g none) (.inl rfl)); replace HB := Aside0.mk (below_step bI hb); clear hb k0; obtain ⟨r9, s1, v7⟩ := Kd.R_slice g1.out; subst v7) | ((with_reducible refine gate_callee (f := 51) rfl ?_); refine goesL_ (some 33) rfl rfl Tryz.func51 kr rfl #[.pointer (some ⟨g, 0, none⟩), .slice r9 q9.length s1] rfl sM ?_; (with_reducible refine (spec_l1Cur_among.calls g s0_0 j5 j6 _ _ q9 j0 x2 x3 w0 _ ?side1 ?side2 ?side3 ?side4 ?side5 C5.out).mono ?_); (case side1 => exact kI); (case side2 => exact bI); (case side3 => repeat (first | exact (Kd.R_reads' g1.out).2.2 | (with_reducible refine Kd.C_alloc ?_ _) | (with_reducible refine Kd.C_drewN ?_ _) | (with_reducible refine Kd.C_drew ?_))); (case side4 => exact (Kd.R_reads' g1.out).2.1); (case side5 => exact far_slice (IsS73.own_ne HI0.out g1.out (by decide))); rintro e d6 ⟨rfl, hi, hb, hk⟩; refine ⟨_, rfl, ?_⟩; replace a6 := Aside0.mk (KeepBut.blk hk (g' := a7) (o := .cells #[.int .i64 0, .int .i64 0] 25 (0, 0)) (bK a6) g2.out (by simp)); replace a3 := Aside0.mk (KeepBut.blk hk (g' := a2) (o := .cells #[.int .i64 0, .int .i64 0, .bool false, .bool false] 27 (0, 0)) (bK a3) g3.out (by simp)); replace a8 := Aside0.mk (KeepBut.blk hk (g' := a4) (o := .cells #[.int .i64 b1, .int .i64 b2] 25 (0, 0)) (bK a8) g4.out (by simp)); replace b4 := Aside0.mk (KeepBut.blk hk (g' := a1) (o := .cells #[.int .i64 e6, .int .i64 g5, .bool g0, .bool g6] 27 (0, 0)) (bK b4) b8.out (by simp)); replace g1 := Aside0.mk (Kd.R_mono (Kd.R_keep (IsS73.apart (show IsS73 w0 _ g s0_0 j5 j6 from by repeat (first | (with_reducible first | exact HI0.out | apply IsS73.alloc | apply IsS73.drewN | apply IsS73.drew | apply IsS73.set_1 | apply IsS73.set_2 | refine IsS73.far ?_ c8.out _ | refine IsS73.far ?_ c9.out _ | refine IsS73.far ?_ d2.out _ | refine IsS73.far ?_ b7.out _) | exact HI0.out)) (oR g1) (by decide)) hk (fun _ h => h.2)) (fun _ h => h.1)); replace HK := Aside0.mk (KeepBut.trans (w := w) kK hk (.inl rfl)); replace HB := Aside0.mk (hb); replace HI0 := Aside0.mk (hi); (try clear hb); (try clear hk); (try clear hi); have s7 := a5.out; have s8 := b3.out; have s9 := a0.out; have u0 := a9.out; have u1 := b6.out; have u2 := b5.out; have u3 := b8.out; have u4 := b7.out; obtain ⟨p3, p4, p5, p6, p7, p8, p9, q0⟩ := cf4 b4))
 have h7 : Aside0 (Kd.R (Kd.int .i64) 3 (d6.setCell ⟨a1, 0, none⟩ (.int .i64 j0)) w.heap.size (fun _ => True) (.slice r9 q9.length s1) q9) := ⟨by (with_reducible repeat (first | apply Kd.R_alloc | apply Kd.R_drewN | apply Kd.R_drew)); exact Kd.R_mono (Kd.R_far (p := ⟨a1, 0, none⟩) (Kd.R_types g1.out b4.out (by decide)) (fun _ hk => hk.2) (.int .i64 j0)) (fun _ hk => trivial)⟩
 have h8 : Aside0 ((d6.setCell ⟨a1, 0, none⟩ (.int .i64 j0)).heap[a7]? = some (.cells #[.int .i64 0, .int .i64 0] 25 (0, 0))) := (bA a6)
 have h9 : Aside0 ((d6.setCell ⟨a1, 0, none⟩ (.int .i64 j0)).heap[a2]? = some (.cells #[.int .i64 0, .int .i64 0, .bool false, .bool false] 27 (0, 0))) := (bA a3)
 have i0 : Aside0 ((d6.setCell ⟨a1, 0, none⟩ (.int .i64 j0)).heap[a4]? = some (.cells #[.int .i64 b1, .int .i64 b2] 25 (0, 0))) := (bA a8)
 have i1 : Aside0 ((d6.setCell ⟨a1, 0, none⟩ (.int .i64 j0)).heap[a1]? = some (.cells #[.int .i64 j0, .int .i64 g5, .bool g0, .bool g6] 27 (0, 0))) := (bA b4)
 have i2 : Aside0 (IsS73 w0 (d6.setCell ⟨a1, 0, none⟩ (.int .i64 j0)) g s0_0 x2 x3) := ⟨kI⟩
 have i7 : Aside0 (KeepBut w (d6.setCell ⟨a1, 0, none⟩ (.int .i64 j0)) g none) := ⟨kK⟩
 have o8 : Aside0 (Below w0.heap.size w0 (d6.setCell ⟨a1, 0, none⟩ (.int .i64 j0))) := ⟨bI⟩
 (try clear g1)
 try clear a6
 try clear a3
 try clear a8
 try clear b4
 (try clear HI0)
 (try clear HK)
 (try clear HB)
 generalize (d6.setCell ⟨a1, 0, none⟩ (.int .i64 j0)) = v8 at h7 h8 h9 i0 i1 i2 i7 o8 ⊢
 have g1 := h7
 have a6 := h8
 have a3 := h9
 have a8 := i0
 have b4 := i1
 have HI0 := i2
 have HK := i7
 have HB := o8
 clear h7 h8 h9 i0 i1 i2 i7 o8
 replace g1 := Aside0.mk (Kd.R_drew g1.out)
 replace a6 := bD1 a6
 replace a3 := bD1 a3
 replace a8 := bD1 a8
 replace b4 := bD1 b4
 replace HI0 := Aside0.mk (IsS73.drew HI0.out)
 replace HK := Aside0.mk (keep_drew HK.out)
 replace HB := Aside0.mk (below_drew1 HB.out)
 refine st0_ 4 [qt 0 45, qt 1 46, qn 2 3, qn 3 3] (S := fun w' => w'.cell? ⟨a4, 0, none⟩ = some (.int .i64 b1) ∧ w'.cell? ⟨a4, 1, none⟩ = some (.int .i64 b2) ∧ w'.cell? ⟨a1, 0, none⟩ = some (.int .i64 j0) ∧ w'.cell? ⟨a1, 1, none⟩ = some (.int .i64 g5) ∧ w'.cell? ⟨a1, 2, none⟩ = some (.bool g0) ∧ w'.cell? ⟨a1, 3, none⟩ = some (.bool g6)) (ds := []) cS (fun hHeld HT_ HW_ => ?_)
 generalize v8.drew = j7 at g1 a6 a3 a8 b4 HI0 HK HB hHeld ⊢
 iterate 2 refine pU HT_ hHeld ?_
 refine pO HT_ fun K hK => ?_
 have u5 : j7.cell? ⟨a7, 0, none⟩ = some (.int .i64 0) := (blk_cell a6.out 0).trans rfl
 have q2 := blk_frozen a6.out 0
 have l6 := c1.out
 have l7 := b9.out
 have l8 := a5.out
 have l9 := c0.out
 have m0 := g7.out
 have m1 := b3.out
 have u6 : j7.cell? ⟨a7, 1, none⟩ = some (.int .i64 0) := (blk_cell a6.out 1).trans rfl
 have q3 := blk_frozen a6.out 1
 have m2 := c1.out
 have m3 := b9.out
 have m4 := a5.out
 have m5 := c0.out
 have m6 := g7.out
 have m7 := b3.out
 refine skip_ (w1 := ?_) (by rfl) rfl ?_ ?_
 rotate_left
 ·(
 go_simp
 rfl
 )
 refine hK.out _ _ ⟨((cell_far (p := ⟨a7, _, none⟩) b9.out _).trans (((cell_far (p := ⟨a7, _, none⟩) b9.out _).trans (hHeld.1)))), ((cell_far (p := ⟨a7, _, none⟩) b9.out _).trans (((cell_far (p := ⟨a7, _, none⟩) b9.out _).trans (hHeld.2.1)))), ((cell_far (p := ⟨a7, _, none⟩) a5.out _).trans (((cell_far (p := ⟨a7, _, none⟩) a5.out _).trans (hHeld.2.2.1)))), ((cell_far (p := ⟨a7, _, none⟩) a5.out _).trans (((cell_far (p := ⟨a7, _, none⟩) a5.out _).trans (hHeld.2.2.2.1)))), ((cell_far (p := ⟨a7, _, none⟩) a5.out _).trans (((cell_far (p := ⟨a7, _, none⟩) a5.out _).trans (hHeld.2.2.2.2.1)))), ((cell_far (p := ⟨a7, _, none⟩) a5.out _).trans (((cell_far (p := ⟨a7, _, none⟩) a5.out _).trans (hHeld.2.2.2.2.2))))⟩ (fun hHeld => ?_)
 clear hK K
 refine pO HT_ fun K hK => ?_
 have u7 : j7.cell? ⟨a2, 0, none⟩ = some (.int .i64 0) := (blk_cell a3.out 0).trans rfl
 have q4 := blk_frozen a3.out 0
 have m8 := c0.out
 have m9 := b0.out
 have n0 := a0.out
 have n1 := c1.out
 have n2 := d1.out
 have n3 := a9.out
 have u9 : j7.cell? ⟨a2, 1, none⟩ = some (.int .i64 0) := (blk_cell a3.out 1).trans rfl
 have q5 := blk_frozen a3.out 1
 have n4 := c0.out
 have n5 := b0.out
 have n6 := a0.out
 have n7 := c1.out
 have n8 := d1.out
 have n9 := a9.out
 have v0 : j7.cell? ⟨a2, 2, none⟩ = some (.bool false) := (blk_cell a3.out 2).trans rfl
 have q6 := blk_frozen a3.out 2
 have o0 := c0.out
 have o1 := b0.out
 have o2 := a0.out
 have o3 := c1.out
 have o4 := d1.out
 have o5 := a9.out
 have q7 : j7.cell? ⟨a2, 3, none⟩ = some (.bool false) := (blk_cell a3.out 3).trans rfl
 have p0 := blk_frozen a3.out 3
 have k9 := c0.out
 have l0 := b0.out
 have l1 := a0.out
 have l2 := c1.out
 have l3 := d1.out
 have l4 := a9.out
 refine skip_ (w1 := ?_) (by rfl) rfl ?_ ?_
 rotate_left
 ·(
 go_simp
 rfl
 )
 refine hK.out _ _ ⟨((cell_far (p := ⟨a2, _, none⟩) b0.out _).trans (((cell_far (p := ⟨a2, _, none⟩) b0.out _).trans (((cell_far (p := ⟨a2, _, none⟩) b0.out _).trans (((cell_far (p := ⟨a2, _, none⟩) b0.out _).trans (hHeld.1)))))))), ((cell_far (p := ⟨a2, _, none⟩) b0.out _).trans (((cell_far (p := ⟨a2, _, none⟩) b0.out _).trans (((cell_far (p := ⟨a2, _, none⟩) b0.out _).trans (((cell_far (p := ⟨a2, _, none⟩) b0.out _).trans (hHeld.2.1)))))))), ((cell_far (p := ⟨a2, _, none⟩) a0.out _).trans (((cell_far (p := ⟨a2, _, none⟩) a0.out _).trans (((cell_far (p := ⟨a2, _, none⟩) a0.out _).trans (((cell_far (p := ⟨a2, _, none⟩) a0.out _).trans (hHeld.2.2.1)))))))), ((cell_far (p := ⟨a2, _, none⟩) a0.out _).trans (((cell_far (p := ⟨a2, _, none⟩) a0.out _).trans (((cell_far (p := ⟨a2, _, none⟩) a0.out _).trans (((cell_far (p := ⟨a2, _, none⟩) a0.out _).trans (hHeld.2.2.2.1)))))))), ((cell_far (p := ⟨a2, _, none⟩) a0.out _).trans (((cell_far (p := ⟨a2, _, none⟩) a0.out _).trans (((cell_far (p := ⟨a2, _, none⟩) a0.out _).trans (((cell_far (p := ⟨a2, _, none⟩) a0.out _).trans (hHeld.2.2.2.2.1)))))))), ((cell_far (p := ⟨a2, _, none⟩) a0.out _).trans (((cell_far (p := ⟨a2, _, none⟩) a0.out _).trans (((cell_far (p := ⟨a2, _, none⟩) a0.out _).trans (((cell_far (p := ⟨a2, _, none⟩) a0.out _).trans (hHeld.2.2.2.2.2))))))))⟩ (fun hHeld => ?_)
 clear hK K
 refine pD HT_ ?_
 try go_wp2
 refine bodyPost_ret (results_cc rfl _ _ a7 a2 25 27 #[.int .i64 b1, .int .i64 b2] #[.int .i64 j0, .int .i64 g5, .bool g0, .bool g6] (0, 0) (0, 0) _ _ rfl (bK a6) Tryz.underlying25 rfl kr rfl (bK a3) Tryz.underlying27 rfl kr) rfl ?_
 exact ⟨sE, kI, bI, kK⟩
 )
 ·(
 rw [if_neg v3] at H
 obtain ⟨x8, x9⟩ := nE v3
 by_cases v4 : k7 = 1
 ·(
 rw [if_pos v4] at H
 obtain ⟨y0, y1⟩ := yE v4
 clear v4
 obtain ⟨s2, p1⟩ : ∃ y_ : List Int, y_ = (([(-1), 0, 9, 61, 4611686018427387904] : List Int)) := ⟨_, rfl⟩
 replace H : ((spec_l1Cur_among.f s0_0 j5 j6 s2).bind fun v1 => (some (b1, b2, e6, v1.1, g0, g6, v1.2.1, v1.2.2))) = some (r1, r2, r3, r4, r5, r6, r7, r8) := by first | (rw [p1]; with_reducible exact H) | (have r0 := (Option.bind_some _ _).symm.trans H; rw [p1]; with_reducible exact r0) | (have r0 := (Option.bind_some _ _).symm.trans H; with_reducible exact r0) | with_reducible exact H | (rw [p1]; exact H) | exact H
 have x0 := Aside0.mk p1
 clear p1
 obtain ⟨⟨j1, x4, x5⟩, C7, H⟩ := bD H
 try dsimp only at H
 simp only [Option.some.injEq, Prod.mk.injEq] at H
 obtain ⟨rfl, rfl, rfl, rfl, rfl, rfl, rfl, rfl⟩ := H
 try go_wp2_with (first | ((with_reducible refine gate_callee (f := 52) rfl ?_); refine goesL_ (some 28) rfl rfl Tryz.func52 kr rfl #[.pointer (some ⟨g, 0, none⟩), .int .i64 14] rfl sM ?_; (with_reducible refine (spec_l1Cur_pick.calls g s0_0 j3 j4 14 k7 j5 j6 w0 _ ?side1 ?side2 v2.out).mono ?_); (case side1 => exact kI); (case side2 => exact bI); rintro e h6 ⟨rfl, hi, hb, hk⟩; refine ⟨_, rfl, ?_⟩; replace a6 := Aside0.mk (KeepBut.blk hk (g' := a7) (o := .cells #[.int .i64 0, .int .i64 0] 25 (0, 0)) (bK a6) g2.out (by simp)); replace a3 := Aside0.mk (KeepBut.blk hk (g' := a2) (o := .cells #[.int .i64 0, .int .i64 0, .bool false, .bool false] 27 (0, 0)) (bK a3) g3.out (by simp)); replace a8 := Aside0.mk (KeepBut.blk hk (g' := a4) (o := .cells #[.int .i64 b1, .int .i64 b2] 25 (0, 0)) (bK a8) g4.out (by simp)); replace b4 := Aside0.mk (KeepBut.blk hk (g' := a1) (o := .cells #[.int .i64 e6, .int .i64 g5, .bool g0, .bool g6] 27 (0, 0)) (bK b4) b8.out (by simp)); replace HK := Aside0.mk (KeepBut.trans (w := w) kK hk (.inl rfl)); replace HB := Aside0.mk (hb); replace HI0 := Aside0.mk (hi); (try clear hb); (try clear hk); (try clear hi)) | ((with_reducible refine gate_dst (N := 38) rfl ?_); refine Kd.R_lit (Kd.int .i64) _ 3 ?hg (N := 38) ?hd (xs := ([(-1), 0, 9, 61, 4611686018427387904] : List Int)) (inner := [.int .i64 (-1), .int .i64 0, .int .i64 9, .int .i64 61, .int .i64 4611686018427387904]) (ok := fun _ => True) (okp := fun _ => True) ?hr ?hp (fun _ hk => hk) trivial (Below.refl _ _) (Nat.le_refl _) (by simp) ?_; (case hd => rfl); (case hg => rfl); (case hr => first | (go_simp; done) | (go_simp; rfl)); (case hp => exact (Reps.one (show Kd.M (Kd.int .i64) _ _ _ (-1) [.int .i64 (-1)] from rfl) (Reps.one (show Kd.M (Kd.int .i64) _ _ _ 0 [.int .i64 0] from rfl) (Reps.one (show Kd.M (Kd.int .i64) _ _ _ 9 [.int .i64 9] from rfl) (Reps.one (show Kd.M (Kd.int .i64) _ _ _ 61 [.int .i64 61] from rfl) (Reps.one (show Kd.M (Kd.int .i64) _ _ _ 4611686018427387904 [.int .i64 4611686018427387904] from rfl) (Reps.none _ _))))))); intro C6 j8 k0 hb hg_ hnew_; clear hg_ hnew_; (first | rw [← x0.out] at k0 | (simp only [Int.reduceToNat] at k0; rw [← x0.out] at k0)); have g1 := Aside0.mk (Kd.R_lower k0 (keep_size (w := w) (g := g) (row := none) kK)); replace HI0 := Aside0.mk (IsS73.below kI hb); replace a6 := bQ a6 hb; replace a3 := bQ a3 hb; replace a8 := bQ a8 hb; replace b4 := bQ b4 hb; replace HK := Aside0.mk (KeepBut.trans (w := w) kK (KeepBut.of_below hb g none) (.inl rfl)); replace HB := Aside0.mk (below_step bI hb); clear hb k0; obtain ⟨r9, s1, v7⟩ := Kd.R_slice g1.out; subst v7) | ((with_reducible refine gate_callee (f := 51) rfl ?_); refine goesL_ (some 39) rfl rfl Tryz.func51 kr rfl #[.pointer (some ⟨g, 0, none⟩), .slice r9 s2.length s1] rfl sM ?_; (with_reducible refine (spec_l1Cur_among.calls g s0_0 j5 j6 _ _ s2 j1 x4 x5 w0 _ ?side1 ?side2 ?side3 ?side4 ?side5 C7.out).mono ?_); (case side1 => exact kI); (case side2 => exact bI); (case side3 => repeat (first | exact (Kd.R_reads' g1.out).2.2 | (with_reducible refine Kd.C_alloc ?_ _) | (with_reducible refine Kd.C_drewN ?_ _) | (with_reducible refine Kd.C_drew ?_))); (case side4 => exact (Kd.R_reads' g1.out).2.1); (case side5 => exact far_slice (IsS73.own_ne HI0.out g1.out (by decide))); rintro e d6 ⟨rfl, hi, hb, hk⟩; refine ⟨_, rfl, ?_⟩; replace a6 := Aside0.mk (KeepBut.blk hk (g' := a7) (o := .cells #[.int .i64 0, .int .i64 0] 25 (0, 0)) (bK a6) g2.out (by simp)); replace a3 := Aside0.mk (KeepBut.blk hk (g' := a2) (o := .cells #[.int .i64 0, .int .i64 0, .bool false, .bool false] 27 (0, 0)) (bK a3) g3.out (by simp)); replace a8 := Aside0.mk (KeepBut.blk hk (g' := a4) (o := .cells #[.int .i64 b1, .int .i64 b2] 25 (0, 0)) (bK a8) g4.out (by simp)); replace b4 := Aside0.mk (KeepBut.blk hk (g' := a1) (o := .cells #[.int .i64 e6, .int .i64 g5, .bool g0, .bool g6] 27 (0, 0)) (bK b4) b8.out (by simp)); replace g1 := Aside0.mk (Kd.R_mono (Kd.R_keep (IsS73.apart (show IsS73 w0 _ g s0_0 j5 j6 from by repeat (first | (with_reducible first | exact HI0.out | apply IsS73.alloc | apply IsS73.drewN | apply IsS73.drew | apply IsS73.set_1 | apply IsS73.set_2 | refine IsS73.far ?_ c8.out _ | refine IsS73.far ?_ c9.out _ | refine IsS73.far ?_ d2.out _ | refine IsS73.far ?_ b7.out _) | exact HI0.out)) (oR g1) (by decide)) hk (fun _ h => h.2)) (fun _ h => h.1)); replace HK := Aside0.mk (KeepBut.trans (w := w) kK hk (.inl rfl)); replace HB := Aside0.mk (hb); replace HI0 := Aside0.mk (hi); (try clear hb); (try clear hk); (try clear hi); have s7 := a5.out; have s8 := b3.out; have s9 := a0.out; have u0 := a9.out; have u1 := b6.out; have u2 := b5.out; have u3 := b8.out; have u4 := b7.out; obtain ⟨p3, p4, p5, p6, p7, p8, p9, q0⟩ := cf4 b4))
 have h7 : Aside0 (Kd.R (Kd.int .i64) 3 (d6.setCell ⟨a1, 1, none⟩ (.int .i64 j1)) w.heap.size (fun _ => True) (.slice r9 s2.length s1) s2) := ⟨by (with_reducible repeat (first | apply Kd.R_alloc | apply Kd.R_drewN | apply Kd.R_drew)); exact Kd.R_mono (Kd.R_far (p := ⟨a1, 1, none⟩) (Kd.R_types g1.out b4.out (by decide)) (fun _ hk => hk.2) (.int .i64 j1)) (fun _ hk => trivial)⟩
 have h8 : Aside0 ((d6.setCell ⟨a1, 1, none⟩ (.int .i64 j1)).heap[a7]? = some (.cells #[.int .i64 0, .int .i64 0] 25 (0, 0))) := (bA a6)
 have h9 : Aside0 ((d6.setCell ⟨a1, 1, none⟩ (.int .i64 j1)).heap[a2]? = some (.cells #[.int .i64 0, .int .i64 0, .bool false, .bool false] 27 (0, 0))) := (bA a3)
 have i0 : Aside0 ((d6.setCell ⟨a1, 1, none⟩ (.int .i64 j1)).heap[a4]? = some (.cells #[.int .i64 b1, .int .i64 b2] 25 (0, 0))) := (bA a8)
 have i1 : Aside0 ((d6.setCell ⟨a1, 1, none⟩ (.int .i64 j1)).heap[a1]? = some (.cells #[.int .i64 e6, .int .i64 j1, .bool g0, .bool g6] 27 (0, 0))) := (bA b4)
 have i2 : Aside0 (IsS73 w0 (d6.setCell ⟨a1, 1, none⟩ (.int .i64 j1)) g s0_0 x4 x5) := ⟨kI⟩
 have i7 : Aside0 (KeepBut w (d6.setCell ⟨a1, 1, none⟩ (.int .i64 j1)) g none) := ⟨kK⟩
 have o8 : Aside0 (Below w0.heap.size w0 (d6.setCell ⟨a1, 1, none⟩ (.int .i64 j1))) := ⟨bI⟩
 (try clear g1)
 try clear a6
 try clear a3
 try clear a8
 try clear b4
 (try clear HI0)
 (try clear HK)
 (try clear HB)
 generalize (d6.setCell ⟨a1, 1, none⟩ (.int .i64 j1)) = v8 at h7 h8 h9 i0 i1 i2 i7 o8 ⊢
 have g1 := h7
 have a6 := h8
 have a3 := h9
 have a8 := i0
 have b4 := i1
 have HI0 := i2
 have HK := i7
 have HB := o8
 clear h7 h8 h9 i0 i1 i2 i7 o8
 replace g1 := Aside0.mk (Kd.R_drew g1.out)
 replace a6 := bD1 a6
 replace a3 := bD1 a3
 replace a8 := bD1 a8
 replace b4 := bD1 b4
 replace HI0 := Aside0.mk (IsS73.drew HI0.out)
 replace HK := Aside0.mk (keep_drew HK.out)
 replace HB := Aside0.mk (below_drew1 HB.out)
 refine st0_ 4 [qt 0 45, qt 1 46, qn 2 3, qn 3 3] (S := fun w' => w'.cell? ⟨a4, 0, none⟩ = some (.int .i64 b1) ∧ w'.cell? ⟨a4, 1, none⟩ = some (.int .i64 b2) ∧ w'.cell? ⟨a1, 0, none⟩ = some (.int .i64 e6) ∧ w'.cell? ⟨a1, 1, none⟩ = some (.int .i64 j1) ∧ w'.cell? ⟨a1, 2, none⟩ = some (.bool g0) ∧ w'.cell? ⟨a1, 3, none⟩ = some (.bool g6)) (ds := []) cS (fun hHeld HT_ HW_ => ?_)
 generalize v8.drew = j7 at g1 a6 a3 a8 b4 HI0 HK HB hHeld ⊢
 iterate 2 refine pU HT_ hHeld ?_
 refine pO HT_ fun K hK => ?_
 have u5 : j7.cell? ⟨a7, 0, none⟩ = some (.int .i64 0) := (blk_cell a6.out 0).trans rfl
 have q2 := blk_frozen a6.out 0
 have l6 := c1.out
 have l7 := b9.out
 have l8 := a5.out
 have l9 := c0.out
 have m0 := g7.out
 have m1 := b3.out
 have u6 : j7.cell? ⟨a7, 1, none⟩ = some (.int .i64 0) := (blk_cell a6.out 1).trans rfl
 have q3 := blk_frozen a6.out 1
 have m2 := c1.out
 have m3 := b9.out
 have m4 := a5.out
 have m5 := c0.out
 have m6 := g7.out
 have m7 := b3.out
 refine skip_ (w1 := ?_) (by rfl) rfl ?_ ?_
 rotate_left
 ·(
 go_simp
 rfl
 )
 refine hK.out _ _ ⟨((cell_far (p := ⟨a7, _, none⟩) b9.out _).trans (((cell_far (p := ⟨a7, _, none⟩) b9.out _).trans (hHeld.1)))), ((cell_far (p := ⟨a7, _, none⟩) b9.out _).trans (((cell_far (p := ⟨a7, _, none⟩) b9.out _).trans (hHeld.2.1)))), ((cell_far (p := ⟨a7, _, none⟩) a5.out _).trans (((cell_far (p := ⟨a7, _, none⟩) a5.out _).trans (hHeld.2.2.1)))), ((cell_far (p := ⟨a7, _, none⟩) a5.out _).trans (((cell_far (p := ⟨a7, _, none⟩) a5.out _).trans (hHeld.2.2.2.1)))), ((cell_far (p := ⟨a7, _, none⟩) a5.out _).trans (((cell_far (p := ⟨a7, _, none⟩) a5.out _).trans (hHeld.2.2.2.2.1)))), ((cell_far (p := ⟨a7, _, none⟩) a5.out _).trans (((cell_far (p := ⟨a7, _, none⟩) a5.out _).trans (hHeld.2.2.2.2.2))))⟩ (fun hHeld => ?_)
 clear hK K
 refine pO HT_ fun K hK => ?_
 have u7 : j7.cell? ⟨a2, 0, none⟩ = some (.int .i64 0) := (blk_cell a3.out 0).trans rfl
 have q4 := blk_frozen a3.out 0
 have m8 := c0.out
 have m9 := b0.out
 have n0 := a0.out
 have n1 := c1.out
 have n2 := d1.out
 have n3 := a9.out
 have u9 : j7.cell? ⟨a2, 1, none⟩ = some (.int .i64 0) := (blk_cell a3.out 1).trans rfl
 have q5 := blk_frozen a3.out 1
 have n4 := c0.out
 have n5 := b0.out
 have n6 := a0.out
 have n7 := c1.out
 have n8 := d1.out
 have n9 := a9.out
 have v0 : j7.cell? ⟨a2, 2, none⟩ = some (.bool false) := (blk_cell a3.out 2).trans rfl
 have q6 := blk_frozen a3.out 2
 have o0 := c0.out
 have o1 := b0.out
 have o2 := a0.out
 have o3 := c1.out
 have o4 := d1.out
 have o5 := a9.out
 have q7 : j7.cell? ⟨a2, 3, none⟩ = some (.bool false) := (blk_cell a3.out 3).trans rfl
 have p0 := blk_frozen a3.out 3
 have k9 := c0.out
 have l0 := b0.out
 have l1 := a0.out
 have l2 := c1.out
 have l3 := d1.out
 have l4 := a9.out
 refine skip_ (w1 := ?_) (by rfl) rfl ?_ ?_
 rotate_left
 ·(
 go_simp
 rfl
 )
 refine hK.out _ _ ⟨((cell_far (p := ⟨a2, _, none⟩) b0.out _).trans (((cell_far (p := ⟨a2, _, none⟩) b0.out _).trans (((cell_far (p := ⟨a2, _, none⟩) b0.out _).trans (((cell_far (p := ⟨a2, _, none⟩) b0.out _).trans (hHeld.1)))))))), ((cell_far (p := ⟨a2, _, none⟩) b0.out _).trans (((cell_far (p := ⟨a2, _, none⟩) b0.out _).trans (((cell_far (p := ⟨a2, _, none⟩) b0.out _).trans (((cell_far (p := ⟨a2, _, none⟩) b0.out _).trans (hHeld.2.1)))))))), ((cell_far (p := ⟨a2, _, none⟩) a0.out _).trans (((cell_far (p := ⟨a2, _, none⟩) a0.out _).trans (((cell_far (p := ⟨a2, _, none⟩) a0.out _).trans (((cell_far (p := ⟨a2, _, none⟩) a0.out _).trans (hHeld.2.2.1)))))))), ((cell_far (p := ⟨a2, _, none⟩) a0.out _).trans (((cell_far (p := ⟨a2, _, none⟩) a0.out _).trans (((cell_far (p := ⟨a2, _, none⟩) a0.out _).trans (((cell_far (p := ⟨a2, _, none⟩) a0.out _).trans (hHeld.2.2.2.1)))))))), ((cell_far (p := ⟨a2, _, none⟩) a0.out _).trans (((cell_far (p := ⟨a2, _, none⟩) a0.out _).trans (((cell_far (p := ⟨a2, _, none⟩) a0.out _).trans (((cell_far (p := ⟨a2, _, none⟩) a0.out _).trans (hHeld.2.2.2.2.1)))))))), ((cell_far (p := ⟨a2, _, none⟩) a0.out _).trans (((cell_far (p := ⟨a2, _, none⟩) a0.out _).trans (((cell_far (p := ⟨a2, _, none⟩) a0.out _).trans (((cell_far (p := ⟨a2, _, none⟩) a0.out _).trans (hHeld.2.2.2.2.2))))))))⟩ (fun hHeld => ?_)
 clear hK K
 refine pD HT_ ?_
 try go_wp2
 refine bodyPost_ret (results_cc rfl _ _ a7 a2 25 27 #[.int .i64 b1, .int .i64 b2] #[.int .i64 e6, .int .i64 j1, .bool g0, .bool g6] (0, 0) (0, 0) _ _ rfl (bK a6) Tryz.underlying25 rfl kr rfl (bK a3) Tryz.underlying27 rfl kr) rfl ?_
 exact ⟨sE, kI, bI, kK⟩
 )
 ·(
 rw [if_neg v4] at H
 obtain ⟨y0, y1⟩ := nE v4
 by_cases v5 : k7 = 2
 ·(
 rw [if_pos v5] at H
 obtain ⟨y2, y3⟩ := yE v5
 clear v5
 simp only [Option.some.injEq, Prod.mk.injEq] at H
 obtain ⟨rfl, rfl, rfl, rfl, rfl, rfl, rfl, rfl⟩ := H
 try go_wp2_with (first | ((with_reducible refine gate_callee (f := 52) rfl ?_); refine goesL_ (some 28) rfl rfl Tryz.func52 kr rfl #[.pointer (some ⟨g, 0, none⟩), .int .i64 14] rfl sM ?_; (with_reducible refine (spec_l1Cur_pick.calls g s0_0 j3 j4 14 k7 j5 j6 w0 _ ?side1 ?side2 v2.out).mono ?_); (case side1 => exact kI); (case side2 => exact bI); rintro e h6 ⟨rfl, hi, hb, hk⟩; refine ⟨_, rfl, ?_⟩; replace a6 := Aside0.mk (KeepBut.blk hk (g' := a7) (o := .cells #[.int .i64 0, .int .i64 0] 25 (0, 0)) (bK a6) g2.out (by simp)); replace a3 := Aside0.mk (KeepBut.blk hk (g' := a2) (o := .cells #[.int .i64 0, .int .i64 0, .bool false, .bool false] 27 (0, 0)) (bK a3) g3.out (by simp)); replace a8 := Aside0.mk (KeepBut.blk hk (g' := a4) (o := .cells #[.int .i64 b1, .int .i64 b2] 25 (0, 0)) (bK a8) g4.out (by simp)); replace b4 := Aside0.mk (KeepBut.blk hk (g' := a1) (o := .cells #[.int .i64 e6, .int .i64 g5, .bool g0, .bool g6] 27 (0, 0)) (bK b4) b8.out (by simp)); replace HK := Aside0.mk (KeepBut.trans (w := w) kK hk (.inl rfl)); replace HB := Aside0.mk (hb); replace HI0 := Aside0.mk (hi); (try clear hb); (try clear hk); (try clear hi); have s7 := a5.out; have s8 := b3.out; have s9 := a0.out; have u0 := a9.out; have u1 := b6.out; have u2 := b5.out; have u3 := b8.out; have u4 := b7.out; obtain ⟨p3, p4, p5, p6, p7, p8, p9, q0⟩ := cf4 b4))
 have h7 : Aside0 (((((h6.setCell ⟨a1, 0, none⟩ (.int .i64 0)).setCell ⟨a1, 1, none⟩ (.int .i64 0)).setCell ⟨a1, 2, none⟩ (.bool true)).setCell ⟨a1, 3, none⟩ (.bool true)).heap[a7]? = some (.cells #[.int .i64 0, .int .i64 0] 25 (0, 0))) := (bA a6)
 have h8 : Aside0 (((((h6.setCell ⟨a1, 0, none⟩ (.int .i64 0)).setCell ⟨a1, 1, none⟩ (.int .i64 0)).setCell ⟨a1, 2, none⟩ (.bool true)).setCell ⟨a1, 3, none⟩ (.bool true)).heap[a2]? = some (.cells #[.int .i64 0, .int .i64 0, .bool false, .bool false] 27 (0, 0))) := (bA a3)
 have h9 : Aside0 (((((h6.setCell ⟨a1, 0, none⟩ (.int .i64 0)).setCell ⟨a1, 1, none⟩ (.int .i64 0)).setCell ⟨a1, 2, none⟩ (.bool true)).setCell ⟨a1, 3, none⟩ (.bool true)).heap[a4]? = some (.cells #[.int .i64 b1, .int .i64 b2] 25 (0, 0))) := (bA a8)
 have i0 : Aside0 (((((h6.setCell ⟨a1, 0, none⟩ (.int .i64 0)).setCell ⟨a1, 1, none⟩ (.int .i64 0)).setCell ⟨a1, 2, none⟩ (.bool true)).setCell ⟨a1, 3, none⟩ (.bool true)).heap[a1]? = some (.cells #[.int .i64 0, .int .i64 0, .bool true, .bool true] 27 (0, 0))) := (bA b4)
 have i1 : Aside0 (IsS73 w0 ((((h6.setCell ⟨a1, 0, none⟩ (.int .i64 0)).setCell ⟨a1, 1, none⟩ (.int .i64 0)).setCell ⟨a1, 2, none⟩ (.bool true)).setCell ⟨a1, 3, none⟩ (.bool true)) g s0_0 j5 j6) := ⟨kI⟩
 have i2 : Aside0 (KeepBut w ((((h6.setCell ⟨a1, 0, none⟩ (.int .i64 0)).setCell ⟨a1, 1, none⟩ (.int .i64 0)).setCell ⟨a1, 2, none⟩ (.bool true)).setCell ⟨a1, 3, none⟩ (.bool true)) g none) := ⟨kK⟩
 have i7 : Aside0 (Below w0.heap.size w0 ((((h6.setCell ⟨a1, 0, none⟩ (.int .i64 0)).setCell ⟨a1, 1, none⟩ (.int .i64 0)).setCell ⟨a1, 2, none⟩ (.bool true)).setCell ⟨a1, 3, none⟩ (.bool true))) := ⟨bI⟩
 try clear a6
 try clear a3
 try clear a8
 try clear b4
 (try clear HI0)
 (try clear HK)
 (try clear HB)
 generalize ((((h6.setCell ⟨a1, 0, none⟩ (.int .i64 0)).setCell ⟨a1, 1, none⟩ (.int .i64 0)).setCell ⟨a1, 2, none⟩ (.bool true)).setCell ⟨a1, 3, none⟩ (.bool true)) = j8 at h7 h8 h9 i0 i1 i2 i7 ⊢
 have a6 := h7
 have a3 := h8
 have a8 := h9
 have b4 := i0
 have HI0 := i1
 have HK := i2
 have HB := i7
 clear h7 h8 h9 i0 i1 i2 i7
 replace a6 := bD1 a6
 replace a3 := bD1 a3
 replace a8 := bD1 a8
 replace b4 := bD1 b4
 replace HI0 := Aside0.mk (IsS73.drew HI0.out)
 replace HK := Aside0.mk (keep_drew HK.out)
 replace HB := Aside0.mk (below_drew1 HB.out)
 refine st0_ 4 [qt 0 45, qt 1 46, qn 2 3, qn 3 3] (S := fun w' => w'.cell? ⟨a4, 0, none⟩ = some (.int .i64 b1) ∧ w'.cell? ⟨a4, 1, none⟩ = some (.int .i64 b2) ∧ w'.cell? ⟨a1, 0, none⟩ = some (.int .i64 0) ∧ w'.cell? ⟨a1, 1, none⟩ = some (.int .i64 0) ∧ w'.cell? ⟨a1, 2, none⟩ = some (.bool true) ∧ w'.cell? ⟨a1, 3, none⟩ = some (.bool true)) (ds := []) cS (fun hHeld HT_ HW_ => ?_)
 generalize j8.drew = d6 at a6 a3 a8 b4 HI0 HK HB hHeld ⊢
 iterate 2 refine pU HT_ hHeld ?_
 refine pO HT_ fun K hK => ?_
 have u5 : d6.cell? ⟨a7, 0, none⟩ = some (.int .i64 0) := (blk_cell a6.out 0).trans rfl
 have q2 := blk_frozen a6.out 0
 have l6 := c1.out
 have l7 := b9.out
 have l8 := a5.out
 have l9 := c0.out
 have m0 := g7.out
 have m1 := b3.out
 have u6 : d6.cell? ⟨a7, 1, none⟩ = some (.int .i64 0) := (blk_cell a6.out 1).trans rfl
 have q3 := blk_frozen a6.out 1
 have m2 := c1.out
 have m3 := b9.out
 have m4 := a5.out
 have m5 := c0.out
 have m6 := g7.out
 have m7 := b3.out
 refine skip_ (w1 := ?_) (by rfl) rfl ?_ ?_
 rotate_left
 ·(
 go_simp
 rfl
 )
 refine hK.out _ _ ⟨((cell_far (p := ⟨a7, _, none⟩) b9.out _).trans (((cell_far (p := ⟨a7, _, none⟩) b9.out _).trans (hHeld.1)))), ((cell_far (p := ⟨a7, _, none⟩) b9.out _).trans (((cell_far (p := ⟨a7, _, none⟩) b9.out _).trans (hHeld.2.1)))), ((cell_far (p := ⟨a7, _, none⟩) a5.out _).trans (((cell_far (p := ⟨a7, _, none⟩) a5.out _).trans (hHeld.2.2.1)))), ((cell_far (p := ⟨a7, _, none⟩) a5.out _).trans (((cell_far (p := ⟨a7, _, none⟩) a5.out _).trans (hHeld.2.2.2.1)))), ((cell_far (p := ⟨a7, _, none⟩) a5.out _).trans (((cell_far (p := ⟨a7, _, none⟩) a5.out _).trans (hHeld.2.2.2.2.1)))), ((cell_far (p := ⟨a7, _, none⟩) a5.out _).trans (((cell_far (p := ⟨a7, _, none⟩) a5.out _).trans (hHeld.2.2.2.2.2))))⟩ (fun hHeld => ?_)
 clear hK K
 refine pO HT_ fun K hK => ?_
 have u7 : d6.cell? ⟨a2, 0, none⟩ = some (.int .i64 0) := (blk_cell a3.out 0).trans rfl
 have q4 := blk_frozen a3.out 0
 have m8 := c0.out
 have m9 := b0.out
 have n0 := a0.out
 have n1 := c1.out
 have n2 := d1.out
 have n3 := a9.out
 have u9 : d6.cell? ⟨a2, 1, none⟩ = some (.int .i64 0) := (blk_cell a3.out 1).trans rfl
 have q5 := blk_frozen a3.out 1
 have n4 := c0.out
 have n5 := b0.out
 have n6 := a0.out
 have n7 := c1.out
 have n8 := d1.out
 have n9 := a9.out
 have v0 : d6.cell? ⟨a2, 2, none⟩ = some (.bool false) := (blk_cell a3.out 2).trans rfl
 have q6 := blk_frozen a3.out 2
 have o0 := c0.out
 have o1 := b0.out
 have o2 := a0.out
 have o3 := c1.out
 have o4 := d1.out
 have o5 := a9.out
 have q7 : d6.cell? ⟨a2, 3, none⟩ = some (.bool false) := (blk_cell a3.out 3).trans rfl
 have p0 := blk_frozen a3.out 3
 have k9 := c0.out
 have l0 := b0.out
 have l1 := a0.out
 have l2 := c1.out
 have l3 := d1.out
 have l4 := a9.out
 refine skip_ (w1 := ?_) (by rfl) rfl ?_ ?_
 rotate_left
 ·(
 go_simp
 rfl
 )
 refine hK.out _ _ ⟨((cell_far (p := ⟨a2, _, none⟩) b0.out _).trans (((cell_far (p := ⟨a2, _, none⟩) b0.out _).trans (((cell_far (p := ⟨a2, _, none⟩) b0.out _).trans (((cell_far (p := ⟨a2, _, none⟩) b0.out _).trans (hHeld.1)))))))), ((cell_far (p := ⟨a2, _, none⟩) b0.out _).trans (((cell_far (p := ⟨a2, _, none⟩) b0.out _).trans (((cell_far (p := ⟨a2, _, none⟩) b0.out _).trans (((cell_far (p := ⟨a2, _, none⟩) b0.out _).trans (hHeld.2.1)))))))), ((cell_far (p := ⟨a2, _, none⟩) a0.out _).trans (((cell_far (p := ⟨a2, _, none⟩) a0.out _).trans (((cell_far (p := ⟨a2, _, none⟩) a0.out _).trans (((cell_far (p := ⟨a2, _, none⟩) a0.out _).trans (hHeld.2.2.1)))))))), ((cell_far (p := ⟨a2, _, none⟩) a0.out _).trans (((cell_far (p := ⟨a2, _, none⟩) a0.out _).trans (((cell_far (p := ⟨a2, _, none⟩) a0.out _).trans (((cell_far (p := ⟨a2, _, none⟩) a0.out _).trans (hHeld.2.2.2.1)))))))), ((cell_far (p := ⟨a2, _, none⟩) a0.out _).trans (((cell_far (p := ⟨a2, _, none⟩) a0.out _).trans (((cell_far (p := ⟨a2, _, none⟩) a0.out _).trans (((cell_far (p := ⟨a2, _, none⟩) a0.out _).trans (hHeld.2.2.2.2.1)))))))), ((cell_far (p := ⟨a2, _, none⟩) a0.out _).trans (((cell_far (p := ⟨a2, _, none⟩) a0.out _).trans (((cell_far (p := ⟨a2, _, none⟩) a0.out _).trans (((cell_far (p := ⟨a2, _, none⟩) a0.out _).trans (hHeld.2.2.2.2.2))))))))⟩ (fun hHeld => ?_)
 clear hK K
 refine pD HT_ ?_
 try go_wp2
 refine bodyPost_ret (results_cc rfl _ _ a7 a2 25 27 #[.int .i64 b1, .int .i64 b2] #[.int .i64 0, .int .i64 0, .bool true, .bool true] (0, 0) (0, 0) _ _ rfl (bK a6) Tryz.underlying25 rfl kr rfl (bK a3) Tryz.underlying27 rfl kr) rfl ?_
 exact ⟨sE, kI, bI, kK⟩
 )
 ·(
 rw [if_neg v5] at H
 obtain ⟨y2, y3⟩ := nE v5
 by_cases s3 : k7 = 3
 ·(
 rw [if_pos s3] at H
 obtain ⟨x6, x7⟩ := yE s3
 clear s3
 simp only [Option.some.injEq, Prod.mk.injEq] at H
 obtain ⟨rfl, rfl, rfl, rfl, rfl, rfl, rfl, rfl⟩ := H
 try go_wp2_with (first | ((with_reducible refine gate_callee (f := 52) rfl ?_); refine goesL_ (some 28) rfl rfl Tryz.func52 kr rfl #[.pointer (some ⟨g, 0, none⟩), .int .i64 14] rfl sM ?_; (with_reducible refine (spec_l1Cur_pick.calls g s0_0 j3 j4 14 k7 j5 j6 w0 _ ?side1 ?side2 v2.out).mono ?_); (case side1 => exact kI); (case side2 => exact bI); rintro e h6 ⟨rfl, hi, hb, hk⟩; refine ⟨_, rfl, ?_⟩; replace a6 := Aside0.mk (KeepBut.blk hk (g' := a7) (o := .cells #[.int .i64 0, .int .i64 0] 25 (0, 0)) (bK a6) g2.out (by simp)); replace a3 := Aside0.mk (KeepBut.blk hk (g' := a2) (o := .cells #[.int .i64 0, .int .i64 0, .bool false, .bool false] 27 (0, 0)) (bK a3) g3.out (by simp)); replace a8 := Aside0.mk (KeepBut.blk hk (g' := a4) (o := .cells #[.int .i64 b1, .int .i64 b2] 25 (0, 0)) (bK a8) g4.out (by simp)); replace b4 := Aside0.mk (KeepBut.blk hk (g' := a1) (o := .cells #[.int .i64 e6, .int .i64 g5, .bool g0, .bool g6] 27 (0, 0)) (bK b4) b8.out (by simp)); replace HK := Aside0.mk (KeepBut.trans (w := w) kK hk (.inl rfl)); replace HB := Aside0.mk (hb); replace HI0 := Aside0.mk (hi); (try clear hb); (try clear hk); (try clear hi); have s7 := a5.out; have s8 := b3.out; have s9 := a0.out; have u0 := a9.out; have u1 := b6.out; have u2 := b5.out; have u3 := b8.out; have u4 := b7.out; obtain ⟨p3, p4, p5, p6, p7, p8, p9, q0⟩ := cf4 b4))
 have h7 : Aside0 (((((h6.setCell ⟨a1, 0, none⟩ (.int .i64 0)).setCell ⟨a1, 1, none⟩ (.int .i64 0)).setCell ⟨a1, 2, none⟩ (.bool true)).setCell ⟨a1, 3, none⟩ (.bool true)).heap[a7]? = some (.cells #[.int .i64 0, .int .i64 0] 25 (0, 0))) := (bA a6)
 have h8 : Aside0 (((((h6.setCell ⟨a1, 0, none⟩ (.int .i64 0)).setCell ⟨a1, 1, none⟩ (.int .i64 0)).setCell ⟨a1, 2, none⟩ (.bool true)).setCell ⟨a1, 3, none⟩ (.bool true)).heap[a2]? = some (.cells #[.int .i64 0, .int .i64 0, .bool false, .bool false] 27 (0, 0))) := (bA a3)
 have h9 : Aside0 (((((h6.setCell ⟨a1, 0, none⟩ (.int .i64 0)).setCell ⟨a1, 1, none⟩ (.int .i64 0)).setCell ⟨a1, 2, none⟩ (.bool true)).setCell ⟨a1, 3, none⟩ (.bool true)).heap[a4]? = some (.cells #[.int .i64 b1, .int .i64 b2] 25 (0, 0))) := (bA a8)
 have i0 : Aside0 (((((h6.setCell ⟨a1, 0, none⟩ (.int .i64 0)).setCell ⟨a1, 1, none⟩ (.int .i64 0)).setCell ⟨a1, 2, none⟩ (.bool true)).setCell ⟨a1, 3, none⟩ (.bool true)).heap[a1]? = some (.cells #[.int .i64 0, .int .i64 0, .bool true, .bool true] 27 (0, 0))) := (bA b4)
 have i1 : Aside0 (IsS73 w0 ((((h6.setCell ⟨a1, 0, none⟩ (.int .i64 0)).setCell ⟨a1, 1, none⟩ (.int .i64 0)).setCell ⟨a1, 2, none⟩ (.bool true)).setCell ⟨a1, 3, none⟩ (.bool true)) g s0_0 j5 j6) := ⟨kI⟩
 have i2 : Aside0 (KeepBut w ((((h6.setCell ⟨a1, 0, none⟩ (.int .i64 0)).setCell ⟨a1, 1, none⟩ (.int .i64 0)).setCell ⟨a1, 2, none⟩ (.bool true)).setCell ⟨a1, 3, none⟩ (.bool true)) g none) := ⟨kK⟩
 have i7 : Aside0 (Below w0.heap.size w0 ((((h6.setCell ⟨a1, 0, none⟩ (.int .i64 0)).setCell ⟨a1, 1, none⟩ (.int .i64 0)).setCell ⟨a1, 2, none⟩ (.bool true)).setCell ⟨a1, 3, none⟩ (.bool true))) := ⟨bI⟩
 try clear a6
 try clear a3
 try clear a8
 try clear b4
 (try clear HI0)
 (try clear HK)
 (try clear HB)
 generalize ((((h6.setCell ⟨a1, 0, none⟩ (.int .i64 0)).setCell ⟨a1, 1, none⟩ (.int .i64 0)).setCell ⟨a1, 2, none⟩ (.bool true)).setCell ⟨a1, 3, none⟩ (.bool true)) = j8 at h7 h8 h9 i0 i1 i2 i7 ⊢
 have a6 := h7
 have a3 := h8
 have a8 := h9
 have b4 := i0
 have HI0 := i1
 have HK := i2
 have HB := i7
 clear h7 h8 h9 i0 i1 i2 i7
 replace a6 := bD1 a6
 replace a3 := bD1 a3
 replace a8 := bD1 a8
 replace b4 := bD1 b4
 replace HI0 := Aside0.mk (IsS73.drew HI0.out)
 replace HK := Aside0.mk (keep_drew HK.out)
 replace HB := Aside0.mk (below_drew1 HB.out)
 refine st0_ 4 [qt 0 45, qt 1 46, qn 2 3, qn 3 3] (S := fun w' => w'.cell? ⟨a4, 0, none⟩ = some (.int .i64 b1) ∧ w'.cell? ⟨a4, 1, none⟩ = some (.int .i64 b2) ∧ w'.cell? ⟨a1, 0, none⟩ = some (.int .i64 0) ∧ w'.cell? ⟨a1, 1, none⟩ = some (.int .i64 0) ∧ w'.cell? ⟨a1, 2, none⟩ = some (.bool true) ∧ w'.cell? ⟨a1, 3, none⟩ = some (.bool true)) (ds := []) cS (fun hHeld HT_ HW_ => ?_)
 generalize j8.drew = d6 at a6 a3 a8 b4 HI0 HK HB hHeld ⊢
 iterate 2 refine pU HT_ hHeld ?_
 refine pO HT_ fun K hK => ?_
 have u5 : d6.cell? ⟨a7, 0, none⟩ = some (.int .i64 0) := (blk_cell a6.out 0).trans rfl
 have q2 := blk_frozen a6.out 0
 have l6 := c1.out
 have l7 := b9.out
 have l8 := a5.out
 have l9 := c0.out
 have m0 := g7.out
 have m1 := b3.out
 have u6 : d6.cell? ⟨a7, 1, none⟩ = some (.int .i64 0) := (blk_cell a6.out 1).trans rfl
 have q3 := blk_frozen a6.out 1
 have m2 := c1.out
 have m3 := b9.out
 have m4 := a5.out
 have m5 := c0.out
 have m6 := g7.out
 have m7 := b3.out
 refine skip_ (w1 := ?_) (by rfl) rfl ?_ ?_
 rotate_left
 ·(
 go_simp
 rfl
 )
 refine hK.out _ _ ⟨((cell_far (p := ⟨a7, _, none⟩) b9.out _).trans (((cell_far (p := ⟨a7, _, none⟩) b9.out _).trans (hHeld.1)))), ((cell_far (p := ⟨a7, _, none⟩) b9.out _).trans (((cell_far (p := ⟨a7, _, none⟩) b9.out _).trans (hHeld.2.1)))), ((cell_far (p := ⟨a7, _, none⟩) a5.out _).trans (((cell_far (p := ⟨a7, _, none⟩) a5.out _).trans (hHeld.2.2.1)))), ((cell_far (p := ⟨a7, _, none⟩) a5.out _).trans (((cell_far (p := ⟨a7, _, none⟩) a5.out _).trans (hHeld.2.2.2.1)))), ((cell_far (p := ⟨a7, _, none⟩) a5.out _).trans (((cell_far (p := ⟨a7, _, none⟩) a5.out _).trans (hHeld.2.2.2.2.1)))), ((cell_far (p := ⟨a7, _, none⟩) a5.out _).trans (((cell_far (p := ⟨a7, _, none⟩) a5.out _).trans (hHeld.2.2.2.2.2))))⟩ (fun hHeld => ?_)
 clear hK K
 refine pO HT_ fun K hK => ?_
 have u7 : d6.cell? ⟨a2, 0, none⟩ = some (.int .i64 0) := (blk_cell a3.out 0).trans rfl
 have q4 := blk_frozen a3.out 0
 have m8 := c0.out
 have m9 := b0.out
 have n0 := a0.out
 have n1 := c1.out
 have n2 := d1.out
 have n3 := a9.out
 have u9 : d6.cell? ⟨a2, 1, none⟩ = some (.int .i64 0) := (blk_cell a3.out 1).trans rfl
 have q5 := blk_frozen a3.out 1
 have n4 := c0.out
 have n5 := b0.out
 have n6 := a0.out
 have n7 := c1.out
 have n8 := d1.out
 have n9 := a9.out
 have v0 : d6.cell? ⟨a2, 2, none⟩ = some (.bool false) := (blk_cell a3.out 2).trans rfl
 have q6 := blk_frozen a3.out 2
 have o0 := c0.out
 have o1 := b0.out
 have o2 := a0.out
 have o3 := c1.out
 have o4 := d1.out
 have o5 := a9.out
 have q7 : d6.cell? ⟨a2, 3, none⟩ = some (.bool false) := (blk_cell a3.out 3).trans rfl
 have p0 := blk_frozen a3.out 3
 have k9 := c0.out
 have l0 := b0.out
 have l1 := a0.out
 have l2 := c1.out
 have l3 := d1.out
 have l4 := a9.out
 refine skip_ (w1 := ?_) (by rfl) rfl ?_ ?_
 rotate_left
 ·(
 go_simp
 rfl
 )
 refine hK.out _ _ ⟨((cell_far (p := ⟨a2, _, none⟩) b0.out _).trans (((cell_far (p := ⟨a2, _, none⟩) b0.out _).trans (((cell_far (p := ⟨a2, _, none⟩) b0.out _).trans (((cell_far (p := ⟨a2, _, none⟩) b0.out _).trans (hHeld.1)))))))), ((cell_far (p := ⟨a2, _, none⟩) b0.out _).trans (((cell_far (p := ⟨a2, _, none⟩) b0.out _).trans (((cell_far (p := ⟨a2, _, none⟩) b0.out _).trans (((cell_far (p := ⟨a2, _, none⟩) b0.out _).trans (hHeld.2.1)))))))), ((cell_far (p := ⟨a2, _, none⟩) a0.out _).trans (((cell_far (p := ⟨a2, _, none⟩) a0.out _).trans (((cell_far (p := ⟨a2, _, none⟩) a0.out _).trans (((cell_far (p := ⟨a2, _, none⟩) a0.out _).trans (hHeld.2.2.1)))))))), ((cell_far (p := ⟨a2, _, none⟩) a0.out _).trans (((cell_far (p := ⟨a2, _, none⟩) a0.out _).trans (((cell_far (p := ⟨a2, _, none⟩) a0.out _).trans (((cell_far (p := ⟨a2, _, none⟩) a0.out _).trans (hHeld.2.2.2.1)))))))), ((cell_far (p := ⟨a2, _, none⟩) a0.out _).trans (((cell_far (p := ⟨a2, _, none⟩) a0.out _).trans (((cell_far (p := ⟨a2, _, none⟩) a0.out _).trans (((cell_far (p := ⟨a2, _, none⟩) a0.out _).trans (hHeld.2.2.2.2.1)))))))), ((cell_far (p := ⟨a2, _, none⟩) a0.out _).trans (((cell_far (p := ⟨a2, _, none⟩) a0.out _).trans (((cell_far (p := ⟨a2, _, none⟩) a0.out _).trans (((cell_far (p := ⟨a2, _, none⟩) a0.out _).trans (hHeld.2.2.2.2.2))))))))⟩ (fun hHeld => ?_)
 clear hK K
 refine pD HT_ ?_
 try go_wp2
 refine bodyPost_ret (results_cc rfl _ _ a7 a2 25 27 #[.int .i64 b1, .int .i64 b2] #[.int .i64 0, .int .i64 0, .bool true, .bool true] (0, 0) (0, 0) _ _ rfl (bK a6) Tryz.underlying25 rfl kr rfl (bK a3) Tryz.underlying27 rfl kr) rfl ?_
 exact ⟨sE, kI, bI, kK⟩
 )
 ·(
 rw [if_neg s3] at H
 obtain ⟨x6, x7⟩ := nE s3
 simp only [Option.some.injEq, Prod.mk.injEq] at H
 obtain ⟨rfl, rfl, rfl, rfl, rfl, rfl, rfl, rfl⟩ := H
 try go_wp2_with (first | ((with_reducible refine gate_callee (f := 52) rfl ?_); refine goesL_ (some 28) rfl rfl Tryz.func52 kr rfl #[.pointer (some ⟨g, 0, none⟩), .int .i64 14] rfl sM ?_; (with_reducible refine (spec_l1Cur_pick.calls g s0_0 j3 j4 14 k7 j5 j6 w0 _ ?side1 ?side2 v2.out).mono ?_); (case side1 => exact kI); (case side2 => exact bI); rintro e h6 ⟨rfl, hi, hb, hk⟩; refine ⟨_, rfl, ?_⟩; replace a6 := Aside0.mk (KeepBut.blk hk (g' := a7) (o := .cells #[.int .i64 0, .int .i64 0] 25 (0, 0)) (bK a6) g2.out (by simp)); replace a3 := Aside0.mk (KeepBut.blk hk (g' := a2) (o := .cells #[.int .i64 0, .int .i64 0, .bool false, .bool false] 27 (0, 0)) (bK a3) g3.out (by simp)); replace a8 := Aside0.mk (KeepBut.blk hk (g' := a4) (o := .cells #[.int .i64 b1, .int .i64 b2] 25 (0, 0)) (bK a8) g4.out (by simp)); replace b4 := Aside0.mk (KeepBut.blk hk (g' := a1) (o := .cells #[.int .i64 e6, .int .i64 g5, .bool g0, .bool g6] 27 (0, 0)) (bK b4) b8.out (by simp)); replace HK := Aside0.mk (KeepBut.trans (w := w) kK hk (.inl rfl)); replace HB := Aside0.mk (hb); replace HI0 := Aside0.mk (hi); (try clear hb); (try clear hk); (try clear hi)))
 replace a6 := bD1 a6
 replace a3 := bD1 a3
 replace a8 := bD1 a8
 replace b4 := bD1 b4
 replace HI0 := Aside0.mk (IsS73.drew HI0.out)
 replace HK := Aside0.mk (keep_drew HK.out)
 replace HB := Aside0.mk (below_drew1 HB.out)
 refine st0_ 4 [qt 0 45, qt 1 46, qn 2 3, qn 3 3] (S := fun w' => w'.cell? ⟨a4, 0, none⟩ = some (.int .i64 b1) ∧ w'.cell? ⟨a4, 1, none⟩ = some (.int .i64 b2) ∧ w'.cell? ⟨a1, 0, none⟩ = some (.int .i64 e6) ∧ w'.cell? ⟨a1, 1, none⟩ = some (.int .i64 g5) ∧ w'.cell? ⟨a1, 2, none⟩ = some (.bool g0) ∧ w'.cell? ⟨a1, 3, none⟩ = some (.bool g6)) (ds := []) cS (fun hHeld HT_ HW_ => ?_)
 generalize h6.drew = j8 at a6 a3 a8 b4 HI0 HK HB hHeld ⊢
 iterate 2 refine pU HT_ hHeld ?_
 refine pO HT_ fun K hK => ?_
 have u5 : j8.cell? ⟨a7, 0, none⟩ = some (.int .i64 0) := (blk_cell a6.out 0).trans rfl
 have q2 := blk_frozen a6.out 0
 have l6 := c1.out
 have l7 := b9.out
 have l8 := a5.out
 have l9 := c0.out
 have m0 := g7.out
 have m1 := b3.out
 have u6 : j8.cell? ⟨a7, 1, none⟩ = some (.int .i64 0) := (blk_cell a6.out 1).trans rfl
 have q3 := blk_frozen a6.out 1
 have m2 := c1.out
 have m3 := b9.out
 have m4 := a5.out
 have m5 := c0.out
 have m6 := g7.out
 have m7 := b3.out
 refine skip_ (w1 := ?_) (by rfl) rfl ?_ ?_
 rotate_left
 ·(
 go_simp
 rfl
 )
 refine hK.out _ _ ⟨((cell_far (p := ⟨a7, _, none⟩) b9.out _).trans (((cell_far (p := ⟨a7, _, none⟩) b9.out _).trans (hHeld.1)))), ((cell_far (p := ⟨a7, _, none⟩) b9.out _).trans (((cell_far (p := ⟨a7, _, none⟩) b9.out _).trans (hHeld.2.1)))), ((cell_far (p := ⟨a7, _, none⟩) a5.out _).trans (((cell_far (p := ⟨a7, _, none⟩) a5.out _).trans (hHeld.2.2.1)))), ((cell_far (p := ⟨a7, _, none⟩) a5.out _).trans (((cell_far (p := ⟨a7, _, none⟩) a5.out _).trans (hHeld.2.2.2.1)))), ((cell_far (p := ⟨a7, _, none⟩) a5.out _).trans (((cell_far (p := ⟨a7, _, none⟩) a5.out _).trans (hHeld.2.2.2.2.1)))), ((cell_far (p := ⟨a7, _, none⟩) a5.out _).trans (((cell_far (p := ⟨a7, _, none⟩) a5.out _).trans (hHeld.2.2.2.2.2))))⟩ (fun hHeld => ?_)
 clear hK K
 refine pO HT_ fun K hK => ?_
 have u7 : j8.cell? ⟨a2, 0, none⟩ = some (.int .i64 0) := (blk_cell a3.out 0).trans rfl
 have q4 := blk_frozen a3.out 0
 have m8 := c0.out
 have m9 := b0.out
 have n0 := a0.out
 have n1 := c1.out
 have n2 := d1.out
 have n3 := a9.out
 have u9 : j8.cell? ⟨a2, 1, none⟩ = some (.int .i64 0) := (blk_cell a3.out 1).trans rfl
 have q5 := blk_frozen a3.out 1
 have n4 := c0.out
 have n5 := b0.out
 have n6 := a0.out
 have n7 := c1.out
 have n8 := d1.out
 have n9 := a9.out
 have v0 : j8.cell? ⟨a2, 2, none⟩ = some (.bool false) := (blk_cell a3.out 2).trans rfl
 have q6 := blk_frozen a3.out 2
 have o0 := c0.out
 have o1 := b0.out
 have o2 := a0.out
 have o3 := c1.out
 have o4 := d1.out
 have o5 := a9.out
 have q7 : j8.cell? ⟨a2, 3, none⟩ = some (.bool false) := (blk_cell a3.out 3).trans rfl
 have p0 := blk_frozen a3.out 3
 have k9 := c0.out
 have l0 := b0.out
 have l1 := a0.out
 have l2 := c1.out
 have l3 := d1.out
 have l4 := a9.out
 refine skip_ (w1 := ?_) (by rfl) rfl ?_ ?_
 rotate_left
 ·(
 go_simp
 rfl
 )
 refine hK.out _ _ ⟨((cell_far (p := ⟨a2, _, none⟩) b0.out _).trans (((cell_far (p := ⟨a2, _, none⟩) b0.out _).trans (((cell_far (p := ⟨a2, _, none⟩) b0.out _).trans (((cell_far (p := ⟨a2, _, none⟩) b0.out _).trans (hHeld.1)))))))), ((cell_far (p := ⟨a2, _, none⟩) b0.out _).trans (((cell_far (p := ⟨a2, _, none⟩) b0.out _).trans (((cell_far (p := ⟨a2, _, none⟩) b0.out _).trans (((cell_far (p := ⟨a2, _, none⟩) b0.out _).trans (hHeld.2.1)))))))), ((cell_far (p := ⟨a2, _, none⟩) a0.out _).trans (((cell_far (p := ⟨a2, _, none⟩) a0.out _).trans (((cell_far (p := ⟨a2, _, none⟩) a0.out _).trans (((cell_far (p := ⟨a2, _, none⟩) a0.out _).trans (hHeld.2.2.1)))))))), ((cell_far (p := ⟨a2, _, none⟩) a0.out _).trans (((cell_far (p := ⟨a2, _, none⟩) a0.out _).trans (((cell_far (p := ⟨a2, _, none⟩) a0.out _).trans (((cell_far (p := ⟨a2, _, none⟩) a0.out _).trans (hHeld.2.2.2.1)))))))), ((cell_far (p := ⟨a2, _, none⟩) a0.out _).trans (((cell_far (p := ⟨a2, _, none⟩) a0.out _).trans (((cell_far (p := ⟨a2, _, none⟩) a0.out _).trans (((cell_far (p := ⟨a2, _, none⟩) a0.out _).trans (hHeld.2.2.2.2.1)))))))), ((cell_far (p := ⟨a2, _, none⟩) a0.out _).trans (((cell_far (p := ⟨a2, _, none⟩) a0.out _).trans (((cell_far (p := ⟨a2, _, none⟩) a0.out _).trans (((cell_far (p := ⟨a2, _, none⟩) a0.out _).trans (hHeld.2.2.2.2.2))))))))⟩ (fun hHeld => ?_)
 clear hK K
 refine pD HT_ ?_
 try go_wp2
 refine bodyPost_ret (results_cc rfl _ _ a7 a2 25 27 #[.int .i64 b1, .int .i64 b2] #[.int .i64 e6, .int .i64 g5, .bool g0, .bool g6] (0, 0) (0, 0) _ _ rfl (bK a6) Tryz.underlying25 rfl kr rfl (bK a3) Tryz.underlying27 rfl kr) rfl ?_
 exact ⟨sE, kI, bI, kK⟩
 )
 )
 )
 )

end Go.Proofs.YtlmiaadpnbehgaaGreatDoor.PFnBeamsEnd
