-- Written by xprint.py, a program of this session, for this seat; Lean checks it.
import Derived.Test.YtlmiaadpnbehgaaDoorVM
import Derived.Test.YtlmiaadpnbehgaaDoorPFnBeamsEndOfAllx0
import Derived.Test.YtlmiaadpnbehgaaDoorPFnBeamsEndOfAllx3
import Derived.Test.YtlmiaadpnbehgaaDoorPFnBeamsEndOfAllx6
import Derived.Test.YtlmiaadpnbehgaaDoorPFnBeamsEndOfAllx13
namespace Go.Proofs.YtlmiaadpnbehgaaDoor.PFnBeamsEndOfAll
open Go.Proofs.YtlmiaadpnbehgaaDoorV Go.RowKit Go.Proofs.YtlmiaadpnbehgaaDoorW.PrintWords Go.Proofs.YtlmiaadpnbehgaaDoorW.PrintLast Go.Proofs.YtlmiaadpnbehgaaDoorW.PrintMore
attribute [local go_sem] max2_int min2_int max_two min_two max_three min_three max_four min_four   -- for this text's walks alone
set_option linter.unusedVariables false
set_option linter.unusedSimpArgs false

/-! ### spec_TablesFor: function 21 -/
def spec_TablesFor.l0 : Nat → Int → List (S23) → Int → Option ((List (S23)) × Bool)
  | 0, _, _, _ => none
  | k + 1, x0, x4, x5 => if (wrap64 (2 * x5)) ≤ (wrap64 (x0 + 2)) then ((spec_clLow.f k x5 (wrap64 ((wrap64 (x0 + 2)) - x5))).bind fun bt335 => (if bt335.1 = x5 then (if (wrap64 ((wrap64 (x0 + 2)) - x5)) ≤ 60 then (if x4.length < 8796093022208 then (spec_TablesFor.l0 k x0 (x4 ++ [(⟨x5, wrap64 ((wrap64 (x0 + 2)) - x5)⟩ : S23)]) (wrap64 (x5 + 1))) else (none)) else (spec_TablesFor.l0 k x0 x4 (wrap64 (x5 + 1)))) else (spec_TablesFor.l0 k x0 x4 (wrap64 (x5 + 1))))) else (some (x4, true))
def spec_TablesFor.f (k : Nat) (a0 : Int) : Option ((List (S23)) × Bool) := (spec_l1In.f a0 0 100).bind fun t334 => (if t334 = true then (spec_TablesFor.l0 k a0 ([] : List (S23)) 1) else (some (([] : List (S23)), false)))
theorem spec_TablesFor.mono_l : ∀ k, (∀ y0 y1 y2, LeO (spec_TablesFor.l0 k y0 y1 y2) (spec_TablesFor.l0 (k + 1) y0 y1 y2))
  | 0 => fun _ _ _ r h => by simp [spec_TablesFor.l0] at h
  | k + 1 => by
    have ih0 := spec_TablesFor.mono_l k
    · intro y0 y1 y2
      unfold spec_TablesFor.l0
      repeat' first
      | (with_reducible exact ih0 _ _ _)
      | (with_reducible exact spec_clLow.mono _ _ _)
      | (with_reducible exact LeO.refl _)
      | (with_reducible exact LeO.none _)
      | (with_reducible refine LeO.ite ?_ ?_)
      | (with_reducible refine LeO.bind ?_ (fun _ => ?_))
      | exact ih0 _ _ _
      | exact spec_clLow.mono _ _ _
      | exact LeO.none _
      | refine LeO.ite ?_ ?_
      | refine LeO.bind ?_ (fun _ => ?_)
theorem spec_TablesFor.mono : ∀ a0 k, LeO (spec_TablesFor.f k a0) (spec_TablesFor.f (k + 1) a0) := by
  intro a0 k
  have ih0 := spec_TablesFor.mono_l k
  unfold spec_TablesFor.f
  repeat' first
      | (with_reducible exact ih0 _ _ _)
      | (with_reducible exact spec_clLow.mono _ _ _)
      | (with_reducible exact LeO.refl _)
      | (with_reducible exact LeO.none _)
      | (with_reducible refine LeO.ite ?_ ?_)
      | (with_reducible refine LeO.bind ?_ (fun _ => ?_))
      | exact ih0 _ _ _
      | exact spec_clLow.mono _ _ _
      | exact LeO.none _
      | refine LeO.ite ?_ ?_
      | refine LeO.bind ?_ (fun _ => ?_)
set_option maxHeartbeats 8000000 in
set_option maxRecDepth 100000 in
theorem spec_TablesFor.calls (k : Nat) (a0 : Int) (r1 : List (S23)) (r2 : Bool) (w : World) (h : spec_TablesFor.f k a0 = some (r1, r2)) :
    Calls Tryd.prog 21 #[.int .i64 a0] w fun e w' => ∃ v0_ : Value, e = .returned (.tuple #[v0_, .bool r2]) ∧ Kd.R k23 23 w' w.heap.size (fun _ => True) v0_ r1 ∧ Below w.heap.size w w' := by
 have b8 := Tryd.underlying23
 have HB := Aside0.mk (Below.refl w.heap.size w)
 have H := h
 unfold spec_TablesFor.f at H
 clear h
 obtain ⟨b2, A2, H⟩ := bD H
 try dsimp only at H
 by_cases c3 : b2 = true
 ·(
 subst c3
 rw [if_pos rfl] at H
 have H' := Aside0.mk H
 clear H
 go_enter Tryd.func21, Tryd.ntmps21
 go_wp2_with (first | ((with_reducible refine gate_callee (f := 44) rfl ?_); refine goesL_ (some 10) rfl rfl Tryd.func44 kr rfl #[.int .i64 a0, .int .i64 0, .int .i64 100] rfl sM ?_; (with_reducible refine (spec_l1In.calls a0 0 100 true _ A2.out).mono ?_); rintro e w' ⟨rfl, ⟨nd, rfl⟩⟩; refine ⟨_, rfl, ?_⟩))
 go_loopg [4, 5] k (fun kq v4 v5 w' => ∃ (a3 : List (S23)) (a2 : Int), v5 = .int .i64 a2 ∧ Aside0 (spec_TablesFor.l0 kq a0 a3 a2 = some (r1, r2)) ∧ Aside0 (kq ≤ k) ∧ Aside0 (Kd.R k23 23 w' w.heap.size (fun _ => True) v4 a3) ∧ Aside0 (Below w.heap.size w w'))
 case atStart => exact ⟨(([] : List (S23))), (1), sR, H', ⟨Nat.le_refl _⟩, ⟨by first | exact Kd.R_nil _ _ _ _ _ | exact Kd.N_nil _ _ _ _ _ | exact Kd.V_nil _ _ _ _ _ | exact Kd.Q_nil _ _ _ _ _ | exact Kd.S_nil _ _ _ _ _⟩, ⟨bB⟩⟩
 case round => (
 clear H'
 try clear c3
 obtain ⟨a3, a2, rfl, HA, HK1, a5, HB⟩ := hrel
 cases gk with
 | zero => exact absurd HA.out (by simp [spec_TablesFor.l0])
 | succ k1 => (
 have H := HA.out
 clear HA
 simp only [spec_TablesFor.l0] at H
 by_cases c4 : (wrap64 (2 * a2)) ≤ (wrap64 (a0 + 2))
 ·(
 rw [if_pos c4] at H
 have b3 : decide ((wrap64 (2 * a2)) ≤ (wrap64 (a0 + 2))) = true := decide_eq_true c4
 clear c4
 obtain ⟨⟨a6, a7⟩, A5, H⟩ := bD H
 try dsimp only at H
 by_cases c6 : a6 = a2
 ·(
 rw [if_pos c6] at H
 obtain ⟨b4, b5⟩ := yE c6
 clear c6
 by_cases c7 : (wrap64 ((wrap64 (a0 + 2)) - a2)) ≤ 60
 ·(
 rw [if_pos c7] at H
 have b6 : decide ((wrap64 ((wrap64 (a0 + 2)) - a2)) ≤ 60) = true := decide_eq_true c7
 clear c7
 by_cases c8 : a3.length < 8796093022208
 ·(
 rw [if_pos c8] at H
 have b7 := Aside0.mk c8
 clear c8
 obtain ⟨a8, a4⟩ : ∃ y_ : List (S23), y_ = (a3 ++ [(⟨a2, wrap64 ((wrap64 (a0 + 2)) - a2)⟩ : S23)]) := ⟨_, rfl⟩
 replace H : (spec_TablesFor.l0 k1 a0 a8 (wrap64 (a2 + 1))) = some (r1, r2) := by first | (rw [a4]; with_reducible exact H) | (have a9 := (Option.bind_some _ _).symm.trans H; rw [a4]; with_reducible exact a9) | (have a9 := (Option.bind_some _ _).symm.trans H; with_reducible exact a9) | with_reducible exact H | (rw [a4]; exact H) | exact H
 have b0 := Aside0.mk a4
 clear a4
 have H' := Aside0.mk H
 clear H
 go_wp2_with (first | ((with_reducible refine gate_callee (f := 45) rfl ?_); refine goesL_ (some 26) rfl rfl Tryd.func45 kr rfl #[.int .i64 a2, .int .i64 (wrap64 ((wrap64 (a0 + 2)) - a2))] rfl sM ?_; (with_reducible refine (spec_clLow.calls k1 a2 (wrap64 ((wrap64 (a0 + 2)) - a2)) a6 a7 _ A5.out).mono ?_); rintro e w' ⟨rfl, ⟨nd, rfl⟩⟩; refine ⟨_, rfl, ?_⟩) | ((with_reducible refine gate_builtin (b := .append) (xs := #[.tmp 36, .tmp 40]) rfl ?_); at_builtin; refine Kd.R_append k23 (w0 := w) w.heap.size rfl (.tmp 36) (.tmp 40) 36 23 (.agg #[(.int .i64 0), (.int .i64 0)]) 16 rfl Tryd.underlying36 info23 rfl (by decide) (by omega) u4 a3 (⟨a2, wrap64 ((wrap64 (a0 + 2)) - a2)⟩ : S23) [.int .i64 a2, .int .i64 (wrap64 ((wrap64 (a0 + 2)) - a2))] (fun _ => True) (fun _ => False) rfl rfl ?aP (fun _ hk => hk.elim) ?aF ?aO ?aB ?aS ?aL ?_; (case aP => exact k23_mkM _ _ _ (⟨a2, wrap64 ((wrap64 (a0 + 2)) - a2)⟩ : S23)); (case aB => exact bB); (case aF => exact (fun _ _ => trivial)); (case aO => exact (oR a5)); (case aS => exact (below_size bB)); (case aL => have := b7.out; omega); intro b9 w9 ho hb hg hat; rw [← b0.out] at ho; have b1 := Aside0.mk (ho); replace HB := Aside0.mk (hb); clear a5 ho hb hg hat))
 go_roundg k1
 case measure => have := HK1.out; omega
 case rel => exact ⟨(a8), (wrap64 (a2 + 1)), sR, H', ⟨by have := HK1.out; omega⟩, ⟨oR b1⟩, ⟨bB⟩⟩
 )
 ·(
 rw [if_neg c8] at H
 exact absurd H (by simp)
 )
 )
 ·(
 rw [if_neg c7] at H
 have b6 : decide ((wrap64 ((wrap64 (a0 + 2)) - a2)) ≤ 60) = false := decide_eq_false c7
 clear c7
 have H' := Aside0.mk H
 clear H
 go_wp2_with (first | ((with_reducible refine gate_callee (f := 45) rfl ?_); refine goesL_ (some 26) rfl rfl Tryd.func45 kr rfl #[.int .i64 a2, .int .i64 (wrap64 ((wrap64 (a0 + 2)) - a2))] rfl sM ?_; (with_reducible refine (spec_clLow.calls k1 a2 (wrap64 ((wrap64 (a0 + 2)) - a2)) a6 a7 _ A5.out).mono ?_); rintro e w' ⟨rfl, ⟨nd, rfl⟩⟩; refine ⟨_, rfl, ?_⟩))
 go_roundg k1
 case measure => have := HK1.out; omega
 case rel => exact ⟨(a3), (wrap64 (a2 + 1)), sR, H', ⟨by have := HK1.out; omega⟩, ⟨oR a5⟩, ⟨bB⟩⟩
 )
 )
 ·(
 rw [if_neg c6] at H
 obtain ⟨b4, b5⟩ := nE c6
 have H' := Aside0.mk H
 clear H
 go_wp2_with (first | ((with_reducible refine gate_callee (f := 45) rfl ?_); refine goesL_ (some 26) rfl rfl Tryd.func45 kr rfl #[.int .i64 a2, .int .i64 (wrap64 ((wrap64 (a0 + 2)) - a2))] rfl sM ?_; (with_reducible refine (spec_clLow.calls k1 a2 (wrap64 ((wrap64 (a0 + 2)) - a2)) a6 a7 _ A5.out).mono ?_); rintro e w' ⟨rfl, ⟨nd, rfl⟩⟩; refine ⟨_, rfl, ?_⟩))
 go_roundg k1
 case measure => have := HK1.out; omega
 case rel => exact ⟨(a3), (wrap64 (a2 + 1)), sR, H', ⟨by have := HK1.out; omega⟩, ⟨oR a5⟩, ⟨bB⟩⟩
 )
 )
 ·(
 rw [if_neg c4] at H
 have b3 : decide ((wrap64 (2 * a2)) ≤ (wrap64 (a0 + 2))) = false := decide_eq_false c4
 clear c4
 simp only [Option.some.injEq, Prod.mk.injEq] at H
 obtain ⟨rfl, rfl⟩ := H
 go_wp2
 go_ret2
 exact ⟨_, sE, by (with_reducible repeat (first | apply Kd.R_alloc | apply Kd.R_drewN | apply Kd.R_drew)); exact a5.out, bI⟩
 )
 )
 )
 )
 ·(
 replace c3 := Bool.eq_false_iff.mpr c3
 subst c3
 rw [if_neg nft] at H
 simp only [Option.some.injEq, Prod.mk.injEq] at H
 obtain ⟨rfl, rfl⟩ := H
 go_enter Tryd.func21, Tryd.ntmps21
 go_wp2_with (first | ((with_reducible refine gate_callee (f := 44) rfl ?_); refine goesL_ (some 10) rfl rfl Tryd.func44 kr rfl #[.int .i64 a0, .int .i64 0, .int .i64 100] rfl sM ?_; (with_reducible refine (spec_l1In.calls a0 0 100 false _ A2.out).mono ?_); rintro e w' ⟨rfl, ⟨nd, rfl⟩⟩; refine ⟨_, rfl, ?_⟩))
 go_ret2
 exact ⟨_, sE, by first | exact Kd.R_nil _ _ _ _ _ | exact Kd.N_nil _ _ _ _ _ | exact Kd.V_nil _ _ _ _ _ | exact Kd.Q_nil _ _ _ _ _ | exact Kd.S_nil _ _ _ _ _, bI⟩
 )

/-! ### impl_number: function 47 -/
theorem pt_text (n : Int) (h0 : -9223372036854775808 ≤ n) (h1 : n ≤ 9223372036854775807) (w : World) (hw : PtW w) :
    Calls Tryd.prog 41 #[.int .i64 n] w fun e w' => e = .returned (.string ⟨(Lib.itoa n).toArray⟩) ∧ Below w.heap.size w w' := by
  have HT := Aside0.mk (Tryd.strconv_Itoa n h0 h1 w hw.tab)
  clear hw
  go_enter Tryd.func41, Tryd.ntmps41
  go_wp2_with (go_at_call 58; (refine HT.out.mono ?_); rintro e w1 ⟨rfl, k, os, rfl⟩)
  go_ret
  exact ⟨rfl, Lib.below_grow _ _ (Nat.le_refl _) _ _⟩
theorem atoi_range {l : List UInt8} {v : Int} (h : Lib.atoiAll l = .ok v) : -9223372036854775808 ≤ v ∧ v ≤ 9223372036854775807 := by
  unfold Lib.atoiAll at h
  split at h
  · cases h
  · simp only at h
    split at h
    · cases h
    · cases h
    · split at h
      · cases h
      · split at h
        · cases h
        · rename_i u _ c1 c2
          injection h with h
          subst h
          split <;> omega
/-- The number with a text, and whether there is one. -/
def numR (s : ByteArray) : Int × Bool := match Lib.atoiAll s.data.toList with
  | .ok v => (v, Lib.itoa v == s.toList)
  | .«syntax» => (0, false)
  | .range => (Lib.atoiSat s.data.toList, false)
def impl_number.f (a0 : ByteArray) : Option (Int × Bool) := if a0.size ≤ 281474976710656 then some (numR a0) else none
set_option maxHeartbeats 4000000 in
set_option maxRecDepth 100000 in
theorem impl_number.calls (a0 : ByteArray) (r1 : Int) (r2 : Bool) (w : World) (h : impl_number.f a0 = some (r1, r2)) (hw : PtW w) :
    Calls Tryd.prog 47 #[.string a0] w fun e w' => e = .returned (.tuple #[.int .i64 r1, .bool r2]) ∧ Below w.heap.size w w' := by
 unfold impl_number.f at h
 by_cases c : a0.size ≤ 281474976710656
 case neg => (
 rw [if_neg c] at h
 cases h
 )
 rw [if_pos c] at h
 have h := Option.some.inj h
 unfold numR at h
 have HW := Aside0.mk hw
 cases ha : Lib.atoiAll a0.data.toList with
 | ok v =>
  rw [ha] at h
  obtain ⟨rfl, rfl⟩ := Prod.mk.inj h
  have hv := atoi_range ha
  have HA := Aside0.mk (Tryd.strconv_Atoi_ok a0 (by omega) v ha w)
  have HT := Aside0.mk (fun (W : World) (hb : Below w.heap.size w W) => pt_text v hv.1 hv.2 W (HW.out.below hb))
  clear h ha c hw HW hv
  go_enter Tryd.func47, Tryd.ntmps47
  go_wp2_with (first | (go_at_call 61; (refine HA.out.mono ?_); rintro e w1 ⟨rfl, a3⟩; have a2 : Below w.heap.size w w1 := a3.elim (fun e => e ▸ Below.refl _ _) (fun ⟨t, e⟩ => e ▸ bytes_below (Below.refl _ _) (Nat.le_refl _) _ _); clear a3 HA) | (go_at_call 41; (refine (HT.out _ a2).mono ?_); rintro e w2 ⟨rfl, a4⟩))
  go_ret2
  exact ⟨rfl, below_step a2 a4⟩
 | «syntax» =>
  rw [ha] at h
  obtain ⟨rfl, rfl⟩ := Prod.mk.inj h
  obtain ⟨ev, he, hev⟩ := hw.syn
  have HA := Aside0.mk (Tryd.strconv_Atoi_syntax a0 c ha ev w he hev)
  clear h ha c hw HW he hev
  go_enter Tryd.func47, Tryd.ntmps47
  go_wp2_with (go_at_call 61; (refine HA.out.mono ?_); rintro e w1 ⟨N, rfl, _, _, a2⟩; clear HA)
  go_ret2
  exact ⟨rfl, a2⟩
 | range =>
  rw [ha] at h
  obtain ⟨rfl, rfl⟩ := Prod.mk.inj h
  obtain ⟨ev, he, hev⟩ := hw.rng
  have HA := Aside0.mk (Tryd.strconv_Atoi_range a0 c ha ev w he hev)
  clear h ha c hw HW he hev
  go_enter Tryd.func47, Tryd.ntmps47
  go_wp2_with (go_at_call 61; (refine HA.out.mono ?_); rintro e w1 ⟨N, rfl, _, _, a2⟩; clear HA)
  go_ret2
  exact ⟨rfl, a2⟩

/-! ### impl_ParseTable: function 22 -/
def impl_ParseTable.f (a0 : ByteArray) : Option (Int × Int × Bool) := (strings_Cut.f a0 (⟨#[120]⟩ : ByteArray)).bind fun bt341 => ((impl_number.f bt341.1).bind fun bt344 => ((impl_number.f bt341.2.1).bind fun bt346 => (if bt344.2 = true then (if bt346.2 = true then ((impl_IsTable.f bt344.1 bt346.1).bind fun t348 => (if t348 = true then (some (bt344.1, bt346.1, true)) else (some (0, 0, false)))) else (some (0, 0, false))) else (some (0, 0, false)))))
set_option maxHeartbeats 8000000 in
set_option maxRecDepth 100000 in
theorem impl_ParseTable.calls (a0 : ByteArray) (r1 : Int) (r2 : Int) (r3 : Bool) (w : World) (h : impl_ParseTable.f a0 = some (r1, r2, r3)) (hw_ : PtW w) :
    Calls Tryd.prog 22 #[.string a0] w fun e w' => e = .returned (.tuple #[.agg #[.int .i64 r1, .int .i64 r2], .bool r3]) ∧ Below w.heap.size w w' := by
 have HM := Aside0.mk hw_
 clear hw_
 have b9 := Tryd.underlying23
 have HB := Aside0.mk (Below.refl w.heap.size w)
 have H := h
 unfold impl_ParseTable.f at H
 clear h
 obtain ⟨⟨a9, a3, b4⟩, A2, H⟩ := bD H
 try dsimp only at H
 obtain ⟨⟨b0, b5⟩, A3, H⟩ := bD H
 try dsimp only at H
 obtain ⟨⟨a4, b2⟩, A4, H⟩ := bD H
 try dsimp only at H
 by_cases c5 : b5 = true
 subst c5
 rw [if_pos rfl] at H
 by_cases c6 : b2 = true
 subst c6
 rw [if_pos rfl] at H
 obtain ⟨b6, A7, H⟩ := bD H
 try dsimp only at H
 by_cases c8 : b6 = true
 subst c8
 rw [if_pos rfl] at H
 simp only [Option.some.injEq, Prod.mk.injEq] at H
 obtain ⟨rfl, rfl, rfl⟩ := H
 rotate_left
 replace c8 := Bool.eq_false_iff.mpr c8
 subst c8
 rw [if_neg nft] at H
 simp only [Option.some.injEq, Prod.mk.injEq] at H
 obtain ⟨rfl, rfl, rfl⟩ := H
 rotate_left
 replace c6 := Bool.eq_false_iff.mpr c6
 subst c6
 rw [if_neg nft] at H
 simp only [Option.some.injEq, Prod.mk.injEq] at H
 obtain ⟨rfl, rfl, rfl⟩ := H
 rotate_left
 replace c5 := Bool.eq_false_iff.mpr c5
 subst c5
 rw [if_neg nft] at H
 simp only [Option.some.injEq, Prod.mk.injEq] at H
 obtain ⟨rfl, rfl, rfl⟩ := H
 rotate_left
 all_goals (go_enter Tryd.func22, Tryd.ntmps22)
 all_goals (go_wp2_with (first | ((with_reducible refine gate_dst (N := 2) rfl ?_); refine box_ (cs := #[.int .i64 0, .int .i64 0]) (t := 23) fun b1 hg c4 hbox hb => ?_; have a2 := Aside0.mk (hbox); have c0 := bS HB hg; have c3 := bS HB hg; replace HB := Aside0.mk (below_step bB hb); clear hb hbox hg) | ((with_reducible refine gate_callee (f := 46) rfl ?_); refine goesL_ (some 13) rfl rfl Tryd.func46 kr rfl #[.string a0, .string (⟨#[120]⟩ : ByteArray)] rfl sM ?_; (with_reducible refine (strings_Cut.calls a0 (⟨#[120]⟩ : ByteArray) a9 a3 b4 _ A2.out (HM.out.below (by repeat (first | (with_reducible first | exact HB.out | apply below_alloc | apply pw_below_drewN | apply below_drew1 | refine below_set ?_ (Aside0.out (by assumption))) | exact HB.out)))).mono ?_); rintro e c7 ⟨rfl, hb⟩; refine ⟨_, rfl, ?_⟩; replace a2 := bQ a2 hb; replace HB := Aside0.mk (below_step bB hb); (try clear hb)) | ((with_reducible refine gate_callee (f := 47) rfl ?_); refine goesL_ (some 19) rfl rfl Tryd.func47 kr rfl #[.string a9] rfl sM ?_; (with_reducible refine (impl_number.calls a9 b0 true _ A3.out (HM.out.below (by repeat (first | (with_reducible first | exact HB.out | apply below_alloc | apply pw_below_drewN | apply below_drew1 | refine below_set ?_ (Aside0.out (by assumption))) | exact HB.out)))).mono ?_); rintro e b7 ⟨rfl, hb⟩; refine ⟨_, rfl, ?_⟩; replace a2 := bQ a2 hb; replace HB := Aside0.mk (below_step bB hb); (try clear hb)) | ((with_reducible refine gate_callee (f := 47) rfl ?_); refine goesL_ (some 24) rfl rfl Tryd.func47 kr rfl #[.string a3] rfl sM ?_; (with_reducible refine (impl_number.calls a3 a4 true _ A4.out (HM.out.below (by repeat (first | (with_reducible first | exact HB.out | apply below_alloc | apply pw_below_drewN | apply below_drew1 | refine below_set ?_ (Aside0.out (by assumption))) | exact HB.out)))).mono ?_); rintro e b3 ⟨rfl, hb⟩; refine ⟨_, rfl, ?_⟩; replace a2 := bQ a2 hb; replace HB := Aside0.mk (below_step bB hb); (try clear hb)) | (go_at_call 25; (with_reducible refine (impl_IsTable.calls b0 a4 true _ A7.out).mono ?_); rintro e b8 ⟨rfl, hb⟩; replace a2 := bQ a2 hb; replace HB := Aside0.mk (below_step bB hb); (try clear hb); obtain ⟨a5, a6, a7, a8⟩ := cf2 a2) | (go_at_call 25; (with_reducible refine (impl_IsTable.calls b0 a4 false _ A7.out).mono ?_); rintro e b8 ⟨rfl, hb⟩; replace a2 := bQ a2 hb; replace HB := Aside0.mk (below_step bB hb); (try clear hb); obtain ⟨a5, a6, a7, a8⟩ := cf2 a2) | ((with_reducible refine gate_callee (f := 47) rfl ?_); refine goesL_ (some 24) rfl rfl Tryd.func47 kr rfl #[.string a3] rfl sM ?_; (with_reducible refine (impl_number.calls a3 a4 false _ A4.out (HM.out.below (by repeat (first | (with_reducible first | exact HB.out | apply below_alloc | apply pw_below_drewN | apply below_drew1 | refine below_set ?_ (Aside0.out (by assumption))) | exact HB.out)))).mono ?_); rintro e b3 ⟨rfl, hb⟩; refine ⟨_, rfl, ?_⟩; replace a2 := bQ a2 hb; replace HB := Aside0.mk (below_step bB hb); (try clear hb); obtain ⟨a5, a6, a7, a8⟩ := cf2 a2) | ((with_reducible refine gate_callee (f := 47) rfl ?_); refine goesL_ (some 19) rfl rfl Tryd.func47 kr rfl #[.string a9] rfl sM ?_; (with_reducible refine (impl_number.calls a9 b0 false _ A3.out (HM.out.below (by repeat (first | (with_reducible first | exact HB.out | apply below_alloc | apply pw_below_drewN | apply below_drew1 | refine below_set ?_ (Aside0.out (by assumption))) | exact HB.out)))).mono ?_); rintro e b7 ⟨rfl, hb⟩; refine ⟨_, rfl, ?_⟩; replace a2 := bQ a2 hb; replace HB := Aside0.mk (below_step bB hb); (try clear hb)) | ((with_reducible refine gate_callee (f := 47) rfl ?_); refine goesL_ (some 24) rfl rfl Tryd.func47 kr rfl #[.string a3] rfl sM ?_; (with_reducible refine (impl_number.calls a3 a4 b2 _ A4.out (HM.out.below (by repeat (first | (with_reducible first | exact HB.out | apply below_alloc | apply pw_below_drewN | apply below_drew1 | refine below_set ?_ (Aside0.out (by assumption))) | exact HB.out)))).mono ?_); rintro e b3 ⟨rfl, hb⟩; refine ⟨_, rfl, ?_⟩; replace a2 := bQ a2 hb; replace HB := Aside0.mk (below_step bB hb); (try clear hb); obtain ⟨a5, a6, a7, a8⟩ := cf2 a2)))
 ·(
 refine bodyPost_ret (results_ct rfl _ _ b1 23 #[.int .i64 b0, .int .i64 a4] (0, 0) _ rfl (bK a2) Tryd.underlying23 rfl kr) rfl ?_
 exact ⟨sE, bI⟩
 )
 ·(
 refine bodyPost_ret (results_ct rfl _ _ b1 23 #[.int .i64 0, .int .i64 0] (0, 0) _ rfl (bK a2) Tryd.underlying23 rfl kr) rfl ?_
 exact ⟨sE, bI⟩
 )
 ·(
 refine bodyPost_ret (results_ct rfl _ _ b1 23 #[.int .i64 0, .int .i64 0] (0, 0) _ rfl (bK a2) Tryd.underlying23 rfl kr) rfl ?_
 exact ⟨sE, bI⟩
 )
 ·(
 refine bodyPost_ret (results_ct rfl _ _ b1 23 #[.int .i64 0, .int .i64 0] (0, 0) _ rfl (bK a2) Tryd.underlying23 rfl kr) rfl ?_
 exact ⟨sE, bI⟩
 )

/-! ### spec_l1Split: function 62 -/
def spec_l1Split.l0 : Nat → ByteArray → Int → List ByteArray → Int → Int → Option (List ByteArray)
  | 0, _, _, _, _, _ => none
  | k + 1, x0, x1, x5, x6, x7 => if x7 < (x0.size : Int) then (if 0 ≤ x7 then (if (bt x0 x7) = x1 then (if 0 ≤ x6 then (if x6 ≤ x7 then (if x7 ≤ (x0.size : Int) then (if x5.length < 8796093022208 then (spec_l1Split.l0 k x0 x1 (x5 ++ [x0.extract (x6 : Int).toNat (x7 : Int).toNat]) (wrap64 (x7 + 1)) (wrap64 (x7 + 1))) else (none)) else (none)) else (none)) else (none)) else (spec_l1Split.l0 k x0 x1 x5 x6 (wrap64 (x7 + 1)))) else (none)) else (if 0 ≤ x6 then (if x6 ≤ (x0.size : Int) then (if x5.length < 8796093022208 then (some (x5 ++ [x0.extract (x6 : Int).toNat x0.size])) else (none)) else (none)) else (none))
def spec_l1Split.f (k : Nat) (a0 : ByteArray) (a1 : Int) : Option (List ByteArray) := spec_l1Split.l0 k a0 a1 ([] : List ByteArray) 0 0
theorem spec_l1Split.mono_l : ∀ k, (∀ y0 y1 y2 y3 y4, LeO (spec_l1Split.l0 k y0 y1 y2 y3 y4) (spec_l1Split.l0 (k + 1) y0 y1 y2 y3 y4))
  | 0 => fun _ _ _ _ _ r h => by simp [spec_l1Split.l0] at h
  | k + 1 => by
    have ih0 := spec_l1Split.mono_l k
    · intro y0 y1 y2 y3 y4
      unfold spec_l1Split.l0
      repeat' first
      | (with_reducible exact ih0 _ _ _ _ _)
      | (with_reducible exact LeO.refl _)
      | (with_reducible exact LeO.none _)
      | (with_reducible refine LeO.ite ?_ ?_)
      | (with_reducible refine LeO.bind ?_ (fun _ => ?_))
      | exact ih0 _ _ _ _ _
      | exact LeO.none _
      | refine LeO.ite ?_ ?_
      | refine LeO.bind ?_ (fun _ => ?_)
theorem spec_l1Split.mono : ∀ a0 a1 k, LeO (spec_l1Split.f k a0 a1) (spec_l1Split.f (k + 1) a0 a1) := by
  intro a0 a1 k
  have ih0 := spec_l1Split.mono_l k
  unfold spec_l1Split.f
  repeat' first
      | (with_reducible exact ih0 _ _ _ _ _)
      | (with_reducible exact LeO.refl _)
      | (with_reducible exact LeO.none _)
      | (with_reducible refine LeO.ite ?_ ?_)
      | (with_reducible refine LeO.bind ?_ (fun _ => ?_))
      | exact ih0 _ _ _ _ _
      | exact LeO.none _
      | refine LeO.ite ?_ ?_
      | refine LeO.bind ?_ (fun _ => ?_)
set_option maxHeartbeats 8000000 in
set_option maxRecDepth 100000 in
theorem spec_l1Split.calls (k : Nat) (a0 : ByteArray) (a1 : Int) (r : List ByteArray) (w : World) (h : spec_l1Split.f k a0 a1 = some r) :
    Calls Tryd.prog 62 #[.string a0, .int .u8 a1] w fun e w' => ∃ v0_ : Value, e = .returned (v0_) ∧ Kd.R Kd.string 9 w' w.heap.size (fun _ => True) v0_ r ∧ Below w.heap.size w w' := by
 have HB := Aside0.mk (Below.refl w.heap.size w)
 have H := h
 unfold spec_l1Split.f at H
 clear h
 have H' := Aside0.mk H
 clear H
 go_enter Tryd.func62, Tryd.ntmps62
 go_wp2
 go_loopg [5, 6, 7] k (fun kq v5 v6 v7 w' => ∃ (a4 : List ByteArray) (a3 : Int) (a2 : Int), v6 = .int .i64 a3 ∧ v7 = .int .i64 a2 ∧ Aside0 (spec_l1Split.l0 kq a0 a1 a4 a3 a2 = some r) ∧ Aside0 (kq ≤ k) ∧ Aside0 (Kd.R Kd.string 9 w' w.heap.size (fun _ => True) v5 a4) ∧ Aside0 (Below w.heap.size w w'))
 case atStart => exact ⟨(([] : List ByteArray)), (0), (0), sR, sR, H', ⟨Nat.le_refl _⟩, ⟨by first | exact Kd.R_nil _ _ _ _ _ | exact Kd.N_nil _ _ _ _ _ | exact Kd.V_nil _ _ _ _ _ | exact Kd.Q_nil _ _ _ _ _ | exact Kd.S_nil _ _ _ _ _⟩, ⟨bB⟩⟩
 case round => (
 clear H'
 obtain ⟨a4, a3, a2, rfl, rfl, HA, HK1, a7, HB⟩ := hrel
 cases gk with
 | zero => exact absurd HA.out (by simp [spec_l1Split.l0])
 | succ k1 => (
 have H := HA.out
 clear HA
 simp only [spec_l1Split.l0] at H
 by_cases c3 : a2 < (a0.size : Int)
 ·(
 rw [if_pos c3] at H
 have c0 : decide (a2 < (a0.size : Int)) = true := decide_eq_true c3
 clear c3
 by_cases c4 : 0 ≤ a2
 ·(
 rw [if_pos c4] at H
 have d7 : decide (0 ≤ a2) = true := decide_eq_true c4
 clear c4
 by_cases c6 : (bt a0 a2) = a1
 ·(
 rw [if_pos c6] at H
 obtain ⟨c5, d0⟩ := yE c6
 clear c6
 by_cases c7 : 0 ≤ a3
 ·(
 rw [if_pos c7] at H
 have d8 := eq_true c7
 have d9 : decide (0 ≤ a3) = true := decide_eq_true c7
 clear c7
 by_cases c8 : a3 ≤ a2
 ·(
 rw [if_pos c8] at H
 have e0 := eq_true c8
 have e1 : decide (a3 ≤ a2) = true := decide_eq_true c8
 clear c8
 by_cases c9 : a2 ≤ (a0.size : Int)
 ·(
 rw [if_pos c9] at H
 have e2 := eq_true c9
 have e3 : decide (a2 ≤ (a0.size : Int)) = true := decide_eq_true c9
 clear c9
 by_cases b1 : a4.length < 8796093022208
 ·(
 rw [if_pos b1] at H
 have b4 := Aside0.mk b1
 clear b1
 obtain ⟨b3, a5⟩ : ∃ y_ : List ByteArray, y_ = (a4 ++ [a0.extract (a3 : Int).toNat (a2 : Int).toNat]) := ⟨_, rfl⟩
 replace H : (spec_l1Split.l0 k1 a0 a1 b3 (wrap64 (a2 + 1)) (wrap64 (a2 + 1))) = some r := by first | (rw [a5]; with_reducible exact H) | (have a8 := (Option.bind_some _ _).symm.trans H; rw [a5]; with_reducible exact a8) | (have a8 := (Option.bind_some _ _).symm.trans H; with_reducible exact a8) | with_reducible exact H | (rw [a5]; exact H) | exact H
 have b5 := Aside0.mk a5
 clear a5
 have H' := Aside0.mk H
 clear H
 have p5 : 0 ≤ (a2 : Int) := of_decide_eq_true asm
 have q5 : a2 < (a0.size : Int) := of_decide_eq_true asm
 have d2 := bt_at a0 a2
 replace p5 := eq_true p5
 replace q5 := eq_true q5
 go_wp2_with (first | ((with_reducible refine gate_builtin (b := .append) (xs := #[.tmp 19, .tmp 24]) rfl ?_); at_builtin; refine Kd.R_append Kd.string (w0 := w) w.heap.size rfl (.tmp 19) (.tmp 24) 78 9 (.string ⟨#[]⟩) 16 rfl Tryd.underlying78 info9 rfl (by decide) (by omega) u5 a4 (a0.extract (a3 : Int).toNat (a2 : Int).toNat) [.string (a0.extract (a3 : Int).toNat (a2 : Int).toNat)] (fun _ => True) (fun _ => False) rfl rfl ?aP (fun _ hk => hk.elim) ?aF ?aO ?aB ?aS ?aL ?_; (case aP => exact rfl); (case aB => exact bB); (case aF => exact (fun _ _ => trivial)); (case aO => exact (oR a7)); (case aS => exact (below_size bB)); (case aL => have := b4.out; omega); intro e4 e6 ho hb hg hat; rw [← b5.out] at ho; have b6 := Aside0.mk (ho); replace HB := Aside0.mk (hb); clear a7 ho hb hg hat))
 go_roundg k1
 case measure => have := HK1.out; omega
 case rel => exact ⟨(b3), (wrap64 (a2 + 1)), (wrap64 (a2 + 1)), sR, sR, H', ⟨by have := HK1.out; omega⟩, ⟨oR b6⟩, ⟨bB⟩⟩
 )
 ·(
 rw [if_neg b1] at H
 exact absurd H (by simp)
 )
 )
 ·(
 rw [if_neg c9] at H
 exact absurd H (by simp)
 )
 )
 ·(
 rw [if_neg c8] at H
 exact absurd H (by simp)
 )
 )
 ·(
 rw [if_neg c7] at H
 exact absurd H (by simp)
 )
 )
 ·(
 rw [if_neg c6] at H
 obtain ⟨c5, d0⟩ := nE c6
 have H' := Aside0.mk H
 clear H
 have p5 : 0 ≤ (a2 : Int) := of_decide_eq_true asm
 have q5 : a2 < (a0.size : Int) := of_decide_eq_true asm
 have d2 := bt_at a0 a2
 replace p5 := eq_true p5
 replace q5 := eq_true q5
 go_wp2
 go_roundg k1
 case measure => have := HK1.out; omega
 case rel => exact ⟨(a4), (a3), (wrap64 (a2 + 1)), sR, sR, H', ⟨by have := HK1.out; omega⟩, ⟨oR a7⟩, ⟨bB⟩⟩
 )
 )
 ·(
 rw [if_neg c4] at H
 exact absurd H (by simp)
 )
 )
 ·(
 rw [if_neg c3] at H
 have c0 : decide (a2 < (a0.size : Int)) = false := decide_eq_false c3
 clear c3
 by_cases a9 : 0 ≤ a3
 ·(
 rw [if_pos a9] at H
 have d3 := eq_true a9
 have d4 : decide (0 ≤ a3) = true := decide_eq_true a9
 clear a9
 by_cases b0 : a3 ≤ (a0.size : Int)
 ·(
 rw [if_pos b0] at H
 have d5 := eq_true b0
 have d6 : decide (a3 ≤ (a0.size : Int)) = true := decide_eq_true b0
 clear b0
 by_cases b2 : a4.length < 8796093022208
 ·(
 rw [if_pos b2] at H
 have b7 := Aside0.mk b2
 clear b2
 obtain ⟨d1, a6⟩ : ∃ y_ : List ByteArray, y_ = (a4 ++ [a0.extract (a3 : Int).toNat a0.size]) := ⟨_, rfl⟩
 replace H : (some d1) = some r := by first | (rw [a6]; with_reducible exact H) | (have a8 := (Option.bind_some _ _).symm.trans H; rw [a6]; with_reducible exact a8) | (have a8 := (Option.bind_some _ _).symm.trans H; with_reducible exact a8) | with_reducible exact H | (rw [a6]; exact H) | exact H
 have b8 := Aside0.mk a6
 clear a6
 obtain rfl := Option.some.inj H
 go_wp2_with (first | ((with_reducible refine gate_builtin (b := .append) (xs := #[.tmp 28, .tmp 32]) rfl ?_); at_builtin; refine Kd.R_append Kd.string (w0 := w) w.heap.size rfl (.tmp 28) (.tmp 32) 78 9 (.string ⟨#[]⟩) 16 rfl Tryd.underlying78 info9 rfl (by decide) (by omega) u5 a4 (a0.extract (a3 : Int).toNat a0.size) [.string (a0.extract (a3 : Int).toNat a0.size)] (fun _ => True) (fun _ => False) rfl rfl ?aP (fun _ hk => hk.elim) ?aF ?aO ?aB ?aS ?aL ?_; (case aP => exact rfl); (case aB => exact bB); (case aF => exact (fun _ _ => trivial)); (case aO => exact (oR a7)); (case aS => exact (below_size bB)); (case aL => have := b7.out; omega); intro e5 e7 ho hb hg hat; rw [← b8.out] at ho; have b9 := Aside0.mk (ho); replace HB := Aside0.mk (hb); clear a7 ho hb hg hat))
 go_ret
 exact ⟨_, sE, by (with_reducible repeat (first | apply Kd.R_alloc | apply Kd.R_drewN | apply Kd.R_drew)); exact b9.out, bI⟩
 )
 ·(
 rw [if_neg b2] at H
 exact absurd H (by simp)
 )
 )
 ·(
 rw [if_neg b0] at H
 exact absurd H (by simp)
 )
 )
 ·(
 rw [if_neg a9] at H
 exact absurd H (by simp)
 )
 )
 )
 )

/-! ### spec_l1Read: function 63 -/
mutual
def spec_l1Read.j0 : Nat → ByteArray → Bool → Option (Int)
  | 0, _, _ => none
  | k + 1, x0, x18 => if x18 = true then (some (-1)) else (spec_l1Read.l0 k x0 0 0)
def spec_l1Read.l0 : Nat → ByteArray → Int → Int → Option (Int)
  | 0, _, _, _ => none
  | k + 1, x0, x3, x4 => if x4 < (x0.size : Int) then (if 0 ≤ x4 then (if (bt x0 x4) < 48 then (some (-1)) else (if (bt x0 x4) > 57 then (some (-1)) else (spec_l1Read.l0 k x0 (wrap64 ((wrap64 (10 * x3)) + (((bt x0 x4) - 48) % 256))) (wrap64 (x4 + 1))))) else (none)) else (some x3)
end
def spec_l1Read.f (k : Nat) (a0 : ByteArray) : Option (Int) := (spec_l1In.f (a0.size : Int) 1 6).bind fun t355 => (if t355 = true then (if 0 < (a0.size : Int) then (if (bt a0 0) = 48 then (spec_l1Read.j0 k a0 (decide ((a0.size : Int) > 1))) else (spec_l1Read.j0 k a0 false)) else (none)) else (spec_l1Read.j0 k a0 true))
theorem spec_l1Read.mono_l : ∀ k, (∀ y0 y1, LeO (spec_l1Read.j0 k y0 y1) (spec_l1Read.j0 (k + 1) y0 y1)) ∧ (∀ y0 y1 y2, LeO (spec_l1Read.l0 k y0 y1 y2) (spec_l1Read.l0 (k + 1) y0 y1 y2))
  | 0 => ⟨fun _ _ r h => by simp [spec_l1Read.j0] at h, fun _ _ _ r h => by simp [spec_l1Read.l0] at h⟩
  | k + 1 => by
    obtain ⟨ih0, ih1⟩ := spec_l1Read.mono_l k
    refine ⟨?_, ?_⟩
    · intro y0 y1
      unfold spec_l1Read.j0
      repeat' first
      | (with_reducible exact ih0 _ _)
      | (with_reducible exact ih1 _ _ _)
      | (with_reducible exact LeO.refl _)
      | (with_reducible exact LeO.none _)
      | (with_reducible refine LeO.ite ?_ ?_)
      | (with_reducible refine LeO.bind ?_ (fun _ => ?_))
      | exact ih0 _ _
      | exact ih1 _ _ _
      | exact LeO.none _
      | refine LeO.ite ?_ ?_
      | refine LeO.bind ?_ (fun _ => ?_)
    · intro y0 y1 y2
      unfold spec_l1Read.l0
      repeat' first
      | (with_reducible exact ih0 _ _)
      | (with_reducible exact ih1 _ _ _)
      | (with_reducible exact LeO.refl _)
      | (with_reducible exact LeO.none _)
      | (with_reducible refine LeO.ite ?_ ?_)
      | (with_reducible refine LeO.bind ?_ (fun _ => ?_))
      | exact ih0 _ _
      | exact ih1 _ _ _
      | exact LeO.none _
      | refine LeO.ite ?_ ?_
      | refine LeO.bind ?_ (fun _ => ?_)
theorem spec_l1Read.mono : ∀ a0 k, LeO (spec_l1Read.f k a0) (spec_l1Read.f (k + 1) a0) := by
  intro a0 k
  obtain ⟨ih0, ih1⟩ := spec_l1Read.mono_l k
  unfold spec_l1Read.f
  repeat' first
      | (with_reducible exact ih0 _ _)
      | (with_reducible exact ih1 _ _ _)
      | (with_reducible exact LeO.refl _)
      | (with_reducible exact LeO.none _)
      | (with_reducible refine LeO.ite ?_ ?_)
      | (with_reducible refine LeO.bind ?_ (fun _ => ?_))
      | exact ih0 _ _
      | exact ih1 _ _ _
      | exact LeO.none _
      | refine LeO.ite ?_ ?_
      | refine LeO.bind ?_ (fun _ => ?_)
set_option maxHeartbeats 8000000 in
set_option maxRecDepth 100000 in
theorem spec_l1Read.calls (k : Nat) (a0 : ByteArray) (r : Int) (w : World) (h : spec_l1Read.f k a0 = some r) :
    Calls Tryd.prog 63 #[.string a0] w fun e w' => e = .returned (.int .i64 r) ∧ Drawn0 w w' := by
 have H := h
 unfold spec_l1Read.f at H
 clear h
 have b4 := Aside0.mk H
 clear H
 go_enter Tryd.func63, Tryd.ntmps63
 go_upto_region 1 with (fail)
 go_cut [18] (fun d2 wc => ∃ (kq : Nat) (a5 : Bool), d2 = .bool a5 ∧ Aside0 (spec_l1Read.j0 kq a0 a5 = some r) ∧ Aside0 (kq ≤ k) ∧ Drawn0 w wc)
 case first => (
 have H := b4.out
 clear b4
 obtain ⟨c6, A3, H⟩ := bD H
 try dsimp only at H
 by_cases c4 : c6 = true
 subst c4
 rw [if_pos rfl] at H
 by_cases c5 : 0 < (a0.size : Int)
 rw [if_pos c5] at H
 have b5 : decide (0 < (a0.size : Int)) = true := decide_eq_true c5
 have d4 : decide (0 < a0.size) = true := decide_eq_true (by omega)
 clear c5
 (first | rw [b5] | (simp only [i64_w, i32_w]; rw [b5]) | skip)
 by_cases c7 : (bt a0 0) = 48
 rw [if_pos c7] at H
 obtain ⟨c9, d0⟩ := yE c7
 clear c7
 have H' := Aside0.mk H
 clear H
 rotate_left
 rw [if_neg c7] at H
 obtain ⟨c9, d0⟩ := nE c7
 have H' := Aside0.mk H
 clear H
 rotate_left
 rw [if_neg c5] at H
 exact absurd H (by simp)
 replace c4 := Bool.eq_false_iff.mpr c4
 subst c4
 rw [if_neg nft] at H
 have H' := Aside0.mk H
 clear H
 rotate_left
 all_goals (go_wp2_with (first | ((with_reducible refine gate_callee (f := 44) rfl ?_); refine goesL_ (some 7) rfl rfl Tryd.func44 kr rfl #[.int .i64 (a0.size : Int), .int .i64 1, .int .i64 6] rfl sM ?_; (with_reducible refine (spec_l1In.calls (a0.size : Int) 1 6 true _ A3.out).mono ?_); rintro e w' ⟨rfl, ⟨nd, rfl⟩⟩; refine ⟨_, rfl, ?_⟩; have a4 : 0 ≤ (0 : Int) := (by omega); have a3 : 0 < a0.size := (by have : (0 : Int) < (a0.size : Int) := of_decide_eq_true asm; omega); have b2 : ∀ h : 0 < a0.size, ((a0[0]'h).toNat : Int) = bt a0 0 := bt_at a0 0; clear a4; have d5 : (0 < (a0.size : Int)) = True := eq_true (of_decide_eq_true asm); replace a3 := eq_true a3) | ((with_reducible refine gate_callee (f := 44) rfl ?_); refine goesL_ (some 7) rfl rfl Tryd.func44 kr rfl #[.int .i64 (a0.size : Int), .int .i64 1, .int .i64 6] rfl sM ?_; (with_reducible refine (spec_l1In.calls (a0.size : Int) 1 6 false _ A3.out).mono ?_); rintro e w' ⟨rfl, ⟨nd, rfl⟩⟩; refine ⟨_, rfl, ?_⟩)))
 all_goals go_meet
 · case rel => exact ⟨_, (decide ((a0.size : Int) > 1)), sR, H', ⟨by first | omega | exact Nat.le_refl _⟩, by repeat (first | exact Drawn0.refl _ | apply Drawn0.step)⟩
 · case rel => exact ⟨_, (false), sR, H', ⟨by first | omega | exact Nat.le_refl _⟩, by repeat (first | exact Drawn0.refl _ | apply Drawn0.step)⟩
 · case rel => exact ⟨_, (true), sR, H', ⟨by first | omega | exact Nat.le_refl _⟩, by repeat (first | exact Drawn0.refl _ | apply Drawn0.step)⟩
 )
 case rest => (
 clear b4
 obtain ⟨kq, a5, rfl, HA, HJ1, ⟨d7, rfl⟩⟩ := hcut
 cases kq with
 | zero => exact absurd HA.out (by simp [spec_l1Read.j0])
 | succ b9 => (
 have H := HA.out
 clear HA
 simp only [spec_l1Read.j0] at H
 by_cases c8 : a5 = true
 ·(
 subst c8
 rw [if_pos rfl] at H
 obtain rfl := Option.some.inj H
 go_wp2
 go_ret
 exact ⟨by first | rfl | (simp; done) | (simp [*]; done), by repeat (first | exact Drawn0.refl _ | apply Drawn0.step)⟩
 )
 ·(
 replace c8 := Bool.eq_false_iff.mpr c8
 subst c8
 rw [if_neg nft] at H
 have H' := Aside0.mk H
 clear H
 go_wp2
 go_loopg [3, 4] b9 (fun kq v3 v4 w' => ∃ (a6 : Int) (a2 : Int), v3 = .int .i64 a6 ∧ v4 = .int .i64 a2 ∧ Aside0 (spec_l1Read.l0 kq a0 a6 a2 = some r) ∧ Aside0 (kq ≤ b9) ∧ Drawn0 w w')
 case atStart => exact ⟨(0), (0), sR, sR, H', ⟨Nat.le_refl _⟩, by repeat (first | exact Drawn0.refl _ | apply Drawn0.step)⟩
 case round => (
 clear H'
 obtain ⟨a6, a2, rfl, rfl, HA, HKz1, ⟨d8, rfl⟩⟩ := hrel
 cases gk with
 | zero => exact absurd HA.out (by simp [spec_l1Read.l0])
 | succ k2 => (
 have H := HA.out
 clear HA
 simp only [spec_l1Read.l0] at H
 by_cases a7 : a2 < (a0.size : Int)
 ·(
 rw [if_pos a7] at H
 have b6 : decide (a2 < (a0.size : Int)) = true := decide_eq_true a7
 clear a7
 by_cases b3 : 0 ≤ a2
 ·(
 rw [if_pos b3] at H
 have d3 : decide (0 ≤ a2) = true := decide_eq_true b3
 clear b3
 by_cases a8 : (bt a0 a2) < 48
 ·(
 rw [if_pos a8] at H
 have b7 : decide ((bt a0 a2) < 48) = true := decide_eq_true a8
 clear a8
 obtain rfl := Option.some.inj H
 have a4 : 0 ≤ (a2 : Int) := of_decide_eq_true asm
 have a3 : a2 < (a0.size : Int) := of_decide_eq_true asm
 have b2 := bt_at a0 a2
 replace a4 := eq_true a4
 replace a3 := eq_true a3
 go_wp2
 go_ret
 exact ⟨by first | rfl | (simp; done) | (simp [*]; done), by repeat (first | exact Drawn0.refl _ | apply Drawn0.step)⟩
 )
 ·(
 rw [if_neg a8] at H
 have b7 : decide ((bt a0 a2) < 48) = false := decide_eq_false a8
 clear a8
 by_cases a9 : (bt a0 a2) > 57
 ·(
 rw [if_pos a9] at H
 have b8 : decide (57 < (bt a0 a2)) = true := decide_eq_true a9
 clear a9
 obtain rfl := Option.some.inj H
 have a4 : 0 ≤ (a2 : Int) := of_decide_eq_true asm
 have a3 : a2 < (a0.size : Int) := of_decide_eq_true asm
 have b2 := bt_at a0 a2
 replace a4 := eq_true a4
 replace a3 := eq_true a3
 have b0 : 0 ≤ (a2 : Int) := of_decide_eq_true asm
 have b1 : a2 < (a0.size : Int) := of_decide_eq_true asm
 have d1 := bt_at a0 a2
 replace b0 := eq_true b0
 replace b1 := eq_true b1
 go_wp2
 go_ret
 exact ⟨by first | rfl | (simp; done) | (simp [*]; done), by repeat (first | exact Drawn0.refl _ | apply Drawn0.step)⟩
 )
 ·(
 rw [if_neg a9] at H
 have b8 : decide (57 < (bt a0 a2)) = false := decide_eq_false a9
 clear a9
 have H' := Aside0.mk H
 clear H
 have a4 : 0 ≤ (a2 : Int) := of_decide_eq_true asm
 have a3 : a2 < (a0.size : Int) := of_decide_eq_true asm
 have b2 := bt_at a0 a2
 replace a4 := eq_true a4
 replace a3 := eq_true a3
 have b0 : 0 ≤ (a2 : Int) := of_decide_eq_true asm
 have b1 : a2 < (a0.size : Int) := of_decide_eq_true asm
 have d1 := bt_at a0 a2
 replace b0 := eq_true b0
 replace b1 := eq_true b1
 have c0 : 0 ≤ (a2 : Int) := of_decide_eq_true asm
 have c3 : a2 < (a0.size : Int) := of_decide_eq_true asm
 have d6 := bt_at a0 a2
 replace c0 := eq_true c0
 replace c3 := eq_true c3
 go_wp2
 go_roundg k2
 case measure => have := HJ1.out; have := HKz1.out; omega
 case rel => exact ⟨(wrap64 ((wrap64 (10 * a6)) + (((bt a0 a2) - 48) % 256))), (wrap64 (a2 + 1)), sR, sR, H', ⟨by have := HJ1.out; have := HKz1.out; omega⟩, by repeat (first | exact Drawn0.refl _ | apply Drawn0.step)⟩
 )
 )
 )
 ·(
 rw [if_neg b3] at H
 exact absurd H (by simp)
 )
 )
 ·(
 rw [if_neg a7] at H
 have b6 : decide (a2 < (a0.size : Int)) = false := decide_eq_false a7
 clear a7
 obtain rfl := Option.some.inj H
 go_wp2
 go_ret
 exact ⟨by first | rfl | (simp; done) | (simp [*]; done), by repeat (first | exact Drawn0.refl _ | apply Drawn0.step)⟩
 )
 )
 )
 )
 )
 )

end Go.Proofs.YtlmiaadpnbehgaaDoor.PFnBeamsEndOfAll
