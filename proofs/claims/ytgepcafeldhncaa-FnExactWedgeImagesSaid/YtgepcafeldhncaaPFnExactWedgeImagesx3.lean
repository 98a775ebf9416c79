-- Written by xprint.py, a program of this session, for this seat; Lean checks it.
import Derived.Test.YtgepcafeldhncaaPFnExactWedgeImagesx0
import Derived.Test.YtgepcafeldhncaaPFnExactWedgeImagesx2
namespace Go.Proofs.Ytgepcafeldhncaa.PFnExactWedgeImages
open Go.RowKit Go.Proofs.YtgepcafeldhncaaW.PrintWords Go.Proofs.YtgepcafeldhncaaW.PrintLast Go.Proofs.YtgepcafeldhncaaW.PrintMore
attribute [local go_sem] max2_int min2_int max_two min_two max_three min_three max_four min_four   -- for this text's walks alone
set_option linter.unusedVariables false
set_option linter.unusedSimpArgs false

/-! ### impl_isWedgeAngle: function 36 -/
def impl_isWedgeAngle.f (a0 : Int) : Option (Bool) := (impl_within.f a0 1 90).bind fun t136 => (if t136 = true then (if a0 = 0 then (none) else (some (((180 : Int) % a0) == 0))) else (some false))
set_option maxHeartbeats 8000000 in
set_option maxRecDepth 100000 in
theorem impl_isWedgeAngle.calls (a0 : Int) (r : Bool) (w : World) (h : impl_isWedgeAngle.f a0 = some r) :
    Calls Try.prog 36 #[.int .i64 a0] w fun e w' => e = .returned (.bool r) ∧ Drawn0 w w' := by
  have H : ((impl_within.f a0 1 90).bind fun t136 => (if t136 = true then (if a0 = 0 then (none) else (some (((180 : Int) % a0) == 0))) else (some false))) = some r := h
  clear h
  replace H := Option.bind_eq_some_iff.mp H
  obtain ⟨t136, A20, H⟩ := H
  replace H : (if t136 = true then (if a0 = 0 then (none) else (some (((180 : Int) % a0) == 0))) else (some false)) = some r := H
  have A2 := Aside0.mk A20
  clear A20
  by_cases c3 : t136 = true
  · subst c3
    have H1 : (if a0 = 0 then (none) else (some (((180 : Int) % a0) == 0))) = some r := by rw [if_pos rfl] at H; exact H
    clear H
    have H := H1
    clear H1
    by_cases c4 : a0 = 0
    · rw [if_pos c4] at H
      exact absurd H (by simp)
    · rw [if_neg c4] at H
      have c4b0 : (a0 == 0) = false := beq_eq_false_iff_ne.mpr c4
      have c4b1 : (a0 != 0) = true := bne_iff_ne.mpr c4
      obtain rfl := Option.some.inj H
      go_enter Try.func36, Try.ntmps36
      go_wp2_with (first | ((with_reducible refine gate_callee (f := 35) rfl ?_); refine goesL_ (some 4) rfl rfl Try.func35 (by kernel_rfl) rfl #[.int .i64 a0, .int .i64 1, .int .i64 90] rfl (by (try simp only [List.map_toArray, List.map_cons, List.map_nil]); first | done | rfl | (simp only [List.length_drop, List.length_take]; rfl)) ?_; (with_reducible refine (impl_within.calls a0 1 90 true _ A2.out).mono ?_); rintro e w' ⟨rfl, ⟨nd, rfl⟩⟩; refine ⟨_, rfl, ?_⟩))
      go_ret
      exact ⟨by first | rfl | (simp; done) | (simp [*]; done), by repeat (first | exact Drawn0.refl _ | apply Drawn0.step)⟩
  · replace c3 := Bool.eq_false_iff.mpr c3
    subst c3
    have H1 : (some false) = some r := by rw [if_neg (show ¬ (false = true) by decide)] at H; exact H
    clear H
    have H := H1
    clear H1
    obtain rfl := Option.some.inj H
    go_enter Try.func36, Try.ntmps36
    go_wp2_with (first | ((with_reducible refine gate_callee (f := 35) rfl ?_); refine goesL_ (some 4) rfl rfl Try.func35 (by kernel_rfl) rfl #[.int .i64 a0, .int .i64 1, .int .i64 90] rfl (by (try simp only [List.map_toArray, List.map_cons, List.map_nil]); first | done | rfl | (simp only [List.length_drop, List.length_take]; rfl)) ?_; (with_reducible refine (impl_within.calls a0 1 90 false _ A2.out).mono ?_); rintro e w' ⟨rfl, ⟨nd, rfl⟩⟩; refine ⟨_, rfl, ?_⟩))
    go_ret
    exact ⟨by first | rfl | (simp; done) | (simp [*]; done), by repeat (first | exact Drawn0.refl _ | apply Drawn0.step)⟩

/-! ### impl_isWedge: function 39 -/
def impl_isWedge.f (a0 : Int) (a1 : Int) : Option (Bool) := (impl_isWedgeAngle.f a0).bind fun t137 => (if t137 = true then ((impl_within.f a1 1 (wrap64 (a0 - 1))).bind fun t138 => (some t138)) else (some false))
set_option maxHeartbeats 8000000 in
set_option maxRecDepth 100000 in
theorem impl_isWedge.calls (a0 : Int) (a1 : Int) (r : Bool) (w : World) (h : impl_isWedge.f a0 a1 = some r) :
    Calls Try.prog 39 #[.int .i64 a0, .int .i64 a1] w fun e w' => e = .returned (.bool r) ∧ Drawn0 w w' := by
  have H : ((impl_isWedgeAngle.f a0).bind fun t137 => (if t137 = true then ((impl_within.f a1 1 (wrap64 (a0 - 1))).bind fun t138 => (some t138)) else (some false))) = some r := h
  clear h
  replace H := Option.bind_eq_some_iff.mp H
  obtain ⟨t137, A30, H⟩ := H
  replace H : (if t137 = true then ((impl_within.f a1 1 (wrap64 (a0 - 1))).bind fun t138 => (some t138)) else (some false)) = some r := H
  have A3 := Aside0.mk A30
  clear A30
  by_cases c4 : t137 = true
  · subst c4
    have H1 : ((impl_within.f a1 1 (wrap64 (a0 - 1))).bind fun t138 => (some t138)) = some r := by rw [if_pos rfl] at H; exact H
    clear H
    have H := H1
    clear H1
    replace H := Option.bind_eq_some_iff.mp H
    obtain ⟨t138, A50, H⟩ := H
    replace H : (some t138) = some r := H
    have A5 := Aside0.mk A50
    clear A50
    obtain rfl := Option.some.inj H
    go_enter Try.func39, Try.ntmps39
    go_wp2_with (first | ((with_reducible refine gate_callee (f := 36) rfl ?_); refine goesL_ (some 6) rfl rfl Try.func36 (by kernel_rfl) rfl #[.int .i64 a0] rfl (by (try simp only [List.map_toArray, List.map_cons, List.map_nil]); first | done | rfl | (simp only [List.length_drop, List.length_take]; rfl)) ?_; (with_reducible refine (impl_isWedgeAngle.calls a0 true _ A3.out).mono ?_); rintro e w' ⟨rfl, ⟨nd, rfl⟩⟩; refine ⟨_, rfl, ?_⟩) | (go_at_call 35; (with_reducible refine (impl_within.calls a1 1 (wrap64 (a0 - 1)) t138 _ A5.out).mono ?_); rintro e w' ⟨rfl, ⟨nd, rfl⟩⟩))
    go_ret
    exact ⟨by first | rfl | (simp; done) | (simp [*]; done), by repeat (first | exact Drawn0.refl _ | apply Drawn0.step)⟩
  · replace c4 := Bool.eq_false_iff.mpr c4
    subst c4
    have H1 : (some false) = some r := by rw [if_neg (show ¬ (false = true) by decide)] at H; exact H
    clear H
    have H := H1
    clear H1
    obtain rfl := Option.some.inj H
    go_enter Try.func39, Try.ntmps39
    go_wp2_with (first | ((with_reducible refine gate_callee (f := 36) rfl ?_); refine goesL_ (some 6) rfl rfl Try.func36 (by kernel_rfl) rfl #[.int .i64 a0] rfl (by (try simp only [List.map_toArray, List.map_cons, List.map_nil]); first | done | rfl | (simp only [List.length_drop, List.length_take]; rfl)) ?_; (with_reducible refine (impl_isWedgeAngle.calls a0 false _ A3.out).mono ?_); rintro e w' ⟨rfl, ⟨nd, rfl⟩⟩; refine ⟨_, rfl, ?_⟩))
    go_ret
    exact ⟨by first | rfl | (simp; done) | (simp [*]; done), by repeat (first | exact Drawn0.refl _ | apply Drawn0.step)⟩

/-! ### bits_Mul32: function 83 -/
def bits_Mul32.f (a0 : Int) (a1 : Int) : Option (Int × Int) := some (((IntKind.u64.wrap ((IntKind.u64.wrap (a0)) * (IntKind.u64.wrap (a1)))) / 4294967296) % 4294967296, (IntKind.u64.wrap ((IntKind.u64.wrap (a0)) * (IntKind.u64.wrap (a1)))) % 4294967296)
set_option maxHeartbeats 8000000 in
set_option maxRecDepth 100000 in
theorem bits_Mul32.calls (a0 : Int) (a1 : Int) (r1 : Int) (r2 : Int) (w : World) (h : bits_Mul32.f a0 a1 = some (r1, r2)) :
    Calls Try.prog 83 #[.int .u32 a0, .int .u32 a1] w fun e w' => e = .returned (.tuple #[.int .u32 r1, .int .u32 r2]) ∧ Drawn0 w w' := by
  have H : (some (((IntKind.u64.wrap ((IntKind.u64.wrap (a0)) * (IntKind.u64.wrap (a1)))) / 4294967296) % 4294967296, (IntKind.u64.wrap ((IntKind.u64.wrap (a0)) * (IntKind.u64.wrap (a1)))) % 4294967296)) = some (r1, r2) := h
  clear h
  simp only [Option.some.injEq, Prod.mk.injEq] at H
  obtain ⟨rfl, rfl⟩ := H
  go_enter Try.func83, Try.ntmps83
  go_wp2
  go_ret2
  exact ⟨by first | rfl | (simp; done) | (simp [*]; done), by repeat (first | exact Drawn0.refl _ | apply Drawn0.step)⟩

/-! ### bits_Mul64: function 84 -/
def bits_Mul64.f (a0 : Int) (a1 : Int) : Option (Int × Int) := some (IntKind.u64.wrap ((IntKind.u64.wrap ((IntKind.u64.wrap ((a0 / 4294967296) * (a1 / 4294967296))) + ((IntKind.u64.wrap ((IntKind.u64.wrap ((a0 / 4294967296) * (Go.bits .and .u64 a1 4294967295))) + ((IntKind.u64.wrap ((Go.bits .and .u64 a0 4294967295) * (Go.bits .and .u64 a1 4294967295))) / 4294967296))) / 4294967296))) + ((IntKind.u64.wrap ((Go.bits .and .u64 (IntKind.u64.wrap ((IntKind.u64.wrap ((a0 / 4294967296) * (Go.bits .and .u64 a1 4294967295))) + ((IntKind.u64.wrap ((Go.bits .and .u64 a0 4294967295) * (Go.bits .and .u64 a1 4294967295))) / 4294967296))) 4294967295) + (IntKind.u64.wrap ((Go.bits .and .u64 a0 4294967295) * (a1 / 4294967296))))) / 4294967296)), IntKind.u64.wrap (a0 * a1))
set_option maxHeartbeats 8000000 in
set_option maxRecDepth 100000 in
theorem bits_Mul64.calls (a0 : Int) (a1 : Int) (r1 : Int) (r2 : Int) (w : World) (h : bits_Mul64.f a0 a1 = some (r1, r2)) :
    Calls Try.prog 84 #[.int .u64 a0, .int .u64 a1] w fun e w' => e = .returned (.tuple #[.int .u64 r1, .int .u64 r2]) ∧ Drawn0 w w' := by
  have H : (some (IntKind.u64.wrap ((IntKind.u64.wrap ((IntKind.u64.wrap ((a0 / 4294967296) * (a1 / 4294967296))) + ((IntKind.u64.wrap ((IntKind.u64.wrap ((a0 / 4294967296) * (Go.bits .and .u64 a1 4294967295))) + ((IntKind.u64.wrap ((Go.bits .and .u64 a0 4294967295) * (Go.bits .and .u64 a1 4294967295))) / 4294967296))) / 4294967296))) + ((IntKind.u64.wrap ((Go.bits .and .u64 (IntKind.u64.wrap ((IntKind.u64.wrap ((a0 / 4294967296) * (Go.bits .and .u64 a1 4294967295))) + ((IntKind.u64.wrap ((Go.bits .and .u64 a0 4294967295) * (Go.bits .and .u64 a1 4294967295))) / 4294967296))) 4294967295) + (IntKind.u64.wrap ((Go.bits .and .u64 a0 4294967295) * (a1 / 4294967296))))) / 4294967296)), IntKind.u64.wrap (a0 * a1))) = some (r1, r2) := h
  clear h
  simp only [Option.some.injEq, Prod.mk.injEq] at H
  obtain ⟨rfl, rfl⟩ := H
  go_enter Try.func84, Try.ntmps84
  go_wp2
  go_ret2
  exact ⟨by first | rfl | (simp; done) | (simp [*]; done), by repeat (first | exact Drawn0.refl _ | apply Drawn0.step)⟩

/-! ### bits_Mul: function 65 -/
def bits_Mul.f (a0 : Int) (a1 : Int) : Option (Int × Int) := (bits_Mul64.f a0 a1).bind fun bt139 => (some (bt139.1, bt139.2))
set_option maxHeartbeats 8000000 in
set_option maxRecDepth 100000 in
theorem bits_Mul.calls (a0 : Int) (a1 : Int) (r1 : Int) (r2 : Int) (w : World) (h : bits_Mul.f a0 a1 = some (r1, r2)) :
    Calls Try.prog 65 #[.int .u64 a0, .int .u64 a1] w fun e w' => e = .returned (.tuple #[.int .u64 r1, .int .u64 r2]) ∧ Drawn0 w w' := by
  have H : ((bits_Mul64.f a0 a1).bind fun bt139 => (some (bt139.1, bt139.2))) = some (r1, r2) := h
  clear h
  replace H := Option.bind_eq_some_iff.mp H
  obtain ⟨⟨t139, t140⟩, A30, H⟩ := H
  replace H : (some (t139, t140)) = some (r1, r2) := H
  have A3 := Aside0.mk A30
  clear A30
  simp only [Option.some.injEq, Prod.mk.injEq] at H
  obtain ⟨rfl, rfl⟩ := H
  go_enter Try.func65, Try.ntmps65
  go_wp2_with (first | ((with_reducible refine gate_callee (f := 84) rfl ?_); refine goesL_ (some 25) rfl rfl Try.func84 (by kernel_rfl) rfl #[.int .u64 a0, .int .u64 a1] rfl (by (try simp only [List.map_toArray, List.map_cons, List.map_nil]); first | done | rfl | (simp only [List.length_drop, List.length_take]; rfl)) ?_; (with_reducible refine (bits_Mul64.calls a0 a1 t139 t140 _ A3.out).mono ?_); rintro e w' ⟨rfl, ⟨nd, rfl⟩⟩; refine ⟨_, rfl, ?_⟩))
  go_ret2
  exact ⟨by first | rfl | (simp; done) | (simp [*]; done), by repeat (first | exact Drawn0.refl _ | apply Drawn0.step)⟩

/-! ### slices_Repeat_int_int: function 56 -/
def slices_Repeat_int_int.f (l0 : List Int) (a1 : Int) : Option (List Int) := if l0.length = 1 ∧ a1 = 360 then some (List.replicate 360 (rd l0 0)) else none
def rpRow (v : Int) (n : Nat) : List Value := List.replicate n (.int .i64 v) ++ List.replicate (360 - n) (.int .i64 0)
theorem rp_cells {w : World} {g : Nat} {cs : Array Value} (h : w.heap[g]? = some (.cells cs 3 (0, 0))) (i : Nat) : w.cell? ⟨g, i, none⟩ = cs[i]? := by simp [World.cell?, h]
theorem rp_below_setRow {B g : Nat} {w0 w : World} (hb : Below B w0 w) (hBg : B ≤ g) (cs : Array Value) : Below B w0 (w.setRow g cs) :=
  ⟨hb.os, hb.tape, hb.output, Nat.le_trans hb.size (by simp [World.setRow]), fun k hk => (setRow_other w g k cs (by omega)).trans (hb.block k hk)⟩
theorem rp_made' (n : Nat) : madeCells #[.int .i64 0] n = (List.replicate n (Value.int .i64 0)).toArray := by
  apply Array.ext'
  apply List.ext_getElem
  · simp [madeCells]
  · intro i h1 h2
    simp [madeCells, Nat.mod_one]
theorem rp_made (v : Int) : madeCells #[.int .i64 0] 360 = (rpRow v 0).toArray := rp_made' 360
theorem rp_size (v : Int) (n : Nat) (h : n ≤ 360) : (rpRow v n).length = 360 := by
  unfold rpRow
  rw [List.length_append, List.length_replicate, List.length_replicate]
  omega
theorem rp_splice (v : Int) (n m : Nat) (h : n + m ≤ 360) : (rpRow v n).take n ++ List.replicate m (.int .i64 v) ++ (rpRow v n).drop (n + m) = rpRow v (n + m) := by
  unfold rpRow
  rw [List.take_left' (by rw [List.length_replicate]), List.replicate_append_replicate, List.drop_append, List.drop_eq_nil_of_le (by rw [List.length_replicate]; omega), List.nil_append, List.drop_replicate, List.length_replicate]
  congr 2
  omega
theorem rp_copy {W : World} {g : Nat} (v : Int) (n m : Nat) (ad : Addr) (sLen sCap dCap : Nat) (hm : m = Nat.min sLen (360 - n)) (hn : n ≤ 360) (hg : W.heap[g]? = some (.cells (rpRow v n).toArray 3 (0, 0))) (hsrc : ∀ j, j < m → W.cell? (ad.add j) = some (.int .i64 v)) :
    (Builtin.copy_ #[22, 22] 3 #[.slice (some ⟨g, n, none⟩) (360 - n) dCap, .slice (some ad) sLen sCap]).run Try.prog W = .ok (goInt ((m : Nat) : Int)) (W.setRow g (rpRow v (n + m)).toArray) := by
  have hle : n + m ≤ 360 := by
    have : Nat.min sLen (360 - n) ≤ 360 - n := Nat.min_le_right _ _
    omega
  have hl : (List.replicate m (Value.int .i64 v)).length = m := List.length_replicate
  have hr := run_copy_row (P := Try.prog) W 22 22 3 3 g n (360 - n) dCap ad sLen sCap (rpRow v n).toArray 3 (List.replicate m (.int .i64 v)) Try.underlying22 (by kernel_rfl) hg (by rw [hl]; exact hm)
    (fun j u hj => by
      have : j < m := by
        rcases Nat.lt_or_ge j m with c | c
        · exact c
        · rw [List.getElem?_eq_none (by rw [hl]; exact c)] at hj; cases hj
      rw [List.getElem?_replicate, if_pos this] at hj
      injection hj with hj
      rw [← hj]
      exact hsrc j this)
    (by rw [hl, List.size_toArray, rp_size v n hn]; exact hle) (fun u hu => by rw [List.eq_of_mem_replicate hu]; rfl)
  rw [hr, hl]
  have e : (rpRow v n).toArray.toList = rpRow v n := rfl
  rw [e, rp_splice v n m hle]
theorem rp_mul : bits_Mul.f 1 360 = some (0, 360) := by kernel_rfl
set_option maxHeartbeats 4000000 in
theorem slices_Repeat_int_int.calls (A0 : Option Addr) (c0 : Nat) (l0 : List Int) (a1 : Int) (r : List Int) (w : World) (hr0 : Kd.C (Kd.int .i64) w A0 l0.length l0) (hc0 : l0.length ≤ c0) (h : slices_Repeat_int_int.f l0 a1 = some r) :
    Calls Try.prog 56 #[.slice A0 l0.length c0, .int .i64 a1] w fun e w' => ∃ v0_ : Value, e = .returned (v0_) ∧ Kd.R (Kd.int .i64) 3 w' w.heap.size (fun _ => True) v0_ r ∧ Below w.heap.size w w' := by
  unfold slices_Repeat_int_int.f at h
  by_cases hh : l0.length = 1 ∧ a1 = 360
  · rw [if_pos hh] at h
    obtain ⟨hl, rfl⟩ := hh
    obtain ⟨v, rfl⟩ : ∃ v, l0 = [v] := by
      match l0, hl with
      | [v], _ => exact ⟨v, rfl⟩
    have hv : rd [v] 0 = v := rfl
    rw [hv] at h
    obtain rfl := Option.some.inj h
    obtain ⟨ad, rfl, hcell⟩ := hr0.2.2 (by simp)
    have hc : w.cell? ad = some (.int .i64 v) := by
      obtain ⟨cs, _, hk, hc⟩ := hcell 0 v rfl
      have hk' : cs = [.int .i64 v] := hk
      subst hk'
      have := hc 0 _ rfl
      have e : ad.add (0 * (Kd.int .i64).sz + 0) = ad := by simp [Addr.add]
      rwa [e] at this
    have HC := Aside0.mk hc
    have hmk : ∀ W : World, (Instr.makeSlice 22 (.int .i64 360) (.int .i64 360)).run Try.prog W = .ok (.slice (some ⟨W.heap.size, 0, none⟩) 360 360) (W.alloc (.cells (rpRow v 0).toArray 3)) := by
      intro W
      rw [← rp_made v]
      exact print_make 22 3 .i64 8 Try.underlying22 info3 (by decide) 360 (by decide) W
    clear hr0 hcell h hl hv hc
    show Calls Try.prog 56 #[.slice (some ad) 1 c0, .int .i64 360] w _
    go_enter Try.func56, Try.ntmps56
    go_wp2_with fail
    refine (bits_Mul.calls 1 360 0 360 _ rp_mul).mono ?_
    rintro e w1 ⟨rfl, hd⟩
    obtain ⟨q, rfl⟩ := hd
    have hb1 := below_alloc (pw_below_drewN (Below.refl w.heap.size w) q) (.cells (rpRow v 0).toArray 3)
    have hg1 : ((w.drewN q).alloc (.cells (rpRow v 0).toArray 3)).heap[w.heap.size]? = some (.cells (rpRow v 0).toArray 3 (0, 0)) := blk_new (w.drewN q) _
    have hlt : ad.block < w.heap.size := World.block_lt_of_cell? w ad HC.out
    have hc1 : ((w.drewN q).alloc (.cells (rpRow v 0).toArray 3)).cell? ad = some (.int .i64 v) := (World.cell?_of_block (hb1.block ad.block hlt)).trans HC.out
    have hcp : (Builtin.copy_ #[22, 22] 3 #[.slice (some ⟨w.heap.size, 0, none⟩) 360 360, .slice (some ad) 1 c0]).run Try.prog ((w.drewN q).alloc (.cells (rpRow v 0).toArray 3)) = .ok (.int .i64 1) (((w.drewN q).alloc (.cells (rpRow v 0).toArray 3)).setRow w.heap.size (rpRow v 1).toArray) :=
      rp_copy v 0 1 ad 1 c0 360 (by decide) (by omega) hg1 (fun j hj => by
        obtain rfl : j = 0 := by omega
        have e : ad.add 0 = ad := by simp [Addr.add]
        rw [e]; exact hc1)
    have HB2 : Aside0 (Below w.heap.size w (((w.drewN q).alloc (.cells (rpRow v 0).toArray 3)).setRow w.heap.size (rpRow v 1).toArray)) := ⟨rp_below_setRow hb1 (Nat.le_refl _) _⟩
    have HG2 : Aside0 ((((w.drewN q).alloc (.cells (rpRow v 0).toArray 3)).setRow w.heap.size (rpRow v 1).toArray).heap[w.heap.size]? = some (.cells (rpRow v 1).toArray 3 (0, 0))) := ⟨setRow_heap _ _ _ _ _ _ hg1⟩
    clear hb1 hg1 hc1 hlt
    go_wp2_with fail
    generalize ((w.drewN q).alloc (.cells (rpRow v 0).toArray 3)).setRow w.heap.size (rpRow v 1).toArray = w2 at HB2 HG2 ⊢
    clear hmk hcp
    go_loopg [8] 360 (fun gg s8 wr => ∃ n : Nat, 1 ≤ n ∧ n ≤ 360 ∧ 360 - n ≤ gg ∧ s8 = .int .i64 (n : Int) ∧ Aside0 (wr.heap[w.heap.size]? = some (.cells (rpRow v n).toArray 3 (0, 0))) ∧ Aside0 (Below w.heap.size w wr))
    case atStart => exact ⟨1, Nat.le_refl _, by omega, by omega, rfl, HG2, HB2⟩
    case round =>
      obtain ⟨n, h1, h2, hgk, rfl, HG, HB⟩ := hrel
      clear HG2 HB2 w2
      by_cases hlt : n < 360
      · have d1 : decide ((n : Int) < 360) = true := decide_eq_true (by omega)
        go_wp2_with fail
        obtain ⟨m, hm⟩ : ∃ m, m = Nat.min n (360 - n) := ⟨_, rfl⟩
        have hmle : m ≤ n ∧ m ≤ 360 - n := by rw [hm]; exact ⟨Nat.min_le_left _ _, Nat.min_le_right _ _⟩
        have hmpos : 1 ≤ m := by rw [hm]; exact Nat.le_min.2 ⟨h1, by omega⟩
        have HGD : Aside0 (wr.drew.heap[w.heap.size]? = some (.cells (rpRow v n).toArray 3 (0, 0))) := ⟨HG.out⟩
        have HBD := Aside0.mk (below_step HB.out (below_drew (Below.refl _ wr)))
        have hcp := rp_copy v n m ⟨w.heap.size, 0, none⟩ n 360 (360 - n) hm h2 HGD.out (fun j hj => by
          have e : (⟨w.heap.size, 0, none⟩ : Addr).add j = ⟨w.heap.size, j, none⟩ := by unfold Addr.add; split <;> simp_all
          have hjn : j < n := by omega
          rw [e, rp_cells HGD.out, List.getElem?_toArray]
          unfold rpRow
          rw [List.getElem?_append_left (by rw [List.length_replicate]; exact hjn), List.getElem?_replicate, if_pos hjn])
        have hle : (n : Int) ≤ 360 := by omega
        have hne : ¬ 360 = n := by omega
        have HCP := Aside0.mk hcp
        have wn : IntKind.i64.wrap ((n : Int) + (m : Int)) = ((n + m : Nat) : Int) := by rw [i64_w]; unfold wrap64; omega
        have HN := Aside0.mk hmle
        have HPOS := Aside0.mk hmpos
        clear hcp hm hmle hmpos
        refine start_ (n := 10) (S := fun _ => True) (ds := [7]) #[false, false, false, false, false, false, false, false, false, false] (by kernel_rfl) rfl rfl trivial (fun hHeld => ?_)
        clear hHeld
        generalize wr.drew = wd at HGD HBD HCP ⊢
        refine pure_ (i := 0) (N := some 38) (v := ?_) (a' := ?_) #[true, false, false, false, false, false, false, false, false, false] rfl rfl (by kernel_rfl) (fun _ _ _ h => h) (Or.inl ⟨by rfl, ?_⟩) ?_ ?_
        rotate_left
        · intro w'
          go_simp
          with_reducible rfl
        rotate_left
        · simp only [Act.put, List.setIfInBounds_toArray, List.set_cons_zero, List.set_cons_succ, i64_w, i32_w]
          rfl
        refine pure_ (i := 1) (N := some 39) (v := ?_) (a' := ?_) #[true, true, false, false, false, false, false, false, false, false] rfl rfl (by kernel_rfl) (fun _ _ _ h => h) (Or.inl ⟨by rfl, ?_⟩) ?_ ?_
        rotate_left
        · intro w'
          go_simp
          with_reducible rfl
        rotate_left
        · simp only [Act.put, List.setIfInBounds_toArray, List.set_cons_zero, List.set_cons_succ, i64_w, i32_w]
          rfl
        refine pure_ (i := 2) (N := some 40) (v := ?_) (a' := ?_) #[true, true, true, false, false, false, false, false, false, false] rfl rfl (by kernel_rfl) (fun _ _ _ h => h) (Or.inl ⟨by rfl, ?_⟩) ?_ ?_
        rotate_left
        · intro w'
          go_simp
          with_reducible rfl
        rotate_left
        · simp only [Act.put, List.setIfInBounds_toArray, List.set_cons_zero, List.set_cons_succ, i64_w, i32_w]
          rfl
        refine pure_ (i := 3) (N := some 41) (v := ?_) (a' := ?_) #[true, true, true, true, false, false, false, false, false, false] rfl rfl (by kernel_rfl) (fun _ _ _ h => h) (Or.inl ⟨by rfl, ?_⟩) ?_ ?_
        rotate_left
        · intro w'
          go_simp
          with_reducible rfl
        rotate_left
        · simp only [Act.put, List.setIfInBounds_toArray, List.set_cons_zero, List.set_cons_succ, i64_w, i32_w]
          rfl
        refine pure_ (i := 4) (N := some 42) (v := ?_) (a' := ?_) #[true, true, true, true, true, false, false, false, false, false] rfl rfl (by kernel_rfl) (fun _ _ _ h => h) (Or.inl ⟨by rfl, ?_⟩) ?_ ?_
        rotate_left
        · intro w'
          go_simp
          with_reducible rfl
        rotate_left
        · simp only [Act.put, List.setIfInBounds_toArray, List.set_cons_zero, List.set_cons_succ, i64_w, i32_w]
          rfl
        refine pure_ (i := 5) (N := some 43) (v := ?_) (a' := ?_) #[true, true, true, true, true, true, false, false, false, false] rfl rfl (by kernel_rfl) (fun _ _ _ h => h) (Or.inl ⟨by rfl, ?_⟩) ?_ ?_
        rotate_left
        · intro w'
          go_simp
          with_reducible rfl
        rotate_left
        · simp only [Act.put, List.setIfInBounds_toArray, List.set_cons_zero, List.set_cons_succ, i64_w, i32_w]
          rfl
        refine pure_ (i := 6) (N := some 44) (v := ?_) (a' := ?_) #[true, true, true, true, true, true, true, false, false, false] rfl rfl (by kernel_rfl) (fun _ _ _ h => h) (Or.inl ⟨by rfl, ?_⟩) ?_ ?_
        rotate_left
        · intro w'
          go_simp
          with_reducible rfl
        rotate_left
        · simp only [Act.put, List.setIfInBounds_toArray, List.set_cons_zero, List.set_cons_succ, i64_w, i32_w]
          rfl
        refine last_ (i := 7) (N := some 45) #[true, true, true, true, true, true, true, true, false, false] rfl rfl (by kernel_rfl) (by decide) (fun K hK => ?_)
        refine value_ (v := .int .i64 ((m : Nat) : Int)) (w1 := wd.setRow w.heap.size (rpRow v (n + m)).toArray) (by rfl) rfl ?_ ?_
        · have := HCP.out
          go_simp
        refine hK.out _ _ ?_
        clear hK K
        refine norm_ (a' := ?_) ?_ ?_
        rotate_left
        · show Act.put _ (some 45) _ = _
          simp only [Act.put, List.setIfInBounds_toArray, List.set_cons_zero, List.set_cons_succ, i64_w, i32_w]
          rfl
        refine pure_ (i := 8) (N := some 46) (v := ?_) (a' := ?_) #[true, true, true, true, true, true, true, true, true, false] rfl rfl (by kernel_rfl) (fun _ _ _ h => h) (Or.inl ⟨by rfl, ?_⟩) ?_ ?_
        rotate_left
        · intro w'
          go_simp
          with_reducible rfl
        rotate_left
        · simp only [Act.put, List.setIfInBounds_toArray, List.set_cons_zero, List.set_cons_succ, i64_w, i32_w]
          rfl
        refine pure_ (i := 9) (N := some 8) (v := ?_) (a' := ?_) #[true, true, true, true, true, true, true, true, true, true] rfl rfl (by kernel_rfl) (fun _ _ _ h => h) (Or.inl ⟨by rfl, ?_⟩) ?_ ?_
        rotate_left
        · intro w'
          go_simp
          with_reducible rfl
        rotate_left
        · simp only [Act.put, List.setIfInBounds_toArray, List.set_cons_zero, List.set_cons_succ, i64_w, i32_w]
          rfl
        refine done_ (by kernel_rfl) ?_
        go_wp2_with fail
        go_roundg (360 - (n + m))
        case measure => have := HPOS.out; omega
        case rel => exact ⟨n + m, by omega, by have := HN.out; omega, Nat.le_refl _, by first | rfl | go_num, ⟨setRow_heap _ _ _ _ _ _ HGD.out⟩, ⟨rp_below_setRow HBD.out (Nat.le_refl _) _⟩⟩
      · have d1 : decide ((n : Int) < 360) = false := decide_eq_false (by omega)
        obtain rfl : n = 360 := by omega
        go_wp2_with fail
        go_ret
        refine ⟨_, rfl, Kd.R_of_own (enc := Value.int .i64) (h1 := fun _ => rfl) ⟨?_, .inr ⟨w.heap.size, 360, (rpRow v 360).toArray, ?_, Nat.le_refl _, HG.out, ?_, by decide, ?_, ?_⟩⟩ (fun _ _ => trivial), HB.out⟩
        · unfold encs
          rw [List.length_map, Nat.mul_one]
        · rw [List.length_replicate]
          rfl
        · rw [List.length_replicate]
          exact Nat.le_refl _
        · rw [List.size_toArray, rp_size v 360 (Nat.le_refl _)]
        · rw [List.length_replicate]
          show (rpRow v 360).take (360 * 1) = _
          rw [List.take_of_length_le (by rw [rp_size v 360 (Nat.le_refl _)]; omega)]
          unfold rpRow encs
          rw [List.map_replicate]
          exact List.append_nil _
  · rw [if_neg hh] at h
    cases h

end Go.Proofs.Ytgepcafeldhncaa.PFnExactWedgeImages
