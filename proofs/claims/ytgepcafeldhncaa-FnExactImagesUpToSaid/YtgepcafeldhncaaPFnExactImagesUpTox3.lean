-- Written by xprint.py, a program of this session, for this seat; Lean checks it.
import Derived.Test.YtgepcafeldhncaaPFnExactImagesUpTox0
import Derived.Test.YtgepcafeldhncaaPFnExactImagesUpTox2
namespace Go.Proofs.Ytgepcafeldhncaa.PFnExactImagesUpTo
open Go.RowKit Go.Proofs.YtgepcafeldhncaaW.PrintWords Go.Proofs.YtgepcafeldhncaaW.PrintLast Go.Proofs.YtgepcafeldhncaaW.PrintMore
attribute [local go_sem] max2_int min2_int max_two min_two max_three min_three max_four min_four   -- for this text's walks alone
set_option linter.unusedVariables false
set_option linter.unusedSimpArgs false

/-! ### impl_imageAfter: function 46 -/
def impl_imageAfter.l0 : Nat → Int → Int → ByteArray → Int → Int → Option (Int)
  | 0, _, _, _, _, _ => none
  | k + 1, x0, x1, x2, x9, x10 => if x10 < x9 then (if 0 ≤ x10 then (if x10 < (x2.size : Int) then (if (bt x2 x10) = 114 then (impl_imageAfter.l0 k x0 (wrap64 ((wrap64 (-x1)) + (wrap64 (2 * x0)))) x2 x9 (wrap64 (x10 + 1))) else (impl_imageAfter.l0 k x0 (wrap64 (-x1)) x2 x9 (wrap64 (x10 + 1)))) else (none)) else (none)) else (some x1)
def impl_imageAfter.f (k : Nat) (a0 : Int) (a1 : Int) (a2 : ByteArray) : Option (Int) := impl_imageAfter.l0 k a0 a1 a2 (a2.size : Int) 0
theorem impl_imageAfter.mono_l : ∀ k, (∀ y0 y1 y2 y3 y4, LeO (impl_imageAfter.l0 k y0 y1 y2 y3 y4) (impl_imageAfter.l0 (k + 1) y0 y1 y2 y3 y4))
  | 0 => fun _ _ _ _ _ r h => by simp [impl_imageAfter.l0] at h
  | k + 1 => by
    have ih0 := impl_imageAfter.mono_l k
    · intro y0 y1 y2 y3 y4
      unfold impl_imageAfter.l0
      repeat' first
      | (with_reducible exact ih0 _ _ _ _ _)
      | (with_reducible exact LeO.refl _)
      | (with_reducible exact LeO.none _)
      | (with_reducible refine LeO.ite ?_ ?_)
      | (with_reducible refine LeO.bind ?_ (fun _ => ?_))
      | exact ih0 _ _ _ _ _
      | exact LeO.none _
      | refine LeO.ite ?_ ?_
      | refine LeO.bind ?_ (fun _ => ?_)
theorem impl_imageAfter.mono : ∀ a0 a1 a2 k, LeO (impl_imageAfter.f k a0 a1 a2) (impl_imageAfter.f (k + 1) a0 a1 a2) := by
  intro a0 a1 a2 k
  have ih0 := impl_imageAfter.mono_l k
  unfold impl_imageAfter.f
  repeat' first
      | (with_reducible exact ih0 _ _ _ _ _)
      | (with_reducible exact LeO.refl _)
      | (with_reducible exact LeO.none _)
      | (with_reducible refine LeO.ite ?_ ?_)
      | (with_reducible refine LeO.bind ?_ (fun _ => ?_))
      | exact ih0 _ _ _ _ _
      | exact LeO.none _
      | refine LeO.ite ?_ ?_
      | refine LeO.bind ?_ (fun _ => ?_)
set_option maxHeartbeats 8000000 in
set_option maxRecDepth 100000 in
theorem impl_imageAfter.calls (k : Nat) (a0 : Int) (a1 : Int) (a2 : ByteArray) (r : Int) (w : World) (h : impl_imageAfter.f k a0 a1 a2 = some r) :
    Calls Try.prog 46 #[.int .i64 a0, .int .i64 a1, .string a2] w fun e w' => e = .returned (.int .i64 r) ∧ Drawn0 w w' := by
  have H : (impl_imageAfter.l0 k a0 a1 a2 (a2.size : Int) 0) = some r := h
  clear h
  have H' := Aside0.mk H
  clear H
  go_enter Try.func46, Try.ntmps46
  go_wp2
  go_loopg [1, 10] k (fun kq v1 v10 w' => ∃ (x1_1 : Int) (x10_1 : Int), v1 = .int .i64 x1_1 ∧ v10 = .int .i64 x10_1 ∧ Aside0 (impl_imageAfter.l0 kq a0 x1_1 a2 (a2.size : Int) x10_1 = some r) ∧ Aside0 (kq ≤ k) ∧ Drawn0 w w')
  case atStart => exact ⟨(a1), (0), (by first | rfl | (simp; done) | (simp [*]; done)), (by first | rfl | (simp; done) | (simp [*]; done)), H', ⟨Nat.le_refl _⟩, by repeat (first | exact Drawn0.refl _ | apply Drawn0.step)⟩
  case round =>
    clear H'
    try clear p2
    obtain ⟨x1_1, x10_1, rfl, rfl, HA, HK1, ⟨m1, rfl⟩⟩ := hrel
    cases gk with
    | zero => exact absurd HA.out (by simp [impl_imageAfter.l0])
    | succ k1 =>
      have H := HA.out
      clear HA
      simp only [impl_imageAfter.l0] at H
      by_cases c4 : x10_1 < (a2.size : Int)
      · rw [if_pos c4] at H
        have c4b0 : decide (x10_1 < (a2.size : Int)) = true := decide_eq_true c4
        clear c4
        by_cases c5 : 0 ≤ x10_1
        · rw [if_pos c5] at H
          have c5b0 : decide (0 ≤ x10_1) = true := decide_eq_true c5
          clear c5
          by_cases c6 : x10_1 < (a2.size : Int)
          · rw [if_pos c6] at H
            have c6b0 : decide (x10_1 < (a2.size : Int)) = true := decide_eq_true c6
            clear c6
            by_cases c8 : (bt a2 x10_1) = 114
            · rw [if_pos c8] at H
              have c8b0 : ((bt a2 x10_1) == 114) = true := beq_iff_eq.mpr c8
              have c8b1 : ((bt a2 x10_1) != 114) = false := bne_eq_false_iff_eq.mpr c8
              clear c8
              have H' := Aside0.mk H
              clear H
              have p7 : 0 ≤ (x10_1 : Int) := of_decide_eq_true (by first | (with_reducible assumption) | assumption)
              have q7 : x10_1 < (a2.size : Int) := of_decide_eq_true (by first | (with_reducible assumption) | assumption)
              have hx7 := bt_at a2 x10_1
              replace p7 := eq_true p7
              replace q7 := eq_true q7
              go_wp2
              go_roundg k1
              case measure => have := HK1.out; omega
              case rel => exact ⟨(wrap64 ((wrap64 (-x1_1)) + (wrap64 (2 * a0)))), (wrap64 (x10_1 + 1)), (by first | rfl | (simp; done) | (simp [*]; done)), (by first | rfl | (simp; done) | (simp [*]; done)), H', ⟨by have := HK1.out; omega⟩, by repeat (first | exact Drawn0.refl _ | apply Drawn0.step)⟩
            · rw [if_neg c8] at H
              have c8b0 : ((bt a2 x10_1) == 114) = false := beq_eq_false_iff_ne.mpr c8
              have c8b1 : ((bt a2 x10_1) != 114) = true := bne_iff_ne.mpr c8
              have H' := Aside0.mk H
              clear H
              have p7 : 0 ≤ (x10_1 : Int) := of_decide_eq_true (by first | (with_reducible assumption) | assumption)
              have q7 : x10_1 < (a2.size : Int) := of_decide_eq_true (by first | (with_reducible assumption) | assumption)
              have hx7 := bt_at a2 x10_1
              replace p7 := eq_true p7
              replace q7 := eq_true q7
              go_wp2
              go_roundg k1
              case measure => have := HK1.out; omega
              case rel => exact ⟨(wrap64 (-x1_1)), (wrap64 (x10_1 + 1)), (by first | rfl | (simp; done) | (simp [*]; done)), (by first | rfl | (simp; done) | (simp [*]; done)), H', ⟨by have := HK1.out; omega⟩, by repeat (first | exact Drawn0.refl _ | apply Drawn0.step)⟩
          · rw [if_neg c6] at H
            exact absurd H (by simp)
        · rw [if_neg c5] at H
          exact absurd H (by simp)
      · rw [if_neg c4] at H
        have c4b0 : decide (x10_1 < (a2.size : Int)) = false := decide_eq_false c4
        clear c4
        obtain rfl := Option.some.inj H
        go_wp2
        go_ret
        exact ⟨by first | rfl | (simp; done) | (simp [*]; done), by repeat (first | exact Drawn0.refl _ | apply Drawn0.step)⟩

/-! ### impl_increasing: function 55 -/
open Go.Lib Go.Sort in
/-- A row of numbers, one block of the call's own. -/
structure IcRow (W : World) (g cap : Nat) (xs : List Int) : Prop where
  ex : ∃ cur, W.heap[g]? = some (.cells cur 3 (0, 0)) ∧ cur.size = cap ∧ xs.length ≤ cap ∧ cap ≤ maxLen ∧ cur.toList.take xs.length = xs.map (Value.int .i64)
theorem IcRow.cell {W : World} {g cap : Nat} {xs : List Int} (h : IcRow W g cap xs) (j : Nat) (hj : j < xs.length) : W.cell? ⟨g, j, none⟩ = some (.int .i64 (xs[j]!)) ∧ W.frozen? ⟨g, j, none⟩ = false := by
  obtain ⟨cur, h1, h2, h3, h4, h5⟩ := h.ex
  have e : cur[j]? = some (.int .i64 (xs[j]!)) := by
    have a : (cur.toList.take xs.length)[j]? = (xs.map (Value.int .i64))[j]? := by rw [h5]
    rw [List.getElem?_take, if_pos hj, List.getElem?_map, List.getElem?_eq_getElem hj] at a
    rw [← Array.getElem?_toList, a, getElem!_pos xs j hj]
    rfl
  constructor
  · simp [World.cell?, h1, e]
  · simp [World.frozen?, h1]
theorem IcRow.holds {W : World} {g cap : Nat} {xs : List Int} (h : IcRow W g cap xs) : Go.Sort.Holds (Value.int .i64) W g 0 xs.toArray := by
  intro j hj
  have hj' : j < xs.length := by simpa using hj
  have := h.cell j hj'
  rw [Nat.zero_add]
  have e : xs.toArray[j]! = xs[j]! := by simp
  rw [e]
  exact this
theorem ic_blk {W : World} {g cap : Nat} {xs : List Int} (h : IcRow W g cap xs) : g < W.heap.size := by
  obtain ⟨cur, h1, _⟩ := h.ex
  rcases Nat.lt_or_ge g W.heap.size with c | c
  · exact c
  · rw [Array.getElem?_eq_none c] at h1; cases h1
/-- The row written anew, as long as before. -/
theorem IcRow.put {W : World} {g cap : Nat} {xs ys : List Int} (h : IcRow W g cap xs) (q : Nat) (hl : ys.length ≤ cap) : IcRow (Go.Sort.putRow (Value.int .i64) (Go.Sort.ahead W q) g 0 ys.toArray) g cap ys := by
  obtain ⟨cur, h1, h2, h3, h4, h5⟩ := h.ex
  refine ⟨Go.Sort.putCells (Value.int .i64) 0 ys.toArray cur, ?_, ?_, hl, h4, ?_⟩
  · unfold Go.Sort.putRow Go.Sort.mapBlock Go.Sort.ahead
    simp only [Array.getElem?_modify, if_true, h1, Option.map_some, Go.Sort.onCells]
  · simp [Go.Sort.putCells, h2]
  · apply List.ext_getElem?
    intro j
    rw [List.getElem?_take, List.getElem?_map]
    by_cases hj : j < ys.length
    · rw [if_pos hj, Array.getElem?_toList]
      simp only [Go.Sort.putCells, Array.getElem?_mapIdx]
      have hc : j < cur.size := by omega
      rw [Array.getElem?_eq_getElem hc, Option.map_some, if_pos ⟨Nat.zero_le _, by simpa using hj⟩, List.getElem?_eq_getElem hj]
      simp [hj]
    · rw [if_neg hj, List.getElem?_eq_none (by omega)]
      rfl
theorem IcRow.pre {W : World} {g cap : Nat} {xs ys : List Int} (h : IcRow W g cap (xs ++ ys)) : IcRow W g cap xs := by
  obtain ⟨cur, h1, h2, h3, h4, h5⟩ := h.ex
  rw [List.length_append] at h3 h5
  refine ⟨cur, h1, h2, by omega, h4, ?_⟩
  have : (cur.toList.take (xs.length + ys.length)).take xs.length = ((xs ++ ys).map (Value.int .i64)).take xs.length := by rw [h5]
  rw [List.take_take, Nat.min_eq_left (by omega), List.map_append, List.take_left' (by rw [List.length_map])] at this
  exact this
theorem IcRow.grow {W : World} {g cap : Nat} {xs : List Int} (h : IcRow W g cap xs) (os : Array Obj) : IcRow (Go.Sort.grow W os) g cap xs := by
  have hb := ic_blk h
  obtain ⟨cur, h1, h2⟩ := h.ex
  exact ⟨cur, by rw [Go.Sort.heap_grow_old W os hb]; exact h1, h2⟩
theorem ic_below_put {B : Nat} {w W : World} (hb : Below B w W) (q g : Nat) (hg : B ≤ g) (ys : Array Int) : Below B w (Go.Sort.putRow (Value.int .i64) (Go.Sort.ahead W q) g 0 ys) :=
  ⟨hb.os, hb.tape, hb.output, by
    refine Nat.le_trans hb.size ?_
    show W.heap.size ≤ (W.heap.modify g _).size
    rw [Array.size_modify]; exact Nat.le_refl _, fun k hk => by
    show (W.heap.modify g _)[k]? = _
    rw [Array.getElem?_modify, if_neg (by omega)]
    exact hb.block k hk⟩
theorem ic_below_grow {B : Nat} {w W : World} (hb : Below B w W) (hB : B ≤ W.heap.size) (os : Array Obj) : Below B w (Go.Sort.grow W os) :=
  ⟨hb.os, hb.tape, hb.output, by
    refine Nat.le_trans hb.size ?_
    show W.heap.size ≤ (W.heap ++ os).size
    rw [Array.size_append]; omega, fun k hk => (Go.Sort.heap_grow_old W os (by omega)).trans (hb.block k hk)⟩
theorem ic_put_old {W : World} (q g : Nat) (ys : Array Int) {k : Nat} (hk : k ≠ g) : (Go.Sort.putRow (Value.int .i64) (Go.Sort.ahead W q) g 0 ys).heap[k]? = W.heap[k]? := by
  show (W.heap.modify g _)[k]? = _
  rw [Array.getElem?_modify, if_neg (by omega)]
theorem IcRow.kd {W : World} {g cap : Nat} {xs : List Int} (h : IcRow W g cap xs) {base : Nat} (hb : base ≤ g) : Kd.R (Kd.int .i64) 3 W base (fun _ => True) (.slice (some ⟨g, 0, none⟩) xs.length cap) xs := by
  obtain ⟨cur, h1, h2, h3, h4, h5⟩ := h.ex
  refine Kd.R_of_own (enc := Value.int .i64) (h1 := fun _ => rfl) ⟨?_, .inr ⟨g, cap, cur, rfl, hb, h1, h3, h4, by omega, ?_⟩⟩ (fun _ _ => trivial)
  · unfold encs; rw [List.length_map, Nat.mul_one]
  · rw [Nat.mul_one]; exact h5
theorem IcRow.of_kd {W : World} {base : Nat} {ok : Nat → Prop} {v : Value} {xs : List Int} (h : Kd.R (Kd.int .i64) 3 W base ok v xs) (hne : xs ≠ []) : ∃ g cap, v = .slice (some ⟨g, 0, none⟩) xs.length cap ∧ base ≤ g ∧ IcRow W g cap xs := by
  have ho := Kd.own_of_R (enc := Value.int .i64) (h1 := fun _ => rfl) h
  obtain ⟨h1, h2⟩ := ho
  rcases h2 with ⟨_, h2⟩ | ⟨g, cap, cur, rfl, hb, hg, hn, hc, hs, ht⟩
  · exact absurd (List.eq_nil_of_length_eq_zero h2) hne
  · exact ⟨g, cap, rfl, hb, cur, hg, by omega, hn, hc, by rw [Nat.mul_one] at ht; exact ht⟩
theorem ic_compact_len (zs : List Int) : (Lib.compact zs).length ≤ zs.length := by
  unfold Lib.compact Lib.compactUpTo
  rw [List.length_map]
  exact Nat.le_trans (List.length_filter_le _ _) (by rw [List.length_range]; exact Nat.le_refl _)
/-- A row sorted, each number once. -/
def IcInc (ys : List Int) : List Int := Lib.compact (ys.mergeSort fun x y => decide (x ≤ y))
set_option maxHeartbeats 1000000 in
theorem ic_increasing (g cap : Nat) (ys : List Int) (W : World) (hlen : ys.length ≤ 1000000) (h : IcRow W g cap ys) :
    Calls Try.prog 55 #[.slice (some ⟨g, 0, none⟩) ys.length cap] W fun e w' => e = .returned (.slice (some ⟨g, 0, none⟩) (IcInc ys).length cap) ∧ IcRow w' g cap (IcInc ys) ∧ (∀ (B : Nat) (w0 : World), Below B w0 W → B ≤ g → Below B w0 w') ∧ Kept W w' (fun k => k = g) := by
  have hcap : ys.length ≤ cap := by obtain ⟨cur, _, _, h3, _⟩ := h.ex; exact h3
  have hmax : cap ≤ 9223372036854775807 := by obtain ⟨cur, _, _, _, h4, _⟩ := h.ex; exact h4
  have hsz : (ys.mergeSort fun x y => decide (x ≤ y)).length = ys.length := List.length_mergeSort _
  have hg := ic_blk h
  have hs := Try.slices_Sort_int g 0 cap ys W h.holds hg (by omega)
  obtain ⟨zs, hzs⟩ : ∃ zs, (ys.mergeSort fun x y => decide (x ≤ y)) = zs := ⟨_, rfl⟩
  have hE : IcInc ys = Lib.compact zs := by unfold IcInc; rw [hzs]
  rw [hzs] at hsz hs
  rw [hE]
  have HS := Aside0.mk hs
  have HW := Aside0.mk h
  have HL := Aside0.mk hsz
  have HCP := Aside0.mk hcap
  have HMX := Aside0.mk hmax
  have HG := Aside0.mk hg
  clear h hs hsz hcap hmax hg hlen hE hzs
  go_enter Try.func55, Try.ntmps55
  go_wp2_with fail
  refine HS.out.mono ?_
  rintro e w1 ⟨rfl, q, os, rfl⟩
  have hr := (HW.out.put (ys := zs) q (by have := HL.out; have := HCP.out; omega)).grow os
  have hb : ∀ (B : Nat) (w0 : World), Below B w0 W → B ≤ g → Below B w0 (Go.Sort.grow (Go.Sort.putRow (Value.int .i64) (Go.Sort.ahead W q) g 0 zs.toArray) os) := fun B w0 hB hBg => by
    have := ic_below_put hB q g hBg zs.toArray
    refine ic_below_grow this ?_ os
    have h1 := HG.out
    show B ≤ (W.heap.modify g _).size
    rw [Array.size_modify]; omega
  have hk : Kept W (Go.Sort.grow (Go.Sort.putRow (Value.int .i64) (Go.Sort.ahead W q) g 0 zs.toArray) os) (fun k => k = g) := by
    have hs1 : (Go.Sort.putRow (Value.int .i64) (Go.Sort.ahead W q) g 0 zs.toArray).heap.size = W.heap.size := by
      show (W.heap.modify g _).size = _
      rw [Array.size_modify]
    refine ⟨?_, fun k hk hne => ?_⟩
    · show W.heap.size ≤ ((Go.Sort.putRow (Value.int .i64) (Go.Sort.ahead W q) g 0 zs.toArray).heap ++ os).size
      rw [Array.size_append]; omega
    · rw [Go.Sort.heap_grow_old _ os (by omega)]
      exact ic_put_old q g _ hne
  have HKP := Aside0.mk hk
  have hcm := Try.slices_Compact_int g 0 cap zs _ hr.holds (by have := HL.out; have := HCP.out; have := HMX.out; omega) (by have := HL.out; have := HCP.out; omega)
  rw [HL.out] at hcm
  have HCM := Aside0.mk hcm
  have HR := Aside0.mk hr
  have HBB := Aside0.mk hb
  clear hcm hr hb hk
  generalize Go.Sort.grow (Go.Sort.putRow (Value.int .i64) (Go.Sort.ahead W q) g 0 zs.toArray) os = w2 at HCM HR HBB HKP ⊢
  go_wp2_with fail
  refine HCM.out.mono ?_
  rintro e w3 ⟨rfl, q2, rfl⟩
  go_wp2_with fail
  go_ret
  have hc := ic_compact_len zs
  have hp := HR.out.put (ys := Lib.compact zs ++ List.replicate (ys.length - (Lib.compact zs).length) 0) q2 (by rw [List.length_append, List.length_replicate]; have := HL.out; have := HCP.out; omega)
  refine ⟨rfl, hp.pre, fun B w0 hB hBg => ic_below_put (HBB.out B w0 hB hBg) q2 g hBg _, HKP.out.then_ (S2 := fun k => k = g) ⟨?_, fun k hk hne => ic_put_old q2 g _ hne⟩ (fun k hk => .inl hk)⟩
  show w2.heap.size ≤ (w2.heap.modify g _).size
  rw [Array.size_modify]
  exact Nat.le_refl _
def impl_increasing.f (l0 : List Int) : Option (List Int) := if l0.length ≤ 1000000 then some (IcInc l0) else none
set_option maxHeartbeats 1000000 in
theorem ic_none (w : World) : Calls Try.prog 55 #[.slice none 0 0] w fun e w' => e = .returned (.slice none 0 0) ∧ w' = w := by
  go_enter Try.func55, Try.ntmps55
  go_wp2_with fail
  refine (Try.slices_Sort_int_none none 0 w).mono ?_
  rintro e w' ⟨rfl, rfl⟩
  go_wp2_with fail
  refine (Try.slices_Compact_int_empty none 0 w').mono ?_
  rintro e w'' ⟨rfl, rfl⟩
  go_wp2_with fail
  go_ret
  exact ⟨rfl, rfl⟩
theorem impl_increasing.calls (P0_ : Nat → Prop) (u9000_ : Value) (l0 : List Int) (r : List Int) (w0 w : World) (hB : Below w0.heap.size w0 w) (ho0 : Kd.R (Kd.int .i64) 3 w w0.heap.size P0_ u9000_ l0) (h : impl_increasing.f l0 = some r) :
    Calls Try.prog 55 #[u9000_] w fun e w' => ∃ v0_ : Value, e = .returned (v0_) ∧ Kd.R (Kd.int .i64) 3 w' w0.heap.size (fun k_ => (P0_ k_ ∨ w.heap.size ≤ k_)) v0_ r ∧ Below w0.heap.size w0 w' ∧ Kept w w' (fun k_ => P0_ k_) := by
  unfold impl_increasing.f at h
  by_cases c : l0.length ≤ 1000000
  · rw [if_pos c] at h
    obtain rfl := Option.some.inj h
    have ho := Kd.own_of_R (enc := Value.int .i64) (h1 := fun _ => rfl) ho0
    obtain ⟨h1, h2⟩ := ho
    rcases h2 with ⟨rfl, h2⟩ | ⟨g, cap, cur, rfl, hb, hg, hn, hc, hs, ht⟩
    · obtain rfl := List.eq_nil_of_length_eq_zero h2
      refine (ic_none w).mono ?_
      rintro e w' ⟨rfl, rfl⟩
      have e : IcInc [] = [] := by unfold IcInc; rw [List.mergeSort_nil]; rfl
      exact ⟨_, rfl, by rw [e]; exact Kd.R_nil _ _ _ _ _, hB, Kept.refl _ _⟩
    · have hrow : IcRow w g cap l0 := ⟨cur, hg, by omega, hn, hc, by rw [Nat.mul_one] at ht; exact ht⟩
      have hP : P0_ g := ho0.1 g rfl
      refine (ic_increasing g cap l0 w c hrow).mono ?_
      rintro e w' ⟨rfl, hr, hbw, hkp⟩
      refine ⟨_, rfl, ?_, hbw _ _ hB hb, hkp.mono (fun k hk => hk ▸ hP)⟩
      obtain ⟨cur2, k1, k2, k3, k4, k5⟩ := hr.ex
      refine Kd.R_of_own (enc := Value.int .i64) (h1 := fun _ => rfl) ⟨?_, .inr ⟨g, cap, cur2, rfl, hb, k1, k3, k4, by omega, ?_⟩⟩ (fun k hk => ?_)
      · unfold encs; rw [List.length_map, Nat.mul_one]
      · rw [Nat.mul_one]; exact k5
      · have : g = k := by simpa [Value.ownBlock] using hk
        exact .inl (this ▸ hP)
  · rw [if_neg c] at h
    cases h

/-! ### impl_ImagesUpTo: function 32 -/
mutual
def impl_ImagesUpTo.j0 : Nat → Int → Int → Int → Bool → Option (List Int × Bool)
  | 0, _, _, _, _ => none
  | k + 1, x0, x1, x2, x20 => if x20 = true then (some (([] : List Int), false)) else (impl_ImagesUpTo.l0 k x0 x1 x2 (([] : List Int)) 1)
def impl_ImagesUpTo.l0 : Nat → Int → Int → Int → List Int → Int → Option (List Int × Bool)
  | 0, _, _, _, _, _ => none
  | k + 1, x0, x1, x2, x8, x9 => if x9 ≤ x2 then ((impl_wordsOf.f x9).bind fun t162 => (impl_ImagesUpTo.l1 k x0 x1 x2 x8 x9 t162 (t162.length : Int) 0)) else ((impl_increasing.f x8).bind fun t159 => (some (t159, true)))
def impl_ImagesUpTo.l1 : Nat → Int → Int → Int → List Int → Int → List ByteArray → Int → Int → Option (List Int × Bool)
  | 0, _, _, _, _, _, _, _, _ => none
  | k + 1, x0, x1, x2, x8, x9, x28, x29, x30 => if x30 < x29 then (if 0 ≤ x30 then (if x30 < (x28.length : Int) then ((impl_imageAfter.f k x0 x1 (rdOf ByteArray.empty x28 x30)).bind fun t166 => (if x8.length < 17592186044416 then (impl_ImagesUpTo.l1 k x0 x1 x2 (x8 ++ [t166]) x9 x28 x29 (wrap64 (x30 + 1))) else (none))) else (none)) else (none)) else (impl_ImagesUpTo.l0 k x0 x1 x2 x8 (wrap64 (x9 + 1)))
end
def impl_ImagesUpTo.f (k : Nat) (a0 : Int) (a1 : Int) (a2 : Int) : Option (List Int × Bool) := (impl_isCorridor.f a0 a1).bind fun t154 => (if t154 = true then ((impl_within.f a2 0 40).bind fun t155 => (impl_ImagesUpTo.j0 k a0 a1 a2 (!t155))) else (impl_ImagesUpTo.j0 k a0 a1 a2 true))
theorem impl_ImagesUpTo.mono_l : ∀ k, (∀ y0 y1 y2 y3, LeO (impl_ImagesUpTo.j0 k y0 y1 y2 y3) (impl_ImagesUpTo.j0 (k + 1) y0 y1 y2 y3)) ∧ (∀ y0 y1 y2 y3 y4, LeO (impl_ImagesUpTo.l0 k y0 y1 y2 y3 y4) (impl_ImagesUpTo.l0 (k + 1) y0 y1 y2 y3 y4)) ∧ (∀ y0 y1 y2 y3 y4 y5 y6 y7, LeO (impl_ImagesUpTo.l1 k y0 y1 y2 y3 y4 y5 y6 y7) (impl_ImagesUpTo.l1 (k + 1) y0 y1 y2 y3 y4 y5 y6 y7))
  | 0 => ⟨fun _ _ _ _ r h => by simp [impl_ImagesUpTo.j0] at h, fun _ _ _ _ _ r h => by simp [impl_ImagesUpTo.l0] at h, fun _ _ _ _ _ _ _ _ r h => by simp [impl_ImagesUpTo.l1] at h⟩
  | k + 1 => by
    obtain ⟨ih0, ih1, ih2⟩ := impl_ImagesUpTo.mono_l k
    refine ⟨?_, ?_, ?_⟩
    · intro y0 y1 y2 y3
      unfold impl_ImagesUpTo.j0
      repeat' first
      | (with_reducible exact ih0 _ _ _ _)
      | (with_reducible exact ih1 _ _ _ _ _)
      | (with_reducible exact ih2 _ _ _ _ _ _ _ _)
      | (with_reducible exact impl_imageAfter.mono _ _ _ _)
      | (with_reducible exact LeO.refl _)
      | (with_reducible exact LeO.none _)
      | (with_reducible refine LeO.ite ?_ ?_)
      | (with_reducible refine LeO.bind ?_ (fun _ => ?_))
      | exact ih0 _ _ _ _
      | exact ih1 _ _ _ _ _
      | exact ih2 _ _ _ _ _ _ _ _
      | exact impl_imageAfter.mono _ _ _ _
      | exact LeO.none _
      | refine LeO.ite ?_ ?_
      | refine LeO.bind ?_ (fun _ => ?_)
    · intro y0 y1 y2 y3 y4
      unfold impl_ImagesUpTo.l0
      repeat' first
      | (with_reducible exact ih0 _ _ _ _)
      | (with_reducible exact ih1 _ _ _ _ _)
      | (with_reducible exact ih2 _ _ _ _ _ _ _ _)
      | (with_reducible exact impl_imageAfter.mono _ _ _ _)
      | (with_reducible exact LeO.refl _)
      | (with_reducible exact LeO.none _)
      | (with_reducible refine LeO.ite ?_ ?_)
      | (with_reducible refine LeO.bind ?_ (fun _ => ?_))
      | exact ih0 _ _ _ _
      | exact ih1 _ _ _ _ _
      | exact ih2 _ _ _ _ _ _ _ _
      | exact impl_imageAfter.mono _ _ _ _
      | exact LeO.none _
      | refine LeO.ite ?_ ?_
      | refine LeO.bind ?_ (fun _ => ?_)
    · intro y0 y1 y2 y3 y4 y5 y6 y7
      unfold impl_ImagesUpTo.l1
      repeat' first
      | (with_reducible exact ih0 _ _ _ _)
      | (with_reducible exact ih1 _ _ _ _ _)
      | (with_reducible exact ih2 _ _ _ _ _ _ _ _)
      | (with_reducible exact impl_imageAfter.mono _ _ _ _)
      | (with_reducible exact LeO.refl _)
      | (with_reducible exact LeO.none _)
      | (with_reducible refine LeO.ite ?_ ?_)
      | (with_reducible refine LeO.bind ?_ (fun _ => ?_))
      | exact ih0 _ _ _ _
      | exact ih1 _ _ _ _ _
      | exact ih2 _ _ _ _ _ _ _ _
      | exact impl_imageAfter.mono _ _ _ _
      | exact LeO.none _
      | refine LeO.ite ?_ ?_
      | refine LeO.bind ?_ (fun _ => ?_)
theorem impl_ImagesUpTo.mono : ∀ a0 a1 a2 k, LeO (impl_ImagesUpTo.f k a0 a1 a2) (impl_ImagesUpTo.f (k + 1) a0 a1 a2) := by
  intro a0 a1 a2 k
  obtain ⟨ih0, ih1, ih2⟩ := impl_ImagesUpTo.mono_l k
  unfold impl_ImagesUpTo.f
  repeat' first
      | (with_reducible exact ih0 _ _ _ _)
      | (with_reducible exact ih1 _ _ _ _ _)
      | (with_reducible exact ih2 _ _ _ _ _ _ _ _)
      | (with_reducible exact impl_imageAfter.mono _ _ _ _)
      | (with_reducible exact LeO.refl _)
      | (with_reducible exact LeO.none _)
      | (with_reducible refine LeO.ite ?_ ?_)
      | (with_reducible refine LeO.bind ?_ (fun _ => ?_))
      | exact ih0 _ _ _ _
      | exact ih1 _ _ _ _ _
      | exact ih2 _ _ _ _ _ _ _ _
      | exact impl_imageAfter.mono _ _ _ _
      | exact LeO.none _
      | refine LeO.ite ?_ ?_
      | refine LeO.bind ?_ (fun _ => ?_)
set_option maxHeartbeats 8000000 in
set_option maxRecDepth 100000 in
theorem impl_ImagesUpTo.calls (k : Nat) (a0 : Int) (a1 : Int) (a2 : Int) (r1 : List Int) (r2 : Bool) (w : World) (h : impl_ImagesUpTo.f k a0 a1 a2 = some (r1, r2)) :
    Calls Try.prog 32 #[.int .i64 a0, .int .i64 a1, .int .i64 a2] w fun e w' => ∃ v0_ : Value, e = .returned (.tuple #[v0_, .bool r2]) ∧ Kd.R (Kd.int .i64) 3 w' w.heap.size (fun _ => True) v0_ r1 ∧ Below w.heap.size w w' := by
  have HB := Aside0.mk (Below.refl w.heap.size w)
  have H : ((impl_isCorridor.f a0 a1).bind fun t154 => (if t154 = true then ((impl_within.f a2 0 40).bind fun t155 => (impl_ImagesUpTo.j0 k a0 a1 a2 (!t155))) else (impl_ImagesUpTo.j0 k a0 a1 a2 true))) = some (r1, r2) := h
  clear h
  have HC4 := Aside0.mk H
  clear H
  go_enter Try.func32, Try.ntmps32
  go_upto_region 1 with (fail)
  go_cut [20] (fun v20 wc => ∃ (kq : Nat) (x20_3 : Bool), v20 = .bool x20_3 ∧ Aside0 (impl_ImagesUpTo.j0 kq a0 a1 a2 x20_3 = some (r1, r2)) ∧ Aside0 (kq ≤ k) ∧ Aside0 (Below w.heap.size w wc))
  case first =>
    have H := HC4.out
    clear HC4
    replace H := Option.bind_eq_some_iff.mp H
    obtain ⟨t154, A50, H⟩ := H
    replace H : (if t154 = true then ((impl_within.f a2 0 40).bind fun t155 => (impl_ImagesUpTo.j0 k a0 a1 a2 (!t155))) else (impl_ImagesUpTo.j0 k a0 a1 a2 true)) = some (r1, r2) := H
    have A5 := Aside0.mk A50
    clear A50
    by_cases c6 : t154 = true
    · subst c6
      have H1 : ((impl_within.f a2 0 40).bind fun t155 => (impl_ImagesUpTo.j0 k a0 a1 a2 (!t155))) = some (r1, r2) := by rw [if_pos rfl] at H; exact H
      clear H
      have H := H1
      clear H1
      replace H := Option.bind_eq_some_iff.mp H
      obtain ⟨t155, A70, H⟩ := H
      replace H : (impl_ImagesUpTo.j0 k a0 a1 a2 (!t155)) = some (r1, r2) := H
      have A7 := Aside0.mk A70
      clear A70
      have H' := Aside0.mk H
      clear H
      go_wp2_with (first | ((with_reducible refine gate_callee (f := 44) rfl ?_); refine goesL_ (some 14) rfl rfl Try.func44 (by kernel_rfl) rfl #[.int .i64 a0, .int .i64 a1] rfl (by (try simp only [List.map_toArray, List.map_cons, List.map_nil]); first | done | rfl | (simp only [List.length_drop, List.length_take]; rfl)) ?_; (with_reducible refine (impl_isCorridor.calls a0 a1 true _ A5.out).mono ?_); rintro e w' ⟨rfl, ⟨nd, rfl⟩⟩; refine ⟨_, rfl, ?_⟩) | (go_at_call 35; (with_reducible refine (impl_within.calls a2 0 40 t155 _ A7.out).mono ?_); rintro e w' ⟨rfl, ⟨nd, rfl⟩⟩))
      go_meet
      case rel => exact ⟨_, (!t155), (by first | rfl | (simp; done) | (simp [*]; done)), H', ⟨by first | omega | exact Nat.le_refl _⟩, ⟨by repeat (first | (with_reducible first | exact HB.out | apply below_alloc | apply pw_below_drewN | apply below_drew1) | exact HB.out)⟩⟩
    · replace c6 := Bool.eq_false_iff.mpr c6
      subst c6
      have H1 : (impl_ImagesUpTo.j0 k a0 a1 a2 true) = some (r1, r2) := by rw [if_neg (show ¬ (false = true) by decide)] at H; exact H
      clear H
      have H := H1
      clear H1
      have H' := Aside0.mk H
      clear H
      go_wp2_with (first | ((with_reducible refine gate_callee (f := 44) rfl ?_); refine goesL_ (some 14) rfl rfl Try.func44 (by kernel_rfl) rfl #[.int .i64 a0, .int .i64 a1] rfl (by (try simp only [List.map_toArray, List.map_cons, List.map_nil]); first | done | rfl | (simp only [List.length_drop, List.length_take]; rfl)) ?_; (with_reducible refine (impl_isCorridor.calls a0 a1 false _ A5.out).mono ?_); rintro e w' ⟨rfl, ⟨nd, rfl⟩⟩; refine ⟨_, rfl, ?_⟩))
      go_meet
      case rel => exact ⟨_, (true), (by first | rfl | (simp; done) | (simp [*]; done)), H', ⟨by first | omega | exact Nat.le_refl _⟩, ⟨by repeat (first | (with_reducible first | exact HB.out | apply below_alloc | apply pw_below_drewN | apply below_drew1) | exact HB.out)⟩⟩
  case rest =>
    clear HC4
    try clear p2
    try clear c3
    try clear c4
    try clear c6
    obtain ⟨kq, x20_3, rfl, HA, HJ3, HB⟩ := hcut
    cases kq with
    | zero => exact absurd HA.out (by simp [impl_ImagesUpTo.j0])
    | succ kj3 =>
      have H := HA.out
      clear HA
      simp only [impl_ImagesUpTo.j0] at H
      by_cases c8 : x20_3 = true
      · subst c8
        have H1 : (some (([] : List Int), false)) = some (r1, r2) := by rw [if_pos rfl] at H; exact H
        clear H
        have H := H1
        clear H1
        simp only [Option.some.injEq, Prod.mk.injEq] at H
        obtain ⟨rfl, rfl⟩ := H
        go_wp2
        go_ret2
        exact ⟨_, by first | rfl | (simp [errW_none, errW_some] <;> rfl) | (simp [*, errW_none, errW_some] <;> rfl), by first | exact Kd.R_nil _ _ _ _ _ | exact Kd.N_nil _ _ _ _ _ | exact Kd.V_nil _ _ _ _ _ | exact Kd.Q_nil _ _ _ _ _ | exact Kd.S_nil _ _ _ _ _, by repeat (first | (with_reducible first | exact HB.out | apply below_alloc | apply pw_below_drewN | apply below_drew1) | exact HB.out)⟩
      · replace c8 := Bool.eq_false_iff.mpr c8
        subst c8
        have H1 : (impl_ImagesUpTo.l0 kj3 a0 a1 a2 (([] : List Int)) 1) = some (r1, r2) := by rw [if_neg (show ¬ (false = true) by decide)] at H; exact H
        clear H
        have H := H1
        clear H1
        obtain ⟨y156, hy156⟩ : ∃ y_ : List Int, y_ = (([] : List Int)) := ⟨_, rfl⟩
        replace H : (impl_ImagesUpTo.l0 kj3 a0 a1 a2 y156 1) = some (r1, r2) := by first | (rw [hy156]; with_reducible exact H) | (have H2_ := (Option.bind_some _ _).symm.trans H; rw [hy156]; with_reducible exact H2_) | (have H2_ := (Option.bind_some _ _).symm.trans H; with_reducible exact H2_) | with_reducible exact H | (rw [hy156]; exact H) | exact H
        have Ny156 := Aside0.mk hy156
        clear hy156
        have H' := Aside0.mk H
        clear H
        go_wp2_with (first | ((with_reducible refine gate_dst (N := 21) rfl ?_); refine Kd.R_lit (Kd.int .i64) _ 3 ?hg (N := 21) ?hd (xs := ([] : List Int)) (inner := []) (ok := fun _ => True) (okp := fun _ => True) ?hr ?hp (fun _ hk => hk) trivial (Below.refl _ _) (Nat.le_refl _) (by simp) ?_; (case hd => rfl); (case hg => rfl); (case hr => first | (go_simp; done) | (go_simp; rfl)); (case hp => exact (Reps.none _ _)); intro v157 w9 ho10 hb hg_ hnew_; clear hg_ hnew_; (first | rw [← Ny156.out] at ho10 | (simp only [Int.reduceToNat] at ho10; rw [← Ny156.out] at ho10)); have n0_ := Aside0.mk (Kd.R_lower ho10 (below_size (by repeat (first | (with_reducible first | exact HB.out | apply below_alloc | apply pw_below_drewN | apply below_drew1) | exact HB.out)))); have n1_ := Aside0.mk (below_step (by repeat (first | (with_reducible first | exact HB.out | apply below_alloc | apply pw_below_drewN | apply below_drew1) | exact HB.out)) hb); clear HB; have HO158 := n0_; have HB := n1_; clear n0_ n1_; clear hb ho10))
        go_loopg [8, 9] kj3 (fun kq v8 v9 w' => ∃ (x8_2 : List Int) (x9_2 : Int), v9 = .int .i64 x9_2 ∧ Aside0 (impl_ImagesUpTo.l0 kq a0 a1 a2 x8_2 x9_2 = some (r1, r2)) ∧ Aside0 (kq ≤ kj3) ∧ Aside0 (Kd.R (Kd.int .i64) 3 w' w.heap.size (fun _ => True) v8 x8_2) ∧ Aside0 (Below w.heap.size w w'))
        case atStart => exact ⟨(y156), (1), (by first | rfl | (simp; done) | (simp [*]; done)), H', ⟨Nat.le_refl _⟩, ⟨by (with_reducible repeat (first | apply Kd.R_alloc | apply Kd.R_drewN | apply Kd.R_drew)); exact HO158.out⟩, ⟨by repeat (first | (with_reducible first | exact HB.out | apply below_alloc | apply pw_below_drewN | apply below_drew1) | exact HB.out)⟩⟩
        case round =>
          clear H'
          try clear p2
          try clear c3
          try clear c4
          try clear c6
          try clear c8
          try clear p2
          obtain ⟨x8_2, x9_2, rfl, HA, HK2, HO_8, HB⟩ := hrel
          cases gk with
          | zero => exact absurd HA.out (by simp [impl_ImagesUpTo.l0])
          | succ k2 =>
            have H := HA.out
            clear HA
            simp only [impl_ImagesUpTo.l0] at H
            by_cases c11 : x9_2 ≤ a2
            · rw [if_pos c11] at H
              have c11b0 : decide (x9_2 ≤ a2) = true := decide_eq_true c11
              clear c11
              replace H := Option.bind_eq_some_iff.mp H
              obtain ⟨t162, A120, H⟩ := H
              replace H : (impl_ImagesUpTo.l1 k2 a0 a1 a2 x8_2 x9_2 t162 (t162.length : Int) 0) = some (r1, r2) := H
              have A12 := Aside0.mk A120
              clear A120
              have H' := Aside0.mk H
              clear H
              go_wp2_with (first | ((with_reducible refine gate_callee (f := 45) rfl ?_); refine goesL_ (some 28) rfl rfl Try.func45 (by kernel_rfl) rfl #[.int .i64 x9_2] rfl (by (try simp only [List.map_toArray, List.map_cons, List.map_nil]); first | done | rfl | (simp only [List.length_drop, List.length_take]; rfl)) ?_; (with_reducible refine (impl_wordsOf.calls x9_2 t162 _ A12.out).mono ?_); rintro e w13 ⟨v163, rfl, ho0, hb⟩; refine ⟨_, rfl, ?_⟩; have n0_ := Aside0.mk (Kd.R_below (by (with_reducible repeat (first | apply Kd.R_alloc | apply Kd.R_drewN | apply Kd.R_drew)); exact HO_8.out) hb); have n1_ := Aside0.mk (Kd.R_lower ho0 (below_size (by repeat (first | (with_reducible first | exact HB.out | apply below_alloc | apply pw_below_drewN | apply below_drew1) | exact HB.out)))); have n2_ := Aside0.mk (below_step (by repeat (first | (with_reducible first | exact HB.out | apply below_alloc | apply pw_below_drewN | apply below_drew1) | exact HB.out)) hb); clear HO_8; clear HB; have HO_8 := n0_; have HO164 := n1_; have HB := n2_; clear n0_ n1_ n2_; (try clear hb); (try clear hb2); (try clear hk); (try clear hi); (try clear ho0); obtain ⟨Ao14, co14, eo14⟩ := Kd.R_slice HO164.out; subst eo14))
              go_loopg [8, 30] k2 (fun kq v8 v30 w' => ∃ (x8_3 : List Int) (x30_3 : Int), v30 = .int .i64 x30_3 ∧ Aside0 (impl_ImagesUpTo.l1 kq a0 a1 a2 x8_3 x9_2 t162 (t162.length : Int) x30_3 = some (r1, r2)) ∧ Aside0 (kq ≤ k2) ∧ Aside0 (Kd.R (Kd.int .i64) 3 w' w.heap.size (fun _ => True) v8 x8_3) ∧ Aside0 (Kd.R Kd.string 9 w' w.heap.size (fun _ => True) (.slice Ao14 t162.length co14) t162) ∧ Aside0 (Below w.heap.size w w'))
              case atStart => exact ⟨(x8_2), (0), (by first | rfl | (simp; done) | (simp [*]; done)), H', ⟨Nat.le_refl _⟩, ⟨by (with_reducible repeat (first | apply Kd.R_alloc | apply Kd.R_drewN | apply Kd.R_drew)); exact HO_8.out⟩, ⟨by (with_reducible repeat (first | apply Kd.R_alloc | apply Kd.R_drewN | apply Kd.R_drew)); exact HO164.out⟩, ⟨by repeat (first | (with_reducible first | exact HB.out | apply below_alloc | apply pw_below_drewN | apply below_drew1) | exact HB.out)⟩⟩
              case round =>
                clear H'
                try clear c1
                try clear p2
                try clear c3
                try clear c4
                try clear c6
                try clear c8
                try clear c11
                try clear c11b0
                try clear p2
                obtain ⟨x8_3, x30_3, rfl, HA, HK3, HO_8, HO_28, HB⟩ := hrel
                cases gk with
                | zero => exact absurd HA.out (by simp [impl_ImagesUpTo.l1])
                | succ k3 =>
                  have H := HA.out
                  clear HA
                  simp only [impl_ImagesUpTo.l1] at H
                  by_cases c15 : x30_3 < (t162.length : Int)
                  · rw [if_pos c15] at H
                    have c15b0 : decide (x30_3 < (t162.length : Int)) = true := decide_eq_true c15
                    clear c15
                    by_cases c16 : 0 ≤ x30_3
                    · rw [if_pos c16] at H
                      have c16b0 : decide (0 ≤ x30_3) = true := decide_eq_true c16
                      clear c16
                      by_cases c17 : x30_3 < (t162.length : Int)
                      · rw [if_pos c17] at H
                        have c17b0 : decide (x30_3 < (t162.length : Int)) = true := decide_eq_true c17
                        clear c17
                        replace H := Option.bind_eq_some_iff.mp H
                        obtain ⟨t166, A180, H⟩ := H
                        replace H : (if x8_3.length < 17592186044416 then (impl_ImagesUpTo.l1 k3 a0 a1 a2 (x8_3 ++ [t166]) x9_2 t162 (t162.length : Int) (wrap64 (x30_3 + 1))) else (none)) = some (r1, r2) := H
                        have A18 := Aside0.mk A180
                        clear A180
                        by_cases c19 : x8_3.length < 17592186044416
                        · rw [if_pos c19] at H
                          have LMc19 := Aside0.mk c19
                          clear c19
                          obtain ⟨y167, hy167⟩ : ∃ y_ : List Int, y_ = (x8_3 ++ [t166]) := ⟨_, rfl⟩
                          replace H : (impl_ImagesUpTo.l1 k3 a0 a1 a2 y167 x9_2 t162 (t162.length : Int) (wrap64 (x30_3 + 1))) = some (r1, r2) := by first | (rw [hy167]; with_reducible exact H) | (have H2_ := (Option.bind_some _ _).symm.trans H; rw [hy167]; with_reducible exact H2_) | (have H2_ := (Option.bind_some _ _).symm.trans H; with_reducible exact H2_) | with_reducible exact H | (rw [hy167]; exact H) | exact H
                          have Ny167 := Aside0.mk hy167
                          clear hy167
                          have H' := Aside0.mk H
                          clear H
                          have p165 : 0 ≤ (x30_3 : Int) := of_decide_eq_true (by first | (with_reducible assumption) | assumption)
                          have q165 : x30_3 < (t162.length : Int) := of_decide_eq_true (by first | (with_reducible assumption) | assumption)
                          obtain ⟨ad165, e165, hx165_0⟩ := Kd.at_string (Kd.R_reads' HO_28.out).2.2 x30_3 p165 q165
                          cases e165
                          replace p165 := eq_true p165
                          replace q165 := eq_true q165
                          go_wp2_with (first | ((with_reducible refine gate_callee (f := 46) rfl ?_); refine goesL_ (some 38) rfl rfl Try.func46 (by kernel_rfl) rfl #[.int .i64 a0, .int .i64 a1, .string (rdOf ByteArray.empty t162 x30_3)] rfl (by (try simp only [List.map_toArray, List.map_cons, List.map_nil]); first | done | rfl | (simp only [List.length_drop, List.length_take]; rfl)) ?_; (with_reducible refine (impl_imageAfter.calls k3 a0 a1 (rdOf ByteArray.empty t162 x30_3) t166 _ A18.out).mono ?_); rintro e w' ⟨rfl, ⟨nd, rfl⟩⟩; refine ⟨_, rfl, ?_⟩) | ((with_reducible refine gate_builtin (b := .append) (xs := #[.tmp 34, .tmp 39]) rfl ?_); at_builtin; refine Kd.R_append (Kd.int .i64) (w0 := w) w.heap.size rfl (.tmp 34) (.tmp 39) 22 3 (.int .i64 0) 8 rfl Try.underlying22 info3 rfl (by decide) (by omega) u8 x8_3 t166 [.int .i64 t166] (fun _ => True) (fun _ => False) rfl rfl ?aP (fun _ hk => hk.elim) ?aF ?aO ?aB ?aS ?aL ?_; (case aP => exact rfl); (case aB => exact (by repeat (first | (with_reducible first | exact HB.out | apply below_alloc | apply pw_below_drewN | apply below_drew1) | exact HB.out))); (case aF => exact (fun _ _ => trivial)); (case aO => exact (by (with_reducible repeat (first | apply Kd.R_alloc | apply Kd.R_drewN | apply Kd.R_drew)); exact HO_8.out)); (case aS => exact (below_size (by repeat (first | (with_reducible first | exact HB.out | apply below_alloc | apply pw_below_drewN | apply below_drew1) | exact HB.out)))); (case aL => have := LMc19.out; omega); intro v168 w20 ho hb hg hat; rw [← Ny167.out] at ho; have n0_ := Aside0.mk (Kd.R_over' (by (with_reducible repeat (first | apply Kd.R_alloc | apply Kd.R_drewN | apply Kd.R_drew)); exact HO_28.out) (Kd.R_typed (by (with_reducible repeat (first | apply Kd.R_alloc | apply Kd.R_drewN | apply Kd.R_drew)); exact HO_8.out)) (by decide) hg); have n1_ := Aside0.mk (hb); have n2_ := Aside0.mk (ho); clear HO_28; clear HB; clear HO_8; have HO_28 := n0_; have HB := n1_; have HO169 := n2_; clear n0_ n1_ n2_; clear ho hb hg hat))
                          go_roundg k3
                          case measure => have := HJ3.out; have := HK2.out; have := HK3.out; omega
                          case rel => exact ⟨(y167), (wrap64 (x30_3 + 1)), (by first | rfl | (simp; done) | (simp [*]; done)), H', ⟨by have := HJ3.out; have := HK2.out; have := HK3.out; omega⟩, ⟨by (with_reducible repeat (first | apply Kd.R_alloc | apply Kd.R_drewN | apply Kd.R_drew)); exact HO169.out⟩, ⟨by (with_reducible repeat (first | apply Kd.R_alloc | apply Kd.R_drewN | apply Kd.R_drew)); exact HO_28.out⟩, ⟨by repeat (first | (with_reducible first | exact HB.out | apply below_alloc | apply pw_below_drewN | apply below_drew1) | exact HB.out)⟩⟩
                        · rw [if_neg c19] at H
                          exact absurd H (by simp)
                      · rw [if_neg c17] at H
                        exact absurd H (by simp)
                    · rw [if_neg c16] at H
                      exact absurd H (by simp)
                  · rw [if_neg c15] at H
                    have c15b0 : decide (x30_3 < (t162.length : Int)) = false := decide_eq_false c15
                    clear c15
                    have H' := Aside0.mk H
                    clear H
                    go_wp2
                    go_roundg k3
                    case measure => have := HJ3.out; have := HK2.out; have := HK3.out; omega
                    case rel => exact ⟨(x8_3), (wrap64 (x9_2 + 1)), (by first | rfl | (simp; done) | (simp [*]; done)), H', ⟨by have := HJ3.out; have := HK2.out; have := HK3.out; omega⟩, ⟨by (with_reducible repeat (first | apply Kd.R_alloc | apply Kd.R_drewN | apply Kd.R_drew)); exact HO_8.out⟩, ⟨by repeat (first | (with_reducible first | exact HB.out | apply below_alloc | apply pw_below_drewN | apply below_drew1) | exact HB.out)⟩⟩
            · rw [if_neg c11] at H
              have c11b0 : decide (x9_2 ≤ a2) = false := decide_eq_false c11
              clear c11
              replace H := Option.bind_eq_some_iff.mp H
              obtain ⟨t159, A210, H⟩ := H
              replace H : (some (t159, true)) = some (r1, r2) := H
              have A21 := Aside0.mk A210
              clear A210
              simp only [Option.some.injEq, Prod.mk.injEq] at H
              obtain ⟨rfl, rfl⟩ := H
              obtain ⟨Ao22, co22, eo22⟩ := Kd.R_slice HO_8.out
              subst eo22
              go_wp2_with (first | ((with_reducible refine gate_callee (f := 55) rfl ?_); refine goesL_ (some 43) rfl rfl Try.func55 (by kernel_rfl) rfl #[.slice Ao22 x8_2.length co22] rfl (by (try simp only [List.map_toArray, List.map_cons, List.map_nil]); first | done | rfl | (simp only [List.length_drop, List.length_take]; rfl)) ?_; (with_reducible refine (impl_increasing.calls (fun k_ => some k_ = (.slice Ao22 x8_2.length co22 : Value).ownBlock) (.slice Ao22 x8_2.length co22) x8_2 t159 w _ ?side1 ?side2 A21.out).mono ?_); (case side1 => repeat (first | (with_reducible first | exact HB.out | apply below_alloc | apply pw_below_drewN | apply below_drew1) | exact HB.out)); (case side2 => exact Kd.R_tight rfl HO_8.out); rintro e w23 ⟨v160, rfl, ho0, hb, hkp⟩; refine ⟨_, rfl, ?_⟩; have n0_ := Aside0.mk (Kd.R_mono (ok' := fun k_ => True) ho0 (fun k_ hk_ => trivial)); have n1_ := Aside0.mk (hb); clear HB; clear HO_8; have HO161 := n0_; have HB := n1_; clear n0_ n1_; (try clear hb); (try clear hkp); (try clear ho0)))
              go_ret2
              exact ⟨_, by first | rfl | (simp [errW_none, errW_some] <;> rfl) | (simp [*, errW_none, errW_some] <;> rfl), by (with_reducible repeat (first | apply Kd.R_alloc | apply Kd.R_drewN | apply Kd.R_drew)); exact HO161.out, by repeat (first | (with_reducible first | exact HB.out | apply below_alloc | apply pw_below_drewN | apply below_drew1) | exact HB.out)⟩

end Go.Proofs.Ytgepcafeldhncaa.PFnExactImagesUpTo
