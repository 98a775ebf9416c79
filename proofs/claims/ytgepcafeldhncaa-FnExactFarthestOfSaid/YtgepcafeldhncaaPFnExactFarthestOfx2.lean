-- Written by xprint.py, a program of this session, for this seat; Lean checks it.
import Derived.Test.YtgepcafeldhncaaPFnExactFarthestOfx0
import Derived.Test.YtgepcafeldhncaaPFnExactFarthestOfx1
namespace Go.Proofs.Ytgepcafeldhncaa.PFnExactFarthestOf
open Go.RowKit Go.Proofs.YtgepcafeldhncaaW.PrintWords Go.Proofs.YtgepcafeldhncaaW.PrintLast Go.Proofs.YtgepcafeldhncaaW.PrintMore
attribute [local go_sem] max2_int min2_int max_two min_two max_three min_three max_four min_four   -- for this text's walks alone
set_option linter.unusedVariables false
set_option linter.unusedSimpArgs false

/-! ### impl_imagesNear: function 49 -/
open Go.Lib Go.Sort in
/-- A row of numbers, one block of the call's own. -/
structure ImRow (W : World) (g cap : Nat) (xs : List Int) : Prop where
  ex : ∃ cur, W.heap[g]? = some (.cells cur 3 (0, 0)) ∧ cur.size = cap ∧ xs.length ≤ cap ∧ cap ≤ maxLen ∧ cur.toList.take xs.length = xs.map (Value.int .i64)
theorem ImRow.cell {W : World} {g cap : Nat} {xs : List Int} (h : ImRow W g cap xs) (j : Nat) (hj : j < xs.length) : W.cell? ⟨g, j, none⟩ = some (.int .i64 (xs[j]!)) ∧ W.frozen? ⟨g, j, none⟩ = false := by
  obtain ⟨cur, h1, h2, h3, h4, h5⟩ := h.ex
  have e : cur[j]? = some (.int .i64 (xs[j]!)) := by
    have a : (cur.toList.take xs.length)[j]? = (xs.map (Value.int .i64))[j]? := by rw [h5]
    rw [List.getElem?_take, if_pos hj, List.getElem?_map, List.getElem?_eq_getElem hj] at a
    rw [← Array.getElem?_toList, a, getElem!_pos xs j hj]
    rfl
  constructor
  · simp [World.cell?, h1, e]
  · simp [World.frozen?, h1]
theorem ImRow.holds {W : World} {g cap : Nat} {xs : List Int} (h : ImRow W g cap xs) : Go.Sort.Holds (Value.int .i64) W g 0 xs.toArray := by
  intro j hj
  have hj' : j < xs.length := by simpa using hj
  have := h.cell j hj'
  rw [Nat.zero_add]
  have e : xs.toArray[j]! = xs[j]! := by simp
  rw [e]
  exact this
theorem im_blk {W : World} {g cap : Nat} {xs : List Int} (h : ImRow W g cap xs) : g < W.heap.size := by
  obtain ⟨cur, h1, _⟩ := h.ex
  rcases Nat.lt_or_ge g W.heap.size with c | c
  · exact c
  · rw [Array.getElem?_eq_none c] at h1; cases h1
/-- The row written anew, as long as before. -/
theorem ImRow.put {W : World} {g cap : Nat} {xs ys : List Int} (h : ImRow W g cap xs) (q : Nat) (hl : ys.length ≤ cap) : ImRow (Go.Sort.putRow (Value.int .i64) (Go.Sort.ahead W q) g 0 ys.toArray) g cap ys := by
  obtain ⟨cur, h1, h2, h3, h4, h5⟩ := h.ex
  refine ⟨Go.Sort.putCells (Value.int .i64) 0 ys.toArray cur, ?_, ?_, hl, h4, ?_⟩
  · unfold Go.Sort.putRow Go.Sort.mapBlock Go.Sort.ahead
    simp only [Array.getElem?_modify, if_true, h1, Option.map_some, Go.Sort.onCells]
  · simp [Go.Sort.putCells, h2]
  · apply List.ext_getElem?
    intro j
    rw [List.getElem?_take, List.getElem?_map]
    by_cases hj : j < ys.length
    · rw [if_pos hj, Array.getElem?_toList]
      simp only [Go.Sort.putCells, Array.getElem?_mapIdx]
      have hc : j < cur.size := by omega
      rw [Array.getElem?_eq_getElem hc, Option.map_some, if_pos ⟨Nat.zero_le _, by simpa using hj⟩, List.getElem?_eq_getElem hj]
      simp [hj]
    · rw [if_neg hj, List.getElem?_eq_none (by omega)]
      rfl
theorem ImRow.pre {W : World} {g cap : Nat} {xs ys : List Int} (h : ImRow W g cap (xs ++ ys)) : ImRow W g cap xs := by
  obtain ⟨cur, h1, h2, h3, h4, h5⟩ := h.ex
  rw [List.length_append] at h3 h5
  refine ⟨cur, h1, h2, by omega, h4, ?_⟩
  have : (cur.toList.take (xs.length + ys.length)).take xs.length = ((xs ++ ys).map (Value.int .i64)).take xs.length := by rw [h5]
  rw [List.take_take, Nat.min_eq_left (by omega), List.map_append, List.take_left' (by rw [List.length_map])] at this
  exact this
theorem ImRow.grow {W : World} {g cap : Nat} {xs : List Int} (h : ImRow W g cap xs) (os : Array Obj) : ImRow (Go.Sort.grow W os) g cap xs := by
  have hb := im_blk h
  obtain ⟨cur, h1, h2⟩ := h.ex
  exact ⟨cur, by rw [Go.Sort.heap_grow_old W os hb]; exact h1, h2⟩
theorem im_below_put {B : Nat} {w W : World} (hb : Below B w W) (q g : Nat) (hg : B ≤ g) (ys : Array Int) : Below B w (Go.Sort.putRow (Value.int .i64) (Go.Sort.ahead W q) g 0 ys) :=
  ⟨hb.os, hb.tape, hb.output, by
    refine Nat.le_trans hb.size ?_
    show W.heap.size ≤ (W.heap.modify g _).size
    rw [Array.size_modify]; exact Nat.le_refl _, fun k hk => by
    show (W.heap.modify g _)[k]? = _
    rw [Array.getElem?_modify, if_neg (by omega)]
    exact hb.block k hk⟩
theorem im_below_grow {B : Nat} {w W : World} (hb : Below B w W) (hB : B ≤ W.heap.size) (os : Array Obj) : Below B w (Go.Sort.grow W os) :=
  ⟨hb.os, hb.tape, hb.output, by
    refine Nat.le_trans hb.size ?_
    show W.heap.size ≤ (W.heap ++ os).size
    rw [Array.size_append]; omega, fun k hk => (Go.Sort.heap_grow_old W os (by omega)).trans (hb.block k hk)⟩
theorem im_put_old {W : World} (q g : Nat) (ys : Array Int) {k : Nat} (hk : k ≠ g) : (Go.Sort.putRow (Value.int .i64) (Go.Sort.ahead W q) g 0 ys).heap[k]? = W.heap[k]? := by
  show (W.heap.modify g _)[k]? = _
  rw [Array.getElem?_modify, if_neg (by omega)]
theorem ImRow.kd {W : World} {g cap : Nat} {xs : List Int} (h : ImRow W g cap xs) {base : Nat} (hb : base ≤ g) : Kd.R (Kd.int .i64) 3 W base (fun _ => True) (.slice (some ⟨g, 0, none⟩) xs.length cap) xs := by
  obtain ⟨cur, h1, h2, h3, h4, h5⟩ := h.ex
  refine Kd.R_of_own (enc := Value.int .i64) (h1 := fun _ => rfl) ⟨?_, .inr ⟨g, cap, cur, rfl, hb, h1, h3, h4, by omega, ?_⟩⟩ (fun _ _ => trivial)
  · unfold encs; rw [List.length_map, Nat.mul_one]
  · rw [Nat.mul_one]; exact h5
theorem ImRow.of_kd {W : World} {base : Nat} {ok : Nat → Prop} {v : Value} {xs : List Int} (h : Kd.R (Kd.int .i64) 3 W base ok v xs) (hne : xs ≠ []) : ∃ g cap, v = .slice (some ⟨g, 0, none⟩) xs.length cap ∧ base ≤ g ∧ ImRow W g cap xs := by
  have ho := Kd.own_of_R (enc := Value.int .i64) (h1 := fun _ => rfl) h
  obtain ⟨h1, h2⟩ := ho
  rcases h2 with ⟨_, h2⟩ | ⟨g, cap, cur, rfl, hb, hg, hn, hc, hs, ht⟩
  · exact absurd (List.eq_nil_of_length_eq_zero h2) hne
  · exact ⟨g, cap, rfl, hb, cur, hg, by omega, hn, hc, by rw [Nat.mul_one] at ht; exact ht⟩
def imDist (a b : Int) : Int := (impl_distance.f a b).getD 0
def imL (w a k0 : Int) : Nat → List Int
  | 0 => []
  | n + 1 => imL w a k0 n ++ ((if k0 + n = 0 then [] else [2 * w * (k0 + n) + a]) ++ [2 * w * (k0 + n) - a])
def imQ (w far : Int) : Int := far / (2 * w)
def impl_imagesNear.f (a0 a1 a2 a3 : Int) : Option (List Int) := if (1 ≤ a0 ∧ a0 ≤ 500) ∧ (0 ≤ a1 ∧ a1 ≤ 500) ∧ (0 ≤ a2 ∧ a2 ≤ 500) ∧ 0 ≤ a3 ∧ a3 ≤ 50000 then
  some (Lib.compact (((imL a0 a1 (-(imQ a0 a3) - 2) (2 * imQ a0 a3 + 5).toNat).filter fun x => !decide (a3 < imDist x a2)).mergeSort fun x y => decide (x ≤ y))) else none
theorem imDist_eq (a b : Int) (h1 : -1000000 ≤ a ∧ a ≤ 1000000) (h2 : -1000000 ≤ b ∧ b ≤ 1000000) : imDist a b = mx (a - b) (b - a) := by
  unfold imDist impl_distance.f
  have e1 : wrap64 (a - b) = a - b := by unfold wrap64; omega
  have e2 : wrap64 (b - a) = b - a := by unfold wrap64; omega
  rw [e1, e2]
  rfl
set_option maxHeartbeats 1000000 in
theorem imDist_calls (a b : Int) (w : World) : Calls Try.prog 51 #[.int .i64 a, .int .i64 b] w fun e w' => e = .returned (.int .i64 (imDist a b)) ∧ ∃ q, w' = w.drewN q := by
  go_enter Try.func51, Try.ntmps51
  go_wp2
  all_goals go_ret
  case inl =>
    have e : imDist a b = wrap64 (b - a) := by
      unfold imDist impl_distance.f mx
      rw [if_pos h]
      rfl
    exact ⟨by rw [e]; rfl, 0, rfl⟩
  case inr =>
    have e : imDist a b = wrap64 (a - b) := by
      unfold imDist impl_distance.f mx
      rw [if_neg (by omega)]
      rfl
    exact ⟨by rw [e]; rfl, 0, rfl⟩
/-- The closure that tells what is too far away. -/
theorem im_gives (seer far x : Int) (sb fb : Nat) (W : World) (hs : W.cell? ⟨sb, 0, none⟩ = some (.int .i64 seer)) (hf : W.cell? ⟨fb, 0, none⟩ = some (.int .i64 far)) :
    Go.Proofs.FnGives Try.prog 59 #[.pointer (some ⟨sb, 0, none⟩), .pointer (some ⟨fb, 0, none⟩)] #[.int .i64 x] (.bool (decide (far < imDist x seer))) W := by
  show Calls Try.prog 59 #[.int .i64 x, .pointer (some ⟨sb, 0, none⟩), .pointer (some ⟨fb, 0, none⟩)] W _
  go_enter Try.func59, Try.ntmps59
  go_wp2_with fail
  refine start_ (n := 6) (S := fun w' => (w'.cell? ⟨sb, 0, none⟩ = some (.int .i64 seer) ∧ w'.cell? ⟨fb, 0, none⟩ = some (.int .i64 far)) ∧ ∃ q, w' = W.drewN q) (ds := []) #[false, false, false, false, false, false] (by kernel_rfl) rfl rfl ⟨⟨hs, hf⟩, 1, rfl⟩ (fun hHeld => ?_)
  clear hs hf
  generalize W.drew = W1 at hHeld ⊢
  refine pure_ (i := 0) (N := some 5) (v := ?_) (a' := ?_) #[true, false, false, false, false, false] rfl rfl (by kernel_rfl) (fun _ _ _ h => h) (Or.inl ⟨by rfl, ?_⟩) ?_ ?_
  rotate_left
  · intro w'
    go_simp
    with_reducible rfl
  rotate_left
  · simp only [Act.put, List.setIfInBounds_toArray, List.set_cons_zero, List.set_cons_succ, i64_w, i32_w]
    rfl
  refine take_ (i := 1) (N := some 6) (v := ?_) (a' := ?_) #[true, true, false, false, false, false] rfl rfl (by kernel_rfl) (fun _ _ _ h => h) (Or.inl ⟨by rfl, ?_⟩) hHeld ?_ ?_
  rotate_left
  · rintro w' ⟨⟨s0, s1⟩, sq⟩
    go_simp
    with_reducible rfl
  rotate_left
  · simp only [Act.put, List.setIfInBounds_toArray, List.set_cons_zero, List.set_cons_succ, i64_w, i32_w]
    rfl
  refine take_ (i := 3) (N := some 8) (v := ?_) (a' := ?_) #[true, true, false, true, false, false] rfl rfl (by kernel_rfl) (fun _ _ _ h => h) (Or.inl ⟨by rfl, ?_⟩) hHeld ?_ ?_
  rotate_left
  · rintro w' ⟨⟨s0, s1⟩, sq⟩
    go_simp
    with_reducible rfl
  rotate_left
  · simp only [Act.put, List.setIfInBounds_toArray, List.set_cons_zero, List.set_cons_succ, i64_w, i32_w]
    rfl
  refine one_ (i := 2) (N := some 7) #[true, true, true, true, false, false] rfl rfl (by kernel_rfl) (by decide) (fun K hK => ?_)
  refine goes_ Try.func51 (by kernel_rfl) rfl #[.int .i64 x, .int .i64 seer] (by rfl) rfl rfl (by (try simp only [List.map_toArray, List.map_cons, List.map_nil]); first | done | rfl | (simp only [List.length_drop, List.length_take]; rfl)) ?_
  refine (imDist_calls x seer W1).mono ?_
  rintro e w11 ⟨rfl, q, rfl⟩
  refine ⟨_, rfl, ?_⟩
  refine hK.out _ _ ⟨⟨hHeld.1.1, hHeld.1.2⟩, ?_⟩ (fun hHeld2 => ?_)
  · obtain ⟨q0, e0⟩ := hHeld.2
    exact ⟨q0 + q, by rw [e0]; simp [World.drewN, Nat.add_assoc]⟩
  clear hK K hHeld
  obtain ⟨d, hd⟩ : ∃ d, imDist x seer = d := ⟨_, rfl⟩
  rw [hd]
  have HD := Aside0.mk hd
  clear hd
  refine norm_ (a' := ?_) ?_ ?_
  rotate_left
  · show Act.put _ (some 7) _ = _
    simp only [Act.put, List.setIfInBounds_toArray, List.set_cons_zero, List.set_cons_succ, i64_w, i32_w]
    rfl
  refine pure_ (i := 4) (N := some 9) (v := ?_) (a' := ?_) #[true, true, true, true, true, false] rfl rfl (by kernel_rfl) (fun _ _ _ h => h) (Or.inl ⟨by rfl, ?_⟩) ?_ ?_
  rotate_left
  · intro w'
    go_simp
    with_reducible rfl
  rotate_left
  · simp only [Act.put, List.setIfInBounds_toArray, List.set_cons_zero, List.set_cons_succ, i64_w, i32_w]
    rfl
  refine pure_ (i := 5) (N := some 4) (v := ?_) (a' := ?_) #[true, true, true, true, true, true] rfl rfl (by kernel_rfl) (fun _ _ _ h => h) (Or.inl ⟨by rfl, ?_⟩) ?_ ?_
  rotate_left
  · intro w'
    go_simp
    with_reducible rfl
  rotate_left
  · simp only [Act.put, List.setIfInBounds_toArray, List.set_cons_zero, List.set_cons_succ, i64_w, i32_w]
    rfl
  refine done_ (by kernel_rfl) ?_
  go_wp2_with fail
  go_ret
  exact ⟨by rw [HD.out]; rfl, hHeld2.2⟩
theorem im_two (w : World) (o1 o2 : Obj) : ((w.alloc o1).alloc o2).heap[w.heap.size]? = some o1 ∧ ((w.alloc o1).alloc o2).heap[w.heap.size + 1]? = some o2 ∧ ((w.alloc o1).alloc o2).heap.size = w.heap.size + 2 := by
  have e : ∀ (v : World) (o : Obj), (v.alloc o).heap = v.heap.push o := fun _ _ => rfl
  rw [e, e]
  exact ⟨by rw [Array.getElem?_push, if_neg (by simp), Array.getElem?_push, if_pos rfl], by rw [Array.getElem?_push, if_pos (by simp)], by simp⟩
theorem im_cell {w : World} {g : Nat} {v : Value} (h : w.heap[g]? = some (.cells #[v] 3 (0, 0))) : w.cell? ⟨g, 0, none⟩ = some v := by simp [World.cell?, h]
theorem im_info3 : (Try.prog.info? 3).map (fun i => (i.zero, i.size, i.bytes)) = some (some (.int .i64 0), 1, 8) := by kernel_rfl
theorem im_enters {f : FuncId} {fn : Func} {c : Code} (hf : Try.prog.funcs[f]? = some fn) (hname : (fn.name == "runtime.NumGoroutine") = false) (hb : fn.body = some c) (args : Array Value) (w : World) : (callFunc f args).run Try.prog w = .ok (.enter f args) w := by
  have h1 : fn.name ≠ "runtime.NumGoroutine" := by simpa using hname
  simp [callFunc, hf, h1, hb, mark]
theorem im_zero3 (w : World) : (zeroValue 3).run Try.prog w = .ok (.int .i64 0) w := by
  exact Try.zeroValue3 w
theorem im_compact_len (zs : List Int) : (Lib.compact zs).length ≤ zs.length := by
  unfold Lib.compact Lib.compactUpTo
  rw [List.length_map]
  exact Nat.le_trans (List.length_filter_le _ _) (by rw [List.length_range]; exact Nat.le_refl _)
/-- A row sorted, each number once. -/
def ImInc (ys : List Int) : List Int := Lib.compact (ys.mergeSort fun x y => decide (x ≤ y))
set_option maxHeartbeats 1000000 in
theorem im_increasing (g cap : Nat) (ys : List Int) (W : World) (hlen : ys.length ≤ 1000000) (h : ImRow W g cap ys) :
    Calls Try.prog 55 #[.slice (some ⟨g, 0, none⟩) ys.length cap] W fun e w' => e = .returned (.slice (some ⟨g, 0, none⟩) (ImInc ys).length cap) ∧ ImRow w' g cap (ImInc ys) ∧ ∀ (B : Nat) (w0 : World), Below B w0 W → B ≤ g → Below B w0 w' := by
  have hcap : ys.length ≤ cap := by obtain ⟨cur, _, _, h3, _⟩ := h.ex; exact h3
  have hmax : cap ≤ 9223372036854775807 := by obtain ⟨cur, _, _, _, h4, _⟩ := h.ex; exact h4
  have hsz : (ys.mergeSort fun x y => decide (x ≤ y)).length = ys.length := List.length_mergeSort _
  have hg := im_blk h
  have hs := Try.slices_Sort_int g 0 cap ys W h.holds hg (by omega)
  obtain ⟨zs, hzs⟩ : ∃ zs, (ys.mergeSort fun x y => decide (x ≤ y)) = zs := ⟨_, rfl⟩
  have hE : ImInc ys = Lib.compact zs := by unfold ImInc; rw [hzs]
  rw [hzs] at hsz hs
  rw [hE]
  have HS := Aside0.mk hs
  have HW := Aside0.mk h
  have HL := Aside0.mk hsz
  have HCP := Aside0.mk hcap
  have HMX := Aside0.mk hmax
  have HG := Aside0.mk hg
  clear h hs hsz hcap hmax hg hlen hE hzs
  go_enter Try.func55, Try.ntmps55
  go_wp2_with fail
  refine HS.out.mono ?_
  rintro e w1 ⟨rfl, q, os, rfl⟩
  have hr := (HW.out.put (ys := zs) q (by have := HL.out; have := HCP.out; omega)).grow os
  have hb : ∀ (B : Nat) (w0 : World), Below B w0 W → B ≤ g → Below B w0 (Go.Sort.grow (Go.Sort.putRow (Value.int .i64) (Go.Sort.ahead W q) g 0 zs.toArray) os) := fun B w0 hB hBg => by
    have := im_below_put hB q g hBg zs.toArray
    refine im_below_grow this ?_ os
    have h1 := HG.out
    show B ≤ (W.heap.modify g _).size
    rw [Array.size_modify]; omega
  have hcm := Try.slices_Compact_int g 0 cap zs _ hr.holds (by have := HL.out; have := HCP.out; have := HMX.out; omega) (by have := HL.out; have := HCP.out; omega)
  rw [HL.out] at hcm
  have HCM := Aside0.mk hcm
  have HR := Aside0.mk hr
  have HBB := Aside0.mk hb
  clear hcm hr hb
  generalize Go.Sort.grow (Go.Sort.putRow (Value.int .i64) (Go.Sort.ahead W q) g 0 zs.toArray) os = w2 at HCM HR HBB ⊢
  go_wp2_with fail
  refine HCM.out.mono ?_
  rintro e w3 ⟨rfl, q2, rfl⟩
  go_wp2_with fail
  go_ret
  have hc := im_compact_len zs
  have hp := HR.out.put (ys := Lib.compact zs ++ List.replicate (ys.length - (Lib.compact zs).length) 0) q2 (by rw [List.length_append, List.length_replicate]; have := HL.out; have := HCP.out; omega)
  exact ⟨rfl, hp.pre, fun B w0 hB hBg => im_below_put (HBB.out B w0 hB hBg) q2 g hBg _⟩
theorem imL_len (w a k0 : Int) : ∀ n, n ≤ (imL w a k0 n).length ∧ (imL w a k0 n).length ≤ 2 * n := by
  intro n
  induction n with
  | zero => exact ⟨Nat.le_refl _, Nat.le_refl _⟩
  | succ n ih =>
    simp only [imL, List.length_append, List.length_cons, List.length_nil]
    by_cases c : k0 + (n : Int) = 0
    · rw [if_pos c]; simp only [List.length_nil]; omega
    · rw [if_neg c]; simp only [List.length_cons, List.length_nil]; omega
set_option maxHeartbeats 8000000 in
set_option maxRecDepth 100000 in
theorem impl_imagesNear.calls (a0 a1 a2 a3 : Int) (r : List Int) (w : World) (h : impl_imagesNear.f a0 a1 a2 a3 = some r) :
    Calls Try.prog 49 #[.int .i64 a0, .int .i64 a1, .int .i64 a2, .int .i64 a3] w fun e w' => ∃ v0_ : Value, e = .returned (v0_) ∧ Kd.R (Kd.int .i64) 3 w' w.heap.size (fun _ => True) v0_ r ∧ Below w.heap.size w w' := by
  unfold impl_imagesNear.f at h
  by_cases c : (1 ≤ a0 ∧ a0 ≤ 500) ∧ (0 ≤ a1 ∧ a1 ≤ 500) ∧ (0 ≤ a2 ∧ a2 ≤ 500) ∧ 0 ≤ a3 ∧ a3 ≤ 50000
  · rw [if_pos c] at h
    have hr := Option.some.inj h
    obtain ⟨⟨c1, c2⟩, ⟨c3, c4⟩, ⟨c5, c6⟩, c7, c8⟩ := c
    obtain ⟨Q, hQ⟩ : ∃ Q, imQ a0 a3 = Q := ⟨_, rfl⟩
    rw [hQ] at hr
    have hQ0 : 0 ≤ Q := by rw [← hQ]; exact Int.ediv_nonneg c7 (by omega)
    have hQ1 : Q ≤ 50000 := by rw [← hQ]; exact Int.le_trans (Int.ediv_le_self _ c7) c8
    obtain ⟨K0, hK0⟩ : ∃ K0, -Q - 2 = K0 := ⟨_, rfl⟩
    rw [hK0] at hr
    obtain ⟨N, hN⟩ : ∃ N, (2 * Q + 5).toNat = N := ⟨_, rfl⟩
    rw [hN] at hr
    -- the walk's own sums
    have f1 : wrap64 (2 * a0) = 2 * a0 := by unfold wrap64; omega
    have f2 : wrap64 (-a3) = -a3 := by unfold wrap64; omega
    have f3 : Int.tdiv a3 (2 * a0) = Q := by rw [← hQ]; exact Int.tdiv_eq_ediv_of_nonneg c7
    obtain ⟨D, hD⟩ : ∃ D, wrap64 (2 * a0) = D := ⟨_, rfl⟩
    have hDv : D = 2 * a0 := by rw [← hD, f1]
    obtain ⟨M, hM⟩ : ∃ M, wrap64 (-a3) = M := ⟨_, rfl⟩
    have hMv : M = -a3 := by rw [← hM, f2]
    have g1 : Int.tdiv M D = -Q := by rw [hMv, hDv, Int.neg_tdiv, f3]
    have g2 : Int.tdiv a3 D = Q := by rw [hDv]; exact f3
    obtain ⟨N1, hN1⟩ : ∃ N1, Int.tdiv M D = N1 := ⟨_, rfl⟩
    have hN1v : N1 = -Q := by rw [← hN1, g1]
    have g3 : wrap64 N1 = N1 := by rw [hN1v]; unfold wrap64; omega
    have g4 : wrap64 (N1 - 2) = K0 := by rw [hN1v]; unfold wrap64; omega
    have g5 : wrap64 Q = Q := by unfold wrap64; omega
    obtain ⟨K1, hK1⟩ : ∃ K1, wrap64 (Q + 2) = K1 := ⟨_, rfl⟩
    have hK1v : K1 = Q + 2 := by rw [← hK1]; unfold wrap64; omega
    have gD : ¬ D = 0 := by omega
    have HG4 := Aside0.mk g4
    have HF := Aside0.mk (And.intro hDv (And.intro hK0 (And.intro hN (And.intro hK1v (And.intro hQ0 hQ1)))))
    have HC := Aside0.mk (And.intro (And.intro c1 c2) (And.intro c3 c4))
    have HR := Aside0.mk hr
    clear h hr c1 c2 c3 c4 c5 c6 c7 c8 hQ hQ0 hQ1 hK0 hN f1 f2 f3 hDv hMv g1 hN1v hK1v
    obtain ⟨p1, p2, ps⟩ := im_two w (.cells #[.int .i64 a2] 3 (0, 0)) (.cells #[.int .i64 a3] 3 (0, 0))
    have P := Aside0.mk (And.intro p1 (And.intro p2 ps))
    have HB := Aside0.mk (below_alloc (below_alloc (Below.refl _ w) (.cells #[.int .i64 a2] 3 (0, 0))) (.cells #[.int .i64 a3] 3 (0, 0)))
    have c2 := (im_cell p2)
    clear p1 p2 ps
    go_enter Try.func49, Try.ntmps49
    go_wp2_with ((with_reducible refine gate_dst (N := 11) rfl ?_); refine Kd.R_lit (Kd.int .i64) _ 3 ?hg (N := 11) ?hd (xs := ([] : List Int)) (inner := []) (ok := fun _ => True) (okp := fun _ => True) ?hr ?hp (fun _ hk => hk) trivial (Below.refl _ _) (Nat.le_refl _) (by simp) ?_; (case hd => rfl); (case hg => rfl); (case hr => first | (go_simp; done) | (go_simp; rfl)); (case hp => exact (Reps.none _ _)); intro v165 w6 ho7 hb hg_ hnew_; clear hg_ hnew_; have HO := Aside0.mk ho7; have HB6 := Aside0.mk hb; have c26 := (World.cell?_of_block (a := ⟨w.heap.size + 1, 0, none⟩) (hb.block (w.heap.size + 1) (by rw [P.out.2.2]; omega))).trans c2; clear ho7 hb c2)
    generalize (w.alloc (.cells #[.int .i64 a2] 3 (0, 0))).alloc (.cells #[.int .i64 a3] 3 (0, 0)) = w2 at P HB HO HB6
    rw [hD]
    clear c26 hM hN1 g3 g4
    go_loopg [9, 10] N (fun gg v9 v10 wr => ∃ (n : Nat) (k : Int), n ≤ N ∧ N - n ≤ gg ∧ v10 = .int .i64 k ∧ Aside0 (k = K0 + n) ∧ Aside0 (Kd.R (Kd.int .i64) 3 wr w2.heap.size (fun _ => True) v9 (imL a0 a1 K0 n)) ∧ Aside0 (Below w2.heap.size w2 wr))
    case atStart => exact ⟨0, K0, Nat.zero_le _, by omega, by rw [HG4.out], ⟨by omega⟩, HO, HB6⟩
    case round =>
      clear HO HB6 w6
      obtain ⟨n, k, hn, hgk, rfl, HK, HO, HB6⟩ := hrel
      have cf : wr.cell? ⟨w.heap.size + 1, 0, none⟩ = some (.int .i64 a3) := (World.cell?_of_block (a := ⟨w.heap.size + 1, 0, none⟩) (HB6.out.block (w.heap.size + 1) (by rw [P.out.2.2]; omega))).trans (im_cell P.out.2.1)
      by_cases hlt : n < N
      · have d1 : decide (k ≤ K1) = true := decide_eq_true (by have := HF.out; have := HK.out; omega)
        have hll := imL_len a0 a1 K0 n
        have HLL := Aside0.mk hll
        have HN5 : Aside0 (N ≤ 100005) := ⟨by have := HF.out; omega⟩
        have hkb : -60000 ≤ k ∧ k ≤ 60000 := by have := HF.out; have := HK.out; omega
        have hDb : 0 ≤ D ∧ D ≤ 1000 := by have := HF.out; have := HC.out; omega
        have hDk : (D * k).natAbs ≤ 1000 * 60000 := by rw [Int.natAbs_mul]; exact Nat.mul_le_mul (by omega) (by omega)
        obtain ⟨T, hT⟩ : ∃ T, wrap64 (D * k) = T := ⟨_, rfl⟩
        have hTv : T = D * k := by rw [← hT]; unfold wrap64; omega
        have hTb : -60000000 ≤ T ∧ T ≤ 60000000 := by rw [hTv]; omega
        obtain ⟨U, hU⟩ : ∃ U, wrap64 (T + a1) = U := ⟨_, rfl⟩
        have hUv : U = D * k + a1 := by rw [← hU, ← hTv]; have := HC.out; unfold wrap64; omega
        obtain ⟨V, hV⟩ : ∃ V, wrap64 (T - a1) = V := ⟨_, rfl⟩
        have hVv : V = D * k - a1 := by rw [← hV, ← hTv]; have := HC.out; unfold wrap64; omega
        obtain ⟨k2, hk2⟩ : ∃ k2, wrap64 (k + 1) = k2 := ⟨_, rfl⟩
        have hk2v : k2 = K0 + ((n + 1 : Nat) : Int) := by rw [← hk2]; have := HK.out; unfold wrap64; omega
        have HK2 := Aside0.mk hk2v
        have HKK := Aside0.mk hk2
        have hL : imL a0 a1 K0 (n + 1) = imL a0 a1 K0 n ++ ((if k = 0 then [] else [U]) ++ [V]) := by
          simp only [imL]
          rw [HK.out, hUv, hVv, HF.out.1, HK.out]
        have HL := Aside0.mk hL
        clear hTv hTb hUv hVv hk2v hL hkb hDb hDk hll
        by_cases hz : k = 0
        · have hz2 : (k == 0) = true := by rw [beq_iff_eq]; exact hz
          have hz3 : (k != 0) = false := by simp [bne, hz2]
          rw [if_pos hz] at HL
          clear hz
          have HL2 : Aside0 (imL a0 a1 K0 (n + 1) = imL a0 a1 K0 n ++ [V]) := ⟨HL.out⟩
          clear HL
          go_wp2_with ((with_reducible refine gate_builtin (b := .append) (xs := #[.tmp 38, .tmp 45]) rfl ?_); at_builtin; refine Kd.R_append (Kd.int .i64) (w0 := w2) w2.heap.size rfl (.tmp 38) (.tmp 45) 22 3 (.int .i64 0) 8 rfl Try.underlying22 im_info3 rfl (by decide) (by omega) u9 (imL a0 a1 K0 n) V [.int .i64 V] (fun _ => True) (fun _ => False) rfl rfl ?aP (fun _ hk => hk.elim) (fun _ _ => trivial) ?aO ?aB ?aS ?aL ?_; (case aP => exact rfl); (case aB => exact HB6.out); (case aO => exact HO.out); (case aS => exact HB6.out.size); (case aL => have := HLL.out; have := HN5.out; omega); intro v173 w16 ho hb hg hat; have HO3 := Aside0.mk ho; have HB3 := Aside0.mk hb; clear ho hb hg hat HO)
          go_roundg (N - (n + 1))
          case measure => omega
          case rel => exact ⟨n + 1, k2, by omega, Nat.le_refl _, by rw [HKK.out], HK2, ⟨by rw [HL2.out]; exact HO3.out⟩, HB3⟩
        · have hz2 : (k == 0) = false := by rw [beq_eq_false_iff_ne]; exact hz
          have hz3 : (k != 0) = true := by simp [bne, hz2]
          rw [if_neg hz] at HL
          clear hz
          go_wp2_with (first | ((with_reducible refine gate_builtin (b := .append) (xs := #[.tmp 29, .tmp 36]) rfl ?_); at_builtin; refine Kd.R_append (Kd.int .i64) (w0 := w2) w2.heap.size rfl (.tmp 29) (.tmp 36) 22 3 (.int .i64 0) 8 rfl Try.underlying22 im_info3 rfl (by decide) (by omega) u9 (imL a0 a1 K0 n) U [.int .i64 U] (fun _ => True) (fun _ => False) rfl rfl ?aP (fun _ hk => hk.elim) (fun _ _ => trivial) ?aO ?aB ?aS ?aL ?_; (case aP => exact rfl); (case aB => exact HB6.out); (case aO => exact HO.out); (case aS => exact HB6.out.size); (case aL => have := HLL.out; have := HN5.out; omega); intro v172 w15 ho hb hg hat; have HO2 := Aside0.mk ho; have HB2 := Aside0.mk hb; clear ho hb hg hat HO) | ((with_reducible refine gate_builtin (b := .append) (xs := #[.tmp 38, .tmp 45]) rfl ?_); at_builtin; refine Kd.R_append (Kd.int .i64) (w0 := w2) w2.heap.size rfl (.tmp 38) (.tmp 45) 22 3 (.int .i64 0) 8 rfl Try.underlying22 im_info3 rfl (by decide) (by omega) v172 (imL a0 a1 K0 n ++ [U]) V [.int .i64 V] (fun _ => True) (fun _ => False) rfl rfl ?aP (fun _ hk => hk.elim) (fun _ _ => trivial) ?aO ?aB ?aS ?aL ?_; (case aP => exact rfl); (case aB => exact HB2.out); (case aO => exact HO2.out); (case aS => exact HB2.out.size); (case aL => have := HLL.out; have := HN5.out; simp only [List.length_append, List.length_cons, List.length_nil]; omega); intro v173 w16 ho hb hg hat; have HO3 := Aside0.mk ho; have HB3 := Aside0.mk hb; clear ho hb hg hat HO2))
          go_roundg (N - (n + 1))
          case measure => omega
          case rel => exact ⟨n + 1, k2, by omega, Nat.le_refl _, by rw [HKK.out], HK2, ⟨by rw [HL.out, ← List.append_assoc]; exact HO3.out⟩, HB3⟩
      · have d1 : decide (k ≤ K1) = false := decide_eq_false (by have := HF.out; have := HK.out; omega)
        have hnN : n = N := by have := HF.out; have := HK.out; omega
        subst hnN
        have hll := imL_len a0 a1 K0 n
        have hN5 : 5 ≤ n ∧ n ≤ 100005 := by have := HF.out; omega
        have hxs : imL a0 a1 K0 n ≠ [] := fun e => by rw [e] at hll; simp at hll; omega
        have hr := HR.out
        obtain ⟨xs, hX⟩ : ∃ xs, imL a0 a1 K0 n = xs := ⟨_, rfl⟩
        rw [hX] at HO hr hll hxs
        obtain ⟨g, cap, rfl, hg, hrow⟩ := ImRow.of_kd HO.out hxs
        have hcap : xs.length ≤ cap ∧ cap ≤ 9223372036854775807 := by obtain ⟨cur, _, _, h3, h4, _⟩ := hrow.ex; exact ⟨h3, h4⟩
        have P1 := HB6.out.block w.heap.size (by rw [P.out.2.2]; omega)
        have P2 := HB6.out.block (w.heap.size + 1) (by rw [P.out.2.2]; omega)
        have s1 := im_cell (P1.trans P.out.1)
        have s2 := im_cell (P2.trans P.out.2.1)
        have hz : w.heap.size + 1 < wr.heap.size := Nat.lt_of_lt_of_le (by rw [P.out.2.2]; omega) HB6.out.size
        have hg2 : w.heap.size + 2 ≤ g := by rw [P.out.2.2] at hg; exact hg
        obtain ⟨p, hp⟩ : ∃ p : Int → Bool, p = fun x => decide (a3 < imDist x a2) := ⟨_, rfl⟩
        have hdel := Try.slices_DeleteFunc (Value.int .i64) (fun _ => rfl) p 59 #[.pointer (some ⟨w.heap.size, 0, none⟩), .pointer (some ⟨w.heap.size + 1, 0, none⟩)] (im_enters Try.func59 (by kernel_rfl) rfl) 0 im_zero3 g 0 cap xs.toArray wr
          (fun W x hb => by rw [hp]; exact im_gives a2 a3 x _ _ W ((World.cell?_of_block (a := ⟨w.heap.size, 0, none⟩) (hb.block w.heap.size (by omega))).trans s1) ((World.cell?_of_block (a := ⟨w.heap.size + 1, 0, none⟩) (hb.block (w.heap.size + 1) hz)).trans s2))
          (fun q os dk x hdk => by
            have o1 : ∀ k, k ≠ g → k < wr.heap.size → (Go.Proofs.sortWorld (Value.int .i64) wr g 0 q dk os).heap[k]? = wr.heap[k]? := fun k hk hkl => by
              unfold Go.Proofs.sortWorld
              rw [Go.Sort.heap_grow_old _ _ (by show k < (wr.heap.modify g _).size; rw [Array.size_modify]; exact hkl)]
              exact im_put_old q g dk hk
            rw [hp]
            exact im_gives a2 a3 x _ _ _ ((World.cell?_of_block (a := ⟨w.heap.size, 0, none⟩) (o1 w.heap.size (by omega) (by omega))).trans s1) ((World.cell?_of_block (a := ⟨w.heap.size + 1, 0, none⟩) (o1 (w.heap.size + 1) (by omega) hz)).trans s2))
          hrow.holds (by have := hcap; simp; omega) (by simpa using hcap.1)
        have hsz : xs.toArray.size = xs.length := List.size_toArray ..
        rw [hsz] at hdel
        obtain ⟨ys, hY⟩ : ∃ ys, (xs.toArray.toList.filter fun x => !p x) = ys := ⟨_, rfl⟩
        have hYl : ys.length ≤ xs.length := by rw [← hY]; exact List.length_filter_le _ _
        rw [hY] at hdel
        have hY2 : (xs.filter fun x => !decide (a3 < imDist x a2)) = ys := by rw [← hY, hp]
        rw [hY2] at hr
        have HDEL := Aside0.mk hdel
        have HROW := Aside0.mk hrow
        have HYL := Aside0.mk hYl
        have HCAP := Aside0.mk hcap
        have HXL := Aside0.mk hll
        have HG := Aside0.mk hg
        have HR2 := Aside0.mk hr
        have HN := Aside0.mk hN5
        clear hdel hrow hYl hcap hll hg hr hxs hX HO hsz hY hY2 hp P1 P2 s1 s2 hz hg2 hN5 HR
        go_wp2_with fail
        refine HDEL.out.mono ?_
        rintro e w3 ⟨rfl, q, rfl⟩
        have hrow3 := (HROW.out.put (ys := ys ++ List.replicate (xs.length - ys.length) 0) q (by rw [List.length_append, List.length_replicate]; have := HYL.out; have := HCAP.out; omega)).pre
        have HB3 := Aside0.mk (im_below_put HB6.out q g HG.out (ys ++ List.replicate (xs.length - ys.length) 0).toArray)
        have HINC := Aside0.mk (im_increasing g cap ys _ (by have := HYL.out; have := HXL.out; have := HN.out; omega) hrow3)
        clear hrow3 HDEL HROW
        generalize Go.Sort.putRow (Value.int .i64) (Go.Sort.ahead wr q) g 0 (ys ++ List.replicate (xs.length - ys.length) 0).toArray = w3 at HB3 HINC ⊢
        go_wp2_with fail
        refine HINC.out.mono ?_
        rintro e w4 ⟨rfl, hrow4, hb4⟩
        have HROW4 := Aside0.mk hrow4
        have HB4 := Aside0.mk (hb4 _ _ HB3.out HG.out)
        clear hrow4 hb4 HINC HB3
        go_wp2_with fail
        go_ret
        have e : r = ImInc ys := HR2.out.symm
        subst e
        exact ⟨_, rfl, HROW4.out.kd (by have := HG.out; have := P.out.2.2; omega), below_step HB.out HB4.out⟩
  · rw [if_neg c] at h
    cases h

/-! ### slices_Sort_int_int: function 53 -/
open Go.Lib Go.Sort in
/-- A row of numbers, one block of the call's own. -/
structure SoRow (W : World) (g cap : Nat) (xs : List Int) : Prop where
  ex : ∃ cur, W.heap[g]? = some (.cells cur 3 (0, 0)) ∧ cur.size = cap ∧ xs.length ≤ cap ∧ cap ≤ maxLen ∧ cur.toList.take xs.length = xs.map (Value.int .i64)
theorem SoRow.cell {W : World} {g cap : Nat} {xs : List Int} (h : SoRow W g cap xs) (j : Nat) (hj : j < xs.length) : W.cell? ⟨g, j, none⟩ = some (.int .i64 (xs[j]!)) ∧ W.frozen? ⟨g, j, none⟩ = false := by
  obtain ⟨cur, h1, h2, h3, h4, h5⟩ := h.ex
  have e : cur[j]? = some (.int .i64 (xs[j]!)) := by
    have a : (cur.toList.take xs.length)[j]? = (xs.map (Value.int .i64))[j]? := by rw [h5]
    rw [List.getElem?_take, if_pos hj, List.getElem?_map, List.getElem?_eq_getElem hj] at a
    rw [← Array.getElem?_toList, a, getElem!_pos xs j hj]
    rfl
  constructor
  · simp [World.cell?, h1, e]
  · simp [World.frozen?, h1]
theorem SoRow.holds {W : World} {g cap : Nat} {xs : List Int} (h : SoRow W g cap xs) : Go.Sort.Holds (Value.int .i64) W g 0 xs.toArray := by
  intro j hj
  have hj' : j < xs.length := by simpa using hj
  have := h.cell j hj'
  rw [Nat.zero_add]
  have e : xs.toArray[j]! = xs[j]! := by simp
  rw [e]
  exact this
theorem so_blk {W : World} {g cap : Nat} {xs : List Int} (h : SoRow W g cap xs) : g < W.heap.size := by
  obtain ⟨cur, h1, _⟩ := h.ex
  rcases Nat.lt_or_ge g W.heap.size with c | c
  · exact c
  · rw [Array.getElem?_eq_none c] at h1; cases h1
/-- The row written anew, as long as before. -/
theorem SoRow.put {W : World} {g cap : Nat} {xs ys : List Int} (h : SoRow W g cap xs) (q : Nat) (hl : ys.length ≤ cap) : SoRow (Go.Sort.putRow (Value.int .i64) (Go.Sort.ahead W q) g 0 ys.toArray) g cap ys := by
  obtain ⟨cur, h1, h2, h3, h4, h5⟩ := h.ex
  refine ⟨Go.Sort.putCells (Value.int .i64) 0 ys.toArray cur, ?_, ?_, hl, h4, ?_⟩
  · unfold Go.Sort.putRow Go.Sort.mapBlock Go.Sort.ahead
    simp only [Array.getElem?_modify, if_true, h1, Option.map_some, Go.Sort.onCells]
  · simp [Go.Sort.putCells, h2]
  · apply List.ext_getElem?
    intro j
    rw [List.getElem?_take, List.getElem?_map]
    by_cases hj : j < ys.length
    · rw [if_pos hj, Array.getElem?_toList]
      simp only [Go.Sort.putCells, Array.getElem?_mapIdx]
      have hc : j < cur.size := by omega
      rw [Array.getElem?_eq_getElem hc, Option.map_some, if_pos ⟨Nat.zero_le _, by simpa using hj⟩, List.getElem?_eq_getElem hj]
      simp [hj]
    · rw [if_neg hj, List.getElem?_eq_none (by omega)]
      rfl
theorem SoRow.pre {W : World} {g cap : Nat} {xs ys : List Int} (h : SoRow W g cap (xs ++ ys)) : SoRow W g cap xs := by
  obtain ⟨cur, h1, h2, h3, h4, h5⟩ := h.ex
  rw [List.length_append] at h3 h5
  refine ⟨cur, h1, h2, by omega, h4, ?_⟩
  have : (cur.toList.take (xs.length + ys.length)).take xs.length = ((xs ++ ys).map (Value.int .i64)).take xs.length := by rw [h5]
  rw [List.take_take, Nat.min_eq_left (by omega), List.map_append, List.take_left' (by rw [List.length_map])] at this
  exact this
theorem SoRow.grow {W : World} {g cap : Nat} {xs : List Int} (h : SoRow W g cap xs) (os : Array Obj) : SoRow (Go.Sort.grow W os) g cap xs := by
  have hb := so_blk h
  obtain ⟨cur, h1, h2⟩ := h.ex
  exact ⟨cur, by rw [Go.Sort.heap_grow_old W os hb]; exact h1, h2⟩
theorem so_below_put {B : Nat} {w W : World} (hb : Below B w W) (q g : Nat) (hg : B ≤ g) (ys : Array Int) : Below B w (Go.Sort.putRow (Value.int .i64) (Go.Sort.ahead W q) g 0 ys) :=
  ⟨hb.os, hb.tape, hb.output, by
    refine Nat.le_trans hb.size ?_
    show W.heap.size ≤ (W.heap.modify g _).size
    rw [Array.size_modify]; exact Nat.le_refl _, fun k hk => by
    show (W.heap.modify g _)[k]? = _
    rw [Array.getElem?_modify, if_neg (by omega)]
    exact hb.block k hk⟩
theorem so_below_grow {B : Nat} {w W : World} (hb : Below B w W) (hB : B ≤ W.heap.size) (os : Array Obj) : Below B w (Go.Sort.grow W os) :=
  ⟨hb.os, hb.tape, hb.output, by
    refine Nat.le_trans hb.size ?_
    show W.heap.size ≤ (W.heap ++ os).size
    rw [Array.size_append]; omega, fun k hk => (Go.Sort.heap_grow_old W os (by omega)).trans (hb.block k hk)⟩
theorem so_put_old {W : World} (q g : Nat) (ys : Array Int) {k : Nat} (hk : k ≠ g) : (Go.Sort.putRow (Value.int .i64) (Go.Sort.ahead W q) g 0 ys).heap[k]? = W.heap[k]? := by
  show (W.heap.modify g _)[k]? = _
  rw [Array.getElem?_modify, if_neg (by omega)]
theorem SoRow.kd {W : World} {g cap : Nat} {xs : List Int} (h : SoRow W g cap xs) {base : Nat} (hb : base ≤ g) : Kd.R (Kd.int .i64) 3 W base (fun _ => True) (.slice (some ⟨g, 0, none⟩) xs.length cap) xs := by
  obtain ⟨cur, h1, h2, h3, h4, h5⟩ := h.ex
  refine Kd.R_of_own (enc := Value.int .i64) (h1 := fun _ => rfl) ⟨?_, .inr ⟨g, cap, cur, rfl, hb, h1, h3, h4, by omega, ?_⟩⟩ (fun _ _ => trivial)
  · unfold encs; rw [List.length_map, Nat.mul_one]
  · rw [Nat.mul_one]; exact h5
theorem SoRow.of_kd {W : World} {base : Nat} {ok : Nat → Prop} {v : Value} {xs : List Int} (h : Kd.R (Kd.int .i64) 3 W base ok v xs) (hne : xs ≠ []) : ∃ g cap, v = .slice (some ⟨g, 0, none⟩) xs.length cap ∧ base ≤ g ∧ SoRow W g cap xs := by
  have ho := Kd.own_of_R (enc := Value.int .i64) (h1 := fun _ => rfl) h
  obtain ⟨h1, h2⟩ := ho
  rcases h2 with ⟨_, h2⟩ | ⟨g, cap, cur, rfl, hb, hg, hn, hc, hs, ht⟩
  · exact absurd (List.eq_nil_of_length_eq_zero h2) hne
  · exact ⟨g, cap, rfl, hb, cur, hg, by omega, hn, hc, by rw [Nat.mul_one] at ht; exact ht⟩
def slices_Sort_int_int.f (l0 : List Int) : Option (List Int) := if l0.length ≤ 1000000 then some (l0.mergeSort fun x y => decide (x ≤ y)) else none
set_option maxHeartbeats 1000000 in
theorem slices_Sort_int_int.calls (P0_ : Nat → Prop) (u9000_ : Value) (l0 : List Int) (r1 : List Int) (w0 w : World) (hB : Below w0.heap.size w0 w) (ho0 : Kd.R (Kd.int .i64) 3 w w0.heap.size P0_ u9000_ l0) (h : slices_Sort_int_int.f l0 = some r1) :
    Calls Try.prog 53 #[u9000_] w fun e w' => e = .returned (.tuple #[]) ∧ Kd.R (Kd.int .i64) 3 w' w0.heap.size (fun k_ => (P0_ k_ ∨ w.heap.size ≤ k_)) u9000_ r1 ∧ Below w0.heap.size w0 w' ∧ Kept w w' (fun k_ => P0_ k_) := by
  unfold slices_Sort_int_int.f at h
  by_cases c : l0.length ≤ 1000000
  · rw [if_pos c] at h
    obtain rfl := Option.some.inj h
    have ho := Kd.own_of_R (enc := Value.int .i64) (h1 := fun _ => rfl) ho0
    obtain ⟨h1, h2⟩ := ho
    rcases h2 with ⟨rfl, h2⟩ | ⟨g, cap, cur, rfl, hb, hg, hn, hc, hs, ht⟩
    · obtain rfl := List.eq_nil_of_length_eq_zero h2
      refine (Try.slices_Sort_int_none none 0 w).mono ?_
      rintro e w' ⟨rfl, rfl⟩
      exact ⟨rfl, by rw [List.mergeSort_nil]; exact Kd.R_nil _ _ _ _ _, hB, Kept.refl _ _⟩
    · have hrow : SoRow w g cap l0 := ⟨cur, hg, by omega, hn, hc, by rw [Nat.mul_one] at ht; exact ht⟩
      have hP : P0_ g := ho0.1 g rfl
      refine (Try.slices_Sort_int g 0 cap l0 w hrow.holds (so_blk hrow) (by omega)).mono ?_
      rintro e w' ⟨rfl, q, os, rfl⟩
      have hl : (l0.mergeSort fun x y => decide (x ≤ y)).length = l0.length := List.length_mergeSort _
      have hput := (hrow.put (ys := l0.mergeSort fun x y => decide (x ≤ y)) q (by omega)).grow os
      have hbp := so_below_put hB q g hb (l0.mergeSort fun x y => decide (x ≤ y)).toArray
      have hsz : (Go.Sort.putRow (Value.int .i64) (Go.Sort.ahead w q) g 0 (l0.mergeSort fun x y => decide (x ≤ y)).toArray).heap.size = w.heap.size := by
        show (w.heap.modify g _).size = _
        rw [Array.size_modify]
      have hgw := so_blk hrow
      refine ⟨rfl, ?_, so_below_grow hbp (by omega) os, ?_, ?_⟩
      · obtain ⟨cur2, k1, k2, k3, k4, k5⟩ := hput.ex
        refine Kd.R_of_own (enc := Value.int .i64) (h1 := fun _ => rfl) ⟨?_, .inr ⟨g, cap, cur2, by rw [hl], hb, k1, k3, k4, by omega, ?_⟩⟩ (fun k hk => ?_)
        · unfold encs; rw [List.length_map, Nat.mul_one]
        · rw [Nat.mul_one]; exact k5
        · have : g = k := by simpa [Value.ownBlock] using hk
          exact .inl (this ▸ hP)
      · show w.heap.size ≤ ((Go.Sort.putRow (Value.int .i64) (Go.Sort.ahead w q) g 0 _).heap ++ os).size
        rw [Array.size_append]; omega
      · intro k hk hne
        rw [Go.Sort.heap_grow_old _ os (by omega)]
        exact so_put_old q g _ (fun e => hne (e ▸ hP))
  · rw [if_neg c] at h
    cases h

/-! ### impl_FarthestOf: function 30 -/
mutual
def impl_FarthestOf.j0 : Nat → Int → Int → Int → Int → Bool → Option (Int × Bool)
  | 0, _, _, _, _, _ => none
  | k + 1, x0, x1, x2, x3, x27 => if x27 = true then (some (0, false)) else ((impl_imagesNear.f x0 x1 x2 (wrap64 ((wrap64 (2 * x0)) * 42))).bind fun t129 => (impl_FarthestOf.l0 k x2 x3 (([] : List Int)) t129 (t129.length : Int) 0))
def impl_FarthestOf.l0 : Nat → Int → Int → List Int → List Int → Int → Int → Option (Int × Bool)
  | 0, _, _, _, _, _, _ => none
  | k + 1, x2, x3, x10, x35, x36, x37 => if x37 < x36 then (if 0 ≤ x37 then (if x37 < (x35.length : Int) then ((impl_distance.f (rd x35 x37) x2).bind fun t133 => (if x10.length < 17592186044416 then (impl_FarthestOf.l0 k x2 x3 (x10 ++ [t133]) x35 x36 (wrap64 (x37 + 1))) else (none))) else (none)) else (none)) else ((slices_Sort_int_int.f x10).bind fun t137 => (if 0 ≤ (wrap64 (x3 - 1)) then (if (wrap64 (x3 - 1)) < (x10.length : Int) then (some (rd t137 (wrap64 (x3 - 1)), true)) else (none)) else (none)))
end
def impl_FarthestOf.f (k : Nat) (a0 : Int) (a1 : Int) (a2 : Int) (a3 : Int) : Option (Int × Bool) := (impl_isCorridor.f a0 a1).bind fun t123 => (if t123 = true then ((impl_isCorridor.f a0 a2).bind fun t124 => (if t124 = true then ((impl_within.f a3 1 40).bind fun t125 => (impl_FarthestOf.j0 k a0 a1 a2 a3 (!t125))) else (impl_FarthestOf.j0 k a0 a1 a2 a3 true))) else (impl_FarthestOf.j0 k a0 a1 a2 a3 true))
theorem impl_FarthestOf.mono_l : ∀ k, (∀ y0 y1 y2 y3 y4, LeO (impl_FarthestOf.j0 k y0 y1 y2 y3 y4) (impl_FarthestOf.j0 (k + 1) y0 y1 y2 y3 y4)) ∧ (∀ y0 y1 y2 y3 y4 y5, LeO (impl_FarthestOf.l0 k y0 y1 y2 y3 y4 y5) (impl_FarthestOf.l0 (k + 1) y0 y1 y2 y3 y4 y5))
  | 0 => ⟨fun _ _ _ _ _ r h => by simp [impl_FarthestOf.j0] at h, fun _ _ _ _ _ _ r h => by simp [impl_FarthestOf.l0] at h⟩
  | k + 1 => by
    obtain ⟨ih0, ih1⟩ := impl_FarthestOf.mono_l k
    refine ⟨?_, ?_⟩
    · intro y0 y1 y2 y3 y4
      unfold impl_FarthestOf.j0
      repeat' first
      | (with_reducible exact ih0 _ _ _ _ _)
      | (with_reducible exact ih1 _ _ _ _ _ _)
      | (with_reducible exact LeO.refl _)
      | (with_reducible exact LeO.none _)
      | (with_reducible refine LeO.ite ?_ ?_)
      | (with_reducible refine LeO.bind ?_ (fun _ => ?_))
      | exact ih0 _ _ _ _ _
      | exact ih1 _ _ _ _ _ _
      | exact LeO.none _
      | refine LeO.ite ?_ ?_
      | refine LeO.bind ?_ (fun _ => ?_)
    · intro y0 y1 y2 y3 y4 y5
      unfold impl_FarthestOf.l0
      repeat' first
      | (with_reducible exact ih0 _ _ _ _ _)
      | (with_reducible exact ih1 _ _ _ _ _ _)
      | (with_reducible exact LeO.refl _)
      | (with_reducible exact LeO.none _)
      | (with_reducible refine LeO.ite ?_ ?_)
      | (with_reducible refine LeO.bind ?_ (fun _ => ?_))
      | exact ih0 _ _ _ _ _
      | exact ih1 _ _ _ _ _ _
      | exact LeO.none _
      | refine LeO.ite ?_ ?_
      | refine LeO.bind ?_ (fun _ => ?_)
theorem impl_FarthestOf.mono : ∀ a0 a1 a2 a3 k, LeO (impl_FarthestOf.f k a0 a1 a2 a3) (impl_FarthestOf.f (k + 1) a0 a1 a2 a3) := by
  intro a0 a1 a2 a3 k
  obtain ⟨ih0, ih1⟩ := impl_FarthestOf.mono_l k
  unfold impl_FarthestOf.f
  repeat' first
      | (with_reducible exact ih0 _ _ _ _ _)
      | (with_reducible exact ih1 _ _ _ _ _ _)
      | (with_reducible exact LeO.refl _)
      | (with_reducible exact LeO.none _)
      | (with_reducible refine LeO.ite ?_ ?_)
      | (with_reducible refine LeO.bind ?_ (fun _ => ?_))
      | exact ih0 _ _ _ _ _
      | exact ih1 _ _ _ _ _ _
      | exact LeO.none _
      | refine LeO.ite ?_ ?_
      | refine LeO.bind ?_ (fun _ => ?_)
set_option maxHeartbeats 8000000 in
set_option maxRecDepth 100000 in
theorem impl_FarthestOf.calls (k : Nat) (a0 : Int) (a1 : Int) (a2 : Int) (a3 : Int) (r1 : Int) (r2 : Bool) (w : World) (h : impl_FarthestOf.f k a0 a1 a2 a3 = some (r1, r2)) :
    Calls Try.prog 30 #[.int .i64 a0, .int .i64 a1, .int .i64 a2, .int .i64 a3] w fun e w' => e = .returned (.tuple #[.int .i64 r1, .bool r2]) ∧ Below w.heap.size w w' := by
  have HB := Aside0.mk (Below.refl w.heap.size w)
  have H : ((impl_isCorridor.f a0 a1).bind fun t123 => (if t123 = true then ((impl_isCorridor.f a0 a2).bind fun t124 => (if t124 = true then ((impl_within.f a3 1 40).bind fun t125 => (impl_FarthestOf.j0 k a0 a1 a2 a3 (!t125))) else (impl_FarthestOf.j0 k a0 a1 a2 a3 true))) else (impl_FarthestOf.j0 k a0 a1 a2 a3 true))) = some (r1, r2) := h
  clear h
  have HC5 := Aside0.mk H
  clear H
  go_enter Try.func30, Try.ntmps30
  go_upto_region 1 with (fail)
  go_cut [27] (fun v27 wc => ∃ (kq : Nat) (x27_4 : Bool), v27 = .bool x27_4 ∧ Aside0 (impl_FarthestOf.j0 kq a0 a1 a2 a3 x27_4 = some (r1, r2)) ∧ Aside0 (kq ≤ k) ∧ Aside0 (Below w.heap.size w wc))
  case first =>
    have H := HC5.out
    clear HC5
    replace H := Option.bind_eq_some_iff.mp H
    obtain ⟨t123, A60, H⟩ := H
    replace H : (if t123 = true then ((impl_isCorridor.f a0 a2).bind fun t124 => (if t124 = true then ((impl_within.f a3 1 40).bind fun t125 => (impl_FarthestOf.j0 k a0 a1 a2 a3 (!t125))) else (impl_FarthestOf.j0 k a0 a1 a2 a3 true))) else (impl_FarthestOf.j0 k a0 a1 a2 a3 true)) = some (r1, r2) := H
    have A6 := Aside0.mk A60
    clear A60
    by_cases c7 : t123 = true
    · subst c7
      have H1 : ((impl_isCorridor.f a0 a2).bind fun t124 => (if t124 = true then ((impl_within.f a3 1 40).bind fun t125 => (impl_FarthestOf.j0 k a0 a1 a2 a3 (!t125))) else (impl_FarthestOf.j0 k a0 a1 a2 a3 true))) = some (r1, r2) := by rw [if_pos rfl] at H; exact H
      clear H
      have H := H1
      clear H1
      replace H := Option.bind_eq_some_iff.mp H
      obtain ⟨t124, A80, H⟩ := H
      replace H : (if t124 = true then ((impl_within.f a3 1 40).bind fun t125 => (impl_FarthestOf.j0 k a0 a1 a2 a3 (!t125))) else (impl_FarthestOf.j0 k a0 a1 a2 a3 true)) = some (r1, r2) := H
      have A8 := Aside0.mk A80
      clear A80
      by_cases c9 : t124 = true
      · subst c9
        have H1 : ((impl_within.f a3 1 40).bind fun t125 => (impl_FarthestOf.j0 k a0 a1 a2 a3 (!t125))) = some (r1, r2) := by rw [if_pos rfl] at H; exact H
        clear H
        have H := H1
        clear H1
        replace H := Option.bind_eq_some_iff.mp H
        obtain ⟨t125, A100, H⟩ := H
        replace H : (impl_FarthestOf.j0 k a0 a1 a2 a3 (!t125)) = some (r1, r2) := H
        have A10 := Aside0.mk A100
        clear A100
        have H' := Aside0.mk H
        clear H
        go_wp2_with (first | ((with_reducible refine gate_callee (f := 44) rfl ?_); refine goesL_ (some 15) rfl rfl Try.func44 (by kernel_rfl) rfl #[.int .i64 a0, .int .i64 a1] rfl (by (try simp only [List.map_toArray, List.map_cons, List.map_nil]); first | done | rfl | (simp only [List.length_drop, List.length_take]; rfl)) ?_; (with_reducible refine (impl_isCorridor.calls a0 a1 true _ A6.out).mono ?_); rintro e w' ⟨rfl, ⟨nd, rfl⟩⟩; refine ⟨_, rfl, ?_⟩) | (go_at_call 44; (with_reducible refine (impl_isCorridor.calls a0 a2 true _ A8.out).mono ?_); rintro e w' ⟨rfl, ⟨nd, rfl⟩⟩) | (go_at_call 35; (with_reducible refine (impl_within.calls a3 1 40 t125 _ A10.out).mono ?_); rintro e w' ⟨rfl, ⟨nd, rfl⟩⟩))
        go_meet
        case rel => exact ⟨_, (!t125), (by first | rfl | (simp; done) | (simp [*]; done)), H', ⟨by first | omega | exact Nat.le_refl _⟩, ⟨by repeat (first | (with_reducible first | exact HB.out | apply below_alloc | apply pw_below_drewN | apply below_drew1) | exact HB.out)⟩⟩
      · replace c9 := Bool.eq_false_iff.mpr c9
        subst c9
        have H1 : (impl_FarthestOf.j0 k a0 a1 a2 a3 true) = some (r1, r2) := by rw [if_neg (show ¬ (false = true) by decide)] at H; exact H
        clear H
        have H := H1
        clear H1
        have H' := Aside0.mk H
        clear H
        go_wp2_with (first | ((with_reducible refine gate_callee (f := 44) rfl ?_); refine goesL_ (some 15) rfl rfl Try.func44 (by kernel_rfl) rfl #[.int .i64 a0, .int .i64 a1] rfl (by (try simp only [List.map_toArray, List.map_cons, List.map_nil]); first | done | rfl | (simp only [List.length_drop, List.length_take]; rfl)) ?_; (with_reducible refine (impl_isCorridor.calls a0 a1 true _ A6.out).mono ?_); rintro e w' ⟨rfl, ⟨nd, rfl⟩⟩; refine ⟨_, rfl, ?_⟩) | (go_at_call 44; (with_reducible refine (impl_isCorridor.calls a0 a2 false _ A8.out).mono ?_); rintro e w' ⟨rfl, ⟨nd, rfl⟩⟩))
        go_meet
        case rel => exact ⟨_, (true), (by first | rfl | (simp; done) | (simp [*]; done)), H', ⟨by first | omega | exact Nat.le_refl _⟩, ⟨by repeat (first | (with_reducible first | exact HB.out | apply below_alloc | apply pw_below_drewN | apply below_drew1) | exact HB.out)⟩⟩
    · replace c7 := Bool.eq_false_iff.mpr c7
      subst c7
      have H1 : (impl_FarthestOf.j0 k a0 a1 a2 a3 true) = some (r1, r2) := by rw [if_neg (show ¬ (false = true) by decide)] at H; exact H
      clear H
      have H := H1
      clear H1
      have H' := Aside0.mk H
      clear H
      go_wp2_with (first | ((with_reducible refine gate_callee (f := 44) rfl ?_); refine goesL_ (some 15) rfl rfl Try.func44 (by kernel_rfl) rfl #[.int .i64 a0, .int .i64 a1] rfl (by (try simp only [List.map_toArray, List.map_cons, List.map_nil]); first | done | rfl | (simp only [List.length_drop, List.length_take]; rfl)) ?_; (with_reducible refine (impl_isCorridor.calls a0 a1 false _ A6.out).mono ?_); rintro e w' ⟨rfl, ⟨nd, rfl⟩⟩; refine ⟨_, rfl, ?_⟩))
      go_meet
      case rel => exact ⟨_, (true), (by first | rfl | (simp; done) | (simp [*]; done)), H', ⟨by first | omega | exact Nat.le_refl _⟩, ⟨by repeat (first | (with_reducible first | exact HB.out | apply below_alloc | apply pw_below_drewN | apply below_drew1) | exact HB.out)⟩⟩
  case rest =>
    clear HC5
    try clear p2
    try clear c3
    try clear c4
    try clear c7
    try clear c9
    obtain ⟨kq, x27_4, rfl, HA, HJ4, HB⟩ := hcut
    cases kq with
    | zero => exact absurd HA.out (by simp [impl_FarthestOf.j0])
    | succ kj4 =>
      have H := HA.out
      clear HA
      simp only [impl_FarthestOf.j0] at H
      by_cases c11 : x27_4 = true
      · subst c11
        have H1 : (some (0, false)) = some (r1, r2) := by rw [if_pos rfl] at H; exact H
        clear H
        have H := H1
        clear H1
        simp only [Option.some.injEq, Prod.mk.injEq] at H
        obtain ⟨rfl, rfl⟩ := H
        go_wp2
        go_ret2
        exact ⟨by first | rfl | (simp [errW_none, errW_some] <;> rfl) | (simp [*, errW_none, errW_some] <;> rfl), by repeat (first | (with_reducible first | exact HB.out | apply below_alloc | apply pw_below_drewN | apply below_drew1) | exact HB.out)⟩
      · replace c11 := Bool.eq_false_iff.mpr c11
        subst c11
        have H1 : ((impl_imagesNear.f a0 a1 a2 (wrap64 ((wrap64 (2 * a0)) * 42))).bind fun t129 => (impl_FarthestOf.l0 kj4 a2 a3 (([] : List Int)) t129 (t129.length : Int) 0)) = some (r1, r2) := by rw [if_neg (show ¬ (false = true) by decide)] at H; exact H
        clear H
        have H := H1
        clear H1
        obtain ⟨y126, hy126⟩ : ∃ y_ : List Int, y_ = (([] : List Int)) := ⟨_, rfl⟩
        replace H : ((impl_imagesNear.f a0 a1 a2 (wrap64 ((wrap64 (2 * a0)) * 42))).bind fun t129 => (impl_FarthestOf.l0 kj4 a2 a3 y126 t129 (t129.length : Int) 0)) = some (r1, r2) := by first | (rw [hy126]; with_reducible exact H) | (have H2_ := (Option.bind_some _ _).symm.trans H; rw [hy126]; with_reducible exact H2_) | (have H2_ := (Option.bind_some _ _).symm.trans H; with_reducible exact H2_) | with_reducible exact H | (rw [hy126]; exact H) | exact H
        have Ny126 := Aside0.mk hy126
        clear hy126
        replace H := Option.bind_eq_some_iff.mp H
        obtain ⟨t129, A120, H⟩ := H
        replace H : (impl_FarthestOf.l0 kj4 a2 a3 y126 t129 (t129.length : Int) 0) = some (r1, r2) := H
        have A12 := Aside0.mk A120
        clear A120
        have H' := Aside0.mk H
        clear H
        go_wp2_with (first | ((with_reducible refine gate_dst (N := 28) rfl ?_); refine Kd.R_lit (Kd.int .i64) _ 3 ?hg (N := 28) ?hd (xs := ([] : List Int)) (inner := []) (ok := fun _ => True) (okp := fun _ => True) ?hr ?hp (fun _ hk => hk) trivial (Below.refl _ _) (Nat.le_refl _) (by simp) ?_; (case hd => rfl); (case hg => rfl); (case hr => first | (go_simp; done) | (go_simp; rfl)); (case hp => exact (Reps.none _ _)); intro v127 w13 ho14 hb hg_ hnew_; clear hg_ hnew_; (first | rw [← Ny126.out] at ho14 | (simp only [Int.reduceToNat] at ho14; rw [← Ny126.out] at ho14)); have n0_ := Aside0.mk (Kd.R_lower ho14 (below_size (by repeat (first | (with_reducible first | exact HB.out | apply below_alloc | apply pw_below_drewN | apply below_drew1) | exact HB.out)))); have n1_ := Aside0.mk (below_step (by repeat (first | (with_reducible first | exact HB.out | apply below_alloc | apply pw_below_drewN | apply below_drew1) | exact HB.out)) hb); clear HB; have HO128 := n0_; have HB := n1_; clear n0_ n1_; clear hb ho14) | ((with_reducible refine gate_callee (f := 49) rfl ?_); refine goesL_ (some 35) rfl rfl Try.func49 (by kernel_rfl) rfl #[.int .i64 a0, .int .i64 a1, .int .i64 a2, .int .i64 (wrap64 ((wrap64 (2 * a0)) * 42))] rfl (by (try simp only [List.map_toArray, List.map_cons, List.map_nil]); first | done | rfl | (simp only [List.length_drop, List.length_take]; rfl)) ?_; (with_reducible refine (impl_imagesNear.calls a0 a1 a2 (wrap64 ((wrap64 (2 * a0)) * 42)) t129 _ A12.out).mono ?_); rintro e w15 ⟨v130, rfl, ho0, hb⟩; refine ⟨_, rfl, ?_⟩; have n0_ := Aside0.mk (Kd.R_elder' (by (with_reducible repeat (first | apply Kd.R_alloc | apply Kd.R_drewN | apply Kd.R_drew)); exact HO128.out) (Kd.R_base ho0) hb); have n1_ := Aside0.mk (Kd.R_lower (Kd.R_new' ho0 (Kd.R_lt (by (with_reducible repeat (first | apply Kd.R_alloc | apply Kd.R_drewN | apply Kd.R_drew)); exact HO128.out))) (below_size (by repeat (first | (with_reducible first | exact HB.out | apply below_alloc | apply pw_below_drewN | apply below_drew1) | exact HB.out)))); have n2_ := Aside0.mk (below_step (by repeat (first | (with_reducible first | exact HB.out | apply below_alloc | apply pw_below_drewN | apply below_drew1) | exact HB.out)) hb); clear HO128; clear HB; have HO128 := n0_; have HO131 := n1_; have HB := n2_; clear n0_ n1_ n2_; (try clear hb); (try clear hb2); (try clear hk); (try clear hi); (try clear ho0); obtain ⟨Ao16, co16, eo16⟩ := Kd.R_slice HO131.out; subst eo16))
        go_loopg [10, 37] kj4 (fun kq v10 v37 w' => ∃ (x10_2 : List Int) (x37_2 : Int), v37 = .int .i64 x37_2 ∧ Aside0 (impl_FarthestOf.l0 kq a2 a3 x10_2 t129 (t129.length : Int) x37_2 = some (r1, r2)) ∧ Aside0 (kq ≤ kj4) ∧ Aside0 (Kd.R (Kd.int .i64) 3 w' w.heap.size (fun k_ => some k_ ≠ ((.slice Ao16 t129.length co16) : Value).ownBlock) v10 x10_2) ∧ Aside0 (Kd.R (Kd.int .i64) 3 w' w.heap.size (fun k_ => some k_ ≠ (v10 : Value).ownBlock) (.slice Ao16 t129.length co16) t129) ∧ Aside0 (Below w.heap.size w w'))
        case atStart => exact ⟨(y126), (0), (by first | rfl | (simp; done) | (simp [*]; done)), H', ⟨Nat.le_refl _⟩, ⟨by (with_reducible repeat (first | apply Kd.R_alloc | apply Kd.R_drewN | apply Kd.R_drew)); exact Kd.R_mono HO128.out (fun _ hk => hk.2)⟩, ⟨by (with_reducible repeat (first | apply Kd.R_alloc | apply Kd.R_drewN | apply Kd.R_drew)); exact Kd.R_mono HO131.out (fun _ hk => hk.2)⟩, ⟨by repeat (first | (with_reducible first | exact HB.out | apply below_alloc | apply pw_below_drewN | apply below_drew1) | exact HB.out)⟩⟩
        case round =>
          clear H'
          try clear c1
          try clear p2
          try clear c3
          try clear c4
          try clear p6
          try clear c7
          try clear c9
          try clear c11
          try clear p2
          obtain ⟨x10_2, x37_2, rfl, HA, HK2, HO_10, HO_35, HB⟩ := hrel
          cases gk with
          | zero => exact absurd HA.out (by simp [impl_FarthestOf.l0])
          | succ k2 =>
            have H := HA.out
            clear HA
            simp only [impl_FarthestOf.l0] at H
            by_cases c17 : x37_2 < (t129.length : Int)
            · rw [if_pos c17] at H
              have c17b0 : decide (x37_2 < (t129.length : Int)) = true := decide_eq_true c17
              clear c17
              by_cases c18 : 0 ≤ x37_2
              · rw [if_pos c18] at H
                have c18b0 : decide (0 ≤ x37_2) = true := decide_eq_true c18
                clear c18
                by_cases c19 : x37_2 < (t129.length : Int)
                · rw [if_pos c19] at H
                  have c19b0 : decide (x37_2 < (t129.length : Int)) = true := decide_eq_true c19
                  clear c19
                  replace H := Option.bind_eq_some_iff.mp H
                  obtain ⟨t133, A200, H⟩ := H
                  replace H : (if x10_2.length < 17592186044416 then (impl_FarthestOf.l0 k2 a2 a3 (x10_2 ++ [t133]) t129 (t129.length : Int) (wrap64 (x37_2 + 1))) else (none)) = some (r1, r2) := H
                  have A20 := Aside0.mk A200
                  clear A200
                  by_cases c21 : x10_2.length < 17592186044416
                  · rw [if_pos c21] at H
                    have LMc21 := Aside0.mk c21
                    clear c21
                    obtain ⟨y134, hy134⟩ : ∃ y_ : List Int, y_ = (x10_2 ++ [t133]) := ⟨_, rfl⟩
                    replace H : (impl_FarthestOf.l0 k2 a2 a3 y134 t129 (t129.length : Int) (wrap64 (x37_2 + 1))) = some (r1, r2) := by first | (rw [hy134]; with_reducible exact H) | (have H2_ := (Option.bind_some _ _).symm.trans H; rw [hy134]; with_reducible exact H2_) | (have H2_ := (Option.bind_some _ _).symm.trans H; with_reducible exact H2_) | with_reducible exact H | (rw [hy134]; exact H) | exact H
                    have Ny134 := Aside0.mk hy134
                    clear hy134
                    have H' := Aside0.mk H
                    clear H
                    have p132 : 0 ≤ (x37_2 : Int) := of_decide_eq_true (by first | (with_reducible assumption) | assumption)
                    have q132 : x37_2 < (t129.length : Int) := of_decide_eq_true (by first | (with_reducible assumption) | assumption)
                    obtain ⟨ad132, e132, hx132_0⟩ := Kd.at_int (Kd.R_reads' HO_35.out).2.2 x37_2 p132 q132
                    cases e132
                    replace p132 := eq_true p132
                    replace q132 := eq_true q132
                    go_wp2_with (first | ((with_reducible refine gate_callee (f := 51) rfl ?_); refine goesL_ (some 44) rfl rfl Try.func51 (by kernel_rfl) rfl #[.int .i64 (rd t129 x37_2), .int .i64 a2] rfl (by (try simp only [List.map_toArray, List.map_cons, List.map_nil]); first | done | rfl | (simp only [List.length_drop, List.length_take]; rfl)) ?_; (with_reducible refine (impl_distance.calls (rd t129 x37_2) a2 t133 _ A20.out).mono ?_); rintro e w22 ⟨rfl, hb⟩; refine ⟨_, rfl, ?_⟩; have n0_ := Aside0.mk (Kd.R_below (by (with_reducible repeat (first | apply Kd.R_alloc | apply Kd.R_drewN | apply Kd.R_drew)); exact HO_10.out) hb); have n1_ := Aside0.mk (Kd.R_below (by (with_reducible repeat (first | apply Kd.R_alloc | apply Kd.R_drewN | apply Kd.R_drew)); exact HO_35.out) hb); have n2_ := Aside0.mk (below_step (by repeat (first | (with_reducible first | exact HB.out | apply below_alloc | apply pw_below_drewN | apply below_drew1) | exact HB.out)) hb); clear HO_10; clear HO_35; clear HB; have HO_10 := n0_; have HO_35 := n1_; have HB := n2_; clear n0_ n1_ n2_; (try clear hb); (try clear hb2); (try clear hk); (try clear hi)) | ((with_reducible refine gate_builtin (b := .append) (xs := #[.tmp 41, .tmp 45]) rfl ?_); at_builtin; refine Kd.R_append (Kd.int .i64) (w0 := w) w.heap.size rfl (.tmp 41) (.tmp 45) 22 3 (.int .i64 0) 8 rfl Try.underlying22 info3 rfl (by decide) (by omega) u10 x10_2 t133 [.int .i64 t133] (fun k_ => some k_ ≠ (.slice (some ad132) t129.length co16 : Value).ownBlock) (fun _ => False) rfl rfl ?aP (fun _ hk => hk.elim) ?aF ?aO ?aB ?aS ?aL ?_; (case aP => exact rfl); (case aB => exact (by repeat (first | (with_reducible first | exact HB.out | apply below_alloc | apply pw_below_drewN | apply below_drew1) | exact HB.out))); (case aF => exact (fun k_ hk => Kd.fresh' (Kd.R_lt (by (with_reducible repeat (first | apply Kd.R_alloc | apply Kd.R_drewN | apply Kd.R_drew)); exact HO_35.out)) k_ hk)); (case aO => exact (by (with_reducible repeat (first | apply Kd.R_alloc | apply Kd.R_drewN | apply Kd.R_drew)); exact HO_10.out)); (case aS => exact (below_size (by repeat (first | (with_reducible first | exact HB.out | apply below_alloc | apply pw_below_drewN | apply below_drew1) | exact HB.out)))); (case aL => have := LMc21.out; omega); intro v135 w23 ho hb hg hat; rw [← Ny134.out] at ho; have n0_ := Aside0.mk (Kd.R_after (ok := (fun _ => True)) (by (with_reducible repeat (first | apply Kd.R_alloc | apply Kd.R_drewN | apply Kd.R_drew)); exact Kd.R_mono HO_35.out (fun _ hk => ⟨trivial, hk⟩)) hg hat); have n1_ := Aside0.mk (hb); have n2_ := Aside0.mk (ho); clear HO_35; clear HB; clear HO_10; have HO_35 := n0_; have HB := n1_; have HO136 := n2_; clear n0_ n1_ n2_; clear ho hb hg hat))
                    go_roundg k2
                    case measure => have := HJ4.out; have := HK2.out; omega
                    case rel => exact ⟨(y134), (wrap64 (x37_2 + 1)), (by first | rfl | (simp; done) | (simp [*]; done)), H', ⟨by have := HJ4.out; have := HK2.out; omega⟩, ⟨by (with_reducible repeat (first | apply Kd.R_alloc | apply Kd.R_drewN | apply Kd.R_drew)); exact HO136.out⟩, ⟨by (with_reducible repeat (first | apply Kd.R_alloc | apply Kd.R_drewN | apply Kd.R_drew)); exact Kd.R_mono HO_35.out (fun _ hk => hk.2)⟩, ⟨by repeat (first | (with_reducible first | exact HB.out | apply below_alloc | apply pw_below_drewN | apply below_drew1) | exact HB.out)⟩⟩
                  · rw [if_neg c21] at H
                    exact absurd H (by simp)
                · rw [if_neg c19] at H
                  exact absurd H (by simp)
              · rw [if_neg c18] at H
                exact absurd H (by simp)
            · rw [if_neg c17] at H
              have c17b0 : decide (x37_2 < (t129.length : Int)) = false := decide_eq_false c17
              clear c17
              replace H := Option.bind_eq_some_iff.mp H
              obtain ⟨t137, A240, H⟩ := H
              replace H : (if 0 ≤ (wrap64 (a3 - 1)) then (if (wrap64 (a3 - 1)) < (x10_2.length : Int) then (some (rd t137 (wrap64 (a3 - 1)), true)) else (none)) else (none)) = some (r1, r2) := H
              have A24 := Aside0.mk A240
              clear A240
              obtain ⟨ji25, hji25⟩ : ∃ j_ : Int, (wrap64 (a3 - 1)) = j_ := ⟨_, rfl⟩
              replace H : (if 0 ≤ (ji25) then (if (ji25) < (x10_2.length : Int) then (some (rd t137 (ji25), true)) else (none)) else (none)) = some (r1, r2) := by first | (rw [hji25] at H; exact H) | (simp only [hji25] at H ⊢; exact H)
              (try rw [hji25] at A24)
              have hji25w : (IntKind.i64.wrap (a3 - 1)) = ji25 := (i64_w _).trans hji25
              by_cases c26 : 0 ≤ (ji25)
              · rw [if_pos c26] at H
                have c26b0 : decide (0 ≤ (ji25)) = true := decide_eq_true c26
                clear c26
                by_cases c27 : (ji25) < (x10_2.length : Int)
                · rw [if_pos c27] at H
                  have c27b0 : decide ((ji25) < (x10_2.length : Int)) = true := decide_eq_true c27
                  clear c27
                  simp only [Option.some.injEq, Prod.mk.injEq] at H
                  obtain ⟨rfl, rfl⟩ := H
                  obtain ⟨Ao28, co28, eo28⟩ := Kd.R_slice HO_10.out
                  subst eo28
                  go_wp2_with (first | ((with_reducible refine gate_callee (f := 53) rfl ?_); refine goesL_ (some 49) rfl rfl Try.func53 (by kernel_rfl) rfl #[.slice Ao28 x10_2.length co28] rfl (by (try simp only [List.map_toArray, List.map_cons, List.map_nil]); first | done | rfl | (simp only [List.length_drop, List.length_take]; rfl)) ?_; (with_reducible refine (slices_Sort_int_int.calls (fun k_ => some k_ = (.slice Ao28 x10_2.length co28 : Value).ownBlock) (.slice Ao28 x10_2.length co28) x10_2 t137 w _ ?side1 ?side2 A24.out).mono ?_); (case side1 => repeat (first | (with_reducible first | exact HB.out | apply below_alloc | apply pw_below_drewN | apply below_drew1) | exact HB.out)); (case side2 => exact Kd.R_tight rfl HO_10.out); rintro e w29 ⟨rfl, hy0, hb, hkp⟩; refine ⟨_, rfl, ?_⟩; have n0_ := Aside0.mk (Kd.R_reok rfl hy0 (fun k_ e_ => HO_10.out.1 k_ e_)); have n1_ := Aside0.mk (Kd.R_mono (ok' := fun k_ => some k_ ≠ (.slice Ao28 x10_2.length co28 : Value).ownBlock) (Kd.R_keptB (HO_35.out) hkp (fun k_ hk_ hs_ => (hk_) hs_)) (fun k_ hk_ => hk_.1)); have n2_ := Aside0.mk (hb); clear HO_10; clear HO_35; clear HB; have HO_10 := n0_; have HO_35 := n1_; have HB := n2_; clear n0_ n1_ n2_; (try clear hb); (try clear hkp); (try clear hy0); have p138 : 0 ≤ ((ji25) : Int) := of_decide_eq_true (by first | (with_reducible assumption) | assumption); have q138 : (ji25) < (t137.length : Int) := (by have h_ : ((ji25) : Int) < ((x10_2.length : Int) : Int) := of_decide_eq_true (by first | (with_reducible assumption) | assumption); have e_ := (Kd.R_reads' HO_10.out).1; omega); have ql138 : (((ji25) : Int) < ((x10_2.length : Int) : Int)) = True := eq_true (of_decide_eq_true (by first | (with_reducible assumption) | assumption)); obtain ⟨ad138, e138, hx138_0⟩ := Kd.at_int (Kd.R_reads' HO_10.out).2.2 (ji25) p138 q138; cases e138; replace p138 := eq_true p138; replace q138 := eq_true q138))
                  go_ret2
                  exact ⟨by first | rfl | (simp [errW_none, errW_some] <;> rfl) | (simp only [← hji25]; first | rfl | (simp [errW_none, errW_some] <;> rfl)) | (simp [*, errW_none, errW_some] <;> rfl), by repeat (first | (with_reducible first | exact HB.out | apply below_alloc | apply pw_below_drewN | apply below_drew1) | exact HB.out)⟩
                · rw [if_neg c27] at H
                  exact absurd H (by simp)
              · rw [if_neg c26] at H
                exact absurd H (by simp)

end Go.Proofs.Ytgepcafeldhncaa.PFnExactFarthestOf
