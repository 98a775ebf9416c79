-- Written by xprint.py, a program of this session, for this seat; Lean checks it.
import Derived.Test.YtnmhefdjakjngaaGreatDoorVM
import Derived.Test.YtnmhefdjakjngaaGreatDoorPFnMirrorsFacex0
import Derived.Test.YtnmhefdjakjngaaGreatDoorPFnMirrorsFacex2
import Derived.Test.YtnmhefdjakjngaaGreatDoorPFnMirrorsFacex3
import Derived.Test.YtnmhefdjakjngaaGreatDoorPFnMirrorsFacex7
namespace Go.Proofs.YtnmhefdjakjngaaGreatDoor.PFnMirrorsFace
open Go.Proofs.YtnmhefdjakjngaaGreatDoorV Go.RowKit Go.Proofs.YtnmhefdjakjngaaGreatDoorW.PrintWords Go.Proofs.YtnmhefdjakjngaaGreatDoorW.PrintLast Go.Proofs.YtnmhefdjakjngaaGreatDoorW.PrintMore
attribute [local go_sem] max2_int min2_int max_two min_two max_three min_three max_four min_four   -- for this text's walks alone
set_option linter.unusedVariables false
set_option linter.unusedSimpArgs false

/-! ### impl_imagesNear: function 55 -/
open Go.Lib Go.Sort in
/-- A row of numbers, one block of the call's own. -/
structure ImRow (W : World) (g cap : Nat) (xs : List Int) : Prop where
  ex : ∃ cur, W.heap[g]? = some (.cells cur 3 (0, 0)) ∧ cur.size = cap ∧ xs.length ≤ cap ∧ cap ≤ maxLen ∧ cur.toList.take xs.length = xs.map (Value.int .i64)
theorem ImRow.cell {W : World} {g cap : Nat} {xs : List Int} (h : ImRow W g cap xs) (j : Nat) (hj : j < xs.length) : W.cell? ⟨g, j, none⟩ = some (.int .i64 (xs[j]!)) ∧ W.frozen? ⟨g, j, none⟩ = false := by
  obtain ⟨cur, h1, h2, h3, h4, h5⟩ := h.ex
  have e : cur[j]? = some (.int .i64 (xs[j]!)) := by
    have a : (cur.toList.take xs.length)[j]? = (xs.map (Value.int .i64))[j]? := by rw [h5]
    rw [List.getElem?_take, if_pos hj, List.getElem?_map, List.getElem?_eq_getElem hj] at a
    rw [← Array.getElem?_toList, a, getElem!_pos xs j hj]
    rfl
  constructor
  · simp [World.cell?, h1, e]
  · simp [World.frozen?, h1]
theorem ImRow.holds {W : World} {g cap : Nat} {xs : List Int} (h : ImRow W g cap xs) : Go.Sort.Holds (Value.int .i64) W g 0 xs.toArray := by
  intro j hj
  have hj' : j < xs.length := by simpa using hj
  have := h.cell j hj'
  rw [Nat.zero_add]
  have e : xs.toArray[j]! = xs[j]! := by simp
  rw [e]
  exact this
theorem im_blk {W : World} {g cap : Nat} {xs : List Int} (h : ImRow W g cap xs) : g < W.heap.size := by
  obtain ⟨cur, h1, _⟩ := h.ex
  rcases Nat.lt_or_ge g W.heap.size with c | c
  · exact c
  · rw [Array.getElem?_eq_none c] at h1; cases h1
/-- The row written anew, as long as before. -/
theorem ImRow.put {W : World} {g cap : Nat} {xs ys : List Int} (h : ImRow W g cap xs) (q : Nat) (hl : ys.length ≤ cap) : ImRow (Go.Sort.putRow (Value.int .i64) (Go.Sort.ahead W q) g 0 ys.toArray) g cap ys := by
  obtain ⟨cur, h1, h2, h3, h4, h5⟩ := h.ex
  refine ⟨Go.Sort.putCells (Value.int .i64) 0 ys.toArray cur, ?_, ?_, hl, h4, ?_⟩
  · unfold Go.Sort.putRow Go.Sort.mapBlock Go.Sort.ahead
    simp only [Array.getElem?_modify, if_true, h1, Option.map_some, Go.Sort.onCells]
  · simp [Go.Sort.putCells, h2]
  · apply List.ext_getElem?
    intro j
    rw [List.getElem?_take, List.getElem?_map]
    by_cases hj : j < ys.length
    · rw [if_pos hj, Array.getElem?_toList]
      simp only [Go.Sort.putCells, Array.getElem?_mapIdx]
      have hc : j < cur.size := by omega
      rw [Array.getElem?_eq_getElem hc, Option.map_some, if_pos ⟨Nat.zero_le _, by simpa using hj⟩, List.getElem?_eq_getElem hj]
      simp [hj]
    · rw [if_neg hj, List.getElem?_eq_none (by omega)]
      rfl
theorem ImRow.pre {W : World} {g cap : Nat} {xs ys : List Int} (h : ImRow W g cap (xs ++ ys)) : ImRow W g cap xs := by
  obtain ⟨cur, h1, h2, h3, h4, h5⟩ := h.ex
  rw [List.length_append] at h3 h5
  refine ⟨cur, h1, h2, by omega, h4, ?_⟩
  have : (cur.toList.take (xs.length + ys.length)).take xs.length = ((xs ++ ys).map (Value.int .i64)).take xs.length := by rw [h5]
  rw [List.take_take, Nat.min_eq_left (by omega), List.map_append, List.take_left' (by rw [List.length_map])] at this
  exact this
theorem ImRow.grow {W : World} {g cap : Nat} {xs : List Int} (h : ImRow W g cap xs) (os : Array Obj) : ImRow (Go.Sort.grow W os) g cap xs := by
  have hb := im_blk h
  obtain ⟨cur, h1, h2⟩ := h.ex
  exact ⟨cur, by rw [Go.Sort.heap_grow_old W os hb]; exact h1, h2⟩
theorem im_below_put {B : Nat} {w W : World} (hb : Below B w W) (q g : Nat) (hg : B ≤ g) (ys : Array Int) : Below B w (Go.Sort.putRow (Value.int .i64) (Go.Sort.ahead W q) g 0 ys) :=
  ⟨hb.os, hb.tape, hb.output, by
    refine Nat.le_trans hb.size ?_
    show W.heap.size ≤ (W.heap.modify g _).size
    rw [Array.size_modify]; exact Nat.le_refl _, fun k hk => by
    show (W.heap.modify g _)[k]? = _
    rw [Array.getElem?_modify, if_neg (by omega)]
    exact hb.block k hk⟩
theorem im_below_grow {B : Nat} {w W : World} (hb : Below B w W) (hB : B ≤ W.heap.size) (os : Array Obj) : Below B w (Go.Sort.grow W os) :=
  ⟨hb.os, hb.tape, hb.output, by
    refine Nat.le_trans hb.size ?_
    show W.heap.size ≤ (W.heap ++ os).size
    rw [Array.size_append]; omega, fun k hk => (Go.Sort.heap_grow_old W os (by omega)).trans (hb.block k hk)⟩
theorem im_put_old {W : World} (q g : Nat) (ys : Array Int) {k : Nat} (hk : k ≠ g) : (Go.Sort.putRow (Value.int .i64) (Go.Sort.ahead W q) g 0 ys).heap[k]? = W.heap[k]? := by
  show (W.heap.modify g _)[k]? = _
  rw [Array.getElem?_modify, if_neg (by omega)]
theorem ImRow.kd {W : World} {g cap : Nat} {xs : List Int} (h : ImRow W g cap xs) {base : Nat} (hb : base ≤ g) : Kd.R (Kd.int .i64) 3 W base (fun _ => True) (.slice (some ⟨g, 0, none⟩) xs.length cap) xs := by
  obtain ⟨cur, h1, h2, h3, h4, h5⟩ := h.ex
  refine Kd.R_of_own (enc := Value.int .i64) (h1 := fun _ => rfl) ⟨?_, .inr ⟨g, cap, cur, rfl, hb, h1, h3, h4, by omega, ?_⟩⟩ (fun _ _ => trivial)
  · unfold encs; rw [List.length_map, Nat.mul_one]
  · rw [Nat.mul_one]; exact h5
theorem ImRow.of_kd {W : World} {base : Nat} {ok : Nat → Prop} {v : Value} {xs : List Int} (h : Kd.R (Kd.int .i64) 3 W base ok v xs) (hne : xs ≠ []) : ∃ g cap, v = .slice (some ⟨g, 0, none⟩) xs.length cap ∧ base ≤ g ∧ ImRow W g cap xs := by
  have ho := Kd.own_of_R (enc := Value.int .i64) (h1 := fun _ => rfl) h
  obtain ⟨h1, h2⟩ := ho
  rcases h2 with ⟨_, h2⟩ | ⟨g, cap, cur, rfl, hb, hg, hn, hc, hs, ht⟩
  · exact absurd (List.eq_nil_of_length_eq_zero h2) hne
  · exact ⟨g, cap, rfl, hb, cur, hg, by omega, hn, hc, by rw [Nat.mul_one] at ht; exact ht⟩
def imDist (a b : Int) : Int := (impl_distance.f a b).getD 0
def imL (w a k0 : Int) : Nat → List Int
  | 0 => []
  | n + 1 => imL w a k0 n ++ ((if k0 + n = 0 then [] else [2 * w * (k0 + n) + a]) ++ [2 * w * (k0 + n) - a])
def imQ (w far : Int) : Int := far / (2 * w)
def impl_imagesNear.f (a0 a1 a2 a3 : Int) : Option (List Int) := if (1 ≤ a0 ∧ a0 ≤ 500) ∧ (0 ≤ a1 ∧ a1 ≤ 500) ∧ (0 ≤ a2 ∧ a2 ≤ 500) ∧ 0 ≤ a3 ∧ a3 ≤ 50000 then
  some (Lib.compact (((imL a0 a1 (-(imQ a0 a3) - 2) (2 * imQ a0 a3 + 5).toNat).filter fun x => !decide (a3 < imDist x a2)).mergeSort fun x y => decide (x ≤ y))) else none
theorem imDist_eq (a b : Int) (h1 : -1000000 ≤ a ∧ a ≤ 1000000) (h2 : -1000000 ≤ b ∧ b ≤ 1000000) : imDist a b = mx (a - b) (b - a) := by
  unfold imDist impl_distance.f
  have e1 : wrap64 (a - b) = a - b := by unfold wrap64; omega
  have e2 : wrap64 (b - a) = b - a := by unfold wrap64; omega
  rw [e1, e2]
  rfl
set_option maxHeartbeats 1000000 in
set_option maxRecDepth 100000 in
theorem imDist_calls (a b : Int) (w : World) : Calls Tryz.prog 58 #[.int .i64 a, .int .i64 b] w fun e w' => e = .returned (.int .i64 (imDist a b)) ∧ ∃ q, w' = w.drewN q := by
  go_enter Tryz.func58, Tryz.ntmps58
  go_wp2
  all_goals go_ret
  case inl =>
    have e : imDist a b = wrap64 (b - a) := by
      unfold imDist impl_distance.f mx
      rw [if_pos h]
      rfl
    exact ⟨by rw [e]; rfl, 0, rfl⟩
  case inr =>
    have e : imDist a b = wrap64 (a - b) := by
      unfold imDist impl_distance.f mx
      rw [if_neg (by omega)]
      rfl
    exact ⟨by rw [e]; rfl, 0, rfl⟩
set_option maxRecDepth 100000 in
/-- The closure that tells what is too far away. -/
theorem im_gives (seer far x : Int) (sb fb : Nat) (W : World) (hs : W.cell? ⟨sb, 0, none⟩ = some (.int .i64 seer)) (hf : W.cell? ⟨fb, 0, none⟩ = some (.int .i64 far)) :
    Go.Proofs.FnGives Tryz.prog 77 #[.pointer (some ⟨sb, 0, none⟩), .pointer (some ⟨fb, 0, none⟩)] #[.int .i64 x] (.bool (decide (far < imDist x seer))) W := by
  show Calls Tryz.prog 77 #[.int .i64 x, .pointer (some ⟨sb, 0, none⟩), .pointer (some ⟨fb, 0, none⟩)] W _
  go_enter Tryz.func77, Tryz.ntmps77
  go_wp2_with fail
  refine start_ (n := 6) (S := fun w' => (w'.cell? ⟨sb, 0, none⟩ = some (.int .i64 seer) ∧ w'.cell? ⟨fb, 0, none⟩ = some (.int .i64 far)) ∧ ∃ q, w' = W.drewN q) (ds := []) #[false, false, false, false, false, false] kr rfl rfl ⟨⟨hs, hf⟩, 1, rfl⟩ (fun hHeld => ?_)
  clear hs hf
  generalize W.drew = W1 at hHeld ⊢
  refine pure_ (i := 0) (N := some 5) (v := ?_) (a' := ?_) #[true, false, false, false, false, false] rfl rfl kr (fun _ _ _ h => h) (Or.inl ⟨by rfl, ?_⟩) ?_ ?_
  rotate_left
  · intro w'
    go_simp
    with_reducible rfl
  rotate_left
  · simp only [Act.put, List.setIfInBounds_toArray, List.set_cons_zero, List.set_cons_succ, i64_w, i32_w]
    rfl
  refine take_ (i := 1) (N := some 6) (v := ?_) (a' := ?_) #[true, true, false, false, false, false] rfl rfl kr (fun _ _ _ h => h) (Or.inl ⟨by rfl, ?_⟩) hHeld ?_ ?_
  rotate_left
  · rintro w' ⟨⟨s0, s1⟩, sq⟩
    go_simp
    with_reducible rfl
  rotate_left
  · simp only [Act.put, List.setIfInBounds_toArray, List.set_cons_zero, List.set_cons_succ, i64_w, i32_w]
    rfl
  refine take_ (i := 3) (N := some 8) (v := ?_) (a' := ?_) #[true, true, false, true, false, false] rfl rfl kr (fun _ _ _ h => h) (Or.inl ⟨by rfl, ?_⟩) hHeld ?_ ?_
  rotate_left
  · rintro w' ⟨⟨s0, s1⟩, sq⟩
    go_simp
    with_reducible rfl
  rotate_left
  · simp only [Act.put, List.setIfInBounds_toArray, List.set_cons_zero, List.set_cons_succ, i64_w, i32_w]
    rfl
  refine one_ (i := 2) (N := some 7) #[true, true, true, true, false, false] rfl rfl kr (by decide) (fun K hK => ?_)
  refine goes_ Tryz.func58 kr rfl #[.int .i64 x, .int .i64 seer] (by rfl) rfl rfl sM ?_
  refine (imDist_calls x seer W1).mono ?_
  rintro e w11 ⟨rfl, q, rfl⟩
  refine ⟨_, rfl, ?_⟩
  refine hK.out _ _ ⟨⟨hHeld.1.1, hHeld.1.2⟩, ?_⟩ (fun hHeld2 => ?_)
  · obtain ⟨q0, e0⟩ := hHeld.2
    exact ⟨q0 + q, by rw [e0]; simp [World.drewN, Nat.add_assoc]⟩
  clear hK K hHeld
  obtain ⟨d, hd⟩ : ∃ d, imDist x seer = d := ⟨_, rfl⟩
  rw [hd]
  have HD := Aside0.mk hd
  clear hd
  refine norm_ (a' := ?_) ?_ ?_
  rotate_left
  · show Act.put _ (some 7) _ = _
    simp only [Act.put, List.setIfInBounds_toArray, List.set_cons_zero, List.set_cons_succ, i64_w, i32_w]
    rfl
  refine pure_ (i := 4) (N := some 9) (v := ?_) (a' := ?_) #[true, true, true, true, true, false] rfl rfl kr (fun _ _ _ h => h) (Or.inl ⟨by rfl, ?_⟩) ?_ ?_
  rotate_left
  · intro w'
    go_simp
    with_reducible rfl
  rotate_left
  · simp only [Act.put, List.setIfInBounds_toArray, List.set_cons_zero, List.set_cons_succ, i64_w, i32_w]
    rfl
  refine pure_ (i := 5) (N := some 4) (v := ?_) (a' := ?_) #[true, true, true, true, true, true] rfl rfl kr (fun _ _ _ h => h) (Or.inl ⟨by rfl, ?_⟩) ?_ ?_
  rotate_left
  · intro w'
    go_simp
    with_reducible rfl
  rotate_left
  · simp only [Act.put, List.setIfInBounds_toArray, List.set_cons_zero, List.set_cons_succ, i64_w, i32_w]
    rfl
  refine done_ kr ?_
  go_wp2_with fail
  go_ret
  exact ⟨by rw [HD.out]; rfl, hHeld2.2⟩
set_option maxRecDepth 100000 in
theorem im_two (w : World) (o1 o2 : Obj) : ((w.alloc o1).alloc o2).heap[w.heap.size]? = some o1 ∧ ((w.alloc o1).alloc o2).heap[w.heap.size + 1]? = some o2 ∧ ((w.alloc o1).alloc o2).heap.size = w.heap.size + 2 := by
  have e : ∀ (v : World) (o : Obj), (v.alloc o).heap = v.heap.push o := fun _ _ => rfl
  rw [e, e]
  exact ⟨by rw [Array.getElem?_push, if_neg (by simp), Array.getElem?_push, if_pos rfl], by rw [Array.getElem?_push, if_pos (by simp)], by simp⟩
theorem im_cell {w : World} {g : Nat} {v : Value} (h : w.heap[g]? = some (.cells #[v] 3 (0, 0))) : w.cell? ⟨g, 0, none⟩ = some v := by simp [World.cell?, h]
theorem im_info3 : (Tryz.prog.info? 3).map (fun i => (i.zero, i.size, i.bytes)) = some (some (.int .i64 0), 1, 8) := by kernel_rfl
set_option maxRecDepth 100000 in
theorem im_enters {f : FuncId} {fn : Func} {c : Code} (hf : Tryz.prog.funcs[f]? = some fn) (hname : (fn.name == "runtime.NumGoroutine") = false) (hb : fn.body = some c) (args : Array Value) (w : World) : (callFunc f args).run Tryz.prog w = .ok (.enter f args) w := by
  have h1 : fn.name ≠ "runtime.NumGoroutine" := by simpa using hname
  simp [callFunc, hf, h1, hb, mark]
theorem im_zero3 (w : World) : (zeroValue 3).run Tryz.prog w = .ok (.int .i64 0) w := by
  exact Tryz.zeroValue3 w
theorem im_compact_len (zs : List Int) : (Lib.compact zs).length ≤ zs.length := by
  unfold Lib.compact Lib.compactUpTo
  rw [List.length_map]
  exact Nat.le_trans (List.length_filter_le _ _) (by rw [List.length_range]; exact Nat.le_refl _)
/-- A row sorted, each number once. -/
def ImInc (ys : List Int) : List Int := Lib.compact (ys.mergeSort fun x y => decide (x ≤ y))
set_option maxHeartbeats 1000000 in
set_option maxRecDepth 100000 in
theorem im_increasing (g cap : Nat) (ys : List Int) (W : World) (hlen : ys.length ≤ 1000000) (h : ImRow W g cap ys) :
    Calls Tryz.prog 42 #[.slice (some ⟨g, 0, none⟩) ys.length cap] W fun e w' => e = .returned (.slice (some ⟨g, 0, none⟩) (ImInc ys).length cap) ∧ ImRow w' g cap (ImInc ys) ∧ ∀ (B : Nat) (w0 : World), Below B w0 W → B ≤ g → Below B w0 w' := by
  have hcap : ys.length ≤ cap := by obtain ⟨cur, _, _, h3, _⟩ := h.ex; exact h3
  have hmax : cap ≤ 9223372036854775807 := by obtain ⟨cur, _, _, _, h4, _⟩ := h.ex; exact h4
  have hsz : (ys.mergeSort fun x y => decide (x ≤ y)).length = ys.length := List.length_mergeSort _
  have hg := im_blk h
  have hs := Tryz.slices_Sort_int g 0 cap ys W h.holds hg (by omega)
  obtain ⟨zs, hzs⟩ : ∃ zs, (ys.mergeSort fun x y => decide (x ≤ y)) = zs := ⟨_, rfl⟩
  have hE : ImInc ys = Lib.compact zs := by unfold ImInc; rw [hzs]
  rw [hzs] at hsz hs
  rw [hE]
  have HS := Aside0.mk hs
  have HW := Aside0.mk h
  have HL := Aside0.mk hsz
  have HCP := Aside0.mk hcap
  have HMX := Aside0.mk hmax
  have HG := Aside0.mk hg
  clear h hs hsz hcap hmax hg hlen hE hzs
  go_enter Tryz.func42, Tryz.ntmps42
  go_wp2_with fail
  refine HS.out.mono ?_
  rintro e w1 ⟨rfl, q, os, rfl⟩
  have hr := (HW.out.put (ys := zs) q (by have := HL.out; have := HCP.out; omega)).grow os
  have hb : ∀ (B : Nat) (w0 : World), Below B w0 W → B ≤ g → Below B w0 (Go.Sort.grow (Go.Sort.putRow (Value.int .i64) (Go.Sort.ahead W q) g 0 zs.toArray) os) := fun B w0 hB hBg => by
    have := im_below_put hB q g hBg zs.toArray
    refine im_below_grow this ?_ os
    have h1 := HG.out
    show B ≤ (W.heap.modify g _).size
    rw [Array.size_modify]; omega
  have hcm := Tryz.slices_Compact_int g 0 cap zs _ hr.holds (by have := HL.out; have := HCP.out; have := HMX.out; omega) (by have := HL.out; have := HCP.out; omega)
  rw [HL.out] at hcm
  have HCM := Aside0.mk hcm
  have HR := Aside0.mk hr
  have HBB := Aside0.mk hb
  clear hcm hr hb
  generalize Go.Sort.grow (Go.Sort.putRow (Value.int .i64) (Go.Sort.ahead W q) g 0 zs.toArray) os = w2 at HCM HR HBB ⊢
  go_wp2_with fail
  refine HCM.out.mono ?_
  rintro e w3 ⟨rfl, q2, rfl⟩
  go_wp2_with fail
  go_ret
  have hc := im_compact_len zs
  have hp := HR.out.put (ys := Lib.compact zs ++ List.replicate (ys.length - (Lib.compact zs).length) 0) q2 (by rw [List.length_append, List.length_replicate]; have := HL.out; have := HCP.out; omega)
  exact ⟨rfl, hp.pre, fun B w0 hB hBg => im_below_put (HBB.out B w0 hB hBg) q2 g hBg _⟩
theorem imL_len (w a k0 : Int) : ∀ n, n ≤ (imL w a k0 n).length ∧ (imL w a k0 n).length ≤ 2 * n := by
  intro n
  induction n with
  | zero => exact ⟨Nat.le_refl _, Nat.le_refl _⟩
  | succ n ih =>
    simp only [imL, List.length_append, List.length_cons, List.length_nil]
    by_cases c : k0 + (n : Int) = 0
    · rw [if_pos c]; simp only [List.length_nil]; omega
    · rw [if_neg c]; simp only [List.length_cons, List.length_nil]; omega
set_option maxHeartbeats 8000000 in
set_option maxRecDepth 100000 in
theorem impl_imagesNear.calls (a0 a1 a2 a3 : Int) (r : List Int) (w : World) (h : impl_imagesNear.f a0 a1 a2 a3 = some r) :
    Calls Tryz.prog 55 #[.int .i64 a0, .int .i64 a1, .int .i64 a2, .int .i64 a3] w fun e w' => ∃ v0_ : Value, e = .returned (v0_) ∧ Kd.R (Kd.int .i64) 3 w' w.heap.size (fun _ => True) v0_ r ∧ Below w.heap.size w w' := by
 unfold impl_imagesNear.f at h
 by_cases c : (1 ≤ a0 ∧ a0 ≤ 500) ∧ (0 ≤ a1 ∧ a1 ≤ 500) ∧ (0 ≤ a2 ∧ a2 ≤ 500) ∧ 0 ≤ a3 ∧ a3 ≤ 50000
 ·(
 rw [if_pos c] at h
 have hr := Option.some.inj h
 obtain ⟨⟨c1, c2⟩, ⟨c3, c4⟩, ⟨c5, c6⟩, c7, c8⟩ := c
 obtain ⟨Q, hQ⟩ : ∃ Q, imQ a0 a3 = Q := ⟨_, rfl⟩
 rw [hQ] at hr
 have b6 : 0 ≤ Q := by rw [← hQ]; exact Int.ediv_nonneg c7 (by omega)
 have b7 : Q ≤ 50000 := by rw [← hQ]; exact Int.le_trans (Int.ediv_le_self _ c7) c8
 obtain ⟨K0, a9⟩ : ∃ K0, -Q - 2 = K0 := ⟨_, rfl⟩
 rw [a9] at hr
 obtain ⟨N, hN⟩ : ∃ N, (2 * Q + 5).toNat = N := ⟨_, rfl⟩
 rw [hN] at hr
 -- the walk's own sums
 have f1 : wrap64 (2 * a0) = 2 * a0 := by unfold wrap64; omega
 have f2 : wrap64 (-a3) = -a3 := by unfold wrap64; omega
 have f3 : Int.tdiv a3 (2 * a0) = Q := by rw [← hQ]; exact Int.tdiv_eq_ediv_of_nonneg c7
 obtain ⟨D, hD⟩ : ∃ D, wrap64 (2 * a0) = D := ⟨_, rfl⟩
 have hDv : D = 2 * a0 := by rw [← hD, f1]
 obtain ⟨M, hM⟩ : ∃ M, wrap64 (-a3) = M := ⟨_, rfl⟩
 have hMv : M = -a3 := by rw [← hM, f2]
 have g1 : Int.tdiv M D = -Q := by rw [hMv, hDv, Int.neg_tdiv, f3]
 have g2 : Int.tdiv a3 D = Q := by rw [hDv]; exact f3
 obtain ⟨N1, b8⟩ : ∃ N1, Int.tdiv M D = N1 := ⟨_, rfl⟩
 have a6 : N1 = -Q := by rw [← b8, g1]
 have g3 : wrap64 N1 = N1 := by rw [a6]; unfold wrap64; omega
 have g4 : wrap64 (N1 - 2) = K0 := by rw [a6]; unfold wrap64; omega
 have g5 : wrap64 Q = Q := by unfold wrap64; omega
 obtain ⟨K1, d7⟩ : ∃ K1, wrap64 (Q + 2) = K1 := ⟨_, rfl⟩
 have b0 : K1 = Q + 2 := by rw [← d7]; unfold wrap64; omega
 have gD : ¬ D = 0 := by omega
 have d8 := Aside0.mk g4
 have HF := Aside0.mk (And.intro hDv (And.intro a9 (And.intro hN (And.intro b0 (And.intro b6 b7)))))
 have HC := Aside0.mk (And.intro (And.intro c1 c2) (And.intro c3 c4))
 have HR := Aside0.mk hr
 clear h hr c1 c2 c3 c4 c5 c6 c7 c8 hQ b6 b7 a9 hN f1 f2 f3 hDv hMv g1 a6 b0
 obtain ⟨p1, p2, ps⟩ := im_two w (.cells #[.int .i64 a2] 3 (0, 0)) (.cells #[.int .i64 a3] 3 (0, 0))
 have P := Aside0.mk (And.intro p1 (And.intro p2 ps))
 have HB := Aside0.mk (below_alloc (below_alloc (Below.refl _ w) (.cells #[.int .i64 a2] 3 (0, 0))) (.cells #[.int .i64 a3] 3 (0, 0)))
 have c2 := (im_cell p2)
 clear p1 p2 ps
 go_enter Tryz.func55, Tryz.ntmps55
 go_wp2_with ((with_reducible refine gate_dst (N := 11) rfl ?_); refine Kd.R_lit (Kd.int .i64) _ 3 ?hg (N := 11) ?hd (xs := ([] : List Int)) (inner := []) (ok := fun _ => True) (okp := fun _ => True) ?hr ?hp (fun _ hk => hk) trivial (Below.refl _ _) (Nat.le_refl _) (by simp) ?_; (case hd => rfl); (case hg => rfl); (case hr => first | (go_simp; done) | (go_simp; rfl)); (case hp => exact (Reps.none _ _)); intro g0 w6 b9 hb hg_ hnew_; clear hg_ hnew_; have HO := Aside0.mk b9; have a4 := Aside0.mk hb; have d9 := (World.cell?_of_block (a := ⟨w.heap.size + 1, 0, none⟩) (hb.block (w.heap.size + 1) (by rw [P.out.2.2]; omega))).trans c2; clear b9 hb c2)
 generalize (w.alloc (.cells #[.int .i64 a2] 3 (0, 0))).alloc (.cells #[.int .i64 a3] 3 (0, 0)) = w2 at P HB HO a4
 rw [hD]
 clear d9 hM b8 g3 g4
 go_loopg [9, 10] N (fun gg v9 e3 wr => ∃ (n : Nat) (k : Int), n ≤ N ∧ N - n ≤ gg ∧ e3 = .int .i64 k ∧ Aside0 (k = K0 + n) ∧ Aside0 (Kd.R (Kd.int .i64) 3 wr w2.heap.size (fun _ => True) v9 (imL a0 a1 K0 n)) ∧ Aside0 (Below w2.heap.size w2 wr))
 case atStart => exact ⟨0, K0, Nat.zero_le _, by omega, by rw [d8.out], ⟨by omega⟩, HO, a4⟩
 case round => (
 clear HO a4 w6
 obtain ⟨n, k, hn, hgk, rfl, HK, HO, a4⟩ := hrel
 have cf : wr.cell? ⟨w.heap.size + 1, 0, none⟩ = some (.int .i64 a3) := (World.cell?_of_block (a := ⟨w.heap.size + 1, 0, none⟩) (a4.out.block (w.heap.size + 1) (by rw [P.out.2.2]; omega))).trans (im_cell P.out.2.1)
 by_cases hlt : n < N
 ·(
 have d1 : decide (k ≤ K1) = true := decide_eq_true (by have := HF.out; have := HK.out; omega)
 have hll := imL_len a0 a1 K0 n
 have HLL := Aside0.mk hll
 have b1 : Aside0 (N ≤ 100005) := ⟨by have := HF.out; omega⟩
 have hkb : -60000 ≤ k ∧ k ≤ 60000 := by have := HF.out; have := HK.out; omega
 have hDb : 0 ≤ D ∧ D ≤ 1000 := by have := HF.out; have := HC.out; omega
 have hDk : (D * k).natAbs ≤ 1000 * 60000 := by rw [Int.natAbs_mul]; exact Nat.mul_le_mul (by omega) (by omega)
 obtain ⟨T, hT⟩ : ∃ T, wrap64 (D * k) = T := ⟨_, rfl⟩
 have hTv : T = D * k := by rw [← hT]; unfold wrap64; omega
 have hTb : -60000000 ≤ T ∧ T ≤ 60000000 := by rw [hTv]; omega
 obtain ⟨U, hU⟩ : ∃ U, wrap64 (T + a1) = U := ⟨_, rfl⟩
 have hUv : U = D * k + a1 := by rw [← hU, ← hTv]; have := HC.out; unfold wrap64; omega
 obtain ⟨V, hV⟩ : ∃ V, wrap64 (T - a1) = V := ⟨_, rfl⟩
 have hVv : V = D * k - a1 := by rw [← hV, ← hTv]; have := HC.out; unfold wrap64; omega
 obtain ⟨k2, c0⟩ : ∃ k2, wrap64 (k + 1) = k2 := ⟨_, rfl⟩
 have b2 : k2 = K0 + ((n + 1 : Nat) : Int) := by rw [← c0]; have := HK.out; unfold wrap64; omega
 have HK2 := Aside0.mk b2
 have HKK := Aside0.mk c0
 have hL : imL a0 a1 K0 (n + 1) = imL a0 a1 K0 n ++ ((if k = 0 then [] else [U]) ++ [V]) := by
  simp only [imL]
  rw [HK.out, hUv, hVv, HF.out.1, HK.out]
 have HL := Aside0.mk hL
 clear hTv hTb hUv hVv b2 hL hkb hDb hDk hll
 by_cases hz : k = 0
 ·(
 have b3 : (k == 0) = true := by rw [beq_iff_eq]; exact hz
 have e4 : (k != 0) = false := by simp [bne, b3]
 rw [if_pos hz] at HL
 clear hz
 have e5 : Aside0 (imL a0 a1 K0 (n + 1) = imL a0 a1 K0 n ++ [V]) := ⟨HL.out⟩
 clear HL
 go_wp2_with ((with_reducible refine gate_builtin (b := .append) (xs := #[.tmp 38, .tmp 45]) rfl ?_); at_builtin; refine Kd.R_append (Kd.int .i64) (w0 := w2) w2.heap.size rfl (.tmp 38) (.tmp 45) 26 3 (.int .i64 0) 8 rfl Tryz.underlying26 im_info3 rfl (by decide) (by omega) u9 (imL a0 a1 K0 n) V [.int .i64 V] (fun _ => True) (fun _ => False) rfl rfl ?aP (fun _ hk => hk.elim) (fun _ _ => trivial) ?aO ?aB ?aS ?aL ?_; (case aP => exact rfl); (case aB => exact a4.out); (case aO => exact HO.out); (case aS => exact a4.out.size); (case aL => have := HLL.out; have := b1.out; omega); intro d5 e6 ho hb hg hat; have b4 := Aside0.mk ho; have a5 := Aside0.mk hb; clear ho hb hg hat HO)
 go_roundg (N - (n + 1))
 case measure => omega
 case rel => exact ⟨n + 1, k2, by omega, Nat.le_refl _, by rw [HKK.out], HK2, ⟨by rw [e5.out]; exact b4.out⟩, a5⟩
 )
 ·(
 have b3 : (k == 0) = false := by rw [beq_eq_false_iff_ne]; exact hz
 have e4 : (k != 0) = true := by simp [bne, b3]
 rw [if_neg hz] at HL
 clear hz
 go_wp2_with (first | ((with_reducible refine gate_builtin (b := .append) (xs := #[.tmp 29, .tmp 36]) rfl ?_); at_builtin; refine Kd.R_append (Kd.int .i64) (w0 := w2) w2.heap.size rfl (.tmp 29) (.tmp 36) 26 3 (.int .i64 0) 8 rfl Tryz.underlying26 im_info3 rfl (by decide) (by omega) u9 (imL a0 a1 K0 n) U [.int .i64 U] (fun _ => True) (fun _ => False) rfl rfl ?aP (fun _ hk => hk.elim) (fun _ _ => trivial) ?aO ?aB ?aS ?aL ?_; (case aP => exact rfl); (case aB => exact a4.out); (case aO => exact HO.out); (case aS => exact a4.out.size); (case aL => have := HLL.out; have := b1.out; omega); intro d6 g6 ho hb hg hat; have c9 := Aside0.mk ho; have d0 := Aside0.mk hb; clear ho hb hg hat HO) | ((with_reducible refine gate_builtin (b := .append) (xs := #[.tmp 38, .tmp 45]) rfl ?_); at_builtin; refine Kd.R_append (Kd.int .i64) (w0 := w2) w2.heap.size rfl (.tmp 38) (.tmp 45) 26 3 (.int .i64 0) 8 rfl Tryz.underlying26 im_info3 rfl (by decide) (by omega) d6 (imL a0 a1 K0 n ++ [U]) V [.int .i64 V] (fun _ => True) (fun _ => False) rfl rfl ?aP (fun _ hk => hk.elim) (fun _ _ => trivial) ?aO ?aB ?aS ?aL ?_; (case aP => exact rfl); (case aB => exact d0.out); (case aO => exact c9.out); (case aS => exact d0.out.size); (case aL => have := HLL.out; have := b1.out; simp only [List.length_append, List.length_cons, List.length_nil]; omega); intro d5 e6 ho hb hg hat; have b4 := Aside0.mk ho; have a5 := Aside0.mk hb; clear ho hb hg hat c9))
 go_roundg (N - (n + 1))
 case measure => omega
 case rel => exact ⟨n + 1, k2, by omega, Nat.le_refl _, by rw [HKK.out], HK2, ⟨by rw [HL.out, ← List.append_assoc]; exact b4.out⟩, a5⟩
 )
 )
 ·(
 have d1 : decide (k ≤ K1) = false := decide_eq_false (by have := HF.out; have := HK.out; omega)
 have hnN : n = N := by have := HF.out; have := HK.out; omega
 subst hnN
 have hll := imL_len a0 a1 K0 n
 have d2 : 5 ≤ n ∧ n ≤ 100005 := by have := HF.out; omega
 have hxs : imL a0 a1 K0 n ≠ [] := fun e => by rw [e] at hll; simp at hll; omega
 have hr := HR.out
 obtain ⟨xs, hX⟩ : ∃ xs, imL a0 a1 K0 n = xs := ⟨_, rfl⟩
 rw [hX] at HO hr hll hxs
 obtain ⟨g, cap, rfl, hg, hrow⟩ := ImRow.of_kd HO.out hxs
 have hcap : xs.length ≤ cap ∧ cap ≤ 9223372036854775807 := by obtain ⟨cur, _, _, h3, h4, _⟩ := hrow.ex; exact ⟨h3, h4⟩
 have P1 := a4.out.block w.heap.size (by rw [P.out.2.2]; omega)
 have P2 := a4.out.block (w.heap.size + 1) (by rw [P.out.2.2]; omega)
 have s1 := im_cell (P1.trans P.out.1)
 have s2 := im_cell (P2.trans P.out.2.1)
 have hz : w.heap.size + 1 < wr.heap.size := Nat.lt_of_lt_of_le (by rw [P.out.2.2]; omega) a4.out.size
 have e7 : w.heap.size + 2 ≤ g := by rw [P.out.2.2] at hg; exact hg
 obtain ⟨p, hp⟩ : ∃ p : Int → Bool, p = fun x => decide (a3 < imDist x a2) := ⟨_, rfl⟩
 have hdel := Tryz.slices_DeleteFunc (Value.int .i64) (fun _ => rfl) p 77 #[.pointer (some ⟨w.heap.size, 0, none⟩), .pointer (some ⟨w.heap.size + 1, 0, none⟩)] (im_enters Tryz.func77 kr rfl) 0 im_zero3 g 0 cap xs.toArray wr
  (fun W x hb => by rw [hp]; exact im_gives a2 a3 x _ _ W ((World.cell?_of_block (a := ⟨w.heap.size, 0, none⟩) (hb.block w.heap.size (by omega))).trans s1) ((World.cell?_of_block (a := ⟨w.heap.size + 1, 0, none⟩) (hb.block (w.heap.size + 1) hz)).trans s2))
  (fun q os dk x hdk => by
   have o1 : ∀ k, k ≠ g → k < wr.heap.size → (Go.Proofs.sortWorld (Value.int .i64) wr g 0 q dk os).heap[k]? = wr.heap[k]? := fun k hk hkl => by
    unfold Go.Proofs.sortWorld
    rw [Go.Sort.heap_grow_old _ _ (by show k < (wr.heap.modify g _).size; rw [Array.size_modify]; exact hkl)]
    exact im_put_old q g dk hk
   rw [hp]
   exact im_gives a2 a3 x _ _ _ ((World.cell?_of_block (a := ⟨w.heap.size, 0, none⟩) (o1 w.heap.size (by omega) (by omega))).trans s1) ((World.cell?_of_block (a := ⟨w.heap.size + 1, 0, none⟩) (o1 (w.heap.size + 1) (by omega) hz)).trans s2))
  hrow.holds (by have := hcap; simp; omega) (by simpa using hcap.1)
 have hsz : xs.toArray.size = xs.length := List.size_toArray ..
 rw [hsz] at hdel
 obtain ⟨ys, hY⟩ : ∃ ys, (xs.toArray.toList.filter fun x => !p x) = ys := ⟨_, rfl⟩
 have hYl : ys.length ≤ xs.length := by rw [← hY]; exact List.length_filter_le _ _
 rw [hY] at hdel
 have d3 : (xs.filter fun x => !decide (a3 < imDist x a2)) = ys := by rw [← hY, hp]
 rw [d3] at hr
 have HDEL := Aside0.mk hdel
 have HROW := Aside0.mk hrow
 have HYL := Aside0.mk hYl
 have HCAP := Aside0.mk hcap
 have HXL := Aside0.mk hll
 have HG := Aside0.mk hg
 have e8 := Aside0.mk hr
 have HN := Aside0.mk d2
 clear hdel hrow hYl hcap hll hg hr hxs hX HO hsz hY d3 hp P1 P2 s1 s2 hz e7 d2 HR
 go_wp2_with fail
 refine HDEL.out.mono ?_
 rintro e w3 ⟨rfl, q, rfl⟩
 have a7 := (HROW.out.put (ys := ys ++ List.replicate (xs.length - ys.length) 0) q (by rw [List.length_append, List.length_replicate]; have := HYL.out; have := HCAP.out; omega)).pre
 have a5 := Aside0.mk (im_below_put a4.out q g HG.out (ys ++ List.replicate (xs.length - ys.length) 0).toArray)
 have HINC := Aside0.mk (im_increasing g cap ys _ (by have := HYL.out; have := HXL.out; have := HN.out; omega) a7)
 clear a7 HDEL HROW
 generalize Go.Sort.putRow (Value.int .i64) (Go.Sort.ahead wr q) g 0 (ys ++ List.replicate (xs.length - ys.length) 0).toArray = w3 at a5 HINC ⊢
 go_wp2_with fail
 refine HINC.out.mono ?_
 rintro e w4 ⟨rfl, a8, d4⟩
 have b5 := Aside0.mk a8
 have e9 := Aside0.mk (d4 _ _ a5.out HG.out)
 clear a8 d4 HINC a5
 go_wp2_with fail
 go_ret
 have e : r = ImInc ys := e8.out.symm
 subst e
 exact ⟨_, rfl, b5.out.kd (by have := HG.out; have := P.out.2.2; omega), below_step HB.out e9.out⟩
 )
 )
 )
 ·(
 rw [if_neg c] at h
 cases h
 )

/-! ### impl_CountNear: function 17 -/
def impl_CountNear.j0 : Nat → Int → Int → Int → Int → Bool → Option (Int × Bool)
  | 0, _, _, _, _, _ => none
  | k + 1, x0, x1, x2, x3, x24 => if x24 = true then (some (0, false)) else ((impl_imagesNear.f x0 x1 x2 x3).bind fun t314 => (some ((t314.length : Int), true)))
def impl_CountNear.f (k : Nat) (a0 : Int) (a1 : Int) (a2 : Int) (a3 : Int) : Option (Int × Bool) := (impl_isCorridor.f a0 a1).bind fun t311 => (if t311 = true then ((impl_isCorridor.f a0 a2).bind fun t312 => (if t312 = true then ((impl_within.f a3 0 10000).bind fun t313 => (impl_CountNear.j0 k a0 a1 a2 a3 (!t313))) else (impl_CountNear.j0 k a0 a1 a2 a3 true))) else (impl_CountNear.j0 k a0 a1 a2 a3 true))
theorem impl_CountNear.mono_l : ∀ k, (∀ y0 y1 y2 y3 y4, LeO (impl_CountNear.j0 k y0 y1 y2 y3 y4) (impl_CountNear.j0 (k + 1) y0 y1 y2 y3 y4))
  | 0 => fun _ _ _ _ _ r h => by simp [impl_CountNear.j0] at h
  | k + 1 => by
    have ih0 := impl_CountNear.mono_l k
    · intro y0 y1 y2 y3 y4
      unfold impl_CountNear.j0
      repeat' first
      | (with_reducible exact ih0 _ _ _ _ _)
      | (with_reducible exact LeO.refl _)
      | (with_reducible exact LeO.none _)
      | (with_reducible refine LeO.ite ?_ ?_)
      | (with_reducible refine LeO.bind ?_ (fun _ => ?_))
      | exact ih0 _ _ _ _ _
      | exact LeO.none _
      | refine LeO.ite ?_ ?_
      | refine LeO.bind ?_ (fun _ => ?_)
theorem impl_CountNear.mono : ∀ a0 a1 a2 a3 k, LeO (impl_CountNear.f k a0 a1 a2 a3) (impl_CountNear.f (k + 1) a0 a1 a2 a3) := by
  intro a0 a1 a2 a3 k
  have ih0 := impl_CountNear.mono_l k
  unfold impl_CountNear.f
  repeat' first
      | (with_reducible exact ih0 _ _ _ _ _)
      | (with_reducible exact LeO.refl _)
      | (with_reducible exact LeO.none _)
      | (with_reducible refine LeO.ite ?_ ?_)
      | (with_reducible refine LeO.bind ?_ (fun _ => ?_))
      | exact ih0 _ _ _ _ _
      | exact LeO.none _
      | refine LeO.ite ?_ ?_
      | refine LeO.bind ?_ (fun _ => ?_)
set_option maxHeartbeats 8000000 in
set_option maxRecDepth 100000 in
theorem impl_CountNear.calls (k : Nat) (a0 : Int) (a1 : Int) (a2 : Int) (a3 : Int) (r1 : Int) (r2 : Bool) (w : World) (h : impl_CountNear.f k a0 a1 a2 a3 = some (r1, r2)) :
    Calls Tryz.prog 17 #[.int .i64 a0, .int .i64 a1, .int .i64 a2, .int .i64 a3] w fun e w' => e = .returned (.tuple #[.int .i64 r1, .bool r2]) ∧ Below w.heap.size w w' := by
 have HB := Aside0.mk (Below.refl w.heap.size w)
 have H := h
 unfold impl_CountNear.f at H
 clear h
 have a6 := Aside0.mk H
 clear H
 go_enter Tryz.func17, Tryz.ntmps17
 go_upto_region 1 with (fail)
 go_cut [24] (fun b4 wc => ∃ (kq : Nat) (a4 : Bool), b4 = .bool a4 ∧ Aside0 (impl_CountNear.j0 kq a0 a1 a2 a3 a4 = some (r1, r2)) ∧ Aside0 (kq ≤ k) ∧ Aside0 (Below w.heap.size w wc))
 case first => (
 have H := a6.out
 clear a6
 obtain ⟨a9, A6, H⟩ := bD H
 try dsimp only at H
 by_cases c7 : a9 = true
 ·(
 subst c7
 rw [if_pos rfl] at H
 obtain ⟨b0, A8, H⟩ := bD H
 try dsimp only at H
 by_cases c9 : b0 = true
 subst c9
 rw [if_pos rfl] at H
 obtain ⟨a7, b5, H⟩ := bD H
 try dsimp only at H
 have H' := Aside0.mk H
 clear H
 rotate_left
 replace c9 := Bool.eq_false_iff.mpr c9
 subst c9
 rw [if_neg nft] at H
 have H' := Aside0.mk H
 clear H
 rotate_left
 all_goals (go_wp2_with (first | ((with_reducible refine gate_callee (f := 38) rfl ?_); refine goesL_ (some 12) rfl rfl Tryz.func38 kr rfl #[.int .i64 a0, .int .i64 a1] rfl sM ?_; (with_reducible refine (impl_isCorridor.calls a0 a1 true _ A6.out).mono ?_); rintro e w' ⟨rfl, ⟨nd, rfl⟩⟩; refine ⟨_, rfl, ?_⟩) | (go_at_call 38; (with_reducible refine (impl_isCorridor.calls a0 a2 true _ A8.out).mono ?_); rintro e w' ⟨rfl, ⟨nd, rfl⟩⟩) | (go_at_call 39; (with_reducible refine (impl_within.calls a3 0 10000 a7 _ b5.out).mono ?_); rintro e w' ⟨rfl, ⟨nd, rfl⟩⟩) | (go_at_call 38; (with_reducible refine (impl_isCorridor.calls a0 a2 false _ A8.out).mono ?_); rintro e w' ⟨rfl, ⟨nd, rfl⟩⟩)))
 all_goals go_meet
 · case rel => exact ⟨_, (!a7), sR, H', ⟨by first | omega | exact Nat.le_refl _⟩, ⟨bB⟩⟩
 · case rel => exact ⟨_, (true), sR, H', ⟨by first | omega | exact Nat.le_refl _⟩, ⟨bB⟩⟩
 )
 ·(
 replace c7 := Bool.eq_false_iff.mpr c7
 subst c7
 rw [if_neg nft] at H
 have H' := Aside0.mk H
 clear H
 go_wp2_with (first | ((with_reducible refine gate_callee (f := 38) rfl ?_); refine goesL_ (some 12) rfl rfl Tryz.func38 kr rfl #[.int .i64 a0, .int .i64 a1] rfl sM ?_; (with_reducible refine (impl_isCorridor.calls a0 a1 false _ A6.out).mono ?_); rintro e w' ⟨rfl, ⟨nd, rfl⟩⟩; refine ⟨_, rfl, ?_⟩))
 go_meet
 case rel => exact ⟨_, (true), sR, H', ⟨by first | omega | exact Nat.le_refl _⟩, ⟨bB⟩⟩
 )
 )
 case rest => (
 clear a6
 obtain ⟨kq, a4, rfl, HA, HJ4, HB⟩ := hcut
 cases kq with
 | zero => exact absurd HA.out (by simp [impl_CountNear.j0])
 | succ b9 => (
 have H := HA.out
 clear HA
 simp only [impl_CountNear.j0] at H
 by_cases a5 : a4 = true
 ·(
 subst a5
 rw [if_pos rfl] at H
 simp only [Option.some.injEq, Prod.mk.injEq] at H
 obtain ⟨rfl, rfl⟩ := H
 go_wp2
 go_ret2
 exact ⟨sE, bI⟩
 )
 ·(
 replace a5 := Bool.eq_false_iff.mpr a5
 subst a5
 rw [if_neg nft] at H
 obtain ⟨b1, b6, H⟩ := bD H
 try dsimp only at H
 simp only [Option.some.injEq, Prod.mk.injEq] at H
 obtain ⟨rfl, rfl⟩ := H
 go_wp2_with (first | ((with_reducible refine gate_callee (f := 55) rfl ?_); refine goesL_ (some 29) rfl rfl Tryz.func55 kr rfl #[.int .i64 a0, .int .i64 a1, .int .i64 a2, .int .i64 a3] rfl sM ?_; (with_reducible refine (impl_imagesNear.calls a0 a1 a2 a3 b1 _ b6.out).mono ?_); rintro e c0 ⟨c1, rfl, a8, hb⟩; refine ⟨_, rfl, ?_⟩; have b2 := Aside0.mk (Kd.R_lower a8 (below_size bB)); replace HB := Aside0.mk (below_step bB hb); (try clear hb); (try clear a8); obtain ⟨b7, b8, b3⟩ := Kd.R_slice b2.out; subst b3))
 go_ret2
 exact ⟨sE, bI⟩
 )
 )
 )

/-! ### spec_miSeen: function 56 -/
def spec_miSeen.f (a0 : Int) (a1 : Int) (a2 : Int) : Option (Bool) := (spec_miGood.f a0 a1).bind fun t317 => (if t317 = true then ((spec_l1In.f a2 0 a0).bind fun t318 => (some t318)) else (some false))
set_option maxHeartbeats 8000000 in
set_option maxRecDepth 100000 in
theorem spec_miSeen.calls (a0 : Int) (a1 : Int) (a2 : Int) (r : Bool) (w : World) (h : spec_miSeen.f a0 a1 a2 = some r) :
    Calls Tryz.prog 56 #[.int .i64 a0, .int .i64 a1, .int .i64 a2] w fun e w' => e = .returned (.bool r) ∧ Drawn0 w w' := by
 have H := h
 unfold spec_miSeen.f at H
 clear h
 obtain ⟨a4, A4, H⟩ := bD H
 try dsimp only at H
 by_cases c5 : a4 = true
 ·(
 subst c5
 rw [if_pos rfl] at H
 obtain ⟨a5, A6, H⟩ := bD H
 try dsimp only at H
 obtain rfl := Option.some.inj H
 go_enter Tryz.func56, Tryz.ntmps56
 go_wp2_with (first | ((with_reducible refine gate_callee (f := 43) rfl ?_); refine goesL_ (some 9) rfl rfl Tryz.func43 kr rfl #[.int .i64 a0, .int .i64 a1] rfl sM ?_; (with_reducible refine (spec_miGood.calls a0 a1 true _ A4.out).mono ?_); rintro e w' ⟨rfl, ⟨nd, rfl⟩⟩; refine ⟨_, rfl, ?_⟩) | (go_at_call 44; (with_reducible refine (spec_l1In.calls a2 0 a0 a5 _ A6.out).mono ?_); rintro e w' ⟨rfl, ⟨nd, rfl⟩⟩))
 go_ret
 exact ⟨by first | rfl | (simp; done) | (simp [*]; done), by repeat (first | exact Drawn0.refl _ | apply Drawn0.step)⟩
 )
 ·(
 replace c5 := Bool.eq_false_iff.mpr c5
 subst c5
 rw [if_neg nft] at H
 obtain rfl := Option.some.inj H
 go_enter Tryz.func56, Tryz.ntmps56
 go_wp2_with (first | ((with_reducible refine gate_callee (f := 43) rfl ?_); refine goesL_ (some 9) rfl rfl Tryz.func43 kr rfl #[.int .i64 a0, .int .i64 a1] rfl sM ?_; (with_reducible refine (spec_miGood.calls a0 a1 false _ A4.out).mono ?_); rintro e w' ⟨rfl, ⟨nd, rfl⟩⟩; refine ⟨_, rfl, ?_⟩))
 go_ret
 exact ⟨by first | rfl | (simp; done) | (simp [*]; done), by repeat (first | exact Drawn0.refl _ | apply Drawn0.step)⟩
 )

/-! ### spec_miIs: function 57 -/
def spec_miIs.f (a0 : Int) (a1 : Int) (a2 : Int) : Option (Bool) := if (wrap64 (2 * a0)) = 0 then (none) else (if (Int.tmod (wrap64 (a2 + a1)) (wrap64 (2 * a0))) = 0 then (some true) else (if (Int.tmod (wrap64 (a2 - a1)) (wrap64 (2 * a0))) = 0 then (some (a2 != a1)) else (some false)))
set_option maxHeartbeats 8000000 in
set_option maxRecDepth 100000 in
theorem spec_miIs.calls (a0 : Int) (a1 : Int) (a2 : Int) (r : Bool) (w : World) (h : spec_miIs.f a0 a1 a2 = some r) :
    Calls Tryz.prog 57 #[.int .i64 a0, .int .i64 a1, .int .i64 a2] w fun e w' => e = .returned (.bool r) ∧ Drawn0 w w' := by
 have H := h
 unfold spec_miIs.f at H
 clear h
 by_cases c4 : (wrap64 (2 * a0)) = 0
 rw [if_pos c4] at H
 exact absurd H (by simp)
 rw [if_neg c4] at H
 obtain ⟨a8, a9⟩ := nE c4
 by_cases c5 : (Int.tmod (wrap64 (a2 + a1)) (wrap64 (2 * a0))) = 0
 rw [if_pos c5] at H
 obtain ⟨a4, a5⟩ := yE c5
 clear c5
 obtain rfl := Option.some.inj H
 rotate_left
 rw [if_neg c5] at H
 obtain ⟨a4, a5⟩ := nE c5
 by_cases c6 : (Int.tmod (wrap64 (a2 - a1)) (wrap64 (2 * a0))) = 0
 rw [if_pos c6] at H
 obtain ⟨a6, a7⟩ := yE c6
 clear c6
 obtain rfl := Option.some.inj H
 rotate_left
 rw [if_neg c6] at H
 obtain ⟨a6, a7⟩ := nE c6
 obtain rfl := Option.some.inj H
 rotate_left
 all_goals (go_enter Tryz.func57, Tryz.ntmps57)
 all_goals go_wp2
 all_goals (repeat (go_quiet (fail); try go_wp2))
 all_goals go_ret
 all_goals (exact ⟨by first | rfl | (simp; done) | (simp [*]; done), by repeat (first | exact Drawn0.refl _ | apply Drawn0.step)⟩)

/-! ### spec_CountNear: function 18 -/
mutual
def spec_CountNear.j0 : Nat → Int → Int → Int → Int → Bool → Option (Int × Bool)
  | 0, _, _, _, _, _ => none
  | k + 1, x0, x1, x2, x3, x21 => if x21 = true then (some (0, false)) else (spec_CountNear.l0 k x0 x1 x2 x3 0 (wrap64 (x2 - x3)))
def spec_CountNear.l0 : Nat → Int → Int → Int → Int → Int → Int → Option (Int × Bool)
  | 0, _, _, _, _, _, _ => none
  | k + 1, x0, x1, x2, x3, x10, x11 => if x11 ≤ (wrap64 (x2 + x3)) then ((spec_miIs.f x0 x1 x11).bind fun t321 => (if t321 = true then (spec_CountNear.l0 k x0 x1 x2 x3 (wrap64 (x10 + 1)) (wrap64 (x11 + 1))) else (spec_CountNear.l0 k x0 x1 x2 x3 x10 (wrap64 (x11 + 1))))) else (some (x10, true))
end
def spec_CountNear.f (k : Nat) (a0 : Int) (a1 : Int) (a2 : Int) (a3 : Int) : Option (Int × Bool) := (spec_miSeen.f a0 a1 a2).bind fun t319 => (if t319 = true then ((spec_l1In.f a3 0 10000).bind fun t320 => (spec_CountNear.j0 k a0 a1 a2 a3 (!t320))) else (spec_CountNear.j0 k a0 a1 a2 a3 true))
theorem spec_CountNear.mono_l : ∀ k, (∀ y0 y1 y2 y3 y4, LeO (spec_CountNear.j0 k y0 y1 y2 y3 y4) (spec_CountNear.j0 (k + 1) y0 y1 y2 y3 y4)) ∧ (∀ y0 y1 y2 y3 y4 y5, LeO (spec_CountNear.l0 k y0 y1 y2 y3 y4 y5) (spec_CountNear.l0 (k + 1) y0 y1 y2 y3 y4 y5))
  | 0 => ⟨fun _ _ _ _ _ r h => by simp [spec_CountNear.j0] at h, fun _ _ _ _ _ _ r h => by simp [spec_CountNear.l0] at h⟩
  | k + 1 => by
    obtain ⟨ih0, ih1⟩ := spec_CountNear.mono_l k
    refine ⟨?_, ?_⟩
    · intro y0 y1 y2 y3 y4
      unfold spec_CountNear.j0
      repeat' first
      | (with_reducible exact ih0 _ _ _ _ _)
      | (with_reducible exact ih1 _ _ _ _ _ _)
      | (with_reducible exact LeO.refl _)
      | (with_reducible exact LeO.none _)
      | (with_reducible refine LeO.ite ?_ ?_)
      | (with_reducible refine LeO.bind ?_ (fun _ => ?_))
      | exact ih0 _ _ _ _ _
      | exact ih1 _ _ _ _ _ _
      | exact LeO.none _
      | refine LeO.ite ?_ ?_
      | refine LeO.bind ?_ (fun _ => ?_)
    · intro y0 y1 y2 y3 y4 y5
      unfold spec_CountNear.l0
      repeat' first
      | (with_reducible exact ih0 _ _ _ _ _)
      | (with_reducible exact ih1 _ _ _ _ _ _)
      | (with_reducible exact LeO.refl _)
      | (with_reducible exact LeO.none _)
      | (with_reducible refine LeO.ite ?_ ?_)
      | (with_reducible refine LeO.bind ?_ (fun _ => ?_))
      | exact ih0 _ _ _ _ _
      | exact ih1 _ _ _ _ _ _
      | exact LeO.none _
      | refine LeO.ite ?_ ?_
      | refine LeO.bind ?_ (fun _ => ?_)
theorem spec_CountNear.mono : ∀ a0 a1 a2 a3 k, LeO (spec_CountNear.f k a0 a1 a2 a3) (spec_CountNear.f (k + 1) a0 a1 a2 a3) := by
  intro a0 a1 a2 a3 k
  obtain ⟨ih0, ih1⟩ := spec_CountNear.mono_l k
  unfold spec_CountNear.f
  repeat' first
      | (with_reducible exact ih0 _ _ _ _ _)
      | (with_reducible exact ih1 _ _ _ _ _ _)
      | (with_reducible exact LeO.refl _)
      | (with_reducible exact LeO.none _)
      | (with_reducible refine LeO.ite ?_ ?_)
      | (with_reducible refine LeO.bind ?_ (fun _ => ?_))
      | exact ih0 _ _ _ _ _
      | exact ih1 _ _ _ _ _ _
      | exact LeO.none _
      | refine LeO.ite ?_ ?_
      | refine LeO.bind ?_ (fun _ => ?_)
set_option maxHeartbeats 8000000 in
set_option maxRecDepth 100000 in
theorem spec_CountNear.calls (k : Nat) (a0 : Int) (a1 : Int) (a2 : Int) (a3 : Int) (r1 : Int) (r2 : Bool) (w : World) (h : spec_CountNear.f k a0 a1 a2 a3 = some (r1, r2)) :
    Calls Tryz.prog 18 #[.int .i64 a0, .int .i64 a1, .int .i64 a2, .int .i64 a3] w fun e w' => e = .returned (.tuple #[.int .i64 r1, .bool r2]) ∧ Drawn0 w w' := by
 have H := h
 unfold spec_CountNear.f at H
 clear h
 have a9 := Aside0.mk H
 clear H
 go_enter Tryz.func18, Tryz.ntmps18
 go_upto_region 1 with (fail)
 go_cut [21] (fun b6 wc => ∃ (kq : Nat) (a6 : Bool), b6 = .bool a6 ∧ Aside0 (spec_CountNear.j0 kq a0 a1 a2 a3 a6 = some (r1, r2)) ∧ Aside0 (kq ≤ k) ∧ Drawn0 w wc)
 case first => (
 have H := a9.out
 clear a9
 obtain ⟨b4, A6, H⟩ := bD H
 try dsimp only at H
 by_cases c7 : b4 = true
 ·(
 subst c7
 rw [if_pos rfl] at H
 obtain ⟨b0, A8, H⟩ := bD H
 try dsimp only at H
 have H' := Aside0.mk H
 clear H
 go_wp2_with (first | ((with_reducible refine gate_callee (f := 56) rfl ?_); refine goesL_ (some 15) rfl rfl Tryz.func56 kr rfl #[.int .i64 a0, .int .i64 a1, .int .i64 a2] rfl sM ?_; (with_reducible refine (spec_miSeen.calls a0 a1 a2 true _ A6.out).mono ?_); rintro e w' ⟨rfl, ⟨nd, rfl⟩⟩; refine ⟨_, rfl, ?_⟩) | (go_at_call 44; (with_reducible refine (spec_l1In.calls a3 0 10000 b0 _ A8.out).mono ?_); rintro e w' ⟨rfl, ⟨nd, rfl⟩⟩))
 go_meet
 case rel => exact ⟨_, (!b0), sR, H', ⟨by first | omega | exact Nat.le_refl _⟩, by repeat (first | exact Drawn0.refl _ | apply Drawn0.step)⟩
 )
 ·(
 replace c7 := Bool.eq_false_iff.mpr c7
 subst c7
 rw [if_neg nft] at H
 have H' := Aside0.mk H
 clear H
 go_wp2_with (first | ((with_reducible refine gate_callee (f := 56) rfl ?_); refine goesL_ (some 15) rfl rfl Tryz.func56 kr rfl #[.int .i64 a0, .int .i64 a1, .int .i64 a2] rfl sM ?_; (with_reducible refine (spec_miSeen.calls a0 a1 a2 false _ A6.out).mono ?_); rintro e w' ⟨rfl, ⟨nd, rfl⟩⟩; refine ⟨_, rfl, ?_⟩))
 go_meet
 case rel => exact ⟨_, (true), sR, H', ⟨by first | omega | exact Nat.le_refl _⟩, by repeat (first | exact Drawn0.refl _ | apply Drawn0.step)⟩
 )
 )
 case rest => (
 clear a9
 obtain ⟨kq, a6, rfl, HA, HJ4, ⟨b9, rfl⟩⟩ := hcut
 cases kq with
 | zero => exact absurd HA.out (by simp [spec_CountNear.j0])
 | succ b2 => (
 have H := HA.out
 clear HA
 simp only [spec_CountNear.j0] at H
 by_cases c9 : a6 = true
 ·(
 subst c9
 rw [if_pos rfl] at H
 simp only [Option.some.injEq, Prod.mk.injEq] at H
 obtain ⟨rfl, rfl⟩ := H
 go_wp2
 go_ret2
 exact ⟨by first | rfl | (simp; done) | (simp [*]; done), by repeat (first | exact Drawn0.refl _ | apply Drawn0.step)⟩
 )
 ·(
 replace c9 := Bool.eq_false_iff.mpr c9
 subst c9
 rw [if_neg nft] at H
 have H' := Aside0.mk H
 clear H
 go_wp2
 go_loopg [10, 11] b2 (fun kq b7 b8 w' => ∃ (a5 : Int) (a4 : Int), b7 = .int .i64 a5 ∧ b8 = .int .i64 a4 ∧ Aside0 (spec_CountNear.l0 kq a0 a1 a2 a3 a5 a4 = some (r1, r2)) ∧ Aside0 (kq ≤ b2) ∧ Drawn0 w w')
 case atStart => exact ⟨(0), (wrap64 (a2 - a3)), sR, sR, H', ⟨Nat.le_refl _⟩, by repeat (first | exact Drawn0.refl _ | apply Drawn0.step)⟩
 case round => (
 clear H'
 obtain ⟨a5, a4, rfl, rfl, HA, HK2, ⟨m2, rfl⟩⟩ := hrel
 cases gk with
 | zero => exact absurd HA.out (by simp [spec_CountNear.l0])
 | succ k2 => (
 have H := HA.out
 clear HA
 simp only [spec_CountNear.l0] at H
 by_cases a7 : a4 ≤ (wrap64 (a2 + a3))
 ·(
 rw [if_pos a7] at H
 have b1 : decide (a4 ≤ (wrap64 (a2 + a3))) = true := decide_eq_true a7
 clear a7
 obtain ⟨b5, b3, H⟩ := bD H
 try dsimp only at H
 by_cases a8 : b5 = true
 ·(
 subst a8
 rw [if_pos rfl] at H
 have H' := Aside0.mk H
 clear H
 go_wp2_with (first | ((with_reducible refine gate_callee (f := 57) rfl ?_); refine goesL_ (some 35) rfl rfl Tryz.func57 kr rfl #[.int .i64 a0, .int .i64 a1, .int .i64 a4] rfl sM ?_; (with_reducible refine (spec_miIs.calls a0 a1 a4 true _ b3.out).mono ?_); rintro e w' ⟨rfl, ⟨nd, rfl⟩⟩; refine ⟨_, rfl, ?_⟩))
 go_roundg k2
 case measure => have := HJ4.out; have := HK2.out; omega
 case rel => exact ⟨(wrap64 (a5 + 1)), (wrap64 (a4 + 1)), sR, sR, H', ⟨by have := HJ4.out; have := HK2.out; omega⟩, by repeat (first | exact Drawn0.refl _ | apply Drawn0.step)⟩
 )
 ·(
 replace a8 := Bool.eq_false_iff.mpr a8
 subst a8
 rw [if_neg nft] at H
 have H' := Aside0.mk H
 clear H
 go_wp2_with (first | ((with_reducible refine gate_callee (f := 57) rfl ?_); refine goesL_ (some 35) rfl rfl Tryz.func57 kr rfl #[.int .i64 a0, .int .i64 a1, .int .i64 a4] rfl sM ?_; (with_reducible refine (spec_miIs.calls a0 a1 a4 false _ b3.out).mono ?_); rintro e w' ⟨rfl, ⟨nd, rfl⟩⟩; refine ⟨_, rfl, ?_⟩))
 go_roundg k2
 case measure => have := HJ4.out; have := HK2.out; omega
 case rel => exact ⟨(a5), (wrap64 (a4 + 1)), sR, sR, H', ⟨by have := HJ4.out; have := HK2.out; omega⟩, by repeat (first | exact Drawn0.refl _ | apply Drawn0.step)⟩
 )
 )
 ·(
 rw [if_neg a7] at H
 have b1 : decide (a4 ≤ (wrap64 (a2 + a3))) = false := decide_eq_false a7
 clear a7
 simp only [Option.some.injEq, Prod.mk.injEq] at H
 obtain ⟨rfl, rfl⟩ := H
 go_wp2
 go_ret2
 exact ⟨by first | rfl | (simp; done) | (simp [*]; done), by repeat (first | exact Drawn0.refl _ | apply Drawn0.step)⟩
 )
 )
 )
 )
 )
 )

/-! ### spec_DrawFarthestOf: function 19 -/
-- (its text lies ahead)

end Go.Proofs.YtnmhefdjakjngaaGreatDoor.PFnMirrorsFace
