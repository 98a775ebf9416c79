-- Written by xprint.py, a program of this session, for this seat; Lean checks it.
import Derived.Test.YthfbjofmcniogaaPFnExactCountCrossingsx0
import Derived.Test.YthfbjofmcniogaaPFnExactCountCrossingsx6
import Derived.Test.YthfbjofmcniogaaPFnExactCountCrossingsx7
import Derived.Test.YthfbjofmcniogaaPFnExactCountCrossingsx8
namespace Go.Proofs.Ythfbjofmcniogaa.PFnExactCountCrossings
open Go.RowKit Go.Proofs.YthfbjofmcniogaaW.PrintWords Go.Proofs.YthfbjofmcniogaaW.PrintLast Go.Proofs.YthfbjofmcniogaaW.PrintMore
attribute [local go_sem] max2_int min2_int max_two min_two   -- for this text's walks alone
set_option linter.unusedVariables false
set_option linter.unusedSimpArgs false

/-! ### impl_visits: function 42 -/
/-! ### A map keyed by a place. -/
section VisMap
open Go.Maps Go.WideShapes Go.MapKept Go.ChangeMaps Go.WideElems Go.WideMaps
theorem vs_laid : laidOutB Try.prog = true := by kernel_rfl
theorem vs_klaw : KeyLaw Try.prog 68 := deep_law_laid vs_laid (m := 9) (by decide) (of_decide_eq_true (by kernel_rfl)) (by kernel_rfl) (by kernel_rfl)
theorem vs_keyed : Keyed Try.prog 68 := Keyed.of_law vs_klaw
def vsKl (x y : Int) : Lit := .string (keyBytes [.int .i64 x, .int .i64 y])
theorem vs_types : ∃ n, Try.prog.types.size = n + 1 := ⟨Try.prog.types.size - 1, by kernel_rfl⟩
theorem vs_wf (x : Int) : (Lit.int .i64 x).wf = true ↔ -9223372036854775808 ≤ x ∧ x ≤ 9223372036854775807 := by
  have e0 : IntKind.i64.min = -9223372036854775808 := by decide
  have e1 : IntKind.i64.max = 9223372036854775807 := by decide
  simp [Lit.wf]
  omega
theorem vs_key {x y : Int} (hx : (Lit.int .i64 x).wf = true) (hy : (Lit.int .i64 y).wf = true) : keyOf Try.prog 68 (.agg #[.int .i64 x, .int .i64 y]) = some (vsKl x y) := by
  have c3 : Try.prog.cellsOf 3 = 1 := by kernel_rfl
  have cK : Try.prog.cellsOf 68 = 2 := by kernel_rfl
  have kt : Try.prog.keyType 68 = true := by kernel_rfl
  obtain ⟨n, hn⟩ := vs_types
  have l1 : Try.prog.keyLits (n + 1 + 1) 68 [.int .i64 x, .int .i64 y] = some [.int .i64 x, .int .i64 y] := by
    simp [Program.keyLits, Try.underlying68, Try.underlying3, cK, c3, hx, hy, List.range_succ]
  unfold keyOf
  simp only [Try.underlying68]
  have ec : (Value.agg #[.int .i64 x, .int .i64 y]).cells.toList = [.int .i64 x, .int .i64 y] := rfl
  rw [kt, hn, ec, l1]
  simp [Value.formed, Try.underlying68, cK, vsKl]
theorem vs_keyInv {v : Value} {kl : Lit} (h : keyOf Try.prog 68 v = some kl) : ∃ z : Int × Int, v = .agg #[.int .i64 z.1, .int .i64 z.2] ∧ kl = vsKl z.1 z.2 ∧ (Lit.int .i64 z.1).wf = true ∧ (Lit.int .i64 z.2).wf = true := by
  have c3 : Try.prog.cellsOf 3 = 1 := by kernel_rfl
  have cK : Try.prog.cellsOf 68 = 2 := by kernel_rfl
  have kt : Try.prog.keyType 68 = true := by kernel_rfl
  obtain ⟨n, hn⟩ := vs_types
  unfold keyOf at h
  simp only [Try.underlying68] at h
  rw [kt, hn] at h
  cases v with
  | agg cs =>
    by_cases hc : cs.size = 2
    · obtain ⟨a, b, rfl⟩ : ∃ a b, cs = #[a, b] := by
        obtain ⟨l⟩ := cs
        match l, hc with
        | [a, b], _ => exact ⟨a, b, rfl⟩
      have hf : Value.formed Try.prog 68 (.agg #[a, b]) = true := by simp [Value.formed, Try.underlying68, cK]
      have ec : (Value.agg #[a, b]).cells.toList = [a, b] := rfl
      rw [hf, ec] at h
      simp only [Bool.and_self, if_true] at h
      obtain ⟨ls, hls, hkl⟩ := Option.map_eq_some_iff.mp h
      clear h
      have ea : ∀ v : Value, ∀ z, Try.prog.keyLits (n + 1) 3 [v] = some z → ∃ x, v = .int .i64 x ∧ z = [.int .i64 x] ∧ (Lit.int .i64 x).wf = true := by
        intro v z hz
        cases v <;> simp [Program.keyLits, Try.underlying3] at hz
        obtain ⟨⟨rfl, hw⟩, rfl⟩ := hz
        exact ⟨_, rfl, rfl, hw⟩
      have hstep : Try.prog.keyLits (n + 1 + 1) 68 [a, b] = (if [a, b].length = Try.prog.cellsOf 68 then ((List.range 2).mapM fun i => Try.prog.keyLits (n + 1) 3 (([a, b].drop (i * Try.prog.cellsOf 3)).take (Try.prog.cellsOf 3))).map List.flatten else none) := by
        conv => lhs; unfold Program.keyLits
        simp only [Try.underlying68]
      rw [hstep, cK, c3] at hls
      simp [List.range_succ] at hls
      cases hz1 : Try.prog.keyLits (n + 1) 3 [a] with
      | none => rw [hz1] at hls; simp at hls
      | some z1 =>
      rw [hz1] at hls
      cases hz2 : Try.prog.keyLits (n + 1) 3 [b] with
      | none => rw [hz2] at hls; simp at hls
      | some z2 =>
      rw [hz2] at hls
      simp at hls
      subst hls
      obtain ⟨x, rfl, rfl, wx⟩ := ea a z1 hz1
      obtain ⟨y, rfl, rfl, wy⟩ := ea b z2 hz2
      exact ⟨(x, y), rfl, hkl.symm, wx, wy⟩
    · simp [Value.formed, Try.underlying68, cK, hc] at h
  | _ => simp [Value.formed, Try.underlying68] at h
/-- 'm[k]++' as the translation lays it: the entry is made ready, then filled. -/
theorem vs_entryStore {H : Type} {P : Program} {w : World} {t k e : TypeId} {R : Value → Option (DataW H × List MemPlace)} {b : Nat} {es : Array MapEntry} {clock : Nat} (K : KeyLaw P k) (ht : P.underlying t = some (.map k e)) {z : Value} (hz : ∀ u : World, (zeroValue e).run P u = .ok z u) (hb : w.heap[b]? = some (.map es clock)) (F : Fit P k R es clock)
    {key : Value} {kl : Lit} (hkey : keyOf P k key = some kl) :
    ∃ (v0 : Value) (st : Nat) (es1 : Array MapEntry) (clock1 : Nat), (Instr.mapEntry t (.map (some b)) key).run P w = .ok (.tuple #[v0, goInt st]) (setBlock w b (.map es1 clock1)) ∧
      (Instr.mapUpdate t (.map (some b)) key v0).run P w = .ok () (setBlock w b (.map es1 clock1)) ∧ (Instr.lookup t (.map (some b)) key false).run P w = .ok v0 w ∧
      ∀ (w2 : World) (val : Value), w2.heap[b]? = some (.map es1 clock1) → ∃ es' clock', (Instr.entryStore t (.map (some b)) (goInt st) val).run P w2 = .ok () (setBlock w2 b (.map es' clock')) ∧
        (Instr.mapUpdate t (.map (some b)) key val).run P w = .ok () (setBlock w b (.map es' clock')) := by
  obtain ⟨s1, s2, _⟩ := F.stamped
  rcases K.find w hkey es.toList F.keys with ⟨h1, h2⟩ | ⟨j, e0, h1, h2, h3⟩
  · refine ⟨z, clock, es.push ⟨key, z, clock⟩, clock + 1, ?_, ?_, ?_, fun w2 val hw2 => ⟨es.push ⟨key, val, clock⟩, clock + 1, ?_, ?_⟩⟩
    · simp [Instr.mapEntry, run_underlying ht, MapKept.run_getObj_map hb, K.check w false hkey, h1, hz, MapKept.run_setObj_map _ hb, Result.andThen, setBlock]
    · simp [Instr.mapUpdate, run_underlying ht, MapKept.run_getObj_map hb, K.check w false hkey, h1, MapKept.run_setObj_map _ hb, Result.andThen, setBlock]
    · simp [Instr.lookup, run_underlying ht, MapKept.run_getObj_map hb, K.check w es.isEmpty hkey, h1, hz, Result.andThen]
    · have hidx : (es.push ⟨key, z, clock⟩).findIdx? (fun e => ((e.born : Nat) : Int) == ((clock : Nat) : Int)) = some es.size := by
        rw [findIdx_arr]
        have := findIdx_born (l := (es.push ⟨key, z, clock⟩).toList) (j := es.size) (e0 := ⟨key, z, clock⟩) (by
          simp only [Array.toList_push, List.map_append, List.map_cons, List.map_nil]
          refine List.nodup_append.2 ⟨s2, by simp, fun a ha c hc e1 => ?_⟩
          simp only [List.mem_singleton] at hc
          obtain ⟨x, hx, rfl⟩ := List.mem_map.1 ha
          have := s1 x hx
          omega) (by simp)
        exact this
      have hmod : (es.push ⟨key, z, clock⟩).modify es.size (fun e => { e with val := val }) = es.push ⟨key, val, clock⟩ := by
        apply Array.ext'
        rw [Array.toList_modify, Array.toList_push, Array.toList_push, ← Array.length_toList, modify_last]
      simp [Instr.entryStore, MapKept.run_getObj_map hw2, asInt, asIntOf, goInt, hidx, hmod, MapKept.run_setObj_map _ hw2, Result.andThen, setBlock]
    · simp [Instr.mapUpdate, run_underlying ht, MapKept.run_getObj_map hb, K.check w false hkey, h1, MapKept.run_setObj_map _ hb, Result.andThen, setBlock]
  · have hj : es[j]? = some e0 := by simpa using h2
    have hsame : es.modify j (fun e => { e with key := key }) = es := by
      apply Array.ext'
      rw [Array.toList_modify, modify_eq_set _ _ _ _ h2]
      have : ({ e0 with key := key } : MapEntry) = e0 := by rw [← h3]
      rw [this]
      exact set_self _ _ _ h2
    have hsame2 : es.modify j (fun e => { e with key := key, val := e0.val }) = es := by
      apply Array.ext'
      rw [Array.toList_modify, modify_eq_set _ _ _ _ h2]
      have : ({ e0 with key := key, val := e0.val } : MapEntry) = e0 := by rw [← h3]
      rw [this]
      exact set_self _ _ _ h2
    refine ⟨e0.val, e0.born, es, clock, ?_, ?_, ?_, fun w2 val hw2 => ⟨es.modify j (fun e' => { e' with key := key, val := val }), clock, ?_, ?_⟩⟩
    · simp [Instr.mapEntry, run_underlying ht, MapKept.run_getObj_map hb, K.check w false hkey, h1, hj, h3, K.stays w hkey, hsame, MapKept.run_setObj_map _ hb, Result.andThen, setBlock]
    · simp [Instr.mapUpdate, run_underlying ht, MapKept.run_getObj_map hb, K.check w false hkey, h1, hj, h3, K.stays w hkey, hsame2, MapKept.run_setObj_map _ hb, Result.andThen, setBlock]
    · simp [Instr.lookup, run_underlying ht, MapKept.run_getObj_map hb, K.check w es.isEmpty hkey, h1, Result.andThen]
    · have hidx : es.findIdx? (fun e => ((e.born : Nat) : Int) == ((e0.born : Nat) : Int)) = some j := by
        rw [findIdx_arr]
        exact findIdx_born s2 h2
      have hmod : es.modify j (fun e => { e with val := val }) = es.modify j (fun e' => { e' with key := key, val := val }) := by
        apply Array.ext'
        rw [Array.toList_modify, Array.toList_modify, modify_eq_set _ _ _ _ h2, modify_eq_set _ _ _ _ h2, ← h3]
      simp [Instr.entryStore, MapKept.run_getObj_map hw2, asInt, asIntOf, goInt, hidx, hmod, MapKept.run_setObj_map _ hw2, Result.andThen, setBlock]
    · simp [Instr.mapUpdate, run_underlying ht, MapKept.run_getObj_map hb, K.check w false hkey, h1, hj, h3, K.stays w hkey, MapKept.run_setObj_map _ hb, Result.andThen, setBlock]
theorem vs_zero (w : World) : (zeroValue 3).run Try.prog w = .ok (.int .i64 0) w := by kernel_rfl
/-- The block alone tells what the map reads as. -/
theorem vs_block {H : Type} {P : Program} {k : TypeId} {R : Value → Option (DataW H × List MemPlace)} {w w' : World} {b n : Nat} {D : DataW H} (h : w.ownsMap P k R b n D) (hb : w'.heap[b]? = w.heap[b]?) : w'.ownsMap P k R b n D := by
  obtain ⟨es, clock, h1, F, h2, h3⟩ := h
  exact ⟨es, clock, hb.trans h1, F, h2, h3⟩
theorem vs_set (w : World) (b : Nat) (es : Array MapEntry) (clock : Nat) {o : Obj} (h : w.heap[b]? = some o) : (setBlock w b (.map es clock)).heap[b]? = some (.map es clock) ∧ w.grownBy (setBlock w b (.map es clock)) (some b) := by
  have hlt := (Array.getElem?_eq_some_iff.1 h).1
  refine ⟨?_, rfl, rfl, rfl, ?_, fun i _ hi => ?_⟩
  · simp [setBlock, hlt]
  · simp [setBlock]
  · have hne : b ≠ i := fun e => hi (by rw [e])
    simp [setBlock, hne]
abbrev vsOwns (w : World) (b n : Nat) (D : DataW Unit) : Prop := w.ownsMap Try.prog 68 (plainElem Try.prog 3) b n D
theorem vs_count (W : World) (B n : Nat) (D : DataW Unit) (hown : vsOwns W B n D) (hn : n < 1000000) {x y : Int} (hx : (Lit.int .i64 x).wf = true) (hy : (Lit.int .i64 y).wf = true) (hD : IsMap D) :
    ∃ (c st : Int) (W2 : World), (Instr.lookup 62 (.map (some B)) (.agg #[.int .i64 x, .int .i64 y]) false).run Try.prog W = .ok (.int .i64 c) W ∧ D.atKey (vsKl x y) (.lit (.int .i64 0)) = .lit (.int .i64 c) ∧
      (Instr.mapEntry 62 (.map (some B)) (.agg #[.int .i64 x, .int .i64 y])).run Try.prog W = .ok (.tuple #[.int .i64 c, .int .i64 st]) W2 ∧
      (Instr.lookup 62 (.map (some B)) (.agg #[.int .i64 x, .int .i64 y]) false).run Try.prog W2 = .ok (.int .i64 c) W2 ∧
      ∀ v, (Lit.int .i64 v).wf = true → ∃ W3, (Instr.entryStore 62 (.map (some B)) (.int .i64 st) (.int .i64 v)).run Try.prog W2 = .ok () W3 ∧ vsOwns W3 B (n + 1) (D.put (vsKl x y) (.lit (.int .i64 v))) ∧ W.grownBy W3 (some B) := by
  have hkey := vs_key hx hy
  obtain ⟨c, hrun, hat, hwc⟩ := hown.lookup_int vs_keyed Try.underlying62 Try.underlying3 (vs_zero W) hkey
  have hown' := hown
  obtain ⟨es, clock, hb, F, hs, hD'⟩ := hown'
  obtain ⟨v0, st, es1, clock1, m1, m2, m3, m4⟩ := vs_entryStore vs_klaw Try.underlying62 vs_zero hb F hkey
  rw [hrun] at m3
  obtain rfl : Value.int .i64 c = v0 := by injection m3
  have hn' : n < maxLen := by unfold maxLen; omega
  obtain ⟨w', u1, u2, u3⟩ := hown.update vs_keyed Try.underlying62 hn' hkey (plainElem_int (H := Unit) Try.underlying3 hwc)
  rw [m2] at u1
  obtain rfl : setBlock W B (.map es1 clock1) = w' := by injection u1
  obtain ⟨c2, l1, l2, l3⟩ := u2.lookup_int vs_keyed Try.underlying62 Try.underlying3 (vs_zero _) hkey
  rw [atKey_put_same hD (vs_keyed.key hkey)] at l2
  obtain rfl : c = c2 := by injection l2 with e; injection e
  refine ⟨c, st, _, hrun, hat, m1, l1, fun v hv => ?_⟩
  obtain ⟨q1, q2⟩ := vs_set W B es1 clock1 hb
  obtain ⟨es', clock', r1, r2⟩ := m4 (setBlock W B (.map es1 clock1)) (.int .i64 v) q1
  obtain ⟨w'', v1, v2, v3⟩ := hown.update vs_keyed Try.underlying62 hn' hkey (plainElem_int (H := Unit) Try.underlying3 hv)
  rw [r2] at v1
  obtain rfl : setBlock W B (.map es' clock') = w'' := by injection v1
  obtain ⟨p1, p2⟩ := vs_set (setBlock W B (.map es1 clock1)) B es' clock' q1
  exact ⟨_, r1, vs_block v2 (p1.trans (vs_set W B es' clock' hb).1.symm), q2.trans p2⟩
end VisMap
set_option maxHeartbeats 4000000 in
set_option maxRecDepth 100000 in
theorem vs_one (cb T B : Nat) (k x y : Int) (r u : Bool) (sd : ByteArray) (w Wd : World) (n : Nat) (D : DataW Unit) (hn : n < 1000000) (hx : (Lit.int .i64 x).wf = true) (hy : (Lit.int .i64 y).wf = true) (hB : Below w.heap.size w Wd) (hwB : w.heap.size ≤ B) (hcB : cb ≠ B) (hT : T + 1 < Wd.heap.size) (hBT : B < T) (hlt : cb < Wd.heap.size)
    (hc : Wd.heap[cb]? = some (.cells #[.map (some B)] 62 (0, 0))) (hown : vsOwns Wd B n D) (hD : Maps.IsMap D) :
    Calls Try.prog 74 #[.int .i64 k, .agg #[.int .i64 x, .int .i64 y, .bool r, .bool u], .string sd, .pointer (some ⟨cb, 0, none⟩)] Wd fun e w' =>
      e = .returned (.bool false) ∧ Below w.heap.size w w' ∧ (∃ c, D.atKey (vsKl x y) (.lit (.int .i64 0)) = .lit (.int .i64 c) ∧ vsOwns w' B (n + 1) (D.put (vsKl x y) (.lit (.int .i64 (wrap64 (c + 1)))))) ∧ w'.heap[cb]? = some (.cells #[.map (some B)] 62 (0, 0)) ∧ FwFr T Wd w' := by
  have hal := below_alloc (Below.refl _ Wd) (.cells #[.int .i64 x, .int .i64 y, .bool r, .bool u] 30 (0, 0))
  have q1 := (hal.block _ hlt).trans hc
  have c1 := (fw_cells q1 0).1
  simp at c1
  have o1 : vsOwns (Wd.alloc (.cells #[.int .i64 x, .int .i64 y, .bool r, .bool u] 30 (0, 0))).drew B n D := (hown.alloc _).drew
  obtain ⟨c, st, W2, e1, hat, e2, e3, e4⟩ := vs_count _ B n D o1 hn hx hy hD
  obtain ⟨W3, e5, e6, e7⟩ := e4 (wrap64 (c + 1)) ((vs_wf _).2 (by unfold wrap64; omega))
  have H6 := Aside0.mk e6
  have H7 := Aside0.mk e7
  have HAT := Aside0.mk hat
  have HAL := Aside0.mk hal
  have Q1 := Aside0.mk q1
  have HBB := Aside0.mk hB
  have HC := Aside0.mk (show cb ≠ B ∧ T + 1 < Wd.heap.size ∧ B < T ∧ cb < Wd.heap.size ∧ w.heap.size ≤ B from ⟨hcB, hT, hBT, hlt, hwB⟩)
  clear e4 e6 e7 hat hal q1 hB o1 hown hc hD hcB hT hBT hlt hwB hx hy
  go_enter Try.func74, Try.ntmps74
  go_wp2
  go_region
  all_goals (
    go_wp2
    go_ret
    have hc := HC.out
    have hg := H7.out
    have hz := HAL.out.size
    have e1 : ∀ i, i < Wd.heap.size → i ≠ B → W3.heap[i]? = Wd.heap[i]? := fun i hi hne => (hg.block i (Nat.lt_of_lt_of_le hi hz) (fun e => hne (by injection e))).trans (HAL.out.block i hi)
    refine ⟨rfl, ⟨hg.os.trans (HAL.out.os.trans HBB.out.os), hg.tape.trans (HAL.out.tape.trans HBB.out.tape), hg.output.trans (HAL.out.output.trans HBB.out.output), Nat.le_trans HBB.out.size (Nat.le_trans hz hg.size), fun i hi => ?_⟩, ⟨c, HAT.out, H6.out⟩, ?_, ⟨Nat.le_trans hz hg.size, ?_, ?_⟩⟩
    · have := HBB.out.size
      exact (e1 i (by omega) (by omega)).trans (HBB.out.block i hi)
    · exact (hg.block cb (Nat.lt_of_lt_of_le hc.2.2.2.1 hz) (fun e => hc.1 (by injection e))).trans Q1.out
    · exact e1 T (by omega) (by omega)
    · exact e1 (T + 1) (by omega) (by omega))
/-- What the map reads as behind k places; how often a place was passed; the places that were passed, each once. -/
def vsPt (W H : Int) (b : S30) (k : Nat) : Int × Int := ((fwSt W H b k).1.f0, (fwSt W H b k).1.f1)
def vsCnt (W H : Int) (b : S30) (q : Int × Int) : Nat → Nat
  | 0 => 0
  | k + 1 => vsCnt W H b q k + (if vsPt W H b k = q then 1 else 0)
def vsSet (W H : Int) (b : S30) : Nat → List (Int × Int)
  | 0 => []
  | k + 1 => if vsPt W H b k ∈ vsSet W H b k then vsSet W H b k else vsPt W H b k :: vsSet W H b k
def vsD (W H : Int) (b : S30) : Nat → DataW Unit
  | 0 => .map []
  | k + 1 => (vsD W H b k).put (vsKl (vsPt W H b k).1 (vsPt W H b k).2) (.lit (.int .i64 ((vsCnt W H b (vsPt W H b k) (k + 1) : Nat) : Int)))
theorem vsCnt_le (W H : Int) (b : S30) (q : Int × Int) : ∀ k, vsCnt W H b q k ≤ k
  | 0 => Nat.le_refl _
  | k + 1 => by
    have := vsCnt_le W H b q k
    simp only [vsCnt]
    split <;> omega
theorem vsKl_inj {x y x' y' : Int} (hx : (Lit.int .i64 x).wf = true) (hy : (Lit.int .i64 y).wf = true) (hx' : (Lit.int .i64 x').wf = true) (hy' : (Lit.int .i64 y').wf = true) (h : vsKl x y = vsKl x' y') : x = x' ∧ y = y' := by
  have e := vs_keyed.inj (vs_key hx hy) (h ▸ vs_key hx' hy')
  injection e with e
  have := congrArg Array.toList e
  simp at this
  exact this
structure VsWf (W H : Int) (b : S30) (n : Nat) : Prop where
  x : ∀ k, k ≤ n → (Lit.int .i64 (vsPt W H b k).1).wf = true
  y : ∀ k, k ≤ n → (Lit.int .i64 (vsPt W H b k).2).wf = true
def vsGood (q : Int × Int) : Prop := (Lit.int .i64 q.1).wf = true ∧ (Lit.int .i64 q.2).wf = true
theorem vsKl_ne {p q : Int × Int} (hp : vsGood p) (hq : vsGood q) (h : p ≠ q) : vsKl p.1 p.2 ≠ vsKl q.1 q.2 := fun e => h (by
  have := vsKl_inj hp.1 hp.2 hq.1 hq.2 e
  exact Prod.ext this.1 this.2)
theorem vsKl_lit {p : Int × Int} (hp : vsGood p) : WideAt.IsKeyLit (vsKl p.1 p.2) := vs_keyed.key (vs_key hp.1 hp.2)
/-- All that is known of the map. -/
structure VsIs (W H : Int) (b : S30) (k : Nat) (D : DataW Unit) : Prop where
  tidy : Maps.Tidy D
  at_ : ∀ q, vsGood q → D.atKey (vsKl q.1 q.2) (.lit (.int .i64 0)) = .lit (.int .i64 ((vsCnt W H b q k : Nat) : Int))
  has : ∀ q, vsGood q → Maps.has D (vsKl q.1 q.2) = decide (q ∈ vsSet W H b k)
  size : Maps.size D = (vsSet W H b k).length
theorem vsIs (W H : Int) (b : S30) (n : Nat) (hg : ∀ k, k < n → vsGood (vsPt W H b k)) : ∀ k, k ≤ n → VsIs W H b k (vsD W H b k) := by
  intro k
  induction k with
  | zero => intro _; exact ⟨Maps.tidy_empty, fun q _ => rfl, fun q _ => by simp [vsD, vsSet, Maps.has], rfl⟩
  | succ k ih =>
    intro hk
    have h := ih (by omega)
    have hp := hg k (by omega)
    refine ⟨h.tidy.put (vsKl_lit hp) _, fun q hq => ?_, fun q hq => ?_, ?_⟩
    · by_cases c : vsPt W H b k = q
      · subst c
        simp only [vsD]
        rw [Maps.atKey_put_same h.tidy.isMap (vsKl_lit hp)]
      · simp only [vsD]
        rw [Maps.atKey_put_other (vsKl_ne hq hp (fun e => c e.symm)), h.at_ q hq]
        simp [vsCnt, c]
    · by_cases c : vsPt W H b k = q
      · subst c
        simp only [vsD]
        rw [Maps.has_put_same h.tidy.isMap (vsKl_lit hp)]
        simp only [vsSet]
        split <;> simp [*]
      · simp only [vsD]
        rw [Maps.has_put_other (vsKl_ne hq hp (fun e => c e.symm)), h.has q hq]
        simp only [vsSet]
        split
        · rfl
        · simp [show q ≠ vsPt W H b k from fun e => c e.symm]
    · simp only [vsD]
      rw [Maps.size_put h.tidy, h.has _ hp, h.size]
      simp only [vsSet]
      by_cases c : vsPt W H b k ∈ vsSet W H b k <;> simp [c]
structure VsI (W H : Int) (b : S30) (T cb B : Nat) (w : World) (k : Nat) (wr : World) : Prop where
  below : Below w.heap.size w wr
  lt : T ≤ wr.heap.size
  cell : wr.heap[cb]? = some (.cells #[.map (some B)] 62 (0, 0))
  own : k ≤ 1000000 → vsOwns wr B k (vsD W H b k)
theorem vs_way (W H x y : Int) (r u : Bool) (steps : Int) (h0 : 0 ≤ steps) (h1 : steps ≤ 100000) (hg : ∀ k, vsGood (vsPt W H ⟨x, y, r, u⟩ k)) (cb B : Nat) (w wb : World) (hB : Below w.heap.size w wb) (hwc : w.heap.size ≤ cb) (hwB : w.heap.size ≤ B) (hcB : cb ≠ B) (hlt : cb < wb.heap.size) (hltB : B < wb.heap.size) (hc : wb.heap[cb]? = some (.cells #[.map (some B)] 62 (0, 0))) (hown : vsOwns wb B 0 (.map [])) :
    Calls Try.prog 46 #[.agg #[.int .i64 W, .int .i64 H], .agg #[.int .i64 x, .int .i64 y, .bool r, .bool u], .int .i64 steps, .func (.func 74) #[] #[.pointer (some ⟨cb, 0, none⟩)]] wb fun e w' =>
      e = .returned (.tuple #[]) ∧ VsI W H ⟨x, y, r, u⟩ wb.heap.size cb B w (fwN W H ⟨x, y, r, u⟩ steps (fun _ => false) + 1) w' := by
  obtain ⟨n1, n2, n3⟩ := fwN_is W H ⟨x, y, r, u⟩ steps (fun _ => false) h0
  refine impl_follow.calls W H x y r u steps 74 #[.pointer (some ⟨cb, 0, none⟩)] (fw_enters Try.func74 (by kernel_rfl) rfl) (VsI W H ⟨x, y, r, u⟩ wb.heap.size cb B w) (fun _ => false) (fwN W H ⟨x, y, r, u⟩ steps (fun _ => false)) wb (by omega) n3 n2 ⟨hB, Nat.le_refl _, hc, fun _ => hown⟩ ?_ ?_
  · intro k W1 W2 hI hm
    have hl := hI.lt
    refine ⟨⟨hm.os.trans hI.below.os, hm.tape.trans hI.below.tape, hm.output.trans hI.below.output, Nat.le_trans hI.below.size hm.size, fun i hi => ?_⟩, Nat.le_trans hl hm.size, (hm.block cb (by omega) (by omega)).trans hI.cell, fun hk => vs_block (hI.own hk) (hm.block B (by omega) (by omega))⟩
    have := hI.below.size
    exact (hm.block i (by omega) (by omega)).trans (hI.below.block i hi)
  · intro k Wd hk hz hI
    have his := vsIs W H ⟨x, y, r, u⟩ k (fun j _ => hg j) k (Nat.le_refl _)
    refine (vs_one cb wb.heap.size B (k : Int) _ _ _ _ _ w Wd k (vsD W H ⟨x, y, r, u⟩ k) (by omega) (hg k).1 (hg k).2 hI.below hwB hcB hz (by omega) (by omega) hI.cell (hI.own (by omega)) his.tidy.isMap).mono ?_
    rintro e w2 ⟨rfl, hb2, ⟨c, hc1, hc2⟩, hcell, hf⟩
    refine ⟨rfl, ⟨hb2, Nat.le_trans hI.lt hf.size, hcell, fun _ => ?_⟩, hf⟩
    have ha := his.at_ _ (hg k)
    have hcc : c = ((vsCnt W H ⟨x, y, r, u⟩ (vsPt W H ⟨x, y, r, u⟩ k) k : Nat) : Int) := by
      have e2 := hc1.symm.trans ha
      injection e2 with e2
      injection e2
    have hle := vsCnt_le W H ⟨x, y, r, u⟩ (vsPt W H ⟨x, y, r, u⟩ k) k
    have ew : wrap64 (c + 1) = ((vsCnt W H ⟨x, y, r, u⟩ (vsPt W H ⟨x, y, r, u⟩ k) (k + 1) : Nat) : Int) := by
      have : vsCnt W H ⟨x, y, r, u⟩ (vsPt W H ⟨x, y, r, u⟩ k) (k + 1) = vsCnt W H ⟨x, y, r, u⟩ (vsPt W H ⟨x, y, r, u⟩ k) k + 1 := by simp [vsCnt]
      unfold wrap64
      omega
    rw [ew] at hc2
    exact hc2
theorem vs_bounds {W H : Int} (h : (1 ≤ W ∧ W ≤ 60) ∧ 1 ≤ H ∧ H ≤ 60) : 0 ≤ 2 * W * H ∧ 2 * W * H ≤ 7200 ∧ wrap64 (wrap64 (2 * W) * H) = 2 * W * H := by
  have e1 : wrap64 (2 * W) = 2 * W := by unfold wrap64; omega
  have h1 : (2 * W * H).natAbs ≤ 120 * 60 := by rw [Int.natAbs_mul]; exact Nat.mul_le_mul (by omega) (by omega)
  have h2 : 0 ≤ 2 * W * H := Int.mul_nonneg (by omega) (by omega)
  refine ⟨h2, by omega, ?_⟩
  rw [e1]
  unfold wrap64
  omega
def vsN (W H : Int) (b : S30) : Nat := fwN W H b (2 * W * H) (fun _ => false)
set_option maxHeartbeats 8000000 in
set_option maxRecDepth 100000 in
theorem impl_visits.gives (a0_0 : Int) (a0_1 : Int) (a1_0 : Int) (a1_1 : Int) (a1_2 : Bool) (a1_3 : Bool) (w : World) (hh : (1 ≤ a0_0 ∧ a0_0 ≤ 60) ∧ 1 ≤ a0_1 ∧ a0_1 ≤ 60) (hg : ∀ k, vsGood (vsPt a0_0 a0_1 ⟨a1_0, a1_1, a1_2, a1_3⟩ k)) :
    Calls Try.prog 42 #[.agg #[.int .i64 a0_0, .int .i64 a0_1], .agg #[.int .i64 a1_0, .int .i64 a1_1, .bool a1_2, .bool a1_3]] w fun e w' =>
      e = .returned (.map (some (w.heap.size + 2))) ∧ vsOwns w' (w.heap.size + 2) (vsN a0_0 a0_1 ⟨a1_0, a1_1, a1_2, a1_3⟩ + 1) (vsD a0_0 a0_1 ⟨a1_0, a1_1, a1_2, a1_3⟩ (vsN a0_0 a0_1 ⟨a1_0, a1_1, a1_2, a1_3⟩ + 1)) ∧ Below w.heap.size w w' := by
  have hb := vs_bounds hh
  have HH := Aside0.mk hh
  have HG := Aside0.mk hg
  have HA : Aside0 (impl_around.f a0_0 a0_1 = some (2 * a0_0 * a0_1)) := ⟨by unfold impl_around.f; rw [hb.2.2]⟩
  clear hh hb hg
  have hmm := @run_makeMap Try.prog
  go_enter Try.func42, Try.ntmps42
  go_wp2_with fail
  obtain ⟨p1, p2, p3, p3s⟩ := fw_three w (.cells #[.int .i64 a0_0, .int .i64 a0_1] 28 (0, 0)) (.cells #[.int .i64 a1_0, .int .i64 a1_1, .bool a1_2, .bool a1_3] 30 (0, 0)) (.map #[] 0)
  have m0 := World.ownsMap_made (H := Unit) ((w.alloc (.cells #[.int .i64 a0_0, .int .i64 a0_1] 28 (0, 0))).alloc (.cells #[.int .i64 a1_0, .int .i64 a1_1, .bool a1_2, .bool a1_3] 30 (0, 0))) Try.prog 68 (plainElem Try.prog 3)
  rw [(fw_two w (.cells #[.int .i64 a0_0, .int .i64 a0_1] 28 (0, 0)) (.cells #[.int .i64 a1_0, .int .i64 a1_1, .bool a1_2, .bool a1_3] 30 (0, 0))).2.2] at m0
  have ha := below_alloc (Below.refl _ (((w.alloc (.cells #[.int .i64 a0_0, .int .i64 a0_1] 28 (0, 0))).alloc (.cells #[.int .i64 a1_0, .int .i64 a1_1, .bool a1_2, .bool a1_3] 30 (0, 0))).alloc (.map #[] 0))) (.cells #[.map (some (w.heap.size + 1 + 1))] 62 (0, 0))
  have k4 := (MapKept.heap_alloc (((w.alloc (.cells #[.int .i64 a0_0, .int .i64 a0_1] 28 (0, 0))).alloc (.cells #[.int .i64 a1_0, .int .i64 a1_1, .bool a1_2, .bool a1_3] 30 (0, 0))).alloc (.map #[] 0)) (.cells #[.map (some (w.heap.size + 1 + 1))] 62 (0, 0))).1
  rw [p3s] at ha k4
  have HB := Aside0.mk (below_alloc (below_alloc (below_alloc (below_alloc (Below.refl _ w) (.cells #[.int .i64 a0_0, .int .i64 a0_1] 28 (0, 0))) (.cells #[.int .i64 a1_0, .int .i64 a1_1, .bool a1_2, .bool a1_3] 30 (0, 0))) (.map #[] 0)) (.cells #[.map (some (w.heap.size + 1 + 1))] 62 (0, 0)))
  have hz4 : ((((w.alloc (.cells #[.int .i64 a0_0, .int .i64 a0_1] 28 (0, 0))).alloc (.cells #[.int .i64 a1_0, .int .i64 a1_1, .bool a1_2, .bool a1_3] 30 (0, 0))).alloc (.map #[] 0)).alloc (.cells #[.map (some (w.heap.size + 1 + 1))] 62 (0, 0))).heap.size = w.heap.size + 4 := by simp
  have hu28 := Try.underlying28
  have hu30 := Try.underlying30
  have m1 : vsOwns ((((w.alloc (.cells #[.int .i64 a0_0, .int .i64 a0_1] 28 (0, 0))).alloc (.cells #[.int .i64 a1_0, .int .i64 a1_1, .bool a1_2, .bool a1_3] 30 (0, 0))).alloc (.map #[] 0)).alloc (.cells #[.map (some (w.heap.size + 1 + 1))] 62 (0, 0))) (w.heap.size + 2) 0 (.map []) := m0.alloc _
  have g1 := (ha.block w.heap.size (by omega)).trans p1
  have g2 := (ha.block (w.heap.size + 1) (by omega)).trans p2
  obtain ⟨w5, hw5⟩ : ∃ w5, w5 = ((((w.alloc (.cells #[.int .i64 a0_0, .int .i64 a0_1] 28 (0, 0))).alloc (.cells #[.int .i64 a1_0, .int .i64 a1_1, .bool a1_2, .bool a1_3] 30 (0, 0))).alloc (.map #[] 0)).alloc (.cells #[.map (some (w.heap.size + 1 + 1))] 62 (0, 0))) := ⟨_, rfl⟩
  rw [← hw5] at m1 HB k4 hz4 g1 g2 ⊢
  clear hw5 m0 ha p1 p2 p3 p3s
  have HD : Aside0 (w5.drew.heap[w.heap.size]? = some (.cells #[.int .i64 a0_0, .int .i64 a0_1] 28 (0, 0)) ∧ w5.drew.heap[w.heap.size + 1]? = some (.cells #[.int .i64 a1_0, .int .i64 a1_1, .bool a1_2, .bool a1_3] 30 (0, 0)) ∧ w5.drew.heap[w.heap.size + 3]? = some (.cells #[.map (some (w.heap.size + 2))] 62 (0, 0)) ∧ w5.drew.heap.size = w.heap.size + 4 ∧ vsOwns w5.drew (w.heap.size + 2) 0 (.map [])) := ⟨g1, g2, k4, hz4, m1.drew⟩
  have HBD := Aside0.mk (below_step HB.out (below_drew (Below.refl _ w5)))
  clear HB g1 g2 k4 hz4 m1
  have C1 := (fw_cells HD.out.1)
  have C2 := (fw_cells HD.out.2.1)
  refine start_ (n := 6) (S := fun w' => w'.cell? ⟨w.heap.size, 0, none⟩ = some (.int .i64 a0_0) ∧ w'.cell? ⟨w.heap.size, 1, none⟩ = some (.int .i64 a0_1) ∧ w'.cell? ⟨w.heap.size + 1, 0, none⟩ = some (.int .i64 a1_0) ∧ w'.cell? ⟨w.heap.size + 1, 1, none⟩ = some (.int .i64 a1_1) ∧ w'.cell? ⟨w.heap.size + 1, 2, none⟩ = some (.bool a1_2) ∧ w'.cell? ⟨w.heap.size + 1, 3, none⟩ = some (.bool a1_3)) (ds := [5]) #[false, false, false, false, false, false] (by kernel_rfl) rfl rfl ⟨(C1 0).1, (C1 1).1, (C2 0).1, (C2 1).1, (C2 2).1, (C2 3).1⟩ (fun hHeld => ?_)
  clear C1 C2
  generalize w5.drew = w10 at HD HBD hHeld ⊢
  refine pure_ (i := 4) (N := some 11) (v := ?_) (a' := ?_) #[false, false, false, false, true, false] rfl rfl (by kernel_rfl) (fun _ _ _ h => h) (Or.inl ⟨by rfl, ?_⟩) ?_ ?_
  rotate_left
  · intro w'
    go_simp
    with_reducible rfl
  rotate_left
  · simp only [Act.put, List.setIfInBounds_toArray, List.set_cons_zero, List.set_cons_succ, i64_w, i32_w]
    rfl
  refine take_ (i := 0) (N := some 7) (v := ?_) (a' := ?_) #[true, false, false, false, true, false] rfl rfl (by kernel_rfl) (fun _ _ _ h => h) (Or.inl ⟨by rfl, ?_⟩) hHeld ?_ ?_
  rotate_left
  · rintro w' ⟨s0, s1, s2, s3, s4, s5⟩
    go_simp
    with_reducible rfl
  rotate_left
  · simp only [Act.put, List.setIfInBounds_toArray, List.set_cons_zero, List.set_cons_succ, i64_w, i32_w]
    rfl
  refine take_ (i := 1) (N := some 8) (v := ?_) (a' := ?_) #[true, true, false, false, true, false] rfl rfl (by kernel_rfl) (fun _ _ _ h => h) (Or.inl ⟨by rfl, ?_⟩) hHeld ?_ ?_
  rotate_left
  · rintro w' ⟨s0, s1, s2, s3, s4, s5⟩
    go_simp
    with_reducible rfl
  rotate_left
  · simp only [Act.put, List.setIfInBounds_toArray, List.set_cons_zero, List.set_cons_succ, i64_w, i32_w]
    rfl
  refine take_ (i := 2) (N := some 9) (v := ?_) (a' := ?_) #[true, true, true, false, true, false] rfl rfl (by kernel_rfl) (fun _ _ _ h => h) (Or.inl ⟨by rfl, ?_⟩) hHeld ?_ ?_
  rotate_left
  · rintro w' ⟨s0, s1, s2, s3, s4, s5⟩
    go_simp
    with_reducible rfl
  rotate_left
  · simp only [Act.put, List.setIfInBounds_toArray, List.set_cons_zero, List.set_cons_succ, i64_w, i32_w]
    rfl
  refine one_ (i := 3) (N := some 10) #[true, true, true, true, true, false] rfl rfl (by kernel_rfl) (by decide) (fun K hK => ?_)
  refine goes_ Try.func50 (by kernel_rfl) rfl #[.agg #[.int .i64 a0_0, .int .i64 a0_1]] (by rfl) rfl rfl (by (try simp only [List.map_toArray, List.map_cons, List.map_nil]); first | done | rfl | (simp only [List.length_drop, List.length_take]; rfl)) ?_
  with_reducible refine (impl_around.calls a0_0 a0_1 (2 * a0_0 * a0_1) _ HA.out).mono ?_
  rintro e w11 ⟨rfl, hb⟩
  refine ⟨_, rfl, ?_⟩
  have hz : w.heap.size + 3 < w10.heap.size := by rw [HD.out.2.2.2.1]; omega
  have q1 := (hb.block w.heap.size (by omega)).trans HD.out.1
  have q2 := (hb.block (w.heap.size + 1) (by omega)).trans HD.out.2.1
  have q4 := (hb.block (w.heap.size + 3) (by omega)).trans HD.out.2.2.1
  have q5 : vsOwns w11 (w.heap.size + 2) 0 (.map []) := vs_block HD.out.2.2.2.2 (hb.block (w.heap.size + 2) (by omega))
  have hz2 : w.heap.size + 3 < w11.heap.size := Nat.lt_of_lt_of_le hz hb.size
  have hbb := vs_bounds HH.out
  have HB11 := Aside0.mk (below_step HBD.out hb)
  have HWAY := Aside0.mk (vs_way a0_0 a0_1 a1_0 a1_1 a1_2 a1_3 (2 * a0_0 * a0_1) hbb.1 (by omega) HG.out (w.heap.size + 3) (w.heap.size + 2) w w11 HB11.out (by omega) (by omega) (by omega) hz2 (by omega) q4 q5)
  refine hK.out _ _ ⟨(fw_cells q1 0).1, (fw_cells q1 1).1, (fw_cells q2 0).1, (fw_cells q2 1).1, (fw_cells q2 2).1, (fw_cells q2 3).1⟩ (fun hHeld => ?_)
  clear hK K q1 q2 q4 q5 HD HBD hb hbb
  refine norm_ (a' := ?_) ?_ ?_
  rotate_left
  · show Act.put _ (some 10) _ = _
    simp only [Act.put, List.setIfInBounds_toArray, List.set_cons_zero, List.set_cons_succ, i64_w, i32_w]
    rfl
  refine last_ (i := 5) (N := some 12) #[true, true, true, true, true, true] rfl rfl (by kernel_rfl) (by decide) (fun K hK => ?_)
  refine goes_ Try.func46 (by kernel_rfl) rfl #[.agg #[.int .i64 a0_0, .int .i64 a0_1], .agg #[.int .i64 a1_0, .int .i64 a1_1, .bool a1_2, .bool a1_3], .int .i64 (2 * a0_0 * a0_1), .func (.func 74) #[] #[.pointer (some ⟨w.heap.size + 3, 0, none⟩)]] (by rfl) rfl rfl (by (try simp only [List.map_toArray, List.map_cons, List.map_nil]); first | done | rfl | (simp only [List.length_drop, List.length_take]; rfl)) ?_
  refine HWAY.out.mono ?_
  rintro e w12 ⟨rfl, hI⟩
  refine ⟨_, rfl, ?_⟩
  have c1 : w12.cell? ⟨w.heap.size + 1 + 1 + 1, 0, none⟩ = some (.map (some (w.heap.size + 2))) := (fw_cells hI.cell 0).1
  have hle : vsN a0_0 a0_1 ⟨a1_0, a1_1, a1_2, a1_3⟩ + 1 ≤ 1000000 := by
    have hbb := vs_bounds HH.out
    have := (fwN_is a0_0 a0_1 ⟨a1_0, a1_1, a1_2, a1_3⟩ (2 * a0_0 * a0_1) (fun _ => false) hbb.1).1
    unfold vsN
    omega
  have HE := Aside0.mk (And.intro (hI.own hle) hI.below)
  refine hK.out _ _ ?_
  clear hK K hI HWAY HB11 hHeld hle
  refine done_ (by kernel_rfl) ?_
  go_wp2_with fail
  go_ret
  exact ⟨rfl, HE.out.1, HE.out.2⟩
abbrev VsOk (W H x y : Int) : Prop := ((1 ≤ W ∧ W ≤ 60) ∧ 1 ≤ H ∧ H ≤ 60) ∧ (0 ≤ x ∧ x ≤ W) ∧ 0 ≤ y ∧ y ≤ H
theorem vs_inw (W H x y : Int) (r u : Bool) : (fwInw W H ⟨x, y, r, u⟩).f0 = x ∧ (fwInw W H ⟨x, y, r, u⟩).f1 = y := by
  have h := fwInw_eq W H x y r u
  unfold impl_inward.f at h
  (repeat' split at h) <;> (simp only [Option.some.injEq, Prod.mk.injEq] at h; exact ⟨h.1.symm, h.2.1.symm⟩)
theorem vs_next (W H : Int) (s : S30) : ∃ a c, (fwNext W H s).1.f0 = wrap64 a ∧ (fwNext W H s).1.f1 = wrap64 c := by
  obtain ⟨x, y, r, u⟩ := s
  have h := fwNext_eq W H x y r u
  have s1 : ∀ q, ∃ z, impl_sign.f q = some z := fun q => by unfold impl_sign.f; split <;> exact ⟨_, rfl⟩
  obtain ⟨a, ha⟩ := s1 r
  obtain ⟨c, hc⟩ := s1 u
  unfold impl_next.f at h
  rw [ha, hc] at h
  simp only [Option.bind_some, fwCor_eq, fwInw_eq, (vs_inw _ _ _ _ _ _).1, (vs_inw _ _ _ _ _ _).2] at h
  (repeat' split at h) <;> (simp only [Option.some.injEq, Prod.mk.injEq] at h; exact ⟨_, _, h.1.symm, h.2.1.symm⟩)
theorem vs_wfw (a : Int) : (Lit.int .i64 (wrap64 a)).wf = true := (vs_wf _).2 (by unfold wrap64; omega)
theorem vs_good {W H x y : Int} (r u : Bool) (t : VsOk W H x y) : ∀ k, vsGood (vsPt W H ⟨x, y, r, u⟩ k)
  | 0 => by
    unfold vsPt vsGood
    simp only [fwSt, (vs_inw _ _ _ _ _ _).1, (vs_inw _ _ _ _ _ _).2]
    exact ⟨(vs_wf _).2 (by omega), (vs_wf _).2 (by omega)⟩
  | k + 1 => by
    obtain ⟨a, c, e1, e2⟩ := vs_next W H (fwSt W H ⟨x, y, r, u⟩ k).1
    unfold vsPt vsGood
    show (Lit.int .i64 (fwNext W H (fwSt W H ⟨x, y, r, u⟩ k).1).1.f0).wf = true ∧ (Lit.int .i64 (fwNext W H (fwSt W H ⟨x, y, r, u⟩ k).1).1.f1).wf = true
    rw [e1, e2]
    exact ⟨vs_wfw _, vs_wfw _⟩

/-! ### impl_within: function 45 -/
def impl_within.f (a0 : Int) (a1 : Int) (a2 : Int) : Option (Bool) := if a0 ≥ a1 then (some (decide (a0 ≤ a2))) else (some false)
set_option maxHeartbeats 8000000 in
set_option maxRecDepth 100000 in
theorem impl_within.calls (a0 : Int) (a1 : Int) (a2 : Int) (r : Bool) (w : World) (h : impl_within.f a0 a1 a2 = some r) :
    Calls Try.prog 45 #[.int .i64 a0, .int .i64 a1, .int .i64 a2] w fun e w' => e = .returned (.bool r) ∧ Drawn0 w w' := by
  have H : (if a0 ≥ a1 then (some (decide (a0 ≤ a2))) else (some false)) = some r := h
  clear h
  by_cases c4 : a0 ≥ a1
  · rw [if_pos c4] at H
    have c4b0 : decide (a1 ≤ a0) = true := decide_eq_true c4
    clear c4
    obtain rfl := Option.some.inj H
    go_enter Try.func45, Try.ntmps45
    go_wp2
    go_ret
    exact ⟨by first | rfl | (simp; done) | (simp [*]; done), by repeat (first | exact Drawn0.refl _ | apply Drawn0.step)⟩
  · rw [if_neg c4] at H
    have c4b0 : decide (a1 ≤ a0) = false := decide_eq_false c4
    clear c4
    obtain rfl := Option.some.inj H
    go_enter Try.func45, Try.ntmps45
    go_wp2
    go_ret
    exact ⟨by first | rfl | (simp; done) | (simp [*]; done), by repeat (first | exact Drawn0.refl _ | apply Drawn0.step)⟩

/-! ### impl_IsTable: function 54 -/
def impl_IsTable.f (a0_0 : Int) (a0_1 : Int) : Option (Bool) := (impl_within.f a0_0 1 60).bind fun t230 => (if t230 = true then ((impl_within.f a0_1 1 60).bind fun t231 => (some t231)) else (some false))
set_option maxHeartbeats 8000000 in
set_option maxRecDepth 100000 in
theorem impl_IsTable.calls (a0_0 : Int) (a0_1 : Int) (r : Bool) (w : World) (h : impl_IsTable.f a0_0 a0_1 = some r) :
    Calls Try.prog 54 #[.agg #[.int .i64 a0_0, .int .i64 a0_1]] w fun e w' => e = .returned (.bool r) ∧ Below w.heap.size w w' := by
  have hu28 := Try.underlying28
  have HB := Aside0.mk (Below.refl w.heap.size w)
  have H : ((impl_within.f a0_0 1 60).bind fun t230 => (if t230 = true then ((impl_within.f a0_1 1 60).bind fun t231 => (some t231)) else (some false))) = some r := h
  clear h
  replace H := Option.bind_eq_some_iff.mp H
  obtain ⟨t230, A20, H⟩ := H
  replace H : (if t230 = true then ((impl_within.f a0_1 1 60).bind fun t231 => (some t231)) else (some false)) = some r := H
  have A2 := Aside0.mk A20
  clear A20
  by_cases c3 : t230 = true
  · subst c3
    have H1 : ((impl_within.f a0_1 1 60).bind fun t231 => (some t231)) = some r := by rw [if_pos rfl] at H; exact H
    clear H
    have H := H1
    clear H1
    replace H := Option.bind_eq_some_iff.mp H
    obtain ⟨t231, A40, H⟩ := H
    replace H : (some t231) = some r := H
    have A4 := Aside0.mk A40
    clear A40
    obtain rfl := Option.some.inj H
    go_enter Try.func54, Try.ntmps54
    go_wp2_with (first | ((with_reducible refine gate_dst (N := 1) rfl ?_); refine box_event ?hg (N := 1) ?hd (cs := #[.int .i64 a0_0, .int .i64 a0_1]) (t := 28) ?hr ?_; (case hd => rfl); (case hg => rfl); (case hr => first | (go_simp; done) | (go_simp; rfl)); intro gb229 hg w5 hbox hb; have n0_ := Aside0.mk (below_step (by repeat (first | (with_reducible first | exact HB.out | apply below_alloc | apply pw_below_drewN | apply below_drew1) | exact HB.out)) hb); have n1_ := Aside0.mk (hbox); have n2_ := Aside0.mk ((by rw [hg]; exact (below_size (by repeat (first | (with_reducible first | exact HB.out | apply below_alloc | apply pw_below_drewN | apply below_drew1) | exact HB.out))) : w.heap.size ≤ gb229)); have n3_ := Aside0.mk ((by rw [hg]; exact (below_size (by repeat (first | (with_reducible first | exact HB.out | apply below_alloc | apply pw_below_drewN | apply below_drew1) | exact HB.out))) : w.heap.size ≤ gb229)); clear HB; have HB := n0_; have BK229 := n1_; have GW229 := n2_; have GE229 := n3_; clear n0_ n1_ n2_ n3_; clear hb hbox hg; have hcz6_0 : w5.cell? ⟨gb229, 0, none⟩ = some (.int .i64 a0_0) := (blk_cell BK229.out 0).trans rfl; have hcz6_1 : w5.cell? ⟨gb229, 1, none⟩ = some (.int .i64 a0_1) := (blk_cell BK229.out 1).trans rfl; have hfz6_0 := blk_frozen BK229.out 0; have hfz6_1 := blk_frozen BK229.out 1) | ((with_reducible refine gate_callee (f := 45) rfl ?_); refine goesL_ (some 5) rfl rfl Try.func45 (by kernel_rfl) rfl #[.int .i64 a0_0, .int .i64 1, .int .i64 60] rfl (by (try simp only [List.map_toArray, List.map_cons, List.map_nil]); first | done | rfl | (simp only [List.length_drop, List.length_take]; rfl)) ?_; (with_reducible refine (impl_within.calls a0_0 1 60 true _ A2.out).mono ?_); rintro e w' ⟨rfl, ⟨nd, rfl⟩⟩; refine ⟨_, rfl, ?_⟩) | (go_at_call 45; (with_reducible refine (impl_within.calls a0_1 1 60 t231 _ A4.out).mono ?_); rintro e w' ⟨rfl, ⟨nd, rfl⟩⟩))
    go_ret
    exact ⟨by first | rfl | (simp [errW_none, errW_some] <;> rfl) | (simp [*, errW_none, errW_some] <;> rfl), by repeat (first | (with_reducible first | exact HB.out | apply below_alloc | apply pw_below_drewN | apply below_drew1 | refine below_set ?_ GE229.out) | exact HB.out)⟩
  · replace c3 := Bool.eq_false_iff.mpr c3
    subst c3
    have H1 : (some false) = some r := by rw [if_neg (show ¬ (false = true) by decide)] at H; exact H
    clear H
    have H := H1
    clear H1
    obtain rfl := Option.some.inj H
    go_enter Try.func54, Try.ntmps54
    go_wp2_with (first | ((with_reducible refine gate_dst (N := 1) rfl ?_); refine box_event ?hg (N := 1) ?hd (cs := #[.int .i64 a0_0, .int .i64 a0_1]) (t := 28) ?hr ?_; (case hd => rfl); (case hg => rfl); (case hr => first | (go_simp; done) | (go_simp; rfl)); intro gb229 hg w7 hbox hb; have n0_ := Aside0.mk (below_step (by repeat (first | (with_reducible first | exact HB.out | apply below_alloc | apply pw_below_drewN | apply below_drew1) | exact HB.out)) hb); have n1_ := Aside0.mk (hbox); have n2_ := Aside0.mk ((by rw [hg]; exact (below_size (by repeat (first | (with_reducible first | exact HB.out | apply below_alloc | apply pw_below_drewN | apply below_drew1) | exact HB.out))) : w.heap.size ≤ gb229)); have n3_ := Aside0.mk ((by rw [hg]; exact (below_size (by repeat (first | (with_reducible first | exact HB.out | apply below_alloc | apply pw_below_drewN | apply below_drew1) | exact HB.out))) : w.heap.size ≤ gb229)); clear HB; have HB := n0_; have BK229 := n1_; have GW229 := n2_; have GE229 := n3_; clear n0_ n1_ n2_ n3_; clear hb hbox hg; have hcz8_0 : w7.cell? ⟨gb229, 0, none⟩ = some (.int .i64 a0_0) := (blk_cell BK229.out 0).trans rfl; have hcz8_1 : w7.cell? ⟨gb229, 1, none⟩ = some (.int .i64 a0_1) := (blk_cell BK229.out 1).trans rfl; have hfz8_0 := blk_frozen BK229.out 0; have hfz8_1 := blk_frozen BK229.out 1) | ((with_reducible refine gate_callee (f := 45) rfl ?_); refine goesL_ (some 5) rfl rfl Try.func45 (by kernel_rfl) rfl #[.int .i64 a0_0, .int .i64 1, .int .i64 60] rfl (by (try simp only [List.map_toArray, List.map_cons, List.map_nil]); first | done | rfl | (simp only [List.length_drop, List.length_take]; rfl)) ?_; (with_reducible refine (impl_within.calls a0_0 1 60 false _ A2.out).mono ?_); rintro e w' ⟨rfl, ⟨nd, rfl⟩⟩; refine ⟨_, rfl, ?_⟩))
    go_ret
    exact ⟨by first | rfl | (simp [errW_none, errW_some] <;> rfl) | (simp [*, errW_none, errW_some] <;> rfl), by repeat (first | (with_reducible first | exact HB.out | apply below_alloc | apply pw_below_drewN | apply below_drew1 | refine below_set ?_ GE229.out) | exact HB.out)⟩

/-! ### impl_IsBeam: function 22 -/
def impl_IsBeam.f (a0_0 : Int) (a0_1 : Int) (a1_0 : Int) (a1_1 : Int) (a1_2 : Bool) (a1_3 : Bool) : Option (Bool) := (impl_IsTable.f a0_0 a0_1).bind fun t234 => (if t234 = true then ((impl_within.f a1_0 0 a0_0).bind fun t235 => (if t235 = true then ((impl_within.f a1_1 0 a0_1).bind fun t236 => (some t236)) else (some false))) else (some false))
set_option maxHeartbeats 8000000 in
set_option maxRecDepth 100000 in
theorem impl_IsBeam.calls (a0_0 : Int) (a0_1 : Int) (a1_0 : Int) (a1_1 : Int) (a1_2 : Bool) (a1_3 : Bool) (r : Bool) (w : World) (h : impl_IsBeam.f a0_0 a0_1 a1_0 a1_1 a1_2 a1_3 = some r) :
    Calls Try.prog 22 #[.agg #[.int .i64 a0_0, .int .i64 a0_1], .agg #[.int .i64 a1_0, .int .i64 a1_1, .bool a1_2, .bool a1_3]] w fun e w' => e = .returned (.bool r) ∧ Below w.heap.size w w' := by
  have hu28 := Try.underlying28
  have hu30 := Try.underlying30
  have HB := Aside0.mk (Below.refl w.heap.size w)
  have H : ((impl_IsTable.f a0_0 a0_1).bind fun t234 => (if t234 = true then ((impl_within.f a1_0 0 a0_0).bind fun t235 => (if t235 = true then ((impl_within.f a1_1 0 a0_1).bind fun t236 => (some t236)) else (some false))) else (some false))) = some r := h
  clear h
  replace H := Option.bind_eq_some_iff.mp H
  obtain ⟨t234, A30, H⟩ := H
  replace H : (if t234 = true then ((impl_within.f a1_0 0 a0_0).bind fun t235 => (if t235 = true then ((impl_within.f a1_1 0 a0_1).bind fun t236 => (some t236)) else (some false))) else (some false)) = some r := H
  have A3 := Aside0.mk A30
  clear A30
  by_cases c4 : t234 = true
  · subst c4
    have H1 : ((impl_within.f a1_0 0 a0_0).bind fun t235 => (if t235 = true then ((impl_within.f a1_1 0 a0_1).bind fun t236 => (some t236)) else (some false))) = some r := by rw [if_pos rfl] at H; exact H
    clear H
    have H := H1
    clear H1
    replace H := Option.bind_eq_some_iff.mp H
    obtain ⟨t235, A50, H⟩ := H
    replace H : (if t235 = true then ((impl_within.f a1_1 0 a0_1).bind fun t236 => (some t236)) else (some false)) = some r := H
    have A5 := Aside0.mk A50
    clear A50
    by_cases c6 : t235 = true
    · subst c6
      have H1 : ((impl_within.f a1_1 0 a0_1).bind fun t236 => (some t236)) = some r := by rw [if_pos rfl] at H; exact H
      clear H
      have H := H1
      clear H1
      replace H := Option.bind_eq_some_iff.mp H
      obtain ⟨t236, A70, H⟩ := H
      replace H : (some t236) = some r := H
      have A7 := Aside0.mk A70
      clear A70
      obtain rfl := Option.some.inj H
      go_enter Try.func22, Try.ntmps22
      go_wp2_with (first | ((with_reducible refine gate_dst (N := 2) rfl ?_); refine box_event ?hg (N := 2) ?hd (cs := #[.int .i64 a0_0, .int .i64 a0_1]) (t := 28) ?hr ?_; (case hd => rfl); (case hg => rfl); (case hr => first | (go_simp; done) | (go_simp; rfl)); intro gb232 hg w8 hbox hb; have n0_ := Aside0.mk (below_step (by repeat (first | (with_reducible first | exact HB.out | apply below_alloc | apply pw_below_drewN | apply below_drew1) | exact HB.out)) hb); have n1_ := Aside0.mk (hbox); have n2_ := Aside0.mk ((by rw [hg]; exact (below_size (by repeat (first | (with_reducible first | exact HB.out | apply below_alloc | apply pw_below_drewN | apply below_drew1) | exact HB.out))) : w.heap.size ≤ gb232)); have n3_ := Aside0.mk ((by rw [hg]; exact (below_size (by repeat (first | (with_reducible first | exact HB.out | apply below_alloc | apply pw_below_drewN | apply below_drew1) | exact HB.out))) : w.heap.size ≤ gb232)); clear HB; have HB := n0_; have BK232 := n1_; have GW232 := n2_; have GE232 := n3_; clear n0_ n1_ n2_ n3_; clear hb hbox hg) | ((with_reducible refine gate_dst (N := 3) rfl ?_); refine box_event ?hg (N := 3) ?hd (cs := #[.int .i64 a1_0, .int .i64 a1_1, .bool a1_2, .bool a1_3]) (t := 30) ?hr ?_; (case hd => rfl); (case hg => rfl); (case hr => first | (go_simp; done) | (go_simp; rfl)); intro gb233 hg w9 hbox hb; have n0_ := Aside0.mk (blk_below (g := gb232) (o := .cells #[.int .i64 a0_0, .int .i64 a0_1] 28 (0, 0)) (by (with_reducible repeat (first | refine blk_drewN ?_ _ | refine blk_drew ?_ | refine blk_alloc ?_ _)); exact BK232.out) hb); have n1_ := Aside0.mk (below_step (by repeat (first | (with_reducible first | exact HB.out | apply below_alloc | apply pw_below_drewN | apply below_drew1 | refine below_set ?_ GE232.out) | exact HB.out)) hb); have n2_ := Aside0.mk (hbox); have n3_ := Aside0.mk ((by rw [hg]; exact (below_size (by repeat (first | (with_reducible first | exact HB.out | apply below_alloc | apply pw_below_drewN | apply below_drew1 | refine below_set ?_ GE232.out) | exact HB.out))) : w.heap.size ≤ gb233)); have n4_ := Aside0.mk ((by rw [hg]; exact (below_size (by repeat (first | (with_reducible first | exact HB.out | apply below_alloc | apply pw_below_drewN | apply below_drew1 | refine below_set ?_ GE232.out) | exact HB.out))) : w.heap.size ≤ gb233)); have n5_ := Aside0.mk ((by rw [hg]; exact Nat.ne_of_lt (blk_lt (g := gb232) (o := .cells #[.int .i64 a0_0, .int .i64 a0_1] 28 (0, 0)) (by (with_reducible repeat (first | refine blk_drewN ?_ _ | refine blk_drew ?_ | refine blk_alloc ?_ _)); exact BK232.out)) : gb232 ≠ gb233)); have n6_ := Aside0.mk ((by rw [hg]; exact Nat.ne_of_gt (blk_lt (g := gb232) (o := .cells #[.int .i64 a0_0, .int .i64 a0_1] 28 (0, 0)) (by (with_reducible repeat (first | refine blk_drewN ?_ _ | refine blk_drew ?_ | refine blk_alloc ?_ _)); exact BK232.out)) : gb233 ≠ gb232)); clear BK232; clear HB; have BK232 := n0_; have HB := n1_; have BK233 := n2_; have GW233 := n3_; have GE233 := n4_; have NB232_233 := n5_; have NB233_232 := n6_; clear n0_ n1_ n2_ n3_ n4_ n5_ n6_; clear hb hbox hg; have hnb10 := NB232_233.out; have hnc10 := NB233_232.out; have hcz11_0 : w9.cell? ⟨gb232, 0, none⟩ = some (.int .i64 a0_0) := (blk_cell BK232.out 0).trans rfl; have hcz11_1 : w9.cell? ⟨gb232, 1, none⟩ = some (.int .i64 a0_1) := (blk_cell BK232.out 1).trans rfl; have hfz11_0 := blk_frozen BK232.out 0; have hfz11_1 := blk_frozen BK232.out 1) | ((with_reducible refine gate_callee (f := 54) rfl ?_); refine goesL_ (some 6) rfl rfl Try.func54 (by kernel_rfl) rfl #[.agg #[.int .i64 a0_0, .int .i64 a0_1]] rfl (by (try simp only [List.map_toArray, List.map_cons, List.map_nil]); first | done | rfl | (simp only [List.length_drop, List.length_take]; rfl)) ?_; (with_reducible refine (impl_IsTable.calls a0_0 a0_1 true _ A3.out).mono ?_); rintro e w12 ⟨rfl, hb⟩; refine ⟨_, rfl, ?_⟩; have n0_ := Aside0.mk (blk_below (g := gb232) (o := .cells #[.int .i64 a0_0, .int .i64 a0_1] 28 (0, 0)) (by (with_reducible repeat (first | refine blk_drewN ?_ _ | refine blk_drew ?_ | refine blk_alloc ?_ _)); exact BK232.out) hb); have n1_ := Aside0.mk (blk_below (g := gb233) (o := .cells #[.int .i64 a1_0, .int .i64 a1_1, .bool a1_2, .bool a1_3] 30 (0, 0)) (by (with_reducible repeat (first | refine blk_drewN ?_ _ | refine blk_drew ?_ | refine blk_alloc ?_ _)); exact BK233.out) hb); have n2_ := Aside0.mk (below_step (by repeat (first | (with_reducible first | exact HB.out | apply below_alloc | apply pw_below_drewN | apply below_drew1 | refine below_set ?_ GE232.out | refine below_set ?_ GE233.out) | exact HB.out)) hb); clear BK232; clear BK233; clear HB; have BK232 := n0_; have BK233 := n1_; have HB := n2_; clear n0_ n1_ n2_; (try clear hb); (try clear hb2); (try clear hk); (try clear hi); have hcz13_0 : w12.cell? ⟨gb233, 0, none⟩ = some (.int .i64 a1_0) := (blk_cell BK233.out 0).trans rfl; have hcz13_1 : w12.cell? ⟨gb233, 1, none⟩ = some (.int .i64 a1_1) := (blk_cell BK233.out 1).trans rfl; have hcz13_2 : w12.cell? ⟨gb233, 2, none⟩ = some (.bool a1_2) := (blk_cell BK233.out 2).trans rfl; have hcz13_3 : w12.cell? ⟨gb233, 3, none⟩ = some (.bool a1_3) := (blk_cell BK233.out 3).trans rfl; have hfz13_0 := blk_frozen BK233.out 0; have hfz13_1 := blk_frozen BK233.out 1; have hfz13_2 := blk_frozen BK233.out 2; have hfz13_3 := blk_frozen BK233.out 3; have hcz14_0 : w12.cell? ⟨gb232, 0, none⟩ = some (.int .i64 a0_0) := (blk_cell BK232.out 0).trans rfl; have hcz14_1 : w12.cell? ⟨gb232, 1, none⟩ = some (.int .i64 a0_1) := (blk_cell BK232.out 1).trans rfl; have hfz14_0 := blk_frozen BK232.out 0; have hfz14_1 := blk_frozen BK232.out 1) | (go_at_call 45; (with_reducible refine (impl_within.calls a1_0 0 a0_0 true _ A5.out).mono ?_); rintro e w' ⟨rfl, ⟨nd, rfl⟩⟩) | (go_at_call 45; (with_reducible refine (impl_within.calls a1_1 0 a0_1 t236 _ A7.out).mono ?_); rintro e w' ⟨rfl, ⟨nd, rfl⟩⟩))
      go_ret
      exact ⟨by first | rfl | (simp [errW_none, errW_some] <;> rfl) | (simp [*, errW_none, errW_some] <;> rfl), by repeat (first | (with_reducible first | exact HB.out | apply below_alloc | apply pw_below_drewN | apply below_drew1 | refine below_set ?_ GE232.out | refine below_set ?_ GE233.out) | exact HB.out)⟩
    · replace c6 := Bool.eq_false_iff.mpr c6
      subst c6
      have H1 : (some false) = some r := by rw [if_neg (show ¬ (false = true) by decide)] at H; exact H
      clear H
      have H := H1
      clear H1
      obtain rfl := Option.some.inj H
      go_enter Try.func22, Try.ntmps22
      go_wp2_with (first | ((with_reducible refine gate_dst (N := 2) rfl ?_); refine box_event ?hg (N := 2) ?hd (cs := #[.int .i64 a0_0, .int .i64 a0_1]) (t := 28) ?hr ?_; (case hd => rfl); (case hg => rfl); (case hr => first | (go_simp; done) | (go_simp; rfl)); intro gb232 hg w15 hbox hb; have n0_ := Aside0.mk (below_step (by repeat (first | (with_reducible first | exact HB.out | apply below_alloc | apply pw_below_drewN | apply below_drew1) | exact HB.out)) hb); have n1_ := Aside0.mk (hbox); have n2_ := Aside0.mk ((by rw [hg]; exact (below_size (by repeat (first | (with_reducible first | exact HB.out | apply below_alloc | apply pw_below_drewN | apply below_drew1) | exact HB.out))) : w.heap.size ≤ gb232)); have n3_ := Aside0.mk ((by rw [hg]; exact (below_size (by repeat (first | (with_reducible first | exact HB.out | apply below_alloc | apply pw_below_drewN | apply below_drew1) | exact HB.out))) : w.heap.size ≤ gb232)); clear HB; have HB := n0_; have BK232 := n1_; have GW232 := n2_; have GE232 := n3_; clear n0_ n1_ n2_ n3_; clear hb hbox hg) | ((with_reducible refine gate_dst (N := 3) rfl ?_); refine box_event ?hg (N := 3) ?hd (cs := #[.int .i64 a1_0, .int .i64 a1_1, .bool a1_2, .bool a1_3]) (t := 30) ?hr ?_; (case hd => rfl); (case hg => rfl); (case hr => first | (go_simp; done) | (go_simp; rfl)); intro gb233 hg w16 hbox hb; have n0_ := Aside0.mk (blk_below (g := gb232) (o := .cells #[.int .i64 a0_0, .int .i64 a0_1] 28 (0, 0)) (by (with_reducible repeat (first | refine blk_drewN ?_ _ | refine blk_drew ?_ | refine blk_alloc ?_ _)); exact BK232.out) hb); have n1_ := Aside0.mk (below_step (by repeat (first | (with_reducible first | exact HB.out | apply below_alloc | apply pw_below_drewN | apply below_drew1 | refine below_set ?_ GE232.out) | exact HB.out)) hb); have n2_ := Aside0.mk (hbox); have n3_ := Aside0.mk ((by rw [hg]; exact (below_size (by repeat (first | (with_reducible first | exact HB.out | apply below_alloc | apply pw_below_drewN | apply below_drew1 | refine below_set ?_ GE232.out) | exact HB.out))) : w.heap.size ≤ gb233)); have n4_ := Aside0.mk ((by rw [hg]; exact (below_size (by repeat (first | (with_reducible first | exact HB.out | apply below_alloc | apply pw_below_drewN | apply below_drew1 | refine below_set ?_ GE232.out) | exact HB.out))) : w.heap.size ≤ gb233)); have n5_ := Aside0.mk ((by rw [hg]; exact Nat.ne_of_lt (blk_lt (g := gb232) (o := .cells #[.int .i64 a0_0, .int .i64 a0_1] 28 (0, 0)) (by (with_reducible repeat (first | refine blk_drewN ?_ _ | refine blk_drew ?_ | refine blk_alloc ?_ _)); exact BK232.out)) : gb232 ≠ gb233)); have n6_ := Aside0.mk ((by rw [hg]; exact Nat.ne_of_gt (blk_lt (g := gb232) (o := .cells #[.int .i64 a0_0, .int .i64 a0_1] 28 (0, 0)) (by (with_reducible repeat (first | refine blk_drewN ?_ _ | refine blk_drew ?_ | refine blk_alloc ?_ _)); exact BK232.out)) : gb233 ≠ gb232)); clear BK232; clear HB; have BK232 := n0_; have HB := n1_; have BK233 := n2_; have GW233 := n3_; have GE233 := n4_; have NB232_233 := n5_; have NB233_232 := n6_; clear n0_ n1_ n2_ n3_ n4_ n5_ n6_; clear hb hbox hg; have hnb17 := NB232_233.out; have hnc17 := NB233_232.out; have hcz18_0 : w16.cell? ⟨gb232, 0, none⟩ = some (.int .i64 a0_0) := (blk_cell BK232.out 0).trans rfl; have hcz18_1 : w16.cell? ⟨gb232, 1, none⟩ = some (.int .i64 a0_1) := (blk_cell BK232.out 1).trans rfl; have hfz18_0 := blk_frozen BK232.out 0; have hfz18_1 := blk_frozen BK232.out 1) | ((with_reducible refine gate_callee (f := 54) rfl ?_); refine goesL_ (some 6) rfl rfl Try.func54 (by kernel_rfl) rfl #[.agg #[.int .i64 a0_0, .int .i64 a0_1]] rfl (by (try simp only [List.map_toArray, List.map_cons, List.map_nil]); first | done | rfl | (simp only [List.length_drop, List.length_take]; rfl)) ?_; (with_reducible refine (impl_IsTable.calls a0_0 a0_1 true _ A3.out).mono ?_); rintro e w19 ⟨rfl, hb⟩; refine ⟨_, rfl, ?_⟩; have n0_ := Aside0.mk (blk_below (g := gb232) (o := .cells #[.int .i64 a0_0, .int .i64 a0_1] 28 (0, 0)) (by (with_reducible repeat (first | refine blk_drewN ?_ _ | refine blk_drew ?_ | refine blk_alloc ?_ _)); exact BK232.out) hb); have n1_ := Aside0.mk (blk_below (g := gb233) (o := .cells #[.int .i64 a1_0, .int .i64 a1_1, .bool a1_2, .bool a1_3] 30 (0, 0)) (by (with_reducible repeat (first | refine blk_drewN ?_ _ | refine blk_drew ?_ | refine blk_alloc ?_ _)); exact BK233.out) hb); have n2_ := Aside0.mk (below_step (by repeat (first | (with_reducible first | exact HB.out | apply below_alloc | apply pw_below_drewN | apply below_drew1 | refine below_set ?_ GE232.out | refine below_set ?_ GE233.out) | exact HB.out)) hb); clear BK232; clear BK233; clear HB; have BK232 := n0_; have BK233 := n1_; have HB := n2_; clear n0_ n1_ n2_; (try clear hb); (try clear hb2); (try clear hk); (try clear hi); have hcz20_0 : w19.cell? ⟨gb233, 0, none⟩ = some (.int .i64 a1_0) := (blk_cell BK233.out 0).trans rfl; have hcz20_1 : w19.cell? ⟨gb233, 1, none⟩ = some (.int .i64 a1_1) := (blk_cell BK233.out 1).trans rfl; have hcz20_2 : w19.cell? ⟨gb233, 2, none⟩ = some (.bool a1_2) := (blk_cell BK233.out 2).trans rfl; have hcz20_3 : w19.cell? ⟨gb233, 3, none⟩ = some (.bool a1_3) := (blk_cell BK233.out 3).trans rfl; have hfz20_0 := blk_frozen BK233.out 0; have hfz20_1 := blk_frozen BK233.out 1; have hfz20_2 := blk_frozen BK233.out 2; have hfz20_3 := blk_frozen BK233.out 3; have hcz21_0 : w19.cell? ⟨gb232, 0, none⟩ = some (.int .i64 a0_0) := (blk_cell BK232.out 0).trans rfl; have hcz21_1 : w19.cell? ⟨gb232, 1, none⟩ = some (.int .i64 a0_1) := (blk_cell BK232.out 1).trans rfl; have hfz21_0 := blk_frozen BK232.out 0; have hfz21_1 := blk_frozen BK232.out 1) | (go_at_call 45; (with_reducible refine (impl_within.calls a1_0 0 a0_0 false _ A5.out).mono ?_); rintro e w' ⟨rfl, ⟨nd, rfl⟩⟩))
      go_ret
      exact ⟨by first | rfl | (simp [errW_none, errW_some] <;> rfl) | (simp [*, errW_none, errW_some] <;> rfl), by repeat (first | (with_reducible first | exact HB.out | apply below_alloc | apply pw_below_drewN | apply below_drew1 | refine below_set ?_ GE232.out | refine below_set ?_ GE233.out) | exact HB.out)⟩
  · replace c4 := Bool.eq_false_iff.mpr c4
    subst c4
    have H1 : (some false) = some r := by rw [if_neg (show ¬ (false = true) by decide)] at H; exact H
    clear H
    have H := H1
    clear H1
    obtain rfl := Option.some.inj H
    go_enter Try.func22, Try.ntmps22
    go_wp2_with (first | ((with_reducible refine gate_dst (N := 2) rfl ?_); refine box_event ?hg (N := 2) ?hd (cs := #[.int .i64 a0_0, .int .i64 a0_1]) (t := 28) ?hr ?_; (case hd => rfl); (case hg => rfl); (case hr => first | (go_simp; done) | (go_simp; rfl)); intro gb232 hg w22 hbox hb; have n0_ := Aside0.mk (below_step (by repeat (first | (with_reducible first | exact HB.out | apply below_alloc | apply pw_below_drewN | apply below_drew1) | exact HB.out)) hb); have n1_ := Aside0.mk (hbox); have n2_ := Aside0.mk ((by rw [hg]; exact (below_size (by repeat (first | (with_reducible first | exact HB.out | apply below_alloc | apply pw_below_drewN | apply below_drew1) | exact HB.out))) : w.heap.size ≤ gb232)); have n3_ := Aside0.mk ((by rw [hg]; exact (below_size (by repeat (first | (with_reducible first | exact HB.out | apply below_alloc | apply pw_below_drewN | apply below_drew1) | exact HB.out))) : w.heap.size ≤ gb232)); clear HB; have HB := n0_; have BK232 := n1_; have GW232 := n2_; have GE232 := n3_; clear n0_ n1_ n2_ n3_; clear hb hbox hg) | ((with_reducible refine gate_dst (N := 3) rfl ?_); refine box_event ?hg (N := 3) ?hd (cs := #[.int .i64 a1_0, .int .i64 a1_1, .bool a1_2, .bool a1_3]) (t := 30) ?hr ?_; (case hd => rfl); (case hg => rfl); (case hr => first | (go_simp; done) | (go_simp; rfl)); intro gb233 hg w23 hbox hb; have n0_ := Aside0.mk (blk_below (g := gb232) (o := .cells #[.int .i64 a0_0, .int .i64 a0_1] 28 (0, 0)) (by (with_reducible repeat (first | refine blk_drewN ?_ _ | refine blk_drew ?_ | refine blk_alloc ?_ _)); exact BK232.out) hb); have n1_ := Aside0.mk (below_step (by repeat (first | (with_reducible first | exact HB.out | apply below_alloc | apply pw_below_drewN | apply below_drew1 | refine below_set ?_ GE232.out) | exact HB.out)) hb); have n2_ := Aside0.mk (hbox); have n3_ := Aside0.mk ((by rw [hg]; exact (below_size (by repeat (first | (with_reducible first | exact HB.out | apply below_alloc | apply pw_below_drewN | apply below_drew1 | refine below_set ?_ GE232.out) | exact HB.out))) : w.heap.size ≤ gb233)); have n4_ := Aside0.mk ((by rw [hg]; exact (below_size (by repeat (first | (with_reducible first | exact HB.out | apply below_alloc | apply pw_below_drewN | apply below_drew1 | refine below_set ?_ GE232.out) | exact HB.out))) : w.heap.size ≤ gb233)); have n5_ := Aside0.mk ((by rw [hg]; exact Nat.ne_of_lt (blk_lt (g := gb232) (o := .cells #[.int .i64 a0_0, .int .i64 a0_1] 28 (0, 0)) (by (with_reducible repeat (first | refine blk_drewN ?_ _ | refine blk_drew ?_ | refine blk_alloc ?_ _)); exact BK232.out)) : gb232 ≠ gb233)); have n6_ := Aside0.mk ((by rw [hg]; exact Nat.ne_of_gt (blk_lt (g := gb232) (o := .cells #[.int .i64 a0_0, .int .i64 a0_1] 28 (0, 0)) (by (with_reducible repeat (first | refine blk_drewN ?_ _ | refine blk_drew ?_ | refine blk_alloc ?_ _)); exact BK232.out)) : gb233 ≠ gb232)); clear BK232; clear HB; have BK232 := n0_; have HB := n1_; have BK233 := n2_; have GW233 := n3_; have GE233 := n4_; have NB232_233 := n5_; have NB233_232 := n6_; clear n0_ n1_ n2_ n3_ n4_ n5_ n6_; clear hb hbox hg; have hnb24 := NB232_233.out; have hnc24 := NB233_232.out; have hcz25_0 : w23.cell? ⟨gb232, 0, none⟩ = some (.int .i64 a0_0) := (blk_cell BK232.out 0).trans rfl; have hcz25_1 : w23.cell? ⟨gb232, 1, none⟩ = some (.int .i64 a0_1) := (blk_cell BK232.out 1).trans rfl; have hfz25_0 := blk_frozen BK232.out 0; have hfz25_1 := blk_frozen BK232.out 1) | ((with_reducible refine gate_callee (f := 54) rfl ?_); refine goesL_ (some 6) rfl rfl Try.func54 (by kernel_rfl) rfl #[.agg #[.int .i64 a0_0, .int .i64 a0_1]] rfl (by (try simp only [List.map_toArray, List.map_cons, List.map_nil]); first | done | rfl | (simp only [List.length_drop, List.length_take]; rfl)) ?_; (with_reducible refine (impl_IsTable.calls a0_0 a0_1 false _ A3.out).mono ?_); rintro e w26 ⟨rfl, hb⟩; refine ⟨_, rfl, ?_⟩; have n0_ := Aside0.mk (blk_below (g := gb232) (o := .cells #[.int .i64 a0_0, .int .i64 a0_1] 28 (0, 0)) (by (with_reducible repeat (first | refine blk_drewN ?_ _ | refine blk_drew ?_ | refine blk_alloc ?_ _)); exact BK232.out) hb); have n1_ := Aside0.mk (blk_below (g := gb233) (o := .cells #[.int .i64 a1_0, .int .i64 a1_1, .bool a1_2, .bool a1_3] 30 (0, 0)) (by (with_reducible repeat (first | refine blk_drewN ?_ _ | refine blk_drew ?_ | refine blk_alloc ?_ _)); exact BK233.out) hb); have n2_ := Aside0.mk (below_step (by repeat (first | (with_reducible first | exact HB.out | apply below_alloc | apply pw_below_drewN | apply below_drew1 | refine below_set ?_ GE232.out | refine below_set ?_ GE233.out) | exact HB.out)) hb); clear BK232; clear BK233; clear HB; have BK232 := n0_; have BK233 := n1_; have HB := n2_; clear n0_ n1_ n2_; (try clear hb); (try clear hb2); (try clear hk); (try clear hi)))
    go_ret
    exact ⟨by first | rfl | (simp [errW_none, errW_some] <;> rfl) | (simp [*, errW_none, errW_some] <;> rfl), by repeat (first | (with_reducible first | exact HB.out | apply below_alloc | apply pw_below_drewN | apply below_drew1 | refine below_set ?_ GE232.out | refine below_set ?_ GE233.out) | exact HB.out)⟩

end Go.Proofs.Ythfbjofmcniogaa.PFnExactCountCrossings
