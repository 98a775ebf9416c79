-- Written by xprint.py, a program of this session, for this seat; Lean checks it.
import Derived.Test.YthfbjofmcniogaaVN
import Derived.Test.YthfbjofmcniogaaPFnBeamsGox0
import Derived.Test.YthfbjofmcniogaaPFnBeamsGox2
import Derived.Test.YthfbjofmcniogaaPFnBeamsGox6
import Derived.Test.YthfbjofmcniogaaPFnBeamsGox7
import Derived.Test.YthfbjofmcniogaaPFnBeamsGox8
namespace Go.Proofs.Ythfbjofmcniogaa.PFnBeamsGo
open Go.Proofs.YthfbjofmcniogaaV Go.RowKit Go.Proofs.YthfbjofmcniogaaW.PrintWords Go.Proofs.YthfbjofmcniogaaW.PrintLast Go.Proofs.YthfbjofmcniogaaW.PrintMore
attribute [local go_sem] max2_int min2_int max_two min_two max_three min_three max_four min_four   -- for this text's walks alone
set_option linter.unusedVariables false
set_option linter.unusedSimpArgs false

/-! ### impl_visits: function 42 -/
/-! ### A map keyed by a place. -/
section VisMap
open Go.Maps Go.WideShapes Go.MapKept Go.ChangeMaps Go.WideElems Go.WideMaps
theorem vs_laid : laidOutB Try.prog = true := by kernel_rfl
theorem vs_klaw : KeyLaw Try.prog 68 := deep_law_laid vs_laid (m := 9) (by decide) (of_decide_eq_true (by kernel_rfl)) (by kernel_rfl) (by kernel_rfl)
theorem vs_keyed : Keyed Try.prog 68 := Keyed.of_law vs_klaw
def vsKl (x y : Int) : Lit := .string (keyBytes [.int .i64 x, .int .i64 y])
theorem vs_types : ∃ n, Try.prog.types.size = n + 1 := ⟨Try.prog.types.size - 1, by kernel_rfl⟩
theorem vs_wf (x : Int) : (Lit.int .i64 x).wf = true ↔ -9223372036854775808 ≤ x ∧ x ≤ 9223372036854775807 := by
  have e0 : IntKind.i64.min = -9223372036854775808 := by decide
  have e1 : IntKind.i64.max = 9223372036854775807 := by decide
  simp [Lit.wf]
  omega
theorem vs_key {x y : Int} (hx : (Lit.int .i64 x).wf = true) (hy : (Lit.int .i64 y).wf = true) : keyOf Try.prog 68 (.agg #[.int .i64 x, .int .i64 y]) = some (vsKl x y) := by
  have c3 : Try.prog.cellsOf 3 = 1 := by kernel_rfl
  have cK : Try.prog.cellsOf 68 = 2 := by kernel_rfl
  have kt : Try.prog.keyType 68 = true := by kernel_rfl
  obtain ⟨n, hn⟩ := vs_types
  have l1 : Try.prog.keyLits (n + 1 + 1) 68 [.int .i64 x, .int .i64 y] = some [.int .i64 x, .int .i64 y] := by
    simp [Program.keyLits, Try.underlying68, Try.underlying3, cK, c3, hx, hy, List.range_succ]
  unfold keyOf
  simp only [Try.underlying68]
  have ec : (Value.agg #[.int .i64 x, .int .i64 y]).cells.toList = [.int .i64 x, .int .i64 y] := rfl
  rw [kt, hn, ec, l1]
  simp [Value.formed, Try.underlying68, cK, vsKl]
theorem vs_keyInv {v : Value} {kl : Lit} (h : keyOf Try.prog 68 v = some kl) : ∃ z : Int × Int, v = .agg #[.int .i64 z.1, .int .i64 z.2] ∧ kl = vsKl z.1 z.2 ∧ (Lit.int .i64 z.1).wf = true ∧ (Lit.int .i64 z.2).wf = true := by
  have c3 : Try.prog.cellsOf 3 = 1 := by kernel_rfl
  have cK : Try.prog.cellsOf 68 = 2 := by kernel_rfl
  have kt : Try.prog.keyType 68 = true := by kernel_rfl
  obtain ⟨n, hn⟩ := vs_types
  unfold keyOf at h
  simp only [Try.underlying68] at h
  rw [kt, hn] at h
  cases v with
  | agg cs =>
    by_cases hc : cs.size = 2
    · obtain ⟨a, b, rfl⟩ : ∃ a b, cs = #[a, b] := by
        obtain ⟨l⟩ := cs
        match l, hc with
        | [a, b], _ => exact ⟨a, b, rfl⟩
      have hf : Value.formed Try.prog 68 (.agg #[a, b]) = true := by simp [Value.formed, Try.underlying68, cK]
      have ec : (Value.agg #[a, b]).cells.toList = [a, b] := rfl
      rw [hf, ec] at h
      simp only [Bool.and_self, if_true] at h
      obtain ⟨ls, hls, hkl⟩ := Option.map_eq_some_iff.mp h
      clear h
      have ea : ∀ v : Value, ∀ z, Try.prog.keyLits (n + 1) 3 [v] = some z → ∃ x, v = .int .i64 x ∧ z = [.int .i64 x] ∧ (Lit.int .i64 x).wf = true := by
        intro v z hz
        cases v <;> simp [Program.keyLits, Try.underlying3] at hz
        obtain ⟨⟨rfl, hw⟩, rfl⟩ := hz
        exact ⟨_, rfl, rfl, hw⟩
      have hstep : Try.prog.keyLits (n + 1 + 1) 68 [a, b] = (if [a, b].length = Try.prog.cellsOf 68 then ((List.range 2).mapM fun i => Try.prog.keyLits (n + 1) 3 (([a, b].drop (i * Try.prog.cellsOf 3)).take (Try.prog.cellsOf 3))).map List.flatten else none) := by
        conv => lhs; unfold Program.keyLits
        simp only [Try.underlying68]
      rw [hstep, cK, c3] at hls
      simp [List.range_succ] at hls
      cases hz1 : Try.prog.keyLits (n + 1) 3 [a] with
      | none => rw [hz1] at hls; simp at hls
      | some z1 =>
      rw [hz1] at hls
      cases hz2 : Try.prog.keyLits (n + 1) 3 [b] with
      | none => rw [hz2] at hls; simp at hls
      | some z2 =>
      rw [hz2] at hls
      simp at hls
      subst hls
      obtain ⟨x, rfl, rfl, wx⟩ := ea a z1 hz1
      obtain ⟨y, rfl, rfl, wy⟩ := ea b z2 hz2
      exact ⟨(x, y), rfl, hkl.symm, wx, wy⟩
    · simp [Value.formed, Try.underlying68, cK, hc] at h
  | _ => simp [Value.formed, Try.underlying68] at h
/-- 'm[k]++' as the translation lays it: the entry is made ready, then filled. -/
theorem vs_entryStore {H : Type} {P : Program} {w : World} {t k e : TypeId} {R : Value → Option (DataW H × List MemPlace)} {b : Nat} {es : Array MapEntry} {clock : Nat} (K : KeyLaw P k) (ht : P.underlying t = some (.map k e)) {z : Value} (hz : ∀ u : World, (zeroValue e).run P u = .ok z u) (hb : w.heap[b]? = some (.map es clock)) (F : Fit P k R es clock)
    {key : Value} {kl : Lit} (hkey : keyOf P k key = some kl) :
    ∃ (v0 : Value) (st : Nat) (es1 : Array MapEntry) (clock1 : Nat), (Instr.mapEntry t (.map (some b)) key).run P w = .ok (.tuple #[v0, goInt st]) (setBlock w b (.map es1 clock1)) ∧
      (Instr.mapUpdate t (.map (some b)) key v0).run P w = .ok () (setBlock w b (.map es1 clock1)) ∧ (Instr.lookup t (.map (some b)) key false).run P w = .ok v0 w ∧
      ∀ (w2 : World) (val : Value), w2.heap[b]? = some (.map es1 clock1) → ∃ es' clock', (Instr.entryStore t (.map (some b)) (goInt st) val).run P w2 = .ok () (setBlock w2 b (.map es' clock')) ∧
        (Instr.mapUpdate t (.map (some b)) key val).run P w = .ok () (setBlock w b (.map es' clock')) := by
  obtain ⟨s1, s2, _⟩ := F.stamped
  rcases K.find w hkey es.toList F.keys with ⟨h1, h2⟩ | ⟨j, e0, h1, h2, h3⟩
  · refine ⟨z, clock, es.push ⟨key, z, clock⟩, clock + 1, ?_, ?_, ?_, fun w2 val hw2 => ⟨es.push ⟨key, val, clock⟩, clock + 1, ?_, ?_⟩⟩
    · simp [Instr.mapEntry, run_underlying ht, MapKept.run_getObj_map hb, K.check w false hkey, h1, hz, MapKept.run_setObj_map _ hb, Result.andThen, setBlock]
    · simp [Instr.mapUpdate, run_underlying ht, MapKept.run_getObj_map hb, K.check w false hkey, h1, MapKept.run_setObj_map _ hb, Result.andThen, setBlock]
    · simp [Instr.lookup, run_underlying ht, MapKept.run_getObj_map hb, K.check w es.isEmpty hkey, h1, hz, Result.andThen]
    · have hidx : (es.push ⟨key, z, clock⟩).findIdx? (fun e => ((e.born : Nat) : Int) == ((clock : Nat) : Int)) = some es.size := by
        rw [findIdx_arr]
        have := findIdx_born (l := (es.push ⟨key, z, clock⟩).toList) (j := es.size) (e0 := ⟨key, z, clock⟩) (by
          simp only [Array.toList_push, List.map_append, List.map_cons, List.map_nil]
          refine List.nodup_append.2 ⟨s2, by simp, fun a ha c hc e1 => ?_⟩
          simp only [List.mem_singleton] at hc
          obtain ⟨x, hx, rfl⟩ := List.mem_map.1 ha
          have := s1 x hx
          omega) (by simp)
        exact this
      have hmod : (es.push ⟨key, z, clock⟩).modify es.size (fun e => { e with val := val }) = es.push ⟨key, val, clock⟩ := by
        apply Array.ext'
        rw [Array.toList_modify, Array.toList_push, Array.toList_push, ← Array.length_toList, modify_last]
      simp [Instr.entryStore, MapKept.run_getObj_map hw2, asInt, asIntOf, goInt, hidx, hmod, MapKept.run_setObj_map _ hw2, Result.andThen, setBlock]
    · simp [Instr.mapUpdate, run_underlying ht, MapKept.run_getObj_map hb, K.check w false hkey, h1, MapKept.run_setObj_map _ hb, Result.andThen, setBlock]
  · have hj : es[j]? = some e0 := by simpa using h2
    have hsame : es.modify j (fun e => { e with key := key }) = es := by
      apply Array.ext'
      rw [Array.toList_modify, modify_eq_set _ _ _ _ h2]
      have : ({ e0 with key := key } : MapEntry) = e0 := by rw [← h3]
      rw [this]
      exact set_self _ _ _ h2
    have hsame2 : es.modify j (fun e => { e with key := key, val := e0.val }) = es := by
      apply Array.ext'
      rw [Array.toList_modify, modify_eq_set _ _ _ _ h2]
      have : ({ e0 with key := key, val := e0.val } : MapEntry) = e0 := by rw [← h3]
      rw [this]
      exact set_self _ _ _ h2
    refine ⟨e0.val, e0.born, es, clock, ?_, ?_, ?_, fun w2 val hw2 => ⟨es.modify j (fun e' => { e' with key := key, val := val }), clock, ?_, ?_⟩⟩
    · simp [Instr.mapEntry, run_underlying ht, MapKept.run_getObj_map hb, K.check w false hkey, h1, hj, h3, K.stays w hkey, hsame, MapKept.run_setObj_map _ hb, Result.andThen, setBlock]
    · simp [Instr.mapUpdate, run_underlying ht, MapKept.run_getObj_map hb, K.check w false hkey, h1, hj, h3, K.stays w hkey, hsame2, MapKept.run_setObj_map _ hb, Result.andThen, setBlock]
    · simp [Instr.lookup, run_underlying ht, MapKept.run_getObj_map hb, K.check w es.isEmpty hkey, h1, Result.andThen]
    · have hidx : es.findIdx? (fun e => ((e.born : Nat) : Int) == ((e0.born : Nat) : Int)) = some j := by
        rw [findIdx_arr]
        exact findIdx_born s2 h2
      have hmod : es.modify j (fun e => { e with val := val }) = es.modify j (fun e' => { e' with key := key, val := val }) := by
        apply Array.ext'
        rw [Array.toList_modify, Array.toList_modify, modify_eq_set _ _ _ _ h2, modify_eq_set _ _ _ _ h2, ← h3]
      simp [Instr.entryStore, MapKept.run_getObj_map hw2, asInt, asIntOf, goInt, hidx, hmod, MapKept.run_setObj_map _ hw2, Result.andThen, setBlock]
    · simp [Instr.mapUpdate, run_underlying ht, MapKept.run_getObj_map hb, K.check w false hkey, h1, hj, h3, K.stays w hkey, MapKept.run_setObj_map _ hb, Result.andThen, setBlock]
theorem vs_zero (w : World) : (zeroValue 3).run Try.prog w = .ok (.int .i64 0) w := by kernel_rfl
/-- The block alone tells what the map reads as. -/
theorem vs_block {H : Type} {P : Program} {k : TypeId} {R : Value → Option (DataW H × List MemPlace)} {w w' : World} {b n : Nat} {D : DataW H} (h : w.ownsMap P k R b n D) (hb : w'.heap[b]? = w.heap[b]?) : w'.ownsMap P k R b n D := by
  obtain ⟨es, clock, h1, F, h2, h3⟩ := h
  exact ⟨es, clock, hb.trans h1, F, h2, h3⟩
theorem vs_set (w : World) (b : Nat) (es : Array MapEntry) (clock : Nat) {o : Obj} (h : w.heap[b]? = some o) : (setBlock w b (.map es clock)).heap[b]? = some (.map es clock) ∧ w.grownBy (setBlock w b (.map es clock)) (some b) := by
  have hlt := (Array.getElem?_eq_some_iff.1 h).1
  refine ⟨?_, rfl, rfl, rfl, ?_, fun i _ hi => ?_⟩
  · simp [setBlock, hlt]
  · simp [setBlock]
  · have hne : b ≠ i := fun e => hi (by rw [e])
    simp [setBlock, hne]
abbrev vsOwns (w : World) (b n : Nat) (D : DataW Unit) : Prop := w.ownsMap Try.prog 68 (plainElem Try.prog 3) b n D
theorem vs_count (W : World) (B n : Nat) (D : DataW Unit) (hown : vsOwns W B n D) (hn : n < 1000000) {x y : Int} (hx : (Lit.int .i64 x).wf = true) (hy : (Lit.int .i64 y).wf = true) (hD : IsMap D) :
    ∃ (c st : Int) (W2 : World), (Instr.lookup 62 (.map (some B)) (.agg #[.int .i64 x, .int .i64 y]) false).run Try.prog W = .ok (.int .i64 c) W ∧ D.atKey (vsKl x y) (.lit (.int .i64 0)) = .lit (.int .i64 c) ∧
      (Instr.mapEntry 62 (.map (some B)) (.agg #[.int .i64 x, .int .i64 y])).run Try.prog W = .ok (.tuple #[.int .i64 c, .int .i64 st]) W2 ∧
      (Instr.lookup 62 (.map (some B)) (.agg #[.int .i64 x, .int .i64 y]) false).run Try.prog W2 = .ok (.int .i64 c) W2 ∧
      ∀ v, (Lit.int .i64 v).wf = true → ∃ W3, (Instr.entryStore 62 (.map (some B)) (.int .i64 st) (.int .i64 v)).run Try.prog W2 = .ok () W3 ∧ vsOwns W3 B (n + 1) (D.put (vsKl x y) (.lit (.int .i64 v))) ∧ W.grownBy W3 (some B) := by
  have hkey := vs_key hx hy
  obtain ⟨c, hrun, hat, hwc⟩ := hown.lookup_int vs_keyed Try.underlying62 Try.underlying3 (vs_zero W) hkey
  have hown' := hown
  obtain ⟨es, clock, hb, F, hs, hD'⟩ := hown'
  obtain ⟨v0, st, es1, clock1, m1, m2, m3, m4⟩ := vs_entryStore vs_klaw Try.underlying62 vs_zero hb F hkey
  rw [hrun] at m3
  obtain rfl : Value.int .i64 c = v0 := by injection m3
  have hn' : n < maxLen := by unfold maxLen; omega
  obtain ⟨w', u1, u2, u3⟩ := hown.update vs_keyed Try.underlying62 hn' hkey (plainElem_int (H := Unit) Try.underlying3 hwc)
  rw [m2] at u1
  obtain rfl : setBlock W B (.map es1 clock1) = w' := by injection u1
  obtain ⟨c2, l1, l2, l3⟩ := u2.lookup_int vs_keyed Try.underlying62 Try.underlying3 (vs_zero _) hkey
  rw [atKey_put_same hD (vs_keyed.key hkey)] at l2
  obtain rfl : c = c2 := by injection l2 with e; injection e
  refine ⟨c, st, _, hrun, hat, m1, l1, fun v hv => ?_⟩
  obtain ⟨q1, q2⟩ := vs_set W B es1 clock1 hb
  obtain ⟨es', clock', r1, r2⟩ := m4 (setBlock W B (.map es1 clock1)) (.int .i64 v) q1
  obtain ⟨w'', v1, v2, v3⟩ := hown.update vs_keyed Try.underlying62 hn' hkey (plainElem_int (H := Unit) Try.underlying3 hv)
  rw [r2] at v1
  obtain rfl : setBlock W B (.map es' clock') = w'' := by injection v1
  obtain ⟨p1, p2⟩ := vs_set (setBlock W B (.map es1 clock1)) B es' clock' q1
  exact ⟨_, r1, vs_block v2 (p1.trans (vs_set W B es' clock' hb).1.symm), q2.trans p2⟩
end VisMap
set_option maxHeartbeats 4000000 in
set_option maxRecDepth 100000 in
theorem vs_one (cb T B : Nat) (k x y : Int) (r u : Bool) (sd : ByteArray) (w Wd : World) (n : Nat) (D : DataW Unit) (hn : n < 1000000) (hx : (Lit.int .i64 x).wf = true) (hy : (Lit.int .i64 y).wf = true) (hB : Below w.heap.size w Wd) (hwB : w.heap.size ≤ B) (hcB : cb ≠ B) (hT : T + 1 < Wd.heap.size) (hBT : B < T) (hlt : cb < Wd.heap.size)
    (hc : Wd.heap[cb]? = some (.cells #[.map (some B)] 62 (0, 0))) (hown : vsOwns Wd B n D) (hD : Maps.IsMap D) :
    Calls Try.prog 74 #[.int .i64 k, .agg #[.int .i64 x, .int .i64 y, .bool r, .bool u], .string sd, .pointer (some ⟨cb, 0, none⟩)] Wd fun e w' =>
      e = .returned (.bool false) ∧ Below w.heap.size w w' ∧ (∃ c, D.atKey (vsKl x y) (.lit (.int .i64 0)) = .lit (.int .i64 c) ∧ vsOwns w' B (n + 1) (D.put (vsKl x y) (.lit (.int .i64 (wrap64 (c + 1)))))) ∧ w'.heap[cb]? = some (.cells #[.map (some B)] 62 (0, 0)) ∧ FwFr T Wd w' := by
  have hal := below_alloc (Below.refl _ Wd) (.cells #[.int .i64 x, .int .i64 y, .bool r, .bool u] 30 (0, 0))
  have q1 := (hal.block _ hlt).trans hc
  have c1 := (fw_cells q1 0).1
  simp at c1
  have o1 : vsOwns (Wd.alloc (.cells #[.int .i64 x, .int .i64 y, .bool r, .bool u] 30 (0, 0))).drew B n D := (hown.alloc _).drew
  obtain ⟨c, st, W2, e1, hat, e2, e3, e4⟩ := vs_count _ B n D o1 hn hx hy hD
  obtain ⟨W3, e5, e6, e7⟩ := e4 (wrap64 (c + 1)) ((vs_wf _).2 (by unfold wrap64; omega))
  have H6 := Aside0.mk e6
  have H7 := Aside0.mk e7
  have HAT := Aside0.mk hat
  have HAL := Aside0.mk hal
  have Q1 := Aside0.mk q1
  have HBB := Aside0.mk hB
  have HC := Aside0.mk (show cb ≠ B ∧ T + 1 < Wd.heap.size ∧ B < T ∧ cb < Wd.heap.size ∧ w.heap.size ≤ B from ⟨hcB, hT, hBT, hlt, hwB⟩)
  clear e4 e6 e7 hat hal q1 hB o1 hown hc hD hcB hT hBT hlt hwB hx hy
  go_enter Try.func74, Try.ntmps74
  go_wp2
  go_region
  all_goals (
    go_wp2
    go_ret
    have hc := HC.out
    have hg := H7.out
    have hz := HAL.out.size
    have e1 : ∀ i, i < Wd.heap.size → i ≠ B → W3.heap[i]? = Wd.heap[i]? := fun i hi hne => (hg.block i (Nat.lt_of_lt_of_le hi hz) (fun e => hne (by injection e))).trans (HAL.out.block i hi)
    refine ⟨rfl, ⟨hg.os.trans (HAL.out.os.trans HBB.out.os), hg.tape.trans (HAL.out.tape.trans HBB.out.tape), hg.output.trans (HAL.out.output.trans HBB.out.output), Nat.le_trans HBB.out.size (Nat.le_trans hz hg.size), fun i hi => ?_⟩, ⟨c, HAT.out, H6.out⟩, ?_, ⟨Nat.le_trans hz hg.size, ?_, ?_⟩⟩
    · have := HBB.out.size
      exact (e1 i (by omega) (by omega)).trans (HBB.out.block i hi)
    · exact (hg.block cb (Nat.lt_of_lt_of_le hc.2.2.2.1 hz) (fun e => hc.1 (by injection e))).trans Q1.out
    · exact e1 T (by omega) (by omega)
    · exact e1 (T + 1) (by omega) (by omega))
/-- What the map reads as behind k places; how often a place was passed; the places that were passed, each once. -/
def vsPt (W H : Int) (b : S30) (k : Nat) : Int × Int := ((fwSt W H b k).1.f0, (fwSt W H b k).1.f1)
def vsCnt (W H : Int) (b : S30) (q : Int × Int) : Nat → Nat
  | 0 => 0
  | k + 1 => vsCnt W H b q k + (if vsPt W H b k = q then 1 else 0)
def vsSet (W H : Int) (b : S30) : Nat → List (Int × Int)
  | 0 => []
  | k + 1 => if vsPt W H b k ∈ vsSet W H b k then vsSet W H b k else vsPt W H b k :: vsSet W H b k
def vsD (W H : Int) (b : S30) : Nat → DataW Unit
  | 0 => .map []
  | k + 1 => (vsD W H b k).put (vsKl (vsPt W H b k).1 (vsPt W H b k).2) (.lit (.int .i64 ((vsCnt W H b (vsPt W H b k) (k + 1) : Nat) : Int)))
theorem vsCnt_le (W H : Int) (b : S30) (q : Int × Int) : ∀ k, vsCnt W H b q k ≤ k
  | 0 => Nat.le_refl _
  | k + 1 => by
    have := vsCnt_le W H b q k
    simp only [vsCnt]
    split <;> omega
theorem vsKl_inj {x y x' y' : Int} (hx : (Lit.int .i64 x).wf = true) (hy : (Lit.int .i64 y).wf = true) (hx' : (Lit.int .i64 x').wf = true) (hy' : (Lit.int .i64 y').wf = true) (h : vsKl x y = vsKl x' y') : x = x' ∧ y = y' := by
  have e := vs_keyed.inj (vs_key hx hy) (h ▸ vs_key hx' hy')
  injection e with e
  have := congrArg Array.toList e
  simp at this
  exact this
structure VsWf (W H : Int) (b : S30) (n : Nat) : Prop where
  x : ∀ k, k ≤ n → (Lit.int .i64 (vsPt W H b k).1).wf = true
  y : ∀ k, k ≤ n → (Lit.int .i64 (vsPt W H b k).2).wf = true
def vsGood (q : Int × Int) : Prop := (Lit.int .i64 q.1).wf = true ∧ (Lit.int .i64 q.2).wf = true
theorem vsKl_ne {p q : Int × Int} (hp : vsGood p) (hq : vsGood q) (h : p ≠ q) : vsKl p.1 p.2 ≠ vsKl q.1 q.2 := fun e => h (by
  have := vsKl_inj hp.1 hp.2 hq.1 hq.2 e
  exact Prod.ext this.1 this.2)
theorem vsKl_lit {p : Int × Int} (hp : vsGood p) : WideAt.IsKeyLit (vsKl p.1 p.2) := vs_keyed.key (vs_key hp.1 hp.2)
/-- All that is known of the map. -/
structure VsIs (W H : Int) (b : S30) (k : Nat) (D : DataW Unit) : Prop where
  tidy : Maps.Tidy D
  at_ : ∀ q, vsGood q → D.atKey (vsKl q.1 q.2) (.lit (.int .i64 0)) = .lit (.int .i64 ((vsCnt W H b q k : Nat) : Int))
  has : ∀ q, vsGood q → Maps.has D (vsKl q.1 q.2) = decide (q ∈ vsSet W H b k)
  size : Maps.size D = (vsSet W H b k).length
theorem vsIs (W H : Int) (b : S30) (n : Nat) (hg : ∀ k, k < n → vsGood (vsPt W H b k)) : ∀ k, k ≤ n → VsIs W H b k (vsD W H b k) := by
  intro k
  induction k with
  | zero => intro _; exact ⟨Maps.tidy_empty, fun q _ => rfl, fun q _ => by simp [vsD, vsSet, Maps.has], rfl⟩
  | succ k ih =>
    intro hk
    have h := ih (by omega)
    have hp := hg k (by omega)
    refine ⟨h.tidy.put (vsKl_lit hp) _, fun q hq => ?_, fun q hq => ?_, ?_⟩
    · by_cases c : vsPt W H b k = q
      · subst c
        simp only [vsD]
        rw [Maps.atKey_put_same h.tidy.isMap (vsKl_lit hp)]
      · simp only [vsD]
        rw [Maps.atKey_put_other (vsKl_ne hq hp (fun e => c e.symm)), h.at_ q hq]
        simp [vsCnt, c]
    · by_cases c : vsPt W H b k = q
      · subst c
        simp only [vsD]
        rw [Maps.has_put_same h.tidy.isMap (vsKl_lit hp)]
        simp only [vsSet]
        split <;> simp [*]
      · simp only [vsD]
        rw [Maps.has_put_other (vsKl_ne hq hp (fun e => c e.symm)), h.has q hq]
        simp only [vsSet]
        split
        · rfl
        · simp [show q ≠ vsPt W H b k from fun e => c e.symm]
    · simp only [vsD]
      rw [Maps.size_put h.tidy, h.has _ hp, h.size]
      simp only [vsSet]
      by_cases c : vsPt W H b k ∈ vsSet W H b k <;> simp [c]
structure VsI (W H : Int) (b : S30) (T cb B : Nat) (w : World) (k : Nat) (wr : World) : Prop where
  below : Below w.heap.size w wr
  lt : T ≤ wr.heap.size
  cell : wr.heap[cb]? = some (.cells #[.map (some B)] 62 (0, 0))
  own : k ≤ 1000000 → vsOwns wr B k (vsD W H b k)
theorem vs_way (W H x y : Int) (r u : Bool) (steps : Int) (h0 : 0 ≤ steps) (h1 : steps ≤ 100000) (hg : ∀ k, vsGood (vsPt W H ⟨x, y, r, u⟩ k)) (cb B : Nat) (w wb : World) (hB : Below w.heap.size w wb) (hwc : w.heap.size ≤ cb) (hwB : w.heap.size ≤ B) (hcB : cb ≠ B) (hlt : cb < wb.heap.size) (hltB : B < wb.heap.size) (hc : wb.heap[cb]? = some (.cells #[.map (some B)] 62 (0, 0))) (hown : vsOwns wb B 0 (.map [])) :
    Calls Try.prog 46 #[.agg #[.int .i64 W, .int .i64 H], .agg #[.int .i64 x, .int .i64 y, .bool r, .bool u], .int .i64 steps, .func (.func 74) #[] #[.pointer (some ⟨cb, 0, none⟩)]] wb fun e w' =>
      e = .returned (.tuple #[]) ∧ VsI W H ⟨x, y, r, u⟩ wb.heap.size cb B w (fwN W H ⟨x, y, r, u⟩ steps (fun _ => false) + 1) w' := by
  obtain ⟨n1, n2, n3⟩ := fwN_is W H ⟨x, y, r, u⟩ steps (fun _ => false) h0
  refine impl_follow.calls W H x y r u steps 74 #[.pointer (some ⟨cb, 0, none⟩)] (fw_enters Try.func74 kr rfl) (VsI W H ⟨x, y, r, u⟩ wb.heap.size cb B w) (fun _ => false) (fwN W H ⟨x, y, r, u⟩ steps (fun _ => false)) wb (by omega) n3 n2 ⟨hB, Nat.le_refl _, hc, fun _ => hown⟩ ?_ ?_
  · intro k W1 W2 hI hm
    have hl := hI.lt
    refine ⟨⟨hm.os.trans hI.below.os, hm.tape.trans hI.below.tape, hm.output.trans hI.below.output, Nat.le_trans hI.below.size hm.size, fun i hi => ?_⟩, Nat.le_trans hl hm.size, (hm.block cb (by omega) (by omega)).trans hI.cell, fun hk => vs_block (hI.own hk) (hm.block B (by omega) (by omega))⟩
    have := hI.below.size
    exact (hm.block i (by omega) (by omega)).trans (hI.below.block i hi)
  · intro k Wd hk hz hI
    have his := vsIs W H ⟨x, y, r, u⟩ k (fun j _ => hg j) k (Nat.le_refl _)
    refine (vs_one cb wb.heap.size B (k : Int) _ _ _ _ _ w Wd k (vsD W H ⟨x, y, r, u⟩ k) (by omega) (hg k).1 (hg k).2 hI.below hwB hcB hz (by omega) (by omega) hI.cell (hI.own (by omega)) his.tidy.isMap).mono ?_
    rintro e w2 ⟨rfl, hb2, ⟨c, hc1, hc2⟩, hcell, hf⟩
    refine ⟨rfl, ⟨hb2, Nat.le_trans hI.lt hf.size, hcell, fun _ => ?_⟩, hf⟩
    have ha := his.at_ _ (hg k)
    have hcc : c = ((vsCnt W H ⟨x, y, r, u⟩ (vsPt W H ⟨x, y, r, u⟩ k) k : Nat) : Int) := by
      have e2 := hc1.symm.trans ha
      injection e2 with e2
      injection e2
    have hle := vsCnt_le W H ⟨x, y, r, u⟩ (vsPt W H ⟨x, y, r, u⟩ k) k
    have ew : wrap64 (c + 1) = ((vsCnt W H ⟨x, y, r, u⟩ (vsPt W H ⟨x, y, r, u⟩ k) (k + 1) : Nat) : Int) := by
      have : vsCnt W H ⟨x, y, r, u⟩ (vsPt W H ⟨x, y, r, u⟩ k) (k + 1) = vsCnt W H ⟨x, y, r, u⟩ (vsPt W H ⟨x, y, r, u⟩ k) k + 1 := by simp [vsCnt]
      unfold wrap64
      omega
    rw [ew] at hc2
    exact hc2
theorem vs_bounds {W H : Int} (h : (1 ≤ W ∧ W ≤ 60) ∧ 1 ≤ H ∧ H ≤ 60) : 0 ≤ 2 * W * H ∧ 2 * W * H ≤ 7200 ∧ wrap64 (wrap64 (2 * W) * H) = 2 * W * H := by
  have e1 : wrap64 (2 * W) = 2 * W := by unfold wrap64; omega
  have h1 : (2 * W * H).natAbs ≤ 120 * 60 := by rw [Int.natAbs_mul]; exact Nat.mul_le_mul (by omega) (by omega)
  have h2 : 0 ≤ 2 * W * H := Int.mul_nonneg (by omega) (by omega)
  refine ⟨h2, by omega, ?_⟩
  rw [e1]
  unfold wrap64
  omega
def vsN (W H : Int) (b : S30) : Nat := fwN W H b (2 * W * H) (fun _ => false)
set_option maxHeartbeats 8000000 in
set_option maxRecDepth 100000 in
theorem impl_visits.gives (a0_0 : Int) (a0_1 : Int) (a1_0 : Int) (a1_1 : Int) (a1_2 : Bool) (a1_3 : Bool) (w : World) (hh : (1 ≤ a0_0 ∧ a0_0 ≤ 60) ∧ 1 ≤ a0_1 ∧ a0_1 ≤ 60) (hg : ∀ k, vsGood (vsPt a0_0 a0_1 ⟨a1_0, a1_1, a1_2, a1_3⟩ k)) :
    Calls Try.prog 42 #[.agg #[.int .i64 a0_0, .int .i64 a0_1], .agg #[.int .i64 a1_0, .int .i64 a1_1, .bool a1_2, .bool a1_3]] w fun e w' =>
      e = .returned (.map (some (w.heap.size + 2))) ∧ vsOwns w' (w.heap.size + 2) (vsN a0_0 a0_1 ⟨a1_0, a1_1, a1_2, a1_3⟩ + 1) (vsD a0_0 a0_1 ⟨a1_0, a1_1, a1_2, a1_3⟩ (vsN a0_0 a0_1 ⟨a1_0, a1_1, a1_2, a1_3⟩ + 1)) ∧ Below w.heap.size w w' := by
 have hb := vs_bounds hh
 have HH := Aside0.mk hh
 have HG := Aside0.mk hg
 have HA : Aside0 (impl_around.f a0_0 a0_1 = some (2 * a0_0 * a0_1)) := ⟨by unfold impl_around.f; rw [hb.2.2]⟩
 clear hh hb hg
 have hmm := @run_makeMap Try.prog
 go_enter Try.func42, Try.ntmps42
 go_wp2_with fail
 obtain ⟨p1, p2, p3, a5⟩ := fw_three w (.cells #[.int .i64 a0_0, .int .i64 a0_1] 28 (0, 0)) (.cells #[.int .i64 a1_0, .int .i64 a1_1, .bool a1_2, .bool a1_3] 30 (0, 0)) (.map #[] 0)
 have m0 := World.ownsMap_made (H := Unit) ((w.alloc (.cells #[.int .i64 a0_0, .int .i64 a0_1] 28 (0, 0))).alloc (.cells #[.int .i64 a1_0, .int .i64 a1_1, .bool a1_2, .bool a1_3] 30 (0, 0))) Try.prog 68 (plainElem Try.prog 3)
 rw [(fw_two w (.cells #[.int .i64 a0_0, .int .i64 a0_1] 28 (0, 0)) (.cells #[.int .i64 a1_0, .int .i64 a1_1, .bool a1_2, .bool a1_3] 30 (0, 0))).2.2] at m0
 have ha := below_alloc (Below.refl _ (((w.alloc (.cells #[.int .i64 a0_0, .int .i64 a0_1] 28 (0, 0))).alloc (.cells #[.int .i64 a1_0, .int .i64 a1_1, .bool a1_2, .bool a1_3] 30 (0, 0))).alloc (.map #[] 0))) (.cells #[.map (some (w.heap.size + 1 + 1))] 62 (0, 0))
 have k4 := (MapKept.heap_alloc (((w.alloc (.cells #[.int .i64 a0_0, .int .i64 a0_1] 28 (0, 0))).alloc (.cells #[.int .i64 a1_0, .int .i64 a1_1, .bool a1_2, .bool a1_3] 30 (0, 0))).alloc (.map #[] 0)) (.cells #[.map (some (w.heap.size + 1 + 1))] 62 (0, 0))).1
 rw [a5] at ha k4
 have HB := Aside0.mk (below_alloc (below_alloc (below_alloc (below_alloc (Below.refl _ w) (.cells #[.int .i64 a0_0, .int .i64 a0_1] 28 (0, 0))) (.cells #[.int .i64 a1_0, .int .i64 a1_1, .bool a1_2, .bool a1_3] 30 (0, 0))) (.map #[] 0)) (.cells #[.map (some (w.heap.size + 1 + 1))] 62 (0, 0)))
 have a0 : ((((w.alloc (.cells #[.int .i64 a0_0, .int .i64 a0_1] 28 (0, 0))).alloc (.cells #[.int .i64 a1_0, .int .i64 a1_1, .bool a1_2, .bool a1_3] 30 (0, 0))).alloc (.map #[] 0)).alloc (.cells #[.map (some (w.heap.size + 1 + 1))] 62 (0, 0))).heap.size = w.heap.size + 4 := by simp
 have b0 := Try.underlying28
 have b1 := Try.underlying30
 have m1 : vsOwns ((((w.alloc (.cells #[.int .i64 a0_0, .int .i64 a0_1] 28 (0, 0))).alloc (.cells #[.int .i64 a1_0, .int .i64 a1_1, .bool a1_2, .bool a1_3] 30 (0, 0))).alloc (.map #[] 0)).alloc (.cells #[.map (some (w.heap.size + 1 + 1))] 62 (0, 0))) (w.heap.size + 2) 0 (.map []) := m0.alloc _
 have g1 := (ha.block w.heap.size (by omega)).trans p1
 have g2 := (ha.block (w.heap.size + 1) (by omega)).trans p2
 obtain ⟨w5, a6⟩ : ∃ w5, w5 = ((((w.alloc (.cells #[.int .i64 a0_0, .int .i64 a0_1] 28 (0, 0))).alloc (.cells #[.int .i64 a1_0, .int .i64 a1_1, .bool a1_2, .bool a1_3] 30 (0, 0))).alloc (.map #[] 0)).alloc (.cells #[.map (some (w.heap.size + 1 + 1))] 62 (0, 0))) := ⟨_, rfl⟩
 rw [← a6] at m1 HB k4 a0 g1 g2 ⊢
 clear a6 m0 ha p1 p2 p3 a5
 have HD : Aside0 (w5.drew.heap[w.heap.size]? = some (.cells #[.int .i64 a0_0, .int .i64 a0_1] 28 (0, 0)) ∧ w5.drew.heap[w.heap.size + 1]? = some (.cells #[.int .i64 a1_0, .int .i64 a1_1, .bool a1_2, .bool a1_3] 30 (0, 0)) ∧ w5.drew.heap[w.heap.size + 3]? = some (.cells #[.map (some (w.heap.size + 2))] 62 (0, 0)) ∧ w5.drew.heap.size = w.heap.size + 4 ∧ vsOwns w5.drew (w.heap.size + 2) 0 (.map [])) := ⟨g1, g2, k4, a0, m1.drew⟩
 have HBD := Aside0.mk (below_step HB.out (below_drew (Below.refl _ w5)))
 clear HB g1 g2 k4 a0 m1
 have C1 := (fw_cells HD.out.1)
 have C2 := (fw_cells HD.out.2.1)
 refine st0_ 6 [q 4 11, qt 0 7, qt 1 8, qt 2 9, qo 3 10, qo 5 12] (S := fun w' => w'.cell? ⟨w.heap.size, 0, none⟩ = some (.int .i64 a0_0) ∧ w'.cell? ⟨w.heap.size, 1, none⟩ = some (.int .i64 a0_1) ∧ w'.cell? ⟨w.heap.size + 1, 0, none⟩ = some (.int .i64 a1_0) ∧ w'.cell? ⟨w.heap.size + 1, 1, none⟩ = some (.int .i64 a1_1) ∧ w'.cell? ⟨w.heap.size + 1, 2, none⟩ = some (.bool a1_2) ∧ w'.cell? ⟨w.heap.size + 1, 3, none⟩ = some (.bool a1_3)) (ds := [5]) ⟨(C1 0).1, (C1 1).1, (C2 0).1, (C2 1).1, (C2 2).1, (C2 3).1⟩ (fun hHeld HT_ HW_ => ?_)
 clear C1 C2
 generalize w5.drew = a7 at HD HBD hHeld ⊢
 iterate 4 (first | refine pA HT_ ?_ | refine pU HT_ hHeld ?_)
 refine pO HT_ fun K hK => ?_
 refine goes_ Try.func50 kr rfl #[.agg #[.int .i64 a0_0, .int .i64 a0_1]] (by rfl) rfl rfl sM ?_
 with_reducible refine (impl_around.calls a0_0 a0_1 (2 * a0_0 * a0_1) _ HA.out).mono ?_
 rintro e a1 ⟨rfl, hb⟩
 refine ⟨_, rfl, ?_⟩
 have hz : w.heap.size + 3 < a7.heap.size := by rw [HD.out.2.2.2.1]; omega
 have q1 := (hb.block w.heap.size (by omega)).trans HD.out.1
 have q2 := (hb.block (w.heap.size + 1) (by omega)).trans HD.out.2.1
 have q4 := (hb.block (w.heap.size + 3) (by omega)).trans HD.out.2.2.1
 have q5 : vsOwns a1 (w.heap.size + 2) 0 (.map []) := vs_block HD.out.2.2.2.2 (hb.block (w.heap.size + 2) (by omega))
 have a8 : w.heap.size + 3 < a1.heap.size := Nat.lt_of_lt_of_le hz hb.size
 have hbb := vs_bounds HH.out
 have a4 := Aside0.mk (below_step HBD.out hb)
 have HWAY := Aside0.mk (vs_way a0_0 a0_1 a1_0 a1_1 a1_2 a1_3 (2 * a0_0 * a0_1) hbb.1 (by omega) HG.out (w.heap.size + 3) (w.heap.size + 2) w a1 a4.out (by omega) (by omega) (by omega) a8 (by omega) q4 q5)
 refine hK.out _ _ ⟨(fw_cells q1 0).1, (fw_cells q1 1).1, (fw_cells q2 0).1, (fw_cells q2 1).1, (fw_cells q2 2).1, (fw_cells q2 3).1⟩ (fun hHeld => ?_)
 clear hK K q1 q2 q4 q5 HD HBD hb hbb
 refine nP ?_
 refine pL HT_ fun K hK => ?_
 refine goes_ Try.func46 kr rfl #[.agg #[.int .i64 a0_0, .int .i64 a0_1], .agg #[.int .i64 a1_0, .int .i64 a1_1, .bool a1_2, .bool a1_3], .int .i64 (2 * a0_0 * a0_1), .func (.func 74) #[] #[.pointer (some ⟨w.heap.size + 3, 0, none⟩)]] (by rfl) rfl rfl sM ?_
 refine HWAY.out.mono ?_
 rintro e a9 ⟨rfl, hI⟩
 refine ⟨_, rfl, ?_⟩
 have c1 : a9.cell? ⟨w.heap.size + 1 + 1 + 1, 0, none⟩ = some (.map (some (w.heap.size + 2))) := (fw_cells hI.cell 0).1
 have hle : vsN a0_0 a0_1 ⟨a1_0, a1_1, a1_2, a1_3⟩ + 1 ≤ 1000000 := by
  have hbb := vs_bounds HH.out
  have := (fwN_is a0_0 a0_1 ⟨a1_0, a1_1, a1_2, a1_3⟩ (2 * a0_0 * a0_1) (fun _ => false) hbb.1).1
  unfold vsN
  omega
 have HE := Aside0.mk (And.intro (hI.own hle) hI.below)
 refine hK.out _ _ ?_
 clear hK K hI HWAY a4 hHeld hle
 refine pD HT_ ?_
 go_wp2_with fail
 go_ret
 exact ⟨rfl, HE.out.1, HE.out.2⟩
abbrev VsOk (W H x y : Int) : Prop := ((1 ≤ W ∧ W ≤ 60) ∧ 1 ≤ H ∧ H ≤ 60) ∧ (0 ≤ x ∧ x ≤ W) ∧ 0 ≤ y ∧ y ≤ H
theorem vs_inw (W H x y : Int) (r u : Bool) : (fwInw W H ⟨x, y, r, u⟩).f0 = x ∧ (fwInw W H ⟨x, y, r, u⟩).f1 = y := by
  have h := fwInw_eq W H x y r u
  unfold impl_inward.f at h
  (repeat' split at h) <;> (simp only [Option.some.injEq, Prod.mk.injEq] at h; exact ⟨h.1.symm, h.2.1.symm⟩)
theorem vs_next (W H : Int) (s : S30) : ∃ a c, (fwNext W H s).1.f0 = wrap64 a ∧ (fwNext W H s).1.f1 = wrap64 c := by
  obtain ⟨x, y, r, u⟩ := s
  have h := fwNext_eq W H x y r u
  have s1 : ∀ q, ∃ z, impl_sign.f q = some z := fun q => by unfold impl_sign.f; split <;> exact ⟨_, rfl⟩
  obtain ⟨a, ha⟩ := s1 r
  obtain ⟨c, hc⟩ := s1 u
  unfold impl_next.f at h
  rw [ha, hc] at h
  simp only [Option.bind_some, fwCor_eq, fwInw_eq, (vs_inw _ _ _ _ _ _).1, (vs_inw _ _ _ _ _ _).2] at h
  (repeat' split at h) <;> (simp only [Option.some.injEq, Prod.mk.injEq] at h; exact ⟨_, _, h.1.symm, h.2.1.symm⟩)
theorem vs_wfw (a : Int) : (Lit.int .i64 (wrap64 a)).wf = true := (vs_wf _).2 (by unfold wrap64; omega)
theorem vs_good {W H x y : Int} (r u : Bool) (t : VsOk W H x y) : ∀ k, vsGood (vsPt W H ⟨x, y, r, u⟩ k)
  | 0 => by
    unfold vsPt vsGood
    simp only [fwSt, (vs_inw _ _ _ _ _ _).1, (vs_inw _ _ _ _ _ _).2]
    exact ⟨(vs_wf _).2 (by omega), (vs_wf _).2 (by omega)⟩
  | k + 1 => by
    obtain ⟨a, c, e1, e2⟩ := vs_next W H (fwSt W H ⟨x, y, r, u⟩ k).1
    unfold vsPt vsGood
    show (Lit.int .i64 (fwNext W H (fwSt W H ⟨x, y, r, u⟩ k).1).1.f0).wf = true ∧ (Lit.int .i64 (fwNext W H (fwSt W H ⟨x, y, r, u⟩ k).1).1.f1).wf = true
    rw [e1, e2]
    exact ⟨vs_wfw _, vs_wfw _⟩

/-! ### impl_CountPlaces: function 10 -/
def impl_CountPlaces.f (a0_0 : Int) (a0_1 : Int) (a1_0 : Int) (a1_1 : Int) (a1_2 : Bool) (a1_3 : Bool) : Option (Int × Bool) :=
  (impl_IsBeam.f a0_0 a0_1 a1_0 a1_1 a1_2 a1_3).bind fun t1 => if t1 = true then (if VsOk a0_0 a0_1 a1_0 a1_1 then some (((vsSet a0_0 a0_1 ⟨a1_0, a1_1, a1_2, a1_3⟩ (vsN a0_0 a0_1 ⟨a1_0, a1_1, a1_2, a1_3⟩ + 1)).length : Nat), true) else none) else some (0, false)
set_option maxHeartbeats 8000000 in
set_option maxRecDepth 100000 in
theorem impl_CountPlaces.calls (a0_0 : Int) (a0_1 : Int) (a1_0 : Int) (a1_1 : Int) (a1_2 : Bool) (a1_3 : Bool) (r1 : Int) (r2 : Bool) (w : World) (h : impl_CountPlaces.f a0_0 a0_1 a1_0 a1_1 a1_2 a1_3 = some (r1, r2)) :
    Calls Try.prog 10 #[.agg #[.int .i64 a0_0, .int .i64 a0_1], .agg #[.int .i64 a1_0, .int .i64 a1_1, .bool a1_2, .bool a1_3]] w fun e w' => e = .returned (.tuple #[.int .i64 r1, .bool r2]) ∧ Below w.heap.size w w' := by
 unfold impl_CountPlaces.f at h
 obtain ⟨t1, a5, h⟩ := Option.bind_eq_some_iff.mp h
 have a6 := Aside0.mk a5
 clear a5
 obtain ⟨p1, p2, ps⟩ := fw_two w (.cells #[.int .i64 a0_0, .int .i64 a0_1] 28 (0, 0)) (.cells #[.int .i64 a1_0, .int .i64 a1_1, .bool a1_2, .bool a1_3] 30 (0, 0))
 have a1 := Aside0.mk (below_alloc (below_alloc (Below.refl _ w) (.cells #[.int .i64 a0_0, .int .i64 a0_1] 28 (0, 0))) (.cells #[.int .i64 a1_0, .int .i64 a1_1, .bool a1_2, .bool a1_3] 30 (0, 0)))
 have P := Aside0.mk (And.intro p1 (And.intro p2 ps))
 clear p1 p2 ps
 cases t1 with
 | false =>
  rw [if_neg (by decide)] at h
  obtain ⟨rfl, rfl⟩ := Prod.mk.inj (Option.some.inj h)
  clear h
  go_enter Try.func10, Try.ntmps10
  go_wp2_with fail
  with_reducible refine (impl_IsBeam.calls _ _ _ _ _ _ false _ a6.out).mono ?_
  rintro e w1 ⟨rfl, a0⟩
  have a4 := Aside0.mk (below_step a1.out a0)
  clear a0
  go_wp2_with fail
  go_ret2
  exact ⟨rfl, a4.out⟩
 | true =>
  rw [if_pos rfl] at h
  by_cases hv : VsOk a0_0 a0_1 a1_0 a1_1
  case neg => rw [if_neg hv] at h; cases h
  rw [if_pos hv] at h
  obtain ⟨rfl, rfl⟩ := Prod.mk.inj (Option.some.inj h)
  have HV := Aside0.mk hv
  clear h hv
  go_enter Try.func10, Try.ntmps10
  go_wp2_with fail
  with_reducible refine (impl_IsBeam.calls _ _ _ _ _ _ true _ a6.out).mono ?_
  rintro e w1 ⟨rfl, a0⟩
  have a4 := Aside0.mk (below_step a1.out a0)
  have q1 := (a0.block w.heap.size (by rw [P.out.2.2]; omega)).trans P.out.1
  have q2 := (a0.block (w.heap.size + 1) (by rw [P.out.2.2]; omega)).trans P.out.2.1
  have a8 := (fw_cells q1 0).1
  have a9 := (fw_cells q1 1).1
  have b0 := (fw_cells q2 0).1
  have b1 := (fw_cells q2 1).1
  have b2 := (fw_cells q2 2).1
  have b3 := (fw_cells q2 3).1
  simp at a8 a9 b0 b1 b2 b3
  clear a0 q1 q2 P a1
  go_wp2_with fail
  refine (impl_visits.gives a0_0 a0_1 a1_0 a1_1 a1_2 a1_3 w1 HV.out.1 (vs_good a1_2 a1_3 HV.out)).mono ?_
  rintro e w2 ⟨rfl, hown, a7⟩
  have b4 := Aside0.mk (below_step a4.out a7)
  have HO := Aside0.mk hown
  have hsz := (vsIs a0_0 a0_1 ⟨a1_0, a1_1, a1_2, a1_3⟩ (vsN a0_0 a0_1 ⟨a1_0, a1_1, a1_2, a1_3⟩ + 1) (fun k _ => vs_good a1_2 a1_3 HV.out k) _ (Nat.le_refl _)).size
  have HS := Aside0.mk hsz
  have hl := hown.len Try.underlying62 3
  rw [hsz] at hl
  clear a7 hown hsz HO
  go_wp2_with fail
  go_ret2
  exact ⟨rfl, b4.out⟩

/-! ### impl_PlacesOfBeam: function 13 -/
theorem pl_info : (Try.prog.info? 40).map (fun i => (i.zero, i.size, i.bytes)) = some (some (.slice none 0 0), 1, 24) := by kernel_rfl
abbrev PlS (T cb : Nat) (W : World) (base : Nat) (v : Value) (xs : List (List Int)) : Prop := Kd.S (Kd.slice 3 (Kd.int .i64)) 40 W base (fun i => i ≠ T ∧ i ≠ T + 1 ∧ i ≠ cb) v xs
set_option maxHeartbeats 4000000 in
set_option maxRecDepth 100000 in
theorem pl_one (cb T : Nat) (k x y : Int) (r u : Bool) (sd : ByteArray) (w Wd : World) (v : Value) (xs : List (List Int)) (hlen : xs.length ≤ 1000) (hB : Below w.heap.size w Wd) (hwc : w.heap.size ≤ cb) (hcT : cb < T) (hT : T + 1 < Wd.heap.size) (hc : Wd.heap[cb]? = some (.cells #[v] 33 (0, 0))) (hS : PlS T cb Wd w.heap.size v xs) :
    Calls Try.prog 47 #[.int .i64 k, .agg #[.int .i64 x, .int .i64 y, .bool r, .bool u], .string sd, .pointer (some ⟨cb, 0, none⟩)] Wd fun e w' =>
      e = .returned (.bool false) ∧ Below w.heap.size w w' ∧ (∃ v', w'.heap[cb]? = some (.cells #[v'] 33 (0, 0)) ∧ PlS T cb w' w.heap.size v' (xs ++ [[x, y]])) ∧ FwFr T Wd w' := by
  obtain ⟨Av, cv, rfl⟩ := Kd.R_slice (Kd.S_R hS)
  have hal := below_alloc (Below.refl _ Wd) (.cells #[.int .i64 x, .int .i64 y, .bool r, .bool u] 30 (0, 0))
  have hlt : cb < Wd.heap.size := by omega
  have q1 := (hal.block _ hlt).trans hc
  have c1 := (fw_cells q1 0).1
  have f1 := (fw_cells q1 0).2
  simp at c1
  have S1 := Aside0.mk (Kd.S_alloc hS (.cells #[.int .i64 x, .int .i64 y, .bool r, .bool u] 30 (0, 0)))
  have B1 := Aside0.mk (below_alloc hB (.cells #[.int .i64 x, .int .i64 y, .bool r, .bool u] 30 (0, 0)))
  have HAL := Aside0.mk hal
  have Q1 := Aside0.mk q1
  have HT := Aside0.mk hT
  have HLEN := Aside0.mk hlen
  have HW := Aside0.mk hwc
  have HCT := Aside0.mk hcT
  clear hc hS hal hB hT hlen hwc hcT hlt q1
  go_enter Try.func47, Try.ntmps47
  go_wp2_with (first
    | ((with_reducible refine gate_dst (N := 13) rfl ?_); refine Kd.R_lit (Kd.int .i64) _ 3 ?hg (N := 13) ?hd (xs := ([x, y] : List Int)) (inner := [.int .i64 x, .int .i64 y]) (ok := fun _ => True) (okp := fun _ => True) ?hr ?hp (fun _ hk => hk) trivial (Below.refl _ _) (Nat.le_refl _) (by simp) ?_; (case hd => rfl); (case hg => rfl); (case hr => first | (go_simp; done) | (go_simp; rfl)); (case hp => exact (Reps.one (show Kd.M (Kd.int .i64) _ _ _ x [.int .i64 x] from rfl) (Reps.one (show Kd.M (Kd.int .i64) _ _ _ y [.int .i64 y] from rfl) (Reps.none _ _))));
       intro v1 w2 ho hb hg_ hnew_; clear hg_ hnew_;
       have S2 := Aside0.mk (Kd.S_elder' S1.out (Kd.R_base ho) hb);
       have RB := Aside0.mk (Kd.R_base ho);
       have R2 := Aside0.mk (Kd.R_lower ho B1.out.size);
       have B2 := Aside0.mk (below_step B1.out hb);
       have F2 := Aside0.mk (below_step HAL.out hb);
       have z2 := Aside0.mk hb.size;
       have Q2 := Aside0.mk ((hb.block cb (blk_lt Q1.out)).trans Q1.out);
       clear ho hb S1 B1 HAL;
       obtain ⟨Ao, co, eo⟩ := Kd.R_slice R2.out; subst eo)
    | ((with_reducible refine gate_builtin (b := .append) (xs := #[.tmp 8, .tmp 14]) rfl ?_); at_builtin;
       refine Kd.S_append (Kd.slice 3 (Kd.int .i64)) (w0 := w) w.heap.size rfl (.tmp 8) (.tmp 14) 33 40 (.slice none 0 0) 24 rfl Try.underlying33 pl_info rfl (by decide) (by omega) (.slice Av xs.length cv) xs ([x, y] : List Int) [.slice Ao ([x, y] : List Int).length co] (fun i => i ≠ T ∧ i ≠ T + 1 ∧ i ≠ cb) (fun k_ => some k_ = (.slice Ao ([x, y] : List Int).length co : Value).ownBlock) rfl rfl ?aP ?aK ?aF ?aO ?aB ?aS ?aL ?_;
       (case aP => exact Kd.M_row (Kd.R_tight rfl R2.out));
       (case aK => exact (fun k_ hk => ⟨by have h1 := RB.out k_ hk.symm; have h2 := HT.out; have h3 := HCT.out; simp at h1; omega, fun e => ((Kd.S_R S2.out).1 k_ e.symm).2 hk⟩));
       (case aF => exact (fun k_ hk => by have h1 := z2.out; have h2 := HT.out; have h3 := HCT.out; simp at h1; omega));
       (case aO => exact Kd.S_mono S2.out (fun k_ hk => ⟨hk.1, hk.2⟩));
       (case aB => exact B2.out);
       (case aS => exact B2.out.size);
       (case aL => have := HLEN.out; omega);
       intro v3 w3 ho hb hg hat; clear hat;
       have S3 := Aside0.mk ho;
       have B3 := Aside0.mk hb;
       have G3 := Aside0.mk hg;
       have hq3 := (hg.block cb (blk_lt Q2.out) (fun e => ((Kd.S_R S2.out).1 cb e.symm).1.2.2 rfl)).trans Q2.out;
       have Q3 := Aside0.mk hq3;
       have c3 := (fw_cells hq3 0).1; have f3 := (fw_cells hq3 0).2; simp at c3;
       clear ho hb hg hq3;
       obtain ⟨A3, n3, e3⟩ := Kd.R_slice (Kd.S_R S3.out); subst e3))
  go_ret
  have hT := HT.out
  have hCT := HCT.out
  have e1 : ∀ i, i = T ∨ i = T + 1 → w3.heap[i]? = Wd.heap[i]? := fun i hi => by
    have h1 : i < Wd.heap.size := by omega
    have h2 : i < w2.heap.size := Nat.lt_of_lt_of_le h1 F2.out.size
    exact (G3.out.block i h2 (fun e => by
      have := ((Kd.S_R S2.out).1 i e.symm).1
      omega)).trans (F2.out.block i h1)
  have el : (xs ++ [[x, y]]).length = xs.length + 1 := by simp
  have S4 := S3.out
  rw [el] at S4
  refine ⟨rfl, below_set B3.out HW.out, ⟨_, heap_setCell_same _ cb 0 _ 33 _ Q3.out, Kd.S_far (p := ⟨cb, 0, none⟩) S4 (fun k hk => hk.2.2) _⟩, ⟨?_, ?_, ?_⟩⟩
  · have := F2.out.size
    have := G3.out.size
    simp
    omega
  · exact (Below.heap_setCell w3 _ _ T (by show T ≠ cb; omega)).trans (e1 T (.inl rfl))
  · exact (Below.heap_setCell w3 _ _ (T + 1) (by show T + 1 ≠ cb; omega)).trans (e1 (T + 1) (.inr rfl))
/-- The places behind the first steps. -/
def plRows (W H : Int) (b : S30) : Nat → List (List Int)
  | 0 => []
  | k + 1 => plRows W H b k ++ [[(fwSt W H b k).1.f0, (fwSt W H b k).1.f1]]
theorem plRows_len (W H : Int) (b : S30) : ∀ k, (plRows W H b k).length = k
  | 0 => rfl
  | k + 1 => by rw [plRows, List.length_append, plRows_len W H b k]; rfl
def plN (W H : Int) (b : S30) (steps : Int) : Nat := fwN W H b steps (fun _ => false)
structure PlI (W H : Int) (b : S30) (T cb : Nat) (w : World) (k : Nat) (wr : World) : Prop where
  below : Below w.heap.size w wr
  lt : T ≤ wr.heap.size
  row : ∃ v, wr.heap[cb]? = some (.cells #[v] 33 (0, 0)) ∧ PlS T cb wr w.heap.size v (plRows W H b k)
theorem pl_way (W H x y : Int) (r u : Bool) (steps : Int) (h0 : 0 ≤ steps) (h1 : steps ≤ 300) (cb : Nat) (w wb : World) (hB : Below w.heap.size w wb) (hwc : w.heap.size ≤ cb) (hlt : cb < wb.heap.size) (v : Value) (hc : wb.heap[cb]? = some (.cells #[v] 33 (0, 0))) (hS : PlS wb.heap.size cb wb w.heap.size v []) :
    Calls Try.prog 46 #[.agg #[.int .i64 W, .int .i64 H], .agg #[.int .i64 x, .int .i64 y, .bool r, .bool u], .int .i64 steps, .func (.func 47) #[] #[.pointer (some ⟨cb, 0, none⟩)]] wb fun e w' =>
      e = .returned (.tuple #[]) ∧ PlI W H ⟨x, y, r, u⟩ wb.heap.size cb w (plN W H ⟨x, y, r, u⟩ steps + 1) w' := by
  obtain ⟨n1, n2, n3⟩ := fwN_is W H ⟨x, y, r, u⟩ steps (fun _ => false) h0
  refine impl_follow.calls W H x y r u steps 47 #[.pointer (some ⟨cb, 0, none⟩)] (fw_enters Try.func47 kr rfl) (PlI W H ⟨x, y, r, u⟩ wb.heap.size cb w) (fun _ => false) (plN W H ⟨x, y, r, u⟩ steps) wb (by unfold plN; omega) n3 n2 ⟨hB, Nat.le_refl _, v, hc, hS⟩ ?_ ?_
  · intro k W1 W2 hI hm
    obtain ⟨v, hv, hS⟩ := hI.row
    have hl := hI.lt
    refine ⟨⟨hm.os.trans hI.below.os, hm.tape.trans hI.below.tape, hm.output.trans hI.below.output, Nat.le_trans hI.below.size hm.size, fun i hi => ?_⟩, Nat.le_trans hl hm.size, v, (hm.block cb (by omega) (by omega)).trans hv, ?_⟩
    · have := hI.below.size
      exact (hm.block i (by omega) (by omega)).trans (hI.below.block i hi)
    · exact Kd.S_step hS (fun i hi hlt => hm.block i hlt hi.2.1)
  · intro k Wd hk hz hI
    obtain ⟨v, hv, hS⟩ := hI.row
    refine (pl_one cb wb.heap.size (k : Int) _ _ _ _ _ w Wd v _ (by rw [plRows_len]; unfold plN at hk; omega) hI.below hwc hlt hz hv hS).mono ?_
    rintro e w2 ⟨rfl, hb2, ⟨v', hv', hS'⟩, hf⟩
    exact ⟨rfl, ⟨hb2, Nat.le_trans hI.lt hf.size, v', hv', hS'⟩, hf⟩
def impl_PlacesOfBeam.f (a0_0 : Int) (a0_1 : Int) (a1_0 : Int) (a1_1 : Int) (a1_2 : Bool) (a1_3 : Bool) (a2 : Int) : Option (List (List Int) × Bool) :=
  (impl_IsBeam.f a0_0 a0_1 a1_0 a1_1 a1_2 a1_3).bind fun t1 => if t1 = true then (impl_within.f a2 0 300).bind fun t2 => if t2 = true then some (plRows a0_0 a0_1 ⟨a1_0, a1_1, a1_2, a1_3⟩ (plN a0_0 a0_1 ⟨a1_0, a1_1, a1_2, a1_3⟩ a2 + 1), true) else some ([], false) else some ([], false)
theorem pl_within {x a b : Int} (h : impl_within.f x a b = some true) : a ≤ x ∧ x ≤ b := by
  unfold impl_within.f at h
  by_cases c : x ≥ a
  · rw [if_pos c] at h
    exact ⟨c, of_decide_eq_true (Option.some.inj h)⟩
  · rw [if_neg c] at h
    cases h
set_option maxHeartbeats 8000000 in
set_option maxRecDepth 100000 in
theorem impl_PlacesOfBeam.calls (a0_0 : Int) (a0_1 : Int) (a1_0 : Int) (a1_1 : Int) (a1_2 : Bool) (a1_3 : Bool) (a2 : Int) (r1 : List (List Int)) (r2 : Bool) (w : World) (h : impl_PlacesOfBeam.f a0_0 a0_1 a1_0 a1_1 a1_2 a1_3 a2 = some (r1, r2)) :
    Calls Try.prog 13 #[.agg #[.int .i64 a0_0, .int .i64 a0_1], .agg #[.int .i64 a1_0, .int .i64 a1_1, .bool a1_2, .bool a1_3], .int .i64 a2] w fun e w' => ∃ v0_ : Value, e = .returned (.tuple #[v0_, .bool r2]) ∧ Kd.S (Kd.slice 3 (Kd.int .i64)) 40 w' w.heap.size (fun _ => True) v0_ r1 ∧ Below w.heap.size w w' := by
 unfold impl_PlacesOfBeam.f at h
 obtain ⟨t1, b7, h⟩ := Option.bind_eq_some_iff.mp h
 have b8 := Aside0.mk b7
 clear b7
 obtain ⟨p1, p2, ps⟩ := fw_two w (.cells #[.int .i64 a0_0, .int .i64 a0_1] 28 (0, 0)) (.cells #[.int .i64 a1_0, .int .i64 a1_1, .bool a1_2, .bool a1_3] 30 (0, 0))
 have b3 := Aside0.mk (below_alloc (below_alloc (Below.refl _ w) (.cells #[.int .i64 a0_0, .int .i64 a0_1] 28 (0, 0))) (.cells #[.int .i64 a1_0, .int .i64 a1_1, .bool a1_2, .bool a1_3] 30 (0, 0)))
 have P := Aside0.mk (And.intro p1 (And.intro p2 ps))
 clear p1 p2 ps
 cases t1 with
 | false =>
  rw [if_neg (by decide)] at h
  obtain ⟨rfl, rfl⟩ := Prod.mk.inj (Option.some.inj h)
  clear h
  go_enter Try.func13, Try.ntmps13
  go_wp2_with fail
  with_reducible refine (impl_IsBeam.calls _ _ _ _ _ _ false _ b8.out).mono ?_
  rintro e w1 ⟨rfl, a0⟩
  have a6 := Aside0.mk (below_step b3.out a0)
  clear a0
  go_wp2_with fail
  go_ret2
  exact ⟨_, rfl, ⟨fun _ => 0, Kd.R_nil _ _ _ _ _⟩, a6.out⟩
 | true =>
  rw [if_pos rfl] at h
  obtain ⟨t2, b9, h⟩ := Option.bind_eq_some_iff.mp h
  have c4 := Aside0.mk b9
  clear b9
  have H := Aside0.mk h
  clear h
  go_enter Try.func13, Try.ntmps13
  go_wp2_with fail
  with_reducible refine (impl_IsBeam.calls _ _ _ _ _ _ true _ b8.out).mono ?_
  rintro e w1 ⟨rfl, a0⟩
  have a6 := Aside0.mk (below_step b3.out a0)
  have q1 := (a0.block w.heap.size (by rw [P.out.2.2]; omega)).trans P.out.1
  have q2 := (a0.block (w.heap.size + 1) (by rw [P.out.2.2]; omega)).trans P.out.2.1
  have z1 := Aside0.mk (show w.heap.size + 1 < w1.heap.size from Nat.lt_of_lt_of_le (by rw [P.out.2.2]; omega) a0.size)
  have Q1 := Aside0.mk (And.intro q1 q2)
  clear a0 q1 q2 P b3
  go_wp2_with fail
  with_reducible refine (impl_within.calls a2 0 300 t2 _ c4.out).mono ?_
  rintro e w2 ⟨rfl, ⟨nd, hw⟩⟩
  have a5 : Below w1.heap.size w1 w2 := by rw [hw]; exact pw_below_drewN (Below.refl _ _) nd
  clear hw nd
  have b4 := Aside0.mk (below_step a6.out a5)
  have z2 := Aside0.mk (Nat.lt_of_lt_of_le z1.out a5.size)
  have q1 := (a5.block w.heap.size (by have := z1.out; omega)).trans Q1.out.1
  have q2 := (a5.block (w.heap.size + 1) z1.out).trans Q1.out.2
  have a7 := (fw_cells q1 0).1
  have a8 := (fw_cells q1 1).1
  have a9 := (fw_cells q2 0).1
  have b0 := (fw_cells q2 1).1
  have b1 := (fw_cells q2 2).1
  have b2 := (fw_cells q2 3).1
  simp at a7 a8 a9 b0 b1 b2
  clear a5 a6 z1 Q1
  cases t2 with
  | false =>
   have h := H.out
   rw [if_neg (by decide)] at h
   obtain ⟨rfl, rfl⟩ := Prod.mk.inj (Option.some.inj h)
   clear h H
   go_wp2_with fail
   go_ret2
   exact ⟨_, rfl, ⟨fun _ => 0, Kd.R_nil _ _ _ _ _⟩, b4.out⟩
  | true =>
   have h := H.out
   rw [if_pos rfl] at h
   obtain ⟨rfl, rfl⟩ := Prod.mk.inj (Option.some.inj h)
   clear h H
   have hst := pl_within c4.out
   have c6 := z2.out
   have hba : Below w2.heap.size w2 (w2.alloc (.cells #[] 40)) := below_alloc (Below.refl _ w2) _
   have hal : Below w2.heap.size w2 ((w2.alloc (.cells #[] 40)).alloc (.cells #[.slice (some ⟨w2.heap.size, 0, none⟩) 0 0] 33)) := below_alloc hba _
   have a1 := (hal.block _ (by omega)).trans q1
   have a4 := (hal.block _ (by omega)).trans q2
   obtain ⟨f1, f2, fs⟩ := fw_two w2 (.cells #[] 40) (.cells #[.slice (some ⟨w2.heap.size, 0, none⟩) 0 0] 33)
   have b5 := below_step b4.out hal
   have c5 : Kd.S (Kd.slice 3 (Kd.int .i64)) 40 (w2.alloc (.cells #[] 40)) w.heap.size (fun i => i = w2.heap.size) (.slice (some ⟨w2.heap.size, 0, none⟩) 0 0) [] := by
    refine ⟨fun _ => 0, fun k hk => ?_, [], ?_, ?_⟩
    ·(
    have : w2.heap.size = k := by simpa [Value.ownBlock] using hk
    exact this.symm
    )
    ·(
    have h2 := World.ownsRow_lit (base := w.heap.size) (e := 40) (size := 1) w2 #[] 0 (by omega) (by simp [maxLen]) (by simp)
    simp at h2
    exact h2
    )
    · exact ⟨rfl, fun m p hm => by simp at hm⟩
   have b6 := Kd.S_alloc c5 (.cells #[.slice (some ⟨w2.heap.size, 0, none⟩) 0 0] 33)
   obtain ⟨wb, hwb⟩ : ∃ wb, (w2.alloc (.cells #[] 40)).alloc (.cells #[.slice (some ⟨w2.heap.size, 0, none⟩) 0 0] 33) = wb := ⟨_, rfl⟩
   have c0 : ((w2.alloc (.cells #[] 40)).alloc (.cells #[.slice (some ⟨w2.heap.size, 0, none⟩) 0 0] 33)).heap.size = wb.heap.size := by rw [hwb]
   rw [hwb] at a1 a4 f2 b5 b6
   have a7 := (fw_cells a1 0).1
   have a8 := (fw_cells a1 1).1
   have a9 := (fw_cells a4 0).1
   have b0 := (fw_cells a4 1).1
   have b1 := (fw_cells a4 2).1
   have b2 := (fw_cells a4 3).1
   simp at a7 a8 a9 b0 b1 b2
   rw [← hwb] at a7 a8 a9 b0 b1 b2
   have hsz : wb.heap.size = w2.heap.size + 2 := by rw [← c0]; exact fs
   have HWAY := Aside0.mk (pl_way a0_0 a0_1 a1_0 a1_1 a1_2 a1_3 a2 hst.1 hst.2 (w2.heap.size + 1) w wb b5 (by omega) (by omega) _ f2 (Kd.S_mono b6 (fun i hi => by omega)))
   rw [← hwb] at HWAY
   clear hst c6 hba hal a1 a4 f1 f2 fs b5 c5 b6 hwb c0 hsz q1 q2 b4 z2
   go_wp2_with fail
   refine HWAY.out.mono ?_
   rintro e w3 ⟨rfl, hI⟩
   obtain ⟨v, hv, hS⟩ := hI.row
   obtain ⟨Av, cv, rfl⟩ := Kd.R_slice (Kd.S_R hS)
   have c3 := (fw_cells hv 0).1
   have f3 := (fw_cells hv 0).2
   simp at c3
   have HE := Aside0.mk (And.intro (Kd.S_mono hS (fun _ _ => trivial)) hI.below)
   clear hI hv hS HWAY
   go_wp2_with fail
   go_ret2
   exact ⟨_, rfl, HE.out.1, HE.out.2⟩

/-! ### spec_beAsked: function 48 -/
def spec_beAsked.f (a0_0 : Int) (a0_1 : Int) (a1_0 : Int) (a1_1 : Int) (a1_2 : Bool) (a1_3 : Bool) (a2 : Int) (a3 : Int) : Option (Bool) := (spec_beGood.f a0_0 a0_1 a1_0 a1_1 a1_2 a1_3).bind fun t224 => (if t224 = true then ((spec_l1In.f a2 0 a3).bind fun t225 => (some t225)) else (some false))
set_option maxHeartbeats 8000000 in
set_option maxRecDepth 100000 in
theorem spec_beAsked.calls (a0_0 : Int) (a0_1 : Int) (a1_0 : Int) (a1_1 : Int) (a1_2 : Bool) (a1_3 : Bool) (a2 : Int) (a3 : Int) (r : Bool) (w : World) (h : spec_beAsked.f a0_0 a0_1 a1_0 a1_1 a1_2 a1_3 a2 a3 = some r) :
    Calls Try.prog 48 #[.agg #[.int .i64 a0_0, .int .i64 a0_1], .agg #[.int .i64 a1_0, .int .i64 a1_1, .bool a1_2, .bool a1_3], .int .i64 a2, .int .i64 a3] w fun e w' => e = .returned (.bool r) ∧ Below w.heap.size w w' := by
 have c7 := Try.underlying28
 have c8 := Try.underlying30
 have HB := Aside0.mk (Below.refl w.heap.size w)
 have H := h
 unfold spec_beAsked.f at H
 clear h
 obtain ⟨a6, A5, H⟩ := bD H
 try dsimp only at H
 by_cases c6 : a6 = true
 subst c6
 rw [if_pos rfl] at H
 obtain ⟨a7, A7, H⟩ := bD H
 try dsimp only at H
 obtain rfl := Option.some.inj H
 rotate_left
 replace c6 := Bool.eq_false_iff.mpr c6
 subst c6
 rw [if_neg nft] at H
 obtain rfl := Option.some.inj H
 rotate_left
 all_goals (go_enter Try.func48, Try.ntmps48)
 all_goals (go_wp2_with (first | ((with_reducible refine gate_dst (N := 4) rfl ?_); refine box_ (cs := #[.int .i64 a0_0, .int .i64 a0_1]) (t := 28) fun c9 hg d5 hbox hb => ?_; have a0 := Aside0.mk (hbox); have d0 := bS HB hg; have d1 := bS HB hg; replace HB := Aside0.mk (below_step bB hb); clear hb hbox hg) | ((with_reducible refine gate_dst (N := 5) rfl ?_); refine box_ (cs := #[.int .i64 a1_0, .int .i64 a1_1, .bool a1_2, .bool a1_3]) (t := 30) fun d2 hg d6 hbox hb => ?_; have a1 := Aside0.mk (hbox); have d3 := bS HB hg; have d4 := bS HB hg; have a4 := bL a0 hg; have a5 := bM a0 hg; replace a0 := bQ a0 hb; replace HB := Aside0.mk (below_step bB hb); clear hb hbox hg; have c4 := a4.out; have c5 := a5.out; obtain ⟨a8, a9, b0, b1⟩ := cf2 a0; obtain ⟨b2, b3, b4, b5, b6, b7, b8, b9⟩ := cf4 a1) | ((with_reducible refine gate_callee (f := 38) rfl ?_); refine goesL_ (some 11) rfl rfl Try.func38 kr rfl #[.agg #[.int .i64 a0_0, .int .i64 a0_1], .agg #[.int .i64 a1_0, .int .i64 a1_1, .bool a1_2, .bool a1_3]] rfl sM ?_; (with_reducible refine (spec_beGood.calls a0_0 a0_1 a1_0 a1_1 a1_2 a1_3 true _ A5.out).mono ?_); rintro e c0 ⟨rfl, hb⟩; refine ⟨_, rfl, ?_⟩; replace a0 := bQ a0 hb; replace a1 := bQ a1 hb; replace HB := Aside0.mk (below_step bB hb); (try clear hb)) | (go_at_call 71; (with_reducible refine (spec_l1In.calls a2 0 a3 a7 _ A7.out).mono ?_); rintro e w' ⟨rfl, ⟨nd, rfl⟩⟩) | ((with_reducible refine gate_callee (f := 38) rfl ?_); refine goesL_ (some 11) rfl rfl Try.func38 kr rfl #[.agg #[.int .i64 a0_0, .int .i64 a0_1], .agg #[.int .i64 a1_0, .int .i64 a1_1, .bool a1_2, .bool a1_3]] rfl sM ?_; (with_reducible refine (spec_beGood.calls a0_0 a0_1 a1_0 a1_1 a1_2 a1_3 false _ A5.out).mono ?_); rintro e c0 ⟨rfl, hb⟩; refine ⟨_, rfl, ?_⟩; replace a0 := bQ a0 hb; replace a1 := bQ a1 hb; replace HB := Aside0.mk (below_step bB hb); (try clear hb))))
 all_goals go_ret
 all_goals (exact ⟨sE, bI⟩)

end Go.Proofs.Ythfbjofmcniogaa.PFnBeamsGo
