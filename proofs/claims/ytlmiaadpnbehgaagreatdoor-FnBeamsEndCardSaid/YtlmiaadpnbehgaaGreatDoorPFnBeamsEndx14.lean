-- Written by xprint.py, a program of this session, for this seat; Lean checks it.
import Derived.Test.YtlmiaadpnbehgaaGreatDoorVM
import Derived.Test.YtlmiaadpnbehgaaGreatDoorPFnBeamsEndx0
import Derived.Test.YtlmiaadpnbehgaaGreatDoorPFnBeamsEndx6
import Derived.Test.YtlmiaadpnbehgaaGreatDoorPFnBeamsEndx7
import Derived.Test.YtlmiaadpnbehgaaGreatDoorPFnBeamsEndx8
import Derived.Test.YtlmiaadpnbehgaaGreatDoorPFnBeamsEndx9
namespace Go.Proofs.YtlmiaadpnbehgaaGreatDoor.PFnBeamsEnd
open Go.Proofs.YtlmiaadpnbehgaaGreatDoorV Go.RowKit Go.Proofs.YtlmiaadpnbehgaaGreatDoorW.PrintWords Go.Proofs.YtlmiaadpnbehgaaGreatDoorW.PrintLast Go.Proofs.YtlmiaadpnbehgaaGreatDoorW.PrintMore
attribute [local go_sem] max2_int min2_int max_two min_two max_three min_three max_four min_four   -- for this text's walks alone
set_option linter.unusedVariables false
set_option linter.unusedSimpArgs false

/-! ### impl_visits: function 36 -/
/-! ### A map keyed by a place. -/
section VisMap
open Go.Maps Go.WideShapes Go.MapKept Go.ChangeMaps Go.WideElems Go.WideMaps
theorem vs_laid : laidOutB Tryz.prog = true := by kernel_rfl
theorem vs_klaw : KeyLaw Tryz.prog 58 := deep_law_laid vs_laid (m := 9) (by decide) (of_decide_eq_true (by kernel_rfl)) (by kernel_rfl) (by kernel_rfl)
theorem vs_keyed : Keyed Tryz.prog 58 := Keyed.of_law vs_klaw
def vsKl (x y : Int) : Lit := .string (keyBytes [.int .i64 x, .int .i64 y])
theorem vs_types : ∃ n, Tryz.prog.types.size = n + 1 := ⟨Tryz.prog.types.size - 1, by kernel_rfl⟩
theorem vs_wf (x : Int) : (Lit.int .i64 x).wf = true ↔ -9223372036854775808 ≤ x ∧ x ≤ 9223372036854775807 := by
  have e0 : IntKind.i64.min = -9223372036854775808 := by decide
  have e1 : IntKind.i64.max = 9223372036854775807 := by decide
  simp [Lit.wf]
  omega
theorem vs_key {x y : Int} (hx : (Lit.int .i64 x).wf = true) (hy : (Lit.int .i64 y).wf = true) : keyOf Tryz.prog 58 (.agg #[.int .i64 x, .int .i64 y]) = some (vsKl x y) := by
  have c3 : Tryz.prog.cellsOf 3 = 1 := by kernel_rfl
  have cK : Tryz.prog.cellsOf 58 = 2 := by kernel_rfl
  have kt : Tryz.prog.keyType 58 = true := by kernel_rfl
  obtain ⟨n, hn⟩ := vs_types
  have l1 : Tryz.prog.keyLits (n + 1 + 1) 58 [.int .i64 x, .int .i64 y] = some [.int .i64 x, .int .i64 y] := by
    simp [Program.keyLits, Tryz.underlying58, Tryz.underlying3, cK, c3, hx, hy, List.range_succ]
  unfold keyOf
  simp only [Tryz.underlying58]
  have ec : (Value.agg #[.int .i64 x, .int .i64 y]).cells.toList = [.int .i64 x, .int .i64 y] := rfl
  rw [kt, hn, ec, l1]
  simp [Value.formed, Tryz.underlying58, cK, vsKl]
set_option maxRecDepth 100000 in
theorem vs_keyInv {v : Value} {kl : Lit} (h : keyOf Tryz.prog 58 v = some kl) : ∃ z : Int × Int, v = .agg #[.int .i64 z.1, .int .i64 z.2] ∧ kl = vsKl z.1 z.2 ∧ (Lit.int .i64 z.1).wf = true ∧ (Lit.int .i64 z.2).wf = true := by
  have c3 : Tryz.prog.cellsOf 3 = 1 := by kernel_rfl
  have cK : Tryz.prog.cellsOf 58 = 2 := by kernel_rfl
  have kt : Tryz.prog.keyType 58 = true := by kernel_rfl
  obtain ⟨n, hn⟩ := vs_types
  unfold keyOf at h
  simp only [Tryz.underlying58] at h
  rw [kt, hn] at h
  cases v with
  | agg cs =>
    by_cases hc : cs.size = 2
    · obtain ⟨a, b, rfl⟩ : ∃ a b, cs = #[a, b] := by
        obtain ⟨l⟩ := cs
        match l, hc with
        | [a, b], _ => exact ⟨a, b, rfl⟩
      have hf : Value.formed Tryz.prog 58 (.agg #[a, b]) = true := by simp [Value.formed, Tryz.underlying58, cK]
      have ec : (Value.agg #[a, b]).cells.toList = [a, b] := rfl
      rw [hf, ec] at h
      simp only [Bool.and_self, if_true] at h
      obtain ⟨ls, hls, hkl⟩ := Option.map_eq_some_iff.mp h
      clear h
      have ea : ∀ v : Value, ∀ z, Tryz.prog.keyLits (n + 1) 3 [v] = some z → ∃ x, v = .int .i64 x ∧ z = [.int .i64 x] ∧ (Lit.int .i64 x).wf = true := by
        intro v z hz
        cases v <;> simp [Program.keyLits, Tryz.underlying3] at hz
        obtain ⟨⟨rfl, hw⟩, rfl⟩ := hz
        exact ⟨_, rfl, rfl, hw⟩
      have hstep : Tryz.prog.keyLits (n + 1 + 1) 58 [a, b] = (if [a, b].length = Tryz.prog.cellsOf 58 then ((List.range 2).mapM fun i => Tryz.prog.keyLits (n + 1) 3 (([a, b].drop (i * Tryz.prog.cellsOf 3)).take (Tryz.prog.cellsOf 3))).map List.flatten else none) := by
        conv => lhs; unfold Program.keyLits
        simp only [Tryz.underlying58]
      rw [hstep, cK, c3] at hls
      simp [List.range_succ] at hls
      cases hz1 : Tryz.prog.keyLits (n + 1) 3 [a] with
      | none => rw [hz1] at hls; simp at hls
      | some z1 =>
      rw [hz1] at hls
      cases hz2 : Tryz.prog.keyLits (n + 1) 3 [b] with
      | none => rw [hz2] at hls; simp at hls
      | some z2 =>
      rw [hz2] at hls
      simp at hls
      subst hls
      obtain ⟨x, rfl, rfl, wx⟩ := ea a z1 hz1
      obtain ⟨y, rfl, rfl, wy⟩ := ea b z2 hz2
      exact ⟨(x, y), rfl, hkl.symm, wx, wy⟩
    · simp [Value.formed, Tryz.underlying58, cK, hc] at h
  | _ => simp [Value.formed, Tryz.underlying58] at h
/-- 'm[k]++' as the translation lays it: the entry is made ready, then filled. -/
theorem vs_entryStore {H : Type} {P : Program} {w : World} {t k e : TypeId} {R : Value → Option (DataW H × List MemPlace)} {b : Nat} {es : Array MapEntry} {clock : Nat} (K : KeyLaw P k) (ht : P.underlying t = some (.map k e)) {z : Value} (hz : ∀ u : World, (zeroValue e).run P u = .ok z u) (hb : w.heap[b]? = some (.map es clock)) (F : Fit P k R es clock)
    {key : Value} {kl : Lit} (hkey : keyOf P k key = some kl) :
    ∃ (v0 : Value) (st : Nat) (es1 : Array MapEntry) (clock1 : Nat), (Instr.mapEntry t (.map (some b)) key).run P w = .ok (.tuple #[v0, goInt st]) (setBlock w b (.map es1 clock1)) ∧
      (Instr.mapUpdate t (.map (some b)) key v0).run P w = .ok () (setBlock w b (.map es1 clock1)) ∧ (Instr.lookup t (.map (some b)) key false).run P w = .ok v0 w ∧
      ∀ (w2 : World) (val : Value), w2.heap[b]? = some (.map es1 clock1) → ∃ es' clock', (Instr.entryStore t (.map (some b)) (goInt st) val).run P w2 = .ok () (setBlock w2 b (.map es' clock')) ∧
        (Instr.mapUpdate t (.map (some b)) key val).run P w = .ok () (setBlock w b (.map es' clock')) := by
  obtain ⟨s1, s2, _⟩ := F.stamped
  rcases K.find w hkey es.toList F.keys with ⟨h1, h2⟩ | ⟨j, e0, h1, h2, h3⟩
  · refine ⟨z, clock, es.push ⟨key, z, clock⟩, clock + 1, ?_, ?_, ?_, fun w2 val hw2 => ⟨es.push ⟨key, val, clock⟩, clock + 1, ?_, ?_⟩⟩
    · simp [Instr.mapEntry, run_underlying ht, MapKept.run_getObj_map hb, K.check w false hkey, h1, hz, MapKept.run_setObj_map _ hb, Result.andThen, setBlock]
    · simp [Instr.mapUpdate, run_underlying ht, MapKept.run_getObj_map hb, K.check w false hkey, h1, MapKept.run_setObj_map _ hb, Result.andThen, setBlock]
    · simp [Instr.lookup, run_underlying ht, MapKept.run_getObj_map hb, K.check w es.isEmpty hkey, h1, hz, Result.andThen]
    · have hidx : (es.push ⟨key, z, clock⟩).findIdx? (fun e => ((e.born : Nat) : Int) == ((clock : Nat) : Int)) = some es.size := by
        rw [findIdx_arr]
        have := findIdx_born (l := (es.push ⟨key, z, clock⟩).toList) (j := es.size) (e0 := ⟨key, z, clock⟩) (by
          simp only [Array.toList_push, List.map_append, List.map_cons, List.map_nil]
          refine List.nodup_append.2 ⟨s2, by simp, fun a ha c hc e1 => ?_⟩
          simp only [List.mem_singleton] at hc
          obtain ⟨x, hx, rfl⟩ := List.mem_map.1 ha
          have := s1 x hx
          omega) (by simp)
        exact this
      have hmod : (es.push ⟨key, z, clock⟩).modify es.size (fun e => { e with val := val }) = es.push ⟨key, val, clock⟩ := by
        apply Array.ext'
        rw [Array.toList_modify, Array.toList_push, Array.toList_push, ← Array.length_toList, modify_last]
      simp [Instr.entryStore, MapKept.run_getObj_map hw2, asInt, asIntOf, goInt, hidx, hmod, MapKept.run_setObj_map _ hw2, Result.andThen, setBlock]
    · simp [Instr.mapUpdate, run_underlying ht, MapKept.run_getObj_map hb, K.check w false hkey, h1, MapKept.run_setObj_map _ hb, Result.andThen, setBlock]
  · have hj : es[j]? = some e0 := by simpa using h2
    have hsame : es.modify j (fun e => { e with key := key }) = es := by
      apply Array.ext'
      rw [Array.toList_modify, modify_eq_set _ _ _ _ h2]
      have : ({ e0 with key := key } : MapEntry) = e0 := by rw [← h3]
      rw [this]
      exact set_self _ _ _ h2
    have hsame2 : es.modify j (fun e => { e with key := key, val := e0.val }) = es := by
      apply Array.ext'
      rw [Array.toList_modify, modify_eq_set _ _ _ _ h2]
      have : ({ e0 with key := key, val := e0.val } : MapEntry) = e0 := by rw [← h3]
      rw [this]
      exact set_self _ _ _ h2
    refine ⟨e0.val, e0.born, es, clock, ?_, ?_, ?_, fun w2 val hw2 => ⟨es.modify j (fun e' => { e' with key := key, val := val }), clock, ?_, ?_⟩⟩
    · simp [Instr.mapEntry, run_underlying ht, MapKept.run_getObj_map hb, K.check w false hkey, h1, hj, h3, K.stays w hkey, hsame, MapKept.run_setObj_map _ hb, Result.andThen, setBlock]
    · simp [Instr.mapUpdate, run_underlying ht, MapKept.run_getObj_map hb, K.check w false hkey, h1, hj, h3, K.stays w hkey, hsame2, MapKept.run_setObj_map _ hb, Result.andThen, setBlock]
    · simp [Instr.lookup, run_underlying ht, MapKept.run_getObj_map hb, K.check w es.isEmpty hkey, h1, Result.andThen]
    · have hidx : es.findIdx? (fun e => ((e.born : Nat) : Int) == ((e0.born : Nat) : Int)) = some j := by
        rw [findIdx_arr]
        exact findIdx_born s2 h2
      have hmod : es.modify j (fun e => { e with val := val }) = es.modify j (fun e' => { e' with key := key, val := val }) := by
        apply Array.ext'
        rw [Array.toList_modify, Array.toList_modify, modify_eq_set _ _ _ _ h2, modify_eq_set _ _ _ _ h2, ← h3]
      simp [Instr.entryStore, MapKept.run_getObj_map hw2, asInt, asIntOf, goInt, hidx, hmod, MapKept.run_setObj_map _ hw2, Result.andThen, setBlock]
    · simp [Instr.mapUpdate, run_underlying ht, MapKept.run_getObj_map hb, K.check w false hkey, h1, hj, h3, K.stays w hkey, MapKept.run_setObj_map _ hb, Result.andThen, setBlock]
theorem vs_zero (w : World) : (zeroValue 3).run Tryz.prog w = .ok (.int .i64 0) w := by kernel_rfl
/-- The block alone tells what the map reads as. -/
theorem vs_block {H : Type} {P : Program} {k : TypeId} {R : Value → Option (DataW H × List MemPlace)} {w w' : World} {b n : Nat} {D : DataW H} (h : w.ownsMap P k R b n D) (hb : w'.heap[b]? = w.heap[b]?) : w'.ownsMap P k R b n D := by
  obtain ⟨es, clock, h1, F, h2, h3⟩ := h
  exact ⟨es, clock, hb.trans h1, F, h2, h3⟩
theorem vs_set (w : World) (b : Nat) (es : Array MapEntry) (clock : Nat) {o : Obj} (h : w.heap[b]? = some o) : (setBlock w b (.map es clock)).heap[b]? = some (.map es clock) ∧ w.grownBy (setBlock w b (.map es clock)) (some b) := by
  have hlt := (Array.getElem?_eq_some_iff.1 h).1
  refine ⟨?_, rfl, rfl, rfl, ?_, fun i _ hi => ?_⟩
  · simp [setBlock, hlt]
  · simp [setBlock]
  · have hne : b ≠ i := fun e => hi (by rw [e])
    simp [setBlock, hne]
abbrev vsOwns (w : World) (b n : Nat) (D : DataW Unit) : Prop := w.ownsMap Tryz.prog 58 (plainElem Tryz.prog 3) b n D
set_option maxRecDepth 100000 in
theorem vs_count (W : World) (B n : Nat) (D : DataW Unit) (hown : vsOwns W B n D) (hn : n < 1000000) {x y : Int} (hx : (Lit.int .i64 x).wf = true) (hy : (Lit.int .i64 y).wf = true) (hD : IsMap D) :
    ∃ (c st : Int) (W2 : World), (Instr.lookup 56 (.map (some B)) (.agg #[.int .i64 x, .int .i64 y]) false).run Tryz.prog W = .ok (.int .i64 c) W ∧ D.atKey (vsKl x y) (.lit (.int .i64 0)) = .lit (.int .i64 c) ∧
      (Instr.mapEntry 56 (.map (some B)) (.agg #[.int .i64 x, .int .i64 y])).run Tryz.prog W = .ok (.tuple #[.int .i64 c, .int .i64 st]) W2 ∧
      (Instr.lookup 56 (.map (some B)) (.agg #[.int .i64 x, .int .i64 y]) false).run Tryz.prog W2 = .ok (.int .i64 c) W2 ∧
      ∀ v, (Lit.int .i64 v).wf = true → ∃ W3, (Instr.entryStore 56 (.map (some B)) (.int .i64 st) (.int .i64 v)).run Tryz.prog W2 = .ok () W3 ∧ vsOwns W3 B (n + 1) (D.put (vsKl x y) (.lit (.int .i64 v))) ∧ W.grownBy W3 (some B) := by
  have hkey := vs_key hx hy
  obtain ⟨c, hrun, hat, hwc⟩ := hown.lookup_int vs_keyed Tryz.underlying56 Tryz.underlying3 (vs_zero W) hkey
  have hown' := hown
  obtain ⟨es, clock, hb, F, hs, hD'⟩ := hown'
  obtain ⟨v0, st, es1, clock1, m1, m2, m3, m4⟩ := vs_entryStore vs_klaw Tryz.underlying56 vs_zero hb F hkey
  rw [hrun] at m3
  obtain rfl : Value.int .i64 c = v0 := by injection m3
  have hn' : n < maxLen := by unfold maxLen; omega
  obtain ⟨w', u1, u2, u3⟩ := hown.update vs_keyed Tryz.underlying56 hn' hkey (plainElem_int (H := Unit) Tryz.underlying3 hwc)
  rw [m2] at u1
  obtain rfl : setBlock W B (.map es1 clock1) = w' := by injection u1
  obtain ⟨c2, l1, l2, l3⟩ := u2.lookup_int vs_keyed Tryz.underlying56 Tryz.underlying3 (vs_zero _) hkey
  rw [atKey_put_same hD (vs_keyed.key hkey)] at l2
  obtain rfl : c = c2 := by injection l2 with e; injection e
  refine ⟨c, st, _, hrun, hat, m1, l1, fun v hv => ?_⟩
  obtain ⟨q1, q2⟩ := vs_set W B es1 clock1 hb
  obtain ⟨es', clock', r1, r2⟩ := m4 (setBlock W B (.map es1 clock1)) (.int .i64 v) q1
  obtain ⟨w'', v1, v2, v3⟩ := hown.update vs_keyed Tryz.underlying56 hn' hkey (plainElem_int (H := Unit) Tryz.underlying3 hv)
  rw [r2] at v1
  obtain rfl : setBlock W B (.map es' clock') = w'' := by injection v1
  obtain ⟨p1, p2⟩ := vs_set (setBlock W B (.map es1 clock1)) B es' clock' q1
  exact ⟨_, r1, vs_block v2 (p1.trans (vs_set W B es' clock' hb).1.symm), q2.trans p2⟩
end VisMap
set_option maxHeartbeats 4000000 in
set_option maxRecDepth 100000 in
theorem vs_one (cb T B : Nat) (k x y : Int) (r u : Bool) (sd : ByteArray) (w Wd : World) (n : Nat) (D : DataW Unit) (hn : n < 1000000) (hx : (Lit.int .i64 x).wf = true) (hy : (Lit.int .i64 y).wf = true) (hB : Below w.heap.size w Wd) (hwB : w.heap.size ≤ B) (hcB : cb ≠ B) (hT : T + 1 < Wd.heap.size) (hBT : B < T) (hlt : cb < Wd.heap.size)
    (hc : Wd.heap[cb]? = some (.cells #[.map (some B)] 56 (0, 0))) (hown : vsOwns Wd B n D) (hD : Maps.IsMap D) :
    Calls Tryz.prog 68 #[.int .i64 k, .agg #[.int .i64 x, .int .i64 y, .bool r, .bool u], .string sd, .pointer (some ⟨cb, 0, none⟩)] Wd fun e w' =>
      e = .returned (.bool false) ∧ Below w.heap.size w w' ∧ (∃ c, D.atKey (vsKl x y) (.lit (.int .i64 0)) = .lit (.int .i64 c) ∧ vsOwns w' B (n + 1) (D.put (vsKl x y) (.lit (.int .i64 (wrap64 (c + 1)))))) ∧ w'.heap[cb]? = some (.cells #[.map (some B)] 56 (0, 0)) ∧ FwFr T Wd w' := by
  have hal := below_alloc (Below.refl _ Wd) (.cells #[.int .i64 x, .int .i64 y, .bool r, .bool u] 27 (0, 0))
  have q1 := (hal.block _ hlt).trans hc
  have c1 := (fw_cells q1 0).1
  simp at c1
  have o1 : vsOwns (Wd.alloc (.cells #[.int .i64 x, .int .i64 y, .bool r, .bool u] 27 (0, 0))).drew B n D := (hown.alloc _).drew
  obtain ⟨c, st, W2, e1, hat, e2, e3, e4⟩ := vs_count _ B n D o1 hn hx hy hD
  obtain ⟨W3, e5, e6, e7⟩ := e4 (wrap64 (c + 1)) ((vs_wf _).2 (by unfold wrap64; omega))
  have H6 := Aside0.mk e6
  have H7 := Aside0.mk e7
  have HAT := Aside0.mk hat
  have HAL := Aside0.mk hal
  have Q1 := Aside0.mk q1
  have HBB := Aside0.mk hB
  have HC := Aside0.mk (show cb ≠ B ∧ T + 1 < Wd.heap.size ∧ B < T ∧ cb < Wd.heap.size ∧ w.heap.size ≤ B from ⟨hcB, hT, hBT, hlt, hwB⟩)
  clear e4 e6 e7 hat hal q1 hB o1 hown hc hD hcB hT hBT hlt hwB hx hy
  go_enter Tryz.func68, Tryz.ntmps68
  go_wp2
  go_region
  all_goals (
    go_wp2
    go_ret
    have hc := HC.out
    have hg := H7.out
    have hz := HAL.out.size
    have e1 : ∀ i, i < Wd.heap.size → i ≠ B → W3.heap[i]? = Wd.heap[i]? := fun i hi hne => (hg.block i (Nat.lt_of_lt_of_le hi hz) (fun e => hne (by injection e))).trans (HAL.out.block i hi)
    refine ⟨rfl, ⟨hg.os.trans (HAL.out.os.trans HBB.out.os), hg.tape.trans (HAL.out.tape.trans HBB.out.tape), hg.output.trans (HAL.out.output.trans HBB.out.output), Nat.le_trans HBB.out.size (Nat.le_trans hz hg.size), fun i hi => ?_⟩, ⟨c, HAT.out, H6.out⟩, ?_, ⟨Nat.le_trans hz hg.size, ?_, ?_⟩⟩
    · have := HBB.out.size
      exact (e1 i (by omega) (by omega)).trans (HBB.out.block i hi)
    · exact (hg.block cb (Nat.lt_of_lt_of_le hc.2.2.2.1 hz) (fun e => hc.1 (by injection e))).trans Q1.out
    · exact e1 T (by omega) (by omega)
    · exact e1 (T + 1) (by omega) (by omega))
/-- What the map reads as behind k places; how often a place was passed; the places that were passed, each once. -/
def vsPt (W H : Int) (b : S27) (k : Nat) : Int × Int := ((fwSt W H b k).1.f0, (fwSt W H b k).1.f1)
def vsCnt (W H : Int) (b : S27) (q : Int × Int) : Nat → Nat
  | 0 => 0
  | k + 1 => vsCnt W H b q k + (if vsPt W H b k = q then 1 else 0)
def vsSet (W H : Int) (b : S27) : Nat → List (Int × Int)
  | 0 => []
  | k + 1 => if vsPt W H b k ∈ vsSet W H b k then vsSet W H b k else vsPt W H b k :: vsSet W H b k
def vsD (W H : Int) (b : S27) : Nat → DataW Unit
  | 0 => .map []
  | k + 1 => (vsD W H b k).put (vsKl (vsPt W H b k).1 (vsPt W H b k).2) (.lit (.int .i64 ((vsCnt W H b (vsPt W H b k) (k + 1) : Nat) : Int)))
theorem vsCnt_le (W H : Int) (b : S27) (q : Int × Int) : ∀ k, vsCnt W H b q k ≤ k
  | 0 => Nat.le_refl _
  | k + 1 => by
    have := vsCnt_le W H b q k
    simp only [vsCnt]
    split <;> omega
theorem vsKl_inj {x y x' y' : Int} (hx : (Lit.int .i64 x).wf = true) (hy : (Lit.int .i64 y).wf = true) (hx' : (Lit.int .i64 x').wf = true) (hy' : (Lit.int .i64 y').wf = true) (h : vsKl x y = vsKl x' y') : x = x' ∧ y = y' := by
  have e := vs_keyed.inj (vs_key hx hy) (h ▸ vs_key hx' hy')
  injection e with e
  have := congrArg Array.toList e
  simp at this
  exact this
structure VsWf (W H : Int) (b : S27) (n : Nat) : Prop where
  x : ∀ k, k ≤ n → (Lit.int .i64 (vsPt W H b k).1).wf = true
  y : ∀ k, k ≤ n → (Lit.int .i64 (vsPt W H b k).2).wf = true
def vsGood (q : Int × Int) : Prop := (Lit.int .i64 q.1).wf = true ∧ (Lit.int .i64 q.2).wf = true
theorem vsKl_ne {p q : Int × Int} (hp : vsGood p) (hq : vsGood q) (h : p ≠ q) : vsKl p.1 p.2 ≠ vsKl q.1 q.2 := fun e => h (by
  have := vsKl_inj hp.1 hp.2 hq.1 hq.2 e
  exact Prod.ext this.1 this.2)
theorem vsKl_lit {p : Int × Int} (hp : vsGood p) : WideAt.IsKeyLit (vsKl p.1 p.2) := vs_keyed.key (vs_key hp.1 hp.2)
/-- All that is known of the map. -/
structure VsIs (W H : Int) (b : S27) (k : Nat) (D : DataW Unit) : Prop where
  tidy : Maps.Tidy D
  at_ : ∀ q, vsGood q → D.atKey (vsKl q.1 q.2) (.lit (.int .i64 0)) = .lit (.int .i64 ((vsCnt W H b q k : Nat) : Int))
  has : ∀ q, vsGood q → Maps.has D (vsKl q.1 q.2) = decide (q ∈ vsSet W H b k)
  size : Maps.size D = (vsSet W H b k).length
theorem vsIs (W H : Int) (b : S27) (n : Nat) (hg : ∀ k, k < n → vsGood (vsPt W H b k)) : ∀ k, k ≤ n → VsIs W H b k (vsD W H b k) := by
  intro k
  induction k with
  | zero => intro _; exact ⟨Maps.tidy_empty, fun q _ => rfl, fun q _ => by simp [vsD, vsSet, Maps.has], rfl⟩
  | succ k ih =>
    intro hk
    have h := ih (by omega)
    have hp := hg k (by omega)
    refine ⟨h.tidy.put (vsKl_lit hp) _, fun q hq => ?_, fun q hq => ?_, ?_⟩
    · by_cases c : vsPt W H b k = q
      · subst c
        simp only [vsD]
        rw [Maps.atKey_put_same h.tidy.isMap (vsKl_lit hp)]
      · simp only [vsD]
        rw [Maps.atKey_put_other (vsKl_ne hq hp (fun e => c e.symm)), h.at_ q hq]
        simp [vsCnt, c]
    · by_cases c : vsPt W H b k = q
      · subst c
        simp only [vsD]
        rw [Maps.has_put_same h.tidy.isMap (vsKl_lit hp)]
        simp only [vsSet]
        split <;> simp [*]
      · simp only [vsD]
        rw [Maps.has_put_other (vsKl_ne hq hp (fun e => c e.symm)), h.has q hq]
        simp only [vsSet]
        split
        · rfl
        · simp [show q ≠ vsPt W H b k from fun e => c e.symm]
    · simp only [vsD]
      rw [Maps.size_put h.tidy, h.has _ hp, h.size]
      simp only [vsSet]
      by_cases c : vsPt W H b k ∈ vsSet W H b k <;> simp [c]
structure VsI (W H : Int) (b : S27) (T cb B : Nat) (w : World) (k : Nat) (wr : World) : Prop where
  below : Below w.heap.size w wr
  lt : T ≤ wr.heap.size
  cell : wr.heap[cb]? = some (.cells #[.map (some B)] 56 (0, 0))
  own : k ≤ 1000000 → vsOwns wr B k (vsD W H b k)
theorem vs_way (W H x y : Int) (r u : Bool) (steps : Int) (h0 : 0 ≤ steps) (h1 : steps ≤ 100000) (hg : ∀ k, vsGood (vsPt W H ⟨x, y, r, u⟩ k)) (cb B : Nat) (w wb : World) (hB : Below w.heap.size w wb) (hwc : w.heap.size ≤ cb) (hwB : w.heap.size ≤ B) (hcB : cb ≠ B) (hlt : cb < wb.heap.size) (hltB : B < wb.heap.size) (hc : wb.heap[cb]? = some (.cells #[.map (some B)] 56 (0, 0))) (hown : vsOwns wb B 0 (.map [])) :
    Calls Tryz.prog 41 #[.agg #[.int .i64 W, .int .i64 H], .agg #[.int .i64 x, .int .i64 y, .bool r, .bool u], .int .i64 steps, .func (.func 68) #[] #[.pointer (some ⟨cb, 0, none⟩)]] wb fun e w' =>
      e = .returned (.tuple #[]) ∧ VsI W H ⟨x, y, r, u⟩ wb.heap.size cb B w (fwN W H ⟨x, y, r, u⟩ steps (fun _ => false) + 1) w' := by
  obtain ⟨n1, n2, n3⟩ := fwN_is W H ⟨x, y, r, u⟩ steps (fun _ => false) h0
  refine impl_follow.calls W H x y r u steps 68 #[.pointer (some ⟨cb, 0, none⟩)] (fw_enters Tryz.func68 kr rfl) (VsI W H ⟨x, y, r, u⟩ wb.heap.size cb B w) (fun _ => false) (fwN W H ⟨x, y, r, u⟩ steps (fun _ => false)) wb (by omega) n3 n2 ⟨hB, Nat.le_refl _, hc, fun _ => hown⟩ ?_ ?_
  · intro k W1 W2 hI hm
    have hl := hI.lt
    refine ⟨⟨hm.os.trans hI.below.os, hm.tape.trans hI.below.tape, hm.output.trans hI.below.output, Nat.le_trans hI.below.size hm.size, fun i hi => ?_⟩, Nat.le_trans hl hm.size, (hm.block cb (by omega) (by omega)).trans hI.cell, fun hk => vs_block (hI.own hk) (hm.block B (by omega) (by omega))⟩
    have := hI.below.size
    exact (hm.block i (by omega) (by omega)).trans (hI.below.block i hi)
  · intro k Wd hk hz hI
    have his := vsIs W H ⟨x, y, r, u⟩ k (fun j _ => hg j) k (Nat.le_refl _)
    refine (vs_one cb wb.heap.size B (k : Int) _ _ _ _ _ w Wd k (vsD W H ⟨x, y, r, u⟩ k) (by omega) (hg k).1 (hg k).2 hI.below hwB hcB hz (by omega) (by omega) hI.cell (hI.own (by omega)) his.tidy.isMap).mono ?_
    rintro e w2 ⟨rfl, hb2, ⟨c, hc1, hc2⟩, hcell, hf⟩
    refine ⟨rfl, ⟨hb2, Nat.le_trans hI.lt hf.size, hcell, fun _ => ?_⟩, hf⟩
    have ha := his.at_ _ (hg k)
    have hcc : c = ((vsCnt W H ⟨x, y, r, u⟩ (vsPt W H ⟨x, y, r, u⟩ k) k : Nat) : Int) := by
      have e2 := hc1.symm.trans ha
      injection e2 with e2
      injection e2
    have hle := vsCnt_le W H ⟨x, y, r, u⟩ (vsPt W H ⟨x, y, r, u⟩ k) k
    have ew : wrap64 (c + 1) = ((vsCnt W H ⟨x, y, r, u⟩ (vsPt W H ⟨x, y, r, u⟩ k) (k + 1) : Nat) : Int) := by
      have : vsCnt W H ⟨x, y, r, u⟩ (vsPt W H ⟨x, y, r, u⟩ k) (k + 1) = vsCnt W H ⟨x, y, r, u⟩ (vsPt W H ⟨x, y, r, u⟩ k) k + 1 := by simp [vsCnt]
      unfold wrap64
      omega
    rw [ew] at hc2
    exact hc2
theorem vs_bounds {W H : Int} (h : (1 ≤ W ∧ W ≤ 60) ∧ 1 ≤ H ∧ H ≤ 60) : 0 ≤ 2 * W * H ∧ 2 * W * H ≤ 7200 ∧ wrap64 (wrap64 (2 * W) * H) = 2 * W * H := by
  have e1 : wrap64 (2 * W) = 2 * W := by unfold wrap64; omega
  have h1 : (2 * W * H).natAbs ≤ 120 * 60 := by rw [Int.natAbs_mul]; exact Nat.mul_le_mul (by omega) (by omega)
  have h2 : 0 ≤ 2 * W * H := Int.mul_nonneg (by omega) (by omega)
  refine ⟨h2, by omega, ?_⟩
  rw [e1]
  unfold wrap64
  omega
def vsN (W H : Int) (b : S27) : Nat := fwN W H b (2 * W * H) (fun _ => false)
set_option maxHeartbeats 8000000 in
set_option maxRecDepth 100000 in
theorem impl_visits.gives (a0_0 : Int) (a0_1 : Int) (a1_0 : Int) (a1_1 : Int) (a1_2 : Bool) (a1_3 : Bool) (w : World) (hh : (1 ≤ a0_0 ∧ a0_0 ≤ 60) ∧ 1 ≤ a0_1 ∧ a0_1 ≤ 60) (hg : ∀ k, vsGood (vsPt a0_0 a0_1 ⟨a1_0, a1_1, a1_2, a1_3⟩ k)) :
    Calls Tryz.prog 36 #[.agg #[.int .i64 a0_0, .int .i64 a0_1], .agg #[.int .i64 a1_0, .int .i64 a1_1, .bool a1_2, .bool a1_3]] w fun e w' =>
      e = .returned (.map (some (w.heap.size + 2))) ∧ vsOwns w' (w.heap.size + 2) (vsN a0_0 a0_1 ⟨a1_0, a1_1, a1_2, a1_3⟩ + 1) (vsD a0_0 a0_1 ⟨a1_0, a1_1, a1_2, a1_3⟩ (vsN a0_0 a0_1 ⟨a1_0, a1_1, a1_2, a1_3⟩ + 1)) ∧ Below w.heap.size w w' := by
 have hb := vs_bounds hh
 have HH := Aside0.mk hh
 have HG := Aside0.mk hg
 have HA : Aside0 (impl_around.f a0_0 a0_1 = some (2 * a0_0 * a0_1)) := ⟨by unfold impl_around.f; rw [hb.2.2]⟩
 clear hh hb hg
 have hmm := @run_makeMap Tryz.prog
 go_enter Tryz.func36, Tryz.ntmps36
 go_wp2_with fail
 obtain ⟨p1, p2, p3, a3⟩ := fw_three w (.cells #[.int .i64 a0_0, .int .i64 a0_1] 25 (0, 0)) (.cells #[.int .i64 a1_0, .int .i64 a1_1, .bool a1_2, .bool a1_3] 27 (0, 0)) (.map #[] 0)
 have m0 := World.ownsMap_made (H := Unit) ((w.alloc (.cells #[.int .i64 a0_0, .int .i64 a0_1] 25 (0, 0))).alloc (.cells #[.int .i64 a1_0, .int .i64 a1_1, .bool a1_2, .bool a1_3] 27 (0, 0))) Tryz.prog 58 (plainElem Tryz.prog 3)
 rw [(fw_two w (.cells #[.int .i64 a0_0, .int .i64 a0_1] 25 (0, 0)) (.cells #[.int .i64 a1_0, .int .i64 a1_1, .bool a1_2, .bool a1_3] 27 (0, 0))).2.2] at m0
 have ha := below_alloc (Below.refl _ (((w.alloc (.cells #[.int .i64 a0_0, .int .i64 a0_1] 25 (0, 0))).alloc (.cells #[.int .i64 a1_0, .int .i64 a1_1, .bool a1_2, .bool a1_3] 27 (0, 0))).alloc (.map #[] 0))) (.cells #[.map (some (w.heap.size + 1 + 1))] 56 (0, 0))
 have k4 := (MapKept.heap_alloc (((w.alloc (.cells #[.int .i64 a0_0, .int .i64 a0_1] 25 (0, 0))).alloc (.cells #[.int .i64 a1_0, .int .i64 a1_1, .bool a1_2, .bool a1_3] 27 (0, 0))).alloc (.map #[] 0)) (.cells #[.map (some (w.heap.size + 1 + 1))] 56 (0, 0))).1
 rw [a3] at ha k4
 have HB := Aside0.mk (below_alloc (below_alloc (below_alloc (below_alloc (Below.refl _ w) (.cells #[.int .i64 a0_0, .int .i64 a0_1] 25 (0, 0))) (.cells #[.int .i64 a1_0, .int .i64 a1_1, .bool a1_2, .bool a1_3] 27 (0, 0))) (.map #[] 0)) (.cells #[.map (some (w.heap.size + 1 + 1))] 56 (0, 0)))
 have a0 : ((((w.alloc (.cells #[.int .i64 a0_0, .int .i64 a0_1] 25 (0, 0))).alloc (.cells #[.int .i64 a1_0, .int .i64 a1_1, .bool a1_2, .bool a1_3] 27 (0, 0))).alloc (.map #[] 0)).alloc (.cells #[.map (some (w.heap.size + 1 + 1))] 56 (0, 0))).heap.size = w.heap.size + 4 := by simp
 have a8 := Tryz.underlying25
 have a9 := Tryz.underlying27
 have m1 : vsOwns ((((w.alloc (.cells #[.int .i64 a0_0, .int .i64 a0_1] 25 (0, 0))).alloc (.cells #[.int .i64 a1_0, .int .i64 a1_1, .bool a1_2, .bool a1_3] 27 (0, 0))).alloc (.map #[] 0)).alloc (.cells #[.map (some (w.heap.size + 1 + 1))] 56 (0, 0))) (w.heap.size + 2) 0 (.map []) := m0.alloc _
 have g1 := (ha.block w.heap.size (by omega)).trans p1
 have g2 := (ha.block (w.heap.size + 1) (by omega)).trans p2
 obtain ⟨w5, a4⟩ : ∃ w5, w5 = ((((w.alloc (.cells #[.int .i64 a0_0, .int .i64 a0_1] 25 (0, 0))).alloc (.cells #[.int .i64 a1_0, .int .i64 a1_1, .bool a1_2, .bool a1_3] 27 (0, 0))).alloc (.map #[] 0)).alloc (.cells #[.map (some (w.heap.size + 1 + 1))] 56 (0, 0))) := ⟨_, rfl⟩
 rw [← a4] at m1 HB k4 a0 g1 g2 ⊢
 clear a4 m0 ha p1 p2 p3 a3
 have HD : Aside0 (w5.drew.heap[w.heap.size]? = some (.cells #[.int .i64 a0_0, .int .i64 a0_1] 25 (0, 0)) ∧ w5.drew.heap[w.heap.size + 1]? = some (.cells #[.int .i64 a1_0, .int .i64 a1_1, .bool a1_2, .bool a1_3] 27 (0, 0)) ∧ w5.drew.heap[w.heap.size + 3]? = some (.cells #[.map (some (w.heap.size + 2))] 56 (0, 0)) ∧ w5.drew.heap.size = w.heap.size + 4 ∧ vsOwns w5.drew (w.heap.size + 2) 0 (.map [])) := ⟨g1, g2, k4, a0, m1.drew⟩
 have HBD := Aside0.mk (below_step HB.out (below_drew (Below.refl _ w5)))
 clear HB g1 g2 k4 a0 m1
 have C1 := (fw_cells HD.out.1)
 have C2 := (fw_cells HD.out.2.1)
 refine st0_ 6 [q 4 11, qt 0 7, qt 1 8, qt 2 9, qo 3 10, qo 5 12] (S := fun w' => w'.cell? ⟨w.heap.size, 0, none⟩ = some (.int .i64 a0_0) ∧ w'.cell? ⟨w.heap.size, 1, none⟩ = some (.int .i64 a0_1) ∧ w'.cell? ⟨w.heap.size + 1, 0, none⟩ = some (.int .i64 a1_0) ∧ w'.cell? ⟨w.heap.size + 1, 1, none⟩ = some (.int .i64 a1_1) ∧ w'.cell? ⟨w.heap.size + 1, 2, none⟩ = some (.bool a1_2) ∧ w'.cell? ⟨w.heap.size + 1, 3, none⟩ = some (.bool a1_3)) (ds := [5]) ⟨(C1 0).1, (C1 1).1, (C2 0).1, (C2 1).1, (C2 2).1, (C2 3).1⟩ (fun hHeld HT_ HW_ => ?_)
 clear C1 C2
 generalize w5.drew = a5 at HD HBD hHeld ⊢
 iterate 4 (first | refine pA HT_ ?_ | refine pU HT_ hHeld ?_)
 refine pO HT_ fun K hK => ?_
 refine goes_ Tryz.func62 kr rfl #[.agg #[.int .i64 a0_0, .int .i64 a0_1]] (by rfl) rfl rfl sM ?_
 with_reducible refine (impl_around.calls a0_0 a0_1 (2 * a0_0 * a0_1) _ HA.out).mono ?_
 rintro e a1 ⟨rfl, hb⟩
 refine ⟨_, rfl, ?_⟩
 have hz : w.heap.size + 3 < a5.heap.size := by rw [HD.out.2.2.2.1]; omega
 have q1 := (hb.block w.heap.size (by omega)).trans HD.out.1
 have q2 := (hb.block (w.heap.size + 1) (by omega)).trans HD.out.2.1
 have q4 := (hb.block (w.heap.size + 3) (by omega)).trans HD.out.2.2.1
 have q5 : vsOwns a1 (w.heap.size + 2) 0 (.map []) := vs_block HD.out.2.2.2.2 (hb.block (w.heap.size + 2) (by omega))
 have a6 : w.heap.size + 3 < a1.heap.size := Nat.lt_of_lt_of_le hz hb.size
 have hbb := vs_bounds HH.out
 have a2 := Aside0.mk (below_step HBD.out hb)
 have HWAY := Aside0.mk (vs_way a0_0 a0_1 a1_0 a1_1 a1_2 a1_3 (2 * a0_0 * a0_1) hbb.1 (by omega) HG.out (w.heap.size + 3) (w.heap.size + 2) w a1 a2.out (by omega) (by omega) (by omega) a6 (by omega) q4 q5)
 refine hK.out _ _ ⟨(fw_cells q1 0).1, (fw_cells q1 1).1, (fw_cells q2 0).1, (fw_cells q2 1).1, (fw_cells q2 2).1, (fw_cells q2 3).1⟩ (fun hHeld => ?_)
 clear hK K q1 q2 q4 q5 HD HBD hb hbb
 refine nP ?_
 refine pL HT_ fun K hK => ?_
 refine goes_ Tryz.func41 kr rfl #[.agg #[.int .i64 a0_0, .int .i64 a0_1], .agg #[.int .i64 a1_0, .int .i64 a1_1, .bool a1_2, .bool a1_3], .int .i64 (2 * a0_0 * a0_1), .func (.func 68) #[] #[.pointer (some ⟨w.heap.size + 3, 0, none⟩)]] (by rfl) rfl rfl sM ?_
 refine HWAY.out.mono ?_
 rintro e a7 ⟨rfl, hI⟩
 refine ⟨_, rfl, ?_⟩
 have c1 : a7.cell? ⟨w.heap.size + 1 + 1 + 1, 0, none⟩ = some (.map (some (w.heap.size + 2))) := (fw_cells hI.cell 0).1
 have hle : vsN a0_0 a0_1 ⟨a1_0, a1_1, a1_2, a1_3⟩ + 1 ≤ 1000000 := by
  have hbb := vs_bounds HH.out
  have := (fwN_is a0_0 a0_1 ⟨a1_0, a1_1, a1_2, a1_3⟩ (2 * a0_0 * a0_1) (fun _ => false) hbb.1).1
  unfold vsN
  omega
 have HE := Aside0.mk (And.intro (hI.own hle) hI.below)
 refine hK.out _ _ ?_
 clear hK K hI HWAY a2 hHeld hle
 refine pD HT_ ?_
 go_wp2_with fail
 go_ret
 exact ⟨rfl, HE.out.1, HE.out.2⟩
abbrev VsOk (W H x y : Int) : Prop := ((1 ≤ W ∧ W ≤ 60) ∧ 1 ≤ H ∧ H ≤ 60) ∧ (0 ≤ x ∧ x ≤ W) ∧ 0 ≤ y ∧ y ≤ H
theorem vs_inw (W H x y : Int) (r u : Bool) : (fwInw W H ⟨x, y, r, u⟩).f0 = x ∧ (fwInw W H ⟨x, y, r, u⟩).f1 = y := by
  have h := fwInw_eq W H x y r u
  unfold impl_inward.f at h
  (repeat' split at h) <;> (simp only [Option.some.injEq, Prod.mk.injEq] at h; exact ⟨h.1.symm, h.2.1.symm⟩)
theorem vs_next (W H : Int) (s : S27) : ∃ a c, (fwNext W H s).1.f0 = wrap64 a ∧ (fwNext W H s).1.f1 = wrap64 c := by
  obtain ⟨x, y, r, u⟩ := s
  have h := fwNext_eq W H x y r u
  have s1 : ∀ q, ∃ z, impl_sign.f q = some z := fun q => by unfold impl_sign.f; split <;> exact ⟨_, rfl⟩
  obtain ⟨a, ha⟩ := s1 r
  obtain ⟨c, hc⟩ := s1 u
  unfold impl_next.f at h
  rw [ha, hc] at h
  simp only [Option.bind_some, fwCor_eq, fwInw_eq, (vs_inw _ _ _ _ _ _).1, (vs_inw _ _ _ _ _ _).2] at h
  (repeat' split at h) <;> (simp only [Option.some.injEq, Prod.mk.injEq] at h; exact ⟨_, _, h.1.symm, h.2.1.symm⟩)
theorem vs_wfw (a : Int) : (Lit.int .i64 (wrap64 a)).wf = true := (vs_wf _).2 (by unfold wrap64; omega)
theorem vs_good {W H x y : Int} (r u : Bool) (t : VsOk W H x y) : ∀ k, vsGood (vsPt W H ⟨x, y, r, u⟩ k)
  | 0 => by
    unfold vsPt vsGood
    simp only [fwSt, (vs_inw _ _ _ _ _ _).1, (vs_inw _ _ _ _ _ _).2]
    exact ⟨(vs_wf _).2 (by omega), (vs_wf _).2 (by omega)⟩
  | k + 1 => by
    obtain ⟨a, c, e1, e2⟩ := vs_next W H (fwSt W H ⟨x, y, r, u⟩ k).1
    unfold vsPt vsGood
    show (Lit.int .i64 (fwNext W H (fwSt W H ⟨x, y, r, u⟩ k).1).1.f0).wf = true ∧ (Lit.int .i64 (fwNext W H (fwSt W H ⟨x, y, r, u⟩ k).1).1.f1).wf = true
    rw [e1, e2]
    exact ⟨vs_wfw _, vs_wfw _⟩

/-! ### impl_CountCrossings: function 12 -/
theorem cc_eqA (d : Nat) (w : World) (x0 x1 y0 y1 : Int) :
    (Op.equalIn (d + 2) 58 (.agg #[.int .i64 x0, .int .i64 x1]) (.agg #[.int .i64 y0, .int .i64 y1])).run Tryz.prog w = .ok (x0 == y0 && x1 == y1) w := by
  have hi : ∃ i, Tryz.prog.info? 3 = some i := Option.isSome_iff_exists.1 (show (Tryz.prog.info? 3).isSome = true by kernel_rfl)
  obtain ⟨i, hi⟩ := hi
  have c3 : Tryz.prog.cellsOf 3 = 1 := by kernel_rfl
  rw [run_equalIn_array (P := Tryz.prog) (w := w) (d + 1) _ _ Tryz.underlying58 hi, c3]
  simp only [List.range_succ, List.range_zero, List.nil_append, List.cons_append, Op.eqItems]
  have p0 : ∀ (a b : Value) W, (part 3 #[a, b] (0 * 1)).run Tryz.prog W = .ok a W := fun a b W => by go_simp
  have p1 : ∀ (a b : Value) W, (part 3 #[a, b] (1 * 1)).run Tryz.prog W = .ok b W := fun a b W => by go_simp
  have e : ∀ (a b : Int) W, (Op.equalIn (d + 1) 3 (.int .i64 a) (.int .i64 b)).run Tryz.prog W = .ok (a == b) W := fun a b W => by go_simp
  simp only [Sem.run_bind, p0, p1, e, Result.andThen_ok]
  cases h0 : (x0 == y0) <;> cases h1 : (x1 == y1) <;> simp [show ∀ (a b : Value) W, (part 3 #[a, b] 1).run Tryz.prog W = .ok b W from p1, e, h0, h1, Result.andThen]
attribute [local go_sem high] cc_eqA
/-- Which places count as crossings. -/
def ccIn (W H : Int) (q : Int × Int) : Bool := (impl_within.f q.1 1 (wrap64 (W - 1))).getD false && (impl_within.f q.2 1 (wrap64 (H - 1))).getD false
def ccP (W H x y : Int) (c : Int × Int → Nat) (q : Int × Int) : Bool := (decide (2 ≤ (c q : Int)) && ccIn W H q) && !(q.1 == x && q.2 == y)
theorem cc_within (a b c : Int) : impl_within.f a b c = some ((impl_within.f a b c).getD false) := by
  have t : ∃ z, impl_within.f a b c = some z := by unfold impl_within.f; split <;> exact ⟨_, rfl⟩
  obtain ⟨z, hz⟩ := t
  rw [hz]
  rfl
def ccN (W H x y : Int) (r u : Bool) : Nat := vsN W H ⟨x, y, r, u⟩ + 1
def ccL (W H x y : Int) (r u : Bool) : List (Int × Int) := (vsSet W H ⟨x, y, r, u⟩ (ccN W H x y r u)).filter (ccP W H x y (fun q => vsCnt W H ⟨x, y, r, u⟩ q (ccN W H x y r u)))
def impl_CountCrossings.f (a0_0 : Int) (a0_1 : Int) (a1_0 : Int) (a1_1 : Int) (a1_2 : Bool) (a1_3 : Bool) : Option (Int × Bool) :=
  (impl_toCorner.f a0_0 a0_1 a1_0 a1_1 a1_2 a1_3).bind fun t => if t.2.2.2.2.2.2 = true then (if VsOk a0_0 a0_1 a1_0 a1_1 then some (((ccL a0_0 a0_1 a1_0 a1_1 a1_2 a1_3).length : Nat), true) else none) else some (0, false)
theorem vsSet_nodup (W H : Int) (b : S27) : ∀ k, (vsSet W H b k).Nodup
  | 0 => List.nodup_nil
  | k + 1 => by
    simp only [vsSet]
    split
    · exact vsSet_nodup W H b k
    · rename_i h
      exact List.nodup_cons.2 ⟨h, vsSet_nodup W H b k⟩
/-- One key more has been met. -/
theorem cc_step {L : List (Int × Int)} (hn : L.Nodup) {P l : Int × Int → Bool} {q : Int × Int} (hq : q ∈ L) (hl : l q = true) : (L.filter (fun z => P z && !(l z && !decide (z = q)))).length = (L.filter (fun z => P z && !l z)).length + (if P q = true then 1 else 0) := by
  induction L with
  | nil => cases hq
  | cons a L ih =>
    obtain ⟨h1, h2⟩ := List.nodup_cons.1 hn
    rw [List.filter_cons, List.filter_cons]
    rcases List.mem_cons.1 hq with rfl | hq
    · have e : L.filter (fun z => P z && !(l z && !decide (z = q))) = L.filter (fun z => P z && !l z) := by
        refine List.filter_congr (fun z hz => ?_)
        have : z ≠ q := fun e => h1 (e ▸ hz)
        simp [this]
      rw [e, hl]
      simp only [decide_true, Bool.not_true, Bool.and_false, Bool.not_false, Bool.and_true, Bool.false_eq_true, if_false]
      split <;> simp
    · have ha : a ≠ q := fun e => h1 (e ▸ hq)
      have ih := ih h2 hq
      simp only [ha, decide_false, Bool.not_false, Bool.and_true]
      split
      · simp only [List.length_cons]
        omega
      · exact ih
theorem cc_good {W H x y : Int} (r u : Bool) (t : VsOk W H x y) : ∀ k, ∀ q, q ∈ vsSet W H ⟨x, y, r, u⟩ k → vsGood q
  | 0, q, hq => by cases hq
  | k + 1, q, hq => by
    simp only [vsSet] at hq
    split at hq
    · exact cc_good r u t k q hq
    · rcases List.mem_cons.1 hq with rfl | hq
      · exact vs_good r u t k
      · exact cc_good r u t k q hq
theorem cc_start {W H x y : Int} (r u : Bool) (t : VsOk W H x y) (k : Nat) (P : Int × Int → Bool) : (vsSet W H ⟨x, y, r, u⟩ k).filter (fun q => P q && !Maps.has (vsD W H ⟨x, y, r, u⟩ k) (vsKl q.1 q.2)) = [] := by
  refine List.filter_eq_nil_iff.2 (fun q hq => ?_)
  rw [(vsIs W H ⟨x, y, r, u⟩ k (fun j _ => vs_good r u t j) k (Nat.le_refl _)).has q (cc_good r u t k q hq), decide_eq_true hq]
  simp
set_option maxHeartbeats 8000000 in
set_option maxRecDepth 100000 in
theorem impl_CountCrossings.calls (a0_0 : Int) (a0_1 : Int) (a1_0 : Int) (a1_1 : Int) (a1_2 : Bool) (a1_3 : Bool) (r1 : Int) (r2 : Bool) (w : World) (h : impl_CountCrossings.f a0_0 a0_1 a1_0 a1_1 a1_2 a1_3 = some (r1, r2)) :
    Calls Tryz.prog 12 #[.agg #[.int .i64 a0_0, .int .i64 a0_1], .agg #[.int .i64 a1_0, .int .i64 a1_1, .bool a1_2, .bool a1_3]] w fun e w' => e = .returned (.tuple #[.int .i64 r1, .bool r2]) ∧ Below w.heap.size w w' := by
 unfold impl_CountCrossings.f at h
 obtain ⟨⟨z1, z2, z3, z4, z5, z6, z7⟩, hT, h⟩ := Option.bind_eq_some_iff.mp h
 have HT := Aside0.mk hT
 have H := Aside0.mk (show (if z7 = true then (if VsOk a0_0 a0_1 a1_0 a1_1 then some ((((ccL a0_0 a0_1 a1_0 a1_1 a1_2 a1_3).length : Nat) : Int), true) else none) else some (0, false)) = some (r1, r2) from h)
 obtain ⟨p1, p2, ps⟩ := fw_two w (.cells #[.int .i64 a0_0, .int .i64 a0_1] 25 (0, 0)) (.cells #[.int .i64 a1_0, .int .i64 a1_1, .bool a1_2, .bool a1_3] 27 (0, 0))
 have c5 := Aside0.mk (below_alloc (below_alloc (Below.refl _ w) (.cells #[.int .i64 a0_0, .int .i64 a0_1] 25 (0, 0))) (.cells #[.int .i64 a1_0, .int .i64 a1_1, .bool a1_2, .bool a1_3] 27 (0, 0)))
 have P := Aside0.mk (And.intro p1 (And.intro p2 ps))
 clear p1 p2 ps hT h
 go_enter Tryz.func12, Tryz.ntmps12
 go_wp2_with fail
 with_reducible refine (impl_toCorner.calls a0_0 a0_1 a1_0 a1_1 a1_2 a1_3 z1 z2 z3 z4 z5 z6 z7 _ HT.out).mono ?_
 rintro e w1 ⟨rfl, a4⟩
 have z : w.heap.size + 1 < w1.heap.size := Nat.lt_of_lt_of_le (by rw [P.out.2.2]; omega) a4.size
 have hal := below_alloc (Below.refl _ w1) (.cells #[.int .i64 z2, .int .i64 z3, .bool z4, .bool z5] 27 (0, 0))
 have q1 := (hal.block w.heap.size (by omega)).trans ((a4.block w.heap.size (by rw [P.out.2.2]; omega)).trans P.out.1)
 have q2 := (hal.block (w.heap.size + 1) (by omega)).trans ((a4.block (w.heap.size + 1) (by rw [P.out.2.2]; omega)).trans P.out.2.1)
 have a6 := Aside0.mk (below_step c5.out (below_step a4 hal))
 have HZ : Aside0 (w.heap.size + 1 < (w1.alloc (.cells #[.int .i64 z2, .int .i64 z3, .bool z4, .bool z5] 27 (0, 0))).heap.size) := ⟨Nat.lt_of_lt_of_le z hal.size⟩
 have t0 := (fw_cells q1 0).1
 have t1 := (fw_cells q1 1).1
 have b0 := (fw_cells q2 0).1
 have b1 := (fw_cells q2 1).1
 have b2 := (fw_cells q2 2).1
 have b3 := (fw_cells q2 3).1
 simp at t0 t1 b0 b1 b2 b3
 have HQ := Aside0.mk (And.intro q1 q2)
 clear a4 z hal q1 q2 P c5
 cases z7 with
 | false =>
  have h := H.out
  rw [if_neg (by decide)] at h
  simp only [Option.some.injEq, Prod.mk.injEq] at h
  obtain ⟨rfl, rfl⟩ := h
  go_wp2_with fail
  go_ret2
  exact ⟨rfl, a6.out⟩
 | true =>
  have h := H.out
  rw [if_pos rfl] at h
  by_cases hv : VsOk a0_0 a0_1 a1_0 a1_1
  case neg => rw [if_neg hv] at h; cases h
  rw [if_pos hv] at h
  simp only [Option.some.injEq, Prod.mk.injEq] at h
  obtain ⟨rfl, rfl⟩ := h
  have HV := Aside0.mk hv
  clear hv H
  go_wp2_with fail
  clear h
  generalize w1.alloc (.cells #[.int .i64 z2, .int .i64 z3, .bool z4, .bool z5] 27 (0, 0)) = wA at a6 HZ t0 t1 b0 b1 b2 b3 HQ ⊢
  refine (impl_visits.gives a0_0 a0_1 a1_0 a1_1 a1_2 a1_3 wA HV.out.1 (vs_good a1_2 a1_3 HV.out)).mono ?_
  rintro e w2 ⟨rfl, hown, a5⟩
  have HO := Aside0.mk hown
  have q1 := (a5.block w.heap.size (by have := HZ.out; omega)).trans HQ.out.1
  have q2 := (a5.block (w.heap.size + 1) HZ.out).trans HQ.out.2
  have c6 := Aside0.mk (And.intro q1 q2)
  have a3 := Aside0.mk (below_step a6.out a5)
  have a0 := Aside0.mk (Nat.lt_of_lt_of_le HZ.out a5.size)
  have HZA := Aside0.mk (show w.heap.size ≤ wA.heap.size from by have := HZ.out; omega)
  clear hown a5 q1 q2 t0 t1 b0 b1 b2 b3 HQ a6 HZ
  go_wp2_with (first | (at_range; refine wpList_range_own _ rfl _ 56 rfl 58 3 vs_keyed Tryz.underlying56 (plainElem Tryz.prog 3) _ _ _ rfl HO.out ?_; intro w3 c8 a2 d4))
  go_frame
  go_loopw [10] (fun d0 wr => ∃ (left : Lit → Bool) (cnt : Nat), d0 = .int .i64 (((vsSet a0_0 a0_1 ⟨a1_0, a1_1, a1_2, a1_3⟩ (ccN a0_0 a0_1 a1_0 a1_1 a1_2 a1_3)).filter (fun q => ccP a0_0 a0_1 a1_0 a1_1 (fun q => vsCnt a0_0 a0_1 ⟨a1_0, a1_1, a1_2, a1_3⟩ q (ccN a0_0 a0_1 a1_0 a1_1 a1_2 a1_3)) q && !left (vsKl q.1 q.2))).length : Nat) ∧ wr.ranges Tryz.prog 58 (plainElem (H := Unit) Tryz.prog 3) (wA.heap.size + 2) w2.heap.size (vsN a0_0 a0_1 ⟨a1_0, a1_1, a1_2, a1_3⟩ + 1) (vsD a0_0 a0_1 ⟨a1_0, a1_1, a1_2, a1_3⟩ (ccN a0_0 a0_1 a1_0 a1_1 a1_2 a1_3)) left cnt ∧ Aside0 (Below w.heap.size w wr) ∧ Aside0 (wr.heap[w.heap.size]? = some (.cells #[.int .i64 a0_0, .int .i64 a0_1] 25 (0, 0)) ∧ wr.heap[w.heap.size + 1]? = some (.cells #[.int .i64 a1_0, .int .i64 a1_1, .bool a1_2, .bool a1_3] 27 (0, 0))) ∧ w2.heap.size < wr.heap.size)
   (fun _ wr => wr.rangeLeft (wA.heap.size + 2) w2.heap.size)
  case atStart => (
  refine ⟨_, _, ?_, c8, ⟨⟨a2.os.trans a3.out.os, a2.tape.trans a3.out.tape, a2.output.trans a3.out.output, Nat.le_trans a3.out.size a2.size, fun i hi => (a2.block i (Nat.lt_of_lt_of_le hi a3.out.size) (by simp)).trans (a3.out.block i hi)⟩⟩, ⟨(a2.block _ (by have := a0.out; omega) (by simp)).trans c6.out.1, (a2.block _ a0.out (by simp)).trans c6.out.2⟩, by omega⟩
  exact (congrArg (fun l : List (Int × Int) => Value.int .i64 ((l.length : Nat) : Int)) (cc_start a1_2 a1_3 HV.out (ccN a0_0 a0_1 a1_0 a1_1 a1_2 a1_3) _)).symm
  )
  case round => (
  obtain ⟨left, cnt, c9, hrg, HBr, HQr, hzr⟩ := hrel
  subst c9
  go_wp2_with (first | (at_next; refine wpList_next_ranges (α := Int × Int) (β := Int) _ rfl _ rfl 58 vs_keyed (plainElem (H := Unit) Tryz.prog 3) (fun z => .agg #[.int .i64 z.1, .int .i64 z.2]) (fun c => .int .i64 c) (fun key kl hk => by obtain ⟨z, h1, _⟩ := vs_keyInv hk; exact ⟨z, h1⟩) (fun v y hv => by obtain ⟨c, h1, _⟩ := plainElem_int_inv Tryz.underlying3 hv; exact ⟨c, h1⟩) _ _ _ _ left cnt rfl hrg ?_ ?_))
  ·(
  intro d5 d1
  go_wp2_with fail
  go_ret2
  refine ⟨?_, HBr.out⟩
  have e : (vsSet a0_0 a0_1 ⟨a1_0, a1_1, a1_2, a1_3⟩ (ccN a0_0 a0_1 a1_0 a1_1 a1_2 a1_3)).filter (fun q => ccP a0_0 a0_1 a1_0 a1_1 (fun q => vsCnt a0_0 a0_1 ⟨a1_0, a1_1, a1_2, a1_3⟩ q (ccN a0_0 a0_1 a1_0 a1_1 a1_2 a1_3)) q && !left (vsKl q.1 q.2)) = ccL a0_0 a0_1 a1_0 a1_1 a1_2 a1_3 := by
   unfold ccL
   refine List.filter_congr (fun q _ => ?_)
   rw [d1]
   simp
  rw [e]
  rfl
  )
  ·(
  intro x1 x2 c kl y1 y2 w4 b4 hkey hlk hR hat b5 hlt a7 c7 hen
  have d3 : w4.heap.size = w4.heap.size := rfl
  have g1 := (a7.block w.heap.size (by have := a0.out; omega) (by have := a0.out; simp; omega)).trans HQr.out.1
  have g2 := (a7.block (w.heap.size + 1) (by have := a0.out; omega) (by have := a0.out; simp; omega)).trans HQr.out.2
  have hal := below_alloc (Below.refl _ w4) (.cells #[.int .i64 x1, .int .i64 x2] 58 (0, 0))
  have a8 := (hal.block w.heap.size (by have := a0.out; omega)).trans g1
  have a9 := (hal.block (w.heap.size + 1) (by have := a0.out; omega)).trans g2
  have t0 := (fw_cells a8 0).1
  have t1 := (fw_cells a8 1).1
  have b0 := (fw_cells a9 0).1
  have b1 := (fw_cells a9 1).1
  simp at t0 t1 b0 b1
  have HK := Aside0.mk hkey
  have HL := Aside0.mk hlk
  have HRR := Aside0.mk hR
  have HAT := Aside0.mk hat
  have HRG := Aside0.mk b5
  have HLT := Aside0.mk hlt
  have HG := Aside0.mk a7
  have HS := Aside0.mk c7
  have b6 := Aside0.mk (And.intro a8 a9)
  have HRO := Aside0.mk hrg
  have HAL := Aside0.mk hal
  clear hkey hlk hR hat b5 hlt a7 c7 g1 g2 a8 a9 hrg hal d3
  have his := vsIs a0_0 a0_1 ⟨a1_0, a1_1, a1_2, a1_3⟩ (ccN a0_0 a0_1 a1_0 a1_1 a1_2 a1_3) (fun k _ => vs_good a1_2 a1_3 HV.out k) (ccN a0_0 a0_1 a1_0 a1_1 a1_2 a1_3) (Nat.le_refl _)
  obtain ⟨zq, ez, ekl, b7, b8⟩ := vs_keyInv HK.out
  have ex : x1 = zq.1 ∧ x2 = zq.2 := by
   injection ez with ez
   have := congrArg Array.toList ez
   simpa using this
  obtain ⟨b9, c0⟩ := ex
  rw [← b9, ← c0] at ekl
  rw [← b9] at b7
  rw [← c0] at b8
  have hgood : vsGood (x1, x2) := ⟨b7, b8⟩
  have hin : (x1, x2) ∈ vsSet a0_0 a0_1 ⟨a1_0, a1_1, a1_2, a1_3⟩ (ccN a0_0 a0_1 a1_0 a1_1 a1_2 a1_3) := by
   have h1 := Maps.has_true_of_atKey HAT.out
   rw [ekl, his.has (x1, x2) hgood] at h1
   exact of_decide_eq_true h1
  have hc : c = ((vsCnt a0_0 a0_1 ⟨a1_0, a1_1, a1_2, a1_3⟩ (x1, x2) (ccN a0_0 a0_1 a1_0 a1_1 a1_2 a1_3) : Nat) : Int) := by
   obtain ⟨c', e1, e2, _⟩ := plainElem_int_inv Tryz.underlying3 HRR.out
   injection e1 with _ e1
   have e3 := (Prod.mk.inj e2).1
   have h1 := HAT.out (.lit (.int .i64 0))
   rw [ekl, his.at_ (x1, x2) hgood, e3, ← e1] at h1
   injection h1 with h1
   injection h1 with _ h1
   exact h1.symm
  have hmem : ∀ q, q ∈ vsSet a0_0 a0_1 ⟨a1_0, a1_1, a1_2, a1_3⟩ (ccN a0_0 a0_1 a1_0 a1_1 a1_2 a1_3) → vsGood q := by
   have : ∀ k, ∀ q, q ∈ vsSet a0_0 a0_1 ⟨a1_0, a1_1, a1_2, a1_3⟩ k → vsGood q := by
    intro k
    induction k with
    | zero => intro q hq; cases hq
    | succ k ih =>
     intro q hq
     simp only [vsSet] at hq
     split at hq
     · exact ih q hq
     ·(
     rcases List.mem_cons.1 hq with rfl | hq
     · exact vs_good a1_2 a1_3 HV.out k
     · exact ih q hq
     )
   exact this _
  have hstep := cc_step (vsSet_nodup a0_0 a0_1 ⟨a1_0, a1_1, a1_2, a1_3⟩ (ccN a0_0 a0_1 a1_0 a1_1 a1_2 a1_3)) (P := ccP a0_0 a0_1 a1_0 a1_1 (fun q => vsCnt a0_0 a0_1 ⟨a1_0, a1_1, a1_2, a1_3⟩ q (ccN a0_0 a0_1 a1_0 a1_1 a1_2 a1_3))) (l := fun q => left (vsKl q.1 q.2)) hin (by rw [← ekl]; exact HL.out)
  have hnew : (((vsSet a0_0 a0_1 ⟨a1_0, a1_1, a1_2, a1_3⟩ (ccN a0_0 a0_1 a1_0 a1_1 a1_2 a1_3)).filter (fun q => ccP a0_0 a0_1 a1_0 a1_1 (fun q => vsCnt a0_0 a0_1 ⟨a1_0, a1_1, a1_2, a1_3⟩ q (ccN a0_0 a0_1 a1_0 a1_1 a1_2 a1_3)) q && !(left (vsKl q.1 q.2) && !(vsKl q.1 q.2).sameKey kl))).length : Nat) = (((vsSet a0_0 a0_1 ⟨a1_0, a1_1, a1_2, a1_3⟩ (ccN a0_0 a0_1 a1_0 a1_1 a1_2 a1_3)).filter (fun q => ccP a0_0 a0_1 a1_0 a1_1 (fun q => vsCnt a0_0 a0_1 ⟨a1_0, a1_1, a1_2, a1_3⟩ q (ccN a0_0 a0_1 a1_0 a1_1 a1_2 a1_3)) q && !left (vsKl q.1 q.2))).length : Nat) + (if ccP a0_0 a0_1 a1_0 a1_1 (fun q => vsCnt a0_0 a0_1 ⟨a1_0, a1_1, a1_2, a1_3⟩ q (ccN a0_0 a0_1 a1_0 a1_1 a1_2 a1_3)) (x1, x2) = true then 1 else 0) := by
   rw [← hstep]
   congr 1
   refine List.filter_congr (fun q hq => ?_)
   have : (vsKl q.1 q.2).sameKey kl = decide (q = (x1, x2)) := by
    rw [ekl]
    by_cases e : q = (x1, x2)
    ·(
    subst e
    rw [WideAt.sameKey_self (vsKl_lit hgood), decide_eq_true rfl]
    )
    · rw [Maps.sameKey_ne (vsKl_ne (hmem q hq) hgood e), decide_eq_false e]
   rw [this]
  have hP : ccP a0_0 a0_1 a1_0 a1_1 (fun q => vsCnt a0_0 a0_1 ⟨a1_0, a1_1, a1_2, a1_3⟩ q (ccN a0_0 a0_1 a1_0 a1_1 a1_2 a1_3)) (x1, x2) = ((decide (2 ≤ c) && ((impl_within.f x1 1 (wrap64 (a0_0 - 1))).getD false && (impl_within.f x2 1 (wrap64 (a0_1 - 1))).getD false)) && !(x1 == a1_0 && x2 == a1_1)) := by
   unfold ccP ccIn
   rw [hc]
  have hsmall : (((vsSet a0_0 a0_1 ⟨a1_0, a1_1, a1_2, a1_3⟩ (ccN a0_0 a0_1 a1_0 a1_1 a1_2 a1_3)).filter (fun q => ccP a0_0 a0_1 a1_0 a1_1 (fun q => vsCnt a0_0 a0_1 ⟨a1_0, a1_1, a1_2, a1_3⟩ q (ccN a0_0 a0_1 a1_0 a1_1 a1_2 a1_3)) q && !left (vsKl q.1 q.2))).length : Nat) ≤ 1000000 := by
   have h1 := List.length_filter_le (fun q => ccP a0_0 a0_1 a1_0 a1_1 (fun q => vsCnt a0_0 a0_1 ⟨a1_0, a1_1, a1_2, a1_3⟩ q (ccN a0_0 a0_1 a1_0 a1_1 a1_2 a1_3)) q && !left (vsKl q.1 q.2)) (vsSet a0_0 a0_1 ⟨a1_0, a1_1, a1_2, a1_3⟩ (ccN a0_0 a0_1 a1_0 a1_1 a1_2 a1_3))
   have h2 := his.size
   have h3 : ∀ k, (vsSet a0_0 a0_1 ⟨a1_0, a1_1, a1_2, a1_3⟩ k).length ≤ k := by
    intro k
    induction k with
    | zero => exact Nat.le_refl _
    | succ k ih =>
     simp only [vsSet]
     split
     · omega
     ·(
     simp only [List.length_cons]
     omega
     )
   have h4 := h3 (ccN a0_0 a0_1 a1_0 a1_1 a1_2 a1_3)
   have h5 := vs_bounds HV.out.1
   have h6 := (fwN_is a0_0 a0_1 ⟨a1_0, a1_1, a1_2, a1_3⟩ (2 * a0_0 * a0_1) (fun _ => false) h5.1).1
   have h7 : (ccN a0_0 a0_1 a1_0 a1_1 a1_2 a1_3) ≤ 7201 := by
    unfold ccN vsN
    omega
   omega
  have fin : ∀ (nd : Nat) (v : Int), v = (((((vsSet a0_0 a0_1 ⟨a1_0, a1_1, a1_2, a1_3⟩ (ccN a0_0 a0_1 a1_0 a1_1 a1_2 a1_3)).filter (fun q => ccP a0_0 a0_1 a1_0 a1_1 (fun q => vsCnt a0_0 a0_1 ⟨a1_0, a1_1, a1_2, a1_3⟩ q (ccN a0_0 a0_1 a1_0 a1_1 a1_2 a1_3)) q && !left (vsKl q.1 q.2))).length : Nat) : Nat) : Int) + (if ccP a0_0 a0_1 a1_0 a1_1 (fun q => vsCnt a0_0 a0_1 ⟨a1_0, a1_1, a1_2, a1_3⟩ q (ccN a0_0 a0_1 a1_0 a1_1 a1_2 a1_3)) (x1, x2) = true then 1 else 0) → (∃ (left : Lit → Bool) (cnt : Nat), Value.int .i64 v = .int .i64 (((vsSet a0_0 a0_1 ⟨a1_0, a1_1, a1_2, a1_3⟩ (ccN a0_0 a0_1 a1_0 a1_1 a1_2 a1_3)).filter (fun q => ccP a0_0 a0_1 a1_0 a1_1 (fun q => vsCnt a0_0 a0_1 ⟨a1_0, a1_1, a1_2, a1_3⟩ q (ccN a0_0 a0_1 a1_0 a1_1 a1_2 a1_3)) q && !left (vsKl q.1 q.2))).length : Nat) ∧ World.ranges ((w4.alloc (.cells #[.int .i64 x1, .int .i64 x2] 58 (0, 0))).drewN nd) Tryz.prog 58 (plainElem (H := Unit) Tryz.prog 3) (wA.heap.size + 2) w2.heap.size (vsN a0_0 a0_1 ⟨a1_0, a1_1, a1_2, a1_3⟩ + 1) (vsD a0_0 a0_1 ⟨a1_0, a1_1, a1_2, a1_3⟩ (ccN a0_0 a0_1 a1_0 a1_1 a1_2 a1_3)) left cnt ∧ Aside0 (Below w.heap.size w ((w4.alloc (.cells #[.int .i64 x1, .int .i64 x2] 58 (0, 0))).drewN nd)) ∧ Aside0 (((w4.alloc (.cells #[.int .i64 x1, .int .i64 x2] 58 (0, 0))).drewN nd).heap[w.heap.size]? = some (.cells #[.int .i64 a0_0, .int .i64 a0_1] 25 (0, 0)) ∧ ((w4.alloc (.cells #[.int .i64 x1, .int .i64 x2] 58 (0, 0))).drewN nd).heap[w.heap.size + 1]? = some (.cells #[.int .i64 a1_0, .int .i64 a1_1, .bool a1_2, .bool a1_3] 27 (0, 0))) ∧ w2.heap.size < ((w4.alloc (.cells #[.int .i64 x1, .int .i64 x2] 58 (0, 0))).drewN nd).heap.size) ∧ ((w4.alloc (.cells #[.int .i64 x1, .int .i64 x2] 58 (0, 0))).drewN nd).rangeLeft (wA.heap.size + 2) w2.heap.size < wr.rangeLeft (wA.heap.size + 2) w2.heap.size := by
   intro nd v hv
   have c4 : World.ranges ((w4.alloc (.cells #[.int .i64 x1, .int .i64 x2] 58 (0, 0))).drewN nd) Tryz.prog 58 (plainElem (H := Unit) Tryz.prog 3) (wA.heap.size + 2) w2.heap.size (vsN a0_0 a0_1 ⟨a1_0, a1_1, a1_2, a1_3⟩ + 1) (vsD a0_0 a0_1 ⟨a1_0, a1_1, a1_2, a1_3⟩ (ccN a0_0 a0_1 a1_0 a1_1 a1_2 a1_3)) (fun z => left z && !z.sameKey kl) b4 := HRG.out.alloc _
   have d6 := a0.out
   refine ⟨⟨fun z => left z && !z.sameKey kl, b4, ?_, c4, ⟨?_⟩, ⟨b6.out.1, b6.out.2⟩, ?_⟩, ?_⟩
   ·(
   rw [hv, hnew]
   split <;> simp
   )
   ·(
   have hA := HAL.out
   have hG := HG.out
   refine ⟨hA.os.trans (hG.os.trans HBr.out.os), hA.tape.trans (hG.tape.trans HBr.out.tape), hA.output.trans (hG.output.trans HBr.out.output), Nat.le_trans HBr.out.size (Nat.le_trans hG.size hA.size), fun i hi => ?_⟩
   have h1 := HBr.out.size
   have h2 := hG.size
   exact (hA.block i (by omega)).trans ((hG.block i (by omega) (by simp; omega)).trans (HBr.out.block i hi))
   )
   ·(
   have h2 := HG.out.size
   have h3 := HAL.out.size
   exact Nat.lt_of_lt_of_le hzr (Nat.le_trans h2 h3)
   )
   ·(
   rw [c4.left_eq, HRO.out.left_eq]
   exact HLT.out
   )
  have FIN := Aside0.mk fin
  have HP := Aside0.mk hP
  have HSM := Aside0.mk hsmall
  clear fin hP hsmall hnew hstep hmem hc hin hgood b7 b8 b9 c0 ekl ez his
  go_wp2_with fail
  refine (impl_within.calls x1 1 (wrap64 (a0_0 - 1)) _ _ (cc_within _ _ _)).mono ?_
  rintro e w5 ⟨rfl, ⟨nd, rfl⟩⟩
  cases hi1 : (impl_within.f x1 1 (wrap64 (a0_0 - 1))).getD false with
  | false =>
   have hP := HP.out
   rw [hi1, Bool.false_and, Bool.and_false, Bool.false_and] at hP
   go_wp2_with fail
   all_goals exact FIN.out nd _ (by rw [hP]; simp)
  | true =>
   go_wp2_with fail
   refine (impl_within.calls x2 1 (wrap64 (a0_1 - 1)) _ _ (cc_within _ _ _)).mono ?_
   rintro e w6 ⟨rfl, ⟨a1, rfl⟩⟩
   cases hi2 : (impl_within.f x2 1 (wrap64 (a0_1 - 1))).getD false with
   | false =>
    have hP := HP.out
    rw [hi1, hi2, Bool.true_and, Bool.and_false, Bool.false_and] at hP
    go_wp2_with fail
    all_goals (first | exact FIN.out nd _ (by rw [hP]; simp) | exact FIN.out (nd + a1) _ (by rw [hP]; simp) | exact FIN.out (a1 + nd) _ (by rw [hP]; simp))
   | true =>
    have hP := HP.out
    rw [hi1, hi2, Bool.true_and, Bool.and_true] at hP
    by_cases c2 : 2 ≤ c
    ·(
    have d2 : decide (2 ≤ c) = true := decide_eq_true c2
    rw [d2, Bool.true_and] at hP
    clear c2
    cases he : (x1 == a1_0 && x2 == a1_1) with
    | true =>
     rw [he] at hP
     go_wp2_with fail
     all_goals (first | exact FIN.out nd _ (by rw [hP]; simp) | exact FIN.out (nd + a1) _ (by rw [hP]; simp) | exact FIN.out (a1 + nd) _ (by rw [hP]; simp))
    | false =>
     rw [he] at hP
     have hS := HSM.out
     go_wp2_with fail
     all_goals (first | exact FIN.out nd _ (by rw [hP]; first | (simp; done) | (simp only [Bool.not_false, if_true]; unfold wrap64; omega)) | exact FIN.out (nd + a1) _ (by rw [hP]; first | (simp; done) | (simp only [Bool.not_false, if_true]; unfold wrap64; omega)) | exact FIN.out (a1 + nd) _ (by rw [hP]; first | (simp; done) | (simp only [Bool.not_false, if_true]; unfold wrap64; omega)))
    )
    ·(
    have d2 : decide (2 ≤ c) = false := decide_eq_false c2
    rw [d2, Bool.false_and] at hP
    clear c2
    go_wp2_with fail
    all_goals (first | exact FIN.out nd _ (by rw [hP]; simp) | exact FIN.out (nd + a1) _ (by rw [hP]; simp) | exact FIN.out (a1 + nd) _ (by rw [hP]; simp))
    )
  )
  )

end Go.Proofs.YtlmiaadpnbehgaaGreatDoor.PFnBeamsEnd
