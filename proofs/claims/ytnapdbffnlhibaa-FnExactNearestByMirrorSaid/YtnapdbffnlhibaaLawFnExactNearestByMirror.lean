-- Written by xprint.py, a program of this session, for this seat; Lean checks it.
import Derived.Test.YtnapdbffnlhibaaRows
import Derived.Test.YtnapdbffnlhibaaPFnExactNearestByMirrorx3
import Derived.Test.YtnapdbffnlhibaaPureFnExactNearestByMirror
import Derived.WalkKit
import Derived.ProofKit
import Derived.OpenShut
import Derived.ShutString
import Derived.ChangeOld
import Derived.Below
import Derived.SizedLaws
import Derived.Lib.SmallJoins
import Derived.Deep.Matrix
import Derived.Test.YtnapdbffnlhibaaWSized
namespace Go.Proofs.Ytnapdbffnlhibaa.fnExactNearestByMirror
open Go.ChangeShapes Go.WideShapes Go.ChangeAt Go.RowKit
open Go.ChangeMaps (open_string shut_string)
set_option linter.unusedVariables false
theorem own : ownKnob Try.prog.godebug = none := by kernel_rfl
theorem laidOut : laidOutB Try.prog = true := by kernel_rfl
def IsRow (k : IntKind) (w : World) (a : Option Addr) (len cap : Nat) (zs : List Int) : Prop :=
  (a = none ∧ len = 0 ∧ cap = 0 ∧ zs = []) ∨
  ∃ x, a = some x ∧ len ≤ cap ∧ cap ≤ maxLen ∧ zs.length = cap ∧ (∀ i, i < zs.length → w.cell? (x.add i) = some (.int k (zs.getD i 0))) ∧ ∀ n ∈ zs, (Lit.int k n).wf = true
theorem x_open_38 {H : Type} {enc : TypeId × Value → H} {w : World} {base fuel : Nat} {held : Bool} {a : Option Addr} {len cap : Nat} {x : DataW H × List MemPlace} (h : DataW.trod enc Try.prog w base (fun _ => true) held fuel 38 [.slice a len cap] = some x) :
    ∃ l : List (PFnExactNearestByMirror.S23), l.length = len ∧ Go.Proofs.YtnapdbffnlhibaaW.PrintWords.Kd.C PFnExactNearestByMirror.k23 w a l.length l ∧ l.length ≤ cap ∧ l.length ≤ maxLen ∧ ∀ y ∈ l, (Lit.int .i64 y.f0).wf = true ∧ (Lit.int .i64 y.f1).wf = true := by
  have inh : Inhabited PFnExactNearestByMirror.S23 := ⟨⟨0, 0⟩⟩
  rcases Go.Deep.open_slice Try.underlying38 h with ⟨hcs, _⟩ | ⟨a', len', cap', m, n, D, Pl, hcs, _, hl, hm, hmm, _, hx⟩
  · simp at hcs
    obtain ⟨rfl, rfl, rfl⟩ := hcs
    exact ⟨[], rfl, ⟨rfl, by simp, fun h => absurd h (by simp)⟩, by simp, by simp, by simp⟩
  · simp at hcs
    obtain ⟨rfl, rfl, rfl⟩ := hcs
    simp only [if_true] at hmm
    subst hmm
    have hce : Try.prog.cellsOf 23 = 2 := by kernel_rfl
    rw [hce] at hx
    have each : ∀ i, i < m → ∃ s : PFnExactNearestByMirror.S23, (∀ j u, [.int .i64 s.f0, .int .i64 s.f1][j]? = some u → w.cell? (a'.add (i * 2 + j)) = some u) ∧ (Lit.int .i64 s.f0).wf = true ∧ (Lit.int .i64 s.f1).wf = true := by
      intro i hi
      obtain ⟨cs', h1, h2⟩ := hx i hi
      obtain ⟨_, hlen, hcell⟩ := World.cells?_some h1
      obtain ⟨c0, c1, rfl⟩ : ∃ c0 c1, cs' = [c0, c1] := by
        match cs', hlen with
        | [c0, c1], _ => exact ⟨c0, c1, rfl⟩
      obtain ⟨y0, y1, n', _, _, t0, t1⟩ := trod_struct2 Try.underlying23 h2
      have hf0 : Try.prog.cellsOf 3 = 1 := by kernel_rfl
      obtain ⟨z0, e0, _, wz0⟩ := DataW.trod_int Try.underlying3 t0
      simp [hf0] at e0
      subst e0
      have hf1 : Try.prog.cellsOf 3 = 1 := by kernel_rfl
      obtain ⟨z1, e1, _, wz1⟩ := DataW.trod_int Try.underlying3 t1
      simp [hf1] at e1
      subst e1
      refine ⟨⟨z0, z1⟩, fun j u hu => ?_, wz0, wz1⟩
      obtain ⟨hj1, _⟩ := List.getElem?_eq_some_iff.1 hu
      rw [← Addr.add_add, hcell j (by simpa using hj1)]
      exact hu
    obtain ⟨S, hS⟩ := Go.Deep.choose_lt each
    have hlen : ((List.range len).map S).length = len := by simp
    refine ⟨(List.range len).map S, hlen, ⟨rfl, by rw [hlen]; unfold maxLen at hm; omega, fun _ => ⟨a', rfl, fun j p hj => ?_⟩⟩, by rw [hlen]; exact hl, by rw [hlen]; omega, fun y hy => ?_⟩
    · rw [List.getElem?_map] at hj
      obtain ⟨r, hr, rfl⟩ := Option.map_eq_some_iff.1 hj
      obtain ⟨hr1, hr2⟩ := List.getElem?_eq_some_iff.1 hr
      simp at hr1 hr2
      subst hr2
      exact ⟨[.int .i64 (S j).f0, .int .i64 (S j).f1], rfl, PFnExactNearestByMirror.k23_mk w (S j), (hS j (by omega)).1⟩
    · obtain ⟨r, hr, rfl⟩ := List.mem_map.1 hy
      exact (hS r (by have := List.mem_range.1 hr; omega)).2
set_option maxRecDepth 100000 in
theorem lifted (os : Os) (started : os.Started) (H : Type) (enc : TypeId × Value → H) :
    ReturnsInHanded {} Try.checked os 8 .any (Rows.fnExactNearestByMirrorSpec.pre6 enc Try.prog Try.f8 Rows.fnExactNearestByMirrorRow.domain false) (Rows.fnExactNearestByMirrorSpec.post enc Try.prog Try.f8 false true false false) := by
  refine returnsInHanded_of_change_sized (C := Try.checked) own started (by kernel_rfl) Try.func8
    (ChangeSpec.witness6 (enc := enc) (C := Try.checked) false ⟨#[], #[.agg #[.int .i64 0, .int .i64 0], .slice none 0 0], []⟩ 8 (by kernel_rfl) (by kernel_rfl) (by kernel_rfl) (by kernel_rfl)) ?_
  intro W base args ds gs before hval0 hW hcnd hsz0 _
  have hsz : (DataW.weightsEach Try.prog (Try.f8.params.toList ++ Rows.fnExactNearestByMirrorSpec.plain.varTypes Try.prog) (ds ++ gs)).all (· ≤ reachBytes) = true := hsz0
  have hval : ∀ (j : Nat) t v, Try.f8.params[j]? = some t → args[j]? = some v → Value.okWide Try.prog W .any base t v := hval0
  have hW' := hW
  obtain ⟨p, q, hA0, hV, rfl, hfz, hnd⟩ := hW
  have hA : DataW.TrodAll enc Try.prog W 0 (fun _ => true) true Try.f8.params.toList args.toList ds p := hA0
  rw [Try.params8] at hA hval hsz
  obtain ⟨v0, vs0, d0, ds0, p0, q0, hargs, rfl, rfl, h0, r0⟩ := trodAll_cons hA
  obtain ⟨v1, vs1, d1, ds1, p1, q1, rfl, rfl, rfl, h1, r1⟩ := trodAll_cons r0
  obtain ⟨rfl, rfl, rfl⟩ := trodAll_nil r1
  obtain rfl : args = #[v0, v1] := by cases args; simp_all
  obtain ⟨rfl, rfl⟩ := trodVars_none hV
  obtain ⟨g0_0, g0_1, y0_0, y0_1, m0, rfl, rfl, rfl, hy0_0, hy0_1⟩ := Go.Joins.open_agg2 Try.underlying23 (by kernel_rfl) (by kernel_rfl) (hval 0 23 v0 rfl rfl) h0
  obtain ⟨a0_0, e0_0, rfl, w0_0⟩ := DataW.trod_int Try.underlying3 hy0_0
  obtain ⟨a0_1, e0_1, rfl, w0_1⟩ := DataW.trod_int Try.underlying3 hy0_1
  simp at e0_0 e0_1
  subst e0_0 e0_1
  obtain ⟨a1, len1, cap1, rfl⟩ := okWide_slice Try.underlying38 (hval 1 38 v1 rfl rfl)
  have k1 := h1
  have lt1 : ∀ x ∈ p1, x.block < W.heap.size := by obtain ⟨m, hm⟩ := k1; exact DataW.trod_lt m _ _ _ hm
  obtain ⟨l1, hl1, hr1, hc1, hm1, hw1⟩ : ∃ l : List (PFnExactNearestByMirror.S23), l.length = len1 ∧ Go.Proofs.YtnapdbffnlhibaaW.PrintWords.Kd.C PFnExactNearestByMirror.k23 W a1 l.length l ∧ l.length ≤ cap1 ∧ l.length ≤ maxLen ∧ ∀ x ∈ l, (Lit.int .i64 x.f0).wf = true ∧ (Lit.int .i64 x.f1).wf = true := by
    obtain ⟨fuel, hf⟩ := h1
    exact x_open_38 hf
  subst hl1
  clear hA0 hval0 hsz0 hsz
  refine (PFnExactNearestByMirror.laws_FnExactNearestByMirror.walk Pure.FnExactNearestByMirror a0_0 a0_1 a1 cap1 l1 W w0_0 w0_1 hr1 hc1 hm1 hw1).mono fun e W' ⟨he, bel⟩ => ?_
  subst he
  exact ⟨_, rfl, _, _, _, [], _, [], hW', trodAll_mk1 (shut_bool Try.underlying4 _), (trodAll_cons_mk (Go.Joins.shut_agg2 (y0 := (.lit (.int .i64 a0_0), [])) (y1 := (.lit (.int .i64 a0_1), [])) Try.underlying23 (by kernel_rfl) (by kernel_rfl) ⟨1, trod_int_mk 0 Try.underlying3 w0_0⟩ ⟨1, trod_int_mk 0 Try.underlying3 w0_1⟩) (trodAll_cons_mk (Below.trod laidOut (by kernel_rfl) (of_decide_eq_true (by kernel_rfl)) k1 bel lt1) trodAll_mk0)), rfl, bel.frame _, fun h => by cases h⟩
theorem over : Rows.fnExactNearestByMirrorRow.holds Try.pinned (OpenSpec.ofChange Rows.fnExactNearestByMirrorSpec) :=
  OpenClaim.holds_of_wide 8 Try.f8 rfl rfl rfl rfl rfl rfl rfl ⟨rfl, rfl, rfl, rfl, rfl⟩ rfl rfl rfl rfl rfl (by kernel_rfl) Try.func8 (by kernel_rfl)
    (of_decide_eq_true (by kernel_rfl)) (by unfold Func.isWrapper; first | (rw [if_pos (by decide +kernel)]; kernel_rfl) | (rw [if_neg (by decide +kernel)]; exact ⟨rfl, rfl⟩))
    (fun os started H enc _ => lifted os started H enc)
theorem proved : Rows.FnExactNearestByMirrorSaid := over
#print axioms proved
end Go.Proofs.Ytnapdbffnlhibaa.fnExactNearestByMirror
namespace Go.Proofs.Ytnapdbffnlhibaa
/-- The row, under a short name, for the claim. -/
theorem fnExactNearestByMirror_holds : Rows.FnExactNearestByMirrorSaid := fnExactNearestByMirror.proved
end Go.Proofs.Ytnapdbffnlhibaa
