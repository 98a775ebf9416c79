-- Written by xprint.py, a program of this session, for this seat; Lean checks it.
import Derived.Test.YthfbjofmcniogaaRows
import Derived.Test.YthfbjofmcniogaaPFnBeamsGoOfAllx17
import Derived.Test.YthfbjofmcniogaaPFnBeamsGoOfAllx22
import Derived.Test.YthfbjofmcniogaaPureFnBeamsGoOfAll
import Derived.WalkKit
import Derived.ProofKit
import Derived.OpenShut
import Derived.ShutString
import Derived.ChangeOld
import Derived.Below
import Derived.SizedLaws
import Derived.Lib.SmallJoins
import Derived.Deep.Matrix
namespace Go.Proofs.Ythfbjofmcniogaa.fnBeamsGoOfAll
open Go.ChangeShapes Go.WideShapes Go.ChangeAt Go.RowKit
open Go.ChangeMaps (open_string shut_string)
set_option linter.unusedVariables false
theorem own : ownKnob Try.prog.godebug = none := by kernel_rfl
theorem trod_bool_mk {H : Type} {enc : TypeId × Value → H} {P : Program} {w : World} {base : Nat} {spare : Nat → Bool} {held : Bool} {t : TypeId} (ht : P.underlying t = some .bool) (b : Bool) : DataW.trod enc P w base spare held 1 t [.bool b] = some (.lit (.bool b), []) := by
  simp [DataW.trod, ht]
set_option maxRecDepth 100000 in
theorem lifted (os : Os) (started : os.Started) (H : Type) (enc : TypeId × Value → H) :
    ReturnsInHanded {} Try.checked os 5 .any (Rows.fnBeamsGoOfAllSpec.pre6 enc Try.prog Try.f5 Rows.fnBeamsGoOfAllRow.domain false) (Rows.fnBeamsGoOfAllSpec.post enc Try.prog Try.f5 false true false false) := by
  refine returnsInHanded_of_change_sized (C := Try.checked) own started (by kernel_rfl) Try.func5
    (ChangeSpec.witness6 (enc := enc) (C := Try.checked) false ⟨#[], #[.agg #[.int .i64 0, .int .i64 0], .agg #[.int .i64 0, .int .i64 0, .bool false, .bool false], .int .i64 0, .agg #[.int .i64 0, .int .i64 0], .agg #[.int .i64 0, .int .i64 0, .bool false, .bool false], .int .i64 0, .int .i64 0, .agg #[.int .i64 0, .int .i64 0], .agg #[.int .i64 0, .int .i64 0, .bool false, .bool false], .int .i64 0], []⟩ 8 (by kernel_rfl) (by kernel_rfl) (by kernel_rfl) (by kernel_rfl)) ?_
  intro W base args ds gs before hval0 hW hcnd hsz0 _
  have hsz : (DataW.weightsEach Try.prog (Try.f5.params.toList ++ Rows.fnBeamsGoOfAllSpec.plain.varTypes Try.prog) (ds ++ gs)).all (· ≤ reachBytes) = true := hsz0
  have hval : ∀ (j : Nat) t v, Try.f5.params[j]? = some t → args[j]? = some v → Value.okWide Try.prog W .any base t v := hval0
  have hW' := hW
  obtain ⟨p, q, hA0, hV, rfl, hfz, hnd⟩ := hW
  have hA : DataW.TrodAll enc Try.prog W 0 (fun _ => true) true Try.f5.params.toList args.toList ds p := hA0
  rw [Try.params5] at hA hval hsz
  obtain ⟨v0, vs0, d0, ds0, p0, q0, hargs, rfl, rfl, h0, r0⟩ := trodAll_cons hA
  obtain ⟨v1, vs1, d1, ds1, p1, q1, rfl, rfl, rfl, h1, r1⟩ := trodAll_cons r0
  obtain ⟨v2, vs2, d2, ds2, p2, q2, rfl, rfl, rfl, h2, r2⟩ := trodAll_cons r1
  obtain ⟨v3, vs3, d3, ds3, p3, q3, rfl, rfl, rfl, h3, r3⟩ := trodAll_cons r2
  obtain ⟨v4, vs4, d4, ds4, p4, q4, rfl, rfl, rfl, h4, r4⟩ := trodAll_cons r3
  obtain ⟨v5, vs5, d5, ds5, p5, q5, rfl, rfl, rfl, h5, r5⟩ := trodAll_cons r4
  obtain ⟨v6, vs6, d6, ds6, p6, q6, rfl, rfl, rfl, h6, r6⟩ := trodAll_cons r5
  obtain ⟨v7, vs7, d7, ds7, p7, q7, rfl, rfl, rfl, h7, r7⟩ := trodAll_cons r6
  obtain ⟨v8, vs8, d8, ds8, p8, q8, rfl, rfl, rfl, h8, r8⟩ := trodAll_cons r7
  obtain ⟨v9, vs9, d9, ds9, p9, q9, rfl, rfl, rfl, h9, r9⟩ := trodAll_cons r8
  obtain ⟨rfl, rfl, rfl⟩ := trodAll_nil r9
  obtain rfl : args = #[v0, v1, v2, v3, v4, v5, v6, v7, v8, v9] := by cases args; simp_all
  obtain ⟨rfl, rfl⟩ := trodVars_none hV
  obtain ⟨g0_0, g0_1, y0_0, y0_1, m0, rfl, rfl, rfl, hy0_0, hy0_1⟩ := Go.Joins.open_agg2 Try.underlying28 (by kernel_rfl) (by kernel_rfl) (hval 0 28 v0 rfl rfl) h0
  obtain ⟨a0_0, e0_0, rfl, w0_0⟩ := DataW.trod_int Try.underlying3 hy0_0
  obtain ⟨a0_1, e0_1, rfl, w0_1⟩ := DataW.trod_int Try.underlying3 hy0_1
  simp at e0_0 e0_1
  subst e0_0 e0_1
  obtain ⟨g1_0, g1_1, g1_2, g1_3, y1_0, y1_1, y1_2, y1_3, m1, rfl, rfl, rfl, hy1_0, hy1_1, hy1_2, hy1_3⟩ := Go.Joins.open_agg4 Try.underlying30 (by kernel_rfl) (by kernel_rfl) (hval 1 30 v1 rfl rfl) h1
  obtain ⟨a1_0, e1_0, rfl, w1_0⟩ := DataW.trod_int Try.underlying3 hy1_0
  obtain ⟨a1_1, e1_1, rfl, w1_1⟩ := DataW.trod_int Try.underlying3 hy1_1
  obtain ⟨a1_2, e1_2, rfl⟩ := DataW.trod_bool Try.underlying4 hy1_2
  obtain ⟨a1_3, e1_3, rfl⟩ := DataW.trod_bool Try.underlying4 hy1_3
  simp at e1_0 e1_1 e1_2 e1_3
  subst e1_0 e1_1 e1_2 e1_3
  obtain ⟨a2, rfl, rfl, rfl, w2⟩ := open_int Try.underlying3 (hval 2 3 v2 rfl rfl) h2
  obtain ⟨g3_0, g3_1, y3_0, y3_1, m3, rfl, rfl, rfl, hy3_0, hy3_1⟩ := Go.Joins.open_agg2 Try.underlying28 (by kernel_rfl) (by kernel_rfl) (hval 3 28 v3 rfl rfl) h3
  obtain ⟨a3_0, e3_0, rfl, w3_0⟩ := DataW.trod_int Try.underlying3 hy3_0
  obtain ⟨a3_1, e3_1, rfl, w3_1⟩ := DataW.trod_int Try.underlying3 hy3_1
  simp at e3_0 e3_1
  subst e3_0 e3_1
  obtain ⟨g4_0, g4_1, g4_2, g4_3, y4_0, y4_1, y4_2, y4_3, m4, rfl, rfl, rfl, hy4_0, hy4_1, hy4_2, hy4_3⟩ := Go.Joins.open_agg4 Try.underlying30 (by kernel_rfl) (by kernel_rfl) (hval 4 30 v4 rfl rfl) h4
  obtain ⟨a4_0, e4_0, rfl, w4_0⟩ := DataW.trod_int Try.underlying3 hy4_0
  obtain ⟨a4_1, e4_1, rfl, w4_1⟩ := DataW.trod_int Try.underlying3 hy4_1
  obtain ⟨a4_2, e4_2, rfl⟩ := DataW.trod_bool Try.underlying4 hy4_2
  obtain ⟨a4_3, e4_3, rfl⟩ := DataW.trod_bool Try.underlying4 hy4_3
  simp at e4_0 e4_1 e4_2 e4_3
  subst e4_0 e4_1 e4_2 e4_3
  obtain ⟨a5, rfl, rfl, rfl, w5⟩ := open_int Try.underlying3 (hval 5 3 v5 rfl rfl) h5
  obtain ⟨a6, rfl, rfl, rfl, w6⟩ := open_int Try.underlying3 (hval 6 3 v6 rfl rfl) h6
  obtain ⟨g7_0, g7_1, y7_0, y7_1, m7, rfl, rfl, rfl, hy7_0, hy7_1⟩ := Go.Joins.open_agg2 Try.underlying28 (by kernel_rfl) (by kernel_rfl) (hval 7 28 v7 rfl rfl) h7
  obtain ⟨a7_0, e7_0, rfl, w7_0⟩ := DataW.trod_int Try.underlying3 hy7_0
  obtain ⟨a7_1, e7_1, rfl, w7_1⟩ := DataW.trod_int Try.underlying3 hy7_1
  simp at e7_0 e7_1
  subst e7_0 e7_1
  obtain ⟨g8_0, g8_1, g8_2, g8_3, y8_0, y8_1, y8_2, y8_3, m8, rfl, rfl, rfl, hy8_0, hy8_1, hy8_2, hy8_3⟩ := Go.Joins.open_agg4 Try.underlying30 (by kernel_rfl) (by kernel_rfl) (hval 8 30 v8 rfl rfl) h8
  obtain ⟨a8_0, e8_0, rfl, w8_0⟩ := DataW.trod_int Try.underlying3 hy8_0
  obtain ⟨a8_1, e8_1, rfl, w8_1⟩ := DataW.trod_int Try.underlying3 hy8_1
  obtain ⟨a8_2, e8_2, rfl⟩ := DataW.trod_bool Try.underlying4 hy8_2
  obtain ⟨a8_3, e8_3, rfl⟩ := DataW.trod_bool Try.underlying4 hy8_3
  simp at e8_0 e8_1 e8_2 e8_3
  subst e8_0 e8_1 e8_2 e8_3
  obtain ⟨a9, rfl, rfl, rfl, w9⟩ := open_int Try.underlying3 (hval 9 3 v9 rfl rfl) h9
  clear hA0 hval0 hsz0 hsz
  refine (PFnBeamsGoOfAll.laws_FnBeamsGoOfAll.walk Pure.FnBeamsGoOfAll a0_0 a0_1 a1_0 a1_1 a1_2 a1_3 a2 a3_0 a3_1 a4_0 a4_1 a4_2 a4_3 a5 a6 a7_0 a7_1 a8_0 a8_1 a8_2 a8_3 a9 W w0_0 w0_1 w1_0 w1_1 w2 w3_0 w3_1 w4_0 w4_1 w5 w6 w7_0 w7_1 w8_0 w8_1 w9).mono fun e W' ⟨he, bel⟩ => ?_
  subst he
  exact ⟨_, rfl, _, _, _, [], _, [], hW', trodAll_mk1 (shut_bool Try.underlying4 _), (trodAll_cons_mk (Go.Joins.shut_agg2 (y0 := (.lit (.int .i64 a0_0), [])) (y1 := (.lit (.int .i64 a0_1), [])) Try.underlying28 (by kernel_rfl) (by kernel_rfl) ⟨1, trod_int_mk 0 Try.underlying3 w0_0⟩ ⟨1, trod_int_mk 0 Try.underlying3 w0_1⟩) (trodAll_cons_mk (Go.Joins.shut_agg4 (y0 := (.lit (.int .i64 a1_0), [])) (y1 := (.lit (.int .i64 a1_1), [])) (y2 := (.lit (.bool a1_2), [])) (y3 := (.lit (.bool a1_3), [])) Try.underlying30 (by kernel_rfl) (by kernel_rfl) ⟨1, trod_int_mk 0 Try.underlying3 w1_0⟩ ⟨1, trod_int_mk 0 Try.underlying3 w1_1⟩ ⟨1, trod_bool_mk Try.underlying4 _⟩ ⟨1, trod_bool_mk Try.underlying4 _⟩) (trodAll_cons_mk (shut_int Try.underlying3 w2) (trodAll_cons_mk (Go.Joins.shut_agg2 (y0 := (.lit (.int .i64 a3_0), [])) (y1 := (.lit (.int .i64 a3_1), [])) Try.underlying28 (by kernel_rfl) (by kernel_rfl) ⟨1, trod_int_mk 0 Try.underlying3 w3_0⟩ ⟨1, trod_int_mk 0 Try.underlying3 w3_1⟩) (trodAll_cons_mk (Go.Joins.shut_agg4 (y0 := (.lit (.int .i64 a4_0), [])) (y1 := (.lit (.int .i64 a4_1), [])) (y2 := (.lit (.bool a4_2), [])) (y3 := (.lit (.bool a4_3), [])) Try.underlying30 (by kernel_rfl) (by kernel_rfl) ⟨1, trod_int_mk 0 Try.underlying3 w4_0⟩ ⟨1, trod_int_mk 0 Try.underlying3 w4_1⟩ ⟨1, trod_bool_mk Try.underlying4 _⟩ ⟨1, trod_bool_mk Try.underlying4 _⟩) (trodAll_cons_mk (shut_int Try.underlying3 w5) (trodAll_cons_mk (shut_int Try.underlying3 w6) (trodAll_cons_mk (Go.Joins.shut_agg2 (y0 := (.lit (.int .i64 a7_0), [])) (y1 := (.lit (.int .i64 a7_1), [])) Try.underlying28 (by kernel_rfl) (by kernel_rfl) ⟨1, trod_int_mk 0 Try.underlying3 w7_0⟩ ⟨1, trod_int_mk 0 Try.underlying3 w7_1⟩) (trodAll_cons_mk (Go.Joins.shut_agg4 (y0 := (.lit (.int .i64 a8_0), [])) (y1 := (.lit (.int .i64 a8_1), [])) (y2 := (.lit (.bool a8_2), [])) (y3 := (.lit (.bool a8_3), [])) Try.underlying30 (by kernel_rfl) (by kernel_rfl) ⟨1, trod_int_mk 0 Try.underlying3 w8_0⟩ ⟨1, trod_int_mk 0 Try.underlying3 w8_1⟩ ⟨1, trod_bool_mk Try.underlying4 _⟩ ⟨1, trod_bool_mk Try.underlying4 _⟩) (trodAll_cons_mk (shut_int Try.underlying3 w9) trodAll_mk0)))))))))), rfl, bel.frame _, fun h => by cases h⟩
theorem over : Rows.fnBeamsGoOfAllRow.holds Try.pinned (OpenSpec.ofChange Rows.fnBeamsGoOfAllSpec) :=
  OpenClaim.holds_of_wide 5 Try.f5 rfl rfl rfl rfl rfl rfl rfl ⟨rfl, rfl, rfl, rfl, rfl⟩ rfl rfl rfl rfl rfl (by kernel_rfl) Try.func5 (by kernel_rfl)
    (of_decide_eq_true (by kernel_rfl)) (by unfold Func.isWrapper; first | (rw [if_pos (by decide +kernel)]; kernel_rfl) | (rw [if_neg (by decide +kernel)]; exact ⟨rfl, rfl⟩))
    (fun os started H enc _ => lifted os started H enc)
theorem proved : Rows.FnBeamsGoOfAllSaid := over
#print axioms proved
end Go.Proofs.Ythfbjofmcniogaa.fnBeamsGoOfAll
namespace Go.Proofs.Ythfbjofmcniogaa
/-- The row, under a short name, for the claim. -/
theorem fnBeamsGoOfAll_holds : Rows.FnBeamsGoOfAllSaid := fnBeamsGoOfAll.proved
end Go.Proofs.Ythfbjofmcniogaa
