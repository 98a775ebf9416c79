-- Written by xprint.py, a program of this session, for this seat; Lean checks it.
import Derived.Test.YtlmiaadpnbehgaaDoorRows
import Derived.Test.YtlmiaadpnbehgaaDoorCards
import Derived.Test.YtlmiaadpnbehgaaDoorTie
import Derived.Test.YtlmiaadpnbehgaaDoorPFnBeamsEndOfAllx18
import Derived.Test.YtlmiaadpnbehgaaDoorPFnBeamsEndOfAllx24
import Derived.Test.YtlmiaadpnbehgaaDoorWSized
import Derived.Test.YtlmiaadpnbehgaaDoorPureFnBeamsEndOfAll
import Derived.WalkKit
import Derived.ProofKit
import Derived.OpenShut
import Derived.ShutString
import Derived.ChangeOld
import Derived.Below
import Derived.SizedLaws
import Derived.Lib.SmallJoins
import Derived.Deep.Matrix
import Derived.Lay
import Derived.LaidLaws
import Derived.Stop.LaidErr
import Derived.LaidOnce
import Derived.SevenTiedAt
namespace Go.Proofs.YtlmiaadpnbehgaaDoor.fnBeamsEndOfAll
open Go.ChangeShapes Go.WideShapes Go.ChangeAt Go.RowKit
open Go.ChangeMaps (open_string shut_string)
set_option linter.unusedVariables false
theorem own : ownKnob Tryd.prog.godebug = none := by kernel_rfl
theorem trod_bool_mk {H : Type} {enc : TypeId × Value → H} {P : Program} {w : World} {base : Nat} {spare : Nat → Bool} {held : Bool} {t : TypeId} (ht : P.underlying t = some .bool) (b : Bool) : DataW.trod enc P w base spare held 1 t [.bool b] = some (.lit (.bool b), []) := by
  simp [DataW.trod, ht]
theorem star : "*" ++ "errors.errorString" = "*errors.errorString" := by decide
theorem row117 (u : TypeId) (h : Tryd.prog.typeName? 3 u = some "*errors.errorString") : u = 117 :=
  typeName_ptr_named (nm := "errors.errorString") (by rw [star]; kernel_rfl) (by kernel_rfl) (by decide) u (by rw [star]; exact h)
open PFnBeamsEndOfAll in
/-- What the row's laid variables give the walk. -/
theorem pt_of {W : World} (hsh : W.ShapedOpen Tryd.prog) (h0 : laidMetH Tryd.prog Rows.fnBeamsEndOfAllRow.laid W) : PtW W := by
  rw [MakeChecks.laidMetH_plain _ _ _ (by kernel_rfl)] at h0
  have h3 : laidMet Tryd.prog (("internal/strconv.uint64pow10", Lib.tabData .u64 Lib.pow10Tab) :: ("strconv.ErrRange", Rows.laid_strconv_ErrRange) :: ("strconv.ErrSyntax", Rows.laid_strconv_ErrSyntax) :: []) W := h0.tail.tail
  obtain ⟨m, hm⟩ := Tryd.laysM145.s1_3 _ hsh
  have htab : Lib.TabIs Tryd.prog W "internal/strconv.uint64pow10" .u64 Lib.pow10Tab := Lib.tabIs_of_head pt_pow (by kernel_rfl) Tryd.underlying111 Tryd.underlying97 (by kernel_rfl) (by kernel_rfl) h3
  obtain ⟨a1, _, v1, _⟩ := laid_sentinel (g := 2) h3.tail (by kernel_rfl) (by kernel_rfl) Tryd.underlying75 row117 Tryd.underlying117 Tryd.underlying119 rfl rfl Tryd.underlying9 (by kernel_rfl) (by kernel_rfl)
  obtain ⟨a2, _, v2, _⟩ := laid_sentinel (g := 1) h3.tail.tail (by kernel_rfl) (by kernel_rfl) Tryd.underlying75 row117 Tryd.underlying117 Tryd.underlying119 rfl rfl Tryd.underlying9 (by kernel_rfl) (by kernel_rfl)
  have c1 := World.var?_cell (g := 2) (by kernel_rfl) v1 0
  have c2 := World.var?_cell (g := 1) (by kernel_rfl) v2 0
  exact ⟨⟨m, hm⟩, ⟨_, by simpa using c2, .inr ⟨_, _, rfl⟩⟩, ⟨_, by simpa using c1, .inr ⟨_, _, rfl⟩⟩, htab⟩
set_option maxRecDepth 100000 in
theorem lifted (os : Os) (started : os.Started) (H : Type) (enc : TypeId × Value → H) :
    ReturnsInHanded {} Tryd.checked os 3 .any (fun w args => (Rows.fnBeamsEndOfAllSpec.pre enc Tryd.prog Tryd.f3 [] false w args ∧ laidMetH Tryd.prog Rows.fnBeamsEndOfAllRow.laid w) ∧ sizedMet enc Tryd.prog Tryd.f3 (OpenSpec.ofChange Rows.fnBeamsEndOfAllSpec) false w args)
      (Rows.fnBeamsEndOfAllSpec.post enc Tryd.prog Tryd.f3 false true false false) := by
  refine returnsInHanded_of_calls (C := Tryd.checked) own started (by kernel_rfl)
    (ChangeSpec.witness_shaped (enc := enc) (C := Tryd.checked) (os := os) (X := fun w _ => laidMetH Tryd.prog Rows.fnBeamsEndOfAllRow.laid w) false (World.laidAll Tryd.prog os Rows.fnBeamsEndOfAllRow.laid) #[.agg #[.int .i64 0, .int .i64 0], .agg #[.int .i64 0, .int .i64 0, .bool false, .bool false], .agg #[.int .i64 0, .int .i64 0], .int .i64 0, .string ByteArray.empty] 8 (World.laidAll_os _ _ _)
      (World.shaped_of_ZipB (by kernel_rfl) (by kernel_rfl)) (by kernel_rfl) (by kernel_rfl) (by kernel_rfl)
      (by rw [MakeChecks.laidMetH_plain _ _ _ (by kernel_rfl)]; exact laidMet_laidAll _ (by kernel_rfl) (by kernel_rfl))) ?_
  intro w0_ tape i _ hsh _ hok hpre _
  obtain ⟨_, _, _, fn', hfn', _, _, _, _, hval1⟩ := hok
  obtain rfl : fn' = Tryd.f3 := Option.some.inj (hfn'.symm.trans Tryd.func3)
  obtain ⟨⟨⟨ds, gs, before, hw, _⟩, hL0⟩, hz⟩ := hpre
  have hL : laidMetH Tryd.prog Rows.fnBeamsEndOfAllRow.laid (w0_.forCall tape i) := hL0.of_heap (by rfl)
  have hWb := DataW.Whole.of_heap (w' := w0_.forCall tape i) (by rfl) hw
  have hszb := hz.weights hw
  have hPt := pt_of hsh hL
  suffices hcon : Calls Tryd.checked.prog 3 i.args (w0_.forCall tape i) fun e W' => ∃ v, e = .returned v ∧ Rows.fnBeamsEndOfAllSpec.post enc Tryd.prog Tryd.f3 false true false false (w0_.forCall tape i) i.args v W' by
    refine hcon.mono fun e W' ⟨v, he, hp⟩ => ?_
    subst he
    exact ChangeSpec.post_blind hp
  clear hsh hL hL0 hw hz hfn'
  generalize w0_.forCall tape i = W at *
  generalize i.args = args at *
  have hW : DataW.Whole enc Tryd.prog Tryd.f3.params.toList Rows.fnBeamsEndOfAllSpec.vars false W args.toList ds gs before := hWb
  have hsz : (DataW.weightsEach Tryd.prog (Tryd.f3.params.toList ++ Rows.fnBeamsEndOfAllSpec.plain.varTypes Tryd.prog) (ds ++ gs)).all (· ≤ reachBytes) = true := hszb
  have hval : ∀ (j : Nat) t v, Tryd.f3.params[j]? = some t → args[j]? = some v → Value.okWide Tryd.prog W .any w0_.heap.size t v := hval1
  have hW' := hW
  obtain ⟨p, q, hA0, hV, rfl, hfz, hnd⟩ := hW
  have hA : DataW.TrodAll enc Tryd.prog W 0 (fun _ => true) true Tryd.f3.params.toList args.toList ds p := hA0
  rw [Tryd.params3] at hA hval hsz
  obtain ⟨v0, vs0, d0, ds0, p0, q0, hargs, rfl, rfl, h0, r0⟩ := trodAll_cons hA
  obtain ⟨v1, vs1, d1, ds1, p1, q1, rfl, rfl, rfl, h1, r1⟩ := trodAll_cons r0
  obtain ⟨v2, vs2, d2, ds2, p2, q2, rfl, rfl, rfl, h2, r2⟩ := trodAll_cons r1
  obtain ⟨v3, vs3, d3, ds3, p3, q3, rfl, rfl, rfl, h3, r3⟩ := trodAll_cons r2
  obtain ⟨v4, vs4, d4, ds4, p4, q4, rfl, rfl, rfl, h4, r4⟩ := trodAll_cons r3
  obtain ⟨rfl, rfl, rfl⟩ := trodAll_nil r4
  obtain rfl : args = #[v0, v1, v2, v3, v4] := by cases args; simp_all
  obtain ⟨rfl, rfl⟩ := trodVars_none hV
  obtain ⟨g0_0, g0_1, y0_0, y0_1, m0, rfl, rfl, rfl, hy0_0, hy0_1⟩ := Go.Joins.open_agg2 Tryd.underlying23 (by kernel_rfl) (by kernel_rfl) (hval 0 23 v0 rfl rfl) h0
  obtain ⟨a0_0, e0_0, rfl, w0_0⟩ := DataW.trod_int Tryd.underlying3 hy0_0
  obtain ⟨a0_1, e0_1, rfl, w0_1⟩ := DataW.trod_int Tryd.underlying3 hy0_1
  simp at e0_0 e0_1
  subst e0_0 e0_1
  obtain ⟨g1_0, g1_1, g1_2, g1_3, y1_0, y1_1, y1_2, y1_3, m1, rfl, rfl, rfl, hy1_0, hy1_1, hy1_2, hy1_3⟩ := Go.Joins.open_agg4 Tryd.underlying25 (by kernel_rfl) (by kernel_rfl) (hval 1 25 v1 rfl rfl) h1
  obtain ⟨a1_0, e1_0, rfl, w1_0⟩ := DataW.trod_int Tryd.underlying3 hy1_0
  obtain ⟨a1_1, e1_1, rfl, w1_1⟩ := DataW.trod_int Tryd.underlying3 hy1_1
  obtain ⟨a1_2, e1_2, rfl⟩ := DataW.trod_bool Tryd.underlying4 hy1_2
  obtain ⟨a1_3, e1_3, rfl⟩ := DataW.trod_bool Tryd.underlying4 hy1_3
  simp at e1_0 e1_1 e1_2 e1_3
  subst e1_0 e1_1 e1_2 e1_3
  obtain ⟨g2_0, g2_1, y2_0, y2_1, m2, rfl, rfl, rfl, hy2_0, hy2_1⟩ := Go.Joins.open_agg2 Tryd.underlying23 (by kernel_rfl) (by kernel_rfl) (hval 2 23 v2 rfl rfl) h2
  obtain ⟨a2_0, e2_0, rfl, w2_0⟩ := DataW.trod_int Tryd.underlying3 hy2_0
  obtain ⟨a2_1, e2_1, rfl, w2_1⟩ := DataW.trod_int Tryd.underlying3 hy2_1
  simp at e2_0 e2_1
  subst e2_0 e2_1
  obtain ⟨a3, rfl, rfl, rfl, w3⟩ := open_int Tryd.underlying3 (hval 3 3 v3 rfl rfl) h3
  obtain ⟨a4, rfl, rfl, rfl, y4⟩ := open_string Tryd.underlying9 (hval 4 9 v4 rfl rfl) h4
  have w4 : a4.size ≤ 140737488351232 := by
    have z := sized_string hsz (j := 4) (t := 9) rfl rfl
    rw [Array.length_toList] at z
    exact z
  refine (PFnBeamsEndOfAll.laws_FnBeamsEndOfAll.walk Pure.FnBeamsEndOfAll a0_0 a0_1 a1_0 a1_1 a1_2 a1_3 a2_0 a2_1 a3 a4 W w0_0 w0_1 w1_0 w1_1 w2_0 w2_1 w3 w4 hPt).mono fun e W' ⟨he, bel⟩ => ?_
  subst he
  exact ⟨_, rfl, _, _, _, [], _, [], hW', trodAll_mk1 (shut_bool Tryd.underlying4 _), (trodAll_cons_mk (Go.Joins.shut_agg2 (y0 := (.lit (.int .i64 a0_0), [])) (y1 := (.lit (.int .i64 a0_1), [])) Tryd.underlying23 (by kernel_rfl) (by kernel_rfl) ⟨1, trod_int_mk 0 Tryd.underlying3 w0_0⟩ ⟨1, trod_int_mk 0 Tryd.underlying3 w0_1⟩) (trodAll_cons_mk (Go.Joins.shut_agg4 (y0 := (.lit (.int .i64 a1_0), [])) (y1 := (.lit (.int .i64 a1_1), [])) (y2 := (.lit (.bool a1_2), [])) (y3 := (.lit (.bool a1_3), [])) Tryd.underlying25 (by kernel_rfl) (by kernel_rfl) ⟨1, trod_int_mk 0 Tryd.underlying3 w1_0⟩ ⟨1, trod_int_mk 0 Tryd.underlying3 w1_1⟩ ⟨1, trod_bool_mk Tryd.underlying4 _⟩ ⟨1, trod_bool_mk Tryd.underlying4 _⟩) (trodAll_cons_mk (Go.Joins.shut_agg2 (y0 := (.lit (.int .i64 a2_0), [])) (y1 := (.lit (.int .i64 a2_1), [])) Tryd.underlying23 (by kernel_rfl) (by kernel_rfl) ⟨1, trod_int_mk 0 Tryd.underlying3 w2_0⟩ ⟨1, trod_int_mk 0 Tryd.underlying3 w2_1⟩) (trodAll_cons_mk (shut_int Tryd.underlying3 w3) (trodAll_cons_mk (shut_string Tryd.underlying9 y4) trodAll_mk0))))), rfl, bel.frame _, fun h => by cases h⟩
theorem over : Rows.fnBeamsEndOfAllRow.holds Tryd.pinned (OpenSpec.ofChange Rows.fnBeamsEndOfAllSpec) :=
  OpenClaim.holds_of_wide 3 Tryd.f3 rfl rfl rfl rfl rfl rfl rfl ⟨rfl, rfl, rfl, rfl, rfl⟩ rfl rfl rfl rfl rfl (by kernel_rfl) Tryd.func3 (by kernel_rfl)
    (of_decide_eq_true (by kernel_rfl)) (by unfold Func.isWrapper; first | (rw [if_pos (by decide +kernel)]; kernel_rfl) | (rw [if_neg (by decide +kernel)]; exact ⟨rfl, rfl⟩))
    (fun os started H enc _ => lifted os started H enc)
theorem card : Rows.FnBeamsEndOfAllCardSaid :=
  Claim7.holds_tied_plain_at .later [] [.data, .data, .data, .sentinel, .sentinel] true (true, "fd23a192a261334ee270bf3f03a5ff6cefe47af6b2cbd0102a39e074dde4f845") true over (fun _ h => by cases h) (by kernel_rfl) (fun _ h => by cases h) fnBeamsEndOfAll_row_tie rfl ⟨rfl, rfl⟩ (by kernel_rfl) rfl
    (fun f fn hf hfn => by
      obtain rfl : f = 3 := Option.some.inj ((show Tryd.prog.funcNamed "loop.example/g01351/laws.FnBeamsEndOfAll" = some 3 by kernel_rfl).symm.trans hf) |>.symm
      obtain rfl : fn = Tryd.f3 := (Option.some.inj (Tryd.func3.symm.trans hfn)).symm
      exact ⟨by kernel_rfl, fun j t ht => by
        rw [Tryd.params3] at ht
        have hm : t ∈ [23, 25, 23, 3, 9] := by simpa using Array.mem_of_getElem? ht
        have hall : ([23, 25, 23, 3, 9].all fun u => !Tryd.prog.wantsStandIn u) = true := by kernel_rfl
        exact (show Tryd.prog.wantsStandIn t = false by simpa using List.all_eq_true.1 hall t hm)⟩)
    (by kernel_rfl)
#print axioms card
end Go.Proofs.YtlmiaadpnbehgaaDoor.fnBeamsEndOfAll
namespace Go.Proofs.YtlmiaadpnbehgaaDoor
/-- The tied card, under a short name, for the claim. -/
theorem fnBeamsEndOfAll_holds : Rows.FnBeamsEndOfAllCardSaid := fnBeamsEndOfAll.card
end Go.Proofs.YtlmiaadpnbehgaaDoor
