-- Written by split3.py: the law's walk behind cut 1.
import Derived.Test.YtlmiaadpnbehgaaGreatDoorVM
import Derived.Test.YtlmiaadpnbehgaaGreatDoorVF
import Derived.Test.YtlmiaadpnbehgaaGreatDoorVS
import Derived.Test.YtlmiaadpnbehgaaGreatDoorPFnBeamsEndx0
import Derived.Test.YtlmiaadpnbehgaaGreatDoorPFnBeamsEndx1
import Derived.Test.YtlmiaadpnbehgaaGreatDoorPFnBeamsEndx2
import Derived.Test.YtlmiaadpnbehgaaGreatDoorPFnBeamsEndx3
import Derived.Test.YtlmiaadpnbehgaaGreatDoorPFnBeamsEndx6
import Derived.Test.YtlmiaadpnbehgaaGreatDoorPFnBeamsEndx9
import Derived.Test.YtlmiaadpnbehgaaGreatDoorPFnBeamsEndx13
import Derived.Test.YtlmiaadpnbehgaaGreatDoorPFnBeamsEndx14
import Derived.Test.YtlmiaadpnbehgaaGreatDoorPFnBeamsEndx15
import Derived.Test.YtlmiaadpnbehgaaGreatDoorPFnBeamsEndx16
import Derived.Test.YtlmiaadpnbehgaaGreatDoorPFnBeamsEndx17
import Derived.Test.YtlmiaadpnbehgaaGreatDoorPFnBeamsEndx20
import Derived.Test.YtlmiaadpnbehgaaGreatDoorPFnBeamsEndx21
import Derived.Test.YtlmiaadpnbehgaaGreatDoorPFnBeamsEndx22
namespace Go.Proofs.YtlmiaadpnbehgaaGreatDoor.PFnBeamsEnd
open Go.Proofs.YtlmiaadpnbehgaaGreatDoorV Go.RowKit Go.Proofs.YtlmiaadpnbehgaaGreatDoorW.PrintWords Go.Proofs.YtlmiaadpnbehgaaGreatDoorW.PrintLast Go.Proofs.YtlmiaadpnbehgaaGreatDoorW.PrintMore
attribute [local go_sem] max2_int min2_int max_two min_two max_three min_three max_four min_four   -- for this text's walks alone
attribute [local go_sem ↓] rdl_zero rdl_succ eval_lit
set_option linter.unusedVariables false
set_option linter.unusedSimpArgs false
attribute [local go_sem high] eqA25 eqA27
set_option maxHeartbeats 100000000 in
set_option maxRecDepth 100000 in
theorem laws_FnBeamsEnd.rest1 (hR_ : laws_FnBeamsEnd.RestSaid2) : laws_FnBeamsEnd.RestSaid1 := by
 intro k A0 c0 l0 A1 c1 l1 r w b5 b3 b6 b7 b8 b9 c6 j6 V3 V4 h5 g7 C0 V5 V6 V7 d1 C1 V9 X0 e0 C2 X3 X4 d3 h6 u133 u134 u135 u136 u137 u138 u139 u140 u141 u142 u143 u144 u145 u146 u147 u148 u149 u150 u151 u152 u153 u154 u155 u156 u157 u158 u159 u160 u161 u162 u163 u164 u165 u166 u167 u168 u169 u170 u171 u172 u173 u174 u175 u176 u177 u178 u179 u180 u181 u182 u183 u184 u185 u186 u187 u188 u189 b2 wc u4 u25 u26 u27 u28 u29 u30 u191 u192 u193 u194 u195 u196 u197 u198 u199 u200 u201 u202 u203 u204 u205 u206 u207 u208 u209 u210 u211 u212 u213 u214 u215 u216 u217 u218 u219 u220 u221 u222 u223 u224 u225 u226 u227 u228 u229 u230 u231 u232 u233 u234 u235 u236 u237 u238 u239 u240 u241 u242 u243 u244 u245 u246 u247 u248 u249 u250 u251 u252 u253 u254 u255 u256 u257 u258 u259 u260 u261 u262 u263 u264 u265 u266 u267 u268 u269 u270 u271 u272 u273 u274 u275 u276 u277 u278 u279 u280 u281 u282 u283 u284 u285 u286 u287 u288 u289 kq HM V1 V2 x4 x5 HT_l A3 A5 A6 A7 A8 A9 A10 A11 A12 A13 bd7 bd8 bd9 be0 e3 e4 HJ13 HA HJ54 a2 a3 HB
 conv => enter [2]; whnf
 have bm2 := Tryz.underlying25
 have bm3 := Tryz.underlying27
 cases kq with
 | zero => exact absurd HA.out (by simp [laws_FnBeamsEnd.j2])
 | succ c8 => (
 as_aux_lemma => (
 have H := HA.out
 clear HA
 simp only [laws_FnBeamsEnd.j2] at H
 replace H := Option.bind_eq_some_iff.mp H; obtain ⟨⟨b0, b1⟩, G6, H⟩ := H; (try dsimp only at H); have a99 := Aside0.mk G6; clear G6
 replace H := Option.bind_eq_some_iff.mp H; obtain ⟨⟨m6, m7, j7⟩, G7, H⟩ := H; (try dsimp only at H); have aa0 := Aside0.mk G7; clear G7
 replace H := Option.bind_eq_some_iff.mp H; obtain ⟨⟨Y2, Y3, Y4⟩, G8, H⟩ := H; (try dsimp only at H); have aa1 := Aside0.mk G8; clear G8
 replace H := Option.bind_eq_some_iff.mp H; obtain ⟨⟨p9, q0, C6⟩, G9, H⟩ := H; (try dsimp only at H); have aa2 := Aside0.mk G9; clear G9
 replace H := Option.bind_eq_some_iff.mp H; obtain ⟨⟨Y5, Y6, Y7⟩, I0, H⟩ := H; (try dsimp only at H); have aa3 := Aside0.mk I0; clear I0
 replace H := Option.bind_eq_some_iff.mp H; obtain ⟨⟨m8, C7⟩, I1, H⟩ := H; (try dsimp only at H); have aa4 := Aside0.mk I1; clear I1
 replace H := Option.bind_eq_some_iff.mp H; obtain ⟨⟨Y8, Y9⟩, I2, H⟩ := H; (try dsimp only at H); have aa5 := Aside0.mk I2; clear I2
 replace H := Option.bind_eq_some_iff.mp H; obtain ⟨h7, I3, H⟩ := H; (try dsimp only at H); have aa6 := Aside0.mk I3; clear I3
 replace H := Option.bind_eq_some_iff.mp H; obtain ⟨⟨a8, m9⟩, I4, H⟩ := H; (try dsimp only at H); have aa7 := Aside0.mk I4; clear I4
 replace H := Option.bind_eq_some_iff.mp H; obtain ⟨⟨q1, Z0⟩, I5, H⟩ := H; (try dsimp only at H); have aa8 := Aside0.mk I5; clear I5
 replace H := Option.bind_eq_some_iff.mp H; obtain ⟨h8, I6, H⟩ := H; (try dsimp only at H); have aa9 := Aside0.mk I6; clear I6
 replace H := Option.bind_eq_some_iff.mp H; obtain ⟨⟨d7, d8, j8⟩, I7, H⟩ := H; (try dsimp only at H); have ab0 := Aside0.mk I7; clear I7
 replace H := Option.bind_eq_some_iff.mp H; obtain ⟨⟨g3, g4, Z1⟩, I8, H⟩ := H; (try dsimp only at H); have ab1 := Aside0.mk I8; clear I8
 have q2 := Aside0.mk H
 clear H
 go_upto_region 36 with (first | ((with_reducible refine gate_callee (f := 16) rfl ?_); refine goesL_ (some 291) rfl rfl Tryz.func16 kr rfl #[.slice A1 l1.length c1] rfl sM ?_; (with_reducible refine (spec_DrawMainBounces.calls _ _ l1 b0 b1 _ ?side1 ?side2 a99.out).mono ?_); (case side1 => repeat (first | exact (Kd.C_below x4.out HB.out) | (with_reducible refine Kd.C_alloc ?_ _) | (with_reducible refine Kd.C_drewN ?_ _) | (with_reducible refine Kd.C_drew ?_))); (case side2 => exact x5.out); rintro e bm7 ⟨rfl, hb⟩; refine ⟨_, rfl, ?_⟩; replace a2 := bQ a2 hb; replace a3 := bQ a3 hb; replace HB := Aside0.mk (below_step bB hb); (try clear hb)) | ((with_reducible refine gate_dst (N := 31) rfl ?_); (try (refine gate_guard (by rfl) ?_; dsimp only)); refine box_ (cs := #[.int .i64 0, .int .i64 0]) (t := 25) fun d6 hg bm8 hbox hb => ?_; have a4 := Aside0.mk (hbox); have bl1 := bS HB hg; have bl2 := bS HB hg; have k7 := bL a2 hg; have k8 := bM a2 hg; have k9 := bL a3 hg; have l2 := bM a3 hg; replace a2 := bQ a2 hb; replace a3 := bQ a3 hb; replace HB := Aside0.mk (below_step bB hb); clear hb hbox hg; have az7 := k8.out; have az8 := k7.out; have az9 := l2.out; have b00 := k9.out; obtain ⟨ab2, ab3, ab4, ab5⟩ := cf2 a4) | ((with_reducible refine gate_callee (f := 17) rfl ?_); refine goesL_ (some 294) rfl rfl Tryz.func17 kr rfl #[.agg #[.int .i64 b0, .int .i64 b1]] rfl sM ?_; (with_reducible refine (impl_MainBounces.calls c8 b0 b1 m6 m7 j7 _ aa0.out).mono ?_); rintro e bm9 ⟨rfl, hb⟩; refine ⟨_, rfl, ?_⟩; replace a2 := bQ a2 hb; replace a3 := bQ a3 hb; replace a4 := (bP (.cells #[.int .i64 b0, .int .i64 b1] 25 (0, 0)) a4 hb); replace HB := Aside0.mk (below_step bB hb); (try clear hb); obtain ⟨ab6, ab7, ab8, ab9⟩ := cf2 a4) | ((with_reducible refine gate_callee (f := 18) rfl ?_); refine goesL_ (some 300) rfl rfl Tryz.func18 kr rfl #[.agg #[.int .i64 b0, .int .i64 b1]] rfl sM ?_; (with_reducible refine (spec_MainBounces.calls c8 b0 b1 Y2 Y3 Y4 _ aa1.out).mono ?_); rintro e bn0 ⟨rfl, hb⟩; refine ⟨_, rfl, ?_⟩; replace a2 := bQ a2 hb; replace a3 := bQ a3 hb; replace a4 := bQ a4 hb; replace HB := Aside0.mk (below_step bB hb); (try clear hb); obtain ⟨ac0, ac1, ac2, ac3⟩ := cf2 a4) | ((with_reducible refine gate_callee (f := 19) rfl ?_); refine goesL_ (some 306) rfl rfl Tryz.func19 kr rfl #[.agg #[.int .i64 b0, .int .i64 b1]] rfl sM ?_; (with_reducible refine (impl_MainCorner.calls c8 b0 b1 p9 q0 C6 _ aa2.out).mono ?_); rintro e bn1 ⟨rfl, hb⟩; refine ⟨_, rfl, ?_⟩; replace a2 := bQ a2 hb; replace a3 := bQ a3 hb; replace a4 := bQ a4 hb; replace HB := Aside0.mk (below_step bB hb); (try clear hb); obtain ⟨ac4, ac5, ac6, ac7⟩ := cf2 a4) | ((with_reducible refine gate_callee (f := 20) rfl ?_); refine goesL_ (some 312) rfl rfl Tryz.func20 kr rfl #[.agg #[.int .i64 b0, .int .i64 b1]] rfl sM ?_; (with_reducible refine (spec_MainCorner.calls c8 b0 b1 Y5 Y6 Y7 _ aa3.out).mono ?_); rintro e bn2 ⟨rfl, hb⟩; refine ⟨_, rfl, ?_⟩; replace a2 := bQ a2 hb; replace a3 := bQ a3 hb; replace a4 := bQ a4 hb; replace HB := Aside0.mk (below_step bB hb); (try clear hb); obtain ⟨ac8, ac9, ad0, ad1⟩ := cf2 a4) | ((with_reducible refine gate_callee (f := 21) rfl ?_); refine goesL_ (some 318) rfl rfl Tryz.func21 kr rfl #[.agg #[.int .i64 b0, .int .i64 b1]] rfl sM ?_; (with_reducible refine (impl_TableText.calls b0 b1 m8 C7 _ aa4.out (HM.out.below (by repeat (first | (with_reducible first | exact HB.out | apply below_alloc | apply pw_below_drewN | apply below_drew1 | refine below_set ?_ (Aside0.out (by assumption))) | exact HB.out)))).mono ?_); rintro e bn3 ⟨rfl, hb⟩; refine ⟨_, rfl, ?_⟩; replace a2 := bQ a2 hb; replace a3 := bQ a3 hb; replace a4 := bQ a4 hb; replace HB := Aside0.mk (below_step bB hb); (try clear hb); obtain ⟨ad2, ad3, ad4, ad5⟩ := cf2 a4) | ((with_reducible refine gate_callee (f := 22) rfl ?_); refine goesL_ (some 323) rfl rfl Tryz.func22 kr rfl #[.agg #[.int .i64 b0, .int .i64 b1]] rfl sM ?_; (with_reducible refine (spec_TableText.calls c8 b0 b1 Y8 Y9 _ aa5.out).mono ?_); rintro e bn4 ⟨rfl, hb⟩; refine ⟨_, rfl, ?_⟩; replace a2 := bQ a2 hb; replace a3 := bQ a3 hb; replace a4 := bQ a4 hb; replace HB := Aside0.mk (below_step bB hb); (try clear hb)) | ((with_reducible refine gate_callee (f := 23) rfl ?_); refine goesL_ (some 327) rfl rfl Tryz.func23 kr rfl #[.slice A1 l1.length c1] rfl sM ?_; (with_reducible refine (spec_DrawTablesFor.calls _ _ l1 h7 _ ?side1 ?side2 aa6.out).mono ?_); (case side1 => repeat (first | exact (Kd.C_below x4.out HB.out) | (with_reducible refine Kd.C_alloc ?_ _) | (with_reducible refine Kd.C_drewN ?_ _) | (with_reducible refine Kd.C_drew ?_))); (case side2 => exact x5.out); rintro e bn5 ⟨rfl, hb⟩; refine ⟨_, rfl, ?_⟩; replace a2 := bQ a2 hb; replace a3 := bQ a3 hb; replace a4 := bQ a4 hb; replace HB := Aside0.mk (below_step bB hb); (try clear hb)) | ((with_reducible refine gate_callee (f := 24) rfl ?_); refine goesL_ (some 330) rfl rfl Tryz.func24 kr rfl #[.int .i64 h7] rfl sM ?_; (with_reducible refine (impl_TablesFor.calls c8 h7 a8 m9 _ aa7.out).mono ?_); rintro e bn6 ⟨q3, rfl, n2, hb⟩; refine ⟨_, rfl, ?_⟩; have b4 := Aside0.mk (Kd.R_lower (Kd.R_newB (Kd.R_newB n2 (g := d3) (o := .cells #[.int .i64 b5, .int .i64 b3] 25 (0, 0)) (bK a2)) (g := d6) (o := .cells #[.int .i64 b0, .int .i64 b1] 25 (0, 0)) (bK a4)) (below_size bB)); replace a2 := bQ a2 hb; replace a3 := bQ a3 hb; replace a4 := bQ a4 hb; replace HB := Aside0.mk (below_step bB hb); (try clear hb); (try clear n2)) | ((with_reducible refine gate_callee (f := 25) rfl ?_); refine goesL_ (some 335) rfl rfl Tryz.func25 kr rfl #[.int .i64 h7] rfl sM ?_; (with_reducible refine (spec_TablesFor.calls c8 h7 q1 Z0 _ aa8.out).mono ?_); rintro e bn7 ⟨Z2, rfl, n2, hb⟩; refine ⟨_, rfl, ?_⟩; have c3 := Aside0.mk (Kd.R_lower (Kd.R_newB (Kd.R_newB (Kd.R_new' n2 (Kd.R_lt (oR b4))) (g := d3) (o := .cells #[.int .i64 b5, .int .i64 b3] 25 (0, 0)) (bK a2)) (g := d6) (o := .cells #[.int .i64 b0, .int .i64 b1] 25 (0, 0)) (bK a4)) (below_size bB)); replace b4 := Aside0.mk (Kd.R_elder' (oR b4) (Kd.R_base n2) hb); replace a2 := bQ a2 hb; replace a3 := bQ a3 hb; replace a4 := bQ a4 hb; replace HB := Aside0.mk (below_step bB hb); (try clear hb); (try clear n2)) | ((with_reducible refine gate_callee (f := 26) rfl ?_); refine goesL_ (some 339) rfl rfl Tryz.func26 kr rfl #[.slice A1 l1.length c1] rfl sM ?_; (with_reducible refine (spec_DrawParseTable.calls c8 _ _ l1 h8 _ ?side1 ?side2 aa9.out).mono ?_); (case side1 => repeat (first | exact (Kd.C_below x4.out HB.out) | (with_reducible refine Kd.C_alloc ?_ _) | (with_reducible refine Kd.C_drewN ?_ _) | (with_reducible refine Kd.C_drew ?_))); (case side2 => exact x5.out); rintro e bn8 ⟨rfl, hb⟩; refine ⟨_, rfl, ?_⟩; replace b4 := Aside0.mk (Kd.R_below (oR b4) hb); replace c3 := Aside0.mk (Kd.R_below (oR c3) hb); replace a2 := bQ a2 hb; replace a3 := bQ a3 hb; replace a4 := bQ a4 hb; replace HB := Aside0.mk (below_step bB hb); (try clear hb)) | ((with_reducible refine gate_callee (f := 27) rfl ?_); refine goesL_ (some 342) rfl rfl Tryz.func27 kr rfl #[.string h8] rfl sM ?_; (with_reducible refine (impl_ParseTable.calls h8 d7 d8 j8 _ ab0.out (HM.out.below (by repeat (first | (with_reducible first | exact HB.out | apply below_alloc | apply pw_below_drewN | apply below_drew1 | refine below_set ?_ (Aside0.out (by assumption))) | exact HB.out)))).mono ?_); rintro e bn9 ⟨rfl, hb⟩; refine ⟨_, rfl, ?_⟩; replace b4 := Aside0.mk (Kd.R_below (oR b4) hb); replace c3 := Aside0.mk (Kd.R_below (oR c3) hb); replace a2 := bQ a2 hb; replace a3 := bQ a3 hb; replace a4 := bQ a4 hb; replace HB := Aside0.mk (below_step bB hb); (try clear hb)) | ((with_reducible refine gate_dst (N := 54) rfl ?_); (try (refine gate_guard (by rfl) ?_; dsimp only)); refine box_ (cs := #[.int .i64 0, .int .i64 0]) (t := 25) fun c9 hg bo0 hbox hb => ?_; have a5 := Aside0.mk (hbox); have bl3 := bS HB hg; have bl4 := bS HB hg; have l3 := bL a2 hg; have l4 := bM a2 hg; have l5 := bL a3 hg; have l6 := bM a3 hg; have i0 := bL a4 hg; have i1 := bM a4 hg; replace b4 := Aside0.mk (Kd.R_below (Kd.R_elderB (oR b4) c9 (Nat.le_of_eq hg.symm)) hb); replace c3 := Aside0.mk (Kd.R_below (Kd.R_elderB (oR c3) c9 (Nat.le_of_eq hg.symm)) hb); replace a2 := bQ a2 hb; replace a3 := bQ a3 hb; replace a4 := bQ a4 hb; replace HB := Aside0.mk (below_step bB hb); clear hb hbox hg; have b01 := l4.out; have b02 := l3.out; have b03 := l6.out; have b04 := l5.out; have b05 := i1.out; have b06 := i0.out; obtain ⟨ad6, ad7, ad8, ad9⟩ := cf2 a5) | ((with_reducible refine gate_callee (f := 28) rfl ?_); refine goesL_ (some 347) rfl rfl Tryz.func28 kr rfl #[.string h8] rfl sM ?_; (with_reducible refine (spec_ParseTable.calls c8 h8 g3 g4 Z1 _ ab1.out).mono ?_); rintro e bo1 ⟨rfl, hb⟩; refine ⟨_, rfl, ?_⟩; replace b4 := Aside0.mk (Kd.R_below (by (with_reducible repeat (first | apply Kd.R_alloc | apply Kd.R_drewN | apply Kd.R_drew)); exact (Kd.R_mono (Kd.R_far (p := ⟨c9, 1, none⟩) (Kd.R_far (p := ⟨c9, 0, none⟩) (Kd.R_mono b4.out (fun k_ hk => (⟨hk, hk.2⟩ : _ ∧ k_ ≠ c9))) (fun _ hk => hk.2) (.int .i64 d7)) (fun _ hk => hk.2) (.int .i64 d8)) (fun _ h_ => h_.1))) hb); replace c3 := Aside0.mk (Kd.R_below (by (with_reducible repeat (first | apply Kd.R_alloc | apply Kd.R_drewN | apply Kd.R_drew)); exact (Kd.R_mono (Kd.R_far (p := ⟨c9, 1, none⟩) (Kd.R_far (p := ⟨c9, 0, none⟩) (Kd.R_mono c3.out (fun k_ hk => (⟨hk, hk.2⟩ : _ ∧ k_ ≠ c9))) (fun _ hk => hk.2) (.int .i64 d7)) (fun _ hk => hk.2) (.int .i64 d8)) (fun _ h_ => h_.1))) hb); replace a2 := bQ a2 hb; replace a3 := bQ a3 hb; replace a4 := bQ a4 hb; replace a5 := (bP (.cells #[.int .i64 d7, .int .i64 d8] 25 (0, 0)) a5 hb); replace HB := Aside0.mk (below_step bB hb); (try clear hb); (try clear hk)) | ((with_reducible refine gate_dst (N := 56) rfl ?_); (try (refine gate_guard (by rfl) ?_; dsimp only)); refine box_ (cs := #[.int .i64 0, .int .i64 0]) (t := 25) fun c2 hg C8 hbox hb => ?_; have a7 := Aside0.mk (hbox); have bl5 := bS HB hg; have bl6 := bS HB hg; have y2 := bL a2 hg; have y3 := bM a2 hg; have y4 := bL a3 hg; have y5 := bM a3 hg; have l7 := bL a4 hg; have l8 := bM a4 hg; have l9 := bL a5 hg; have m0 := bM a5 hg; replace b4 := Aside0.mk (Kd.R_below (Kd.R_elderB (oR b4) c2 (Nat.le_of_eq hg.symm)) hb); replace c3 := Aside0.mk (Kd.R_below (Kd.R_elderB (oR c3) c2 (Nat.le_of_eq hg.symm)) hb); replace a2 := bQ a2 hb; replace a3 := bQ a3 hb; replace a4 := bQ a4 hb; replace a5 := bQ a5 hb; replace HB := Aside0.mk (below_step bB hb); clear hb hbox hg; have b07 := y3.out; have b08 := y2.out; have b09 := y5.out; have b10 := y4.out; have b11 := l8.out; have b12 := l7.out; have b13 := m0.out; have b14 := l9.out; obtain ⟨ae0, ae1, ae2, ae3⟩ := cf2 a7))
 (try simp only [Act.put, List.setIfInBounds_toArray, List.set_cons_zero, List.set_cons_succ])
 go_cut [431] from 431 to 431 (fun ae4 wc => ∃ (kq : Nat) (h9 : Bool), ae4 = .bool h9 ∧ Aside0 (laws_FnBeamsEnd.j3 kq m6 m7 j7 p9 q0 m8 h7 a8 m9 h8 j8 h9 b0 b1 d7 d8 = some r) ∧ Aside0 (kq ≤ c8) ∧ Aside0 (Kd.R k25 25 wc w.heap.size (fun k_ => k_ ≠ d3 ∧ k_ ≠ d6 ∧ k_ ≠ c9 ∧ k_ ≠ c2) q3 a8) ∧ Aside0 (wc.heap[d3]? = some (.cells #[.int .i64 b5, .int .i64 b3] 25 (0, 0))) ∧ Aside0 (wc.heap[h6]? = some (.cells #[.int .i64 b6, .int .i64 b7, .bool b8, .bool b9] 27 (0, 0))) ∧ Aside0 (wc.heap[d6]? = some (.cells #[.int .i64 b0, .int .i64 b1] 25 (0, 0))) ∧ Aside0 (wc.heap[c9]? = some (.cells #[.int .i64 d7, .int .i64 d8] 25 (0, 0))) ∧ Aside0 (wc.heap[c2]? = some (.cells #[.int .i64 g3, .int .i64 g4] 25 (0, 0))) ∧ Aside0 (Below w.heap.size w wc))
 case first => (
 as_aux_lemma => (
 have H := q2.out
 clear q2
 by_cases q4 : (j7 != Y4) = true
 ·(
 rw [if_pos q4] at H
 exact absurd H (by cases c8 <;> simp [laws_FnBeamsEnd.j3, HT_l.out])
 )
 rw [if_neg q4] at H
 obtain ⟨y6, b15, b16⟩ := nf q4
 clear q4
 (first | rw [y6] | (simp only [i64_w, i32_w]; rw [y6]) | skip)
 by_cases q5 : m6 = Y2
 ·(
 rw [if_pos q5] at H
 obtain ⟨b17, b18⟩ := yE q5
 clear q5
 by_cases q6 : m7 = Y3
 ·(
 rw [if_pos q6] at H
 obtain ⟨b19, b20⟩ := yE q6
 clear q6
 by_cases q7 : (C6 != Y7) = true
 ·(
 rw [if_pos q7] at H
 exact absurd H (by cases c8 <;> simp [laws_FnBeamsEnd.j3, HT_l.out])
 )
 rw [if_neg q7] at H
 obtain ⟨b21, b22, b23⟩ := nf q7
 clear q7
 by_cases q8 : p9 = Y5
 ·(
 rw [if_pos q8] at H
 obtain ⟨b24, b25⟩ := yE q8
 clear q8
 by_cases q9 : q0 = Y6
 ·(
 rw [if_pos q9] at H
 obtain ⟨b26, b27⟩ := yE q9
 clear q9
 by_cases r0 : (C7 != Y9) = true
 ·(
 rw [if_pos r0] at H
 exact absurd H (by cases c8 <;> simp [laws_FnBeamsEnd.j3, HT_l.out])
 )
 rw [if_neg r0] at H
 obtain ⟨b28, b29, b30⟩ := nf r0
 clear r0
 by_cases r1 : m8.toList = Y8.toList
 ·(
 rw [if_pos r1] at H
 obtain ⟨b31, b32⟩ := yE r1
 clear r1
 by_cases r2 : (m9 != Z0) = true
 ·(
 rw [if_pos r2] at H
 exact absurd H (by cases c8 <;> simp [laws_FnBeamsEnd.j3, HT_l.out])
 )
 rw [if_neg r2] at H
 obtain ⟨b33, b34, b35⟩ := nf r2
 clear r2
 replace H := Option.bind_eq_some_iff.mp H; obtain ⟨ae5, I9, H⟩ := H; (try dsimp only at H); have ae6 := Aside0.mk I9; clear I9
 by_cases r3 : ae5 = true
 ·(
 subst r3
 rw [if_pos rfl] at H
 by_cases r4 : (j8 != Z1) = true
 ·(
 rw [if_pos r4] at H
 exact absurd H (by cases c8 <;> simp [laws_FnBeamsEnd.j3, HT_l.out])
 )
 rw [if_neg r4] at H
 obtain ⟨b36, b37, b38⟩ := nf r4
 clear r4
 by_cases r5 : (!(d7 == g3) || (!(d8 == g4))) = true
 ·(
 rw [if_pos r5] at H
 exact absurd H (by cases c8 <;> simp [laws_FnBeamsEnd.j3, HT_l.out])
 )
 rw [if_neg r5] at H
 have b39 : (!(d7 == g3) || (!(d8 == g4))) = false := by simpa using r5
 clear r5
 by_cases r6 : (C6 != j7) = true
 ·(
 rw [if_pos r6] at H
 exact absurd H (by cases c8 <;> simp [laws_FnBeamsEnd.j3, HT_l.out])
 )
 rw [if_neg r6] at H
 obtain ⟨b40, b41, b42⟩ := nf r6
 clear r6
 by_cases r7 : (C7 != j7) = true
 ·(
 rw [if_pos r7] at H
 exact absurd H (by cases c8 <;> simp [laws_FnBeamsEnd.j3, HT_l.out])
 )
 rw [if_neg r7] at H
 obtain ⟨b43, b44, b45⟩ := nf r7
 clear r7
 replace H := Option.bind_eq_some_iff.mp H; obtain ⟨Z3, J0, H⟩ := H; (try dsimp only at H); have ae7 := Aside0.mk J0; clear J0
 by_cases r8 : (j7 != Z3) = true
 ·(
 rw [if_pos r8] at H
 exact absurd H (by cases c8 <;> simp [laws_FnBeamsEnd.j3, HT_l.out])
 )
 rw [if_neg r8] at H
 obtain ⟨b46, b47, b48⟩ := nf r8
 clear r8
 replace H := Option.bind_eq_some_iff.mp H; obtain ⟨Z4, J1, H⟩ := H; (try dsimp only at H); have ae8 := Aside0.mk J1; clear J1
 replace H := Option.bind_eq_some_iff.mp H; obtain ⟨Z5, J2, H⟩ := H; (try dsimp only at H); have ae9 := Aside0.mk J2; clear J2
 have H' := Aside0.mk H
 clear H
 repeat (go_not_at_region 36; go_not_at_region 51; first | (with_reducible refine rgl ?_) | go_skip | go_guarded | go_step | go_upon)
 have n0_ : Aside0 (Kd.R k25 25 ((C8.setCell ⟨c2, 0, none⟩ (.int .i64 g3)).setCell ⟨c2, 1, none⟩ (.int .i64 g4)) w.heap.size (fun k_ => some k_ ≠ (Z2 : Value).ownBlock ∧ k_ ≠ d3 ∧ k_ ≠ d6 ∧ k_ ≠ c9 ∧ k_ ≠ c2) q3 a8) := ⟨by (with_reducible repeat (first | apply Kd.R_alloc | apply Kd.R_drewN | apply Kd.R_drew)); exact Kd.R_mono (Kd.R_far (p := ⟨c2, 1, none⟩) (Kd.R_far (p := ⟨c2, 0, none⟩) (Kd.R_mono b4.out (fun k_ hk => (⟨hk, hk.2⟩ : _ ∧ k_ ≠ c2))) (fun _ hk => hk.2) (.int .i64 g3)) (fun _ hk => hk.2) (.int .i64 g4)) (fun _ hk => ⟨hk.1.1.1.2, ⟨hk.1.1.1.1.1.2, ⟨hk.1.1.1.1.2, ⟨hk.1.1.2, hk.1.2⟩⟩⟩⟩)⟩
 have n1_ : Aside0 (Kd.R k25 25 ((C8.setCell ⟨c2, 0, none⟩ (.int .i64 g3)).setCell ⟨c2, 1, none⟩ (.int .i64 g4)) w.heap.size (fun k_ => some k_ ≠ (q3 : Value).ownBlock ∧ k_ ≠ d3 ∧ k_ ≠ d6 ∧ k_ ≠ c9 ∧ k_ ≠ c2) Z2 q1) := ⟨by (with_reducible repeat (first | apply Kd.R_alloc | apply Kd.R_drewN | apply Kd.R_drew)); exact Kd.R_mono (Kd.R_far (p := ⟨c2, 1, none⟩) (Kd.R_far (p := ⟨c2, 0, none⟩) (Kd.R_mono c3.out (fun k_ hk => (⟨hk, hk.2⟩ : _ ∧ k_ ≠ c2))) (fun _ hk => hk.2) (.int .i64 g3)) (fun _ hk => hk.2) (.int .i64 g4)) (fun _ hk => ⟨hk.1.1.1.1.1.2, ⟨hk.1.1.1.1.2, ⟨hk.1.1.1.2, ⟨hk.1.1.2, hk.1.2⟩⟩⟩⟩)⟩
 generalize hW_ : ((C8.setCell ⟨c2, 0, none⟩ (.int .i64 g3)).setCell ⟨c2, 1, none⟩ (.int .i64 g4)) = af0 at n0_ n1_ ⊢
 have nB_ := bG HB hW_
 replace a2 := bF hW_ a2
 replace a3 := bF hW_ a3
 replace a4 := bF hW_ a4
 replace a5 := bF hW_ a5
 replace a7 := bFp hW_ (.cells #[.int .i64 g3, .int .i64 g4] 25 (0, 0)) a7
 try clear b4
 have b4 := n0_
 clear n0_
 try clear c3
 have c3 := n1_
 clear n1_ HB
 have HB := nB_
 clear nB_ hW_
 replace b4 := Aside0.mk (Kd.R_drew b4.out)
 replace c3 := Aside0.mk (Kd.R_drew c3.out)
 replace a2 := bD1 a2
 replace a3 := bD1 a3
 replace a4 := bD1 a4
 replace a5 := bD1 a5
 replace a7 := bD1 a7
 replace HB := Aside0.mk (below_drew1 HB.out)
 obtain ⟨a06, a07, J3⟩ := Kd.R_slice b4.out
 (first | subst J3 | (injection J3 with f1_ f2_ f3_; have f4_ := f1_.symm; have f5_ := f3_.symm; clear f1_ f2_ f3_; subst f4_; subst f5_))
 obtain ⟨a08, a09, J4⟩ := Kd.R_slice c3.out
 (first | subst J4 | (injection J4 with f1_ f2_ f3_; have f4_ := f1_.symm; have f5_ := f3_.symm; clear f1_ f2_ f3_; subst f4_; subst f5_))
 refine st_ 82 laws_FnBeamsEnd.pl0 (S := fun w' => w'.cell? ⟨c9, 0, none⟩ = some (.int .i64 d7) ∧ w'.cell? ⟨c9, 1, none⟩ = some (.int .i64 d8) ∧ w'.cell? ⟨c2, 0, none⟩ = some (.int .i64 g3) ∧ w'.cell? ⟨c2, 1, none⟩ = some (.int .i64 g4) ∧ w'.cell? ⟨d6, 0, none⟩ = some (.int .i64 b0) ∧ w'.cell? ⟨d6, 1, none⟩ = some (.int .i64 b1)) (ds := []) laws_FnBeamsEnd.tab36 laws_FnBeamsEnd.bits36 cS (fun hHeld HT_ HW_ => ?_)
 generalize af0.drew = bo2 at b4 c3 a2 a3 a4 a5 a7 HB hHeld ⊢
 (try clear ab2); (try clear ab3); (try clear ab4); (try clear ab5); (try clear ab6); (try clear ab7); (try clear ab8); (try clear ab9); (try clear ac0); (try clear ac1); (try clear ac2); (try clear ac3); (try clear ac4); (try clear ac5); (try clear ac6); (try clear ac7); (try clear ac8); (try clear ac9); (try clear ad0); (try clear ad1); (try clear ad2); (try clear ad3); (try clear ad4); (try clear ad5); (try clear ad6); (try clear ad7); (try clear ad8); (try clear ad9); (try clear ae0); (try clear ae1); (try clear ae2); (try clear ae3); (try clear az7); (try clear az8); (try clear az9); (try clear b00); (try clear b01); (try clear b02); (try clear b03); (try clear b04); (try clear b05); (try clear b06); (try clear b07); (try clear b08); (try clear b09); (try clear b10); (try clear b11); (try clear b12); (try clear b13); (try clear b14)
 iterate 46 refine rA HT_ ?_
 refine pO HT_ fun K hK => ?_
 refine goes_ Tryz.func29 kr rfl #[.slice a06 a8.length a07, .slice a08 q1.length a09] (by rfl) rfl rfl sM ?_
 with_reducible refine (laws_jTables.calls c8 _ _ a8 _ _ q1 true _ ?side1 ?side2 ?side3 ?side4 ae6.out).mono ?_
 (case side1 => repeat (first | exact (Kd.R_reads' b4.out).2.2 | (with_reducible refine Kd.C_alloc ?_ _) | (with_reducible refine Kd.C_drewN ?_ _) | (with_reducible refine Kd.C_drew ?_)))
 (case side2 => exact (Kd.R_reads' b4.out).2.1)
 (case side3 => repeat (first | exact (Kd.R_reads' c3.out).2.2 | (with_reducible refine Kd.C_alloc ?_ _) | (with_reducible refine Kd.C_drewN ?_ _) | (with_reducible refine Kd.C_drew ?_)))
 (case side4 => exact (Kd.R_reads' c3.out).2.1)
 rintro e w' ⟨rfl, ⟨nd, rfl⟩⟩
 refine ⟨_, rfl, ?_⟩
 refine hK.out _ _ cS (fun hHeld => ?_)
 clear hK K
 refine nP ?_
 iterate 25 (first | refine rA HT_ ?_ | refine rT HT_ HW_ hHeld ?_)
 refine pO HT_ fun K hK => ?_
 refine goes_ Tryz.func30 kr rfl #[.agg #[.int .i64 b0, .int .i64 b1]] (by rfl) rfl rfl sM ?_
 with_reducible refine (impl_IsTable.calls b0 b1 Z3 _ ae7.out).mono ?_
 rintro e bo3 ⟨rfl, hb⟩
 refine ⟨_, rfl, ?_⟩
 replace b4 := Aside0.mk (Kd.R_below (oR b4) hb)
 replace c3 := Aside0.mk (Kd.R_below (oR c3) hb)
 replace a2 := bQ a2 hb
 replace a3 := bQ a3 hb
 replace a4 := bQ a4 hb
 replace a5 := bQ a5 hb
 replace a7 := bQ a7 hb
 replace HB := Aside0.mk (below_step bB hb)
 try clear hb
 refine hK.out _ _ cS (fun hHeld => ?_)
 clear hK K
 refine nP ?_
 iterate 5 (first | refine rA HT_ ?_ | refine rT HT_ HW_ hHeld ?_)
 refine pO HT_ fun K hK => ?_
 refine goes_ Tryz.func30 kr rfl #[.agg #[.int .i64 b0, .int .i64 b1]] (by rfl) rfl rfl sM ?_
 with_reducible refine (impl_IsTable.calls b0 b1 Z4 _ ae8.out).mono ?_
 rintro e bo4 ⟨rfl, hb⟩
 refine ⟨_, rfl, ?_⟩
 replace b4 := Aside0.mk (Kd.R_below (oR b4) hb)
 replace c3 := Aside0.mk (Kd.R_below (oR c3) hb)
 replace a2 := bQ a2 hb
 replace a3 := bQ a3 hb
 replace a4 := bQ a4 hb
 replace a5 := bQ a5 hb
 replace a7 := bQ a7 hb
 replace HB := Aside0.mk (below_step bB hb)
 try clear hb
 refine hK.out _ _ cS (fun hHeld => ?_)
 clear hK K
 refine nP ?_
 refine pO HT_ fun K hK => ?_
 refine goes_ Tryz.func31 kr rfl #[.agg #[.int .i64 b0, .int .i64 b1]] (by rfl) rfl rfl sM ?_
 with_reducible refine (spec_IsTable.calls b0 b1 Z5 _ ae9.out).mono ?_
 rintro e bo5 ⟨rfl, hb⟩
 refine ⟨_, rfl, ?_⟩
 replace b4 := Aside0.mk (Kd.R_below (oR b4) hb)
 replace c3 := Aside0.mk (Kd.R_below (oR c3) hb)
 replace a2 := bQ a2 hb
 replace a3 := bQ a3 hb
 replace a4 := bQ a4 hb
 replace a5 := bQ a5 hb
 replace a7 := bQ a7 hb
 replace HB := Aside0.mk (below_step bB hb)
 try clear hb
 refine hK.out _ _ cS (fun hHeld => ?_)
 clear hK K
 refine nP ?_
 iterate 2 refine rA HT_ ?_
 refine pD HT_ ?_
 repeat (go_not_at_region 36; go_not_at_region 51; first | (with_reducible refine rgl ?_) | go_skip | go_guarded | go_step | go_upon)
 (try rw [dSet])
 go_meet
 case rel => exact ⟨_, ((Z4 != Z5)), sR, H', ⟨laws_FnBeamsEnd.jx⟩, ⟨by (with_reducible repeat (first | apply Kd.R_alloc | apply Kd.R_drewN | apply Kd.R_drew)); exact Kd.R_mono b4.out (fun _ hk => ⟨hk.2.1, ⟨hk.2.2.1, ⟨hk.2.2.2.1, hk.2.2.2.2⟩⟩⟩)⟩, (bA a2), (bA a3), (bA a4), (bA a5), (bA a7), ⟨bB⟩⟩
 )
 replace r3 := Bool.eq_false_iff.mpr r3
 subst r3
 rw [if_neg nft] at H
 exact absurd H (by cases c8 <;> simp [laws_FnBeamsEnd.j3, HT_l.out])
 )
 rw [if_neg r1] at H
 exact absurd H (by cases c8 <;> simp [laws_FnBeamsEnd.j3, HT_l.out])
 )
 rw [if_neg q9] at H
 exact absurd H (by cases c8 <;> simp [laws_FnBeamsEnd.j3, HT_l.out])
 )
 rw [if_neg q8] at H
 exact absurd H (by cases c8 <;> simp [laws_FnBeamsEnd.j3, HT_l.out])
 )
 rw [if_neg q6] at H
 exact absurd H (by cases c8 <;> simp [laws_FnBeamsEnd.j3, HT_l.out])
 )
 rw [if_neg q5] at H
 exact absurd H (by cases c8 <;> simp [laws_FnBeamsEnd.j3, HT_l.out])
 )
 )
 clear q2
 obtain ⟨kq, h9, rfl, HA, HJ174, a9, a2, a3, a4, a5, a7, HB⟩ := hcut
 rename_i K1_ aK1_ K_ aK_
 exact aK_ _ _ (hR_ k A0 c0 l0 A1 c1 l1 r w b5 b3 b6 b7 b8 b9 c6 j6 V3 V4 h5 g7 C0 V5 V6 V7 d1 C1 V9 X0 e0 C2 X3 X4 d3 h6 u133 u134 u135 u136 u137 u138 u139 u140 u141 u142 u143 u144 u145 u146 u147 u148 u149 u150 u151 u152 u153 u154 u155 u156 u157 u158 u159 u160 u161 u162 u163 u164 u165 u166 u167 u168 u169 u170 u171 u172 u173 u174 u175 u176 u177 u178 u179 u180 u181 u182 u183 u184 u185 u186 u187 u188 u189 b2 u4 u25 u26 u27 u28 u29 u30 u191 u192 u193 u194 u195 u196 u197 u198 u199 u200 u201 u202 u203 u204 u205 u206 u207 u208 u209 u210 u211 u212 u213 u214 u215 u216 u217 u218 u219 u220 u221 u222 u223 u224 u225 u226 u227 u228 u229 u230 u231 u232 u233 u234 u235 u236 u237 u238 u239 u240 u241 u242 u243 u244 u245 u246 u247 u248 u249 u250 u251 u252 u253 u254 u255 u256 u257 u258 u259 u260 u261 u262 u263 u264 u265 u266 u267 u268 u269 u270 u271 u272 u273 u274 u275 u276 u277 u278 u279 u280 u281 u282 u283 u284 u285 u286 u287 u288 u289 c8 b0 b1 m6 m7 j7 Y2 Y3 Y4 p9 q0 C6 Y5 Y6 Y7 m8 C7 Y8 Y9 h7 a8 m9 q1 Z0 h8 d7 d8 j8 g3 g4 Z1 d6 q3 Z2 c9 c2 wc u350 u351 u352 u353 u354 u355 u356 u357 u358 u359 u360 u361 u362 u363 u364 u365 u366 u367 u368 u369 u370 u371 u372 u373 u374 u375 u376 u377 u378 u379 u380 u381 u382 u383 u384 u385 u386 u387 u388 u389 u390 u391 u392 u393 u394 u395 u396 u397 u398 u399 u400 u401 u402 u403 u404 u405 u406 u407 u408 u409 u410 u411 u412 u413 u414 u415 u416 u417 u418 u419 u420 u421 u422 u423 u424 u425 u426 u427 u428 u429 u430 kq h9 HM V1 V2 x4 x5 HT_l A3 A5 A6 A7 A8 A9 A10 A11 A12 A13 bd7 bd8 bd9 be0 e3 e4 HJ13 HJ54 a99 aa0 aa1 aa2 aa3 aa4 aa5 aa6 aa7 aa8 aa9 ab0 ab1 bl1 bl2 k7 k8 k9 l2 bl3 bl4 l3 l4 l5 l6 i0 i1 bl5 bl6 y2 y3 y4 y5 l7 l8 l9 m0 HA HJ174 a9 a2 a3 a4 a5 a7 HB K1_ aK1_)
 )
 )
end Go.Proofs.YtlmiaadpnbehgaaGreatDoor.PFnBeamsEnd
