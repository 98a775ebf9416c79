-- Written by xprint.py, a program of this session, for this seat; Lean checks it.
import Derived.Test.YtfdnhipjiofnaaaPFnMirrorsSeenx0
import Derived.Test.YtfdnhipjiofnaaaPFnMirrorsSeenx2
import Derived.Test.YtfdnhipjiofnaaaPFnMirrorsSeenx3
import Derived.Test.YtfdnhipjiofnaaaPFnMirrorsSeenx4
import Derived.Test.YtfdnhipjiofnaaaPFnMirrorsSeenx5
import Derived.Test.YtfdnhipjiofnaaaPFnMirrorsSeenx6
import Derived.Test.YtfdnhipjiofnaaaPFnMirrorsSeenx7
namespace Go.Proofs.Ytfdnhipjiofnaaa.PFnMirrorsSeen
open Go.RowKit Go.Proofs.YtfdnhipjiofnaaaW.PrintWords Go.Proofs.YtfdnhipjiofnaaaW.PrintLast Go.Proofs.YtfdnhipjiofnaaaW.PrintMore
attribute [local go_sem] max2_int min2_int max_two min_two max_three min_three max_four min_four   -- for this text's walks alone
set_option linter.unusedVariables false
set_option linter.unusedSimpArgs false
/-! ### laws_FnMirrorsSeen: function 4 -/
mutual
def laws_FnMirrorsSeen.j0 : Nat → List Int → Int → Int → Int → Int → Bool → Bool → Bool → Int → Int → Int → Int → Bool → Bool → Option (Bool)
  | 0, _, _, _, _, _, _, _, _, _, _, _, _, _, _ => none
  | k + 1, x1, x5, x6, x9, x10, x11, x15, x16, x19, x20, x21, x22, x23, x206 => if x206 = true then (some false) else (if x23 = true then ((laws_yIs.f k x19 x20 x6 2).bind fun t344 => (if t344 = true then ((laws_yIs.f k x21 x22 (wrap64 (x5 + x6)) 2).bind fun t345 => (if t345 = true then (laws_FnMirrorsSeen.j1 k x1 x5 x9 x10 x11 x15 x16 ((wrap64 (2 * (wrap64 ((wrap64 (x21 * x20)) - (wrap64 (x19 * x22)))))) != (wrap64 ((wrap64 (x5 * x20)) * x22)))) else (laws_FnMirrorsSeen.j1 k x1 x5 x9 x10 x11 x15 x16 true))) else (laws_FnMirrorsSeen.j1 k x1 x5 x9 x10 x11 x15 x16 true))) else (laws_FnMirrorsSeen.j1 k x1 x5 x9 x10 x11 x15 x16 false))
def laws_FnMirrorsSeen.j1 : Nat → List Int → Int → Int → Int → Bool → Bool → Bool → Bool → Option (Bool)
  | 0, _, _, _, _, _, _, _, _ => none
  | k + 1, x1, x5, x9, x10, x11, x15, x16, x239 => if x239 = true then (some false) else (if x16 = true then (if x11 = true then (if x9 = 0 then (laws_FnMirrorsSeen.j2 k x1 x5 x9 x10 x11 (x15 != (x10 == x5))) else (laws_FnMirrorsSeen.j2 k x1 x5 x9 x10 x11 (x15 != false))) else (laws_FnMirrorsSeen.j2 k x1 x5 x9 x10 x11 (x15 != false))) else (laws_FnMirrorsSeen.j2 k x1 x5 x9 x10 x11 false))
def laws_FnMirrorsSeen.j2 : Nat → List Int → Int → Int → Int → Bool → Bool → Option (Bool)
  | 0, _, _, _, _, _, _ => none
  | k + 1, x1, x5, x9, x10, x11, x254 => if x254 = true then (some false) else (if x11 = true then (if x9 < 0 then (laws_FnMirrorsSeen.j3 k x1 true) else (if x9 > x10 then (laws_FnMirrorsSeen.j3 k x1 true) else (laws_FnMirrorsSeen.j3 k x1 (decide (x10 > x5))))) else (laws_FnMirrorsSeen.j3 k x1 false))
def laws_FnMirrorsSeen.j3 : Nat → List Int → Bool → Option (Bool)
  | 0, _, _ => none
  | k + 1, x1, x269 => if x269 = true then (some false) else ((spec_DrawSeenIn.f k x1).bind fun bt346 => ((impl_SeenIn.f k bt346.1 bt346.2.1 bt346.2.2.1 bt346.2.2.2).bind fun bt354 => ((spec_SeenIn.f k bt346.1 bt346.2.1 bt346.2.2.1 bt346.2.2.2).bind fun bt358 => ((spec_DrawLeastMirrorFor.f k x1).bind fun bt362 => ((impl_LeastMirrorFor.f k bt362.1 bt362.2).bind fun bt368 => ((spec_LeastMirrorFor.f k bt362.1 bt362.2).bind fun bt371 => ((spec_DrawLookedAt.f k x1).bind fun bt374 => ((impl_LookedAt.f k bt374.1 bt374.2).bind fun bt380 => ((spec_LookedAt.f k bt374.1 bt374.2).bind fun bt383 => ((impl_LookSquare.f bt374.1 bt374.2).bind fun bt386 => ((spec_LookSquare.f k bt374.1 bt374.2).bind fun bt388 => ((spec_DrawSeesIn.f k x1).bind fun bt390 => ((impl_SeesIn.f k bt390.1 bt390.2.1 bt390.2.2.1 bt390.2.2.2).bind fun bt398 => ((spec_SeesIn.f k bt390.1 bt390.2.1 bt390.2.2.1 bt390.2.2.2).bind fun bt400 => (if (bt354.2 != bt358.2) = true then (laws_FnMirrorsSeen.j4 k bt346.1 bt346.2.1 bt346.2.2.1 bt346.2.2.2 bt354.1 bt354.2 bt362.1 bt362.2 bt368.1 bt368.2.1 bt368.2.2 bt374.1 bt374.2 bt380.1 bt380.2.1 bt380.2.2 bt386.1 bt390.1 bt390.2.1 bt390.2.2.1 bt390.2.2.2 bt398.1 bt398.2 true) else ((laws_ySame.f k bt354.1 bt358.1).bind fun t402 => (if t402 = true then (if (bt368.2.2 != bt371.2.2) = true then (laws_FnMirrorsSeen.j4 k bt346.1 bt346.2.1 bt346.2.2.1 bt346.2.2.2 bt354.1 bt354.2 bt362.1 bt362.2 bt368.1 bt368.2.1 bt368.2.2 bt374.1 bt374.2 bt380.1 bt380.2.1 bt380.2.2 bt386.1 bt390.1 bt390.2.1 bt390.2.2.1 bt390.2.2.2 bt398.1 bt398.2 true) else (if bt368.1 = bt371.1 then (if bt368.2.1 = bt371.2.1 then (if (bt380.2.2 != bt383.2.2) = true then (laws_FnMirrorsSeen.j4 k bt346.1 bt346.2.1 bt346.2.2.1 bt346.2.2.2 bt354.1 bt354.2 bt362.1 bt362.2 bt368.1 bt368.2.1 bt368.2.2 bt374.1 bt374.2 bt380.1 bt380.2.1 bt380.2.2 bt386.1 bt390.1 bt390.2.1 bt390.2.2.1 bt390.2.2.2 bt398.1 bt398.2 true) else (if bt380.1 = bt383.1 then (if bt380.2.1 = bt383.2.1 then (if (bt386.2 != bt388.2) = true then (laws_FnMirrorsSeen.j4 k bt346.1 bt346.2.1 bt346.2.2.1 bt346.2.2.2 bt354.1 bt354.2 bt362.1 bt362.2 bt368.1 bt368.2.1 bt368.2.2 bt374.1 bt374.2 bt380.1 bt380.2.1 bt380.2.2 bt386.1 bt390.1 bt390.2.1 bt390.2.2.1 bt390.2.2.2 bt398.1 bt398.2 true) else (if bt386.1 = bt388.1 then (if (bt386.2 != bt380.2.2) = true then (laws_FnMirrorsSeen.j4 k bt346.1 bt346.2.1 bt346.2.2.1 bt346.2.2.2 bt354.1 bt354.2 bt362.1 bt362.2 bt368.1 bt368.2.1 bt368.2.2 bt374.1 bt374.2 bt380.1 bt380.2.1 bt380.2.2 bt386.1 bt390.1 bt390.2.1 bt390.2.2.1 bt390.2.2.2 bt398.1 bt398.2 true) else (if (bt398.2 != bt400.2) = true then (laws_FnMirrorsSeen.j4 k bt346.1 bt346.2.1 bt346.2.2.1 bt346.2.2.2 bt354.1 bt354.2 bt362.1 bt362.2 bt368.1 bt368.2.1 bt368.2.2 bt374.1 bt374.2 bt380.1 bt380.2.1 bt380.2.2 bt386.1 bt390.1 bt390.2.1 bt390.2.2.1 bt390.2.2.2 bt398.1 bt398.2 true) else (laws_FnMirrorsSeen.j4 k bt346.1 bt346.2.1 bt346.2.2.1 bt346.2.2.2 bt354.1 bt354.2 bt362.1 bt362.2 bt368.1 bt368.2.1 bt368.2.2 bt374.1 bt374.2 bt380.1 bt380.2.1 bt380.2.2 bt386.1 bt390.1 bt390.2.1 bt390.2.2.1 bt390.2.2.2 bt398.1 bt398.2 (bt398.1 != bt400.1)))) else (laws_FnMirrorsSeen.j4 k bt346.1 bt346.2.1 bt346.2.2.1 bt346.2.2.2 bt354.1 bt354.2 bt362.1 bt362.2 bt368.1 bt368.2.1 bt368.2.2 bt374.1 bt374.2 bt380.1 bt380.2.1 bt380.2.2 bt386.1 bt390.1 bt390.2.1 bt390.2.2.1 bt390.2.2.2 bt398.1 bt398.2 true))) else (laws_FnMirrorsSeen.j4 k bt346.1 bt346.2.1 bt346.2.2.1 bt346.2.2.2 bt354.1 bt354.2 bt362.1 bt362.2 bt368.1 bt368.2.1 bt368.2.2 bt374.1 bt374.2 bt380.1 bt380.2.1 bt380.2.2 bt386.1 bt390.1 bt390.2.1 bt390.2.2.1 bt390.2.2.2 bt398.1 bt398.2 true)) else (laws_FnMirrorsSeen.j4 k bt346.1 bt346.2.1 bt346.2.2.1 bt346.2.2.2 bt354.1 bt354.2 bt362.1 bt362.2 bt368.1 bt368.2.1 bt368.2.2 bt374.1 bt374.2 bt380.1 bt380.2.1 bt380.2.2 bt386.1 bt390.1 bt390.2.1 bt390.2.2.1 bt390.2.2.2 bt398.1 bt398.2 true))) else (laws_FnMirrorsSeen.j4 k bt346.1 bt346.2.1 bt346.2.2.1 bt346.2.2.2 bt354.1 bt354.2 bt362.1 bt362.2 bt368.1 bt368.2.1 bt368.2.2 bt374.1 bt374.2 bt380.1 bt380.2.1 bt380.2.2 bt386.1 bt390.1 bt390.2.1 bt390.2.2.1 bt390.2.2.2 bt398.1 bt398.2 true)) else (laws_FnMirrorsSeen.j4 k bt346.1 bt346.2.1 bt346.2.2.1 bt346.2.2.2 bt354.1 bt354.2 bt362.1 bt362.2 bt368.1 bt368.2.1 bt368.2.2 bt374.1 bt374.2 bt380.1 bt380.2.1 bt380.2.2 bt386.1 bt390.1 bt390.2.1 bt390.2.2.1 bt390.2.2.2 bt398.1 bt398.2 true))) else (laws_FnMirrorsSeen.j4 k bt346.1 bt346.2.1 bt346.2.2.1 bt346.2.2.2 bt354.1 bt354.2 bt362.1 bt362.2 bt368.1 bt368.2.1 bt368.2.2 bt374.1 bt374.2 bt380.1 bt380.2.1 bt380.2.2 bt386.1 bt390.1 bt390.2.1 bt390.2.2.1 bt390.2.2.2 bt398.1 bt398.2 true))))))))))))))))))
def laws_FnMirrorsSeen.j4 : Nat → List Int → List (List Int) → Int → Int → List Int → Bool → List Int → List (List Int) → Int → Int → Bool → List Int → List Int → Int → Int → Bool → Int → List Int → List Int → Int → Int → Bool → Bool → Bool → Option (Bool)
  | 0, _, _, _, _, _, _, _, _, _, _, _, _, _, _, _, _, _, _, _, _, _, _, _, _ => none
  | k + 1, x29, x30, x31, x32, x33, x34, x37, x38, x39, x40, x41, x45, x46, x47, x48, x49, x53, x57, x58, x59, x60, x61, x62, x429 => if x429 = true then (some false) else (if x34 = true then (laws_FnMirrorsSeen.l0 k x29 x31 x32 x33 x37 x38 x39 x40 x41 x45 x46 x47 x48 x49 x53 x57 x58 x59 x60 x61 x62 x30 (x30.length : Int) 0) else (laws_FnMirrorsSeen.j7 k x37 x38 x39 x40 x41 x45 x46 x47 x48 x49 x53 x57 x58 x59 x60 x61 x62))
def laws_FnMirrorsSeen.j7 : Nat → List Int → List (List Int) → Int → Int → Bool → List Int → List Int → Int → Int → Bool → Int → List Int → List Int → Int → Int → Bool → Bool → Option (Bool)
  | 0, _, _, _, _, _, _, _, _, _, _, _, _, _, _, _, _, _ => none
  | k + 1, x37, x38, x39, x40, x41, x45, x46, x47, x48, x49, x53, x57, x58, x59, x60, x61, x62 => if x41 = true then ((impl_SeenIn.f k x37 x38 x39 x40).bind fun bt408 => (if bt408.2 = true then (if (bt408.1.length : Int) = (x38.length : Int) then (laws_FnMirrorsSeen.j8 k x37 x38 x39 x40 x45 x46 x47 x48 x49 x53 x57 x58 x59 x60 x61 x62 (decide (x39 > x40))) else (laws_FnMirrorsSeen.j8 k x37 x38 x39 x40 x45 x46 x47 x48 x49 x53 x57 x58 x59 x60 x61 x62 true)) else (laws_FnMirrorsSeen.j8 k x37 x38 x39 x40 x45 x46 x47 x48 x49 x53 x57 x58 x59 x60 x61 x62 true))) else (laws_FnMirrorsSeen.j10 k x45 x46 x47 x48 x49 x53 x57 x58 x59 x60 x61 x62)
def laws_FnMirrorsSeen.j10 : Nat → List Int → List Int → Int → Int → Bool → Int → List Int → List Int → Int → Int → Bool → Bool → Option (Bool)
  | 0, _, _, _, _, _, _, _, _, _, _, _, _ => none
  | k + 1, x45, x46, x47, x48, x49, x53, x57, x58, x59, x60, x61, x62 => if x49 = true then ((impl_LookedAt.f k x46 x45).bind fun bt420 => (if 1 < (x45.length : Int) then (if 1 < (x46.length : Int) then (if (rd x45 1) > (rd x46 1) then (laws_FnMirrorsSeen.j11 k x45 x46 x47 x48 x53 x57 x58 x59 x60 x61 x62 bt420.1 bt420.2.1 bt420.2.2 (rd x46 1) (rd x45 1)) else (laws_FnMirrorsSeen.j11 k x45 x46 x47 x48 x53 x57 x58 x59 x60 x61 x62 bt420.1 bt420.2.1 bt420.2.2 (rd x45 1) (rd x46 1))) else (none)) else (none))) else (laws_FnMirrorsSeen.j13 k x57 x58 x59 x60 x61 x62)
def laws_FnMirrorsSeen.j13 : Nat → List Int → List Int → Int → Int → Bool → Bool → Option (Bool)
  | 0, _, _, _, _, _, _ => none
  | k + 1, x57, x58, x59, x60, x61, x62 => if x62 = true then ((impl_LookedAt.f k x57 x58).bind fun bt430 => (if bt430.2.2 = true then (if bt430.1 ≥ (wrap64 (x59 * bt430.2.1)) then (some (x61 == (decide (bt430.1 ≤ (wrap64 (x60 * bt430.2.1)))))) else (some (x61 == false))) else (some false))) else (some true)
def laws_FnMirrorsSeen.j11 : Nat → List Int → List Int → Int → Int → Int → List Int → List Int → Int → Int → Bool → Bool → Int → Int → Bool → Int → Int → Option (Bool)
  | 0, _, _, _, _, _, _, _, _, _, _, _, _, _, _, _, _ => none
  | k + 1, x45, x46, x47, x48, x53, x57, x58, x59, x60, x61, x62, x75, x76, x77, x78, x79 => (laws_yLow.f k x47 x48).bind fun t425 => (if t425 = true then (if x47 < (wrap64 (x78 * x48)) then (laws_FnMirrorsSeen.j12 k x57 x58 x59 x60 x61 x62 true) else (if x47 > (wrap64 (x79 * x48)) then (laws_FnMirrorsSeen.j12 k x57 x58 x59 x60 x61 x62 true) else (if x77 = true then (if x75 = x47 then (if x76 = x48 then (if 0 < (x45.length : Int) then (if 0 < (x46.length : Int) then (laws_FnMirrorsSeen.j12 k x57 x58 x59 x60 x61 x62 (decide (x53 < (wrap64 ((wrap64 ((rd x45 0) + (rd x46 0))) * (wrap64 ((rd x45 0) + (rd x46 0)))))))) else (none)) else (none)) else (laws_FnMirrorsSeen.j12 k x57 x58 x59 x60 x61 x62 true)) else (laws_FnMirrorsSeen.j12 k x57 x58 x59 x60 x61 x62 true)) else (laws_FnMirrorsSeen.j12 k x57 x58 x59 x60 x61 x62 true)))) else (laws_FnMirrorsSeen.j12 k x57 x58 x59 x60 x61 x62 true))
def laws_FnMirrorsSeen.j12 : Nat → List Int → List Int → Int → Int → Bool → Bool → Bool → Option (Bool)
  | 0, _, _, _, _, _, _, _ => none
  | k + 1, x57, x58, x59, x60, x61, x62, x592 => if x592 = true then (some false) else (laws_FnMirrorsSeen.j13 k x57 x58 x59 x60 x61 x62)
def laws_FnMirrorsSeen.j8 : Nat → List Int → List (List Int) → Int → Int → List Int → List Int → Int → Int → Bool → Int → List Int → List Int → Int → Int → Bool → Bool → Bool → Option (Bool)
  | 0, _, _, _, _, _, _, _, _, _, _, _, _, _, _, _, _, _ => none
  | k + 1, x37, x38, x39, x40, x45, x46, x47, x48, x49, x53, x57, x58, x59, x60, x61, x62, x481 => if x481 = true then (some false) else (if x39 < x40 then ((impl_SeenIn.f k x37 x38 (wrap64 (x39 + 1)) x40).bind fun bt412 => ((impl_SeenIn.f k x37 x38 x39 (wrap64 (x40 - 1))).bind fun bt416 => (if bt412.2 = true then (if bt416.2 = true then (if (bt412.1.length : Int) = (x38.length : Int) then (laws_FnMirrorsSeen.j9 k x45 x46 x47 x48 x49 x53 x57 x58 x59 x60 x61 x62 true) else (laws_FnMirrorsSeen.j9 k x45 x46 x47 x48 x49 x53 x57 x58 x59 x60 x61 x62 ((bt416.1.length : Int) == (x38.length : Int)))) else (laws_FnMirrorsSeen.j9 k x45 x46 x47 x48 x49 x53 x57 x58 x59 x60 x61 x62 true)) else (laws_FnMirrorsSeen.j9 k x45 x46 x47 x48 x49 x53 x57 x58 x59 x60 x61 x62 true)))) else (laws_FnMirrorsSeen.j10 k x45 x46 x47 x48 x49 x53 x57 x58 x59 x60 x61 x62))
def laws_FnMirrorsSeen.j9 : Nat → List Int → List Int → Int → Int → Bool → Int → List Int → List Int → Int → Int → Bool → Bool → Bool → Option (Bool)
  | 0, _, _, _, _, _, _, _, _, _, _, _, _, _ => none
  | k + 1, x45, x46, x47, x48, x49, x53, x57, x58, x59, x60, x61, x62, x522 => if x522 = true then (some false) else (laws_FnMirrorsSeen.j10 k x45 x46 x47 x48 x49 x53 x57 x58 x59 x60 x61 x62)
def laws_FnMirrorsSeen.l0 : Nat → List Int → Int → Int → List Int → List Int → List (List Int) → Int → Int → Bool → List Int → List Int → Int → Int → Bool → Int → List Int → List Int → Int → Int → Bool → Bool → List (List Int) → Int → Int → Option (Bool)
  | 0, _, _, _, _, _, _, _, _, _, _, _, _, _, _, _, _, _, _, _, _, _, _, _, _ => none
  | k + 1, x29, x31, x32, x33, x37, x38, x39, x40, x41, x45, x46, x47, x48, x49, x53, x57, x58, x59, x60, x61, x62, x431, x432, x433 => if x433 < x432 then (if 0 ≤ x433 then (if x433 < (x431.length : Int) then ((impl_SeesIn.f k x29 (rd_L1 x431 x433) x31 x32).bind fun bt404 => (if bt404.2 = true then ((laws_yHas.f k x33 x433).bind fun t406 => (laws_FnMirrorsSeen.j6 k x29 x31 x32 x33 x37 x38 x39 x40 x41 x45 x46 x47 x48 x49 x53 x57 x58 x59 x60 x61 x62 x431 x432 x433 (bt404.1 != t406))) else (laws_FnMirrorsSeen.j6 k x29 x31 x32 x33 x37 x38 x39 x40 x41 x45 x46 x47 x48 x49 x53 x57 x58 x59 x60 x61 x62 x431 x432 x433 true))) else (none)) else (none)) else ((laws_yRises.f k x33).bind fun t407 => (if t407 = true then (laws_FnMirrorsSeen.j7 k x37 x38 x39 x40 x41 x45 x46 x47 x48 x49 x53 x57 x58 x59 x60 x61 x62) else (some false)))
def laws_FnMirrorsSeen.j6 : Nat → List Int → Int → Int → List Int → List Int → List (List Int) → Int → Int → Bool → List Int → List Int → Int → Int → Bool → Int → List Int → List Int → Int → Int → Bool → Bool → List (List Int) → Int → Int → Bool → Option (Bool)
  | 0, _, _, _, _, _, _, _, _, _, _, _, _, _, _, _, _, _, _, _, _, _, _, _, _, _ => none
  | k + 1, x29, x31, x32, x33, x37, x38, x39, x40, x41, x45, x46, x47, x48, x49, x53, x57, x58, x59, x60, x61, x62, x431, x432, x433, x454 => if x454 = true then (some false) else (laws_FnMirrorsSeen.l0 k x29 x31 x32 x33 x37 x38 x39 x40 x41 x45 x46 x47 x48 x49 x53 x57 x58 x59 x60 x61 x62 x431 x432 (wrap64 (x433 + 1)))
end
def laws_FnMirrorsSeen.f (k : Nat) (l0 : List Int) (l1 : List Int) : Option (Bool) := (laws_big.f l0 l1).bind fun t319 => (if t319 = true then (some true) else ((spec_DrawSeenOfPerson.f k l0).bind fun bt320 => ((impl_SeenOfPerson.f k bt320.1 bt320.2.1 bt320.2.2.1 bt320.2.2.2).bind fun bt324 => ((spec_SeenOfPerson.f k bt320.1 bt320.2.1 bt320.2.2.1 bt320.2.2.2).bind fun bt327 => ((impl_CanSeeAll.f bt320.1 bt320.2.1 bt320.2.2.1 bt320.2.2.2).bind fun bt330 => ((spec_CanSeeAll.f k bt320.1 bt320.2.1 bt320.2.2.1 bt320.2.2.2).bind fun bt332 => ((impl_MirrorFor.f k bt320.1 bt320.2.1).bind fun bt334 => ((spec_MirrorFor.f k bt320.1 bt320.2.1).bind fun bt339 => (if (bt324.2.2 != bt327.2.2) = true then (laws_FnMirrorsSeen.j0 k l1 bt320.1 bt320.2.1 bt324.1 bt324.2.1 bt324.2.2 bt330.1 bt330.2 bt334.1 bt334.2.1 bt334.2.2.1 bt334.2.2.2.1 bt334.2.2.2.2 true) else (if bt324.1 = bt327.1 then (if bt324.2.1 = bt327.2.1 then (if (bt330.2 != bt332.2) = true then (laws_FnMirrorsSeen.j0 k l1 bt320.1 bt320.2.1 bt324.1 bt324.2.1 bt324.2.2 bt330.1 bt330.2 bt334.1 bt334.2.1 bt334.2.2.1 bt334.2.2.2.1 bt334.2.2.2.2 true) else (if (bt330.1 != bt332.1) = true then (laws_FnMirrorsSeen.j0 k l1 bt320.1 bt320.2.1 bt324.1 bt324.2.1 bt324.2.2 bt330.1 bt330.2 bt334.1 bt334.2.1 bt334.2.2.1 bt334.2.2.2.1 bt334.2.2.2.2 true) else (if (bt334.2.2.2.2 != bt339.2.2.2.2) = true then (laws_FnMirrorsSeen.j0 k l1 bt320.1 bt320.2.1 bt324.1 bt324.2.1 bt324.2.2 bt330.1 bt330.2 bt334.1 bt334.2.1 bt334.2.2.1 bt334.2.2.2.1 bt334.2.2.2.2 true) else (if bt334.1 = bt339.1 then (if bt334.2.1 = bt339.2.1 then (if bt334.2.2.1 = bt339.2.2.1 then (if bt334.2.2.2.1 = bt339.2.2.2.1 then (if bt324.2.2 = true then (if bt330.2 = true then (laws_FnMirrorsSeen.j0 k l1 bt320.1 bt320.2.1 bt324.1 bt324.2.1 bt324.2.2 bt330.1 bt330.2 bt334.1 bt334.2.1 bt334.2.2.1 bt334.2.2.2.1 bt334.2.2.2.2 (!bt334.2.2.2.2)) else (laws_FnMirrorsSeen.j0 k l1 bt320.1 bt320.2.1 bt324.1 bt324.2.1 bt324.2.2 bt330.1 bt330.2 bt334.1 bt334.2.1 bt334.2.2.1 bt334.2.2.2.1 bt334.2.2.2.2 true)) else (if bt330.2 = true then (laws_FnMirrorsSeen.j0 k l1 bt320.1 bt320.2.1 bt324.1 bt324.2.1 bt324.2.2 bt330.1 bt330.2 bt334.1 bt334.2.1 bt334.2.2.1 bt334.2.2.2.1 bt334.2.2.2.2 (!bt334.2.2.2.2)) else (laws_FnMirrorsSeen.j0 k l1 bt320.1 bt320.2.1 bt324.1 bt324.2.1 bt324.2.2 bt330.1 bt330.2 bt334.1 bt334.2.1 bt334.2.2.1 bt334.2.2.2.1 bt334.2.2.2.2 false))) else (laws_FnMirrorsSeen.j0 k l1 bt320.1 bt320.2.1 bt324.1 bt324.2.1 bt324.2.2 bt330.1 bt330.2 bt334.1 bt334.2.1 bt334.2.2.1 bt334.2.2.2.1 bt334.2.2.2.2 true)) else (laws_FnMirrorsSeen.j0 k l1 bt320.1 bt320.2.1 bt324.1 bt324.2.1 bt324.2.2 bt330.1 bt330.2 bt334.1 bt334.2.1 bt334.2.2.1 bt334.2.2.2.1 bt334.2.2.2.2 true)) else (laws_FnMirrorsSeen.j0 k l1 bt320.1 bt320.2.1 bt324.1 bt324.2.1 bt324.2.2 bt330.1 bt330.2 bt334.1 bt334.2.1 bt334.2.2.1 bt334.2.2.2.1 bt334.2.2.2.2 true)) else (laws_FnMirrorsSeen.j0 k l1 bt320.1 bt320.2.1 bt324.1 bt324.2.1 bt324.2.2 bt330.1 bt330.2 bt334.1 bt334.2.1 bt334.2.2.1 bt334.2.2.2.1 bt334.2.2.2.2 true))))) else (laws_FnMirrorsSeen.j0 k l1 bt320.1 bt320.2.1 bt324.1 bt324.2.1 bt324.2.2 bt330.1 bt330.2 bt334.1 bt334.2.1 bt334.2.2.1 bt334.2.2.2.1 bt334.2.2.2.2 true)) else (laws_FnMirrorsSeen.j0 k l1 bt320.1 bt320.2.1 bt324.1 bt324.2.1 bt324.2.2 bt330.1 bt330.2 bt334.1 bt334.2.1 bt334.2.2.1 bt334.2.2.2.1 bt334.2.2.2.2 true)))))))))))
def laws_FnMirrorsSeen.T55 : Bool × List (List Nat × List Nat) := (true, [([], []), ([0], [0]), ([1], [1]), ([], []), ([3], [3]), ([4], [4]), ([2, 0, 1, 2], [2]), ([5, 6, 0, 1, 2, 3, 4, 5, 6], [5])])
def laws_FnMirrorsSeen.B55 : List Nat := [0, 1, 3, 0, 8, 24, 7, 127]
theorem laws_FnMirrorsSeen.tab55 : rtab .any (opsOf Try.f4 55) = laws_FnMirrorsSeen.T55 := by kernel_rfl
theorem laws_FnMirrorsSeen.bits55 : waitsOk laws_FnMirrorsSeen.T55.2 laws_FnMirrorsSeen.B55 = true := by kernel_rfl
def laws_FnMirrorsSeen.T58 : Bool × List (List Nat × List Nat) := (true, [([], []), ([], []), ([0, 1], [0, 1]), ([2], [2]), ([3, 2], [3]), ([4], [4]), ([4], [4]), ([4], [4]), ([6, 7, 4], [4, 6, 7]), ([5, 8, 4], [4, 5, 8]), ([4, 9], [4, 9]), ([10, 4], [10]), ([11], [11]), ([11], [11]), ([11], [11]), ([13, 14, 11], [11, 13, 14]), ([12, 15, 11], [11, 12, 15]), ([11, 16], [11, 16]), ([17, 11], [17]), ([18], [18]), ([19, 18], [18, 19]), ([18, 20], [18, 20]), ([21, 18], [21]), ([22], [22]), ([22], [22]), ([23, 24, 22], [22, 23, 24]), ([22, 25], [22, 25]), ([26, 22], [26]), ([27], [27]), ([27], [27]), ([28, 29, 27], [27, 28, 29]), ([27, 30], [27, 30]), ([31, 27], [31]), ([32], [32]), ([32], [32]), ([34, 32], [32, 34]), ([35, 32], [32, 35]), ([32], [32]), ([37, 32], [32, 37]), ([38, 32], [32, 38]), ([36, 39, 32], [32, 36, 39]), ([32], [32]), ([41, 32], [32, 41]), ([42, 32], [32, 42]), ([32], [32]), ([44, 32], [32, 44]), ([45, 32], [32, 45]), ([43, 46, 32], [32, 43, 46]), ([40, 47, 32], [32, 40, 47]), ([33, 48, 32], [32, 33, 48]), ([32, 49], [32, 49])])
def laws_FnMirrorsSeen.B58 : List Nat := [0, 0, 3, 7, 15, 31, 31, 31, 223, 511, 1023, 2047, 4095, 4095, 4095, 28671, 65535, 131071, 262143, 524287, 1048575, 2097151, 4194303, 8388607, 8388607, 33554431, 67108863, 134217727, 268435455, 268435455, 1073741823, 2147483647, 4294967295, 8589934591, 8589934591, 25769803775, 60129542143, 8589934591, 146028888063, 420906795007, 1090921693183, 8589934591, 2207613190143, 6605659701247, 8589934591, 17600775979007, 52785148067839, 138547055034367, 281466386776063, 562949953421311, 1125899906842623]
theorem laws_FnMirrorsSeen.tab58 : rtab .any (opsOf Try.f4 58) = laws_FnMirrorsSeen.T58 := by kernel_rfl
theorem laws_FnMirrorsSeen.bits58 : waitsOk laws_FnMirrorsSeen.T58.2 laws_FnMirrorsSeen.B58 = true := by kernel_rfl
set_option maxHeartbeats 8000000 in
set_option maxRecDepth 100000 in
theorem laws_FnMirrorsSeen.calls (k : Nat) (A0 : Option Addr) (c0 : Nat) (l0 : List Int) (A1 : Option Addr) (c1 : Nat) (l1 : List Int) (r : Bool) (w : World) (hr0 : Kd.C (Kd.int .u8) w A0 l0.length l0) (hc0 : l0.length ≤ c0) (hr1 : Kd.C (Kd.int .u8) w A1 l1.length l1) (hc1 : l1.length ≤ c1) (h : laws_FnMirrorsSeen.f k l0 l1 = some r) (ht : r = true) :
    Calls Try.prog 4 #[.slice A0 l0.length c0, .slice A1 l1.length c1] w fun e w' => e = .returned (.bool r) ∧ Below w.heap.size w w' := by
 have HR0 := Aside0.mk hr0
 have HC0 := Aside0.mk hc0
 clear hr0 hc0
 have HR1 := Aside0.mk hr1
 have HC1 := Aside0.mk hc1
 clear hr1 hc1
 have HB := Aside0.mk (Below.refl w.heap.size w)
 have H : ((laws_big.f l0 l1).bind fun t319 => (if t319 = true then (some true) else ((spec_DrawSeenOfPerson.f k l0).bind fun bt320 => ((impl_SeenOfPerson.f k bt320.1 bt320.2.1 bt320.2.2.1 bt320.2.2.2).bind fun bt324 => ((spec_SeenOfPerson.f k bt320.1 bt320.2.1 bt320.2.2.1 bt320.2.2.2).bind fun bt327 => ((impl_CanSeeAll.f bt320.1 bt320.2.1 bt320.2.2.1 bt320.2.2.2).bind fun bt330 => ((spec_CanSeeAll.f k bt320.1 bt320.2.1 bt320.2.2.1 bt320.2.2.2).bind fun bt332 => ((impl_MirrorFor.f k bt320.1 bt320.2.1).bind fun bt334 => ((spec_MirrorFor.f k bt320.1 bt320.2.1).bind fun bt339 => (if (bt324.2.2 != bt327.2.2) = true then (laws_FnMirrorsSeen.j0 k l1 bt320.1 bt320.2.1 bt324.1 bt324.2.1 bt324.2.2 bt330.1 bt330.2 bt334.1 bt334.2.1 bt334.2.2.1 bt334.2.2.2.1 bt334.2.2.2.2 true) else (if bt324.1 = bt327.1 then (if bt324.2.1 = bt327.2.1 then (if (bt330.2 != bt332.2) = true then (laws_FnMirrorsSeen.j0 k l1 bt320.1 bt320.2.1 bt324.1 bt324.2.1 bt324.2.2 bt330.1 bt330.2 bt334.1 bt334.2.1 bt334.2.2.1 bt334.2.2.2.1 bt334.2.2.2.2 true) else (if (bt330.1 != bt332.1) = true then (laws_FnMirrorsSeen.j0 k l1 bt320.1 bt320.2.1 bt324.1 bt324.2.1 bt324.2.2 bt330.1 bt330.2 bt334.1 bt334.2.1 bt334.2.2.1 bt334.2.2.2.1 bt334.2.2.2.2 true) else (if (bt334.2.2.2.2 != bt339.2.2.2.2) = true then (laws_FnMirrorsSeen.j0 k l1 bt320.1 bt320.2.1 bt324.1 bt324.2.1 bt324.2.2 bt330.1 bt330.2 bt334.1 bt334.2.1 bt334.2.2.1 bt334.2.2.2.1 bt334.2.2.2.2 true) else (if bt334.1 = bt339.1 then (if bt334.2.1 = bt339.2.1 then (if bt334.2.2.1 = bt339.2.2.1 then (if bt334.2.2.2.1 = bt339.2.2.2.1 then (if bt324.2.2 = true then (if bt330.2 = true then (laws_FnMirrorsSeen.j0 k l1 bt320.1 bt320.2.1 bt324.1 bt324.2.1 bt324.2.2 bt330.1 bt330.2 bt334.1 bt334.2.1 bt334.2.2.1 bt334.2.2.2.1 bt334.2.2.2.2 (!bt334.2.2.2.2)) else (laws_FnMirrorsSeen.j0 k l1 bt320.1 bt320.2.1 bt324.1 bt324.2.1 bt324.2.2 bt330.1 bt330.2 bt334.1 bt334.2.1 bt334.2.2.1 bt334.2.2.2.1 bt334.2.2.2.2 true)) else (if bt330.2 = true then (laws_FnMirrorsSeen.j0 k l1 bt320.1 bt320.2.1 bt324.1 bt324.2.1 bt324.2.2 bt330.1 bt330.2 bt334.1 bt334.2.1 bt334.2.2.1 bt334.2.2.2.1 bt334.2.2.2.2 (!bt334.2.2.2.2)) else (laws_FnMirrorsSeen.j0 k l1 bt320.1 bt320.2.1 bt324.1 bt324.2.1 bt324.2.2 bt330.1 bt330.2 bt334.1 bt334.2.1 bt334.2.2.1 bt334.2.2.2.1 bt334.2.2.2.2 false))) else (laws_FnMirrorsSeen.j0 k l1 bt320.1 bt320.2.1 bt324.1 bt324.2.1 bt324.2.2 bt330.1 bt330.2 bt334.1 bt334.2.1 bt334.2.2.1 bt334.2.2.2.1 bt334.2.2.2.2 true)) else (laws_FnMirrorsSeen.j0 k l1 bt320.1 bt320.2.1 bt324.1 bt324.2.1 bt324.2.2 bt330.1 bt330.2 bt334.1 bt334.2.1 bt334.2.2.1 bt334.2.2.2.1 bt334.2.2.2.2 true)) else (laws_FnMirrorsSeen.j0 k l1 bt320.1 bt320.2.1 bt324.1 bt324.2.1 bt324.2.2 bt330.1 bt330.2 bt334.1 bt334.2.1 bt334.2.2.1 bt334.2.2.2.1 bt334.2.2.2.2 true)) else (laws_FnMirrorsSeen.j0 k l1 bt320.1 bt320.2.1 bt324.1 bt324.2.1 bt324.2.2 bt330.1 bt330.2 bt334.1 bt334.2.1 bt334.2.2.1 bt334.2.2.2.1 bt334.2.2.2.2 true))))) else (laws_FnMirrorsSeen.j0 k l1 bt320.1 bt320.2.1 bt324.1 bt324.2.1 bt324.2.2 bt330.1 bt330.2 bt334.1 bt334.2.1 bt334.2.2.1 bt334.2.2.2.1 bt334.2.2.2.2 true)) else (laws_FnMirrorsSeen.j0 k l1 bt320.1 bt320.2.1 bt324.1 bt324.2.1 bt324.2.2 bt330.1 bt330.2 bt334.1 bt334.2.1 bt334.2.2.1 bt334.2.2.2.1 bt334.2.2.2.2 true)))))))))))) = some r := h
 clear h
 have HT_l := Aside0.mk ht
 clear ht
 replace H := Option.bind_eq_some_iff.mp H; obtain ⟨t319, A30, H⟩ := H; (try dsimp only at H); have A3 := Aside0.mk A30; clear A30
 by_cases c4 : t319 = true
 · subst c4
   rw [if_pos rfl] at H
   obtain rfl := Option.some.inj H
   go_enter Try.func4, Try.ntmps4
   go_wp2_with (first | ((with_reducible refine gate_callee (f := 15) rfl ?_); refine goesL_ (some 85) rfl rfl Try.func15 (by kernel_rfl) rfl #[.slice A0 l0.length c0, .slice A1 l1.length c1] rfl (by (try simp only [List.map_toArray, List.map_cons, List.map_nil]); first | done | rfl | (simp only [List.length_drop, List.length_take]; rfl)) ?_; (with_reducible refine (laws_big.calls _ _ l0 _ _ l1 true _ ?side1 ?side2 ?side3 ?side4 A3.out).mono ?_); (case side1 => repeat (first | exact HR0.out | (with_reducible refine Kd.C_alloc ?_ _) | (with_reducible refine Kd.C_drewN ?_ _) | (with_reducible refine Kd.C_drew ?_))); (case side2 => exact HC0.out); (case side3 => repeat (first | exact HR1.out | (with_reducible refine Kd.C_alloc ?_ _) | (with_reducible refine Kd.C_drewN ?_ _) | (with_reducible refine Kd.C_drew ?_))); (case side4 => exact HC1.out); rintro e w' ⟨rfl, ⟨nd, rfl⟩⟩; refine ⟨_, rfl, ?_⟩))
   go_ret
   exact ⟨by first | rfl | (simp [errW_none, errW_some] <;> rfl) | (simp [*, errW_none, errW_some] <;> rfl), by repeat (first | (with_reducible first | exact HB.out | apply below_alloc | apply pw_below_drewN | apply below_drew1) | exact HB.out)⟩
 replace c4 := Bool.eq_false_iff.mpr c4
 subst c4
 rw [if_neg (show ¬ (false = true) by decide)] at H
 replace H := Option.bind_eq_some_iff.mp H; obtain ⟨⟨t320, t321, t322, t323⟩, A50, H⟩ := H; (try dsimp only at H); have A5 := Aside0.mk A50; clear A50
 replace H := Option.bind_eq_some_iff.mp H; obtain ⟨⟨t324, t325, t326⟩, A60, H⟩ := H; (try dsimp only at H); have A6 := Aside0.mk A60; clear A60
 replace H := Option.bind_eq_some_iff.mp H; obtain ⟨⟨t327, t328, t329⟩, A70, H⟩ := H; (try dsimp only at H); have A7 := Aside0.mk A70; clear A70
 replace H := Option.bind_eq_some_iff.mp H; obtain ⟨⟨t330, t331⟩, A80, H⟩ := H; (try dsimp only at H); have A8 := Aside0.mk A80; clear A80
 replace H := Option.bind_eq_some_iff.mp H; obtain ⟨⟨t332, t333⟩, A90, H⟩ := H; (try dsimp only at H); have A9 := Aside0.mk A90; clear A90
 replace H := Option.bind_eq_some_iff.mp H; obtain ⟨⟨t334, t335, t336, t337, t338⟩, A100, H⟩ := H; (try dsimp only at H); have A10 := Aside0.mk A100; clear A100
 replace H := Option.bind_eq_some_iff.mp H; obtain ⟨⟨t339, t340, t341, t342, t343⟩, A110, H⟩ := H; (try dsimp only at H); have A11 := Aside0.mk A110; clear A110
 have HC12 := Aside0.mk H
 clear H
 go_enter Try.func4, Try.ntmps4
 go_upto_region 10 with (first | ((with_reducible refine gate_callee (f := 15) rfl ?_); refine goesL_ (some 85) rfl rfl Try.func15 (by kernel_rfl) rfl #[.slice A0 l0.length c0, .slice A1 l1.length c1] rfl (by (try simp only [List.map_toArray, List.map_cons, List.map_nil]); first | done | rfl | (simp only [List.length_drop, List.length_take]; rfl)) ?_; (with_reducible refine (laws_big.calls _ _ l0 _ _ l1 false _ ?side1 ?side2 ?side3 ?side4 A3.out).mono ?_); (case side1 => repeat (first | exact HR0.out | (with_reducible refine Kd.C_alloc ?_ _) | (with_reducible refine Kd.C_drewN ?_ _) | (with_reducible refine Kd.C_drew ?_))); (case side2 => exact HC0.out); (case side3 => repeat (first | exact HR1.out | (with_reducible refine Kd.C_alloc ?_ _) | (with_reducible refine Kd.C_drewN ?_ _) | (with_reducible refine Kd.C_drew ?_))); (case side4 => exact HC1.out); rintro e w' ⟨rfl, ⟨nd, rfl⟩⟩; refine ⟨_, rfl, ?_⟩) | ((with_reducible refine gate_callee (f := 16) rfl ?_); refine goesL_ (some 88) rfl rfl Try.func16 (by kernel_rfl) rfl #[.slice A0 l0.length c0] rfl (by (try simp only [List.map_toArray, List.map_cons, List.map_nil]); first | done | rfl | (simp only [List.length_drop, List.length_take]; rfl)) ?_; (with_reducible refine (spec_DrawSeenOfPerson.calls k _ _ l0 t320 t321 t322 t323 _ ?side1 ?side2 A5.out).mono ?_); (case side1 => repeat (first | exact HR0.out | (with_reducible refine Kd.C_alloc ?_ _) | (with_reducible refine Kd.C_drewN ?_ _) | (with_reducible refine Kd.C_drew ?_))); (case side2 => exact HC0.out); rintro e w13 ⟨rfl, hb⟩; refine ⟨_, rfl, ?_⟩; have n0_ := Aside0.mk (below_step (by repeat (first | (with_reducible first | exact HB.out | apply below_alloc | apply pw_below_drewN | apply below_drew1) | exact HB.out)) hb); clear HB; have HB := n0_; clear n0_; (try clear hb); (try clear hb2); (try clear hk); (try clear hi)) | ((with_reducible refine gate_callee (f := 17) rfl ?_); refine goesL_ (some 98) rfl rfl Try.func17 (by kernel_rfl) rfl #[.int .i64 t320, .int .i64 t321, .int .i64 t322, .int .i64 t323] rfl (by (try simp only [List.map_toArray, List.map_cons, List.map_nil]); first | done | rfl | (simp only [List.length_drop, List.length_take]; rfl)) ?_; (with_reducible refine (impl_SeenOfPerson.calls k t320 t321 t322 t323 t324 t325 t326 _ A6.out).mono ?_); rintro e w14 ⟨rfl, hb⟩; refine ⟨_, rfl, ?_⟩; have n0_ := Aside0.mk (below_step (by repeat (first | (with_reducible first | exact HB.out | apply below_alloc | apply pw_below_drewN | apply below_drew1) | exact HB.out)) hb); clear HB; have HB := n0_; clear n0_; (try clear hb); (try clear hb2); (try clear hk); (try clear hi)) | ((with_reducible refine gate_callee (f := 18) rfl ?_); refine goesL_ (some 107) rfl rfl Try.func18 (by kernel_rfl) rfl #[.int .i64 t320, .int .i64 t321, .int .i64 t322, .int .i64 t323] rfl (by (try simp only [List.map_toArray, List.map_cons, List.map_nil]); first | done | rfl | (simp only [List.length_drop, List.length_take]; rfl)) ?_; (with_reducible refine (spec_SeenOfPerson.calls k t320 t321 t322 t323 t327 t328 t329 _ A7.out).mono ?_); rintro e w' ⟨rfl, ⟨nd, rfl⟩⟩; refine ⟨_, rfl, ?_⟩) | ((with_reducible refine gate_callee (f := 19) rfl ?_); refine goesL_ (some 116) rfl rfl Try.func19 (by kernel_rfl) rfl #[.int .i64 t320, .int .i64 t321, .int .i64 t322, .int .i64 t323] rfl (by (try simp only [List.map_toArray, List.map_cons, List.map_nil]); first | done | rfl | (simp only [List.length_drop, List.length_take]; rfl)) ?_; (with_reducible refine (impl_CanSeeAll.calls t320 t321 t322 t323 t330 t331 _ A8.out).mono ?_); rintro e w' ⟨rfl, ⟨nd, rfl⟩⟩; refine ⟨_, rfl, ?_⟩) | ((with_reducible refine gate_callee (f := 20) rfl ?_); refine goesL_ (some 124) rfl rfl Try.func20 (by kernel_rfl) rfl #[.int .i64 t320, .int .i64 t321, .int .i64 t322, .int .i64 t323] rfl (by (try simp only [List.map_toArray, List.map_cons, List.map_nil]); first | done | rfl | (simp only [List.length_drop, List.length_take]; rfl)) ?_; (with_reducible refine (spec_CanSeeAll.calls k t320 t321 t322 t323 t332 t333 _ A9.out).mono ?_); rintro e w' ⟨rfl, ⟨nd, rfl⟩⟩; refine ⟨_, rfl, ?_⟩) | ((with_reducible refine gate_callee (f := 21) rfl ?_); refine goesL_ (some 130) rfl rfl Try.func21 (by kernel_rfl) rfl #[.int .i64 t320, .int .i64 t321] rfl (by (try simp only [List.map_toArray, List.map_cons, List.map_nil]); first | done | rfl | (simp only [List.length_drop, List.length_take]; rfl)) ?_; (with_reducible refine (impl_MirrorFor.calls k t320 t321 t334 t335 t336 t337 t338 _ A10.out).mono ?_); rintro e w15 ⟨rfl, hb⟩; refine ⟨_, rfl, ?_⟩; have n0_ := Aside0.mk (below_step (by repeat (first | (with_reducible first | exact HB.out | apply below_alloc | apply pw_below_drewN | apply below_drew1) | exact HB.out)) hb); clear HB; have HB := n0_; clear n0_; (try clear hb); (try clear hb2); (try clear hk); (try clear hi)) | ((with_reducible refine gate_callee (f := 22) rfl ?_); refine goesL_ (some 139) rfl rfl Try.func22 (by kernel_rfl) rfl #[.int .i64 t320, .int .i64 t321] rfl (by (try simp only [List.map_toArray, List.map_cons, List.map_nil]); first | done | rfl | (simp only [List.length_drop, List.length_take]; rfl)) ?_; (with_reducible refine (spec_MirrorFor.calls k t320 t321 t339 t340 t341 t342 t343 _ A11.out).mono ?_); rintro e w' ⟨rfl, ⟨nd, rfl⟩⟩; refine ⟨_, rfl, ?_⟩))
 (try simp only [Act.put, List.setIfInBounds_toArray, List.set_cons_zero, List.set_cons_succ])
 go_cut [206] from 206 to 206 (fun v206 wc => ∃ (kq : Nat) (x206_11 : Bool), v206 = .bool x206_11 ∧ Aside0 (laws_FnMirrorsSeen.j0 kq l1 t320 t321 t324 t325 t326 t330 t331 t334 t335 t336 t337 t338 x206_11 = some r) ∧ Aside0 (kq ≤ k) ∧ Aside0 (Below w.heap.size w wc))
 case first =>
  as_aux_lemma =>
   have H := HC12.out
   clear HC12
   by_cases c16 : (t326 != t329) = true
   · rw [if_pos c16] at H
     have c16b0 : (t326 != t329) = true := c16
     (try (have c16b1 : decide (t326 = t329) = false := by simpa using c16))
     (try (have c16b2 : (t326 == t329) = false := by simpa using c16))
     (try (have c16b3 : ¬ (t326 = t329) := by simpa using c16))
     clear c16
     (first | rw [c16b0] | (simp only [i64_w, i32_w]; rw [c16b0]) | skip)
     cases k with
     | zero => exact absurd H (by simp [laws_FnMirrorsSeen.j0])
     | succ kz_ =>
      simp only [laws_FnMirrorsSeen.j0] at H
      exact absurd (Option.some.inj (by first | exact H | (rw [if_pos rfl] at H; exact H) | (simpa using H) : (some false : Option Bool) = some r)) (by rw [HT_l.out]; decide)
   rw [if_neg c16] at H
   have c16b0 : (t326 != t329) = false := by simpa using c16
   (try (have c16b1 : decide (t326 = t329) = true := by simpa using c16))
   (try (have c16b2 : (t326 == t329) = true := by simpa using c16))
   clear c16
   (first | rw [c16b0] | (simp only [i64_w, i32_w]; rw [c16b0]) | skip)
   by_cases c17 : t324 = t327
   · rw [if_pos c17] at H
     have c17b0 : (t324 == t327) = true := beq_iff_eq.mpr c17
     have c17b1 : (t324 != t327) = false := bne_eq_false_iff_eq.mpr c17
     clear c17
     by_cases c18 : t325 = t328
     · rw [if_pos c18] at H
       have c18b0 : (t325 == t328) = true := beq_iff_eq.mpr c18
       have c18b1 : (t325 != t328) = false := bne_eq_false_iff_eq.mpr c18
       clear c18
       by_cases c19 : (t331 != t333) = true
       · rw [if_pos c19] at H
         have c19b0 : (t331 != t333) = true := c19
         (try (have c19b1 : decide (t331 = t333) = false := by simpa using c19))
         (try (have c19b2 : (t331 == t333) = false := by simpa using c19))
         (try (have c19b3 : ¬ (t331 = t333) := by simpa using c19))
         clear c19
         cases k with
         | zero => exact absurd H (by simp [laws_FnMirrorsSeen.j0])
         | succ kz_ =>
          simp only [laws_FnMirrorsSeen.j0] at H
          exact absurd (Option.some.inj (by first | exact H | (rw [if_pos rfl] at H; exact H) | (simpa using H) : (some false : Option Bool) = some r)) (by rw [HT_l.out]; decide)
       rw [if_neg c19] at H
       have c19b0 : (t331 != t333) = false := by simpa using c19
       (try (have c19b1 : decide (t331 = t333) = true := by simpa using c19))
       (try (have c19b2 : (t331 == t333) = true := by simpa using c19))
       clear c19
       by_cases c20 : (t330 != t332) = true
       · rw [if_pos c20] at H
         have c20b0 : (t330 != t332) = true := c20
         (try (have c20b1 : decide (t330 = t332) = false := by simpa using c20))
         (try (have c20b2 : (t330 == t332) = false := by simpa using c20))
         (try (have c20b3 : ¬ (t330 = t332) := by simpa using c20))
         clear c20
         cases k with
         | zero => exact absurd H (by simp [laws_FnMirrorsSeen.j0])
         | succ kz_ =>
          simp only [laws_FnMirrorsSeen.j0] at H
          exact absurd (Option.some.inj (by first | exact H | (rw [if_pos rfl] at H; exact H) | (simpa using H) : (some false : Option Bool) = some r)) (by rw [HT_l.out]; decide)
       rw [if_neg c20] at H
       have c20b0 : (t330 != t332) = false := by simpa using c20
       (try (have c20b1 : decide (t330 = t332) = true := by simpa using c20))
       (try (have c20b2 : (t330 == t332) = true := by simpa using c20))
       clear c20
       by_cases c21 : (t338 != t343) = true
       · rw [if_pos c21] at H
         have c21b0 : (t338 != t343) = true := c21
         (try (have c21b1 : decide (t338 = t343) = false := by simpa using c21))
         (try (have c21b2 : (t338 == t343) = false := by simpa using c21))
         (try (have c21b3 : ¬ (t338 = t343) := by simpa using c21))
         clear c21
         cases k with
         | zero => exact absurd H (by simp [laws_FnMirrorsSeen.j0])
         | succ kz_ =>
          simp only [laws_FnMirrorsSeen.j0] at H
          exact absurd (Option.some.inj (by first | exact H | (rw [if_pos rfl] at H; exact H) | (simpa using H) : (some false : Option Bool) = some r)) (by rw [HT_l.out]; decide)
       rw [if_neg c21] at H
       have c21b0 : (t338 != t343) = false := by simpa using c21
       (try (have c21b1 : decide (t338 = t343) = true := by simpa using c21))
       (try (have c21b2 : (t338 == t343) = true := by simpa using c21))
       clear c21
       by_cases c22 : t334 = t339
       · rw [if_pos c22] at H
         have c22b0 : (t334 == t339) = true := beq_iff_eq.mpr c22
         have c22b1 : (t334 != t339) = false := bne_eq_false_iff_eq.mpr c22
         clear c22
         by_cases c23 : t335 = t340
         · rw [if_pos c23] at H
           have c23b0 : (t335 == t340) = true := beq_iff_eq.mpr c23
           have c23b1 : (t335 != t340) = false := bne_eq_false_iff_eq.mpr c23
           clear c23
           by_cases c24 : t336 = t341
           · rw [if_pos c24] at H
             have c24b0 : (t336 == t341) = true := beq_iff_eq.mpr c24
             have c24b1 : (t336 != t341) = false := bne_eq_false_iff_eq.mpr c24
             clear c24
             by_cases c25 : t337 = t342
             · rw [if_pos c25] at H
               have c25b0 : (t337 == t342) = true := beq_iff_eq.mpr c25
               have c25b1 : (t337 != t342) = false := bne_eq_false_iff_eq.mpr c25
               clear c25
               by_cases c26 : t326 = true
               · subst c26
                 rw [if_pos rfl] at H
                 by_cases c27 : t331 = true
                 · subst c27
                   rw [if_pos rfl] at H
                   have H' := Aside0.mk H
                   clear H
                   go_wp2
                   go_meet
                   case rel => exact ⟨_, (!t338), (by first | rfl | (simp; done) | (simp [*]; done)), H', ⟨by first | omega | exact Nat.le_refl _⟩, ⟨by repeat (first | (with_reducible first | exact HB.out | apply below_alloc | apply pw_below_drewN | apply below_drew1) | exact HB.out)⟩⟩
                 replace c27 := Bool.eq_false_iff.mpr c27
                 subst c27
                 rw [if_neg (show ¬ (false = true) by decide)] at H
                 cases k with
                 | zero => exact absurd H (by simp [laws_FnMirrorsSeen.j0])
                 | succ kz_ =>
                  simp only [laws_FnMirrorsSeen.j0] at H
                  exact absurd (Option.some.inj (by first | exact H | (rw [if_pos rfl] at H; exact H) | (simpa using H) : (some false : Option Bool) = some r)) (by rw [HT_l.out]; decide)
               replace c26 := Bool.eq_false_iff.mpr c26
               subst c26
               rw [if_neg (show ¬ (false = true) by decide)] at H
               by_cases c28 : t331 = true
               · subst c28
                 rw [if_pos rfl] at H
                 have H' := Aside0.mk H
                 clear H
                 go_wp2
                 go_meet
                 case rel => exact ⟨_, (!t338), (by first | rfl | (simp; done) | (simp [*]; done)), H', ⟨by first | omega | exact Nat.le_refl _⟩, ⟨by repeat (first | (with_reducible first | exact HB.out | apply below_alloc | apply pw_below_drewN | apply below_drew1) | exact HB.out)⟩⟩
               replace c28 := Bool.eq_false_iff.mpr c28
               subst c28
               rw [if_neg (show ¬ (false = true) by decide)] at H
               have H' := Aside0.mk H
               clear H
               go_wp2
               go_meet
               case rel => exact ⟨_, (false), (by first | rfl | (simp; done) | (simp [*]; done)), H', ⟨by first | omega | exact Nat.le_refl _⟩, ⟨by repeat (first | (with_reducible first | exact HB.out | apply below_alloc | apply pw_below_drewN | apply below_drew1) | exact HB.out)⟩⟩
             rw [if_neg c25] at H
             have c25b0 : (t337 == t342) = false := beq_eq_false_iff_ne.mpr c25
             have c25b1 : (t337 != t342) = true := bne_iff_ne.mpr c25
             cases k with
             | zero => exact absurd H (by simp [laws_FnMirrorsSeen.j0])
             | succ kz_ =>
              simp only [laws_FnMirrorsSeen.j0] at H
              exact absurd (Option.some.inj (by first | exact H | (rw [if_pos rfl] at H; exact H) | (simpa using H) : (some false : Option Bool) = some r)) (by rw [HT_l.out]; decide)
           rw [if_neg c24] at H
           have c24b0 : (t336 == t341) = false := beq_eq_false_iff_ne.mpr c24
           have c24b1 : (t336 != t341) = true := bne_iff_ne.mpr c24
           cases k with
           | zero => exact absurd H (by simp [laws_FnMirrorsSeen.j0])
           | succ kz_ =>
            simp only [laws_FnMirrorsSeen.j0] at H
            exact absurd (Option.some.inj (by first | exact H | (rw [if_pos rfl] at H; exact H) | (simpa using H) : (some false : Option Bool) = some r)) (by rw [HT_l.out]; decide)
         rw [if_neg c23] at H
         have c23b0 : (t335 == t340) = false := beq_eq_false_iff_ne.mpr c23
         have c23b1 : (t335 != t340) = true := bne_iff_ne.mpr c23
         cases k with
         | zero => exact absurd H (by simp [laws_FnMirrorsSeen.j0])
         | succ kz_ =>
          simp only [laws_FnMirrorsSeen.j0] at H
          exact absurd (Option.some.inj (by first | exact H | (rw [if_pos rfl] at H; exact H) | (simpa using H) : (some false : Option Bool) = some r)) (by rw [HT_l.out]; decide)
       rw [if_neg c22] at H
       have c22b0 : (t334 == t339) = false := beq_eq_false_iff_ne.mpr c22
       have c22b1 : (t334 != t339) = true := bne_iff_ne.mpr c22
       cases k with
       | zero => exact absurd H (by simp [laws_FnMirrorsSeen.j0])
       | succ kz_ =>
        simp only [laws_FnMirrorsSeen.j0] at H
        exact absurd (Option.some.inj (by first | exact H | (rw [if_pos rfl] at H; exact H) | (simpa using H) : (some false : Option Bool) = some r)) (by rw [HT_l.out]; decide)
     rw [if_neg c18] at H
     have c18b0 : (t325 == t328) = false := beq_eq_false_iff_ne.mpr c18
     have c18b1 : (t325 != t328) = true := bne_iff_ne.mpr c18
     cases k with
     | zero => exact absurd H (by simp [laws_FnMirrorsSeen.j0])
     | succ kz_ =>
      simp only [laws_FnMirrorsSeen.j0] at H
      exact absurd (Option.some.inj (by first | exact H | (rw [if_pos rfl] at H; exact H) | (simpa using H) : (some false : Option Bool) = some r)) (by rw [HT_l.out]; decide)
   rw [if_neg c17] at H
   have c17b0 : (t324 == t327) = false := beq_eq_false_iff_ne.mpr c17
   have c17b1 : (t324 != t327) = true := bne_iff_ne.mpr c17
   cases k with
   | zero => exact absurd H (by simp [laws_FnMirrorsSeen.j0])
   | succ kz_ =>
    simp only [laws_FnMirrorsSeen.j0] at H
    exact absurd (Option.some.inj (by first | exact H | (rw [if_pos rfl] at H; exact H) | (simpa using H) : (some false : Option Bool) = some r)) (by rw [HT_l.out]; decide)
 clear HC12
 try clear c1
 try clear c2
 try clear p2
 try clear c4
 try clear c15
 try clear c16
 try clear c16b0
 try clear c16b1
 try clear c16b2
 try clear c17
 try clear c17b0
 try clear c17b1
 try clear c18
 try clear c18b0
 try clear c18b1
 try clear c19
 try clear c19b0
 try clear c19b1
 try clear c19b2
 try clear c20
 try clear c20b0
 try clear c20b1
 try clear c20b2
 try clear c21
 try clear c21b0
 try clear c21b1
 try clear c21b2
 try clear c22
 try clear c22b0
 try clear c22b1
 try clear c23
 try clear c23b0
 try clear c23b1
 try clear c24
 try clear c24b0
 try clear c24b1
 try clear c25
 try clear c25b0
 try clear c25b1
 try clear c26
 try clear c27
 try clear c28
 obtain ⟨kq, x206_11, rfl, HA, HJ11, HB⟩ := hcut
 cases kq with
 | zero => exact absurd HA.out (by simp [laws_FnMirrorsSeen.j0])
 | succ kj11 =>
  as_aux_lemma =>
   have H := HA.out
   clear HA
   simp only [laws_FnMirrorsSeen.j0] at H
   by_cases c29 : x206_11 = true
   · subst c29
     rw [if_pos rfl] at H
     exact absurd (Option.some.inj H) (by rw [HT_l.out]; decide)
   replace c29 := Bool.eq_false_iff.mpr c29
   subst c29
   rw [if_neg (show ¬ (false = true) by decide)] at H
   have HC30 := Aside0.mk H
   clear H
   go_upto_region 12 with (fail)
   go_cut [239] from 239 to 239 (fun v239 wc => ∃ (kq : Nat) (x239_29 : Bool), v239 = .bool x239_29 ∧ Aside0 (laws_FnMirrorsSeen.j1 kq l1 t320 t324 t325 t326 t330 t331 x239_29 = some r) ∧ Aside0 (kq ≤ kj11) ∧ Aside0 (Below w.heap.size w wc))
   case first =>
    as_aux_lemma =>
     have H := HC30.out
     clear HC30
     by_cases c31 : t338 = true
     · subst c31
       rw [if_pos rfl] at H
       replace H := Option.bind_eq_some_iff.mp H; obtain ⟨t344, A320, H⟩ := H; (try dsimp only at H); have A32 := Aside0.mk A320; clear A320
       by_cases c33 : t344 = true
       · subst c33
         rw [if_pos rfl] at H
         replace H := Option.bind_eq_some_iff.mp H; obtain ⟨t345, A340, H⟩ := H; (try dsimp only at H); have A34 := Aside0.mk A340; clear A340
         by_cases c35 : t345 = true
         · subst c35
           rw [if_pos rfl] at H
           have H' := Aside0.mk H
           clear H
           go_wp2_with (first | (go_at_call 23; (with_reducible refine (laws_yIs.calls kj11 t334 t335 t321 2 true _ A32.out).mono ?_); rintro e w' ⟨rfl, ⟨nd, rfl⟩⟩) | (go_at_call 23; (with_reducible refine (laws_yIs.calls kj11 t336 t337 (wrap64 (t320 + t321)) 2 true _ A34.out).mono ?_); rintro e w' ⟨rfl, ⟨nd, rfl⟩⟩))
           go_meet
           case rel => exact ⟨_, (((wrap64 (2 * (wrap64 ((wrap64 (t336 * t335)) - (wrap64 (t334 * t337)))))) != (wrap64 ((wrap64 (t320 * t335)) * t337)))), (by first | rfl | (simp; done) | (simp [*]; done)), H', ⟨by have := HJ11.out; first | omega | exact Nat.le_refl _⟩, ⟨by repeat (first | (with_reducible first | exact HB.out | apply below_alloc | apply pw_below_drewN | apply below_drew1) | exact HB.out)⟩⟩
         replace c35 := Bool.eq_false_iff.mpr c35
         subst c35
         rw [if_neg (show ¬ (false = true) by decide)] at H
         cases kj11 with
         | zero => exact absurd H (by simp [laws_FnMirrorsSeen.j1])
         | succ kz_ =>
          simp only [laws_FnMirrorsSeen.j1] at H
          exact absurd (Option.some.inj (by first | exact H | (rw [if_pos rfl] at H; exact H) | (simpa using H) : (some false : Option Bool) = some r)) (by rw [HT_l.out]; decide)
       replace c33 := Bool.eq_false_iff.mpr c33
       subst c33
       rw [if_neg (show ¬ (false = true) by decide)] at H
       cases kj11 with
       | zero => exact absurd H (by simp [laws_FnMirrorsSeen.j1])
       | succ kz_ =>
        simp only [laws_FnMirrorsSeen.j1] at H
        exact absurd (Option.some.inj (by first | exact H | (rw [if_pos rfl] at H; exact H) | (simpa using H) : (some false : Option Bool) = some r)) (by rw [HT_l.out]; decide)
     replace c31 := Bool.eq_false_iff.mpr c31
     subst c31
     rw [if_neg (show ¬ (false = true) by decide)] at H
     have H' := Aside0.mk H
     clear H
     go_wp2
     go_meet
     case rel => exact ⟨_, (false), (by first | rfl | (simp; done) | (simp [*]; done)), H', ⟨by have := HJ11.out; first | omega | exact Nat.le_refl _⟩, ⟨by repeat (first | (with_reducible first | exact HB.out | apply below_alloc | apply pw_below_drewN | apply below_drew1) | exact HB.out)⟩⟩
   clear HC30
   try clear c1
   try clear c2
   try clear p2
   try clear c3
   try clear c4
   try clear p6
   try clear c15
   try clear c16
   try clear c16b0
   try clear c16b1
   try clear c16b2
   try clear c17
   try clear c17b0
   try clear c17b1
   try clear c18
   try clear c18b0
   try clear c18b1
   try clear c19
   try clear c19b0
   try clear c19b1
   try clear c19b2
   try clear c20
   try clear c20b0
   try clear c20b1
   try clear c20b2
   try clear c21
   try clear c21b0
   try clear c21b1
   try clear c21b2
   try clear c22
   try clear c22b0
   try clear c22b1
   try clear c23
   try clear c23b0
   try clear c23b1
   try clear c24
   try clear c24b0
   try clear c24b1
   try clear c25
   try clear c25b0
   try clear c25b1
   try clear c26
   try clear c27
   try clear c28
   try clear c29
   try clear c31
   try clear c33
   try clear c35
   try clear p2
   obtain ⟨kq, x239_29, rfl, HA, HJ29, HB⟩ := hcut
   cases kq with
   | zero => exact absurd HA.out (by simp [laws_FnMirrorsSeen.j1])
   | succ kj29 =>
    as_aux_lemma =>
     have H := HA.out
     clear HA
     simp only [laws_FnMirrorsSeen.j1] at H
     by_cases c36 : x239_29 = true
     · subst c36
       rw [if_pos rfl] at H
       exact absurd (Option.some.inj H) (by rw [HT_l.out]; decide)
     replace c36 := Bool.eq_false_iff.mpr c36
     subst c36
     rw [if_neg (show ¬ (false = true) by decide)] at H
     have HC37 := Aside0.mk H
     clear H
     go_upto_region 14 with (fail)
     go_cut [254] from 254 to 254 (fun v254 wc => ∃ (kq : Nat) (x254_36 : Bool), v254 = .bool x254_36 ∧ Aside0 (laws_FnMirrorsSeen.j2 kq l1 t320 t324 t325 t326 x254_36 = some r) ∧ Aside0 (kq ≤ kj29) ∧ Aside0 (Below w.heap.size w wc))
     case first =>
      as_aux_lemma =>
       have H := HC37.out
       clear HC37
       by_cases c38 : t331 = true
       · subst c38
         rw [if_pos rfl] at H
         by_cases c39 : t326 = true
         · subst c39
           rw [if_pos rfl] at H
           by_cases c40 : t324 = 0
           · rw [if_pos c40] at H
             have c40b0 : (t324 == 0) = true := beq_iff_eq.mpr c40
             have c40b1 : (t324 != 0) = false := bne_eq_false_iff_eq.mpr c40
             clear c40
             (first | rw [c40b0] | (simp only [i64_w, i32_w]; rw [c40b0]) | skip)
             have H' := Aside0.mk H
             clear H
             go_wp2
             go_meet
             case rel => exact ⟨_, ((t330 != (t325 == t320))), (by first | rfl | (simp; done) | (simp [*]; done)), H', ⟨by have := HJ11.out; have := HJ29.out; first | omega | exact Nat.le_refl _⟩, ⟨by repeat (first | (with_reducible first | exact HB.out | apply below_alloc | apply pw_below_drewN | apply below_drew1) | exact HB.out)⟩⟩
           rw [if_neg c40] at H
           have c40b0 : (t324 == 0) = false := beq_eq_false_iff_ne.mpr c40
           have c40b1 : (t324 != 0) = true := bne_iff_ne.mpr c40
           (first | rw [c40b0] | (simp only [i64_w, i32_w]; rw [c40b0]) | skip)
           have H' := Aside0.mk H
           clear H
           go_wp2
           go_meet
           case rel => exact ⟨_, ((t330 != false)), (by first | rfl | (simp; done) | (simp [*]; done)), H', ⟨by have := HJ11.out; have := HJ29.out; first | omega | exact Nat.le_refl _⟩, ⟨by repeat (first | (with_reducible first | exact HB.out | apply below_alloc | apply pw_below_drewN | apply below_drew1) | exact HB.out)⟩⟩
         replace c39 := Bool.eq_false_iff.mpr c39
         subst c39
         rw [if_neg (show ¬ (false = true) by decide)] at H
         have H' := Aside0.mk H
         clear H
         go_wp2
         go_meet
         case rel => exact ⟨_, ((t330 != false)), (by first | rfl | (simp; done) | (simp [*]; done)), H', ⟨by have := HJ11.out; have := HJ29.out; first | omega | exact Nat.le_refl _⟩, ⟨by repeat (first | (with_reducible first | exact HB.out | apply below_alloc | apply pw_below_drewN | apply below_drew1) | exact HB.out)⟩⟩
       replace c38 := Bool.eq_false_iff.mpr c38
       subst c38
       rw [if_neg (show ¬ (false = true) by decide)] at H
       have H' := Aside0.mk H
       clear H
       go_wp2
       go_meet
       case rel => exact ⟨_, (false), (by first | rfl | (simp; done) | (simp [*]; done)), H', ⟨by have := HJ11.out; have := HJ29.out; first | omega | exact Nat.le_refl _⟩, ⟨by repeat (first | (with_reducible first | exact HB.out | apply below_alloc | apply pw_below_drewN | apply below_drew1) | exact HB.out)⟩⟩
     clear HC37
     try clear c1
     try clear c2
     try clear p2
     try clear c3
     try clear c4
     try clear p6
     try clear c15
     try clear c16
     try clear c16b0
     try clear c16b1
     try clear c16b2
     try clear c17
     try clear c17b0
     try clear c17b1
     try clear c18
     try clear c18b0
     try clear c18b1
     try clear c19
     try clear c19b0
     try clear c19b1
     try clear c19b2
     try clear c20
     try clear c20b0
     try clear c20b1
     try clear c20b2
     try clear c21
     try clear c21b0
     try clear c21b1
     try clear c21b2
     try clear c22
     try clear c22b0
     try clear c22b1
     try clear c23
     try clear c23b0
     try clear c23b1
     try clear c24
     try clear c24b0
     try clear c24b1
     try clear c25
     try clear c25b0
     try clear c25b1
     try clear c26
     try clear c27
     try clear c28
     try clear c29
     try clear c31
     try clear c33
     try clear c35
     try clear c36
     try clear c38
     try clear c39
     try clear c40
     try clear c40b0
     try clear c40b1
     try clear p2
     try clear p6
     obtain ⟨kq, x254_36, rfl, HA, HJ36, HB⟩ := hcut
     cases kq with
     | zero => exact absurd HA.out (by simp [laws_FnMirrorsSeen.j2])
     | succ kj36 =>
      as_aux_lemma =>
       have H := HA.out
       clear HA
       simp only [laws_FnMirrorsSeen.j2] at H
       by_cases c41 : x254_36 = true
       · subst c41
         rw [if_pos rfl] at H
         exact absurd (Option.some.inj H) (by rw [HT_l.out]; decide)
       replace c41 := Bool.eq_false_iff.mpr c41
       subst c41
       rw [if_neg (show ¬ (false = true) by decide)] at H
       have HC42 := Aside0.mk H
       clear H
       go_upto_region 16 with (fail)
       go_cut [269] from 269 to 269 (fun v269 wc => ∃ (kq : Nat) (x269_41 : Bool), v269 = .bool x269_41 ∧ Aside0 (laws_FnMirrorsSeen.j3 kq l1 x269_41 = some r) ∧ Aside0 (kq ≤ kj36) ∧ Aside0 (Below w.heap.size w wc))
       case first =>
        as_aux_lemma =>
         have H := HC42.out
         clear HC42
         by_cases c43 : t326 = true
         · subst c43
           rw [if_pos rfl] at H
           by_cases c44 : t324 < 0
           · rw [if_pos c44] at H
             have c44b0 : decide (t324 < 0) = true := decide_eq_true c44
             clear c44
             (first | rw [c44b0] | (simp only [i64_w, i32_w]; rw [c44b0]) | skip)
             cases kj36 with
             | zero => exact absurd H (by simp [laws_FnMirrorsSeen.j3])
             | succ kz_ =>
              simp only [laws_FnMirrorsSeen.j3] at H
              exact absurd (Option.some.inj (by first | exact H | (rw [if_pos rfl] at H; exact H) | (simpa using H) : (some false : Option Bool) = some r)) (by rw [HT_l.out]; decide)
           rw [if_neg c44] at H
           have c44b0 : decide (t324 < 0) = false := decide_eq_false c44
           clear c44
           (first | rw [c44b0] | (simp only [i64_w, i32_w]; rw [c44b0]) | skip)
           by_cases c45 : t324 > t325
           · rw [if_pos c45] at H
             have c45b0 : decide (t325 < t324) = true := decide_eq_true c45
             clear c45
             cases kj36 with
             | zero => exact absurd H (by simp [laws_FnMirrorsSeen.j3])
             | succ kz_ =>
              simp only [laws_FnMirrorsSeen.j3] at H
              exact absurd (Option.some.inj (by first | exact H | (rw [if_pos rfl] at H; exact H) | (simpa using H) : (some false : Option Bool) = some r)) (by rw [HT_l.out]; decide)
           rw [if_neg c45] at H
           have c45b0 : decide (t325 < t324) = false := decide_eq_false c45
           clear c45
           have H' := Aside0.mk H
           clear H
           go_wp2
           go_meet
           case rel => exact ⟨_, (decide (t325 > t320)), (by first | rfl | (simp; done) | (simp [*]; done)), H', ⟨by have := HJ11.out; have := HJ29.out; have := HJ36.out; first | omega | exact Nat.le_refl _⟩, ⟨by repeat (first | (with_reducible first | exact HB.out | apply below_alloc | apply pw_below_drewN | apply below_drew1) | exact HB.out)⟩⟩
         replace c43 := Bool.eq_false_iff.mpr c43
         subst c43
         rw [if_neg (show ¬ (false = true) by decide)] at H
         have H' := Aside0.mk H
         clear H
         go_wp2
         go_meet
         case rel => exact ⟨_, (false), (by first | rfl | (simp; done) | (simp [*]; done)), H', ⟨by have := HJ11.out; have := HJ29.out; have := HJ36.out; first | omega | exact Nat.le_refl _⟩, ⟨by repeat (first | (with_reducible first | exact HB.out | apply below_alloc | apply pw_below_drewN | apply below_drew1) | exact HB.out)⟩⟩
       clear HC42
       try clear c1
       try clear c2
       try clear p2
       try clear c3
       try clear c4
       try clear p6
       try clear c15
       try clear c16
       try clear c16b0
       try clear c16b1
       try clear c16b2
       try clear c17
       try clear c17b0
       try clear c17b1
       try clear c18
       try clear c18b0
       try clear c18b1
       try clear c19
       try clear c19b0
       try clear c19b1
       try clear c19b2
       try clear c20
       try clear c20b0
       try clear c20b1
       try clear c20b2
       try clear c21
       try clear c21b0
       try clear c21b1
       try clear c21b2
       try clear c22
       try clear c22b0
       try clear c22b1
       try clear c23
       try clear c23b0
       try clear c23b1
       try clear c24
       try clear c24b0
       try clear c24b1
       try clear c25
       try clear c25b0
       try clear c25b1
       try clear c26
       try clear c27
       try clear c28
       try clear c29
       try clear c31
       try clear c33
       try clear c35
       try clear c36
       try clear c38
       try clear c39
       try clear c40
       try clear c40b0
       try clear c40b1
       try clear c41
       try clear c43
       try clear c44
       try clear c44b0
       try clear c45
       try clear c45b0
       try clear p2
       try clear p6
       obtain ⟨kq, x269_41, rfl, HA, HJ41, HB⟩ := hcut
       cases kq with
       | zero => exact absurd HA.out (by simp [laws_FnMirrorsSeen.j3])
       | succ kj41 =>
        as_aux_lemma =>
         have H := HA.out
         clear HA
         simp only [laws_FnMirrorsSeen.j3] at H
         by_cases c46 : x269_41 = true
         · subst c46
           rw [if_pos rfl] at H
           exact absurd (Option.some.inj H) (by rw [HT_l.out]; decide)
         replace c46 := Bool.eq_false_iff.mpr c46
         subst c46
         rw [if_neg (show ¬ (false = true) by decide)] at H
         replace H := Option.bind_eq_some_iff.mp H; obtain ⟨⟨t346, t349, t352, t353⟩, A470, H⟩ := H; (try dsimp only at H); have A47 := Aside0.mk A470; clear A470
         replace H := Option.bind_eq_some_iff.mp H; obtain ⟨⟨t354, t357⟩, A480, H⟩ := H; (try dsimp only at H); have A48 := Aside0.mk A480; clear A480
         replace H := Option.bind_eq_some_iff.mp H; obtain ⟨⟨t358, t359⟩, A490, H⟩ := H; (try dsimp only at H); have A49 := Aside0.mk A490; clear A490
         replace H := Option.bind_eq_some_iff.mp H; obtain ⟨⟨t362, t365⟩, A500, H⟩ := H; (try dsimp only at H); have A50 := Aside0.mk A500; clear A500
         replace H := Option.bind_eq_some_iff.mp H; obtain ⟨⟨t368, t369, t370⟩, A510, H⟩ := H; (try dsimp only at H); have A51 := Aside0.mk A510; clear A510
         replace H := Option.bind_eq_some_iff.mp H; obtain ⟨⟨t371, t372, t373⟩, A520, H⟩ := H; (try dsimp only at H); have A52 := Aside0.mk A520; clear A520
         replace H := Option.bind_eq_some_iff.mp H; obtain ⟨⟨t374, t377⟩, A530, H⟩ := H; (try dsimp only at H); have A53 := Aside0.mk A530; clear A530
         replace H := Option.bind_eq_some_iff.mp H; obtain ⟨⟨t380, t381, t382⟩, A540, H⟩ := H; (try dsimp only at H); have A54 := Aside0.mk A540; clear A540
         replace H := Option.bind_eq_some_iff.mp H; obtain ⟨⟨t383, t384, t385⟩, A550, H⟩ := H; (try dsimp only at H); have A55 := Aside0.mk A550; clear A550
         replace H := Option.bind_eq_some_iff.mp H; obtain ⟨⟨t386, t387⟩, A560, H⟩ := H; (try dsimp only at H); have A56 := Aside0.mk A560; clear A560
         replace H := Option.bind_eq_some_iff.mp H; obtain ⟨⟨t388, t389⟩, A570, H⟩ := H; (try dsimp only at H); have A57 := Aside0.mk A570; clear A570
         replace H := Option.bind_eq_some_iff.mp H; obtain ⟨⟨t390, t393, t396, t397⟩, A580, H⟩ := H; (try dsimp only at H); have A58 := Aside0.mk A580; clear A580
         replace H := Option.bind_eq_some_iff.mp H; obtain ⟨⟨t398, t399⟩, A590, H⟩ := H; (try dsimp only at H); have A59 := Aside0.mk A590; clear A590
         replace H := Option.bind_eq_some_iff.mp H; obtain ⟨⟨t400, t401⟩, A600, H⟩ := H; (try dsimp only at H); have A60 := Aside0.mk A600; clear A600
         have HC61 := Aside0.mk H
         clear H
         go_upto_region 32 with (first | ((with_reducible refine gate_callee (f := 24) rfl ?_); refine goesL_ (some 272) rfl rfl Try.func24 (by kernel_rfl) rfl #[.slice A1 l1.length c1] rfl (by (try simp only [List.map_toArray, List.map_cons, List.map_nil]); first | done | rfl | (simp only [List.length_drop, List.length_take]; rfl)) ?_; (with_reducible refine (spec_DrawSeenIn.calls kj41 _ _ l1 t346 t349 t352 t353 _ ?side1 ?side2 A47.out).mono ?_); (case side1 => repeat (first | exact (Kd.C_below HR1.out HB.out) | (with_reducible refine Kd.C_alloc ?_ _) | (with_reducible refine Kd.C_drewN ?_ _) | (with_reducible refine Kd.C_drew ?_))); (case side2 => exact HC1.out); rintro e w62 ⟨v347, v350, rfl, ho0, ho1, hb⟩; refine ⟨_, rfl, ?_⟩; have n0_ := Aside0.mk (Kd.V_lower (Kd.V_mono (ok' := fun k_ => some k_ ≠ (v350 : Value).ownBlock) ho0 (fun k_ hk_ => hk_.2)) (below_size (by repeat (first | (with_reducible first | exact HB.out | apply below_alloc | apply pw_below_drewN | apply below_drew1) | exact HB.out)))); have n1_ := Aside0.mk (Kd.N_lower (Kd.N_mono (ok' := fun k_ => True) ho1 (fun k_ hk_ => trivial)) (below_size (by repeat (first | (with_reducible first | exact HB.out | apply below_alloc | apply pw_below_drewN | apply below_drew1) | exact HB.out)))); have n2_ := Aside0.mk (below_step (by repeat (first | (with_reducible first | exact HB.out | apply below_alloc | apply pw_below_drewN | apply below_drew1) | exact HB.out)) hb); clear HB; have HO348 := n0_; have HO351 := n1_; have HB := n2_; clear n0_ n1_ n2_; (try clear hb); (try clear hb2); (try clear hk); (try clear hi); (try clear ho0); (try clear ho1); obtain ⟨Ao63, co63, eo63⟩ := Kd.V_slice HO348.out; subst eo63; obtain ⟨Ao64, co64, eo64⟩ := Kd.N_slice HO351.out; subst eo64) | ((with_reducible refine gate_callee (f := 9) rfl ?_); refine goesL_ (some 282) rfl rfl Try.func9 (by kernel_rfl) rfl #[.slice Ao63 t346.length co63, .slice Ao64 t349.length co64, .int .i64 t352, .int .i64 t353] rfl (by (try simp only [List.map_toArray, List.map_cons, List.map_nil]); first | done | rfl | (simp only [List.length_drop, List.length_take]; rfl)) ?_; (with_reducible refine (impl_SeenIn.calls kj41 (fun k_ => some k_ ≠ (.slice Ao64 t349.length co64 : Value).ownBlock) _ _ t346 _ _ t349 t352 t353 t354 t357 _ ?side1 ?side2 ?side3 A48.out).mono ?_); (case side1 => exact HO348.out); (case side2 => repeat (first | exact (Kd.N_reads' HO351.out).2.2 | (with_reducible refine Kd.C_alloc ?_ _) | (with_reducible refine Kd.C_drewN ?_ _) | (with_reducible refine Kd.C_drew ?_))); (case side3 => exact (Kd.N_reads' HO351.out).2.1); rintro e w65 ⟨v355, rfl, ho0, hb⟩; refine ⟨_, rfl, ?_⟩; have n0_ := Aside0.mk (Kd.V_elder' (by (with_reducible repeat (first | apply Kd.V_alloc | apply Kd.V_drewN | apply Kd.V_drew)); exact HO348.out) (Kd.R_base ho0) hb); have n1_ := Aside0.mk (Kd.N_elder' (by (with_reducible repeat (first | apply Kd.N_alloc | apply Kd.N_drewN | apply Kd.N_drew)); exact HO351.out) (Kd.R_base ho0) hb); have n2_ := Aside0.mk (Kd.R_lower (Kd.R_mono (ok' := fun k_ => True) ho0 (fun _ hk_ => trivial)) (below_size (by repeat (first | (with_reducible first | exact HB.out | apply below_alloc | apply pw_below_drewN | apply below_drew1) | exact HB.out)))); have n3_ := Aside0.mk (below_step (by repeat (first | (with_reducible first | exact HB.out | apply below_alloc | apply pw_below_drewN | apply below_drew1) | exact HB.out)) hb); clear HO348; clear HO351; clear HB; have HO348 := n0_; have HO351 := n1_; have HO356 := n2_; have HB := n3_; clear n0_ n1_ n2_ n3_; (try clear hb); (try clear hb2); (try clear hk); (try clear hi); (try clear ho0)) | ((with_reducible refine gate_callee (f := 6) rfl ?_); refine goesL_ (some 290) rfl rfl Try.func6 (by kernel_rfl) rfl #[.slice Ao63 t346.length co63, .slice Ao64 t349.length co64, .int .i64 t352, .int .i64 t353] rfl (by (try simp only [List.map_toArray, List.map_cons, List.map_nil]); first | done | rfl | (simp only [List.length_drop, List.length_take]; rfl)) ?_; (with_reducible refine (spec_SeenIn.calls kj41 _ _ t346 _ _ t349 t352 t353 t358 t359 _ ?side1 ?side2 ?side3 ?side4 A49.out).mono ?_); (case side1 => repeat (first | exact (Kd.V_reads' HO348.out).2.2 | (with_reducible refine Kd.C_alloc ?_ _) | (with_reducible refine Kd.C_drewN ?_ _) | (with_reducible refine Kd.C_drew ?_))); (case side2 => exact (Kd.V_reads' HO348.out).2.1); (case side3 => repeat (first | exact (Kd.N_reads' HO351.out).2.2 | (with_reducible refine Kd.C_alloc ?_ _) | (with_reducible refine Kd.C_drewN ?_ _) | (with_reducible refine Kd.C_drew ?_))); (case side4 => exact (Kd.N_reads' HO351.out).2.1); rintro e w66 ⟨v360, rfl, ho0, hb⟩; refine ⟨_, rfl, ?_⟩; have n0_ := Aside0.mk (Kd.V_elder' (by (with_reducible repeat (first | apply Kd.V_alloc | apply Kd.V_drewN | apply Kd.V_drew)); exact HO348.out) (Kd.R_base ho0) hb); have n1_ := Aside0.mk (Kd.N_elder' (by (with_reducible repeat (first | apply Kd.N_alloc | apply Kd.N_drewN | apply Kd.N_drew)); exact HO351.out) (Kd.R_base ho0) hb); have n2_ := Aside0.mk (Kd.R_elder' (by (with_reducible repeat (first | apply Kd.R_alloc | apply Kd.R_drewN | apply Kd.R_drew)); exact HO356.out) (Kd.R_base ho0) hb); have n3_ := Aside0.mk (Kd.R_lower (Kd.R_new' ho0 (Kd.R_lt (by (with_reducible repeat (first | apply Kd.R_alloc | apply Kd.R_drewN | apply Kd.R_drew)); exact HO356.out))) (below_size (by repeat (first | (with_reducible first | exact HB.out | apply below_alloc | apply pw_below_drewN | apply below_drew1) | exact HB.out)))); have n4_ := Aside0.mk (below_step (by repeat (first | (with_reducible first | exact HB.out | apply below_alloc | apply pw_below_drewN | apply below_drew1) | exact HB.out)) hb); clear HO348; clear HO351; clear HO356; clear HB; have HO348 := n0_; have HO351 := n1_; have HO356 := n2_; have HO361 := n3_; have HB := n4_; clear n0_ n1_ n2_ n3_ n4_; (try clear hb); (try clear hb2); (try clear hk); (try clear hi); (try clear ho0)) | ((with_reducible refine gate_callee (f := 25) rfl ?_); refine goesL_ (some 295) rfl rfl Try.func25 (by kernel_rfl) rfl #[.slice A1 l1.length c1] rfl (by (try simp only [List.map_toArray, List.map_cons, List.map_nil]); first | done | rfl | (simp only [List.length_drop, List.length_take]; rfl)) ?_; (with_reducible refine (spec_DrawLeastMirrorFor.calls kj41 _ _ l1 t362 t365 _ ?side1 ?side2 A50.out).mono ?_); (case side1 => repeat (first | exact (Kd.C_below HR1.out HB.out) | (with_reducible refine Kd.C_alloc ?_ _) | (with_reducible refine Kd.C_drewN ?_ _) | (with_reducible refine Kd.C_drew ?_))); (case side2 => exact HC1.out); rintro e w67 ⟨v363, v366, rfl, ho0, ho1, hb⟩; refine ⟨_, rfl, ?_⟩; have n0_ := Aside0.mk (Kd.V_elder' (by (with_reducible repeat (first | apply Kd.V_alloc | apply Kd.V_drewN | apply Kd.V_drew)); exact HO348.out) (Kd.N_base ho1) hb); have n1_ := Aside0.mk (Kd.N_elder' (by (with_reducible repeat (first | apply Kd.N_alloc | apply Kd.N_drewN | apply Kd.N_drew)); exact HO351.out) (Kd.N_base ho1) hb); have n2_ := Aside0.mk (Kd.R_below (by (with_reducible repeat (first | apply Kd.R_alloc | apply Kd.R_drewN | apply Kd.R_drew)); exact HO356.out) hb); have n3_ := Aside0.mk (Kd.R_below (by (with_reducible repeat (first | apply Kd.R_alloc | apply Kd.R_drewN | apply Kd.R_drew)); exact HO361.out) hb); have n4_ := Aside0.mk (Kd.V_lower (Kd.V_mono (ok' := fun k_ => some k_ ≠ (v366 : Value).ownBlock ∧ some k_ ≠ (.slice Ao64 t349.length co64 : Value).ownBlock ∧ some k_ ≠ (v355 : Value).ownBlock ∧ some k_ ≠ (v360 : Value).ownBlock) ho0 (fun k_ hk_ => ⟨hk_.2, (Kd.fresh' (Kd.N_lt (by (with_reducible repeat (first | apply Kd.N_alloc | apply Kd.N_drewN | apply Kd.N_drew)); exact HO351.out)) k_ hk_.1), (Kd.fresh' (Kd.R_lt (by (with_reducible repeat (first | apply Kd.R_alloc | apply Kd.R_drewN | apply Kd.R_drew)); exact HO356.out)) k_ hk_.1), (Kd.fresh' (Kd.R_lt (by (with_reducible repeat (first | apply Kd.R_alloc | apply Kd.R_drewN | apply Kd.R_drew)); exact HO361.out)) k_ hk_.1)⟩)) (below_size (by repeat (first | (with_reducible first | exact HB.out | apply below_alloc | apply pw_below_drewN | apply below_drew1) | exact HB.out)))); have n5_ := Aside0.mk (Kd.N_lower (Kd.N_mono (ok' := fun k_ => some k_ ≠ (.slice Ao64 t349.length co64 : Value).ownBlock ∧ some k_ ≠ (v355 : Value).ownBlock ∧ some k_ ≠ (v360 : Value).ownBlock) ho1 (fun k_ hk_ => ⟨(Kd.fresh' (Kd.N_lt (by (with_reducible repeat (first | apply Kd.N_alloc | apply Kd.N_drewN | apply Kd.N_drew)); exact HO351.out)) k_ hk_), (Kd.fresh' (Kd.R_lt (by (with_reducible repeat (first | apply Kd.R_alloc | apply Kd.R_drewN | apply Kd.R_drew)); exact HO356.out)) k_ hk_), (Kd.fresh' (Kd.R_lt (by (with_reducible repeat (first | apply Kd.R_alloc | apply Kd.R_drewN | apply Kd.R_drew)); exact HO361.out)) k_ hk_)⟩)) (below_size (by repeat (first | (with_reducible first | exact HB.out | apply below_alloc | apply pw_below_drewN | apply below_drew1) | exact HB.out)))); have n6_ := Aside0.mk (below_step (by repeat (first | (with_reducible first | exact HB.out | apply below_alloc | apply pw_below_drewN | apply below_drew1) | exact HB.out)) hb); clear HO348; clear HO351; clear HO356; clear HO361; clear HB; have HO348 := n0_; have HO351 := n1_; have HO356 := n2_; have HO361 := n3_; have HO364 := n4_; have HO367 := n5_; have HB := n6_; clear n0_ n1_ n2_ n3_ n4_ n5_ n6_; (try clear hb); (try clear hb2); (try clear hk); (try clear hi); (try clear ho0); (try clear ho1); obtain ⟨Ao68, co68, eo68⟩ := Kd.V_slice HO364.out; subst eo68; obtain ⟨Ao69, co69, eo69⟩ := Kd.N_slice HO367.out; subst eo69) | ((with_reducible refine gate_callee (f := 26) rfl ?_); refine goesL_ (some 301) rfl rfl Try.func26 (by kernel_rfl) rfl #[.slice Ao68 t362.length co68, .slice Ao69 t365.length co69] rfl (by (try simp only [List.map_toArray, List.map_cons, List.map_nil]); first | done | rfl | (simp only [List.length_drop, List.length_take]; rfl)) ?_; (with_reducible refine (impl_LeastMirrorFor.calls kj41 (fun k_ => (some k_ ≠ (.slice Ao69 t365.length co69 : Value).ownBlock ∧ (some k_ ≠ (.slice Ao64 t349.length co64 : Value).ownBlock ∧ (some k_ ≠ (v355 : Value).ownBlock ∧ some k_ ≠ (v360 : Value).ownBlock)))) _ _ t362 _ _ t365 t368 t369 t370 _ ?side1 ?side2 ?side3 A51.out).mono ?_); (case side1 => exact HO364.out); (case side2 => repeat (first | exact (Kd.N_reads' HO367.out).2.2 | (with_reducible refine Kd.C_alloc ?_ _) | (with_reducible refine Kd.C_drewN ?_ _) | (with_reducible refine Kd.C_drew ?_))); (case side3 => exact (Kd.N_reads' HO367.out).2.1); rintro e w70 ⟨rfl, hb⟩; refine ⟨_, rfl, ?_⟩; have n0_ := Aside0.mk (Kd.V_below (by (with_reducible repeat (first | apply Kd.V_alloc | apply Kd.V_drewN | apply Kd.V_drew)); exact HO348.out) hb); have n1_ := Aside0.mk (Kd.N_below (by (with_reducible repeat (first | apply Kd.N_alloc | apply Kd.N_drewN | apply Kd.N_drew)); exact HO351.out) hb); have n2_ := Aside0.mk (Kd.R_below (by (with_reducible repeat (first | apply Kd.R_alloc | apply Kd.R_drewN | apply Kd.R_drew)); exact HO356.out) hb); have n3_ := Aside0.mk (Kd.R_below (by (with_reducible repeat (first | apply Kd.R_alloc | apply Kd.R_drewN | apply Kd.R_drew)); exact HO361.out) hb); have n4_ := Aside0.mk (Kd.V_below (by (with_reducible repeat (first | apply Kd.V_alloc | apply Kd.V_drewN | apply Kd.V_drew)); exact HO364.out) hb); have n5_ := Aside0.mk (Kd.N_below (by (with_reducible repeat (first | apply Kd.N_alloc | apply Kd.N_drewN | apply Kd.N_drew)); exact HO367.out) hb); have n6_ := Aside0.mk (below_step (by repeat (first | (with_reducible first | exact HB.out | apply below_alloc | apply pw_below_drewN | apply below_drew1) | exact HB.out)) hb); clear HO348; clear HO351; clear HO356; clear HO361; clear HO364; clear HO367; clear HB; have HO348 := n0_; have HO351 := n1_; have HO356 := n2_; have HO361 := n3_; have HO364 := n4_; have HO367 := n5_; have HB := n6_; clear n0_ n1_ n2_ n3_ n4_ n5_ n6_; (try clear hb); (try clear hb2); (try clear hk); (try clear hi)) | ((with_reducible refine gate_callee (f := 27) rfl ?_); refine goesL_ (some 308) rfl rfl Try.func27 (by kernel_rfl) rfl #[.slice Ao68 t362.length co68, .slice Ao69 t365.length co69] rfl (by (try simp only [List.map_toArray, List.map_cons, List.map_nil]); first | done | rfl | (simp only [List.length_drop, List.length_take]; rfl)) ?_; (with_reducible refine (spec_LeastMirrorFor.calls kj41 _ _ t362 _ _ t365 t371 t372 t373 _ ?side1 ?side2 ?side3 ?side4 A52.out).mono ?_); (case side1 => repeat (first | exact (Kd.V_reads' HO364.out).2.2 | (with_reducible refine Kd.C_alloc ?_ _) | (with_reducible refine Kd.C_drewN ?_ _) | (with_reducible refine Kd.C_drew ?_))); (case side2 => exact (Kd.V_reads' HO364.out).2.1); (case side3 => repeat (first | exact (Kd.N_reads' HO367.out).2.2 | (with_reducible refine Kd.C_alloc ?_ _) | (with_reducible refine Kd.C_drewN ?_ _) | (with_reducible refine Kd.C_drew ?_))); (case side4 => exact (Kd.N_reads' HO367.out).2.1); rintro e w' ⟨rfl, ⟨nd, rfl⟩⟩; refine ⟨_, rfl, ?_⟩) | ((with_reducible refine gate_callee (f := 28) rfl ?_); refine goesL_ (some 314) rfl rfl Try.func28 (by kernel_rfl) rfl #[.slice A1 l1.length c1] rfl (by (try simp only [List.map_toArray, List.map_cons, List.map_nil]); first | done | rfl | (simp only [List.length_drop, List.length_take]; rfl)) ?_; (with_reducible refine (spec_DrawLookedAt.calls kj41 _ _ l1 t374 t377 _ ?side1 ?side2 A53.out).mono ?_); (case side1 => repeat (first | exact (Kd.C_below HR1.out (by repeat (first | (with_reducible first | exact HB.out | apply below_alloc | apply pw_below_drewN | apply below_drew1) | exact HB.out))) | (with_reducible refine Kd.C_alloc ?_ _) | (with_reducible refine Kd.C_drewN ?_ _) | (with_reducible refine Kd.C_drew ?_))); (case side2 => exact HC1.out); rintro e w71 ⟨v375, v378, rfl, ho0, ho1, hb⟩; refine ⟨_, rfl, ?_⟩; have n0_ := Aside0.mk (Kd.V_below (by (with_reducible repeat (first | apply Kd.V_alloc | apply Kd.V_drewN | apply Kd.V_drew)); exact HO348.out) hb); have n1_ := Aside0.mk (Kd.N_below (by (with_reducible repeat (first | apply Kd.N_alloc | apply Kd.N_drewN | apply Kd.N_drew)); exact HO351.out) hb); have n2_ := Aside0.mk (Kd.R_below (by (with_reducible repeat (first | apply Kd.R_alloc | apply Kd.R_drewN | apply Kd.R_drew)); exact HO356.out) hb); have n3_ := Aside0.mk (Kd.R_below (by (with_reducible repeat (first | apply Kd.R_alloc | apply Kd.R_drewN | apply Kd.R_drew)); exact HO361.out) hb); have n4_ := Aside0.mk (Kd.V_below (by (with_reducible repeat (first | apply Kd.V_alloc | apply Kd.V_drewN | apply Kd.V_drew)); exact HO364.out) hb); have n5_ := Aside0.mk (Kd.N_below (by (with_reducible repeat (first | apply Kd.N_alloc | apply Kd.N_drewN | apply Kd.N_drew)); exact HO367.out) hb); have n6_ := Aside0.mk (Kd.V_lower (Kd.V_mono (ok' := fun k_ => some k_ ≠ (.slice Ao64 t349.length co64 : Value).ownBlock ∧ some k_ ≠ (v355 : Value).ownBlock ∧ some k_ ≠ (v360 : Value).ownBlock ∧ some k_ ≠ (.slice Ao69 t365.length co69 : Value).ownBlock) ho0 (fun k_ hk_ => ⟨(Kd.fresh' (Kd.N_lt (by (with_reducible repeat (first | apply Kd.N_alloc | apply Kd.N_drewN | apply Kd.N_drew)); exact HO351.out)) k_ hk_), (Kd.fresh' (Kd.R_lt (by (with_reducible repeat (first | apply Kd.R_alloc | apply Kd.R_drewN | apply Kd.R_drew)); exact HO356.out)) k_ hk_), (Kd.fresh' (Kd.R_lt (by (with_reducible repeat (first | apply Kd.R_alloc | apply Kd.R_drewN | apply Kd.R_drew)); exact HO361.out)) k_ hk_), (Kd.fresh' (Kd.N_lt (by (with_reducible repeat (first | apply Kd.N_alloc | apply Kd.N_drewN | apply Kd.N_drew)); exact HO367.out)) k_ hk_)⟩)) (below_size (by repeat (first | (with_reducible first | exact HB.out | apply below_alloc | apply pw_below_drewN | apply below_drew1) | exact HB.out)))); have n7_ := Aside0.mk (Kd.V_lower (Kd.V_mono (ok' := fun k_ => some k_ ≠ (.slice Ao64 t349.length co64 : Value).ownBlock ∧ some k_ ≠ (v355 : Value).ownBlock ∧ some k_ ≠ (v360 : Value).ownBlock ∧ some k_ ≠ (.slice Ao69 t365.length co69 : Value).ownBlock) ho1 (fun k_ hk_ => ⟨(Kd.fresh' (Kd.N_lt (by (with_reducible repeat (first | apply Kd.N_alloc | apply Kd.N_drewN | apply Kd.N_drew)); exact HO351.out)) k_ hk_), (Kd.fresh' (Kd.R_lt (by (with_reducible repeat (first | apply Kd.R_alloc | apply Kd.R_drewN | apply Kd.R_drew)); exact HO356.out)) k_ hk_), (Kd.fresh' (Kd.R_lt (by (with_reducible repeat (first | apply Kd.R_alloc | apply Kd.R_drewN | apply Kd.R_drew)); exact HO361.out)) k_ hk_), (Kd.fresh' (Kd.N_lt (by (with_reducible repeat (first | apply Kd.N_alloc | apply Kd.N_drewN | apply Kd.N_drew)); exact HO367.out)) k_ hk_)⟩)) (below_size (by repeat (first | (with_reducible first | exact HB.out | apply below_alloc | apply pw_below_drewN | apply below_drew1) | exact HB.out)))); have n8_ := Aside0.mk (below_step (by repeat (first | (with_reducible first | exact HB.out | apply below_alloc | apply pw_below_drewN | apply below_drew1) | exact HB.out)) hb); clear HO348; clear HO351; clear HO356; clear HO361; clear HO364; clear HO367; clear HB; have HO348 := n0_; have HO351 := n1_; have HO356 := n2_; have HO361 := n3_; have HO364 := n4_; have HO367 := n5_; have HO376 := n6_; have HO379 := n7_; have HB := n8_; clear n0_ n1_ n2_ n3_ n4_ n5_ n6_ n7_ n8_; (try clear hb); (try clear hb2); (try clear hk); (try clear hi); (try clear ho0); (try clear ho1); obtain ⟨Ao72, co72, eo72⟩ := Kd.V_slice HO376.out; subst eo72; obtain ⟨Ao73, co73, eo73⟩ := Kd.V_slice HO379.out; subst eo73) | ((with_reducible refine gate_callee (f := 29) rfl ?_); refine goesL_ (some 320) rfl rfl Try.func29 (by kernel_rfl) rfl #[.slice Ao72 t374.length co72, .slice Ao73 t377.length co73] rfl (by (try simp only [List.map_toArray, List.map_cons, List.map_nil]); first | done | rfl | (simp only [List.length_drop, List.length_take]; rfl)) ?_; (with_reducible refine (impl_LookedAt.calls kj41 (fun k_ => (some k_ ≠ (.slice Ao64 t349.length co64 : Value).ownBlock ∧ (some k_ ≠ (v355 : Value).ownBlock ∧ (some k_ ≠ (v360 : Value).ownBlock ∧ some k_ ≠ (.slice Ao69 t365.length co69 : Value).ownBlock)))) _ _ t374 (fun k_ => (some k_ ≠ (.slice Ao64 t349.length co64 : Value).ownBlock ∧ (some k_ ≠ (v355 : Value).ownBlock ∧ (some k_ ≠ (v360 : Value).ownBlock ∧ some k_ ≠ (.slice Ao69 t365.length co69 : Value).ownBlock)))) _ _ t377 t380 t381 t382 _ ?side1 ?side2 A54.out).mono ?_); (case side1 => exact HO376.out); (case side2 => exact HO379.out); rintro e w74 ⟨rfl, hb⟩; refine ⟨_, rfl, ?_⟩; have n0_ := Aside0.mk (Kd.V_below (by (with_reducible repeat (first | apply Kd.V_alloc | apply Kd.V_drewN | apply Kd.V_drew)); exact HO348.out) hb); have n1_ := Aside0.mk (Kd.N_below (by (with_reducible repeat (first | apply Kd.N_alloc | apply Kd.N_drewN | apply Kd.N_drew)); exact HO351.out) hb); have n2_ := Aside0.mk (Kd.R_below (by (with_reducible repeat (first | apply Kd.R_alloc | apply Kd.R_drewN | apply Kd.R_drew)); exact HO356.out) hb); have n3_ := Aside0.mk (Kd.R_below (by (with_reducible repeat (first | apply Kd.R_alloc | apply Kd.R_drewN | apply Kd.R_drew)); exact HO361.out) hb); have n4_ := Aside0.mk (Kd.V_below (by (with_reducible repeat (first | apply Kd.V_alloc | apply Kd.V_drewN | apply Kd.V_drew)); exact HO364.out) hb); have n5_ := Aside0.mk (Kd.N_below (by (with_reducible repeat (first | apply Kd.N_alloc | apply Kd.N_drewN | apply Kd.N_drew)); exact HO367.out) hb); have n6_ := Aside0.mk (Kd.V_below (by (with_reducible repeat (first | apply Kd.V_alloc | apply Kd.V_drewN | apply Kd.V_drew)); exact HO376.out) hb); have n7_ := Aside0.mk (Kd.V_below (by (with_reducible repeat (first | apply Kd.V_alloc | apply Kd.V_drewN | apply Kd.V_drew)); exact HO379.out) hb); have n8_ := Aside0.mk (below_step (by repeat (first | (with_reducible first | exact HB.out | apply below_alloc | apply pw_below_drewN | apply below_drew1) | exact HB.out)) hb); clear HO348; clear HO351; clear HO356; clear HO361; clear HO364; clear HO367; clear HO376; clear HO379; clear HB; have HO348 := n0_; have HO351 := n1_; have HO356 := n2_; have HO361 := n3_; have HO364 := n4_; have HO367 := n5_; have HO376 := n6_; have HO379 := n7_; have HB := n8_; clear n0_ n1_ n2_ n3_ n4_ n5_ n6_ n7_ n8_; (try clear hb); (try clear hb2); (try clear hk); (try clear hi)) | ((with_reducible refine gate_callee (f := 30) rfl ?_); refine goesL_ (some 327) rfl rfl Try.func30 (by kernel_rfl) rfl #[.slice Ao72 t374.length co72, .slice Ao73 t377.length co73] rfl (by (try simp only [List.map_toArray, List.map_cons, List.map_nil]); first | done | rfl | (simp only [List.length_drop, List.length_take]; rfl)) ?_; (with_reducible refine (spec_LookedAt.calls kj41 _ _ t374 _ _ t377 t383 t384 t385 _ ?side1 ?side2 ?side3 ?side4 A55.out).mono ?_); (case side1 => repeat (first | exact (Kd.V_reads' HO376.out).2.2 | (with_reducible refine Kd.C_alloc ?_ _) | (with_reducible refine Kd.C_drewN ?_ _) | (with_reducible refine Kd.C_drew ?_))); (case side2 => exact (Kd.V_reads' HO376.out).2.1); (case side3 => repeat (first | exact (Kd.V_reads' HO379.out).2.2 | (with_reducible refine Kd.C_alloc ?_ _) | (with_reducible refine Kd.C_drewN ?_ _) | (with_reducible refine Kd.C_drew ?_))); (case side4 => exact (Kd.V_reads' HO379.out).2.1); rintro e w' ⟨rfl, ⟨nd, rfl⟩⟩; refine ⟨_, rfl, ?_⟩) | ((with_reducible refine gate_callee (f := 31) rfl ?_); refine goesL_ (some 334) rfl rfl Try.func31 (by kernel_rfl) rfl #[.slice Ao72 t374.length co72, .slice Ao73 t377.length co73] rfl (by (try simp only [List.map_toArray, List.map_cons, List.map_nil]); first | done | rfl | (simp only [List.length_drop, List.length_take]; rfl)) ?_; (with_reducible refine (impl_LookSquare.calls (fun k_ => (some k_ ≠ (.slice Ao64 t349.length co64 : Value).ownBlock ∧ (some k_ ≠ (v355 : Value).ownBlock ∧ (some k_ ≠ (v360 : Value).ownBlock ∧ some k_ ≠ (.slice Ao69 t365.length co69 : Value).ownBlock)))) _ _ t374 (fun k_ => (some k_ ≠ (.slice Ao64 t349.length co64 : Value).ownBlock ∧ (some k_ ≠ (v355 : Value).ownBlock ∧ (some k_ ≠ (v360 : Value).ownBlock ∧ some k_ ≠ (.slice Ao69 t365.length co69 : Value).ownBlock)))) _ _ t377 t386 t387 _ ?side1 ?side2 A56.out).mono ?_); (case side1 => exact HO376.out); (case side2 => exact HO379.out); rintro e w75 ⟨rfl, hb⟩; refine ⟨_, rfl, ?_⟩; have n0_ := Aside0.mk (Kd.V_below (by (with_reducible repeat (first | apply Kd.V_alloc | apply Kd.V_drewN | apply Kd.V_drew)); exact HO348.out) hb); have n1_ := Aside0.mk (Kd.N_below (by (with_reducible repeat (first | apply Kd.N_alloc | apply Kd.N_drewN | apply Kd.N_drew)); exact HO351.out) hb); have n2_ := Aside0.mk (Kd.R_below (by (with_reducible repeat (first | apply Kd.R_alloc | apply Kd.R_drewN | apply Kd.R_drew)); exact HO356.out) hb); have n3_ := Aside0.mk (Kd.R_below (by (with_reducible repeat (first | apply Kd.R_alloc | apply Kd.R_drewN | apply Kd.R_drew)); exact HO361.out) hb); have n4_ := Aside0.mk (Kd.V_below (by (with_reducible repeat (first | apply Kd.V_alloc | apply Kd.V_drewN | apply Kd.V_drew)); exact HO364.out) hb); have n5_ := Aside0.mk (Kd.N_below (by (with_reducible repeat (first | apply Kd.N_alloc | apply Kd.N_drewN | apply Kd.N_drew)); exact HO367.out) hb); have n6_ := Aside0.mk (Kd.V_below (by (with_reducible repeat (first | apply Kd.V_alloc | apply Kd.V_drewN | apply Kd.V_drew)); exact HO376.out) hb); have n7_ := Aside0.mk (Kd.V_below (by (with_reducible repeat (first | apply Kd.V_alloc | apply Kd.V_drewN | apply Kd.V_drew)); exact HO379.out) hb); have n8_ := Aside0.mk (below_step (by repeat (first | (with_reducible first | exact HB.out | apply below_alloc | apply pw_below_drewN | apply below_drew1) | exact HB.out)) hb); clear HO348; clear HO351; clear HO356; clear HO361; clear HO364; clear HO367; clear HO376; clear HO379; clear HB; have HO348 := n0_; have HO351 := n1_; have HO356 := n2_; have HO361 := n3_; have HO364 := n4_; have HO367 := n5_; have HO376 := n6_; have HO379 := n7_; have HB := n8_; clear n0_ n1_ n2_ n3_ n4_ n5_ n6_ n7_ n8_; (try clear hb); (try clear hb2); (try clear hk); (try clear hi)) | ((with_reducible refine gate_callee (f := 32) rfl ?_); refine goesL_ (some 340) rfl rfl Try.func32 (by kernel_rfl) rfl #[.slice Ao72 t374.length co72, .slice Ao73 t377.length co73] rfl (by (try simp only [List.map_toArray, List.map_cons, List.map_nil]); first | done | rfl | (simp only [List.length_drop, List.length_take]; rfl)) ?_; (with_reducible refine (spec_LookSquare.calls kj41 _ _ t374 _ _ t377 t388 t389 _ ?side1 ?side2 ?side3 ?side4 A57.out).mono ?_); (case side1 => repeat (first | exact (Kd.V_reads' HO376.out).2.2 | (with_reducible refine Kd.C_alloc ?_ _) | (with_reducible refine Kd.C_drewN ?_ _) | (with_reducible refine Kd.C_drew ?_))); (case side2 => exact (Kd.V_reads' HO376.out).2.1); (case side3 => repeat (first | exact (Kd.V_reads' HO379.out).2.2 | (with_reducible refine Kd.C_alloc ?_ _) | (with_reducible refine Kd.C_drewN ?_ _) | (with_reducible refine Kd.C_drew ?_))); (case side4 => exact (Kd.V_reads' HO379.out).2.1); rintro e w' ⟨rfl, ⟨nd, rfl⟩⟩; refine ⟨_, rfl, ?_⟩) | ((with_reducible refine gate_callee (f := 33) rfl ?_); refine goesL_ (some 345) rfl rfl Try.func33 (by kernel_rfl) rfl #[.slice A1 l1.length c1] rfl (by (try simp only [List.map_toArray, List.map_cons, List.map_nil]); first | done | rfl | (simp only [List.length_drop, List.length_take]; rfl)) ?_; (with_reducible refine (spec_DrawSeesIn.calls kj41 _ _ l1 t390 t393 t396 t397 _ ?side1 ?side2 A58.out).mono ?_); (case side1 => repeat (first | exact (Kd.C_below HR1.out (by repeat (first | (with_reducible first | exact HB.out | apply below_alloc | apply pw_below_drewN | apply below_drew1) | exact HB.out))) | (with_reducible refine Kd.C_alloc ?_ _) | (with_reducible refine Kd.C_drewN ?_ _) | (with_reducible refine Kd.C_drew ?_))); (case side2 => exact HC1.out); rintro e w76 ⟨v391, v394, rfl, ho0, ho1, hb⟩; refine ⟨_, rfl, ?_⟩; have n0_ := Aside0.mk (Kd.V_below (by (with_reducible repeat (first | apply Kd.V_alloc | apply Kd.V_drewN | apply Kd.V_drew)); exact HO348.out) hb); have n1_ := Aside0.mk (Kd.N_below (by (with_reducible repeat (first | apply Kd.N_alloc | apply Kd.N_drewN | apply Kd.N_drew)); exact HO351.out) hb); have n2_ := Aside0.mk (Kd.R_below (by (with_reducible repeat (first | apply Kd.R_alloc | apply Kd.R_drewN | apply Kd.R_drew)); exact HO356.out) hb); have n3_ := Aside0.mk (Kd.R_below (by (with_reducible repeat (first | apply Kd.R_alloc | apply Kd.R_drewN | apply Kd.R_drew)); exact HO361.out) hb); have n4_ := Aside0.mk (Kd.V_below (by (with_reducible repeat (first | apply Kd.V_alloc | apply Kd.V_drewN | apply Kd.V_drew)); exact HO364.out) hb); have n5_ := Aside0.mk (Kd.N_below (by (with_reducible repeat (first | apply Kd.N_alloc | apply Kd.N_drewN | apply Kd.N_drew)); exact HO367.out) hb); have n6_ := Aside0.mk (Kd.V_below (by (with_reducible repeat (first | apply Kd.V_alloc | apply Kd.V_drewN | apply Kd.V_drew)); exact HO376.out) hb); have n7_ := Aside0.mk (Kd.V_below (by (with_reducible repeat (first | apply Kd.V_alloc | apply Kd.V_drewN | apply Kd.V_drew)); exact HO379.out) hb); have n8_ := Aside0.mk (Kd.V_lower (Kd.V_mono (ok' := fun k_ => some k_ ≠ (.slice Ao64 t349.length co64 : Value).ownBlock ∧ some k_ ≠ (v355 : Value).ownBlock ∧ some k_ ≠ (v360 : Value).ownBlock ∧ some k_ ≠ (.slice Ao69 t365.length co69 : Value).ownBlock) ho0 (fun k_ hk_ => ⟨(Kd.fresh' (Kd.N_lt (by (with_reducible repeat (first | apply Kd.N_alloc | apply Kd.N_drewN | apply Kd.N_drew)); exact HO351.out)) k_ hk_), (Kd.fresh' (Kd.R_lt (by (with_reducible repeat (first | apply Kd.R_alloc | apply Kd.R_drewN | apply Kd.R_drew)); exact HO356.out)) k_ hk_), (Kd.fresh' (Kd.R_lt (by (with_reducible repeat (first | apply Kd.R_alloc | apply Kd.R_drewN | apply Kd.R_drew)); exact HO361.out)) k_ hk_), (Kd.fresh' (Kd.N_lt (by (with_reducible repeat (first | apply Kd.N_alloc | apply Kd.N_drewN | apply Kd.N_drew)); exact HO367.out)) k_ hk_)⟩)) (below_size (by repeat (first | (with_reducible first | exact HB.out | apply below_alloc | apply pw_below_drewN | apply below_drew1) | exact HB.out)))); have n9_ := Aside0.mk (Kd.V_lower (Kd.V_mono (ok' := fun k_ => some k_ ≠ (.slice Ao64 t349.length co64 : Value).ownBlock ∧ some k_ ≠ (v355 : Value).ownBlock ∧ some k_ ≠ (v360 : Value).ownBlock ∧ some k_ ≠ (.slice Ao69 t365.length co69 : Value).ownBlock) ho1 (fun k_ hk_ => ⟨(Kd.fresh' (Kd.N_lt (by (with_reducible repeat (first | apply Kd.N_alloc | apply Kd.N_drewN | apply Kd.N_drew)); exact HO351.out)) k_ hk_), (Kd.fresh' (Kd.R_lt (by (with_reducible repeat (first | apply Kd.R_alloc | apply Kd.R_drewN | apply Kd.R_drew)); exact HO356.out)) k_ hk_), (Kd.fresh' (Kd.R_lt (by (with_reducible repeat (first | apply Kd.R_alloc | apply Kd.R_drewN | apply Kd.R_drew)); exact HO361.out)) k_ hk_), (Kd.fresh' (Kd.N_lt (by (with_reducible repeat (first | apply Kd.N_alloc | apply Kd.N_drewN | apply Kd.N_drew)); exact HO367.out)) k_ hk_)⟩)) (below_size (by repeat (first | (with_reducible first | exact HB.out | apply below_alloc | apply pw_below_drewN | apply below_drew1) | exact HB.out)))); have n10_ := Aside0.mk (below_step (by repeat (first | (with_reducible first | exact HB.out | apply below_alloc | apply pw_below_drewN | apply below_drew1) | exact HB.out)) hb); clear HO348; clear HO351; clear HO356; clear HO361; clear HO364; clear HO367; clear HO376; clear HO379; clear HB; have HO348 := n0_; have HO351 := n1_; have HO356 := n2_; have HO361 := n3_; have HO364 := n4_; have HO367 := n5_; have HO376 := n6_; have HO379 := n7_; have HO392 := n8_; have HO395 := n9_; have HB := n10_; clear n0_ n1_ n2_ n3_ n4_ n5_ n6_ n7_ n8_ n9_ n10_; (try clear hb); (try clear hb2); (try clear hk); (try clear hi); (try clear ho0); (try clear ho1); obtain ⟨Ao77, co77, eo77⟩ := Kd.V_slice HO392.out; subst eo77; obtain ⟨Ao78, co78, eo78⟩ := Kd.V_slice HO395.out; subst eo78) | ((with_reducible refine gate_callee (f := 34) rfl ?_); refine goesL_ (some 355) rfl rfl Try.func34 (by kernel_rfl) rfl #[.slice Ao77 t390.length co77, .slice Ao78 t393.length co78, .int .i64 t396, .int .i64 t397] rfl (by (try simp only [List.map_toArray, List.map_cons, List.map_nil]); first | done | rfl | (simp only [List.length_drop, List.length_take]; rfl)) ?_; (with_reducible refine (impl_SeesIn.calls kj41 (fun k_ => (some k_ ≠ (.slice Ao64 t349.length co64 : Value).ownBlock ∧ (some k_ ≠ (v355 : Value).ownBlock ∧ (some k_ ≠ (v360 : Value).ownBlock ∧ some k_ ≠ (.slice Ao69 t365.length co69 : Value).ownBlock)))) _ _ t390 (fun k_ => (some k_ ≠ (.slice Ao64 t349.length co64 : Value).ownBlock ∧ (some k_ ≠ (v355 : Value).ownBlock ∧ (some k_ ≠ (v360 : Value).ownBlock ∧ some k_ ≠ (.slice Ao69 t365.length co69 : Value).ownBlock)))) _ _ t393 t396 t397 t398 t399 _ ?side1 ?side2 A59.out).mono ?_); (case side1 => exact HO392.out); (case side2 => exact HO395.out); rintro e w79 ⟨rfl, hb⟩; refine ⟨_, rfl, ?_⟩; have n0_ := Aside0.mk (Kd.V_below (by (with_reducible repeat (first | apply Kd.V_alloc | apply Kd.V_drewN | apply Kd.V_drew)); exact HO348.out) hb); have n1_ := Aside0.mk (Kd.N_below (by (with_reducible repeat (first | apply Kd.N_alloc | apply Kd.N_drewN | apply Kd.N_drew)); exact HO351.out) hb); have n2_ := Aside0.mk (Kd.R_below (by (with_reducible repeat (first | apply Kd.R_alloc | apply Kd.R_drewN | apply Kd.R_drew)); exact HO356.out) hb); have n3_ := Aside0.mk (Kd.R_below (by (with_reducible repeat (first | apply Kd.R_alloc | apply Kd.R_drewN | apply Kd.R_drew)); exact HO361.out) hb); have n4_ := Aside0.mk (Kd.V_below (by (with_reducible repeat (first | apply Kd.V_alloc | apply Kd.V_drewN | apply Kd.V_drew)); exact HO364.out) hb); have n5_ := Aside0.mk (Kd.N_below (by (with_reducible repeat (first | apply Kd.N_alloc | apply Kd.N_drewN | apply Kd.N_drew)); exact HO367.out) hb); have n6_ := Aside0.mk (Kd.V_below (by (with_reducible repeat (first | apply Kd.V_alloc | apply Kd.V_drewN | apply Kd.V_drew)); exact HO376.out) hb); have n7_ := Aside0.mk (Kd.V_below (by (with_reducible repeat (first | apply Kd.V_alloc | apply Kd.V_drewN | apply Kd.V_drew)); exact HO379.out) hb); have n8_ := Aside0.mk (Kd.V_below (by (with_reducible repeat (first | apply Kd.V_alloc | apply Kd.V_drewN | apply Kd.V_drew)); exact HO392.out) hb); have n9_ := Aside0.mk (Kd.V_below (by (with_reducible repeat (first | apply Kd.V_alloc | apply Kd.V_drewN | apply Kd.V_drew)); exact HO395.out) hb); have n10_ := Aside0.mk (below_step (by repeat (first | (with_reducible first | exact HB.out | apply below_alloc | apply pw_below_drewN | apply below_drew1) | exact HB.out)) hb); clear HO348; clear HO351; clear HO356; clear HO361; clear HO364; clear HO367; clear HO376; clear HO379; clear HO392; clear HO395; clear HB; have HO348 := n0_; have HO351 := n1_; have HO356 := n2_; have HO361 := n3_; have HO364 := n4_; have HO367 := n5_; have HO376 := n6_; have HO379 := n7_; have HO392 := n8_; have HO395 := n9_; have HB := n10_; clear n0_ n1_ n2_ n3_ n4_ n5_ n6_ n7_ n8_ n9_ n10_; (try clear hb); (try clear hb2); (try clear hk); (try clear hi)) | ((with_reducible refine gate_callee (f := 35) rfl ?_); refine goesL_ (some 363) rfl rfl Try.func35 (by kernel_rfl) rfl #[.slice Ao77 t390.length co77, .slice Ao78 t393.length co78, .int .i64 t396, .int .i64 t397] rfl (by (try simp only [List.map_toArray, List.map_cons, List.map_nil]); first | done | rfl | (simp only [List.length_drop, List.length_take]; rfl)) ?_; (with_reducible refine (spec_SeesIn.calls kj41 _ _ t390 _ _ t393 t396 t397 t400 t401 _ ?side1 ?side2 ?side3 ?side4 A60.out).mono ?_); (case side1 => repeat (first | exact (Kd.V_reads' HO392.out).2.2 | (with_reducible refine Kd.C_alloc ?_ _) | (with_reducible refine Kd.C_drewN ?_ _) | (with_reducible refine Kd.C_drew ?_))); (case side2 => exact (Kd.V_reads' HO392.out).2.1); (case side3 => repeat (first | exact (Kd.V_reads' HO395.out).2.2 | (with_reducible refine Kd.C_alloc ?_ _) | (with_reducible refine Kd.C_drewN ?_ _) | (with_reducible refine Kd.C_drew ?_))); (case side4 => exact (Kd.V_reads' HO395.out).2.1); rintro e w' ⟨rfl, ⟨nd, rfl⟩⟩; refine ⟨_, rfl, ?_⟩))
         (try simp only [Act.put, List.setIfInBounds_toArray, List.set_cons_zero, List.set_cons_succ])
         go_cut [429] from 429 to 429 (fun v429 wc => ∃ (kq : Nat) (x429_60 : Bool), v429 = .bool x429_60 ∧ Aside0 (laws_FnMirrorsSeen.j4 kq t346 t349 t352 t353 t354 t357 t362 t365 t368 t369 t370 t374 t377 t380 t381 t382 t386 t390 t393 t396 t397 t398 t399 x429_60 = some r) ∧ Aside0 (kq ≤ kj41) ∧ Aside0 (Kd.V (Kd.int .i64) 3 wc w.heap.size (fun k_ => some k_ ≠ ((.slice Ao64 t349.length co64) : Value).ownBlock ∧ some k_ ≠ (v355 : Value).ownBlock ∧ some k_ ≠ ((.slice Ao69 t365.length co69) : Value).ownBlock) (.slice Ao63 t346.length co63) t346) ∧ Aside0 (Kd.N (Kd.slice 3 (Kd.int .i64)) 22 wc w.heap.size (fun k_ => some k_ ≠ (v355 : Value).ownBlock ∧ some k_ ≠ ((.slice Ao69 t365.length co69) : Value).ownBlock) (.slice Ao64 t349.length co64) t349) ∧ Aside0 (Kd.R (Kd.int .i64) 3 wc w.heap.size (fun _ => True) v355 t354) ∧ Aside0 (Kd.V (Kd.int .i64) 3 wc w.heap.size (fun k_ => some k_ ≠ ((.slice Ao64 t349.length co64) : Value).ownBlock ∧ some k_ ≠ (v355 : Value).ownBlock ∧ some k_ ≠ ((.slice Ao69 t365.length co69) : Value).ownBlock) (.slice Ao68 t362.length co68) t362) ∧ Aside0 (Kd.N (Kd.slice 3 (Kd.int .i64)) 22 wc w.heap.size (fun k_ => some k_ ≠ ((.slice Ao64 t349.length co64) : Value).ownBlock ∧ some k_ ≠ (v355 : Value).ownBlock) (.slice Ao69 t365.length co69) t365) ∧ Aside0 (Kd.V (Kd.int .i64) 3 wc w.heap.size (fun k_ => some k_ ≠ ((.slice Ao64 t349.length co64) : Value).ownBlock ∧ some k_ ≠ (v355 : Value).ownBlock ∧ some k_ ≠ ((.slice Ao69 t365.length co69) : Value).ownBlock) (.slice Ao72 t374.length co72) t374) ∧ Aside0 (Kd.V (Kd.int .i64) 3 wc w.heap.size (fun k_ => some k_ ≠ ((.slice Ao64 t349.length co64) : Value).ownBlock ∧ some k_ ≠ (v355 : Value).ownBlock ∧ some k_ ≠ ((.slice Ao69 t365.length co69) : Value).ownBlock) (.slice Ao73 t377.length co73) t377) ∧ Aside0 (Kd.V (Kd.int .i64) 3 wc w.heap.size (fun k_ => some k_ ≠ ((.slice Ao64 t349.length co64) : Value).ownBlock ∧ some k_ ≠ (v355 : Value).ownBlock ∧ some k_ ≠ ((.slice Ao69 t365.length co69) : Value).ownBlock) (.slice Ao77 t390.length co77) t390) ∧ Aside0 (Kd.V (Kd.int .i64) 3 wc w.heap.size (fun k_ => some k_ ≠ ((.slice Ao64 t349.length co64) : Value).ownBlock ∧ some k_ ≠ (v355 : Value).ownBlock ∧ some k_ ≠ ((.slice Ao69 t365.length co69) : Value).ownBlock) (.slice Ao78 t393.length co78) t393) ∧ Aside0 (Below w.heap.size w wc))
         case first =>
          as_aux_lemma =>
           have H := HC61.out
           clear HC61
           by_cases c80 : (t357 != t359) = true
           · rw [if_pos c80] at H
             have c80b0 : (t357 != t359) = true := c80
             (try (have c80b1 : decide (t357 = t359) = false := by simpa using c80))
             (try (have c80b2 : (t357 == t359) = false := by simpa using c80))
             (try (have c80b3 : ¬ (t357 = t359) := by simpa using c80))
             clear c80
             (first | rw [c80b0] | (simp only [i64_w, i32_w]; rw [c80b0]) | skip)
             cases kj41 with
             | zero => exact absurd H (by simp [laws_FnMirrorsSeen.j4])
             | succ kz_ =>
              simp only [laws_FnMirrorsSeen.j4] at H
              exact absurd (Option.some.inj (by first | exact H | (rw [if_pos rfl] at H; exact H) | (simpa using H) : (some false : Option Bool) = some r)) (by rw [HT_l.out]; decide)
           rw [if_neg c80] at H
           have c80b0 : (t357 != t359) = false := by simpa using c80
           (try (have c80b1 : decide (t357 = t359) = true := by simpa using c80))
           (try (have c80b2 : (t357 == t359) = true := by simpa using c80))
           clear c80
           (first | rw [c80b0] | (simp only [i64_w, i32_w]; rw [c80b0]) | skip)
           replace H := Option.bind_eq_some_iff.mp H; obtain ⟨t402, A810, H⟩ := H; (try dsimp only at H); have A81 := Aside0.mk A810; clear A810
           by_cases c82 : t402 = true
           · subst c82
             rw [if_pos rfl] at H
             by_cases c83 : (t370 != t373) = true
             · rw [if_pos c83] at H
               have c83b0 : (t370 != t373) = true := c83
               (try (have c83b1 : decide (t370 = t373) = false := by simpa using c83))
               (try (have c83b2 : (t370 == t373) = false := by simpa using c83))
               (try (have c83b3 : ¬ (t370 = t373) := by simpa using c83))
               clear c83
               cases kj41 with
               | zero => exact absurd H (by simp [laws_FnMirrorsSeen.j4])
               | succ kz_ =>
                simp only [laws_FnMirrorsSeen.j4] at H
                exact absurd (Option.some.inj (by first | exact H | (rw [if_pos rfl] at H; exact H) | (simpa using H) : (some false : Option Bool) = some r)) (by rw [HT_l.out]; decide)
             rw [if_neg c83] at H
             have c83b0 : (t370 != t373) = false := by simpa using c83
             (try (have c83b1 : decide (t370 = t373) = true := by simpa using c83))
             (try (have c83b2 : (t370 == t373) = true := by simpa using c83))
             clear c83
             by_cases c84 : t368 = t371
             · rw [if_pos c84] at H
               have c84b0 : (t368 == t371) = true := beq_iff_eq.mpr c84
               have c84b1 : (t368 != t371) = false := bne_eq_false_iff_eq.mpr c84
               clear c84
               by_cases c85 : t369 = t372
               · rw [if_pos c85] at H
                 have c85b0 : (t369 == t372) = true := beq_iff_eq.mpr c85
                 have c85b1 : (t369 != t372) = false := bne_eq_false_iff_eq.mpr c85
                 clear c85
                 by_cases c86 : (t382 != t385) = true
                 · rw [if_pos c86] at H
                   have c86b0 : (t382 != t385) = true := c86
                   (try (have c86b1 : decide (t382 = t385) = false := by simpa using c86))
                   (try (have c86b2 : (t382 == t385) = false := by simpa using c86))
                   (try (have c86b3 : ¬ (t382 = t385) := by simpa using c86))
                   clear c86
                   cases kj41 with
                   | zero => exact absurd H (by simp [laws_FnMirrorsSeen.j4])
                   | succ kz_ =>
                    simp only [laws_FnMirrorsSeen.j4] at H
                    exact absurd (Option.some.inj (by first | exact H | (rw [if_pos rfl] at H; exact H) | (simpa using H) : (some false : Option Bool) = some r)) (by rw [HT_l.out]; decide)
                 rw [if_neg c86] at H
                 have c86b0 : (t382 != t385) = false := by simpa using c86
                 (try (have c86b1 : decide (t382 = t385) = true := by simpa using c86))
                 (try (have c86b2 : (t382 == t385) = true := by simpa using c86))
                 clear c86
                 by_cases c87 : t380 = t383
                 · rw [if_pos c87] at H
                   have c87b0 : (t380 == t383) = true := beq_iff_eq.mpr c87
                   have c87b1 : (t380 != t383) = false := bne_eq_false_iff_eq.mpr c87
                   clear c87
                   by_cases c88 : t381 = t384
                   · rw [if_pos c88] at H
                     have c88b0 : (t381 == t384) = true := beq_iff_eq.mpr c88
                     have c88b1 : (t381 != t384) = false := bne_eq_false_iff_eq.mpr c88
                     clear c88
                     by_cases c89 : (t387 != t389) = true
                     · rw [if_pos c89] at H
                       have c89b0 : (t387 != t389) = true := c89
                       (try (have c89b1 : decide (t387 = t389) = false := by simpa using c89))
                       (try (have c89b2 : (t387 == t389) = false := by simpa using c89))
                       (try (have c89b3 : ¬ (t387 = t389) := by simpa using c89))
                       clear c89
                       cases kj41 with
                       | zero => exact absurd H (by simp [laws_FnMirrorsSeen.j4])
                       | succ kz_ =>
                        simp only [laws_FnMirrorsSeen.j4] at H
                        exact absurd (Option.some.inj (by first | exact H | (rw [if_pos rfl] at H; exact H) | (simpa using H) : (some false : Option Bool) = some r)) (by rw [HT_l.out]; decide)
                     rw [if_neg c89] at H
                     have c89b0 : (t387 != t389) = false := by simpa using c89
                     (try (have c89b1 : decide (t387 = t389) = true := by simpa using c89))
                     (try (have c89b2 : (t387 == t389) = true := by simpa using c89))
                     clear c89
                     by_cases c90 : t386 = t388
                     · rw [if_pos c90] at H
                       have c90b0 : (t386 == t388) = true := beq_iff_eq.mpr c90
                       have c90b1 : (t386 != t388) = false := bne_eq_false_iff_eq.mpr c90
                       clear c90
                       by_cases c91 : (t387 != t382) = true
                       · rw [if_pos c91] at H
                         have c91b0 : (t387 != t382) = true := c91
                         (try (have c91b1 : decide (t387 = t382) = false := by simpa using c91))
                         (try (have c91b2 : (t387 == t382) = false := by simpa using c91))
                         (try (have c91b3 : ¬ (t387 = t382) := by simpa using c91))
                         clear c91
                         cases kj41 with
                         | zero => exact absurd H (by simp [laws_FnMirrorsSeen.j4])
                         | succ kz_ =>
                          simp only [laws_FnMirrorsSeen.j4] at H
                          exact absurd (Option.some.inj (by first | exact H | (rw [if_pos rfl] at H; exact H) | (simpa using H) : (some false : Option Bool) = some r)) (by rw [HT_l.out]; decide)
                       rw [if_neg c91] at H
                       have c91b0 : (t387 != t382) = false := by simpa using c91
                       (try (have c91b1 : decide (t387 = t382) = true := by simpa using c91))
                       (try (have c91b2 : (t387 == t382) = true := by simpa using c91))
                       clear c91
                       by_cases c92 : (t399 != t401) = true
                       · rw [if_pos c92] at H
                         have c92b0 : (t399 != t401) = true := c92
                         (try (have c92b1 : decide (t399 = t401) = false := by simpa using c92))
                         (try (have c92b2 : (t399 == t401) = false := by simpa using c92))
                         (try (have c92b3 : ¬ (t399 = t401) := by simpa using c92))
                         clear c92
                         cases kj41 with
                         | zero => exact absurd H (by simp [laws_FnMirrorsSeen.j4])
                         | succ kz_ =>
                          simp only [laws_FnMirrorsSeen.j4] at H
                          exact absurd (Option.some.inj (by first | exact H | (rw [if_pos rfl] at H; exact H) | (simpa using H) : (some false : Option Bool) = some r)) (by rw [HT_l.out]; decide)
                       rw [if_neg c92] at H
                       have c92b0 : (t399 != t401) = false := by simpa using c92
                       (try (have c92b1 : decide (t399 = t401) = true := by simpa using c92))
                       (try (have c92b2 : (t399 == t401) = true := by simpa using c92))
                       clear c92
                       have H' := Aside0.mk H
                       clear H
                       obtain ⟨Ao93, co93, eo93⟩ := Kd.R_slice HO356.out
                       subst eo93
                       obtain ⟨Ao94, co94, eo94⟩ := Kd.R_slice HO361.out
                       subst eo94
                       go_wp2_with (first | (go_at_call 36; (with_reducible refine (laws_ySame.calls kj41 _ _ t354 _ _ t358 true _ ?side1 ?side2 ?side3 ?side4 A81.out).mono ?_); (case side1 => repeat (first | exact (Kd.R_reads' HO356.out).2.2 | (with_reducible refine Kd.C_alloc ?_ _) | (with_reducible refine Kd.C_drewN ?_ _) | (with_reducible refine Kd.C_drew ?_))); (case side2 => exact (Kd.R_reads' HO356.out).2.1); (case side3 => repeat (first | exact (Kd.R_reads' HO361.out).2.2 | (with_reducible refine Kd.C_alloc ?_ _) | (with_reducible refine Kd.C_drewN ?_ _) | (with_reducible refine Kd.C_drew ?_))); (case side4 => exact (Kd.R_reads' HO361.out).2.1); rintro e w' ⟨rfl, ⟨nd, rfl⟩⟩))
                       go_meet
                       case rel => exact ⟨_, ((t398 != t400)), (by first | rfl | (simp; done) | (simp [*]; done)), H', ⟨by have := HJ11.out; have := HJ29.out; have := HJ36.out; have := HJ41.out; first | omega | exact Nat.le_refl _⟩, ⟨by (with_reducible repeat (first | apply Kd.V_alloc | apply Kd.V_drewN | apply Kd.V_drew)); exact Kd.V_mono HO348.out (fun _ hk => ⟨hk.1.1.1, ⟨hk.1.1.2, hk.2⟩⟩)⟩, ⟨by (with_reducible repeat (first | apply Kd.N_alloc | apply Kd.N_drewN | apply Kd.N_drew)); exact Kd.N_mono HO351.out (fun _ hk => ⟨hk.1.1.2, hk.2⟩)⟩, ⟨by (with_reducible repeat (first | apply Kd.R_alloc | apply Kd.R_drewN | apply Kd.R_drew)); exact Kd.R_mono HO356.out (fun _ hk => trivial)⟩, ⟨by (with_reducible repeat (first | apply Kd.V_alloc | apply Kd.V_drewN | apply Kd.V_drew)); exact Kd.V_mono HO364.out (fun _ hk => ⟨hk.2.1, ⟨hk.2.2.1, hk.1⟩⟩)⟩, ⟨by (with_reducible repeat (first | apply Kd.N_alloc | apply Kd.N_drewN | apply Kd.N_drew)); exact Kd.N_mono HO367.out (fun _ hk => ⟨hk.1, hk.2.1⟩)⟩, ⟨by (with_reducible repeat (first | apply Kd.V_alloc | apply Kd.V_drewN | apply Kd.V_drew)); exact Kd.V_mono HO376.out (fun _ hk => ⟨hk.1, ⟨hk.2.1, hk.2.2.2⟩⟩)⟩, ⟨by (with_reducible repeat (first | apply Kd.V_alloc | apply Kd.V_drewN | apply Kd.V_drew)); exact Kd.V_mono HO379.out (fun _ hk => ⟨hk.1, ⟨hk.2.1, hk.2.2.2⟩⟩)⟩, ⟨by (with_reducible repeat (first | apply Kd.V_alloc | apply Kd.V_drewN | apply Kd.V_drew)); exact Kd.V_mono HO392.out (fun _ hk => ⟨hk.1, ⟨hk.2.1, hk.2.2.2⟩⟩)⟩, ⟨by (with_reducible repeat (first | apply Kd.V_alloc | apply Kd.V_drewN | apply Kd.V_drew)); exact Kd.V_mono HO395.out (fun _ hk => ⟨hk.1, ⟨hk.2.1, hk.2.2.2⟩⟩)⟩, ⟨by repeat (first | (with_reducible first | exact HB.out | apply below_alloc | apply pw_below_drewN | apply below_drew1) | exact HB.out)⟩⟩
                     rw [if_neg c90] at H
                     have c90b0 : (t386 == t388) = false := beq_eq_false_iff_ne.mpr c90
                     have c90b1 : (t386 != t388) = true := bne_iff_ne.mpr c90
                     cases kj41 with
                     | zero => exact absurd H (by simp [laws_FnMirrorsSeen.j4])
                     | succ kz_ =>
                      simp only [laws_FnMirrorsSeen.j4] at H
                      exact absurd (Option.some.inj (by first | exact H | (rw [if_pos rfl] at H; exact H) | (simpa using H) : (some false : Option Bool) = some r)) (by rw [HT_l.out]; decide)
                   rw [if_neg c88] at H
                   have c88b0 : (t381 == t384) = false := beq_eq_false_iff_ne.mpr c88
                   have c88b1 : (t381 != t384) = true := bne_iff_ne.mpr c88
                   cases kj41 with
                   | zero => exact absurd H (by simp [laws_FnMirrorsSeen.j4])
                   | succ kz_ =>
                    simp only [laws_FnMirrorsSeen.j4] at H
                    exact absurd (Option.some.inj (by first | exact H | (rw [if_pos rfl] at H; exact H) | (simpa using H) : (some false : Option Bool) = some r)) (by rw [HT_l.out]; decide)
                 rw [if_neg c87] at H
                 have c87b0 : (t380 == t383) = false := beq_eq_false_iff_ne.mpr c87
                 have c87b1 : (t380 != t383) = true := bne_iff_ne.mpr c87
                 cases kj41 with
                 | zero => exact absurd H (by simp [laws_FnMirrorsSeen.j4])
                 | succ kz_ =>
                  simp only [laws_FnMirrorsSeen.j4] at H
                  exact absurd (Option.some.inj (by first | exact H | (rw [if_pos rfl] at H; exact H) | (simpa using H) : (some false : Option Bool) = some r)) (by rw [HT_l.out]; decide)
               rw [if_neg c85] at H
               have c85b0 : (t369 == t372) = false := beq_eq_false_iff_ne.mpr c85
               have c85b1 : (t369 != t372) = true := bne_iff_ne.mpr c85
               cases kj41 with
               | zero => exact absurd H (by simp [laws_FnMirrorsSeen.j4])
               | succ kz_ =>
                simp only [laws_FnMirrorsSeen.j4] at H
                exact absurd (Option.some.inj (by first | exact H | (rw [if_pos rfl] at H; exact H) | (simpa using H) : (some false : Option Bool) = some r)) (by rw [HT_l.out]; decide)
             rw [if_neg c84] at H
             have c84b0 : (t368 == t371) = false := beq_eq_false_iff_ne.mpr c84
             have c84b1 : (t368 != t371) = true := bne_iff_ne.mpr c84
             cases kj41 with
             | zero => exact absurd H (by simp [laws_FnMirrorsSeen.j4])
             | succ kz_ =>
              simp only [laws_FnMirrorsSeen.j4] at H
              exact absurd (Option.some.inj (by first | exact H | (rw [if_pos rfl] at H; exact H) | (simpa using H) : (some false : Option Bool) = some r)) (by rw [HT_l.out]; decide)
           replace c82 := Bool.eq_false_iff.mpr c82
           subst c82
           rw [if_neg (show ¬ (false = true) by decide)] at H
           cases kj41 with
           | zero => exact absurd H (by simp [laws_FnMirrorsSeen.j4])
           | succ kz_ =>
            simp only [laws_FnMirrorsSeen.j4] at H
            exact absurd (Option.some.inj (by first | exact H | (rw [if_pos rfl] at H; exact H) | (simpa using H) : (some false : Option Bool) = some r)) (by rw [HT_l.out]; decide)
         clear HC61
         try clear c1
         try clear c2
         try clear p2
         try clear c3
         try clear c4
         try clear c6
         try clear p6
         try clear c8
         try clear c9
         try clear c15
         try clear c16
         try clear c16b0
         try clear c16b1
         try clear c16b2
         try clear c17
         try clear c17b0
         try clear c17b1
         try clear c18
         try clear c18b0
         try clear c18b1
         try clear c19
         try clear c19b0
         try clear c19b1
         try clear c19b2
         try clear c20
         try clear c20b0
         try clear c20b1
         try clear c20b2
         try clear c21
         try clear c21b0
         try clear c21b1
         try clear c21b2
         try clear c22
         try clear c22b0
         try clear c22b1
         try clear c23
         try clear c23b0
         try clear c23b1
         try clear c24
         try clear c24b0
         try clear c24b1
         try clear c25
         try clear c25b0
         try clear c25b1
         try clear c26
         try clear c27
         try clear c28
         try clear c29
         try clear c30
         try clear c31
         try clear c32
         try clear c33
         try clear c34
         try clear c35
         try clear c36
         try clear c38
         try clear c39
         try clear c40
         try clear c40b0
         try clear c40b1
         try clear c41
         try clear c43
         try clear c44
         try clear c44b0
         try clear c45
         try clear c45b0
         try clear c46
         try clear c80
         try clear c80b0
         try clear c80b1
         try clear c80b2
         try clear c82
         try clear c83
         try clear c83b0
         try clear c83b1
         try clear c83b2
         try clear c84
         try clear c84b0
         try clear c84b1
         try clear c85
         try clear c85b0
         try clear c85b1
         try clear c86
         try clear c86b0
         try clear c86b1
         try clear c86b2
         try clear c87
         try clear c87b0
         try clear c87b1
         try clear c88
         try clear c88b0
         try clear c88b1
         try clear c89
         try clear c89b0
         try clear c89b1
         try clear c89b2
         try clear c90
         try clear c90b0
         try clear c90b1
         try clear c91
         try clear c91b0
         try clear c91b1
         try clear c91b2
         try clear c92
         try clear c92b0
         try clear c92b1
         try clear c92b2
         try clear p2
         try clear p6
         obtain ⟨kq, x429_60, rfl, HA, HJ60, HO_29, HO_30, HO_33, HO_37, HO_38, HO_45, HO_46, HO_57, HO_58, HB⟩ := hcut
         cases kq with
         | zero => exact absurd HA.out (by simp [laws_FnMirrorsSeen.j4])
         | succ kj60 =>
          as_aux_lemma =>
           have H := HA.out
           clear HA
           simp only [laws_FnMirrorsSeen.j4] at H
           by_cases c95 : x429_60 = true
           · subst c95
             rw [if_pos rfl] at H
             exact absurd (Option.some.inj H) (by rw [HT_l.out]; decide)
           replace c95 := Bool.eq_false_iff.mpr c95
           subst c95
           rw [if_neg (show ¬ (false = true) by decide)] at H
           have HC96 := Aside0.mk H
           clear H
           go_upto_if 430 with (fail)
           go_cut [430] from 430 to 430 (fun v430 wc => ∃ (kq : Nat), Aside0 (laws_FnMirrorsSeen.j7 kq t362 t365 t368 t369 t370 t374 t377 t380 t381 t382 t386 t390 t393 t396 t397 t398 t399 = some r) ∧ Aside0 (kq ≤ kj60) ∧ Aside0 (Kd.V (Kd.int .i64) 3 wc w.heap.size (fun k_ => some k_ ≠ ((.slice Ao69 t365.length co69) : Value).ownBlock) (.slice Ao68 t362.length co68) t362) ∧ Aside0 (Kd.N (Kd.slice 3 (Kd.int .i64)) 22 wc w.heap.size (fun _ => True) (.slice Ao69 t365.length co69) t365) ∧ Aside0 (Kd.V (Kd.int .i64) 3 wc w.heap.size (fun k_ => some k_ ≠ ((.slice Ao69 t365.length co69) : Value).ownBlock) (.slice Ao72 t374.length co72) t374) ∧ Aside0 (Kd.V (Kd.int .i64) 3 wc w.heap.size (fun k_ => some k_ ≠ ((.slice Ao69 t365.length co69) : Value).ownBlock) (.slice Ao73 t377.length co73) t377) ∧ Aside0 (Kd.V (Kd.int .i64) 3 wc w.heap.size (fun k_ => some k_ ≠ ((.slice Ao69 t365.length co69) : Value).ownBlock) (.slice Ao77 t390.length co77) t390) ∧ Aside0 (Kd.V (Kd.int .i64) 3 wc w.heap.size (fun k_ => some k_ ≠ ((.slice Ao69 t365.length co69) : Value).ownBlock) (.slice Ao78 t393.length co78) t393) ∧ Aside0 (Below w.heap.size w wc))
           case first =>
            as_aux_lemma =>
             have H := HC96.out
             clear HC96
             by_cases c97 : t357 = true
             · subst c97
               rw [if_pos rfl] at H
               have H' := Aside0.mk H
               clear H
               go_wp2
               go_loopg [433] kj60 (fun kq v433 w' => ∃ (x433_6 : Int), v433 = .int .i64 x433_6 ∧ Aside0 (laws_FnMirrorsSeen.l0 kq t346 t352 t353 t354 t362 t365 t368 t369 t370 t374 t377 t380 t381 t382 t386 t390 t393 t396 t397 t398 t399 t349 (t349.length : Int) x433_6 = some r) ∧ Aside0 (kq ≤ kj60) ∧ Aside0 (Kd.V (Kd.int .i64) 3 w' w.heap.size (fun k_ => some k_ ≠ (v355 : Value).ownBlock ∧ some k_ ≠ ((.slice Ao69 t365.length co69) : Value).ownBlock ∧ some k_ ≠ ((.slice Ao64 t349.length co64) : Value).ownBlock) (.slice Ao63 t346.length co63) t346) ∧ Aside0 (Kd.R (Kd.int .i64) 3 w' w.heap.size (fun _ => True) v355 t354) ∧ Aside0 (Kd.V (Kd.int .i64) 3 w' w.heap.size (fun k_ => some k_ ≠ (v355 : Value).ownBlock ∧ some k_ ≠ ((.slice Ao69 t365.length co69) : Value).ownBlock ∧ some k_ ≠ ((.slice Ao64 t349.length co64) : Value).ownBlock) (.slice Ao68 t362.length co68) t362) ∧ Aside0 (Kd.N (Kd.slice 3 (Kd.int .i64)) 22 w' w.heap.size (fun k_ => some k_ ≠ (v355 : Value).ownBlock ∧ some k_ ≠ ((.slice Ao64 t349.length co64) : Value).ownBlock) (.slice Ao69 t365.length co69) t365) ∧ Aside0 (Kd.V (Kd.int .i64) 3 w' w.heap.size (fun k_ => some k_ ≠ (v355 : Value).ownBlock ∧ some k_ ≠ ((.slice Ao69 t365.length co69) : Value).ownBlock ∧ some k_ ≠ ((.slice Ao64 t349.length co64) : Value).ownBlock) (.slice Ao72 t374.length co72) t374) ∧ Aside0 (Kd.V (Kd.int .i64) 3 w' w.heap.size (fun k_ => some k_ ≠ (v355 : Value).ownBlock ∧ some k_ ≠ ((.slice Ao69 t365.length co69) : Value).ownBlock ∧ some k_ ≠ ((.slice Ao64 t349.length co64) : Value).ownBlock) (.slice Ao73 t377.length co73) t377) ∧ Aside0 (Kd.V (Kd.int .i64) 3 w' w.heap.size (fun k_ => some k_ ≠ (v355 : Value).ownBlock ∧ some k_ ≠ ((.slice Ao69 t365.length co69) : Value).ownBlock ∧ some k_ ≠ ((.slice Ao64 t349.length co64) : Value).ownBlock) (.slice Ao77 t390.length co77) t390) ∧ Aside0 (Kd.V (Kd.int .i64) 3 w' w.heap.size (fun k_ => some k_ ≠ (v355 : Value).ownBlock ∧ some k_ ≠ ((.slice Ao69 t365.length co69) : Value).ownBlock ∧ some k_ ≠ ((.slice Ao64 t349.length co64) : Value).ownBlock) (.slice Ao78 t393.length co78) t393) ∧ Aside0 (Kd.N (Kd.slice 3 (Kd.int .i64)) 22 w' w.heap.size (fun k_ => some k_ ≠ (v355 : Value).ownBlock ∧ some k_ ≠ ((.slice Ao69 t365.length co69) : Value).ownBlock) (.slice Ao64 t349.length co64) t349) ∧ Aside0 (Below w.heap.size w w'))
               case atStart => exact ⟨(0), (by first | rfl | (simp; done) | (simp [*]; done)), H', ⟨Nat.le_refl _⟩, ⟨by (with_reducible repeat (first | apply Kd.V_alloc | apply Kd.V_drewN | apply Kd.V_drew)); exact Kd.V_mono HO_29.out (fun _ hk => ⟨hk.2.1, ⟨hk.2.2, hk.1⟩⟩)⟩, ⟨by (with_reducible repeat (first | apply Kd.R_alloc | apply Kd.R_drewN | apply Kd.R_drew)); exact HO_33.out⟩, ⟨by (with_reducible repeat (first | apply Kd.V_alloc | apply Kd.V_drewN | apply Kd.V_drew)); exact Kd.V_mono HO_37.out (fun _ hk => ⟨hk.2.1, ⟨hk.2.2, hk.1⟩⟩)⟩, ⟨by (with_reducible repeat (first | apply Kd.N_alloc | apply Kd.N_drewN | apply Kd.N_drew)); exact Kd.N_mono HO_38.out (fun _ hk => ⟨hk.2, hk.1⟩)⟩, ⟨by (with_reducible repeat (first | apply Kd.V_alloc | apply Kd.V_drewN | apply Kd.V_drew)); exact Kd.V_mono HO_45.out (fun _ hk => ⟨hk.2.1, ⟨hk.2.2, hk.1⟩⟩)⟩, ⟨by (with_reducible repeat (first | apply Kd.V_alloc | apply Kd.V_drewN | apply Kd.V_drew)); exact Kd.V_mono HO_46.out (fun _ hk => ⟨hk.2.1, ⟨hk.2.2, hk.1⟩⟩)⟩, ⟨by (with_reducible repeat (first | apply Kd.V_alloc | apply Kd.V_drewN | apply Kd.V_drew)); exact Kd.V_mono HO_57.out (fun _ hk => ⟨hk.2.1, ⟨hk.2.2, hk.1⟩⟩)⟩, ⟨by (with_reducible repeat (first | apply Kd.V_alloc | apply Kd.V_drewN | apply Kd.V_drew)); exact Kd.V_mono HO_58.out (fun _ hk => ⟨hk.2.1, ⟨hk.2.2, hk.1⟩⟩)⟩, ⟨by (with_reducible repeat (first | apply Kd.N_alloc | apply Kd.N_drewN | apply Kd.N_drew)); exact HO_30.out⟩, ⟨by repeat (first | (with_reducible first | exact HB.out | apply below_alloc | apply pw_below_drewN | apply below_drew1) | exact HB.out)⟩⟩
               case round =>
                clear H'
                try clear c1
                try clear c2
                try clear p2
                try clear c3
                try clear c4
                try clear c6
                try clear p6
                try clear c8
                try clear c9
                try clear c15
                try clear c16
                try clear c16b0
                try clear c16b1
                try clear c16b2
                try clear c17
                try clear c17b0
                try clear c17b1
                try clear c18
                try clear c18b0
                try clear c18b1
                try clear c19
                try clear c19b0
                try clear c19b1
                try clear c19b2
                try clear c20
                try clear c20b0
                try clear c20b1
                try clear c20b2
                try clear c21
                try clear c21b0
                try clear c21b1
                try clear c21b2
                try clear c22
                try clear c22b0
                try clear c22b1
                try clear c23
                try clear c23b0
                try clear c23b1
                try clear c24
                try clear c24b0
                try clear c24b1
                try clear c25
                try clear c25b0
                try clear c25b1
                try clear c26
                try clear c27
                try clear c28
                try clear c29
                try clear c30
                try clear c31
                try clear c32
                try clear c33
                try clear c34
                try clear c35
                try clear c36
                try clear c38
                try clear c39
                try clear c40
                try clear c40b0
                try clear c40b1
                try clear c41
                try clear c43
                try clear c44
                try clear c44b0
                try clear c45
                try clear c45b0
                try clear c46
                try clear c80
                try clear c80b0
                try clear c80b1
                try clear c80b2
                try clear c82
                try clear c83
                try clear c83b0
                try clear c83b1
                try clear c83b2
                try clear c84
                try clear c84b0
                try clear c84b1
                try clear c85
                try clear c85b0
                try clear c85b1
                try clear c86
                try clear c86b0
                try clear c86b1
                try clear c86b2
                try clear c87
                try clear c87b0
                try clear c87b1
                try clear c88
                try clear c88b0
                try clear c88b1
                try clear c89
                try clear c89b0
                try clear c89b1
                try clear c89b2
                try clear c90
                try clear c90b0
                try clear c90b1
                try clear c91
                try clear c91b0
                try clear c91b1
                try clear c91b2
                try clear c92
                try clear c92b0
                try clear c92b1
                try clear c92b2
                try clear c95
                try clear c97
                try clear p2
                try clear p6
                obtain ⟨x433_6, rfl, HA, HK6, HO_29, HO_33, HO_37, HO_38, HO_45, HO_46, HO_57, HO_58, HO_431, HB⟩ := hrel
                cases gk with
                | zero => exact absurd HA.out (by simp [laws_FnMirrorsSeen.l0])
                | succ k6 =>
                 have H := HA.out
                 clear HA
                 simp only [laws_FnMirrorsSeen.l0] at H
                 by_cases c98 : x433_6 < (t349.length : Int)
                 · rw [if_pos c98] at H
                   have c98b0 : decide (x433_6 < (t349.length : Int)) = true := decide_eq_true c98
                   clear c98
                   (first | rw [c98b0] | (simp only [i64_w, i32_w]; rw [c98b0]) | skip)
                   by_cases c99 : 0 ≤ x433_6
                   · rw [if_pos c99] at H
                     have c99b0 : decide (0 ≤ x433_6) = true := decide_eq_true c99
                     clear c99
                     by_cases c100 : x433_6 < (t349.length : Int)
                     · rw [if_pos c100] at H
                       have c100b0 : decide (x433_6 < (t349.length : Int)) = true := decide_eq_true c100
                       clear c100
                       replace H := Option.bind_eq_some_iff.mp H; obtain ⟨⟨t404, t405⟩, A1010, H⟩ := H; (try dsimp only at H); have A101 := Aside0.mk A1010; clear A1010
                       have HC102 := Aside0.mk H
                       clear H
                       have p403 : 0 ≤ (x433_6 : Int) := of_decide_eq_true (by first | (with_reducible assumption) | assumption)
                       have q403 : x433_6 < (t349.length : Int) := of_decide_eq_true (by first | (with_reducible assumption) | assumption)
                       obtain ⟨ad403, A403_0, c403_0, e403, hx403_0, hl403_0, hi403_0⟩ := at_L1 (Kd.N_reads' HO_431.out).2.2 x433_6 p403 q403
                       cases e403
                       obtain ⟨ce403, hce403, hMe403, hcc403⟩ := Kd.N_get HO_431.out [] x433_6 p403 (by first | exact q403 | exact of_decide_eq_true (by first | (with_reducible assumption) | assumption) | (have e_ := (Kd.N_reads' HO_431.out).1; omega))
                       obtain ⟨ua403_0, uc403_0, rfl, ul403_0, ge403_0⟩ := Kd.FK_slice_open hMe403
                       have hv403_0 := hcc403 0 _ rfl
                       rw [Nat.add_zero, show ((Kd.slice 3 (Kd.int .i64))).sz = 1 from rfl, Nat.mul_one] at hv403_0
                       replace hv403_0 := Option.some.inj (hv403_0.symm.trans hx403_0)
                       injection hv403_0 with hva_ hvn_ hvc_
                       rw [hva_] at ge403_0
                       rw [hvc_] at ul403_0
                       have HL403_0 := Aside0.mk (show Kd.V (Kd.int .i64) 3 _ w.heap.size _ _ (rd_L1 t349 x433_6) from Kd.V_mk ul403_0 ge403_0)
                       clear hva_ hvn_ hvc_ ge403_0 ul403_0
                       clear hcc403 hce403
                       have HR403_0 := Aside0.mk hi403_0
                       have HC403_0 := Aside0.mk hl403_0
                       clear hi403_0 hl403_0
                       replace p403 := eq_true p403
                       replace q403 := eq_true q403
                       go_upto_region 39 with (first | ((with_reducible refine gate_callee (f := 34) rfl ?_); refine goesL_ (some 443) rfl rfl Try.func34 (by kernel_rfl) rfl #[.slice Ao63 t346.length co63, .slice A403_0 (rd_L1 t349 x433_6).length c403_0, .int .i64 t352, .int .i64 t353] rfl (by (try simp only [List.map_toArray, List.map_cons, List.map_nil]); first | done | rfl | (simp only [List.length_drop, List.length_take]; rfl)) ?_; (with_reducible refine (impl_SeesIn.calls k6 (fun k_ => (some k_ ≠ (v355 : Value).ownBlock ∧ (some k_ ≠ (.slice Ao69 t365.length co69 : Value).ownBlock ∧ some k_ ≠ (.slice (some ad403) t349.length co64 : Value).ownBlock))) _ _ t346 (fun k_ => ((some k_ ≠ (v355 : Value).ownBlock ∧ some k_ ≠ (.slice Ao69 t365.length co69 : Value).ownBlock) ∧ some k_ ≠ (.slice (some ad403) t349.length co64 : Value).ownBlock)) _ _ (rd_L1 t349 x433_6) t352 t353 t404 t405 _ ?side1 ?side2 A101.out).mono ?_); (case side1 => exact HO_29.out); (case side2 => exact HL403_0.out); rintro e w103 ⟨rfl, hb⟩; refine ⟨_, rfl, ?_⟩; have n0_ := Aside0.mk (Kd.V_below (by (with_reducible repeat (first | apply Kd.V_alloc | apply Kd.V_drewN | apply Kd.V_drew)); exact HO_29.out) hb); have n1_ := Aside0.mk (Kd.R_below (by (with_reducible repeat (first | apply Kd.R_alloc | apply Kd.R_drewN | apply Kd.R_drew)); exact HO_33.out) hb); have n2_ := Aside0.mk (Kd.V_below (by (with_reducible repeat (first | apply Kd.V_alloc | apply Kd.V_drewN | apply Kd.V_drew)); exact HO_37.out) hb); have n3_ := Aside0.mk (Kd.N_below (by (with_reducible repeat (first | apply Kd.N_alloc | apply Kd.N_drewN | apply Kd.N_drew)); exact HO_38.out) hb); have n4_ := Aside0.mk (Kd.V_below (by (with_reducible repeat (first | apply Kd.V_alloc | apply Kd.V_drewN | apply Kd.V_drew)); exact HO_45.out) hb); have n5_ := Aside0.mk (Kd.V_below (by (with_reducible repeat (first | apply Kd.V_alloc | apply Kd.V_drewN | apply Kd.V_drew)); exact HO_46.out) hb); have n6_ := Aside0.mk (Kd.V_below (by (with_reducible repeat (first | apply Kd.V_alloc | apply Kd.V_drewN | apply Kd.V_drew)); exact HO_57.out) hb); have n7_ := Aside0.mk (Kd.V_below (by (with_reducible repeat (first | apply Kd.V_alloc | apply Kd.V_drewN | apply Kd.V_drew)); exact HO_58.out) hb); have n8_ := Aside0.mk (Kd.N_below (by (with_reducible repeat (first | apply Kd.N_alloc | apply Kd.N_drewN | apply Kd.N_drew)); exact HO_431.out) hb); have n9_ := Aside0.mk (Kd.V_below (by (with_reducible repeat (first | apply Kd.V_alloc | apply Kd.V_drewN | apply Kd.V_drew)); exact HL403_0.out) hb); have n10_ := Aside0.mk (Kd.C_below (by repeat (first | (with_reducible exact HR403_0.out) | (with_reducible refine Kd.C_alloc ?_ _) | (with_reducible refine Kd.C_drewN ?_ _) | (with_reducible refine Kd.C_drew ?_) | exact HR403_0.out)) hb); have n11_ := Aside0.mk (below_step (by repeat (first | (with_reducible first | exact HB.out | apply below_alloc | apply pw_below_drewN | apply below_drew1) | exact HB.out)) hb); clear HO_29; clear HO_33; clear HO_37; clear HO_38; clear HO_45; clear HO_46; clear HO_57; clear HO_58; clear HO_431; clear HL403_0; clear HR403_0; clear HB; have HO_29 := n0_; have HO_33 := n1_; have HO_37 := n2_; have HO_38 := n3_; have HO_45 := n4_; have HO_46 := n5_; have HO_57 := n6_; have HO_58 := n7_; have HO_431 := n8_; have HL403_0 := n9_; have HR403_0 := n10_; have HB := n11_; clear n0_ n1_ n2_ n3_ n4_ n5_ n6_ n7_ n8_ n9_ n10_ n11_; (try clear hb); (try clear hb2); (try clear hk); (try clear hi)))
                       (try simp only [Act.put, List.setIfInBounds_toArray, List.set_cons_zero, List.set_cons_succ])
                       go_cut [454] from 454 to 454 (fun v454 wc => ∃ (kq : Nat) (x454_101 : Bool), v454 = .bool x454_101 ∧ Aside0 (laws_FnMirrorsSeen.j6 kq t346 t352 t353 t354 t362 t365 t368 t369 t370 t374 t377 t380 t381 t382 t386 t390 t393 t396 t397 t398 t399 t349 (t349.length : Int) x433_6 x454_101 = some r) ∧ Aside0 (kq ≤ k6) ∧ Aside0 (Kd.V (Kd.int .i64) 3 wc w.heap.size (fun k_ => some k_ ≠ (v355 : Value).ownBlock ∧ some k_ ≠ ((.slice Ao69 t365.length co69) : Value).ownBlock ∧ some k_ ≠ ((.slice (some ad403) t349.length co64) : Value).ownBlock) (.slice Ao63 t346.length co63) t346) ∧ Aside0 (Kd.R (Kd.int .i64) 3 wc w.heap.size (fun _ => True) v355 t354) ∧ Aside0 (Kd.V (Kd.int .i64) 3 wc w.heap.size (fun k_ => some k_ ≠ (v355 : Value).ownBlock ∧ some k_ ≠ ((.slice Ao69 t365.length co69) : Value).ownBlock ∧ some k_ ≠ ((.slice (some ad403) t349.length co64) : Value).ownBlock) (.slice Ao68 t362.length co68) t362) ∧ Aside0 (Kd.N (Kd.slice 3 (Kd.int .i64)) 22 wc w.heap.size (fun k_ => some k_ ≠ (v355 : Value).ownBlock ∧ some k_ ≠ ((.slice (some ad403) t349.length co64) : Value).ownBlock) (.slice Ao69 t365.length co69) t365) ∧ Aside0 (Kd.V (Kd.int .i64) 3 wc w.heap.size (fun k_ => some k_ ≠ (v355 : Value).ownBlock ∧ some k_ ≠ ((.slice Ao69 t365.length co69) : Value).ownBlock ∧ some k_ ≠ ((.slice (some ad403) t349.length co64) : Value).ownBlock) (.slice Ao72 t374.length co72) t374) ∧ Aside0 (Kd.V (Kd.int .i64) 3 wc w.heap.size (fun k_ => some k_ ≠ (v355 : Value).ownBlock ∧ some k_ ≠ ((.slice Ao69 t365.length co69) : Value).ownBlock ∧ some k_ ≠ ((.slice (some ad403) t349.length co64) : Value).ownBlock) (.slice Ao73 t377.length co73) t377) ∧ Aside0 (Kd.V (Kd.int .i64) 3 wc w.heap.size (fun k_ => some k_ ≠ (v355 : Value).ownBlock ∧ some k_ ≠ ((.slice Ao69 t365.length co69) : Value).ownBlock ∧ some k_ ≠ ((.slice (some ad403) t349.length co64) : Value).ownBlock) (.slice Ao77 t390.length co77) t390) ∧ Aside0 (Kd.V (Kd.int .i64) 3 wc w.heap.size (fun k_ => some k_ ≠ (v355 : Value).ownBlock ∧ some k_ ≠ ((.slice Ao69 t365.length co69) : Value).ownBlock ∧ some k_ ≠ ((.slice (some ad403) t349.length co64) : Value).ownBlock) (.slice Ao78 t393.length co78) t393) ∧ Aside0 (Kd.N (Kd.slice 3 (Kd.int .i64)) 22 wc w.heap.size (fun k_ => some k_ ≠ (v355 : Value).ownBlock ∧ some k_ ≠ ((.slice Ao69 t365.length co69) : Value).ownBlock) (.slice (some ad403) t349.length co64) t349) ∧ Aside0 (Kd.C (Kd.int .i64) wc A403_0 (rd_L1 t349 x433_6).length (rd_L1 t349 x433_6)) ∧ Aside0 (Below w.heap.size w wc))
                       case first =>
                        as_aux_lemma =>
                         have H := HC102.out
                         clear HC102
                         by_cases c104 : t405 = true
                         · subst c104
                           rw [if_pos rfl] at H
                           replace H := Option.bind_eq_some_iff.mp H; obtain ⟨t406, A1050, H⟩ := H; (try dsimp only at H); have A105 := Aside0.mk A1050; clear A1050
                           have H' := Aside0.mk H
                           clear H
                           obtain ⟨Ao106, co106, eo106⟩ := Kd.R_slice HO_33.out
                           subst eo106
                           go_wp2_with (first | (go_at_call 37; (with_reducible refine (laws_yHas.calls k6 _ _ t354 x433_6 t406 _ ?side1 ?side2 A105.out).mono ?_); (case side1 => repeat (first | exact (Kd.R_reads' HO_33.out).2.2 | (with_reducible refine Kd.C_alloc ?_ _) | (with_reducible refine Kd.C_drewN ?_ _) | (with_reducible refine Kd.C_drew ?_))); (case side2 => exact (Kd.R_reads' HO_33.out).2.1); rintro e w' ⟨rfl, ⟨nd, rfl⟩⟩))
                           go_meet
                           case rel => exact ⟨_, ((t404 != t406)), (by first | rfl | (simp; done) | (simp [*]; done)), H', ⟨by have := HJ11.out; have := HJ29.out; have := HJ36.out; have := HJ41.out; have := HJ60.out; have := HK6.out; first | omega | exact Nat.le_refl _⟩, ⟨by (with_reducible repeat (first | apply Kd.V_alloc | apply Kd.V_drewN | apply Kd.V_drew)); exact HO_29.out⟩, ⟨by (with_reducible repeat (first | apply Kd.R_alloc | apply Kd.R_drewN | apply Kd.R_drew)); exact HO_33.out⟩, ⟨by (with_reducible repeat (first | apply Kd.V_alloc | apply Kd.V_drewN | apply Kd.V_drew)); exact HO_37.out⟩, ⟨by (with_reducible repeat (first | apply Kd.N_alloc | apply Kd.N_drewN | apply Kd.N_drew)); exact HO_38.out⟩, ⟨by (with_reducible repeat (first | apply Kd.V_alloc | apply Kd.V_drewN | apply Kd.V_drew)); exact HO_45.out⟩, ⟨by (with_reducible repeat (first | apply Kd.V_alloc | apply Kd.V_drewN | apply Kd.V_drew)); exact HO_46.out⟩, ⟨by (with_reducible repeat (first | apply Kd.V_alloc | apply Kd.V_drewN | apply Kd.V_drew)); exact HO_57.out⟩, ⟨by (with_reducible repeat (first | apply Kd.V_alloc | apply Kd.V_drewN | apply Kd.V_drew)); exact HO_58.out⟩, ⟨by (with_reducible repeat (first | apply Kd.N_alloc | apply Kd.N_drewN | apply Kd.N_drew)); exact HO_431.out⟩, ⟨by repeat (first | (with_reducible exact HR403_0.out) | (with_reducible refine Kd.C_alloc ?_ _) | (with_reducible refine Kd.C_drewN ?_ _) | (with_reducible refine Kd.C_drew ?_) | exact HR403_0.out)⟩, ⟨by repeat (first | (with_reducible first | exact HB.out | apply below_alloc | apply pw_below_drewN | apply below_drew1) | exact HB.out)⟩⟩
                         replace c104 := Bool.eq_false_iff.mpr c104
                         subst c104
                         rw [if_neg (show ¬ (false = true) by decide)] at H
                         cases k6 with
                         | zero => exact absurd H (by simp [laws_FnMirrorsSeen.j6])
                         | succ kz_ =>
                          simp only [laws_FnMirrorsSeen.j6] at H
                          exact absurd (Option.some.inj (by first | exact H | (rw [if_pos rfl] at H; exact H) | (simpa using H) : (some false : Option Bool) = some r)) (by rw [HT_l.out]; decide)
                       clear HC102
                       try clear c1
                       try clear c2
                       try clear p2
                       try clear c3
                       try clear c4
                       try clear p4
                       try clear q4
                       try clear hx4
                       try clear c6
                       try clear p6
                       try clear c8
                       try clear c9
                       try clear c10
                       try clear c15
                       try clear c16
                       try clear c16b0
                       try clear c16b1
                       try clear c16b2
                       try clear c17
                       try clear c17b0
                       try clear c17b1
                       try clear c18
                       try clear c18b0
                       try clear c18b1
                       try clear c19
                       try clear c19b0
                       try clear c19b1
                       try clear c19b2
                       try clear c20
                       try clear c20b0
                       try clear c20b1
                       try clear c20b2
                       try clear c21
                       try clear c21b0
                       try clear c21b1
                       try clear c21b2
                       try clear c22
                       try clear c22b0
                       try clear c22b1
                       try clear c23
                       try clear c23b0
                       try clear c23b1
                       try clear c24
                       try clear c24b0
                       try clear c24b1
                       try clear c25
                       try clear c25b0
                       try clear c25b1
                       try clear c26
                       try clear c27
                       try clear c28
                       try clear c29
                       try clear c30
                       try clear c31
                       try clear c32
                       try clear c33
                       try clear c34
                       try clear c35
                       try clear c36
                       try clear c38
                       try clear c39
                       try clear c40
                       try clear c40b0
                       try clear c40b1
                       try clear p40
                       try clear q40
                       try clear hx40
                       try clear c41
                       try clear c43
                       try clear c44
                       try clear c44b0
                       try clear c45
                       try clear c45b0
                       try clear c46
                       try clear c80
                       try clear c80b0
                       try clear c80b1
                       try clear c80b2
                       try clear c82
                       try clear c83
                       try clear c83b0
                       try clear c83b1
                       try clear c83b2
                       try clear c84
                       try clear c84b0
                       try clear c84b1
                       try clear c85
                       try clear c85b0
                       try clear c85b1
                       try clear c86
                       try clear c86b0
                       try clear c86b1
                       try clear c86b2
                       try clear c87
                       try clear c87b0
                       try clear c87b1
                       try clear c88
                       try clear c88b0
                       try clear c88b1
                       try clear c89
                       try clear c89b0
                       try clear c89b1
                       try clear c89b2
                       try clear c90
                       try clear c90b0
                       try clear c90b1
                       try clear c91
                       try clear c91b0
                       try clear c91b1
                       try clear c91b2
                       try clear c92
                       try clear c92b0
                       try clear c92b1
                       try clear c92b2
                       try clear c95
                       try clear c97
                       try clear c98
                       try clear c98b0
                       try clear c99
                       try clear c99b0
                       try clear c100
                       try clear c100b0
                       try clear c104
                       try clear hx403_0
                       try clear p2
                       try clear p403
                       try clear p6
                       try clear q403
                       obtain ⟨kq, x454_101, rfl, HA, HJ101, HO_29, HO_33, HO_37, HO_38, HO_45, HO_46, HO_57, HO_58, HO_431, HR403_0, HB⟩ := hcut
                       cases kq with
                       | zero => exact absurd HA.out (by simp [laws_FnMirrorsSeen.j6])
                       | succ kj101 =>
                        as_aux_lemma =>
                         have H := HA.out
                         clear HA
                         simp only [laws_FnMirrorsSeen.j6] at H
                         by_cases c107 : x454_101 = true
                         · subst c107
                           rw [if_pos rfl] at H
                           exact absurd (Option.some.inj H) (by rw [HT_l.out]; decide)
                         replace c107 := Bool.eq_false_iff.mpr c107
                         subst c107
                         rw [if_neg (show ¬ (false = true) by decide)] at H
                         have H' := Aside0.mk H
                         clear H
                         go_wp2
                         go_roundg kj101
                         case measure => have := HJ11.out; have := HJ29.out; have := HJ36.out; have := HJ41.out; have := HJ60.out; have := HK6.out; have := HJ101.out; omega
                         case rel => exact ⟨(wrap64 (x433_6 + 1)), (by first | rfl | (simp; done) | (simp [*]; done)), H', ⟨by have := HJ11.out; have := HJ29.out; have := HJ36.out; have := HJ41.out; have := HJ60.out; have := HK6.out; have := HJ101.out; omega⟩, ⟨by (with_reducible repeat (first | apply Kd.V_alloc | apply Kd.V_drewN | apply Kd.V_drew)); exact HO_29.out⟩, ⟨by (with_reducible repeat (first | apply Kd.R_alloc | apply Kd.R_drewN | apply Kd.R_drew)); exact HO_33.out⟩, ⟨by (with_reducible repeat (first | apply Kd.V_alloc | apply Kd.V_drewN | apply Kd.V_drew)); exact HO_37.out⟩, ⟨by (with_reducible repeat (first | apply Kd.N_alloc | apply Kd.N_drewN | apply Kd.N_drew)); exact HO_38.out⟩, ⟨by (with_reducible repeat (first | apply Kd.V_alloc | apply Kd.V_drewN | apply Kd.V_drew)); exact HO_45.out⟩, ⟨by (with_reducible repeat (first | apply Kd.V_alloc | apply Kd.V_drewN | apply Kd.V_drew)); exact HO_46.out⟩, ⟨by (with_reducible repeat (first | apply Kd.V_alloc | apply Kd.V_drewN | apply Kd.V_drew)); exact HO_57.out⟩, ⟨by (with_reducible repeat (first | apply Kd.V_alloc | apply Kd.V_drewN | apply Kd.V_drew)); exact HO_58.out⟩, ⟨by (with_reducible repeat (first | apply Kd.N_alloc | apply Kd.N_drewN | apply Kd.N_drew)); exact HO_431.out⟩, ⟨by repeat (first | (with_reducible first | exact HB.out | apply below_alloc | apply pw_below_drewN | apply below_drew1) | exact HB.out)⟩⟩
                     rw [if_neg c100] at H
                     exact absurd H (by simp)
                   rw [if_neg c99] at H
                   exact absurd H (by simp)
                 rw [if_neg c98] at H
                 have c98b0 : decide (x433_6 < (t349.length : Int)) = false := decide_eq_false c98
                 clear c98
                 (first | rw [c98b0] | (simp only [i64_w, i32_w]; rw [c98b0]) | skip)
                 replace H := Option.bind_eq_some_iff.mp H; obtain ⟨t407, A1080, H⟩ := H; (try dsimp only at H); have A108 := Aside0.mk A1080; clear A1080
                 by_cases c109 : t407 = true
                 · subst c109
                   rw [if_pos rfl] at H
                   have H' := Aside0.mk H
                   clear H
                   obtain ⟨Ao110, co110, eo110⟩ := Kd.R_slice HO_33.out
                   subst eo110
                   go_wp2_with (first | ((with_reducible refine gate_callee (f := 38) rfl ?_); refine goesL_ (some 457) rfl rfl Try.func38 (by kernel_rfl) rfl #[.slice Ao110 t354.length co110] rfl (by (try simp only [List.map_toArray, List.map_cons, List.map_nil]); first | done | rfl | (simp only [List.length_drop, List.length_take]; rfl)) ?_; (with_reducible refine (laws_yRises.calls k6 _ _ t354 true _ ?side1 ?side2 A108.out).mono ?_); (case side1 => repeat (first | exact (Kd.R_reads' HO_33.out).2.2 | (with_reducible refine Kd.C_alloc ?_ _) | (with_reducible refine Kd.C_drewN ?_ _) | (with_reducible refine Kd.C_drew ?_))); (case side2 => exact (Kd.R_reads' HO_33.out).2.1); rintro e w' ⟨rfl, ⟨nd, rfl⟩⟩; refine ⟨_, rfl, ?_⟩))
                   go_meet
                   case rel => exact ⟨_, H', ⟨by have := HJ11.out; have := HJ29.out; have := HJ36.out; have := HJ41.out; have := HJ60.out; have := HK6.out; first | omega | exact Nat.le_refl _⟩, ⟨by (with_reducible repeat (first | apply Kd.V_alloc | apply Kd.V_drewN | apply Kd.V_drew)); exact Kd.V_mono HO_37.out (fun _ hk => hk.2.1)⟩, ⟨by (with_reducible repeat (first | apply Kd.N_alloc | apply Kd.N_drewN | apply Kd.N_drew)); exact Kd.N_mono HO_38.out (fun _ hk => trivial)⟩, ⟨by (with_reducible repeat (first | apply Kd.V_alloc | apply Kd.V_drewN | apply Kd.V_drew)); exact Kd.V_mono HO_45.out (fun _ hk => hk.2.1)⟩, ⟨by (with_reducible repeat (first | apply Kd.V_alloc | apply Kd.V_drewN | apply Kd.V_drew)); exact Kd.V_mono HO_46.out (fun _ hk => hk.2.1)⟩, ⟨by (with_reducible repeat (first | apply Kd.V_alloc | apply Kd.V_drewN | apply Kd.V_drew)); exact Kd.V_mono HO_57.out (fun _ hk => hk.2.1)⟩, ⟨by (with_reducible repeat (first | apply Kd.V_alloc | apply Kd.V_drewN | apply Kd.V_drew)); exact Kd.V_mono HO_58.out (fun _ hk => hk.2.1)⟩, ⟨by repeat (first | (with_reducible first | exact HB.out | apply below_alloc | apply pw_below_drewN | apply below_drew1) | exact HB.out)⟩⟩
                 replace c109 := Bool.eq_false_iff.mpr c109
                 subst c109
                 rw [if_neg (show ¬ (false = true) by decide)] at H
                 exact absurd (Option.some.inj H) (by rw [HT_l.out]; decide)
             replace c97 := Bool.eq_false_iff.mpr c97
             subst c97
             rw [if_neg (show ¬ (false = true) by decide)] at H
             have H' := Aside0.mk H
             clear H
             go_wp2
             go_meet
             case rel => exact ⟨_, H', ⟨by have := HJ11.out; have := HJ29.out; have := HJ36.out; have := HJ41.out; have := HJ60.out; first | omega | exact Nat.le_refl _⟩, ⟨by (with_reducible repeat (first | apply Kd.V_alloc | apply Kd.V_drewN | apply Kd.V_drew)); exact Kd.V_mono HO_37.out (fun _ hk => hk.2.2)⟩, ⟨by (with_reducible repeat (first | apply Kd.N_alloc | apply Kd.N_drewN | apply Kd.N_drew)); exact Kd.N_mono HO_38.out (fun _ hk => trivial)⟩, ⟨by (with_reducible repeat (first | apply Kd.V_alloc | apply Kd.V_drewN | apply Kd.V_drew)); exact Kd.V_mono HO_45.out (fun _ hk => hk.2.2)⟩, ⟨by (with_reducible repeat (first | apply Kd.V_alloc | apply Kd.V_drewN | apply Kd.V_drew)); exact Kd.V_mono HO_46.out (fun _ hk => hk.2.2)⟩, ⟨by (with_reducible repeat (first | apply Kd.V_alloc | apply Kd.V_drewN | apply Kd.V_drew)); exact Kd.V_mono HO_57.out (fun _ hk => hk.2.2)⟩, ⟨by (with_reducible repeat (first | apply Kd.V_alloc | apply Kd.V_drewN | apply Kd.V_drew)); exact Kd.V_mono HO_58.out (fun _ hk => hk.2.2)⟩, ⟨by repeat (first | (with_reducible first | exact HB.out | apply below_alloc | apply pw_below_drewN | apply below_drew1) | exact HB.out)⟩⟩
           clear HC96
           try clear c1
           try clear c2
           try clear p2
           try clear c3
           try clear c4
           try clear p4
           try clear q4
           try clear hx4
           try clear c6
           try clear p6
           try clear c8
           try clear c9
           try clear c10
           try clear c15
           try clear c16
           try clear c16b0
           try clear c16b1
           try clear c16b2
           try clear c17
           try clear c17b0
           try clear c17b1
           try clear c18
           try clear c18b0
           try clear c18b1
           try clear c19
           try clear c19b0
           try clear c19b1
           try clear c19b2
           try clear c20
           try clear c20b0
           try clear c20b1
           try clear c20b2
           try clear c21
           try clear c21b0
           try clear c21b1
           try clear c21b2
           try clear c22
           try clear c22b0
           try clear c22b1
           try clear c23
           try clear c23b0
           try clear c23b1
           try clear c24
           try clear c24b0
           try clear c24b1
           try clear c25
           try clear c25b0
           try clear c25b1
           try clear c26
           try clear c27
           try clear c28
           try clear c29
           try clear c30
           try clear c31
           try clear c32
           try clear c33
           try clear c34
           try clear c35
           try clear c36
           try clear c38
           try clear c39
           try clear c40
           try clear c40b0
           try clear c40b1
           try clear p40
           try clear q40
           try clear hx40
           try clear c41
           try clear c43
           try clear c44
           try clear c44b0
           try clear c45
           try clear c45b0
           try clear c46
           try clear p64
           try clear c80
           try clear c80b0
           try clear c80b1
           try clear c80b2
           try clear c82
           try clear c83
           try clear c83b0
           try clear c83b1
           try clear c83b2
           try clear c84
           try clear c84b0
           try clear c84b1
           try clear c85
           try clear c85b0
           try clear c85b1
           try clear c86
           try clear c86b0
           try clear c86b1
           try clear c86b2
           try clear c87
           try clear c87b0
           try clear c87b1
           try clear c88
           try clear c88b0
           try clear c88b1
           try clear c89
           try clear c89b0
           try clear c89b1
           try clear c89b2
           try clear c90
           try clear c90b0
           try clear c90b1
           try clear c91
           try clear c91b0
           try clear c91b1
           try clear c91b2
           try clear c92
           try clear c92b0
           try clear c92b1
           try clear c92b2
           try clear c95
           try clear c97
           try clear c98
           try clear c98b0
           try clear c99
           try clear c99b0
           try clear c100
           try clear c100b0
           try clear c104
           try clear c107
           try clear c109
           try clear hx403_0
           try clear p2
           try clear p4
           try clear p40
           try clear p403
           try clear p6
           try clear q4
           try clear q40
           try clear q403
           obtain ⟨kq, HA, HJ95, HO_37, HO_38, HO_45, HO_46, HO_57, HO_58, HB⟩ := hcut
           cases kq with
           | zero => exact absurd HA.out (by simp [laws_FnMirrorsSeen.j7])
           | succ kj95 =>
            as_aux_lemma =>
             have H := HA.out
             clear HA
             simp only [laws_FnMirrorsSeen.j7] at H
             have HC111 := Aside0.mk H
             clear H
             go_upto_if 459 with (fail)
             go_cut [459] from 459 to 459 (fun v459 wc => ∃ (kq : Nat), Aside0 (laws_FnMirrorsSeen.j10 kq t374 t377 t380 t381 t382 t386 t390 t393 t396 t397 t398 t399 = some r) ∧ Aside0 (kq ≤ kj95) ∧ Aside0 (Kd.V (Kd.int .i64) 3 wc w.heap.size (fun _ => True) (.slice Ao72 t374.length co72) t374) ∧ Aside0 (Kd.V (Kd.int .i64) 3 wc w.heap.size (fun _ => True) (.slice Ao73 t377.length co73) t377) ∧ Aside0 (Kd.V (Kd.int .i64) 3 wc w.heap.size (fun _ => True) (.slice Ao77 t390.length co77) t390) ∧ Aside0 (Kd.V (Kd.int .i64) 3 wc w.heap.size (fun _ => True) (.slice Ao78 t393.length co78) t393) ∧ Aside0 (Below w.heap.size w wc))
             case first =>
              as_aux_lemma =>
               have H := HC111.out
               clear HC111
               by_cases c112 : t370 = true
               · subst c112
                 rw [if_pos rfl] at H
                 replace H := Option.bind_eq_some_iff.mp H; obtain ⟨⟨t408, t411⟩, A1130, H⟩ := H; (try dsimp only at H); have A113 := Aside0.mk A1130; clear A1130
                 have HC114 := Aside0.mk H
                 clear H
                 go_upto_region 46 with (first | ((with_reducible refine gate_callee (f := 9) rfl ?_); refine goesL_ (some 465) rfl rfl Try.func9 (by kernel_rfl) rfl #[.slice Ao68 t362.length co68, .slice Ao69 t365.length co69, .int .i64 t368, .int .i64 t369] rfl (by (try simp only [List.map_toArray, List.map_cons, List.map_nil]); first | done | rfl | (simp only [List.length_drop, List.length_take]; rfl)) ?_; (with_reducible refine (impl_SeenIn.calls kj95 (fun k_ => some k_ ≠ (.slice Ao69 t365.length co69 : Value).ownBlock) _ _ t362 _ _ t365 t368 t369 t408 t411 _ ?side1 ?side2 ?side3 A113.out).mono ?_); (case side1 => exact HO_37.out); (case side2 => repeat (first | exact (Kd.N_reads' HO_38.out).2.2 | (with_reducible refine Kd.C_alloc ?_ _) | (with_reducible refine Kd.C_drewN ?_ _) | (with_reducible refine Kd.C_drew ?_))); (case side3 => exact (Kd.N_reads' HO_38.out).2.1); rintro e w115 ⟨v409, rfl, ho0, hb⟩; refine ⟨_, rfl, ?_⟩; have n0_ := Aside0.mk (Kd.V_elder' (by (with_reducible repeat (first | apply Kd.V_alloc | apply Kd.V_drewN | apply Kd.V_drew)); exact HO_37.out) (Kd.R_base ho0) hb); have n1_ := Aside0.mk (Kd.N_elder' (by (with_reducible repeat (first | apply Kd.N_alloc | apply Kd.N_drewN | apply Kd.N_drew)); exact HO_38.out) (Kd.R_base ho0) hb); have n2_ := Aside0.mk (Kd.V_elder' (by (with_reducible repeat (first | apply Kd.V_alloc | apply Kd.V_drewN | apply Kd.V_drew)); exact HO_45.out) (Kd.R_base ho0) hb); have n3_ := Aside0.mk (Kd.V_elder' (by (with_reducible repeat (first | apply Kd.V_alloc | apply Kd.V_drewN | apply Kd.V_drew)); exact HO_46.out) (Kd.R_base ho0) hb); have n4_ := Aside0.mk (Kd.V_elder' (by (with_reducible repeat (first | apply Kd.V_alloc | apply Kd.V_drewN | apply Kd.V_drew)); exact HO_57.out) (Kd.R_base ho0) hb); have n5_ := Aside0.mk (Kd.V_elder' (by (with_reducible repeat (first | apply Kd.V_alloc | apply Kd.V_drewN | apply Kd.V_drew)); exact HO_58.out) (Kd.R_base ho0) hb); have n6_ := Aside0.mk (Kd.R_lower (Kd.R_mono (ok' := fun k_ => True) ho0 (fun _ hk_ => trivial)) (below_size (by repeat (first | (with_reducible first | exact HB.out | apply below_alloc | apply pw_below_drewN | apply below_drew1) | exact HB.out)))); have n7_ := Aside0.mk (below_step (by repeat (first | (with_reducible first | exact HB.out | apply below_alloc | apply pw_below_drewN | apply below_drew1) | exact HB.out)) hb); clear HO_37; clear HO_38; clear HO_45; clear HO_46; clear HO_57; clear HO_58; clear HB; have HO_37 := n0_; have HO_38 := n1_; have HO_45 := n2_; have HO_46 := n3_; have HO_57 := n4_; have HO_58 := n5_; have HO410 := n6_; have HB := n7_; clear n0_ n1_ n2_ n3_ n4_ n5_ n6_ n7_; (try clear hb); (try clear hb2); (try clear hk); (try clear hi); (try clear ho0)))
                 (try simp only [Act.put, List.setIfInBounds_toArray, List.set_cons_zero, List.set_cons_succ])
                 go_cut [481] from 481 to 481 (fun v481 wc => ∃ (kq : Nat) (x481_113 : Bool), v481 = .bool x481_113 ∧ Aside0 (laws_FnMirrorsSeen.j8 kq t362 t365 t368 t369 t374 t377 t380 t381 t382 t386 t390 t393 t396 t397 t398 t399 x481_113 = some r) ∧ Aside0 (kq ≤ kj95) ∧ Aside0 (Kd.V (Kd.int .i64) 3 wc w.heap.size (fun k_ => some k_ ≠ ((.slice Ao69 t365.length co69) : Value).ownBlock) (.slice Ao68 t362.length co68) t362) ∧ Aside0 (Kd.N (Kd.slice 3 (Kd.int .i64)) 22 wc w.heap.size (fun _ => True) (.slice Ao69 t365.length co69) t365) ∧ Aside0 (Kd.V (Kd.int .i64) 3 wc w.heap.size (fun k_ => some k_ ≠ ((.slice Ao69 t365.length co69) : Value).ownBlock) (.slice Ao72 t374.length co72) t374) ∧ Aside0 (Kd.V (Kd.int .i64) 3 wc w.heap.size (fun k_ => some k_ ≠ ((.slice Ao69 t365.length co69) : Value).ownBlock) (.slice Ao73 t377.length co73) t377) ∧ Aside0 (Kd.V (Kd.int .i64) 3 wc w.heap.size (fun k_ => some k_ ≠ ((.slice Ao69 t365.length co69) : Value).ownBlock) (.slice Ao77 t390.length co77) t390) ∧ Aside0 (Kd.V (Kd.int .i64) 3 wc w.heap.size (fun k_ => some k_ ≠ ((.slice Ao69 t365.length co69) : Value).ownBlock) (.slice Ao78 t393.length co78) t393) ∧ Aside0 (Below w.heap.size w wc))
                 case first =>
                  as_aux_lemma =>
                   have H := HC114.out
                   clear HC114
                   by_cases c116 : t411 = true
                   · subst c116
                     rw [if_pos rfl] at H
                     by_cases c117 : (t408.length : Int) = (t365.length : Int)
                     · rw [if_pos c117] at H
                       have c117b0 : ((t408.length : Int) == (t365.length : Int)) = true := beq_iff_eq.mpr c117
                       have c117b1 : ((t408.length : Int) != (t365.length : Int)) = false := bne_eq_false_iff_eq.mpr c117
                       have c117b2 : (t408.length == t365.length) = true := by first | simpa using c117 | (simp at c117 ⊢; omega)
                       clear c117
                       (first | rw [c117b0] | (simp only [i64_w, i32_w]; rw [c117b0]) | skip)
                       have H' := Aside0.mk H
                       clear H
                       obtain ⟨Ao118, co118, eo118⟩ := Kd.R_slice HO410.out
                       subst eo118
                       go_wp2
                       go_meet
                       case rel => exact ⟨_, (decide (t368 > t369)), (by first | rfl | (simp; done) | (simp [*]; done)), H', ⟨by have := HJ11.out; have := HJ29.out; have := HJ36.out; have := HJ41.out; have := HJ60.out; have := HJ95.out; first | omega | exact Nat.le_refl _⟩, ⟨by (with_reducible repeat (first | apply Kd.V_alloc | apply Kd.V_drewN | apply Kd.V_drew)); exact Kd.V_mono HO_37.out (fun _ hk => hk.1)⟩, ⟨by (with_reducible repeat (first | apply Kd.N_alloc | apply Kd.N_drewN | apply Kd.N_drew)); exact Kd.N_mono HO_38.out (fun _ hk => trivial)⟩, ⟨by (with_reducible repeat (first | apply Kd.V_alloc | apply Kd.V_drewN | apply Kd.V_drew)); exact Kd.V_mono HO_45.out (fun _ hk => hk.1)⟩, ⟨by (with_reducible repeat (first | apply Kd.V_alloc | apply Kd.V_drewN | apply Kd.V_drew)); exact Kd.V_mono HO_46.out (fun _ hk => hk.1)⟩, ⟨by (with_reducible repeat (first | apply Kd.V_alloc | apply Kd.V_drewN | apply Kd.V_drew)); exact Kd.V_mono HO_57.out (fun _ hk => hk.1)⟩, ⟨by (with_reducible repeat (first | apply Kd.V_alloc | apply Kd.V_drewN | apply Kd.V_drew)); exact Kd.V_mono HO_58.out (fun _ hk => hk.1)⟩, ⟨by repeat (first | (with_reducible first | exact HB.out | apply below_alloc | apply pw_below_drewN | apply below_drew1) | exact HB.out)⟩⟩
                     rw [if_neg c117] at H
                     have c117b0 : ((t408.length : Int) == (t365.length : Int)) = false := beq_eq_false_iff_ne.mpr c117
                     have c117b1 : ((t408.length : Int) != (t365.length : Int)) = true := bne_iff_ne.mpr c117
                     have c117b2 : (t408.length == t365.length) = false := by first | simpa using c117 | (simp at c117 ⊢; omega)
                     (first | rw [c117b0] | (simp only [i64_w, i32_w]; rw [c117b0]) | skip)
                     cases kj95 with
                     | zero => exact absurd H (by simp [laws_FnMirrorsSeen.j8])
                     | succ kz_ =>
                      simp only [laws_FnMirrorsSeen.j8] at H
                      exact absurd (Option.some.inj (by first | exact H | (rw [if_pos rfl] at H; exact H) | (simpa using H) : (some false : Option Bool) = some r)) (by rw [HT_l.out]; decide)
                   replace c116 := Bool.eq_false_iff.mpr c116
                   subst c116
                   rw [if_neg (show ¬ (false = true) by decide)] at H
                   cases kj95 with
                   | zero => exact absurd H (by simp [laws_FnMirrorsSeen.j8])
                   | succ kz_ =>
                    simp only [laws_FnMirrorsSeen.j8] at H
                    exact absurd (Option.some.inj (by first | exact H | (rw [if_pos rfl] at H; exact H) | (simpa using H) : (some false : Option Bool) = some r)) (by rw [HT_l.out]; decide)
                 clear HC114
                 try clear c1
                 try clear c2
                 try clear p2
                 try clear c3
                 try clear c4
                 try clear p4
                 try clear q4
                 try clear hx4
                 try clear c6
                 try clear p6
                 try clear c8
                 try clear c9
                 try clear c10
                 try clear c11
                 try clear c15
                 try clear c16
                 try clear c16b0
                 try clear c16b1
                 try clear c16b2
                 try clear c17
                 try clear c17b0
                 try clear c17b1
                 try clear c18
                 try clear c18b0
                 try clear c18b1
                 try clear c19
                 try clear c19b0
                 try clear c19b1
                 try clear c19b2
                 try clear c20
                 try clear c20b0
                 try clear c20b1
                 try clear c20b2
                 try clear c21
                 try clear c21b0
                 try clear c21b1
                 try clear c21b2
                 try clear c22
                 try clear c22b0
                 try clear c22b1
                 try clear c23
                 try clear c23b0
                 try clear c23b1
                 try clear c24
                 try clear c24b0
                 try clear c24b1
                 try clear c25
                 try clear c25b0
                 try clear c25b1
                 try clear c26
                 try clear c27
                 try clear c28
                 try clear c29
                 try clear c30
                 try clear c31
                 try clear c32
                 try clear c33
                 try clear c34
                 try clear c35
                 try clear c36
                 try clear c38
                 try clear c39
                 try clear c40
                 try clear c40b0
                 try clear c40b1
                 try clear p40
                 try clear q40
                 try clear hx40
                 try clear c41
                 try clear c43
                 try clear c44
                 try clear c44b0
                 try clear c45
                 try clear c45b0
                 try clear c46
                 try clear p64
                 try clear c80
                 try clear c80b0
                 try clear c80b1
                 try clear c80b2
                 try clear c82
                 try clear c83
                 try clear c83b0
                 try clear c83b1
                 try clear c83b2
                 try clear c84
                 try clear c84b0
                 try clear c84b1
                 try clear c85
                 try clear c85b0
                 try clear c85b1
                 try clear c86
                 try clear c86b0
                 try clear c86b1
                 try clear c86b2
                 try clear c87
                 try clear c87b0
                 try clear c87b1
                 try clear c88
                 try clear c88b0
                 try clear c88b1
                 try clear c89
                 try clear c89b0
                 try clear c89b1
                 try clear c89b2
                 try clear c90
                 try clear c90b0
                 try clear c90b1
                 try clear c91
                 try clear c91b0
                 try clear c91b1
                 try clear c91b2
                 try clear c92
                 try clear c92b0
                 try clear c92b1
                 try clear c92b2
                 try clear c95
                 try clear c97
                 try clear c98
                 try clear c98b0
                 try clear c99
                 try clear c99b0
                 try clear c100
                 try clear c100b0
                 try clear c104
                 try clear c107
                 try clear c109
                 try clear c112
                 try clear c116
                 try clear c117
                 try clear c117b0
                 try clear c117b1
                 try clear c117b2
                 try clear hx403_0
                 try clear p2
                 try clear p4
                 try clear p40
                 try clear p403
                 try clear p6
                 try clear p64
                 try clear q4
                 try clear q40
                 try clear q403
                 obtain ⟨kq, x481_113, rfl, HA, HJ113, HO_37, HO_38, HO_45, HO_46, HO_57, HO_58, HB⟩ := hcut
                 cases kq with
                 | zero => exact absurd HA.out (by simp [laws_FnMirrorsSeen.j8])
                 | succ kj113 =>
                  as_aux_lemma =>
                   have H := HA.out
                   clear HA
                   simp only [laws_FnMirrorsSeen.j8] at H
                   by_cases c119 : x481_113 = true
                   · subst c119
                     rw [if_pos rfl] at H
                     exact absurd (Option.some.inj H) (by rw [HT_l.out]; decide)
                   replace c119 := Bool.eq_false_iff.mpr c119
                   subst c119
                   rw [if_neg (show ¬ (false = true) by decide)] at H
                   by_cases c120 : t368 < t369
                   · rw [if_pos c120] at H
                     have c120b0 : decide (t368 < t369) = true := decide_eq_true c120
                     clear c120
                     replace H := Option.bind_eq_some_iff.mp H; obtain ⟨⟨t412, t415⟩, A1210, H⟩ := H; (try dsimp only at H); have A121 := Aside0.mk A1210; clear A1210
                     replace H := Option.bind_eq_some_iff.mp H; obtain ⟨⟨t416, t419⟩, A1220, H⟩ := H; (try dsimp only at H); have A122 := Aside0.mk A1220; clear A1220
                     have HC123 := Aside0.mk H
                     clear H
                     go_upto_region 51 with (first | ((with_reducible refine gate_callee (f := 9) rfl ?_); refine goesL_ (some 491) rfl rfl Try.func9 (by kernel_rfl) rfl #[.slice Ao68 t362.length co68, .slice Ao69 t365.length co69, .int .i64 (wrap64 (t368 + 1)), .int .i64 t369] rfl (by (try simp only [List.map_toArray, List.map_cons, List.map_nil]); first | done | rfl | (simp only [List.length_drop, List.length_take]; rfl)) ?_; (with_reducible refine (impl_SeenIn.calls kj113 (fun k_ => some k_ ≠ (.slice Ao69 t365.length co69 : Value).ownBlock) _ _ t362 _ _ t365 (wrap64 (t368 + 1)) t369 t412 t415 _ ?side1 ?side2 ?side3 A121.out).mono ?_); (case side1 => exact HO_37.out); (case side2 => repeat (first | exact (Kd.N_reads' HO_38.out).2.2 | (with_reducible refine Kd.C_alloc ?_ _) | (with_reducible refine Kd.C_drewN ?_ _) | (with_reducible refine Kd.C_drew ?_))); (case side3 => exact (Kd.N_reads' HO_38.out).2.1); rintro e w124 ⟨v413, rfl, ho0, hb⟩; refine ⟨_, rfl, ?_⟩; have n0_ := Aside0.mk (Kd.V_elder' (by (with_reducible repeat (first | apply Kd.V_alloc | apply Kd.V_drewN | apply Kd.V_drew)); exact HO_37.out) (Kd.R_base ho0) hb); have n1_ := Aside0.mk (Kd.N_elder' (by (with_reducible repeat (first | apply Kd.N_alloc | apply Kd.N_drewN | apply Kd.N_drew)); exact HO_38.out) (Kd.R_base ho0) hb); have n2_ := Aside0.mk (Kd.V_elder' (by (with_reducible repeat (first | apply Kd.V_alloc | apply Kd.V_drewN | apply Kd.V_drew)); exact HO_45.out) (Kd.R_base ho0) hb); have n3_ := Aside0.mk (Kd.V_elder' (by (with_reducible repeat (first | apply Kd.V_alloc | apply Kd.V_drewN | apply Kd.V_drew)); exact HO_46.out) (Kd.R_base ho0) hb); have n4_ := Aside0.mk (Kd.V_elder' (by (with_reducible repeat (first | apply Kd.V_alloc | apply Kd.V_drewN | apply Kd.V_drew)); exact HO_57.out) (Kd.R_base ho0) hb); have n5_ := Aside0.mk (Kd.V_elder' (by (with_reducible repeat (first | apply Kd.V_alloc | apply Kd.V_drewN | apply Kd.V_drew)); exact HO_58.out) (Kd.R_base ho0) hb); have n6_ := Aside0.mk (Kd.R_lower (Kd.R_mono (ok' := fun k_ => True) ho0 (fun _ hk_ => trivial)) (below_size (by repeat (first | (with_reducible first | exact HB.out | apply below_alloc | apply pw_below_drewN | apply below_drew1) | exact HB.out)))); have n7_ := Aside0.mk (below_step (by repeat (first | (with_reducible first | exact HB.out | apply below_alloc | apply pw_below_drewN | apply below_drew1) | exact HB.out)) hb); clear HO_37; clear HO_38; clear HO_45; clear HO_46; clear HO_57; clear HO_58; clear HB; have HO_37 := n0_; have HO_38 := n1_; have HO_45 := n2_; have HO_46 := n3_; have HO_57 := n4_; have HO_58 := n5_; have HO414 := n6_; have HB := n7_; clear n0_ n1_ n2_ n3_ n4_ n5_ n6_ n7_; (try clear hb); (try clear hb2); (try clear hk); (try clear hi); (try clear ho0)) | ((with_reducible refine gate_callee (f := 9) rfl ?_); refine goesL_ (some 500) rfl rfl Try.func9 (by kernel_rfl) rfl #[.slice Ao68 t362.length co68, .slice Ao69 t365.length co69, .int .i64 t368, .int .i64 (wrap64 (t369 - 1))] rfl (by (try simp only [List.map_toArray, List.map_cons, List.map_nil]); first | done | rfl | (simp only [List.length_drop, List.length_take]; rfl)) ?_; (with_reducible refine (impl_SeenIn.calls kj113 (fun k_ => (some k_ ≠ (.slice Ao69 t365.length co69 : Value).ownBlock ∧ some k_ ≠ (v413 : Value).ownBlock)) _ _ t362 _ _ t365 t368 (wrap64 (t369 - 1)) t416 t419 _ ?side1 ?side2 ?side3 A122.out).mono ?_); (case side1 => exact HO_37.out); (case side2 => repeat (first | exact (Kd.N_reads' HO_38.out).2.2 | (with_reducible refine Kd.C_alloc ?_ _) | (with_reducible refine Kd.C_drewN ?_ _) | (with_reducible refine Kd.C_drew ?_))); (case side3 => exact (Kd.N_reads' HO_38.out).2.1); rintro e w125 ⟨v417, rfl, ho0, hb⟩; refine ⟨_, rfl, ?_⟩; have n0_ := Aside0.mk (Kd.V_elder' (by (with_reducible repeat (first | apply Kd.V_alloc | apply Kd.V_drewN | apply Kd.V_drew)); exact HO_37.out) (Kd.R_base ho0) hb); have n1_ := Aside0.mk (Kd.N_elder' (by (with_reducible repeat (first | apply Kd.N_alloc | apply Kd.N_drewN | apply Kd.N_drew)); exact HO_38.out) (Kd.R_base ho0) hb); have n2_ := Aside0.mk (Kd.V_elder' (by (with_reducible repeat (first | apply Kd.V_alloc | apply Kd.V_drewN | apply Kd.V_drew)); exact HO_45.out) (Kd.R_base ho0) hb); have n3_ := Aside0.mk (Kd.V_elder' (by (with_reducible repeat (first | apply Kd.V_alloc | apply Kd.V_drewN | apply Kd.V_drew)); exact HO_46.out) (Kd.R_base ho0) hb); have n4_ := Aside0.mk (Kd.V_elder' (by (with_reducible repeat (first | apply Kd.V_alloc | apply Kd.V_drewN | apply Kd.V_drew)); exact HO_57.out) (Kd.R_base ho0) hb); have n5_ := Aside0.mk (Kd.V_elder' (by (with_reducible repeat (first | apply Kd.V_alloc | apply Kd.V_drewN | apply Kd.V_drew)); exact HO_58.out) (Kd.R_base ho0) hb); have n6_ := Aside0.mk (Kd.R_elder' (by (with_reducible repeat (first | apply Kd.R_alloc | apply Kd.R_drewN | apply Kd.R_drew)); exact HO414.out) (Kd.R_base ho0) hb); have n7_ := Aside0.mk (Kd.R_lower (Kd.R_new' (Kd.R_mono (ok' := fun k_ => True) ho0 (fun _ hk_ => trivial)) (Kd.R_lt (by (with_reducible repeat (first | apply Kd.R_alloc | apply Kd.R_drewN | apply Kd.R_drew)); exact HO414.out))) (below_size (by repeat (first | (with_reducible first | exact HB.out | apply below_alloc | apply pw_below_drewN | apply below_drew1) | exact HB.out)))); have n8_ := Aside0.mk (below_step (by repeat (first | (with_reducible first | exact HB.out | apply below_alloc | apply pw_below_drewN | apply below_drew1) | exact HB.out)) hb); clear HO_37; clear HO_38; clear HO_45; clear HO_46; clear HO_57; clear HO_58; clear HO414; clear HB; have HO_37 := n0_; have HO_38 := n1_; have HO_45 := n2_; have HO_46 := n3_; have HO_57 := n4_; have HO_58 := n5_; have HO414 := n6_; have HO418 := n7_; have HB := n8_; clear n0_ n1_ n2_ n3_ n4_ n5_ n6_ n7_ n8_; (try clear hb); (try clear hb2); (try clear hk); (try clear hi); (try clear ho0)))
                     (try simp only [Act.put, List.setIfInBounds_toArray, List.set_cons_zero, List.set_cons_succ])
                     go_cut [522] from 522 to 522 (fun v522 wc => ∃ (kq : Nat) (x522_122 : Bool), v522 = .bool x522_122 ∧ Aside0 (laws_FnMirrorsSeen.j9 kq t374 t377 t380 t381 t382 t386 t390 t393 t396 t397 t398 t399 x522_122 = some r) ∧ Aside0 (kq ≤ kj113) ∧ Aside0 (Kd.V (Kd.int .i64) 3 wc w.heap.size (fun _ => True) (.slice Ao72 t374.length co72) t374) ∧ Aside0 (Kd.V (Kd.int .i64) 3 wc w.heap.size (fun _ => True) (.slice Ao73 t377.length co73) t377) ∧ Aside0 (Kd.V (Kd.int .i64) 3 wc w.heap.size (fun _ => True) (.slice Ao77 t390.length co77) t390) ∧ Aside0 (Kd.V (Kd.int .i64) 3 wc w.heap.size (fun _ => True) (.slice Ao78 t393.length co78) t393) ∧ Aside0 (Below w.heap.size w wc))
                     case first =>
                      as_aux_lemma =>
                       have H := HC123.out
                       clear HC123
                       by_cases c126 : t415 = true
                       · subst c126
                         rw [if_pos rfl] at H
                         by_cases c127 : t419 = true
                         · subst c127
                           rw [if_pos rfl] at H
                           by_cases c128 : (t412.length : Int) = (t365.length : Int)
                           · rw [if_pos c128] at H
                             have c128b0 : ((t412.length : Int) == (t365.length : Int)) = true := beq_iff_eq.mpr c128
                             have c128b1 : ((t412.length : Int) != (t365.length : Int)) = false := bne_eq_false_iff_eq.mpr c128
                             have c128b2 : (t412.length == t365.length) = true := by first | simpa using c128 | (simp at c128 ⊢; omega)
                             clear c128
                             (first | rw [c128b0] | (simp only [i64_w, i32_w]; rw [c128b0]) | skip)
                             cases kj113 with
                             | zero => exact absurd H (by simp [laws_FnMirrorsSeen.j9])
                             | succ kz_ =>
                              simp only [laws_FnMirrorsSeen.j9] at H
                              exact absurd (Option.some.inj (by first | exact H | (rw [if_pos rfl] at H; exact H) | (simpa using H) : (some false : Option Bool) = some r)) (by rw [HT_l.out]; decide)
                           rw [if_neg c128] at H
                           have c128b0 : ((t412.length : Int) == (t365.length : Int)) = false := beq_eq_false_iff_ne.mpr c128
                           have c128b1 : ((t412.length : Int) != (t365.length : Int)) = true := bne_iff_ne.mpr c128
                           have c128b2 : (t412.length == t365.length) = false := by first | simpa using c128 | (simp at c128 ⊢; omega)
                           (first | rw [c128b0] | (simp only [i64_w, i32_w]; rw [c128b0]) | skip)
                           have H' := Aside0.mk H
                           clear H
                           obtain ⟨Ao129, co129, eo129⟩ := Kd.R_slice HO414.out
                           subst eo129
                           obtain ⟨Ao130, co130, eo130⟩ := Kd.R_slice HO418.out
                           subst eo130
                           go_wp2
                           go_meet
                           case rel => exact ⟨_, (((t416.length : Int) == (t365.length : Int))), (by first | rfl | (simp; done) | (simp [*]; done)), H', ⟨by have := HJ11.out; have := HJ29.out; have := HJ36.out; have := HJ41.out; have := HJ60.out; have := HJ95.out; have := HJ113.out; first | omega | exact Nat.le_refl _⟩, ⟨by (with_reducible repeat (first | apply Kd.V_alloc | apply Kd.V_drewN | apply Kd.V_drew)); exact Kd.V_mono HO_45.out (fun _ hk => trivial)⟩, ⟨by (with_reducible repeat (first | apply Kd.V_alloc | apply Kd.V_drewN | apply Kd.V_drew)); exact Kd.V_mono HO_46.out (fun _ hk => trivial)⟩, ⟨by (with_reducible repeat (first | apply Kd.V_alloc | apply Kd.V_drewN | apply Kd.V_drew)); exact Kd.V_mono HO_57.out (fun _ hk => trivial)⟩, ⟨by (with_reducible repeat (first | apply Kd.V_alloc | apply Kd.V_drewN | apply Kd.V_drew)); exact Kd.V_mono HO_58.out (fun _ hk => trivial)⟩, ⟨by repeat (first | (with_reducible first | exact HB.out | apply below_alloc | apply pw_below_drewN | apply below_drew1) | exact HB.out)⟩⟩
                         replace c127 := Bool.eq_false_iff.mpr c127
                         subst c127
                         rw [if_neg (show ¬ (false = true) by decide)] at H
                         cases kj113 with
                         | zero => exact absurd H (by simp [laws_FnMirrorsSeen.j9])
                         | succ kz_ =>
                          simp only [laws_FnMirrorsSeen.j9] at H
                          exact absurd (Option.some.inj (by first | exact H | (rw [if_pos rfl] at H; exact H) | (simpa using H) : (some false : Option Bool) = some r)) (by rw [HT_l.out]; decide)
                       replace c126 := Bool.eq_false_iff.mpr c126
                       subst c126
                       rw [if_neg (show ¬ (false = true) by decide)] at H
                       cases kj113 with
                       | zero => exact absurd H (by simp [laws_FnMirrorsSeen.j9])
                       | succ kz_ =>
                        simp only [laws_FnMirrorsSeen.j9] at H
                        exact absurd (Option.some.inj (by first | exact H | (rw [if_pos rfl] at H; exact H) | (simpa using H) : (some false : Option Bool) = some r)) (by rw [HT_l.out]; decide)
                     clear HC123
                     try clear c1
                     try clear c2
                     try clear p2
                     try clear c3
                     try clear c4
                     try clear p4
                     try clear q4
                     try clear hx4
                     try clear c6
                     try clear p6
                     try clear c8
                     try clear c9
                     try clear c10
                     try clear c11
                     try clear c12
                     try clear c15
                     try clear c16
                     try clear c16b0
                     try clear c16b1
                     try clear c16b2
                     try clear c17
                     try clear c17b0
                     try clear c17b1
                     try clear c18
                     try clear c18b0
                     try clear c18b1
                     try clear c19
                     try clear c19b0
                     try clear c19b1
                     try clear c19b2
                     try clear c20
                     try clear c20b0
                     try clear c20b1
                     try clear c20b2
                     try clear c21
                     try clear c21b0
                     try clear c21b1
                     try clear c21b2
                     try clear c22
                     try clear c22b0
                     try clear c22b1
                     try clear c23
                     try clear c23b0
                     try clear c23b1
                     try clear c24
                     try clear c24b0
                     try clear c24b1
                     try clear c25
                     try clear c25b0
                     try clear c25b1
                     try clear c26
                     try clear c27
                     try clear c28
                     try clear c29
                     try clear c30
                     try clear c31
                     try clear c32
                     try clear c33
                     try clear c34
                     try clear c35
                     try clear c36
                     try clear c38
                     try clear c39
                     try clear c40
                     try clear c40b0
                     try clear c40b1
                     try clear p40
                     try clear q40
                     try clear hx40
                     try clear c41
                     try clear c43
                     try clear c44
                     try clear c44b0
                     try clear c45
                     try clear c45b0
                     try clear c46
                     try clear p64
                     try clear c80
                     try clear c80b0
                     try clear c80b1
                     try clear c80b2
                     try clear c82
                     try clear c83
                     try clear c83b0
                     try clear c83b1
                     try clear c83b2
                     try clear c84
                     try clear c84b0
                     try clear c84b1
                     try clear c85
                     try clear c85b0
                     try clear c85b1
                     try clear c86
                     try clear c86b0
                     try clear c86b1
                     try clear c86b2
                     try clear c87
                     try clear c87b0
                     try clear c87b1
                     try clear c88
                     try clear c88b0
                     try clear c88b1
                     try clear c89
                     try clear c89b0
                     try clear c89b1
                     try clear c89b2
                     try clear c90
                     try clear c90b0
                     try clear c90b1
                     try clear c91
                     try clear c91b0
                     try clear c91b1
                     try clear c91b2
                     try clear c92
                     try clear c92b0
                     try clear c92b1
                     try clear c92b2
                     try clear c95
                     try clear c97
                     try clear c98
                     try clear c98b0
                     try clear c99
                     try clear c99b0
                     try clear c100
                     try clear c100b0
                     try clear c104
                     try clear c107
                     try clear c109
                     try clear c112
                     try clear c116
                     try clear c117
                     try clear c117b0
                     try clear c117b1
                     try clear c117b2
                     try clear c119
                     try clear c120
                     try clear c120b0
                     try clear c126
                     try clear c127
                     try clear c128
                     try clear c128b0
                     try clear c128b1
                     try clear c128b2
                     try clear hx403_0
                     try clear p2
                     try clear p4
                     try clear p40
                     try clear p403
                     try clear p6
                     try clear p64
                     try clear q4
                     try clear q40
                     try clear q403
                     obtain ⟨kq, x522_122, rfl, HA, HJ122, HO_45, HO_46, HO_57, HO_58, HB⟩ := hcut
                     cases kq with
                     | zero => exact absurd HA.out (by simp [laws_FnMirrorsSeen.j9])
                     | succ kj122 =>
                      as_aux_lemma =>
                       have H := HA.out
                       clear HA
                       simp only [laws_FnMirrorsSeen.j9] at H
                       by_cases c131 : x522_122 = true
                       · subst c131
                         rw [if_pos rfl] at H
                         exact absurd (Option.some.inj H) (by rw [HT_l.out]; decide)
                       replace c131 := Bool.eq_false_iff.mpr c131
                       subst c131
                       rw [if_neg (show ¬ (false = true) by decide)] at H
                       have H' := Aside0.mk H
                       clear H
                       go_wp2
                       go_meet
                       case rel => exact ⟨_, H', ⟨by have := HJ11.out; have := HJ29.out; have := HJ36.out; have := HJ41.out; have := HJ60.out; have := HJ95.out; have := HJ113.out; have := HJ122.out; first | omega | exact Nat.le_refl _⟩, ⟨by (with_reducible repeat (first | apply Kd.V_alloc | apply Kd.V_drewN | apply Kd.V_drew)); exact HO_45.out⟩, ⟨by (with_reducible repeat (first | apply Kd.V_alloc | apply Kd.V_drewN | apply Kd.V_drew)); exact HO_46.out⟩, ⟨by (with_reducible repeat (first | apply Kd.V_alloc | apply Kd.V_drewN | apply Kd.V_drew)); exact HO_57.out⟩, ⟨by (with_reducible repeat (first | apply Kd.V_alloc | apply Kd.V_drewN | apply Kd.V_drew)); exact HO_58.out⟩, ⟨by repeat (first | (with_reducible first | exact HB.out | apply below_alloc | apply pw_below_drewN | apply below_drew1) | exact HB.out)⟩⟩
                   rw [if_neg c120] at H
                   have c120b0 : decide (t368 < t369) = false := decide_eq_false c120
                   clear c120
                   have H' := Aside0.mk H
                   clear H
                   go_wp2
                   go_meet
                   case rel => exact ⟨_, H', ⟨by have := HJ11.out; have := HJ29.out; have := HJ36.out; have := HJ41.out; have := HJ60.out; have := HJ95.out; have := HJ113.out; first | omega | exact Nat.le_refl _⟩, ⟨by (with_reducible repeat (first | apply Kd.V_alloc | apply Kd.V_drewN | apply Kd.V_drew)); exact Kd.V_mono HO_45.out (fun _ hk => trivial)⟩, ⟨by (with_reducible repeat (first | apply Kd.V_alloc | apply Kd.V_drewN | apply Kd.V_drew)); exact Kd.V_mono HO_46.out (fun _ hk => trivial)⟩, ⟨by (with_reducible repeat (first | apply Kd.V_alloc | apply Kd.V_drewN | apply Kd.V_drew)); exact Kd.V_mono HO_57.out (fun _ hk => trivial)⟩, ⟨by (with_reducible repeat (first | apply Kd.V_alloc | apply Kd.V_drewN | apply Kd.V_drew)); exact Kd.V_mono HO_58.out (fun _ hk => trivial)⟩, ⟨by repeat (first | (with_reducible first | exact HB.out | apply below_alloc | apply pw_below_drewN | apply below_drew1) | exact HB.out)⟩⟩
               replace c112 := Bool.eq_false_iff.mpr c112
               subst c112
               rw [if_neg (show ¬ (false = true) by decide)] at H
               have H' := Aside0.mk H
               clear H
               go_wp2
               go_meet
               case rel => exact ⟨_, H', ⟨by have := HJ11.out; have := HJ29.out; have := HJ36.out; have := HJ41.out; have := HJ60.out; have := HJ95.out; first | omega | exact Nat.le_refl _⟩, ⟨by (with_reducible repeat (first | apply Kd.V_alloc | apply Kd.V_drewN | apply Kd.V_drew)); exact Kd.V_mono HO_45.out (fun _ hk => trivial)⟩, ⟨by (with_reducible repeat (first | apply Kd.V_alloc | apply Kd.V_drewN | apply Kd.V_drew)); exact Kd.V_mono HO_46.out (fun _ hk => trivial)⟩, ⟨by (with_reducible repeat (first | apply Kd.V_alloc | apply Kd.V_drewN | apply Kd.V_drew)); exact Kd.V_mono HO_57.out (fun _ hk => trivial)⟩, ⟨by (with_reducible repeat (first | apply Kd.V_alloc | apply Kd.V_drewN | apply Kd.V_drew)); exact Kd.V_mono HO_58.out (fun _ hk => trivial)⟩, ⟨by repeat (first | (with_reducible first | exact HB.out | apply below_alloc | apply pw_below_drewN | apply below_drew1) | exact HB.out)⟩⟩
             clear HC111
             try clear c1
             try clear c2
             try clear p2
             try clear c3
             try clear c4
             try clear p4
             try clear q4
             try clear hx4
             try clear c6
             try clear p6
             try clear c8
             try clear c9
             try clear c10
             try clear c11
             try clear c12
             try clear c13
             try clear c15
             try clear c16
             try clear c16b0
             try clear c16b1
             try clear c16b2
             try clear c17
             try clear c17b0
             try clear c17b1
             try clear c18
             try clear c18b0
             try clear c18b1
             try clear c19
             try clear c19b0
             try clear c19b1
             try clear c19b2
             try clear c20
             try clear c20b0
             try clear c20b1
             try clear c20b2
             try clear c21
             try clear c21b0
             try clear c21b1
             try clear c21b2
             try clear c22
             try clear c22b0
             try clear c22b1
             try clear c23
             try clear c23b0
             try clear c23b1
             try clear c24
             try clear c24b0
             try clear c24b1
             try clear c25
             try clear c25b0
             try clear c25b1
             try clear c26
             try clear c27
             try clear c28
             try clear c29
             try clear c30
             try clear c31
             try clear c32
             try clear c33
             try clear c34
             try clear c35
             try clear c36
             try clear c38
             try clear c39
             try clear c40
             try clear c40b0
             try clear c40b1
             try clear p40
             try clear q40
             try clear hx40
             try clear c41
             try clear c43
             try clear c44
             try clear c44b0
             try clear c45
             try clear c45b0
             try clear c46
             try clear p64
             try clear c80
             try clear c80b0
             try clear c80b1
             try clear c80b2
             try clear c82
             try clear c83
             try clear c83b0
             try clear c83b1
             try clear c83b2
             try clear c84
             try clear c84b0
             try clear c84b1
             try clear c85
             try clear c85b0
             try clear c85b1
             try clear c86
             try clear c86b0
             try clear c86b1
             try clear c86b2
             try clear c87
             try clear c87b0
             try clear c87b1
             try clear c88
             try clear c88b0
             try clear c88b1
             try clear c89
             try clear c89b0
             try clear c89b1
             try clear c89b2
             try clear c90
             try clear c90b0
             try clear c90b1
             try clear c91
             try clear c91b0
             try clear c91b1
             try clear c91b2
             try clear c92
             try clear c92b0
             try clear c92b1
             try clear c92b2
             try clear c95
             try clear c97
             try clear c98
             try clear c98b0
             try clear c99
             try clear c99b0
             try clear c100
             try clear c100b0
             try clear c104
             try clear c107
             try clear c109
             try clear c112
             try clear c116
             try clear c117
             try clear c117b0
             try clear c117b1
             try clear c117b2
             try clear c119
             try clear c120
             try clear c120b0
             try clear c126
             try clear c127
             try clear c128
             try clear c128b0
             try clear c128b1
             try clear c128b2
             try clear c131
             try clear hx403_0
             try clear p2
             try clear p4
             try clear p40
             try clear p403
             try clear p6
             try clear p64
             try clear q4
             try clear q40
             try clear q403
             obtain ⟨kq, HA, HJ110, HO_45, HO_46, HO_57, HO_58, HB⟩ := hcut
             cases kq with
             | zero => exact absurd HA.out (by simp [laws_FnMirrorsSeen.j10])
             | succ kj110 =>
              as_aux_lemma =>
               have H := HA.out
               clear HA
               simp only [laws_FnMirrorsSeen.j10] at H
               have HC132 := Aside0.mk H
               clear H
               go_upto_if 523 with (fail)
               go_cut [523] from 523 to 523 (fun v523 wc => ∃ (kq : Nat), Aside0 (laws_FnMirrorsSeen.j13 kq t390 t393 t396 t397 t398 t399 = some r) ∧ Aside0 (kq ≤ kj110) ∧ Aside0 (Kd.V (Kd.int .i64) 3 wc w.heap.size (fun _ => True) (.slice Ao77 t390.length co77) t390) ∧ Aside0 (Kd.V (Kd.int .i64) 3 wc w.heap.size (fun _ => True) (.slice Ao78 t393.length co78) t393) ∧ Aside0 (Below w.heap.size w wc))
               case first =>
                as_aux_lemma =>
                 have H := HC132.out
                 clear HC132
                 by_cases c133 : t382 = true
                 · subst c133
                   rw [if_pos rfl] at H
                   replace H := Option.bind_eq_some_iff.mp H; obtain ⟨⟨t420, t421, t422⟩, A1340, H⟩ := H; (try dsimp only at H); have A134 := Aside0.mk A1340; clear A1340
                   by_cases c135 : 1 < (t374.length : Int)
                   · rw [if_pos c135] at H
                     have c135b0 : decide (1 < (t374.length : Int)) = true := decide_eq_true c135
                     have c135b1 : decide (1 < t374.length) = true := decide_eq_true (by omega)
                     clear c135
                     (first | rw [c135b0] | (simp only [i64_w, i32_w]; rw [c135b0]) | skip)
                     by_cases c136 : 1 < (t377.length : Int)
                     · rw [if_pos c136] at H
                       have c136b0 : decide (1 < (t377.length : Int)) = true := decide_eq_true c136
                       have c136b1 : decide (1 < t377.length) = true := decide_eq_true (by omega)
                       clear c136
                       have HC137 := Aside0.mk H
                       clear H
                       try go_wp2_with (first | ((with_reducible refine gate_callee (f := 29) rfl ?_); refine goesL_ (some 527) rfl rfl Try.func29 (by kernel_rfl) rfl #[.slice Ao73 t377.length co73, .slice Ao72 t374.length co72] rfl (by (try simp only [List.map_toArray, List.map_cons, List.map_nil]); first | done | rfl | (simp only [List.length_drop, List.length_take]; rfl)) ?_; (with_reducible refine (impl_LookedAt.calls kj110 (fun k_ => True) _ _ t377 (fun k_ => True) _ _ t374 t420 t421 t422 _ ?side1 ?side2 A134.out).mono ?_); (case side1 => exact HO_46.out); (case side2 => exact HO_45.out); rintro e w138 ⟨rfl, hb⟩; refine ⟨_, rfl, ?_⟩; have n0_ := Aside0.mk (Kd.V_below (by (with_reducible repeat (first | apply Kd.V_alloc | apply Kd.V_drewN | apply Kd.V_drew)); exact HO_45.out) hb); have n1_ := Aside0.mk (Kd.V_below (by (with_reducible repeat (first | apply Kd.V_alloc | apply Kd.V_drewN | apply Kd.V_drew)); exact HO_46.out) hb); have n2_ := Aside0.mk (Kd.V_below (by (with_reducible repeat (first | apply Kd.V_alloc | apply Kd.V_drewN | apply Kd.V_drew)); exact HO_57.out) hb); have n3_ := Aside0.mk (Kd.V_below (by (with_reducible repeat (first | apply Kd.V_alloc | apply Kd.V_drewN | apply Kd.V_drew)); exact HO_58.out) hb); have n4_ := Aside0.mk (below_step (by repeat (first | (with_reducible first | exact HB.out | apply below_alloc | apply pw_below_drewN | apply below_drew1) | exact HB.out)) hb); clear HO_45; clear HO_46; clear HO_57; clear HO_58; clear HB; have HO_45 := n0_; have HO_46 := n1_; have HO_57 := n2_; have HO_58 := n3_; have HB := n4_; clear n0_ n1_ n2_ n3_ n4_; (try clear hb); (try clear hb2); (try clear hk); (try clear hi)))
                       have n0_ := Aside0.mk (Kd.V_drew HO_45.out)
                       have n1_ := Aside0.mk (Kd.V_drew HO_46.out)
                       have n2_ := Aside0.mk (Kd.V_drew HO_57.out)
                       have n3_ := Aside0.mk (Kd.V_drew HO_58.out)
                       have n4_ := Aside0.mk (below_drew1 HB.out)
                       clear HO_45
                       clear HO_46
                       clear HO_57
                       clear HO_58
                       clear HB
                       have HO_45 := n0_
                       have HO_46 := n1_
                       have HO_57 := n2_
                       have HO_58 := n3_
                       have HB := n4_
                       clear n0_ n1_ n2_ n3_ n4_
                       have p423 : 0 ≤ (1 : Int) := (by omega)
                       have q423 : 1 < (t374.length : Int) := of_decide_eq_true (by first | (with_reducible assumption) | assumption)
                       obtain ⟨ad423, e423, hx423_0⟩ := Kd.at_int (Kd.V_reads' HO_45.out).2.2 1 p423 q423
                       cases e423
                       (try simp only [show (1 : Int).toNat = 1 from rfl, Nat.reduceMul, Nat.reduceEqDiff, Go.Addr.add, ↓reduceIte] at hx423_0)
                       have qi423 : (1 < t374.length) = True := eq_true (by omega)
                       (try rw [show ((1 : Int)).toNat = 1 from rfl] at hx423_0)
                       replace p423 := eq_true p423
                       replace q423 := eq_true q423
                       have p424 : 0 ≤ (1 : Int) := (by omega)
                       have q424 : 1 < (t377.length : Int) := of_decide_eq_true (by first | (with_reducible assumption) | assumption)
                       obtain ⟨ad424, e424, hx424_0⟩ := Kd.at_int (Kd.V_reads' HO_46.out).2.2 1 p424 q424
                       cases e424
                       (try simp only [show (1 : Int).toNat = 1 from rfl, Nat.reduceMul, Nat.reduceEqDiff, Go.Addr.add, ↓reduceIte] at hx424_0)
                       have qi424 : (1 < t377.length) = True := eq_true (by omega)
                       (try rw [show ((1 : Int)).toNat = 1 from rfl] at hx424_0)
                       replace p424 := eq_true p424
                       replace q424 := eq_true q424
                       refine start_ (n := 8) (S := fun w' => w'.cell? ⟨ad423.block, ad423.off + 1, none⟩ = some (.int .i64 (rd t374 1)) ∧ w'.cell? ⟨ad424.block, ad424.off + 1, none⟩ = some (.int .i64 (rd t377 1))) (ds := []) #[false, false, false, false, false, false, false, false] (by kernel_rfl) rfl rfl ⟨hx423_0, hx424_0⟩ (fun hHeld => ?_); refine with_tabW laws_FnMirrorsSeen.tab55 laws_FnMirrorsSeen.bits55 (fun HT_ HW_ => ?_)
                       generalize w138.drew = w139 at HO_45 HO_46 HO_57 HO_58 HB hx423_0 hx424_0 hHeld ⊢
                       refine pure_ (i := 0) (N := some 531) (v := ?_) (a' := ?_) #[true, false, false, false, false, false, false, false] rfl rfl (any_of HT_.out (by kernel_rfl)) (fun _ _ _ h => h) (Or.inl ⟨by rfl, ?_⟩) ?_ ?_
                       rotate_left
                       · intro w'
                         go_simp
                         with_reducible rfl
                       rotate_left
                       · simp only [Act.put, List.setIfInBounds_toArray, List.set_cons_zero, List.set_cons_succ, i64_w, i32_w]
                         rfl
                       refine pure_ (i := 1) (N := some 532) (v := ?_) (a' := ?_) #[true, true, false, false, false, false, false, false] rfl rfl (any_of HT_.out (by kernel_rfl)) (fun _ _ _ h => h) (Or.inl ⟨by rfl, ?_⟩) ?_ ?_
                       rotate_left
                       · intro w'
                         go_simp
                         with_reducible rfl
                       rotate_left
                       · simp only [Act.put, List.setIfInBounds_toArray, List.set_cons_zero, List.set_cons_succ, i64_w, i32_w]
                         rfl
                       refine pure_ (i := 3) (N := some 534) (v := ?_) (a' := ?_) #[true, true, false, true, false, false, false, false] rfl rfl (any_of HT_.out (by kernel_rfl)) (fun _ _ _ h => h) (Or.inl ⟨by rfl, ?_⟩) ?_ ?_
                       rotate_left
                       · intro w'
                         go_simp
                         with_reducible rfl
                       rotate_left
                       · simp only [Act.put, List.setIfInBounds_toArray, List.set_cons_zero, List.set_cons_succ, i64_w, i32_w]
                         rfl
                       refine pure_ (i := 4) (N := some 535) (v := ?_) (a' := ?_) #[true, true, false, true, true, false, false, false] rfl rfl (any_of HT_.out (by kernel_rfl)) (fun _ _ _ h => h) (Or.inl ⟨by rfl, ?_⟩) ?_ ?_
                       rotate_left
                       · intro w'
                         go_simp
                         with_reducible rfl
                       rotate_left
                       · simp only [Act.put, List.setIfInBounds_toArray, List.set_cons_zero, List.set_cons_succ, i64_w, i32_w]
                         rfl
                       refine take_ (i := 2) (N := some 533) (v := ?_) (a' := ?_) #[true, true, true, true, true, false, false, false] rfl rfl (take_ofW HT_.out HW_.out (by kernel_rfl)) (fun _ _ _ h => h) (Or.inl ⟨by rfl, ?_⟩) hHeld ?_ ?_
                       rotate_left
                       · rintro w' ⟨s0, s1⟩
                         go_simp
                         with_reducible rfl
                       rotate_left
                       · simp only [Act.put, List.setIfInBounds_toArray, List.set_cons_zero, List.set_cons_succ, i64_w, i32_w]
                         rfl
                       refine pure_ (i := 6) (N := some 78) (v := ?_) (a' := ?_) #[true, true, true, true, true, false, true, false] rfl rfl (any_of HT_.out (by kernel_rfl)) (fun _ _ _ h => h) (Or.inl ⟨by rfl, ?_⟩) ?_ ?_
                       rotate_left
                       · intro w'
                         go_simp
                         with_reducible rfl
                       rotate_left
                       · simp only [Act.put, List.setIfInBounds_toArray, List.set_cons_zero, List.set_cons_succ, i64_w, i32_w]
                         rfl
                       refine take_ (i := 5) (N := some 536) (v := ?_) (a' := ?_) #[true, true, true, true, true, true, true, false] rfl rfl (take_ofW HT_.out HW_.out (by kernel_rfl)) (fun _ _ _ h => h) (Or.inl ⟨by rfl, ?_⟩) hHeld ?_ ?_
                       rotate_left
                       · rintro w' ⟨s0, s1⟩
                         go_simp
                         with_reducible rfl
                       rotate_left
                       · simp only [Act.put, List.setIfInBounds_toArray, List.set_cons_zero, List.set_cons_succ, i64_w, i32_w]
                         rfl
                       refine pure_ (i := 7) (N := some 79) (v := ?_) (a' := ?_) #[true, true, true, true, true, true, true, true] rfl rfl (any_of HT_.out (by kernel_rfl)) (fun _ _ _ h => h) (Or.inl ⟨by rfl, ?_⟩) ?_ ?_
                       rotate_left
                       · intro w'
                         go_simp
                         with_reducible rfl
                       rotate_left
                       · simp only [Act.put, List.setIfInBounds_toArray, List.set_cons_zero, List.set_cons_succ, i64_w, i32_w]
                         rfl
                       refine done_ (done_of HT_.out (by kernel_rfl)) ?_
                       go_upto_if 539 with (fail)
                       go_cut [78, 79, 539] from 78 to 78 (fun v78 v79 v539 wc => ∃ (kq : Nat) (x78_136 : Int) (x79_136 : Int), v78 = .int .i64 x78_136 ∧ v79 = .int .i64 x79_136 ∧ Aside0 (laws_FnMirrorsSeen.j11 kq t374 t377 t380 t381 t386 t390 t393 t396 t397 t398 t399 t420 t421 t422 x78_136 x79_136 = some r) ∧ Aside0 (kq ≤ kj110) ∧ Aside0 (Kd.V (Kd.int .i64) 3 wc w.heap.size (fun _ => True) (.slice (some ad423) t374.length co72) t374) ∧ Aside0 (Kd.V (Kd.int .i64) 3 wc w.heap.size (fun _ => True) (.slice (some ad424) t377.length co73) t377) ∧ Aside0 (Kd.V (Kd.int .i64) 3 wc w.heap.size (fun _ => True) (.slice Ao77 t390.length co77) t390) ∧ Aside0 (Kd.V (Kd.int .i64) 3 wc w.heap.size (fun _ => True) (.slice Ao78 t393.length co78) t393) ∧ Aside0 (Below w.heap.size w wc))
                       case first =>
                        as_aux_lemma =>
                         have H := HC137.out
                         clear HC137
                         by_cases c140 : (rd t374 1) > (rd t377 1)
                         · rw [if_pos c140] at H
                           have c140b0 : decide ((rd t377 1) < (rd t374 1)) = true := decide_eq_true c140
                           clear c140
                           (first | rw [c140b0] | (simp only [i64_w, i32_w]; rw [c140b0]) | skip)
                           have H' := Aside0.mk H
                           clear H
                           go_wp2
                           go_meet
                           case rel => exact ⟨_, (rd t377 1), (rd t374 1), (by first | rfl | (simp; done) | (simp [*]; done)), (by first | rfl | (simp; done) | (simp [*]; done)), H', ⟨by have := HJ11.out; have := HJ29.out; have := HJ36.out; have := HJ41.out; have := HJ60.out; have := HJ95.out; have := HJ110.out; first | omega | exact Nat.le_refl _⟩, ⟨by (with_reducible repeat (first | apply Kd.V_alloc | apply Kd.V_drewN | apply Kd.V_drew)); exact HO_45.out⟩, ⟨by (with_reducible repeat (first | apply Kd.V_alloc | apply Kd.V_drewN | apply Kd.V_drew)); exact HO_46.out⟩, ⟨by (with_reducible repeat (first | apply Kd.V_alloc | apply Kd.V_drewN | apply Kd.V_drew)); exact HO_57.out⟩, ⟨by (with_reducible repeat (first | apply Kd.V_alloc | apply Kd.V_drewN | apply Kd.V_drew)); exact HO_58.out⟩, ⟨by repeat (first | (with_reducible first | exact HB.out | apply below_alloc | apply pw_below_drewN | apply below_drew1) | exact HB.out)⟩⟩
                         rw [if_neg c140] at H
                         have c140b0 : decide ((rd t377 1) < (rd t374 1)) = false := decide_eq_false c140
                         clear c140
                         (first | rw [c140b0] | (simp only [i64_w, i32_w]; rw [c140b0]) | skip)
                         have H' := Aside0.mk H
                         clear H
                         go_wp2
                         go_meet
                         case rel => exact ⟨_, (rd t374 1), (rd t377 1), (by first | rfl | (simp; done) | (simp [*]; done)), (by first | rfl | (simp; done) | (simp [*]; done)), H', ⟨by have := HJ11.out; have := HJ29.out; have := HJ36.out; have := HJ41.out; have := HJ60.out; have := HJ95.out; have := HJ110.out; first | omega | exact Nat.le_refl _⟩, ⟨by (with_reducible repeat (first | apply Kd.V_alloc | apply Kd.V_drewN | apply Kd.V_drew)); exact HO_45.out⟩, ⟨by (with_reducible repeat (first | apply Kd.V_alloc | apply Kd.V_drewN | apply Kd.V_drew)); exact HO_46.out⟩, ⟨by (with_reducible repeat (first | apply Kd.V_alloc | apply Kd.V_drewN | apply Kd.V_drew)); exact HO_57.out⟩, ⟨by (with_reducible repeat (first | apply Kd.V_alloc | apply Kd.V_drewN | apply Kd.V_drew)); exact HO_58.out⟩, ⟨by repeat (first | (with_reducible first | exact HB.out | apply below_alloc | apply pw_below_drewN | apply below_drew1) | exact HB.out)⟩⟩
                       clear HC137
                       try clear c1
                       try clear c2
                       try clear p2
                       try clear c3
                       try clear c4
                       try clear p4
                       try clear q4
                       try clear hx4
                       try clear qi4
                       try clear c6
                       try clear p6
                       try clear c8
                       try clear c9
                       try clear c10
                       try clear c11
                       try clear c12
                       try clear c13
                       try clear c14
                       try clear c15
                       try clear c16
                       try clear c16b0
                       try clear c16b1
                       try clear c16b2
                       try clear c17
                       try clear c17b0
                       try clear c17b1
                       try clear c18
                       try clear c18b0
                       try clear c18b1
                       try clear c19
                       try clear c19b0
                       try clear c19b1
                       try clear c19b2
                       try clear c20
                       try clear c20b0
                       try clear c20b1
                       try clear c20b2
                       try clear c21
                       try clear c21b0
                       try clear c21b1
                       try clear c21b2
                       try clear c22
                       try clear c22b0
                       try clear c22b1
                       try clear c23
                       try clear c23b0
                       try clear c23b1
                       try clear c24
                       try clear c24b0
                       try clear c24b1
                       try clear c25
                       try clear c25b0
                       try clear c25b1
                       try clear c26
                       try clear c27
                       try clear c28
                       try clear c29
                       try clear c30
                       try clear c31
                       try clear c32
                       try clear c33
                       try clear c34
                       try clear c35
                       try clear c36
                       try clear c38
                       try clear c39
                       try clear c40
                       try clear c40b0
                       try clear c40b1
                       try clear p40
                       try clear q40
                       try clear hx40
                       try clear c41
                       try clear p42
                       try clear q42
                       try clear hx42
                       try clear qi42
                       try clear c43
                       try clear c44
                       try clear c44b0
                       try clear c45
                       try clear c45b0
                       try clear c46
                       try clear p64
                       try clear c80
                       try clear c80b0
                       try clear c80b1
                       try clear c80b2
                       try clear c82
                       try clear c83
                       try clear c83b0
                       try clear c83b1
                       try clear c83b2
                       try clear c84
                       try clear c84b0
                       try clear c84b1
                       try clear c85
                       try clear c85b0
                       try clear c85b1
                       try clear c86
                       try clear c86b0
                       try clear c86b1
                       try clear c86b2
                       try clear c87
                       try clear c87b0
                       try clear c87b1
                       try clear c88
                       try clear c88b0
                       try clear c88b1
                       try clear c89
                       try clear c89b0
                       try clear c89b1
                       try clear c89b2
                       try clear c90
                       try clear c90b0
                       try clear c90b1
                       try clear c91
                       try clear c91b0
                       try clear c91b1
                       try clear c91b2
                       try clear c92
                       try clear c92b0
                       try clear c92b1
                       try clear c92b2
                       try clear c95
                       try clear c97
                       try clear c98
                       try clear c98b0
                       try clear c99
                       try clear c99b0
                       try clear c100
                       try clear c100b0
                       try clear c104
                       try clear c107
                       try clear c109
                       try clear c112
                       try clear c116
                       try clear c117
                       try clear c117b0
                       try clear c117b1
                       try clear c117b2
                       try clear c119
                       try clear c120
                       try clear c120b0
                       try clear c126
                       try clear c127
                       try clear c128
                       try clear c128b0
                       try clear c128b1
                       try clear c128b2
                       try clear c131
                       try clear c133
                       try clear c135
                       try clear c135b0
                       try clear c135b1
                       try clear c136
                       try clear c136b0
                       try clear c136b1
                       try clear c140
                       try clear c140b0
                       try clear hx403_0
                       try clear hx423_0
                       try clear hx424_0
                       try clear p2
                       try clear p4
                       try clear p40
                       try clear p403
                       try clear p423
                       try clear p424
                       try clear p6
                       try clear p64
                       try clear q4
                       try clear q40
                       try clear q403
                       try clear q423
                       try clear q424
                       obtain ⟨kq, x78_136, x79_136, rfl, rfl, HA, HJ136, HO_45, HO_46, HO_57, HO_58, HB⟩ := hcut
                       cases kq with
                       | zero => exact absurd HA.out (by simp [laws_FnMirrorsSeen.j11])
                       | succ kj136 =>
                        as_aux_lemma =>
                         have H := HA.out
                         clear HA
                         simp only [laws_FnMirrorsSeen.j11] at H
                         have HC141 := Aside0.mk H
                         clear H
                         go_upto_region 58 with (fail)
                         go_cut [592] from 592 to 592 (fun v592 wc => ∃ (kq : Nat) (x592_140 : Bool), v592 = .bool x592_140 ∧ Aside0 (laws_FnMirrorsSeen.j12 kq t390 t393 t396 t397 t398 t399 x592_140 = some r) ∧ Aside0 (kq ≤ kj136) ∧ Aside0 (Kd.V (Kd.int .i64) 3 wc w.heap.size (fun _ => True) (.slice Ao77 t390.length co77) t390) ∧ Aside0 (Kd.V (Kd.int .i64) 3 wc w.heap.size (fun _ => True) (.slice Ao78 t393.length co78) t393) ∧ Aside0 (Below w.heap.size w wc))
                         case first =>
                          as_aux_lemma =>
                           have H := HC141.out
                           clear HC141
                           replace H := Option.bind_eq_some_iff.mp H; obtain ⟨t425, A1420, H⟩ := H; (try dsimp only at H); have A142 := Aside0.mk A1420; clear A1420
                           by_cases c143 : t425 = true
                           · subst c143
                             rw [if_pos rfl] at H
                             by_cases c144 : t380 < (wrap64 (x78_136 * t381))
                             · rw [if_pos c144] at H
                               have c144b0 : decide (t380 < (wrap64 (x78_136 * t381))) = true := decide_eq_true c144
                               clear c144
                               (first | rw [c144b0] | (simp only [i64_w, i32_w]; rw [c144b0]) | skip)
                               cases kj136 with
                               | zero => exact absurd H (by simp [laws_FnMirrorsSeen.j12])
                               | succ kz_ =>
                                simp only [laws_FnMirrorsSeen.j12] at H
                                exact absurd (Option.some.inj (by first | exact H | (rw [if_pos rfl] at H; exact H) | (simpa using H) : (some false : Option Bool) = some r)) (by rw [HT_l.out]; decide)
                             rw [if_neg c144] at H
                             have c144b0 : decide (t380 < (wrap64 (x78_136 * t381))) = false := decide_eq_false c144
                             clear c144
                             (first | rw [c144b0] | (simp only [i64_w, i32_w]; rw [c144b0]) | skip)
                             by_cases c145 : t380 > (wrap64 (x79_136 * t381))
                             · rw [if_pos c145] at H
                               have c145b0 : decide ((wrap64 (x79_136 * t381)) < t380) = true := decide_eq_true c145
                               clear c145
                               cases kj136 with
                               | zero => exact absurd H (by simp [laws_FnMirrorsSeen.j12])
                               | succ kz_ =>
                                simp only [laws_FnMirrorsSeen.j12] at H
                                exact absurd (Option.some.inj (by first | exact H | (rw [if_pos rfl] at H; exact H) | (simpa using H) : (some false : Option Bool) = some r)) (by rw [HT_l.out]; decide)
                             rw [if_neg c145] at H
                             have c145b0 : decide ((wrap64 (x79_136 * t381)) < t380) = false := decide_eq_false c145
                             clear c145
                             by_cases c146 : t422 = true
                             · subst c146
                               rw [if_pos rfl] at H
                               by_cases c147 : t420 = t380
                               · rw [if_pos c147] at H
                                 have c147b0 : (t420 == t380) = true := beq_iff_eq.mpr c147
                                 have c147b1 : (t420 != t380) = false := bne_eq_false_iff_eq.mpr c147
                                 clear c147
                                 by_cases c148 : t421 = t381
                                 · rw [if_pos c148] at H
                                   have c148b0 : (t421 == t381) = true := beq_iff_eq.mpr c148
                                   have c148b1 : (t421 != t381) = false := bne_eq_false_iff_eq.mpr c148
                                   clear c148
                                   by_cases c149 : 0 < (t374.length : Int)
                                   · rw [if_pos c149] at H
                                     have c149b0 : decide (0 < (t374.length : Int)) = true := decide_eq_true c149
                                     have c149b1 : decide (0 < t374.length) = true := decide_eq_true (by omega)
                                     clear c149
                                     by_cases c150 : 0 < (t377.length : Int)
                                     · rw [if_pos c150] at H
                                       have c150b0 : decide (0 < (t377.length : Int)) = true := decide_eq_true c150
                                       have c150b1 : decide (0 < t377.length) = true := decide_eq_true (by omega)
                                       clear c150
                                       have H' := Aside0.mk H
                                       clear H
                                       try go_wp2
                                       have n0_ := Aside0.mk (Kd.V_drew HO_45.out)
                                       have n1_ := Aside0.mk (Kd.V_drew HO_46.out)
                                       have n2_ := Aside0.mk (Kd.V_drew HO_57.out)
                                       have n3_ := Aside0.mk (Kd.V_drew HO_58.out)
                                       have n4_ := Aside0.mk (below_drew1 HB.out)
                                       clear HO_45
                                       clear HO_46
                                       clear HO_57
                                       clear HO_58
                                       clear HB
                                       have HO_45 := n0_
                                       have HO_46 := n1_
                                       have HO_57 := n2_
                                       have HO_58 := n3_
                                       have HB := n4_
                                       clear n0_ n1_ n2_ n3_ n4_
                                       have p426 : 0 ≤ (0 : Int) := (by omega)
                                       have q426 : 0 < (t374.length : Int) := of_decide_eq_true (by first | (with_reducible assumption) | assumption)
                                       obtain ⟨ad426, e426, hx426_0⟩ := Kd.at_int (Kd.V_reads' HO_45.out).2.2 0 p426 q426
                                       obtain rfl : ad423 = ad426 := (by injection e426)
                                       have qi426 : (0 < t374.length) = True := eq_true (by omega)
                                       (try rw [show ((0 : Int)).toNat = 0 from rfl] at hx426_0)
                                       (try rw [Addr.add_zero'] at hx426_0)
                                       replace p426 := eq_true p426
                                       replace q426 := eq_true q426
                                       have p427 : 0 ≤ (0 : Int) := (by omega)
                                       have q427 : 0 < (t377.length : Int) := of_decide_eq_true (by first | (with_reducible assumption) | assumption)
                                       obtain ⟨ad427, e427, hx427_0⟩ := Kd.at_int (Kd.V_reads' HO_46.out).2.2 0 p427 q427
                                       obtain rfl : ad424 = ad427 := (by injection e427)
                                       have qi427 : (0 < t377.length) = True := eq_true (by omega)
                                       (try rw [show ((0 : Int)).toNat = 0 from rfl] at hx427_0)
                                       (try rw [Addr.add_zero'] at hx427_0)
                                       replace p427 := eq_true p427
                                       replace q427 := eq_true q427
                                       have p428 : 0 ≤ (0 : Int) := (by omega)
                                       have q428 : 0 < (t374.length : Int) := of_decide_eq_true (by first | (with_reducible assumption) | assumption)
                                       obtain ⟨ad428, e428, hx428_0⟩ := Kd.at_int (Kd.V_reads' HO_45.out).2.2 0 p428 q428
                                       obtain rfl : ad423 = ad428 := (by injection e428)
                                       have qi428 : (0 < t374.length) = True := eq_true (by omega)
                                       (try rw [show ((0 : Int)).toNat = 0 from rfl] at hx428_0)
                                       (try rw [Addr.add_zero'] at hx428_0)
                                       replace p428 := eq_true p428
                                       replace q428 := eq_true q428
                                       have p429 : 0 ≤ (0 : Int) := (by omega)
                                       have q429 : 0 < (t377.length : Int) := of_decide_eq_true (by first | (with_reducible assumption) | assumption)
                                       obtain ⟨ad429, e429, hx429_0⟩ := Kd.at_int (Kd.V_reads' HO_46.out).2.2 0 p429 q429
                                       obtain rfl : ad424 = ad429 := (by injection e429)
                                       have qi429 : (0 < t377.length) = True := eq_true (by omega)
                                       (try rw [show ((0 : Int)).toNat = 0 from rfl] at hx429_0)
                                       (try rw [Addr.add_zero'] at hx429_0)
                                       replace p429 := eq_true p429
                                       replace q429 := eq_true q429
                                       refine start_ (n := 51) (S := fun w' => w'.cell? ad423 = some (.int .i64 (rd t374 0)) ∧ w'.cell? ad424 = some (.int .i64 (rd t377 0)) ∧ w'.cell? ad423 = some (.int .i64 (rd t374 0)) ∧ w'.cell? ad424 = some (.int .i64 (rd t377 0))) (ds := []) #[false, false, false, false, false, false, false, false, false, false, false, false, false, false, false, false, false, false, false, false, false, false, false, false, false, false, false, false, false, false, false, false, false, false, false, false, false, false, false, false, false, false, false, false, false, false, false, false, false, false, false] (by kernel_rfl) rfl rfl ⟨hx426_0, hx427_0, hx428_0, hx429_0⟩ (fun hHeld => ?_); refine with_tabW laws_FnMirrorsSeen.tab58 laws_FnMirrorsSeen.bits58 (fun HT_ HW_ => ?_)
                                       generalize wc.drew = w151 at HO_45 HO_46 HO_57 HO_58 HB hx426_0 hx427_0 hx428_0 hx429_0 hHeld ⊢
                                       refine pure_ (i := 0) (N := some 542) (v := ?_) (a' := ?_) #[true, false, false, false, false, false, false, false, false, false, false, false, false, false, false, false, false, false, false, false, false, false, false, false, false, false, false, false, false, false, false, false, false, false, false, false, false, false, false, false, false, false, false, false, false, false, false, false, false, false, false] rfl rfl (any_of HT_.out (by kernel_rfl)) (fun _ _ _ h => h) (Or.inl ⟨by rfl, ?_⟩) ?_ ?_
                                       rotate_left
                                       · intro w'
                                         go_simp
                                         with_reducible rfl
                                       rotate_left
                                       · simp only [Act.put, List.setIfInBounds_toArray, List.set_cons_zero, List.set_cons_succ, i64_w, i32_w]
                                         rfl
                                       refine pure_ (i := 1) (N := some 543) (v := ?_) (a' := ?_) #[true, true, false, false, false, false, false, false, false, false, false, false, false, false, false, false, false, false, false, false, false, false, false, false, false, false, false, false, false, false, false, false, false, false, false, false, false, false, false, false, false, false, false, false, false, false, false, false, false, false, false] rfl rfl (any_of HT_.out (by kernel_rfl)) (fun _ _ _ h => h) (Or.inl ⟨by rfl, ?_⟩) ?_ ?_
                                       rotate_left
                                       · intro w'
                                         go_simp
                                         with_reducible rfl
                                       rotate_left
                                       · simp only [Act.put, List.setIfInBounds_toArray, List.set_cons_zero, List.set_cons_succ, i64_w, i32_w]
                                         rfl
                                       refine one_ (i := 2) (N := some 544) #[true, true, true, false, false, false, false, false, false, false, false, false, false, false, false, false, false, false, false, false, false, false, false, false, false, false, false, false, false, false, false, false, false, false, false, false, false, false, false, false, false, false, false, false, false, false, false, false, false, false, false] rfl rfl (one_of HT_.out (by kernel_rfl)) (by decide) (fun K hK => ?_)
                                       refine goes_ Try.func39 (by kernel_rfl) rfl #[.int .i64 t380, .int .i64 t381] (by rfl) rfl rfl (by (try simp only [List.map_toArray, List.map_cons, List.map_nil]); first | done | rfl | (simp only [List.length_drop, List.length_take]; rfl)) ?_
                                       with_reducible refine (laws_yLow.calls kj136 t380 t381 true _ A142.out).mono ?_
                                       rintro e w' ⟨rfl, ⟨nd, rfl⟩⟩
                                       refine ⟨_, rfl, ?_⟩
                                       refine hK.out _ _ ⟨hHeld.1, hHeld.2.1, hHeld.2.2.1, hHeld.2.2.2⟩ (fun hHeld => ?_)
                                       clear hK K
                                       refine norm_ (a' := ?_) ?_ ?_
                                       rotate_left
                                       · show Act.put _ (some 544) _ = _
                                         simp only [Act.put, List.setIfInBounds_toArray, List.set_cons_zero, List.set_cons_succ, i64_w, i32_w]
                                         rfl
                                       refine pure_ (i := 3) (N := some 545) (v := ?_) (a' := ?_) #[true, true, true, true, false, false, false, false, false, false, false, false, false, false, false, false, false, false, false, false, false, false, false, false, false, false, false, false, false, false, false, false, false, false, false, false, false, false, false, false, false, false, false, false, false, false, false, false, false, false, false] rfl rfl (any_of HT_.out (by kernel_rfl)) (fun _ _ _ h => h) (Or.inl ⟨by rfl, ?_⟩) ?_ ?_
                                       rotate_left
                                       · intro w'
                                         go_simp
                                         with_reducible rfl
                                       rotate_left
                                       · simp only [Act.put, List.setIfInBounds_toArray, List.set_cons_zero, List.set_cons_succ, i64_w, i32_w]
                                         rfl
                                       refine pure_ (i := 4) (N := some 546) (v := ?_) (a' := ?_) #[true, true, true, true, true, false, false, false, false, false, false, false, false, false, false, false, false, false, false, false, false, false, false, false, false, false, false, false, false, false, false, false, false, false, false, false, false, false, false, false, false, false, false, false, false, false, false, false, false, false, false] rfl rfl (any_of HT_.out (by kernel_rfl)) (fun _ _ _ h => h) (Or.inl ⟨by rfl, ?_⟩) ?_ ?_
                                       rotate_left
                                       · intro w'
                                         go_simp
                                         with_reducible rfl
                                       rotate_left
                                       · simp only [Act.put, List.setIfInBounds_toArray, List.set_cons_zero, List.set_cons_succ, i64_w, i32_w]
                                         rfl
                                       refine pure_ (i := 5) (N := some 547) (v := ?_) (a' := ?_) #[true, true, true, true, true, true, false, false, false, false, false, false, false, false, false, false, false, false, false, false, false, false, false, false, false, false, false, false, false, false, false, false, false, false, false, false, false, false, false, false, false, false, false, false, false, false, false, false, false, false, false] rfl rfl (any_of HT_.out (by kernel_rfl)) (fun _ _ _ h => h) (Or.inl ⟨by rfl, ?_⟩) ?_ ?_
                                       rotate_left
                                       · intro w'
                                         go_simp
                                         with_reducible rfl
                                       rotate_left
                                       · simp only [Act.put, List.setIfInBounds_toArray, List.set_cons_zero, List.set_cons_succ, i64_w, i32_w]
                                         rfl
                                       refine pure_ (i := 6) (N := some 548) (v := ?_) (a' := ?_) #[true, true, true, true, true, true, true, false, false, false, false, false, false, false, false, false, false, false, false, false, false, false, false, false, false, false, false, false, false, false, false, false, false, false, false, false, false, false, false, false, false, false, false, false, false, false, false, false, false, false, false] rfl rfl (any_of HT_.out (by kernel_rfl)) (fun _ _ _ h => h) (Or.inl ⟨by rfl, ?_⟩) ?_ ?_
                                       rotate_left
                                       · intro w'
                                         go_simp
                                         with_reducible rfl
                                       rotate_left
                                       · simp only [Act.put, List.setIfInBounds_toArray, List.set_cons_zero, List.set_cons_succ, i64_w, i32_w]
                                         rfl
                                       refine pure_ (i := 7) (N := some 549) (v := ?_) (a' := ?_) #[true, true, true, true, true, true, true, true, false, false, false, false, false, false, false, false, false, false, false, false, false, false, false, false, false, false, false, false, false, false, false, false, false, false, false, false, false, false, false, false, false, false, false, false, false, false, false, false, false, false, false] rfl rfl (any_of HT_.out (by kernel_rfl)) (fun _ _ _ h => h) (Or.inl ⟨by rfl, ?_⟩) ?_ ?_
                                       rotate_left
                                       · intro w'
                                         go_simp
                                         with_reducible rfl
                                       rotate_left
                                       · simp only [Act.put, List.setIfInBounds_toArray, List.set_cons_zero, List.set_cons_succ, i64_w, i32_w]
                                         rfl
                                       refine pure_ (i := 8) (N := some 550) (v := ?_) (a' := ?_) #[true, true, true, true, true, true, true, true, true, false, false, false, false, false, false, false, false, false, false, false, false, false, false, false, false, false, false, false, false, false, false, false, false, false, false, false, false, false, false, false, false, false, false, false, false, false, false, false, false, false, false] rfl rfl (any_of HT_.out (by kernel_rfl)) (fun _ _ _ h => h) (Or.inl ⟨by rfl, ?_⟩) ?_ ?_
                                       rotate_left
                                       · intro w'
                                         go_simp
                                         with_reducible rfl
                                       rotate_left
                                       · simp only [Act.put, List.setIfInBounds_toArray, List.set_cons_zero, List.set_cons_succ, i64_w, i32_w]
                                         rfl
                                       refine pure_ (i := 9) (N := some 551) (v := ?_) (a' := ?_) #[true, true, true, true, true, true, true, true, true, true, false, false, false, false, false, false, false, false, false, false, false, false, false, false, false, false, false, false, false, false, false, false, false, false, false, false, false, false, false, false, false, false, false, false, false, false, false, false, false, false, false] rfl rfl (any_of HT_.out (by kernel_rfl)) (fun _ _ _ h => h) (Or.inl ⟨by rfl, ?_⟩) ?_ ?_
                                       rotate_left
                                       · intro w'
                                         go_simp
                                         with_reducible rfl
                                       rotate_left
                                       · simp only [Act.put, List.setIfInBounds_toArray, List.set_cons_zero, List.set_cons_succ, i64_w, i32_w]
                                         rfl
                                       refine pure_ (i := 10) (N := some 552) (v := ?_) (a' := ?_) #[true, true, true, true, true, true, true, true, true, true, true, false, false, false, false, false, false, false, false, false, false, false, false, false, false, false, false, false, false, false, false, false, false, false, false, false, false, false, false, false, false, false, false, false, false, false, false, false, false, false, false] rfl rfl (any_of HT_.out (by kernel_rfl)) (fun _ _ _ h => h) (Or.inl ⟨by rfl, ?_⟩) ?_ ?_
                                       rotate_left
                                       · intro w'
                                         go_simp
                                         with_reducible rfl
                                       rotate_left
                                       · simp only [Act.put, List.setIfInBounds_toArray, List.set_cons_zero, List.set_cons_succ, i64_w, i32_w]
                                         rfl
                                       refine pure_ (i := 11) (N := some 553) (v := ?_) (a' := ?_) #[true, true, true, true, true, true, true, true, true, true, true, true, false, false, false, false, false, false, false, false, false, false, false, false, false, false, false, false, false, false, false, false, false, false, false, false, false, false, false, false, false, false, false, false, false, false, false, false, false, false, false] rfl rfl (any_of HT_.out (by kernel_rfl)) (fun _ _ _ h => h) (Or.inl ⟨by rfl, ?_⟩) ?_ ?_
                                       rotate_left
                                       · intro w'
                                         go_simp
                                         with_reducible rfl
                                       rotate_left
                                       · simp only [Act.put, List.setIfInBounds_toArray, List.set_cons_zero, List.set_cons_succ, i64_w, i32_w]
                                         rfl
                                       refine pure_ (i := 12) (N := some 554) (v := ?_) (a' := ?_) #[true, true, true, true, true, true, true, true, true, true, true, true, true, false, false, false, false, false, false, false, false, false, false, false, false, false, false, false, false, false, false, false, false, false, false, false, false, false, false, false, false, false, false, false, false, false, false, false, false, false, false] rfl rfl (any_of HT_.out (by kernel_rfl)) (fun _ _ _ h => h) (Or.inl ⟨by rfl, ?_⟩) ?_ ?_
                                       rotate_left
                                       · intro w'
                                         go_simp
                                         with_reducible rfl
                                       rotate_left
                                       · simp only [Act.put, List.setIfInBounds_toArray, List.set_cons_zero, List.set_cons_succ, i64_w, i32_w]
                                         rfl
                                       refine pure_ (i := 13) (N := some 555) (v := ?_) (a' := ?_) #[true, true, true, true, true, true, true, true, true, true, true, true, true, true, false, false, false, false, false, false, false, false, false, false, false, false, false, false, false, false, false, false, false, false, false, false, false, false, false, false, false, false, false, false, false, false, false, false, false, false, false] rfl rfl (any_of HT_.out (by kernel_rfl)) (fun _ _ _ h => h) (Or.inl ⟨by rfl, ?_⟩) ?_ ?_
                                       rotate_left
                                       · intro w'
                                         go_simp
                                         with_reducible rfl
                                       rotate_left
                                       · simp only [Act.put, List.setIfInBounds_toArray, List.set_cons_zero, List.set_cons_succ, i64_w, i32_w]
                                         rfl
                                       refine pure_ (i := 14) (N := some 556) (v := ?_) (a' := ?_) #[true, true, true, true, true, true, true, true, true, true, true, true, true, true, true, false, false, false, false, false, false, false, false, false, false, false, false, false, false, false, false, false, false, false, false, false, false, false, false, false, false, false, false, false, false, false, false, false, false, false, false] rfl rfl (any_of HT_.out (by kernel_rfl)) (fun _ _ _ h => h) (Or.inl ⟨by rfl, ?_⟩) ?_ ?_
                                       rotate_left
                                       · intro w'
                                         go_simp
                                         with_reducible rfl
                                       rotate_left
                                       · simp only [Act.put, List.setIfInBounds_toArray, List.set_cons_zero, List.set_cons_succ, i64_w, i32_w]
                                         rfl
                                       refine pure_ (i := 15) (N := some 557) (v := ?_) (a' := ?_) #[true, true, true, true, true, true, true, true, true, true, true, true, true, true, true, true, false, false, false, false, false, false, false, false, false, false, false, false, false, false, false, false, false, false, false, false, false, false, false, false, false, false, false, false, false, false, false, false, false, false, false] rfl rfl (any_of HT_.out (by kernel_rfl)) (fun _ _ _ h => h) (Or.inl ⟨by rfl, ?_⟩) ?_ ?_
                                       rotate_left
                                       · intro w'
                                         go_simp
                                         with_reducible rfl
                                       rotate_left
                                       · simp only [Act.put, List.setIfInBounds_toArray, List.set_cons_zero, List.set_cons_succ, i64_w, i32_w]
                                         rfl
                                       refine pure_ (i := 16) (N := some 558) (v := ?_) (a' := ?_) #[true, true, true, true, true, true, true, true, true, true, true, true, true, true, true, true, true, false, false, false, false, false, false, false, false, false, false, false, false, false, false, false, false, false, false, false, false, false, false, false, false, false, false, false, false, false, false, false, false, false, false] rfl rfl (any_of HT_.out (by kernel_rfl)) (fun _ _ _ h => h) (Or.inl ⟨by rfl, ?_⟩) ?_ ?_
                                       rotate_left
                                       · intro w'
                                         go_simp
                                         with_reducible rfl
                                       rotate_left
                                       · simp only [Act.put, List.setIfInBounds_toArray, List.set_cons_zero, List.set_cons_succ, i64_w, i32_w]
                                         rfl
                                       refine pure_ (i := 17) (N := some 559) (v := ?_) (a' := ?_) #[true, true, true, true, true, true, true, true, true, true, true, true, true, true, true, true, true, true, false, false, false, false, false, false, false, false, false, false, false, false, false, false, false, false, false, false, false, false, false, false, false, false, false, false, false, false, false, false, false, false, false] rfl rfl (any_of HT_.out (by kernel_rfl)) (fun _ _ _ h => h) (Or.inl ⟨by rfl, ?_⟩) ?_ ?_
                                       rotate_left
                                       · intro w'
                                         go_simp
                                         with_reducible rfl
                                       rotate_left
                                       · simp only [Act.put, List.setIfInBounds_toArray, List.set_cons_zero, List.set_cons_succ, i64_w, i32_w]
                                         rfl
                                       refine pure_ (i := 18) (N := some 560) (v := ?_) (a' := ?_) #[true, true, true, true, true, true, true, true, true, true, true, true, true, true, true, true, true, true, true, false, false, false, false, false, false, false, false, false, false, false, false, false, false, false, false, false, false, false, false, false, false, false, false, false, false, false, false, false, false, false, false] rfl rfl (any_of HT_.out (by kernel_rfl)) (fun _ _ _ h => h) (Or.inl ⟨by rfl, ?_⟩) ?_ ?_
                                       rotate_left
                                       · intro w'
                                         go_simp
                                         with_reducible rfl
                                       rotate_left
                                       · simp only [Act.put, List.setIfInBounds_toArray, List.set_cons_zero, List.set_cons_succ, i64_w, i32_w]
                                         rfl
                                       refine pure_ (i := 19) (N := some 561) (v := ?_) (a' := ?_) #[true, true, true, true, true, true, true, true, true, true, true, true, true, true, true, true, true, true, true, true, false, false, false, false, false, false, false, false, false, false, false, false, false, false, false, false, false, false, false, false, false, false, false, false, false, false, false, false, false, false, false] rfl rfl (any_of HT_.out (by kernel_rfl)) (fun _ _ _ h => h) (Or.inl ⟨by rfl, ?_⟩) ?_ ?_
                                       rotate_left
                                       · intro w'
                                         go_simp
                                         with_reducible rfl
                                       rotate_left
                                       · simp only [Act.put, List.setIfInBounds_toArray, List.set_cons_zero, List.set_cons_succ, i64_w, i32_w]
                                         rfl
                                       refine pure_ (i := 20) (N := some 562) (v := ?_) (a' := ?_) #[true, true, true, true, true, true, true, true, true, true, true, true, true, true, true, true, true, true, true, true, true, false, false, false, false, false, false, false, false, false, false, false, false, false, false, false, false, false, false, false, false, false, false, false, false, false, false, false, false, false, false] rfl rfl (any_of HT_.out (by kernel_rfl)) (fun _ _ _ h => h) (Or.inl ⟨by rfl, ?_⟩) ?_ ?_
                                       rotate_left
                                       · intro w'
                                         go_simp
                                         with_reducible rfl
                                       rotate_left
                                       · simp only [Act.put, List.setIfInBounds_toArray, List.set_cons_zero, List.set_cons_succ, i64_w, i32_w]
                                         rfl
                                       refine pure_ (i := 21) (N := some 563) (v := ?_) (a' := ?_) #[true, true, true, true, true, true, true, true, true, true, true, true, true, true, true, true, true, true, true, true, true, true, false, false, false, false, false, false, false, false, false, false, false, false, false, false, false, false, false, false, false, false, false, false, false, false, false, false, false, false, false] rfl rfl (any_of HT_.out (by kernel_rfl)) (fun _ _ _ h => h) (Or.inl ⟨by rfl, ?_⟩) ?_ ?_
                                       rotate_left
                                       · intro w'
                                         go_simp
                                         with_reducible rfl
                                       rotate_left
                                       · simp only [Act.put, List.setIfInBounds_toArray, List.set_cons_zero, List.set_cons_succ, i64_w, i32_w]
                                         rfl
                                       refine pure_ (i := 22) (N := some 564) (v := ?_) (a' := ?_) #[true, true, true, true, true, true, true, true, true, true, true, true, true, true, true, true, true, true, true, true, true, true, true, false, false, false, false, false, false, false, false, false, false, false, false, false, false, false, false, false, false, false, false, false, false, false, false, false, false, false, false] rfl rfl (any_of HT_.out (by kernel_rfl)) (fun _ _ _ h => h) (Or.inl ⟨by rfl, ?_⟩) ?_ ?_
                                       rotate_left
                                       · intro w'
                                         go_simp
                                         with_reducible rfl
                                       rotate_left
                                       · simp only [Act.put, List.setIfInBounds_toArray, List.set_cons_zero, List.set_cons_succ, i64_w, i32_w]
                                         rfl
                                       refine pure_ (i := 23) (N := some 565) (v := ?_) (a' := ?_) #[true, true, true, true, true, true, true, true, true, true, true, true, true, true, true, true, true, true, true, true, true, true, true, true, false, false, false, false, false, false, false, false, false, false, false, false, false, false, false, false, false, false, false, false, false, false, false, false, false, false, false] rfl rfl (any_of HT_.out (by kernel_rfl)) (fun _ _ _ h => h) (Or.inl ⟨by rfl, ?_⟩) ?_ ?_
                                       rotate_left
                                       · intro w'
                                         go_simp
                                         with_reducible rfl
                                       rotate_left
                                       · simp only [Act.put, List.setIfInBounds_toArray, List.set_cons_zero, List.set_cons_succ, i64_w, i32_w]
                                         rfl
                                       refine pure_ (i := 24) (N := some 566) (v := ?_) (a' := ?_) #[true, true, true, true, true, true, true, true, true, true, true, true, true, true, true, true, true, true, true, true, true, true, true, true, true, false, false, false, false, false, false, false, false, false, false, false, false, false, false, false, false, false, false, false, false, false, false, false, false, false, false] rfl rfl (any_of HT_.out (by kernel_rfl)) (fun _ _ _ h => h) (Or.inl ⟨by rfl, ?_⟩) ?_ ?_
                                       rotate_left
                                       · intro w'
                                         go_simp
                                         with_reducible rfl
                                       rotate_left
                                       · simp only [Act.put, List.setIfInBounds_toArray, List.set_cons_zero, List.set_cons_succ, i64_w, i32_w]
                                         rfl
                                       refine pure_ (i := 25) (N := some 567) (v := ?_) (a' := ?_) #[true, true, true, true, true, true, true, true, true, true, true, true, true, true, true, true, true, true, true, true, true, true, true, true, true, true, false, false, false, false, false, false, false, false, false, false, false, false, false, false, false, false, false, false, false, false, false, false, false, false, false] rfl rfl (any_of HT_.out (by kernel_rfl)) (fun _ _ _ h => h) (Or.inl ⟨by rfl, ?_⟩) ?_ ?_
                                       rotate_left
                                       · intro w'
                                         go_simp
                                         with_reducible rfl
                                       rotate_left
                                       · simp only [Act.put, List.setIfInBounds_toArray, List.set_cons_zero, List.set_cons_succ, i64_w, i32_w]
                                         rfl
                                       refine pure_ (i := 26) (N := some 568) (v := ?_) (a' := ?_) #[true, true, true, true, true, true, true, true, true, true, true, true, true, true, true, true, true, true, true, true, true, true, true, true, true, true, true, false, false, false, false, false, false, false, false, false, false, false, false, false, false, false, false, false, false, false, false, false, false, false, false] rfl rfl (any_of HT_.out (by kernel_rfl)) (fun _ _ _ h => h) (Or.inl ⟨by rfl, ?_⟩) ?_ ?_
                                       rotate_left
                                       · intro w'
                                         go_simp
                                         with_reducible rfl
                                       rotate_left
                                       · simp only [Act.put, List.setIfInBounds_toArray, List.set_cons_zero, List.set_cons_succ, i64_w, i32_w]
                                         rfl
                                       refine pure_ (i := 27) (N := some 569) (v := ?_) (a' := ?_) #[true, true, true, true, true, true, true, true, true, true, true, true, true, true, true, true, true, true, true, true, true, true, true, true, true, true, true, true, false, false, false, false, false, false, false, false, false, false, false, false, false, false, false, false, false, false, false, false, false, false, false] rfl rfl (any_of HT_.out (by kernel_rfl)) (fun _ _ _ h => h) (Or.inl ⟨by rfl, ?_⟩) ?_ ?_
                                       rotate_left
                                       · intro w'
                                         go_simp
                                         with_reducible rfl
                                       rotate_left
                                       · simp only [Act.put, List.setIfInBounds_toArray, List.set_cons_zero, List.set_cons_succ, i64_w, i32_w]
                                         rfl
                                       refine pure_ (i := 28) (N := some 570) (v := ?_) (a' := ?_) #[true, true, true, true, true, true, true, true, true, true, true, true, true, true, true, true, true, true, true, true, true, true, true, true, true, true, true, true, true, false, false, false, false, false, false, false, false, false, false, false, false, false, false, false, false, false, false, false, false, false, false] rfl rfl (any_of HT_.out (by kernel_rfl)) (fun _ _ _ h => h) (Or.inl ⟨by rfl, ?_⟩) ?_ ?_
                                       rotate_left
                                       · intro w'
                                         go_simp
                                         with_reducible rfl
                                       rotate_left
                                       · simp only [Act.put, List.setIfInBounds_toArray, List.set_cons_zero, List.set_cons_succ, i64_w, i32_w]
                                         rfl
                                       refine pure_ (i := 29) (N := some 571) (v := ?_) (a' := ?_) #[true, true, true, true, true, true, true, true, true, true, true, true, true, true, true, true, true, true, true, true, true, true, true, true, true, true, true, true, true, true, false, false, false, false, false, false, false, false, false, false, false, false, false, false, false, false, false, false, false, false, false] rfl rfl (any_of HT_.out (by kernel_rfl)) (fun _ _ _ h => h) (Or.inl ⟨by rfl, ?_⟩) ?_ ?_
                                       rotate_left
                                       · intro w'
                                         go_simp
                                         with_reducible rfl
                                       rotate_left
                                       · simp only [Act.put, List.setIfInBounds_toArray, List.set_cons_zero, List.set_cons_succ, i64_w, i32_w]
                                         rfl
                                       refine pure_ (i := 30) (N := some 572) (v := ?_) (a' := ?_) #[true, true, true, true, true, true, true, true, true, true, true, true, true, true, true, true, true, true, true, true, true, true, true, true, true, true, true, true, true, true, true, false, false, false, false, false, false, false, false, false, false, false, false, false, false, false, false, false, false, false, false] rfl rfl (any_of HT_.out (by kernel_rfl)) (fun _ _ _ h => h) (Or.inl ⟨by rfl, ?_⟩) ?_ ?_
                                       rotate_left
                                       · intro w'
                                         go_simp
                                         with_reducible rfl
                                       rotate_left
                                       · simp only [Act.put, List.setIfInBounds_toArray, List.set_cons_zero, List.set_cons_succ, i64_w, i32_w]
                                         rfl
                                       refine pure_ (i := 31) (N := some 573) (v := ?_) (a' := ?_) #[true, true, true, true, true, true, true, true, true, true, true, true, true, true, true, true, true, true, true, true, true, true, true, true, true, true, true, true, true, true, true, true, false, false, false, false, false, false, false, false, false, false, false, false, false, false, false, false, false, false, false] rfl rfl (any_of HT_.out (by kernel_rfl)) (fun _ _ _ h => h) (Or.inl ⟨by rfl, ?_⟩) ?_ ?_
                                       rotate_left
                                       · intro w'
                                         go_simp
                                         with_reducible rfl
                                       rotate_left
                                       · simp only [Act.put, List.setIfInBounds_toArray, List.set_cons_zero, List.set_cons_succ, i64_w, i32_w]
                                         rfl
                                       refine pure_ (i := 32) (N := some 574) (v := ?_) (a' := ?_) #[true, true, true, true, true, true, true, true, true, true, true, true, true, true, true, true, true, true, true, true, true, true, true, true, true, true, true, true, true, true, true, true, true, false, false, false, false, false, false, false, false, false, false, false, false, false, false, false, false, false, false] rfl rfl (any_of HT_.out (by kernel_rfl)) (fun _ _ _ h => h) (Or.inl ⟨by rfl, ?_⟩) ?_ ?_
                                       rotate_left
                                       · intro w'
                                         go_simp
                                         with_reducible rfl
                                       rotate_left
                                       · simp only [Act.put, List.setIfInBounds_toArray, List.set_cons_zero, List.set_cons_succ, i64_w, i32_w]
                                         rfl
                                       refine pure_ (i := 33) (N := some 575) (v := ?_) (a' := ?_) #[true, true, true, true, true, true, true, true, true, true, true, true, true, true, true, true, true, true, true, true, true, true, true, true, true, true, true, true, true, true, true, true, true, true, false, false, false, false, false, false, false, false, false, false, false, false, false, false, false, false, false] rfl rfl (any_of HT_.out (by kernel_rfl)) (fun _ _ _ h => h) (Or.inl ⟨by rfl, ?_⟩) ?_ ?_
                                       rotate_left
                                       · intro w'
                                         go_simp
                                         with_reducible rfl
                                       rotate_left
                                       · simp only [Act.put, List.setIfInBounds_toArray, List.set_cons_zero, List.set_cons_succ, i64_w, i32_w]
                                         rfl
                                       refine pure_ (i := 34) (N := some 576) (v := ?_) (a' := ?_) #[true, true, true, true, true, true, true, true, true, true, true, true, true, true, true, true, true, true, true, true, true, true, true, true, true, true, true, true, true, true, true, true, true, true, true, false, false, false, false, false, false, false, false, false, false, false, false, false, false, false, false] rfl rfl (any_of HT_.out (by kernel_rfl)) (fun _ _ _ h => h) (Or.inl ⟨by rfl, ?_⟩) ?_ ?_
                                       rotate_left
                                       · intro w'
                                         go_simp
                                         with_reducible rfl
                                       rotate_left
                                       · simp only [Act.put, List.setIfInBounds_toArray, List.set_cons_zero, List.set_cons_succ, i64_w, i32_w]
                                         rfl
                                       refine pure_ (i := 35) (N := some 577) (v := ?_) (a' := ?_) #[true, true, true, true, true, true, true, true, true, true, true, true, true, true, true, true, true, true, true, true, true, true, true, true, true, true, true, true, true, true, true, true, true, true, true, true, false, false, false, false, false, false, false, false, false, false, false, false, false, false, false] rfl rfl (any_of HT_.out (by kernel_rfl)) (fun _ _ _ h => h) (Or.inl ⟨by rfl, ?_⟩) ?_ ?_
                                       rotate_left
                                       · intro w'
                                         go_simp
                                         with_reducible rfl
                                       rotate_left
                                       · simp only [Act.put, List.setIfInBounds_toArray, List.set_cons_zero, List.set_cons_succ, i64_w, i32_w]
                                         rfl
                                       refine pure_ (i := 37) (N := some 579) (v := ?_) (a' := ?_) #[true, true, true, true, true, true, true, true, true, true, true, true, true, true, true, true, true, true, true, true, true, true, true, true, true, true, true, true, true, true, true, true, true, true, true, true, false, true, false, false, false, false, false, false, false, false, false, false, false, false, false] rfl rfl (any_of HT_.out (by kernel_rfl)) (fun _ _ _ h => h) (Or.inl ⟨by rfl, ?_⟩) ?_ ?_
                                       rotate_left
                                       · intro w'
                                         go_simp
                                         with_reducible rfl
                                       rotate_left
                                       · simp only [Act.put, List.setIfInBounds_toArray, List.set_cons_zero, List.set_cons_succ, i64_w, i32_w]
                                         rfl
                                       refine pure_ (i := 38) (N := some 580) (v := ?_) (a' := ?_) #[true, true, true, true, true, true, true, true, true, true, true, true, true, true, true, true, true, true, true, true, true, true, true, true, true, true, true, true, true, true, true, true, true, true, true, true, false, true, true, false, false, false, false, false, false, false, false, false, false, false, false] rfl rfl (any_of HT_.out (by kernel_rfl)) (fun _ _ _ h => h) (Or.inl ⟨by rfl, ?_⟩) ?_ ?_
                                       rotate_left
                                       · intro w'
                                         go_simp
                                         with_reducible rfl
                                       rotate_left
                                       · simp only [Act.put, List.setIfInBounds_toArray, List.set_cons_zero, List.set_cons_succ, i64_w, i32_w]
                                         rfl
                                       refine pure_ (i := 41) (N := some 583) (v := ?_) (a' := ?_) #[true, true, true, true, true, true, true, true, true, true, true, true, true, true, true, true, true, true, true, true, true, true, true, true, true, true, true, true, true, true, true, true, true, true, true, true, false, true, true, false, false, true, false, false, false, false, false, false, false, false, false] rfl rfl (any_of HT_.out (by kernel_rfl)) (fun _ _ _ h => h) (Or.inl ⟨by rfl, ?_⟩) ?_ ?_
                                       rotate_left
                                       · intro w'
                                         go_simp
                                         with_reducible rfl
                                       rotate_left
                                       · simp only [Act.put, List.setIfInBounds_toArray, List.set_cons_zero, List.set_cons_succ, i64_w, i32_w]
                                         rfl
                                       refine pure_ (i := 42) (N := some 584) (v := ?_) (a' := ?_) #[true, true, true, true, true, true, true, true, true, true, true, true, true, true, true, true, true, true, true, true, true, true, true, true, true, true, true, true, true, true, true, true, true, true, true, true, false, true, true, false, false, true, true, false, false, false, false, false, false, false, false] rfl rfl (any_of HT_.out (by kernel_rfl)) (fun _ _ _ h => h) (Or.inl ⟨by rfl, ?_⟩) ?_ ?_
                                       rotate_left
                                       · intro w'
                                         go_simp
                                         with_reducible rfl
                                       rotate_left
                                       · simp only [Act.put, List.setIfInBounds_toArray, List.set_cons_zero, List.set_cons_succ, i64_w, i32_w]
                                         rfl
                                       refine pure_ (i := 44) (N := some 586) (v := ?_) (a' := ?_) #[true, true, true, true, true, true, true, true, true, true, true, true, true, true, true, true, true, true, true, true, true, true, true, true, true, true, true, true, true, true, true, true, true, true, true, true, false, true, true, false, false, true, true, false, true, false, false, false, false, false, false] rfl rfl (any_of HT_.out (by kernel_rfl)) (fun _ _ _ h => h) (Or.inl ⟨by rfl, ?_⟩) ?_ ?_
                                       rotate_left
                                       · intro w'
                                         go_simp
                                         with_reducible rfl
                                       rotate_left
                                       · simp only [Act.put, List.setIfInBounds_toArray, List.set_cons_zero, List.set_cons_succ, i64_w, i32_w]
                                         rfl
                                       refine pure_ (i := 45) (N := some 587) (v := ?_) (a' := ?_) #[true, true, true, true, true, true, true, true, true, true, true, true, true, true, true, true, true, true, true, true, true, true, true, true, true, true, true, true, true, true, true, true, true, true, true, true, false, true, true, false, false, true, true, false, true, true, false, false, false, false, false] rfl rfl (any_of HT_.out (by kernel_rfl)) (fun _ _ _ h => h) (Or.inl ⟨by rfl, ?_⟩) ?_ ?_
                                       rotate_left
                                       · intro w'
                                         go_simp
                                         with_reducible rfl
                                       rotate_left
                                       · simp only [Act.put, List.setIfInBounds_toArray, List.set_cons_zero, List.set_cons_succ, i64_w, i32_w]
                                         rfl
                                       refine take_ (i := 36) (N := some 578) (v := ?_) (a' := ?_) #[true, true, true, true, true, true, true, true, true, true, true, true, true, true, true, true, true, true, true, true, true, true, true, true, true, true, true, true, true, true, true, true, true, true, true, true, true, true, true, false, false, true, true, false, true, true, false, false, false, false, false] rfl rfl (take_ofW HT_.out HW_.out (by kernel_rfl)) (fun _ _ _ h => h) (Or.inl ⟨by rfl, ?_⟩) hHeld ?_ ?_
                                       rotate_left
                                       · rintro w' ⟨s0, s1, s2, s3⟩
                                         go_simp
                                         with_reducible rfl
                                       rotate_left
                                       · simp only [Act.put, List.setIfInBounds_toArray, List.set_cons_zero, List.set_cons_succ, i64_w, i32_w]
                                         rfl
                                       refine take_ (i := 39) (N := some 581) (v := ?_) (a' := ?_) #[true, true, true, true, true, true, true, true, true, true, true, true, true, true, true, true, true, true, true, true, true, true, true, true, true, true, true, true, true, true, true, true, true, true, true, true, true, true, true, true, false, true, true, false, true, true, false, false, false, false, false] rfl rfl (take_ofW HT_.out HW_.out (by kernel_rfl)) (fun _ _ _ h => h) (Or.inl ⟨by rfl, ?_⟩) hHeld ?_ ?_
                                       rotate_left
                                       · rintro w' ⟨s0, s1, s2, s3⟩
                                         go_simp
                                         with_reducible rfl
                                       rotate_left
                                       · simp only [Act.put, List.setIfInBounds_toArray, List.set_cons_zero, List.set_cons_succ, i64_w, i32_w]
                                         rfl
                                       refine pure_ (i := 40) (N := some 582) (v := ?_) (a' := ?_) #[true, true, true, true, true, true, true, true, true, true, true, true, true, true, true, true, true, true, true, true, true, true, true, true, true, true, true, true, true, true, true, true, true, true, true, true, true, true, true, true, true, true, true, false, true, true, false, false, false, false, false] rfl rfl (any_of HT_.out (by kernel_rfl)) (fun _ _ _ h => h) (Or.inl ⟨by rfl, ?_⟩) ?_ ?_
                                       rotate_left
                                       · intro w'
                                         go_simp
                                         with_reducible rfl
                                       rotate_left
                                       · simp only [Act.put, List.setIfInBounds_toArray, List.set_cons_zero, List.set_cons_succ, i64_w, i32_w]
                                         rfl
                                       refine take_ (i := 43) (N := some 585) (v := ?_) (a' := ?_) #[true, true, true, true, true, true, true, true, true, true, true, true, true, true, true, true, true, true, true, true, true, true, true, true, true, true, true, true, true, true, true, true, true, true, true, true, true, true, true, true, true, true, true, true, true, true, false, false, false, false, false] rfl rfl (take_ofW HT_.out HW_.out (by kernel_rfl)) (fun _ _ _ h => h) (Or.inl ⟨by rfl, ?_⟩) hHeld ?_ ?_
                                       rotate_left
                                       · rintro w' ⟨s0, s1, s2, s3⟩
                                         go_simp
                                         with_reducible rfl
                                       rotate_left
                                       · simp only [Act.put, List.setIfInBounds_toArray, List.set_cons_zero, List.set_cons_succ, i64_w, i32_w]
                                         rfl
                                       refine take_ (i := 46) (N := some 588) (v := ?_) (a' := ?_) #[true, true, true, true, true, true, true, true, true, true, true, true, true, true, true, true, true, true, true, true, true, true, true, true, true, true, true, true, true, true, true, true, true, true, true, true, true, true, true, true, true, true, true, true, true, true, true, false, false, false, false] rfl rfl (take_ofW HT_.out HW_.out (by kernel_rfl)) (fun _ _ _ h => h) (Or.inl ⟨by rfl, ?_⟩) hHeld ?_ ?_
                                       rotate_left
                                       · rintro w' ⟨s0, s1, s2, s3⟩
                                         go_simp
                                         with_reducible rfl
                                       rotate_left
                                       · simp only [Act.put, List.setIfInBounds_toArray, List.set_cons_zero, List.set_cons_succ, i64_w, i32_w]
                                         rfl
                                       refine pure_ (i := 47) (N := some 589) (v := ?_) (a' := ?_) #[true, true, true, true, true, true, true, true, true, true, true, true, true, true, true, true, true, true, true, true, true, true, true, true, true, true, true, true, true, true, true, true, true, true, true, true, true, true, true, true, true, true, true, true, true, true, true, true, false, false, false] rfl rfl (any_of HT_.out (by kernel_rfl)) (fun _ _ _ h => h) (Or.inl ⟨by rfl, ?_⟩) ?_ ?_
                                       rotate_left
                                       · intro w'
                                         go_simp
                                         with_reducible rfl
                                       rotate_left
                                       · simp only [Act.put, List.setIfInBounds_toArray, List.set_cons_zero, List.set_cons_succ, i64_w, i32_w]
                                         rfl
                                       refine pure_ (i := 48) (N := some 590) (v := ?_) (a' := ?_) #[true, true, true, true, true, true, true, true, true, true, true, true, true, true, true, true, true, true, true, true, true, true, true, true, true, true, true, true, true, true, true, true, true, true, true, true, true, true, true, true, true, true, true, true, true, true, true, true, true, false, false] rfl rfl (any_of HT_.out (by kernel_rfl)) (fun _ _ _ h => h) (Or.inl ⟨by rfl, ?_⟩) ?_ ?_
                                       rotate_left
                                       · intro w'
                                         go_simp
                                         with_reducible rfl
                                       rotate_left
                                       · simp only [Act.put, List.setIfInBounds_toArray, List.set_cons_zero, List.set_cons_succ, i64_w, i32_w]
                                         rfl
                                       refine pure_ (i := 49) (N := some 591) (v := ?_) (a' := ?_) #[true, true, true, true, true, true, true, true, true, true, true, true, true, true, true, true, true, true, true, true, true, true, true, true, true, true, true, true, true, true, true, true, true, true, true, true, true, true, true, true, true, true, true, true, true, true, true, true, true, true, false] rfl rfl (any_of HT_.out (by kernel_rfl)) (fun _ _ _ h => h) (Or.inl ⟨by rfl, ?_⟩) ?_ ?_
                                       rotate_left
                                       · intro w'
                                         go_simp
                                         with_reducible rfl
                                       rotate_left
                                       · simp only [Act.put, List.setIfInBounds_toArray, List.set_cons_zero, List.set_cons_succ, i64_w, i32_w]
                                         rfl
                                       refine pure_ (i := 50) (N := some 592) (v := ?_) (a' := ?_) #[true, true, true, true, true, true, true, true, true, true, true, true, true, true, true, true, true, true, true, true, true, true, true, true, true, true, true, true, true, true, true, true, true, true, true, true, true, true, true, true, true, true, true, true, true, true, true, true, true, true, true] rfl rfl (any_of HT_.out (by kernel_rfl)) (fun _ _ _ h => h) (Or.inl ⟨by rfl, ?_⟩) ?_ ?_
                                       rotate_left
                                       · intro w'
                                         go_simp
                                         with_reducible rfl
                                       rotate_left
                                       · simp only [Act.put, List.setIfInBounds_toArray, List.set_cons_zero, List.set_cons_succ, i64_w, i32_w]
                                         rfl
                                       refine done_ (done_of HT_.out (by kernel_rfl)) ?_
                                       try go_wp2
                                       (try rw [show ∀ (W_ : World) (n_ : Nat) (a_ : Addr) (v_ : Value), (W_.drewN n_).setCell a_ v_ = (W_.setCell a_ v_).drewN n_ from fun _ _ _ _ => rfl])
                                       go_meet
                                       case rel => exact ⟨_, (decide (t386 < (wrap64 ((wrap64 ((rd t374 0) + (rd t377 0))) * (wrap64 ((rd t374 0) + (rd t377 0))))))), (by first | rfl | (simp; done) | (simp [*]; done)), H', ⟨by have := HJ11.out; have := HJ29.out; have := HJ36.out; have := HJ41.out; have := HJ60.out; have := HJ95.out; have := HJ110.out; have := HJ136.out; first | omega | exact Nat.le_refl _⟩, ⟨by (with_reducible repeat (first | apply Kd.V_alloc | apply Kd.V_drewN | apply Kd.V_drew)); exact HO_57.out⟩, ⟨by (with_reducible repeat (first | apply Kd.V_alloc | apply Kd.V_drewN | apply Kd.V_drew)); exact HO_58.out⟩, ⟨by repeat (first | (with_reducible first | exact HB.out | apply below_alloc | apply pw_below_drewN | apply below_drew1) | exact HB.out)⟩⟩
                                     rw [if_neg c150] at H
                                     exact absurd H (by simp)
                                   rw [if_neg c149] at H
                                   exact absurd H (by simp)
                                 rw [if_neg c148] at H
                                 have c148b0 : (t421 == t381) = false := beq_eq_false_iff_ne.mpr c148
                                 have c148b1 : (t421 != t381) = true := bne_iff_ne.mpr c148
                                 cases kj136 with
                                 | zero => exact absurd H (by simp [laws_FnMirrorsSeen.j12])
                                 | succ kz_ =>
                                  simp only [laws_FnMirrorsSeen.j12] at H
                                  exact absurd (Option.some.inj (by first | exact H | (rw [if_pos rfl] at H; exact H) | (simpa using H) : (some false : Option Bool) = some r)) (by rw [HT_l.out]; decide)
                               rw [if_neg c147] at H
                               have c147b0 : (t420 == t380) = false := beq_eq_false_iff_ne.mpr c147
                               have c147b1 : (t420 != t380) = true := bne_iff_ne.mpr c147
                               cases kj136 with
                               | zero => exact absurd H (by simp [laws_FnMirrorsSeen.j12])
                               | succ kz_ =>
                                simp only [laws_FnMirrorsSeen.j12] at H
                                exact absurd (Option.some.inj (by first | exact H | (rw [if_pos rfl] at H; exact H) | (simpa using H) : (some false : Option Bool) = some r)) (by rw [HT_l.out]; decide)
                             replace c146 := Bool.eq_false_iff.mpr c146
                             subst c146
                             rw [if_neg (show ¬ (false = true) by decide)] at H
                             cases kj136 with
                             | zero => exact absurd H (by simp [laws_FnMirrorsSeen.j12])
                             | succ kz_ =>
                              simp only [laws_FnMirrorsSeen.j12] at H
                              exact absurd (Option.some.inj (by first | exact H | (rw [if_pos rfl] at H; exact H) | (simpa using H) : (some false : Option Bool) = some r)) (by rw [HT_l.out]; decide)
                           replace c143 := Bool.eq_false_iff.mpr c143
                           subst c143
                           rw [if_neg (show ¬ (false = true) by decide)] at H
                           cases kj136 with
                           | zero => exact absurd H (by simp [laws_FnMirrorsSeen.j12])
                           | succ kz_ =>
                            simp only [laws_FnMirrorsSeen.j12] at H
                            exact absurd (Option.some.inj (by first | exact H | (rw [if_pos rfl] at H; exact H) | (simpa using H) : (some false : Option Bool) = some r)) (by rw [HT_l.out]; decide)
                         clear HC141
                         try clear c1
                         try clear p2
                         try clear c3
                         try clear p4
                         try clear q4
                         try clear hx4
                         try clear qi4
                         try clear p6
                         try clear c14
                         try clear c15
                         try clear c39
                         try clear q40
                         try clear p42
                         try clear q42
                         try clear hx42
                         try clear qi42
                         try clear p64
                         try clear c143
                         try clear c144
                         try clear c144b0
                         try clear c145
                         try clear c145b0
                         try clear c146
                         try clear c147
                         try clear c147b0
                         try clear c147b1
                         try clear c148
                         try clear c148b0
                         try clear c148b1
                         try clear c149
                         try clear c149b0
                         try clear c149b1
                         try clear c150
                         try clear c150b0
                         try clear c150b1
                         try clear hx426_0
                         try clear hx427_0
                         try clear hx428_0
                         try clear hx429_0
                         try clear p426
                         try clear p427
                         try clear p428
                         try clear p429
                         try clear p64
                         try clear q4
                         try clear q40
                         try clear q403
                         try clear q423
                         try clear q424
                         try clear q426
                         try clear q427
                         try clear q428
                         try clear q429
                         obtain ⟨kq, x592_140, rfl, HA, HJ140, HO_57, HO_58, HB⟩ := hcut
                         cases kq with
                         | zero => exact absurd HA.out (by simp [laws_FnMirrorsSeen.j12])
                         | succ kj140 =>
                          as_aux_lemma =>
                           have H := HA.out
                           clear HA
                           simp only [laws_FnMirrorsSeen.j12] at H
                           by_cases c152 : x592_140 = true
                           · subst c152
                             rw [if_pos rfl] at H
                             exact absurd (Option.some.inj H) (by rw [HT_l.out]; decide)
                           replace c152 := Bool.eq_false_iff.mpr c152
                           subst c152
                           rw [if_neg (show ¬ (false = true) by decide)] at H
                           have H' := Aside0.mk H
                           clear H
                           go_wp2
                           go_meet
                           case rel => exact ⟨_, H', ⟨by have := HJ11.out; have := HJ29.out; have := HJ36.out; have := HJ41.out; have := HJ60.out; have := HJ95.out; have := HJ110.out; have := HJ136.out; have := HJ140.out; first | omega | exact Nat.le_refl _⟩, ⟨by (with_reducible repeat (first | apply Kd.V_alloc | apply Kd.V_drewN | apply Kd.V_drew)); exact HO_57.out⟩, ⟨by (with_reducible repeat (first | apply Kd.V_alloc | apply Kd.V_drewN | apply Kd.V_drew)); exact HO_58.out⟩, ⟨by repeat (first | (with_reducible first | exact HB.out | apply below_alloc | apply pw_below_drewN | apply below_drew1) | exact HB.out)⟩⟩
                     rw [if_neg c136] at H
                     exact absurd H (by simp)
                   rw [if_neg c135] at H
                   exact absurd H (by simp)
                 replace c133 := Bool.eq_false_iff.mpr c133
                 subst c133
                 rw [if_neg (show ¬ (false = true) by decide)] at H
                 have H' := Aside0.mk H
                 clear H
                 go_wp2
                 go_meet
                 case rel => exact ⟨_, H', ⟨by have := HJ11.out; have := HJ29.out; have := HJ36.out; have := HJ41.out; have := HJ60.out; have := HJ95.out; have := HJ110.out; first | omega | exact Nat.le_refl _⟩, ⟨by (with_reducible repeat (first | apply Kd.V_alloc | apply Kd.V_drewN | apply Kd.V_drew)); exact HO_57.out⟩, ⟨by (with_reducible repeat (first | apply Kd.V_alloc | apply Kd.V_drewN | apply Kd.V_drew)); exact HO_58.out⟩, ⟨by repeat (first | (with_reducible first | exact HB.out | apply below_alloc | apply pw_below_drewN | apply below_drew1) | exact HB.out)⟩⟩
               clear HC132
               try clear c1
               try clear p2
               try clear c3
               try clear p4
               try clear q4
               try clear hx4
               try clear qi4
               try clear p6
               try clear c13
               try clear c14
               try clear c15
               try clear c39
               try clear q40
               try clear p42
               try clear q42
               try clear hx42
               try clear qi42
               try clear p64
               try clear c133
               try clear c135
               try clear c136
               try clear c143
               try clear c144
               try clear c144b0
               try clear c145
               try clear c145b0
               try clear c146
               try clear c147
               try clear c147b0
               try clear c147b1
               try clear c148
               try clear c148b0
               try clear c148b1
               try clear c149
               try clear c149b0
               try clear c149b1
               try clear c150
               try clear c150b0
               try clear c150b1
               try clear c152
               try clear hx426_0
               try clear hx427_0
               try clear hx428_0
               try clear hx429_0
               try clear p2
               try clear p4
               try clear p42
               try clear p426
               try clear p427
               try clear p428
               try clear p429
               try clear p6
               try clear p64
               try clear q4
               try clear q40
               try clear q403
               try clear q42
               try clear q423
               try clear q424
               try clear q426
               try clear q427
               try clear q428
               try clear q429
               obtain ⟨kq, HA, HJ131, HO_57, HO_58, HB⟩ := hcut
               cases kq with
               | zero => exact absurd HA.out (by simp [laws_FnMirrorsSeen.j13])
               | succ kj131 =>
                as_aux_lemma =>
                 have H := HA.out
                 clear HA
                 simp only [laws_FnMirrorsSeen.j13] at H
                 by_cases c153 : t399 = true
                 · subst c153
                   rw [if_pos rfl] at H
                   replace H := Option.bind_eq_some_iff.mp H; obtain ⟨⟨t430, t431, t432⟩, A1540, H⟩ := H; (try dsimp only at H); have A154 := Aside0.mk A1540; clear A1540
                   by_cases c155 : t432 = true
                   · subst c155
                     rw [if_pos rfl] at H
                     by_cases c156 : t430 ≥ (wrap64 (t396 * t431))
                     · rw [if_pos c156] at H
                       have c156b0 : decide ((wrap64 (t396 * t431)) ≤ t430) = true := decide_eq_true c156
                       clear c156
                       obtain rfl := Option.some.inj H
                       go_wp2_with (first | ((with_reducible refine gate_callee (f := 29) rfl ?_); refine goesL_ (some 597) rfl rfl Try.func29 (by kernel_rfl) rfl #[.slice Ao77 t390.length co77, .slice Ao78 t393.length co78] rfl (by (try simp only [List.map_toArray, List.map_cons, List.map_nil]); first | done | rfl | (simp only [List.length_drop, List.length_take]; rfl)) ?_; (with_reducible refine (impl_LookedAt.calls kj131 (fun k_ => True) _ _ t390 (fun k_ => True) _ _ t393 t430 t431 true _ ?side1 ?side2 A154.out).mono ?_); (case side1 => exact HO_57.out); (case side2 => exact HO_58.out); rintro e w157 ⟨rfl, hb⟩; refine ⟨_, rfl, ?_⟩; have n0_ := Aside0.mk (Kd.V_below (by (with_reducible repeat (first | apply Kd.V_alloc | apply Kd.V_drewN | apply Kd.V_drew)); exact HO_57.out) hb); have n1_ := Aside0.mk (Kd.V_below (by (with_reducible repeat (first | apply Kd.V_alloc | apply Kd.V_drewN | apply Kd.V_drew)); exact HO_58.out) hb); have n2_ := Aside0.mk (below_step (by repeat (first | (with_reducible first | exact HB.out | apply below_alloc | apply pw_below_drewN | apply below_drew1) | exact HB.out)) hb); clear HO_57; clear HO_58; clear HB; have HO_57 := n0_; have HO_58 := n1_; have HB := n2_; clear n0_ n1_ n2_; (try clear hb); (try clear hb2); (try clear hk); (try clear hi)))
                       go_ret
                       exact ⟨by first | rfl | (simp [errW_none, errW_some] <;> rfl) | (simp [*, errW_none, errW_some] <;> rfl), by repeat (first | (with_reducible first | exact HB.out | apply below_alloc | apply pw_below_drewN | apply below_drew1) | exact HB.out)⟩
                     rw [if_neg c156] at H
                     have c156b0 : decide ((wrap64 (t396 * t431)) ≤ t430) = false := decide_eq_false c156
                     clear c156
                     obtain rfl := Option.some.inj H
                     go_wp2_with (first | ((with_reducible refine gate_callee (f := 29) rfl ?_); refine goesL_ (some 597) rfl rfl Try.func29 (by kernel_rfl) rfl #[.slice Ao77 t390.length co77, .slice Ao78 t393.length co78] rfl (by (try simp only [List.map_toArray, List.map_cons, List.map_nil]); first | done | rfl | (simp only [List.length_drop, List.length_take]; rfl)) ?_; (with_reducible refine (impl_LookedAt.calls kj131 (fun k_ => True) _ _ t390 (fun k_ => True) _ _ t393 t430 t431 true _ ?side1 ?side2 A154.out).mono ?_); (case side1 => exact HO_57.out); (case side2 => exact HO_58.out); rintro e w158 ⟨rfl, hb⟩; refine ⟨_, rfl, ?_⟩; have n0_ := Aside0.mk (Kd.V_below (by (with_reducible repeat (first | apply Kd.V_alloc | apply Kd.V_drewN | apply Kd.V_drew)); exact HO_57.out) hb); have n1_ := Aside0.mk (Kd.V_below (by (with_reducible repeat (first | apply Kd.V_alloc | apply Kd.V_drewN | apply Kd.V_drew)); exact HO_58.out) hb); have n2_ := Aside0.mk (below_step (by repeat (first | (with_reducible first | exact HB.out | apply below_alloc | apply pw_below_drewN | apply below_drew1) | exact HB.out)) hb); clear HO_57; clear HO_58; clear HB; have HO_57 := n0_; have HO_58 := n1_; have HB := n2_; clear n0_ n1_ n2_; (try clear hb); (try clear hb2); (try clear hk); (try clear hi)))
                     go_ret
                     exact ⟨by first | rfl | (simp [errW_none, errW_some] <;> rfl) | (simp [*, errW_none, errW_some] <;> rfl), by repeat (first | (with_reducible first | exact HB.out | apply below_alloc | apply pw_below_drewN | apply below_drew1) | exact HB.out)⟩
                   replace c155 := Bool.eq_false_iff.mpr c155
                   subst c155
                   rw [if_neg (show ¬ (false = true) by decide)] at H
                   exact absurd (Option.some.inj H) (by rw [HT_l.out]; decide)
                 replace c153 := Bool.eq_false_iff.mpr c153
                 subst c153
                 rw [if_neg (show ¬ (false = true) by decide)] at H
                 obtain rfl := Option.some.inj H
                 go_wp2
                 go_ret
                 exact ⟨by first | rfl | (simp [errW_none, errW_some] <;> rfl) | (simp [*, errW_none, errW_some] <;> rfl), by repeat (first | (with_reducible first | exact HB.out | apply below_alloc | apply pw_below_drewN | apply below_drew1) | exact HB.out)⟩
/-- THE ONE PURE STATEMENT of laws_FnMirrorsSeen: yours. -/
def laws_FnMirrorsSeen.Pure : Prop := ∀ (l0 : List Int) (l1 : List Int), l0.length ≤ maxLen → l0.length * 1 ≤ 140737488351232 → (∀ x ∈ l0, (Lit.int .u8 x).wf = true) → l1.length ≤ maxLen → l1.length * 1 ≤ 140737488351232 → (∀ x ∈ l1, (Lit.int .u8 x).wf = true) → ∃ k, laws_FnMirrorsSeen.f k l0 l1 = some true
theorem laws_FnMirrorsSeen.walk (P : laws_FnMirrorsSeen.Pure) (a0 : Option Addr) (len0 cap0 : Nat) (z0 : List Int) (a1 : Option Addr) (len1 cap1 : Nat) (z1 : List Int) (w : World) (w0 : (a0 = none ∧ len0 = 0 ∧ cap0 = 0 ∧ z0 = []) ∨ ∃ x, a0 = some x ∧ len0 ≤ cap0 ∧ cap0 ≤ maxLen ∧ z0.length = cap0 ∧ (∀ i, i < z0.length → w.cell? (x.add i) = some (.int .u8 (z0.getD i 0))) ∧ ∀ n ∈ z0, (Lit.int .u8 n).wf = true) (y0 : len0 * 1 ≤ 140737488351232) (w1 : (a1 = none ∧ len1 = 0 ∧ cap1 = 0 ∧ z1 = []) ∨ ∃ x, a1 = some x ∧ len1 ≤ cap1 ∧ cap1 ≤ maxLen ∧ z1.length = cap1 ∧ (∀ i, i < z1.length → w.cell? (x.add i) = some (.int .u8 (z1.getD i 0))) ∧ ∀ n ∈ z1, (Lit.int .u8 n).wf = true) (y1 : len1 * 1 ≤ 140737488351232) :
    Calls Try.prog 4 #[.slice a0 len0 cap0, .slice a1 len1 cap1] w fun e w' => e = .returned (.bool true) ∧ Below w.heap.size w w' := by
  obtain ⟨l0, rfl, hr0, hm0, hw0, hc0⟩ := ReadsInt.ofRowC w0
  obtain ⟨l1, rfl, hr1, hm1, hw1, hc1⟩ := ReadsInt.ofRowC w1
  obtain ⟨k, h⟩ := P l0 l1 hm0 y0 hw0 hm1 y1 hw1
  refine (laws_FnMirrorsSeen.calls k _ _ l0 _ _ l1 true w (Kd.C_of_reads (d := (0 : Int)) (h1 := fun _ => rfl) hr0) hc0 (Kd.C_of_reads (d := (0 : Int)) (h1 := fun _ => rfl) hr1) hc1 h rfl).mono ?_
  rintro e w' ⟨rfl, hd⟩
  exact ⟨rfl, hd⟩
end Go.Proofs.Ytfdnhipjiofnaaa.PFnMirrorsSeen

