-- WRITTEN BY A PROGRAM OF THIS SESSION (xprint), out of the translation: not trusted: it is checked as any text
import Derived.Test.YtjkfgeigicljpaaPFnLeavesTornx0
import Derived.Test.YtjkfgeigicljpaaPFnLeavesTornx1
import Derived.Test.YtjkfgeigicljpaaPFnLeavesTornx2
import Derived.Test.YtjkfgeigicljpaaPFnLeavesTornx3
import Derived.Test.YtjkfgeigicljpaaPFnLeavesTornx4
import Derived.Test.YtjkfgeigicljpaaPFnLeavesTornx5
namespace Go.Proofs.Ytjkfgeigicljpaa.PFnLeavesTorn
open Go.RowKit Go.Proofs.YtjkfgeigicljpaaW.PrintWords Go.Proofs.YtjkfgeigicljpaaW.PrintLast Go.Proofs.YtjkfgeigicljpaaW.PrintMore
attribute [local go_sem] max2_int min2_int max_two min_two max_three min_three max_four min_four   -- for this text's walks alone
set_option linter.unusedVariables false
set_option linter.unusedSimpArgs false

/-! ### laws_FnLeavesTorn: function 5 -/
mutual
def laws_FnLeavesTorn.j0 : Nat → List Int → Int → Int → Int → Bool → Int → Bool → Int → Bool → Option (Bool)
  | 0, _, _, _, _, _, _, _, _, _ => none
  | k + 1, x1, x5, x6, x7, x8, x11, x12, x15, x181 => if x181 = true then (some false) else (if x12 = true then (if (wrap64 (x11 * 2)) = (wrap64 (x5 * (wrap64 (x5 + 1)))) then (if (wrap64 (x15 * 2)) < x5 then (laws_FnLeavesTorn.j1 k x1 x5 x6 x7 x8 x11 true) else (laws_FnLeavesTorn.j1 k x1 x5 x6 x7 x8 x11 (decide ((wrap64 (x15 * 2)) > (wrap64 (x5 + 1)))))) else (laws_FnLeavesTorn.j1 k x1 x5 x6 x7 x8 x11 true)) else (laws_FnLeavesTorn.j1 k x1 x5 x6 x7 x8 x11 false))
def laws_FnLeavesTorn.j1 : Nat → List Int → Int → Int → Int → Bool → Int → Bool → Option (Bool)
  | 0, _, _, _, _, _, _, _ => none
  | k + 1, x1, x5, x6, x7, x8, x11, x204 => if x204 = true then (some false) else (if x8 = true then ((impl_SumOfLeaf.f x7).bind fun bt321 => ((impl_CanBeTorn.f k bt321.1 1).bind fun bt323 => (if x7 < 1 then (laws_FnLeavesTorn.j2 k x1 x5 x6 x7 true) else (if (wrap64 (2 * x7)) > x5 then (laws_FnLeavesTorn.j2 k x1 x5 x6 x7 true) else (if bt321.2 = true then (if (wrap64 (bt321.1 + x6)) = x11 then (if bt323.2 = true then (laws_FnLeavesTorn.j2 k x1 x5 x6 x7 (!bt323.1)) else (laws_FnLeavesTorn.j2 k x1 x5 x6 x7 true)) else (laws_FnLeavesTorn.j2 k x1 x5 x6 x7 true)) else (laws_FnLeavesTorn.j2 k x1 x5 x6 x7 true)))))) else (laws_FnLeavesTorn.j3 k x1))
def laws_FnLeavesTorn.j3 : Nat → List Int → Option (Bool)
  | 0, _ => none
  | k + 1, x1 => (spec_DrawFirstTornTwo.f k x1).bind fun bt328 => ((impl_FirstTornTwo.f k bt328.1 bt328.2).bind fun bt330 => ((spec_FirstTornTwo.f k bt328.1 bt328.2).bind fun bt333 => ((impl_CountTornTwo.f k bt328.1 bt328.2).bind fun bt336 => ((spec_CountTornTwo.f k bt328.1 bt328.2).bind fun bt338 => ((spec_DrawTornFromSum.f k x1).bind fun t340 => ((impl_TornFromSum.f k t340).bind fun bt341 => ((spec_TornFromSum.f k t340).bind fun bt344 => ((spec_DrawCanBeTorn.f x1).bind fun bt347 => ((impl_CanBeTorn.f k bt347.1 bt347.2).bind fun bt349 => ((spec_CanBeTorn.f k bt347.1 bt347.2).bind fun bt351 => ((spec_DrawPagesOfLeaf.f x1).bind fun t353 => ((impl_PagesOfLeaf.f t353).bind fun bt354 => ((spec_PagesOfLeaf.f t353).bind fun bt357 => ((impl_SumOfLeaf.f t353).bind fun bt360 => ((spec_SumOfLeaf.f t353).bind fun bt362 => ((spec_DrawFacingPage.f x1).bind fun bt364 => ((impl_FacingPage.f bt364.1 bt364.2).bind fun bt366 => ((spec_FacingPage.f k bt364.1 bt364.2).bind fun bt368 => ((impl_BackOfPage.f bt364.2).bind fun bt370 => ((spec_BackOfPage.f bt364.2).bind fun bt372 => ((impl_IsPage.f bt364.1 bt364.2).bind fun bt374 => ((spec_IsPage.f bt364.1 bt364.2).bind fun bt376 => (if (bt330.2.2 != bt333.2.2) = true then (laws_FnLeavesTorn.j4 k bt328.1 bt328.2 bt330.1 bt330.2.1 bt330.2.2 bt336.1 t340 bt341.1 bt341.2.1 bt341.2.2 t353 bt354.1 bt354.2.1 bt354.2.2 bt360.1 bt364.1 bt364.2 bt366.1 bt366.2 bt370.1 bt370.2 bt374.1 bt374.2 true) else (if bt330.1 = bt333.1 then (if bt330.2.1 = bt333.2.1 then (if (bt336.2 != bt338.2) = true then (laws_FnLeavesTorn.j4 k bt328.1 bt328.2 bt330.1 bt330.2.1 bt330.2.2 bt336.1 t340 bt341.1 bt341.2.1 bt341.2.2 t353 bt354.1 bt354.2.1 bt354.2.2 bt360.1 bt364.1 bt364.2 bt366.1 bt366.2 bt370.1 bt370.2 bt374.1 bt374.2 true) else (if bt336.1 = bt338.1 then (if (bt341.2.2 != bt344.2.2) = true then (laws_FnLeavesTorn.j4 k bt328.1 bt328.2 bt330.1 bt330.2.1 bt330.2.2 bt336.1 t340 bt341.1 bt341.2.1 bt341.2.2 t353 bt354.1 bt354.2.1 bt354.2.2 bt360.1 bt364.1 bt364.2 bt366.1 bt366.2 bt370.1 bt370.2 bt374.1 bt374.2 true) else (if bt341.1 = bt344.1 then (if bt341.2.1 = bt344.2.1 then (if (bt349.2 != bt351.2) = true then (laws_FnLeavesTorn.j4 k bt328.1 bt328.2 bt330.1 bt330.2.1 bt330.2.2 bt336.1 t340 bt341.1 bt341.2.1 bt341.2.2 t353 bt354.1 bt354.2.1 bt354.2.2 bt360.1 bt364.1 bt364.2 bt366.1 bt366.2 bt370.1 bt370.2 bt374.1 bt374.2 true) else (if (bt349.1 != bt351.1) = true then (laws_FnLeavesTorn.j4 k bt328.1 bt328.2 bt330.1 bt330.2.1 bt330.2.2 bt336.1 t340 bt341.1 bt341.2.1 bt341.2.2 t353 bt354.1 bt354.2.1 bt354.2.2 bt360.1 bt364.1 bt364.2 bt366.1 bt366.2 bt370.1 bt370.2 bt374.1 bt374.2 true) else (if (bt354.2.2 != bt357.2.2) = true then (laws_FnLeavesTorn.j4 k bt328.1 bt328.2 bt330.1 bt330.2.1 bt330.2.2 bt336.1 t340 bt341.1 bt341.2.1 bt341.2.2 t353 bt354.1 bt354.2.1 bt354.2.2 bt360.1 bt364.1 bt364.2 bt366.1 bt366.2 bt370.1 bt370.2 bt374.1 bt374.2 true) else (if bt354.1 = bt357.1 then (if bt354.2.1 = bt357.2.1 then (if (bt360.2 != bt362.2) = true then (laws_FnLeavesTorn.j4 k bt328.1 bt328.2 bt330.1 bt330.2.1 bt330.2.2 bt336.1 t340 bt341.1 bt341.2.1 bt341.2.2 t353 bt354.1 bt354.2.1 bt354.2.2 bt360.1 bt364.1 bt364.2 bt366.1 bt366.2 bt370.1 bt370.2 bt374.1 bt374.2 true) else (if bt360.1 = bt362.1 then (if (bt366.2 != bt368.2) = true then (laws_FnLeavesTorn.j4 k bt328.1 bt328.2 bt330.1 bt330.2.1 bt330.2.2 bt336.1 t340 bt341.1 bt341.2.1 bt341.2.2 t353 bt354.1 bt354.2.1 bt354.2.2 bt360.1 bt364.1 bt364.2 bt366.1 bt366.2 bt370.1 bt370.2 bt374.1 bt374.2 true) else (if bt366.1 = bt368.1 then (if (bt370.2 != bt372.2) = true then (laws_FnLeavesTorn.j4 k bt328.1 bt328.2 bt330.1 bt330.2.1 bt330.2.2 bt336.1 t340 bt341.1 bt341.2.1 bt341.2.2 t353 bt354.1 bt354.2.1 bt354.2.2 bt360.1 bt364.1 bt364.2 bt366.1 bt366.2 bt370.1 bt370.2 bt374.1 bt374.2 true) else (if bt370.1 = bt372.1 then (if (bt374.2 != bt376.2) = true then (laws_FnLeavesTorn.j4 k bt328.1 bt328.2 bt330.1 bt330.2.1 bt330.2.2 bt336.1 t340 bt341.1 bt341.2.1 bt341.2.2 t353 bt354.1 bt354.2.1 bt354.2.2 bt360.1 bt364.1 bt364.2 bt366.1 bt366.2 bt370.1 bt370.2 bt374.1 bt374.2 true) else (if (bt374.1 != bt376.1) = true then (laws_FnLeavesTorn.j4 k bt328.1 bt328.2 bt330.1 bt330.2.1 bt330.2.2 bt336.1 t340 bt341.1 bt341.2.1 bt341.2.2 t353 bt354.1 bt354.2.1 bt354.2.2 bt360.1 bt364.1 bt364.2 bt366.1 bt366.2 bt370.1 bt370.2 bt374.1 bt374.2 true) else (if bt336.2 = true then (if (bt330.2.2 != (decide (bt336.1 > 0))) = true then (laws_FnLeavesTorn.j4 k bt328.1 bt328.2 bt330.1 bt330.2.1 bt330.2.2 bt336.1 t340 bt341.1 bt341.2.1 bt341.2.2 t353 bt354.1 bt354.2.1 bt354.2.2 bt360.1 bt364.1 bt364.2 bt366.1 bt366.2 bt370.1 bt370.2 bt374.1 bt374.2 true) else (laws_FnLeavesTorn.j4 k bt328.1 bt328.2 bt330.1 bt330.2.1 bt330.2.2 bt336.1 t340 bt341.1 bt341.2.1 bt341.2.2 t353 bt354.1 bt354.2.1 bt354.2.2 bt360.1 bt364.1 bt364.2 bt366.1 bt366.2 bt370.1 bt370.2 bt374.1 bt374.2 (bt360.2 != bt354.2.2))) else (if (bt330.2.2 != false) = true then (laws_FnLeavesTorn.j4 k bt328.1 bt328.2 bt330.1 bt330.2.1 bt330.2.2 bt336.1 t340 bt341.1 bt341.2.1 bt341.2.2 t353 bt354.1 bt354.2.1 bt354.2.2 bt360.1 bt364.1 bt364.2 bt366.1 bt366.2 bt370.1 bt370.2 bt374.1 bt374.2 true) else (laws_FnLeavesTorn.j4 k bt328.1 bt328.2 bt330.1 bt330.2.1 bt330.2.2 bt336.1 t340 bt341.1 bt341.2.1 bt341.2.2 t353 bt354.1 bt354.2.1 bt354.2.2 bt360.1 bt364.1 bt364.2 bt366.1 bt366.2 bt370.1 bt370.2 bt374.1 bt374.2 (bt360.2 != bt354.2.2)))))) else (laws_FnLeavesTorn.j4 k bt328.1 bt328.2 bt330.1 bt330.2.1 bt330.2.2 bt336.1 t340 bt341.1 bt341.2.1 bt341.2.2 t353 bt354.1 bt354.2.1 bt354.2.2 bt360.1 bt364.1 bt364.2 bt366.1 bt366.2 bt370.1 bt370.2 bt374.1 bt374.2 true))) else (laws_FnLeavesTorn.j4 k bt328.1 bt328.2 bt330.1 bt330.2.1 bt330.2.2 bt336.1 t340 bt341.1 bt341.2.1 bt341.2.2 t353 bt354.1 bt354.2.1 bt354.2.2 bt360.1 bt364.1 bt364.2 bt366.1 bt366.2 bt370.1 bt370.2 bt374.1 bt374.2 true))) else (laws_FnLeavesTorn.j4 k bt328.1 bt328.2 bt330.1 bt330.2.1 bt330.2.2 bt336.1 t340 bt341.1 bt341.2.1 bt341.2.2 t353 bt354.1 bt354.2.1 bt354.2.2 bt360.1 bt364.1 bt364.2 bt366.1 bt366.2 bt370.1 bt370.2 bt374.1 bt374.2 true))) else (laws_FnLeavesTorn.j4 k bt328.1 bt328.2 bt330.1 bt330.2.1 bt330.2.2 bt336.1 t340 bt341.1 bt341.2.1 bt341.2.2 t353 bt354.1 bt354.2.1 bt354.2.2 bt360.1 bt364.1 bt364.2 bt366.1 bt366.2 bt370.1 bt370.2 bt374.1 bt374.2 true)) else (laws_FnLeavesTorn.j4 k bt328.1 bt328.2 bt330.1 bt330.2.1 bt330.2.2 bt336.1 t340 bt341.1 bt341.2.1 bt341.2.2 t353 bt354.1 bt354.2.1 bt354.2.2 bt360.1 bt364.1 bt364.2 bt366.1 bt366.2 bt370.1 bt370.2 bt374.1 bt374.2 true))))) else (laws_FnLeavesTorn.j4 k bt328.1 bt328.2 bt330.1 bt330.2.1 bt330.2.2 bt336.1 t340 bt341.1 bt341.2.1 bt341.2.2 t353 bt354.1 bt354.2.1 bt354.2.2 bt360.1 bt364.1 bt364.2 bt366.1 bt366.2 bt370.1 bt370.2 bt374.1 bt374.2 true)) else (laws_FnLeavesTorn.j4 k bt328.1 bt328.2 bt330.1 bt330.2.1 bt330.2.2 bt336.1 t340 bt341.1 bt341.2.1 bt341.2.2 t353 bt354.1 bt354.2.1 bt354.2.2 bt360.1 bt364.1 bt364.2 bt366.1 bt366.2 bt370.1 bt370.2 bt374.1 bt374.2 true))) else (laws_FnLeavesTorn.j4 k bt328.1 bt328.2 bt330.1 bt330.2.1 bt330.2.2 bt336.1 t340 bt341.1 bt341.2.1 bt341.2.2 t353 bt354.1 bt354.2.1 bt354.2.2 bt360.1 bt364.1 bt364.2 bt366.1 bt366.2 bt370.1 bt370.2 bt374.1 bt374.2 true))) else (laws_FnLeavesTorn.j4 k bt328.1 bt328.2 bt330.1 bt330.2.1 bt330.2.2 bt336.1 t340 bt341.1 bt341.2.1 bt341.2.2 t353 bt354.1 bt354.2.1 bt354.2.2 bt360.1 bt364.1 bt364.2 bt366.1 bt366.2 bt370.1 bt370.2 bt374.1 bt374.2 true)) else (laws_FnLeavesTorn.j4 k bt328.1 bt328.2 bt330.1 bt330.2.1 bt330.2.2 bt336.1 t340 bt341.1 bt341.2.1 bt341.2.2 t353 bt354.1 bt354.2.1 bt354.2.2 bt360.1 bt364.1 bt364.2 bt366.1 bt366.2 bt370.1 bt370.2 bt374.1 bt374.2 true)))))))))))))))))))))))))
def laws_FnLeavesTorn.j4 : Nat → Int → Int → Int → Int → Bool → Int → Int → Int → Int → Bool → Int → Int → Int → Bool → Int → Int → Int → Int → Bool → Int → Bool → Bool → Bool → Bool → Option (Bool)
  | 0, _, _, _, _, _, _, _, _, _, _, _, _, _, _, _, _, _, _, _, _, _, _, _, _ => none
  | k + 1, x26, x27, x28, x29, x30, x34, x38, x39, x40, x41, x51, x52, x53, x54, x58, x62, x63, x64, x65, x68, x69, x72, x73, x509 => if x509 = true then (some false) else (if x30 = true then ((impl_SumOfLeaf.f x28).bind fun bt378 => ((impl_SumOfLeaf.f x29).bind fun bt380 => ((impl_SumOfPages.f x26).bind fun bt382 => ((impl_CanBeTorn.f k (wrap64 (bt378.1 + bt380.1)) 2).bind fun bt384 => (if x28 < 1 then (some false) else (if x28 ≥ x29 then (some false) else (if (wrap64 (2 * x29)) > x26 then (some false) else (if bt378.2 = true then (if bt380.2 = true then (if bt382.2 = true then (if (wrap64 ((wrap64 (bt378.1 + bt380.1)) + x27)) = bt382.1 then (if bt384.2 = true then (if bt384.1 = true then (if (wrap64 (2 * x34)) > (wrap64 (Int.tdiv x26 2)) then (some false) else (laws_FnLeavesTorn.j5 k x38 x39 x40 x41 x51 x52 x53 x54 x58 x62 x63 x64 x65 x68 x69 x72 x73)) else (some false)) else (some false)) else (some false)) else (some false)) else (some false)) else (some false))))))))) else (laws_FnLeavesTorn.j5 k x38 x39 x40 x41 x51 x52 x53 x54 x58 x62 x63 x64 x65 x68 x69 x72 x73))
def laws_FnLeavesTorn.j5 : Nat → Int → Int → Int → Bool → Int → Int → Int → Bool → Int → Int → Int → Int → Bool → Int → Bool → Bool → Bool → Option (Bool)
  | 0, _, _, _, _, _, _, _, _, _, _, _, _, _, _, _, _, _ => none
  | k + 1, x38, x39, x40, x41, x51, x52, x53, x54, x58, x62, x63, x64, x65, x68, x69, x72, x73 => if x41 = true then ((impl_TornLeaf.f x39 x38).bind fun bt386 => (if bt386.2 = true then (laws_FnLeavesTorn.j6 k x38 x39 x51 x52 x53 x54 x58 x62 x63 x64 x65 x68 x69 x72 x73 (bt386.1 != x40)) else (laws_FnLeavesTorn.j6 k x38 x39 x51 x52 x53 x54 x58 x62 x63 x64 x65 x68 x69 x72 x73 true))) else (laws_FnLeavesTorn.j7 k x51 x52 x53 x54 x58 x62 x63 x64 x65 x68 x69 x72 x73)
def laws_FnLeavesTorn.j7 : Nat → Int → Int → Int → Bool → Int → Int → Int → Int → Bool → Int → Bool → Bool → Bool → Option (Bool)
  | 0, _, _, _, _, _, _, _, _, _, _, _, _, _ => none
  | k + 1, x51, x52, x53, x54, x58, x62, x63, x64, x65, x68, x69, x72, x73 => if x54 = true then ((impl_LeafOfPage.f x52).bind fun bt390 => ((impl_LeafOfPage.f x53).bind fun bt392 => ((impl_IsRightPage.f x52).bind fun bt394 => ((impl_IsRightPage.f x53).bind fun bt396 => (if x53 = (wrap64 (x52 + 1)) then (if x58 = (wrap64 (x52 + x53)) then (if bt390.2 = true then (if bt390.1 = x51 then (if bt392.2 = true then (if bt392.1 = x51 then (if bt394.2 = true then (if bt394.1 = true then (if bt396.2 = true then (if bt396.1 = true then (some false) else (laws_FnLeavesTorn.j8 k x62 x63 x64 x65 x68 x69 x72 x73)) else (some false)) else (some false)) else (some false)) else (some false)) else (some false)) else (some false)) else (some false)) else (some false)) else (some false)))))) else (laws_FnLeavesTorn.j8 k x62 x63 x64 x65 x68 x69 x72 x73)
def laws_FnLeavesTorn.j8 : Nat → Int → Int → Int → Bool → Int → Bool → Bool → Bool → Option (Bool)
  | 0, _, _, _, _, _, _, _, _ => none
  | k + 1, x62, x63, x64, x65, x68, x69, x72, x73 => if x65 = true then ((impl_FacingPage.f x62 x64).bind fun bt398 => (if bt398.2 = true then (if bt398.1 = x63 then (if x73 = true then (if x72 = true then (if x64 = x63 then (some false) else (laws_FnLeavesTorn.j9 k x63 x68 x69)) else (some false)) else (some false)) else (some false)) else (some false))) else (laws_FnLeavesTorn.j9 k x63 x68 x69)
def laws_FnLeavesTorn.j9 : Nat → Int → Int → Bool → Option (Bool)
  | 0, _, _, _ => none
  | k + 1, x63, x68, x69 => if x69 = true then ((impl_LeafOfPage.f x63).bind fun bt400 => ((impl_LeafOfPage.f x68).bind fun bt402 => (if bt400.2 = true then (if bt402.2 = true then (if bt400.1 = bt402.1 then (if x68 = x63 then (some false) else (some true)) else (some false)) else (if x68 = x63 then (some false) else (if x63 = 1999 then (some true) else (if x63 = 2000 then (some true) else (some false))))) else (some false)))) else (some true)
def laws_FnLeavesTorn.j6 : Nat → Int → Int → Int → Int → Int → Bool → Int → Int → Int → Int → Bool → Int → Bool → Bool → Bool → Bool → Option (Bool)
  | 0, _, _, _, _, _, _, _, _, _, _, _, _, _, _, _, _ => none
  | k + 1, x38, x39, x51, x52, x53, x54, x58, x62, x63, x64, x65, x68, x69, x72, x73, x595 => if x595 = true then (some false) else (if x39 > 2 then ((impl_TornLeaf.f (wrap64 (x39 - 1)) x38).bind fun bt388 => (if bt388.2 = true then (some false) else (laws_FnLeavesTorn.j7 k x51 x52 x53 x54 x58 x62 x63 x64 x65 x68 x69 x72 x73))) else (laws_FnLeavesTorn.j7 k x51 x52 x53 x54 x58 x62 x63 x64 x65 x68 x69 x72 x73))
def laws_FnLeavesTorn.j2 : Nat → List Int → Int → Int → Int → Bool → Option (Bool)
  | 0, _, _, _, _, _ => none
  | k + 1, x1, x5, x6, x7, x242 => if x242 = true then (some false) else (if x6 > 0 then ((impl_TornFromSum.f k x6).bind fun bt325 => (if bt325.2.2 = true then (if bt325.1 > x5 then (some false) else (if bt325.1 = x5 then (if bt325.2.1 = x7 then (laws_FnLeavesTorn.j3 k x1) else (some false)) else (laws_FnLeavesTorn.j3 k x1))) else (some false))) else (laws_FnLeavesTorn.j3 k x1))
end
def laws_FnLeavesTorn.f (k : Nat) (l0 : List Int) (l1 : List Int) : Option (Bool) := (laws_big.f l0 l1).bind fun t306 => (if t306 = true then (some true) else ((spec_DrawTornLeaf.f k l0).bind fun bt307 => ((impl_TornLeaf.f bt307.1 bt307.2).bind fun bt309 => ((spec_TornLeaf.f bt307.1 bt307.2).bind fun bt311 => ((impl_SumOfPages.f bt307.1).bind fun bt313 => ((spec_SumOfPages.f bt307.1).bind fun bt315 => ((impl_LeavesOfBook.f bt307.1).bind fun bt317 => ((spec_LeavesOfBook.f bt307.1).bind fun bt319 => (if (bt309.2 != bt311.2) = true then (laws_FnLeavesTorn.j0 k l1 bt307.1 bt307.2 bt309.1 bt309.2 bt313.1 bt313.2 bt317.1 true) else (if bt309.1 = bt311.1 then (if (bt313.2 != bt315.2) = true then (laws_FnLeavesTorn.j0 k l1 bt307.1 bt307.2 bt309.1 bt309.2 bt313.1 bt313.2 bt317.1 true) else (if bt313.1 = bt315.1 then (if (bt317.2 != bt319.2) = true then (laws_FnLeavesTorn.j0 k l1 bt307.1 bt307.2 bt309.1 bt309.2 bt313.1 bt313.2 bt317.1 true) else (if bt317.1 = bt319.1 then (if (bt317.2 != bt313.2) = true then (laws_FnLeavesTorn.j0 k l1 bt307.1 bt307.2 bt309.1 bt309.2 bt313.1 bt313.2 bt317.1 true) else (if bt309.2 = true then (laws_FnLeavesTorn.j0 k l1 bt307.1 bt307.2 bt309.1 bt309.2 bt313.1 bt313.2 bt317.1 (!bt313.2)) else (laws_FnLeavesTorn.j0 k l1 bt307.1 bt307.2 bt309.1 bt309.2 bt313.1 bt313.2 bt317.1 false))) else (laws_FnLeavesTorn.j0 k l1 bt307.1 bt307.2 bt309.1 bt309.2 bt313.1 bt313.2 bt317.1 true))) else (laws_FnLeavesTorn.j0 k l1 bt307.1 bt307.2 bt309.1 bt309.2 bt313.1 bt313.2 bt317.1 true))) else (laws_FnLeavesTorn.j0 k l1 bt307.1 bt307.2 bt309.1 bt309.2 bt313.1 bt313.2 bt317.1 true)))))))))))
theorem laws_FnLeavesTorn.mono_l : ∀ k, (∀ y0 y1 y2 y3 y4 y5 y6 y7 y8, LeO (laws_FnLeavesTorn.j0 k y0 y1 y2 y3 y4 y5 y6 y7 y8) (laws_FnLeavesTorn.j0 (k + 1) y0 y1 y2 y3 y4 y5 y6 y7 y8)) ∧ (∀ y0 y1 y2 y3 y4 y5 y6, LeO (laws_FnLeavesTorn.j1 k y0 y1 y2 y3 y4 y5 y6) (laws_FnLeavesTorn.j1 (k + 1) y0 y1 y2 y3 y4 y5 y6)) ∧ (∀ y0, LeO (laws_FnLeavesTorn.j3 k y0) (laws_FnLeavesTorn.j3 (k + 1) y0)) ∧ (∀ y0 y1 y2 y3 y4 y5 y6 y7 y8 y9 y10 y11 y12 y13 y14 y15 y16 y17 y18 y19 y20 y21 y22 y23, LeO (laws_FnLeavesTorn.j4 k y0 y1 y2 y3 y4 y5 y6 y7 y8 y9 y10 y11 y12 y13 y14 y15 y16 y17 y18 y19 y20 y21 y22 y23) (laws_FnLeavesTorn.j4 (k + 1) y0 y1 y2 y3 y4 y5 y6 y7 y8 y9 y10 y11 y12 y13 y14 y15 y16 y17 y18 y19 y20 y21 y22 y23)) ∧ (∀ y0 y1 y2 y3 y4 y5 y6 y7 y8 y9 y10 y11 y12 y13 y14 y15 y16, LeO (laws_FnLeavesTorn.j5 k y0 y1 y2 y3 y4 y5 y6 y7 y8 y9 y10 y11 y12 y13 y14 y15 y16) (laws_FnLeavesTorn.j5 (k + 1) y0 y1 y2 y3 y4 y5 y6 y7 y8 y9 y10 y11 y12 y13 y14 y15 y16)) ∧ (∀ y0 y1 y2 y3 y4 y5 y6 y7 y8 y9 y10 y11 y12, LeO (laws_FnLeavesTorn.j7 k y0 y1 y2 y3 y4 y5 y6 y7 y8 y9 y10 y11 y12) (laws_FnLeavesTorn.j7 (k + 1) y0 y1 y2 y3 y4 y5 y6 y7 y8 y9 y10 y11 y12)) ∧ (∀ y0 y1 y2 y3 y4 y5 y6 y7, LeO (laws_FnLeavesTorn.j8 k y0 y1 y2 y3 y4 y5 y6 y7) (laws_FnLeavesTorn.j8 (k + 1) y0 y1 y2 y3 y4 y5 y6 y7)) ∧ (∀ y0 y1 y2, LeO (laws_FnLeavesTorn.j9 k y0 y1 y2) (laws_FnLeavesTorn.j9 (k + 1) y0 y1 y2)) ∧ (∀ y0 y1 y2 y3 y4 y5 y6 y7 y8 y9 y10 y11 y12 y13 y14 y15, LeO (laws_FnLeavesTorn.j6 k y0 y1 y2 y3 y4 y5 y6 y7 y8 y9 y10 y11 y12 y13 y14 y15) (laws_FnLeavesTorn.j6 (k + 1) y0 y1 y2 y3 y4 y5 y6 y7 y8 y9 y10 y11 y12 y13 y14 y15)) ∧ (∀ y0 y1 y2 y3 y4, LeO (laws_FnLeavesTorn.j2 k y0 y1 y2 y3 y4) (laws_FnLeavesTorn.j2 (k + 1) y0 y1 y2 y3 y4))
  | 0 => ⟨fun _ _ _ _ _ _ _ _ _ r h => by simp [laws_FnLeavesTorn.j0] at h, fun _ _ _ _ _ _ _ r h => by simp [laws_FnLeavesTorn.j1] at h, fun _ r h => by simp [laws_FnLeavesTorn.j3] at h, fun _ _ _ _ _ _ _ _ _ _ _ _ _ _ _ _ _ _ _ _ _ _ _ _ r h => by simp [laws_FnLeavesTorn.j4] at h, fun _ _ _ _ _ _ _ _ _ _ _ _ _ _ _ _ _ r h => by simp [laws_FnLeavesTorn.j5] at h, fun _ _ _ _ _ _ _ _ _ _ _ _ _ r h => by simp [laws_FnLeavesTorn.j7] at h, fun _ _ _ _ _ _ _ _ r h => by simp [laws_FnLeavesTorn.j8] at h, fun _ _ _ r h => by simp [laws_FnLeavesTorn.j9] at h, fun _ _ _ _ _ _ _ _ _ _ _ _ _ _ _ _ r h => by simp [laws_FnLeavesTorn.j6] at h, fun _ _ _ _ _ r h => by simp [laws_FnLeavesTorn.j2] at h⟩
  | k + 1 => by
    obtain ⟨ih0, ih1, ih2, ih3, ih4, ih5, ih6, ih7, ih8, ih9⟩ := laws_FnLeavesTorn.mono_l k
    refine ⟨?_, ?_, ?_, ?_, ?_, ?_, ?_, ?_, ?_, ?_⟩
    · intro y0 y1 y2 y3 y4 y5 y6 y7 y8
      unfold laws_FnLeavesTorn.j0
      repeat' first
      | (with_reducible exact ih0 _ _ _ _ _ _ _ _ _)
      | (with_reducible exact ih1 _ _ _ _ _ _ _)
      | (with_reducible exact ih2 _)
      | (with_reducible exact ih3 _ _ _ _ _ _ _ _ _ _ _ _ _ _ _ _ _ _ _ _ _ _ _ _)
      | (with_reducible exact ih4 _ _ _ _ _ _ _ _ _ _ _ _ _ _ _ _ _)
      | (with_reducible exact ih5 _ _ _ _ _ _ _ _ _ _ _ _ _)
      | (with_reducible exact ih6 _ _ _ _ _ _ _ _)
      | (with_reducible exact ih7 _ _ _)
      | (with_reducible exact ih8 _ _ _ _ _ _ _ _ _ _ _ _ _ _ _ _)
      | (with_reducible exact ih9 _ _ _ _ _)
      | (with_reducible exact impl_CanBeTorn.mono _ _ _)
      | (with_reducible exact impl_CountTornTwo.mono _ _ _)
      | (with_reducible exact impl_FirstTornTwo.mono _ _ _)
      | (with_reducible exact impl_TornFromSum.mono _ _)
      | (with_reducible exact spec_CanBeTorn.mono _ _ _)
      | (with_reducible exact spec_CountTornTwo.mono _ _ _)
      | (with_reducible exact spec_DrawFirstTornTwo.mono _ _)
      | (with_reducible exact spec_DrawTornFromSum.mono _ _)
      | (with_reducible exact spec_DrawTornLeaf.mono _ _)
      | (with_reducible exact spec_FacingPage.mono _ _ _)
      | (with_reducible exact spec_FirstTornTwo.mono _ _ _)
      | (with_reducible exact spec_TornFromSum.mono _ _)
      | (with_reducible exact LeO.refl _)
      | (with_reducible exact LeO.none _)
      | (with_reducible refine LeO.ite ?_ ?_)
      | (with_reducible refine LeO.bind ?_ (fun _ => ?_))
      | exact ih0 _ _ _ _ _ _ _ _ _
      | exact ih1 _ _ _ _ _ _ _
      | exact ih2 _
      | exact ih3 _ _ _ _ _ _ _ _ _ _ _ _ _ _ _ _ _ _ _ _ _ _ _ _
      | exact ih4 _ _ _ _ _ _ _ _ _ _ _ _ _ _ _ _ _
      | exact ih5 _ _ _ _ _ _ _ _ _ _ _ _ _
      | exact ih6 _ _ _ _ _ _ _ _
      | exact ih7 _ _ _
      | exact ih8 _ _ _ _ _ _ _ _ _ _ _ _ _ _ _ _
      | exact ih9 _ _ _ _ _
      | exact impl_CanBeTorn.mono _ _ _
      | exact impl_CountTornTwo.mono _ _ _
      | exact impl_FirstTornTwo.mono _ _ _
      | exact impl_TornFromSum.mono _ _
      | exact spec_CanBeTorn.mono _ _ _
      | exact spec_CountTornTwo.mono _ _ _
      | exact spec_DrawFirstTornTwo.mono _ _
      | exact spec_DrawTornFromSum.mono _ _
      | exact spec_DrawTornLeaf.mono _ _
      | exact spec_FacingPage.mono _ _ _
      | exact spec_FirstTornTwo.mono _ _ _
      | exact spec_TornFromSum.mono _ _
      | exact LeO.none _
      | refine LeO.ite ?_ ?_
      | refine LeO.bind ?_ (fun _ => ?_)
    · intro y0 y1 y2 y3 y4 y5 y6
      unfold laws_FnLeavesTorn.j1
      repeat' first
      | (with_reducible exact ih0 _ _ _ _ _ _ _ _ _)
      | (with_reducible exact ih1 _ _ _ _ _ _ _)
      | (with_reducible exact ih2 _)
      | (with_reducible exact ih3 _ _ _ _ _ _ _ _ _ _ _ _ _ _ _ _ _ _ _ _ _ _ _ _)
      | (with_reducible exact ih4 _ _ _ _ _ _ _ _ _ _ _ _ _ _ _ _ _)
      | (with_reducible exact ih5 _ _ _ _ _ _ _ _ _ _ _ _ _)
      | (with_reducible exact ih6 _ _ _ _ _ _ _ _)
      | (with_reducible exact ih7 _ _ _)
      | (with_reducible exact ih8 _ _ _ _ _ _ _ _ _ _ _ _ _ _ _ _)
      | (with_reducible exact ih9 _ _ _ _ _)
      | (with_reducible exact impl_CanBeTorn.mono _ _ _)
      | (with_reducible exact impl_CountTornTwo.mono _ _ _)
      | (with_reducible exact impl_FirstTornTwo.mono _ _ _)
      | (with_reducible exact impl_TornFromSum.mono _ _)
      | (with_reducible exact spec_CanBeTorn.mono _ _ _)
      | (with_reducible exact spec_CountTornTwo.mono _ _ _)
      | (with_reducible exact spec_DrawFirstTornTwo.mono _ _)
      | (with_reducible exact spec_DrawTornFromSum.mono _ _)
      | (with_reducible exact spec_DrawTornLeaf.mono _ _)
      | (with_reducible exact spec_FacingPage.mono _ _ _)
      | (with_reducible exact spec_FirstTornTwo.mono _ _ _)
      | (with_reducible exact spec_TornFromSum.mono _ _)
      | (with_reducible exact LeO.refl _)
      | (with_reducible exact LeO.none _)
      | (with_reducible refine LeO.ite ?_ ?_)
      | (with_reducible refine LeO.bind ?_ (fun _ => ?_))
      | exact ih0 _ _ _ _ _ _ _ _ _
      | exact ih1 _ _ _ _ _ _ _
      | exact ih2 _
      | exact ih3 _ _ _ _ _ _ _ _ _ _ _ _ _ _ _ _ _ _ _ _ _ _ _ _
      | exact ih4 _ _ _ _ _ _ _ _ _ _ _ _ _ _ _ _ _
      | exact ih5 _ _ _ _ _ _ _ _ _ _ _ _ _
      | exact ih6 _ _ _ _ _ _ _ _
      | exact ih7 _ _ _
      | exact ih8 _ _ _ _ _ _ _ _ _ _ _ _ _ _ _ _
      | exact ih9 _ _ _ _ _
      | exact impl_CanBeTorn.mono _ _ _
      | exact impl_CountTornTwo.mono _ _ _
      | exact impl_FirstTornTwo.mono _ _ _
      | exact impl_TornFromSum.mono _ _
      | exact spec_CanBeTorn.mono _ _ _
      | exact spec_CountTornTwo.mono _ _ _
      | exact spec_DrawFirstTornTwo.mono _ _
      | exact spec_DrawTornFromSum.mono _ _
      | exact spec_DrawTornLeaf.mono _ _
      | exact spec_FacingPage.mono _ _ _
      | exact spec_FirstTornTwo.mono _ _ _
      | exact spec_TornFromSum.mono _ _
      | exact LeO.none _
      | refine LeO.ite ?_ ?_
      | refine LeO.bind ?_ (fun _ => ?_)
    · intro y0
      unfold laws_FnLeavesTorn.j3
      repeat' first
      | (with_reducible exact ih0 _ _ _ _ _ _ _ _ _)
      | (with_reducible exact ih1 _ _ _ _ _ _ _)
      | (with_reducible exact ih2 _)
      | (with_reducible exact ih3 _ _ _ _ _ _ _ _ _ _ _ _ _ _ _ _ _ _ _ _ _ _ _ _)
      | (with_reducible exact ih4 _ _ _ _ _ _ _ _ _ _ _ _ _ _ _ _ _)
      | (with_reducible exact ih5 _ _ _ _ _ _ _ _ _ _ _ _ _)
      | (with_reducible exact ih6 _ _ _ _ _ _ _ _)
      | (with_reducible exact ih7 _ _ _)
      | (with_reducible exact ih8 _ _ _ _ _ _ _ _ _ _ _ _ _ _ _ _)
      | (with_reducible exact ih9 _ _ _ _ _)
      | (with_reducible exact impl_CanBeTorn.mono _ _ _)
      | (with_reducible exact impl_CountTornTwo.mono _ _ _)
      | (with_reducible exact impl_FirstTornTwo.mono _ _ _)
      | (with_reducible exact impl_TornFromSum.mono _ _)
      | (with_reducible exact spec_CanBeTorn.mono _ _ _)
      | (with_reducible exact spec_CountTornTwo.mono _ _ _)
      | (with_reducible exact spec_DrawFirstTornTwo.mono _ _)
      | (with_reducible exact spec_DrawTornFromSum.mono _ _)
      | (with_reducible exact spec_DrawTornLeaf.mono _ _)
      | (with_reducible exact spec_FacingPage.mono _ _ _)
      | (with_reducible exact spec_FirstTornTwo.mono _ _ _)
      | (with_reducible exact spec_TornFromSum.mono _ _)
      | (with_reducible exact LeO.refl _)
      | (with_reducible exact LeO.none _)
      | (with_reducible refine LeO.ite ?_ ?_)
      | (with_reducible refine LeO.bind ?_ (fun _ => ?_))
      | exact ih0 _ _ _ _ _ _ _ _ _
      | exact ih1 _ _ _ _ _ _ _
      | exact ih2 _
      | exact ih3 _ _ _ _ _ _ _ _ _ _ _ _ _ _ _ _ _ _ _ _ _ _ _ _
      | exact ih4 _ _ _ _ _ _ _ _ _ _ _ _ _ _ _ _ _
      | exact ih5 _ _ _ _ _ _ _ _ _ _ _ _ _
      | exact ih6 _ _ _ _ _ _ _ _
      | exact ih7 _ _ _
      | exact ih8 _ _ _ _ _ _ _ _ _ _ _ _ _ _ _ _
      | exact ih9 _ _ _ _ _
      | exact impl_CanBeTorn.mono _ _ _
      | exact impl_CountTornTwo.mono _ _ _
      | exact impl_FirstTornTwo.mono _ _ _
      | exact impl_TornFromSum.mono _ _
      | exact spec_CanBeTorn.mono _ _ _
      | exact spec_CountTornTwo.mono _ _ _
      | exact spec_DrawFirstTornTwo.mono _ _
      | exact spec_DrawTornFromSum.mono _ _
      | exact spec_DrawTornLeaf.mono _ _
      | exact spec_FacingPage.mono _ _ _
      | exact spec_FirstTornTwo.mono _ _ _
      | exact spec_TornFromSum.mono _ _
      | exact LeO.none _
      | refine LeO.ite ?_ ?_
      | refine LeO.bind ?_ (fun _ => ?_)
    · intro y0 y1 y2 y3 y4 y5 y6 y7 y8 y9 y10 y11 y12 y13 y14 y15 y16 y17 y18 y19 y20 y21 y22 y23
      unfold laws_FnLeavesTorn.j4
      repeat' first
      | (with_reducible exact ih0 _ _ _ _ _ _ _ _ _)
      | (with_reducible exact ih1 _ _ _ _ _ _ _)
      | (with_reducible exact ih2 _)
      | (with_reducible exact ih3 _ _ _ _ _ _ _ _ _ _ _ _ _ _ _ _ _ _ _ _ _ _ _ _)
      | (with_reducible exact ih4 _ _ _ _ _ _ _ _ _ _ _ _ _ _ _ _ _)
      | (with_reducible exact ih5 _ _ _ _ _ _ _ _ _ _ _ _ _)
      | (with_reducible exact ih6 _ _ _ _ _ _ _ _)
      | (with_reducible exact ih7 _ _ _)
      | (with_reducible exact ih8 _ _ _ _ _ _ _ _ _ _ _ _ _ _ _ _)
      | (with_reducible exact ih9 _ _ _ _ _)
      | (with_reducible exact impl_CanBeTorn.mono _ _ _)
      | (with_reducible exact impl_CountTornTwo.mono _ _ _)
      | (with_reducible exact impl_FirstTornTwo.mono _ _ _)
      | (with_reducible exact impl_TornFromSum.mono _ _)
      | (with_reducible exact spec_CanBeTorn.mono _ _ _)
      | (with_reducible exact spec_CountTornTwo.mono _ _ _)
      | (with_reducible exact spec_DrawFirstTornTwo.mono _ _)
      | (with_reducible exact spec_DrawTornFromSum.mono _ _)
      | (with_reducible exact spec_DrawTornLeaf.mono _ _)
      | (with_reducible exact spec_FacingPage.mono _ _ _)
      | (with_reducible exact spec_FirstTornTwo.mono _ _ _)
      | (with_reducible exact spec_TornFromSum.mono _ _)
      | (with_reducible exact LeO.refl _)
      | (with_reducible exact LeO.none _)
      | (with_reducible refine LeO.ite ?_ ?_)
      | (with_reducible refine LeO.bind ?_ (fun _ => ?_))
      | exact ih0 _ _ _ _ _ _ _ _ _
      | exact ih1 _ _ _ _ _ _ _
      | exact ih2 _
      | exact ih3 _ _ _ _ _ _ _ _ _ _ _ _ _ _ _ _ _ _ _ _ _ _ _ _
      | exact ih4 _ _ _ _ _ _ _ _ _ _ _ _ _ _ _ _ _
      | exact ih5 _ _ _ _ _ _ _ _ _ _ _ _ _
      | exact ih6 _ _ _ _ _ _ _ _
      | exact ih7 _ _ _
      | exact ih8 _ _ _ _ _ _ _ _ _ _ _ _ _ _ _ _
      | exact ih9 _ _ _ _ _
      | exact impl_CanBeTorn.mono _ _ _
      | exact impl_CountTornTwo.mono _ _ _
      | exact impl_FirstTornTwo.mono _ _ _
      | exact impl_TornFromSum.mono _ _
      | exact spec_CanBeTorn.mono _ _ _
      | exact spec_CountTornTwo.mono _ _ _
      | exact spec_DrawFirstTornTwo.mono _ _
      | exact spec_DrawTornFromSum.mono _ _
      | exact spec_DrawTornLeaf.mono _ _
      | exact spec_FacingPage.mono _ _ _
      | exact spec_FirstTornTwo.mono _ _ _
      | exact spec_TornFromSum.mono _ _
      | exact LeO.none _
      | refine LeO.ite ?_ ?_
      | refine LeO.bind ?_ (fun _ => ?_)
    · intro y0 y1 y2 y3 y4 y5 y6 y7 y8 y9 y10 y11 y12 y13 y14 y15 y16
      unfold laws_FnLeavesTorn.j5
      repeat' first
      | (with_reducible exact ih0 _ _ _ _ _ _ _ _ _)
      | (with_reducible exact ih1 _ _ _ _ _ _ _)
      | (with_reducible exact ih2 _)
      | (with_reducible exact ih3 _ _ _ _ _ _ _ _ _ _ _ _ _ _ _ _ _ _ _ _ _ _ _ _)
      | (with_reducible exact ih4 _ _ _ _ _ _ _ _ _ _ _ _ _ _ _ _ _)
      | (with_reducible exact ih5 _ _ _ _ _ _ _ _ _ _ _ _ _)
      | (with_reducible exact ih6 _ _ _ _ _ _ _ _)
      | (with_reducible exact ih7 _ _ _)
      | (with_reducible exact ih8 _ _ _ _ _ _ _ _ _ _ _ _ _ _ _ _)
      | (with_reducible exact ih9 _ _ _ _ _)
      | (with_reducible exact impl_CanBeTorn.mono _ _ _)
      | (with_reducible exact impl_CountTornTwo.mono _ _ _)
      | (with_reducible exact impl_FirstTornTwo.mono _ _ _)
      | (with_reducible exact impl_TornFromSum.mono _ _)
      | (with_reducible exact spec_CanBeTorn.mono _ _ _)
      | (with_reducible exact spec_CountTornTwo.mono _ _ _)
      | (with_reducible exact spec_DrawFirstTornTwo.mono _ _)
      | (with_reducible exact spec_DrawTornFromSum.mono _ _)
      | (with_reducible exact spec_DrawTornLeaf.mono _ _)
      | (with_reducible exact spec_FacingPage.mono _ _ _)
      | (with_reducible exact spec_FirstTornTwo.mono _ _ _)
      | (with_reducible exact spec_TornFromSum.mono _ _)
      | (with_reducible exact LeO.refl _)
      | (with_reducible exact LeO.none _)
      | (with_reducible refine LeO.ite ?_ ?_)
      | (with_reducible refine LeO.bind ?_ (fun _ => ?_))
      | exact ih0 _ _ _ _ _ _ _ _ _
      | exact ih1 _ _ _ _ _ _ _
      | exact ih2 _
      | exact ih3 _ _ _ _ _ _ _ _ _ _ _ _ _ _ _ _ _ _ _ _ _ _ _ _
      | exact ih4 _ _ _ _ _ _ _ _ _ _ _ _ _ _ _ _ _
      | exact ih5 _ _ _ _ _ _ _ _ _ _ _ _ _
      | exact ih6 _ _ _ _ _ _ _ _
      | exact ih7 _ _ _
      | exact ih8 _ _ _ _ _ _ _ _ _ _ _ _ _ _ _ _
      | exact ih9 _ _ _ _ _
      | exact impl_CanBeTorn.mono _ _ _
      | exact impl_CountTornTwo.mono _ _ _
      | exact impl_FirstTornTwo.mono _ _ _
      | exact impl_TornFromSum.mono _ _
      | exact spec_CanBeTorn.mono _ _ _
      | exact spec_CountTornTwo.mono _ _ _
      | exact spec_DrawFirstTornTwo.mono _ _
      | exact spec_DrawTornFromSum.mono _ _
      | exact spec_DrawTornLeaf.mono _ _
      | exact spec_FacingPage.mono _ _ _
      | exact spec_FirstTornTwo.mono _ _ _
      | exact spec_TornFromSum.mono _ _
      | exact LeO.none _
      | refine LeO.ite ?_ ?_
      | refine LeO.bind ?_ (fun _ => ?_)
    · intro y0 y1 y2 y3 y4 y5 y6 y7 y8 y9 y10 y11 y12
      unfold laws_FnLeavesTorn.j7
      repeat' first
      | (with_reducible exact ih0 _ _ _ _ _ _ _ _ _)
      | (with_reducible exact ih1 _ _ _ _ _ _ _)
      | (with_reducible exact ih2 _)
      | (with_reducible exact ih3 _ _ _ _ _ _ _ _ _ _ _ _ _ _ _ _ _ _ _ _ _ _ _ _)
      | (with_reducible exact ih4 _ _ _ _ _ _ _ _ _ _ _ _ _ _ _ _ _)
      | (with_reducible exact ih5 _ _ _ _ _ _ _ _ _ _ _ _ _)
      | (with_reducible exact ih6 _ _ _ _ _ _ _ _)
      | (with_reducible exact ih7 _ _ _)
      | (with_reducible exact ih8 _ _ _ _ _ _ _ _ _ _ _ _ _ _ _ _)
      | (with_reducible exact ih9 _ _ _ _ _)
      | (with_reducible exact impl_CanBeTorn.mono _ _ _)
      | (with_reducible exact impl_CountTornTwo.mono _ _ _)
      | (with_reducible exact impl_FirstTornTwo.mono _ _ _)
      | (with_reducible exact impl_TornFromSum.mono _ _)
      | (with_reducible exact spec_CanBeTorn.mono _ _ _)
      | (with_reducible exact spec_CountTornTwo.mono _ _ _)
      | (with_reducible exact spec_DrawFirstTornTwo.mono _ _)
      | (with_reducible exact spec_DrawTornFromSum.mono _ _)
      | (with_reducible exact spec_DrawTornLeaf.mono _ _)
      | (with_reducible exact spec_FacingPage.mono _ _ _)
      | (with_reducible exact spec_FirstTornTwo.mono _ _ _)
      | (with_reducible exact spec_TornFromSum.mono _ _)
      | (with_reducible exact LeO.refl _)
      | (with_reducible exact LeO.none _)
      | (with_reducible refine LeO.ite ?_ ?_)
      | (with_reducible refine LeO.bind ?_ (fun _ => ?_))
      | exact ih0 _ _ _ _ _ _ _ _ _
      | exact ih1 _ _ _ _ _ _ _
      | exact ih2 _
      | exact ih3 _ _ _ _ _ _ _ _ _ _ _ _ _ _ _ _ _ _ _ _ _ _ _ _
      | exact ih4 _ _ _ _ _ _ _ _ _ _ _ _ _ _ _ _ _
      | exact ih5 _ _ _ _ _ _ _ _ _ _ _ _ _
      | exact ih6 _ _ _ _ _ _ _ _
      | exact ih7 _ _ _
      | exact ih8 _ _ _ _ _ _ _ _ _ _ _ _ _ _ _ _
      | exact ih9 _ _ _ _ _
      | exact impl_CanBeTorn.mono _ _ _
      | exact impl_CountTornTwo.mono _ _ _
      | exact impl_FirstTornTwo.mono _ _ _
      | exact impl_TornFromSum.mono _ _
      | exact spec_CanBeTorn.mono _ _ _
      | exact spec_CountTornTwo.mono _ _ _
      | exact spec_DrawFirstTornTwo.mono _ _
      | exact spec_DrawTornFromSum.mono _ _
      | exact spec_DrawTornLeaf.mono _ _
      | exact spec_FacingPage.mono _ _ _
      | exact spec_FirstTornTwo.mono _ _ _
      | exact spec_TornFromSum.mono _ _
      | exact LeO.none _
      | refine LeO.ite ?_ ?_
      | refine LeO.bind ?_ (fun _ => ?_)
    · intro y0 y1 y2 y3 y4 y5 y6 y7
      unfold laws_FnLeavesTorn.j8
      repeat' first
      | (with_reducible exact ih0 _ _ _ _ _ _ _ _ _)
      | (with_reducible exact ih1 _ _ _ _ _ _ _)
      | (with_reducible exact ih2 _)
      | (with_reducible exact ih3 _ _ _ _ _ _ _ _ _ _ _ _ _ _ _ _ _ _ _ _ _ _ _ _)
      | (with_reducible exact ih4 _ _ _ _ _ _ _ _ _ _ _ _ _ _ _ _ _)
      | (with_reducible exact ih5 _ _ _ _ _ _ _ _ _ _ _ _ _)
      | (with_reducible exact ih6 _ _ _ _ _ _ _ _)
      | (with_reducible exact ih7 _ _ _)
      | (with_reducible exact ih8 _ _ _ _ _ _ _ _ _ _ _ _ _ _ _ _)
      | (with_reducible exact ih9 _ _ _ _ _)
      | (with_reducible exact impl_CanBeTorn.mono _ _ _)
      | (with_reducible exact impl_CountTornTwo.mono _ _ _)
      | (with_reducible exact impl_FirstTornTwo.mono _ _ _)
      | (with_reducible exact impl_TornFromSum.mono _ _)
      | (with_reducible exact spec_CanBeTorn.mono _ _ _)
      | (with_reducible exact spec_CountTornTwo.mono _ _ _)
      | (with_reducible exact spec_DrawFirstTornTwo.mono _ _)
      | (with_reducible exact spec_DrawTornFromSum.mono _ _)
      | (with_reducible exact spec_DrawTornLeaf.mono _ _)
      | (with_reducible exact spec_FacingPage.mono _ _ _)
      | (with_reducible exact spec_FirstTornTwo.mono _ _ _)
      | (with_reducible exact spec_TornFromSum.mono _ _)
      | (with_reducible exact LeO.refl _)
      | (with_reducible exact LeO.none _)
      | (with_reducible refine LeO.ite ?_ ?_)
      | (with_reducible refine LeO.bind ?_ (fun _ => ?_))
      | exact ih0 _ _ _ _ _ _ _ _ _
      | exact ih1 _ _ _ _ _ _ _
      | exact ih2 _
      | exact ih3 _ _ _ _ _ _ _ _ _ _ _ _ _ _ _ _ _ _ _ _ _ _ _ _
      | exact ih4 _ _ _ _ _ _ _ _ _ _ _ _ _ _ _ _ _
      | exact ih5 _ _ _ _ _ _ _ _ _ _ _ _ _
      | exact ih6 _ _ _ _ _ _ _ _
      | exact ih7 _ _ _
      | exact ih8 _ _ _ _ _ _ _ _ _ _ _ _ _ _ _ _
      | exact ih9 _ _ _ _ _
      | exact impl_CanBeTorn.mono _ _ _
      | exact impl_CountTornTwo.mono _ _ _
      | exact impl_FirstTornTwo.mono _ _ _
      | exact impl_TornFromSum.mono _ _
      | exact spec_CanBeTorn.mono _ _ _
      | exact spec_CountTornTwo.mono _ _ _
      | exact spec_DrawFirstTornTwo.mono _ _
      | exact spec_DrawTornFromSum.mono _ _
      | exact spec_DrawTornLeaf.mono _ _
      | exact spec_FacingPage.mono _ _ _
      | exact spec_FirstTornTwo.mono _ _ _
      | exact spec_TornFromSum.mono _ _
      | exact LeO.none _
      | refine LeO.ite ?_ ?_
      | refine LeO.bind ?_ (fun _ => ?_)
    · intro y0 y1 y2
      unfold laws_FnLeavesTorn.j9
      repeat' first
      | (with_reducible exact ih0 _ _ _ _ _ _ _ _ _)
      | (with_reducible exact ih1 _ _ _ _ _ _ _)
      | (with_reducible exact ih2 _)
      | (with_reducible exact ih3 _ _ _ _ _ _ _ _ _ _ _ _ _ _ _ _ _ _ _ _ _ _ _ _)
      | (with_reducible exact ih4 _ _ _ _ _ _ _ _ _ _ _ _ _ _ _ _ _)
      | (with_reducible exact ih5 _ _ _ _ _ _ _ _ _ _ _ _ _)
      | (with_reducible exact ih6 _ _ _ _ _ _ _ _)
      | (with_reducible exact ih7 _ _ _)
      | (with_reducible exact ih8 _ _ _ _ _ _ _ _ _ _ _ _ _ _ _ _)
      | (with_reducible exact ih9 _ _ _ _ _)
      | (with_reducible exact impl_CanBeTorn.mono _ _ _)
      | (with_reducible exact impl_CountTornTwo.mono _ _ _)
      | (with_reducible exact impl_FirstTornTwo.mono _ _ _)
      | (with_reducible exact impl_TornFromSum.mono _ _)
      | (with_reducible exact spec_CanBeTorn.mono _ _ _)
      | (with_reducible exact spec_CountTornTwo.mono _ _ _)
      | (with_reducible exact spec_DrawFirstTornTwo.mono _ _)
      | (with_reducible exact spec_DrawTornFromSum.mono _ _)
      | (with_reducible exact spec_DrawTornLeaf.mono _ _)
      | (with_reducible exact spec_FacingPage.mono _ _ _)
      | (with_reducible exact spec_FirstTornTwo.mono _ _ _)
      | (with_reducible exact spec_TornFromSum.mono _ _)
      | (with_reducible exact LeO.refl _)
      | (with_reducible exact LeO.none _)
      | (with_reducible refine LeO.ite ?_ ?_)
      | (with_reducible refine LeO.bind ?_ (fun _ => ?_))
      | exact ih0 _ _ _ _ _ _ _ _ _
      | exact ih1 _ _ _ _ _ _ _
      | exact ih2 _
      | exact ih3 _ _ _ _ _ _ _ _ _ _ _ _ _ _ _ _ _ _ _ _ _ _ _ _
      | exact ih4 _ _ _ _ _ _ _ _ _ _ _ _ _ _ _ _ _
      | exact ih5 _ _ _ _ _ _ _ _ _ _ _ _ _
      | exact ih6 _ _ _ _ _ _ _ _
      | exact ih7 _ _ _
      | exact ih8 _ _ _ _ _ _ _ _ _ _ _ _ _ _ _ _
      | exact ih9 _ _ _ _ _
      | exact impl_CanBeTorn.mono _ _ _
      | exact impl_CountTornTwo.mono _ _ _
      | exact impl_FirstTornTwo.mono _ _ _
      | exact impl_TornFromSum.mono _ _
      | exact spec_CanBeTorn.mono _ _ _
      | exact spec_CountTornTwo.mono _ _ _
      | exact spec_DrawFirstTornTwo.mono _ _
      | exact spec_DrawTornFromSum.mono _ _
      | exact spec_DrawTornLeaf.mono _ _
      | exact spec_FacingPage.mono _ _ _
      | exact spec_FirstTornTwo.mono _ _ _
      | exact spec_TornFromSum.mono _ _
      | exact LeO.none _
      | refine LeO.ite ?_ ?_
      | refine LeO.bind ?_ (fun _ => ?_)
    · intro y0 y1 y2 y3 y4 y5 y6 y7 y8 y9 y10 y11 y12 y13 y14 y15
      unfold laws_FnLeavesTorn.j6
      repeat' first
      | (with_reducible exact ih0 _ _ _ _ _ _ _ _ _)
      | (with_reducible exact ih1 _ _ _ _ _ _ _)
      | (with_reducible exact ih2 _)
      | (with_reducible exact ih3 _ _ _ _ _ _ _ _ _ _ _ _ _ _ _ _ _ _ _ _ _ _ _ _)
      | (with_reducible exact ih4 _ _ _ _ _ _ _ _ _ _ _ _ _ _ _ _ _)
      | (with_reducible exact ih5 _ _ _ _ _ _ _ _ _ _ _ _ _)
      | (with_reducible exact ih6 _ _ _ _ _ _ _ _)
      | (with_reducible exact ih7 _ _ _)
      | (with_reducible exact ih8 _ _ _ _ _ _ _ _ _ _ _ _ _ _ _ _)
      | (with_reducible exact ih9 _ _ _ _ _)
      | (with_reducible exact impl_CanBeTorn.mono _ _ _)
      | (with_reducible exact impl_CountTornTwo.mono _ _ _)
      | (with_reducible exact impl_FirstTornTwo.mono _ _ _)
      | (with_reducible exact impl_TornFromSum.mono _ _)
      | (with_reducible exact spec_CanBeTorn.mono _ _ _)
      | (with_reducible exact spec_CountTornTwo.mono _ _ _)
      | (with_reducible exact spec_DrawFirstTornTwo.mono _ _)
      | (with_reducible exact spec_DrawTornFromSum.mono _ _)
      | (with_reducible exact spec_DrawTornLeaf.mono _ _)
      | (with_reducible exact spec_FacingPage.mono _ _ _)
      | (with_reducible exact spec_FirstTornTwo.mono _ _ _)
      | (with_reducible exact spec_TornFromSum.mono _ _)
      | (with_reducible exact LeO.refl _)
      | (with_reducible exact LeO.none _)
      | (with_reducible refine LeO.ite ?_ ?_)
      | (with_reducible refine LeO.bind ?_ (fun _ => ?_))
      | exact ih0 _ _ _ _ _ _ _ _ _
      | exact ih1 _ _ _ _ _ _ _
      | exact ih2 _
      | exact ih3 _ _ _ _ _ _ _ _ _ _ _ _ _ _ _ _ _ _ _ _ _ _ _ _
      | exact ih4 _ _ _ _ _ _ _ _ _ _ _ _ _ _ _ _ _
      | exact ih5 _ _ _ _ _ _ _ _ _ _ _ _ _
      | exact ih6 _ _ _ _ _ _ _ _
      | exact ih7 _ _ _
      | exact ih8 _ _ _ _ _ _ _ _ _ _ _ _ _ _ _ _
      | exact ih9 _ _ _ _ _
      | exact impl_CanBeTorn.mono _ _ _
      | exact impl_CountTornTwo.mono _ _ _
      | exact impl_FirstTornTwo.mono _ _ _
      | exact impl_TornFromSum.mono _ _
      | exact spec_CanBeTorn.mono _ _ _
      | exact spec_CountTornTwo.mono _ _ _
      | exact spec_DrawFirstTornTwo.mono _ _
      | exact spec_DrawTornFromSum.mono _ _
      | exact spec_DrawTornLeaf.mono _ _
      | exact spec_FacingPage.mono _ _ _
      | exact spec_FirstTornTwo.mono _ _ _
      | exact spec_TornFromSum.mono _ _
      | exact LeO.none _
      | refine LeO.ite ?_ ?_
      | refine LeO.bind ?_ (fun _ => ?_)
    · intro y0 y1 y2 y3 y4
      unfold laws_FnLeavesTorn.j2
      repeat' first
      | (with_reducible exact ih0 _ _ _ _ _ _ _ _ _)
      | (with_reducible exact ih1 _ _ _ _ _ _ _)
      | (with_reducible exact ih2 _)
      | (with_reducible exact ih3 _ _ _ _ _ _ _ _ _ _ _ _ _ _ _ _ _ _ _ _ _ _ _ _)
      | (with_reducible exact ih4 _ _ _ _ _ _ _ _ _ _ _ _ _ _ _ _ _)
      | (with_reducible exact ih5 _ _ _ _ _ _ _ _ _ _ _ _ _)
      | (with_reducible exact ih6 _ _ _ _ _ _ _ _)
      | (with_reducible exact ih7 _ _ _)
      | (with_reducible exact ih8 _ _ _ _ _ _ _ _ _ _ _ _ _ _ _ _)
      | (with_reducible exact ih9 _ _ _ _ _)
      | (with_reducible exact impl_CanBeTorn.mono _ _ _)
      | (with_reducible exact impl_CountTornTwo.mono _ _ _)
      | (with_reducible exact impl_FirstTornTwo.mono _ _ _)
      | (with_reducible exact impl_TornFromSum.mono _ _)
      | (with_reducible exact spec_CanBeTorn.mono _ _ _)
      | (with_reducible exact spec_CountTornTwo.mono _ _ _)
      | (with_reducible exact spec_DrawFirstTornTwo.mono _ _)
      | (with_reducible exact spec_DrawTornFromSum.mono _ _)
      | (with_reducible exact spec_DrawTornLeaf.mono _ _)
      | (with_reducible exact spec_FacingPage.mono _ _ _)
      | (with_reducible exact spec_FirstTornTwo.mono _ _ _)
      | (with_reducible exact spec_TornFromSum.mono _ _)
      | (with_reducible exact LeO.refl _)
      | (with_reducible exact LeO.none _)
      | (with_reducible refine LeO.ite ?_ ?_)
      | (with_reducible refine LeO.bind ?_ (fun _ => ?_))
      | exact ih0 _ _ _ _ _ _ _ _ _
      | exact ih1 _ _ _ _ _ _ _
      | exact ih2 _
      | exact ih3 _ _ _ _ _ _ _ _ _ _ _ _ _ _ _ _ _ _ _ _ _ _ _ _
      | exact ih4 _ _ _ _ _ _ _ _ _ _ _ _ _ _ _ _ _
      | exact ih5 _ _ _ _ _ _ _ _ _ _ _ _ _
      | exact ih6 _ _ _ _ _ _ _ _
      | exact ih7 _ _ _
      | exact ih8 _ _ _ _ _ _ _ _ _ _ _ _ _ _ _ _
      | exact ih9 _ _ _ _ _
      | exact impl_CanBeTorn.mono _ _ _
      | exact impl_CountTornTwo.mono _ _ _
      | exact impl_FirstTornTwo.mono _ _ _
      | exact impl_TornFromSum.mono _ _
      | exact spec_CanBeTorn.mono _ _ _
      | exact spec_CountTornTwo.mono _ _ _
      | exact spec_DrawFirstTornTwo.mono _ _
      | exact spec_DrawTornFromSum.mono _ _
      | exact spec_DrawTornLeaf.mono _ _
      | exact spec_FacingPage.mono _ _ _
      | exact spec_FirstTornTwo.mono _ _ _
      | exact spec_TornFromSum.mono _ _
      | exact LeO.none _
      | refine LeO.ite ?_ ?_
      | refine LeO.bind ?_ (fun _ => ?_)
theorem laws_FnLeavesTorn.mono : ∀ a0 a1 k, LeO (laws_FnLeavesTorn.f k a0 a1) (laws_FnLeavesTorn.f (k + 1) a0 a1) := by
  intro a0 a1 k
  obtain ⟨ih0, ih1, ih2, ih3, ih4, ih5, ih6, ih7, ih8, ih9⟩ := laws_FnLeavesTorn.mono_l k
  unfold laws_FnLeavesTorn.f
  repeat' first
      | (with_reducible exact ih0 _ _ _ _ _ _ _ _ _)
      | (with_reducible exact ih1 _ _ _ _ _ _ _)
      | (with_reducible exact ih2 _)
      | (with_reducible exact ih3 _ _ _ _ _ _ _ _ _ _ _ _ _ _ _ _ _ _ _ _ _ _ _ _)
      | (with_reducible exact ih4 _ _ _ _ _ _ _ _ _ _ _ _ _ _ _ _ _)
      | (with_reducible exact ih5 _ _ _ _ _ _ _ _ _ _ _ _ _)
      | (with_reducible exact ih6 _ _ _ _ _ _ _ _)
      | (with_reducible exact ih7 _ _ _)
      | (with_reducible exact ih8 _ _ _ _ _ _ _ _ _ _ _ _ _ _ _ _)
      | (with_reducible exact ih9 _ _ _ _ _)
      | (with_reducible exact impl_CanBeTorn.mono _ _ _)
      | (with_reducible exact impl_CountTornTwo.mono _ _ _)
      | (with_reducible exact impl_FirstTornTwo.mono _ _ _)
      | (with_reducible exact impl_TornFromSum.mono _ _)
      | (with_reducible exact spec_CanBeTorn.mono _ _ _)
      | (with_reducible exact spec_CountTornTwo.mono _ _ _)
      | (with_reducible exact spec_DrawFirstTornTwo.mono _ _)
      | (with_reducible exact spec_DrawTornFromSum.mono _ _)
      | (with_reducible exact spec_DrawTornLeaf.mono _ _)
      | (with_reducible exact spec_FacingPage.mono _ _ _)
      | (with_reducible exact spec_FirstTornTwo.mono _ _ _)
      | (with_reducible exact spec_TornFromSum.mono _ _)
      | (with_reducible exact LeO.refl _)
      | (with_reducible exact LeO.none _)
      | (with_reducible refine LeO.ite ?_ ?_)
      | (with_reducible refine LeO.bind ?_ (fun _ => ?_))
      | exact ih0 _ _ _ _ _ _ _ _ _
      | exact ih1 _ _ _ _ _ _ _
      | exact ih2 _
      | exact ih3 _ _ _ _ _ _ _ _ _ _ _ _ _ _ _ _ _ _ _ _ _ _ _ _
      | exact ih4 _ _ _ _ _ _ _ _ _ _ _ _ _ _ _ _ _
      | exact ih5 _ _ _ _ _ _ _ _ _ _ _ _ _
      | exact ih6 _ _ _ _ _ _ _ _
      | exact ih7 _ _ _
      | exact ih8 _ _ _ _ _ _ _ _ _ _ _ _ _ _ _ _
      | exact ih9 _ _ _ _ _
      | exact impl_CanBeTorn.mono _ _ _
      | exact impl_CountTornTwo.mono _ _ _
      | exact impl_FirstTornTwo.mono _ _ _
      | exact impl_TornFromSum.mono _ _
      | exact spec_CanBeTorn.mono _ _ _
      | exact spec_CountTornTwo.mono _ _ _
      | exact spec_DrawFirstTornTwo.mono _ _
      | exact spec_DrawTornFromSum.mono _ _
      | exact spec_DrawTornLeaf.mono _ _
      | exact spec_FacingPage.mono _ _ _
      | exact spec_FirstTornTwo.mono _ _ _
      | exact spec_TornFromSum.mono _ _
      | exact LeO.none _
      | refine LeO.ite ?_ ?_
      | refine LeO.bind ?_ (fun _ => ?_)
theorem laws_FnLeavesTorn.j0_dead {k : Nat} {y0 : List Int} {y1 : Int} {y2 : Int} {y3 : Int} {y4 : Bool} {y5 : Int} {y6 : Bool} {y7 : Int} : ¬ laws_FnLeavesTorn.j0 k y0 y1 y2 y3 y4 y5 y6 y7 true = some true := by
  cases k with
  | zero => intro h; rw [laws_FnLeavesTorn.j0] at h; exact absurd h (by simp)
  | succ k => intro h; rw [laws_FnLeavesTorn.j0, if_pos rfl] at h; exact absurd h (by simp)
theorem laws_FnLeavesTorn.j1_dead {k : Nat} {y0 : List Int} {y1 : Int} {y2 : Int} {y3 : Int} {y4 : Bool} {y5 : Int} : ¬ laws_FnLeavesTorn.j1 k y0 y1 y2 y3 y4 y5 true = some true := by
  cases k with
  | zero => intro h; rw [laws_FnLeavesTorn.j1] at h; exact absurd h (by simp)
  | succ k => intro h; rw [laws_FnLeavesTorn.j1, if_pos rfl] at h; exact absurd h (by simp)
theorem laws_FnLeavesTorn.j4_dead {k : Nat} {y0 : Int} {y1 : Int} {y2 : Int} {y3 : Int} {y4 : Bool} {y5 : Int} {y6 : Int} {y7 : Int} {y8 : Int} {y9 : Bool} {y10 : Int} {y11 : Int} {y12 : Int} {y13 : Bool} {y14 : Int} {y15 : Int} {y16 : Int} {y17 : Int} {y18 : Bool} {y19 : Int} {y20 : Bool} {y21 : Bool} {y22 : Bool} : ¬ laws_FnLeavesTorn.j4 k y0 y1 y2 y3 y4 y5 y6 y7 y8 y9 y10 y11 y12 y13 y14 y15 y16 y17 y18 y19 y20 y21 y22 true = some true := by
  cases k with
  | zero => intro h; rw [laws_FnLeavesTorn.j4] at h; exact absurd h (by simp)
  | succ k => intro h; rw [laws_FnLeavesTorn.j4, if_pos rfl] at h; exact absurd h (by simp)
theorem laws_FnLeavesTorn.j6_dead {k : Nat} {y0 : Int} {y1 : Int} {y2 : Int} {y3 : Int} {y4 : Int} {y5 : Bool} {y6 : Int} {y7 : Int} {y8 : Int} {y9 : Int} {y10 : Bool} {y11 : Int} {y12 : Bool} {y13 : Bool} {y14 : Bool} : ¬ laws_FnLeavesTorn.j6 k y0 y1 y2 y3 y4 y5 y6 y7 y8 y9 y10 y11 y12 y13 y14 true = some true := by
  cases k with
  | zero => intro h; rw [laws_FnLeavesTorn.j6] at h; exact absurd h (by simp)
  | succ k => intro h; rw [laws_FnLeavesTorn.j6, if_pos rfl] at h; exact absurd h (by simp)
theorem laws_FnLeavesTorn.j2_dead {k : Nat} {y0 : List Int} {y1 : Int} {y2 : Int} {y3 : Int} : ¬ laws_FnLeavesTorn.j2 k y0 y1 y2 y3 true = some true := by
  cases k with
  | zero => intro h; rw [laws_FnLeavesTorn.j2] at h; exact absurd h (by simp)
  | succ k => intro h; rw [laws_FnLeavesTorn.j2, if_pos rfl] at h; exact absurd h (by simp)
/-- The statements from the n-th on. -/
def laws_FnLeavesTorn.rights : Nat → Code → Code
  | 0, c => c
  | n + 1, .seq _ b => laws_FnLeavesTorn.rights n b
  | _, c => c
def laws_FnLeavesTorn.first : Code → Code
  | .seq a _ => a
  | c => c
def laws_FnLeavesTorn.second : Code → Code
  | .seq _ b => b
  | c => c
set_option maxRecDepth 1000000 in
/-- What follows statement 9. -/
def laws_FnLeavesTorn.P9 : Prop := ∀ (k : Nat) (A1 : Option Addr) (c1 : Nat) (l1 : List Int) (w : World) (HR1 : Aside0 (Kd.C (Kd.int .u8) w A1 l1.length l1)) (HC1 : Aside0 (l1.length ≤ c1)) (t307 : Int) (t308 : Int) (t309 : Int) (t310 : Bool) (t313 : Int) (t314 : Bool) (t317 : Int) (kq : Nat) (x181_11 : Bool) (wc : World) (HA : Aside0 (laws_FnLeavesTorn.j0 kq l1 t307 t308 t309 t310 t313 t314 t317 x181_11 = some true)) (HB : Aside0 (Below w.heap.size w wc)),
    ∀ (u0 u2 u3 u4 u9 u10 u13 u14 u16 u17 u18 u19 u20 u21 u22 u23 u24 u25 u26 u27 u28 u29 u30 u31 u32 u33 u34 u35 u36 u37 u38 u39 u40 u41 u42 u43 u44 u45 u46 u47 u48 u49 u50 u51 u52 u53 u54 u55 u56 u57 u58 u59 u60 u61 u62 u63 u64 u65 u66 u67 u68 u69 u70 u71 u72 u73 u74 u75 u76 u77 u78 u79 u80 u81 u82 u83 u84 u85 u86 u87 u88 u89 u90 u91 u92 u93 u94 u95 u96 u97 u98 u99 u100 u101 u102 u103 u104 u105 u106 u107 u108 u109 u110 u111 u112 u113 u114 u115 u116 u117 u118 u119 u120 u121 u122 u123 u124 u125 u126 u127 u128 u129 u130 u131 u132 u133 u134 u135 u136 u137 u138 u139 u140 u141 u142 u143 u144 u145 u146 u147 u148 u149 u150 u151 u152 u153 u154 u155 u156 u157 u158 u159 u160 u161 u162 u163 u164 u165 u166 u167 u168 u169 u170 u171 u172 u173 u174 u175 u176 u177 u178 u179 u180 u182 u183 u184 u185 u186 u187 u188 u189 u190 u191 u192 u193 u194 u195 u196 u197 u198 u199 u200 u201 u202 u203 u204 u205 u206 u207 u208 u209 u210 u211 u212 u213 u214 u215 u216 u217 u218 u219 u220 u221 u222 u223 u224 u225 u226 u227 u228 u229 u230 u231 u232 u233 u234 u235 u236 u237 u238 u239 u240 u241 u242 u243 u244 u245 u246 u247 u248 u249 u250 u251 u252 u253 u254 u255 u256 u257 u258 u259 u260 u261 u262 u263 u264 u265 u266 u267 u268 u269 u270 u271 u272 u273 u274 u275 u276 u277 u278 u279 u280 u281 u282 u283 u284 u285 u286 u287 u288 u289 u290 u291 u292 u293 u294 u295 u296 u297 u298 u299 u300 u301 u302 u303 u304 u305 u306 u307 u308 u309 u310 u311 u312 u313 u314 u315 u316 u317 u318 u319 u320 u321 u322 u323 u324 u325 u326 u327 u328 u329 u330 u331 u332 u333 u334 u335 u336 u337 u338 u339 u340 u341 u342 u343 u344 u345 u346 u347 u348 u349 u350 u351 u352 u353 u354 u355 u356 u357 u358 u359 u360 u361 u362 u363 u364 u365 u366 u367 u368 u369 u370 u371 u372 u373 u374 u375 u376 u377 u378 u379 u380 u381 u382 u383 u384 u385 u386 u387 u388 u389 u390 u391 u392 u393 u394 u395 u396 u397 u398 u399 u400 u401 u402 u403 u404 u405 u406 u407 u408 u409 u410 u411 u412 u413 u414 u415 u416 u417 u418 u419 u420 u421 u422 u423 u424 u425 u426 u427 u428 u429 u430 u431 u432 u433 u434 u435 u436 u437 u438 u439 u440 u441 u442 u443 u444 u445 u446 u447 u448 u449 u450 u451 u452 u453 u454 u455 u456 u457 u458 u459 u460 u461 u462 u463 u464 u465 u466 u467 u468 u469 u470 u471 u472 u473 u474 u475 u476 u477 u478 u479 u480 u481 u482 u483 u484 u485 u486 u487 u488 u489 u490 u491 u492 u493 u494 u495 u496 u497 u498 u499 u500 u501 u502 u503 u504 u505 u506 u507 u508 u509 u510 u511 u512 u513 u514 u515 u516 u517 u518 u519 u520 u521 u522 u523 u524 u525 u526 u527 u528 u529 u530 u531 u532 u533 u534 u535 u536 u537 u538 u539 u540 u541 u542 u543 u544 u545 u546 u547 u548 u549 u550 u551 u552 u553 u554 u555 u556 u557 u558 u559 u560 u561 u562 u563 u564 u565 u566 u567 u568 u569 u570 u571 u572 u573 u574 u575 u576 u577 u578 u579 u580 u581 u582 u583 u584 u585 u586 u587 u588 u589 u590 u591 u592 u593 u594 u595 u596 u597 u598 u599 u600 u601 u602 u603 u604 u605 u606 u607 u608 u609 u610 u611 u612 u613 u614 u615 u616 u617 u618 u619 u620 u621 u622 u623 u624 u625 u626 u627 u628 u629 u630 u631 u632 u633 u634 u635 u636 u637 u638 u639 u640 u641 u642 u643 u644 u645 u646 u647 u648 u649 u650 u651 u652 u653 u654 u655 u656 u657 u658 u659 u660 u661 u662 u663 u664 u665 u666 u667 u668 u669 u670 u671 u672 u673 u674 u675 u676 u677 u678 u679 u680 u681 u682 u683 u684 u685 u686 u687 u688 u689 u690 u691 u692 u693 u694 u695 u696 u697 u698 u699 u700 u701 u702 u703 u704 u705 u706 u707 u708 u709 u710 u711 u712 u713 u714 u715 u716 u717 u718 u719 u720 u721 u722 u723 u724 u725 u726 u727 u728 u729 u730 u731 u732 u733 u734 u735 : Value), let Q' : Exit → Act → World → Prop := bodyPost Try.prog Try.f5 (fun e w' => e = .returned (.bool true) ∧ Below w.heap.size w w'); ∀ (K1 : Act → World → Prop) (a1 : ∀ a w, Code.wp Try.prog (laws_FnLeavesTorn.rights 10 (Try.f5.body.getD .skip)) Q' a w → K1 a w) (K0 : Act → World → Prop) (a0 : ∀ a w, Code.wp Try.prog (laws_FnLeavesTorn.second (laws_FnLeavesTorn.first (laws_FnLeavesTorn.rights 9 (Try.f5.body.getD .skip)))) (Exit.then K1 Q') a w → K0 a w),
      K0 ⟨#[u0, .slice A1 l1.length c1, u2, u3, u4, .int .i64 t307, .int .i64 t308, .int .i64 t309, .bool t310, u9, u10, .int .i64 t313, .bool t314, u13, u14, .int .i64 t317, u16, u17, u18, u19, u20, u21, u22, u23, u24, u25, u26, u27, u28, u29, u30, u31, u32, u33, u34, u35, u36, u37, u38, u39, u40, u41, u42, u43, u44, u45, u46, u47, u48, u49, u50, u51, u52, u53, u54, u55, u56, u57, u58, u59, u60, u61, u62, u63, u64, u65, u66, u67, u68, u69, u70, u71, u72, u73, u74, u75, u76, u77, u78, u79, u80, u81, u82, u83, u84, u85, u86, u87, u88, u89, u90, u91, u92, u93, u94, u95, u96, u97, u98, u99, u100, u101, u102, u103, u104, u105, u106, u107, u108, u109, u110, u111, u112, u113, u114, u115, u116, u117, u118, u119, u120, u121, u122, u123, u124, u125, u126, u127, u128, u129, u130, u131, u132, u133, u134, u135, u136, u137, u138, u139, u140, u141, u142, u143, u144, u145, u146, u147, u148, u149, u150, u151, u152, u153, u154, u155, u156, u157, u158, u159, u160, u161, u162, u163, u164, u165, u166, u167, u168, u169, u170, u171, u172, u173, u174, u175, u176, u177, u178, u179, u180, .bool x181_11, u182, u183, u184, u185, u186, u187, u188, u189, u190, u191, u192, u193, u194, u195, u196, u197, u198, u199, u200, u201, u202, u203, u204, u205, u206, u207, u208, u209, u210, u211, u212, u213, u214, u215, u216, u217, u218, u219, u220, u221, u222, u223, u224, u225, u226, u227, u228, u229, u230, u231, u232, u233, u234, u235, u236, u237, u238, u239, u240, u241, u242, u243, u244, u245, u246, u247, u248, u249, u250, u251, u252, u253, u254, u255, u256, u257, u258, u259, u260, u261, u262, u263, u264, u265, u266, u267, u268, u269, u270, u271, u272, u273, u274, u275, u276, u277, u278, u279, u280, u281, u282, u283, u284, u285, u286, u287, u288, u289, u290, u291, u292, u293, u294, u295, u296, u297, u298, u299, u300, u301, u302, u303, u304, u305, u306, u307, u308, u309, u310, u311, u312, u313, u314, u315, u316, u317, u318, u319, u320, u321, u322, u323, u324, u325, u326, u327, u328, u329, u330, u331, u332, u333, u334, u335, u336, u337, u338, u339, u340, u341, u342, u343, u344, u345, u346, u347, u348, u349, u350, u351, u352, u353, u354, u355, u356, u357, u358, u359, u360, u361, u362, u363, u364, u365, u366, u367, u368, u369, u370, u371, u372, u373, u374, u375, u376, u377, u378, u379, u380, u381, u382, u383, u384, u385, u386, u387, u388, u389, u390, u391, u392, u393, u394, u395, u396, u397, u398, u399, u400, u401, u402, u403, u404, u405, u406, u407, u408, u409, u410, u411, u412, u413, u414, u415, u416, u417, u418, u419, u420, u421, u422, u423, u424, u425, u426, u427, u428, u429, u430, u431, u432, u433, u434, u435, u436, u437, u438, u439, u440, u441, u442, u443, u444, u445, u446, u447, u448, u449, u450, u451, u452, u453, u454, u455, u456, u457, u458, u459, u460, u461, u462, u463, u464, u465, u466, u467, u468, u469, u470, u471, u472, u473, u474, u475, u476, u477, u478, u479, u480, u481, u482, u483, u484, u485, u486, u487, u488, u489, u490, u491, u492, u493, u494, u495, u496, u497, u498, u499, u500, u501, u502, u503, u504, u505, u506, u507, u508, u509, u510, u511, u512, u513, u514, u515, u516, u517, u518, u519, u520, u521, u522, u523, u524, u525, u526, u527, u528, u529, u530, u531, u532, u533, u534, u535, u536, u537, u538, u539, u540, u541, u542, u543, u544, u545, u546, u547, u548, u549, u550, u551, u552, u553, u554, u555, u556, u557, u558, u559, u560, u561, u562, u563, u564, u565, u566, u567, u568, u569, u570, u571, u572, u573, u574, u575, u576, u577, u578, u579, u580, u581, u582, u583, u584, u585, u586, u587, u588, u589, u590, u591, u592, u593, u594, u595, u596, u597, u598, u599, u600, u601, u602, u603, u604, u605, u606, u607, u608, u609, u610, u611, u612, u613, u614, u615, u616, u617, u618, u619, u620, u621, u622, u623, u624, u625, u626, u627, u628, u629, u630, u631, u632, u633, u634, u635, u636, u637, u638, u639, u640, u641, u642, u643, u644, u645, u646, u647, u648, u649, u650, u651, u652, u653, u654, u655, u656, u657, u658, u659, u660, u661, u662, u663, u664, u665, u666, u667, u668, u669, u670, u671, u672, u673, u674, u675, u676, u677, u678, u679, u680, u681, u682, u683, u684, u685, u686, u687, u688, u689, u690, u691, u692, u693, u694, u695, u696, u697, u698, u699, u700, u701, u702, u703, u704, u705, u706, u707, u708, u709, u710, u711, u712, u713, u714, u715, u716, u717, u718, u719, u720, u721, u722, u723, u724, u725, u726, u727, u728, u729, u730, u731, u732, u733, u734, u735], []⟩ wc
set_option maxRecDepth 1000000 in
/-- What follows statement 10. -/
def laws_FnLeavesTorn.P10 : Prop := ∀ (A1 : Option Addr) (c1 : Nat) (l1 : List Int) (w : World) (HR1 : Aside0 (Kd.C (Kd.int .u8) w A1 l1.length l1)) (HC1 : Aside0 (l1.length ≤ c1)) (t307 : Int) (t308 : Int) (t309 : Int) (t310 : Bool) (t313 : Int) (kq : Nat) (x204_22 : Bool) (wc : World) (HA : Aside0 (laws_FnLeavesTorn.j1 kq l1 t307 t308 t309 t310 t313 x204_22 = some true)) (HB : Aside0 (Below w.heap.size w wc)),
    ∀ (u0 u2 u3 u4 u9 u10 u12 u13 u14 u15 u16 u17 u18 u19 u20 u21 u22 u23 u24 u25 u26 u27 u28 u29 u30 u31 u32 u33 u34 u35 u36 u37 u38 u39 u40 u41 u42 u43 u44 u45 u46 u47 u48 u49 u50 u51 u52 u53 u54 u55 u56 u57 u58 u59 u60 u61 u62 u63 u64 u65 u66 u67 u68 u69 u70 u71 u72 u73 u74 u75 u76 u77 u78 u79 u80 u81 u82 u83 u84 u85 u86 u87 u88 u89 u90 u91 u92 u93 u94 u95 u96 u97 u98 u99 u100 u101 u102 u103 u104 u105 u106 u107 u108 u109 u110 u111 u112 u113 u114 u115 u116 u117 u118 u119 u120 u121 u122 u123 u124 u125 u126 u127 u128 u129 u130 u131 u132 u133 u134 u135 u136 u137 u138 u139 u140 u141 u142 u143 u144 u145 u146 u147 u148 u149 u150 u151 u152 u153 u154 u155 u156 u157 u158 u159 u160 u161 u162 u163 u164 u165 u166 u167 u168 u169 u170 u171 u172 u173 u174 u175 u176 u177 u178 u179 u180 u181 u182 u183 u184 u185 u186 u187 u188 u189 u190 u191 u192 u193 u194 u195 u196 u197 u198 u199 u200 u201 u202 u203 u205 u206 u207 u208 u209 u210 u211 u212 u213 u214 u215 u216 u217 u218 u219 u220 u221 u222 u223 u224 u225 u226 u227 u228 u229 u230 u231 u232 u233 u234 u235 u236 u237 u238 u239 u240 u241 u242 u243 u244 u245 u246 u247 u248 u249 u250 u251 u252 u253 u254 u255 u256 u257 u258 u259 u260 u261 u262 u263 u264 u265 u266 u267 u268 u269 u270 u271 u272 u273 u274 u275 u276 u277 u278 u279 u280 u281 u282 u283 u284 u285 u286 u287 u288 u289 u290 u291 u292 u293 u294 u295 u296 u297 u298 u299 u300 u301 u302 u303 u304 u305 u306 u307 u308 u309 u310 u311 u312 u313 u314 u315 u316 u317 u318 u319 u320 u321 u322 u323 u324 u325 u326 u327 u328 u329 u330 u331 u332 u333 u334 u335 u336 u337 u338 u339 u340 u341 u342 u343 u344 u345 u346 u347 u348 u349 u350 u351 u352 u353 u354 u355 u356 u357 u358 u359 u360 u361 u362 u363 u364 u365 u366 u367 u368 u369 u370 u371 u372 u373 u374 u375 u376 u377 u378 u379 u380 u381 u382 u383 u384 u385 u386 u387 u388 u389 u390 u391 u392 u393 u394 u395 u396 u397 u398 u399 u400 u401 u402 u403 u404 u405 u406 u407 u408 u409 u410 u411 u412 u413 u414 u415 u416 u417 u418 u419 u420 u421 u422 u423 u424 u425 u426 u427 u428 u429 u430 u431 u432 u433 u434 u435 u436 u437 u438 u439 u440 u441 u442 u443 u444 u445 u446 u447 u448 u449 u450 u451 u452 u453 u454 u455 u456 u457 u458 u459 u460 u461 u462 u463 u464 u465 u466 u467 u468 u469 u470 u471 u472 u473 u474 u475 u476 u477 u478 u479 u480 u481 u482 u483 u484 u485 u486 u487 u488 u489 u490 u491 u492 u493 u494 u495 u496 u497 u498 u499 u500 u501 u502 u503 u504 u505 u506 u507 u508 u509 u510 u511 u512 u513 u514 u515 u516 u517 u518 u519 u520 u521 u522 u523 u524 u525 u526 u527 u528 u529 u530 u531 u532 u533 u534 u535 u536 u537 u538 u539 u540 u541 u542 u543 u544 u545 u546 u547 u548 u549 u550 u551 u552 u553 u554 u555 u556 u557 u558 u559 u560 u561 u562 u563 u564 u565 u566 u567 u568 u569 u570 u571 u572 u573 u574 u575 u576 u577 u578 u579 u580 u581 u582 u583 u584 u585 u586 u587 u588 u589 u590 u591 u592 u593 u594 u595 u596 u597 u598 u599 u600 u601 u602 u603 u604 u605 u606 u607 u608 u609 u610 u611 u612 u613 u614 u615 u616 u617 u618 u619 u620 u621 u622 u623 u624 u625 u626 u627 u628 u629 u630 u631 u632 u633 u634 u635 u636 u637 u638 u639 u640 u641 u642 u643 u644 u645 u646 u647 u648 u649 u650 u651 u652 u653 u654 u655 u656 u657 u658 u659 u660 u661 u662 u663 u664 u665 u666 u667 u668 u669 u670 u671 u672 u673 u674 u675 u676 u677 u678 u679 u680 u681 u682 u683 u684 u685 u686 u687 u688 u689 u690 u691 u692 u693 u694 u695 u696 u697 u698 u699 u700 u701 u702 u703 u704 u705 u706 u707 u708 u709 u710 u711 u712 u713 u714 u715 u716 u717 u718 u719 u720 u721 u722 u723 u724 u725 u726 u727 u728 u729 u730 u731 u732 u733 u734 u735 : Value), let Q' : Exit → Act → World → Prop := bodyPost Try.prog Try.f5 (fun e w' => e = .returned (.bool true) ∧ Below w.heap.size w w'); ∀ (K1 : Act → World → Prop) (a1 : ∀ a w, Code.wp Try.prog (laws_FnLeavesTorn.rights 11 (Try.f5.body.getD .skip)) Q' a w → K1 a w) (K0 : Act → World → Prop) (a0 : ∀ a w, Code.wp Try.prog (laws_FnLeavesTorn.second (laws_FnLeavesTorn.first (laws_FnLeavesTorn.rights 10 (Try.f5.body.getD .skip)))) (Exit.then K1 Q') a w → K0 a w),
      K0 ⟨#[u0, .slice A1 l1.length c1, u2, u3, u4, .int .i64 t307, .int .i64 t308, .int .i64 t309, .bool t310, u9, u10, .int .i64 t313, u12, u13, u14, u15, u16, u17, u18, u19, u20, u21, u22, u23, u24, u25, u26, u27, u28, u29, u30, u31, u32, u33, u34, u35, u36, u37, u38, u39, u40, u41, u42, u43, u44, u45, u46, u47, u48, u49, u50, u51, u52, u53, u54, u55, u56, u57, u58, u59, u60, u61, u62, u63, u64, u65, u66, u67, u68, u69, u70, u71, u72, u73, u74, u75, u76, u77, u78, u79, u80, u81, u82, u83, u84, u85, u86, u87, u88, u89, u90, u91, u92, u93, u94, u95, u96, u97, u98, u99, u100, u101, u102, u103, u104, u105, u106, u107, u108, u109, u110, u111, u112, u113, u114, u115, u116, u117, u118, u119, u120, u121, u122, u123, u124, u125, u126, u127, u128, u129, u130, u131, u132, u133, u134, u135, u136, u137, u138, u139, u140, u141, u142, u143, u144, u145, u146, u147, u148, u149, u150, u151, u152, u153, u154, u155, u156, u157, u158, u159, u160, u161, u162, u163, u164, u165, u166, u167, u168, u169, u170, u171, u172, u173, u174, u175, u176, u177, u178, u179, u180, u181, u182, u183, u184, u185, u186, u187, u188, u189, u190, u191, u192, u193, u194, u195, u196, u197, u198, u199, u200, u201, u202, u203, .bool x204_22, u205, u206, u207, u208, u209, u210, u211, u212, u213, u214, u215, u216, u217, u218, u219, u220, u221, u222, u223, u224, u225, u226, u227, u228, u229, u230, u231, u232, u233, u234, u235, u236, u237, u238, u239, u240, u241, u242, u243, u244, u245, u246, u247, u248, u249, u250, u251, u252, u253, u254, u255, u256, u257, u258, u259, u260, u261, u262, u263, u264, u265, u266, u267, u268, u269, u270, u271, u272, u273, u274, u275, u276, u277, u278, u279, u280, u281, u282, u283, u284, u285, u286, u287, u288, u289, u290, u291, u292, u293, u294, u295, u296, u297, u298, u299, u300, u301, u302, u303, u304, u305, u306, u307, u308, u309, u310, u311, u312, u313, u314, u315, u316, u317, u318, u319, u320, u321, u322, u323, u324, u325, u326, u327, u328, u329, u330, u331, u332, u333, u334, u335, u336, u337, u338, u339, u340, u341, u342, u343, u344, u345, u346, u347, u348, u349, u350, u351, u352, u353, u354, u355, u356, u357, u358, u359, u360, u361, u362, u363, u364, u365, u366, u367, u368, u369, u370, u371, u372, u373, u374, u375, u376, u377, u378, u379, u380, u381, u382, u383, u384, u385, u386, u387, u388, u389, u390, u391, u392, u393, u394, u395, u396, u397, u398, u399, u400, u401, u402, u403, u404, u405, u406, u407, u408, u409, u410, u411, u412, u413, u414, u415, u416, u417, u418, u419, u420, u421, u422, u423, u424, u425, u426, u427, u428, u429, u430, u431, u432, u433, u434, u435, u436, u437, u438, u439, u440, u441, u442, u443, u444, u445, u446, u447, u448, u449, u450, u451, u452, u453, u454, u455, u456, u457, u458, u459, u460, u461, u462, u463, u464, u465, u466, u467, u468, u469, u470, u471, u472, u473, u474, u475, u476, u477, u478, u479, u480, u481, u482, u483, u484, u485, u486, u487, u488, u489, u490, u491, u492, u493, u494, u495, u496, u497, u498, u499, u500, u501, u502, u503, u504, u505, u506, u507, u508, u509, u510, u511, u512, u513, u514, u515, u516, u517, u518, u519, u520, u521, u522, u523, u524, u525, u526, u527, u528, u529, u530, u531, u532, u533, u534, u535, u536, u537, u538, u539, u540, u541, u542, u543, u544, u545, u546, u547, u548, u549, u550, u551, u552, u553, u554, u555, u556, u557, u558, u559, u560, u561, u562, u563, u564, u565, u566, u567, u568, u569, u570, u571, u572, u573, u574, u575, u576, u577, u578, u579, u580, u581, u582, u583, u584, u585, u586, u587, u588, u589, u590, u591, u592, u593, u594, u595, u596, u597, u598, u599, u600, u601, u602, u603, u604, u605, u606, u607, u608, u609, u610, u611, u612, u613, u614, u615, u616, u617, u618, u619, u620, u621, u622, u623, u624, u625, u626, u627, u628, u629, u630, u631, u632, u633, u634, u635, u636, u637, u638, u639, u640, u641, u642, u643, u644, u645, u646, u647, u648, u649, u650, u651, u652, u653, u654, u655, u656, u657, u658, u659, u660, u661, u662, u663, u664, u665, u666, u667, u668, u669, u670, u671, u672, u673, u674, u675, u676, u677, u678, u679, u680, u681, u682, u683, u684, u685, u686, u687, u688, u689, u690, u691, u692, u693, u694, u695, u696, u697, u698, u699, u700, u701, u702, u703, u704, u705, u706, u707, u708, u709, u710, u711, u712, u713, u714, u715, u716, u717, u718, u719, u720, u721, u722, u723, u724, u725, u726, u727, u728, u729, u730, u731, u732, u733, u734, u735], []⟩ wc
set_option maxRecDepth 1000000 in
/-- What follows statement 11. -/
def laws_FnLeavesTorn.P11 : Prop := ∀ (A1 : Option Addr) (c1 : Nat) (l1 : List Int) (w : World) (HR1 : Aside0 (Kd.C (Kd.int .u8) w A1 l1.length l1)) (HC1 : Aside0 (l1.length ≤ c1)) (kq : Nat) (wc : World) (HA : Aside0 (laws_FnLeavesTorn.j3 kq l1 = some true)) (HB : Aside0 (Below w.heap.size w wc)),
    ∀ (u0 u2 u3 u4 u5 u6 u7 u8 u9 u10 u11 u12 u13 u14 u15 u16 u17 u18 u19 u20 u21 u22 u23 u24 u25 u26 u27 u28 u29 u30 u31 u32 u33 u34 u35 u36 u37 u38 u39 u40 u41 u42 u43 u44 u45 u46 u47 u48 u49 u50 u51 u52 u53 u54 u55 u56 u57 u58 u59 u60 u61 u62 u63 u64 u65 u66 u67 u68 u69 u70 u71 u72 u73 u74 u75 u76 u77 u78 u79 u80 u81 u82 u83 u84 u85 u86 u87 u88 u89 u90 u91 u92 u93 u94 u95 u96 u97 u98 u99 u100 u101 u102 u103 u104 u105 u106 u107 u108 u109 u110 u111 u112 u113 u114 u115 u116 u117 u118 u119 u120 u121 u122 u123 u124 u125 u126 u127 u128 u129 u130 u131 u132 u133 u134 u135 u136 u137 u138 u139 u140 u141 u142 u143 u144 u145 u146 u147 u148 u149 u150 u151 u152 u153 u154 u155 u156 u157 u158 u159 u160 u161 u162 u163 u164 u165 u166 u167 u168 u169 u170 u171 u172 u173 u174 u175 u176 u177 u178 u179 u180 u181 u182 u183 u184 u185 u186 u187 u188 u189 u190 u191 u192 u193 u194 u195 u196 u197 u198 u199 u200 u201 u202 u203 u204 u205 u206 u207 u208 u209 u210 u211 u212 u213 u214 u215 u216 u217 u218 u219 u220 u221 u222 u223 u224 u225 u226 u227 u228 u229 u230 u231 u232 u233 u234 u235 u236 u237 u238 u239 u240 u241 u242 u243 u244 u245 u246 u247 u248 u249 u250 u251 u252 u253 u254 u255 u256 u257 u258 u259 u260 u261 u262 u263 u264 u265 u266 u267 u268 u269 u270 u271 u272 u273 u274 u275 u276 u277 u278 u279 u280 u281 u282 u283 u284 u285 u286 u287 u288 u289 u290 u291 u292 u293 u294 u295 u296 u297 u298 u299 u300 u301 u302 u303 u304 u305 u306 u307 u308 u309 u310 u311 u312 u313 u314 u315 u316 u317 u318 u319 u320 u321 u322 u323 u324 u325 u326 u327 u328 u329 u330 u331 u332 u333 u334 u335 u336 u337 u338 u339 u340 u341 u342 u343 u344 u345 u346 u347 u348 u349 u350 u351 u352 u353 u354 u355 u356 u357 u358 u359 u360 u361 u362 u363 u364 u365 u366 u367 u368 u369 u370 u371 u372 u373 u374 u375 u376 u377 u378 u379 u380 u381 u382 u383 u384 u385 u386 u387 u388 u389 u390 u391 u392 u393 u394 u395 u396 u397 u398 u399 u400 u401 u402 u403 u404 u405 u406 u407 u408 u409 u410 u411 u412 u413 u414 u415 u416 u417 u418 u419 u420 u421 u422 u423 u424 u425 u426 u427 u428 u429 u430 u431 u432 u433 u434 u435 u436 u437 u438 u439 u440 u441 u442 u443 u444 u445 u446 u447 u448 u449 u450 u451 u452 u453 u454 u455 u456 u457 u458 u459 u460 u461 u462 u463 u464 u465 u466 u467 u468 u469 u470 u471 u472 u473 u474 u475 u476 u477 u478 u479 u480 u481 u482 u483 u484 u485 u486 u487 u488 u489 u490 u491 u492 u493 u494 u495 u496 u497 u498 u499 u500 u501 u502 u503 u504 u505 u506 u507 u508 u509 u510 u511 u512 u513 u514 u515 u516 u517 u518 u519 u520 u521 u522 u523 u524 u525 u526 u527 u528 u529 u530 u531 u532 u533 u534 u535 u536 u537 u538 u539 u540 u541 u542 u543 u544 u545 u546 u547 u548 u549 u550 u551 u552 u553 u554 u555 u556 u557 u558 u559 u560 u561 u562 u563 u564 u565 u566 u567 u568 u569 u570 u571 u572 u573 u574 u575 u576 u577 u578 u579 u580 u581 u582 u583 u584 u585 u586 u587 u588 u589 u590 u591 u592 u593 u594 u595 u596 u597 u598 u599 u600 u601 u602 u603 u604 u605 u606 u607 u608 u609 u610 u611 u612 u613 u614 u615 u616 u617 u618 u619 u620 u621 u622 u623 u624 u625 u626 u627 u628 u629 u630 u631 u632 u633 u634 u635 u636 u637 u638 u639 u640 u641 u642 u643 u644 u645 u646 u647 u648 u649 u650 u651 u652 u653 u654 u655 u656 u657 u658 u659 u660 u661 u662 u663 u664 u665 u666 u667 u668 u669 u670 u671 u672 u673 u674 u675 u676 u677 u678 u679 u680 u681 u682 u683 u684 u685 u686 u687 u688 u689 u690 u691 u692 u693 u694 u695 u696 u697 u698 u699 u700 u701 u702 u703 u704 u705 u706 u707 u708 u709 u710 u711 u712 u713 u714 u715 u716 u717 u718 u719 u720 u721 u722 u723 u724 u725 u726 u727 u728 u729 u730 u731 u732 u733 u734 u735 : Value), let Q' : Exit → Act → World → Prop := bodyPost Try.prog Try.f5 (fun e w' => e = .returned (.bool true) ∧ Below w.heap.size w w'); ∀ (K1 : Act → World → Prop) (a1 : ∀ a w, Code.wp Try.prog (laws_FnLeavesTorn.rights 12 (Try.f5.body.getD .skip)) Q' a w → K1 a w),
      K1 ⟨#[u0, .slice A1 l1.length c1, u2, u3, u4, u5, u6, u7, u8, u9, u10, u11, u12, u13, u14, u15, u16, u17, u18, u19, u20, u21, u22, u23, u24, u25, u26, u27, u28, u29, u30, u31, u32, u33, u34, u35, u36, u37, u38, u39, u40, u41, u42, u43, u44, u45, u46, u47, u48, u49, u50, u51, u52, u53, u54, u55, u56, u57, u58, u59, u60, u61, u62, u63, u64, u65, u66, u67, u68, u69, u70, u71, u72, u73, u74, u75, u76, u77, u78, u79, u80, u81, u82, u83, u84, u85, u86, u87, u88, u89, u90, u91, u92, u93, u94, u95, u96, u97, u98, u99, u100, u101, u102, u103, u104, u105, u106, u107, u108, u109, u110, u111, u112, u113, u114, u115, u116, u117, u118, u119, u120, u121, u122, u123, u124, u125, u126, u127, u128, u129, u130, u131, u132, u133, u134, u135, u136, u137, u138, u139, u140, u141, u142, u143, u144, u145, u146, u147, u148, u149, u150, u151, u152, u153, u154, u155, u156, u157, u158, u159, u160, u161, u162, u163, u164, u165, u166, u167, u168, u169, u170, u171, u172, u173, u174, u175, u176, u177, u178, u179, u180, u181, u182, u183, u184, u185, u186, u187, u188, u189, u190, u191, u192, u193, u194, u195, u196, u197, u198, u199, u200, u201, u202, u203, u204, u205, u206, u207, u208, u209, u210, u211, u212, u213, u214, u215, u216, u217, u218, u219, u220, u221, u222, u223, u224, u225, u226, u227, u228, u229, u230, u231, u232, u233, u234, u235, u236, u237, u238, u239, u240, u241, u242, u243, u244, u245, u246, u247, u248, u249, u250, u251, u252, u253, u254, u255, u256, u257, u258, u259, u260, u261, u262, u263, u264, u265, u266, u267, u268, u269, u270, u271, u272, u273, u274, u275, u276, u277, u278, u279, u280, u281, u282, u283, u284, u285, u286, u287, u288, u289, u290, u291, u292, u293, u294, u295, u296, u297, u298, u299, u300, u301, u302, u303, u304, u305, u306, u307, u308, u309, u310, u311, u312, u313, u314, u315, u316, u317, u318, u319, u320, u321, u322, u323, u324, u325, u326, u327, u328, u329, u330, u331, u332, u333, u334, u335, u336, u337, u338, u339, u340, u341, u342, u343, u344, u345, u346, u347, u348, u349, u350, u351, u352, u353, u354, u355, u356, u357, u358, u359, u360, u361, u362, u363, u364, u365, u366, u367, u368, u369, u370, u371, u372, u373, u374, u375, u376, u377, u378, u379, u380, u381, u382, u383, u384, u385, u386, u387, u388, u389, u390, u391, u392, u393, u394, u395, u396, u397, u398, u399, u400, u401, u402, u403, u404, u405, u406, u407, u408, u409, u410, u411, u412, u413, u414, u415, u416, u417, u418, u419, u420, u421, u422, u423, u424, u425, u426, u427, u428, u429, u430, u431, u432, u433, u434, u435, u436, u437, u438, u439, u440, u441, u442, u443, u444, u445, u446, u447, u448, u449, u450, u451, u452, u453, u454, u455, u456, u457, u458, u459, u460, u461, u462, u463, u464, u465, u466, u467, u468, u469, u470, u471, u472, u473, u474, u475, u476, u477, u478, u479, u480, u481, u482, u483, u484, u485, u486, u487, u488, u489, u490, u491, u492, u493, u494, u495, u496, u497, u498, u499, u500, u501, u502, u503, u504, u505, u506, u507, u508, u509, u510, u511, u512, u513, u514, u515, u516, u517, u518, u519, u520, u521, u522, u523, u524, u525, u526, u527, u528, u529, u530, u531, u532, u533, u534, u535, u536, u537, u538, u539, u540, u541, u542, u543, u544, u545, u546, u547, u548, u549, u550, u551, u552, u553, u554, u555, u556, u557, u558, u559, u560, u561, u562, u563, u564, u565, u566, u567, u568, u569, u570, u571, u572, u573, u574, u575, u576, u577, u578, u579, u580, u581, u582, u583, u584, u585, u586, u587, u588, u589, u590, u591, u592, u593, u594, u595, u596, u597, u598, u599, u600, u601, u602, u603, u604, u605, u606, u607, u608, u609, u610, u611, u612, u613, u614, u615, u616, u617, u618, u619, u620, u621, u622, u623, u624, u625, u626, u627, u628, u629, u630, u631, u632, u633, u634, u635, u636, u637, u638, u639, u640, u641, u642, u643, u644, u645, u646, u647, u648, u649, u650, u651, u652, u653, u654, u655, u656, u657, u658, u659, u660, u661, u662, u663, u664, u665, u666, u667, u668, u669, u670, u671, u672, u673, u674, u675, u676, u677, u678, u679, u680, u681, u682, u683, u684, u685, u686, u687, u688, u689, u690, u691, u692, u693, u694, u695, u696, u697, u698, u699, u700, u701, u702, u703, u704, u705, u706, u707, u708, u709, u710, u711, u712, u713, u714, u715, u716, u717, u718, u719, u720, u721, u722, u723, u724, u725, u726, u727, u728, u729, u730, u731, u732, u733, u734, u735], []⟩ wc
set_option maxRecDepth 1000000 in
/-- What follows statement 35. -/
def laws_FnLeavesTorn.P35 : Prop := ∀ (w : World) (t328 : Int) (t329 : Int) (t330 : Int) (t331 : Int) (t332 : Bool) (t336 : Int) (t340 : Int) (t341 : Int) (t342 : Int) (t343 : Bool) (t353 : Int) (t354 : Int) (t355 : Int) (t356 : Bool) (t360 : Int) (t364 : Int) (t365 : Int) (t366 : Int) (t367 : Bool) (t370 : Int) (t371 : Bool) (t374 : Bool) (t375 : Bool) (kq : Nat) (x509_67 : Bool) (wc : World) (HA : Aside0 (laws_FnLeavesTorn.j4 kq t328 t329 t330 t331 t332 t336 t340 t341 t342 t343 t353 t354 t355 t356 t360 t364 t365 t366 t367 t370 t371 t374 t375 x509_67 = some true)) (HB : Aside0 (Below w.heap.size w wc)),
    ∀ (u0 u1 u2 u3 u4 u5 u6 u7 u8 u9 u10 u11 u12 u13 u14 u15 u16 u17 u18 u19 u20 u21 u22 u23 u24 u25 u31 u32 u33 u35 u36 u37 u42 u43 u44 u45 u46 u47 u48 u49 u50 u55 u56 u57 u59 u60 u61 u66 u67 u70 u71 u74 u75 u76 u77 u78 u79 u80 u81 u82 u83 u84 u85 u86 u87 u88 u89 u90 u91 u92 u93 u94 u95 u96 u97 u98 u99 u100 u101 u102 u103 u104 u105 u106 u107 u108 u109 u110 u111 u112 u113 u114 u115 u116 u117 u118 u119 u120 u121 u122 u123 u124 u125 u126 u127 u128 u129 u130 u131 u132 u133 u134 u135 u136 u137 u138 u139 u140 u141 u142 u143 u144 u145 u146 u147 u148 u149 u150 u151 u152 u153 u154 u155 u156 u157 u158 u159 u160 u161 u162 u163 u164 u165 u166 u167 u168 u169 u170 u171 u172 u173 u174 u175 u176 u177 u178 u179 u180 u181 u182 u183 u184 u185 u186 u187 u188 u189 u190 u191 u192 u193 u194 u195 u196 u197 u198 u199 u200 u201 u202 u203 u204 u205 u206 u207 u208 u209 u210 u211 u212 u213 u214 u215 u216 u217 u218 u219 u220 u221 u222 u223 u224 u225 u226 u227 u228 u229 u230 u231 u232 u233 u234 u235 u236 u237 u238 u239 u240 u241 u242 u243 u244 u245 u246 u247 u248 u249 u250 u251 u252 u253 u254 u255 u256 u257 u258 u259 u260 u261 u262 u263 u264 u265 u266 u267 u268 u269 u270 u271 u272 u273 u274 u275 u276 u277 u278 u279 u280 u281 u282 u283 u284 u285 u286 u287 u288 u289 u290 u291 u292 u293 u294 u295 u296 u297 u298 u299 u300 u301 u302 u303 u304 u305 u306 u307 u308 u309 u310 u311 u312 u313 u314 u315 u316 u317 u318 u319 u320 u321 u322 u323 u324 u325 u326 u327 u328 u329 u330 u331 u332 u333 u334 u335 u336 u337 u338 u339 u340 u341 u342 u343 u344 u345 u346 u347 u348 u349 u350 u351 u352 u353 u354 u355 u356 u357 u358 u359 u360 u361 u362 u363 u364 u365 u366 u367 u368 u369 u370 u371 u372 u373 u374 u375 u376 u377 u378 u379 u380 u381 u382 u383 u384 u385 u386 u387 u388 u389 u390 u391 u392 u393 u394 u395 u396 u397 u398 u399 u400 u401 u402 u403 u404 u405 u406 u407 u408 u409 u410 u411 u412 u413 u414 u415 u416 u417 u418 u419 u420 u421 u422 u423 u424 u425 u426 u427 u428 u429 u430 u431 u432 u433 u434 u435 u436 u437 u438 u439 u440 u441 u442 u443 u444 u445 u446 u447 u448 u449 u450 u451 u452 u453 u454 u455 u456 u457 u458 u459 u460 u461 u462 u463 u464 u465 u466 u467 u468 u469 u470 u471 u472 u473 u474 u475 u476 u477 u478 u479 u480 u481 u482 u483 u484 u485 u486 u487 u488 u489 u490 u491 u492 u493 u494 u495 u496 u497 u498 u499 u500 u501 u502 u503 u504 u505 u506 u507 u508 u510 u511 u512 u513 u514 u515 u516 u517 u518 u519 u520 u521 u522 u523 u524 u525 u526 u527 u528 u529 u530 u531 u532 u533 u534 u535 u536 u537 u538 u539 u540 u541 u542 u543 u544 u545 u546 u547 u548 u549 u550 u551 u552 u553 u554 u555 u556 u557 u558 u559 u560 u561 u562 u563 u564 u565 u566 u567 u568 u569 u570 u571 u572 u573 u574 u575 u576 u577 u578 u579 u580 u581 u582 u583 u584 u585 u586 u587 u588 u589 u590 u591 u592 u593 u594 u595 u596 u597 u598 u599 u600 u601 u602 u603 u604 u605 u606 u607 u608 u609 u610 u611 u612 u613 u614 u615 u616 u617 u618 u619 u620 u621 u622 u623 u624 u625 u626 u627 u628 u629 u630 u631 u632 u633 u634 u635 u636 u637 u638 u639 u640 u641 u642 u643 u644 u645 u646 u647 u648 u649 u650 u651 u652 u653 u654 u655 u656 u657 u658 u659 u660 u661 u662 u663 u664 u665 u666 u667 u668 u669 u670 u671 u672 u673 u674 u675 u676 u677 u678 u679 u680 u681 u682 u683 u684 u685 u686 u687 u688 u689 u690 u691 u692 u693 u694 u695 u696 u697 u698 u699 u700 u701 u702 u703 u704 u705 u706 u707 u708 u709 u710 u711 u712 u713 u714 u715 u716 u717 u718 u719 u720 u721 u722 u723 u724 u725 u726 u727 u728 u729 u730 u731 u732 u733 u734 u735 : Value), let Q' : Exit → Act → World → Prop := bodyPost Try.prog Try.f5 (fun e w' => e = .returned (.bool true) ∧ Below w.heap.size w w'); ∀ (K1 : Act → World → Prop) (a1 : ∀ a w, Code.wp Try.prog (laws_FnLeavesTorn.rights 36 (Try.f5.body.getD .skip)) Q' a w → K1 a w) (K0 : Act → World → Prop) (a0 : ∀ a w, Code.wp Try.prog (laws_FnLeavesTorn.second (laws_FnLeavesTorn.first (laws_FnLeavesTorn.rights 35 (Try.f5.body.getD .skip)))) (Exit.then K1 Q') a w → K0 a w),
      K0 ⟨#[u0, u1, u2, u3, u4, u5, u6, u7, u8, u9, u10, u11, u12, u13, u14, u15, u16, u17, u18, u19, u20, u21, u22, u23, u24, u25, .int .i64 t328, .int .i64 t329, .int .i64 t330, .int .i64 t331, .bool t332, u31, u32, u33, .int .i64 t336, u35, u36, u37, .int .i64 t340, .int .i64 t341, .int .i64 t342, .bool t343, u42, u43, u44, u45, u46, u47, u48, u49, u50, .int .i64 t353, .int .i64 t354, .int .i64 t355, .bool t356, u55, u56, u57, .int .i64 t360, u59, u60, u61, .int .i64 t364, .int .i64 t365, .int .i64 t366, .bool t367, u66, u67, .int .i64 t370, .bool t371, u70, u71, .bool t374, .bool t375, u74, u75, u76, u77, u78, u79, u80, u81, u82, u83, u84, u85, u86, u87, u88, u89, u90, u91, u92, u93, u94, u95, u96, u97, u98, u99, u100, u101, u102, u103, u104, u105, u106, u107, u108, u109, u110, u111, u112, u113, u114, u115, u116, u117, u118, u119, u120, u121, u122, u123, u124, u125, u126, u127, u128, u129, u130, u131, u132, u133, u134, u135, u136, u137, u138, u139, u140, u141, u142, u143, u144, u145, u146, u147, u148, u149, u150, u151, u152, u153, u154, u155, u156, u157, u158, u159, u160, u161, u162, u163, u164, u165, u166, u167, u168, u169, u170, u171, u172, u173, u174, u175, u176, u177, u178, u179, u180, u181, u182, u183, u184, u185, u186, u187, u188, u189, u190, u191, u192, u193, u194, u195, u196, u197, u198, u199, u200, u201, u202, u203, u204, u205, u206, u207, u208, u209, u210, u211, u212, u213, u214, u215, u216, u217, u218, u219, u220, u221, u222, u223, u224, u225, u226, u227, u228, u229, u230, u231, u232, u233, u234, u235, u236, u237, u238, u239, u240, u241, u242, u243, u244, u245, u246, u247, u248, u249, u250, u251, u252, u253, u254, u255, u256, u257, u258, u259, u260, u261, u262, u263, u264, u265, u266, u267, u268, u269, u270, u271, u272, u273, u274, u275, u276, u277, u278, u279, u280, u281, u282, u283, u284, u285, u286, u287, u288, u289, u290, u291, u292, u293, u294, u295, u296, u297, u298, u299, u300, u301, u302, u303, u304, u305, u306, u307, u308, u309, u310, u311, u312, u313, u314, u315, u316, u317, u318, u319, u320, u321, u322, u323, u324, u325, u326, u327, u328, u329, u330, u331, u332, u333, u334, u335, u336, u337, u338, u339, u340, u341, u342, u343, u344, u345, u346, u347, u348, u349, u350, u351, u352, u353, u354, u355, u356, u357, u358, u359, u360, u361, u362, u363, u364, u365, u366, u367, u368, u369, u370, u371, u372, u373, u374, u375, u376, u377, u378, u379, u380, u381, u382, u383, u384, u385, u386, u387, u388, u389, u390, u391, u392, u393, u394, u395, u396, u397, u398, u399, u400, u401, u402, u403, u404, u405, u406, u407, u408, u409, u410, u411, u412, u413, u414, u415, u416, u417, u418, u419, u420, u421, u422, u423, u424, u425, u426, u427, u428, u429, u430, u431, u432, u433, u434, u435, u436, u437, u438, u439, u440, u441, u442, u443, u444, u445, u446, u447, u448, u449, u450, u451, u452, u453, u454, u455, u456, u457, u458, u459, u460, u461, u462, u463, u464, u465, u466, u467, u468, u469, u470, u471, u472, u473, u474, u475, u476, u477, u478, u479, u480, u481, u482, u483, u484, u485, u486, u487, u488, u489, u490, u491, u492, u493, u494, u495, u496, u497, u498, u499, u500, u501, u502, u503, u504, u505, u506, u507, u508, .bool x509_67, u510, u511, u512, u513, u514, u515, u516, u517, u518, u519, u520, u521, u522, u523, u524, u525, u526, u527, u528, u529, u530, u531, u532, u533, u534, u535, u536, u537, u538, u539, u540, u541, u542, u543, u544, u545, u546, u547, u548, u549, u550, u551, u552, u553, u554, u555, u556, u557, u558, u559, u560, u561, u562, u563, u564, u565, u566, u567, u568, u569, u570, u571, u572, u573, u574, u575, u576, u577, u578, u579, u580, u581, u582, u583, u584, u585, u586, u587, u588, u589, u590, u591, u592, u593, u594, u595, u596, u597, u598, u599, u600, u601, u602, u603, u604, u605, u606, u607, u608, u609, u610, u611, u612, u613, u614, u615, u616, u617, u618, u619, u620, u621, u622, u623, u624, u625, u626, u627, u628, u629, u630, u631, u632, u633, u634, u635, u636, u637, u638, u639, u640, u641, u642, u643, u644, u645, u646, u647, u648, u649, u650, u651, u652, u653, u654, u655, u656, u657, u658, u659, u660, u661, u662, u663, u664, u665, u666, u667, u668, u669, u670, u671, u672, u673, u674, u675, u676, u677, u678, u679, u680, u681, u682, u683, u684, u685, u686, u687, u688, u689, u690, u691, u692, u693, u694, u695, u696, u697, u698, u699, u700, u701, u702, u703, u704, u705, u706, u707, u708, u709, u710, u711, u712, u713, u714, u715, u716, u717, u718, u719, u720, u721, u722, u723, u724, u725, u726, u727, u728, u729, u730, u731, u732, u733, u734, u735], []⟩ wc
set_option maxRecDepth 1000000 in
/-- What follows statement 36. -/
def laws_FnLeavesTorn.P36 : Prop := ∀ (w : World) (t340 : Int) (t341 : Int) (t342 : Int) (t343 : Bool) (t353 : Int) (t354 : Int) (t355 : Int) (t356 : Bool) (t360 : Int) (t364 : Int) (t365 : Int) (t366 : Int) (t367 : Bool) (t370 : Int) (t371 : Bool) (t374 : Bool) (t375 : Bool) (kq : Nat) (wc : World) (HA : Aside0 (laws_FnLeavesTorn.j5 kq t340 t341 t342 t343 t353 t354 t355 t356 t360 t364 t365 t366 t367 t370 t371 t374 t375 = some true)) (HB : Aside0 (Below w.heap.size w wc)),
    ∀ (u0 u1 u2 u3 u4 u5 u6 u7 u8 u9 u10 u11 u12 u13 u14 u15 u16 u17 u18 u19 u20 u21 u22 u23 u24 u25 u26 u27 u28 u29 u30 u31 u32 u33 u34 u35 u36 u37 u42 u43 u44 u45 u46 u47 u48 u49 u50 u55 u56 u57 u59 u60 u61 u66 u67 u70 u71 u74 u75 u76 u77 u78 u79 u80 u81 u82 u83 u84 u85 u86 u87 u88 u89 u90 u91 u92 u93 u94 u95 u96 u97 u98 u99 u100 u101 u102 u103 u104 u105 u106 u107 u108 u109 u110 u111 u112 u113 u114 u115 u116 u117 u118 u119 u120 u121 u122 u123 u124 u125 u126 u127 u128 u129 u130 u131 u132 u133 u134 u135 u136 u137 u138 u139 u140 u141 u142 u143 u144 u145 u146 u147 u148 u149 u150 u151 u152 u153 u154 u155 u156 u157 u158 u159 u160 u161 u162 u163 u164 u165 u166 u167 u168 u169 u170 u171 u172 u173 u174 u175 u176 u177 u178 u179 u180 u181 u182 u183 u184 u185 u186 u187 u188 u189 u190 u191 u192 u193 u194 u195 u196 u197 u198 u199 u200 u201 u202 u203 u204 u205 u206 u207 u208 u209 u210 u211 u212 u213 u214 u215 u216 u217 u218 u219 u220 u221 u222 u223 u224 u225 u226 u227 u228 u229 u230 u231 u232 u233 u234 u235 u236 u237 u238 u239 u240 u241 u242 u243 u244 u245 u246 u247 u248 u249 u250 u251 u252 u253 u254 u255 u256 u257 u258 u259 u260 u261 u262 u263 u264 u265 u266 u267 u268 u269 u270 u271 u272 u273 u274 u275 u276 u277 u278 u279 u280 u281 u282 u283 u284 u285 u286 u287 u288 u289 u290 u291 u292 u293 u294 u295 u296 u297 u298 u299 u300 u301 u302 u303 u304 u305 u306 u307 u308 u309 u310 u311 u312 u313 u314 u315 u316 u317 u318 u319 u320 u321 u322 u323 u324 u325 u326 u327 u328 u329 u330 u331 u332 u333 u334 u335 u336 u337 u338 u339 u340 u341 u342 u343 u344 u345 u346 u347 u348 u349 u350 u351 u352 u353 u354 u355 u356 u357 u358 u359 u360 u361 u362 u363 u364 u365 u366 u367 u368 u369 u370 u371 u372 u373 u374 u375 u376 u377 u378 u379 u380 u381 u382 u383 u384 u385 u386 u387 u388 u389 u390 u391 u392 u393 u394 u395 u396 u397 u398 u399 u400 u401 u402 u403 u404 u405 u406 u407 u408 u409 u410 u411 u412 u413 u414 u415 u416 u417 u418 u419 u420 u421 u422 u423 u424 u425 u426 u427 u428 u429 u430 u431 u432 u433 u434 u435 u436 u437 u438 u439 u440 u441 u442 u443 u444 u445 u446 u447 u448 u449 u450 u451 u452 u453 u454 u455 u456 u457 u458 u459 u460 u461 u462 u463 u464 u465 u466 u467 u468 u469 u470 u471 u472 u473 u474 u475 u476 u477 u478 u479 u480 u481 u482 u483 u484 u485 u486 u487 u488 u489 u490 u491 u492 u493 u494 u495 u496 u497 u498 u499 u500 u501 u502 u503 u504 u505 u506 u507 u508 u509 u510 u511 u512 u513 u514 u515 u516 u517 u518 u519 u520 u521 u522 u523 u524 u525 u526 u527 u528 u529 u530 u531 u532 u533 u534 u535 u536 u537 u538 u539 u540 u541 u542 u543 u544 u545 u546 u547 u548 u549 u550 u551 u552 u553 u554 u555 u556 u557 u558 u559 u560 u561 u562 u563 u564 u565 u566 u567 u568 u569 u570 u571 u572 u573 u574 u575 u576 u577 u578 u579 u580 u581 u582 u583 u584 u585 u586 u587 u588 u589 u590 u591 u592 u593 u594 u595 u596 u597 u598 u599 u600 u601 u602 u603 u604 u605 u606 u607 u608 u609 u610 u611 u612 u613 u614 u615 u616 u617 u618 u619 u620 u621 u622 u623 u624 u625 u626 u627 u628 u629 u630 u631 u632 u633 u634 u635 u636 u637 u638 u639 u640 u641 u642 u643 u644 u645 u646 u647 u648 u649 u650 u651 u652 u653 u654 u655 u656 u657 u658 u659 u660 u661 u662 u663 u664 u665 u666 u667 u668 u669 u670 u671 u672 u673 u674 u675 u676 u677 u678 u679 u680 u681 u682 u683 u684 u685 u686 u687 u688 u689 u690 u691 u692 u693 u694 u695 u696 u697 u698 u699 u700 u701 u702 u703 u704 u705 u706 u707 u708 u709 u710 u711 u712 u713 u714 u715 u716 u717 u718 u719 u720 u721 u722 u723 u724 u725 u726 u727 u728 u729 u730 u731 u732 u733 u734 u735 : Value), let Q' : Exit → Act → World → Prop := bodyPost Try.prog Try.f5 (fun e w' => e = .returned (.bool true) ∧ Below w.heap.size w w'); ∀ (K1 : Act → World → Prop) (a1 : ∀ a w, Code.wp Try.prog (laws_FnLeavesTorn.rights 37 (Try.f5.body.getD .skip)) Q' a w → K1 a w),
      K1 ⟨#[u0, u1, u2, u3, u4, u5, u6, u7, u8, u9, u10, u11, u12, u13, u14, u15, u16, u17, u18, u19, u20, u21, u22, u23, u24, u25, u26, u27, u28, u29, u30, u31, u32, u33, u34, u35, u36, u37, .int .i64 t340, .int .i64 t341, .int .i64 t342, .bool t343, u42, u43, u44, u45, u46, u47, u48, u49, u50, .int .i64 t353, .int .i64 t354, .int .i64 t355, .bool t356, u55, u56, u57, .int .i64 t360, u59, u60, u61, .int .i64 t364, .int .i64 t365, .int .i64 t366, .bool t367, u66, u67, .int .i64 t370, .bool t371, u70, u71, .bool t374, .bool t375, u74, u75, u76, u77, u78, u79, u80, u81, u82, u83, u84, u85, u86, u87, u88, u89, u90, u91, u92, u93, u94, u95, u96, u97, u98, u99, u100, u101, u102, u103, u104, u105, u106, u107, u108, u109, u110, u111, u112, u113, u114, u115, u116, u117, u118, u119, u120, u121, u122, u123, u124, u125, u126, u127, u128, u129, u130, u131, u132, u133, u134, u135, u136, u137, u138, u139, u140, u141, u142, u143, u144, u145, u146, u147, u148, u149, u150, u151, u152, u153, u154, u155, u156, u157, u158, u159, u160, u161, u162, u163, u164, u165, u166, u167, u168, u169, u170, u171, u172, u173, u174, u175, u176, u177, u178, u179, u180, u181, u182, u183, u184, u185, u186, u187, u188, u189, u190, u191, u192, u193, u194, u195, u196, u197, u198, u199, u200, u201, u202, u203, u204, u205, u206, u207, u208, u209, u210, u211, u212, u213, u214, u215, u216, u217, u218, u219, u220, u221, u222, u223, u224, u225, u226, u227, u228, u229, u230, u231, u232, u233, u234, u235, u236, u237, u238, u239, u240, u241, u242, u243, u244, u245, u246, u247, u248, u249, u250, u251, u252, u253, u254, u255, u256, u257, u258, u259, u260, u261, u262, u263, u264, u265, u266, u267, u268, u269, u270, u271, u272, u273, u274, u275, u276, u277, u278, u279, u280, u281, u282, u283, u284, u285, u286, u287, u288, u289, u290, u291, u292, u293, u294, u295, u296, u297, u298, u299, u300, u301, u302, u303, u304, u305, u306, u307, u308, u309, u310, u311, u312, u313, u314, u315, u316, u317, u318, u319, u320, u321, u322, u323, u324, u325, u326, u327, u328, u329, u330, u331, u332, u333, u334, u335, u336, u337, u338, u339, u340, u341, u342, u343, u344, u345, u346, u347, u348, u349, u350, u351, u352, u353, u354, u355, u356, u357, u358, u359, u360, u361, u362, u363, u364, u365, u366, u367, u368, u369, u370, u371, u372, u373, u374, u375, u376, u377, u378, u379, u380, u381, u382, u383, u384, u385, u386, u387, u388, u389, u390, u391, u392, u393, u394, u395, u396, u397, u398, u399, u400, u401, u402, u403, u404, u405, u406, u407, u408, u409, u410, u411, u412, u413, u414, u415, u416, u417, u418, u419, u420, u421, u422, u423, u424, u425, u426, u427, u428, u429, u430, u431, u432, u433, u434, u435, u436, u437, u438, u439, u440, u441, u442, u443, u444, u445, u446, u447, u448, u449, u450, u451, u452, u453, u454, u455, u456, u457, u458, u459, u460, u461, u462, u463, u464, u465, u466, u467, u468, u469, u470, u471, u472, u473, u474, u475, u476, u477, u478, u479, u480, u481, u482, u483, u484, u485, u486, u487, u488, u489, u490, u491, u492, u493, u494, u495, u496, u497, u498, u499, u500, u501, u502, u503, u504, u505, u506, u507, u508, u509, u510, u511, u512, u513, u514, u515, u516, u517, u518, u519, u520, u521, u522, u523, u524, u525, u526, u527, u528, u529, u530, u531, u532, u533, u534, u535, u536, u537, u538, u539, u540, u541, u542, u543, u544, u545, u546, u547, u548, u549, u550, u551, u552, u553, u554, u555, u556, u557, u558, u559, u560, u561, u562, u563, u564, u565, u566, u567, u568, u569, u570, u571, u572, u573, u574, u575, u576, u577, u578, u579, u580, u581, u582, u583, u584, u585, u586, u587, u588, u589, u590, u591, u592, u593, u594, u595, u596, u597, u598, u599, u600, u601, u602, u603, u604, u605, u606, u607, u608, u609, u610, u611, u612, u613, u614, u615, u616, u617, u618, u619, u620, u621, u622, u623, u624, u625, u626, u627, u628, u629, u630, u631, u632, u633, u634, u635, u636, u637, u638, u639, u640, u641, u642, u643, u644, u645, u646, u647, u648, u649, u650, u651, u652, u653, u654, u655, u656, u657, u658, u659, u660, u661, u662, u663, u664, u665, u666, u667, u668, u669, u670, u671, u672, u673, u674, u675, u676, u677, u678, u679, u680, u681, u682, u683, u684, u685, u686, u687, u688, u689, u690, u691, u692, u693, u694, u695, u696, u697, u698, u699, u700, u701, u702, u703, u704, u705, u706, u707, u708, u709, u710, u711, u712, u713, u714, u715, u716, u717, u718, u719, u720, u721, u722, u723, u724, u725, u726, u727, u728, u729, u730, u731, u732, u733, u734, u735], []⟩ wc
set_option maxRecDepth 1000000 in
/-- What follows statement 37. -/
def laws_FnLeavesTorn.P37 : Prop := ∀ (w : World) (t353 : Int) (t354 : Int) (t355 : Int) (t356 : Bool) (t360 : Int) (t364 : Int) (t365 : Int) (t366 : Int) (t367 : Bool) (t370 : Int) (t371 : Bool) (t374 : Bool) (t375 : Bool) (kq : Nat) (wc : World) (HA : Aside0 (laws_FnLeavesTorn.j7 kq t353 t354 t355 t356 t360 t364 t365 t366 t367 t370 t371 t374 t375 = some true)) (HB : Aside0 (Below w.heap.size w wc)),
    ∀ (u0 u1 u2 u3 u4 u5 u6 u7 u8 u9 u10 u11 u12 u13 u14 u15 u16 u17 u18 u19 u20 u21 u22 u23 u24 u25 u26 u27 u28 u29 u30 u31 u32 u33 u34 u35 u36 u37 u38 u39 u40 u41 u42 u43 u44 u45 u46 u47 u48 u49 u50 u55 u56 u57 u59 u60 u61 u66 u67 u70 u71 u74 u75 u76 u77 u78 u79 u80 u81 u82 u83 u84 u85 u86 u87 u88 u89 u90 u91 u92 u93 u94 u95 u96 u97 u98 u99 u100 u101 u102 u103 u104 u105 u106 u107 u108 u109 u110 u111 u112 u113 u114 u115 u116 u117 u118 u119 u120 u121 u122 u123 u124 u125 u126 u127 u128 u129 u130 u131 u132 u133 u134 u135 u136 u137 u138 u139 u140 u141 u142 u143 u144 u145 u146 u147 u148 u149 u150 u151 u152 u153 u154 u155 u156 u157 u158 u159 u160 u161 u162 u163 u164 u165 u166 u167 u168 u169 u170 u171 u172 u173 u174 u175 u176 u177 u178 u179 u180 u181 u182 u183 u184 u185 u186 u187 u188 u189 u190 u191 u192 u193 u194 u195 u196 u197 u198 u199 u200 u201 u202 u203 u204 u205 u206 u207 u208 u209 u210 u211 u212 u213 u214 u215 u216 u217 u218 u219 u220 u221 u222 u223 u224 u225 u226 u227 u228 u229 u230 u231 u232 u233 u234 u235 u236 u237 u238 u239 u240 u241 u242 u243 u244 u245 u246 u247 u248 u249 u250 u251 u252 u253 u254 u255 u256 u257 u258 u259 u260 u261 u262 u263 u264 u265 u266 u267 u268 u269 u270 u271 u272 u273 u274 u275 u276 u277 u278 u279 u280 u281 u282 u283 u284 u285 u286 u287 u288 u289 u290 u291 u292 u293 u294 u295 u296 u297 u298 u299 u300 u301 u302 u303 u304 u305 u306 u307 u308 u309 u310 u311 u312 u313 u314 u315 u316 u317 u318 u319 u320 u321 u322 u323 u324 u325 u326 u327 u328 u329 u330 u331 u332 u333 u334 u335 u336 u337 u338 u339 u340 u341 u342 u343 u344 u345 u346 u347 u348 u349 u350 u351 u352 u353 u354 u355 u356 u357 u358 u359 u360 u361 u362 u363 u364 u365 u366 u367 u368 u369 u370 u371 u372 u373 u374 u375 u376 u377 u378 u379 u380 u381 u382 u383 u384 u385 u386 u387 u388 u389 u390 u391 u392 u393 u394 u395 u396 u397 u398 u399 u400 u401 u402 u403 u404 u405 u406 u407 u408 u409 u410 u411 u412 u413 u414 u415 u416 u417 u418 u419 u420 u421 u422 u423 u424 u425 u426 u427 u428 u429 u430 u431 u432 u433 u434 u435 u436 u437 u438 u439 u440 u441 u442 u443 u444 u445 u446 u447 u448 u449 u450 u451 u452 u453 u454 u455 u456 u457 u458 u459 u460 u461 u462 u463 u464 u465 u466 u467 u468 u469 u470 u471 u472 u473 u474 u475 u476 u477 u478 u479 u480 u481 u482 u483 u484 u485 u486 u487 u488 u489 u490 u491 u492 u493 u494 u495 u496 u497 u498 u499 u500 u501 u502 u503 u504 u505 u506 u507 u508 u509 u510 u511 u512 u513 u514 u515 u516 u517 u518 u519 u520 u521 u522 u523 u524 u525 u526 u527 u528 u529 u530 u531 u532 u533 u534 u535 u536 u537 u538 u539 u540 u541 u542 u543 u544 u545 u546 u547 u548 u549 u550 u551 u552 u553 u554 u555 u556 u557 u558 u559 u560 u561 u562 u563 u564 u565 u566 u567 u568 u569 u570 u571 u572 u573 u574 u575 u576 u577 u578 u579 u580 u581 u582 u583 u584 u585 u586 u587 u588 u589 u590 u591 u592 u593 u594 u595 u596 u597 u598 u599 u600 u601 u602 u603 u604 u605 u606 u607 u608 u609 u610 u611 u612 u613 u614 u615 u616 u617 u618 u619 u620 u621 u622 u623 u624 u625 u626 u627 u628 u629 u630 u631 u632 u633 u634 u635 u636 u637 u638 u639 u640 u641 u642 u643 u644 u645 u646 u647 u648 u649 u650 u651 u652 u653 u654 u655 u656 u657 u658 u659 u660 u661 u662 u663 u664 u665 u666 u667 u668 u669 u670 u671 u672 u673 u674 u675 u676 u677 u678 u679 u680 u681 u682 u683 u684 u685 u686 u687 u688 u689 u690 u691 u692 u693 u694 u695 u696 u697 u698 u699 u700 u701 u702 u703 u704 u705 u706 u707 u708 u709 u710 u711 u712 u713 u714 u715 u716 u717 u718 u719 u720 u721 u722 u723 u724 u725 u726 u727 u728 u729 u730 u731 u732 u733 u734 u735 : Value), let Q' : Exit → Act → World → Prop := bodyPost Try.prog Try.f5 (fun e w' => e = .returned (.bool true) ∧ Below w.heap.size w w'); ∀ (K1 : Act → World → Prop) (a1 : ∀ a w, Code.wp Try.prog (laws_FnLeavesTorn.rights 38 (Try.f5.body.getD .skip)) Q' a w → K1 a w),
      K1 ⟨#[u0, u1, u2, u3, u4, u5, u6, u7, u8, u9, u10, u11, u12, u13, u14, u15, u16, u17, u18, u19, u20, u21, u22, u23, u24, u25, u26, u27, u28, u29, u30, u31, u32, u33, u34, u35, u36, u37, u38, u39, u40, u41, u42, u43, u44, u45, u46, u47, u48, u49, u50, .int .i64 t353, .int .i64 t354, .int .i64 t355, .bool t356, u55, u56, u57, .int .i64 t360, u59, u60, u61, .int .i64 t364, .int .i64 t365, .int .i64 t366, .bool t367, u66, u67, .int .i64 t370, .bool t371, u70, u71, .bool t374, .bool t375, u74, u75, u76, u77, u78, u79, u80, u81, u82, u83, u84, u85, u86, u87, u88, u89, u90, u91, u92, u93, u94, u95, u96, u97, u98, u99, u100, u101, u102, u103, u104, u105, u106, u107, u108, u109, u110, u111, u112, u113, u114, u115, u116, u117, u118, u119, u120, u121, u122, u123, u124, u125, u126, u127, u128, u129, u130, u131, u132, u133, u134, u135, u136, u137, u138, u139, u140, u141, u142, u143, u144, u145, u146, u147, u148, u149, u150, u151, u152, u153, u154, u155, u156, u157, u158, u159, u160, u161, u162, u163, u164, u165, u166, u167, u168, u169, u170, u171, u172, u173, u174, u175, u176, u177, u178, u179, u180, u181, u182, u183, u184, u185, u186, u187, u188, u189, u190, u191, u192, u193, u194, u195, u196, u197, u198, u199, u200, u201, u202, u203, u204, u205, u206, u207, u208, u209, u210, u211, u212, u213, u214, u215, u216, u217, u218, u219, u220, u221, u222, u223, u224, u225, u226, u227, u228, u229, u230, u231, u232, u233, u234, u235, u236, u237, u238, u239, u240, u241, u242, u243, u244, u245, u246, u247, u248, u249, u250, u251, u252, u253, u254, u255, u256, u257, u258, u259, u260, u261, u262, u263, u264, u265, u266, u267, u268, u269, u270, u271, u272, u273, u274, u275, u276, u277, u278, u279, u280, u281, u282, u283, u284, u285, u286, u287, u288, u289, u290, u291, u292, u293, u294, u295, u296, u297, u298, u299, u300, u301, u302, u303, u304, u305, u306, u307, u308, u309, u310, u311, u312, u313, u314, u315, u316, u317, u318, u319, u320, u321, u322, u323, u324, u325, u326, u327, u328, u329, u330, u331, u332, u333, u334, u335, u336, u337, u338, u339, u340, u341, u342, u343, u344, u345, u346, u347, u348, u349, u350, u351, u352, u353, u354, u355, u356, u357, u358, u359, u360, u361, u362, u363, u364, u365, u366, u367, u368, u369, u370, u371, u372, u373, u374, u375, u376, u377, u378, u379, u380, u381, u382, u383, u384, u385, u386, u387, u388, u389, u390, u391, u392, u393, u394, u395, u396, u397, u398, u399, u400, u401, u402, u403, u404, u405, u406, u407, u408, u409, u410, u411, u412, u413, u414, u415, u416, u417, u418, u419, u420, u421, u422, u423, u424, u425, u426, u427, u428, u429, u430, u431, u432, u433, u434, u435, u436, u437, u438, u439, u440, u441, u442, u443, u444, u445, u446, u447, u448, u449, u450, u451, u452, u453, u454, u455, u456, u457, u458, u459, u460, u461, u462, u463, u464, u465, u466, u467, u468, u469, u470, u471, u472, u473, u474, u475, u476, u477, u478, u479, u480, u481, u482, u483, u484, u485, u486, u487, u488, u489, u490, u491, u492, u493, u494, u495, u496, u497, u498, u499, u500, u501, u502, u503, u504, u505, u506, u507, u508, u509, u510, u511, u512, u513, u514, u515, u516, u517, u518, u519, u520, u521, u522, u523, u524, u525, u526, u527, u528, u529, u530, u531, u532, u533, u534, u535, u536, u537, u538, u539, u540, u541, u542, u543, u544, u545, u546, u547, u548, u549, u550, u551, u552, u553, u554, u555, u556, u557, u558, u559, u560, u561, u562, u563, u564, u565, u566, u567, u568, u569, u570, u571, u572, u573, u574, u575, u576, u577, u578, u579, u580, u581, u582, u583, u584, u585, u586, u587, u588, u589, u590, u591, u592, u593, u594, u595, u596, u597, u598, u599, u600, u601, u602, u603, u604, u605, u606, u607, u608, u609, u610, u611, u612, u613, u614, u615, u616, u617, u618, u619, u620, u621, u622, u623, u624, u625, u626, u627, u628, u629, u630, u631, u632, u633, u634, u635, u636, u637, u638, u639, u640, u641, u642, u643, u644, u645, u646, u647, u648, u649, u650, u651, u652, u653, u654, u655, u656, u657, u658, u659, u660, u661, u662, u663, u664, u665, u666, u667, u668, u669, u670, u671, u672, u673, u674, u675, u676, u677, u678, u679, u680, u681, u682, u683, u684, u685, u686, u687, u688, u689, u690, u691, u692, u693, u694, u695, u696, u697, u698, u699, u700, u701, u702, u703, u704, u705, u706, u707, u708, u709, u710, u711, u712, u713, u714, u715, u716, u717, u718, u719, u720, u721, u722, u723, u724, u725, u726, u727, u728, u729, u730, u731, u732, u733, u734, u735], []⟩ wc
set_option maxRecDepth 1000000 in
/-- What follows statement 38. -/
def laws_FnLeavesTorn.P38 : Prop := ∀ (w : World) (t364 : Int) (t365 : Int) (t366 : Int) (t367 : Bool) (t370 : Int) (t371 : Bool) (t374 : Bool) (t375 : Bool) (kq : Nat) (wc : World) (HA : Aside0 (laws_FnLeavesTorn.j8 kq t364 t365 t366 t367 t370 t371 t374 t375 = some true)) (HB : Aside0 (Below w.heap.size w wc)),
    ∀ (u0 u1 u2 u3 u4 u5 u6 u7 u8 u9 u10 u11 u12 u13 u14 u15 u16 u17 u18 u19 u20 u21 u22 u23 u24 u25 u26 u27 u28 u29 u30 u31 u32 u33 u34 u35 u36 u37 u38 u39 u40 u41 u42 u43 u44 u45 u46 u47 u48 u49 u50 u51 u52 u53 u54 u55 u56 u57 u58 u59 u60 u61 u66 u67 u70 u71 u74 u75 u76 u77 u78 u79 u80 u81 u82 u83 u84 u85 u86 u87 u88 u89 u90 u91 u92 u93 u94 u95 u96 u97 u98 u99 u100 u101 u102 u103 u104 u105 u106 u107 u108 u109 u110 u111 u112 u113 u114 u115 u116 u117 u118 u119 u120 u121 u122 u123 u124 u125 u126 u127 u128 u129 u130 u131 u132 u133 u134 u135 u136 u137 u138 u139 u140 u141 u142 u143 u144 u145 u146 u147 u148 u149 u150 u151 u152 u153 u154 u155 u156 u157 u158 u159 u160 u161 u162 u163 u164 u165 u166 u167 u168 u169 u170 u171 u172 u173 u174 u175 u176 u177 u178 u179 u180 u181 u182 u183 u184 u185 u186 u187 u188 u189 u190 u191 u192 u193 u194 u195 u196 u197 u198 u199 u200 u201 u202 u203 u204 u205 u206 u207 u208 u209 u210 u211 u212 u213 u214 u215 u216 u217 u218 u219 u220 u221 u222 u223 u224 u225 u226 u227 u228 u229 u230 u231 u232 u233 u234 u235 u236 u237 u238 u239 u240 u241 u242 u243 u244 u245 u246 u247 u248 u249 u250 u251 u252 u253 u254 u255 u256 u257 u258 u259 u260 u261 u262 u263 u264 u265 u266 u267 u268 u269 u270 u271 u272 u273 u274 u275 u276 u277 u278 u279 u280 u281 u282 u283 u284 u285 u286 u287 u288 u289 u290 u291 u292 u293 u294 u295 u296 u297 u298 u299 u300 u301 u302 u303 u304 u305 u306 u307 u308 u309 u310 u311 u312 u313 u314 u315 u316 u317 u318 u319 u320 u321 u322 u323 u324 u325 u326 u327 u328 u329 u330 u331 u332 u333 u334 u335 u336 u337 u338 u339 u340 u341 u342 u343 u344 u345 u346 u347 u348 u349 u350 u351 u352 u353 u354 u355 u356 u357 u358 u359 u360 u361 u362 u363 u364 u365 u366 u367 u368 u369 u370 u371 u372 u373 u374 u375 u376 u377 u378 u379 u380 u381 u382 u383 u384 u385 u386 u387 u388 u389 u390 u391 u392 u393 u394 u395 u396 u397 u398 u399 u400 u401 u402 u403 u404 u405 u406 u407 u408 u409 u410 u411 u412 u413 u414 u415 u416 u417 u418 u419 u420 u421 u422 u423 u424 u425 u426 u427 u428 u429 u430 u431 u432 u433 u434 u435 u436 u437 u438 u439 u440 u441 u442 u443 u444 u445 u446 u447 u448 u449 u450 u451 u452 u453 u454 u455 u456 u457 u458 u459 u460 u461 u462 u463 u464 u465 u466 u467 u468 u469 u470 u471 u472 u473 u474 u475 u476 u477 u478 u479 u480 u481 u482 u483 u484 u485 u486 u487 u488 u489 u490 u491 u492 u493 u494 u495 u496 u497 u498 u499 u500 u501 u502 u503 u504 u505 u506 u507 u508 u509 u510 u511 u512 u513 u514 u515 u516 u517 u518 u519 u520 u521 u522 u523 u524 u525 u526 u527 u528 u529 u530 u531 u532 u533 u534 u535 u536 u537 u538 u539 u540 u541 u542 u543 u544 u545 u546 u547 u548 u549 u550 u551 u552 u553 u554 u555 u556 u557 u558 u559 u560 u561 u562 u563 u564 u565 u566 u567 u568 u569 u570 u571 u572 u573 u574 u575 u576 u577 u578 u579 u580 u581 u582 u583 u584 u585 u586 u587 u588 u589 u590 u591 u592 u593 u594 u595 u596 u597 u598 u599 u600 u601 u602 u603 u604 u605 u606 u607 u608 u609 u610 u611 u612 u613 u614 u615 u616 u617 u618 u619 u620 u621 u622 u623 u624 u625 u626 u627 u628 u629 u630 u631 u632 u633 u634 u635 u636 u637 u638 u639 u640 u641 u642 u643 u644 u645 u646 u647 u648 u649 u650 u651 u652 u653 u654 u655 u656 u657 u658 u659 u660 u661 u662 u663 u664 u665 u666 u667 u668 u669 u670 u671 u672 u673 u674 u675 u676 u677 u678 u679 u680 u681 u682 u683 u684 u685 u686 u687 u688 u689 u690 u691 u692 u693 u694 u695 u696 u697 u698 u699 u700 u701 u702 u703 u704 u705 u706 u707 u708 u709 u710 u711 u712 u713 u714 u715 u716 u717 u718 u719 u720 u721 u722 u723 u724 u725 u726 u727 u728 u729 u730 u731 u732 u733 u734 u735 : Value), let Q' : Exit → Act → World → Prop := bodyPost Try.prog Try.f5 (fun e w' => e = .returned (.bool true) ∧ Below w.heap.size w w'); ∀ (K1 : Act → World → Prop) (a1 : ∀ a w, Code.wp Try.prog (laws_FnLeavesTorn.rights 39 (Try.f5.body.getD .skip)) Q' a w → K1 a w),
      K1 ⟨#[u0, u1, u2, u3, u4, u5, u6, u7, u8, u9, u10, u11, u12, u13, u14, u15, u16, u17, u18, u19, u20, u21, u22, u23, u24, u25, u26, u27, u28, u29, u30, u31, u32, u33, u34, u35, u36, u37, u38, u39, u40, u41, u42, u43, u44, u45, u46, u47, u48, u49, u50, u51, u52, u53, u54, u55, u56, u57, u58, u59, u60, u61, .int .i64 t364, .int .i64 t365, .int .i64 t366, .bool t367, u66, u67, .int .i64 t370, .bool t371, u70, u71, .bool t374, .bool t375, u74, u75, u76, u77, u78, u79, u80, u81, u82, u83, u84, u85, u86, u87, u88, u89, u90, u91, u92, u93, u94, u95, u96, u97, u98, u99, u100, u101, u102, u103, u104, u105, u106, u107, u108, u109, u110, u111, u112, u113, u114, u115, u116, u117, u118, u119, u120, u121, u122, u123, u124, u125, u126, u127, u128, u129, u130, u131, u132, u133, u134, u135, u136, u137, u138, u139, u140, u141, u142, u143, u144, u145, u146, u147, u148, u149, u150, u151, u152, u153, u154, u155, u156, u157, u158, u159, u160, u161, u162, u163, u164, u165, u166, u167, u168, u169, u170, u171, u172, u173, u174, u175, u176, u177, u178, u179, u180, u181, u182, u183, u184, u185, u186, u187, u188, u189, u190, u191, u192, u193, u194, u195, u196, u197, u198, u199, u200, u201, u202, u203, u204, u205, u206, u207, u208, u209, u210, u211, u212, u213, u214, u215, u216, u217, u218, u219, u220, u221, u222, u223, u224, u225, u226, u227, u228, u229, u230, u231, u232, u233, u234, u235, u236, u237, u238, u239, u240, u241, u242, u243, u244, u245, u246, u247, u248, u249, u250, u251, u252, u253, u254, u255, u256, u257, u258, u259, u260, u261, u262, u263, u264, u265, u266, u267, u268, u269, u270, u271, u272, u273, u274, u275, u276, u277, u278, u279, u280, u281, u282, u283, u284, u285, u286, u287, u288, u289, u290, u291, u292, u293, u294, u295, u296, u297, u298, u299, u300, u301, u302, u303, u304, u305, u306, u307, u308, u309, u310, u311, u312, u313, u314, u315, u316, u317, u318, u319, u320, u321, u322, u323, u324, u325, u326, u327, u328, u329, u330, u331, u332, u333, u334, u335, u336, u337, u338, u339, u340, u341, u342, u343, u344, u345, u346, u347, u348, u349, u350, u351, u352, u353, u354, u355, u356, u357, u358, u359, u360, u361, u362, u363, u364, u365, u366, u367, u368, u369, u370, u371, u372, u373, u374, u375, u376, u377, u378, u379, u380, u381, u382, u383, u384, u385, u386, u387, u388, u389, u390, u391, u392, u393, u394, u395, u396, u397, u398, u399, u400, u401, u402, u403, u404, u405, u406, u407, u408, u409, u410, u411, u412, u413, u414, u415, u416, u417, u418, u419, u420, u421, u422, u423, u424, u425, u426, u427, u428, u429, u430, u431, u432, u433, u434, u435, u436, u437, u438, u439, u440, u441, u442, u443, u444, u445, u446, u447, u448, u449, u450, u451, u452, u453, u454, u455, u456, u457, u458, u459, u460, u461, u462, u463, u464, u465, u466, u467, u468, u469, u470, u471, u472, u473, u474, u475, u476, u477, u478, u479, u480, u481, u482, u483, u484, u485, u486, u487, u488, u489, u490, u491, u492, u493, u494, u495, u496, u497, u498, u499, u500, u501, u502, u503, u504, u505, u506, u507, u508, u509, u510, u511, u512, u513, u514, u515, u516, u517, u518, u519, u520, u521, u522, u523, u524, u525, u526, u527, u528, u529, u530, u531, u532, u533, u534, u535, u536, u537, u538, u539, u540, u541, u542, u543, u544, u545, u546, u547, u548, u549, u550, u551, u552, u553, u554, u555, u556, u557, u558, u559, u560, u561, u562, u563, u564, u565, u566, u567, u568, u569, u570, u571, u572, u573, u574, u575, u576, u577, u578, u579, u580, u581, u582, u583, u584, u585, u586, u587, u588, u589, u590, u591, u592, u593, u594, u595, u596, u597, u598, u599, u600, u601, u602, u603, u604, u605, u606, u607, u608, u609, u610, u611, u612, u613, u614, u615, u616, u617, u618, u619, u620, u621, u622, u623, u624, u625, u626, u627, u628, u629, u630, u631, u632, u633, u634, u635, u636, u637, u638, u639, u640, u641, u642, u643, u644, u645, u646, u647, u648, u649, u650, u651, u652, u653, u654, u655, u656, u657, u658, u659, u660, u661, u662, u663, u664, u665, u666, u667, u668, u669, u670, u671, u672, u673, u674, u675, u676, u677, u678, u679, u680, u681, u682, u683, u684, u685, u686, u687, u688, u689, u690, u691, u692, u693, u694, u695, u696, u697, u698, u699, u700, u701, u702, u703, u704, u705, u706, u707, u708, u709, u710, u711, u712, u713, u714, u715, u716, u717, u718, u719, u720, u721, u722, u723, u724, u725, u726, u727, u728, u729, u730, u731, u732, u733, u734, u735], []⟩ wc
set_option maxRecDepth 1000000 in
/-- What follows statement 39. -/
def laws_FnLeavesTorn.P39 : Prop := ∀ (w : World) (t365 : Int) (t370 : Int) (t371 : Bool) (kq : Nat) (wc : World) (HA : Aside0 (laws_FnLeavesTorn.j9 kq t365 t370 t371 = some true)) (HB : Aside0 (Below w.heap.size w wc)),
    ∀ (u0 u1 u2 u3 u4 u5 u6 u7 u8 u9 u10 u11 u12 u13 u14 u15 u16 u17 u18 u19 u20 u21 u22 u23 u24 u25 u26 u27 u28 u29 u30 u31 u32 u33 u34 u35 u36 u37 u38 u39 u40 u41 u42 u43 u44 u45 u46 u47 u48 u49 u50 u51 u52 u53 u54 u55 u56 u57 u58 u59 u60 u61 u62 u64 u65 u66 u67 u70 u71 u72 u73 u74 u75 u76 u77 u78 u79 u80 u81 u82 u83 u84 u85 u86 u87 u88 u89 u90 u91 u92 u93 u94 u95 u96 u97 u98 u99 u100 u101 u102 u103 u104 u105 u106 u107 u108 u109 u110 u111 u112 u113 u114 u115 u116 u117 u118 u119 u120 u121 u122 u123 u124 u125 u126 u127 u128 u129 u130 u131 u132 u133 u134 u135 u136 u137 u138 u139 u140 u141 u142 u143 u144 u145 u146 u147 u148 u149 u150 u151 u152 u153 u154 u155 u156 u157 u158 u159 u160 u161 u162 u163 u164 u165 u166 u167 u168 u169 u170 u171 u172 u173 u174 u175 u176 u177 u178 u179 u180 u181 u182 u183 u184 u185 u186 u187 u188 u189 u190 u191 u192 u193 u194 u195 u196 u197 u198 u199 u200 u201 u202 u203 u204 u205 u206 u207 u208 u209 u210 u211 u212 u213 u214 u215 u216 u217 u218 u219 u220 u221 u222 u223 u224 u225 u226 u227 u228 u229 u230 u231 u232 u233 u234 u235 u236 u237 u238 u239 u240 u241 u242 u243 u244 u245 u246 u247 u248 u249 u250 u251 u252 u253 u254 u255 u256 u257 u258 u259 u260 u261 u262 u263 u264 u265 u266 u267 u268 u269 u270 u271 u272 u273 u274 u275 u276 u277 u278 u279 u280 u281 u282 u283 u284 u285 u286 u287 u288 u289 u290 u291 u292 u293 u294 u295 u296 u297 u298 u299 u300 u301 u302 u303 u304 u305 u306 u307 u308 u309 u310 u311 u312 u313 u314 u315 u316 u317 u318 u319 u320 u321 u322 u323 u324 u325 u326 u327 u328 u329 u330 u331 u332 u333 u334 u335 u336 u337 u338 u339 u340 u341 u342 u343 u344 u345 u346 u347 u348 u349 u350 u351 u352 u353 u354 u355 u356 u357 u358 u359 u360 u361 u362 u363 u364 u365 u366 u367 u368 u369 u370 u371 u372 u373 u374 u375 u376 u377 u378 u379 u380 u381 u382 u383 u384 u385 u386 u387 u388 u389 u390 u391 u392 u393 u394 u395 u396 u397 u398 u399 u400 u401 u402 u403 u404 u405 u406 u407 u408 u409 u410 u411 u412 u413 u414 u415 u416 u417 u418 u419 u420 u421 u422 u423 u424 u425 u426 u427 u428 u429 u430 u431 u432 u433 u434 u435 u436 u437 u438 u439 u440 u441 u442 u443 u444 u445 u446 u447 u448 u449 u450 u451 u452 u453 u454 u455 u456 u457 u458 u459 u460 u461 u462 u463 u464 u465 u466 u467 u468 u469 u470 u471 u472 u473 u474 u475 u476 u477 u478 u479 u480 u481 u482 u483 u484 u485 u486 u487 u488 u489 u490 u491 u492 u493 u494 u495 u496 u497 u498 u499 u500 u501 u502 u503 u504 u505 u506 u507 u508 u509 u510 u511 u512 u513 u514 u515 u516 u517 u518 u519 u520 u521 u522 u523 u524 u525 u526 u527 u528 u529 u530 u531 u532 u533 u534 u535 u536 u537 u538 u539 u540 u541 u542 u543 u544 u545 u546 u547 u548 u549 u550 u551 u552 u553 u554 u555 u556 u557 u558 u559 u560 u561 u562 u563 u564 u565 u566 u567 u568 u569 u570 u571 u572 u573 u574 u575 u576 u577 u578 u579 u580 u581 u582 u583 u584 u585 u586 u587 u588 u589 u590 u591 u592 u593 u594 u595 u596 u597 u598 u599 u600 u601 u602 u603 u604 u605 u606 u607 u608 u609 u610 u611 u612 u613 u614 u615 u616 u617 u618 u619 u620 u621 u622 u623 u624 u625 u626 u627 u628 u629 u630 u631 u632 u633 u634 u635 u636 u637 u638 u639 u640 u641 u642 u643 u644 u645 u646 u647 u648 u649 u650 u651 u652 u653 u654 u655 u656 u657 u658 u659 u660 u661 u662 u663 u664 u665 u666 u667 u668 u669 u670 u671 u672 u673 u674 u675 u676 u677 u678 u679 u680 u681 u682 u683 u684 u685 u686 u687 u688 u689 u690 u691 u692 u693 u694 u695 u696 u697 u698 u699 u700 u701 u702 u703 u704 u705 u706 u707 u708 u709 u710 u711 u712 u713 u714 u715 u716 u717 u718 u719 u720 u721 u722 u723 u724 u725 u726 u727 u728 u729 u730 u731 u732 u733 u734 u735 : Value), let Q' : Exit → Act → World → Prop := bodyPost Try.prog Try.f5 (fun e w' => e = .returned (.bool true) ∧ Below w.heap.size w w'); ∀ (K1 : Act → World → Prop) (a1 : ∀ a w, Code.wp Try.prog (laws_FnLeavesTorn.rights 40 (Try.f5.body.getD .skip)) Q' a w → K1 a w),
      K1 ⟨#[u0, u1, u2, u3, u4, u5, u6, u7, u8, u9, u10, u11, u12, u13, u14, u15, u16, u17, u18, u19, u20, u21, u22, u23, u24, u25, u26, u27, u28, u29, u30, u31, u32, u33, u34, u35, u36, u37, u38, u39, u40, u41, u42, u43, u44, u45, u46, u47, u48, u49, u50, u51, u52, u53, u54, u55, u56, u57, u58, u59, u60, u61, u62, .int .i64 t365, u64, u65, u66, u67, .int .i64 t370, .bool t371, u70, u71, u72, u73, u74, u75, u76, u77, u78, u79, u80, u81, u82, u83, u84, u85, u86, u87, u88, u89, u90, u91, u92, u93, u94, u95, u96, u97, u98, u99, u100, u101, u102, u103, u104, u105, u106, u107, u108, u109, u110, u111, u112, u113, u114, u115, u116, u117, u118, u119, u120, u121, u122, u123, u124, u125, u126, u127, u128, u129, u130, u131, u132, u133, u134, u135, u136, u137, u138, u139, u140, u141, u142, u143, u144, u145, u146, u147, u148, u149, u150, u151, u152, u153, u154, u155, u156, u157, u158, u159, u160, u161, u162, u163, u164, u165, u166, u167, u168, u169, u170, u171, u172, u173, u174, u175, u176, u177, u178, u179, u180, u181, u182, u183, u184, u185, u186, u187, u188, u189, u190, u191, u192, u193, u194, u195, u196, u197, u198, u199, u200, u201, u202, u203, u204, u205, u206, u207, u208, u209, u210, u211, u212, u213, u214, u215, u216, u217, u218, u219, u220, u221, u222, u223, u224, u225, u226, u227, u228, u229, u230, u231, u232, u233, u234, u235, u236, u237, u238, u239, u240, u241, u242, u243, u244, u245, u246, u247, u248, u249, u250, u251, u252, u253, u254, u255, u256, u257, u258, u259, u260, u261, u262, u263, u264, u265, u266, u267, u268, u269, u270, u271, u272, u273, u274, u275, u276, u277, u278, u279, u280, u281, u282, u283, u284, u285, u286, u287, u288, u289, u290, u291, u292, u293, u294, u295, u296, u297, u298, u299, u300, u301, u302, u303, u304, u305, u306, u307, u308, u309, u310, u311, u312, u313, u314, u315, u316, u317, u318, u319, u320, u321, u322, u323, u324, u325, u326, u327, u328, u329, u330, u331, u332, u333, u334, u335, u336, u337, u338, u339, u340, u341, u342, u343, u344, u345, u346, u347, u348, u349, u350, u351, u352, u353, u354, u355, u356, u357, u358, u359, u360, u361, u362, u363, u364, u365, u366, u367, u368, u369, u370, u371, u372, u373, u374, u375, u376, u377, u378, u379, u380, u381, u382, u383, u384, u385, u386, u387, u388, u389, u390, u391, u392, u393, u394, u395, u396, u397, u398, u399, u400, u401, u402, u403, u404, u405, u406, u407, u408, u409, u410, u411, u412, u413, u414, u415, u416, u417, u418, u419, u420, u421, u422, u423, u424, u425, u426, u427, u428, u429, u430, u431, u432, u433, u434, u435, u436, u437, u438, u439, u440, u441, u442, u443, u444, u445, u446, u447, u448, u449, u450, u451, u452, u453, u454, u455, u456, u457, u458, u459, u460, u461, u462, u463, u464, u465, u466, u467, u468, u469, u470, u471, u472, u473, u474, u475, u476, u477, u478, u479, u480, u481, u482, u483, u484, u485, u486, u487, u488, u489, u490, u491, u492, u493, u494, u495, u496, u497, u498, u499, u500, u501, u502, u503, u504, u505, u506, u507, u508, u509, u510, u511, u512, u513, u514, u515, u516, u517, u518, u519, u520, u521, u522, u523, u524, u525, u526, u527, u528, u529, u530, u531, u532, u533, u534, u535, u536, u537, u538, u539, u540, u541, u542, u543, u544, u545, u546, u547, u548, u549, u550, u551, u552, u553, u554, u555, u556, u557, u558, u559, u560, u561, u562, u563, u564, u565, u566, u567, u568, u569, u570, u571, u572, u573, u574, u575, u576, u577, u578, u579, u580, u581, u582, u583, u584, u585, u586, u587, u588, u589, u590, u591, u592, u593, u594, u595, u596, u597, u598, u599, u600, u601, u602, u603, u604, u605, u606, u607, u608, u609, u610, u611, u612, u613, u614, u615, u616, u617, u618, u619, u620, u621, u622, u623, u624, u625, u626, u627, u628, u629, u630, u631, u632, u633, u634, u635, u636, u637, u638, u639, u640, u641, u642, u643, u644, u645, u646, u647, u648, u649, u650, u651, u652, u653, u654, u655, u656, u657, u658, u659, u660, u661, u662, u663, u664, u665, u666, u667, u668, u669, u670, u671, u672, u673, u674, u675, u676, u677, u678, u679, u680, u681, u682, u683, u684, u685, u686, u687, u688, u689, u690, u691, u692, u693, u694, u695, u696, u697, u698, u699, u700, u701, u702, u703, u704, u705, u706, u707, u708, u709, u710, u711, u712, u713, u714, u715, u716, u717, u718, u719, u720, u721, u722, u723, u724, u725, u726, u727, u728, u729, u730, u731, u732, u733, u734, u735], []⟩ wc

end Go.Proofs.Ytjkfgeigicljpaa.PFnLeavesTorn
