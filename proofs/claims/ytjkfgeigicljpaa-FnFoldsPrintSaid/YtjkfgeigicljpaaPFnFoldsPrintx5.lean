-- WRITTEN BY A PROGRAM OF THIS SESSION (xprint), out of the translation: not trusted: it is checked as any text
import Derived.Test.YtjkfgeigicljpaaPFnFoldsPrintx0
import Derived.Test.YtjkfgeigicljpaaPFnFoldsPrintx1
import Derived.Test.YtjkfgeigicljpaaPFnFoldsPrintx2
import Derived.Test.YtjkfgeigicljpaaPFnFoldsPrintx3
import Derived.Test.YtjkfgeigicljpaaPFnFoldsPrintx4
namespace Go.Proofs.Ytjkfgeigicljpaa.PFnFoldsPrint
open Go.RowKit Go.Proofs.YtjkfgeigicljpaaW.PrintWords Go.Proofs.YtjkfgeigicljpaaW.PrintLast Go.Proofs.YtjkfgeigicljpaaW.PrintMore
attribute [local go_sem] max2_int min2_int max_two min_two max_three min_three max_four min_four   -- for this text's walks alone
set_option linter.unusedVariables false
set_option linter.unusedSimpArgs false

/-! ### laws_FnFoldsPrint: function 4 -/
mutual
def laws_FnFoldsPrint.j0 : Nat → List Int → Int → Int → Bool → Int → Int → Bool → List Int → Bool → Int → Int → List Int → Bool → Option (Bool)
  | 0, _, _, _, _, _, _, _, _, _, _, _, _, _ => none
  | k + 1, x1, x5, x6, x7, x8, x9, x10, x14, x15, x18, x19, x24, x203 => if x203 = true then (some false) else (if x15 = true then (if (x14.length : Int) = (wrap64 (4 * x5)) then (if x19 = (wrap64 (x18 + 1)) then (laws_FnFoldsPrint.j1 k x1 x5 x6 x7 x8 x9 x10 x14 x24 (x18 != (wrap64 (2 * x5)))) else (laws_FnFoldsPrint.j1 k x1 x5 x6 x7 x8 x9 x10 x14 x24 true)) else (laws_FnFoldsPrint.j1 k x1 x5 x6 x7 x8 x9 x10 x14 x24 true)) else (laws_FnFoldsPrint.j3 k x1 x5 x6 x7 x8 x9 x10 x14 x24))
def laws_FnFoldsPrint.j3 : Nat → List Int → Int → Int → Bool → Int → Int → Bool → List Int → List Int → Option (Bool)
  | 0, _, _, _, _, _, _, _, _, _ => none
  | k + 1, x1, x5, x6, x7, x8, x9, x10, x14, x24 => if x10 = true then ((impl_PlaceOfPage.f x5 x8).bind fun bt320 => ((impl_PlaceOfPage.f x5 x9).bind fun bt324 => ((impl_PartnerPage.f x5 x8).bind fun bt328 => ((impl_SheetOfPartners.f x8 x9 x5).bind fun bt330 => (if x7 = true then (laws_FnFoldsPrint.j4 k x1 x5 x6 x7 x8 x9 x14 x24 bt320.1 bt320.2.1 bt320.2.2.1 bt320.2.2.2 bt324.1 bt324.2.1 bt324.2.2.1 bt324.2.2.2 bt328.1 bt328.2 bt330.1 bt330.2 (wrap64 ((wrap64 (4 * (wrap64 (x6 - 1)))) + 2))) else (laws_FnFoldsPrint.j4 k x1 x5 x6 x7 x8 x9 x14 x24 bt320.1 bt320.2.1 bt320.2.2.1 bt320.2.2.2 bt324.1 bt324.2.1 bt324.2.2.1 bt324.2.2.2 bt328.1 bt328.2 bt330.1 bt330.2 (wrap64 (4 * (wrap64 (x6 - 1)))))))))) else (laws_FnFoldsPrint.j6 k x1)
def laws_FnFoldsPrint.j6 : Nat → List Int → Option (Bool)
  | 0, _ => none
  | k + 1, x1 => (spec_DrawPlaceOfPage.f x1).bind fun bt337 => ((impl_PlaceOfPage.f bt337.1 bt337.2).bind fun bt339 => ((spec_PlaceOfPage.f k bt337.1 bt337.2).bind fun bt343 => ((impl_PartnerPage.f bt337.1 bt337.2).bind fun bt347 => ((spec_PartnerPage.f bt337.1 bt337.2).bind fun bt349 => ((spec_DrawSheetOfPartners.f x1).bind fun bt351 => ((impl_SheetOfPartners.f bt351.1 bt351.2.1 bt351.2.2).bind fun bt354 => ((spec_SheetOfPartners.f k bt351.1 bt351.2.1 bt351.2.2).bind fun bt356 => ((spec_DrawSheetsFor.f x1).bind fun t358 => ((impl_SheetsFor.f t358).bind fun bt359 => ((spec_SheetsFor.f t358).bind fun bt361 => ((impl_BlankPages.f t358).bind fun bt363 => ((spec_BlankPages.f t358).bind fun bt365 => (if (bt339.2.2.2 != bt343.2.2.2) = true then (laws_FnFoldsPrint.j7 k bt337.1 bt337.2 bt339.1 bt339.2.1 bt339.2.2.1 bt339.2.2.2 bt347.1 t358 bt359.1 bt359.2 bt363.1 true) else (if bt339.1 = bt343.1 then (if (bt339.2.1 != bt343.2.1) = true then (laws_FnFoldsPrint.j7 k bt337.1 bt337.2 bt339.1 bt339.2.1 bt339.2.2.1 bt339.2.2.2 bt347.1 t358 bt359.1 bt359.2 bt363.1 true) else (if (bt339.2.2.1 != bt343.2.2.1) = true then (laws_FnFoldsPrint.j7 k bt337.1 bt337.2 bt339.1 bt339.2.1 bt339.2.2.1 bt339.2.2.2 bt347.1 t358 bt359.1 bt359.2 bt363.1 true) else (if (bt347.2 != bt349.2) = true then (laws_FnFoldsPrint.j7 k bt337.1 bt337.2 bt339.1 bt339.2.1 bt339.2.2.1 bt339.2.2.2 bt347.1 t358 bt359.1 bt359.2 bt363.1 true) else (if bt347.1 = bt349.1 then (if (bt354.2 != bt356.2) = true then (laws_FnFoldsPrint.j7 k bt337.1 bt337.2 bt339.1 bt339.2.1 bt339.2.2.1 bt339.2.2.2 bt347.1 t358 bt359.1 bt359.2 bt363.1 true) else (if bt354.1 = bt356.1 then (if (bt359.2 != bt361.2) = true then (laws_FnFoldsPrint.j7 k bt337.1 bt337.2 bt339.1 bt339.2.1 bt339.2.2.1 bt339.2.2.2 bt347.1 t358 bt359.1 bt359.2 bt363.1 true) else (if bt359.1 = bt361.1 then (if (bt363.2 != bt365.2) = true then (laws_FnFoldsPrint.j7 k bt337.1 bt337.2 bt339.1 bt339.2.1 bt339.2.2.1 bt339.2.2.2 bt347.1 t358 bt359.1 bt359.2 bt363.1 true) else (if bt363.1 = bt365.1 then (if (bt347.2 != bt339.2.2.2) = true then (laws_FnFoldsPrint.j7 k bt337.1 bt337.2 bt339.1 bt339.2.1 bt339.2.2.1 bt339.2.2.2 bt347.1 t358 bt359.1 bt359.2 bt363.1 true) else (laws_FnFoldsPrint.j7 k bt337.1 bt337.2 bt339.1 bt339.2.1 bt339.2.2.1 bt339.2.2.2 bt347.1 t358 bt359.1 bt359.2 bt363.1 (bt363.2 != bt359.2))) else (laws_FnFoldsPrint.j7 k bt337.1 bt337.2 bt339.1 bt339.2.1 bt339.2.2.1 bt339.2.2.2 bt347.1 t358 bt359.1 bt359.2 bt363.1 true))) else (laws_FnFoldsPrint.j7 k bt337.1 bt337.2 bt339.1 bt339.2.1 bt339.2.2.1 bt339.2.2.2 bt347.1 t358 bt359.1 bt359.2 bt363.1 true))) else (laws_FnFoldsPrint.j7 k bt337.1 bt337.2 bt339.1 bt339.2.1 bt339.2.2.1 bt339.2.2.2 bt347.1 t358 bt359.1 bt359.2 bt363.1 true))) else (laws_FnFoldsPrint.j7 k bt337.1 bt337.2 bt339.1 bt339.2.1 bt339.2.2.1 bt339.2.2.2 bt347.1 t358 bt359.1 bt359.2 bt363.1 true))))) else (laws_FnFoldsPrint.j7 k bt337.1 bt337.2 bt339.1 bt339.2.1 bt339.2.2.1 bt339.2.2.2 bt347.1 t358 bt359.1 bt359.2 bt363.1 true)))))))))))))))
def laws_FnFoldsPrint.j7 : Nat → Int → Int → Int → Bool → Bool → Bool → Int → Int → Int → Bool → Int → Bool → Option (Bool)
  | 0, _, _, _, _, _, _, _, _, _, _, _, _ => none
  | k + 1, x43, x44, x45, x46, x47, x48, x53, x64, x65, x66, x69, x540 => if x540 = true then (some false) else (if x48 = true then ((impl_PartnerPage.f x43 x53).bind fun bt367 => ((impl_SideOfSheet.f x43 x45 x46).bind fun bt369 => (if bt367.2 = true then (if bt367.1 = x44 then (if bt369.2.2 = true then (if x47 = true then (if bt369.2.1 = x44 then (laws_FnFoldsPrint.j8 k x64 x65 x66 x69 (x47 != ((Int.tmod x44 2) == 1))) else (laws_FnFoldsPrint.j8 k x64 x65 x66 x69 true)) else (if bt369.1 = x44 then (laws_FnFoldsPrint.j8 k x64 x65 x66 x69 (x47 != ((Int.tmod x44 2) == 1))) else (laws_FnFoldsPrint.j8 k x64 x65 x66 x69 true))) else (laws_FnFoldsPrint.j8 k x64 x65 x66 x69 true)) else (laws_FnFoldsPrint.j8 k x64 x65 x66 x69 true)) else (laws_FnFoldsPrint.j8 k x64 x65 x66 x69 true)))) else (if x66 = true then (if (wrap64 ((wrap64 (4 * x65)) - x69)) = x64 then (if x69 < 0 then (some false) else (if x69 > 3 then (some false) else (some true))) else (some false)) else (some true)))
def laws_FnFoldsPrint.j8 : Nat → Int → Int → Bool → Int → Bool → Option (Bool)
  | 0, _, _, _, _, _ => none
  | k + 1, x64, x65, x66, x69, x590 => if x590 = true then (some false) else (if x66 = true then (if (wrap64 ((wrap64 (4 * x65)) - x69)) = x64 then (if x69 < 0 then (some false) else (if x69 > 3 then (some false) else (some true))) else (some false)) else (some true))
def laws_FnFoldsPrint.j4 : Nat → List Int → Int → Int → Bool → Int → Int → List Int → List Int → Int → Bool → Bool → Bool → Int → Bool → Bool → Bool → Int → Bool → Int → Bool → Int → Option (Bool)
  | 0, _, _, _, _, _, _, _, _, _, _, _, _, _, _, _, _, _, _, _, _, _ => none
  | k + 1, x1, x5, x6, x7, x8, x9, x14, x24, x30, x31, x32, x33, x34, x35, x36, x37, x38, x39, x40, x41, x42 => if (Int.tmod x8 2) = 0 then (if (Int.tmod x9 2) = 1 then (if x33 = true then (if x30 = x6 then (if (x31 != x7) = true then (laws_FnFoldsPrint.j5 k x1 x5 x8 x9 x24 true) else (if x32 = true then (laws_FnFoldsPrint.j5 k x1 x5 x8 x9 x24 true) else (if x37 = true then (if x34 = x6 then (if (x35 != x7) = true then (laws_FnFoldsPrint.j5 k x1 x5 x8 x9 x24 true) else (if x36 = true then (if x39 = true then (if x38 = x9 then (if x41 = true then (if x40 = x6 then (if 0 ≤ x42 then (if x42 < (x14.length : Int) then (if (rd x14 x42) = x8 then (if 0 ≤ (wrap64 (x42 + 1)) then (if (wrap64 (x42 + 1)) < (x14.length : Int) then (laws_FnFoldsPrint.j5 k x1 x5 x8 x9 x24 ((rd x14 (wrap64 (x42 + 1))) != x9)) else (none)) else (none)) else (laws_FnFoldsPrint.j5 k x1 x5 x8 x9 x24 true)) else (none)) else (none)) else (laws_FnFoldsPrint.j5 k x1 x5 x8 x9 x24 true)) else (laws_FnFoldsPrint.j5 k x1 x5 x8 x9 x24 true)) else (laws_FnFoldsPrint.j5 k x1 x5 x8 x9 x24 true)) else (laws_FnFoldsPrint.j5 k x1 x5 x8 x9 x24 true)) else (laws_FnFoldsPrint.j5 k x1 x5 x8 x9 x24 true))) else (laws_FnFoldsPrint.j5 k x1 x5 x8 x9 x24 true)) else (laws_FnFoldsPrint.j5 k x1 x5 x8 x9 x24 true)))) else (laws_FnFoldsPrint.j5 k x1 x5 x8 x9 x24 true)) else (laws_FnFoldsPrint.j5 k x1 x5 x8 x9 x24 true)) else (laws_FnFoldsPrint.j5 k x1 x5 x8 x9 x24 true)) else (laws_FnFoldsPrint.j5 k x1 x5 x8 x9 x24 true)
def laws_FnFoldsPrint.j5 : Nat → List Int → Int → Int → Int → List Int → Bool → Option (Bool)
  | 0, _, _, _, _, _, _ => none
  | k + 1, x1, x5, x8, x9, x24, x376 => if x376 = true then (some false) else (if (x24.length : Int) = (wrap64 ((wrap64 (4 * x5)) - 4)) then ((laws_fRises.f k x24).bind fun t334 => (if t334 = true then ((laws_fHas.f k x24 x8).bind fun t335 => (if t335 = true then (some false) else ((laws_fHas.f k x24 x9).bind fun t336 => (if t336 = true then (some false) else (laws_FnFoldsPrint.j6 k x1))))) else (some false))) else (some false))
def laws_FnFoldsPrint.j1 : Nat → List Int → Int → Int → Bool → Int → Int → Bool → List Int → List Int → Bool → Option (Bool)
  | 0, _, _, _, _, _, _, _, _, _, _ => none
  | k + 1, x1, x5, x6, x7, x8, x9, x10, x14, x24, x221 => if x221 = true then (some false) else (laws_FnFoldsPrint.l0 k x1 x5 x6 x7 x8 x9 x10 x14 x24 x14 (x14.length : Int) 0)
def laws_FnFoldsPrint.l0 : Nat → List Int → Int → Int → Bool → Int → Int → Bool → List Int → List Int → List Int → Int → Int → Option (Bool)
  | 0, _, _, _, _, _, _, _, _, _, _, _, _ => none
  | k + 1, x1, x5, x6, x7, x8, x9, x10, x14, x24, x222, x223, x224 => if x224 < x223 then (if 0 ≤ x224 then (if x224 < (x222.length : Int) then (if (rd x222 x224) < 1 then (some false) else (if (rd x222 x224) > (wrap64 (4 * x5)) then (some false) else (if x224 ≤ (x14.length : Int) then ((laws_fHas.f k (x14.take (x224 : Int).toNat) (rd x222 x224)).bind fun t318 => (if t318 = true then (some false) else (if (Int.tmod x224 2) = 1 then (if 0 ≤ (wrap64 (x224 - 1)) then (if (wrap64 (x224 - 1)) < (x14.length : Int) then (if (wrap64 ((rd x14 (wrap64 (x224 - 1))) + (rd x222 x224))) = (wrap64 ((wrap64 (4 * x5)) + 1)) then (laws_FnFoldsPrint.l0 k x1 x5 x6 x7 x8 x9 x10 x14 x24 x222 x223 (wrap64 (x224 + 1))) else (some false)) else (none)) else (none)) else (laws_FnFoldsPrint.l0 k x1 x5 x6 x7 x8 x9 x10 x14 x24 x222 x223 (wrap64 (x224 + 1)))))) else (none)))) else (none)) else (none)) else (laws_FnFoldsPrint.j3 k x1 x5 x6 x7 x8 x9 x10 x14 x24)
end
def laws_FnFoldsPrint.f (k : Nat) (l0 : List Int) (l1 : List Int) : Option (Bool) := (laws_big.f l0 l1).bind fun t279 => (if t279 = true then (some true) else ((spec_DrawSideOfSheet.f l0).bind fun bt280 => ((impl_SideOfSheet.f bt280.1 bt280.2.1 bt280.2.2).bind fun bt283 => ((spec_SideOfSheet.f bt280.1 bt280.2.1 bt280.2.2).bind fun bt286 => ((impl_PrintOrder.f k bt280.1).bind fun bt289 => ((spec_PrintOrder.f k bt280.1).bind fun bt293 => ((impl_MiddlePages.f bt280.1).bind fun bt297 => ((spec_MiddlePages.f bt280.1).bind fun bt300 => ((impl_PagesWithout.f k bt280.1 bt280.2.1).bind fun bt303 => ((spec_PagesWithout.f k bt280.1 bt280.2.1).bind fun bt307 => (if (bt283.2.2 != bt286.2.2) = true then (laws_FnFoldsPrint.j0 k l1 bt280.1 bt280.2.1 bt280.2.2 bt283.1 bt283.2.1 bt283.2.2 bt289.1 bt289.2 bt297.1 bt297.2.1 bt303.1 true) else (if bt283.1 = bt286.1 then (if bt283.2.1 = bt286.2.1 then (if (bt289.2 != bt293.2) = true then (laws_FnFoldsPrint.j0 k l1 bt280.1 bt280.2.1 bt280.2.2 bt283.1 bt283.2.1 bt283.2.2 bt289.1 bt289.2 bt297.1 bt297.2.1 bt303.1 true) else ((laws_fSame.f k bt289.1 bt293.1).bind fun t311 => (if t311 = true then (if (bt297.2.2 != bt300.2.2) = true then (laws_FnFoldsPrint.j0 k l1 bt280.1 bt280.2.1 bt280.2.2 bt283.1 bt283.2.1 bt283.2.2 bt289.1 bt289.2 bt297.1 bt297.2.1 bt303.1 true) else (if bt297.1 = bt300.1 then (if bt297.2.1 = bt300.2.1 then (if (bt303.2 != bt307.2) = true then (laws_FnFoldsPrint.j0 k l1 bt280.1 bt280.2.1 bt280.2.2 bt283.1 bt283.2.1 bt283.2.2 bt289.1 bt289.2 bt297.1 bt297.2.1 bt303.1 true) else ((laws_fSame.f k bt303.1 bt307.1).bind fun t312 => (if t312 = true then (if (bt297.2.2 != bt289.2) = true then (laws_FnFoldsPrint.j0 k l1 bt280.1 bt280.2.1 bt280.2.2 bt283.1 bt283.2.1 bt283.2.2 bt289.1 bt289.2 bt297.1 bt297.2.1 bt303.1 true) else (if (bt303.2 != bt283.2.2) = true then (laws_FnFoldsPrint.j0 k l1 bt280.1 bt280.2.1 bt280.2.2 bt283.1 bt283.2.1 bt283.2.2 bt289.1 bt289.2 bt297.1 bt297.2.1 bt303.1 true) else (if bt283.2.2 = true then (laws_FnFoldsPrint.j0 k l1 bt280.1 bt280.2.1 bt280.2.2 bt283.1 bt283.2.1 bt283.2.2 bt289.1 bt289.2 bt297.1 bt297.2.1 bt303.1 (!bt289.2)) else (laws_FnFoldsPrint.j0 k l1 bt280.1 bt280.2.1 bt280.2.2 bt283.1 bt283.2.1 bt283.2.2 bt289.1 bt289.2 bt297.1 bt297.2.1 bt303.1 false)))) else (laws_FnFoldsPrint.j0 k l1 bt280.1 bt280.2.1 bt280.2.2 bt283.1 bt283.2.1 bt283.2.2 bt289.1 bt289.2 bt297.1 bt297.2.1 bt303.1 true)))) else (laws_FnFoldsPrint.j0 k l1 bt280.1 bt280.2.1 bt280.2.2 bt283.1 bt283.2.1 bt283.2.2 bt289.1 bt289.2 bt297.1 bt297.2.1 bt303.1 true)) else (laws_FnFoldsPrint.j0 k l1 bt280.1 bt280.2.1 bt280.2.2 bt283.1 bt283.2.1 bt283.2.2 bt289.1 bt289.2 bt297.1 bt297.2.1 bt303.1 true))) else (laws_FnFoldsPrint.j0 k l1 bt280.1 bt280.2.1 bt280.2.2 bt283.1 bt283.2.1 bt283.2.2 bt289.1 bt289.2 bt297.1 bt297.2.1 bt303.1 true)))) else (laws_FnFoldsPrint.j0 k l1 bt280.1 bt280.2.1 bt280.2.2 bt283.1 bt283.2.1 bt283.2.2 bt289.1 bt289.2 bt297.1 bt297.2.1 bt303.1 true)) else (laws_FnFoldsPrint.j0 k l1 bt280.1 bt280.2.1 bt280.2.2 bt283.1 bt283.2.1 bt283.2.2 bt289.1 bt289.2 bt297.1 bt297.2.1 bt303.1 true)))))))))))))
theorem laws_FnFoldsPrint.mono_l : ∀ k, (∀ y0 y1 y2 y3 y4 y5 y6 y7 y8 y9 y10 y11 y12, LeO (laws_FnFoldsPrint.j0 k y0 y1 y2 y3 y4 y5 y6 y7 y8 y9 y10 y11 y12) (laws_FnFoldsPrint.j0 (k + 1) y0 y1 y2 y3 y4 y5 y6 y7 y8 y9 y10 y11 y12)) ∧ (∀ y0 y1 y2 y3 y4 y5 y6 y7 y8, LeO (laws_FnFoldsPrint.j3 k y0 y1 y2 y3 y4 y5 y6 y7 y8) (laws_FnFoldsPrint.j3 (k + 1) y0 y1 y2 y3 y4 y5 y6 y7 y8)) ∧ (∀ y0, LeO (laws_FnFoldsPrint.j6 k y0) (laws_FnFoldsPrint.j6 (k + 1) y0)) ∧ (∀ y0 y1 y2 y3 y4 y5 y6 y7 y8 y9 y10 y11, LeO (laws_FnFoldsPrint.j7 k y0 y1 y2 y3 y4 y5 y6 y7 y8 y9 y10 y11) (laws_FnFoldsPrint.j7 (k + 1) y0 y1 y2 y3 y4 y5 y6 y7 y8 y9 y10 y11)) ∧ (∀ y0 y1 y2 y3 y4, LeO (laws_FnFoldsPrint.j8 k y0 y1 y2 y3 y4) (laws_FnFoldsPrint.j8 (k + 1) y0 y1 y2 y3 y4)) ∧ (∀ y0 y1 y2 y3 y4 y5 y6 y7 y8 y9 y10 y11 y12 y13 y14 y15 y16 y17 y18 y19 y20, LeO (laws_FnFoldsPrint.j4 k y0 y1 y2 y3 y4 y5 y6 y7 y8 y9 y10 y11 y12 y13 y14 y15 y16 y17 y18 y19 y20) (laws_FnFoldsPrint.j4 (k + 1) y0 y1 y2 y3 y4 y5 y6 y7 y8 y9 y10 y11 y12 y13 y14 y15 y16 y17 y18 y19 y20)) ∧ (∀ y0 y1 y2 y3 y4 y5, LeO (laws_FnFoldsPrint.j5 k y0 y1 y2 y3 y4 y5) (laws_FnFoldsPrint.j5 (k + 1) y0 y1 y2 y3 y4 y5)) ∧ (∀ y0 y1 y2 y3 y4 y5 y6 y7 y8 y9, LeO (laws_FnFoldsPrint.j1 k y0 y1 y2 y3 y4 y5 y6 y7 y8 y9) (laws_FnFoldsPrint.j1 (k + 1) y0 y1 y2 y3 y4 y5 y6 y7 y8 y9)) ∧ (∀ y0 y1 y2 y3 y4 y5 y6 y7 y8 y9 y10 y11, LeO (laws_FnFoldsPrint.l0 k y0 y1 y2 y3 y4 y5 y6 y7 y8 y9 y10 y11) (laws_FnFoldsPrint.l0 (k + 1) y0 y1 y2 y3 y4 y5 y6 y7 y8 y9 y10 y11))
  | 0 => ⟨fun _ _ _ _ _ _ _ _ _ _ _ _ _ r h => by simp [laws_FnFoldsPrint.j0] at h, fun _ _ _ _ _ _ _ _ _ r h => by simp [laws_FnFoldsPrint.j3] at h, fun _ r h => by simp [laws_FnFoldsPrint.j6] at h, fun _ _ _ _ _ _ _ _ _ _ _ _ r h => by simp [laws_FnFoldsPrint.j7] at h, fun _ _ _ _ _ r h => by simp [laws_FnFoldsPrint.j8] at h, fun _ _ _ _ _ _ _ _ _ _ _ _ _ _ _ _ _ _ _ _ _ r h => by simp [laws_FnFoldsPrint.j4] at h, fun _ _ _ _ _ _ r h => by simp [laws_FnFoldsPrint.j5] at h, fun _ _ _ _ _ _ _ _ _ _ r h => by simp [laws_FnFoldsPrint.j1] at h, fun _ _ _ _ _ _ _ _ _ _ _ _ r h => by simp [laws_FnFoldsPrint.l0] at h⟩
  | k + 1 => by
    obtain ⟨ih0, ih1, ih2, ih3, ih4, ih5, ih6, ih7, ih8⟩ := laws_FnFoldsPrint.mono_l k
    refine ⟨?_, ?_, ?_, ?_, ?_, ?_, ?_, ?_, ?_⟩
    · intro y0 y1 y2 y3 y4 y5 y6 y7 y8 y9 y10 y11 y12
      unfold laws_FnFoldsPrint.j0
      repeat' first
      | (with_reducible exact ih0 _ _ _ _ _ _ _ _ _ _ _ _ _)
      | (with_reducible exact ih1 _ _ _ _ _ _ _ _ _)
      | (with_reducible exact ih2 _)
      | (with_reducible exact ih3 _ _ _ _ _ _ _ _ _ _ _ _)
      | (with_reducible exact ih4 _ _ _ _ _)
      | (with_reducible exact ih5 _ _ _ _ _ _ _ _ _ _ _ _ _ _ _ _ _ _ _ _ _)
      | (with_reducible exact ih6 _ _ _ _ _ _)
      | (with_reducible exact ih7 _ _ _ _ _ _ _ _ _ _)
      | (with_reducible exact ih8 _ _ _ _ _ _ _ _ _ _ _ _)
      | (with_reducible exact impl_PagesWithout.mono _ _ _)
      | (with_reducible exact impl_PrintOrder.mono _ _)
      | (with_reducible exact laws_fHas.mono _ _ _)
      | (with_reducible exact laws_fRises.mono _ _)
      | (with_reducible exact laws_fSame.mono _ _ _)
      | (with_reducible exact spec_PagesWithout.mono _ _ _)
      | (with_reducible exact spec_PlaceOfPage.mono _ _ _)
      | (with_reducible exact spec_PrintOrder.mono _ _)
      | (with_reducible exact spec_SheetOfPartners.mono _ _ _ _)
      | (with_reducible exact LeO.refl _)
      | (with_reducible exact LeO.none _)
      | (with_reducible refine LeO.ite ?_ ?_)
      | (with_reducible refine LeO.bind ?_ (fun _ => ?_))
      | exact ih0 _ _ _ _ _ _ _ _ _ _ _ _ _
      | exact ih1 _ _ _ _ _ _ _ _ _
      | exact ih2 _
      | exact ih3 _ _ _ _ _ _ _ _ _ _ _ _
      | exact ih4 _ _ _ _ _
      | exact ih5 _ _ _ _ _ _ _ _ _ _ _ _ _ _ _ _ _ _ _ _ _
      | exact ih6 _ _ _ _ _ _
      | exact ih7 _ _ _ _ _ _ _ _ _ _
      | exact ih8 _ _ _ _ _ _ _ _ _ _ _ _
      | exact impl_PagesWithout.mono _ _ _
      | exact impl_PrintOrder.mono _ _
      | exact laws_fHas.mono _ _ _
      | exact laws_fRises.mono _ _
      | exact laws_fSame.mono _ _ _
      | exact spec_PagesWithout.mono _ _ _
      | exact spec_PlaceOfPage.mono _ _ _
      | exact spec_PrintOrder.mono _ _
      | exact spec_SheetOfPartners.mono _ _ _ _
      | exact LeO.none _
      | refine LeO.ite ?_ ?_
      | refine LeO.bind ?_ (fun _ => ?_)
    · intro y0 y1 y2 y3 y4 y5 y6 y7 y8
      unfold laws_FnFoldsPrint.j3
      repeat' first
      | (with_reducible exact ih0 _ _ _ _ _ _ _ _ _ _ _ _ _)
      | (with_reducible exact ih1 _ _ _ _ _ _ _ _ _)
      | (with_reducible exact ih2 _)
      | (with_reducible exact ih3 _ _ _ _ _ _ _ _ _ _ _ _)
      | (with_reducible exact ih4 _ _ _ _ _)
      | (with_reducible exact ih5 _ _ _ _ _ _ _ _ _ _ _ _ _ _ _ _ _ _ _ _ _)
      | (with_reducible exact ih6 _ _ _ _ _ _)
      | (with_reducible exact ih7 _ _ _ _ _ _ _ _ _ _)
      | (with_reducible exact ih8 _ _ _ _ _ _ _ _ _ _ _ _)
      | (with_reducible exact impl_PagesWithout.mono _ _ _)
      | (with_reducible exact impl_PrintOrder.mono _ _)
      | (with_reducible exact laws_fHas.mono _ _ _)
      | (with_reducible exact laws_fRises.mono _ _)
      | (with_reducible exact laws_fSame.mono _ _ _)
      | (with_reducible exact spec_PagesWithout.mono _ _ _)
      | (with_reducible exact spec_PlaceOfPage.mono _ _ _)
      | (with_reducible exact spec_PrintOrder.mono _ _)
      | (with_reducible exact spec_SheetOfPartners.mono _ _ _ _)
      | (with_reducible exact LeO.refl _)
      | (with_reducible exact LeO.none _)
      | (with_reducible refine LeO.ite ?_ ?_)
      | (with_reducible refine LeO.bind ?_ (fun _ => ?_))
      | exact ih0 _ _ _ _ _ _ _ _ _ _ _ _ _
      | exact ih1 _ _ _ _ _ _ _ _ _
      | exact ih2 _
      | exact ih3 _ _ _ _ _ _ _ _ _ _ _ _
      | exact ih4 _ _ _ _ _
      | exact ih5 _ _ _ _ _ _ _ _ _ _ _ _ _ _ _ _ _ _ _ _ _
      | exact ih6 _ _ _ _ _ _
      | exact ih7 _ _ _ _ _ _ _ _ _ _
      | exact ih8 _ _ _ _ _ _ _ _ _ _ _ _
      | exact impl_PagesWithout.mono _ _ _
      | exact impl_PrintOrder.mono _ _
      | exact laws_fHas.mono _ _ _
      | exact laws_fRises.mono _ _
      | exact laws_fSame.mono _ _ _
      | exact spec_PagesWithout.mono _ _ _
      | exact spec_PlaceOfPage.mono _ _ _
      | exact spec_PrintOrder.mono _ _
      | exact spec_SheetOfPartners.mono _ _ _ _
      | exact LeO.none _
      | refine LeO.ite ?_ ?_
      | refine LeO.bind ?_ (fun _ => ?_)
    · intro y0
      unfold laws_FnFoldsPrint.j6
      repeat' first
      | (with_reducible exact ih0 _ _ _ _ _ _ _ _ _ _ _ _ _)
      | (with_reducible exact ih1 _ _ _ _ _ _ _ _ _)
      | (with_reducible exact ih2 _)
      | (with_reducible exact ih3 _ _ _ _ _ _ _ _ _ _ _ _)
      | (with_reducible exact ih4 _ _ _ _ _)
      | (with_reducible exact ih5 _ _ _ _ _ _ _ _ _ _ _ _ _ _ _ _ _ _ _ _ _)
      | (with_reducible exact ih6 _ _ _ _ _ _)
      | (with_reducible exact ih7 _ _ _ _ _ _ _ _ _ _)
      | (with_reducible exact ih8 _ _ _ _ _ _ _ _ _ _ _ _)
      | (with_reducible exact impl_PagesWithout.mono _ _ _)
      | (with_reducible exact impl_PrintOrder.mono _ _)
      | (with_reducible exact laws_fHas.mono _ _ _)
      | (with_reducible exact laws_fRises.mono _ _)
      | (with_reducible exact laws_fSame.mono _ _ _)
      | (with_reducible exact spec_PagesWithout.mono _ _ _)
      | (with_reducible exact spec_PlaceOfPage.mono _ _ _)
      | (with_reducible exact spec_PrintOrder.mono _ _)
      | (with_reducible exact spec_SheetOfPartners.mono _ _ _ _)
      | (with_reducible exact LeO.refl _)
      | (with_reducible exact LeO.none _)
      | (with_reducible refine LeO.ite ?_ ?_)
      | (with_reducible refine LeO.bind ?_ (fun _ => ?_))
      | exact ih0 _ _ _ _ _ _ _ _ _ _ _ _ _
      | exact ih1 _ _ _ _ _ _ _ _ _
      | exact ih2 _
      | exact ih3 _ _ _ _ _ _ _ _ _ _ _ _
      | exact ih4 _ _ _ _ _
      | exact ih5 _ _ _ _ _ _ _ _ _ _ _ _ _ _ _ _ _ _ _ _ _
      | exact ih6 _ _ _ _ _ _
      | exact ih7 _ _ _ _ _ _ _ _ _ _
      | exact ih8 _ _ _ _ _ _ _ _ _ _ _ _
      | exact impl_PagesWithout.mono _ _ _
      | exact impl_PrintOrder.mono _ _
      | exact laws_fHas.mono _ _ _
      | exact laws_fRises.mono _ _
      | exact laws_fSame.mono _ _ _
      | exact spec_PagesWithout.mono _ _ _
      | exact spec_PlaceOfPage.mono _ _ _
      | exact spec_PrintOrder.mono _ _
      | exact spec_SheetOfPartners.mono _ _ _ _
      | exact LeO.none _
      | refine LeO.ite ?_ ?_
      | refine LeO.bind ?_ (fun _ => ?_)
    · intro y0 y1 y2 y3 y4 y5 y6 y7 y8 y9 y10 y11
      unfold laws_FnFoldsPrint.j7
      repeat' first
      | (with_reducible exact ih0 _ _ _ _ _ _ _ _ _ _ _ _ _)
      | (with_reducible exact ih1 _ _ _ _ _ _ _ _ _)
      | (with_reducible exact ih2 _)
      | (with_reducible exact ih3 _ _ _ _ _ _ _ _ _ _ _ _)
      | (with_reducible exact ih4 _ _ _ _ _)
      | (with_reducible exact ih5 _ _ _ _ _ _ _ _ _ _ _ _ _ _ _ _ _ _ _ _ _)
      | (with_reducible exact ih6 _ _ _ _ _ _)
      | (with_reducible exact ih7 _ _ _ _ _ _ _ _ _ _)
      | (with_reducible exact ih8 _ _ _ _ _ _ _ _ _ _ _ _)
      | (with_reducible exact impl_PagesWithout.mono _ _ _)
      | (with_reducible exact impl_PrintOrder.mono _ _)
      | (with_reducible exact laws_fHas.mono _ _ _)
      | (with_reducible exact laws_fRises.mono _ _)
      | (with_reducible exact laws_fSame.mono _ _ _)
      | (with_reducible exact spec_PagesWithout.mono _ _ _)
      | (with_reducible exact spec_PlaceOfPage.mono _ _ _)
      | (with_reducible exact spec_PrintOrder.mono _ _)
      | (with_reducible exact spec_SheetOfPartners.mono _ _ _ _)
      | (with_reducible exact LeO.refl _)
      | (with_reducible exact LeO.none _)
      | (with_reducible refine LeO.ite ?_ ?_)
      | (with_reducible refine LeO.bind ?_ (fun _ => ?_))
      | exact ih0 _ _ _ _ _ _ _ _ _ _ _ _ _
      | exact ih1 _ _ _ _ _ _ _ _ _
      | exact ih2 _
      | exact ih3 _ _ _ _ _ _ _ _ _ _ _ _
      | exact ih4 _ _ _ _ _
      | exact ih5 _ _ _ _ _ _ _ _ _ _ _ _ _ _ _ _ _ _ _ _ _
      | exact ih6 _ _ _ _ _ _
      | exact ih7 _ _ _ _ _ _ _ _ _ _
      | exact ih8 _ _ _ _ _ _ _ _ _ _ _ _
      | exact impl_PagesWithout.mono _ _ _
      | exact impl_PrintOrder.mono _ _
      | exact laws_fHas.mono _ _ _
      | exact laws_fRises.mono _ _
      | exact laws_fSame.mono _ _ _
      | exact spec_PagesWithout.mono _ _ _
      | exact spec_PlaceOfPage.mono _ _ _
      | exact spec_PrintOrder.mono _ _
      | exact spec_SheetOfPartners.mono _ _ _ _
      | exact LeO.none _
      | refine LeO.ite ?_ ?_
      | refine LeO.bind ?_ (fun _ => ?_)
    · intro y0 y1 y2 y3 y4
      unfold laws_FnFoldsPrint.j8
      repeat' first
      | (with_reducible exact ih0 _ _ _ _ _ _ _ _ _ _ _ _ _)
      | (with_reducible exact ih1 _ _ _ _ _ _ _ _ _)
      | (with_reducible exact ih2 _)
      | (with_reducible exact ih3 _ _ _ _ _ _ _ _ _ _ _ _)
      | (with_reducible exact ih4 _ _ _ _ _)
      | (with_reducible exact ih5 _ _ _ _ _ _ _ _ _ _ _ _ _ _ _ _ _ _ _ _ _)
      | (with_reducible exact ih6 _ _ _ _ _ _)
      | (with_reducible exact ih7 _ _ _ _ _ _ _ _ _ _)
      | (with_reducible exact ih8 _ _ _ _ _ _ _ _ _ _ _ _)
      | (with_reducible exact impl_PagesWithout.mono _ _ _)
      | (with_reducible exact impl_PrintOrder.mono _ _)
      | (with_reducible exact laws_fHas.mono _ _ _)
      | (with_reducible exact laws_fRises.mono _ _)
      | (with_reducible exact laws_fSame.mono _ _ _)
      | (with_reducible exact spec_PagesWithout.mono _ _ _)
      | (with_reducible exact spec_PlaceOfPage.mono _ _ _)
      | (with_reducible exact spec_PrintOrder.mono _ _)
      | (with_reducible exact spec_SheetOfPartners.mono _ _ _ _)
      | (with_reducible exact LeO.refl _)
      | (with_reducible exact LeO.none _)
      | (with_reducible refine LeO.ite ?_ ?_)
      | (with_reducible refine LeO.bind ?_ (fun _ => ?_))
      | exact ih0 _ _ _ _ _ _ _ _ _ _ _ _ _
      | exact ih1 _ _ _ _ _ _ _ _ _
      | exact ih2 _
      | exact ih3 _ _ _ _ _ _ _ _ _ _ _ _
      | exact ih4 _ _ _ _ _
      | exact ih5 _ _ _ _ _ _ _ _ _ _ _ _ _ _ _ _ _ _ _ _ _
      | exact ih6 _ _ _ _ _ _
      | exact ih7 _ _ _ _ _ _ _ _ _ _
      | exact ih8 _ _ _ _ _ _ _ _ _ _ _ _
      | exact impl_PagesWithout.mono _ _ _
      | exact impl_PrintOrder.mono _ _
      | exact laws_fHas.mono _ _ _
      | exact laws_fRises.mono _ _
      | exact laws_fSame.mono _ _ _
      | exact spec_PagesWithout.mono _ _ _
      | exact spec_PlaceOfPage.mono _ _ _
      | exact spec_PrintOrder.mono _ _
      | exact spec_SheetOfPartners.mono _ _ _ _
      | exact LeO.none _
      | refine LeO.ite ?_ ?_
      | refine LeO.bind ?_ (fun _ => ?_)
    · intro y0 y1 y2 y3 y4 y5 y6 y7 y8 y9 y10 y11 y12 y13 y14 y15 y16 y17 y18 y19 y20
      unfold laws_FnFoldsPrint.j4
      repeat' first
      | (with_reducible exact ih0 _ _ _ _ _ _ _ _ _ _ _ _ _)
      | (with_reducible exact ih1 _ _ _ _ _ _ _ _ _)
      | (with_reducible exact ih2 _)
      | (with_reducible exact ih3 _ _ _ _ _ _ _ _ _ _ _ _)
      | (with_reducible exact ih4 _ _ _ _ _)
      | (with_reducible exact ih5 _ _ _ _ _ _ _ _ _ _ _ _ _ _ _ _ _ _ _ _ _)
      | (with_reducible exact ih6 _ _ _ _ _ _)
      | (with_reducible exact ih7 _ _ _ _ _ _ _ _ _ _)
      | (with_reducible exact ih8 _ _ _ _ _ _ _ _ _ _ _ _)
      | (with_reducible exact impl_PagesWithout.mono _ _ _)
      | (with_reducible exact impl_PrintOrder.mono _ _)
      | (with_reducible exact laws_fHas.mono _ _ _)
      | (with_reducible exact laws_fRises.mono _ _)
      | (with_reducible exact laws_fSame.mono _ _ _)
      | (with_reducible exact spec_PagesWithout.mono _ _ _)
      | (with_reducible exact spec_PlaceOfPage.mono _ _ _)
      | (with_reducible exact spec_PrintOrder.mono _ _)
      | (with_reducible exact spec_SheetOfPartners.mono _ _ _ _)
      | (with_reducible exact LeO.refl _)
      | (with_reducible exact LeO.none _)
      | (with_reducible refine LeO.ite ?_ ?_)
      | (with_reducible refine LeO.bind ?_ (fun _ => ?_))
      | exact ih0 _ _ _ _ _ _ _ _ _ _ _ _ _
      | exact ih1 _ _ _ _ _ _ _ _ _
      | exact ih2 _
      | exact ih3 _ _ _ _ _ _ _ _ _ _ _ _
      | exact ih4 _ _ _ _ _
      | exact ih5 _ _ _ _ _ _ _ _ _ _ _ _ _ _ _ _ _ _ _ _ _
      | exact ih6 _ _ _ _ _ _
      | exact ih7 _ _ _ _ _ _ _ _ _ _
      | exact ih8 _ _ _ _ _ _ _ _ _ _ _ _
      | exact impl_PagesWithout.mono _ _ _
      | exact impl_PrintOrder.mono _ _
      | exact laws_fHas.mono _ _ _
      | exact laws_fRises.mono _ _
      | exact laws_fSame.mono _ _ _
      | exact spec_PagesWithout.mono _ _ _
      | exact spec_PlaceOfPage.mono _ _ _
      | exact spec_PrintOrder.mono _ _
      | exact spec_SheetOfPartners.mono _ _ _ _
      | exact LeO.none _
      | refine LeO.ite ?_ ?_
      | refine LeO.bind ?_ (fun _ => ?_)
    · intro y0 y1 y2 y3 y4 y5
      unfold laws_FnFoldsPrint.j5
      repeat' first
      | (with_reducible exact ih0 _ _ _ _ _ _ _ _ _ _ _ _ _)
      | (with_reducible exact ih1 _ _ _ _ _ _ _ _ _)
      | (with_reducible exact ih2 _)
      | (with_reducible exact ih3 _ _ _ _ _ _ _ _ _ _ _ _)
      | (with_reducible exact ih4 _ _ _ _ _)
      | (with_reducible exact ih5 _ _ _ _ _ _ _ _ _ _ _ _ _ _ _ _ _ _ _ _ _)
      | (with_reducible exact ih6 _ _ _ _ _ _)
      | (with_reducible exact ih7 _ _ _ _ _ _ _ _ _ _)
      | (with_reducible exact ih8 _ _ _ _ _ _ _ _ _ _ _ _)
      | (with_reducible exact impl_PagesWithout.mono _ _ _)
      | (with_reducible exact impl_PrintOrder.mono _ _)
      | (with_reducible exact laws_fHas.mono _ _ _)
      | (with_reducible exact laws_fRises.mono _ _)
      | (with_reducible exact laws_fSame.mono _ _ _)
      | (with_reducible exact spec_PagesWithout.mono _ _ _)
      | (with_reducible exact spec_PlaceOfPage.mono _ _ _)
      | (with_reducible exact spec_PrintOrder.mono _ _)
      | (with_reducible exact spec_SheetOfPartners.mono _ _ _ _)
      | (with_reducible exact LeO.refl _)
      | (with_reducible exact LeO.none _)
      | (with_reducible refine LeO.ite ?_ ?_)
      | (with_reducible refine LeO.bind ?_ (fun _ => ?_))
      | exact ih0 _ _ _ _ _ _ _ _ _ _ _ _ _
      | exact ih1 _ _ _ _ _ _ _ _ _
      | exact ih2 _
      | exact ih3 _ _ _ _ _ _ _ _ _ _ _ _
      | exact ih4 _ _ _ _ _
      | exact ih5 _ _ _ _ _ _ _ _ _ _ _ _ _ _ _ _ _ _ _ _ _
      | exact ih6 _ _ _ _ _ _
      | exact ih7 _ _ _ _ _ _ _ _ _ _
      | exact ih8 _ _ _ _ _ _ _ _ _ _ _ _
      | exact impl_PagesWithout.mono _ _ _
      | exact impl_PrintOrder.mono _ _
      | exact laws_fHas.mono _ _ _
      | exact laws_fRises.mono _ _
      | exact laws_fSame.mono _ _ _
      | exact spec_PagesWithout.mono _ _ _
      | exact spec_PlaceOfPage.mono _ _ _
      | exact spec_PrintOrder.mono _ _
      | exact spec_SheetOfPartners.mono _ _ _ _
      | exact LeO.none _
      | refine LeO.ite ?_ ?_
      | refine LeO.bind ?_ (fun _ => ?_)
    · intro y0 y1 y2 y3 y4 y5 y6 y7 y8 y9
      unfold laws_FnFoldsPrint.j1
      repeat' first
      | (with_reducible exact ih0 _ _ _ _ _ _ _ _ _ _ _ _ _)
      | (with_reducible exact ih1 _ _ _ _ _ _ _ _ _)
      | (with_reducible exact ih2 _)
      | (with_reducible exact ih3 _ _ _ _ _ _ _ _ _ _ _ _)
      | (with_reducible exact ih4 _ _ _ _ _)
      | (with_reducible exact ih5 _ _ _ _ _ _ _ _ _ _ _ _ _ _ _ _ _ _ _ _ _)
      | (with_reducible exact ih6 _ _ _ _ _ _)
      | (with_reducible exact ih7 _ _ _ _ _ _ _ _ _ _)
      | (with_reducible exact ih8 _ _ _ _ _ _ _ _ _ _ _ _)
      | (with_reducible exact impl_PagesWithout.mono _ _ _)
      | (with_reducible exact impl_PrintOrder.mono _ _)
      | (with_reducible exact laws_fHas.mono _ _ _)
      | (with_reducible exact laws_fRises.mono _ _)
      | (with_reducible exact laws_fSame.mono _ _ _)
      | (with_reducible exact spec_PagesWithout.mono _ _ _)
      | (with_reducible exact spec_PlaceOfPage.mono _ _ _)
      | (with_reducible exact spec_PrintOrder.mono _ _)
      | (with_reducible exact spec_SheetOfPartners.mono _ _ _ _)
      | (with_reducible exact LeO.refl _)
      | (with_reducible exact LeO.none _)
      | (with_reducible refine LeO.ite ?_ ?_)
      | (with_reducible refine LeO.bind ?_ (fun _ => ?_))
      | exact ih0 _ _ _ _ _ _ _ _ _ _ _ _ _
      | exact ih1 _ _ _ _ _ _ _ _ _
      | exact ih2 _
      | exact ih3 _ _ _ _ _ _ _ _ _ _ _ _
      | exact ih4 _ _ _ _ _
      | exact ih5 _ _ _ _ _ _ _ _ _ _ _ _ _ _ _ _ _ _ _ _ _
      | exact ih6 _ _ _ _ _ _
      | exact ih7 _ _ _ _ _ _ _ _ _ _
      | exact ih8 _ _ _ _ _ _ _ _ _ _ _ _
      | exact impl_PagesWithout.mono _ _ _
      | exact impl_PrintOrder.mono _ _
      | exact laws_fHas.mono _ _ _
      | exact laws_fRises.mono _ _
      | exact laws_fSame.mono _ _ _
      | exact spec_PagesWithout.mono _ _ _
      | exact spec_PlaceOfPage.mono _ _ _
      | exact spec_PrintOrder.mono _ _
      | exact spec_SheetOfPartners.mono _ _ _ _
      | exact LeO.none _
      | refine LeO.ite ?_ ?_
      | refine LeO.bind ?_ (fun _ => ?_)
    · intro y0 y1 y2 y3 y4 y5 y6 y7 y8 y9 y10 y11
      unfold laws_FnFoldsPrint.l0
      repeat' first
      | (with_reducible exact ih0 _ _ _ _ _ _ _ _ _ _ _ _ _)
      | (with_reducible exact ih1 _ _ _ _ _ _ _ _ _)
      | (with_reducible exact ih2 _)
      | (with_reducible exact ih3 _ _ _ _ _ _ _ _ _ _ _ _)
      | (with_reducible exact ih4 _ _ _ _ _)
      | (with_reducible exact ih5 _ _ _ _ _ _ _ _ _ _ _ _ _ _ _ _ _ _ _ _ _)
      | (with_reducible exact ih6 _ _ _ _ _ _)
      | (with_reducible exact ih7 _ _ _ _ _ _ _ _ _ _)
      | (with_reducible exact ih8 _ _ _ _ _ _ _ _ _ _ _ _)
      | (with_reducible exact impl_PagesWithout.mono _ _ _)
      | (with_reducible exact impl_PrintOrder.mono _ _)
      | (with_reducible exact laws_fHas.mono _ _ _)
      | (with_reducible exact laws_fRises.mono _ _)
      | (with_reducible exact laws_fSame.mono _ _ _)
      | (with_reducible exact spec_PagesWithout.mono _ _ _)
      | (with_reducible exact spec_PlaceOfPage.mono _ _ _)
      | (with_reducible exact spec_PrintOrder.mono _ _)
      | (with_reducible exact spec_SheetOfPartners.mono _ _ _ _)
      | (with_reducible exact LeO.refl _)
      | (with_reducible exact LeO.none _)
      | (with_reducible refine LeO.ite ?_ ?_)
      | (with_reducible refine LeO.bind ?_ (fun _ => ?_))
      | exact ih0 _ _ _ _ _ _ _ _ _ _ _ _ _
      | exact ih1 _ _ _ _ _ _ _ _ _
      | exact ih2 _
      | exact ih3 _ _ _ _ _ _ _ _ _ _ _ _
      | exact ih4 _ _ _ _ _
      | exact ih5 _ _ _ _ _ _ _ _ _ _ _ _ _ _ _ _ _ _ _ _ _
      | exact ih6 _ _ _ _ _ _
      | exact ih7 _ _ _ _ _ _ _ _ _ _
      | exact ih8 _ _ _ _ _ _ _ _ _ _ _ _
      | exact impl_PagesWithout.mono _ _ _
      | exact impl_PrintOrder.mono _ _
      | exact laws_fHas.mono _ _ _
      | exact laws_fRises.mono _ _
      | exact laws_fSame.mono _ _ _
      | exact spec_PagesWithout.mono _ _ _
      | exact spec_PlaceOfPage.mono _ _ _
      | exact spec_PrintOrder.mono _ _
      | exact spec_SheetOfPartners.mono _ _ _ _
      | exact LeO.none _
      | refine LeO.ite ?_ ?_
      | refine LeO.bind ?_ (fun _ => ?_)
theorem laws_FnFoldsPrint.mono : ∀ a0 a1 k, LeO (laws_FnFoldsPrint.f k a0 a1) (laws_FnFoldsPrint.f (k + 1) a0 a1) := by
  intro a0 a1 k
  obtain ⟨ih0, ih1, ih2, ih3, ih4, ih5, ih6, ih7, ih8⟩ := laws_FnFoldsPrint.mono_l k
  unfold laws_FnFoldsPrint.f
  repeat' first
      | (with_reducible exact ih0 _ _ _ _ _ _ _ _ _ _ _ _ _)
      | (with_reducible exact ih1 _ _ _ _ _ _ _ _ _)
      | (with_reducible exact ih2 _)
      | (with_reducible exact ih3 _ _ _ _ _ _ _ _ _ _ _ _)
      | (with_reducible exact ih4 _ _ _ _ _)
      | (with_reducible exact ih5 _ _ _ _ _ _ _ _ _ _ _ _ _ _ _ _ _ _ _ _ _)
      | (with_reducible exact ih6 _ _ _ _ _ _)
      | (with_reducible exact ih7 _ _ _ _ _ _ _ _ _ _)
      | (with_reducible exact ih8 _ _ _ _ _ _ _ _ _ _ _ _)
      | (with_reducible exact impl_PagesWithout.mono _ _ _)
      | (with_reducible exact impl_PrintOrder.mono _ _)
      | (with_reducible exact laws_fHas.mono _ _ _)
      | (with_reducible exact laws_fRises.mono _ _)
      | (with_reducible exact laws_fSame.mono _ _ _)
      | (with_reducible exact spec_PagesWithout.mono _ _ _)
      | (with_reducible exact spec_PlaceOfPage.mono _ _ _)
      | (with_reducible exact spec_PrintOrder.mono _ _)
      | (with_reducible exact spec_SheetOfPartners.mono _ _ _ _)
      | (with_reducible exact LeO.refl _)
      | (with_reducible exact LeO.none _)
      | (with_reducible refine LeO.ite ?_ ?_)
      | (with_reducible refine LeO.bind ?_ (fun _ => ?_))
      | exact ih0 _ _ _ _ _ _ _ _ _ _ _ _ _
      | exact ih1 _ _ _ _ _ _ _ _ _
      | exact ih2 _
      | exact ih3 _ _ _ _ _ _ _ _ _ _ _ _
      | exact ih4 _ _ _ _ _
      | exact ih5 _ _ _ _ _ _ _ _ _ _ _ _ _ _ _ _ _ _ _ _ _
      | exact ih6 _ _ _ _ _ _
      | exact ih7 _ _ _ _ _ _ _ _ _ _
      | exact ih8 _ _ _ _ _ _ _ _ _ _ _ _
      | exact impl_PagesWithout.mono _ _ _
      | exact impl_PrintOrder.mono _ _
      | exact laws_fHas.mono _ _ _
      | exact laws_fRises.mono _ _
      | exact laws_fSame.mono _ _ _
      | exact spec_PagesWithout.mono _ _ _
      | exact spec_PlaceOfPage.mono _ _ _
      | exact spec_PrintOrder.mono _ _
      | exact spec_SheetOfPartners.mono _ _ _ _
      | exact LeO.none _
      | refine LeO.ite ?_ ?_
      | refine LeO.bind ?_ (fun _ => ?_)
theorem laws_FnFoldsPrint.j0_dead {k : Nat} {y0 : List Int} {y1 : Int} {y2 : Int} {y3 : Bool} {y4 : Int} {y5 : Int} {y6 : Bool} {y7 : List Int} {y8 : Bool} {y9 : Int} {y10 : Int} {y11 : List Int} : ¬ laws_FnFoldsPrint.j0 k y0 y1 y2 y3 y4 y5 y6 y7 y8 y9 y10 y11 true = some true := by
  cases k with
  | zero => intro h; rw [laws_FnFoldsPrint.j0] at h; exact absurd h (by simp)
  | succ k => intro h; rw [laws_FnFoldsPrint.j0, if_pos rfl] at h; exact absurd h (by simp)
theorem laws_FnFoldsPrint.j7_dead {k : Nat} {y0 : Int} {y1 : Int} {y2 : Int} {y3 : Bool} {y4 : Bool} {y5 : Bool} {y6 : Int} {y7 : Int} {y8 : Int} {y9 : Bool} {y10 : Int} : ¬ laws_FnFoldsPrint.j7 k y0 y1 y2 y3 y4 y5 y6 y7 y8 y9 y10 true = some true := by
  cases k with
  | zero => intro h; rw [laws_FnFoldsPrint.j7] at h; exact absurd h (by simp)
  | succ k => intro h; rw [laws_FnFoldsPrint.j7, if_pos rfl] at h; exact absurd h (by simp)
theorem laws_FnFoldsPrint.j8_dead {k : Nat} {y0 : Int} {y1 : Int} {y2 : Bool} {y3 : Int} : ¬ laws_FnFoldsPrint.j8 k y0 y1 y2 y3 true = some true := by
  cases k with
  | zero => intro h; rw [laws_FnFoldsPrint.j8] at h; exact absurd h (by simp)
  | succ k => intro h; rw [laws_FnFoldsPrint.j8, if_pos rfl] at h; exact absurd h (by simp)
theorem laws_FnFoldsPrint.j5_dead {k : Nat} {y0 : List Int} {y1 : Int} {y2 : Int} {y3 : Int} {y4 : List Int} : ¬ laws_FnFoldsPrint.j5 k y0 y1 y2 y3 y4 true = some true := by
  cases k with
  | zero => intro h; rw [laws_FnFoldsPrint.j5] at h; exact absurd h (by simp)
  | succ k => intro h; rw [laws_FnFoldsPrint.j5, if_pos rfl] at h; exact absurd h (by simp)
theorem laws_FnFoldsPrint.j1_dead {k : Nat} {y0 : List Int} {y1 : Int} {y2 : Int} {y3 : Bool} {y4 : Int} {y5 : Int} {y6 : Bool} {y7 : List Int} {y8 : List Int} : ¬ laws_FnFoldsPrint.j1 k y0 y1 y2 y3 y4 y5 y6 y7 y8 true = some true := by
  cases k with
  | zero => intro h; rw [laws_FnFoldsPrint.j1] at h; exact absurd h (by simp)
  | succ k => intro h; rw [laws_FnFoldsPrint.j1, if_pos rfl] at h; exact absurd h (by simp)
/-- The statements from the n-th on. -/
def laws_FnFoldsPrint.rights : Nat → Code → Code
  | 0, c => c
  | n + 1, .seq _ b => laws_FnFoldsPrint.rights n b
  | _, c => c
def laws_FnFoldsPrint.first : Code → Code
  | .seq a _ => a
  | c => c
def laws_FnFoldsPrint.second : Code → Code
  | .seq _ b => b
  | c => c
set_option maxRecDepth 1000000 in
/-- What follows statement 11. -/
def laws_FnFoldsPrint.P11 : Prop := ∀ (k : Nat) (l0 : List Int) (A1 : Option Addr) (c1 : Nat) (l1 : List Int) (w : World) (HR1 : Aside0 (Kd.C (Kd.int .u8) w A1 l1.length l1)) (HC1 : Aside0 (l1.length ≤ c1)) (t280 : Int) (t281 : Int) (t282 : Bool) (t283 : Int) (t284 : Int) (t285 : Bool) (t289 : List Int) (t290 : Bool) (t297 : Int) (t298 : Int) (t303 : List Int) (v305 : Value) (v291 : Value) (kq : Nat) (x203_13 : Bool) (wc : World) (HA : Aside0 (laws_FnFoldsPrint.j0 kq l1 t280 t281 t282 t283 t284 t285 t289 t290 t297 t298 t303 x203_13 = some true)) (HO_14 : Aside0 (Kd.R (Kd.int .i64) 3 wc w.heap.size (fun k_ => some k_ ≠ (v305 : Value).ownBlock) v291 t289)) (HO_24 : Aside0 (Kd.R (Kd.int .i64) 3 wc w.heap.size (fun k_ => some k_ ≠ (v291 : Value).ownBlock) v305 t303)) (HB : Aside0 (Below w.heap.size w wc)),
    ∀ (u0 u2 u3 u4 u11 u12 u13 u16 u17 u20 u21 u22 u23 u25 u26 u27 u28 u29 u30 u31 u32 u33 u34 u35 u36 u37 u38 u39 u40 u41 u42 u43 u44 u45 u46 u47 u48 u49 u50 u51 u52 u53 u54 u55 u56 u57 u58 u59 u60 u61 u62 u63 u64 u65 u66 u67 u68 u69 u70 u71 u72 u73 u74 u75 u76 u77 u78 u79 u80 u81 u82 u83 u84 u85 u86 u87 u88 u89 u90 u91 u92 u93 u94 u95 u96 u97 u98 u99 u100 u101 u102 u103 u104 u105 u106 u107 u108 u109 u110 u111 u112 u113 u114 u115 u116 u117 u118 u119 u120 u121 u122 u123 u124 u125 u126 u127 u128 u129 u130 u131 u132 u133 u134 u135 u136 u137 u138 u139 u140 u141 u142 u143 u144 u145 u146 u147 u148 u149 u150 u151 u152 u153 u154 u155 u156 u157 u158 u159 u160 u161 u162 u163 u164 u165 u166 u167 u168 u169 u170 u171 u172 u173 u174 u175 u176 u177 u178 u179 u180 u181 u182 u183 u184 u185 u186 u187 u188 u189 u190 u191 u192 u193 u194 u195 u196 u197 u198 u199 u200 u201 u202 u204 u205 u206 u207 u208 u209 u210 u211 u212 u213 u214 u215 u216 u217 u218 u219 u220 u221 u222 u223 u224 u225 u226 u227 u228 u229 u230 u231 u232 u233 u234 u235 u236 u237 u238 u239 u240 u241 u242 u243 u244 u245 u246 u247 u248 u249 u250 u251 u252 u253 u254 u255 u256 u257 u258 u259 u260 u261 u262 u263 u264 u265 u266 u267 u268 u269 u270 u271 u272 u273 u274 u275 u276 u277 u278 u279 u280 u281 u282 u283 u284 u285 u286 u287 u288 u289 u290 u291 u292 u293 u294 u295 u296 u297 u298 u299 u300 u301 u302 u303 u304 u305 u306 u307 u308 u309 u310 u311 u312 u313 u314 u315 u316 u317 u318 u319 u320 u321 u322 u323 u324 u325 u326 u327 u328 u329 u330 u331 u332 u333 u334 u335 u336 u337 u338 u339 u340 u341 u342 u343 u344 u345 u346 u347 u348 u349 u350 u351 u352 u353 u354 u355 u356 u357 u358 u359 u360 u361 u362 u363 u364 u365 u366 u367 u368 u369 u370 u371 u372 u373 u374 u375 u376 u377 u378 u379 u380 u381 u382 u383 u384 u385 u386 u387 u388 u389 u390 u391 u392 u393 u394 u395 u396 u397 u398 u399 u400 u401 u402 u403 u404 u405 u406 u407 u408 u409 u410 u411 u412 u413 u414 u415 u416 u417 u418 u419 u420 u421 u422 u423 u424 u425 u426 u427 u428 u429 u430 u431 u432 u433 u434 u435 u436 u437 u438 u439 u440 u441 u442 u443 u444 u445 u446 u447 u448 u449 u450 u451 u452 u453 u454 u455 u456 u457 u458 u459 u460 u461 u462 u463 u464 u465 u466 u467 u468 u469 u470 u471 u472 u473 u474 u475 u476 u477 u478 u479 u480 u481 u482 u483 u484 u485 u486 u487 u488 u489 u490 u491 u492 u493 u494 u495 u496 u497 u498 u499 u500 u501 u502 u503 u504 u505 u506 u507 u508 u509 u510 u511 u512 u513 u514 u515 u516 u517 u518 u519 u520 u521 u522 u523 u524 u525 u526 u527 u528 u529 u530 u531 u532 u533 u534 u535 u536 u537 u538 u539 u540 u541 u542 u543 u544 u545 u546 u547 u548 u549 u550 u551 u552 u553 u554 u555 u556 u557 u558 u559 u560 u561 u562 u563 u564 u565 u566 u567 u568 u569 u570 u571 u572 u573 u574 u575 u576 u577 u578 u579 u580 u581 u582 u583 u584 u585 u586 u587 u588 u589 u590 u591 u592 u593 u594 u595 u596 u597 u598 u599 u600 u601 u602 u603 u604 u605 u606 u607 : Value), let Q' : Exit → Act → World → Prop := bodyPost Try.prog Try.f4 (fun e w' => e = .returned (.bool true) ∧ Below w.heap.size w w'); ∀ (K1 : Act → World → Prop) (a1 : ∀ a w, Code.wp Try.prog (laws_FnFoldsPrint.rights 12 (Try.f4.body.getD .skip)) Q' a w → K1 a w) (K0 : Act → World → Prop) (a0 : ∀ a w, Code.wp Try.prog (laws_FnFoldsPrint.second (laws_FnFoldsPrint.first (laws_FnFoldsPrint.rights 11 (Try.f4.body.getD .skip)))) (Exit.then K1 Q') a w → K0 a w),
      K0 ⟨#[u0, .slice A1 l1.length c1, u2, u3, u4, .int .i64 t280, .int .i64 t281, .bool t282, .int .i64 t283, .int .i64 t284, .bool t285, u11, u12, u13, v291, .bool t290, u16, u17, .int .i64 t297, .int .i64 t298, u20, u21, u22, u23, v305, u25, u26, u27, u28, u29, u30, u31, u32, u33, u34, u35, u36, u37, u38, u39, u40, u41, u42, u43, u44, u45, u46, u47, u48, u49, u50, u51, u52, u53, u54, u55, u56, u57, u58, u59, u60, u61, u62, u63, u64, u65, u66, u67, u68, u69, u70, u71, u72, u73, u74, u75, u76, u77, u78, u79, u80, u81, u82, u83, u84, u85, u86, u87, u88, u89, u90, u91, u92, u93, u94, u95, u96, u97, u98, u99, u100, u101, u102, u103, u104, u105, u106, u107, u108, u109, u110, u111, u112, u113, u114, u115, u116, u117, u118, u119, u120, u121, u122, u123, u124, u125, u126, u127, u128, u129, u130, u131, u132, u133, u134, u135, u136, u137, u138, u139, u140, u141, u142, u143, u144, u145, u146, u147, u148, u149, u150, u151, u152, u153, u154, u155, u156, u157, u158, u159, u160, u161, u162, u163, u164, u165, u166, u167, u168, u169, u170, u171, u172, u173, u174, u175, u176, u177, u178, u179, u180, u181, u182, u183, u184, u185, u186, u187, u188, u189, u190, u191, u192, u193, u194, u195, u196, u197, u198, u199, u200, u201, u202, .bool x203_13, u204, u205, u206, u207, u208, u209, u210, u211, u212, u213, u214, u215, u216, u217, u218, u219, u220, u221, u222, u223, u224, u225, u226, u227, u228, u229, u230, u231, u232, u233, u234, u235, u236, u237, u238, u239, u240, u241, u242, u243, u244, u245, u246, u247, u248, u249, u250, u251, u252, u253, u254, u255, u256, u257, u258, u259, u260, u261, u262, u263, u264, u265, u266, u267, u268, u269, u270, u271, u272, u273, u274, u275, u276, u277, u278, u279, u280, u281, u282, u283, u284, u285, u286, u287, u288, u289, u290, u291, u292, u293, u294, u295, u296, u297, u298, u299, u300, u301, u302, u303, u304, u305, u306, u307, u308, u309, u310, u311, u312, u313, u314, u315, u316, u317, u318, u319, u320, u321, u322, u323, u324, u325, u326, u327, u328, u329, u330, u331, u332, u333, u334, u335, u336, u337, u338, u339, u340, u341, u342, u343, u344, u345, u346, u347, u348, u349, u350, u351, u352, u353, u354, u355, u356, u357, u358, u359, u360, u361, u362, u363, u364, u365, u366, u367, u368, u369, u370, u371, u372, u373, u374, u375, u376, u377, u378, u379, u380, u381, u382, u383, u384, u385, u386, u387, u388, u389, u390, u391, u392, u393, u394, u395, u396, u397, u398, u399, u400, u401, u402, u403, u404, u405, u406, u407, u408, u409, u410, u411, u412, u413, u414, u415, u416, u417, u418, u419, u420, u421, u422, u423, u424, u425, u426, u427, u428, u429, u430, u431, u432, u433, u434, u435, u436, u437, u438, u439, u440, u441, u442, u443, u444, u445, u446, u447, u448, u449, u450, u451, u452, u453, u454, u455, u456, u457, u458, u459, u460, u461, u462, u463, u464, u465, u466, u467, u468, u469, u470, u471, u472, u473, u474, u475, u476, u477, u478, u479, u480, u481, u482, u483, u484, u485, u486, u487, u488, u489, u490, u491, u492, u493, u494, u495, u496, u497, u498, u499, u500, u501, u502, u503, u504, u505, u506, u507, u508, u509, u510, u511, u512, u513, u514, u515, u516, u517, u518, u519, u520, u521, u522, u523, u524, u525, u526, u527, u528, u529, u530, u531, u532, u533, u534, u535, u536, u537, u538, u539, u540, u541, u542, u543, u544, u545, u546, u547, u548, u549, u550, u551, u552, u553, u554, u555, u556, u557, u558, u559, u560, u561, u562, u563, u564, u565, u566, u567, u568, u569, u570, u571, u572, u573, u574, u575, u576, u577, u578, u579, u580, u581, u582, u583, u584, u585, u586, u587, u588, u589, u590, u591, u592, u593, u594, u595, u596, u597, u598, u599, u600, u601, u602, u603, u604, u605, u606, u607], []⟩ wc
set_option maxRecDepth 1000000 in
/-- What follows statement 12. -/
def laws_FnFoldsPrint.P12 : Prop := ∀ (A1 : Option Addr) (c1 : Nat) (l1 : List Int) (w : World) (HR1 : Aside0 (Kd.C (Kd.int .u8) w A1 l1.length l1)) (HC1 : Aside0 (l1.length ≤ c1)) (t280 : Int) (t281 : Int) (t282 : Bool) (t283 : Int) (t284 : Int) (t285 : Bool) (t289 : List Int) (t303 : List Int) (v305 : Value) (v291 : Value) (kq : Nat) (wc : World) (HA : Aside0 (laws_FnFoldsPrint.j3 kq l1 t280 t281 t282 t283 t284 t285 t289 t303 = some true)) (HO_14 : Aside0 (Kd.R (Kd.int .i64) 3 wc w.heap.size (fun k_ => some k_ ≠ (v305 : Value).ownBlock) v291 t289)) (HO_24 : Aside0 (Kd.R (Kd.int .i64) 3 wc w.heap.size (fun k_ => some k_ ≠ (v291 : Value).ownBlock) v305 t303)) (HB : Aside0 (Below w.heap.size w wc)),
    ∀ (u0 u2 u3 u4 u11 u12 u13 u15 u16 u17 u18 u19 u20 u21 u22 u23 u25 u26 u27 u28 u29 u30 u31 u32 u33 u34 u35 u36 u37 u38 u39 u40 u41 u42 u43 u44 u45 u46 u47 u48 u49 u50 u51 u52 u53 u54 u55 u56 u57 u58 u59 u60 u61 u62 u63 u64 u65 u66 u67 u68 u69 u70 u71 u72 u73 u74 u75 u76 u77 u78 u79 u80 u81 u82 u83 u84 u85 u86 u87 u88 u89 u90 u91 u92 u93 u94 u95 u96 u97 u98 u99 u100 u101 u102 u103 u104 u105 u106 u107 u108 u109 u110 u111 u112 u113 u114 u115 u116 u117 u118 u119 u120 u121 u122 u123 u124 u125 u126 u127 u128 u129 u130 u131 u132 u133 u134 u135 u136 u137 u138 u139 u140 u141 u142 u143 u144 u145 u146 u147 u148 u149 u150 u151 u152 u153 u154 u155 u156 u157 u158 u159 u160 u161 u162 u163 u164 u165 u166 u167 u168 u169 u170 u171 u172 u173 u174 u175 u176 u177 u178 u179 u180 u181 u182 u183 u184 u185 u186 u187 u188 u189 u190 u191 u192 u193 u194 u195 u196 u197 u198 u199 u200 u201 u202 u203 u204 u205 u206 u207 u208 u209 u210 u211 u212 u213 u214 u215 u216 u217 u218 u219 u220 u221 u222 u223 u224 u225 u226 u227 u228 u229 u230 u231 u232 u233 u234 u235 u236 u237 u238 u239 u240 u241 u242 u243 u244 u245 u246 u247 u248 u249 u250 u251 u252 u253 u254 u255 u256 u257 u258 u259 u260 u261 u262 u263 u264 u265 u266 u267 u268 u269 u270 u271 u272 u273 u274 u275 u276 u277 u278 u279 u280 u281 u282 u283 u284 u285 u286 u287 u288 u289 u290 u291 u292 u293 u294 u295 u296 u297 u298 u299 u300 u301 u302 u303 u304 u305 u306 u307 u308 u309 u310 u311 u312 u313 u314 u315 u316 u317 u318 u319 u320 u321 u322 u323 u324 u325 u326 u327 u328 u329 u330 u331 u332 u333 u334 u335 u336 u337 u338 u339 u340 u341 u342 u343 u344 u345 u346 u347 u348 u349 u350 u351 u352 u353 u354 u355 u356 u357 u358 u359 u360 u361 u362 u363 u364 u365 u366 u367 u368 u369 u370 u371 u372 u373 u374 u375 u376 u377 u378 u379 u380 u381 u382 u383 u384 u385 u386 u387 u388 u389 u390 u391 u392 u393 u394 u395 u396 u397 u398 u399 u400 u401 u402 u403 u404 u405 u406 u407 u408 u409 u410 u411 u412 u413 u414 u415 u416 u417 u418 u419 u420 u421 u422 u423 u424 u425 u426 u427 u428 u429 u430 u431 u432 u433 u434 u435 u436 u437 u438 u439 u440 u441 u442 u443 u444 u445 u446 u447 u448 u449 u450 u451 u452 u453 u454 u455 u456 u457 u458 u459 u460 u461 u462 u463 u464 u465 u466 u467 u468 u469 u470 u471 u472 u473 u474 u475 u476 u477 u478 u479 u480 u481 u482 u483 u484 u485 u486 u487 u488 u489 u490 u491 u492 u493 u494 u495 u496 u497 u498 u499 u500 u501 u502 u503 u504 u505 u506 u507 u508 u509 u510 u511 u512 u513 u514 u515 u516 u517 u518 u519 u520 u521 u522 u523 u524 u525 u526 u527 u528 u529 u530 u531 u532 u533 u534 u535 u536 u537 u538 u539 u540 u541 u542 u543 u544 u545 u546 u547 u548 u549 u550 u551 u552 u553 u554 u555 u556 u557 u558 u559 u560 u561 u562 u563 u564 u565 u566 u567 u568 u569 u570 u571 u572 u573 u574 u575 u576 u577 u578 u579 u580 u581 u582 u583 u584 u585 u586 u587 u588 u589 u590 u591 u592 u593 u594 u595 u596 u597 u598 u599 u600 u601 u602 u603 u604 u605 u606 u607 : Value), let Q' : Exit → Act → World → Prop := bodyPost Try.prog Try.f4 (fun e w' => e = .returned (.bool true) ∧ Below w.heap.size w w'); ∀ (K1 : Act → World → Prop) (a1 : ∀ a w, Code.wp Try.prog (laws_FnFoldsPrint.rights 13 (Try.f4.body.getD .skip)) Q' a w → K1 a w),
      K1 ⟨#[u0, .slice A1 l1.length c1, u2, u3, u4, .int .i64 t280, .int .i64 t281, .bool t282, .int .i64 t283, .int .i64 t284, .bool t285, u11, u12, u13, v291, u15, u16, u17, u18, u19, u20, u21, u22, u23, v305, u25, u26, u27, u28, u29, u30, u31, u32, u33, u34, u35, u36, u37, u38, u39, u40, u41, u42, u43, u44, u45, u46, u47, u48, u49, u50, u51, u52, u53, u54, u55, u56, u57, u58, u59, u60, u61, u62, u63, u64, u65, u66, u67, u68, u69, u70, u71, u72, u73, u74, u75, u76, u77, u78, u79, u80, u81, u82, u83, u84, u85, u86, u87, u88, u89, u90, u91, u92, u93, u94, u95, u96, u97, u98, u99, u100, u101, u102, u103, u104, u105, u106, u107, u108, u109, u110, u111, u112, u113, u114, u115, u116, u117, u118, u119, u120, u121, u122, u123, u124, u125, u126, u127, u128, u129, u130, u131, u132, u133, u134, u135, u136, u137, u138, u139, u140, u141, u142, u143, u144, u145, u146, u147, u148, u149, u150, u151, u152, u153, u154, u155, u156, u157, u158, u159, u160, u161, u162, u163, u164, u165, u166, u167, u168, u169, u170, u171, u172, u173, u174, u175, u176, u177, u178, u179, u180, u181, u182, u183, u184, u185, u186, u187, u188, u189, u190, u191, u192, u193, u194, u195, u196, u197, u198, u199, u200, u201, u202, u203, u204, u205, u206, u207, u208, u209, u210, u211, u212, u213, u214, u215, u216, u217, u218, u219, u220, u221, u222, u223, u224, u225, u226, u227, u228, u229, u230, u231, u232, u233, u234, u235, u236, u237, u238, u239, u240, u241, u242, u243, u244, u245, u246, u247, u248, u249, u250, u251, u252, u253, u254, u255, u256, u257, u258, u259, u260, u261, u262, u263, u264, u265, u266, u267, u268, u269, u270, u271, u272, u273, u274, u275, u276, u277, u278, u279, u280, u281, u282, u283, u284, u285, u286, u287, u288, u289, u290, u291, u292, u293, u294, u295, u296, u297, u298, u299, u300, u301, u302, u303, u304, u305, u306, u307, u308, u309, u310, u311, u312, u313, u314, u315, u316, u317, u318, u319, u320, u321, u322, u323, u324, u325, u326, u327, u328, u329, u330, u331, u332, u333, u334, u335, u336, u337, u338, u339, u340, u341, u342, u343, u344, u345, u346, u347, u348, u349, u350, u351, u352, u353, u354, u355, u356, u357, u358, u359, u360, u361, u362, u363, u364, u365, u366, u367, u368, u369, u370, u371, u372, u373, u374, u375, u376, u377, u378, u379, u380, u381, u382, u383, u384, u385, u386, u387, u388, u389, u390, u391, u392, u393, u394, u395, u396, u397, u398, u399, u400, u401, u402, u403, u404, u405, u406, u407, u408, u409, u410, u411, u412, u413, u414, u415, u416, u417, u418, u419, u420, u421, u422, u423, u424, u425, u426, u427, u428, u429, u430, u431, u432, u433, u434, u435, u436, u437, u438, u439, u440, u441, u442, u443, u444, u445, u446, u447, u448, u449, u450, u451, u452, u453, u454, u455, u456, u457, u458, u459, u460, u461, u462, u463, u464, u465, u466, u467, u468, u469, u470, u471, u472, u473, u474, u475, u476, u477, u478, u479, u480, u481, u482, u483, u484, u485, u486, u487, u488, u489, u490, u491, u492, u493, u494, u495, u496, u497, u498, u499, u500, u501, u502, u503, u504, u505, u506, u507, u508, u509, u510, u511, u512, u513, u514, u515, u516, u517, u518, u519, u520, u521, u522, u523, u524, u525, u526, u527, u528, u529, u530, u531, u532, u533, u534, u535, u536, u537, u538, u539, u540, u541, u542, u543, u544, u545, u546, u547, u548, u549, u550, u551, u552, u553, u554, u555, u556, u557, u558, u559, u560, u561, u562, u563, u564, u565, u566, u567, u568, u569, u570, u571, u572, u573, u574, u575, u576, u577, u578, u579, u580, u581, u582, u583, u584, u585, u586, u587, u588, u589, u590, u591, u592, u593, u594, u595, u596, u597, u598, u599, u600, u601, u602, u603, u604, u605, u606, u607], []⟩ wc
set_option maxRecDepth 1000000 in
/-- What follows statement 13. -/
def laws_FnFoldsPrint.P13 : Prop := ∀ (A1 : Option Addr) (c1 : Nat) (l1 : List Int) (w : World) (HR1 : Aside0 (Kd.C (Kd.int .u8) w A1 l1.length l1)) (HC1 : Aside0 (l1.length ≤ c1)) (kq : Nat) (wc : World) (HA : Aside0 (laws_FnFoldsPrint.j6 kq l1 = some true)) (HB : Aside0 (Below w.heap.size w wc)),
    ∀ (u0 u2 u3 u4 u5 u6 u7 u8 u9 u10 u11 u12 u13 u14 u15 u16 u17 u18 u19 u20 u21 u22 u23 u24 u25 u26 u27 u28 u29 u30 u31 u32 u33 u34 u35 u36 u37 u38 u39 u40 u41 u42 u43 u44 u45 u46 u47 u48 u49 u50 u51 u52 u53 u54 u55 u56 u57 u58 u59 u60 u61 u62 u63 u64 u65 u66 u67 u68 u69 u70 u71 u72 u73 u74 u75 u76 u77 u78 u79 u80 u81 u82 u83 u84 u85 u86 u87 u88 u89 u90 u91 u92 u93 u94 u95 u96 u97 u98 u99 u100 u101 u102 u103 u104 u105 u106 u107 u108 u109 u110 u111 u112 u113 u114 u115 u116 u117 u118 u119 u120 u121 u122 u123 u124 u125 u126 u127 u128 u129 u130 u131 u132 u133 u134 u135 u136 u137 u138 u139 u140 u141 u142 u143 u144 u145 u146 u147 u148 u149 u150 u151 u152 u153 u154 u155 u156 u157 u158 u159 u160 u161 u162 u163 u164 u165 u166 u167 u168 u169 u170 u171 u172 u173 u174 u175 u176 u177 u178 u179 u180 u181 u182 u183 u184 u185 u186 u187 u188 u189 u190 u191 u192 u193 u194 u195 u196 u197 u198 u199 u200 u201 u202 u203 u204 u205 u206 u207 u208 u209 u210 u211 u212 u213 u214 u215 u216 u217 u218 u219 u220 u221 u222 u223 u224 u225 u226 u227 u228 u229 u230 u231 u232 u233 u234 u235 u236 u237 u238 u239 u240 u241 u242 u243 u244 u245 u246 u247 u248 u249 u250 u251 u252 u253 u254 u255 u256 u257 u258 u259 u260 u261 u262 u263 u264 u265 u266 u267 u268 u269 u270 u271 u272 u273 u274 u275 u276 u277 u278 u279 u280 u281 u282 u283 u284 u285 u286 u287 u288 u289 u290 u291 u292 u293 u294 u295 u296 u297 u298 u299 u300 u301 u302 u303 u304 u305 u306 u307 u308 u309 u310 u311 u312 u313 u314 u315 u316 u317 u318 u319 u320 u321 u322 u323 u324 u325 u326 u327 u328 u329 u330 u331 u332 u333 u334 u335 u336 u337 u338 u339 u340 u341 u342 u343 u344 u345 u346 u347 u348 u349 u350 u351 u352 u353 u354 u355 u356 u357 u358 u359 u360 u361 u362 u363 u364 u365 u366 u367 u368 u369 u370 u371 u372 u373 u374 u375 u376 u377 u378 u379 u380 u381 u382 u383 u384 u385 u386 u387 u388 u389 u390 u391 u392 u393 u394 u395 u396 u397 u398 u399 u400 u401 u402 u403 u404 u405 u406 u407 u408 u409 u410 u411 u412 u413 u414 u415 u416 u417 u418 u419 u420 u421 u422 u423 u424 u425 u426 u427 u428 u429 u430 u431 u432 u433 u434 u435 u436 u437 u438 u439 u440 u441 u442 u443 u444 u445 u446 u447 u448 u449 u450 u451 u452 u453 u454 u455 u456 u457 u458 u459 u460 u461 u462 u463 u464 u465 u466 u467 u468 u469 u470 u471 u472 u473 u474 u475 u476 u477 u478 u479 u480 u481 u482 u483 u484 u485 u486 u487 u488 u489 u490 u491 u492 u493 u494 u495 u496 u497 u498 u499 u500 u501 u502 u503 u504 u505 u506 u507 u508 u509 u510 u511 u512 u513 u514 u515 u516 u517 u518 u519 u520 u521 u522 u523 u524 u525 u526 u527 u528 u529 u530 u531 u532 u533 u534 u535 u536 u537 u538 u539 u540 u541 u542 u543 u544 u545 u546 u547 u548 u549 u550 u551 u552 u553 u554 u555 u556 u557 u558 u559 u560 u561 u562 u563 u564 u565 u566 u567 u568 u569 u570 u571 u572 u573 u574 u575 u576 u577 u578 u579 u580 u581 u582 u583 u584 u585 u586 u587 u588 u589 u590 u591 u592 u593 u594 u595 u596 u597 u598 u599 u600 u601 u602 u603 u604 u605 u606 u607 : Value), let Q' : Exit → Act → World → Prop := bodyPost Try.prog Try.f4 (fun e w' => e = .returned (.bool true) ∧ Below w.heap.size w w'); ∀ (K1 : Act → World → Prop) (a1 : ∀ a w, Code.wp Try.prog (laws_FnFoldsPrint.rights 14 (Try.f4.body.getD .skip)) Q' a w → K1 a w),
      K1 ⟨#[u0, .slice A1 l1.length c1, u2, u3, u4, u5, u6, u7, u8, u9, u10, u11, u12, u13, u14, u15, u16, u17, u18, u19, u20, u21, u22, u23, u24, u25, u26, u27, u28, u29, u30, u31, u32, u33, u34, u35, u36, u37, u38, u39, u40, u41, u42, u43, u44, u45, u46, u47, u48, u49, u50, u51, u52, u53, u54, u55, u56, u57, u58, u59, u60, u61, u62, u63, u64, u65, u66, u67, u68, u69, u70, u71, u72, u73, u74, u75, u76, u77, u78, u79, u80, u81, u82, u83, u84, u85, u86, u87, u88, u89, u90, u91, u92, u93, u94, u95, u96, u97, u98, u99, u100, u101, u102, u103, u104, u105, u106, u107, u108, u109, u110, u111, u112, u113, u114, u115, u116, u117, u118, u119, u120, u121, u122, u123, u124, u125, u126, u127, u128, u129, u130, u131, u132, u133, u134, u135, u136, u137, u138, u139, u140, u141, u142, u143, u144, u145, u146, u147, u148, u149, u150, u151, u152, u153, u154, u155, u156, u157, u158, u159, u160, u161, u162, u163, u164, u165, u166, u167, u168, u169, u170, u171, u172, u173, u174, u175, u176, u177, u178, u179, u180, u181, u182, u183, u184, u185, u186, u187, u188, u189, u190, u191, u192, u193, u194, u195, u196, u197, u198, u199, u200, u201, u202, u203, u204, u205, u206, u207, u208, u209, u210, u211, u212, u213, u214, u215, u216, u217, u218, u219, u220, u221, u222, u223, u224, u225, u226, u227, u228, u229, u230, u231, u232, u233, u234, u235, u236, u237, u238, u239, u240, u241, u242, u243, u244, u245, u246, u247, u248, u249, u250, u251, u252, u253, u254, u255, u256, u257, u258, u259, u260, u261, u262, u263, u264, u265, u266, u267, u268, u269, u270, u271, u272, u273, u274, u275, u276, u277, u278, u279, u280, u281, u282, u283, u284, u285, u286, u287, u288, u289, u290, u291, u292, u293, u294, u295, u296, u297, u298, u299, u300, u301, u302, u303, u304, u305, u306, u307, u308, u309, u310, u311, u312, u313, u314, u315, u316, u317, u318, u319, u320, u321, u322, u323, u324, u325, u326, u327, u328, u329, u330, u331, u332, u333, u334, u335, u336, u337, u338, u339, u340, u341, u342, u343, u344, u345, u346, u347, u348, u349, u350, u351, u352, u353, u354, u355, u356, u357, u358, u359, u360, u361, u362, u363, u364, u365, u366, u367, u368, u369, u370, u371, u372, u373, u374, u375, u376, u377, u378, u379, u380, u381, u382, u383, u384, u385, u386, u387, u388, u389, u390, u391, u392, u393, u394, u395, u396, u397, u398, u399, u400, u401, u402, u403, u404, u405, u406, u407, u408, u409, u410, u411, u412, u413, u414, u415, u416, u417, u418, u419, u420, u421, u422, u423, u424, u425, u426, u427, u428, u429, u430, u431, u432, u433, u434, u435, u436, u437, u438, u439, u440, u441, u442, u443, u444, u445, u446, u447, u448, u449, u450, u451, u452, u453, u454, u455, u456, u457, u458, u459, u460, u461, u462, u463, u464, u465, u466, u467, u468, u469, u470, u471, u472, u473, u474, u475, u476, u477, u478, u479, u480, u481, u482, u483, u484, u485, u486, u487, u488, u489, u490, u491, u492, u493, u494, u495, u496, u497, u498, u499, u500, u501, u502, u503, u504, u505, u506, u507, u508, u509, u510, u511, u512, u513, u514, u515, u516, u517, u518, u519, u520, u521, u522, u523, u524, u525, u526, u527, u528, u529, u530, u531, u532, u533, u534, u535, u536, u537, u538, u539, u540, u541, u542, u543, u544, u545, u546, u547, u548, u549, u550, u551, u552, u553, u554, u555, u556, u557, u558, u559, u560, u561, u562, u563, u564, u565, u566, u567, u568, u569, u570, u571, u572, u573, u574, u575, u576, u577, u578, u579, u580, u581, u582, u583, u584, u585, u586, u587, u588, u589, u590, u591, u592, u593, u594, u595, u596, u597, u598, u599, u600, u601, u602, u603, u604, u605, u606, u607], []⟩ wc
set_option maxRecDepth 1000000 in
/-- What follows statement 27. -/
def laws_FnFoldsPrint.P27 : Prop := ∀ (w : World) (t337 : Int) (t338 : Int) (t339 : Int) (t340 : Bool) (t341 : Bool) (t342 : Bool) (t347 : Int) (t358 : Int) (t359 : Int) (t360 : Bool) (t363 : Int) (kq : Nat) (x540_145 : Bool) (wc : World) (HA : Aside0 (laws_FnFoldsPrint.j7 kq t337 t338 t339 t340 t341 t342 t347 t358 t359 t360 t363 x540_145 = some true)) (HB : Aside0 (Below w.heap.size w wc)),
    ∀ (u0 u1 u2 u3 u4 u5 u6 u7 u8 u9 u10 u11 u12 u13 u14 u15 u16 u17 u18 u19 u20 u21 u22 u23 u24 u25 u26 u27 u28 u29 u30 u31 u32 u33 u34 u35 u36 u37 u38 u39 u40 u41 u42 u49 u50 u51 u52 u54 u55 u56 u57 u58 u59 u60 u61 u62 u63 u67 u68 u70 u71 u72 u73 u74 u75 u76 u77 u78 u79 u80 u81 u82 u83 u84 u85 u86 u87 u88 u89 u90 u91 u92 u93 u94 u95 u96 u97 u98 u99 u100 u101 u102 u103 u104 u105 u106 u107 u108 u109 u110 u111 u112 u113 u114 u115 u116 u117 u118 u119 u120 u121 u122 u123 u124 u125 u126 u127 u128 u129 u130 u131 u132 u133 u134 u135 u136 u137 u138 u139 u140 u141 u142 u143 u144 u145 u146 u147 u148 u149 u150 u151 u152 u153 u154 u155 u156 u157 u158 u159 u160 u161 u162 u163 u164 u165 u166 u167 u168 u169 u170 u171 u172 u173 u174 u175 u176 u177 u178 u179 u180 u181 u182 u183 u184 u185 u186 u187 u188 u189 u190 u191 u192 u193 u194 u195 u196 u197 u198 u199 u200 u201 u202 u203 u204 u205 u206 u207 u208 u209 u210 u211 u212 u213 u214 u215 u216 u217 u218 u219 u220 u221 u222 u223 u224 u225 u226 u227 u228 u229 u230 u231 u232 u233 u234 u235 u236 u237 u238 u239 u240 u241 u242 u243 u244 u245 u246 u247 u248 u249 u250 u251 u252 u253 u254 u255 u256 u257 u258 u259 u260 u261 u262 u263 u264 u265 u266 u267 u268 u269 u270 u271 u272 u273 u274 u275 u276 u277 u278 u279 u280 u281 u282 u283 u284 u285 u286 u287 u288 u289 u290 u291 u292 u293 u294 u295 u296 u297 u298 u299 u300 u301 u302 u303 u304 u305 u306 u307 u308 u309 u310 u311 u312 u313 u314 u315 u316 u317 u318 u319 u320 u321 u322 u323 u324 u325 u326 u327 u328 u329 u330 u331 u332 u333 u334 u335 u336 u337 u338 u339 u340 u341 u342 u343 u344 u345 u346 u347 u348 u349 u350 u351 u352 u353 u354 u355 u356 u357 u358 u359 u360 u361 u362 u363 u364 u365 u366 u367 u368 u369 u370 u371 u372 u373 u374 u375 u376 u377 u378 u379 u380 u381 u382 u383 u384 u385 u386 u387 u388 u389 u390 u391 u392 u393 u394 u395 u396 u397 u398 u399 u400 u401 u402 u403 u404 u405 u406 u407 u408 u409 u410 u411 u412 u413 u414 u415 u416 u417 u418 u419 u420 u421 u422 u423 u424 u425 u426 u427 u428 u429 u430 u431 u432 u433 u434 u435 u436 u437 u438 u439 u440 u441 u442 u443 u444 u445 u446 u447 u448 u449 u450 u451 u452 u453 u454 u455 u456 u457 u458 u459 u460 u461 u462 u463 u464 u465 u466 u467 u468 u469 u470 u471 u472 u473 u474 u475 u476 u477 u478 u479 u480 u481 u482 u483 u484 u485 u486 u487 u488 u489 u490 u491 u492 u493 u494 u495 u496 u497 u498 u499 u500 u501 u502 u503 u504 u505 u506 u507 u508 u509 u510 u511 u512 u513 u514 u515 u516 u517 u518 u519 u520 u521 u522 u523 u524 u525 u526 u527 u528 u529 u530 u531 u532 u533 u534 u535 u536 u537 u538 u539 u541 u542 u543 u544 u545 u546 u547 u548 u549 u550 u551 u552 u553 u554 u555 u556 u557 u558 u559 u560 u561 u562 u563 u564 u565 u566 u567 u568 u569 u570 u571 u572 u573 u574 u575 u576 u577 u578 u579 u580 u581 u582 u583 u584 u585 u586 u587 u588 u589 u590 u591 u592 u593 u594 u595 u596 u597 u598 u599 u600 u601 u602 u603 u604 u605 u606 u607 : Value), let Q' : Exit → Act → World → Prop := bodyPost Try.prog Try.f4 (fun e w' => e = .returned (.bool true) ∧ Below w.heap.size w w'); ∀ (K1 : Act → World → Prop) (a1 : ∀ a w, Code.wp Try.prog (laws_FnFoldsPrint.rights 28 (Try.f4.body.getD .skip)) Q' a w → K1 a w) (K0 : Act → World → Prop) (a0 : ∀ a w, Code.wp Try.prog (laws_FnFoldsPrint.second (laws_FnFoldsPrint.first (laws_FnFoldsPrint.rights 27 (Try.f4.body.getD .skip)))) (Exit.then K1 Q') a w → K0 a w),
      K0 ⟨#[u0, u1, u2, u3, u4, u5, u6, u7, u8, u9, u10, u11, u12, u13, u14, u15, u16, u17, u18, u19, u20, u21, u22, u23, u24, u25, u26, u27, u28, u29, u30, u31, u32, u33, u34, u35, u36, u37, u38, u39, u40, u41, u42, .int .i64 t337, .int .i64 t338, .int .i64 t339, .bool t340, .bool t341, .bool t342, u49, u50, u51, u52, .int .i64 t347, u54, u55, u56, u57, u58, u59, u60, u61, u62, u63, .int .i64 t358, .int .i64 t359, .bool t360, u67, u68, .int .i64 t363, u70, u71, u72, u73, u74, u75, u76, u77, u78, u79, u80, u81, u82, u83, u84, u85, u86, u87, u88, u89, u90, u91, u92, u93, u94, u95, u96, u97, u98, u99, u100, u101, u102, u103, u104, u105, u106, u107, u108, u109, u110, u111, u112, u113, u114, u115, u116, u117, u118, u119, u120, u121, u122, u123, u124, u125, u126, u127, u128, u129, u130, u131, u132, u133, u134, u135, u136, u137, u138, u139, u140, u141, u142, u143, u144, u145, u146, u147, u148, u149, u150, u151, u152, u153, u154, u155, u156, u157, u158, u159, u160, u161, u162, u163, u164, u165, u166, u167, u168, u169, u170, u171, u172, u173, u174, u175, u176, u177, u178, u179, u180, u181, u182, u183, u184, u185, u186, u187, u188, u189, u190, u191, u192, u193, u194, u195, u196, u197, u198, u199, u200, u201, u202, u203, u204, u205, u206, u207, u208, u209, u210, u211, u212, u213, u214, u215, u216, u217, u218, u219, u220, u221, u222, u223, u224, u225, u226, u227, u228, u229, u230, u231, u232, u233, u234, u235, u236, u237, u238, u239, u240, u241, u242, u243, u244, u245, u246, u247, u248, u249, u250, u251, u252, u253, u254, u255, u256, u257, u258, u259, u260, u261, u262, u263, u264, u265, u266, u267, u268, u269, u270, u271, u272, u273, u274, u275, u276, u277, u278, u279, u280, u281, u282, u283, u284, u285, u286, u287, u288, u289, u290, u291, u292, u293, u294, u295, u296, u297, u298, u299, u300, u301, u302, u303, u304, u305, u306, u307, u308, u309, u310, u311, u312, u313, u314, u315, u316, u317, u318, u319, u320, u321, u322, u323, u324, u325, u326, u327, u328, u329, u330, u331, u332, u333, u334, u335, u336, u337, u338, u339, u340, u341, u342, u343, u344, u345, u346, u347, u348, u349, u350, u351, u352, u353, u354, u355, u356, u357, u358, u359, u360, u361, u362, u363, u364, u365, u366, u367, u368, u369, u370, u371, u372, u373, u374, u375, u376, u377, u378, u379, u380, u381, u382, u383, u384, u385, u386, u387, u388, u389, u390, u391, u392, u393, u394, u395, u396, u397, u398, u399, u400, u401, u402, u403, u404, u405, u406, u407, u408, u409, u410, u411, u412, u413, u414, u415, u416, u417, u418, u419, u420, u421, u422, u423, u424, u425, u426, u427, u428, u429, u430, u431, u432, u433, u434, u435, u436, u437, u438, u439, u440, u441, u442, u443, u444, u445, u446, u447, u448, u449, u450, u451, u452, u453, u454, u455, u456, u457, u458, u459, u460, u461, u462, u463, u464, u465, u466, u467, u468, u469, u470, u471, u472, u473, u474, u475, u476, u477, u478, u479, u480, u481, u482, u483, u484, u485, u486, u487, u488, u489, u490, u491, u492, u493, u494, u495, u496, u497, u498, u499, u500, u501, u502, u503, u504, u505, u506, u507, u508, u509, u510, u511, u512, u513, u514, u515, u516, u517, u518, u519, u520, u521, u522, u523, u524, u525, u526, u527, u528, u529, u530, u531, u532, u533, u534, u535, u536, u537, u538, u539, .bool x540_145, u541, u542, u543, u544, u545, u546, u547, u548, u549, u550, u551, u552, u553, u554, u555, u556, u557, u558, u559, u560, u561, u562, u563, u564, u565, u566, u567, u568, u569, u570, u571, u572, u573, u574, u575, u576, u577, u578, u579, u580, u581, u582, u583, u584, u585, u586, u587, u588, u589, u590, u591, u592, u593, u594, u595, u596, u597, u598, u599, u600, u601, u602, u603, u604, u605, u606, u607], []⟩ wc

end Go.Proofs.Ytjkfgeigicljpaa.PFnFoldsPrint
