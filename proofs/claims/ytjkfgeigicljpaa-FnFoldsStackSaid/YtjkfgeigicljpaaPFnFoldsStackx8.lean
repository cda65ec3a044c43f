-- WRITTEN BY A PROGRAM OF THIS SESSION (xprint), out of the translation: not trusted: it is checked as any text
import Derived.Test.YtjkfgeigicljpaaPFnFoldsStackx0
import Derived.Test.YtjkfgeigicljpaaPFnFoldsStackx1
import Derived.Test.YtjkfgeigicljpaaPFnFoldsStackx2
import Derived.Test.YtjkfgeigicljpaaPFnFoldsStackx3
import Derived.Test.YtjkfgeigicljpaaPFnFoldsStackx4
import Derived.Test.YtjkfgeigicljpaaPFnFoldsStackx5
import Derived.Test.YtjkfgeigicljpaaPFnFoldsStackx6
import Derived.Test.YtjkfgeigicljpaaPFnFoldsStackx7
import Derived.Lib.OthersKept
namespace Go.Proofs.Ytjkfgeigicljpaa.PFnFoldsStack
open Go.RowKit Go.Proofs.YtjkfgeigicljpaaW.PrintWords Go.Proofs.YtjkfgeigicljpaaW.PrintLast Go.Proofs.YtjkfgeigicljpaaW.PrintMore
attribute [local go_sem] max2_int min2_int max_two min_two max_three min_three max_four min_four   -- for this text's walks alone
set_option linter.unusedVariables false
set_option linter.unusedSimpArgs false

/-! ### laws_FnFoldsStack: function 3 -/
mutual
def laws_FnFoldsStack.j0 : Nat → List Int → Int → Int → Int → Bool → List Int → Bool → List Int → ByteArray → ByteArray → Bool → Bool → Option (Bool)
 | 0, _, _, _, _, _, _, _, _, _, _, _, _ => none
 | k + 1, x1, x5, x6, x7, x8, x11, x12, x15, x19, x23, x24, x216 => if x216 = true then (some false) else (if x12 = true then (laws_FnFoldsStack.l0 k x1 x5 x6 x7 x8 x11 x15 x19 x23 x24 1 0) else (laws_FnFoldsStack.j5 k x1 x6 x7 x8 x11 x15 x19 x23 x24))
def laws_FnFoldsStack.j5 : Nat → List Int → Int → Int → Bool → List Int → List Int → ByteArray → ByteArray → Bool → Option (Bool)
 | 0, _, _, _, _, _, _, _, _, _ => none
 | k + 1, x1, x6, x7, x8, x11, x15, x19, x23, x24 => if x8 = true then (if 0 ≤ (wrap64 (x7 - 1)) then (if (wrap64 (x7 - 1)) < (x11.length : Int) then (if (rd x11 (wrap64 (x7 - 1))) = x6 then (if 0 ≤ (wrap64 (x6 - 1)) then (if (wrap64 (x6 - 1)) < (x15.length : Int) then (laws_FnFoldsStack.j6 k x1 x6 x19 x23 x24 ((rd x15 (wrap64 (x6 - 1))) != x7)) else (none)) else (none)) else (laws_FnFoldsStack.j6 k x1 x6 x19 x23 x24 true)) else (none)) else (none)) else (laws_FnFoldsStack.j6 k x1 x6 x19 x23 x24 false)
def laws_FnFoldsStack.j6 : Nat → List Int → Int → ByteArray → ByteArray → Bool → Bool → Option (Bool)
 | 0, _, _, _, _, _, _ => none
 | k + 1, x1, x6, x19, x23, x24, x340 => if x340 = true then (some false) else (if x24 = true then (if 0 ≤ (wrap64 (x6 - 1)) then (if (wrap64 (x6 - 1)) ≤ x6 then (if x6 ≤ (x19.size : Int) then (laws_FnFoldsStack.j7 k x1 ((x19.extract ((wrap64 (x6 - 1)) : Int).toNat (x6 : Int).toNat).toList != x23.toList)) else (none)) else (none)) else (none)) else (laws_FnFoldsStack.j7 k x1 false))
def laws_FnFoldsStack.j7 : Nat → List Int → Bool → Option (Bool)
 | 0, _, _ => none
 | k + 1, x1, x350 => if x350 = true then (some false) else ((spec_DrawSignatureOfPage.f x1).bind fun bt387 => ((impl_SignatureOfPage.f bt387.1 bt387.2.1 bt387.2.2).bind fun bt390 => ((spec_SignatureOfPage.f bt387.1 bt387.2.1 bt387.2.2).bind fun bt393 => ((spec_DrawPageInBook.f x1).bind fun bt396 => ((impl_PageInBook.f k bt396.1 bt396.2.1 bt396.2.2.1 bt396.2.2.2).bind fun bt400 => ((spec_PageInBook.f k bt396.1 bt396.2.1 bt396.2.2.1 bt396.2.2.2).bind fun bt402 => ((spec_DrawSewnOpenings.f x1).bind fun bt404 => ((impl_SewnOpenings.f k bt404.1 bt404.2).bind fun bt406 => ((spec_SewnOpenings.f k bt404.1 bt404.2).bind fun bt410 => ((impl_SignaturesFor.f bt404.1 bt404.2).bind fun bt414 => ((spec_SignaturesFor.f bt404.1 bt404.2).bind fun bt416 => ((impl_BestPer.f k bt404.1 bt404.2).bind fun bt418 => ((spec_BestPer.f k bt404.1 bt404.2).bind fun bt421 => (if (bt390.2.2 != bt393.2.2) = true then (laws_FnFoldsStack.j8 k bt387.1 bt387.2.1 bt387.2.2 bt390.1 bt390.2.1 bt390.2.2 bt396.1 bt396.2.1 bt396.2.2.1 bt396.2.2.2 bt400.1 bt400.2 bt404.1 bt404.2 bt406.1 bt406.2 bt414.1 bt418.1 bt418.2.1 true) else (if bt390.1 = bt393.1 then (if bt390.2.1 = bt393.2.1 then (if (bt400.2 != bt402.2) = true then (laws_FnFoldsStack.j8 k bt387.1 bt387.2.1 bt387.2.2 bt390.1 bt390.2.1 bt390.2.2 bt396.1 bt396.2.1 bt396.2.2.1 bt396.2.2.2 bt400.1 bt400.2 bt404.1 bt404.2 bt406.1 bt406.2 bt414.1 bt418.1 bt418.2.1 true) else (if bt400.1 = bt402.1 then (if (bt406.2 != bt410.2) = true then (laws_FnFoldsStack.j8 k bt387.1 bt387.2.1 bt387.2.2 bt390.1 bt390.2.1 bt390.2.2 bt396.1 bt396.2.1 bt396.2.2.1 bt396.2.2.2 bt400.1 bt400.2 bt404.1 bt404.2 bt406.1 bt406.2 bt414.1 bt418.1 bt418.2.1 true) else ((laws_fSame.f k bt406.1 bt410.1).bind fun t424 => (if t424 = true then (if (bt414.2 != bt416.2) = true then (laws_FnFoldsStack.j8 k bt387.1 bt387.2.1 bt387.2.2 bt390.1 bt390.2.1 bt390.2.2 bt396.1 bt396.2.1 bt396.2.2.1 bt396.2.2.2 bt400.1 bt400.2 bt404.1 bt404.2 bt406.1 bt406.2 bt414.1 bt418.1 bt418.2.1 true) else (if bt414.1 = bt416.1 then (if (bt418.2.2 != bt421.2.2) = true then (laws_FnFoldsStack.j8 k bt387.1 bt387.2.1 bt387.2.2 bt390.1 bt390.2.1 bt390.2.2 bt396.1 bt396.2.1 bt396.2.2.1 bt396.2.2.2 bt400.1 bt400.2 bt404.1 bt404.2 bt406.1 bt406.2 bt414.1 bt418.1 bt418.2.1 true) else (if bt418.1 = bt421.1 then (if bt418.2.1 = bt421.2.1 then (if (bt414.2 != bt406.2) = true then (laws_FnFoldsStack.j8 k bt387.1 bt387.2.1 bt387.2.2 bt390.1 bt390.2.1 bt390.2.2 bt396.1 bt396.2.1 bt396.2.2.1 bt396.2.2.2 bt400.1 bt400.2 bt404.1 bt404.2 bt406.1 bt406.2 bt414.1 bt418.1 bt418.2.1 true) else (laws_FnFoldsStack.j8 k bt387.1 bt387.2.1 bt387.2.2 bt390.1 bt390.2.1 bt390.2.2 bt396.1 bt396.2.1 bt396.2.2.1 bt396.2.2.2 bt400.1 bt400.2 bt404.1 bt404.2 bt406.1 bt406.2 bt414.1 bt418.1 bt418.2.1 (bt418.2.2 != bt406.2))) else (laws_FnFoldsStack.j8 k bt387.1 bt387.2.1 bt387.2.2 bt390.1 bt390.2.1 bt390.2.2 bt396.1 bt396.2.1 bt396.2.2.1 bt396.2.2.2 bt400.1 bt400.2 bt404.1 bt404.2 bt406.1 bt406.2 bt414.1 bt418.1 bt418.2.1 true)) else (laws_FnFoldsStack.j8 k bt387.1 bt387.2.1 bt387.2.2 bt390.1 bt390.2.1 bt390.2.2 bt396.1 bt396.2.1 bt396.2.2.1 bt396.2.2.2 bt400.1 bt400.2 bt404.1 bt404.2 bt406.1 bt406.2 bt414.1 bt418.1 bt418.2.1 true))) else (laws_FnFoldsStack.j8 k bt387.1 bt387.2.1 bt387.2.2 bt390.1 bt390.2.1 bt390.2.2 bt396.1 bt396.2.1 bt396.2.2.1 bt396.2.2.2 bt400.1 bt400.2 bt404.1 bt404.2 bt406.1 bt406.2 bt414.1 bt418.1 bt418.2.1 true))) else (laws_FnFoldsStack.j8 k bt387.1 bt387.2.1 bt387.2.2 bt390.1 bt390.2.1 bt390.2.2 bt396.1 bt396.2.1 bt396.2.2.1 bt396.2.2.2 bt400.1 bt400.2 bt404.1 bt404.2 bt406.1 bt406.2 bt414.1 bt418.1 bt418.2.1 true)))) else (laws_FnFoldsStack.j8 k bt387.1 bt387.2.1 bt387.2.2 bt390.1 bt390.2.1 bt390.2.2 bt396.1 bt396.2.1 bt396.2.2.1 bt396.2.2.2 bt400.1 bt400.2 bt404.1 bt404.2 bt406.1 bt406.2 bt414.1 bt418.1 bt418.2.1 true))) else (laws_FnFoldsStack.j8 k bt387.1 bt387.2.1 bt387.2.2 bt390.1 bt390.2.1 bt390.2.2 bt396.1 bt396.2.1 bt396.2.2.1 bt396.2.2.2 bt400.1 bt400.2 bt404.1 bt404.2 bt406.1 bt406.2 bt414.1 bt418.1 bt418.2.1 true)) else (laws_FnFoldsStack.j8 k bt387.1 bt387.2.1 bt387.2.2 bt390.1 bt390.2.1 bt390.2.2 bt396.1 bt396.2.1 bt396.2.2.1 bt396.2.2.2 bt400.1 bt400.2 bt404.1 bt404.2 bt406.1 bt406.2 bt414.1 bt418.1 bt418.2.1 true))))))))))))))))
def laws_FnFoldsStack.j8 : Nat → Int → Int → Int → Int → Int → Bool → Int → Int → Int → Int → Int → Bool → Int → Int → List Int → Bool → Int → Int → Int → Bool → Option (Bool)
 | 0, _, _, _, _, _, _, _, _, _, _, _, _, _, _, _, _, _, _, _, _ => none
 | k + 1, x34, x35, x36, x37, x38, x39, x43, x44, x45, x46, x47, x48, x51, x52, x53, x54, x57, x61, x62, x507 => if x507 = true then (some false) else (if x39 = true then ((impl_PageInBook.f k x34 x35 x37 x38).bind fun bt425 => (if bt425.2 = true then (if bt425.1 = x36 then (if x38 < 1 then (some false) else (if x38 > (wrap64 (4 * x35)) then (some false) else (laws_FnFoldsStack.j9 k x43 x44 x45 x46 x47 x48 x51 x52 x53 x54 x57 x61 x62))) else (some false)) else (some false))) else (laws_FnFoldsStack.j9 k x43 x44 x45 x46 x47 x48 x51 x52 x53 x54 x57 x61 x62))
def laws_FnFoldsStack.j9 : Nat → Int → Int → Int → Int → Int → Bool → Int → Int → List Int → Bool → Int → Int → Int → Option (Bool)
 | 0, _, _, _, _, _, _, _, _, _, _, _, _, _ => none
 | k + 1, x43, x44, x45, x46, x47, x48, x51, x52, x53, x54, x57, x61, x62 => if x48 = true then ((impl_SignatureOfPage.f x43 x44 x47).bind fun bt427 => (if bt427.2.2 = true then (if bt427.1 = x45 then (if bt427.2.1 = x46 then (laws_FnFoldsStack.j10 k x51 x52 x53 x54 x57 x61 x62) else (some false)) else (some false)) else (some false))) else (laws_FnFoldsStack.j10 k x51 x52 x53 x54 x57 x61 x62)
def laws_FnFoldsStack.j10 : Nat → Int → Int → List Int → Bool → Int → Int → Int → Option (Bool)
 | 0, _, _, _, _, _, _, _ => none
 | k + 1, x51, x52, x53, x54, x57, x61, x62 => if x54 = true then ((laws_fRises.f k x53).bind fun t430 => (if t430 = true then (if (x53.length : Int) > x57 then (laws_FnFoldsStack.j11 k x51 x52 x53 x61 x62 true) else (if (x53.length : Int) < (wrap64 (x57 - 1)) then (laws_FnFoldsStack.j11 k x51 x52 x53 x61 x62 true) else (if (wrap64 ((wrap64 (x57 * 4)) * x52)) < x51 then (laws_FnFoldsStack.j11 k x51 x52 x53 x61 x62 true) else (laws_FnFoldsStack.j11 k x51 x52 x53 x61 x62 (decide ((wrap64 ((wrap64 ((wrap64 (x57 - 1)) * 4)) * x52)) ≥ x51)))))) else (laws_FnFoldsStack.j11 k x51 x52 x53 x61 x62 true))) else (some true)
def laws_FnFoldsStack.j11 : Nat → Int → Int → List Int → Int → Int → Bool → Option (Bool)
 | 0, _, _, _, _, _, _ => none
 | k + 1, x51, x52, x53, x61, x62, x588 => if x588 = true then (some false) else (laws_FnFoldsStack.l3 k x51 x52 x61 x62 x53 (x53.length : Int) 0)
def laws_FnFoldsStack.l3 : Nat → Int → Int → Int → Int → List Int → Int → Int → Option (Bool)
 | 0, _, _, _, _, _, _, _ => none
 | k + 1, x51, x52, x61, x62, x589, x590, x591 => if x591 < x590 then (if 0 ≤ x591 then (if x591 < (x589.length : Int) then ((impl_SignatureOfPage.f x51 x52 (rd x589 x591)).bind fun bt432 => (if bt432.2.2 = true then (if bt432.2.1 = (wrap64 (2 * x52)) then (if (rd x589 x591) ≥ x51 then (some false) else (laws_FnFoldsStack.l3 k x51 x52 x61 x62 x589 x590 (wrap64 (x591 + 1)))) else (some false)) else (some false))) else (none)) else (none)) else (laws_FnFoldsStack.l4 k x51 x52 x61 x62 1)
def laws_FnFoldsStack.l4 : Nat → Int → Int → Int → Int → Int → Option (Bool)
 | 0, _, _, _, _, _ => none
 | k + 1, x51, x52, x61, x62, x77 => if x77 ≤ x52 then ((impl_SignaturesFor.f x51 x77).bind fun bt435 => (if bt435.2 = true then (if (wrap64 ((wrap64 ((wrap64 (bt435.1 * 4)) * x77)) - x51)) < x62 then (some false) else (if (wrap64 ((wrap64 ((wrap64 (bt435.1 * 4)) * x77)) - x51)) = x62 then (if x77 > x61 then (some false) else (if x77 = x61 then (laws_FnFoldsStack.l4 k x51 x52 x61 x62 (wrap64 (x77 + 1))) else (laws_FnFoldsStack.l4 k x51 x52 x61 x62 (wrap64 (x77 + 1))))) else (if x77 = x61 then (some false) else (laws_FnFoldsStack.l4 k x51 x52 x61 x62 (wrap64 (x77 + 1)))))) else (some false))) else (some true)
def laws_FnFoldsStack.l0 : Nat → List Int → Int → Int → Int → Bool → List Int → List Int → ByteArray → ByteArray → Bool → Int → Int → Option (Bool)
 | 0, _, _, _, _, _, _, _, _, _, _, _, _ => none
 | k + 1, x1, x5, x6, x7, x8, x11, x15, x19, x23, x24, x27, x28 => if x28 < x5 then (laws_FnFoldsStack.l0 k x1 x5 x6 x7 x8 x11 x15 x19 x23 x24 (wrap64 (x27 * 2)) (wrap64 (x28 + 1))) else (if (x11.length : Int) = x27 then (if (x15.length : Int) = x27 then (laws_FnFoldsStack.j2 k x1 x5 x6 x7 x8 x11 x15 x19 x23 x24 x27 ((x19.size : Int) != (wrap64 (x27 - 1)))) else (laws_FnFoldsStack.j2 k x1 x5 x6 x7 x8 x11 x15 x19 x23 x24 x27 true)) else (laws_FnFoldsStack.j2 k x1 x5 x6 x7 x8 x11 x15 x19 x23 x24 x27 true))
def laws_FnFoldsStack.j2 : Nat → List Int → Int → Int → Int → Bool → List Int → List Int → ByteArray → ByteArray → Bool → Int → Bool → Option (Bool)
 | 0, _, _, _, _, _, _, _, _, _, _, _, _ => none
 | k + 1, x1, x5, x6, x7, x8, x11, x15, x19, x23, x24, x27, x241 => if x241 = true then (some false) else (laws_FnFoldsStack.l1 k x1 x5 x6 x7 x8 x11 x15 x19 x23 x24 x27 x11 (x11.length : Int) 0)
def laws_FnFoldsStack.l1 : Nat → List Int → Int → Int → Int → Bool → List Int → List Int → ByteArray → ByteArray → Bool → Int → List Int → Int → Int → Option (Bool)
 | 0, _, _, _, _, _, _, _, _, _, _, _, _, _, _ => none
 | k + 1, x1, x5, x6, x7, x8, x11, x15, x19, x23, x24, x27, x242, x243, x244 => if x244 < x243 then (if 0 ≤ x244 then (if x244 < (x242.length : Int) then (if (rd x242 x244) < 1 then (some false) else (if (rd x242 x244) > x27 then (some false) else (if 0 ≤ (wrap64 ((rd x242 x244) - 1)) then (if (wrap64 ((rd x242 x244) - 1)) < (x15.length : Int) then (if (rd x15 (wrap64 ((rd x242 x244) - 1))) = (wrap64 (x244 + 1)) then (laws_FnFoldsStack.l1 k x1 x5 x6 x7 x8 x11 x15 x19 x23 x24 x27 x242 x243 (wrap64 (x244 + 1))) else (some false)) else (none)) else (none)))) else (none)) else (none)) else (laws_FnFoldsStack.l2 k x1 x5 x6 x7 x8 x11 x15 x19 x23 x24 (x19.size : Int) 0)
def laws_FnFoldsStack.l2 : Nat → List Int → Int → Int → Int → Bool → List Int → List Int → ByteArray → ByteArray → Bool → Int → Int → Option (Bool)
 | 0, _, _, _, _, _, _, _, _, _, _, _, _ => none
 | k + 1, x1, x5, x6, x7, x8, x11, x15, x19, x23, x24, x268, x269 => if x269 < x268 then (if x269 < 1000000 then (if (bt x19 x269) < 128 then (if x269 = (wrap64 ((x19.size : Int) / 2)) then (if 0 ≤ x269 then (if x269 < (x19.size : Int) then (if (bt x19 x269) = 118 then (laws_FnFoldsStack.l2 k x1 x5 x6 x7 x8 x11 x15 x19 x23 x24 x268 (wrap64 (x269 + 1))) else (some false)) else (none)) else (none)) else (if 0 ≤ x269 then (if x269 < (x19.size : Int) then (if 0 ≤ (wrap64 ((wrap64 ((x19.size : Int) - 1)) - x269)) then (if (wrap64 ((wrap64 ((x19.size : Int) - 1)) - x269)) < (x19.size : Int) then (if (bt x19 x269) = (bt x19 (wrap64 ((wrap64 ((x19.size : Int) - 1)) - x269))) then (some false) else (laws_FnFoldsStack.l2 k x1 x5 x6 x7 x8 x11 x15 x19 x23 x24 x268 (wrap64 (x269 + 1)))) else (none)) else (none)) else (none)) else (none))) else (none)) else (none)) else (if x5 > 0 then ((impl_CreasesOf.f k (wrap64 (x5 - 1))).bind fun bt383 => (if bt383.2 = true then (if 0 ≤ (wrap64 ((x19.size : Int) / 2)) then (if (wrap64 ((x19.size : Int) / 2)) ≤ (x19.size : Int) then (if (x19.extract 0 ((wrap64 ((x19.size : Int) / 2)) : Int).toNat).toList = bt383.1.toList then (laws_FnFoldsStack.j5 k x1 x6 x7 x8 x11 x15 x19 x23 x24) else (some false)) else (none)) else (none)) else (some false))) else (laws_FnFoldsStack.j5 k x1 x6 x7 x8 x11 x15 x19 x23 x24))
end
def laws_FnFoldsStack.f (k : Nat) (l0 : List Int) (l1 : List Int) : Option (Bool) := (laws_big.f l0 l1).bind fun t348 => (if t348 = true then (some true) else ((spec_DrawPlaceInStrip.f l0).bind fun bt349 => ((impl_PlaceInStrip.f k bt349.1 bt349.2).bind fun bt351 => ((spec_PlaceInStrip.f k bt349.1 bt349.2).bind fun bt353 => ((impl_StripOrder.f k bt349.1).bind fun bt355 => ((spec_StripOrder.f k bt349.1).bind fun bt359 => ((impl_StripLabels.f k bt349.1).bind fun bt363 => ((spec_StripLabels.f k bt349.1).bind fun bt367 => ((impl_CreasesOf.f k bt349.1).bind fun bt371 => ((spec_CreasesOf.f k bt349.1).bind fun bt373 => ((impl_CreaseAt.f k bt349.1 bt349.2).bind fun bt375 => ((spec_CreaseAt.f k bt349.1 bt349.2).bind fun bt377 => (if (bt351.2 != bt353.2) = true then (laws_FnFoldsStack.j0 k l1 bt349.1 bt349.2 bt351.1 bt351.2 bt355.1 bt355.2 bt363.1 bt371.1 bt375.1 bt375.2 true) else (if bt351.1 = bt353.1 then (if (bt355.2 != bt359.2) = true then (laws_FnFoldsStack.j0 k l1 bt349.1 bt349.2 bt351.1 bt351.2 bt355.1 bt355.2 bt363.1 bt371.1 bt375.1 bt375.2 true) else ((laws_fSame.f k bt355.1 bt359.1).bind fun t379 => (if t379 = true then (if (bt363.2 != bt367.2) = true then (laws_FnFoldsStack.j0 k l1 bt349.1 bt349.2 bt351.1 bt351.2 bt355.1 bt355.2 bt363.1 bt371.1 bt375.1 bt375.2 true) else ((laws_fSame.f k bt363.1 bt367.1).bind fun t380 => (if t380 = true then (if (bt371.2 != bt373.2) = true then (laws_FnFoldsStack.j0 k l1 bt349.1 bt349.2 bt351.1 bt351.2 bt355.1 bt355.2 bt363.1 bt371.1 bt375.1 bt375.2 true) else (if bt371.1.toList = bt373.1.toList then (if (bt375.2 != bt377.2) = true then (laws_FnFoldsStack.j0 k l1 bt349.1 bt349.2 bt351.1 bt351.2 bt355.1 bt355.2 bt363.1 bt371.1 bt375.1 bt375.2 true) else (if bt375.1.toList = bt377.1.toList then (if (bt363.2 != bt355.2) = true then (laws_FnFoldsStack.j0 k l1 bt349.1 bt349.2 bt351.1 bt351.2 bt355.1 bt355.2 bt363.1 bt371.1 bt375.1 bt375.2 true) else (if (bt371.2 != bt355.2) = true then (laws_FnFoldsStack.j0 k l1 bt349.1 bt349.2 bt351.1 bt351.2 bt355.1 bt355.2 bt363.1 bt371.1 bt375.1 bt375.2 true) else (if bt351.2 = true then (if bt355.2 = true then (if bt375.2 = true then (laws_FnFoldsStack.j0 k l1 bt349.1 bt349.2 bt351.1 bt351.2 bt355.1 bt355.2 bt363.1 bt371.1 bt375.1 bt375.2 (!bt351.2)) else (laws_FnFoldsStack.j0 k l1 bt349.1 bt349.2 bt351.1 bt351.2 bt355.1 bt355.2 bt363.1 bt371.1 bt375.1 bt375.2 false)) else (laws_FnFoldsStack.j0 k l1 bt349.1 bt349.2 bt351.1 bt351.2 bt355.1 bt355.2 bt363.1 bt371.1 bt375.1 bt375.2 true)) else (if bt375.2 = true then (laws_FnFoldsStack.j0 k l1 bt349.1 bt349.2 bt351.1 bt351.2 bt355.1 bt355.2 bt363.1 bt371.1 bt375.1 bt375.2 (!bt351.2)) else (laws_FnFoldsStack.j0 k l1 bt349.1 bt349.2 bt351.1 bt351.2 bt355.1 bt355.2 bt363.1 bt371.1 bt375.1 bt375.2 false))))) else (laws_FnFoldsStack.j0 k l1 bt349.1 bt349.2 bt351.1 bt351.2 bt355.1 bt355.2 bt363.1 bt371.1 bt375.1 bt375.2 true))) else (laws_FnFoldsStack.j0 k l1 bt349.1 bt349.2 bt351.1 bt351.2 bt355.1 bt355.2 bt363.1 bt371.1 bt375.1 bt375.2 true))) else (laws_FnFoldsStack.j0 k l1 bt349.1 bt349.2 bt351.1 bt351.2 bt355.1 bt355.2 bt363.1 bt371.1 bt375.1 bt375.2 true)))) else (laws_FnFoldsStack.j0 k l1 bt349.1 bt349.2 bt351.1 bt351.2 bt355.1 bt355.2 bt363.1 bt371.1 bt375.1 bt375.2 true)))) else (laws_FnFoldsStack.j0 k l1 bt349.1 bt349.2 bt351.1 bt351.2 bt355.1 bt355.2 bt363.1 bt371.1 bt375.1 bt375.2 true)))))))))))))))
theorem laws_FnFoldsStack.mono_l : ∀ k, (∀ y0 y1 y2 y3 y4 y5 y6 y7 y8 y9 y10 y11, LeO (laws_FnFoldsStack.j0 k y0 y1 y2 y3 y4 y5 y6 y7 y8 y9 y10 y11) (laws_FnFoldsStack.j0 (k + 1) y0 y1 y2 y3 y4 y5 y6 y7 y8 y9 y10 y11)) ∧ (∀ y0 y1 y2 y3 y4 y5 y6 y7 y8, LeO (laws_FnFoldsStack.j5 k y0 y1 y2 y3 y4 y5 y6 y7 y8) (laws_FnFoldsStack.j5 (k + 1) y0 y1 y2 y3 y4 y5 y6 y7 y8)) ∧ (∀ y0 y1 y2 y3 y4 y5, LeO (laws_FnFoldsStack.j6 k y0 y1 y2 y3 y4 y5) (laws_FnFoldsStack.j6 (k + 1) y0 y1 y2 y3 y4 y5)) ∧ (∀ y0 y1, LeO (laws_FnFoldsStack.j7 k y0 y1) (laws_FnFoldsStack.j7 (k + 1) y0 y1)) ∧ (∀ y0 y1 y2 y3 y4 y5 y6 y7 y8 y9 y10 y11 y12 y13 y14 y15 y16 y17 y18 y19, LeO (laws_FnFoldsStack.j8 k y0 y1 y2 y3 y4 y5 y6 y7 y8 y9 y10 y11 y12 y13 y14 y15 y16 y17 y18 y19) (laws_FnFoldsStack.j8 (k + 1) y0 y1 y2 y3 y4 y5 y6 y7 y8 y9 y10 y11 y12 y13 y14 y15 y16 y17 y18 y19)) ∧ (∀ y0 y1 y2 y3 y4 y5 y6 y7 y8 y9 y10 y11 y12, LeO (laws_FnFoldsStack.j9 k y0 y1 y2 y3 y4 y5 y6 y7 y8 y9 y10 y11 y12) (laws_FnFoldsStack.j9 (k + 1) y0 y1 y2 y3 y4 y5 y6 y7 y8 y9 y10 y11 y12)) ∧ (∀ y0 y1 y2 y3 y4 y5 y6, LeO (laws_FnFoldsStack.j10 k y0 y1 y2 y3 y4 y5 y6) (laws_FnFoldsStack.j10 (k + 1) y0 y1 y2 y3 y4 y5 y6)) ∧ (∀ y0 y1 y2 y3 y4 y5, LeO (laws_FnFoldsStack.j11 k y0 y1 y2 y3 y4 y5) (laws_FnFoldsStack.j11 (k + 1) y0 y1 y2 y3 y4 y5)) ∧ (∀ y0 y1 y2 y3 y4 y5 y6, LeO (laws_FnFoldsStack.l3 k y0 y1 y2 y3 y4 y5 y6) (laws_FnFoldsStack.l3 (k + 1) y0 y1 y2 y3 y4 y5 y6)) ∧ (∀ y0 y1 y2 y3 y4, LeO (laws_FnFoldsStack.l4 k y0 y1 y2 y3 y4) (laws_FnFoldsStack.l4 (k + 1) y0 y1 y2 y3 y4)) ∧ (∀ y0 y1 y2 y3 y4 y5 y6 y7 y8 y9 y10 y11, LeO (laws_FnFoldsStack.l0 k y0 y1 y2 y3 y4 y5 y6 y7 y8 y9 y10 y11) (laws_FnFoldsStack.l0 (k + 1) y0 y1 y2 y3 y4 y5 y6 y7 y8 y9 y10 y11)) ∧ (∀ y0 y1 y2 y3 y4 y5 y6 y7 y8 y9 y10 y11, LeO (laws_FnFoldsStack.j2 k y0 y1 y2 y3 y4 y5 y6 y7 y8 y9 y10 y11) (laws_FnFoldsStack.j2 (k + 1) y0 y1 y2 y3 y4 y5 y6 y7 y8 y9 y10 y11)) ∧ (∀ y0 y1 y2 y3 y4 y5 y6 y7 y8 y9 y10 y11 y12 y13, LeO (laws_FnFoldsStack.l1 k y0 y1 y2 y3 y4 y5 y6 y7 y8 y9 y10 y11 y12 y13) (laws_FnFoldsStack.l1 (k + 1) y0 y1 y2 y3 y4 y5 y6 y7 y8 y9 y10 y11 y12 y13)) ∧ (∀ y0 y1 y2 y3 y4 y5 y6 y7 y8 y9 y10 y11, LeO (laws_FnFoldsStack.l2 k y0 y1 y2 y3 y4 y5 y6 y7 y8 y9 y10 y11) (laws_FnFoldsStack.l2 (k + 1) y0 y1 y2 y3 y4 y5 y6 y7 y8 y9 y10 y11))
 | 0 => ⟨fun _ _ _ _ _ _ _ _ _ _ _ _ r h => by simp [laws_FnFoldsStack.j0] at h, fun _ _ _ _ _ _ _ _ _ r h => by simp [laws_FnFoldsStack.j5] at h, fun _ _ _ _ _ _ r h => by simp [laws_FnFoldsStack.j6] at h, fun _ _ r h => by simp [laws_FnFoldsStack.j7] at h, fun _ _ _ _ _ _ _ _ _ _ _ _ _ _ _ _ _ _ _ _ r h => by simp [laws_FnFoldsStack.j8] at h, fun _ _ _ _ _ _ _ _ _ _ _ _ _ r h => by simp [laws_FnFoldsStack.j9] at h, fun _ _ _ _ _ _ _ r h => by simp [laws_FnFoldsStack.j10] at h, fun _ _ _ _ _ _ r h => by simp [laws_FnFoldsStack.j11] at h, fun _ _ _ _ _ _ _ r h => by simp [laws_FnFoldsStack.l3] at h, fun _ _ _ _ _ r h => by simp [laws_FnFoldsStack.l4] at h, fun _ _ _ _ _ _ _ _ _ _ _ _ r h => by simp [laws_FnFoldsStack.l0] at h, fun _ _ _ _ _ _ _ _ _ _ _ _ r h => by simp [laws_FnFoldsStack.j2] at h, fun _ _ _ _ _ _ _ _ _ _ _ _ _ _ r h => by simp [laws_FnFoldsStack.l1] at h, fun _ _ _ _ _ _ _ _ _ _ _ _ r h => by simp [laws_FnFoldsStack.l2] at h⟩
 | k + 1 => by
  obtain ⟨ih0, ih1, ih2, ih3, ih4, ih5, ih6, ih7, ih8, ih9, ih10, ih11, ih12, ih13⟩ := laws_FnFoldsStack.mono_l k
  refine ⟨?_, ?_, ?_, ?_, ?_, ?_, ?_, ?_, ?_, ?_, ?_, ?_, ?_, ?_⟩
  ·intro y0 y1 y2 y3 y4 y5 y6 y7 y8 y9 y10 y11
   unfold laws_FnFoldsStack.j0
   repeat' first
   | (with_reducible exact ih0 _ _ _ _ _ _ _ _ _ _ _ _)
   | (with_reducible exact ih1 _ _ _ _ _ _ _ _ _)
   | (with_reducible exact ih2 _ _ _ _ _ _)
   | (with_reducible exact ih3 _ _)
   | (with_reducible exact ih4 _ _ _ _ _ _ _ _ _ _ _ _ _ _ _ _ _ _ _ _)
   | (with_reducible exact ih5 _ _ _ _ _ _ _ _ _ _ _ _ _)
   | (with_reducible exact ih6 _ _ _ _ _ _ _)
   | (with_reducible exact ih7 _ _ _ _ _ _)
   | (with_reducible exact ih8 _ _ _ _ _ _ _)
   | (with_reducible exact ih9 _ _ _ _ _)
   | (with_reducible exact ih10 _ _ _ _ _ _ _ _ _ _ _ _)
   | (with_reducible exact ih11 _ _ _ _ _ _ _ _ _ _ _ _)
   | (with_reducible exact ih12 _ _ _ _ _ _ _ _ _ _ _ _ _ _)
   | (with_reducible exact ih13 _ _ _ _ _ _ _ _ _ _ _ _)
   | (with_reducible exact impl_BestPer.mono _ _ _)
   | (with_reducible exact impl_CreaseAt.mono _ _ _)
   | (with_reducible exact impl_CreasesOf.mono _ _)
   | (with_reducible exact impl_PageInBook.mono _ _ _ _ _)
   | (with_reducible exact impl_PlaceInStrip.mono _ _ _)
   | (with_reducible exact impl_SewnOpenings.mono _ _ _)
   | (with_reducible exact impl_StripLabels.mono _ _)
   | (with_reducible exact impl_StripOrder.mono _ _)
   | (with_reducible exact laws_fRises.mono _ _)
   | (with_reducible exact laws_fSame.mono _ _ _)
   | (with_reducible exact spec_BestPer.mono _ _ _)
   | (with_reducible exact spec_CreaseAt.mono _ _ _)
   | (with_reducible exact spec_CreasesOf.mono _ _)
   | (with_reducible exact spec_PageInBook.mono _ _ _ _ _)
   | (with_reducible exact spec_PlaceInStrip.mono _ _ _)
   | (with_reducible exact spec_SewnOpenings.mono _ _ _)
   | (with_reducible exact spec_StripLabels.mono _ _)
   | (with_reducible exact spec_StripOrder.mono _ _)
   | (with_reducible exact LeO.refl _)
   | (with_reducible exact LeO.none _)
   | (with_reducible refine LeO.ite ?_ ?_)
   | (with_reducible refine LeO.bind ?_ (fun _ => ?_))
   | exact ih0 _ _ _ _ _ _ _ _ _ _ _ _
   | exact ih1 _ _ _ _ _ _ _ _ _
   | exact ih2 _ _ _ _ _ _
   | exact ih3 _ _
   | exact ih4 _ _ _ _ _ _ _ _ _ _ _ _ _ _ _ _ _ _ _ _
   | exact ih5 _ _ _ _ _ _ _ _ _ _ _ _ _
   | exact ih6 _ _ _ _ _ _ _
   | exact ih7 _ _ _ _ _ _
   | exact ih8 _ _ _ _ _ _ _
   | exact ih9 _ _ _ _ _
   | exact ih10 _ _ _ _ _ _ _ _ _ _ _ _
   | exact ih11 _ _ _ _ _ _ _ _ _ _ _ _
   | exact ih12 _ _ _ _ _ _ _ _ _ _ _ _ _ _
   | exact ih13 _ _ _ _ _ _ _ _ _ _ _ _
   | exact impl_BestPer.mono _ _ _
   | exact impl_CreaseAt.mono _ _ _
   | exact impl_CreasesOf.mono _ _
   | exact impl_PageInBook.mono _ _ _ _ _
   | exact impl_PlaceInStrip.mono _ _ _
   | exact impl_SewnOpenings.mono _ _ _
   | exact impl_StripLabels.mono _ _
   | exact impl_StripOrder.mono _ _
   | exact laws_fRises.mono _ _
   | exact laws_fSame.mono _ _ _
   | exact spec_BestPer.mono _ _ _
   | exact spec_CreaseAt.mono _ _ _
   | exact spec_CreasesOf.mono _ _
   | exact spec_PageInBook.mono _ _ _ _ _
   | exact spec_PlaceInStrip.mono _ _ _
   | exact spec_SewnOpenings.mono _ _ _
   | exact spec_StripLabels.mono _ _
   | exact spec_StripOrder.mono _ _
   | exact LeO.none _
   | refine LeO.ite ?_ ?_
   | refine LeO.bind ?_ (fun _ => ?_)
  ·intro y0 y1 y2 y3 y4 y5 y6 y7 y8
   unfold laws_FnFoldsStack.j5
   repeat' first
   | (with_reducible exact ih0 _ _ _ _ _ _ _ _ _ _ _ _)
   | (with_reducible exact ih1 _ _ _ _ _ _ _ _ _)
   | (with_reducible exact ih2 _ _ _ _ _ _)
   | (with_reducible exact ih3 _ _)
   | (with_reducible exact ih4 _ _ _ _ _ _ _ _ _ _ _ _ _ _ _ _ _ _ _ _)
   | (with_reducible exact ih5 _ _ _ _ _ _ _ _ _ _ _ _ _)
   | (with_reducible exact ih6 _ _ _ _ _ _ _)
   | (with_reducible exact ih7 _ _ _ _ _ _)
   | (with_reducible exact ih8 _ _ _ _ _ _ _)
   | (with_reducible exact ih9 _ _ _ _ _)
   | (with_reducible exact ih10 _ _ _ _ _ _ _ _ _ _ _ _)
   | (with_reducible exact ih11 _ _ _ _ _ _ _ _ _ _ _ _)
   | (with_reducible exact ih12 _ _ _ _ _ _ _ _ _ _ _ _ _ _)
   | (with_reducible exact ih13 _ _ _ _ _ _ _ _ _ _ _ _)
   | (with_reducible exact impl_BestPer.mono _ _ _)
   | (with_reducible exact impl_CreaseAt.mono _ _ _)
   | (with_reducible exact impl_CreasesOf.mono _ _)
   | (with_reducible exact impl_PageInBook.mono _ _ _ _ _)
   | (with_reducible exact impl_PlaceInStrip.mono _ _ _)
   | (with_reducible exact impl_SewnOpenings.mono _ _ _)
   | (with_reducible exact impl_StripLabels.mono _ _)
   | (with_reducible exact impl_StripOrder.mono _ _)
   | (with_reducible exact laws_fRises.mono _ _)
   | (with_reducible exact laws_fSame.mono _ _ _)
   | (with_reducible exact spec_BestPer.mono _ _ _)
   | (with_reducible exact spec_CreaseAt.mono _ _ _)
   | (with_reducible exact spec_CreasesOf.mono _ _)
   | (with_reducible exact spec_PageInBook.mono _ _ _ _ _)
   | (with_reducible exact spec_PlaceInStrip.mono _ _ _)
   | (with_reducible exact spec_SewnOpenings.mono _ _ _)
   | (with_reducible exact spec_StripLabels.mono _ _)
   | (with_reducible exact spec_StripOrder.mono _ _)
   | (with_reducible exact LeO.refl _)
   | (with_reducible exact LeO.none _)
   | (with_reducible refine LeO.ite ?_ ?_)
   | (with_reducible refine LeO.bind ?_ (fun _ => ?_))
   | exact ih0 _ _ _ _ _ _ _ _ _ _ _ _
   | exact ih1 _ _ _ _ _ _ _ _ _
   | exact ih2 _ _ _ _ _ _
   | exact ih3 _ _
   | exact ih4 _ _ _ _ _ _ _ _ _ _ _ _ _ _ _ _ _ _ _ _
   | exact ih5 _ _ _ _ _ _ _ _ _ _ _ _ _
   | exact ih6 _ _ _ _ _ _ _
   | exact ih7 _ _ _ _ _ _
   | exact ih8 _ _ _ _ _ _ _
   | exact ih9 _ _ _ _ _
   | exact ih10 _ _ _ _ _ _ _ _ _ _ _ _
   | exact ih11 _ _ _ _ _ _ _ _ _ _ _ _
   | exact ih12 _ _ _ _ _ _ _ _ _ _ _ _ _ _
   | exact ih13 _ _ _ _ _ _ _ _ _ _ _ _
   | exact impl_BestPer.mono _ _ _
   | exact impl_CreaseAt.mono _ _ _
   | exact impl_CreasesOf.mono _ _
   | exact impl_PageInBook.mono _ _ _ _ _
   | exact impl_PlaceInStrip.mono _ _ _
   | exact impl_SewnOpenings.mono _ _ _
   | exact impl_StripLabels.mono _ _
   | exact impl_StripOrder.mono _ _
   | exact laws_fRises.mono _ _
   | exact laws_fSame.mono _ _ _
   | exact spec_BestPer.mono _ _ _
   | exact spec_CreaseAt.mono _ _ _
   | exact spec_CreasesOf.mono _ _
   | exact spec_PageInBook.mono _ _ _ _ _
   | exact spec_PlaceInStrip.mono _ _ _
   | exact spec_SewnOpenings.mono _ _ _
   | exact spec_StripLabels.mono _ _
   | exact spec_StripOrder.mono _ _
   | exact LeO.none _
   | refine LeO.ite ?_ ?_
   | refine LeO.bind ?_ (fun _ => ?_)
  ·intro y0 y1 y2 y3 y4 y5
   unfold laws_FnFoldsStack.j6
   repeat' first
   | (with_reducible exact ih0 _ _ _ _ _ _ _ _ _ _ _ _)
   | (with_reducible exact ih1 _ _ _ _ _ _ _ _ _)
   | (with_reducible exact ih2 _ _ _ _ _ _)
   | (with_reducible exact ih3 _ _)
   | (with_reducible exact ih4 _ _ _ _ _ _ _ _ _ _ _ _ _ _ _ _ _ _ _ _)
   | (with_reducible exact ih5 _ _ _ _ _ _ _ _ _ _ _ _ _)
   | (with_reducible exact ih6 _ _ _ _ _ _ _)
   | (with_reducible exact ih7 _ _ _ _ _ _)
   | (with_reducible exact ih8 _ _ _ _ _ _ _)
   | (with_reducible exact ih9 _ _ _ _ _)
   | (with_reducible exact ih10 _ _ _ _ _ _ _ _ _ _ _ _)
   | (with_reducible exact ih11 _ _ _ _ _ _ _ _ _ _ _ _)
   | (with_reducible exact ih12 _ _ _ _ _ _ _ _ _ _ _ _ _ _)
   | (with_reducible exact ih13 _ _ _ _ _ _ _ _ _ _ _ _)
   | (with_reducible exact impl_BestPer.mono _ _ _)
   | (with_reducible exact impl_CreaseAt.mono _ _ _)
   | (with_reducible exact impl_CreasesOf.mono _ _)
   | (with_reducible exact impl_PageInBook.mono _ _ _ _ _)
   | (with_reducible exact impl_PlaceInStrip.mono _ _ _)
   | (with_reducible exact impl_SewnOpenings.mono _ _ _)
   | (with_reducible exact impl_StripLabels.mono _ _)
   | (with_reducible exact impl_StripOrder.mono _ _)
   | (with_reducible exact laws_fRises.mono _ _)
   | (with_reducible exact laws_fSame.mono _ _ _)
   | (with_reducible exact spec_BestPer.mono _ _ _)
   | (with_reducible exact spec_CreaseAt.mono _ _ _)
   | (with_reducible exact spec_CreasesOf.mono _ _)
   | (with_reducible exact spec_PageInBook.mono _ _ _ _ _)
   | (with_reducible exact spec_PlaceInStrip.mono _ _ _)
   | (with_reducible exact spec_SewnOpenings.mono _ _ _)
   | (with_reducible exact spec_StripLabels.mono _ _)
   | (with_reducible exact spec_StripOrder.mono _ _)
   | (with_reducible exact LeO.refl _)
   | (with_reducible exact LeO.none _)
   | (with_reducible refine LeO.ite ?_ ?_)
   | (with_reducible refine LeO.bind ?_ (fun _ => ?_))
   | exact ih0 _ _ _ _ _ _ _ _ _ _ _ _
   | exact ih1 _ _ _ _ _ _ _ _ _
   | exact ih2 _ _ _ _ _ _
   | exact ih3 _ _
   | exact ih4 _ _ _ _ _ _ _ _ _ _ _ _ _ _ _ _ _ _ _ _
   | exact ih5 _ _ _ _ _ _ _ _ _ _ _ _ _
   | exact ih6 _ _ _ _ _ _ _
   | exact ih7 _ _ _ _ _ _
   | exact ih8 _ _ _ _ _ _ _
   | exact ih9 _ _ _ _ _
   | exact ih10 _ _ _ _ _ _ _ _ _ _ _ _
   | exact ih11 _ _ _ _ _ _ _ _ _ _ _ _
   | exact ih12 _ _ _ _ _ _ _ _ _ _ _ _ _ _
   | exact ih13 _ _ _ _ _ _ _ _ _ _ _ _
   | exact impl_BestPer.mono _ _ _
   | exact impl_CreaseAt.mono _ _ _
   | exact impl_CreasesOf.mono _ _
   | exact impl_PageInBook.mono _ _ _ _ _
   | exact impl_PlaceInStrip.mono _ _ _
   | exact impl_SewnOpenings.mono _ _ _
   | exact impl_StripLabels.mono _ _
   | exact impl_StripOrder.mono _ _
   | exact laws_fRises.mono _ _
   | exact laws_fSame.mono _ _ _
   | exact spec_BestPer.mono _ _ _
   | exact spec_CreaseAt.mono _ _ _
   | exact spec_CreasesOf.mono _ _
   | exact spec_PageInBook.mono _ _ _ _ _
   | exact spec_PlaceInStrip.mono _ _ _
   | exact spec_SewnOpenings.mono _ _ _
   | exact spec_StripLabels.mono _ _
   | exact spec_StripOrder.mono _ _
   | exact LeO.none _
   | refine LeO.ite ?_ ?_
   | refine LeO.bind ?_ (fun _ => ?_)
  ·intro y0 y1
   unfold laws_FnFoldsStack.j7
   repeat' first
   | (with_reducible exact ih0 _ _ _ _ _ _ _ _ _ _ _ _)
   | (with_reducible exact ih1 _ _ _ _ _ _ _ _ _)
   | (with_reducible exact ih2 _ _ _ _ _ _)
   | (with_reducible exact ih3 _ _)
   | (with_reducible exact ih4 _ _ _ _ _ _ _ _ _ _ _ _ _ _ _ _ _ _ _ _)
   | (with_reducible exact ih5 _ _ _ _ _ _ _ _ _ _ _ _ _)
   | (with_reducible exact ih6 _ _ _ _ _ _ _)
   | (with_reducible exact ih7 _ _ _ _ _ _)
   | (with_reducible exact ih8 _ _ _ _ _ _ _)
   | (with_reducible exact ih9 _ _ _ _ _)
   | (with_reducible exact ih10 _ _ _ _ _ _ _ _ _ _ _ _)
   | (with_reducible exact ih11 _ _ _ _ _ _ _ _ _ _ _ _)
   | (with_reducible exact ih12 _ _ _ _ _ _ _ _ _ _ _ _ _ _)
   | (with_reducible exact ih13 _ _ _ _ _ _ _ _ _ _ _ _)
   | (with_reducible exact impl_BestPer.mono _ _ _)
   | (with_reducible exact impl_CreaseAt.mono _ _ _)
   | (with_reducible exact impl_CreasesOf.mono _ _)
   | (with_reducible exact impl_PageInBook.mono _ _ _ _ _)
   | (with_reducible exact impl_PlaceInStrip.mono _ _ _)
   | (with_reducible exact impl_SewnOpenings.mono _ _ _)
   | (with_reducible exact impl_StripLabels.mono _ _)
   | (with_reducible exact impl_StripOrder.mono _ _)
   | (with_reducible exact laws_fRises.mono _ _)
   | (with_reducible exact laws_fSame.mono _ _ _)
   | (with_reducible exact spec_BestPer.mono _ _ _)
   | (with_reducible exact spec_CreaseAt.mono _ _ _)
   | (with_reducible exact spec_CreasesOf.mono _ _)
   | (with_reducible exact spec_PageInBook.mono _ _ _ _ _)
   | (with_reducible exact spec_PlaceInStrip.mono _ _ _)
   | (with_reducible exact spec_SewnOpenings.mono _ _ _)
   | (with_reducible exact spec_StripLabels.mono _ _)
   | (with_reducible exact spec_StripOrder.mono _ _)
   | (with_reducible exact LeO.refl _)
   | (with_reducible exact LeO.none _)
   | (with_reducible refine LeO.ite ?_ ?_)
   | (with_reducible refine LeO.bind ?_ (fun _ => ?_))
   | exact ih0 _ _ _ _ _ _ _ _ _ _ _ _
   | exact ih1 _ _ _ _ _ _ _ _ _
   | exact ih2 _ _ _ _ _ _
   | exact ih3 _ _
   | exact ih4 _ _ _ _ _ _ _ _ _ _ _ _ _ _ _ _ _ _ _ _
   | exact ih5 _ _ _ _ _ _ _ _ _ _ _ _ _
   | exact ih6 _ _ _ _ _ _ _
   | exact ih7 _ _ _ _ _ _
   | exact ih8 _ _ _ _ _ _ _
   | exact ih9 _ _ _ _ _
   | exact ih10 _ _ _ _ _ _ _ _ _ _ _ _
   | exact ih11 _ _ _ _ _ _ _ _ _ _ _ _
   | exact ih12 _ _ _ _ _ _ _ _ _ _ _ _ _ _
   | exact ih13 _ _ _ _ _ _ _ _ _ _ _ _
   | exact impl_BestPer.mono _ _ _
   | exact impl_CreaseAt.mono _ _ _
   | exact impl_CreasesOf.mono _ _
   | exact impl_PageInBook.mono _ _ _ _ _
   | exact impl_PlaceInStrip.mono _ _ _
   | exact impl_SewnOpenings.mono _ _ _
   | exact impl_StripLabels.mono _ _
   | exact impl_StripOrder.mono _ _
   | exact laws_fRises.mono _ _
   | exact laws_fSame.mono _ _ _
   | exact spec_BestPer.mono _ _ _
   | exact spec_CreaseAt.mono _ _ _
   | exact spec_CreasesOf.mono _ _
   | exact spec_PageInBook.mono _ _ _ _ _
   | exact spec_PlaceInStrip.mono _ _ _
   | exact spec_SewnOpenings.mono _ _ _
   | exact spec_StripLabels.mono _ _
   | exact spec_StripOrder.mono _ _
   | exact LeO.none _
   | refine LeO.ite ?_ ?_
   | refine LeO.bind ?_ (fun _ => ?_)
  ·intro y0 y1 y2 y3 y4 y5 y6 y7 y8 y9 y10 y11 y12 y13 y14 y15 y16 y17 y18 y19
   unfold laws_FnFoldsStack.j8
   repeat' first
   | (with_reducible exact ih0 _ _ _ _ _ _ _ _ _ _ _ _)
   | (with_reducible exact ih1 _ _ _ _ _ _ _ _ _)
   | (with_reducible exact ih2 _ _ _ _ _ _)
   | (with_reducible exact ih3 _ _)
   | (with_reducible exact ih4 _ _ _ _ _ _ _ _ _ _ _ _ _ _ _ _ _ _ _ _)
   | (with_reducible exact ih5 _ _ _ _ _ _ _ _ _ _ _ _ _)
   | (with_reducible exact ih6 _ _ _ _ _ _ _)
   | (with_reducible exact ih7 _ _ _ _ _ _)
   | (with_reducible exact ih8 _ _ _ _ _ _ _)
   | (with_reducible exact ih9 _ _ _ _ _)
   | (with_reducible exact ih10 _ _ _ _ _ _ _ _ _ _ _ _)
   | (with_reducible exact ih11 _ _ _ _ _ _ _ _ _ _ _ _)
   | (with_reducible exact ih12 _ _ _ _ _ _ _ _ _ _ _ _ _ _)
   | (with_reducible exact ih13 _ _ _ _ _ _ _ _ _ _ _ _)
   | (with_reducible exact impl_BestPer.mono _ _ _)
   | (with_reducible exact impl_CreaseAt.mono _ _ _)
   | (with_reducible exact impl_CreasesOf.mono _ _)
   | (with_reducible exact impl_PageInBook.mono _ _ _ _ _)
   | (with_reducible exact impl_PlaceInStrip.mono _ _ _)
   | (with_reducible exact impl_SewnOpenings.mono _ _ _)
   | (with_reducible exact impl_StripLabels.mono _ _)
   | (with_reducible exact impl_StripOrder.mono _ _)
   | (with_reducible exact laws_fRises.mono _ _)
   | (with_reducible exact laws_fSame.mono _ _ _)
   | (with_reducible exact spec_BestPer.mono _ _ _)
   | (with_reducible exact spec_CreaseAt.mono _ _ _)
   | (with_reducible exact spec_CreasesOf.mono _ _)
   | (with_reducible exact spec_PageInBook.mono _ _ _ _ _)
   | (with_reducible exact spec_PlaceInStrip.mono _ _ _)
   | (with_reducible exact spec_SewnOpenings.mono _ _ _)
   | (with_reducible exact spec_StripLabels.mono _ _)
   | (with_reducible exact spec_StripOrder.mono _ _)
   | (with_reducible exact LeO.refl _)
   | (with_reducible exact LeO.none _)
   | (with_reducible refine LeO.ite ?_ ?_)
   | (with_reducible refine LeO.bind ?_ (fun _ => ?_))
   | exact ih0 _ _ _ _ _ _ _ _ _ _ _ _
   | exact ih1 _ _ _ _ _ _ _ _ _
   | exact ih2 _ _ _ _ _ _
   | exact ih3 _ _
   | exact ih4 _ _ _ _ _ _ _ _ _ _ _ _ _ _ _ _ _ _ _ _
   | exact ih5 _ _ _ _ _ _ _ _ _ _ _ _ _
   | exact ih6 _ _ _ _ _ _ _
   | exact ih7 _ _ _ _ _ _
   | exact ih8 _ _ _ _ _ _ _
   | exact ih9 _ _ _ _ _
   | exact ih10 _ _ _ _ _ _ _ _ _ _ _ _
   | exact ih11 _ _ _ _ _ _ _ _ _ _ _ _
   | exact ih12 _ _ _ _ _ _ _ _ _ _ _ _ _ _
   | exact ih13 _ _ _ _ _ _ _ _ _ _ _ _
   | exact impl_BestPer.mono _ _ _
   | exact impl_CreaseAt.mono _ _ _
   | exact impl_CreasesOf.mono _ _
   | exact impl_PageInBook.mono _ _ _ _ _
   | exact impl_PlaceInStrip.mono _ _ _
   | exact impl_SewnOpenings.mono _ _ _
   | exact impl_StripLabels.mono _ _
   | exact impl_StripOrder.mono _ _
   | exact laws_fRises.mono _ _
   | exact laws_fSame.mono _ _ _
   | exact spec_BestPer.mono _ _ _
   | exact spec_CreaseAt.mono _ _ _
   | exact spec_CreasesOf.mono _ _
   | exact spec_PageInBook.mono _ _ _ _ _
   | exact spec_PlaceInStrip.mono _ _ _
   | exact spec_SewnOpenings.mono _ _ _
   | exact spec_StripLabels.mono _ _
   | exact spec_StripOrder.mono _ _
   | exact LeO.none _
   | refine LeO.ite ?_ ?_
   | refine LeO.bind ?_ (fun _ => ?_)
  ·intro y0 y1 y2 y3 y4 y5 y6 y7 y8 y9 y10 y11 y12
   unfold laws_FnFoldsStack.j9
   repeat' first
   | (with_reducible exact ih0 _ _ _ _ _ _ _ _ _ _ _ _)
   | (with_reducible exact ih1 _ _ _ _ _ _ _ _ _)
   | (with_reducible exact ih2 _ _ _ _ _ _)
   | (with_reducible exact ih3 _ _)
   | (with_reducible exact ih4 _ _ _ _ _ _ _ _ _ _ _ _ _ _ _ _ _ _ _ _)
   | (with_reducible exact ih5 _ _ _ _ _ _ _ _ _ _ _ _ _)
   | (with_reducible exact ih6 _ _ _ _ _ _ _)
   | (with_reducible exact ih7 _ _ _ _ _ _)
   | (with_reducible exact ih8 _ _ _ _ _ _ _)
   | (with_reducible exact ih9 _ _ _ _ _)
   | (with_reducible exact ih10 _ _ _ _ _ _ _ _ _ _ _ _)
   | (with_reducible exact ih11 _ _ _ _ _ _ _ _ _ _ _ _)
   | (with_reducible exact ih12 _ _ _ _ _ _ _ _ _ _ _ _ _ _)
   | (with_reducible exact ih13 _ _ _ _ _ _ _ _ _ _ _ _)
   | (with_reducible exact impl_BestPer.mono _ _ _)
   | (with_reducible exact impl_CreaseAt.mono _ _ _)
   | (with_reducible exact impl_CreasesOf.mono _ _)
   | (with_reducible exact impl_PageInBook.mono _ _ _ _ _)
   | (with_reducible exact impl_PlaceInStrip.mono _ _ _)
   | (with_reducible exact impl_SewnOpenings.mono _ _ _)
   | (with_reducible exact impl_StripLabels.mono _ _)
   | (with_reducible exact impl_StripOrder.mono _ _)
   | (with_reducible exact laws_fRises.mono _ _)
   | (with_reducible exact laws_fSame.mono _ _ _)
   | (with_reducible exact spec_BestPer.mono _ _ _)
   | (with_reducible exact spec_CreaseAt.mono _ _ _)
   | (with_reducible exact spec_CreasesOf.mono _ _)
   | (with_reducible exact spec_PageInBook.mono _ _ _ _ _)
   | (with_reducible exact spec_PlaceInStrip.mono _ _ _)
   | (with_reducible exact spec_SewnOpenings.mono _ _ _)
   | (with_reducible exact spec_StripLabels.mono _ _)
   | (with_reducible exact spec_StripOrder.mono _ _)
   | (with_reducible exact LeO.refl _)
   | (with_reducible exact LeO.none _)
   | (with_reducible refine LeO.ite ?_ ?_)
   | (with_reducible refine LeO.bind ?_ (fun _ => ?_))
   | exact ih0 _ _ _ _ _ _ _ _ _ _ _ _
   | exact ih1 _ _ _ _ _ _ _ _ _
   | exact ih2 _ _ _ _ _ _
   | exact ih3 _ _
   | exact ih4 _ _ _ _ _ _ _ _ _ _ _ _ _ _ _ _ _ _ _ _
   | exact ih5 _ _ _ _ _ _ _ _ _ _ _ _ _
   | exact ih6 _ _ _ _ _ _ _
   | exact ih7 _ _ _ _ _ _
   | exact ih8 _ _ _ _ _ _ _
   | exact ih9 _ _ _ _ _
   | exact ih10 _ _ _ _ _ _ _ _ _ _ _ _
   | exact ih11 _ _ _ _ _ _ _ _ _ _ _ _
   | exact ih12 _ _ _ _ _ _ _ _ _ _ _ _ _ _
   | exact ih13 _ _ _ _ _ _ _ _ _ _ _ _
   | exact impl_BestPer.mono _ _ _
   | exact impl_CreaseAt.mono _ _ _
   | exact impl_CreasesOf.mono _ _
   | exact impl_PageInBook.mono _ _ _ _ _
   | exact impl_PlaceInStrip.mono _ _ _
   | exact impl_SewnOpenings.mono _ _ _
   | exact impl_StripLabels.mono _ _
   | exact impl_StripOrder.mono _ _
   | exact laws_fRises.mono _ _
   | exact laws_fSame.mono _ _ _
   | exact spec_BestPer.mono _ _ _
   | exact spec_CreaseAt.mono _ _ _
   | exact spec_CreasesOf.mono _ _
   | exact spec_PageInBook.mono _ _ _ _ _
   | exact spec_PlaceInStrip.mono _ _ _
   | exact spec_SewnOpenings.mono _ _ _
   | exact spec_StripLabels.mono _ _
   | exact spec_StripOrder.mono _ _
   | exact LeO.none _
   | refine LeO.ite ?_ ?_
   | refine LeO.bind ?_ (fun _ => ?_)
  ·intro y0 y1 y2 y3 y4 y5 y6
   unfold laws_FnFoldsStack.j10
   repeat' first
   | (with_reducible exact ih0 _ _ _ _ _ _ _ _ _ _ _ _)
   | (with_reducible exact ih1 _ _ _ _ _ _ _ _ _)
   | (with_reducible exact ih2 _ _ _ _ _ _)
   | (with_reducible exact ih3 _ _)
   | (with_reducible exact ih4 _ _ _ _ _ _ _ _ _ _ _ _ _ _ _ _ _ _ _ _)
   | (with_reducible exact ih5 _ _ _ _ _ _ _ _ _ _ _ _ _)
   | (with_reducible exact ih6 _ _ _ _ _ _ _)
   | (with_reducible exact ih7 _ _ _ _ _ _)
   | (with_reducible exact ih8 _ _ _ _ _ _ _)
   | (with_reducible exact ih9 _ _ _ _ _)
   | (with_reducible exact ih10 _ _ _ _ _ _ _ _ _ _ _ _)
   | (with_reducible exact ih11 _ _ _ _ _ _ _ _ _ _ _ _)
   | (with_reducible exact ih12 _ _ _ _ _ _ _ _ _ _ _ _ _ _)
   | (with_reducible exact ih13 _ _ _ _ _ _ _ _ _ _ _ _)
   | (with_reducible exact impl_BestPer.mono _ _ _)
   | (with_reducible exact impl_CreaseAt.mono _ _ _)
   | (with_reducible exact impl_CreasesOf.mono _ _)
   | (with_reducible exact impl_PageInBook.mono _ _ _ _ _)
   | (with_reducible exact impl_PlaceInStrip.mono _ _ _)
   | (with_reducible exact impl_SewnOpenings.mono _ _ _)
   | (with_reducible exact impl_StripLabels.mono _ _)
   | (with_reducible exact impl_StripOrder.mono _ _)
   | (with_reducible exact laws_fRises.mono _ _)
   | (with_reducible exact laws_fSame.mono _ _ _)
   | (with_reducible exact spec_BestPer.mono _ _ _)
   | (with_reducible exact spec_CreaseAt.mono _ _ _)
   | (with_reducible exact spec_CreasesOf.mono _ _)
   | (with_reducible exact spec_PageInBook.mono _ _ _ _ _)
   | (with_reducible exact spec_PlaceInStrip.mono _ _ _)
   | (with_reducible exact spec_SewnOpenings.mono _ _ _)
   | (with_reducible exact spec_StripLabels.mono _ _)
   | (with_reducible exact spec_StripOrder.mono _ _)
   | (with_reducible exact LeO.refl _)
   | (with_reducible exact LeO.none _)
   | (with_reducible refine LeO.ite ?_ ?_)
   | (with_reducible refine LeO.bind ?_ (fun _ => ?_))
   | exact ih0 _ _ _ _ _ _ _ _ _ _ _ _
   | exact ih1 _ _ _ _ _ _ _ _ _
   | exact ih2 _ _ _ _ _ _
   | exact ih3 _ _
   | exact ih4 _ _ _ _ _ _ _ _ _ _ _ _ _ _ _ _ _ _ _ _
   | exact ih5 _ _ _ _ _ _ _ _ _ _ _ _ _
   | exact ih6 _ _ _ _ _ _ _
   | exact ih7 _ _ _ _ _ _
   | exact ih8 _ _ _ _ _ _ _
   | exact ih9 _ _ _ _ _
   | exact ih10 _ _ _ _ _ _ _ _ _ _ _ _
   | exact ih11 _ _ _ _ _ _ _ _ _ _ _ _
   | exact ih12 _ _ _ _ _ _ _ _ _ _ _ _ _ _
   | exact ih13 _ _ _ _ _ _ _ _ _ _ _ _
   | exact impl_BestPer.mono _ _ _
   | exact impl_CreaseAt.mono _ _ _
   | exact impl_CreasesOf.mono _ _
   | exact impl_PageInBook.mono _ _ _ _ _
   | exact impl_PlaceInStrip.mono _ _ _
   | exact impl_SewnOpenings.mono _ _ _
   | exact impl_StripLabels.mono _ _
   | exact impl_StripOrder.mono _ _
   | exact laws_fRises.mono _ _
   | exact laws_fSame.mono _ _ _
   | exact spec_BestPer.mono _ _ _
   | exact spec_CreaseAt.mono _ _ _
   | exact spec_CreasesOf.mono _ _
   | exact spec_PageInBook.mono _ _ _ _ _
   | exact spec_PlaceInStrip.mono _ _ _
   | exact spec_SewnOpenings.mono _ _ _
   | exact spec_StripLabels.mono _ _
   | exact spec_StripOrder.mono _ _
   | exact LeO.none _
   | refine LeO.ite ?_ ?_
   | refine LeO.bind ?_ (fun _ => ?_)
  ·intro y0 y1 y2 y3 y4 y5
   unfold laws_FnFoldsStack.j11
   repeat' first
   | (with_reducible exact ih0 _ _ _ _ _ _ _ _ _ _ _ _)
   | (with_reducible exact ih1 _ _ _ _ _ _ _ _ _)
   | (with_reducible exact ih2 _ _ _ _ _ _)
   | (with_reducible exact ih3 _ _)
   | (with_reducible exact ih4 _ _ _ _ _ _ _ _ _ _ _ _ _ _ _ _ _ _ _ _)
   | (with_reducible exact ih5 _ _ _ _ _ _ _ _ _ _ _ _ _)
   | (with_reducible exact ih6 _ _ _ _ _ _ _)
   | (with_reducible exact ih7 _ _ _ _ _ _)
   | (with_reducible exact ih8 _ _ _ _ _ _ _)
   | (with_reducible exact ih9 _ _ _ _ _)
   | (with_reducible exact ih10 _ _ _ _ _ _ _ _ _ _ _ _)
   | (with_reducible exact ih11 _ _ _ _ _ _ _ _ _ _ _ _)
   | (with_reducible exact ih12 _ _ _ _ _ _ _ _ _ _ _ _ _ _)
   | (with_reducible exact ih13 _ _ _ _ _ _ _ _ _ _ _ _)
   | (with_reducible exact impl_BestPer.mono _ _ _)
   | (with_reducible exact impl_CreaseAt.mono _ _ _)
   | (with_reducible exact impl_CreasesOf.mono _ _)
   | (with_reducible exact impl_PageInBook.mono _ _ _ _ _)
   | (with_reducible exact impl_PlaceInStrip.mono _ _ _)
   | (with_reducible exact impl_SewnOpenings.mono _ _ _)
   | (with_reducible exact impl_StripLabels.mono _ _)
   | (with_reducible exact impl_StripOrder.mono _ _)
   | (with_reducible exact laws_fRises.mono _ _)
   | (with_reducible exact laws_fSame.mono _ _ _)
   | (with_reducible exact spec_BestPer.mono _ _ _)
   | (with_reducible exact spec_CreaseAt.mono _ _ _)
   | (with_reducible exact spec_CreasesOf.mono _ _)
   | (with_reducible exact spec_PageInBook.mono _ _ _ _ _)
   | (with_reducible exact spec_PlaceInStrip.mono _ _ _)
   | (with_reducible exact spec_SewnOpenings.mono _ _ _)
   | (with_reducible exact spec_StripLabels.mono _ _)
   | (with_reducible exact spec_StripOrder.mono _ _)
   | (with_reducible exact LeO.refl _)
   | (with_reducible exact LeO.none _)
   | (with_reducible refine LeO.ite ?_ ?_)
   | (with_reducible refine LeO.bind ?_ (fun _ => ?_))
   | exact ih0 _ _ _ _ _ _ _ _ _ _ _ _
   | exact ih1 _ _ _ _ _ _ _ _ _
   | exact ih2 _ _ _ _ _ _
   | exact ih3 _ _
   | exact ih4 _ _ _ _ _ _ _ _ _ _ _ _ _ _ _ _ _ _ _ _
   | exact ih5 _ _ _ _ _ _ _ _ _ _ _ _ _
   | exact ih6 _ _ _ _ _ _ _
   | exact ih7 _ _ _ _ _ _
   | exact ih8 _ _ _ _ _ _ _
   | exact ih9 _ _ _ _ _
   | exact ih10 _ _ _ _ _ _ _ _ _ _ _ _
   | exact ih11 _ _ _ _ _ _ _ _ _ _ _ _
   | exact ih12 _ _ _ _ _ _ _ _ _ _ _ _ _ _
   | exact ih13 _ _ _ _ _ _ _ _ _ _ _ _
   | exact impl_BestPer.mono _ _ _
   | exact impl_CreaseAt.mono _ _ _
   | exact impl_CreasesOf.mono _ _
   | exact impl_PageInBook.mono _ _ _ _ _
   | exact impl_PlaceInStrip.mono _ _ _
   | exact impl_SewnOpenings.mono _ _ _
   | exact impl_StripLabels.mono _ _
   | exact impl_StripOrder.mono _ _
   | exact laws_fRises.mono _ _
   | exact laws_fSame.mono _ _ _
   | exact spec_BestPer.mono _ _ _
   | exact spec_CreaseAt.mono _ _ _
   | exact spec_CreasesOf.mono _ _
   | exact spec_PageInBook.mono _ _ _ _ _
   | exact spec_PlaceInStrip.mono _ _ _
   | exact spec_SewnOpenings.mono _ _ _
   | exact spec_StripLabels.mono _ _
   | exact spec_StripOrder.mono _ _
   | exact LeO.none _
   | refine LeO.ite ?_ ?_
   | refine LeO.bind ?_ (fun _ => ?_)
  ·intro y0 y1 y2 y3 y4 y5 y6
   unfold laws_FnFoldsStack.l3
   repeat' first
   | (with_reducible exact ih0 _ _ _ _ _ _ _ _ _ _ _ _)
   | (with_reducible exact ih1 _ _ _ _ _ _ _ _ _)
   | (with_reducible exact ih2 _ _ _ _ _ _)
   | (with_reducible exact ih3 _ _)
   | (with_reducible exact ih4 _ _ _ _ _ _ _ _ _ _ _ _ _ _ _ _ _ _ _ _)
   | (with_reducible exact ih5 _ _ _ _ _ _ _ _ _ _ _ _ _)
   | (with_reducible exact ih6 _ _ _ _ _ _ _)
   | (with_reducible exact ih7 _ _ _ _ _ _)
   | (with_reducible exact ih8 _ _ _ _ _ _ _)
   | (with_reducible exact ih9 _ _ _ _ _)
   | (with_reducible exact ih10 _ _ _ _ _ _ _ _ _ _ _ _)
   | (with_reducible exact ih11 _ _ _ _ _ _ _ _ _ _ _ _)
   | (with_reducible exact ih12 _ _ _ _ _ _ _ _ _ _ _ _ _ _)
   | (with_reducible exact ih13 _ _ _ _ _ _ _ _ _ _ _ _)
   | (with_reducible exact impl_BestPer.mono _ _ _)
   | (with_reducible exact impl_CreaseAt.mono _ _ _)
   | (with_reducible exact impl_CreasesOf.mono _ _)
   | (with_reducible exact impl_PageInBook.mono _ _ _ _ _)
   | (with_reducible exact impl_PlaceInStrip.mono _ _ _)
   | (with_reducible exact impl_SewnOpenings.mono _ _ _)
   | (with_reducible exact impl_StripLabels.mono _ _)
   | (with_reducible exact impl_StripOrder.mono _ _)
   | (with_reducible exact laws_fRises.mono _ _)
   | (with_reducible exact laws_fSame.mono _ _ _)
   | (with_reducible exact spec_BestPer.mono _ _ _)
   | (with_reducible exact spec_CreaseAt.mono _ _ _)
   | (with_reducible exact spec_CreasesOf.mono _ _)
   | (with_reducible exact spec_PageInBook.mono _ _ _ _ _)
   | (with_reducible exact spec_PlaceInStrip.mono _ _ _)
   | (with_reducible exact spec_SewnOpenings.mono _ _ _)
   | (with_reducible exact spec_StripLabels.mono _ _)
   | (with_reducible exact spec_StripOrder.mono _ _)
   | (with_reducible exact LeO.refl _)
   | (with_reducible exact LeO.none _)
   | (with_reducible refine LeO.ite ?_ ?_)
   | (with_reducible refine LeO.bind ?_ (fun _ => ?_))
   | exact ih0 _ _ _ _ _ _ _ _ _ _ _ _
   | exact ih1 _ _ _ _ _ _ _ _ _
   | exact ih2 _ _ _ _ _ _
   | exact ih3 _ _
   | exact ih4 _ _ _ _ _ _ _ _ _ _ _ _ _ _ _ _ _ _ _ _
   | exact ih5 _ _ _ _ _ _ _ _ _ _ _ _ _
   | exact ih6 _ _ _ _ _ _ _
   | exact ih7 _ _ _ _ _ _
   | exact ih8 _ _ _ _ _ _ _
   | exact ih9 _ _ _ _ _
   | exact ih10 _ _ _ _ _ _ _ _ _ _ _ _
   | exact ih11 _ _ _ _ _ _ _ _ _ _ _ _
   | exact ih12 _ _ _ _ _ _ _ _ _ _ _ _ _ _
   | exact ih13 _ _ _ _ _ _ _ _ _ _ _ _
   | exact impl_BestPer.mono _ _ _
   | exact impl_CreaseAt.mono _ _ _
   | exact impl_CreasesOf.mono _ _
   | exact impl_PageInBook.mono _ _ _ _ _
   | exact impl_PlaceInStrip.mono _ _ _
   | exact impl_SewnOpenings.mono _ _ _
   | exact impl_StripLabels.mono _ _
   | exact impl_StripOrder.mono _ _
   | exact laws_fRises.mono _ _
   | exact laws_fSame.mono _ _ _
   | exact spec_BestPer.mono _ _ _
   | exact spec_CreaseAt.mono _ _ _
   | exact spec_CreasesOf.mono _ _
   | exact spec_PageInBook.mono _ _ _ _ _
   | exact spec_PlaceInStrip.mono _ _ _
   | exact spec_SewnOpenings.mono _ _ _
   | exact spec_StripLabels.mono _ _
   | exact spec_StripOrder.mono _ _
   | exact LeO.none _
   | refine LeO.ite ?_ ?_
   | refine LeO.bind ?_ (fun _ => ?_)
  ·intro y0 y1 y2 y3 y4
   unfold laws_FnFoldsStack.l4
   repeat' first
   | (with_reducible exact ih0 _ _ _ _ _ _ _ _ _ _ _ _)
   | (with_reducible exact ih1 _ _ _ _ _ _ _ _ _)
   | (with_reducible exact ih2 _ _ _ _ _ _)
   | (with_reducible exact ih3 _ _)
   | (with_reducible exact ih4 _ _ _ _ _ _ _ _ _ _ _ _ _ _ _ _ _ _ _ _)
   | (with_reducible exact ih5 _ _ _ _ _ _ _ _ _ _ _ _ _)
   | (with_reducible exact ih6 _ _ _ _ _ _ _)
   | (with_reducible exact ih7 _ _ _ _ _ _)
   | (with_reducible exact ih8 _ _ _ _ _ _ _)
   | (with_reducible exact ih9 _ _ _ _ _)
   | (with_reducible exact ih10 _ _ _ _ _ _ _ _ _ _ _ _)
   | (with_reducible exact ih11 _ _ _ _ _ _ _ _ _ _ _ _)
   | (with_reducible exact ih12 _ _ _ _ _ _ _ _ _ _ _ _ _ _)
   | (with_reducible exact ih13 _ _ _ _ _ _ _ _ _ _ _ _)
   | (with_reducible exact impl_BestPer.mono _ _ _)
   | (with_reducible exact impl_CreaseAt.mono _ _ _)
   | (with_reducible exact impl_CreasesOf.mono _ _)
   | (with_reducible exact impl_PageInBook.mono _ _ _ _ _)
   | (with_reducible exact impl_PlaceInStrip.mono _ _ _)
   | (with_reducible exact impl_SewnOpenings.mono _ _ _)
   | (with_reducible exact impl_StripLabels.mono _ _)
   | (with_reducible exact impl_StripOrder.mono _ _)
   | (with_reducible exact laws_fRises.mono _ _)
   | (with_reducible exact laws_fSame.mono _ _ _)
   | (with_reducible exact spec_BestPer.mono _ _ _)
   | (with_reducible exact spec_CreaseAt.mono _ _ _)
   | (with_reducible exact spec_CreasesOf.mono _ _)
   | (with_reducible exact spec_PageInBook.mono _ _ _ _ _)
   | (with_reducible exact spec_PlaceInStrip.mono _ _ _)
   | (with_reducible exact spec_SewnOpenings.mono _ _ _)
   | (with_reducible exact spec_StripLabels.mono _ _)
   | (with_reducible exact spec_StripOrder.mono _ _)
   | (with_reducible exact LeO.refl _)
   | (with_reducible exact LeO.none _)
   | (with_reducible refine LeO.ite ?_ ?_)
   | (with_reducible refine LeO.bind ?_ (fun _ => ?_))
   | exact ih0 _ _ _ _ _ _ _ _ _ _ _ _
   | exact ih1 _ _ _ _ _ _ _ _ _
   | exact ih2 _ _ _ _ _ _
   | exact ih3 _ _
   | exact ih4 _ _ _ _ _ _ _ _ _ _ _ _ _ _ _ _ _ _ _ _
   | exact ih5 _ _ _ _ _ _ _ _ _ _ _ _ _
   | exact ih6 _ _ _ _ _ _ _
   | exact ih7 _ _ _ _ _ _
   | exact ih8 _ _ _ _ _ _ _
   | exact ih9 _ _ _ _ _
   | exact ih10 _ _ _ _ _ _ _ _ _ _ _ _
   | exact ih11 _ _ _ _ _ _ _ _ _ _ _ _
   | exact ih12 _ _ _ _ _ _ _ _ _ _ _ _ _ _
   | exact ih13 _ _ _ _ _ _ _ _ _ _ _ _
   | exact impl_BestPer.mono _ _ _
   | exact impl_CreaseAt.mono _ _ _
   | exact impl_CreasesOf.mono _ _
   | exact impl_PageInBook.mono _ _ _ _ _
   | exact impl_PlaceInStrip.mono _ _ _
   | exact impl_SewnOpenings.mono _ _ _
   | exact impl_StripLabels.mono _ _
   | exact impl_StripOrder.mono _ _
   | exact laws_fRises.mono _ _
   | exact laws_fSame.mono _ _ _
   | exact spec_BestPer.mono _ _ _
   | exact spec_CreaseAt.mono _ _ _
   | exact spec_CreasesOf.mono _ _
   | exact spec_PageInBook.mono _ _ _ _ _
   | exact spec_PlaceInStrip.mono _ _ _
   | exact spec_SewnOpenings.mono _ _ _
   | exact spec_StripLabels.mono _ _
   | exact spec_StripOrder.mono _ _
   | exact LeO.none _
   | refine LeO.ite ?_ ?_
   | refine LeO.bind ?_ (fun _ => ?_)
  ·intro y0 y1 y2 y3 y4 y5 y6 y7 y8 y9 y10 y11
   unfold laws_FnFoldsStack.l0
   repeat' first
   | (with_reducible exact ih0 _ _ _ _ _ _ _ _ _ _ _ _)
   | (with_reducible exact ih1 _ _ _ _ _ _ _ _ _)
   | (with_reducible exact ih2 _ _ _ _ _ _)
   | (with_reducible exact ih3 _ _)
   | (with_reducible exact ih4 _ _ _ _ _ _ _ _ _ _ _ _ _ _ _ _ _ _ _ _)
   | (with_reducible exact ih5 _ _ _ _ _ _ _ _ _ _ _ _ _)
   | (with_reducible exact ih6 _ _ _ _ _ _ _)
   | (with_reducible exact ih7 _ _ _ _ _ _)
   | (with_reducible exact ih8 _ _ _ _ _ _ _)
   | (with_reducible exact ih9 _ _ _ _ _)
   | (with_reducible exact ih10 _ _ _ _ _ _ _ _ _ _ _ _)
   | (with_reducible exact ih11 _ _ _ _ _ _ _ _ _ _ _ _)
   | (with_reducible exact ih12 _ _ _ _ _ _ _ _ _ _ _ _ _ _)
   | (with_reducible exact ih13 _ _ _ _ _ _ _ _ _ _ _ _)
   | (with_reducible exact impl_BestPer.mono _ _ _)
   | (with_reducible exact impl_CreaseAt.mono _ _ _)
   | (with_reducible exact impl_CreasesOf.mono _ _)
   | (with_reducible exact impl_PageInBook.mono _ _ _ _ _)
   | (with_reducible exact impl_PlaceInStrip.mono _ _ _)
   | (with_reducible exact impl_SewnOpenings.mono _ _ _)
   | (with_reducible exact impl_StripLabels.mono _ _)
   | (with_reducible exact impl_StripOrder.mono _ _)
   | (with_reducible exact laws_fRises.mono _ _)
   | (with_reducible exact laws_fSame.mono _ _ _)
   | (with_reducible exact spec_BestPer.mono _ _ _)
   | (with_reducible exact spec_CreaseAt.mono _ _ _)
   | (with_reducible exact spec_CreasesOf.mono _ _)
   | (with_reducible exact spec_PageInBook.mono _ _ _ _ _)
   | (with_reducible exact spec_PlaceInStrip.mono _ _ _)
   | (with_reducible exact spec_SewnOpenings.mono _ _ _)
   | (with_reducible exact spec_StripLabels.mono _ _)
   | (with_reducible exact spec_StripOrder.mono _ _)
   | (with_reducible exact LeO.refl _)
   | (with_reducible exact LeO.none _)
   | (with_reducible refine LeO.ite ?_ ?_)
   | (with_reducible refine LeO.bind ?_ (fun _ => ?_))
   | exact ih0 _ _ _ _ _ _ _ _ _ _ _ _
   | exact ih1 _ _ _ _ _ _ _ _ _
   | exact ih2 _ _ _ _ _ _
   | exact ih3 _ _
   | exact ih4 _ _ _ _ _ _ _ _ _ _ _ _ _ _ _ _ _ _ _ _
   | exact ih5 _ _ _ _ _ _ _ _ _ _ _ _ _
   | exact ih6 _ _ _ _ _ _ _
   | exact ih7 _ _ _ _ _ _
   | exact ih8 _ _ _ _ _ _ _
   | exact ih9 _ _ _ _ _
   | exact ih10 _ _ _ _ _ _ _ _ _ _ _ _
   | exact ih11 _ _ _ _ _ _ _ _ _ _ _ _
   | exact ih12 _ _ _ _ _ _ _ _ _ _ _ _ _ _
   | exact ih13 _ _ _ _ _ _ _ _ _ _ _ _
   | exact impl_BestPer.mono _ _ _
   | exact impl_CreaseAt.mono _ _ _
   | exact impl_CreasesOf.mono _ _
   | exact impl_PageInBook.mono _ _ _ _ _
   | exact impl_PlaceInStrip.mono _ _ _
   | exact impl_SewnOpenings.mono _ _ _
   | exact impl_StripLabels.mono _ _
   | exact impl_StripOrder.mono _ _
   | exact laws_fRises.mono _ _
   | exact laws_fSame.mono _ _ _
   | exact spec_BestPer.mono _ _ _
   | exact spec_CreaseAt.mono _ _ _
   | exact spec_CreasesOf.mono _ _
   | exact spec_PageInBook.mono _ _ _ _ _
   | exact spec_PlaceInStrip.mono _ _ _
   | exact spec_SewnOpenings.mono _ _ _
   | exact spec_StripLabels.mono _ _
   | exact spec_StripOrder.mono _ _
   | exact LeO.none _
   | refine LeO.ite ?_ ?_
   | refine LeO.bind ?_ (fun _ => ?_)
  ·intro y0 y1 y2 y3 y4 y5 y6 y7 y8 y9 y10 y11
   unfold laws_FnFoldsStack.j2
   repeat' first
   | (with_reducible exact ih0 _ _ _ _ _ _ _ _ _ _ _ _)
   | (with_reducible exact ih1 _ _ _ _ _ _ _ _ _)
   | (with_reducible exact ih2 _ _ _ _ _ _)
   | (with_reducible exact ih3 _ _)
   | (with_reducible exact ih4 _ _ _ _ _ _ _ _ _ _ _ _ _ _ _ _ _ _ _ _)
   | (with_reducible exact ih5 _ _ _ _ _ _ _ _ _ _ _ _ _)
   | (with_reducible exact ih6 _ _ _ _ _ _ _)
   | (with_reducible exact ih7 _ _ _ _ _ _)
   | (with_reducible exact ih8 _ _ _ _ _ _ _)
   | (with_reducible exact ih9 _ _ _ _ _)
   | (with_reducible exact ih10 _ _ _ _ _ _ _ _ _ _ _ _)
   | (with_reducible exact ih11 _ _ _ _ _ _ _ _ _ _ _ _)
   | (with_reducible exact ih12 _ _ _ _ _ _ _ _ _ _ _ _ _ _)
   | (with_reducible exact ih13 _ _ _ _ _ _ _ _ _ _ _ _)
   | (with_reducible exact impl_BestPer.mono _ _ _)
   | (with_reducible exact impl_CreaseAt.mono _ _ _)
   | (with_reducible exact impl_CreasesOf.mono _ _)
   | (with_reducible exact impl_PageInBook.mono _ _ _ _ _)
   | (with_reducible exact impl_PlaceInStrip.mono _ _ _)
   | (with_reducible exact impl_SewnOpenings.mono _ _ _)
   | (with_reducible exact impl_StripLabels.mono _ _)
   | (with_reducible exact impl_StripOrder.mono _ _)
   | (with_reducible exact laws_fRises.mono _ _)
   | (with_reducible exact laws_fSame.mono _ _ _)
   | (with_reducible exact spec_BestPer.mono _ _ _)
   | (with_reducible exact spec_CreaseAt.mono _ _ _)
   | (with_reducible exact spec_CreasesOf.mono _ _)
   | (with_reducible exact spec_PageInBook.mono _ _ _ _ _)
   | (with_reducible exact spec_PlaceInStrip.mono _ _ _)
   | (with_reducible exact spec_SewnOpenings.mono _ _ _)
   | (with_reducible exact spec_StripLabels.mono _ _)
   | (with_reducible exact spec_StripOrder.mono _ _)
   | (with_reducible exact LeO.refl _)
   | (with_reducible exact LeO.none _)
   | (with_reducible refine LeO.ite ?_ ?_)
   | (with_reducible refine LeO.bind ?_ (fun _ => ?_))
   | exact ih0 _ _ _ _ _ _ _ _ _ _ _ _
   | exact ih1 _ _ _ _ _ _ _ _ _
   | exact ih2 _ _ _ _ _ _
   | exact ih3 _ _
   | exact ih4 _ _ _ _ _ _ _ _ _ _ _ _ _ _ _ _ _ _ _ _
   | exact ih5 _ _ _ _ _ _ _ _ _ _ _ _ _
   | exact ih6 _ _ _ _ _ _ _
   | exact ih7 _ _ _ _ _ _
   | exact ih8 _ _ _ _ _ _ _
   | exact ih9 _ _ _ _ _
   | exact ih10 _ _ _ _ _ _ _ _ _ _ _ _
   | exact ih11 _ _ _ _ _ _ _ _ _ _ _ _
   | exact ih12 _ _ _ _ _ _ _ _ _ _ _ _ _ _
   | exact ih13 _ _ _ _ _ _ _ _ _ _ _ _
   | exact impl_BestPer.mono _ _ _
   | exact impl_CreaseAt.mono _ _ _
   | exact impl_CreasesOf.mono _ _
   | exact impl_PageInBook.mono _ _ _ _ _
   | exact impl_PlaceInStrip.mono _ _ _
   | exact impl_SewnOpenings.mono _ _ _
   | exact impl_StripLabels.mono _ _
   | exact impl_StripOrder.mono _ _
   | exact laws_fRises.mono _ _
   | exact laws_fSame.mono _ _ _
   | exact spec_BestPer.mono _ _ _
   | exact spec_CreaseAt.mono _ _ _
   | exact spec_CreasesOf.mono _ _
   | exact spec_PageInBook.mono _ _ _ _ _
   | exact spec_PlaceInStrip.mono _ _ _
   | exact spec_SewnOpenings.mono _ _ _
   | exact spec_StripLabels.mono _ _
   | exact spec_StripOrder.mono _ _
   | exact LeO.none _
   | refine LeO.ite ?_ ?_
   | refine LeO.bind ?_ (fun _ => ?_)
  ·intro y0 y1 y2 y3 y4 y5 y6 y7 y8 y9 y10 y11 y12 y13
   unfold laws_FnFoldsStack.l1
   repeat' first
   | (with_reducible exact ih0 _ _ _ _ _ _ _ _ _ _ _ _)
   | (with_reducible exact ih1 _ _ _ _ _ _ _ _ _)
   | (with_reducible exact ih2 _ _ _ _ _ _)
   | (with_reducible exact ih3 _ _)
   | (with_reducible exact ih4 _ _ _ _ _ _ _ _ _ _ _ _ _ _ _ _ _ _ _ _)
   | (with_reducible exact ih5 _ _ _ _ _ _ _ _ _ _ _ _ _)
   | (with_reducible exact ih6 _ _ _ _ _ _ _)
   | (with_reducible exact ih7 _ _ _ _ _ _)
   | (with_reducible exact ih8 _ _ _ _ _ _ _)
   | (with_reducible exact ih9 _ _ _ _ _)
   | (with_reducible exact ih10 _ _ _ _ _ _ _ _ _ _ _ _)
   | (with_reducible exact ih11 _ _ _ _ _ _ _ _ _ _ _ _)
   | (with_reducible exact ih12 _ _ _ _ _ _ _ _ _ _ _ _ _ _)
   | (with_reducible exact ih13 _ _ _ _ _ _ _ _ _ _ _ _)
   | (with_reducible exact impl_BestPer.mono _ _ _)
   | (with_reducible exact impl_CreaseAt.mono _ _ _)
   | (with_reducible exact impl_CreasesOf.mono _ _)
   | (with_reducible exact impl_PageInBook.mono _ _ _ _ _)
   | (with_reducible exact impl_PlaceInStrip.mono _ _ _)
   | (with_reducible exact impl_SewnOpenings.mono _ _ _)
   | (with_reducible exact impl_StripLabels.mono _ _)
   | (with_reducible exact impl_StripOrder.mono _ _)
   | (with_reducible exact laws_fRises.mono _ _)
   | (with_reducible exact laws_fSame.mono _ _ _)
   | (with_reducible exact spec_BestPer.mono _ _ _)
   | (with_reducible exact spec_CreaseAt.mono _ _ _)
   | (with_reducible exact spec_CreasesOf.mono _ _)
   | (with_reducible exact spec_PageInBook.mono _ _ _ _ _)
   | (with_reducible exact spec_PlaceInStrip.mono _ _ _)
   | (with_reducible exact spec_SewnOpenings.mono _ _ _)
   | (with_reducible exact spec_StripLabels.mono _ _)
   | (with_reducible exact spec_StripOrder.mono _ _)
   | (with_reducible exact LeO.refl _)
   | (with_reducible exact LeO.none _)
   | (with_reducible refine LeO.ite ?_ ?_)
   | (with_reducible refine LeO.bind ?_ (fun _ => ?_))
   | exact ih0 _ _ _ _ _ _ _ _ _ _ _ _
   | exact ih1 _ _ _ _ _ _ _ _ _
   | exact ih2 _ _ _ _ _ _
   | exact ih3 _ _
   | exact ih4 _ _ _ _ _ _ _ _ _ _ _ _ _ _ _ _ _ _ _ _
   | exact ih5 _ _ _ _ _ _ _ _ _ _ _ _ _
   | exact ih6 _ _ _ _ _ _ _
   | exact ih7 _ _ _ _ _ _
   | exact ih8 _ _ _ _ _ _ _
   | exact ih9 _ _ _ _ _
   | exact ih10 _ _ _ _ _ _ _ _ _ _ _ _
   | exact ih11 _ _ _ _ _ _ _ _ _ _ _ _
   | exact ih12 _ _ _ _ _ _ _ _ _ _ _ _ _ _
   | exact ih13 _ _ _ _ _ _ _ _ _ _ _ _
   | exact impl_BestPer.mono _ _ _
   | exact impl_CreaseAt.mono _ _ _
   | exact impl_CreasesOf.mono _ _
   | exact impl_PageInBook.mono _ _ _ _ _
   | exact impl_PlaceInStrip.mono _ _ _
   | exact impl_SewnOpenings.mono _ _ _
   | exact impl_StripLabels.mono _ _
   | exact impl_StripOrder.mono _ _
   | exact laws_fRises.mono _ _
   | exact laws_fSame.mono _ _ _
   | exact spec_BestPer.mono _ _ _
   | exact spec_CreaseAt.mono _ _ _
   | exact spec_CreasesOf.mono _ _
   | exact spec_PageInBook.mono _ _ _ _ _
   | exact spec_PlaceInStrip.mono _ _ _
   | exact spec_SewnOpenings.mono _ _ _
   | exact spec_StripLabels.mono _ _
   | exact spec_StripOrder.mono _ _
   | exact LeO.none _
   | refine LeO.ite ?_ ?_
   | refine LeO.bind ?_ (fun _ => ?_)
  ·intro y0 y1 y2 y3 y4 y5 y6 y7 y8 y9 y10 y11
   unfold laws_FnFoldsStack.l2
   repeat' first
   | (with_reducible exact ih0 _ _ _ _ _ _ _ _ _ _ _ _)
   | (with_reducible exact ih1 _ _ _ _ _ _ _ _ _)
   | (with_reducible exact ih2 _ _ _ _ _ _)
   | (with_reducible exact ih3 _ _)
   | (with_reducible exact ih4 _ _ _ _ _ _ _ _ _ _ _ _ _ _ _ _ _ _ _ _)
   | (with_reducible exact ih5 _ _ _ _ _ _ _ _ _ _ _ _ _)
   | (with_reducible exact ih6 _ _ _ _ _ _ _)
   | (with_reducible exact ih7 _ _ _ _ _ _)
   | (with_reducible exact ih8 _ _ _ _ _ _ _)
   | (with_reducible exact ih9 _ _ _ _ _)
   | (with_reducible exact ih10 _ _ _ _ _ _ _ _ _ _ _ _)
   | (with_reducible exact ih11 _ _ _ _ _ _ _ _ _ _ _ _)
   | (with_reducible exact ih12 _ _ _ _ _ _ _ _ _ _ _ _ _ _)
   | (with_reducible exact ih13 _ _ _ _ _ _ _ _ _ _ _ _)
   | (with_reducible exact impl_BestPer.mono _ _ _)
   | (with_reducible exact impl_CreaseAt.mono _ _ _)
   | (with_reducible exact impl_CreasesOf.mono _ _)
   | (with_reducible exact impl_PageInBook.mono _ _ _ _ _)
   | (with_reducible exact impl_PlaceInStrip.mono _ _ _)
   | (with_reducible exact impl_SewnOpenings.mono _ _ _)
   | (with_reducible exact impl_StripLabels.mono _ _)
   | (with_reducible exact impl_StripOrder.mono _ _)
   | (with_reducible exact laws_fRises.mono _ _)
   | (with_reducible exact laws_fSame.mono _ _ _)
   | (with_reducible exact spec_BestPer.mono _ _ _)
   | (with_reducible exact spec_CreaseAt.mono _ _ _)
   | (with_reducible exact spec_CreasesOf.mono _ _)
   | (with_reducible exact spec_PageInBook.mono _ _ _ _ _)
   | (with_reducible exact spec_PlaceInStrip.mono _ _ _)
   | (with_reducible exact spec_SewnOpenings.mono _ _ _)
   | (with_reducible exact spec_StripLabels.mono _ _)
   | (with_reducible exact spec_StripOrder.mono _ _)
   | (with_reducible exact LeO.refl _)
   | (with_reducible exact LeO.none _)
   | (with_reducible refine LeO.ite ?_ ?_)
   | (with_reducible refine LeO.bind ?_ (fun _ => ?_))
   | exact ih0 _ _ _ _ _ _ _ _ _ _ _ _
   | exact ih1 _ _ _ _ _ _ _ _ _
   | exact ih2 _ _ _ _ _ _
   | exact ih3 _ _
   | exact ih4 _ _ _ _ _ _ _ _ _ _ _ _ _ _ _ _ _ _ _ _
   | exact ih5 _ _ _ _ _ _ _ _ _ _ _ _ _
   | exact ih6 _ _ _ _ _ _ _
   | exact ih7 _ _ _ _ _ _
   | exact ih8 _ _ _ _ _ _ _
   | exact ih9 _ _ _ _ _
   | exact ih10 _ _ _ _ _ _ _ _ _ _ _ _
   | exact ih11 _ _ _ _ _ _ _ _ _ _ _ _
   | exact ih12 _ _ _ _ _ _ _ _ _ _ _ _ _ _
   | exact ih13 _ _ _ _ _ _ _ _ _ _ _ _
   | exact impl_BestPer.mono _ _ _
   | exact impl_CreaseAt.mono _ _ _
   | exact impl_CreasesOf.mono _ _
   | exact impl_PageInBook.mono _ _ _ _ _
   | exact impl_PlaceInStrip.mono _ _ _
   | exact impl_SewnOpenings.mono _ _ _
   | exact impl_StripLabels.mono _ _
   | exact impl_StripOrder.mono _ _
   | exact laws_fRises.mono _ _
   | exact laws_fSame.mono _ _ _
   | exact spec_BestPer.mono _ _ _
   | exact spec_CreaseAt.mono _ _ _
   | exact spec_CreasesOf.mono _ _
   | exact spec_PageInBook.mono _ _ _ _ _
   | exact spec_PlaceInStrip.mono _ _ _
   | exact spec_SewnOpenings.mono _ _ _
   | exact spec_StripLabels.mono _ _
   | exact spec_StripOrder.mono _ _
   | exact LeO.none _
   | refine LeO.ite ?_ ?_
   | refine LeO.bind ?_ (fun _ => ?_)
theorem laws_FnFoldsStack.mono : ∀ a0 a1 k, LeO (laws_FnFoldsStack.f k a0 a1) (laws_FnFoldsStack.f (k + 1) a0 a1) := by
 intro a0 a1 k
 obtain ⟨ih0, ih1, ih2, ih3, ih4, ih5, ih6, ih7, ih8, ih9, ih10, ih11, ih12, ih13⟩ := laws_FnFoldsStack.mono_l k
 unfold laws_FnFoldsStack.f
 repeat' first
   | (with_reducible exact ih0 _ _ _ _ _ _ _ _ _ _ _ _)
   | (with_reducible exact ih1 _ _ _ _ _ _ _ _ _)
   | (with_reducible exact ih2 _ _ _ _ _ _)
   | (with_reducible exact ih3 _ _)
   | (with_reducible exact ih4 _ _ _ _ _ _ _ _ _ _ _ _ _ _ _ _ _ _ _ _)
   | (with_reducible exact ih5 _ _ _ _ _ _ _ _ _ _ _ _ _)
   | (with_reducible exact ih6 _ _ _ _ _ _ _)
   | (with_reducible exact ih7 _ _ _ _ _ _)
   | (with_reducible exact ih8 _ _ _ _ _ _ _)
   | (with_reducible exact ih9 _ _ _ _ _)
   | (with_reducible exact ih10 _ _ _ _ _ _ _ _ _ _ _ _)
   | (with_reducible exact ih11 _ _ _ _ _ _ _ _ _ _ _ _)
   | (with_reducible exact ih12 _ _ _ _ _ _ _ _ _ _ _ _ _ _)
   | (with_reducible exact ih13 _ _ _ _ _ _ _ _ _ _ _ _)
   | (with_reducible exact impl_BestPer.mono _ _ _)
   | (with_reducible exact impl_CreaseAt.mono _ _ _)
   | (with_reducible exact impl_CreasesOf.mono _ _)
   | (with_reducible exact impl_PageInBook.mono _ _ _ _ _)
   | (with_reducible exact impl_PlaceInStrip.mono _ _ _)
   | (with_reducible exact impl_SewnOpenings.mono _ _ _)
   | (with_reducible exact impl_StripLabels.mono _ _)
   | (with_reducible exact impl_StripOrder.mono _ _)
   | (with_reducible exact laws_fRises.mono _ _)
   | (with_reducible exact laws_fSame.mono _ _ _)
   | (with_reducible exact spec_BestPer.mono _ _ _)
   | (with_reducible exact spec_CreaseAt.mono _ _ _)
   | (with_reducible exact spec_CreasesOf.mono _ _)
   | (with_reducible exact spec_PageInBook.mono _ _ _ _ _)
   | (with_reducible exact spec_PlaceInStrip.mono _ _ _)
   | (with_reducible exact spec_SewnOpenings.mono _ _ _)
   | (with_reducible exact spec_StripLabels.mono _ _)
   | (with_reducible exact spec_StripOrder.mono _ _)
   | (with_reducible exact LeO.refl _)
   | (with_reducible exact LeO.none _)
   | (with_reducible refine LeO.ite ?_ ?_)
   | (with_reducible refine LeO.bind ?_ (fun _ => ?_))
   | exact ih0 _ _ _ _ _ _ _ _ _ _ _ _
   | exact ih1 _ _ _ _ _ _ _ _ _
   | exact ih2 _ _ _ _ _ _
   | exact ih3 _ _
   | exact ih4 _ _ _ _ _ _ _ _ _ _ _ _ _ _ _ _ _ _ _ _
   | exact ih5 _ _ _ _ _ _ _ _ _ _ _ _ _
   | exact ih6 _ _ _ _ _ _ _
   | exact ih7 _ _ _ _ _ _
   | exact ih8 _ _ _ _ _ _ _
   | exact ih9 _ _ _ _ _
   | exact ih10 _ _ _ _ _ _ _ _ _ _ _ _
   | exact ih11 _ _ _ _ _ _ _ _ _ _ _ _
   | exact ih12 _ _ _ _ _ _ _ _ _ _ _ _ _ _
   | exact ih13 _ _ _ _ _ _ _ _ _ _ _ _
   | exact impl_BestPer.mono _ _ _
   | exact impl_CreaseAt.mono _ _ _
   | exact impl_CreasesOf.mono _ _
   | exact impl_PageInBook.mono _ _ _ _ _
   | exact impl_PlaceInStrip.mono _ _ _
   | exact impl_SewnOpenings.mono _ _ _
   | exact impl_StripLabels.mono _ _
   | exact impl_StripOrder.mono _ _
   | exact laws_fRises.mono _ _
   | exact laws_fSame.mono _ _ _
   | exact spec_BestPer.mono _ _ _
   | exact spec_CreaseAt.mono _ _ _
   | exact spec_CreasesOf.mono _ _
   | exact spec_PageInBook.mono _ _ _ _ _
   | exact spec_PlaceInStrip.mono _ _ _
   | exact spec_SewnOpenings.mono _ _ _
   | exact spec_StripLabels.mono _ _
   | exact spec_StripOrder.mono _ _
   | exact LeO.none _
   | refine LeO.ite ?_ ?_
   | refine LeO.bind ?_ (fun _ => ?_)
theorem laws_FnFoldsStack.j0_dead {k : Nat} {y0 : List Int} {y1 : Int} {y2 : Int} {y3 : Int} {y4 : Bool} {y5 : List Int} {y6 : Bool} {y7 : List Int} {y8 : ByteArray} {y9 : ByteArray} {y10 : Bool} : ¬ laws_FnFoldsStack.j0 k y0 y1 y2 y3 y4 y5 y6 y7 y8 y9 y10 true = some true := by
 cases k with
 | zero => intro h; rw [laws_FnFoldsStack.j0] at h; exact absurd h (by simp)
 | succ k => intro h; rw [laws_FnFoldsStack.j0, if_pos rfl] at h; exact absurd h (by simp)
theorem laws_FnFoldsStack.j6_dead {k : Nat} {y0 : List Int} {y1 : Int} {y2 : ByteArray} {y3 : ByteArray} {y4 : Bool} : ¬ laws_FnFoldsStack.j6 k y0 y1 y2 y3 y4 true = some true := by
 cases k with
 | zero => intro h; rw [laws_FnFoldsStack.j6] at h; exact absurd h (by simp)
 | succ k => intro h; rw [laws_FnFoldsStack.j6, if_pos rfl] at h; exact absurd h (by simp)
theorem laws_FnFoldsStack.j7_dead {k : Nat} {y0 : List Int} : ¬ laws_FnFoldsStack.j7 k y0 true = some true := by
 cases k with
 | zero => intro h; rw [laws_FnFoldsStack.j7] at h; exact absurd h (by simp)
 | succ k => intro h; rw [laws_FnFoldsStack.j7, if_pos rfl] at h; exact absurd h (by simp)
theorem laws_FnFoldsStack.j8_dead {k : Nat} {y0 : Int} {y1 : Int} {y2 : Int} {y3 : Int} {y4 : Int} {y5 : Bool} {y6 : Int} {y7 : Int} {y8 : Int} {y9 : Int} {y10 : Int} {y11 : Bool} {y12 : Int} {y13 : Int} {y14 : List Int} {y15 : Bool} {y16 : Int} {y17 : Int} {y18 : Int} : ¬ laws_FnFoldsStack.j8 k y0 y1 y2 y3 y4 y5 y6 y7 y8 y9 y10 y11 y12 y13 y14 y15 y16 y17 y18 true = some true := by
 cases k with
 | zero => intro h; rw [laws_FnFoldsStack.j8] at h; exact absurd h (by simp)
 | succ k => intro h; rw [laws_FnFoldsStack.j8, if_pos rfl] at h; exact absurd h (by simp)
theorem laws_FnFoldsStack.j11_dead {k : Nat} {y0 : Int} {y1 : Int} {y2 : List Int} {y3 : Int} {y4 : Int} : ¬ laws_FnFoldsStack.j11 k y0 y1 y2 y3 y4 true = some true := by
 cases k with
 | zero => intro h; rw [laws_FnFoldsStack.j11] at h; exact absurd h (by simp)
 | succ k => intro h; rw [laws_FnFoldsStack.j11, if_pos rfl] at h; exact absurd h (by simp)
theorem laws_FnFoldsStack.j2_dead {k : Nat} {y0 : List Int} {y1 : Int} {y2 : Int} {y3 : Int} {y4 : Bool} {y5 : List Int} {y6 : List Int} {y7 : ByteArray} {y8 : ByteArray} {y9 : Bool} {y10 : Int} : ¬ laws_FnFoldsStack.j2 k y0 y1 y2 y3 y4 y5 y6 y7 y8 y9 y10 true = some true := by
 cases k with
 | zero => intro h; rw [laws_FnFoldsStack.j2] at h; exact absurd h (by simp)
 | succ k => intro h; rw [laws_FnFoldsStack.j2, if_pos rfl] at h; exact absurd h (by simp)
theorem laws_FnFoldsStack.scan_asc {s : ByteArray} {x : Int} {pos : Nat} (hx : (pos : Int) = x) (hp : pos < s.size) (h : bt s x < 128) : (s[pos]'hp).toNat < 128 := by
 subst hx
 have h1 := bt_at s (pos : Int) (by rw [Int.toNat_natCast]; exact hp)
 simp only [Int.toNat_natCast] at h1
 omega
theorem laws_FnFoldsStack.scan_R {α : Type} {d : Kd α} {e : Nat} {w : World} {base : Nat} {ok : Nat → Prop} {v : Value} {xs : List α} (h : d.R e w base ok v xs) {g : Nat} {s : ByteArray} {p : Nat} (hit : w.heap[g]? = some (.stringIter s p)) (p' : Nat) : d.R e (w.iterAt g s p') base ok v xs :=
 Kd.R_mono (Kd.R_step (Kd.R_bound h) (fun k hk _ => Lib.iterAt_other w g k s p' (by
  rintro rfl
  obtain ⟨_, _, _, _, _, cells, hc⟩ := hk
  rw [hit] at hc
  cases hc))) (fun k hk => hk.1)
/-- The statements from the n-th on. -/
def laws_FnFoldsStack.rights : Nat → Code → Code
 | 0, c => c
 | n + 1, .seq _ b => laws_FnFoldsStack.rights n b
 | _, c => c
def laws_FnFoldsStack.first : Code → Code
 | .seq a _ => a
 | c => c
def laws_FnFoldsStack.second : Code → Code
 | .seq _ b => b
 | c => c
set_option maxRecDepth 1000000 in
/-- What follows statement 13. -/
def laws_FnFoldsStack.P13 : Prop := ∀ (k : Nat) (l0 : List Int) (A1 : Option Addr) (c1 : Nat) (l1 : List Int) (w : World) (HR1 : Aside0 (Kd.C (Kd.int .u8) w A1 l1.length l1)) (HC1 : Aside0 (l1.length ≤ c1)) (t349 : Int) (t350 : Int) (t351 : Int) (t352 : Bool) (t355 : List Int) (t356 : Bool) (t363 : List Int) (t371 : ByteArray) (t375 : ByteArray) (t376 : Bool) (v365 : Value) (v357 : Value) (kq : Nat) (x216_15 : Bool) (wc : World) (HA : Aside0 (laws_FnFoldsStack.j0 kq l1 t349 t350 t351 t352 t355 t356 t363 t371 t375 t376 x216_15 = some true)) (HO_11 : Aside0 (Kd.R (Kd.int .i64) 3 wc w.heap.size (fun k_ => some k_ ≠ (v365 : Value).ownBlock) v357 t355)) (HO_15 : Aside0 (Kd.R (Kd.int .i64) 3 wc w.heap.size (fun k_ => some k_ ≠ (v357 : Value).ownBlock) v365 t363)) (HB : Aside0 (Below w.heap.size w wc)),
  ∀ (aA aC aD aE aJ aK aN aO aQ aR aS aU aV aW aZ bA bB bC bD bE bF bG bH bI bJ bK bL bM bN bO bP bQ bR bS bT bU bV bW bX bY bZ cA cB cC cD cE cF cG cH cI cJ cK cL cM cN cO cP cQ cR cS cT cU cV cW cX cY cZ dA dB dC dD dE dF dG dH dI dJ dK dL dM dN dO dP dQ dR dS dT dU dV dW dX dY dZ eA eB eC eD eE eF eG eH eI eJ eK eL eM eN eO eP eQ eR eS eT eU eV eW eX eY eZ fA fB fC fD fE fF fG fH fI fJ fK fL fM fN fO fP fQ fR fS fT fU fV fW fX fY fZ gA gB gC gD gE gF gG gH gI gJ gK gL gM gN gO gP gQ gR gS gT gU gV gW gX gY gZ hA hB hC hD hE hF hG hH hI hJ hK hL hM hN hO hP hQ hR hS hT hU hV hW hX hY hZ iA iB iC iD iE iF iG iH iJ iK iL iM iN iO iP iQ iR iS iT iU iV iW iX iY iZ jA jB jC jD jE jF jG jH jI jJ jK jL jM jN jO jP jQ jR jS jT jU jV jW jX jY jZ kA kB kC kD kE kF kG kH kI kJ kK kL kM kN kO kP kQ kR kS kT kU kV kW kX kY kZ lA lB lC lD lE lF lG lH lI lJ lK lL lM lN lO lP lQ lR lS lT lU lV lW lX lY lZ mA mB mC mD mE mF mG mH mI mJ mK mL mM mN mO mP mQ mR mS mT mU mV mW mX mY mZ nA nB nC nD nE nF nG nH nI nJ nK nL nM nN nO nP nQ nR nS nT nU nV nW nX nY nZ oA oB oC oD oE oF oG oH oI oJ oK oL oM oN oO oP oQ oR oS oT oU oV oW oX oY oZ pA pB pC pD pE pF pG pH pI pJ pK pL pM pN pO pP pQ pR pS pT pU pV pW pX pY pZ qA qB qC qD qE qF qG qH qI qJ qK qL qM qN qO qP qQ qR qS qT qU qV qW qX qY qZ rA rB rC rD rE rF rG rH rI rJ rK rL rM rN rO rP rQ rR rS rT rU rV rW rX rY rZ sA sB sC sD sE sF sG sH sI sJ sK sL sM sN sO sP sQ sR sS sT sU sV sW sX sY sZ tA tB tC tD tE tF tG tH tI tJ tK tL tM tN tO tP tQ tR tS tT tU tV tW tX tY tZ uA uB uC uD uE uF uG uH uI uJ uK uL uM uN uO uP uQ uR uS uT uU uV uW uX uY uZ vA vB vC vD vE vF vG vH vI vJ vK vL vM vN vO vP vQ vR vS vT vU vV vW vX vY vZ wA wB wC wD wE wF wG wH wI wJ wK wL wM wN wO wP wQ wR wS wT wU wV wW wX wY wZ xA xB xC xD xE xF xG xH xI xJ xK xL xM xN xO xP xQ xR xS xT xU xV xW xX xY xZ yA yB yC yD yE yF yG yH yI yJ yK yL yM yN yO yP yQ yR yS yT yU yV yW yX yY yZ zA zB zC zD zE zF zG zH zI zJ zK : Value), let Q' : Exit → Act → World → Prop := bodyPost Try.prog Try.f3 (fun e w' => e = .returned (.bool true) ∧ Below w.heap.size w w'); ∀ (K1 : Act → World → Prop) (a1 : ∀ a w, Code.wp Try.prog (laws_FnFoldsStack.rights 14 (Try.f3.body.getD .skip)) Q' a w → K1 a w) (K0 : Act → World → Prop) (a0 : ∀ a w, Code.wp Try.prog (laws_FnFoldsStack.second (laws_FnFoldsStack.first (laws_FnFoldsStack.rights 13 (Try.f3.body.getD .skip)))) (Exit.then K1 Q') a w → K0 a w),
   K0 ⟨#[aA, .slice A1 l1.length c1, aC, aD, aE, .int .i64 t349, .int .i64 t350, .int .i64 t351, .bool t352, aJ, aK, v357, .bool t356, aN, aO, v365, aQ, aR, aS, .string t371, aU, aV, aW, .string t375, .bool t376, aZ, bA, bB, bC, bD, bE, bF, bG, bH, bI, bJ, bK, bL, bM, bN, bO, bP, bQ, bR, bS, bT, bU, bV, bW, bX, bY, bZ, cA, cB, cC, cD, cE, cF, cG, cH, cI, cJ, cK, cL, cM, cN, cO, cP, cQ, cR, cS, cT, cU, cV, cW, cX, cY, cZ, dA, dB, dC, dD, dE, dF, dG, dH, dI, dJ, dK, dL, dM, dN, dO, dP, dQ, dR, dS, dT, dU, dV, dW, dX, dY, dZ, eA, eB, eC, eD, eE, eF, eG, eH, eI, eJ, eK, eL, eM, eN, eO, eP, eQ, eR, eS, eT, eU, eV, eW, eX, eY, eZ, fA, fB, fC, fD, fE, fF, fG, fH, fI, fJ, fK, fL, fM, fN, fO, fP, fQ, fR, fS, fT, fU, fV, fW, fX, fY, fZ, gA, gB, gC, gD, gE, gF, gG, gH, gI, gJ, gK, gL, gM, gN, gO, gP, gQ, gR, gS, gT, gU, gV, gW, gX, gY, gZ, hA, hB, hC, hD, hE, hF, hG, hH, hI, hJ, hK, hL, hM, hN, hO, hP, hQ, hR, hS, hT, hU, hV, hW, hX, hY, hZ, iA, iB, iC, iD, iE, iF, iG, iH, .bool x216_15, iJ, iK, iL, iM, iN, iO, iP, iQ, iR, iS, iT, iU, iV, iW, iX, iY, iZ, jA, jB, jC, jD, jE, jF, jG, jH, jI, jJ, jK, jL, jM, jN, jO, jP, jQ, jR, jS, jT, jU, jV, jW, jX, jY, jZ, kA, kB, kC, kD, kE, kF, kG, kH, kI, kJ, kK, kL, kM, kN, kO, kP, kQ, kR, kS, kT, kU, kV, kW, kX, kY, kZ, lA, lB, lC, lD, lE, lF, lG, lH, lI, lJ, lK, lL, lM, lN, lO, lP, lQ, lR, lS, lT, lU, lV, lW, lX, lY, lZ, mA, mB, mC, mD, mE, mF, mG, mH, mI, mJ, mK, mL, mM, mN, mO, mP, mQ, mR, mS, mT, mU, mV, mW, mX, mY, mZ, nA, nB, nC, nD, nE, nF, nG, nH, nI, nJ, nK, nL, nM, nN, nO, nP, nQ, nR, nS, nT, nU, nV, nW, nX, nY, nZ, oA, oB, oC, oD, oE, oF, oG, oH, oI, oJ, oK, oL, oM, oN, oO, oP, oQ, oR, oS, oT, oU, oV, oW, oX, oY, oZ, pA, pB, pC, pD, pE, pF, pG, pH, pI, pJ, pK, pL, pM, pN, pO, pP, pQ, pR, pS, pT, pU, pV, pW, pX, pY, pZ, qA, qB, qC, qD, qE, qF, qG, qH, qI, qJ, qK, qL, qM, qN, qO, qP, qQ, qR, qS, qT, qU, qV, qW, qX, qY, qZ, rA, rB, rC, rD, rE, rF, rG, rH, rI, rJ, rK, rL, rM, rN, rO, rP, rQ, rR, rS, rT, rU, rV, rW, rX, rY, rZ, sA, sB, sC, sD, sE, sF, sG, sH, sI, sJ, sK, sL, sM, sN, sO, sP, sQ, sR, sS, sT, sU, sV, sW, sX, sY, sZ, tA, tB, tC, tD, tE, tF, tG, tH, tI, tJ, tK, tL, tM, tN, tO, tP, tQ, tR, tS, tT, tU, tV, tW, tX, tY, tZ, uA, uB, uC, uD, uE, uF, uG, uH, uI, uJ, uK, uL, uM, uN, uO, uP, uQ, uR, uS, uT, uU, uV, uW, uX, uY, uZ, vA, vB, vC, vD, vE, vF, vG, vH, vI, vJ, vK, vL, vM, vN, vO, vP, vQ, vR, vS, vT, vU, vV, vW, vX, vY, vZ, wA, wB, wC, wD, wE, wF, wG, wH, wI, wJ, wK, wL, wM, wN, wO, wP, wQ, wR, wS, wT, wU, wV, wW, wX, wY, wZ, xA, xB, xC, xD, xE, xF, xG, xH, xI, xJ, xK, xL, xM, xN, xO, xP, xQ, xR, xS, xT, xU, xV, xW, xX, xY, xZ, yA, yB, yC, yD, yE, yF, yG, yH, yI, yJ, yK, yL, yM, yN, yO, yP, yQ, yR, yS, yT, yU, yV, yW, yX, yY, yZ, zA, zB, zC, zD, zE, zF, zG, zH, zI, zJ, zK], []⟩ wc
set_option maxRecDepth 1000000 in
/-- What follows statement 14. -/
def laws_FnFoldsStack.P14 : Prop := ∀ (A1 : Option Addr) (c1 : Nat) (l1 : List Int) (w : World) (HR1 : Aside0 (Kd.C (Kd.int .u8) w A1 l1.length l1)) (HC1 : Aside0 (l1.length ≤ c1)) (t350 : Int) (t351 : Int) (t352 : Bool) (t355 : List Int) (t363 : List Int) (t371 : ByteArray) (t375 : ByteArray) (t376 : Bool) (v365 : Value) (v357 : Value) (kq : Nat) (wc : World) (HA : Aside0 (laws_FnFoldsStack.j5 kq l1 t350 t351 t352 t355 t363 t371 t375 t376 = some true)) (HO_11 : Aside0 (Kd.R (Kd.int .i64) 3 wc w.heap.size (fun k_ => some k_ ≠ (v365 : Value).ownBlock) v357 t355)) (HO_15 : Aside0 (Kd.R (Kd.int .i64) 3 wc w.heap.size (fun k_ => some k_ ≠ (v357 : Value).ownBlock) v365 t363)) (HB : Aside0 (Below w.heap.size w wc)),
  ∀ (aA aC aD aE aF aJ aK aM aN aO aQ aR aS aU aV aW aZ bA bB bC bD bE bF bG bH bI bJ bK bL bM bN bO bP bQ bR bS bT bU bV bW bX bY bZ cA cB cC cD cE cF cG cH cI cJ cK cL cM cN cO cP cQ cR cS cT cU cV cW cX cY cZ dA dB dC dD dE dF dG dH dI dJ dK dL dM dN dO dP dQ dR dS dT dU dV dW dX dY dZ eA eB eC eD eE eF eG eH eI eJ eK eL eM eN eO eP eQ eR eS eT eU eV eW eX eY eZ fA fB fC fD fE fF fG fH fI fJ fK fL fM fN fO fP fQ fR fS fT fU fV fW fX fY fZ gA gB gC gD gE gF gG gH gI gJ gK gL gM gN gO gP gQ gR gS gT gU gV gW gX gY gZ hA hB hC hD hE hF hG hH hI hJ hK hL hM hN hO hP hQ hR hS hT hU hV hW hX hY hZ iA iB iC iD iE iF iG iH iI iJ iK iL iM iN iO iP iQ iR iS iT iU iV iW iX iY iZ jA jB jC jD jE jF jG jH jI jJ jK jL jM jN jO jP jQ jR jS jT jU jV jW jX jY jZ kA kB kC kD kE kF kG kH kI kJ kK kL kM kN kO kP kQ kR kS kT kU kV kW kX kY kZ lA lB lC lD lE lF lG lH lI lJ lK lL lM lN lO lP lQ lR lS lT lU lV lW lX lY lZ mA mB mC mD mE mF mG mH mI mJ mK mL mM mN mO mP mQ mR mS mT mU mV mW mX mY mZ nA nB nC nD nE nF nG nH nI nJ nK nL nM nN nO nP nQ nR nS nT nU nV nW nX nY nZ oA oB oC oD oE oF oG oH oI oJ oK oL oM oN oO oP oQ oR oS oT oU oV oW oX oY oZ pA pB pC pD pE pF pG pH pI pJ pK pL pM pN pO pP pQ pR pS pT pU pV pW pX pY pZ qA qB qC qD qE qF qG qH qI qJ qK qL qM qN qO qP qQ qR qS qT qU qV qW qX qY qZ rA rB rC rD rE rF rG rH rI rJ rK rL rM rN rO rP rQ rR rS rT rU rV rW rX rY rZ sA sB sC sD sE sF sG sH sI sJ sK sL sM sN sO sP sQ sR sS sT sU sV sW sX sY sZ tA tB tC tD tE tF tG tH tI tJ tK tL tM tN tO tP tQ tR tS tT tU tV tW tX tY tZ uA uB uC uD uE uF uG uH uI uJ uK uL uM uN uO uP uQ uR uS uT uU uV uW uX uY uZ vA vB vC vD vE vF vG vH vI vJ vK vL vM vN vO vP vQ vR vS vT vU vV vW vX vY vZ wA wB wC wD wE wF wG wH wI wJ wK wL wM wN wO wP wQ wR wS wT wU wV wW wX wY wZ xA xB xC xD xE xF xG xH xI xJ xK xL xM xN xO xP xQ xR xS xT xU xV xW xX xY xZ yA yB yC yD yE yF yG yH yI yJ yK yL yM yN yO yP yQ yR yS yT yU yV yW yX yY yZ zA zB zC zD zE zF zG zH zI zJ zK : Value), let Q' : Exit → Act → World → Prop := bodyPost Try.prog Try.f3 (fun e w' => e = .returned (.bool true) ∧ Below w.heap.size w w'); ∀ (K1 : Act → World → Prop) (a1 : ∀ a w, Code.wp Try.prog (laws_FnFoldsStack.rights 15 (Try.f3.body.getD .skip)) Q' a w → K1 a w),
   K1 ⟨#[aA, .slice A1 l1.length c1, aC, aD, aE, aF, .int .i64 t350, .int .i64 t351, .bool t352, aJ, aK, v357, aM, aN, aO, v365, aQ, aR, aS, .string t371, aU, aV, aW, .string t375, .bool t376, aZ, bA, bB, bC, bD, bE, bF, bG, bH, bI, bJ, bK, bL, bM, bN, bO, bP, bQ, bR, bS, bT, bU, bV, bW, bX, bY, bZ, cA, cB, cC, cD, cE, cF, cG, cH, cI, cJ, cK, cL, cM, cN, cO, cP, cQ, cR, cS, cT, cU, cV, cW, cX, cY, cZ, dA, dB, dC, dD, dE, dF, dG, dH, dI, dJ, dK, dL, dM, dN, dO, dP, dQ, dR, dS, dT, dU, dV, dW, dX, dY, dZ, eA, eB, eC, eD, eE, eF, eG, eH, eI, eJ, eK, eL, eM, eN, eO, eP, eQ, eR, eS, eT, eU, eV, eW, eX, eY, eZ, fA, fB, fC, fD, fE, fF, fG, fH, fI, fJ, fK, fL, fM, fN, fO, fP, fQ, fR, fS, fT, fU, fV, fW, fX, fY, fZ, gA, gB, gC, gD, gE, gF, gG, gH, gI, gJ, gK, gL, gM, gN, gO, gP, gQ, gR, gS, gT, gU, gV, gW, gX, gY, gZ, hA, hB, hC, hD, hE, hF, hG, hH, hI, hJ, hK, hL, hM, hN, hO, hP, hQ, hR, hS, hT, hU, hV, hW, hX, hY, hZ, iA, iB, iC, iD, iE, iF, iG, iH, iI, iJ, iK, iL, iM, iN, iO, iP, iQ, iR, iS, iT, iU, iV, iW, iX, iY, iZ, jA, jB, jC, jD, jE, jF, jG, jH, jI, jJ, jK, jL, jM, jN, jO, jP, jQ, jR, jS, jT, jU, jV, jW, jX, jY, jZ, kA, kB, kC, kD, kE, kF, kG, kH, kI, kJ, kK, kL, kM, kN, kO, kP, kQ, kR, kS, kT, kU, kV, kW, kX, kY, kZ, lA, lB, lC, lD, lE, lF, lG, lH, lI, lJ, lK, lL, lM, lN, lO, lP, lQ, lR, lS, lT, lU, lV, lW, lX, lY, lZ, mA, mB, mC, mD, mE, mF, mG, mH, mI, mJ, mK, mL, mM, mN, mO, mP, mQ, mR, mS, mT, mU, mV, mW, mX, mY, mZ, nA, nB, nC, nD, nE, nF, nG, nH, nI, nJ, nK, nL, nM, nN, nO, nP, nQ, nR, nS, nT, nU, nV, nW, nX, nY, nZ, oA, oB, oC, oD, oE, oF, oG, oH, oI, oJ, oK, oL, oM, oN, oO, oP, oQ, oR, oS, oT, oU, oV, oW, oX, oY, oZ, pA, pB, pC, pD, pE, pF, pG, pH, pI, pJ, pK, pL, pM, pN, pO, pP, pQ, pR, pS, pT, pU, pV, pW, pX, pY, pZ, qA, qB, qC, qD, qE, qF, qG, qH, qI, qJ, qK, qL, qM, qN, qO, qP, qQ, qR, qS, qT, qU, qV, qW, qX, qY, qZ, rA, rB, rC, rD, rE, rF, rG, rH, rI, rJ, rK, rL, rM, rN, rO, rP, rQ, rR, rS, rT, rU, rV, rW, rX, rY, rZ, sA, sB, sC, sD, sE, sF, sG, sH, sI, sJ, sK, sL, sM, sN, sO, sP, sQ, sR, sS, sT, sU, sV, sW, sX, sY, sZ, tA, tB, tC, tD, tE, tF, tG, tH, tI, tJ, tK, tL, tM, tN, tO, tP, tQ, tR, tS, tT, tU, tV, tW, tX, tY, tZ, uA, uB, uC, uD, uE, uF, uG, uH, uI, uJ, uK, uL, uM, uN, uO, uP, uQ, uR, uS, uT, uU, uV, uW, uX, uY, uZ, vA, vB, vC, vD, vE, vF, vG, vH, vI, vJ, vK, vL, vM, vN, vO, vP, vQ, vR, vS, vT, vU, vV, vW, vX, vY, vZ, wA, wB, wC, wD, wE, wF, wG, wH, wI, wJ, wK, wL, wM, wN, wO, wP, wQ, wR, wS, wT, wU, wV, wW, wX, wY, wZ, xA, xB, xC, xD, xE, xF, xG, xH, xI, xJ, xK, xL, xM, xN, xO, xP, xQ, xR, xS, xT, xU, xV, xW, xX, xY, xZ, yA, yB, yC, yD, yE, yF, yG, yH, yI, yJ, yK, yL, yM, yN, yO, yP, yQ, yR, yS, yT, yU, yV, yW, yX, yY, yZ, zA, zB, zC, zD, zE, zF, zG, zH, zI, zJ, zK], []⟩ wc
set_option maxRecDepth 1000000 in
/-- What follows statement 15. -/
def laws_FnFoldsStack.P15 : Prop := ∀ (A1 : Option Addr) (c1 : Nat) (l1 : List Int) (w : World) (HR1 : Aside0 (Kd.C (Kd.int .u8) w A1 l1.length l1)) (HC1 : Aside0 (l1.length ≤ c1)) (t350 : Int) (t371 : ByteArray) (t375 : ByteArray) (t376 : Bool) (kq : Nat) (x340_141 : Bool) (wc : World) (HA : Aside0 (laws_FnFoldsStack.j6 kq l1 t350 t371 t375 t376 x340_141 = some true)) (HB : Aside0 (Below w.heap.size w wc)),
  ∀ (aA aC aD aE aF aH aI aJ aK aL aM aN aO aP aQ aR aS aU aV aW aZ bA bB bC bD bE bF bG bH bI bJ bK bL bM bN bO bP bQ bR bS bT bU bV bW bX bY bZ cA cB cC cD cE cF cG cH cI cJ cK cL cM cN cO cP cQ cR cS cT cU cV cW cX cY cZ dA dB dC dD dE dF dG dH dI dJ dK dL dM dN dO dP dQ dR dS dT dU dV dW dX dY dZ eA eB eC eD eE eF eG eH eI eJ eK eL eM eN eO eP eQ eR eS eT eU eV eW eX eY eZ fA fB fC fD fE fF fG fH fI fJ fK fL fM fN fO fP fQ fR fS fT fU fV fW fX fY fZ gA gB gC gD gE gF gG gH gI gJ gK gL gM gN gO gP gQ gR gS gT gU gV gW gX gY gZ hA hB hC hD hE hF hG hH hI hJ hK hL hM hN hO hP hQ hR hS hT hU hV hW hX hY hZ iA iB iC iD iE iF iG iH iI iJ iK iL iM iN iO iP iQ iR iS iT iU iV iW iX iY iZ jA jB jC jD jE jF jG jH jI jJ jK jL jM jN jO jP jQ jR jS jT jU jV jW jX jY jZ kA kB kC kD kE kF kG kH kI kJ kK kL kM kN kO kP kQ kR kS kT kU kV kW kX kY kZ lA lB lC lD lE lF lG lH lI lJ lK lL lM lN lO lP lQ lR lS lT lU lV lW lX lY lZ mA mB mC mD mE mF mG mH mI mJ mK mL mM mN mO mP mQ mR mS mT mU mV mW mX mY mZ nA nB nD nE nF nG nH nI nJ nK nL nM nN nO nP nQ nR nS nT nU nV nW nX nY nZ oA oB oC oD oE oF oG oH oI oJ oK oL oM oN oO oP oQ oR oS oT oU oV oW oX oY oZ pA pB pC pD pE pF pG pH pI pJ pK pL pM pN pO pP pQ pR pS pT pU pV pW pX pY pZ qA qB qC qD qE qF qG qH qI qJ qK qL qM qN qO qP qQ qR qS qT qU qV qW qX qY qZ rA rB rC rD rE rF rG rH rI rJ rK rL rM rN rO rP rQ rR rS rT rU rV rW rX rY rZ sA sB sC sD sE sF sG sH sI sJ sK sL sM sN sO sP sQ sR sS sT sU sV sW sX sY sZ tA tB tC tD tE tF tG tH tI tJ tK tL tM tN tO tP tQ tR tS tT tU tV tW tX tY tZ uA uB uC uD uE uF uG uH uI uJ uK uL uM uN uO uP uQ uR uS uT uU uV uW uX uY uZ vA vB vC vD vE vF vG vH vI vJ vK vL vM vN vO vP vQ vR vS vT vU vV vW vX vY vZ wA wB wC wD wE wF wG wH wI wJ wK wL wM wN wO wP wQ wR wS wT wU wV wW wX wY wZ xA xB xC xD xE xF xG xH xI xJ xK xL xM xN xO xP xQ xR xS xT xU xV xW xX xY xZ yA yB yC yD yE yF yG yH yI yJ yK yL yM yN yO yP yQ yR yS yT yU yV yW yX yY yZ zA zB zC zD zE zF zG zH zI zJ zK : Value), let Q' : Exit → Act → World → Prop := bodyPost Try.prog Try.f3 (fun e w' => e = .returned (.bool true) ∧ Below w.heap.size w w'); ∀ (K1 : Act → World → Prop) (a1 : ∀ a w, Code.wp Try.prog (laws_FnFoldsStack.rights 16 (Try.f3.body.getD .skip)) Q' a w → K1 a w) (K0 : Act → World → Prop) (a0 : ∀ a w, Code.wp Try.prog (laws_FnFoldsStack.second (laws_FnFoldsStack.first (laws_FnFoldsStack.rights 15 (Try.f3.body.getD .skip)))) (Exit.then K1 Q') a w → K0 a w),
   K0 ⟨#[aA, .slice A1 l1.length c1, aC, aD, aE, aF, .int .i64 t350, aH, aI, aJ, aK, aL, aM, aN, aO, aP, aQ, aR, aS, .string t371, aU, aV, aW, .string t375, .bool t376, aZ, bA, bB, bC, bD, bE, bF, bG, bH, bI, bJ, bK, bL, bM, bN, bO, bP, bQ, bR, bS, bT, bU, bV, bW, bX, bY, bZ, cA, cB, cC, cD, cE, cF, cG, cH, cI, cJ, cK, cL, cM, cN, cO, cP, cQ, cR, cS, cT, cU, cV, cW, cX, cY, cZ, dA, dB, dC, dD, dE, dF, dG, dH, dI, dJ, dK, dL, dM, dN, dO, dP, dQ, dR, dS, dT, dU, dV, dW, dX, dY, dZ, eA, eB, eC, eD, eE, eF, eG, eH, eI, eJ, eK, eL, eM, eN, eO, eP, eQ, eR, eS, eT, eU, eV, eW, eX, eY, eZ, fA, fB, fC, fD, fE, fF, fG, fH, fI, fJ, fK, fL, fM, fN, fO, fP, fQ, fR, fS, fT, fU, fV, fW, fX, fY, fZ, gA, gB, gC, gD, gE, gF, gG, gH, gI, gJ, gK, gL, gM, gN, gO, gP, gQ, gR, gS, gT, gU, gV, gW, gX, gY, gZ, hA, hB, hC, hD, hE, hF, hG, hH, hI, hJ, hK, hL, hM, hN, hO, hP, hQ, hR, hS, hT, hU, hV, hW, hX, hY, hZ, iA, iB, iC, iD, iE, iF, iG, iH, iI, iJ, iK, iL, iM, iN, iO, iP, iQ, iR, iS, iT, iU, iV, iW, iX, iY, iZ, jA, jB, jC, jD, jE, jF, jG, jH, jI, jJ, jK, jL, jM, jN, jO, jP, jQ, jR, jS, jT, jU, jV, jW, jX, jY, jZ, kA, kB, kC, kD, kE, kF, kG, kH, kI, kJ, kK, kL, kM, kN, kO, kP, kQ, kR, kS, kT, kU, kV, kW, kX, kY, kZ, lA, lB, lC, lD, lE, lF, lG, lH, lI, lJ, lK, lL, lM, lN, lO, lP, lQ, lR, lS, lT, lU, lV, lW, lX, lY, lZ, mA, mB, mC, mD, mE, mF, mG, mH, mI, mJ, mK, mL, mM, mN, mO, mP, mQ, mR, mS, mT, mU, mV, mW, mX, mY, mZ, nA, nB, .bool x340_141, nD, nE, nF, nG, nH, nI, nJ, nK, nL, nM, nN, nO, nP, nQ, nR, nS, nT, nU, nV, nW, nX, nY, nZ, oA, oB, oC, oD, oE, oF, oG, oH, oI, oJ, oK, oL, oM, oN, oO, oP, oQ, oR, oS, oT, oU, oV, oW, oX, oY, oZ, pA, pB, pC, pD, pE, pF, pG, pH, pI, pJ, pK, pL, pM, pN, pO, pP, pQ, pR, pS, pT, pU, pV, pW, pX, pY, pZ, qA, qB, qC, qD, qE, qF, qG, qH, qI, qJ, qK, qL, qM, qN, qO, qP, qQ, qR, qS, qT, qU, qV, qW, qX, qY, qZ, rA, rB, rC, rD, rE, rF, rG, rH, rI, rJ, rK, rL, rM, rN, rO, rP, rQ, rR, rS, rT, rU, rV, rW, rX, rY, rZ, sA, sB, sC, sD, sE, sF, sG, sH, sI, sJ, sK, sL, sM, sN, sO, sP, sQ, sR, sS, sT, sU, sV, sW, sX, sY, sZ, tA, tB, tC, tD, tE, tF, tG, tH, tI, tJ, tK, tL, tM, tN, tO, tP, tQ, tR, tS, tT, tU, tV, tW, tX, tY, tZ, uA, uB, uC, uD, uE, uF, uG, uH, uI, uJ, uK, uL, uM, uN, uO, uP, uQ, uR, uS, uT, uU, uV, uW, uX, uY, uZ, vA, vB, vC, vD, vE, vF, vG, vH, vI, vJ, vK, vL, vM, vN, vO, vP, vQ, vR, vS, vT, vU, vV, vW, vX, vY, vZ, wA, wB, wC, wD, wE, wF, wG, wH, wI, wJ, wK, wL, wM, wN, wO, wP, wQ, wR, wS, wT, wU, wV, wW, wX, wY, wZ, xA, xB, xC, xD, xE, xF, xG, xH, xI, xJ, xK, xL, xM, xN, xO, xP, xQ, xR, xS, xT, xU, xV, xW, xX, xY, xZ, yA, yB, yC, yD, yE, yF, yG, yH, yI, yJ, yK, yL, yM, yN, yO, yP, yQ, yR, yS, yT, yU, yV, yW, yX, yY, yZ, zA, zB, zC, zD, zE, zF, zG, zH, zI, zJ, zK], []⟩ wc
set_option maxRecDepth 1000000 in
/-- What follows statement 16. -/
def laws_FnFoldsStack.P16 : Prop := ∀ (A1 : Option Addr) (c1 : Nat) (l1 : List Int) (w : World) (HR1 : Aside0 (Kd.C (Kd.int .u8) w A1 l1.length l1)) (HC1 : Aside0 (l1.length ≤ c1)) (kq : Nat) (x350_154 : Bool) (wc : World) (HA : Aside0 (laws_FnFoldsStack.j7 kq l1 x350_154 = some true)) (HB : Aside0 (Below w.heap.size w wc)),
  ∀ (aA aC aD aE aF aG aH aI aJ aK aL aM aN aO aP aQ aR aS aT aU aV aW aX aY aZ bA bB bC bD bE bF bG bH bI bJ bK bL bM bN bO bP bQ bR bS bT bU bV bW bX bY bZ cA cB cC cD cE cF cG cH cI cJ cK cL cM cN cO cP cQ cR cS cT cU cV cW cX cY cZ dA dB dC dD dE dF dG dH dI dJ dK dL dM dN dO dP dQ dR dS dT dU dV dW dX dY dZ eA eB eC eD eE eF eG eH eI eJ eK eL eM eN eO eP eQ eR eS eT eU eV eW eX eY eZ fA fB fC fD fE fF fG fH fI fJ fK fL fM fN fO fP fQ fR fS fT fU fV fW fX fY fZ gA gB gC gD gE gF gG gH gI gJ gK gL gM gN gO gP gQ gR gS gT gU gV gW gX gY gZ hA hB hC hD hE hF hG hH hI hJ hK hL hM hN hO hP hQ hR hS hT hU hV hW hX hY hZ iA iB iC iD iE iF iG iH iI iJ iK iL iM iN iO iP iQ iR iS iT iU iV iW iX iY iZ jA jB jC jD jE jF jG jH jI jJ jK jL jM jN jO jP jQ jR jS jT jU jV jW jX jY jZ kA kB kC kD kE kF kG kH kI kJ kK kL kM kN kO kP kQ kR kS kT kU kV kW kX kY kZ lA lB lC lD lE lF lG lH lI lJ lK lL lM lN lO lP lQ lR lS lT lU lV lW lX lY lZ mA mB mC mD mE mF mG mH mI mJ mK mL mM mN mO mP mQ mR mS mT mU mV mW mX mY mZ nA nB nC nD nE nF nG nH nI nJ nK nL nN nO nP nQ nR nS nT nU nV nW nX nY nZ oA oB oC oD oE oF oG oH oI oJ oK oL oM oN oO oP oQ oR oS oT oU oV oW oX oY oZ pA pB pC pD pE pF pG pH pI pJ pK pL pM pN pO pP pQ pR pS pT pU pV pW pX pY pZ qA qB qC qD qE qF qG qH qI qJ qK qL qM qN qO qP qQ qR qS qT qU qV qW qX qY qZ rA rB rC rD rE rF rG rH rI rJ rK rL rM rN rO rP rQ rR rS rT rU rV rW rX rY rZ sA sB sC sD sE sF sG sH sI sJ sK sL sM sN sO sP sQ sR sS sT sU sV sW sX sY sZ tA tB tC tD tE tF tG tH tI tJ tK tL tM tN tO tP tQ tR tS tT tU tV tW tX tY tZ uA uB uC uD uE uF uG uH uI uJ uK uL uM uN uO uP uQ uR uS uT uU uV uW uX uY uZ vA vB vC vD vE vF vG vH vI vJ vK vL vM vN vO vP vQ vR vS vT vU vV vW vX vY vZ wA wB wC wD wE wF wG wH wI wJ wK wL wM wN wO wP wQ wR wS wT wU wV wW wX wY wZ xA xB xC xD xE xF xG xH xI xJ xK xL xM xN xO xP xQ xR xS xT xU xV xW xX xY xZ yA yB yC yD yE yF yG yH yI yJ yK yL yM yN yO yP yQ yR yS yT yU yV yW yX yY yZ zA zB zC zD zE zF zG zH zI zJ zK : Value), let Q' : Exit → Act → World → Prop := bodyPost Try.prog Try.f3 (fun e w' => e = .returned (.bool true) ∧ Below w.heap.size w w'); ∀ (K1 : Act → World → Prop) (a1 : ∀ a w, Code.wp Try.prog (laws_FnFoldsStack.rights 17 (Try.f3.body.getD .skip)) Q' a w → K1 a w) (K0 : Act → World → Prop) (a0 : ∀ a w, Code.wp Try.prog (laws_FnFoldsStack.second (laws_FnFoldsStack.first (laws_FnFoldsStack.rights 16 (Try.f3.body.getD .skip)))) (Exit.then K1 Q') a w → K0 a w),
   K0 ⟨#[aA, .slice A1 l1.length c1, aC, aD, aE, aF, aG, aH, aI, aJ, aK, aL, aM, aN, aO, aP, aQ, aR, aS, aT, aU, aV, aW, aX, aY, aZ, bA, bB, bC, bD, bE, bF, bG, bH, bI, bJ, bK, bL, bM, bN, bO, bP, bQ, bR, bS, bT, bU, bV, bW, bX, bY, bZ, cA, cB, cC, cD, cE, cF, cG, cH, cI, cJ, cK, cL, cM, cN, cO, cP, cQ, cR, cS, cT, cU, cV, cW, cX, cY, cZ, dA, dB, dC, dD, dE, dF, dG, dH, dI, dJ, dK, dL, dM, dN, dO, dP, dQ, dR, dS, dT, dU, dV, dW, dX, dY, dZ, eA, eB, eC, eD, eE, eF, eG, eH, eI, eJ, eK, eL, eM, eN, eO, eP, eQ, eR, eS, eT, eU, eV, eW, eX, eY, eZ, fA, fB, fC, fD, fE, fF, fG, fH, fI, fJ, fK, fL, fM, fN, fO, fP, fQ, fR, fS, fT, fU, fV, fW, fX, fY, fZ, gA, gB, gC, gD, gE, gF, gG, gH, gI, gJ, gK, gL, gM, gN, gO, gP, gQ, gR, gS, gT, gU, gV, gW, gX, gY, gZ, hA, hB, hC, hD, hE, hF, hG, hH, hI, hJ, hK, hL, hM, hN, hO, hP, hQ, hR, hS, hT, hU, hV, hW, hX, hY, hZ, iA, iB, iC, iD, iE, iF, iG, iH, iI, iJ, iK, iL, iM, iN, iO, iP, iQ, iR, iS, iT, iU, iV, iW, iX, iY, iZ, jA, jB, jC, jD, jE, jF, jG, jH, jI, jJ, jK, jL, jM, jN, jO, jP, jQ, jR, jS, jT, jU, jV, jW, jX, jY, jZ, kA, kB, kC, kD, kE, kF, kG, kH, kI, kJ, kK, kL, kM, kN, kO, kP, kQ, kR, kS, kT, kU, kV, kW, kX, kY, kZ, lA, lB, lC, lD, lE, lF, lG, lH, lI, lJ, lK, lL, lM, lN, lO, lP, lQ, lR, lS, lT, lU, lV, lW, lX, lY, lZ, mA, mB, mC, mD, mE, mF, mG, mH, mI, mJ, mK, mL, mM, mN, mO, mP, mQ, mR, mS, mT, mU, mV, mW, mX, mY, mZ, nA, nB, nC, nD, nE, nF, nG, nH, nI, nJ, nK, nL, .bool x350_154, nN, nO, nP, nQ, nR, nS, nT, nU, nV, nW, nX, nY, nZ, oA, oB, oC, oD, oE, oF, oG, oH, oI, oJ, oK, oL, oM, oN, oO, oP, oQ, oR, oS, oT, oU, oV, oW, oX, oY, oZ, pA, pB, pC, pD, pE, pF, pG, pH, pI, pJ, pK, pL, pM, pN, pO, pP, pQ, pR, pS, pT, pU, pV, pW, pX, pY, pZ, qA, qB, qC, qD, qE, qF, qG, qH, qI, qJ, qK, qL, qM, qN, qO, qP, qQ, qR, qS, qT, qU, qV, qW, qX, qY, qZ, rA, rB, rC, rD, rE, rF, rG, rH, rI, rJ, rK, rL, rM, rN, rO, rP, rQ, rR, rS, rT, rU, rV, rW, rX, rY, rZ, sA, sB, sC, sD, sE, sF, sG, sH, sI, sJ, sK, sL, sM, sN, sO, sP, sQ, sR, sS, sT, sU, sV, sW, sX, sY, sZ, tA, tB, tC, tD, tE, tF, tG, tH, tI, tJ, tK, tL, tM, tN, tO, tP, tQ, tR, tS, tT, tU, tV, tW, tX, tY, tZ, uA, uB, uC, uD, uE, uF, uG, uH, uI, uJ, uK, uL, uM, uN, uO, uP, uQ, uR, uS, uT, uU, uV, uW, uX, uY, uZ, vA, vB, vC, vD, vE, vF, vG, vH, vI, vJ, vK, vL, vM, vN, vO, vP, vQ, vR, vS, vT, vU, vV, vW, vX, vY, vZ, wA, wB, wC, wD, wE, wF, wG, wH, wI, wJ, wK, wL, wM, wN, wO, wP, wQ, wR, wS, wT, wU, wV, wW, wX, wY, wZ, xA, xB, xC, xD, xE, xF, xG, xH, xI, xJ, xK, xL, xM, xN, xO, xP, xQ, xR, xS, xT, xU, xV, xW, xX, xY, xZ, yA, yB, yC, yD, yE, yF, yG, yH, yI, yJ, yK, yL, yM, yN, yO, yP, yQ, yR, yS, yT, yU, yV, yW, yX, yY, yZ, zA, zB, zC, zD, zE, zF, zG, zH, zI, zJ, zK], []⟩ wc
set_option maxRecDepth 1000000 in
/-- What follows statement 30. -/
def laws_FnFoldsStack.P30 : Prop := ∀ (w : World) (t387 : Int) (t388 : Int) (t389 : Int) (t390 : Int) (t391 : Int) (t392 : Bool) (t396 : Int) (t397 : Int) (t398 : Int) (t399 : Int) (t400 : Int) (t401 : Bool) (t404 : Int) (t405 : Int) (t406 : List Int) (t407 : Bool) (t414 : Int) (t418 : Int) (t419 : Int) (v408 : Value) (kq : Nat) (x507_174 : Bool) (wc : World) (HA : Aside0 (laws_FnFoldsStack.j8 kq t387 t388 t389 t390 t391 t392 t396 t397 t398 t399 t400 t401 t404 t405 t406 t407 t414 t418 t419 x507_174 = some true)) (HO_53 : Aside0 (Kd.R (Kd.int .i64) 3 wc w.heap.size (fun _ => True) v408 t406)) (HB : Aside0 (Below w.heap.size w wc)),
  ∀ (aA aB aC aD aE aF aG aH aI aJ aK aL aM aN aO aP aQ aR aS aT aU aV aW aX aY aZ bA bB bC bD bE bF bG bH bO bP bQ bX bY cD cE cG cH cI cL cM cN cO cP cQ cR cS cT cU cV cW cX cY cZ dA dB dC dD dE dF dG dH dI dJ dK dL dM dN dO dP dQ dR dS dT dU dV dW dX dY dZ eA eB eC eD eE eF eG eH eI eJ eK eL eM eN eO eP eQ eR eS eT eU eV eW eX eY eZ fA fB fC fD fE fF fG fH fI fJ fK fL fM fN fO fP fQ fR fS fT fU fV fW fX fY fZ gA gB gC gD gE gF gG gH gI gJ gK gL gM gN gO gP gQ gR gS gT gU gV gW gX gY gZ hA hB hC hD hE hF hG hH hI hJ hK hL hM hN hO hP hQ hR hS hT hU hV hW hX hY hZ iA iB iC iD iE iF iG iH iI iJ iK iL iM iN iO iP iQ iR iS iT iU iV iW iX iY iZ jA jB jC jD jE jF jG jH jI jJ jK jL jM jN jO jP jQ jR jS jT jU jV jW jX jY jZ kA kB kC kD kE kF kG kH kI kJ kK kL kM kN kO kP kQ kR kS kT kU kV kW kX kY kZ lA lB lC lD lE lF lG lH lI lJ lK lL lM lN lO lP lQ lR lS lT lU lV lW lX lY lZ mA mB mC mD mE mF mG mH mI mJ mK mL mM mN mO mP mQ mR mS mT mU mV mW mX mY mZ nA nB nC nD nE nF nG nH nI nJ nK nL nM nN nO nP nQ nR nS nT nU nV nW nX nY nZ oA oB oC oD oE oF oG oH oI oJ oK oL oM oN oO oP oQ oR oS oT oU oV oW oX oY oZ pA pB pC pD pE pF pG pH pI pJ pK pL pM pN pO pP pQ pR pS pT pU pV pW pX pY pZ qA qB qC qD qE qF qG qH qI qJ qK qL qM qN qO qP qQ qR qS qT qU qV qW qX qY qZ rA rB rC rD rE rF rG rH rI rJ rK rL rM rN rO rP rQ rR rS rT rU rV rW rX rY rZ sA sB sC sD sE sF sG sH sI sJ sK sL sM sN sO sP sQ sR sS sT sU sV sW sX sY sZ tA tB tC tD tE tF tG tH tI tJ tK tL tM tO tP tQ tR tS tT tU tV tW tX tY tZ uA uB uC uD uE uF uG uH uI uJ uK uL uM uN uO uP uQ uR uS uT uU uV uW uX uY uZ vA vB vC vD vE vF vG vH vI vJ vK vL vM vN vO vP vQ vR vS vT vU vV vW vX vY vZ wA wB wC wD wE wF wG wH wI wJ wK wL wM wN wO wP wQ wR wS wT wU wV wW wX wY wZ xA xB xC xD xE xF xG xH xI xJ xK xL xM xN xO xP xQ xR xS xT xU xV xW xX xY xZ yA yB yC yD yE yF yG yH yI yJ yK yL yM yN yO yP yQ yR yS yT yU yV yW yX yY yZ zA zB zC zD zE zF zG zH zI zJ zK : Value), let Q' : Exit → Act → World → Prop := bodyPost Try.prog Try.f3 (fun e w' => e = .returned (.bool true) ∧ Below w.heap.size w w'); ∀ (K1 : Act → World → Prop) (a1 : ∀ a w, Code.wp Try.prog (laws_FnFoldsStack.rights 31 (Try.f3.body.getD .skip)) Q' a w → K1 a w) (K0 : Act → World → Prop) (a0 : ∀ a w, Code.wp Try.prog (laws_FnFoldsStack.second (laws_FnFoldsStack.first (laws_FnFoldsStack.rights 30 (Try.f3.body.getD .skip)))) (Exit.then K1 Q') a w → K0 a w),
   K0 ⟨#[aA, aB, aC, aD, aE, aF, aG, aH, aI, aJ, aK, aL, aM, aN, aO, aP, aQ, aR, aS, aT, aU, aV, aW, aX, aY, aZ, bA, bB, bC, bD, bE, bF, bG, bH, .int .i64 t387, .int .i64 t388, .int .i64 t389, .int .i64 t390, .int .i64 t391, .bool t392, bO, bP, bQ, .int .i64 t396, .int .i64 t397, .int .i64 t398, .int .i64 t399, .int .i64 t400, .bool t401, bX, bY, .int .i64 t404, .int .i64 t405, v408, .bool t407, cD, cE, .int .i64 t414, cG, cH, cI, .int .i64 t418, .int .i64 t419, cL, cM, cN, cO, cP, cQ, cR, cS, cT, cU, cV, cW, cX, cY, cZ, dA, dB, dC, dD, dE, dF, dG, dH, dI, dJ, dK, dL, dM, dN, dO, dP, dQ, dR, dS, dT, dU, dV, dW, dX, dY, dZ, eA, eB, eC, eD, eE, eF, eG, eH, eI, eJ, eK, eL, eM, eN, eO, eP, eQ, eR, eS, eT, eU, eV, eW, eX, eY, eZ, fA, fB, fC, fD, fE, fF, fG, fH, fI, fJ, fK, fL, fM, fN, fO, fP, fQ, fR, fS, fT, fU, fV, fW, fX, fY, fZ, gA, gB, gC, gD, gE, gF, gG, gH, gI, gJ, gK, gL, gM, gN, gO, gP, gQ, gR, gS, gT, gU, gV, gW, gX, gY, gZ, hA, hB, hC, hD, hE, hF, hG, hH, hI, hJ, hK, hL, hM, hN, hO, hP, hQ, hR, hS, hT, hU, hV, hW, hX, hY, hZ, iA, iB, iC, iD, iE, iF, iG, iH, iI, iJ, iK, iL, iM, iN, iO, iP, iQ, iR, iS, iT, iU, iV, iW, iX, iY, iZ, jA, jB, jC, jD, jE, jF, jG, jH, jI, jJ, jK, jL, jM, jN, jO, jP, jQ, jR, jS, jT, jU, jV, jW, jX, jY, jZ, kA, kB, kC, kD, kE, kF, kG, kH, kI, kJ, kK, kL, kM, kN, kO, kP, kQ, kR, kS, kT, kU, kV, kW, kX, kY, kZ, lA, lB, lC, lD, lE, lF, lG, lH, lI, lJ, lK, lL, lM, lN, lO, lP, lQ, lR, lS, lT, lU, lV, lW, lX, lY, lZ, mA, mB, mC, mD, mE, mF, mG, mH, mI, mJ, mK, mL, mM, mN, mO, mP, mQ, mR, mS, mT, mU, mV, mW, mX, mY, mZ, nA, nB, nC, nD, nE, nF, nG, nH, nI, nJ, nK, nL, nM, nN, nO, nP, nQ, nR, nS, nT, nU, nV, nW, nX, nY, nZ, oA, oB, oC, oD, oE, oF, oG, oH, oI, oJ, oK, oL, oM, oN, oO, oP, oQ, oR, oS, oT, oU, oV, oW, oX, oY, oZ, pA, pB, pC, pD, pE, pF, pG, pH, pI, pJ, pK, pL, pM, pN, pO, pP, pQ, pR, pS, pT, pU, pV, pW, pX, pY, pZ, qA, qB, qC, qD, qE, qF, qG, qH, qI, qJ, qK, qL, qM, qN, qO, qP, qQ, qR, qS, qT, qU, qV, qW, qX, qY, qZ, rA, rB, rC, rD, rE, rF, rG, rH, rI, rJ, rK, rL, rM, rN, rO, rP, rQ, rR, rS, rT, rU, rV, rW, rX, rY, rZ, sA, sB, sC, sD, sE, sF, sG, sH, sI, sJ, sK, sL, sM, sN, sO, sP, sQ, sR, sS, sT, sU, sV, sW, sX, sY, sZ, tA, tB, tC, tD, tE, tF, tG, tH, tI, tJ, tK, tL, tM, .bool x507_174, tO, tP, tQ, tR, tS, tT, tU, tV, tW, tX, tY, tZ, uA, uB, uC, uD, uE, uF, uG, uH, uI, uJ, uK, uL, uM, uN, uO, uP, uQ, uR, uS, uT, uU, uV, uW, uX, uY, uZ, vA, vB, vC, vD, vE, vF, vG, vH, vI, vJ, vK, vL, vM, vN, vO, vP, vQ, vR, vS, vT, vU, vV, vW, vX, vY, vZ, wA, wB, wC, wD, wE, wF, wG, wH, wI, wJ, wK, wL, wM, wN, wO, wP, wQ, wR, wS, wT, wU, wV, wW, wX, wY, wZ, xA, xB, xC, xD, xE, xF, xG, xH, xI, xJ, xK, xL, xM, xN, xO, xP, xQ, xR, xS, xT, xU, xV, xW, xX, xY, xZ, yA, yB, yC, yD, yE, yF, yG, yH, yI, yJ, yK, yL, yM, yN, yO, yP, yQ, yR, yS, yT, yU, yV, yW, yX, yY, yZ, zA, zB, zC, zD, zE, zF, zG, zH, zI, zJ, zK], []⟩ wc
set_option maxRecDepth 1000000 in
/-- What follows statement 31. -/
def laws_FnFoldsStack.P31 : Prop := ∀ (w : World) (t396 : Int) (t397 : Int) (t398 : Int) (t399 : Int) (t400 : Int) (t401 : Bool) (t404 : Int) (t405 : Int) (t406 : List Int) (t407 : Bool) (t414 : Int) (t418 : Int) (t419 : Int) (v408 : Value) (kq : Nat) (wc : World) (HA : Aside0 (laws_FnFoldsStack.j9 kq t396 t397 t398 t399 t400 t401 t404 t405 t406 t407 t414 t418 t419 = some true)) (HO_53 : Aside0 (Kd.R (Kd.int .i64) 3 wc w.heap.size (fun _ => True) v408 t406)) (HB : Aside0 (Below w.heap.size w wc)),
  ∀ (aA aB aC aD aE aF aG aH aI aJ aK aL aM aN aO aP aQ aR aS aT aU aV aW aX aY aZ bA bB bC bD bE bF bG bH bI bJ bK bL bM bN bO bP bQ bX bY cD cE cG cH cI cL cM cN cO cP cQ cR cS cT cU cV cW cX cY cZ dA dB dC dD dE dF dG dH dI dJ dK dL dM dN dO dP dQ dR dS dT dU dV dW dX dY dZ eA eB eC eD eE eF eG eH eI eJ eK eL eM eN eO eP eQ eR eS eT eU eV eW eX eY eZ fA fB fC fD fE fF fG fH fI fJ fK fL fM fN fO fP fQ fR fS fT fU fV fW fX fY fZ gA gB gC gD gE gF gG gH gI gJ gK gL gM gN gO gP gQ gR gS gT gU gV gW gX gY gZ hA hB hC hD hE hF hG hH hI hJ hK hL hM hN hO hP hQ hR hS hT hU hV hW hX hY hZ iA iB iC iD iE iF iG iH iI iJ iK iL iM iN iO iP iQ iR iS iT iU iV iW iX iY iZ jA jB jC jD jE jF jG jH jI jJ jK jL jM jN jO jP jQ jR jS jT jU jV jW jX jY jZ kA kB kC kD kE kF kG kH kI kJ kK kL kM kN kO kP kQ kR kS kT kU kV kW kX kY kZ lA lB lC lD lE lF lG lH lI lJ lK lL lM lN lO lP lQ lR lS lT lU lV lW lX lY lZ mA mB mC mD mE mF mG mH mI mJ mK mL mM mN mO mP mQ mR mS mT mU mV mW mX mY mZ nA nB nC nD nE nF nG nH nI nJ nK nL nM nN nO nP nQ nR nS nT nU nV nW nX nY nZ oA oB oC oD oE oF oG oH oI oJ oK oL oM oN oO oP oQ oR oS oT oU oV oW oX oY oZ pA pB pC pD pE pF pG pH pI pJ pK pL pM pN pO pP pQ pR pS pT pU pV pW pX pY pZ qA qB qC qD qE qF qG qH qI qJ qK qL qM qN qO qP qQ qR qS qT qU qV qW qX qY qZ rA rB rC rD rE rF rG rH rI rJ rK rL rM rN rO rP rQ rR rS rT rU rV rW rX rY rZ sA sB sC sD sE sF sG sH sI sJ sK sL sM sN sO sP sQ sR sS sT sU sV sW sX sY sZ tA tB tC tD tE tF tG tH tI tJ tK tL tM tN tO tP tQ tR tS tT tU tV tW tX tY tZ uA uB uC uD uE uF uG uH uI uJ uK uL uM uN uO uP uQ uR uS uT uU uV uW uX uY uZ vA vB vC vD vE vF vG vH vI vJ vK vL vM vN vO vP vQ vR vS vT vU vV vW vX vY vZ wA wB wC wD wE wF wG wH wI wJ wK wL wM wN wO wP wQ wR wS wT wU wV wW wX wY wZ xA xB xC xD xE xF xG xH xI xJ xK xL xM xN xO xP xQ xR xS xT xU xV xW xX xY xZ yA yB yC yD yE yF yG yH yI yJ yK yL yM yN yO yP yQ yR yS yT yU yV yW yX yY yZ zA zB zC zD zE zF zG zH zI zJ zK : Value), let Q' : Exit → Act → World → Prop := bodyPost Try.prog Try.f3 (fun e w' => e = .returned (.bool true) ∧ Below w.heap.size w w'); ∀ (K1 : Act → World → Prop) (a1 : ∀ a w, Code.wp Try.prog (laws_FnFoldsStack.rights 32 (Try.f3.body.getD .skip)) Q' a w → K1 a w),
   K1 ⟨#[aA, aB, aC, aD, aE, aF, aG, aH, aI, aJ, aK, aL, aM, aN, aO, aP, aQ, aR, aS, aT, aU, aV, aW, aX, aY, aZ, bA, bB, bC, bD, bE, bF, bG, bH, bI, bJ, bK, bL, bM, bN, bO, bP, bQ, .int .i64 t396, .int .i64 t397, .int .i64 t398, .int .i64 t399, .int .i64 t400, .bool t401, bX, bY, .int .i64 t404, .int .i64 t405, v408, .bool t407, cD, cE, .int .i64 t414, cG, cH, cI, .int .i64 t418, .int .i64 t419, cL, cM, cN, cO, cP, cQ, cR, cS, cT, cU, cV, cW, cX, cY, cZ, dA, dB, dC, dD, dE, dF, dG, dH, dI, dJ, dK, dL, dM, dN, dO, dP, dQ, dR, dS, dT, dU, dV, dW, dX, dY, dZ, eA, eB, eC, eD, eE, eF, eG, eH, eI, eJ, eK, eL, eM, eN, eO, eP, eQ, eR, eS, eT, eU, eV, eW, eX, eY, eZ, fA, fB, fC, fD, fE, fF, fG, fH, fI, fJ, fK, fL, fM, fN, fO, fP, fQ, fR, fS, fT, fU, fV, fW, fX, fY, fZ, gA, gB, gC, gD, gE, gF, gG, gH, gI, gJ, gK, gL, gM, gN, gO, gP, gQ, gR, gS, gT, gU, gV, gW, gX, gY, gZ, hA, hB, hC, hD, hE, hF, hG, hH, hI, hJ, hK, hL, hM, hN, hO, hP, hQ, hR, hS, hT, hU, hV, hW, hX, hY, hZ, iA, iB, iC, iD, iE, iF, iG, iH, iI, iJ, iK, iL, iM, iN, iO, iP, iQ, iR, iS, iT, iU, iV, iW, iX, iY, iZ, jA, jB, jC, jD, jE, jF, jG, jH, jI, jJ, jK, jL, jM, jN, jO, jP, jQ, jR, jS, jT, jU, jV, jW, jX, jY, jZ, kA, kB, kC, kD, kE, kF, kG, kH, kI, kJ, kK, kL, kM, kN, kO, kP, kQ, kR, kS, kT, kU, kV, kW, kX, kY, kZ, lA, lB, lC, lD, lE, lF, lG, lH, lI, lJ, lK, lL, lM, lN, lO, lP, lQ, lR, lS, lT, lU, lV, lW, lX, lY, lZ, mA, mB, mC, mD, mE, mF, mG, mH, mI, mJ, mK, mL, mM, mN, mO, mP, mQ, mR, mS, mT, mU, mV, mW, mX, mY, mZ, nA, nB, nC, nD, nE, nF, nG, nH, nI, nJ, nK, nL, nM, nN, nO, nP, nQ, nR, nS, nT, nU, nV, nW, nX, nY, nZ, oA, oB, oC, oD, oE, oF, oG, oH, oI, oJ, oK, oL, oM, oN, oO, oP, oQ, oR, oS, oT, oU, oV, oW, oX, oY, oZ, pA, pB, pC, pD, pE, pF, pG, pH, pI, pJ, pK, pL, pM, pN, pO, pP, pQ, pR, pS, pT, pU, pV, pW, pX, pY, pZ, qA, qB, qC, qD, qE, qF, qG, qH, qI, qJ, qK, qL, qM, qN, qO, qP, qQ, qR, qS, qT, qU, qV, qW, qX, qY, qZ, rA, rB, rC, rD, rE, rF, rG, rH, rI, rJ, rK, rL, rM, rN, rO, rP, rQ, rR, rS, rT, rU, rV, rW, rX, rY, rZ, sA, sB, sC, sD, sE, sF, sG, sH, sI, sJ, sK, sL, sM, sN, sO, sP, sQ, sR, sS, sT, sU, sV, sW, sX, sY, sZ, tA, tB, tC, tD, tE, tF, tG, tH, tI, tJ, tK, tL, tM, tN, tO, tP, tQ, tR, tS, tT, tU, tV, tW, tX, tY, tZ, uA, uB, uC, uD, uE, uF, uG, uH, uI, uJ, uK, uL, uM, uN, uO, uP, uQ, uR, uS, uT, uU, uV, uW, uX, uY, uZ, vA, vB, vC, vD, vE, vF, vG, vH, vI, vJ, vK, vL, vM, vN, vO, vP, vQ, vR, vS, vT, vU, vV, vW, vX, vY, vZ, wA, wB, wC, wD, wE, wF, wG, wH, wI, wJ, wK, wL, wM, wN, wO, wP, wQ, wR, wS, wT, wU, wV, wW, wX, wY, wZ, xA, xB, xC, xD, xE, xF, xG, xH, xI, xJ, xK, xL, xM, xN, xO, xP, xQ, xR, xS, xT, xU, xV, xW, xX, xY, xZ, yA, yB, yC, yD, yE, yF, yG, yH, yI, yJ, yK, yL, yM, yN, yO, yP, yQ, yR, yS, yT, yU, yV, yW, yX, yY, yZ, zA, zB, zC, zD, zE, zF, zG, zH, zI, zJ, zK], []⟩ wc
set_option maxRecDepth 1000000 in
/-- What follows statement 32. -/
def laws_FnFoldsStack.P32 : Prop := ∀ (w : World) (t404 : Int) (t405 : Int) (t406 : List Int) (t407 : Bool) (t414 : Int) (t418 : Int) (t419 : Int) (v408 : Value) (kq : Nat) (wc : World) (HA : Aside0 (laws_FnFoldsStack.j10 kq t404 t405 t406 t407 t414 t418 t419 = some true)) (HO_53 : Aside0 (Kd.R (Kd.int .i64) 3 wc w.heap.size (fun _ => True) v408 t406)) (HB : Aside0 (Below w.heap.size w wc)),
  ∀ (aA aB aC aD aE aF aG aH aI aJ aK aL aM aN aO aP aQ aR aS aT aU aV aW aX aY aZ bA bB bC bD bE bF bG bH bI bJ bK bL bM bN bO bP bQ bR bS bT bU bV bW bX bY cD cE cG cH cI cL cM cN cO cP cQ cR cS cT cU cV cW cX cY cZ dA dB dC dD dE dF dG dH dI dJ dK dL dM dN dO dP dQ dR dS dT dU dV dW dX dY dZ eA eB eC eD eE eF eG eH eI eJ eK eL eM eN eO eP eQ eR eS eT eU eV eW eX eY eZ fA fB fC fD fE fF fG fH fI fJ fK fL fM fN fO fP fQ fR fS fT fU fV fW fX fY fZ gA gB gC gD gE gF gG gH gI gJ gK gL gM gN gO gP gQ gR gS gT gU gV gW gX gY gZ hA hB hC hD hE hF hG hH hI hJ hK hL hM hN hO hP hQ hR hS hT hU hV hW hX hY hZ iA iB iC iD iE iF iG iH iI iJ iK iL iM iN iO iP iQ iR iS iT iU iV iW iX iY iZ jA jB jC jD jE jF jG jH jI jJ jK jL jM jN jO jP jQ jR jS jT jU jV jW jX jY jZ kA kB kC kD kE kF kG kH kI kJ kK kL kM kN kO kP kQ kR kS kT kU kV kW kX kY kZ lA lB lC lD lE lF lG lH lI lJ lK lL lM lN lO lP lQ lR lS lT lU lV lW lX lY lZ mA mB mC mD mE mF mG mH mI mJ mK mL mM mN mO mP mQ mR mS mT mU mV mW mX mY mZ nA nB nC nD nE nF nG nH nI nJ nK nL nM nN nO nP nQ nR nS nT nU nV nW nX nY nZ oA oB oC oD oE oF oG oH oI oJ oK oL oM oN oO oP oQ oR oS oT oU oV oW oX oY oZ pA pB pC pD pE pF pG pH pI pJ pK pL pM pN pO pP pQ pR pS pT pU pV pW pX pY pZ qA qB qC qD qE qF qG qH qI qJ qK qL qM qN qO qP qQ qR qS qT qU qV qW qX qY qZ rA rB rC rD rE rF rG rH rI rJ rK rL rM rN rO rP rQ rR rS rT rU rV rW rX rY rZ sA sB sC sD sE sF sG sH sI sJ sK sL sM sN sO sP sQ sR sS sT sU sV sW sX sY sZ tA tB tC tD tE tF tG tH tI tJ tK tL tM tN tO tP tQ tR tS tT tU tV tW tX tY tZ uA uB uC uD uE uF uG uH uI uJ uK uL uM uN uO uP uQ uR uS uT uU uV uW uX uY uZ vA vB vC vD vE vF vG vH vI vJ vK vL vM vN vO vP vQ vR vS vT vU vV vW vX vY vZ wA wB wC wD wE wF wG wH wI wJ wK wL wM wN wO wP wQ wR wS wT wU wV wW wX wY wZ xA xB xC xD xE xF xG xH xI xJ xK xL xM xN xO xP xQ xR xS xT xU xV xW xX xY xZ yA yB yC yD yE yF yG yH yI yJ yK yL yM yN yO yP yQ yR yS yT yU yV yW yX yY yZ zA zB zC zD zE zF zG zH zI zJ zK : Value), let Q' : Exit → Act → World → Prop := bodyPost Try.prog Try.f3 (fun e w' => e = .returned (.bool true) ∧ Below w.heap.size w w'); ∀ (K1 : Act → World → Prop) (a1 : ∀ a w, Code.wp Try.prog (laws_FnFoldsStack.rights 33 (Try.f3.body.getD .skip)) Q' a w → K1 a w),
   K1 ⟨#[aA, aB, aC, aD, aE, aF, aG, aH, aI, aJ, aK, aL, aM, aN, aO, aP, aQ, aR, aS, aT, aU, aV, aW, aX, aY, aZ, bA, bB, bC, bD, bE, bF, bG, bH, bI, bJ, bK, bL, bM, bN, bO, bP, bQ, bR, bS, bT, bU, bV, bW, bX, bY, .int .i64 t404, .int .i64 t405, v408, .bool t407, cD, cE, .int .i64 t414, cG, cH, cI, .int .i64 t418, .int .i64 t419, cL, cM, cN, cO, cP, cQ, cR, cS, cT, cU, cV, cW, cX, cY, cZ, dA, dB, dC, dD, dE, dF, dG, dH, dI, dJ, dK, dL, dM, dN, dO, dP, dQ, dR, dS, dT, dU, dV, dW, dX, dY, dZ, eA, eB, eC, eD, eE, eF, eG, eH, eI, eJ, eK, eL, eM, eN, eO, eP, eQ, eR, eS, eT, eU, eV, eW, eX, eY, eZ, fA, fB, fC, fD, fE, fF, fG, fH, fI, fJ, fK, fL, fM, fN, fO, fP, fQ, fR, fS, fT, fU, fV, fW, fX, fY, fZ, gA, gB, gC, gD, gE, gF, gG, gH, gI, gJ, gK, gL, gM, gN, gO, gP, gQ, gR, gS, gT, gU, gV, gW, gX, gY, gZ, hA, hB, hC, hD, hE, hF, hG, hH, hI, hJ, hK, hL, hM, hN, hO, hP, hQ, hR, hS, hT, hU, hV, hW, hX, hY, hZ, iA, iB, iC, iD, iE, iF, iG, iH, iI, iJ, iK, iL, iM, iN, iO, iP, iQ, iR, iS, iT, iU, iV, iW, iX, iY, iZ, jA, jB, jC, jD, jE, jF, jG, jH, jI, jJ, jK, jL, jM, jN, jO, jP, jQ, jR, jS, jT, jU, jV, jW, jX, jY, jZ, kA, kB, kC, kD, kE, kF, kG, kH, kI, kJ, kK, kL, kM, kN, kO, kP, kQ, kR, kS, kT, kU, kV, kW, kX, kY, kZ, lA, lB, lC, lD, lE, lF, lG, lH, lI, lJ, lK, lL, lM, lN, lO, lP, lQ, lR, lS, lT, lU, lV, lW, lX, lY, lZ, mA, mB, mC, mD, mE, mF, mG, mH, mI, mJ, mK, mL, mM, mN, mO, mP, mQ, mR, mS, mT, mU, mV, mW, mX, mY, mZ, nA, nB, nC, nD, nE, nF, nG, nH, nI, nJ, nK, nL, nM, nN, nO, nP, nQ, nR, nS, nT, nU, nV, nW, nX, nY, nZ, oA, oB, oC, oD, oE, oF, oG, oH, oI, oJ, oK, oL, oM, oN, oO, oP, oQ, oR, oS, oT, oU, oV, oW, oX, oY, oZ, pA, pB, pC, pD, pE, pF, pG, pH, pI, pJ, pK, pL, pM, pN, pO, pP, pQ, pR, pS, pT, pU, pV, pW, pX, pY, pZ, qA, qB, qC, qD, qE, qF, qG, qH, qI, qJ, qK, qL, qM, qN, qO, qP, qQ, qR, qS, qT, qU, qV, qW, qX, qY, qZ, rA, rB, rC, rD, rE, rF, rG, rH, rI, rJ, rK, rL, rM, rN, rO, rP, rQ, rR, rS, rT, rU, rV, rW, rX, rY, rZ, sA, sB, sC, sD, sE, sF, sG, sH, sI, sJ, sK, sL, sM, sN, sO, sP, sQ, sR, sS, sT, sU, sV, sW, sX, sY, sZ, tA, tB, tC, tD, tE, tF, tG, tH, tI, tJ, tK, tL, tM, tN, tO, tP, tQ, tR, tS, tT, tU, tV, tW, tX, tY, tZ, uA, uB, uC, uD, uE, uF, uG, uH, uI, uJ, uK, uL, uM, uN, uO, uP, uQ, uR, uS, uT, uU, uV, uW, uX, uY, uZ, vA, vB, vC, vD, vE, vF, vG, vH, vI, vJ, vK, vL, vM, vN, vO, vP, vQ, vR, vS, vT, vU, vV, vW, vX, vY, vZ, wA, wB, wC, wD, wE, wF, wG, wH, wI, wJ, wK, wL, wM, wN, wO, wP, wQ, wR, wS, wT, wU, wV, wW, wX, wY, wZ, xA, xB, xC, xD, xE, xF, xG, xH, xI, xJ, xK, xL, xM, xN, xO, xP, xQ, xR, xS, xT, xU, xV, xW, xX, xY, xZ, yA, yB, yC, yD, yE, yF, yG, yH, yI, yJ, yK, yL, yM, yN, yO, yP, yQ, yR, yS, yT, yU, yV, yW, yX, yY, yZ, zA, zB, zC, zD, zE, zF, zG, zH, zI, zJ, zK], []⟩ wc

end Go.Proofs.Ytjkfgeigicljpaa.PFnFoldsStack
