/-
  DERIVED. GIVEN WITH THE SEED: THE CARDS: each row of YtjaeddckoocgbaaDoorRows.lean that lists a variable, with what it lists TIED to the program's text (the seventh form; the later family's looks); each row that meets fmt, with fmt's text TOLD by the authors' own Lean function (tested against real Go, not proved from fmt's source: count such statements apart). THE CARD IS WHAT COUNTS. Prove the row's statement (the work); the ties are given (YtjaeddckoocgbaaDoorTie.lean); close each card by the builder's one call (the guide's Derived/Test/ToyasCard.lean, 'card_holds'). Laid BY PROGRAM, IN A SANDBOX (cutbox-door.mjs). By AI agents, Wed Nov 11 2026. No macro, syntax, notation, axiom, sorry.
-/
import Derived.Test.YtjaeddckoocgbaaDoorRows
import GoSem.ClaimSeven
namespace Go.Proofs.YtjaeddckoocgbaaDoor
namespace Rows

/-- THE TIED CARD OF 'laws.FnExactDigitAtPlace'. -/
def fnExactDigitAtPlaceCard : Claim7 := { stood := { row := fnExactDigitAtPlaceRow, standIns := [], harness := (true, "d56f00a5c9c8cc096bf46407c874466c8aac4615a11683479794c3bd43f636db"), looks := false }, kinds := [], alts := [], laidByText := true, laidKinds := [.data, .data, .data], laidTests := true, laidLooks := .later }
def FnExactDigitAtPlaceCardSaid : Prop := Claim7.holds Tryd.pinned (.plain (OpenSpec.ofChange fnExactDigitAtPlaceSpec)) fnExactDigitAtPlaceCard

/-- THE TIED CARD OF 'laws.FnExactDigitsOfBook'. -/
def fnExactDigitsOfBookCard : Claim7 := { stood := { row := fnExactDigitsOfBookRow, standIns := [], harness := (true, "d56f00a5c9c8cc096bf46407c874466c8aac4615a11683479794c3bd43f636db"), looks := false }, kinds := [], alts := [], laidByText := true, laidKinds := [.data, .data, .data], laidTests := true, laidLooks := .later }
def FnExactDigitsOfBookCardSaid : Prop := Claim7.holds Tryd.pinned (.plain (OpenSpec.ofChange fnExactDigitsOfBookSpec)) fnExactDigitsOfBookCard

/-- THE TIED CARD OF 'laws.FnExactPagesForDigits'. -/
def fnExactPagesForDigitsCard : Claim7 := { stood := { row := fnExactPagesForDigitsRow, standIns := [], harness := (true, "d56f00a5c9c8cc096bf46407c874466c8aac4615a11683479794c3bd43f636db"), looks := false }, kinds := [], alts := [], laidByText := true, laidKinds := [.data, .data, .data], laidTests := true, laidLooks := .later }
def FnExactPagesForDigitsCardSaid : Prop := Claim7.holds Tryd.pinned (.plain (OpenSpec.ofChange fnExactPagesForDigitsSpec)) fnExactPagesForDigitsCard

/-- THE TIED CARD OF 'laws.FnExactPagesForTypes'. -/
def fnExactPagesForTypesCard : Claim7 := { stood := { row := fnExactPagesForTypesRow, standIns := [], harness := (true, "d56f00a5c9c8cc096bf46407c874466c8aac4615a11683479794c3bd43f636db"), looks := false }, kinds := [], alts := [], laidByText := true, laidKinds := [.data, .data, .data], laidTests := true, laidLooks := .later }
def FnExactPagesForTypesCardSaid : Prop := Claim7.holds Tryd.pinned (.plain (OpenSpec.ofChange fnExactPagesForTypesSpec)) fnExactPagesForTypesCard

/-- THE TIED CARD OF 'laws.FnExactCountDigit'. -/
def fnExactCountDigitCard : Claim7 := { stood := { row := fnExactCountDigitRow, standIns := [], harness := (true, "d56f00a5c9c8cc096bf46407c874466c8aac4615a11683479794c3bd43f636db"), looks := false }, kinds := [], alts := [], laidByText := true, laidKinds := [.data, .data, .data], laidTests := true, laidLooks := .later }
def FnExactCountDigitCardSaid : Prop := Claim7.holds Tryd.pinned (.plain (OpenSpec.ofChange fnExactCountDigitSpec)) fnExactCountDigitCard

/-- THE TIED CARD OF 'laws.FnExactPagesWithDigit'. -/
def fnExactPagesWithDigitCard : Claim7 := { stood := { row := fnExactPagesWithDigitRow, standIns := [], harness := (true, "d56f00a5c9c8cc096bf46407c874466c8aac4615a11683479794c3bd43f636db"), looks := false }, kinds := [], alts := [], laidByText := true, laidKinds := [.data, .data, .data], laidTests := true, laidLooks := .later }
def FnExactPagesWithDigitCardSaid : Prop := Claim7.holds Tryd.pinned (.plain (OpenSpec.ofChange fnExactPagesWithDigitSpec)) fnExactPagesWithDigitCard

/-- THE TIED CARD OF 'laws.FnExactPagesText'. -/
def fnExactPagesTextCard : Claim7 := { stood := { row := fnExactPagesTextRow, standIns := [], harness := (true, "d56f00a5c9c8cc096bf46407c874466c8aac4615a11683479794c3bd43f636db"), looks := false }, kinds := [], alts := [], laidByText := true, laidKinds := [.data, .data, .data], laidTests := true, laidLooks := .later }
def FnExactPagesTextCardSaid : Prop := Claim7.holds Tryd.pinned (.plain (OpenSpec.ofChange fnExactPagesTextSpec)) fnExactPagesTextCard

/-- THE SECOND FORM's CARD OF 'laws.FnExactDigitAtPlace'. -/
def fnExactDigitAtPlaceUptoCard : Claim7 := { stood := { row := fnExactDigitAtPlaceUptoRow, standIns := [], harness := (true, "d56f00a5c9c8cc096bf46407c874466c8aac4615a11683479794c3bd43f636db"), looks := false }, kinds := [], alts := [], laidByText := true, laidKinds := [.data, .data, .data], laidTests := true, laidLooks := .later }
def FnExactDigitAtPlaceUptoCardSaid : Prop := Claim7.holds Tryd.pinned (.plain (OpenSpec.upto fnExactDigitAtPlaceSpec)) fnExactDigitAtPlaceUptoCard

/-- THE SECOND FORM's CARD OF 'laws.FnExactDigitsOfBook'. -/
def fnExactDigitsOfBookUptoCard : Claim7 := { stood := { row := fnExactDigitsOfBookUptoRow, standIns := [], harness := (true, "d56f00a5c9c8cc096bf46407c874466c8aac4615a11683479794c3bd43f636db"), looks := false }, kinds := [], alts := [], laidByText := true, laidKinds := [.data, .data, .data], laidTests := true, laidLooks := .later }
def FnExactDigitsOfBookUptoCardSaid : Prop := Claim7.holds Tryd.pinned (.plain (OpenSpec.upto fnExactDigitsOfBookSpec)) fnExactDigitsOfBookUptoCard

/-- THE SECOND FORM's CARD OF 'laws.FnExactPagesForDigits'. -/
def fnExactPagesForDigitsUptoCard : Claim7 := { stood := { row := fnExactPagesForDigitsUptoRow, standIns := [], harness := (true, "d56f00a5c9c8cc096bf46407c874466c8aac4615a11683479794c3bd43f636db"), looks := false }, kinds := [], alts := [], laidByText := true, laidKinds := [.data, .data, .data], laidTests := true, laidLooks := .later }
def FnExactPagesForDigitsUptoCardSaid : Prop := Claim7.holds Tryd.pinned (.plain (OpenSpec.upto fnExactPagesForDigitsSpec)) fnExactPagesForDigitsUptoCard

/-- THE SECOND FORM's CARD OF 'laws.FnExactPagesForTypes'. -/
def fnExactPagesForTypesUptoCard : Claim7 := { stood := { row := fnExactPagesForTypesUptoRow, standIns := [], harness := (true, "d56f00a5c9c8cc096bf46407c874466c8aac4615a11683479794c3bd43f636db"), looks := false }, kinds := [], alts := [], laidByText := true, laidKinds := [.data, .data, .data], laidTests := true, laidLooks := .later }
def FnExactPagesForTypesUptoCardSaid : Prop := Claim7.holds Tryd.pinned (.plain (OpenSpec.upto fnExactPagesForTypesSpec)) fnExactPagesForTypesUptoCard

/-- THE SECOND FORM's CARD OF 'laws.FnExactCountDigit'. -/
def fnExactCountDigitUptoCard : Claim7 := { stood := { row := fnExactCountDigitUptoRow, standIns := [], harness := (true, "d56f00a5c9c8cc096bf46407c874466c8aac4615a11683479794c3bd43f636db"), looks := false }, kinds := [], alts := [], laidByText := true, laidKinds := [.data, .data, .data], laidTests := true, laidLooks := .later }
def FnExactCountDigitUptoCardSaid : Prop := Claim7.holds Tryd.pinned (.plain (OpenSpec.upto fnExactCountDigitSpec)) fnExactCountDigitUptoCard

/-- THE SECOND FORM's CARD OF 'laws.FnExactPagesWithDigit'. -/
def fnExactPagesWithDigitUptoCard : Claim7 := { stood := { row := fnExactPagesWithDigitUptoRow, standIns := [], harness := (true, "d56f00a5c9c8cc096bf46407c874466c8aac4615a11683479794c3bd43f636db"), looks := false }, kinds := [], alts := [], laidByText := true, laidKinds := [.data, .data, .data], laidTests := true, laidLooks := .later }
def FnExactPagesWithDigitUptoCardSaid : Prop := Claim7.holds Tryd.pinned (.plain (OpenSpec.upto fnExactPagesWithDigitSpec)) fnExactPagesWithDigitUptoCard

/-- THE SECOND FORM's CARD OF 'laws.FnExactPagesText'. -/
def fnExactPagesTextUptoCard : Claim7 := { stood := { row := fnExactPagesTextUptoRow, standIns := [], harness := (true, "d56f00a5c9c8cc096bf46407c874466c8aac4615a11683479794c3bd43f636db"), looks := false }, kinds := [], alts := [], laidByText := true, laidKinds := [.data, .data, .data], laidTests := true, laidLooks := .later }
def FnExactPagesTextUptoCardSaid : Prop := Claim7.holds Tryd.pinned (.plain (OpenSpec.upto fnExactPagesTextSpec)) fnExactPagesTextUptoCard
end Rows
end Go.Proofs.YtjaeddckoocgbaaDoor
