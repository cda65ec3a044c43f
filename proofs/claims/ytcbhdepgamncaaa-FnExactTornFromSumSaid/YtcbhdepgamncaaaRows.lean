/-
  No cell of these rows narrows 'for every input' (looked for: loops, veiled, ifaces, maps, wideKeys, modest, calm, conditions, laid).
  DERIVED. THE GIVEN ROWS OF THIS SEAT. 12 by the template 'for every input the law returns true; each argument reads behind the call as it read before'; 0 by the template 'total and deterministic' (their statements: YtcbhdepgamncaaaTotals.lean).
  GIVEN WITH THE SEED: the statements are not yours to turn. If you find one false, say at which input.
  Laid BY PROGRAM, IN A SANDBOX (cutbox-rows.mjs): the forced cells as the released guide's own fill.sh prints them over the translation d7a58dfa9ef96807… (all of the seat's roots in one cut). By AI agents, Wed Nov 11 2026. No macro, syntax, notation, axiom, sorry.
-/
import Derived.Test.YtcbhdepgamncaaaChecked
import GoSem.Claim
import GoSem.ClaimJoined
import GoSem.ClaimMapViews
import Derived.JoinedTies
import Derived.KernelRfl
namespace Go.Proofs.Ytcbhdepgamncaaa
/- THE CELL 'sum', in the pinned program and in every row, IS THE sha256 OF THE DUMP (.gsa) THAT YtcbhdepgamncaaaProg.lean LOADS. Nothing in Lean hashes anything: it is a label: what it is worth is what the hold of that sum in a sandbox is worth. -/
noncomputable def Try.pinned : Pinned := { name := "ytcbhdepgamncaaa", sum := "d7a58dfa9ef968077ddccea22c0f3e3f93f5dbaa3a9fea3bc9def5cb40f5f73a", checked := Try.checked }
namespace Rows
def none {H : Type} : Left H := { results := [], args := [] }

/-- 'laws.FnExactSumOfPages': WHATEVER THE INPUT: true; the input reads as it did. -/
def fnExactSumOfPagesSpec : ChangeSpec := { name := "fnExactSumOfPages", fn := fun _ => fun
  | [d] => { results := [.lit (.bool true)], args := [d] }
  | _ => none }
def fnExactSumOfPagesRow : OpenClaim := { program := "ytcbhdepgamncaaa", sum := "d7a58dfa9ef968077ddccea22c0f3e3f93f5dbaa3a9fea3bc9def5cb40f5f73a", func := "loop.example/g01394/laws.FnExactSumOfPages", spec := "fnExactSumOfPages", apart := false }
def FnExactSumOfPagesSaid : Prop := fnExactSumOfPagesRow.holds Try.pinned (OpenSpec.ofChange fnExactSumOfPagesSpec)

/-- ITS FALSE NEIGHBOUR: 'it returns false'. Refute it at one input. -/
def fnExactSumOfPagesWrong : ChangeSpec := { name := "fnExactSumOfPages", fn := fun _ => fun
  | [d] => { results := [.lit (.bool false)], args := [d] }
  | _ => none }
def FnExactSumOfPagesWrongFalsely : Prop := fnExactSumOfPagesRow.holds Try.pinned (OpenSpec.ofChange fnExactSumOfPagesWrong)

/-- 'laws.FnExactBackOfPage': WHATEVER THE INPUT: true; the input reads as it did. -/
def fnExactBackOfPageSpec : ChangeSpec := { name := "fnExactBackOfPage", fn := fun _ => fun
  | [d] => { results := [.lit (.bool true)], args := [d] }
  | _ => none }
def fnExactBackOfPageRow : OpenClaim := { program := "ytcbhdepgamncaaa", sum := "d7a58dfa9ef968077ddccea22c0f3e3f93f5dbaa3a9fea3bc9def5cb40f5f73a", func := "loop.example/g01394/laws.FnExactBackOfPage", spec := "fnExactBackOfPage", apart := false }
def FnExactBackOfPageSaid : Prop := fnExactBackOfPageRow.holds Try.pinned (OpenSpec.ofChange fnExactBackOfPageSpec)

/-- ITS FALSE NEIGHBOUR: 'it returns false'. Refute it at one input. -/
def fnExactBackOfPageWrong : ChangeSpec := { name := "fnExactBackOfPage", fn := fun _ => fun
  | [d] => { results := [.lit (.bool false)], args := [d] }
  | _ => none }
def FnExactBackOfPageWrongFalsely : Prop := fnExactBackOfPageRow.holds Try.pinned (OpenSpec.ofChange fnExactBackOfPageWrong)

/-- 'laws.FnExactSignaturesFor': WHATEVER THE INPUT: true; the input reads as it did. -/
def fnExactSignaturesForSpec : ChangeSpec := { name := "fnExactSignaturesFor", fn := fun _ => fun
  | [d1, d2] => { results := [.lit (.bool true)], args := [d1, d2] }
  | _ => none }
def fnExactSignaturesForRow : OpenClaim := { program := "ytcbhdepgamncaaa", sum := "d7a58dfa9ef968077ddccea22c0f3e3f93f5dbaa3a9fea3bc9def5cb40f5f73a", func := "loop.example/g01394/laws.FnExactSignaturesFor", spec := "fnExactSignaturesFor", apart := false }
def FnExactSignaturesForSaid : Prop := fnExactSignaturesForRow.holds Try.pinned (OpenSpec.ofChange fnExactSignaturesForSpec)

/-- ITS FALSE NEIGHBOUR: 'it returns false'. Refute it at one input. -/
def fnExactSignaturesForWrong : ChangeSpec := { name := "fnExactSignaturesFor", fn := fun _ => fun
  | [d1, d2] => { results := [.lit (.bool false)], args := [d1, d2] }
  | _ => none }
def FnExactSignaturesForWrongFalsely : Prop := fnExactSignaturesForRow.holds Try.pinned (OpenSpec.ofChange fnExactSignaturesForWrong)

/-- 'laws.FnExactFacingPage': WHATEVER THE INPUT: true; the input reads as it did. -/
def fnExactFacingPageSpec : ChangeSpec := { name := "fnExactFacingPage", fn := fun _ => fun
  | [d1, d2] => { results := [.lit (.bool true)], args := [d1, d2] }
  | _ => none }
def fnExactFacingPageRow : OpenClaim := { program := "ytcbhdepgamncaaa", sum := "d7a58dfa9ef968077ddccea22c0f3e3f93f5dbaa3a9fea3bc9def5cb40f5f73a", func := "loop.example/g01394/laws.FnExactFacingPage", spec := "fnExactFacingPage", apart := false }
def FnExactFacingPageSaid : Prop := fnExactFacingPageRow.holds Try.pinned (OpenSpec.ofChange fnExactFacingPageSpec)

/-- ITS FALSE NEIGHBOUR: 'it returns false'. Refute it at one input. -/
def fnExactFacingPageWrong : ChangeSpec := { name := "fnExactFacingPage", fn := fun _ => fun
  | [d1, d2] => { results := [.lit (.bool false)], args := [d1, d2] }
  | _ => none }
def FnExactFacingPageWrongFalsely : Prop := fnExactFacingPageRow.holds Try.pinned (OpenSpec.ofChange fnExactFacingPageWrong)

/-- 'laws.FnExactBlankPages': WHATEVER THE INPUT: true; the input reads as it did. -/
def fnExactBlankPagesSpec : ChangeSpec := { name := "fnExactBlankPages", fn := fun _ => fun
  | [d] => { results := [.lit (.bool true)], args := [d] }
  | _ => none }
def fnExactBlankPagesRow : OpenClaim := { program := "ytcbhdepgamncaaa", sum := "d7a58dfa9ef968077ddccea22c0f3e3f93f5dbaa3a9fea3bc9def5cb40f5f73a", func := "loop.example/g01394/laws.FnExactBlankPages", spec := "fnExactBlankPages", apart := false }
def FnExactBlankPagesSaid : Prop := fnExactBlankPagesRow.holds Try.pinned (OpenSpec.ofChange fnExactBlankPagesSpec)

/-- ITS FALSE NEIGHBOUR: 'it returns false'. Refute it at one input. -/
def fnExactBlankPagesWrong : ChangeSpec := { name := "fnExactBlankPages", fn := fun _ => fun
  | [d] => { results := [.lit (.bool false)], args := [d] }
  | _ => none }
def FnExactBlankPagesWrongFalsely : Prop := fnExactBlankPagesRow.holds Try.pinned (OpenSpec.ofChange fnExactBlankPagesWrong)

/-- 'laws.FnExactCanBeTorn': WHATEVER THE INPUT: true; the input reads as it did. -/
def fnExactCanBeTornSpec : ChangeSpec := { name := "fnExactCanBeTorn", fn := fun _ => fun
  | [d1, d2] => { results := [.lit (.bool true)], args := [d1, d2] }
  | _ => none }
def fnExactCanBeTornRow : OpenClaim := { program := "ytcbhdepgamncaaa", sum := "d7a58dfa9ef968077ddccea22c0f3e3f93f5dbaa3a9fea3bc9def5cb40f5f73a", func := "loop.example/g01394/laws.FnExactCanBeTorn", spec := "fnExactCanBeTorn", apart := false }
def FnExactCanBeTornSaid : Prop := fnExactCanBeTornRow.holds Try.pinned (OpenSpec.ofChange fnExactCanBeTornSpec)

/-- ITS FALSE NEIGHBOUR: 'it returns false'. Refute it at one input. -/
def fnExactCanBeTornWrong : ChangeSpec := { name := "fnExactCanBeTorn", fn := fun _ => fun
  | [d1, d2] => { results := [.lit (.bool false)], args := [d1, d2] }
  | _ => none }
def FnExactCanBeTornWrongFalsely : Prop := fnExactCanBeTornRow.holds Try.pinned (OpenSpec.ofChange fnExactCanBeTornWrong)

/-- 'laws.FnExactPageInBook': WHATEVER THE INPUT: true; the input reads as it did. -/
def fnExactPageInBookSpec : ChangeSpec := { name := "fnExactPageInBook", fn := fun _ => fun
  | [d1, d2, d3, d4] => { results := [.lit (.bool true)], args := [d1, d2, d3, d4] }
  | _ => none }
def fnExactPageInBookRow : OpenClaim := { program := "ytcbhdepgamncaaa", sum := "d7a58dfa9ef968077ddccea22c0f3e3f93f5dbaa3a9fea3bc9def5cb40f5f73a", func := "loop.example/g01394/laws.FnExactPageInBook", spec := "fnExactPageInBook", apart := false }
def FnExactPageInBookSaid : Prop := fnExactPageInBookRow.holds Try.pinned (OpenSpec.ofChange fnExactPageInBookSpec)

/-- ITS FALSE NEIGHBOUR: 'it returns false'. Refute it at one input. -/
def fnExactPageInBookWrong : ChangeSpec := { name := "fnExactPageInBook", fn := fun _ => fun
  | [d1, d2, d3, d4] => { results := [.lit (.bool false)], args := [d1, d2, d3, d4] }
  | _ => none }
def FnExactPageInBookWrongFalsely : Prop := fnExactPageInBookRow.holds Try.pinned (OpenSpec.ofChange fnExactPageInBookWrong)

/-- 'laws.FnExactSideOfSheet': WHATEVER THE INPUT: true; the input reads as it did. -/
def fnExactSideOfSheetSpec : ChangeSpec := { name := "fnExactSideOfSheet", fn := fun _ => fun
  | [d1, d2, d3] => { results := [.lit (.bool true)], args := [d1, d2, d3] }
  | _ => none }
def fnExactSideOfSheetRow : OpenClaim := { program := "ytcbhdepgamncaaa", sum := "d7a58dfa9ef968077ddccea22c0f3e3f93f5dbaa3a9fea3bc9def5cb40f5f73a", func := "loop.example/g01394/laws.FnExactSideOfSheet", spec := "fnExactSideOfSheet", apart := false }
def FnExactSideOfSheetSaid : Prop := fnExactSideOfSheetRow.holds Try.pinned (OpenSpec.ofChange fnExactSideOfSheetSpec)

/-- ITS FALSE NEIGHBOUR: 'it returns false'. Refute it at one input. -/
def fnExactSideOfSheetWrong : ChangeSpec := { name := "fnExactSideOfSheet", fn := fun _ => fun
  | [d1, d2, d3] => { results := [.lit (.bool false)], args := [d1, d2, d3] }
  | _ => none }
def FnExactSideOfSheetWrongFalsely : Prop := fnExactSideOfSheetRow.holds Try.pinned (OpenSpec.ofChange fnExactSideOfSheetWrong)

/-- 'laws.FnExactTornLeaf': WHATEVER THE INPUT: true; the input reads as it did. -/
def fnExactTornLeafSpec : ChangeSpec := { name := "fnExactTornLeaf", fn := fun _ => fun
  | [d1, d2] => { results := [.lit (.bool true)], args := [d1, d2] }
  | _ => none }
def fnExactTornLeafRow : OpenClaim := { program := "ytcbhdepgamncaaa", sum := "d7a58dfa9ef968077ddccea22c0f3e3f93f5dbaa3a9fea3bc9def5cb40f5f73a", func := "loop.example/g01394/laws.FnExactTornLeaf", spec := "fnExactTornLeaf", apart := false }
def FnExactTornLeafSaid : Prop := fnExactTornLeafRow.holds Try.pinned (OpenSpec.ofChange fnExactTornLeafSpec)

/-- ITS FALSE NEIGHBOUR: 'it returns false'. Refute it at one input. -/
def fnExactTornLeafWrong : ChangeSpec := { name := "fnExactTornLeaf", fn := fun _ => fun
  | [d1, d2] => { results := [.lit (.bool false)], args := [d1, d2] }
  | _ => none }
def FnExactTornLeafWrongFalsely : Prop := fnExactTornLeafRow.holds Try.pinned (OpenSpec.ofChange fnExactTornLeafWrong)

/-- 'laws.FnExactDaysOfParts': WHATEVER THE INPUT: true; the input reads as it did. -/
def fnExactDaysOfPartsSpec : ChangeSpec := { name := "fnExactDaysOfParts", fn := fun _ => fun
  | [d1, d2, d3] => { results := [.lit (.bool true)], args := [d1, d2, d3] }
  | _ => none }
def fnExactDaysOfPartsRow : OpenClaim := { program := "ytcbhdepgamncaaa", sum := "d7a58dfa9ef968077ddccea22c0f3e3f93f5dbaa3a9fea3bc9def5cb40f5f73a", func := "loop.example/g01394/laws.FnExactDaysOfParts", spec := "fnExactDaysOfParts", apart := false }
def FnExactDaysOfPartsSaid : Prop := fnExactDaysOfPartsRow.holds Try.pinned (OpenSpec.ofChange fnExactDaysOfPartsSpec)

/-- ITS FALSE NEIGHBOUR: 'it returns false'. Refute it at one input. -/
def fnExactDaysOfPartsWrong : ChangeSpec := { name := "fnExactDaysOfParts", fn := fun _ => fun
  | [d1, d2, d3] => { results := [.lit (.bool false)], args := [d1, d2, d3] }
  | _ => none }
def FnExactDaysOfPartsWrongFalsely : Prop := fnExactDaysOfPartsRow.holds Try.pinned (OpenSpec.ofChange fnExactDaysOfPartsWrong)

/-- 'laws.FnExactDailyFor': WHATEVER THE INPUT: true; the input reads as it did. -/
def fnExactDailyForSpec : ChangeSpec := { name := "fnExactDailyFor", fn := fun _ => fun
  | [d1, d2, d3] => { results := [.lit (.bool true)], args := [d1, d2, d3] }
  | _ => none }
def fnExactDailyForRow : OpenClaim := { program := "ytcbhdepgamncaaa", sum := "d7a58dfa9ef968077ddccea22c0f3e3f93f5dbaa3a9fea3bc9def5cb40f5f73a", func := "loop.example/g01394/laws.FnExactDailyFor", spec := "fnExactDailyFor", apart := false }
def FnExactDailyForSaid : Prop := fnExactDailyForRow.holds Try.pinned (OpenSpec.ofChange fnExactDailyForSpec)

/-- ITS FALSE NEIGHBOUR: 'it returns false'. Refute it at one input. -/
def fnExactDailyForWrong : ChangeSpec := { name := "fnExactDailyFor", fn := fun _ => fun
  | [d1, d2, d3] => { results := [.lit (.bool false)], args := [d1, d2, d3] }
  | _ => none }
def FnExactDailyForWrongFalsely : Prop := fnExactDailyForRow.holds Try.pinned (OpenSpec.ofChange fnExactDailyForWrong)

/-- 'laws.FnExactTornFromSum': WHATEVER THE INPUT: true; the input reads as it did. -/
def fnExactTornFromSumSpec : ChangeSpec := { name := "fnExactTornFromSum", fn := fun _ => fun
  | [d] => { results := [.lit (.bool true)], args := [d] }
  | _ => none }
def fnExactTornFromSumRow : OpenClaim := { program := "ytcbhdepgamncaaa", sum := "d7a58dfa9ef968077ddccea22c0f3e3f93f5dbaa3a9fea3bc9def5cb40f5f73a", func := "loop.example/g01394/laws.FnExactTornFromSum", spec := "fnExactTornFromSum", apart := false }
def FnExactTornFromSumSaid : Prop := fnExactTornFromSumRow.holds Try.pinned (OpenSpec.ofChange fnExactTornFromSumSpec)

/-- ITS FALSE NEIGHBOUR: 'it returns false'. Refute it at one input. -/
def fnExactTornFromSumWrong : ChangeSpec := { name := "fnExactTornFromSum", fn := fun _ => fun
  | [d] => { results := [.lit (.bool false)], args := [d] }
  | _ => none }
def FnExactTornFromSumWrongFalsely : Prop := fnExactTornFromSumRow.holds Try.pinned (OpenSpec.ofChange fnExactTornFromSumWrong)

/- THE SECOND FORM. 'bulk': how many values and letters a reading holds, each counted each time it is reached (what is shared counts as often as it is met; a slice's spare places count too). A statement '..UptoSaid' is the law's where the arguments, and the package variables that the reading takes, are together of bulk at most 1048576: NARROWER than '..Said'. Prove '..Said' where nothing that the law and all that it calls make is longer than what came in: it says more and counts as full. Else prove '..UptoSaid'. A law counts once. -/
mutual
def uptoBulk {H : Type} : DataW H → Nat
  | .lit (.string bytes) => bytes.length + 1
  | .lit _ => 1
  | .nil => 1
  | .ptr d => uptoBulk d + 1
  | .slice elems spare => uptoBulkAll elems + uptoBulkAll spare + 1
  | .agg parts => uptoBulkAll parts + 1
  | .iface _ d => uptoBulk d + 1
  | .map entries => uptoBulkEntries entries + 1
  | .held _ => 1
def uptoBulkAll {H : Type} : List (DataW H) → Nat
  | [] => 0
  | d :: r => uptoBulk d + uptoBulkAll r
def uptoBulkEntries {H : Type} : List (Lit × DataW H) → Nat
  | [] => 0
  | x :: r => uptoBulkEntry x + uptoBulkEntries r
def uptoBulkEntry {H : Type} : Lit × DataW H → Nat
  | (.string bytes, d) => bytes.length + uptoBulk d + 1
  | (_, d) => uptoBulk d + 1
 end
def uptoSmall : (H : Type) → List (DataW H) → Bool := fun _ ds => decide (uptoBulkAll ds ≤ 1048576)
def OpenSpec.upto (s : _root_.Go.ChangeSpec) : _root_.Go.OpenSpec := { _root_.Go.OpenSpec.ofChange s with cond := some uptoSmall }

/-- 'laws.FnExactSumOfPages', WHERE WHAT IT READS IS OF BULK AT MOST 1048576: true; the input reads as it did. -/
def fnExactSumOfPagesUptoRow : OpenClaim := { program := "ytcbhdepgamncaaa", sum := "d7a58dfa9ef968077ddccea22c0f3e3f93f5dbaa3a9fea3bc9def5cb40f5f73a", func := "loop.example/g01394/laws.FnExactSumOfPages", spec := "fnExactSumOfPages", apart := false, narrowed := true }
def FnExactSumOfPagesUptoSaid : Prop := fnExactSumOfPagesUptoRow.holds Try.pinned (OpenSpec.upto fnExactSumOfPagesSpec)

/-- 'laws.FnExactBackOfPage', WHERE WHAT IT READS IS OF BULK AT MOST 1048576: true; the input reads as it did. -/
def fnExactBackOfPageUptoRow : OpenClaim := { program := "ytcbhdepgamncaaa", sum := "d7a58dfa9ef968077ddccea22c0f3e3f93f5dbaa3a9fea3bc9def5cb40f5f73a", func := "loop.example/g01394/laws.FnExactBackOfPage", spec := "fnExactBackOfPage", apart := false, narrowed := true }
def FnExactBackOfPageUptoSaid : Prop := fnExactBackOfPageUptoRow.holds Try.pinned (OpenSpec.upto fnExactBackOfPageSpec)

/-- 'laws.FnExactSignaturesFor', WHERE WHAT IT READS IS OF BULK AT MOST 1048576: true; the input reads as it did. -/
def fnExactSignaturesForUptoRow : OpenClaim := { program := "ytcbhdepgamncaaa", sum := "d7a58dfa9ef968077ddccea22c0f3e3f93f5dbaa3a9fea3bc9def5cb40f5f73a", func := "loop.example/g01394/laws.FnExactSignaturesFor", spec := "fnExactSignaturesFor", apart := false, narrowed := true }
def FnExactSignaturesForUptoSaid : Prop := fnExactSignaturesForUptoRow.holds Try.pinned (OpenSpec.upto fnExactSignaturesForSpec)

/-- 'laws.FnExactFacingPage', WHERE WHAT IT READS IS OF BULK AT MOST 1048576: true; the input reads as it did. -/
def fnExactFacingPageUptoRow : OpenClaim := { program := "ytcbhdepgamncaaa", sum := "d7a58dfa9ef968077ddccea22c0f3e3f93f5dbaa3a9fea3bc9def5cb40f5f73a", func := "loop.example/g01394/laws.FnExactFacingPage", spec := "fnExactFacingPage", apart := false, narrowed := true }
def FnExactFacingPageUptoSaid : Prop := fnExactFacingPageUptoRow.holds Try.pinned (OpenSpec.upto fnExactFacingPageSpec)

/-- 'laws.FnExactBlankPages', WHERE WHAT IT READS IS OF BULK AT MOST 1048576: true; the input reads as it did. -/
def fnExactBlankPagesUptoRow : OpenClaim := { program := "ytcbhdepgamncaaa", sum := "d7a58dfa9ef968077ddccea22c0f3e3f93f5dbaa3a9fea3bc9def5cb40f5f73a", func := "loop.example/g01394/laws.FnExactBlankPages", spec := "fnExactBlankPages", apart := false, narrowed := true }
def FnExactBlankPagesUptoSaid : Prop := fnExactBlankPagesUptoRow.holds Try.pinned (OpenSpec.upto fnExactBlankPagesSpec)

/-- 'laws.FnExactCanBeTorn', WHERE WHAT IT READS IS OF BULK AT MOST 1048576: true; the input reads as it did. -/
def fnExactCanBeTornUptoRow : OpenClaim := { program := "ytcbhdepgamncaaa", sum := "d7a58dfa9ef968077ddccea22c0f3e3f93f5dbaa3a9fea3bc9def5cb40f5f73a", func := "loop.example/g01394/laws.FnExactCanBeTorn", spec := "fnExactCanBeTorn", apart := false, narrowed := true }
def FnExactCanBeTornUptoSaid : Prop := fnExactCanBeTornUptoRow.holds Try.pinned (OpenSpec.upto fnExactCanBeTornSpec)

/-- 'laws.FnExactPageInBook', WHERE WHAT IT READS IS OF BULK AT MOST 1048576: true; the input reads as it did. -/
def fnExactPageInBookUptoRow : OpenClaim := { program := "ytcbhdepgamncaaa", sum := "d7a58dfa9ef968077ddccea22c0f3e3f93f5dbaa3a9fea3bc9def5cb40f5f73a", func := "loop.example/g01394/laws.FnExactPageInBook", spec := "fnExactPageInBook", apart := false, narrowed := true }
def FnExactPageInBookUptoSaid : Prop := fnExactPageInBookUptoRow.holds Try.pinned (OpenSpec.upto fnExactPageInBookSpec)

/-- 'laws.FnExactSideOfSheet', WHERE WHAT IT READS IS OF BULK AT MOST 1048576: true; the input reads as it did. -/
def fnExactSideOfSheetUptoRow : OpenClaim := { program := "ytcbhdepgamncaaa", sum := "d7a58dfa9ef968077ddccea22c0f3e3f93f5dbaa3a9fea3bc9def5cb40f5f73a", func := "loop.example/g01394/laws.FnExactSideOfSheet", spec := "fnExactSideOfSheet", apart := false, narrowed := true }
def FnExactSideOfSheetUptoSaid : Prop := fnExactSideOfSheetUptoRow.holds Try.pinned (OpenSpec.upto fnExactSideOfSheetSpec)

/-- 'laws.FnExactTornLeaf', WHERE WHAT IT READS IS OF BULK AT MOST 1048576: true; the input reads as it did. -/
def fnExactTornLeafUptoRow : OpenClaim := { program := "ytcbhdepgamncaaa", sum := "d7a58dfa9ef968077ddccea22c0f3e3f93f5dbaa3a9fea3bc9def5cb40f5f73a", func := "loop.example/g01394/laws.FnExactTornLeaf", spec := "fnExactTornLeaf", apart := false, narrowed := true }
def FnExactTornLeafUptoSaid : Prop := fnExactTornLeafUptoRow.holds Try.pinned (OpenSpec.upto fnExactTornLeafSpec)

/-- 'laws.FnExactDaysOfParts', WHERE WHAT IT READS IS OF BULK AT MOST 1048576: true; the input reads as it did. -/
def fnExactDaysOfPartsUptoRow : OpenClaim := { program := "ytcbhdepgamncaaa", sum := "d7a58dfa9ef968077ddccea22c0f3e3f93f5dbaa3a9fea3bc9def5cb40f5f73a", func := "loop.example/g01394/laws.FnExactDaysOfParts", spec := "fnExactDaysOfParts", apart := false, narrowed := true }
def FnExactDaysOfPartsUptoSaid : Prop := fnExactDaysOfPartsUptoRow.holds Try.pinned (OpenSpec.upto fnExactDaysOfPartsSpec)

/-- 'laws.FnExactDailyFor', WHERE WHAT IT READS IS OF BULK AT MOST 1048576: true; the input reads as it did. -/
def fnExactDailyForUptoRow : OpenClaim := { program := "ytcbhdepgamncaaa", sum := "d7a58dfa9ef968077ddccea22c0f3e3f93f5dbaa3a9fea3bc9def5cb40f5f73a", func := "loop.example/g01394/laws.FnExactDailyFor", spec := "fnExactDailyFor", apart := false, narrowed := true }
def FnExactDailyForUptoSaid : Prop := fnExactDailyForUptoRow.holds Try.pinned (OpenSpec.upto fnExactDailyForSpec)

/-- 'laws.FnExactTornFromSum', WHERE WHAT IT READS IS OF BULK AT MOST 1048576: true; the input reads as it did. -/
def fnExactTornFromSumUptoRow : OpenClaim := { program := "ytcbhdepgamncaaa", sum := "d7a58dfa9ef968077ddccea22c0f3e3f93f5dbaa3a9fea3bc9def5cb40f5f73a", func := "loop.example/g01394/laws.FnExactTornFromSum", spec := "fnExactTornFromSum", apart := false, narrowed := true }
def FnExactTornFromSumUptoSaid : Prop := fnExactTornFromSumUptoRow.holds Try.pinned (OpenSpec.upto fnExactTornFromSumSpec)

end Rows
end Go.Proofs.Ytcbhdepgamncaaa
