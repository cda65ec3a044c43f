/-
  No cell of these rows narrows 'for every input' (looked for: loops, veiled, ifaces, maps, wideKeys, modest, calm, conditions, laid).
  DERIVED. THE GIVEN ROWS OF THIS SEAT. 12 by the template 'for every input the law returns true; each argument reads behind the call as it read before'; 0 by the template 'total and deterministic' (their statements: YteimbmjipbjkdaaTotals.lean).
  GIVEN WITH THE SEED: the statements are not yours to turn. If you find one false, say at which input.
  Laid BY PROGRAM, IN A SANDBOX (cutbox-rows.mjs): the forced cells as the released guide's own fill.sh prints them over the translation 9d09a2cd62fe130d… (all of the seat's roots in one cut). By AI agents, Wed Nov 11 2026. No macro, syntax, notation, axiom, sorry.
-/
import Derived.Test.YteimbmjipbjkdaaChecked
import GoSem.Claim
import GoSem.ClaimJoined
import GoSem.ClaimMapViews
import Derived.JoinedTies
import Derived.KernelRfl
namespace Go.Proofs.Yteimbmjipbjkdaa
/- THE CELL 'sum', in the pinned program and in every row, IS THE sha256 OF THE DUMP (.gsa) THAT YteimbmjipbjkdaaProg.lean LOADS. Nothing in Lean hashes anything: it is a label: what it is worth is what the hold of that sum in a sandbox is worth. -/
noncomputable def Try.pinned : Pinned := { name := "yteimbmjipbjkdaa", sum := "9d09a2cd62fe130d5dd1c3feb157bc4d2c3b0a86ed568eadd47ad8be3caba2e6", checked := Try.checked }
namespace Rows
def none {H : Type} : Left H := { results := [], args := [] }

/-- 'laws.FnExactConstants': WHATEVER THE INPUT: true; the input reads as it did. -/
def fnExactConstantsSpec : ChangeSpec := { name := "fnExactConstants", fn := fun _ => fun
  | [] => { results := [.lit (.bool true)], args := [] }
  | _ => none }
def fnExactConstantsRow : OpenClaim := { program := "yteimbmjipbjkdaa", sum := "9d09a2cd62fe130d5dd1c3feb157bc4d2c3b0a86ed568eadd47ad8be3caba2e6", func := "loop.example/g01394/laws.FnExactConstants", spec := "fnExactConstants", apart := false }
def FnExactConstantsSaid : Prop := fnExactConstantsRow.holds Try.pinned (OpenSpec.ofChange fnExactConstantsSpec)

/-- ITS FALSE NEIGHBOUR: 'it returns false'. Refute it at one input. -/
def fnExactConstantsWrong : ChangeSpec := { name := "fnExactConstants", fn := fun _ => fun
  | [] => { results := [.lit (.bool false)], args := [] }
  | _ => none }
def FnExactConstantsWrongFalsely : Prop := fnExactConstantsRow.holds Try.pinned (OpenSpec.ofChange fnExactConstantsWrong)

/-- 'laws.FnExactIsPage': WHATEVER THE INPUT: true; the input reads as it did. -/
def fnExactIsPageSpec : ChangeSpec := { name := "fnExactIsPage", fn := fun _ => fun
  | [d1, d2] => { results := [.lit (.bool true)], args := [d1, d2] }
  | _ => none }
def fnExactIsPageRow : OpenClaim := { program := "yteimbmjipbjkdaa", sum := "9d09a2cd62fe130d5dd1c3feb157bc4d2c3b0a86ed568eadd47ad8be3caba2e6", func := "loop.example/g01394/laws.FnExactIsPage", spec := "fnExactIsPage", apart := false }
def FnExactIsPageSaid : Prop := fnExactIsPageRow.holds Try.pinned (OpenSpec.ofChange fnExactIsPageSpec)

/-- ITS FALSE NEIGHBOUR: 'it returns false'. Refute it at one input. -/
def fnExactIsPageWrong : ChangeSpec := { name := "fnExactIsPage", fn := fun _ => fun
  | [d1, d2] => { results := [.lit (.bool false)], args := [d1, d2] }
  | _ => none }
def FnExactIsPageWrongFalsely : Prop := fnExactIsPageRow.holds Try.pinned (OpenSpec.ofChange fnExactIsPageWrong)

/-- 'laws.FnExactIsReader': WHATEVER THE INPUT: true; the input reads as it did. -/
def fnExactIsReaderSpec : ChangeSpec := { name := "fnExactIsReader", fn := fun _ => fun
  | [d] => { results := [.lit (.bool true)], args := [d] }
  | _ => none }
def fnExactIsReaderRow : OpenClaim := { program := "yteimbmjipbjkdaa", sum := "9d09a2cd62fe130d5dd1c3feb157bc4d2c3b0a86ed568eadd47ad8be3caba2e6", func := "loop.example/g01394/laws.FnExactIsReader", spec := "fnExactIsReader", apart := false }
def FnExactIsReaderSaid : Prop := fnExactIsReaderRow.holds Try.pinned (OpenSpec.ofChange fnExactIsReaderSpec)

/-- ITS FALSE NEIGHBOUR: 'it returns false'. Refute it at one input. -/
def fnExactIsReaderWrong : ChangeSpec := { name := "fnExactIsReader", fn := fun _ => fun
  | [d] => { results := [.lit (.bool false)], args := [d] }
  | _ => none }
def FnExactIsReaderWrongFalsely : Prop := fnExactIsReaderRow.holds Try.pinned (OpenSpec.ofChange fnExactIsReaderWrong)

/-- 'laws.FnExactIsRightPage': WHATEVER THE INPUT: true; the input reads as it did. -/
def fnExactIsRightPageSpec : ChangeSpec := { name := "fnExactIsRightPage", fn := fun _ => fun
  | [d] => { results := [.lit (.bool true)], args := [d] }
  | _ => none }
def fnExactIsRightPageRow : OpenClaim := { program := "yteimbmjipbjkdaa", sum := "9d09a2cd62fe130d5dd1c3feb157bc4d2c3b0a86ed568eadd47ad8be3caba2e6", func := "loop.example/g01394/laws.FnExactIsRightPage", spec := "fnExactIsRightPage", apart := false }
def FnExactIsRightPageSaid : Prop := fnExactIsRightPageRow.holds Try.pinned (OpenSpec.ofChange fnExactIsRightPageSpec)

/-- ITS FALSE NEIGHBOUR: 'it returns false'. Refute it at one input. -/
def fnExactIsRightPageWrong : ChangeSpec := { name := "fnExactIsRightPage", fn := fun _ => fun
  | [d] => { results := [.lit (.bool false)], args := [d] }
  | _ => none }
def FnExactIsRightPageWrongFalsely : Prop := fnExactIsRightPageRow.holds Try.pinned (OpenSpec.ofChange fnExactIsRightPageWrong)

/-- 'laws.FnExactLeafOfPage': WHATEVER THE INPUT: true; the input reads as it did. -/
def fnExactLeafOfPageSpec : ChangeSpec := { name := "fnExactLeafOfPage", fn := fun _ => fun
  | [d] => { results := [.lit (.bool true)], args := [d] }
  | _ => none }
def fnExactLeafOfPageRow : OpenClaim := { program := "yteimbmjipbjkdaa", sum := "9d09a2cd62fe130d5dd1c3feb157bc4d2c3b0a86ed568eadd47ad8be3caba2e6", func := "loop.example/g01394/laws.FnExactLeafOfPage", spec := "fnExactLeafOfPage", apart := false }
def FnExactLeafOfPageSaid : Prop := fnExactLeafOfPageRow.holds Try.pinned (OpenSpec.ofChange fnExactLeafOfPageSpec)

/-- ITS FALSE NEIGHBOUR: 'it returns false'. Refute it at one input. -/
def fnExactLeafOfPageWrong : ChangeSpec := { name := "fnExactLeafOfPage", fn := fun _ => fun
  | [d] => { results := [.lit (.bool false)], args := [d] }
  | _ => none }
def FnExactLeafOfPageWrongFalsely : Prop := fnExactLeafOfPageRow.holds Try.pinned (OpenSpec.ofChange fnExactLeafOfPageWrong)

/-- 'laws.FnExactLeavesOfBook': WHATEVER THE INPUT: true; the input reads as it did. -/
def fnExactLeavesOfBookSpec : ChangeSpec := { name := "fnExactLeavesOfBook", fn := fun _ => fun
  | [d] => { results := [.lit (.bool true)], args := [d] }
  | _ => none }
def fnExactLeavesOfBookRow : OpenClaim := { program := "yteimbmjipbjkdaa", sum := "9d09a2cd62fe130d5dd1c3feb157bc4d2c3b0a86ed568eadd47ad8be3caba2e6", func := "loop.example/g01394/laws.FnExactLeavesOfBook", spec := "fnExactLeavesOfBook", apart := false }
def FnExactLeavesOfBookSaid : Prop := fnExactLeavesOfBookRow.holds Try.pinned (OpenSpec.ofChange fnExactLeavesOfBookSpec)

/-- ITS FALSE NEIGHBOUR: 'it returns false'. Refute it at one input. -/
def fnExactLeavesOfBookWrong : ChangeSpec := { name := "fnExactLeavesOfBook", fn := fun _ => fun
  | [d] => { results := [.lit (.bool false)], args := [d] }
  | _ => none }
def FnExactLeavesOfBookWrongFalsely : Prop := fnExactLeavesOfBookRow.holds Try.pinned (OpenSpec.ofChange fnExactLeavesOfBookWrong)

/-- 'laws.FnExactMiddlePages': WHATEVER THE INPUT: true; the input reads as it did. -/
def fnExactMiddlePagesSpec : ChangeSpec := { name := "fnExactMiddlePages", fn := fun _ => fun
  | [d] => { results := [.lit (.bool true)], args := [d] }
  | _ => none }
def fnExactMiddlePagesRow : OpenClaim := { program := "yteimbmjipbjkdaa", sum := "9d09a2cd62fe130d5dd1c3feb157bc4d2c3b0a86ed568eadd47ad8be3caba2e6", func := "loop.example/g01394/laws.FnExactMiddlePages", spec := "fnExactMiddlePages", apart := false }
def FnExactMiddlePagesSaid : Prop := fnExactMiddlePagesRow.holds Try.pinned (OpenSpec.ofChange fnExactMiddlePagesSpec)

/-- ITS FALSE NEIGHBOUR: 'it returns false'. Refute it at one input. -/
def fnExactMiddlePagesWrong : ChangeSpec := { name := "fnExactMiddlePages", fn := fun _ => fun
  | [d] => { results := [.lit (.bool false)], args := [d] }
  | _ => none }
def FnExactMiddlePagesWrongFalsely : Prop := fnExactMiddlePagesRow.holds Try.pinned (OpenSpec.ofChange fnExactMiddlePagesWrong)

/-- 'laws.FnExactPagesOfLeaf': WHATEVER THE INPUT: true; the input reads as it did. -/
def fnExactPagesOfLeafSpec : ChangeSpec := { name := "fnExactPagesOfLeaf", fn := fun _ => fun
  | [d] => { results := [.lit (.bool true)], args := [d] }
  | _ => none }
def fnExactPagesOfLeafRow : OpenClaim := { program := "yteimbmjipbjkdaa", sum := "9d09a2cd62fe130d5dd1c3feb157bc4d2c3b0a86ed568eadd47ad8be3caba2e6", func := "loop.example/g01394/laws.FnExactPagesOfLeaf", spec := "fnExactPagesOfLeaf", apart := false }
def FnExactPagesOfLeafSaid : Prop := fnExactPagesOfLeafRow.holds Try.pinned (OpenSpec.ofChange fnExactPagesOfLeafSpec)

/-- ITS FALSE NEIGHBOUR: 'it returns false'. Refute it at one input. -/
def fnExactPagesOfLeafWrong : ChangeSpec := { name := "fnExactPagesOfLeaf", fn := fun _ => fun
  | [d] => { results := [.lit (.bool false)], args := [d] }
  | _ => none }
def FnExactPagesOfLeafWrongFalsely : Prop := fnExactPagesOfLeafRow.holds Try.pinned (OpenSpec.ofChange fnExactPagesOfLeafWrong)

/-- 'laws.FnExactSheetsFor': WHATEVER THE INPUT: true; the input reads as it did. -/
def fnExactSheetsForSpec : ChangeSpec := { name := "fnExactSheetsFor", fn := fun _ => fun
  | [d] => { results := [.lit (.bool true)], args := [d] }
  | _ => none }
def fnExactSheetsForRow : OpenClaim := { program := "yteimbmjipbjkdaa", sum := "9d09a2cd62fe130d5dd1c3feb157bc4d2c3b0a86ed568eadd47ad8be3caba2e6", func := "loop.example/g01394/laws.FnExactSheetsFor", spec := "fnExactSheetsFor", apart := false }
def FnExactSheetsForSaid : Prop := fnExactSheetsForRow.holds Try.pinned (OpenSpec.ofChange fnExactSheetsForSpec)

/-- ITS FALSE NEIGHBOUR: 'it returns false'. Refute it at one input. -/
def fnExactSheetsForWrong : ChangeSpec := { name := "fnExactSheetsFor", fn := fun _ => fun
  | [d] => { results := [.lit (.bool false)], args := [d] }
  | _ => none }
def FnExactSheetsForWrongFalsely : Prop := fnExactSheetsForRow.holds Try.pinned (OpenSpec.ofChange fnExactSheetsForWrong)

/-- 'laws.FnExactSumOfLeaf': WHATEVER THE INPUT: true; the input reads as it did. -/
def fnExactSumOfLeafSpec : ChangeSpec := { name := "fnExactSumOfLeaf", fn := fun _ => fun
  | [d] => { results := [.lit (.bool true)], args := [d] }
  | _ => none }
def fnExactSumOfLeafRow : OpenClaim := { program := "yteimbmjipbjkdaa", sum := "9d09a2cd62fe130d5dd1c3feb157bc4d2c3b0a86ed568eadd47ad8be3caba2e6", func := "loop.example/g01394/laws.FnExactSumOfLeaf", spec := "fnExactSumOfLeaf", apart := false }
def FnExactSumOfLeafSaid : Prop := fnExactSumOfLeafRow.holds Try.pinned (OpenSpec.ofChange fnExactSumOfLeafSpec)

/-- ITS FALSE NEIGHBOUR: 'it returns false'. Refute it at one input. -/
def fnExactSumOfLeafWrong : ChangeSpec := { name := "fnExactSumOfLeaf", fn := fun _ => fun
  | [d] => { results := [.lit (.bool false)], args := [d] }
  | _ => none }
def FnExactSumOfLeafWrongFalsely : Prop := fnExactSumOfLeafRow.holds Try.pinned (OpenSpec.ofChange fnExactSumOfLeafWrong)

/-- 'laws.FnExactPartnerPage': WHATEVER THE INPUT: true; the input reads as it did. -/
def fnExactPartnerPageSpec : ChangeSpec := { name := "fnExactPartnerPage", fn := fun _ => fun
  | [d1, d2] => { results := [.lit (.bool true)], args := [d1, d2] }
  | _ => none }
def fnExactPartnerPageRow : OpenClaim := { program := "yteimbmjipbjkdaa", sum := "9d09a2cd62fe130d5dd1c3feb157bc4d2c3b0a86ed568eadd47ad8be3caba2e6", func := "loop.example/g01394/laws.FnExactPartnerPage", spec := "fnExactPartnerPage", apart := false }
def FnExactPartnerPageSaid : Prop := fnExactPartnerPageRow.holds Try.pinned (OpenSpec.ofChange fnExactPartnerPageSpec)

/-- ITS FALSE NEIGHBOUR: 'it returns false'. Refute it at one input. -/
def fnExactPartnerPageWrong : ChangeSpec := { name := "fnExactPartnerPage", fn := fun _ => fun
  | [d1, d2] => { results := [.lit (.bool false)], args := [d1, d2] }
  | _ => none }
def FnExactPartnerPageWrongFalsely : Prop := fnExactPartnerPageRow.holds Try.pinned (OpenSpec.ofChange fnExactPartnerPageWrong)

/-- 'laws.FnExactSignatureOfPage': WHATEVER THE INPUT: true; the input reads as it did. -/
def fnExactSignatureOfPageSpec : ChangeSpec := { name := "fnExactSignatureOfPage", fn := fun _ => fun
  | [d1, d2, d3] => { results := [.lit (.bool true)], args := [d1, d2, d3] }
  | _ => none }
def fnExactSignatureOfPageRow : OpenClaim := { program := "yteimbmjipbjkdaa", sum := "9d09a2cd62fe130d5dd1c3feb157bc4d2c3b0a86ed568eadd47ad8be3caba2e6", func := "loop.example/g01394/laws.FnExactSignatureOfPage", spec := "fnExactSignatureOfPage", apart := false }
def FnExactSignatureOfPageSaid : Prop := fnExactSignatureOfPageRow.holds Try.pinned (OpenSpec.ofChange fnExactSignatureOfPageSpec)

/-- ITS FALSE NEIGHBOUR: 'it returns false'. Refute it at one input. -/
def fnExactSignatureOfPageWrong : ChangeSpec := { name := "fnExactSignatureOfPage", fn := fun _ => fun
  | [d1, d2, d3] => { results := [.lit (.bool false)], args := [d1, d2, d3] }
  | _ => none }
def FnExactSignatureOfPageWrongFalsely : Prop := fnExactSignatureOfPageRow.holds Try.pinned (OpenSpec.ofChange fnExactSignatureOfPageWrong)

/- THE SECOND FORM. 'bulk': how many values and letters a reading holds, each counted each time it is reached (what is shared counts as often as it is met; a slice's spare places count too). A statement '..UptoSaid' is the law's where the arguments, and the package variables that the reading takes, are together of bulk at most 1048576: NARROWER than '..Said'. Prove '..Said' where nothing that the law and all that it calls make is longer than what came in: it says more and counts as full. Else prove '..UptoSaid'. A law counts once. -/
mutual
def uptoBulk {H : Type} : DataW H → Nat
  | .lit (.string bytes) => bytes.length + 1
  | .lit _ => 1
  | .nil => 1
  | .ptr d => uptoBulk d + 1
  | .slice elems spare => uptoBulkAll elems + uptoBulkAll spare + 1
  | .agg parts => uptoBulkAll parts + 1
  | .iface _ d => uptoBulk d + 1
  | .map entries => uptoBulkEntries entries + 1
  | .held _ => 1
def uptoBulkAll {H : Type} : List (DataW H) → Nat
  | [] => 0
  | d :: r => uptoBulk d + uptoBulkAll r
def uptoBulkEntries {H : Type} : List (Lit × DataW H) → Nat
  | [] => 0
  | x :: r => uptoBulkEntry x + uptoBulkEntries r
def uptoBulkEntry {H : Type} : Lit × DataW H → Nat
  | (.string bytes, d) => bytes.length + uptoBulk d + 1
  | (_, d) => uptoBulk d + 1
 end
def uptoSmall : (H : Type) → List (DataW H) → Bool := fun _ ds => decide (uptoBulkAll ds ≤ 1048576)
def OpenSpec.upto (s : _root_.Go.ChangeSpec) : _root_.Go.OpenSpec := { _root_.Go.OpenSpec.ofChange s with cond := some uptoSmall }

/-- 'laws.FnExactConstants', WHERE WHAT IT READS IS OF BULK AT MOST 1048576: true; the input reads as it did. -/
def fnExactConstantsUptoRow : OpenClaim := { program := "yteimbmjipbjkdaa", sum := "9d09a2cd62fe130d5dd1c3feb157bc4d2c3b0a86ed568eadd47ad8be3caba2e6", func := "loop.example/g01394/laws.FnExactConstants", spec := "fnExactConstants", apart := false, narrowed := true }
def FnExactConstantsUptoSaid : Prop := fnExactConstantsUptoRow.holds Try.pinned (OpenSpec.upto fnExactConstantsSpec)

/-- 'laws.FnExactIsPage', WHERE WHAT IT READS IS OF BULK AT MOST 1048576: true; the input reads as it did. -/
def fnExactIsPageUptoRow : OpenClaim := { program := "yteimbmjipbjkdaa", sum := "9d09a2cd62fe130d5dd1c3feb157bc4d2c3b0a86ed568eadd47ad8be3caba2e6", func := "loop.example/g01394/laws.FnExactIsPage", spec := "fnExactIsPage", apart := false, narrowed := true }
def FnExactIsPageUptoSaid : Prop := fnExactIsPageUptoRow.holds Try.pinned (OpenSpec.upto fnExactIsPageSpec)

/-- 'laws.FnExactIsReader', WHERE WHAT IT READS IS OF BULK AT MOST 1048576: true; the input reads as it did. -/
def fnExactIsReaderUptoRow : OpenClaim := { program := "yteimbmjipbjkdaa", sum := "9d09a2cd62fe130d5dd1c3feb157bc4d2c3b0a86ed568eadd47ad8be3caba2e6", func := "loop.example/g01394/laws.FnExactIsReader", spec := "fnExactIsReader", apart := false, narrowed := true }
def FnExactIsReaderUptoSaid : Prop := fnExactIsReaderUptoRow.holds Try.pinned (OpenSpec.upto fnExactIsReaderSpec)

/-- 'laws.FnExactIsRightPage', WHERE WHAT IT READS IS OF BULK AT MOST 1048576: true; the input reads as it did. -/
def fnExactIsRightPageUptoRow : OpenClaim := { program := "yteimbmjipbjkdaa", sum := "9d09a2cd62fe130d5dd1c3feb157bc4d2c3b0a86ed568eadd47ad8be3caba2e6", func := "loop.example/g01394/laws.FnExactIsRightPage", spec := "fnExactIsRightPage", apart := false, narrowed := true }
def FnExactIsRightPageUptoSaid : Prop := fnExactIsRightPageUptoRow.holds Try.pinned (OpenSpec.upto fnExactIsRightPageSpec)

/-- 'laws.FnExactLeafOfPage', WHERE WHAT IT READS IS OF BULK AT MOST 1048576: true; the input reads as it did. -/
def fnExactLeafOfPageUptoRow : OpenClaim := { program := "yteimbmjipbjkdaa", sum := "9d09a2cd62fe130d5dd1c3feb157bc4d2c3b0a86ed568eadd47ad8be3caba2e6", func := "loop.example/g01394/laws.FnExactLeafOfPage", spec := "fnExactLeafOfPage", apart := false, narrowed := true }
def FnExactLeafOfPageUptoSaid : Prop := fnExactLeafOfPageUptoRow.holds Try.pinned (OpenSpec.upto fnExactLeafOfPageSpec)

/-- 'laws.FnExactLeavesOfBook', WHERE WHAT IT READS IS OF BULK AT MOST 1048576: true; the input reads as it did. -/
def fnExactLeavesOfBookUptoRow : OpenClaim := { program := "yteimbmjipbjkdaa", sum := "9d09a2cd62fe130d5dd1c3feb157bc4d2c3b0a86ed568eadd47ad8be3caba2e6", func := "loop.example/g01394/laws.FnExactLeavesOfBook", spec := "fnExactLeavesOfBook", apart := false, narrowed := true }
def FnExactLeavesOfBookUptoSaid : Prop := fnExactLeavesOfBookUptoRow.holds Try.pinned (OpenSpec.upto fnExactLeavesOfBookSpec)

/-- 'laws.FnExactMiddlePages', WHERE WHAT IT READS IS OF BULK AT MOST 1048576: true; the input reads as it did. -/
def fnExactMiddlePagesUptoRow : OpenClaim := { program := "yteimbmjipbjkdaa", sum := "9d09a2cd62fe130d5dd1c3feb157bc4d2c3b0a86ed568eadd47ad8be3caba2e6", func := "loop.example/g01394/laws.FnExactMiddlePages", spec := "fnExactMiddlePages", apart := false, narrowed := true }
def FnExactMiddlePagesUptoSaid : Prop := fnExactMiddlePagesUptoRow.holds Try.pinned (OpenSpec.upto fnExactMiddlePagesSpec)

/-- 'laws.FnExactPagesOfLeaf', WHERE WHAT IT READS IS OF BULK AT MOST 1048576: true; the input reads as it did. -/
def fnExactPagesOfLeafUptoRow : OpenClaim := { program := "yteimbmjipbjkdaa", sum := "9d09a2cd62fe130d5dd1c3feb157bc4d2c3b0a86ed568eadd47ad8be3caba2e6", func := "loop.example/g01394/laws.FnExactPagesOfLeaf", spec := "fnExactPagesOfLeaf", apart := false, narrowed := true }
def FnExactPagesOfLeafUptoSaid : Prop := fnExactPagesOfLeafUptoRow.holds Try.pinned (OpenSpec.upto fnExactPagesOfLeafSpec)

/-- 'laws.FnExactSheetsFor', WHERE WHAT IT READS IS OF BULK AT MOST 1048576: true; the input reads as it did. -/
def fnExactSheetsForUptoRow : OpenClaim := { program := "yteimbmjipbjkdaa", sum := "9d09a2cd62fe130d5dd1c3feb157bc4d2c3b0a86ed568eadd47ad8be3caba2e6", func := "loop.example/g01394/laws.FnExactSheetsFor", spec := "fnExactSheetsFor", apart := false, narrowed := true }
def FnExactSheetsForUptoSaid : Prop := fnExactSheetsForUptoRow.holds Try.pinned (OpenSpec.upto fnExactSheetsForSpec)

/-- 'laws.FnExactSumOfLeaf', WHERE WHAT IT READS IS OF BULK AT MOST 1048576: true; the input reads as it did. -/
def fnExactSumOfLeafUptoRow : OpenClaim := { program := "yteimbmjipbjkdaa", sum := "9d09a2cd62fe130d5dd1c3feb157bc4d2c3b0a86ed568eadd47ad8be3caba2e6", func := "loop.example/g01394/laws.FnExactSumOfLeaf", spec := "fnExactSumOfLeaf", apart := false, narrowed := true }
def FnExactSumOfLeafUptoSaid : Prop := fnExactSumOfLeafUptoRow.holds Try.pinned (OpenSpec.upto fnExactSumOfLeafSpec)

/-- 'laws.FnExactPartnerPage', WHERE WHAT IT READS IS OF BULK AT MOST 1048576: true; the input reads as it did. -/
def fnExactPartnerPageUptoRow : OpenClaim := { program := "yteimbmjipbjkdaa", sum := "9d09a2cd62fe130d5dd1c3feb157bc4d2c3b0a86ed568eadd47ad8be3caba2e6", func := "loop.example/g01394/laws.FnExactPartnerPage", spec := "fnExactPartnerPage", apart := false, narrowed := true }
def FnExactPartnerPageUptoSaid : Prop := fnExactPartnerPageUptoRow.holds Try.pinned (OpenSpec.upto fnExactPartnerPageSpec)

/-- 'laws.FnExactSignatureOfPage', WHERE WHAT IT READS IS OF BULK AT MOST 1048576: true; the input reads as it did. -/
def fnExactSignatureOfPageUptoRow : OpenClaim := { program := "yteimbmjipbjkdaa", sum := "9d09a2cd62fe130d5dd1c3feb157bc4d2c3b0a86ed568eadd47ad8be3caba2e6", func := "loop.example/g01394/laws.FnExactSignatureOfPage", spec := "fnExactSignatureOfPage", apart := false, narrowed := true }
def FnExactSignatureOfPageUptoSaid : Prop := fnExactSignatureOfPageUptoRow.holds Try.pinned (OpenSpec.upto fnExactSignatureOfPageSpec)

end Rows
end Go.Proofs.Yteimbmjipbjkdaa
