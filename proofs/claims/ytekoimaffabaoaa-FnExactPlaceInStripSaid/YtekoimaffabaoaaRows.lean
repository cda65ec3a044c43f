/-
  No cell of these rows narrows 'for every input' (looked for: loops, veiled, ifaces, maps, wideKeys, modest, calm, conditions, laid).
  DERIVED. THE GIVEN ROWS OF THIS SEAT. 12 by the template 'for every input the law returns true; each argument reads behind the call as it read before'; 0 by the template 'total and deterministic' (their statements: YtekoimaffabaoaaTotals.lean).
  GIVEN WITH THE SEED: the statements are not yours to turn. If you find one false, say at which input.
  Laid BY PROGRAM, IN A SANDBOX (cutbox-rows.mjs): the forced cells as the released guide's own fill.sh prints them over the translation 7479cb84f0488ec8… (all of the seat's roots in one cut). By AI agents, Wed Nov 11 2026. No macro, syntax, notation, axiom, sorry.
-/
import Derived.Test.YtekoimaffabaoaaChecked
import GoSem.Claim
import GoSem.ClaimJoined
import GoSem.ClaimMapViews
import Derived.JoinedTies
import Derived.KernelRfl
namespace Go.Proofs.Ytekoimaffabaoaa
/- THE CELL 'sum', in the pinned program and in every row, IS THE sha256 OF THE DUMP (.gsa) THAT YtekoimaffabaoaaProg.lean LOADS. Nothing in Lean hashes anything: it is a label: what it is worth is what the hold of that sum in a sandbox is worth. -/
noncomputable def Try.pinned : Pinned := { name := "ytekoimaffabaoaa", sum := "7479cb84f0488ec83637d53de3128d86994dfa7492a9c3828e2fa83724d09d94", checked := Try.checked }
namespace Rows
def none {H : Type} : Left H := { results := [], args := [] }

/-- 'laws.FnExactBestPer': WHATEVER THE INPUT: true; the input reads as it did. -/
def fnExactBestPerSpec : ChangeSpec := { name := "fnExactBestPer", fn := fun _ => fun
  | [d1, d2] => { results := [.lit (.bool true)], args := [d1, d2] }
  | _ => none }
def fnExactBestPerRow : OpenClaim := { program := "ytekoimaffabaoaa", sum := "7479cb84f0488ec83637d53de3128d86994dfa7492a9c3828e2fa83724d09d94", func := "loop.example/g01394/laws.FnExactBestPer", spec := "fnExactBestPer", apart := false }
def FnExactBestPerSaid : Prop := fnExactBestPerRow.holds Try.pinned (OpenSpec.ofChange fnExactBestPerSpec)

/-- ITS FALSE NEIGHBOUR: 'it returns false'. Refute it at one input. -/
def fnExactBestPerWrong : ChangeSpec := { name := "fnExactBestPer", fn := fun _ => fun
  | [d1, d2] => { results := [.lit (.bool false)], args := [d1, d2] }
  | _ => none }
def FnExactBestPerWrongFalsely : Prop := fnExactBestPerRow.holds Try.pinned (OpenSpec.ofChange fnExactBestPerWrong)

/-- 'laws.FnExactSheetOfPartners': WHATEVER THE INPUT: true; the input reads as it did. -/
def fnExactSheetOfPartnersSpec : ChangeSpec := { name := "fnExactSheetOfPartners", fn := fun _ => fun
  | [d1, d2, d3] => { results := [.lit (.bool true)], args := [d1, d2, d3] }
  | _ => none }
def fnExactSheetOfPartnersRow : OpenClaim := { program := "ytekoimaffabaoaa", sum := "7479cb84f0488ec83637d53de3128d86994dfa7492a9c3828e2fa83724d09d94", func := "loop.example/g01394/laws.FnExactSheetOfPartners", spec := "fnExactSheetOfPartners", apart := false }
def FnExactSheetOfPartnersSaid : Prop := fnExactSheetOfPartnersRow.holds Try.pinned (OpenSpec.ofChange fnExactSheetOfPartnersSpec)

/-- ITS FALSE NEIGHBOUR: 'it returns false'. Refute it at one input. -/
def fnExactSheetOfPartnersWrong : ChangeSpec := { name := "fnExactSheetOfPartners", fn := fun _ => fun
  | [d1, d2, d3] => { results := [.lit (.bool false)], args := [d1, d2, d3] }
  | _ => none }
def FnExactSheetOfPartnersWrongFalsely : Prop := fnExactSheetOfPartnersRow.holds Try.pinned (OpenSpec.ofChange fnExactSheetOfPartnersWrong)

/-- 'laws.FnExactPlaceOfPage': WHATEVER THE INPUT: true; the input reads as it did. -/
def fnExactPlaceOfPageSpec : ChangeSpec := { name := "fnExactPlaceOfPage", fn := fun _ => fun
  | [d1, d2] => { results := [.lit (.bool true)], args := [d1, d2] }
  | _ => none }
def fnExactPlaceOfPageRow : OpenClaim := { program := "ytekoimaffabaoaa", sum := "7479cb84f0488ec83637d53de3128d86994dfa7492a9c3828e2fa83724d09d94", func := "loop.example/g01394/laws.FnExactPlaceOfPage", spec := "fnExactPlaceOfPage", apart := false }
def FnExactPlaceOfPageSaid : Prop := fnExactPlaceOfPageRow.holds Try.pinned (OpenSpec.ofChange fnExactPlaceOfPageSpec)

/-- ITS FALSE NEIGHBOUR: 'it returns false'. Refute it at one input. -/
def fnExactPlaceOfPageWrong : ChangeSpec := { name := "fnExactPlaceOfPage", fn := fun _ => fun
  | [d1, d2] => { results := [.lit (.bool false)], args := [d1, d2] }
  | _ => none }
def FnExactPlaceOfPageWrongFalsely : Prop := fnExactPlaceOfPageRow.holds Try.pinned (OpenSpec.ofChange fnExactPlaceOfPageWrong)

/-- 'laws.FnExactFirstForRising': WHATEVER THE INPUT: true; the input reads as it did. -/
def fnExactFirstForRisingSpec : ChangeSpec := { name := "fnExactFirstForRising", fn := fun _ => fun
  | [d1, d2, d3] => { results := [.lit (.bool true)], args := [d1, d2, d3] }
  | _ => none }
def fnExactFirstForRisingRow : OpenClaim := { program := "ytekoimaffabaoaa", sum := "7479cb84f0488ec83637d53de3128d86994dfa7492a9c3828e2fa83724d09d94", func := "loop.example/g01394/laws.FnExactFirstForRising", spec := "fnExactFirstForRising", apart := false }
def FnExactFirstForRisingSaid : Prop := fnExactFirstForRisingRow.holds Try.pinned (OpenSpec.ofChange fnExactFirstForRisingSpec)

/-- ITS FALSE NEIGHBOUR: 'it returns false'. Refute it at one input. -/
def fnExactFirstForRisingWrong : ChangeSpec := { name := "fnExactFirstForRising", fn := fun _ => fun
  | [d1, d2, d3] => { results := [.lit (.bool false)], args := [d1, d2, d3] }
  | _ => none }
def FnExactFirstForRisingWrongFalsely : Prop := fnExactFirstForRisingRow.holds Try.pinned (OpenSpec.ofChange fnExactFirstForRisingWrong)

/-- 'laws.FnExactSewnOpenings': WHATEVER THE INPUT: true; the input reads as it did. -/
def fnExactSewnOpeningsSpec : ChangeSpec := { name := "fnExactSewnOpenings", fn := fun _ => fun
  | [d1, d2] => { results := [.lit (.bool true)], args := [d1, d2] }
  | _ => none }
def fnExactSewnOpeningsRow : OpenClaim := { program := "ytekoimaffabaoaa", sum := "7479cb84f0488ec83637d53de3128d86994dfa7492a9c3828e2fa83724d09d94", func := "loop.example/g01394/laws.FnExactSewnOpenings", spec := "fnExactSewnOpenings", apart := false }
def FnExactSewnOpeningsSaid : Prop := fnExactSewnOpeningsRow.holds Try.pinned (OpenSpec.ofChange fnExactSewnOpeningsSpec)

/-- ITS FALSE NEIGHBOUR: 'it returns false'. Refute it at one input. -/
def fnExactSewnOpeningsWrong : ChangeSpec := { name := "fnExactSewnOpenings", fn := fun _ => fun
  | [d1, d2] => { results := [.lit (.bool false)], args := [d1, d2] }
  | _ => none }
def FnExactSewnOpeningsWrongFalsely : Prop := fnExactSewnOpeningsRow.holds Try.pinned (OpenSpec.ofChange fnExactSewnOpeningsWrong)

/-- 'laws.FnExactCountTornTwo': WHATEVER THE INPUT: true; the input reads as it did. -/
def fnExactCountTornTwoSpec : ChangeSpec := { name := "fnExactCountTornTwo", fn := fun _ => fun
  | [d1, d2] => { results := [.lit (.bool true)], args := [d1, d2] }
  | _ => none }
def fnExactCountTornTwoRow : OpenClaim := { program := "ytekoimaffabaoaa", sum := "7479cb84f0488ec83637d53de3128d86994dfa7492a9c3828e2fa83724d09d94", func := "loop.example/g01394/laws.FnExactCountTornTwo", spec := "fnExactCountTornTwo", apart := false }
def FnExactCountTornTwoSaid : Prop := fnExactCountTornTwoRow.holds Try.pinned (OpenSpec.ofChange fnExactCountTornTwoSpec)

/-- ITS FALSE NEIGHBOUR: 'it returns false'. Refute it at one input. -/
def fnExactCountTornTwoWrong : ChangeSpec := { name := "fnExactCountTornTwo", fn := fun _ => fun
  | [d1, d2] => { results := [.lit (.bool false)], args := [d1, d2] }
  | _ => none }
def FnExactCountTornTwoWrongFalsely : Prop := fnExactCountTornTwoRow.holds Try.pinned (OpenSpec.ofChange fnExactCountTornTwoWrong)

/-- 'laws.FnExactFirstTornTwo': WHATEVER THE INPUT: true; the input reads as it did. -/
def fnExactFirstTornTwoSpec : ChangeSpec := { name := "fnExactFirstTornTwo", fn := fun _ => fun
  | [d1, d2] => { results := [.lit (.bool true)], args := [d1, d2] }
  | _ => none }
def fnExactFirstTornTwoRow : OpenClaim := { program := "ytekoimaffabaoaa", sum := "7479cb84f0488ec83637d53de3128d86994dfa7492a9c3828e2fa83724d09d94", func := "loop.example/g01394/laws.FnExactFirstTornTwo", spec := "fnExactFirstTornTwo", apart := false }
def FnExactFirstTornTwoSaid : Prop := fnExactFirstTornTwoRow.holds Try.pinned (OpenSpec.ofChange fnExactFirstTornTwoSpec)

/-- ITS FALSE NEIGHBOUR: 'it returns false'. Refute it at one input. -/
def fnExactFirstTornTwoWrong : ChangeSpec := { name := "fnExactFirstTornTwo", fn := fun _ => fun
  | [d1, d2] => { results := [.lit (.bool false)], args := [d1, d2] }
  | _ => none }
def FnExactFirstTornTwoWrongFalsely : Prop := fnExactFirstTornTwoRow.holds Try.pinned (OpenSpec.ofChange fnExactFirstTornTwoWrong)

/-- 'laws.FnExactPrintOrder': WHATEVER THE INPUT: true; the input reads as it did. -/
def fnExactPrintOrderSpec : ChangeSpec := { name := "fnExactPrintOrder", fn := fun _ => fun
  | [d] => { results := [.lit (.bool true)], args := [d] }
  | _ => none }
def fnExactPrintOrderRow : OpenClaim := { program := "ytekoimaffabaoaa", sum := "7479cb84f0488ec83637d53de3128d86994dfa7492a9c3828e2fa83724d09d94", func := "loop.example/g01394/laws.FnExactPrintOrder", spec := "fnExactPrintOrder", apart := false }
def FnExactPrintOrderSaid : Prop := fnExactPrintOrderRow.holds Try.pinned (OpenSpec.ofChange fnExactPrintOrderSpec)

/-- ITS FALSE NEIGHBOUR: 'it returns false'. Refute it at one input. -/
def fnExactPrintOrderWrong : ChangeSpec := { name := "fnExactPrintOrder", fn := fun _ => fun
  | [d] => { results := [.lit (.bool false)], args := [d] }
  | _ => none }
def FnExactPrintOrderWrongFalsely : Prop := fnExactPrintOrderRow.holds Try.pinned (OpenSpec.ofChange fnExactPrintOrderWrong)

/-- 'laws.FnExactPlaceInStrip': WHATEVER THE INPUT: true; the input reads as it did. -/
def fnExactPlaceInStripSpec : ChangeSpec := { name := "fnExactPlaceInStrip", fn := fun _ => fun
  | [d1, d2] => { results := [.lit (.bool true)], args := [d1, d2] }
  | _ => none }
def fnExactPlaceInStripRow : OpenClaim := { program := "ytekoimaffabaoaa", sum := "7479cb84f0488ec83637d53de3128d86994dfa7492a9c3828e2fa83724d09d94", func := "loop.example/g01394/laws.FnExactPlaceInStrip", spec := "fnExactPlaceInStrip", apart := false }
def FnExactPlaceInStripSaid : Prop := fnExactPlaceInStripRow.holds Try.pinned (OpenSpec.ofChange fnExactPlaceInStripSpec)

/-- ITS FALSE NEIGHBOUR: 'it returns false'. Refute it at one input. -/
def fnExactPlaceInStripWrong : ChangeSpec := { name := "fnExactPlaceInStrip", fn := fun _ => fun
  | [d1, d2] => { results := [.lit (.bool false)], args := [d1, d2] }
  | _ => none }
def FnExactPlaceInStripWrongFalsely : Prop := fnExactPlaceInStripRow.holds Try.pinned (OpenSpec.ofChange fnExactPlaceInStripWrong)

/-- 'laws.FnExactStripOrder': WHATEVER THE INPUT: true; the input reads as it did. -/
def fnExactStripOrderSpec : ChangeSpec := { name := "fnExactStripOrder", fn := fun _ => fun
  | [d] => { results := [.lit (.bool true)], args := [d] }
  | _ => none }
def fnExactStripOrderRow : OpenClaim := { program := "ytekoimaffabaoaa", sum := "7479cb84f0488ec83637d53de3128d86994dfa7492a9c3828e2fa83724d09d94", func := "loop.example/g01394/laws.FnExactStripOrder", spec := "fnExactStripOrder", apart := false }
def FnExactStripOrderSaid : Prop := fnExactStripOrderRow.holds Try.pinned (OpenSpec.ofChange fnExactStripOrderSpec)

/-- ITS FALSE NEIGHBOUR: 'it returns false'. Refute it at one input. -/
def fnExactStripOrderWrong : ChangeSpec := { name := "fnExactStripOrder", fn := fun _ => fun
  | [d] => { results := [.lit (.bool false)], args := [d] }
  | _ => none }
def FnExactStripOrderWrongFalsely : Prop := fnExactStripOrderRow.holds Try.pinned (OpenSpec.ofChange fnExactStripOrderWrong)

/-- 'laws.FnExactPagesWithout': WHATEVER THE INPUT: true; the input reads as it did. -/
def fnExactPagesWithoutSpec : ChangeSpec := { name := "fnExactPagesWithout", fn := fun _ => fun
  | [d1, d2] => { results := [.lit (.bool true)], args := [d1, d2] }
  | _ => none }
def fnExactPagesWithoutRow : OpenClaim := { program := "ytekoimaffabaoaa", sum := "7479cb84f0488ec83637d53de3128d86994dfa7492a9c3828e2fa83724d09d94", func := "loop.example/g01394/laws.FnExactPagesWithout", spec := "fnExactPagesWithout", apart := false }
def FnExactPagesWithoutSaid : Prop := fnExactPagesWithoutRow.holds Try.pinned (OpenSpec.ofChange fnExactPagesWithoutSpec)

/-- ITS FALSE NEIGHBOUR: 'it returns false'. Refute it at one input. -/
def fnExactPagesWithoutWrong : ChangeSpec := { name := "fnExactPagesWithout", fn := fun _ => fun
  | [d1, d2] => { results := [.lit (.bool false)], args := [d1, d2] }
  | _ => none }
def FnExactPagesWithoutWrongFalsely : Prop := fnExactPagesWithoutRow.holds Try.pinned (OpenSpec.ofChange fnExactPagesWithoutWrong)

/-- 'laws.FnExactStripLabels': WHATEVER THE INPUT: true; the input reads as it did. -/
def fnExactStripLabelsSpec : ChangeSpec := { name := "fnExactStripLabels", fn := fun _ => fun
  | [d] => { results := [.lit (.bool true)], args := [d] }
  | _ => none }
def fnExactStripLabelsRow : OpenClaim := { program := "ytekoimaffabaoaa", sum := "7479cb84f0488ec83637d53de3128d86994dfa7492a9c3828e2fa83724d09d94", func := "loop.example/g01394/laws.FnExactStripLabels", spec := "fnExactStripLabels", apart := false }
def FnExactStripLabelsSaid : Prop := fnExactStripLabelsRow.holds Try.pinned (OpenSpec.ofChange fnExactStripLabelsSpec)

/-- ITS FALSE NEIGHBOUR: 'it returns false'. Refute it at one input. -/
def fnExactStripLabelsWrong : ChangeSpec := { name := "fnExactStripLabels", fn := fun _ => fun
  | [d] => { results := [.lit (.bool false)], args := [d] }
  | _ => none }
def FnExactStripLabelsWrongFalsely : Prop := fnExactStripLabelsRow.holds Try.pinned (OpenSpec.ofChange fnExactStripLabelsWrong)

/- THE SECOND FORM. 'bulk': how many values and letters a reading holds, each counted each time it is reached (what is shared counts as often as it is met; a slice's spare places count too). A statement '..UptoSaid' is the law's where the arguments, and the package variables that the reading takes, are together of bulk at most 1048576: NARROWER than '..Said'. Prove '..Said' where nothing that the law and all that it calls make is longer than what came in: it says more and counts as full. Else prove '..UptoSaid'. A law counts once. -/
mutual
def uptoBulk {H : Type} : DataW H → Nat
  | .lit (.string bytes) => bytes.length + 1
  | .lit _ => 1
  | .nil => 1
  | .ptr d => uptoBulk d + 1
  | .slice elems spare => uptoBulkAll elems + uptoBulkAll spare + 1
  | .agg parts => uptoBulkAll parts + 1
  | .iface _ d => uptoBulk d + 1
  | .map entries => uptoBulkEntries entries + 1
  | .held _ => 1
def uptoBulkAll {H : Type} : List (DataW H) → Nat
  | [] => 0
  | d :: r => uptoBulk d + uptoBulkAll r
def uptoBulkEntries {H : Type} : List (Lit × DataW H) → Nat
  | [] => 0
  | x :: r => uptoBulkEntry x + uptoBulkEntries r
def uptoBulkEntry {H : Type} : Lit × DataW H → Nat
  | (.string bytes, d) => bytes.length + uptoBulk d + 1
  | (_, d) => uptoBulk d + 1
 end
def uptoSmall : (H : Type) → List (DataW H) → Bool := fun _ ds => decide (uptoBulkAll ds ≤ 1048576)
def OpenSpec.upto (s : _root_.Go.ChangeSpec) : _root_.Go.OpenSpec := { _root_.Go.OpenSpec.ofChange s with cond := some uptoSmall }

/-- 'laws.FnExactBestPer', WHERE WHAT IT READS IS OF BULK AT MOST 1048576: true; the input reads as it did. -/
def fnExactBestPerUptoRow : OpenClaim := { program := "ytekoimaffabaoaa", sum := "7479cb84f0488ec83637d53de3128d86994dfa7492a9c3828e2fa83724d09d94", func := "loop.example/g01394/laws.FnExactBestPer", spec := "fnExactBestPer", apart := false, narrowed := true }
def FnExactBestPerUptoSaid : Prop := fnExactBestPerUptoRow.holds Try.pinned (OpenSpec.upto fnExactBestPerSpec)

/-- 'laws.FnExactSheetOfPartners', WHERE WHAT IT READS IS OF BULK AT MOST 1048576: true; the input reads as it did. -/
def fnExactSheetOfPartnersUptoRow : OpenClaim := { program := "ytekoimaffabaoaa", sum := "7479cb84f0488ec83637d53de3128d86994dfa7492a9c3828e2fa83724d09d94", func := "loop.example/g01394/laws.FnExactSheetOfPartners", spec := "fnExactSheetOfPartners", apart := false, narrowed := true }
def FnExactSheetOfPartnersUptoSaid : Prop := fnExactSheetOfPartnersUptoRow.holds Try.pinned (OpenSpec.upto fnExactSheetOfPartnersSpec)

/-- 'laws.FnExactPlaceOfPage', WHERE WHAT IT READS IS OF BULK AT MOST 1048576: true; the input reads as it did. -/
def fnExactPlaceOfPageUptoRow : OpenClaim := { program := "ytekoimaffabaoaa", sum := "7479cb84f0488ec83637d53de3128d86994dfa7492a9c3828e2fa83724d09d94", func := "loop.example/g01394/laws.FnExactPlaceOfPage", spec := "fnExactPlaceOfPage", apart := false, narrowed := true }
def FnExactPlaceOfPageUptoSaid : Prop := fnExactPlaceOfPageUptoRow.holds Try.pinned (OpenSpec.upto fnExactPlaceOfPageSpec)

/-- 'laws.FnExactFirstForRising', WHERE WHAT IT READS IS OF BULK AT MOST 1048576: true; the input reads as it did. -/
def fnExactFirstForRisingUptoRow : OpenClaim := { program := "ytekoimaffabaoaa", sum := "7479cb84f0488ec83637d53de3128d86994dfa7492a9c3828e2fa83724d09d94", func := "loop.example/g01394/laws.FnExactFirstForRising", spec := "fnExactFirstForRising", apart := false, narrowed := true }
def FnExactFirstForRisingUptoSaid : Prop := fnExactFirstForRisingUptoRow.holds Try.pinned (OpenSpec.upto fnExactFirstForRisingSpec)

/-- 'laws.FnExactSewnOpenings', WHERE WHAT IT READS IS OF BULK AT MOST 1048576: true; the input reads as it did. -/
def fnExactSewnOpeningsUptoRow : OpenClaim := { program := "ytekoimaffabaoaa", sum := "7479cb84f0488ec83637d53de3128d86994dfa7492a9c3828e2fa83724d09d94", func := "loop.example/g01394/laws.FnExactSewnOpenings", spec := "fnExactSewnOpenings", apart := false, narrowed := true }
def FnExactSewnOpeningsUptoSaid : Prop := fnExactSewnOpeningsUptoRow.holds Try.pinned (OpenSpec.upto fnExactSewnOpeningsSpec)

/-- 'laws.FnExactCountTornTwo', WHERE WHAT IT READS IS OF BULK AT MOST 1048576: true; the input reads as it did. -/
def fnExactCountTornTwoUptoRow : OpenClaim := { program := "ytekoimaffabaoaa", sum := "7479cb84f0488ec83637d53de3128d86994dfa7492a9c3828e2fa83724d09d94", func := "loop.example/g01394/laws.FnExactCountTornTwo", spec := "fnExactCountTornTwo", apart := false, narrowed := true }
def FnExactCountTornTwoUptoSaid : Prop := fnExactCountTornTwoUptoRow.holds Try.pinned (OpenSpec.upto fnExactCountTornTwoSpec)

/-- 'laws.FnExactFirstTornTwo', WHERE WHAT IT READS IS OF BULK AT MOST 1048576: true; the input reads as it did. -/
def fnExactFirstTornTwoUptoRow : OpenClaim := { program := "ytekoimaffabaoaa", sum := "7479cb84f0488ec83637d53de3128d86994dfa7492a9c3828e2fa83724d09d94", func := "loop.example/g01394/laws.FnExactFirstTornTwo", spec := "fnExactFirstTornTwo", apart := false, narrowed := true }
def FnExactFirstTornTwoUptoSaid : Prop := fnExactFirstTornTwoUptoRow.holds Try.pinned (OpenSpec.upto fnExactFirstTornTwoSpec)

/-- 'laws.FnExactPrintOrder', WHERE WHAT IT READS IS OF BULK AT MOST 1048576: true; the input reads as it did. -/
def fnExactPrintOrderUptoRow : OpenClaim := { program := "ytekoimaffabaoaa", sum := "7479cb84f0488ec83637d53de3128d86994dfa7492a9c3828e2fa83724d09d94", func := "loop.example/g01394/laws.FnExactPrintOrder", spec := "fnExactPrintOrder", apart := false, narrowed := true }
def FnExactPrintOrderUptoSaid : Prop := fnExactPrintOrderUptoRow.holds Try.pinned (OpenSpec.upto fnExactPrintOrderSpec)

/-- 'laws.FnExactPlaceInStrip', WHERE WHAT IT READS IS OF BULK AT MOST 1048576: true; the input reads as it did. -/
def fnExactPlaceInStripUptoRow : OpenClaim := { program := "ytekoimaffabaoaa", sum := "7479cb84f0488ec83637d53de3128d86994dfa7492a9c3828e2fa83724d09d94", func := "loop.example/g01394/laws.FnExactPlaceInStrip", spec := "fnExactPlaceInStrip", apart := false, narrowed := true }
def FnExactPlaceInStripUptoSaid : Prop := fnExactPlaceInStripUptoRow.holds Try.pinned (OpenSpec.upto fnExactPlaceInStripSpec)

/-- 'laws.FnExactStripOrder', WHERE WHAT IT READS IS OF BULK AT MOST 1048576: true; the input reads as it did. -/
def fnExactStripOrderUptoRow : OpenClaim := { program := "ytekoimaffabaoaa", sum := "7479cb84f0488ec83637d53de3128d86994dfa7492a9c3828e2fa83724d09d94", func := "loop.example/g01394/laws.FnExactStripOrder", spec := "fnExactStripOrder", apart := false, narrowed := true }
def FnExactStripOrderUptoSaid : Prop := fnExactStripOrderUptoRow.holds Try.pinned (OpenSpec.upto fnExactStripOrderSpec)

/-- 'laws.FnExactPagesWithout', WHERE WHAT IT READS IS OF BULK AT MOST 1048576: true; the input reads as it did. -/
def fnExactPagesWithoutUptoRow : OpenClaim := { program := "ytekoimaffabaoaa", sum := "7479cb84f0488ec83637d53de3128d86994dfa7492a9c3828e2fa83724d09d94", func := "loop.example/g01394/laws.FnExactPagesWithout", spec := "fnExactPagesWithout", apart := false, narrowed := true }
def FnExactPagesWithoutUptoSaid : Prop := fnExactPagesWithoutUptoRow.holds Try.pinned (OpenSpec.upto fnExactPagesWithoutSpec)

/-- 'laws.FnExactStripLabels', WHERE WHAT IT READS IS OF BULK AT MOST 1048576: true; the input reads as it did. -/
def fnExactStripLabelsUptoRow : OpenClaim := { program := "ytekoimaffabaoaa", sum := "7479cb84f0488ec83637d53de3128d86994dfa7492a9c3828e2fa83724d09d94", func := "loop.example/g01394/laws.FnExactStripLabels", spec := "fnExactStripLabels", apart := false, narrowed := true }
def FnExactStripLabelsUptoSaid : Prop := fnExactStripLabelsUptoRow.holds Try.pinned (OpenSpec.upto fnExactStripLabelsSpec)

end Rows
end Go.Proofs.Ytekoimaffabaoaa
