/-
  No cell of these rows narrows 'for every input' (looked for: loops, veiled, ifaces, maps, wideKeys, modest, calm, conditions, laid).
  DERIVED. THE GIVEN ROWS OF THIS SEAT. 3 by the template 'for every input the law returns true; each argument reads behind the call as it read before'; 0 by the template 'total and deterministic' (their statements: YtjkfgeigicljpaaTotals.lean).
  GIVEN WITH THE SEED: the statements are not yours to turn. If you find one false, say at which input.
  Laid BY PROGRAM, IN A SANDBOX (cutbox-rows.mjs): the forced cells as the released guide's own fill.sh prints them over the translation 06e6ac2fd4365a9c… (all of the seat's roots in one cut). By AI agents, Wed Nov 11 2026. No macro, syntax, notation, axiom, sorry.
-/
import Derived.Test.YtjkfgeigicljpaaChecked
import GoSem.Claim
import GoSem.ClaimJoined
import GoSem.ClaimMapViews
import Derived.JoinedTies
import Derived.KernelRfl
namespace Go.Proofs.Ytjkfgeigicljpaa
/- THE CELL 'sum', in the pinned program and in every row, IS THE sha256 OF THE DUMP (.gsa) THAT YtjkfgeigicljpaaProg.lean LOADS. Nothing in Lean hashes anything: it is a label: what it is worth is what the hold of that sum in a sandbox is worth. -/
noncomputable def Try.pinned : Pinned := { name := "ytjkfgeigicljpaa", sum := "06e6ac2fd4365a9cb0a8757e9b768ea23df9a3e36b68b3ae458d60b007170861", checked := Try.checked }
namespace Rows
def none {H : Type} : Left H := { results := [], args := [] }

/-- 'laws.FnFoldsStack': WHATEVER THE INPUT: true; the input reads as it did. -/
def fnFoldsStackSpec : ChangeSpec := { name := "fnFoldsStack", fn := fun _ => fun
  | [d1, d2] => { results := [.lit (.bool true)], args := [d1, d2] }
  | _ => none }
def fnFoldsStackRow : OpenClaim := { program := "ytjkfgeigicljpaa", sum := "06e6ac2fd4365a9cb0a8757e9b768ea23df9a3e36b68b3ae458d60b007170861", func := "loop.example/g01394/laws.FnFoldsStack", spec := "fnFoldsStack", inPlace := ["internal/abi.NoEscape", "internal/bytealg.MakeNoZero"], apart := false }
def FnFoldsStackSaid : Prop := fnFoldsStackRow.holds Try.pinned (OpenSpec.ofChange fnFoldsStackSpec)

/-- ITS FALSE NEIGHBOUR: 'it returns false'. Refute it at one input. -/
def fnFoldsStackWrong : ChangeSpec := { name := "fnFoldsStack", fn := fun _ => fun
  | [d1, d2] => { results := [.lit (.bool false)], args := [d1, d2] }
  | _ => none }
def FnFoldsStackWrongFalsely : Prop := fnFoldsStackRow.holds Try.pinned (OpenSpec.ofChange fnFoldsStackWrong)

/-- 'laws.FnFoldsPrint': WHATEVER THE INPUT: true; the input reads as it did. -/
def fnFoldsPrintSpec : ChangeSpec := { name := "fnFoldsPrint", fn := fun _ => fun
  | [d1, d2] => { results := [.lit (.bool true)], args := [d1, d2] }
  | _ => none }
def fnFoldsPrintRow : OpenClaim := { program := "ytjkfgeigicljpaa", sum := "06e6ac2fd4365a9cb0a8757e9b768ea23df9a3e36b68b3ae458d60b007170861", func := "loop.example/g01394/laws.FnFoldsPrint", spec := "fnFoldsPrint", apart := false }
def FnFoldsPrintSaid : Prop := fnFoldsPrintRow.holds Try.pinned (OpenSpec.ofChange fnFoldsPrintSpec)

/-- ITS FALSE NEIGHBOUR: 'it returns false'. Refute it at one input. -/
def fnFoldsPrintWrong : ChangeSpec := { name := "fnFoldsPrint", fn := fun _ => fun
  | [d1, d2] => { results := [.lit (.bool false)], args := [d1, d2] }
  | _ => none }
def FnFoldsPrintWrongFalsely : Prop := fnFoldsPrintRow.holds Try.pinned (OpenSpec.ofChange fnFoldsPrintWrong)

/-- 'laws.FnLeavesTorn': WHATEVER THE INPUT: true; the input reads as it did. -/
def fnLeavesTornSpec : ChangeSpec := { name := "fnLeavesTorn", fn := fun _ => fun
  | [d1, d2] => { results := [.lit (.bool true)], args := [d1, d2] }
  | _ => none }
def fnLeavesTornRow : OpenClaim := { program := "ytjkfgeigicljpaa", sum := "06e6ac2fd4365a9cb0a8757e9b768ea23df9a3e36b68b3ae458d60b007170861", func := "loop.example/g01394/laws.FnLeavesTorn", spec := "fnLeavesTorn", apart := false }
def FnLeavesTornSaid : Prop := fnLeavesTornRow.holds Try.pinned (OpenSpec.ofChange fnLeavesTornSpec)

/-- ITS FALSE NEIGHBOUR: 'it returns false'. Refute it at one input. -/
def fnLeavesTornWrong : ChangeSpec := { name := "fnLeavesTorn", fn := fun _ => fun
  | [d1, d2] => { results := [.lit (.bool false)], args := [d1, d2] }
  | _ => none }
def FnLeavesTornWrongFalsely : Prop := fnLeavesTornRow.holds Try.pinned (OpenSpec.ofChange fnLeavesTornWrong)

/- THE SECOND FORM. 'bulk': how many values and letters a reading holds, each counted each time it is reached (what is shared counts as often as it is met; a slice's spare places count too). A statement '..UptoSaid' is the law's where the arguments, and the package variables that the reading takes, are together of bulk at most 1048576: NARROWER than '..Said'. Prove '..Said' where nothing that the law and all that it calls make is longer than what came in: it says more and counts as full. Else prove '..UptoSaid'. A law counts once. -/
mutual
def uptoBulk {H : Type} : DataW H → Nat
  | .lit (.string bytes) => bytes.length + 1
  | .lit _ => 1
  | .nil => 1
  | .ptr d => uptoBulk d + 1
  | .slice elems spare => uptoBulkAll elems + uptoBulkAll spare + 1
  | .agg parts => uptoBulkAll parts + 1
  | .iface _ d => uptoBulk d + 1
  | .map entries => uptoBulkEntries entries + 1
  | .held _ => 1
def uptoBulkAll {H : Type} : List (DataW H) → Nat
  | [] => 0
  | d :: r => uptoBulk d + uptoBulkAll r
def uptoBulkEntries {H : Type} : List (Lit × DataW H) → Nat
  | [] => 0
  | x :: r => uptoBulkEntry x + uptoBulkEntries r
def uptoBulkEntry {H : Type} : Lit × DataW H → Nat
  | (.string bytes, d) => bytes.length + uptoBulk d + 1
  | (_, d) => uptoBulk d + 1
 end
def uptoSmall : (H : Type) → List (DataW H) → Bool := fun _ ds => decide (uptoBulkAll ds ≤ 1048576)
def OpenSpec.upto (s : _root_.Go.ChangeSpec) : _root_.Go.OpenSpec := { _root_.Go.OpenSpec.ofChange s with cond := some uptoSmall }

/-- 'laws.FnFoldsStack', WHERE WHAT IT READS IS OF BULK AT MOST 1048576: true; the input reads as it did. -/
def fnFoldsStackUptoRow : OpenClaim := { program := "ytjkfgeigicljpaa", sum := "06e6ac2fd4365a9cb0a8757e9b768ea23df9a3e36b68b3ae458d60b007170861", func := "loop.example/g01394/laws.FnFoldsStack", spec := "fnFoldsStack", inPlace := ["internal/abi.NoEscape", "internal/bytealg.MakeNoZero"], apart := false, narrowed := true }
def FnFoldsStackUptoSaid : Prop := fnFoldsStackUptoRow.holds Try.pinned (OpenSpec.upto fnFoldsStackSpec)

/-- 'laws.FnFoldsPrint', WHERE WHAT IT READS IS OF BULK AT MOST 1048576: true; the input reads as it did. -/
def fnFoldsPrintUptoRow : OpenClaim := { program := "ytjkfgeigicljpaa", sum := "06e6ac2fd4365a9cb0a8757e9b768ea23df9a3e36b68b3ae458d60b007170861", func := "loop.example/g01394/laws.FnFoldsPrint", spec := "fnFoldsPrint", apart := false, narrowed := true }
def FnFoldsPrintUptoSaid : Prop := fnFoldsPrintUptoRow.holds Try.pinned (OpenSpec.upto fnFoldsPrintSpec)

/-- 'laws.FnLeavesTorn', WHERE WHAT IT READS IS OF BULK AT MOST 1048576: true; the input reads as it did. -/
def fnLeavesTornUptoRow : OpenClaim := { program := "ytjkfgeigicljpaa", sum := "06e6ac2fd4365a9cb0a8757e9b768ea23df9a3e36b68b3ae458d60b007170861", func := "loop.example/g01394/laws.FnLeavesTorn", spec := "fnLeavesTorn", apart := false, narrowed := true }
def FnLeavesTornUptoSaid : Prop := fnLeavesTornUptoRow.holds Try.pinned (OpenSpec.upto fnLeavesTornSpec)

end Rows
end Go.Proofs.Ytjkfgeigicljpaa
