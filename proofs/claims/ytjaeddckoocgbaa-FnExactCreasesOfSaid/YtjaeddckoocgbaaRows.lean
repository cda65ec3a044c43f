/-
  No cell of these rows narrows 'for every input' (looked for: loops, veiled, ifaces, maps, wideKeys, modest, calm, conditions, laid).
  DERIVED. THE GIVEN ROWS OF THIS SEAT. 2 by the template 'for every input the law returns true; each argument reads behind the call as it read before'; 0 by the template 'total and deterministic' (their statements: YtjaeddckoocgbaaTotals.lean).
  GIVEN WITH THE SEED: the statements are not yours to turn. If you find one false, say at which input.
  Laid BY PROGRAM, IN A SANDBOX (cutbox-rows.mjs): the forced cells as the released guide's own fill.sh prints them over the translation b5f2229c9b10cf82… (all of the seat's roots in one cut). By AI agents, Wed Nov 11 2026. No macro, syntax, notation, axiom, sorry.
-/
import Derived.Test.YtjaeddckoocgbaaChecked
import GoSem.Claim
import GoSem.ClaimJoined
import GoSem.ClaimMapViews
import Derived.JoinedTies
import Derived.KernelRfl
namespace Go.Proofs.Ytjaeddckoocgbaa
/- THE CELL 'sum', in the pinned program and in every row, IS THE sha256 OF THE DUMP (.gsa) THAT YtjaeddckoocgbaaProg.lean LOADS. Nothing in Lean hashes anything: it is a label: what it is worth is what the hold of that sum in a sandbox is worth. -/
noncomputable def Try.pinned : Pinned := { name := "ytjaeddckoocgbaa", sum := "b5f2229c9b10cf82b8377e7026bf9cbc6d8b5050aef70a1c025d61524d685052", checked := Try.checked }
namespace Rows
def none {H : Type} : Left H := { results := [], args := [] }

/-- 'laws.FnExactCreaseAt': WHATEVER THE INPUT: true; the input reads as it did. -/
def fnExactCreaseAtSpec : ChangeSpec := { name := "fnExactCreaseAt", fn := fun _ => fun
  | [d1, d2] => { results := [.lit (.bool true)], args := [d1, d2] }
  | _ => none }
def fnExactCreaseAtRow : OpenClaim := { program := "ytjaeddckoocgbaa", sum := "b5f2229c9b10cf82b8377e7026bf9cbc6d8b5050aef70a1c025d61524d685052", func := "loop.example/g01394/laws.FnExactCreaseAt", spec := "fnExactCreaseAt", inPlace := ["internal/abi.NoEscape", "internal/bytealg.MakeNoZero"], apart := false }
def FnExactCreaseAtSaid : Prop := fnExactCreaseAtRow.holds Try.pinned (OpenSpec.ofChange fnExactCreaseAtSpec)

/-- ITS FALSE NEIGHBOUR: 'it returns false'. Refute it at one input. -/
def fnExactCreaseAtWrong : ChangeSpec := { name := "fnExactCreaseAt", fn := fun _ => fun
  | [d1, d2] => { results := [.lit (.bool false)], args := [d1, d2] }
  | _ => none }
def FnExactCreaseAtWrongFalsely : Prop := fnExactCreaseAtRow.holds Try.pinned (OpenSpec.ofChange fnExactCreaseAtWrong)

/-- 'laws.FnExactCreasesOf': WHATEVER THE INPUT: true; the input reads as it did. -/
def fnExactCreasesOfSpec : ChangeSpec := { name := "fnExactCreasesOf", fn := fun _ => fun
  | [d] => { results := [.lit (.bool true)], args := [d] }
  | _ => none }
def fnExactCreasesOfRow : OpenClaim := { program := "ytjaeddckoocgbaa", sum := "b5f2229c9b10cf82b8377e7026bf9cbc6d8b5050aef70a1c025d61524d685052", func := "loop.example/g01394/laws.FnExactCreasesOf", spec := "fnExactCreasesOf", inPlace := ["internal/abi.NoEscape", "internal/bytealg.MakeNoZero"], apart := false }
def FnExactCreasesOfSaid : Prop := fnExactCreasesOfRow.holds Try.pinned (OpenSpec.ofChange fnExactCreasesOfSpec)

/-- ITS FALSE NEIGHBOUR: 'it returns false'. Refute it at one input. -/
def fnExactCreasesOfWrong : ChangeSpec := { name := "fnExactCreasesOf", fn := fun _ => fun
  | [d] => { results := [.lit (.bool false)], args := [d] }
  | _ => none }
def FnExactCreasesOfWrongFalsely : Prop := fnExactCreasesOfRow.holds Try.pinned (OpenSpec.ofChange fnExactCreasesOfWrong)

/- THE SECOND FORM. 'bulk': how many values and letters a reading holds, each counted each time it is reached (what is shared counts as often as it is met; a slice's spare places count too). A statement '..UptoSaid' is the law's where the arguments, and the package variables that the reading takes, are together of bulk at most 1048576: NARROWER than '..Said'. Prove '..Said' where nothing that the law and all that it calls make is longer than what came in: it says more and counts as full. Else prove '..UptoSaid'. A law counts once. -/
mutual
def uptoBulk {H : Type} : DataW H → Nat
  | .lit (.string bytes) => bytes.length + 1
  | .lit _ => 1
  | .nil => 1
  | .ptr d => uptoBulk d + 1
  | .slice elems spare => uptoBulkAll elems + uptoBulkAll spare + 1
  | .agg parts => uptoBulkAll parts + 1
  | .iface _ d => uptoBulk d + 1
  | .map entries => uptoBulkEntries entries + 1
  | .held _ => 1
def uptoBulkAll {H : Type} : List (DataW H) → Nat
  | [] => 0
  | d :: r => uptoBulk d + uptoBulkAll r
def uptoBulkEntries {H : Type} : List (Lit × DataW H) → Nat
  | [] => 0
  | x :: r => uptoBulkEntry x + uptoBulkEntries r
def uptoBulkEntry {H : Type} : Lit × DataW H → Nat
  | (.string bytes, d) => bytes.length + uptoBulk d + 1
  | (_, d) => uptoBulk d + 1
 end
def uptoSmall : (H : Type) → List (DataW H) → Bool := fun _ ds => decide (uptoBulkAll ds ≤ 1048576)
def OpenSpec.upto (s : _root_.Go.ChangeSpec) : _root_.Go.OpenSpec := { _root_.Go.OpenSpec.ofChange s with cond := some uptoSmall }

/-- 'laws.FnExactCreaseAt', WHERE WHAT IT READS IS OF BULK AT MOST 1048576: true; the input reads as it did. -/
def fnExactCreaseAtUptoRow : OpenClaim := { program := "ytjaeddckoocgbaa", sum := "b5f2229c9b10cf82b8377e7026bf9cbc6d8b5050aef70a1c025d61524d685052", func := "loop.example/g01394/laws.FnExactCreaseAt", spec := "fnExactCreaseAt", inPlace := ["internal/abi.NoEscape", "internal/bytealg.MakeNoZero"], apart := false, narrowed := true }
def FnExactCreaseAtUptoSaid : Prop := fnExactCreaseAtUptoRow.holds Try.pinned (OpenSpec.upto fnExactCreaseAtSpec)

/-- 'laws.FnExactCreasesOf', WHERE WHAT IT READS IS OF BULK AT MOST 1048576: true; the input reads as it did. -/
def fnExactCreasesOfUptoRow : OpenClaim := { program := "ytjaeddckoocgbaa", sum := "b5f2229c9b10cf82b8377e7026bf9cbc6d8b5050aef70a1c025d61524d685052", func := "loop.example/g01394/laws.FnExactCreasesOf", spec := "fnExactCreasesOf", inPlace := ["internal/abi.NoEscape", "internal/bytealg.MakeNoZero"], apart := false, narrowed := true }
def FnExactCreasesOfUptoSaid : Prop := fnExactCreasesOfUptoRow.holds Try.pinned (OpenSpec.upto fnExactCreasesOfSpec)

end Rows
end Go.Proofs.Ytjaeddckoocgbaa
