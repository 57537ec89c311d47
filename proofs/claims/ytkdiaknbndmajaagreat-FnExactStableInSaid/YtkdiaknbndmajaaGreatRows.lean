/-
  No cell of these rows narrows 'for every input' (looked for: loops, veiled, ifaces, maps, wideKeys, modest, calm, conditions, laid).
  DERIVED. THE GIVEN ROWS OF THIS SEAT. 3 by the template 'for every input the law returns true; each argument reads behind the call as it read before'; 0 by the template 'total and deterministic' (their statements: YtkdiaknbndmajaaGreatTotals.lean).
  GIVEN WITH THE SEED: the statements are not yours to turn. If you find one false, say at which input.
  Laid BY PROGRAM, IN A SANDBOX (cutbox-rows.mjs): the forced cells as the released guide's own fill.sh prints them over the translation 15e04b414923f071… (all of the seat's roots in one cut). By AI agents, Wed Nov 11 2026. No macro, syntax, notation, axiom, sorry.
-/
import Derived.Test.YtkdiaknbndmajaaGreatChecked
import GoSem.Claim
import GoSem.ClaimJoined
import GoSem.ClaimMapViews
import Derived.JoinedTies
import Derived.KernelRfl
namespace Go.Proofs.YtkdiaknbndmajaaGreat
/- THE CELL 'sum', in the pinned program and in every row, IS THE sha256 OF THE DUMP (.gsa) THAT YtkdiaknbndmajaaGreatProg.lean LOADS. Nothing in Lean hashes anything: it is a label: what it is worth is what the hold of that sum in a sandbox is worth. -/
noncomputable def Tryz.pinned : Pinned := { name := "ytkdiaknbndmajaagreat", sum := "15e04b414923f07162e9e9a310babce52be3d55f0b53c6d3c4d5a78e553ad317", checked := Tryz.checked }
namespace Rows
def none {H : Type} : Left H := { results := [], args := [] }

/-- 'laws.FnExactStableIn': WHATEVER THE INPUT: true; the input reads as it did. -/
def fnExactStableInSpec : ChangeSpec := { name := "fnExactStableIn", fn := fun _ => fun
  | [d1, d2, d3, d4] => { results := [.lit (.bool true)], args := [d1, d2, d3, d4] }
  | _ => none }
def fnExactStableInRow : OpenClaim := { program := "ytkdiaknbndmajaagreat", sum := "15e04b414923f07162e9e9a310babce52be3d55f0b53c6d3c4d5a78e553ad317", func := "loop.example/g00680/laws.FnExactStableIn", spec := "fnExactStableIn", inPlace := ["slices.overlaps[loop.example/g00680/impl.Pair]"], unfollowed := true, recurses := true, apart := false }
def FnExactStableInSaid : Prop := fnExactStableInRow.holds Tryz.pinned (OpenSpec.ofChange fnExactStableInSpec)

/-- ITS FALSE NEIGHBOUR: 'it returns false'. Refute it at one input. -/
def fnExactStableInWrong : ChangeSpec := { name := "fnExactStableIn", fn := fun _ => fun
  | [d1, d2, d3, d4] => { results := [.lit (.bool false)], args := [d1, d2, d3, d4] }
  | _ => none }
def FnExactStableInWrongFalsely : Prop := fnExactStableInRow.holds Tryz.pinned (OpenSpec.ofChange fnExactStableInWrong)

/-- 'laws.FnExactIsAnswered': WHATEVER THE INPUT: true; the input reads as it did. -/
def fnExactIsAnsweredSpec : ChangeSpec := { name := "fnExactIsAnswered", fn := fun _ => fun
  | [d1, d2, d3] => { results := [.lit (.bool true)], args := [d1, d2, d3] }
  | _ => none }
def fnExactIsAnsweredRow : OpenClaim := { program := "ytkdiaknbndmajaagreat", sum := "15e04b414923f07162e9e9a310babce52be3d55f0b53c6d3c4d5a78e553ad317", func := "loop.example/g00680/laws.FnExactIsAnswered", spec := "fnExactIsAnswered", inPlace := ["slices.overlaps[loop.example/g00680/impl.Pair]"], unfollowed := true, recurses := true, apart := false }
def FnExactIsAnsweredSaid : Prop := fnExactIsAnsweredRow.holds Tryz.pinned (OpenSpec.ofChange fnExactIsAnsweredSpec)

/-- ITS FALSE NEIGHBOUR: 'it returns false'. Refute it at one input. -/
def fnExactIsAnsweredWrong : ChangeSpec := { name := "fnExactIsAnswered", fn := fun _ => fun
  | [d1, d2, d3] => { results := [.lit (.bool false)], args := [d1, d2, d3] }
  | _ => none }
def FnExactIsAnsweredWrongFalsely : Prop := fnExactIsAnsweredRow.holds Tryz.pinned (OpenSpec.ofChange fnExactIsAnsweredWrong)

/-- 'laws.FnExactIsExplained': WHATEVER THE INPUT: true; the input reads as it did. -/
def fnExactIsExplainedSpec : ChangeSpec := { name := "fnExactIsExplained", fn := fun _ => fun
  | [d1, d2] => { results := [.lit (.bool true)], args := [d1, d2] }
  | _ => none }
def fnExactIsExplainedRow : OpenClaim := { program := "ytkdiaknbndmajaagreat", sum := "15e04b414923f07162e9e9a310babce52be3d55f0b53c6d3c4d5a78e553ad317", func := "loop.example/g00680/laws.FnExactIsExplained", spec := "fnExactIsExplained", inPlace := ["slices.overlaps[loop.example/g00680/impl.Pair]"], unfollowed := true, recurses := true, apart := false }
def FnExactIsExplainedSaid : Prop := fnExactIsExplainedRow.holds Tryz.pinned (OpenSpec.ofChange fnExactIsExplainedSpec)

/-- ITS FALSE NEIGHBOUR: 'it returns false'. Refute it at one input. -/
def fnExactIsExplainedWrong : ChangeSpec := { name := "fnExactIsExplained", fn := fun _ => fun
  | [d1, d2] => { results := [.lit (.bool false)], args := [d1, d2] }
  | _ => none }
def FnExactIsExplainedWrongFalsely : Prop := fnExactIsExplainedRow.holds Tryz.pinned (OpenSpec.ofChange fnExactIsExplainedWrong)

/- THE SECOND FORM. 'bulk': how many values and letters a reading holds, each counted each time it is reached (what is shared counts as often as it is met; a slice's spare places count too). A statement '..UptoSaid' is the law's where the arguments, and the package variables that the reading takes, are together of bulk at most 1048576: NARROWER than '..Said'. Prove '..Said' where nothing that the law and all that it calls make is longer than what came in: it says more and counts as full. Else prove '..UptoSaid'. A law counts once. -/
mutual
def uptoBulk {H : Type} : DataW H → Nat
  | .lit (.string bytes) => bytes.length + 1
  | .lit _ => 1
  | .nil => 1
  | .ptr d => uptoBulk d + 1
  | .slice elems spare => uptoBulkAll elems + uptoBulkAll spare + 1
  | .agg parts => uptoBulkAll parts + 1
  | .iface _ d => uptoBulk d + 1
  | .map entries => uptoBulkEntries entries + 1
  | .held _ => 1
def uptoBulkAll {H : Type} : List (DataW H) → Nat
  | [] => 0
  | d :: r => uptoBulk d + uptoBulkAll r
def uptoBulkEntries {H : Type} : List (Lit × DataW H) → Nat
  | [] => 0
  | x :: r => uptoBulkEntry x + uptoBulkEntries r
def uptoBulkEntry {H : Type} : Lit × DataW H → Nat
  | (.string bytes, d) => bytes.length + uptoBulk d + 1
  | (_, d) => uptoBulk d + 1
 end
def uptoSmall : (H : Type) → List (DataW H) → Bool := fun _ ds => decide (uptoBulkAll ds ≤ 1048576)
def OpenSpec.upto (s : _root_.Go.ChangeSpec) : _root_.Go.OpenSpec := { _root_.Go.OpenSpec.ofChange s with cond := some uptoSmall }

/-- 'laws.FnExactStableIn', WHERE WHAT IT READS IS OF BULK AT MOST 1048576: true; the input reads as it did. -/
def fnExactStableInUptoRow : OpenClaim := { program := "ytkdiaknbndmajaagreat", sum := "15e04b414923f07162e9e9a310babce52be3d55f0b53c6d3c4d5a78e553ad317", func := "loop.example/g00680/laws.FnExactStableIn", spec := "fnExactStableIn", inPlace := ["slices.overlaps[loop.example/g00680/impl.Pair]"], unfollowed := true, recurses := true, apart := false, narrowed := true }
def FnExactStableInUptoSaid : Prop := fnExactStableInUptoRow.holds Tryz.pinned (OpenSpec.upto fnExactStableInSpec)

/-- 'laws.FnExactIsAnswered', WHERE WHAT IT READS IS OF BULK AT MOST 1048576: true; the input reads as it did. -/
def fnExactIsAnsweredUptoRow : OpenClaim := { program := "ytkdiaknbndmajaagreat", sum := "15e04b414923f07162e9e9a310babce52be3d55f0b53c6d3c4d5a78e553ad317", func := "loop.example/g00680/laws.FnExactIsAnswered", spec := "fnExactIsAnswered", inPlace := ["slices.overlaps[loop.example/g00680/impl.Pair]"], unfollowed := true, recurses := true, apart := false, narrowed := true }
def FnExactIsAnsweredUptoSaid : Prop := fnExactIsAnsweredUptoRow.holds Tryz.pinned (OpenSpec.upto fnExactIsAnsweredSpec)

/-- 'laws.FnExactIsExplained', WHERE WHAT IT READS IS OF BULK AT MOST 1048576: true; the input reads as it did. -/
def fnExactIsExplainedUptoRow : OpenClaim := { program := "ytkdiaknbndmajaagreat", sum := "15e04b414923f07162e9e9a310babce52be3d55f0b53c6d3c4d5a78e553ad317", func := "loop.example/g00680/laws.FnExactIsExplained", spec := "fnExactIsExplained", inPlace := ["slices.overlaps[loop.example/g00680/impl.Pair]"], unfollowed := true, recurses := true, apart := false, narrowed := true }
def FnExactIsExplainedUptoSaid : Prop := fnExactIsExplainedUptoRow.holds Tryz.pinned (OpenSpec.upto fnExactIsExplainedSpec)

end Rows
end Go.Proofs.YtkdiaknbndmajaaGreat
