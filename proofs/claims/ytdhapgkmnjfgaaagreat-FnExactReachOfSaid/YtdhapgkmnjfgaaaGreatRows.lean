/-
  No cell of these rows narrows 'for every input' (looked for: loops, veiled, ifaces, maps, wideKeys, modest, calm, conditions, laid).
  DERIVED. THE GIVEN ROWS OF THIS SEAT. 11 by the template 'for every input the law returns true; each argument reads behind the call as it read before'; 0 by the template 'total and deterministic' (their statements: YtdhapgkmnjfgaaaGreatTotals.lean).
  GIVEN WITH THE SEED: the statements are not yours to turn. If you find one false, say at which input.
  Laid BY PROGRAM, IN A SANDBOX (cutbox-rows.mjs): the forced cells as the released guide's own fill.sh prints them over the translation 11c84e656433ea8b… (all of the seat's roots in one cut). By AI agents, Wed Nov 11 2026. No macro, syntax, notation, axiom, sorry.
-/
import Derived.Test.YtdhapgkmnjfgaaaGreatChecked
import GoSem.Claim
import GoSem.ClaimJoined
import GoSem.ClaimMapViews
import Derived.JoinedTies
import Derived.KernelRfl
namespace Go.Proofs.YtdhapgkmnjfgaaaGreat
/- THE CELL 'sum', in the pinned program and in every row, IS THE sha256 OF THE DUMP (.gsa) THAT YtdhapgkmnjfgaaaGreatProg.lean LOADS. Nothing in Lean hashes anything: it is a label: what it is worth is what the hold of that sum in a sandbox is worth. -/
noncomputable def Tryz.pinned : Pinned := { name := "ytdhapgkmnjfgaaagreat", sum := "11c84e656433ea8bc5143bc1ddb5619be16cac86bf2936fca008df8eb65473f5", checked := Tryz.checked }
namespace Rows
def none {H : Type} : Left H := { results := [], args := [] }

/-- 'laws.FnExactTreeFault': WHATEVER THE INPUT: true; the input reads as it did. -/
def fnExactTreeFaultSpec : ChangeSpec := { name := "fnExactTreeFault", fn := fun _ => fun
  | [d] => { results := [.lit (.bool true)], args := [d] }
  | _ => none }
def fnExactTreeFaultRow : OpenClaim := { program := "ytdhapgkmnjfgaaagreat", sum := "11c84e656433ea8bc5143bc1ddb5619be16cac86bf2936fca008df8eb65473f5", func := "loop.example/g00680/laws.FnExactTreeFault", spec := "fnExactTreeFault", unfollowed := true, recurses := true, apart := false }
def FnExactTreeFaultSaid : Prop := fnExactTreeFaultRow.holds Tryz.pinned (OpenSpec.ofChange fnExactTreeFaultSpec)

/-- ITS FALSE NEIGHBOUR: 'it returns false'. Refute it at one input. -/
def fnExactTreeFaultWrong : ChangeSpec := { name := "fnExactTreeFault", fn := fun _ => fun
  | [d] => { results := [.lit (.bool false)], args := [d] }
  | _ => none }
def FnExactTreeFaultWrongFalsely : Prop := fnExactTreeFaultRow.holds Tryz.pinned (OpenSpec.ofChange fnExactTreeFaultWrong)

/-- 'laws.FnExactHeightOf': WHATEVER THE INPUT: true; the input reads as it did. -/
def fnExactHeightOfSpec : ChangeSpec := { name := "fnExactHeightOf", fn := fun _ => fun
  | [d] => { results := [.lit (.bool true)], args := [d] }
  | _ => none }
def fnExactHeightOfRow : OpenClaim := { program := "ytdhapgkmnjfgaaagreat", sum := "11c84e656433ea8bc5143bc1ddb5619be16cac86bf2936fca008df8eb65473f5", func := "loop.example/g00680/laws.FnExactHeightOf", spec := "fnExactHeightOf", unfollowed := true, recurses := true, apart := false }
def FnExactHeightOfSaid : Prop := fnExactHeightOfRow.holds Tryz.pinned (OpenSpec.ofChange fnExactHeightOfSpec)

/-- ITS FALSE NEIGHBOUR: 'it returns false'. Refute it at one input. -/
def fnExactHeightOfWrong : ChangeSpec := { name := "fnExactHeightOf", fn := fun _ => fun
  | [d] => { results := [.lit (.bool false)], args := [d] }
  | _ => none }
def FnExactHeightOfWrongFalsely : Prop := fnExactHeightOfRow.holds Tryz.pinned (OpenSpec.ofChange fnExactHeightOfWrong)

/-- 'laws.FnExactNeedOf': WHATEVER THE INPUT: true; the input reads as it did. -/
def fnExactNeedOfSpec : ChangeSpec := { name := "fnExactNeedOf", fn := fun _ => fun
  | [d] => { results := [.lit (.bool true)], args := [d] }
  | _ => none }
def fnExactNeedOfRow : OpenClaim := { program := "ytdhapgkmnjfgaaagreat", sum := "11c84e656433ea8bc5143bc1ddb5619be16cac86bf2936fca008df8eb65473f5", func := "loop.example/g00680/laws.FnExactNeedOf", spec := "fnExactNeedOf", unfollowed := true, recurses := true, apart := false }
def FnExactNeedOfSaid : Prop := fnExactNeedOfRow.holds Tryz.pinned (OpenSpec.ofChange fnExactNeedOfSpec)

/-- ITS FALSE NEIGHBOUR: 'it returns false'. Refute it at one input. -/
def fnExactNeedOfWrong : ChangeSpec := { name := "fnExactNeedOf", fn := fun _ => fun
  | [d] => { results := [.lit (.bool false)], args := [d] }
  | _ => none }
def FnExactNeedOfWrongFalsely : Prop := fnExactNeedOfRow.holds Tryz.pinned (OpenSpec.ofChange fnExactNeedOfWrong)

/-- 'laws.FnExactStableIn': WHATEVER THE INPUT: true; the input reads as it did. -/
def fnExactStableInSpec : ChangeSpec := { name := "fnExactStableIn", fn := fun _ => fun
  | [d1, d2, d3, d4] => { results := [.lit (.bool true)], args := [d1, d2, d3, d4] }
  | _ => none }
def fnExactStableInRow : OpenClaim := { program := "ytdhapgkmnjfgaaagreat", sum := "11c84e656433ea8bc5143bc1ddb5619be16cac86bf2936fca008df8eb65473f5", func := "loop.example/g00680/laws.FnExactStableIn", spec := "fnExactStableIn", inPlace := ["slices.overlaps[loop.example/g00680/impl.Pair]"], unfollowed := true, recurses := true, apart := false }
def FnExactStableInSaid : Prop := fnExactStableInRow.holds Tryz.pinned (OpenSpec.ofChange fnExactStableInSpec)

/-- ITS FALSE NEIGHBOUR: 'it returns false'. Refute it at one input. -/
def fnExactStableInWrong : ChangeSpec := { name := "fnExactStableIn", fn := fun _ => fun
  | [d1, d2, d3, d4] => { results := [.lit (.bool false)], args := [d1, d2, d3, d4] }
  | _ => none }
def FnExactStableInWrongFalsely : Prop := fnExactStableInRow.holds Tryz.pinned (OpenSpec.ofChange fnExactStableInWrong)

/-- 'laws.FnExactReachOf': WHATEVER THE INPUT: true; the input reads as it did. -/
def fnExactReachOfSpec : ChangeSpec := { name := "fnExactReachOf", fn := fun _ => fun
  | [d] => { results := [.lit (.bool true)], args := [d] }
  | _ => none }
def fnExactReachOfRow : OpenClaim := { program := "ytdhapgkmnjfgaaagreat", sum := "11c84e656433ea8bc5143bc1ddb5619be16cac86bf2936fca008df8eb65473f5", func := "loop.example/g00680/laws.FnExactReachOf", spec := "fnExactReachOf", unfollowed := true, recurses := true, apart := false }
def FnExactReachOfSaid : Prop := fnExactReachOfRow.holds Tryz.pinned (OpenSpec.ofChange fnExactReachOfSpec)

/-- ITS FALSE NEIGHBOUR: 'it returns false'. Refute it at one input. -/
def fnExactReachOfWrong : ChangeSpec := { name := "fnExactReachOf", fn := fun _ => fun
  | [d] => { results := [.lit (.bool false)], args := [d] }
  | _ => none }
def FnExactReachOfWrongFalsely : Prop := fnExactReachOfRow.holds Tryz.pinned (OpenSpec.ofChange fnExactReachOfWrong)

/-- 'laws.FnExactHandLook': WHATEVER THE INPUT: true; the input reads as it did. -/
def fnExactHandLookSpec : ChangeSpec := { name := "fnExactHandLook", fn := fun _ => fun
  | [d1, d2, d3] => { results := [.lit (.bool true)], args := [d1, d2, d3] }
  | _ => none }
def fnExactHandLookRow : OpenClaim := { program := "ytdhapgkmnjfgaaagreat", sum := "11c84e656433ea8bc5143bc1ddb5619be16cac86bf2936fca008df8eb65473f5", func := "loop.example/g00680/laws.FnExactHandLook", spec := "fnExactHandLook", inPlace := ["slices.overlaps[loop.example/g00680/impl.Pair]"], unfollowed := true, recurses := true, apart := false }
def FnExactHandLookSaid : Prop := fnExactHandLookRow.holds Tryz.pinned (OpenSpec.ofChange fnExactHandLookSpec)

/-- ITS FALSE NEIGHBOUR: 'it returns false'. Refute it at one input. -/
def fnExactHandLookWrong : ChangeSpec := { name := "fnExactHandLook", fn := fun _ => fun
  | [d1, d2, d3] => { results := [.lit (.bool false)], args := [d1, d2, d3] }
  | _ => none }
def FnExactHandLookWrongFalsely : Prop := fnExactHandLookRow.holds Tryz.pinned (OpenSpec.ofChange fnExactHandLookWrong)

/-- 'laws.FnWatches': WHATEVER THE INPUT: true; the input reads as it did. -/
def fnWatchesSpec : ChangeSpec := { name := "fnWatches", fn := fun _ => fun
  | [d] => { results := [.lit (.bool true)], args := [d] }
  | _ => none }
def fnWatchesRow : OpenClaim := { program := "ytdhapgkmnjfgaaagreat", sum := "11c84e656433ea8bc5143bc1ddb5619be16cac86bf2936fca008df8eb65473f5", func := "loop.example/g00680/laws.FnWatches", spec := "fnWatches", unfollowed := true, recurses := true, apart := false }
def FnWatchesSaid : Prop := fnWatchesRow.holds Tryz.pinned (OpenSpec.ofChange fnWatchesSpec)

/-- ITS FALSE NEIGHBOUR: 'it returns false'. Refute it at one input. -/
def fnWatchesWrong : ChangeSpec := { name := "fnWatches", fn := fun _ => fun
  | [d] => { results := [.lit (.bool false)], args := [d] }
  | _ => none }
def FnWatchesWrongFalsely : Prop := fnWatchesRow.holds Tryz.pinned (OpenSpec.ofChange fnWatchesWrong)

/-- 'laws.FnArenas': WHATEVER THE INPUT: true; the input reads as it did. -/
def fnArenasSpec : ChangeSpec := { name := "fnArenas", fn := fun _ => fun
  | [d] => { results := [.lit (.bool true)], args := [d] }
  | _ => none }
def fnArenasRow : OpenClaim := { program := "ytdhapgkmnjfgaaagreat", sum := "11c84e656433ea8bc5143bc1ddb5619be16cac86bf2936fca008df8eb65473f5", func := "loop.example/g00680/laws.FnArenas", spec := "fnArenas", unfollowed := true, recurses := true, apart := false }
def FnArenasSaid : Prop := fnArenasRow.holds Tryz.pinned (OpenSpec.ofChange fnArenasSpec)

/-- ITS FALSE NEIGHBOUR: 'it returns false'. Refute it at one input. -/
def fnArenasWrong : ChangeSpec := { name := "fnArenas", fn := fun _ => fun
  | [d] => { results := [.lit (.bool false)], args := [d] }
  | _ => none }
def FnArenasWrongFalsely : Prop := fnArenasRow.holds Tryz.pinned (OpenSpec.ofChange fnArenasWrong)

/-- 'laws.FnExactIsAnswered': WHATEVER THE INPUT: true; the input reads as it did. -/
def fnExactIsAnsweredSpec : ChangeSpec := { name := "fnExactIsAnswered", fn := fun _ => fun
  | [d1, d2, d3] => { results := [.lit (.bool true)], args := [d1, d2, d3] }
  | _ => none }
def fnExactIsAnsweredRow : OpenClaim := { program := "ytdhapgkmnjfgaaagreat", sum := "11c84e656433ea8bc5143bc1ddb5619be16cac86bf2936fca008df8eb65473f5", func := "loop.example/g00680/laws.FnExactIsAnswered", spec := "fnExactIsAnswered", inPlace := ["slices.overlaps[loop.example/g00680/impl.Pair]"], unfollowed := true, recurses := true, apart := false }
def FnExactIsAnsweredSaid : Prop := fnExactIsAnsweredRow.holds Tryz.pinned (OpenSpec.ofChange fnExactIsAnsweredSpec)

/-- ITS FALSE NEIGHBOUR: 'it returns false'. Refute it at one input. -/
def fnExactIsAnsweredWrong : ChangeSpec := { name := "fnExactIsAnswered", fn := fun _ => fun
  | [d1, d2, d3] => { results := [.lit (.bool false)], args := [d1, d2, d3] }
  | _ => none }
def FnExactIsAnsweredWrongFalsely : Prop := fnExactIsAnsweredRow.holds Tryz.pinned (OpenSpec.ofChange fnExactIsAnsweredWrong)

/-- 'laws.FnExactIsExplained': WHATEVER THE INPUT: true; the input reads as it did. -/
def fnExactIsExplainedSpec : ChangeSpec := { name := "fnExactIsExplained", fn := fun _ => fun
  | [d1, d2] => { results := [.lit (.bool true)], args := [d1, d2] }
  | _ => none }
def fnExactIsExplainedRow : OpenClaim := { program := "ytdhapgkmnjfgaaagreat", sum := "11c84e656433ea8bc5143bc1ddb5619be16cac86bf2936fca008df8eb65473f5", func := "loop.example/g00680/laws.FnExactIsExplained", spec := "fnExactIsExplained", inPlace := ["slices.overlaps[loop.example/g00680/impl.Pair]"], unfollowed := true, recurses := true, apart := false }
def FnExactIsExplainedSaid : Prop := fnExactIsExplainedRow.holds Tryz.pinned (OpenSpec.ofChange fnExactIsExplainedSpec)

/-- ITS FALSE NEIGHBOUR: 'it returns false'. Refute it at one input. -/
def fnExactIsExplainedWrong : ChangeSpec := { name := "fnExactIsExplained", fn := fun _ => fun
  | [d1, d2] => { results := [.lit (.bool false)], args := [d1, d2] }
  | _ => none }
def FnExactIsExplainedWrongFalsely : Prop := fnExactIsExplainedRow.holds Tryz.pinned (OpenSpec.ofChange fnExactIsExplainedWrong)

/-- 'laws.FnExactRetireNode': WHATEVER THE INPUT: true; the input reads as it did. -/
def fnExactRetireNodeSpec : ChangeSpec := { name := "fnExactRetireNode", fn := fun _ => fun
  | [d1, d2, d3] => { results := [.lit (.bool true)], args := [d1, d2, d3] }
  | _ => none }
def fnExactRetireNodeRow : OpenClaim := { program := "ytdhapgkmnjfgaaagreat", sum := "11c84e656433ea8bc5143bc1ddb5619be16cac86bf2936fca008df8eb65473f5", func := "loop.example/g00680/laws.FnExactRetireNode", spec := "fnExactRetireNode", unfollowed := true, recurses := true, apart := false }
def FnExactRetireNodeSaid : Prop := fnExactRetireNodeRow.holds Tryz.pinned (OpenSpec.ofChange fnExactRetireNodeSpec)

/-- ITS FALSE NEIGHBOUR: 'it returns false'. Refute it at one input. -/
def fnExactRetireNodeWrong : ChangeSpec := { name := "fnExactRetireNode", fn := fun _ => fun
  | [d1, d2, d3] => { results := [.lit (.bool false)], args := [d1, d2, d3] }
  | _ => none }
def FnExactRetireNodeWrongFalsely : Prop := fnExactRetireNodeRow.holds Tryz.pinned (OpenSpec.ofChange fnExactRetireNodeWrong)

/- THE SECOND FORM. 'bulk': how many values and letters a reading holds, each counted each time it is reached (what is shared counts as often as it is met; a slice's spare places count too). A statement '..UptoSaid' is the law's where the arguments, and the package variables that the reading takes, are together of bulk at most 1048576: NARROWER than '..Said'. Prove '..Said' where nothing that the law and all that it calls make is longer than what came in: it says more and counts as full. Else prove '..UptoSaid'. A law counts once. -/
mutual
def uptoBulk {H : Type} : DataW H → Nat
  | .lit (.string bytes) => bytes.length + 1
  | .lit _ => 1
  | .nil => 1
  | .ptr d => uptoBulk d + 1
  | .slice elems spare => uptoBulkAll elems + uptoBulkAll spare + 1
  | .agg parts => uptoBulkAll parts + 1
  | .iface _ d => uptoBulk d + 1
  | .map entries => uptoBulkEntries entries + 1
  | .held _ => 1
def uptoBulkAll {H : Type} : List (DataW H) → Nat
  | [] => 0
  | d :: r => uptoBulk d + uptoBulkAll r
def uptoBulkEntries {H : Type} : List (Lit × DataW H) → Nat
  | [] => 0
  | x :: r => uptoBulkEntry x + uptoBulkEntries r
def uptoBulkEntry {H : Type} : Lit × DataW H → Nat
  | (.string bytes, d) => bytes.length + uptoBulk d + 1
  | (_, d) => uptoBulk d + 1
 end
def uptoSmall : (H : Type) → List (DataW H) → Bool := fun _ ds => decide (uptoBulkAll ds ≤ 1048576)
def OpenSpec.upto (s : _root_.Go.ChangeSpec) : _root_.Go.OpenSpec := { _root_.Go.OpenSpec.ofChange s with cond := some uptoSmall }

/-- 'laws.FnExactTreeFault', WHERE WHAT IT READS IS OF BULK AT MOST 1048576: true; the input reads as it did. -/
def fnExactTreeFaultUptoRow : OpenClaim := { program := "ytdhapgkmnjfgaaagreat", sum := "11c84e656433ea8bc5143bc1ddb5619be16cac86bf2936fca008df8eb65473f5", func := "loop.example/g00680/laws.FnExactTreeFault", spec := "fnExactTreeFault", unfollowed := true, recurses := true, apart := false, narrowed := true }
def FnExactTreeFaultUptoSaid : Prop := fnExactTreeFaultUptoRow.holds Tryz.pinned (OpenSpec.upto fnExactTreeFaultSpec)

/-- 'laws.FnExactHeightOf', WHERE WHAT IT READS IS OF BULK AT MOST 1048576: true; the input reads as it did. -/
def fnExactHeightOfUptoRow : OpenClaim := { program := "ytdhapgkmnjfgaaagreat", sum := "11c84e656433ea8bc5143bc1ddb5619be16cac86bf2936fca008df8eb65473f5", func := "loop.example/g00680/laws.FnExactHeightOf", spec := "fnExactHeightOf", unfollowed := true, recurses := true, apart := false, narrowed := true }
def FnExactHeightOfUptoSaid : Prop := fnExactHeightOfUptoRow.holds Tryz.pinned (OpenSpec.upto fnExactHeightOfSpec)

/-- 'laws.FnExactNeedOf', WHERE WHAT IT READS IS OF BULK AT MOST 1048576: true; the input reads as it did. -/
def fnExactNeedOfUptoRow : OpenClaim := { program := "ytdhapgkmnjfgaaagreat", sum := "11c84e656433ea8bc5143bc1ddb5619be16cac86bf2936fca008df8eb65473f5", func := "loop.example/g00680/laws.FnExactNeedOf", spec := "fnExactNeedOf", unfollowed := true, recurses := true, apart := false, narrowed := true }
def FnExactNeedOfUptoSaid : Prop := fnExactNeedOfUptoRow.holds Tryz.pinned (OpenSpec.upto fnExactNeedOfSpec)

/-- 'laws.FnExactStableIn', WHERE WHAT IT READS IS OF BULK AT MOST 1048576: true; the input reads as it did. -/
def fnExactStableInUptoRow : OpenClaim := { program := "ytdhapgkmnjfgaaagreat", sum := "11c84e656433ea8bc5143bc1ddb5619be16cac86bf2936fca008df8eb65473f5", func := "loop.example/g00680/laws.FnExactStableIn", spec := "fnExactStableIn", inPlace := ["slices.overlaps[loop.example/g00680/impl.Pair]"], unfollowed := true, recurses := true, apart := false, narrowed := true }
def FnExactStableInUptoSaid : Prop := fnExactStableInUptoRow.holds Tryz.pinned (OpenSpec.upto fnExactStableInSpec)

/-- 'laws.FnExactReachOf', WHERE WHAT IT READS IS OF BULK AT MOST 1048576: true; the input reads as it did. -/
def fnExactReachOfUptoRow : OpenClaim := { program := "ytdhapgkmnjfgaaagreat", sum := "11c84e656433ea8bc5143bc1ddb5619be16cac86bf2936fca008df8eb65473f5", func := "loop.example/g00680/laws.FnExactReachOf", spec := "fnExactReachOf", unfollowed := true, recurses := true, apart := false, narrowed := true }
def FnExactReachOfUptoSaid : Prop := fnExactReachOfUptoRow.holds Tryz.pinned (OpenSpec.upto fnExactReachOfSpec)

/-- 'laws.FnExactHandLook', WHERE WHAT IT READS IS OF BULK AT MOST 1048576: true; the input reads as it did. -/
def fnExactHandLookUptoRow : OpenClaim := { program := "ytdhapgkmnjfgaaagreat", sum := "11c84e656433ea8bc5143bc1ddb5619be16cac86bf2936fca008df8eb65473f5", func := "loop.example/g00680/laws.FnExactHandLook", spec := "fnExactHandLook", inPlace := ["slices.overlaps[loop.example/g00680/impl.Pair]"], unfollowed := true, recurses := true, apart := false, narrowed := true }
def FnExactHandLookUptoSaid : Prop := fnExactHandLookUptoRow.holds Tryz.pinned (OpenSpec.upto fnExactHandLookSpec)

/-- 'laws.FnWatches', WHERE WHAT IT READS IS OF BULK AT MOST 1048576: true; the input reads as it did. -/
def fnWatchesUptoRow : OpenClaim := { program := "ytdhapgkmnjfgaaagreat", sum := "11c84e656433ea8bc5143bc1ddb5619be16cac86bf2936fca008df8eb65473f5", func := "loop.example/g00680/laws.FnWatches", spec := "fnWatches", unfollowed := true, recurses := true, apart := false, narrowed := true }
def FnWatchesUptoSaid : Prop := fnWatchesUptoRow.holds Tryz.pinned (OpenSpec.upto fnWatchesSpec)

/-- 'laws.FnArenas', WHERE WHAT IT READS IS OF BULK AT MOST 1048576: true; the input reads as it did. -/
def fnArenasUptoRow : OpenClaim := { program := "ytdhapgkmnjfgaaagreat", sum := "11c84e656433ea8bc5143bc1ddb5619be16cac86bf2936fca008df8eb65473f5", func := "loop.example/g00680/laws.FnArenas", spec := "fnArenas", unfollowed := true, recurses := true, apart := false, narrowed := true }
def FnArenasUptoSaid : Prop := fnArenasUptoRow.holds Tryz.pinned (OpenSpec.upto fnArenasSpec)

/-- 'laws.FnExactIsAnswered', WHERE WHAT IT READS IS OF BULK AT MOST 1048576: true; the input reads as it did. -/
def fnExactIsAnsweredUptoRow : OpenClaim := { program := "ytdhapgkmnjfgaaagreat", sum := "11c84e656433ea8bc5143bc1ddb5619be16cac86bf2936fca008df8eb65473f5", func := "loop.example/g00680/laws.FnExactIsAnswered", spec := "fnExactIsAnswered", inPlace := ["slices.overlaps[loop.example/g00680/impl.Pair]"], unfollowed := true, recurses := true, apart := false, narrowed := true }
def FnExactIsAnsweredUptoSaid : Prop := fnExactIsAnsweredUptoRow.holds Tryz.pinned (OpenSpec.upto fnExactIsAnsweredSpec)

/-- 'laws.FnExactIsExplained', WHERE WHAT IT READS IS OF BULK AT MOST 1048576: true; the input reads as it did. -/
def fnExactIsExplainedUptoRow : OpenClaim := { program := "ytdhapgkmnjfgaaagreat", sum := "11c84e656433ea8bc5143bc1ddb5619be16cac86bf2936fca008df8eb65473f5", func := "loop.example/g00680/laws.FnExactIsExplained", spec := "fnExactIsExplained", inPlace := ["slices.overlaps[loop.example/g00680/impl.Pair]"], unfollowed := true, recurses := true, apart := false, narrowed := true }
def FnExactIsExplainedUptoSaid : Prop := fnExactIsExplainedUptoRow.holds Tryz.pinned (OpenSpec.upto fnExactIsExplainedSpec)

/-- 'laws.FnExactRetireNode', WHERE WHAT IT READS IS OF BULK AT MOST 1048576: true; the input reads as it did. -/
def fnExactRetireNodeUptoRow : OpenClaim := { program := "ytdhapgkmnjfgaaagreat", sum := "11c84e656433ea8bc5143bc1ddb5619be16cac86bf2936fca008df8eb65473f5", func := "loop.example/g00680/laws.FnExactRetireNode", spec := "fnExactRetireNode", unfollowed := true, recurses := true, apart := false, narrowed := true }
def FnExactRetireNodeUptoSaid : Prop := fnExactRetireNodeUptoRow.holds Tryz.pinned (OpenSpec.upto fnExactRetireNodeSpec)

end Rows
end Go.Proofs.YtdhapgkmnjfgaaaGreat
