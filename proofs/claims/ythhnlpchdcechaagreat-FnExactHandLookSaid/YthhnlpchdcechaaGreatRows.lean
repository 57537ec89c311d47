/-
  No cell of these rows narrows 'for every input' (looked for: loops, veiled, ifaces, maps, wideKeys, modest, calm, conditions, laid).
  DERIVED. THE GIVEN ROWS OF THIS SEAT. 4 by the template 'for every input the law returns true; each argument reads behind the call as it read before'; 0 by the template 'total and deterministic' (their statements: YthhnlpchdcechaaGreatTotals.lean).
  GIVEN WITH THE SEED: the statements are not yours to turn. If you find one false, say at which input.
  Laid BY PROGRAM, IN A SANDBOX (cutbox-rows.mjs): the forced cells as the released guide's own fill.sh prints them over the translation 3ce5d459c1846269… (all of the seat's roots in one cut). By AI agents, Wed Nov 11 2026. No macro, syntax, notation, axiom, sorry.
-/
import Derived.Test.YthhnlpchdcechaaGreatChecked
import GoSem.Claim
import GoSem.ClaimJoined
import GoSem.ClaimMapViews
import Derived.JoinedTies
import Derived.KernelRfl
namespace Go.Proofs.YthhnlpchdcechaaGreat
/- THE CELL 'sum', in the pinned program and in every row, IS THE sha256 OF THE DUMP (.gsa) THAT YthhnlpchdcechaaGreatProg.lean LOADS. Nothing in Lean hashes anything: it is a label: what it is worth is what the hold of that sum in a sandbox is worth. -/
noncomputable def Tryz.pinned : Pinned := { name := "ythhnlpchdcechaagreat", sum := "3ce5d459c1846269949866e862e0528eb0a1f8bf66e5ddf6ba2d1ba35dee421e", checked := Tryz.checked }
namespace Rows
def none {H : Type} : Left H := { results := [], args := [] }

/-- 'laws.FnExactHandLook': WHATEVER THE INPUT: true; the input reads as it did. -/
def fnExactHandLookSpec : ChangeSpec := { name := "fnExactHandLook", fn := fun _ => fun
  | [d1, d2, d3] => { results := [.lit (.bool true)], args := [d1, d2, d3] }
  | _ => none }
def fnExactHandLookRow : OpenClaim := { program := "ythhnlpchdcechaagreat", sum := "3ce5d459c1846269949866e862e0528eb0a1f8bf66e5ddf6ba2d1ba35dee421e", func := "loop.example/g00680/laws.FnExactHandLook", spec := "fnExactHandLook", inPlace := ["slices.overlaps[loop.example/g00680/impl.Pair]"], unfollowed := true, recurses := true, apart := false }
def FnExactHandLookSaid : Prop := fnExactHandLookRow.holds Tryz.pinned (OpenSpec.ofChange fnExactHandLookSpec)

/-- ITS FALSE NEIGHBOUR: 'it returns false'. Refute it at one input. -/
def fnExactHandLookWrong : ChangeSpec := { name := "fnExactHandLook", fn := fun _ => fun
  | [d1, d2, d3] => { results := [.lit (.bool false)], args := [d1, d2, d3] }
  | _ => none }
def FnExactHandLookWrongFalsely : Prop := fnExactHandLookRow.holds Tryz.pinned (OpenSpec.ofChange fnExactHandLookWrong)

/-- 'laws.FnExactEndWatch': WHATEVER THE INPUT: true; the input reads as it did. -/
def fnExactEndWatchSpec : ChangeSpec := { name := "fnExactEndWatch", fn := fun _ => fun
  | [d1, d2] => { results := [.lit (.bool true)], args := [d1, d2] }
  | _ => none }
def fnExactEndWatchRow : OpenClaim := { program := "ythhnlpchdcechaagreat", sum := "3ce5d459c1846269949866e862e0528eb0a1f8bf66e5ddf6ba2d1ba35dee421e", func := "loop.example/g00680/laws.FnExactEndWatch", spec := "fnExactEndWatch", unfollowed := true, recurses := true, apart := false }
def FnExactEndWatchSaid : Prop := fnExactEndWatchRow.holds Tryz.pinned (OpenSpec.ofChange fnExactEndWatchSpec)

/-- ITS FALSE NEIGHBOUR: 'it returns false'. Refute it at one input. -/
def fnExactEndWatchWrong : ChangeSpec := { name := "fnExactEndWatch", fn := fun _ => fun
  | [d1, d2] => { results := [.lit (.bool false)], args := [d1, d2] }
  | _ => none }
def FnExactEndWatchWrongFalsely : Prop := fnExactEndWatchRow.holds Tryz.pinned (OpenSpec.ofChange fnExactEndWatchWrong)

/-- 'laws.FnExactRetireNode': WHATEVER THE INPUT: true; the input reads as it did. -/
def fnExactRetireNodeSpec : ChangeSpec := { name := "fnExactRetireNode", fn := fun _ => fun
  | [d1, d2, d3] => { results := [.lit (.bool true)], args := [d1, d2, d3] }
  | _ => none }
def fnExactRetireNodeRow : OpenClaim := { program := "ythhnlpchdcechaagreat", sum := "3ce5d459c1846269949866e862e0528eb0a1f8bf66e5ddf6ba2d1ba35dee421e", func := "loop.example/g00680/laws.FnExactRetireNode", spec := "fnExactRetireNode", unfollowed := true, recurses := true, apart := false }
def FnExactRetireNodeSaid : Prop := fnExactRetireNodeRow.holds Tryz.pinned (OpenSpec.ofChange fnExactRetireNodeSpec)

/-- ITS FALSE NEIGHBOUR: 'it returns false'. Refute it at one input. -/
def fnExactRetireNodeWrong : ChangeSpec := { name := "fnExactRetireNode", fn := fun _ => fun
  | [d1, d2, d3] => { results := [.lit (.bool false)], args := [d1, d2, d3] }
  | _ => none }
def FnExactRetireNodeWrongFalsely : Prop := fnExactRetireNodeRow.holds Tryz.pinned (OpenSpec.ofChange fnExactRetireNodeWrong)

/-- 'laws.FnExactPairsIn': WHATEVER THE INPUT: true; the input reads as it did. -/
def fnExactPairsInSpec : ChangeSpec := { name := "fnExactPairsIn", fn := fun _ => fun
  | [d] => { results := [.lit (.bool true)], args := [d] }
  | _ => none }
def fnExactPairsInRow : OpenClaim := { program := "ythhnlpchdcechaagreat", sum := "3ce5d459c1846269949866e862e0528eb0a1f8bf66e5ddf6ba2d1ba35dee421e", func := "loop.example/g00680/laws.FnExactPairsIn", spec := "fnExactPairsIn", unfollowed := true, recurses := true, apart := false }
def FnExactPairsInSaid : Prop := fnExactPairsInRow.holds Tryz.pinned (OpenSpec.ofChange fnExactPairsInSpec)

/-- ITS FALSE NEIGHBOUR: 'it returns false'. Refute it at one input. -/
def fnExactPairsInWrong : ChangeSpec := { name := "fnExactPairsIn", fn := fun _ => fun
  | [d] => { results := [.lit (.bool false)], args := [d] }
  | _ => none }
def FnExactPairsInWrongFalsely : Prop := fnExactPairsInRow.holds Tryz.pinned (OpenSpec.ofChange fnExactPairsInWrong)

/- THE SECOND FORM. 'bulk': how many values and letters a reading holds, each counted each time it is reached (what is shared counts as often as it is met; a slice's spare places count too). A statement '..UptoSaid' is the law's where the arguments, and the package variables that the reading takes, are together of bulk at most 1048576: NARROWER than '..Said'. Prove '..Said' where nothing that the law and all that it calls make is longer than what came in: it says more and counts as full. Else prove '..UptoSaid'. A law counts once. -/
mutual
def uptoBulk {H : Type} : DataW H → Nat
  | .lit (.string bytes) => bytes.length + 1
  | .lit _ => 1
  | .nil => 1
  | .ptr d => uptoBulk d + 1
  | .slice elems spare => uptoBulkAll elems + uptoBulkAll spare + 1
  | .agg parts => uptoBulkAll parts + 1
  | .iface _ d => uptoBulk d + 1
  | .map entries => uptoBulkEntries entries + 1
  | .held _ => 1
def uptoBulkAll {H : Type} : List (DataW H) → Nat
  | [] => 0
  | d :: r => uptoBulk d + uptoBulkAll r
def uptoBulkEntries {H : Type} : List (Lit × DataW H) → Nat
  | [] => 0
  | x :: r => uptoBulkEntry x + uptoBulkEntries r
def uptoBulkEntry {H : Type} : Lit × DataW H → Nat
  | (.string bytes, d) => bytes.length + uptoBulk d + 1
  | (_, d) => uptoBulk d + 1
 end
def uptoSmall : (H : Type) → List (DataW H) → Bool := fun _ ds => decide (uptoBulkAll ds ≤ 1048576)
def OpenSpec.upto (s : _root_.Go.ChangeSpec) : _root_.Go.OpenSpec := { _root_.Go.OpenSpec.ofChange s with cond := some uptoSmall }

/-- 'laws.FnExactHandLook', WHERE WHAT IT READS IS OF BULK AT MOST 1048576: true; the input reads as it did. -/
def fnExactHandLookUptoRow : OpenClaim := { program := "ythhnlpchdcechaagreat", sum := "3ce5d459c1846269949866e862e0528eb0a1f8bf66e5ddf6ba2d1ba35dee421e", func := "loop.example/g00680/laws.FnExactHandLook", spec := "fnExactHandLook", inPlace := ["slices.overlaps[loop.example/g00680/impl.Pair]"], unfollowed := true, recurses := true, apart := false, narrowed := true }
def FnExactHandLookUptoSaid : Prop := fnExactHandLookUptoRow.holds Tryz.pinned (OpenSpec.upto fnExactHandLookSpec)

/-- 'laws.FnExactEndWatch', WHERE WHAT IT READS IS OF BULK AT MOST 1048576: true; the input reads as it did. -/
def fnExactEndWatchUptoRow : OpenClaim := { program := "ythhnlpchdcechaagreat", sum := "3ce5d459c1846269949866e862e0528eb0a1f8bf66e5ddf6ba2d1ba35dee421e", func := "loop.example/g00680/laws.FnExactEndWatch", spec := "fnExactEndWatch", unfollowed := true, recurses := true, apart := false, narrowed := true }
def FnExactEndWatchUptoSaid : Prop := fnExactEndWatchUptoRow.holds Tryz.pinned (OpenSpec.upto fnExactEndWatchSpec)

/-- 'laws.FnExactRetireNode', WHERE WHAT IT READS IS OF BULK AT MOST 1048576: true; the input reads as it did. -/
def fnExactRetireNodeUptoRow : OpenClaim := { program := "ythhnlpchdcechaagreat", sum := "3ce5d459c1846269949866e862e0528eb0a1f8bf66e5ddf6ba2d1ba35dee421e", func := "loop.example/g00680/laws.FnExactRetireNode", spec := "fnExactRetireNode", unfollowed := true, recurses := true, apart := false, narrowed := true }
def FnExactRetireNodeUptoSaid : Prop := fnExactRetireNodeUptoRow.holds Tryz.pinned (OpenSpec.upto fnExactRetireNodeSpec)

/-- 'laws.FnExactPairsIn', WHERE WHAT IT READS IS OF BULK AT MOST 1048576: true; the input reads as it did. -/
def fnExactPairsInUptoRow : OpenClaim := { program := "ythhnlpchdcechaagreat", sum := "3ce5d459c1846269949866e862e0528eb0a1f8bf66e5ddf6ba2d1ba35dee421e", func := "loop.example/g00680/laws.FnExactPairsIn", spec := "fnExactPairsIn", unfollowed := true, recurses := true, apart := false, narrowed := true }
def FnExactPairsInUptoSaid : Prop := fnExactPairsInUptoRow.holds Tryz.pinned (OpenSpec.upto fnExactPairsInSpec)

end Rows
end Go.Proofs.YthhnlpchdcechaaGreat
