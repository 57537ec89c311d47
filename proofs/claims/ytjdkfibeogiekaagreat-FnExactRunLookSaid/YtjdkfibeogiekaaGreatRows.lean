/-
  No cell of these rows narrows 'for every input' (looked for: loops, veiled, ifaces, maps, wideKeys, modest, calm, conditions, laid).
  DERIVED. THE GIVEN ROWS OF THIS SEAT. 4 by the template 'for every input the law returns true; each argument reads behind the call as it read before'; 0 by the template 'total and deterministic' (their statements: YtjdkfibeogiekaaGreatTotals.lean).
  GIVEN WITH THE SEED: the statements are not yours to turn. If you find one false, say at which input.
  Laid BY PROGRAM, IN A SANDBOX (cutbox-rows.mjs): the forced cells as the released guide's own fill.sh prints them over the translation f75362ef121e3144… (all of the seat's roots in one cut). By AI agents, Wed Nov 11 2026. No macro, syntax, notation, axiom, sorry.
-/
import Derived.Test.YtjdkfibeogiekaaGreatChecked
import GoSem.Claim
import GoSem.ClaimJoined
import GoSem.ClaimMapViews
import Derived.JoinedTies
import Derived.KernelRfl
namespace Go.Proofs.YtjdkfibeogiekaaGreat
/- THE CELL 'sum', in the pinned program and in every row, IS THE sha256 OF THE DUMP (.gsa) THAT YtjdkfibeogiekaaGreatProg.lean LOADS. Nothing in Lean hashes anything: it is a label: what it is worth is what the hold of that sum in a sandbox is worth. -/
noncomputable def Tryz.pinned : Pinned := { name := "ytjdkfibeogiekaagreat", sum := "f75362ef121e3144d34bb816fb73dca822913131b48a79b976745be2bcbb9d77", checked := Tryz.checked }
namespace Rows
def none {H : Type} : Left H := { results := [], args := [] }

/-- 'laws.FnExactSplitBy': WHATEVER THE INPUT: true; the input reads as it did. -/
def fnExactSplitBySpec : ChangeSpec := { name := "fnExactSplitBy", fn := fun _ => fun
  | [d1, d2, d3] => { results := [.lit (.bool true)], args := [d1, d2, d3] }
  | _ => none }
def fnExactSplitByRow : OpenClaim := { program := "ytjdkfibeogiekaagreat", sum := "f75362ef121e3144d34bb816fb73dca822913131b48a79b976745be2bcbb9d77", func := "loop.example/g00680/laws.FnExactSplitBy", spec := "fnExactSplitBy", unfollowed := true, recurses := true, apart := false }
def FnExactSplitBySaid : Prop := fnExactSplitByRow.holds Tryz.pinned (OpenSpec.ofChange fnExactSplitBySpec)

/-- ITS FALSE NEIGHBOUR: 'it returns false'. Refute it at one input. -/
def fnExactSplitByWrong : ChangeSpec := { name := "fnExactSplitBy", fn := fun _ => fun
  | [d1, d2, d3] => { results := [.lit (.bool false)], args := [d1, d2, d3] }
  | _ => none }
def FnExactSplitByWrongFalsely : Prop := fnExactSplitByRow.holds Tryz.pinned (OpenSpec.ofChange fnExactSplitByWrong)

/-- 'laws.FnWatches': WHATEVER THE INPUT: true; the input reads as it did. -/
def fnWatchesSpec : ChangeSpec := { name := "fnWatches", fn := fun _ => fun
  | [d] => { results := [.lit (.bool true)], args := [d] }
  | _ => none }
def fnWatchesRow : OpenClaim := { program := "ytjdkfibeogiekaagreat", sum := "f75362ef121e3144d34bb816fb73dca822913131b48a79b976745be2bcbb9d77", func := "loop.example/g00680/laws.FnWatches", spec := "fnWatches", unfollowed := true, recurses := true, apart := false }
def FnWatchesSaid : Prop := fnWatchesRow.holds Tryz.pinned (OpenSpec.ofChange fnWatchesSpec)

/-- ITS FALSE NEIGHBOUR: 'it returns false'. Refute it at one input. -/
def fnWatchesWrong : ChangeSpec := { name := "fnWatches", fn := fun _ => fun
  | [d] => { results := [.lit (.bool false)], args := [d] }
  | _ => none }
def FnWatchesWrongFalsely : Prop := fnWatchesRow.holds Tryz.pinned (OpenSpec.ofChange fnWatchesWrong)

/-- 'laws.FnArenas': WHATEVER THE INPUT: true; the input reads as it did. -/
def fnArenasSpec : ChangeSpec := { name := "fnArenas", fn := fun _ => fun
  | [d] => { results := [.lit (.bool true)], args := [d] }
  | _ => none }
def fnArenasRow : OpenClaim := { program := "ytjdkfibeogiekaagreat", sum := "f75362ef121e3144d34bb816fb73dca822913131b48a79b976745be2bcbb9d77", func := "loop.example/g00680/laws.FnArenas", spec := "fnArenas", unfollowed := true, recurses := true, apart := false }
def FnArenasSaid : Prop := fnArenasRow.holds Tryz.pinned (OpenSpec.ofChange fnArenasSpec)

/-- ITS FALSE NEIGHBOUR: 'it returns false'. Refute it at one input. -/
def fnArenasWrong : ChangeSpec := { name := "fnArenas", fn := fun _ => fun
  | [d] => { results := [.lit (.bool false)], args := [d] }
  | _ => none }
def FnArenasWrongFalsely : Prop := fnArenasRow.holds Tryz.pinned (OpenSpec.ofChange fnArenasWrong)

/-- 'laws.FnExactRunLook': WHATEVER THE INPUT: true; the input reads as it did. -/
def fnExactRunLookSpec : ChangeSpec := { name := "fnExactRunLook", fn := fun _ => fun
  | [d1, d2] => { results := [.lit (.bool true)], args := [d1, d2] }
  | _ => none }
def fnExactRunLookRow : OpenClaim := { program := "ytjdkfibeogiekaagreat", sum := "f75362ef121e3144d34bb816fb73dca822913131b48a79b976745be2bcbb9d77", func := "loop.example/g00680/laws.FnExactRunLook", spec := "fnExactRunLook", inPlace := ["slices.overlaps[loop.example/g00680/impl.Pair]"], unfollowed := true, recurses := true, apart := false }
def FnExactRunLookSaid : Prop := fnExactRunLookRow.holds Tryz.pinned (OpenSpec.ofChange fnExactRunLookSpec)

/-- ITS FALSE NEIGHBOUR: 'it returns false'. Refute it at one input. -/
def fnExactRunLookWrong : ChangeSpec := { name := "fnExactRunLook", fn := fun _ => fun
  | [d1, d2] => { results := [.lit (.bool false)], args := [d1, d2] }
  | _ => none }
def FnExactRunLookWrongFalsely : Prop := fnExactRunLookRow.holds Tryz.pinned (OpenSpec.ofChange fnExactRunLookWrong)

/- THE SECOND FORM. 'bulk': how many values and letters a reading holds, each counted each time it is reached (what is shared counts as often as it is met; a slice's spare places count too). A statement '..UptoSaid' is the law's where the arguments, and the package variables that the reading takes, are together of bulk at most 1048576: NARROWER than '..Said'. Prove '..Said' where nothing that the law and all that it calls make is longer than what came in: it says more and counts as full. Else prove '..UptoSaid'. A law counts once. -/
mutual
def uptoBulk {H : Type} : DataW H → Nat
  | .lit (.string bytes) => bytes.length + 1
  | .lit _ => 1
  | .nil => 1
  | .ptr d => uptoBulk d + 1
  | .slice elems spare => uptoBulkAll elems + uptoBulkAll spare + 1
  | .agg parts => uptoBulkAll parts + 1
  | .iface _ d => uptoBulk d + 1
  | .map entries => uptoBulkEntries entries + 1
  | .held _ => 1
def uptoBulkAll {H : Type} : List (DataW H) → Nat
  | [] => 0
  | d :: r => uptoBulk d + uptoBulkAll r
def uptoBulkEntries {H : Type} : List (Lit × DataW H) → Nat
  | [] => 0
  | x :: r => uptoBulkEntry x + uptoBulkEntries r
def uptoBulkEntry {H : Type} : Lit × DataW H → Nat
  | (.string bytes, d) => bytes.length + uptoBulk d + 1
  | (_, d) => uptoBulk d + 1
 end
def uptoSmall : (H : Type) → List (DataW H) → Bool := fun _ ds => decide (uptoBulkAll ds ≤ 1048576)
def OpenSpec.upto (s : _root_.Go.ChangeSpec) : _root_.Go.OpenSpec := { _root_.Go.OpenSpec.ofChange s with cond := some uptoSmall }

/-- 'laws.FnExactSplitBy', WHERE WHAT IT READS IS OF BULK AT MOST 1048576: true; the input reads as it did. -/
def fnExactSplitByUptoRow : OpenClaim := { program := "ytjdkfibeogiekaagreat", sum := "f75362ef121e3144d34bb816fb73dca822913131b48a79b976745be2bcbb9d77", func := "loop.example/g00680/laws.FnExactSplitBy", spec := "fnExactSplitBy", unfollowed := true, recurses := true, apart := false, narrowed := true }
def FnExactSplitByUptoSaid : Prop := fnExactSplitByUptoRow.holds Tryz.pinned (OpenSpec.upto fnExactSplitBySpec)

/-- 'laws.FnWatches', WHERE WHAT IT READS IS OF BULK AT MOST 1048576: true; the input reads as it did. -/
def fnWatchesUptoRow : OpenClaim := { program := "ytjdkfibeogiekaagreat", sum := "f75362ef121e3144d34bb816fb73dca822913131b48a79b976745be2bcbb9d77", func := "loop.example/g00680/laws.FnWatches", spec := "fnWatches", unfollowed := true, recurses := true, apart := false, narrowed := true }
def FnWatchesUptoSaid : Prop := fnWatchesUptoRow.holds Tryz.pinned (OpenSpec.upto fnWatchesSpec)

/-- 'laws.FnArenas', WHERE WHAT IT READS IS OF BULK AT MOST 1048576: true; the input reads as it did. -/
def fnArenasUptoRow : OpenClaim := { program := "ytjdkfibeogiekaagreat", sum := "f75362ef121e3144d34bb816fb73dca822913131b48a79b976745be2bcbb9d77", func := "loop.example/g00680/laws.FnArenas", spec := "fnArenas", unfollowed := true, recurses := true, apart := false, narrowed := true }
def FnArenasUptoSaid : Prop := fnArenasUptoRow.holds Tryz.pinned (OpenSpec.upto fnArenasSpec)

/-- 'laws.FnExactRunLook', WHERE WHAT IT READS IS OF BULK AT MOST 1048576: true; the input reads as it did. -/
def fnExactRunLookUptoRow : OpenClaim := { program := "ytjdkfibeogiekaagreat", sum := "f75362ef121e3144d34bb816fb73dca822913131b48a79b976745be2bcbb9d77", func := "loop.example/g00680/laws.FnExactRunLook", spec := "fnExactRunLook", inPlace := ["slices.overlaps[loop.example/g00680/impl.Pair]"], unfollowed := true, recurses := true, apart := false, narrowed := true }
def FnExactRunLookUptoSaid : Prop := fnExactRunLookUptoRow.holds Tryz.pinned (OpenSpec.upto fnExactRunLookSpec)

end Rows
end Go.Proofs.YtjdkfibeogiekaaGreat
