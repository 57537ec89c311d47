/- What functions of the program answer, each at every input that its row names; walked through their code. -/
import Derived.Test.YtjdkfibeogiekaaGreatSy24
namespace Go.Proofs.YtjdkfibeogiekaaGreat.Sx
open Go Go.RowKit Go.Proofs
set_option linter.unusedVariables false
set_option linter.unusedSimpArgs false
def tab25 : Tab := { size := [], off := [], elem := [] }
theorem tab_ok25 : tab25.check Tryz.prog = true:=by kernel_rfl
noncomputable abbrev X25 (N : Nat) (w : World) : Cx := ⟨Tryz.prog, tab25, tab_ok25, wide, N, w, none, []⟩

structure IntResult where
  code : Int
  value : Int
  deriving DecidableEq


theorem tree_0 {t : Tree} (h : treeFault t = 0) : Sound t.arena ∧ isPlace t.arena t.root = true ∧ treeRight t = true:=by
  unfold treeFault at h
  split at h
  · rename_i h1
    split at h
    · rename_i h2
      split at h
      · rename_i h3; exact ⟨arena_0 h1,h2.2.1,h3⟩
      · cases h
    · cases h
  · rename_i h1; exact absurd h h1


end Go.Proofs.YtjdkfibeogiekaaGreat.Sx
