/- What functions of the program answer, each at every input that its row names; walked through their code. -/
import Derived.Test.YtjdkfibeogiekaaGreatSy13
namespace Go.Proofs.YtjdkfibeogiekaaGreat.Sx
open Go Go.RowKit Go.Proofs
set_option linter.unusedVariables false
set_option linter.unusedSimpArgs false
def tab14 : Tab := { size := [], off := [], elem := [] }
theorem tab_ok14 : tab14.check Tryz.prog = true:=by kernel_rfl
noncomputable abbrev X14 (N : Nat) (w : World) : Cx := ⟨Tryz.prog, tab14, tab_ok14, wide, N, w, none, []⟩

theorem ans_mem {l : List Pair} {q : Query} {x : Pair} (h : x ∈ answerL l q) : x ∈ l:=by
  unfold answerL at h
  split at h
  · exact (List.mem_filter.1 (near_mem (List.mem_of_mem_take h))).1
  · exact (List.mem_filter.1 h).1
theorem ans_len (l : List Pair) (q : Query) : (answerL l q).length ≤ l.length:=by
  unfold answerL
  split
  · rw [List.length_take,nearList_len]; exact Nat.le_trans (Nat.min_le_right _ _) (List.length_filter_le _ _)
  · exact List.length_filter_le _ _

end Go.Proofs.YtjdkfibeogiekaaGreat.Sx
