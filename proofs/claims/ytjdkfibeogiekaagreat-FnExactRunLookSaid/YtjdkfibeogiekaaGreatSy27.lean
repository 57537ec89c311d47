/- What functions of the program answer, each at every input that its row names; walked through their code. -/
import Derived.Test.YtjdkfibeogiekaaGreatSy26
namespace Go.Proofs.YtjdkfibeogiekaaGreat.Sx
open Go Go.RowKit Go.Proofs
set_option linter.unusedVariables false
set_option linter.unusedSimpArgs false
def tab27 : Tab := { size := [], off := [], elem := [] }
theorem tab_ok27 : tab27.check Tryz.prog = true:=by kernel_rfl
noncomputable abbrev X27 (N : Nat) (w : World) : Cx := ⟨Tryz.prog, tab27, tab_ok27, wide, N, w, none, []⟩


end Go.Proofs.YtjdkfibeogiekaaGreat.Sx
