/- What functions of the program answer, each at every input that its row names; walked through their code. -/
import Derived.Test.YtjdkfibeogiekaaGreatSy20
namespace Go.Proofs.YtjdkfibeogiekaaGreat.Sx
open Go Go.RowKit Go.Proofs
set_option linter.unusedVariables false
set_option linter.unusedSimpArgs false
def tab21 : Tab := { size := [], off := [], elem := [] }
theorem tab_ok21 : tab21.check Tryz.prog = true:=by kernel_rfl
noncomputable abbrev X21 (N : Nat) (w : World) : Cx := ⟨Tryz.prog, tab21, tab_ok21, wide, N, w, none, []⟩

end Go.Proofs.YtjdkfibeogiekaaGreat.Sx
