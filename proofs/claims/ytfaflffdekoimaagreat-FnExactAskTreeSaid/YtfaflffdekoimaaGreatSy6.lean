/- What functions of the program answer, each at every input that its row names; walked through their code. -/
import Derived.Test.YtfaflffdekoimaaGreatSy5
namespace Go.Proofs.YtfaflffdekoimaaGreat.Sx
open Go Go.RowKit Go.Proofs
set_option linter.unusedVariables false
set_option linter.unusedSimpArgs false
def tab6 : Tab := { size := [], off := [], elem := [] }
theorem tab_ok6 : tab6.check Tryz.prog = true := by kernel_rfl
noncomputable abbrev X6 (N : Nat) (w : World) : Cx := ⟨Tryz.prog, tab6, tab_ok6, wide, N, w, none, []⟩

end Go.Proofs.YtfaflffdekoimaaGreat.Sx
