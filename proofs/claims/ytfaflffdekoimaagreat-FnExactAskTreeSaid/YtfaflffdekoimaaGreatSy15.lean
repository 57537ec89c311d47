/- What functions of the program answer, each at every input that its row names; walked through their code. -/
import Derived.Test.YtfaflffdekoimaaGreatSy14
namespace Go.Proofs.YtfaflffdekoimaaGreat.Sx
open Go Go.RowKit Go.Proofs
set_option linter.unusedVariables false
set_option linter.unusedSimpArgs false
def tab15 : Tab := { size := [], off := [], elem := [] }
theorem tab_ok15 : tab15.check Tryz.prog = true := by kernel_rfl
noncomputable abbrev X15 (N : Nat) (w : World) : Cx := ⟨Tryz.prog, tab15, tab_ok15, wide, N, w, none, []⟩

end Go.Proofs.YtfaflffdekoimaaGreat.Sx
