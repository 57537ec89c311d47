/- What functions of the program answer, each at every input that its row names; walked through their code. -/
import Derived.Test.YtkdiaknbndmajaaGreatSy9
namespace Go.Proofs.YtkdiaknbndmajaaGreat.Sx
open Go Go.RowKit Go.Proofs
set_option linter.unusedVariables false
set_option linter.unusedSimpArgs false
def tab9 : Tab := { size := [], off := [], elem := [] }
theorem tab_ok9 : tab9.check Tryz.prog = true := by kernel_rfl
noncomputable abbrev X9 (N : Nat) (w : World) : Cx := ⟨Tryz.prog, tab9, tab_ok9, wide, N, w, none, []⟩

end Go.Proofs.YtkdiaknbndmajaaGreat.Sx
