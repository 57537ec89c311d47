/- What functions of the program answer, each at every input that its row names; walked through their code. -/
import Derived.Test.YtkdiaknbndmajaaGreatSy5
namespace Go.Proofs.YtkdiaknbndmajaaGreat.Sx
open Go Go.RowKit Go.Proofs
set_option linter.unusedVariables false
set_option linter.unusedSimpArgs false
def tab5 : Tab := { size := [], off := [], elem := [] }
theorem tab_ok5 : tab5.check Tryz.prog = true := by kernel_rfl
noncomputable abbrev X5 (N : Nat) (w : World) : Cx := ⟨Tryz.prog, tab5, tab_ok5, wide, N, w, none, []⟩

end Go.Proofs.YtkdiaknbndmajaaGreat.Sx
