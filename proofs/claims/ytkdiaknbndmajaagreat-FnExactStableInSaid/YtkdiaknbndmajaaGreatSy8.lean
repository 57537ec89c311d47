/- What functions of the program answer, each at every input that its row names; walked through their code. -/
import Derived.Test.YtkdiaknbndmajaaGreatSy7
namespace Go.Proofs.YtkdiaknbndmajaaGreat.Sx
open Go Go.RowKit Go.Proofs
set_option linter.unusedVariables false
set_option linter.unusedSimpArgs false
def tab7 : Tab := { size := [], off := [], elem := [] }
theorem tab_ok7 : tab7.check Tryz.prog = true := by kernel_rfl
noncomputable abbrev X7 (N : Nat) (w : World) : Cx := ⟨Tryz.prog, tab7, tab_ok7, wide, N, w, none, []⟩

end Go.Proofs.YtkdiaknbndmajaaGreat.Sx
