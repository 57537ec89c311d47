/- How an argument's reading stands in memory, for each type of argument. -/
import Derived.Test.YtpjepjnemnmieaaDoorSy0
namespace Go.Proofs.YtpjepjnemnmieaaDoor.Sx
open Go Go.RowKit Go.Proofs
set_option linter.unusedVariables false
set_option linter.unusedSimpArgs false

end Go.Proofs.YtpjepjnemnmieaaDoor.Sx
