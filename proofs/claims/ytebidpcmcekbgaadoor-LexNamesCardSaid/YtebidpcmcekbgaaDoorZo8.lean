/- What the claim's law needs, many texts in one (Hz). No conditions of its own. -/
import Derived.Test.YtebidpcmcekbgaaDoorZo4
set_option linter.unusedVariables false
set_option linter.unusedSimpArgs false
namespace Go.Proofs.YtebidpcmcekbgaaDoor.P
open Go.RowKit Go.Shelf

end Go.Proofs.YtebidpcmcekbgaaDoor.P
