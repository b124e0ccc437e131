/- What the claim's law needs, many texts in one (Hz). No conditions of its own. -/
import Derived.Test.YtggfcmondffodaaDoorZk4
set_option linter.unusedVariables false
set_option linter.unusedSimpArgs false
namespace Go.Proofs.YtggfcmondffodaaDoor.P
open Go.RowKit Go.Shelf

end Go.Proofs.YtggfcmondffodaaDoor.P
