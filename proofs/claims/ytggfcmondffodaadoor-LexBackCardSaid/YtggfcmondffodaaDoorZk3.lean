/- What the claim's law needs, many texts in one (P8). No conditions of its own. -/
import Derived.Test.YtggfcmondffodaaDoorZk2
set_option linter.unusedVariables false
set_option linter.unusedSimpArgs false
namespace Go.Proofs.YtggfcmondffodaaDoor.P
open Go.RowKit Go.Proofs.YtggfcmondffodaaDoorW.PrintWords Go.Proofs.YtggfcmondffodaaDoorW.PrintLast Go.Proofs.YtggfcmondffodaaDoorW.PrintMore
attribute [local go_sem] min2_int min_two -- for this text's walks alone
set_option linter.unusedVariables false
set_option linter.unusedSimpArgs false

/-! ### riposteref01_All: function 47 -/

/-! ### riposteref01_Tokens: function 17 -/

/-! ### riposteref01_Notes: function 19 -/

-- NOT PRINTED: function 3 (ripostelaw01_LexTokens)

/-! ### riposteref01_IsRight: function 84 -/

/-! ### riposteref01_IsName: function 52 -/

end Go.Proofs.YtggfcmondffodaaDoor.P
