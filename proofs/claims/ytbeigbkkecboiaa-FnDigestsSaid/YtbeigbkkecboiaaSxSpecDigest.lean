/- Each function of the program that stands below is a plain Lean function, and the call of the program comes to what that function says. No condition beyond those in the statements. -/
import Derived.Test.YtbeigbkkecboiaaSx0
import Derived.Test.YtbeigbkkecboiaaBase
import Derived.Test.YtbeigbkkecboiaaShaS
import Derived.WalkSpells
namespace Go.Proofs.Ytbeigbkkecboiaa.S
open Go.RowKit Go.Proofs.YtbeigbkkecboiaaW.PrintWords Go.Proofs.YtbeigbkkecboiaaW.PrintLast Go.Proofs.YtbeigbkkecboiaaW.PrintMore
attribute [local go_sem] max2_int min2_int max_two min_two max_three min_three max_four min_four   -- for this text's walks alone
set_option linter.unusedVariables false
set_option linter.unusedSimpArgs false

-- IMPORT Derived.Test.YtbeigbkkecboiaaBase
-- IMPORT Derived.Test.YtbeigbkkecboiaaShaS
-- IMPORT Derived.WalkSpells
open Go.Proofs.Ytbeigbkkecboiaa.Base
open Go.Proofs.Ytbeigbkkecboiaa.Sha
/-! ### spec_Digest: function 32 -/
/- The walk and the function stand in the text ShaDigestS. -/

end Go.Proofs.Ytbeigbkkecboiaa.S
