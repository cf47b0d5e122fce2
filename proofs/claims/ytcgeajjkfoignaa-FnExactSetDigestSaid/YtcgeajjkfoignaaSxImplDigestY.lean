/- Each function of the program that stands below is a plain Lean function, and the call of the program comes to what that function says. No condition beyond those in the statements. -/
import Derived.Test.YtcgeajjkfoignaaSx0
import Derived.Test.YtcgeajjkfoignaaBase
import Derived.Test.YtcgeajjkfoignaaShaI
import Derived.WalkSpells
namespace Go.Proofs.Ytcgeajjkfoignaa.S
open Go.RowKit Go.Proofs.YtcgeajjkfoignaaW.PrintWords Go.Proofs.YtcgeajjkfoignaaW.PrintLast Go.Proofs.YtcgeajjkfoignaaW.PrintMore
attribute [local go_sem] max2_int min2_int max_two min_two max_three min_three max_four min_four   -- for this text's walks alone
set_option linter.unusedVariables false
set_option linter.unusedSimpArgs false

-- IMPORT Derived.Test.YtcgeajjkfoignaaBase
-- IMPORT Derived.Test.YtcgeajjkfoignaaShaI
-- IMPORT Derived.WalkSpells
open Go.Proofs.Ytcgeajjkfoignaa.Base
open Go.Proofs.Ytcgeajjkfoignaa.Sha
/-! ### impl_digest: function 66 -/
/- The walk and the function stand in the text ShaDigest. -/

end Go.Proofs.Ytcgeajjkfoignaa.S
