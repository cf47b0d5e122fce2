/- Each function of the program that stands below is a plain Lean function, and the call of the program comes to what that function says. No condition beyond those in the statements. -/
import Derived.Test.YtecndndpjekjbaaSx0
import Derived.Test.YtecndndpjekjbaaBase
import Derived.Test.YtecndndpjekjbaaShaI
import Derived.WalkSpells
namespace Go.Proofs.Ytecndndpjekjbaa.S
open Go.RowKit Go.Proofs.YtecndndpjekjbaaW.PrintWords Go.Proofs.YtecndndpjekjbaaW.PrintLast Go.Proofs.YtecndndpjekjbaaW.PrintMore
attribute [local go_sem] max2_int min2_int max_two min_two max_three min_three max_four min_four   -- for this text's walks alone
set_option linter.unusedVariables false
set_option linter.unusedSimpArgs false

-- IMPORT Derived.Test.YtecndndpjekjbaaBase
-- IMPORT Derived.Test.YtecndndpjekjbaaShaI
-- IMPORT Derived.WalkSpells
open Go.Proofs.Ytecndndpjekjbaa.Base
open Go.Proofs.Ytecndndpjekjbaa.Sha
/-! ### impl_digest: function 98 -/
/- The walk and the function stand in the text ShaDigest. -/

end Go.Proofs.Ytecndndpjekjbaa.S
