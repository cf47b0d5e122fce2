/- Each function of the program that stands below is a plain Lean function, and the call of the program comes to what that function says. No condition beyond those in the statements. -/
import Derived.Test.YtchmaojmknfbpaaSx0
import Derived.Test.YtchmaojmknfbpaaBase
import Derived.Test.YtchmaojmknfbpaaShaS
import Derived.WalkSpells
namespace Go.Proofs.Ytchmaojmknfbpaa.S
open Go.RowKit Go.Proofs.YtchmaojmknfbpaaW.PrintWords Go.Proofs.YtchmaojmknfbpaaW.PrintLast Go.Proofs.YtchmaojmknfbpaaW.PrintMore
attribute [local go_sem] max2_int min2_int max_two min_two max_three min_three max_four min_four   -- for this text's walks alone
set_option linter.unusedVariables false
set_option linter.unusedSimpArgs false

-- IMPORT Derived.Test.YtchmaojmknfbpaaBase
-- IMPORT Derived.Test.YtchmaojmknfbpaaShaS
-- IMPORT Derived.WalkSpells
open Go.Proofs.Ytchmaojmknfbpaa.Base
open Go.Proofs.Ytchmaojmknfbpaa.Sha
/-! ### spec_Digest: function 103 -/
/- The walk and the function stand in the text ShaDigestS. -/

end Go.Proofs.Ytchmaojmknfbpaa.S
