/- Each function of the program that stands below is a plain Lean function, and the call of the program comes to what that function says. No condition beyond those in the statements. -/
import Derived.Test.YthpkhpkbfnckcaaSx0
import Derived.Test.YthpkhpkbfnckcaaBase
import Derived.Test.YthpkhpkbfnckcaaShaI
import Derived.WalkSpells
namespace Go.Proofs.Ythpkhpkbfnckcaa.S
open Go.RowKit Go.Proofs.YthpkhpkbfnckcaaW.PrintWords Go.Proofs.YthpkhpkbfnckcaaW.PrintLast Go.Proofs.YthpkhpkbfnckcaaW.PrintMore
attribute [local go_sem] max2_int min2_int max_two min_two max_three min_three max_four min_four   -- for this text's walks alone
set_option linter.unusedVariables false
set_option linter.unusedSimpArgs false

-- IMPORT Derived.Test.YthpkhpkbfnckcaaBase
-- IMPORT Derived.Test.YthpkhpkbfnckcaaShaI
-- IMPORT Derived.WalkSpells
open Go.Proofs.Ythpkhpkbfnckcaa.Base
open Go.Proofs.Ythpkhpkbfnckcaa.Sha
/-! ### impl_digest: function 178 -/
/- The walk and the function stand in the text ShaDigest. -/

end Go.Proofs.Ythpkhpkbfnckcaa.S
