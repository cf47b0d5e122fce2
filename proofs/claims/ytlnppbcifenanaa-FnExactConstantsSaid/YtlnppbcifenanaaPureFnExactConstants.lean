/- The program's constants are the reference's. No condition. -/
import Derived.Test.YtlnppbcifenanaaBase
import Derived.Test.YtlnppbcifenanaaSxLawsFnExactConstants
set_option linter.unusedVariables false
namespace Go.Proofs.Ytlnppbcifenanaa.Pure
open Go.RowKit Go.Proofs.Ytlnppbcifenanaa.S Go.Proofs.YtlnppbcifenanaaW.PrintWords Go.Proofs.YtlnppbcifenanaaW.PrintLast Go.Proofs.YtlnppbcifenanaaW.PrintMore Go.Proofs.Ytlnppbcifenanaa.Base

theorem FnExactConstants : laws_FnExactConstants.Pure := rfl
end Go.Proofs.Ytlnppbcifenanaa.Pure
