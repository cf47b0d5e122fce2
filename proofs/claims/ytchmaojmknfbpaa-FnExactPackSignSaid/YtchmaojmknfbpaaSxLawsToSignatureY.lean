/- Each function of the program that stands below is a plain Lean function, and the call of the program comes to what that function says. No condition beyond those in the statements. -/
import Derived.Test.YtchmaojmknfbpaaSx0
import Derived.Test.YtchmaojmknfbpaaSxLawsHelpSS
namespace Go.Proofs.Ytchmaojmknfbpaa.S
open Go.RowKit Go.Proofs.YtchmaojmknfbpaaW.PrintWords Go.Proofs.YtchmaojmknfbpaaW.PrintLast Go.Proofs.YtchmaojmknfbpaaW.PrintMore
attribute [local go_sem] max2_int min2_int max_two min_two max_three min_three max_four min_four   -- for this text's walks alone
set_option linter.unusedVariables false
set_option linter.unusedSimpArgs false

/-! ### laws_toSignature: function 17 -/
def laws_toSignature.f (k : Nat) (a0_0 : Int) (l0_1 : List (List Int)) (a0_2 : Int) (a0_3 : Int) (l0_4 : List (List Int)) : Option (Int × (List (List Int)) × Int × Int × (List (List Int))) := (laws_toByteSS.f k l0_1).bind fun t197 => ((laws_toProof.f k a0_2 a0_3 l0_4).bind fun bt200 => (some (a0_0, t197, bt200.1, bt200.2.1, bt200.2.2)))
end Go.Proofs.Ytchmaojmknfbpaa.S
