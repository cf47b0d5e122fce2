/- Each function of the program that stands below is a plain Lean function, and the call of the program comes to what that function says. No condition beyond those in the statements. -/
import Derived.Test.YtchmaojmknfbpaaSx0
import Derived.Test.YtchmaojmknfbpaaSxImplSmall
import Derived.Test.YtchmaojmknfbpaaSxImplSignY
namespace Go.Proofs.Ytchmaojmknfbpaa.S
open Go.RowKit Go.Proofs.YtchmaojmknfbpaaW.PrintWords Go.Proofs.YtchmaojmknfbpaaW.PrintLast Go.Proofs.YtchmaojmknfbpaaW.PrintMore
attribute [local go_sem] max2_int min2_int max_two min_two max_three min_three max_four min_four   -- for this text's walks alone
set_option linter.unusedVariables false
set_option linter.unusedSimpArgs false

/-! ### impl_SignMessage: function 9 -/
def impl_SignMessage.j0 : Nat → List Int → Int → List Int → Bool → Option (Int × Int × (List (List Int)) × Int × Int × (List (List Int)))
  | 0, _, _, _, _ => none
  | k + 1, x0, x1, x2, x14 => if x14 = true then (some (2, 0, ([] : List (List Int)), 0, 0, ([] : List (List Int)))) else ((impl_isLeaf.f x1).bind fun t669 => (if t669 = true then ((impl_sign.f k x0 x1 x2).bind fun bt670 => (some (0, bt670.1, bt670.2.1, bt670.2.2.1, bt670.2.2.2.1, bt670.2.2.2.2))) else (some (3, 0, ([] : List (List Int)), 0, 0, ([] : List (List Int))))))
def impl_SignMessage.f (k : Nat) (l0 : List Int) (a1 : Int) (l2 : List Int) : Option (Int × Int × (List (List Int)) × Int × Int × (List (List Int))) := if (l0.length : Int) > 200 then (impl_SignMessage.j0 k l0 a1 l2 true) else (impl_SignMessage.j0 k l0 a1 l2 (decide ((l2.length : Int) > 4000)))
end Go.Proofs.Ytchmaojmknfbpaa.S
