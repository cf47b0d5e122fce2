/- Each function of the program that stands below is a plain Lean function, and the call of the program comes to what that function says. No condition beyond those in the statements. -/
import Derived.Test.YtchmaojmknfbpaaSx0
import Derived.Test.YtchmaojmknfbpaaSxImplProveLeafY
import Derived.Test.YtchmaojmknfbpaaSxImplKeys
import Derived.Test.YtchmaojmknfbpaaSxImplDigitsOf
namespace Go.Proofs.Ytchmaojmknfbpaa.S
open Go.RowKit Go.Proofs.YtchmaojmknfbpaaW.PrintWords Go.Proofs.YtchmaojmknfbpaaW.PrintLast Go.Proofs.YtchmaojmknfbpaaW.PrintMore
attribute [local go_sem] max2_int min2_int max_two min_two max_three min_three max_four min_four   -- for this text's walks alone
set_option linter.unusedVariables false
set_option linter.unusedSimpArgs false

/-! ### impl_sign: function 35 -/
def impl_sign.l0 : Nat → List Int → Int → List Int → Int → Int → Int → List (List Int) → Int → Int → List (List Int) → Option (Int × (List (List Int)) × Int × Int × (List (List Int)))
  | 0, _, _, _, _, _, _, _, _, _, _ => none
  | k + 1, x0, x1, x17, x18, x19, x655000, x655001, x655002, x655003, x655004 => if x19 < x18 then (if 0 ≤ x19 then (if x19 < (x17.length : Int) then ((impl_secret.f x0 x1 x19).bind fun t659 => ((impl_climb.f k t659 (rd x17 x19)).bind fun t662 => (if x655001.length < 5864062014805 then (impl_sign.l0 k x0 x1 x17 x18 (wrap64 (x19 + 1)) x655000 (x655001 ++ [t662]) x655002 x655003 x655004) else (none)))) else (none)) else (none)) else (some (x655000, x655001, x655002, x655003, x655004))
def impl_sign.f (k : Nat) (l0 : List Int) (a1 : Int) (l2 : List Int) : Option (Int × (List (List Int)) × Int × Int × (List (List Int))) := (impl_publicLeaves.f k l0).bind fun t646 => ((impl_proveLeaf.f k t646 a1).bind fun bt649 => ((impl_DigitsOf.f k l2).bind fun t655 => (impl_sign.l0 k l0 a1 t655 (t655.length : Int) 0 a1 ([] : List (List Int)) bt649.1 bt649.2.1 bt649.2.2)))
def impl_sign.T5 : Bool × List (List Nat × List Nat) := (true, [([], []), ([0], [0]), ([], []), ([], []), ([], []), ([2, 3, 4], [2, 3, 4]), ([], []), ([5, 6, 5], [5, 6]), ([7], [7]), ([1, 8, 7], [1, 8]), ([0, 1, 2, 3, 4, 5, 6, 7, 8, 9], []), ([10, 9, 9, 0, 1, 2, 3, 4, 5, 6, 7, 8, 9], [9, 10])])
def impl_sign.B5 : List Nat := [0, 1, 0, 0, 0, 28, 0, 124, 252, 511, 1023, 2047]
theorem impl_sign.tab5 : rtab .any (opsOf Try.f35 5) = impl_sign.T5 := by kernel_rfl
theorem impl_sign.bits5 : waitsOk impl_sign.T5.2 impl_sign.B5 = true := by kernel_rfl
end Go.Proofs.Ytchmaojmknfbpaa.S
