/- Each function of the program that stands below is a plain Lean function, and the call of the program comes to what that function says. No condition beyond those in the statements. -/
import Derived.Test.YtlnppbcifenanaaProg
import Derived.Below
import Derived.Deep.Draws
import Derived.Deep.AppendLies
import Derived.Maps.AppendAt
import Derived.OwnWalk
import Derived.Laws.BytesArg
import Derived.Laws.MakeOwn
import Derived.Laws.OwnMore
import Derived.Deep.OwnRows
import Derived.Tactics
import Derived.Lib.ConvBytes
import Derived.Laws.Slices
import Derived.WalkKit
import Derived.KernelRfl
import Derived.RowKit3
import Derived.Deep.LoopGhost
import Derived.Deep.QuietTactic
import Derived.BigQuiet
import Derived.WideLaws
import Derived.Deep.DeepCutAuto
import Derived.Deep.CutBlock
import Derived.Deep.RegionHeld3
import Derived.Laws.Rows
import Derived.Lib.AppendStr
import Derived.ArgAppend
import Derived.Laws.IdiomCopy
import Derived.OrdersHeld
import Derived.Laws.BitsLemmas
import Derived.RowKit
import Derived.Test.YtlnppbcifenanaaWWords
import Derived.Test.YtlnppbcifenanaaWLast
import Derived.Test.YtlnppbcifenanaaWTab
import Derived.Test.YtlnppbcifenanaaWFour
import Derived.Test.YtlnppbcifenanaaWQPut
import Derived.Test.YtlnppbcifenanaaWApart
import Derived.Test.YtlnppbcifenanaaWArr
import Derived.Test.YtlnppbcifenanaaWZeros
import Derived.Test.YtlnppbcifenanaaWFoot
import Derived.Test.YtlnppbcifenanaaWKept
import Derived.Test.YtlnppbcifenanaaWShare
import Derived.Test.YtlnppbcifenanaaWN
import Derived.Test.YtlnppbcifenanaaWFootNe
import Derived.Test.YtlnppbcifenanaaWAt
import Derived.Test.YtlnppbcifenanaaWEqStruct
import Derived.Test.YtlnppbcifenanaaWRepsOne
import Derived.Test.YtlnppbcifenanaaWInv
import Derived.Test.YtlnppbcifenanaaWInvWords
import Derived.Test.YtlnppbcifenanaaWGuard
import Derived.Test.YtlnppbcifenanaaWNEv
import Derived.Test.YtlnppbcifenanaaWMore
namespace Go.Proofs.Ytlnppbcifenanaa.S
open Go.RowKit Go.Proofs.YtlnppbcifenanaaW.PrintWords Go.Proofs.YtlnppbcifenanaaW.PrintLast Go.Proofs.YtlnppbcifenanaaW.PrintMore
attribute [local go_sem] max2_int min2_int max_two min_two max_three min_three max_four min_four   -- for this text's walks alone
set_option linter.unusedVariables false
set_option linter.unusedSimpArgs false



def errW : Option Int → Value
  | none => .nilIface
  | some c => .iface 0 (.int .i64 c)
theorem errW_none : errW none = .nilIface := rfl
theorem errW_some (c : Int) : errW (some c) = .iface 0 (.int .i64 c) := rfl

theorem info2 : (Try.prog.info? 2).map (fun i => (i.zero, i.size, i.bytes)) = some (some (.int .i64 0), 1, 8) := by kernel_rfl
theorem info4 : (Try.prog.info? 4).map (fun i => (i.zero, i.size, i.bytes)) = some (some (.bool false), 1, 1) := by kernel_rfl
theorem info5 : (Try.prog.info? 5).map (fun i => (i.zero, i.size, i.bytes)) = some (some (.int .u8 0), 1, 1) := by kernel_rfl
-- the values' own types

end Go.Proofs.Ytlnppbcifenanaa.S
