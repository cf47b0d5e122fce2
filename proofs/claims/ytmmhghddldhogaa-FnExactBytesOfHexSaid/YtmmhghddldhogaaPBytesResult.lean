/- What the laws' helpers on a BytesResult come to. For every result that fits. -/
import Derived.Test.YtmmhghddldhogaaPMark
import Derived.Test.YtmmhghddldhogaaSxLawsEqBytesResultY
import Derived.Test.YtmmhghddldhogaaSxLawsMarkBytesResultY
import Derived.Test.YtmmhghddldhogaaSxLawsHeldBytesResultY
set_option linter.unusedVariables false
namespace Go.Proofs.Ytmmhghddldhogaa.S
open Go.RowKit Go.Proofs.YtmmhghddldhogaaW.PrintWords Go.Proofs.YtmmhghddldhogaaW.PrintLast Go.Proofs.YtmmhghddldhogaaW.PrintMore Go.Proofs.Ytmmhghddldhogaa.Base

theorem eqBytesResult_ev (c : Int) (l : List Int) (hl : l.length ≤ 281474976710656) : Ev (fun k => laws_eqBytesResult.f k c l c l) true := by
  unfold laws_eqBytesResult.f
  exact ev_pos rfl (ev_bind (eqByteS_ev l hl) (ev_pos rfl (ev_now rfl)))
theorem markBytesResult_ev (c : Int) (l : List Int) (hl : l.length ≤ 281474976710656) : Ev (fun k => laws_markBytesResult.f k c l 1) (1 + (l.length : Int), marked 1 l.length) := by
  unfold laws_markBytesResult.f
  exact ev_bind (markByteS_ev l 1 (by omega) (by omega)) (ev_now rfl)
theorem heldBytesResult_ev (c : Int) (n : Nat) (hl : n ≤ 281474976710656) : Ev (fun k => laws_heldBytesResult.f k c (marked 1 n) 1) (1 + (n : Int)) := by
  unfold laws_heldBytesResult.f
  exact ev_bind (heldByteS_ev n 1 (by omega) (by omega)) (ev_neg (by omega) (ev_now rfl))
end Go.Proofs.Ytmmhghddldhogaa.S
