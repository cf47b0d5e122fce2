/- The program's SameBytes and the reference's answer alike, for all slices of bytes. No condition. -/
import Derived.Test.YtlnppbcifenanaaPCompare
import Derived.Test.YtlnppbcifenanaaSxLawsFnExactSameBytes
import Derived.Lib.Bytes
set_option linter.unusedVariables false
namespace Go.Proofs.Ytlnppbcifenanaa.S
open Go.RowKit Go.Proofs.YtlnppbcifenanaaW.PrintWords Go.Proofs.YtlnppbcifenanaaW.PrintLast Go.Proofs.YtlnppbcifenanaaW.PrintMore Go.Proofs.Ytlnppbcifenanaa.Base

theorem equal_eq {a b : List Int} (ha : Byt a) (hb : Byt b) : bytes_Equal.f a b = some (decide (a = b)) := by
  unfold bytes_Equal.f
  congr 1
  rw [Lib.strOfNums_toList, Lib.strOfNums_toList, Bool.eq_iff_iff, beq_iff_eq, decide_eq_true_iff]
  constructor
  · intro h
    refine strOfNums_inj ha hb ?_
    have h2 := congrArg List.toArray h
    exact h2
  · intro h; rw [h]
end Go.Proofs.Ytlnppbcifenanaa.S
namespace Go.Proofs.Ytlnppbcifenanaa.Pure
open Go.RowKit Go.Proofs.Ytlnppbcifenanaa.S Go.Proofs.YtlnppbcifenanaaW.PrintWords Go.Proofs.YtlnppbcifenanaaW.PrintLast Go.Proofs.YtlnppbcifenanaaW.PrintMore Go.Proofs.Ytlnppbcifenanaa.Base

theorem FnExactSameBytes : laws_FnExactSameBytes.Pure := by
  intro a b ma za wa mb zb wb
  refine Ev.rounds ?_
  unfold laws_FnExactSameBytes.f
  by_cases ca : (a.length : Int) > 1048576
  · exact ev_pos ca (ev_now rfl)
  refine ev_neg ca ?_
  by_cases cb : (b.length : Int) > 1048576
  · exact ev_pos cb (ev_now rfl)
  refine ev_neg cb ?_
  have ta := toByteS_ev a (by omega)
  have tb := toByteS_ev b (by omega)
  have ea := eqByteS_ev a (by omega)
  have eb := eqByteS_ev b (by omega)
  refine ev_bind ta (ev_bind tb ?_)
  have hs : Ev (fun k => spec_SameBytes.f k a b) (decide (a = b)) := by
    unfold spec_SameBytes.f
    refine ev_bind (compareBytes_ev a b (by omega) (by omega)) (ev_now ?_)
    congr 1
    rw [Bool.eq_iff_iff, beq_iff_eq, decide_eq_true_iff]
    exact cmpL_zero a b
  refine ev_bind hs (ev_bind ta (ev_bind tb ?_))
  refine ev_bind (a := decide (a = b)) (ev_now ?_) ?_
  · unfold impl_SameBytes.f
    rw [equal_eq (byt_of_wf wa) (byt_of_wf wb)]
    rfl
  · refine ev_neg (by simp) ?_
    exact ev_bind ta (ev_bind ea (ev_pos rfl (ev_bind tb (ev_bind eb (ev_pos rfl (ev_now rfl))))))
end Go.Proofs.Ytlnppbcifenanaa.Pure
