/- The program's ZerosOf and the reference's answer alike, for every slice of bytes. No condition. -/
import Derived.Test.YtlnppbcifenanaaPBytes
import Derived.Test.YtlnppbcifenanaaPZeros
import Derived.Test.YtlnppbcifenanaaSxLawsFnExactZerosOf
set_option linter.unusedVariables false
namespace Go.Proofs.Ytlnppbcifenanaa.Pure
open Go.RowKit Go.Proofs.Ytlnppbcifenanaa.S Go.Proofs.YtlnppbcifenanaaW.PrintWords Go.Proofs.YtlnppbcifenanaaW.PrintLast Go.Proofs.YtlnppbcifenanaaW.PrintMore Go.Proofs.Ytlnppbcifenanaa.Base

theorem FnExactZerosOf : laws_FnExactZerosOf.Pure := by
  intro l hm hz hw
  refine Ev.rounds ?_
  unfold laws_FnExactZerosOf.f
  by_cases hc : (l.length : Int) > 1048576
  · exact ev_pos hc (ev_now rfl)
  · have ht := toByteS_ev l (by omega)
    have he := eqByteS_ev l (by omega)
    have hs := spec_zeros_ev l (byt_of_wf hw) (by omega)
    have hi := impl_zeros_ev l (byt_of_wf hw) (by omega)
    refine ev_neg hc ?_
    refine ev_bind ht (ev_bind hs (ev_bind ht (ev_bind hi (ev_pos rfl ?_))))
    exact ev_bind ht (ev_bind he (ev_pos rfl (ev_now rfl)))
end Go.Proofs.Ytlnppbcifenanaa.Pure
