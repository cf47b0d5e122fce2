/- The program's WorkOf and the reference's answer alike, for every number: the statement of the law's own words. No condition. -/
import Derived.Test.YtlnppbcifenanaaBase
import Derived.Test.YtlnppbcifenanaaSxLawsFnExactWorkOf
set_option linter.unusedVariables false
namespace Go.Proofs.Ytlnppbcifenanaa.Pure
open Go.RowKit Go.Proofs.Ytlnppbcifenanaa.S Go.Proofs.YtlnppbcifenanaaW.PrintWords Go.Proofs.YtlnppbcifenanaaW.PrintLast Go.Proofs.YtlnppbcifenanaaW.PrintMore Go.Proofs.Ytlnppbcifenanaa.Base

theorem FnExactWorkOf : laws_FnExactWorkOf.Pure := by
  intro a h
  have hw := wf_i64 h
  unfold laws_FnExactWorkOf.f spec_WorkOf.f impl_WorkOf.f impl_isZeros.f impl_in.f spec_l1In.f laws_eqIntResult.f
  by_cases h0 : 0 ≤ a
  · by_cases h1 : a ≤ 40
    · have e : IntKind.u64.wrap a = a := wrap_u rfl h0 (by simp [IntKind.bits]; omega)
      simp [h0, h1, e]
    · simp [h0, h1]
  · simp [h0]
end Go.Proofs.Ytlnppbcifenanaa.Pure
