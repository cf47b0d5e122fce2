/- The program's HeadFault and the reference's answer alike, for every head. No condition. -/
import Derived.Test.YtmmhghddldhogaaPHead
import Derived.Test.YtmmhghddldhogaaSxLawsFnExactHeadFault
set_option linter.unusedVariables false
namespace Go.Proofs.Ytmmhghddldhogaa.Pure
open Go.RowKit Go.Proofs.Ytmmhghddldhogaa.S Go.Proofs.YtmmhghddldhogaaW.PrintWords Go.Proofs.YtmmhghddldhogaaW.PrintLast Go.Proofs.YtmmhghddldhogaaW.PrintMore Go.Proofs.Ytmmhghddldhogaa.Base

theorem FnExactHeadFault : ∀ (y0 : S30), ((y0.f0.length ≤ 9223372036854775807 ∧ ∀ y3 ∈ y0.f0, (Lit.int .u8 y3).wf = true) ∧ ((Lit.int .i64 y0.f1).wf = true) ∧ ((Lit.int .i64 y0.f2).wf = true) ∧ ((Lit.int .i64 y0.f3).wf = true) ∧ (y0.f4.length ≤ 9223372036854775807 ∧ ∀ y3 ∈ y0.f4, (Lit.int .u8 y3).wf = true) ∧ ((Lit.int .i64 y0.f5).wf = true)) → ∃ k, laws_FnExactHeadFault.f k y0.f0 y0.f1 y0.f2 y0.f3 y0.f4 y0.f5 = some true := by
  rintro ⟨l0, a1, a2, a3, l4, a5⟩ ⟨⟨h0, _⟩, _, _, _, ⟨h4, _⟩, _⟩
  refine Ev.rounds ?_
  simp only at h0 h4 ⊢
  unfold laws_FnExactHeadFault.f
  obtain ⟨r, hr, _, hz⟩ := szHead_ex l0 a1 a2 a3 l4 a5 1048576 h0 h4 (by omega) (by omega)
  refine ev_bind (ev_now hr) ?_
  by_cases c : r < 0
  · exact ev_pos c (ev_now rfl)
  have hz := hz c
  have t := toHead_ev l0 a1 a2 a3 l4 a5 (by omega) (by omega)
  have e := eqHead_ev l0 a1 a2 a3 l4 a5 (by omega) (by omega)
  exact ev_neg c (ev_bind t (ev_bind (spec_headFault_ev _ _ _ _ _ _) (ev_bind t (ev_bind (ev_now (impl_headFault_eq _ _ _ _ _ _)) (ev_pos rfl (ev_bind t (ev_bind e (ev_pos rfl (ev_now rfl)))))))))
end Go.Proofs.Ytmmhghddldhogaa.Pure
