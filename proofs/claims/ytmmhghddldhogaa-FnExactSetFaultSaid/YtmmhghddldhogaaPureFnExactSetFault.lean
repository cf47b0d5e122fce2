/- The program's SetFault and the reference's answer alike, for every list of validators. No condition. -/
import Derived.Test.YtmmhghddldhogaaPSet
import Derived.Test.YtmmhghddldhogaaSxLawsFnExactSetFault
set_option linter.unusedVariables false
namespace Go.Proofs.Ytmmhghddldhogaa.Pure
open Go.RowKit Go.Proofs.Ytmmhghddldhogaa.S Go.Proofs.YtmmhghddldhogaaW.PrintWords Go.Proofs.YtmmhghddldhogaaW.PrintLast Go.Proofs.YtmmhghddldhogaaW.PrintMore Go.Proofs.Ytmmhghddldhogaa.Base

theorem FnExactSetFault : ∀ (l0 : List S117), l0.length ≤ 9223372036854775807 → (∀ y ∈ l0, (y.f0.length ≤ 9223372036854775807 ∧ ∀ y3 ∈ y.f0, (Lit.int .u8 y3).wf = true) ∧ ((Lit.int .i64 y.f1).wf = true)) → ∃ k, laws_FnExactSetFault.f k l0 = some true := by
  intro l hl hq
  refine Ev.rounds ?_
  unfold laws_FnExactSetFault.f
  obtain ⟨r, hr, hz⟩ := szValidatorS_ex l hl (fun y hy => (hq y hy).1.1)
  refine ev_bind hr ?_
  by_cases c : r < 0
  · exact ev_pos c (ev_now rfl)
  obtain ⟨h1, h2⟩ := hz c
  have t := toValidatorS_ev l h1 h2
  have e := eqValidatorS_ev (l.map toV) (by simpa using h1) (fun y hy => by
    obtain ⟨z, hz, rfl⟩ := List.mem_map.1 hy
    exact h2 z hz)
  obtain ⟨q, _, hs, hi⟩ := setFault_ev (l.map toV) (fun y hy => by
    obtain ⟨z, hz, rfl⟩ := List.mem_map.1 hy
    exact ⟨h2 z hz, byt_of_wf (hq z hz).1.2⟩)
  exact ev_neg c (ev_bind t (ev_bind hs (ev_bind t (ev_bind hi (ev_pos rfl (ev_bind t (ev_bind e (ev_pos rfl (ev_now rfl)))))))))
end Go.Proofs.Ytmmhghddldhogaa.Pure
