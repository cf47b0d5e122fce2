/- The program's PathLength and the reference's answer alike, for all numbers. No condition. -/
import Derived.Test.YtlnppbcifenanaaPSides
import Derived.Test.YtlnppbcifenanaaSxLawsFnExactPathLength
set_option linter.unusedVariables false
namespace Go.Proofs.Ytlnppbcifenanaa.S
open Go.RowKit Go.Proofs.YtlnppbcifenanaaW.PrintWords Go.Proofs.YtlnppbcifenanaaW.PrintLast Go.Proofs.YtlnppbcifenanaaW.PrintMore Go.Proofs.Ytlnppbcifenanaa.Base

theorem pathLength_ev (a p : Int) : ∃ r, Ev (fun k => spec_PathLength.f k a p) r ∧ Ev (fun k => impl_PathLength.f k a p) r := by
  unfold spec_PathLength.f impl_PathLength.f spec_l1In.f impl_in.f
  by_cases c1 : 1 ≤ a
  · by_cases c2 : a ≤ 16
    · have e : wrap64 (a - 1) = a - 1 := w64 (by omega) (by omega)
      rw [e]
      by_cases c3 : 0 ≤ p
      · by_cases c4 : p ≤ a - 1
        · obtain ⟨L, _, l2, l3⟩ := sides_ev 16 a p c2 c1 c2 c3 (by omega)
          refine ⟨(0, (L.length : Int)), ?_, ?_⟩
          · refine ev_bind (a := true) (ev_now (by simp [c1, c2])) (ev_pos rfl (ev_bind (a := true) (ev_now (by simp [c3, c4])) (ev_pos rfl (ev_bind l3 (ev_now (by simp))))))
          · refine ev_bind (a := true) (ev_now (by simp [c1, c2])) (ev_pos rfl (ev_bind (a := true) (ev_now (by simp [c3, c4])) (ev_pos rfl (ev_bind l2 (ev_now rfl)))))
        · refine ⟨(3, 0), ?_, ?_⟩ <;> exact ev_bind (a := true) (ev_now (by simp [c1, c2])) (ev_pos rfl (ev_bind (a := false) (ev_now (by simp [c3, c4])) (ev_neg (by simp) (ev_now rfl))))
      · refine ⟨(3, 0), ?_, ?_⟩ <;> exact ev_bind (a := true) (ev_now (by simp [c1, c2])) (ev_pos rfl (ev_bind (a := false) (ev_now (by simp [c3])) (ev_neg (by simp) (ev_now rfl))))
    · refine ⟨(3, 0), ?_, ?_⟩ <;> exact ev_bind (a := false) (ev_now (by simp [c1, c2])) (ev_neg (by simp) (ev_now rfl))
  · refine ⟨(3, 0), ?_, ?_⟩ <;> exact ev_bind (a := false) (ev_now (by simp [c1])) (ev_neg (by simp) (ev_now rfl))
end Go.Proofs.Ytlnppbcifenanaa.S
namespace Go.Proofs.Ytlnppbcifenanaa.Pure
open Go.RowKit Go.Proofs.Ytlnppbcifenanaa.S Go.Proofs.YtlnppbcifenanaaW.PrintWords Go.Proofs.YtlnppbcifenanaaW.PrintLast Go.Proofs.YtlnppbcifenanaaW.PrintMore Go.Proofs.Ytlnppbcifenanaa.Base

theorem FnExactPathLength : laws_FnExactPathLength.Pure := by
  intro a p _ _
  refine Ev.rounds ?_
  obtain ⟨r, hs, hi⟩ := pathLength_ev a p
  unfold laws_FnExactPathLength.f
  exact ev_bind hs (ev_bind hi (ev_bind (a := true) (ev_now (by simp [laws_eqIntResult.f])) (ev_pos rfl (ev_now rfl))))
end Go.Proofs.Ytlnppbcifenanaa.Pure
