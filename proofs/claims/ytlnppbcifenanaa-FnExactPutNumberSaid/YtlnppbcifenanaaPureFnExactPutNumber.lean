/- The program's PutNumber and the reference's answer alike, for every number, in new memory. No condition. -/
import Derived.Test.YtlnppbcifenanaaPNumber
import Derived.Test.YtlnppbcifenanaaPBytesResult
import Derived.Test.YtlnppbcifenanaaSxLawsFnExactPutNumber
set_option linter.unusedVariables false
namespace Go.Proofs.Ytlnppbcifenanaa.S
open Go.RowKit Go.Proofs.YtlnppbcifenanaaW.PrintWords Go.Proofs.YtlnppbcifenanaaW.PrintLast Go.Proofs.YtlnppbcifenanaaW.PrintMore Go.Proofs.Ytlnppbcifenanaa.Base

theorem isNumber_eq (n : Int) : impl_isNumber.f n = some (decide (0 ≤ n ∧ n ≤ 72057594037927935)) := by
  unfold impl_isNumber.f impl_in.f
  by_cases h : 0 ≤ n <;> simp [h]
theorem l1In_eq (a b c : Int) : spec_l1In.f a b c = some (decide (b ≤ a ∧ a ≤ c)) := by
  unfold spec_l1In.f
  by_cases h : b ≤ a <;> simp [h]
def putNumberV (n : Int) : Int × List Int := if 0 ≤ n ∧ n ≤ 72057594037927935 then (0, num7 n) else (3, [])
theorem spec_putNumber_ev (n : Int) : Ev (fun k => spec_PutNumber.f k n) (putNumberV n) := by
  unfold spec_PutNumber.f putNumberV
  refine ev_bind (ev_now (l1In_eq _ _ _)) ?_
  by_cases h : 0 ≤ n ∧ n ≤ 72057594037927935
  · rw [if_pos h]; exact ev_pos (decide_eq_true h) (ev_bind (l1Put_ev n) (ev_now rfl))
  · rw [if_neg h]; exact ev_neg (by simpa using h) (ev_now rfl)
theorem impl_putNumber_ev (n : Int) : Ev (fun k => impl_PutNumber.f k n) (putNumberV n) := by
  unfold impl_PutNumber.f putNumberV
  refine ev_bind (ev_now (isNumber_eq _)) ?_
  by_cases h : 0 ≤ n ∧ n ≤ 72057594037927935
  · rw [if_pos h]; exact ev_pos (decide_eq_true h) (ev_bind (number_ev n) (ev_now rfl))
  · rw [if_neg h]; exact ev_neg (by simpa using h) (ev_now rfl)
theorem putNumberV_length (n : Int) : (putNumberV n).2.length ≤ 7 := by
  unfold putNumberV
  split
  · exact Nat.le_refl _
  · simp
end Go.Proofs.Ytlnppbcifenanaa.S
namespace Go.Proofs.Ytlnppbcifenanaa.Pure
open Go.RowKit Go.Proofs.Ytlnppbcifenanaa.S Go.Proofs.YtlnppbcifenanaaW.PrintWords Go.Proofs.YtlnppbcifenanaaW.PrintLast Go.Proofs.YtlnppbcifenanaaW.PrintMore Go.Proofs.Ytlnppbcifenanaa.Base

theorem FnExactPutNumber : laws_FnExactPutNumber.Pure := by
  intro n _
  refine Ev.rounds ?_
  have hs := spec_putNumber_ev n
  have hi := impl_putNumber_ev n
  have hl := putNumberV_length n
  generalize putNumberV n = r at hs hi hl
  have he := eqBytesResult_ev r.1 r.2 (by omega)
  have hm := markBytesResult_ev r.1 r.2 (by omega)
  have hh := heldBytesResult_ev r.1 r.2.length (by omega)
  unfold laws_FnExactPutNumber.f
  refine ev_bind hs (ev_bind hi (ev_bind he (ev_pos rfl (ev_bind hm (ev_bind hh (ev_neg (by omega) (ev_pos rfl ?_)))))))
  exact ev_bind hi (ev_bind he (ev_pos rfl (ev_bind hh (ev_neg (by omega) (ev_pos rfl (ev_now rfl))))))
end Go.Proofs.Ytlnppbcifenanaa.Pure
