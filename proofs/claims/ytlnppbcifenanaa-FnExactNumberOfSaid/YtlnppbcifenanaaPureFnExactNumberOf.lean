/- The program's NumberOf and the reference's answer alike, for every slice of bytes. No condition. -/
import Derived.Test.YtlnppbcifenanaaPBytes
import Derived.Test.YtlnppbcifenanaaSxLawsFnExactNumberOf
set_option linter.unusedVariables false
namespace Go.Proofs.Ytlnppbcifenanaa.S
open Go.RowKit Go.Proofs.YtlnppbcifenanaaW.PrintWords Go.Proofs.YtlnppbcifenanaaW.PrintLast Go.Proofs.YtlnppbcifenanaaW.PrintMore Go.Proofs.Ytlnppbcifenanaa.Base

/-- What is behind place i is taken in alike. -/
theorem numberOf_l0 (l : List Int) (hb : Byt l) (hl : l.length = 7) : ∀ (d i : Nat) (x : Int), i + d = 7 → 0 ≤ x → x < 256 ^ i → ∃ r, Ev (fun k => spec_l1Number.l0 k l x (i : Int)) r ∧ Ev (fun k => impl_NumberOf.l0 k x l (l.length : Int) (i : Int)) (0, r) := by
  intro d
  induction d with
  | zero =>
    intro i x hi h0 h1
    refine ⟨x, ev_step (fun k => spec_l1Number.l0.eq_2 _ _ _ _) (ev_neg (by omega) (ev_now rfl)), ev_step (fun k => impl_NumberOf.l0.eq_2 _ _ _ _ _) (ev_neg (by omega) (ev_now rfl))⟩
  | succ d ih =>
    intro i x hi h0 h1
    have hr := byt_rd hb (i : Int)
    have hp : (256 : Int) ^ i ≤ 281474976710656 := by
      have : i ≤ 6 := by omega
      have : i = 0 ∨ i = 1 ∨ i = 2 ∨ i = 3 ∨ i = 4 ∨ i = 5 ∨ i = 6 := by omega
      rcases this with rfl | rfl | rfl | rfl | rfl | rfl | rfl <;> decide
    obtain ⟨r, hs, hi'⟩ := ih (i + 1) (x * 256 + rd l (i : Int)) (by omega) (by omega) (by rw [Int.pow_succ]; omega)
    have e1 : wrap64 (x * 256) = x * 256 := w64 (by omega) (by omega)
    have e2 : wrap64 (rd l (i : Int)) = rd l (i : Int) := w64 (by omega) (by omega)
    have e3 : wrap64 (x * 256 + rd l (i : Int)) = x * 256 + rd l (i : Int) := w64 (by omega) (by omega)
    refine ⟨r, ?_, ?_⟩
    · refine ev_step (fun k => spec_l1Number.l0.eq_2 _ _ _ _) ?_
      refine ev_pos (by omega) (ev_pos (by omega) ?_)
      rw [e1, e2, e3, w64s (by omega)]
      exact hs
    · refine ev_step (fun k => impl_NumberOf.l0.eq_2 _ _ _ _ _) ?_
      refine ev_pos (by omega) (ev_pos (by omega) (ev_pos (by omega) ?_))
      rw [e1, e2, or_byte h0 (by omega) hr.1 hr.2, w64s (by omega)]
      exact hi'
/-- Both tell the same. -/
theorem numberOf_ev (l : List Int) (hb : Byt l) : ∃ r, Ev (fun k => spec_NumberOf.f k l) r ∧ Ev (fun k => impl_NumberOf.f k l) r := by
  by_cases h : (l.length : Int) = 7
  · obtain ⟨r, h1, h2⟩ := numberOf_l0 l hb (by omega) 7 0 0 rfl (by omega) (by decide)
    refine ⟨(0, r), ?_, ?_⟩
    · unfold spec_NumberOf.f spec_l1Number.f
      exact ev_pos h (ev_bind h1 (ev_now rfl))
    · unfold impl_NumberOf.f
      exact ev_pos h h2
  · refine ⟨(1, 0), ?_, ?_⟩
    · unfold spec_NumberOf.f
      exact ev_neg h (ev_now rfl)
    · unfold impl_NumberOf.f
      exact ev_neg h (ev_now rfl)
end Go.Proofs.Ytlnppbcifenanaa.S
namespace Go.Proofs.Ytlnppbcifenanaa.Pure
open Go.RowKit Go.Proofs.Ytlnppbcifenanaa.S Go.Proofs.YtlnppbcifenanaaW.PrintWords Go.Proofs.YtlnppbcifenanaaW.PrintLast Go.Proofs.YtlnppbcifenanaaW.PrintMore Go.Proofs.Ytlnppbcifenanaa.Base

theorem FnExactNumberOf : laws_FnExactNumberOf.Pure := by
  intro l hm hz hw
  refine Ev.rounds ?_
  have ht := toByteS_ev l (by omega)
  have he := eqByteS_ev l (by omega)
  obtain ⟨r, hs, hi⟩ := numberOf_ev l (byt_of_wf hw)
  unfold laws_FnExactNumberOf.f
  by_cases hc : (l.length : Int) > 1048576
  · exact ev_pos hc (ev_now rfl)
  · refine ev_neg hc ?_
    refine ev_bind ht (ev_bind hs (ev_bind ht (ev_bind hi ?_)))
    refine ev_bind (a := true) (ev_now (by simp [laws_eqIntResult.f])) (ev_pos rfl ?_)
    exact ev_bind ht (ev_bind he (ev_pos rfl (ev_now rfl)))
end Go.Proofs.Ytlnppbcifenanaa.Pure
