/- Heads: what the laws' helpers on a head, the program's HeadFault and the reference's come to. For all heads whose slices fit. -/
import Derived.Test.YtmmhghddldhogaaPBytes
import Derived.Test.YtmmhghddldhogaaPIn
import Derived.Test.YtmmhghddldhogaaPSz
import Derived.Test.YtmmhghddldhogaaSxLawsSzHeadY
import Derived.Test.YtmmhghddldhogaaSxLawsToHeadY
import Derived.Test.YtmmhghddldhogaaSxLawsEqHeadY
import Derived.Test.YtmmhghddldhogaaSxSpecHeadFault
import Derived.Test.YtmmhghddldhogaaSxImplHeadFault
import Derived.Test.YtmmhghddldhogaaSxImplAreDigestsY
set_option linter.unusedVariables false
namespace Go.Proofs.Ytmmhghddldhogaa.S
open Go.RowKit Go.Proofs.YtmmhghddldhogaaW.PrintWords Go.Proofs.YtmmhghddldhogaaW.PrintLast Go.Proofs.YtmmhghddldhogaaW.PrintMore Go.Proofs.Ytmmhghddldhogaa.Base

/-- What is left behind a head: less than nothing, or both its slices fit. -/
theorem szHead_ex (l0 : List Int) (a1 a2 a3 : Int) (l4 : List Int) (a5 a : Int) (h0 : l0.length ≤ 9223372036854775807) (h4 : l4.length ≤ 9223372036854775807) (ha : 0 ≤ a) (hb : a ≤ 1048576) :
    ∃ r, laws_szHead.f l0 a1 a2 a3 l4 a5 a = some r ∧ r ≤ a ∧ (¬ r < 0 → (l0.length : Int) + l4.length + r = a) := by
  unfold laws_szHead.f
  rw [szByteS_eq l0 a h0 ha hb, Option.bind_some]
  by_cases c : szV l0.length a < 0
  · rw [if_pos c]
    exact ⟨-1, rfl, by omega, fun h => absurd (by omega) h⟩
  · obtain ⟨g1, g2⟩ := szV_range c
    rw [if_neg c, szByteS_eq l4 _ h4 (by omega) (by omega), Option.bind_some]
    by_cases d : szV l4.length (szV l0.length a) < 0
    · rw [if_pos d]
      exact ⟨-1, rfl, by omega, fun h => absurd (by omega) h⟩
    · obtain ⟨g3, g4⟩ := szV_range d
      rw [if_neg d]
      exact ⟨_, rfl, by omega, fun _ => by omega⟩
theorem toHead_ev (l0 : List Int) (a1 a2 a3 : Int) (l4 : List Int) (a5 : Int) (h0 : l0.length ≤ 281474976710656) (h4 : l4.length ≤ 281474976710656) : Ev (fun k => laws_toHead.f k l0 a1 a2 a3 l4 a5) (l0, a1, a2, a3, l4, a5) := by
  unfold laws_toHead.f
  exact ev_bind (toByteS_ev l0 h0) (ev_bind (toByteS_ev l4 h4) (ev_now rfl))
theorem eqHead_ev (l0 : List Int) (a1 a2 a3 : Int) (l4 : List Int) (a5 : Int) (h0 : l0.length ≤ 281474976710656) (h4 : l4.length ≤ 281474976710656) : Ev (fun k => laws_eqHead.f k l0 a1 a2 a3 l4 a5 l0 a1 a2 a3 l4 a5) true := by
  unfold laws_eqHead.f
  exact ev_bind (eqByteS_ev l0 h0) (ev_pos rfl (ev_pos rfl (ev_pos rfl (ev_pos rfl (ev_bind (eqByteS_ev l4 h4) (ev_pos rfl (ev_pos rfl (ev_now rfl))))))))
/-- The code of a head. -/
def headFaultV (l0 : List Int) (a1 a2 a3 : Int) (l4 : List Int) (a5 : Int) : Int :=
  if l0.length ≠ 32 ∨ l4.length ≠ 32 then 1 else if (0 ≤ a1 ∧ a1 ≤ 1000000) ∧ (0 ≤ a2 ∧ a2 ≤ 1099511627776) ∧ (0 ≤ a3 ∧ a3 ≤ 40) ∧ (0 ≤ a5 ∧ a5 ≤ 2199023255552) then 0 else 3
theorem impl_headFault_eq (l0 : List Int) (a1 a2 a3 : Int) (l4 : List Int) (a5 : Int) : impl_HeadFault.f l0 a1 a2 a3 l4 a5 = some (headFaultV l0 a1 a2 a3 l4 a5) := by
  unfold impl_HeadFault.f headFaultV impl_areDigests.f impl_isZeros.f
  simp only [in_eq, Option.bind_some, List.all_cons, List.all_nil, Bool.and_true, Bool.and_eq_true, beq_iff_eq, decide_eq_true_iff]
  by_cases c0 : l0.length = 32
  · by_cases c4 : l4.length = 32
    · by_cases d1 : 0 ≤ a1 ∧ a1 ≤ 1000000
      · by_cases d2 : 0 ≤ a2 ∧ a2 ≤ 1099511627776
        · by_cases d3 : 0 ≤ a3 ∧ a3 ≤ 40
          · by_cases d5 : 0 ≤ a5 ∧ a5 ≤ 2199023255552 <;> simp [c0, c4, d1, d2, d3, d5]
          · simp [c0, c4, d1, d2, d3]
        · simp [c0, c4, d1, d2]
      · simp [c0, c4, d1]
    · rw [if_neg (fun h => c4 (by omega)), if_pos (Or.inr c4)]
  · rw [if_neg (fun h => c0 (by omega)), if_pos (Or.inl c0)]
theorem spec_headFault_ev (l0 : List Int) (a1 a2 a3 : Int) (l4 : List Int) (a5 : Int) : Ev (fun k => spec_HeadFault.f k l0 a1 a2 a3 l4 a5) (headFaultV l0 a1 a2 a3 l4 a5) := by
  unfold spec_HeadFault.f
  by_cases c0 : l0.length = 32
  · refine ev_pos (show (l0.length : Int) = 32 by omega) (ev_step (fun k => spec_HeadFault.j0.eq_2 _ _ _ _ _ _ _ _) ?_)
    by_cases c4 : l4.length = 32
    · refine ev_neg (show ¬ ((l4.length : Int) != 32) = true by rw [c4]; decide) (ev_bind (ev_now (l1In_eq _ _ _)) ?_)
      have three (h : ¬ ((0 ≤ a1 ∧ a1 ≤ 1000000) ∧ (0 ≤ a2 ∧ a2 ≤ 1099511627776) ∧ (0 ≤ a3 ∧ a3 ≤ 40) ∧ (0 ≤ a5 ∧ a5 ≤ 2199023255552))) : 3 = headFaultV l0 a1 a2 a3 l4 a5 := by
        rw [headFaultV, if_neg (fun h : l0.length ≠ 32 ∨ l4.length ≠ 32 => by omega), if_neg h]
      by_cases d1 : 0 ≤ a1 ∧ a1 ≤ 1000000
      · refine ev_pos (decide_eq_true d1) (ev_bind (ev_now (l1In_eq _ _ _)) ?_)
        by_cases d2 : 0 ≤ a2 ∧ a2 ≤ 1099511627776
        · refine ev_pos (decide_eq_true d2) (ev_bind (ev_now (l1In_eq _ _ _)) ?_)
          by_cases d3 : 0 ≤ a3 ∧ a3 ≤ 40
          · refine ev_pos (decide_eq_true d3) (ev_bind (ev_now (l1In_eq _ _ _)) ?_)
            by_cases d5 : 0 ≤ a5 ∧ a5 ≤ 2199023255552
            · exact ev_eq (ev_pos (decide_eq_true d5) (ev_now rfl)) (by rw [headFaultV, if_neg (fun h : l0.length ≠ 32 ∨ l4.length ≠ 32 => by omega), if_pos ⟨d1, d2, d3, d5⟩])
            · exact ev_eq (ev_neg (fun h => d5 (of_decide_eq_true h)) (ev_now rfl)) (three fun h => d5 h.2.2.2)
          · exact ev_eq (ev_neg (fun h => d3 (of_decide_eq_true h)) (ev_now rfl)) (three fun h => d3 h.2.2.1)
        · exact ev_eq (ev_neg (fun h => d2 (of_decide_eq_true h)) (ev_now rfl)) (three fun h => d2 h.2.1)
      · exact ev_eq (ev_neg (fun h => d1 (of_decide_eq_true h)) (ev_now rfl)) (three fun h => d1 h.1)
    · exact ev_eq (ev_pos (show ((l4.length : Int) != 32) = true from bne_iff_ne.2 (by omega)) (ev_now rfl)) (by rw [headFaultV, if_pos (Or.inr c4)])
  · exact ev_eq (ev_neg (show ¬ (l0.length : Int) = 32 by omega) (ev_step (fun k => spec_HeadFault.j0.eq_2 _ _ _ _ _ _ _ _) (ev_pos rfl (ev_now rfl)))) (by rw [headFaultV, if_pos (Or.inl c0)])
end Go.Proofs.Ytmmhghddldhogaa.S
