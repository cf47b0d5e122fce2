import Derived.Test.YtlnppbcifenanaaBase
import Derived.Test.YtlnppbcifenanaaSxLawsHelp
import Derived.Test.YtlnppbcifenanaaSxImplSmall
import Derived.Test.YtlnppbcifenanaaSxSpecL1
import Derived.Test.YtlnppbcifenanaaSxLawsHelp
import Derived.Test.YtlnppbcifenanaaSxLawsToHeadBY
import Derived.Test.YtlnppbcifenanaaSxLawsEqHeadBY
import Derived.Test.YtlnppbcifenanaaSxLawsSzHeadBY
import Derived.Test.YtlnppbcifenanaaSxLawsFnExactHeadBFault
import Derived.Test.YtlnppbcifenanaaSxImplHeadBFault
import Derived.Test.YtlnppbcifenanaaSxSpecHeadBFault
/- What the laws' own helpers on byte slices come to: toByteS copies, eqByteS compares, markByteS and heldByteS count alike. For every slice that fits memory. -/
set_option linter.unusedVariables false
namespace Go.Proofs.Ytlnppbcifenanaa.S
open Go.RowKit Go.Proofs.YtlnppbcifenanaaW.PrintWords Go.Proofs.YtlnppbcifenanaaW.PrintLast Go.Proofs.YtlnppbcifenanaaW.PrintMore Go.Proofs.Ytlnppbcifenanaa.Base

theorem toByteS_l0 (l : List Int) (hl : l.length ≤ 281474976710656) : ∀ (d : Nat) (x : List Int) (i : Nat), i + d = l.length → x.length = l.length → (∀ j, j < i → x[j]? = l[j]?) → Ev (fun k => laws_toByteS.l0 k l x (i : Int)) l := by
  intro d
  induction d with
  | zero =>
    intro x i hi hx hj
    refine ev_step (fun k => laws_toByteS.l0.eq_2 _ _ _ _) ?_
    refine ev_neg (by omega) ?_
    rw [fill_all hx (fun j h => hj j (by omega))]
    exact ev_now rfl
  | succ d ih =>
    intro x i hi hx hj
    refine ev_step (fun k => laws_toByteS.l0.eq_2 _ _ _ _) ?_
    refine ev_pos (by omega) ?_
    refine ev_pos (by omega) ?_
    refine ev_pos (by omega) ?_
    rw [w64s (by omega), Int.toNat_natCast]
    exact ih _ (i + 1) (by omega) (by rw [List.length_set]; exact hx) (fill_step (by omega) hx hj)
theorem toByteS_ev (l : List Int) (hl : l.length ≤ 281474976710656) : Ev (fun k => laws_toByteS.f k l) l := by
  unfold laws_toByteS.f
  refine ev_pos (by omega) ?_
  refine ev_pos (by omega) ?_
  exact toByteS_l0 l hl l.length _ 0 (by omega) (by simp) (fun j h => by omega)
theorem eqByteS_l0 (l : List Int) (hl : l.length ≤ 281474976710656) : ∀ (d i : Nat), i + d = l.length → Ev (fun k => laws_eqByteS.l0 k l l (i : Int)) true := by
  intro d
  induction d with
  | zero =>
    intro i hi
    refine ev_step (fun k => laws_eqByteS.l0.eq_2 _ _ _ _) ?_
    refine ev_neg (by omega) ?_
    exact ev_now rfl
  | succ d ih =>
    intro i hi
    refine ev_step (fun k => laws_eqByteS.l0.eq_2 _ _ _ _) ?_
    refine ev_pos (by omega) ?_
    refine ev_pos (by omega) ?_
    refine ev_pos (by omega) ?_
    refine ev_pos rfl ?_
    rw [w64s (by omega)]
    exact ih (i + 1) (by omega)
theorem eqByteS_ev (l : List Int) (hl : l.length ≤ 281474976710656) : Ev (fun k => laws_eqByteS.f k l l) true := by
  unfold laws_eqByteS.f
  refine ev_pos rfl ?_
  exact eqByteS_l0 l hl l.length 0 (by omega)
end Go.Proofs.Ytlnppbcifenanaa.S

/- Is a number in its bounds: the program's and the reference's answer. -/
set_option linter.unusedVariables false
namespace Go.Proofs.Ytlnppbcifenanaa.S
open Go.RowKit Go.Proofs.YtlnppbcifenanaaW.PrintWords Go.Proofs.YtlnppbcifenanaaW.PrintLast Go.Proofs.YtlnppbcifenanaaW.PrintMore Go.Proofs.Ytlnppbcifenanaa.Base

theorem in_eq (a b c : Int) : impl_in.f a b c = some (decide (b ≤ a ∧ a ≤ c)) := by
  unfold impl_in.f
  by_cases h : b ≤ a <;> simp [h]
theorem l1In_eq (a b c : Int) : spec_l1In.f a b c = some (decide (b ≤ a ∧ a ≤ c)) := by
  unfold spec_l1In.f
  by_cases h : b ≤ a <;> simp [h]
end Go.Proofs.Ytlnppbcifenanaa.S

/- How many places are left behind a slice of bytes. -/
set_option linter.unusedVariables false
namespace Go.Proofs.Ytlnppbcifenanaa.S
open Go.RowKit Go.Proofs.YtlnppbcifenanaaW.PrintWords Go.Proofs.YtlnppbcifenanaaW.PrintLast Go.Proofs.YtlnppbcifenanaaW.PrintMore Go.Proofs.Ytlnppbcifenanaa.Base

def szV (n : Nat) (a : Int) : Int := if a - n < 0 then -1 else a - n
theorem szByteS_eq (l : List Int) (a : Int) (hl : l.length ≤ 9223372036854775807) (h0 : 0 ≤ a) (h1 : a ≤ 1048576) : laws_szByteS.f l a = some (szV l.length a) := by
  unfold laws_szByteS.f szV
  rw [w64 (by omega) (by omega)]
  split <;> rfl
theorem szV_range {n : Nat} {a : Int} (h : ¬ szV n a < 0) : (n : Int) ≤ a ∧ szV n a = a - n := by
  unfold szV at h ⊢
  split at h
  · omega
  · rename_i g
    rw [if_neg g]
    exact ⟨by omega, rfl⟩
end Go.Proofs.Ytlnppbcifenanaa.S

/- The laws' helpers on the second kind of head. For every head that fits. -/
set_option linter.unusedVariables false
namespace Go.Proofs.Ytlnppbcifenanaa.S
open Go.RowKit Go.Proofs.YtlnppbcifenanaaW.PrintWords Go.Proofs.YtlnppbcifenanaaW.PrintLast Go.Proofs.YtlnppbcifenanaaW.PrintMore Go.Proofs.Ytlnppbcifenanaa.Base

theorem szHeadB_ex (a0 a1 : Int) (l2 l3 l4 : List Int) (a : Int) (h2 : l2.length ≤ 9223372036854775807) (h3 : l3.length ≤ 9223372036854775807) (h4 : l4.length ≤ 9223372036854775807) (ha : 0 ≤ a) (hb : a ≤ 1048576) :
    ∃ r, laws_szHeadB.f a0 a1 l2 l3 l4 a = some r ∧ r ≤ a ∧ (¬ r < 0 → (l2.length : Int) + l3.length + l4.length + r = a) := by
  unfold laws_szHeadB.f
  rw [szByteS_eq l2 a h2 ha hb, Option.bind_some]
  by_cases c : szV l2.length a < 0
  · rw [if_pos c]
    exact ⟨-1, rfl, by omega, fun h => absurd (by omega) h⟩
  · obtain ⟨g1, g2⟩ := szV_range c
    rw [if_neg c, szByteS_eq l3 _ h3 (by omega) (by omega), Option.bind_some]
    by_cases d : szV l3.length (szV l2.length a) < 0
    · rw [if_pos d]
      exact ⟨-1, rfl, by omega, fun h => absurd (by omega) h⟩
    · obtain ⟨g3, g4⟩ := szV_range d
      rw [if_neg d, szByteS_eq l4 _ h4 (by omega) (by omega), Option.bind_some]
      by_cases e : szV l4.length (szV l3.length (szV l2.length a)) < 0
      · rw [if_pos e]
        exact ⟨-1, rfl, by omega, fun h => absurd (by omega) h⟩
      · obtain ⟨g5, g6⟩ := szV_range e
        rw [if_neg e]
        exact ⟨_, rfl, by omega, fun _ => by omega⟩
theorem toHeadB_ev (a0 a1 : Int) (l2 l3 l4 : List Int) (h2 : l2.length ≤ 281474976710656) (h3 : l3.length ≤ 281474976710656) (h4 : l4.length ≤ 281474976710656) : Ev (fun k => laws_toHeadB.f k a0 a1 l2 l3 l4) (a0, a1, l2, l3, l4) := by
  unfold laws_toHeadB.f
  exact ev_bind (toByteS_ev l2 h2) (ev_bind (toByteS_ev l3 h3) (ev_bind (toByteS_ev l4 h4) (ev_now rfl)))
theorem eqHeadB_ev (a0 a1 : Int) (l2 l3 l4 : List Int) (h2 : l2.length ≤ 281474976710656) (h3 : l3.length ≤ 281474976710656) (h4 : l4.length ≤ 281474976710656) : Ev (fun k => laws_eqHeadB.f k a0 a1 l2 l3 l4 a0 a1 l2 l3 l4) true := by
  unfold laws_eqHeadB.f
  exact ev_pos rfl (ev_pos rfl (ev_bind (eqByteS_ev l2 h2) (ev_pos rfl (ev_bind (eqByteS_ev l3 h3) (ev_pos rfl (ev_bind (eqByteS_ev l4 h4) (ev_pos rfl (ev_now rfl))))))))
end Go.Proofs.Ytlnppbcifenanaa.S

/- The program's HeadBFault and the reference's answer alike, for every head. No condition. -/
set_option linter.unusedVariables false
namespace Go.Proofs.Ytlnppbcifenanaa.S
open Go.RowKit Go.Proofs.YtlnppbcifenanaaW.PrintWords Go.Proofs.YtlnppbcifenanaaW.PrintLast Go.Proofs.YtlnppbcifenanaaW.PrintMore Go.Proofs.Ytlnppbcifenanaa.Base
def headBFaultV (a0 a1 : Int) (l2 l3 l4 : List Int) : Int :=
  if l2.length = 32 ∧ l3.length = 32 ∧ l4.length = 32 then (if (1 ≤ a0 ∧ a0 ≤ 1000000) ∧ (0 ≤ a1 ∧ a1 ≤ 1099511627776) then 0 else 3) else 1
theorem impl_headBFault_eq (a0 a1 : Int) (l2 l3 l4 : List Int) : impl_HeadBFault.f a0 a1 l2 l3 l4 = some (headBFaultV a0 a1 l2 l3 l4) := by
  have e : impl_areDigests.f [l2, l3, l4] = some (decide (l2.length = 32 ∧ l3.length = 32 ∧ l4.length = 32)) := by
    unfold impl_areDigests.f
    congr 1
    rw [Bool.eq_iff_iff]
    simp only [List.all_cons, List.all_nil, Bool.and_true, Bool.and_eq_true, beq_iff_eq, decide_eq_true_iff]
    omega
  unfold impl_HeadBFault.f headBFaultV
  rw [e, Option.bind_some, in_eq, in_eq]
  by_cases h : l2.length = 32 ∧ l3.length = 32 ∧ l4.length = 32
  · rw [if_pos (decide_eq_true h), if_pos h, Option.bind_some]
    by_cases d0 : 1 ≤ a0 ∧ a0 ≤ 1000000
    · rw [if_pos (decide_eq_true d0), Option.bind_some]
      by_cases d1 : 0 ≤ a1 ∧ a1 ≤ 1099511627776
      · rw [if_pos (decide_eq_true d1), if_pos ⟨d0, d1⟩]
      · rw [if_neg (fun g => d1 (of_decide_eq_true g)), if_neg (fun g => d1 g.2)]
    · rw [if_neg (fun g => d0 (of_decide_eq_true g)), if_neg (fun g => d0 g.1)]
  · rw [if_neg (fun g => h (of_decide_eq_true g)), if_neg h]
theorem spec_headBFault_ev (a0 a1 : Int) (l2 l3 l4 : List Int) : Ev (fun k => spec_HeadBFault.f k a0 a1 l2 l3 l4) (headBFaultV a0 a1 l2 l3 l4) := by
  have bad : ∀ b, b = true → ¬ (l2.length = 32 ∧ l3.length = 32 ∧ l4.length = 32) → Ev (fun k => spec_HeadBFault.j0 k b a0 a1 l2 l3 l4) (headBFaultV a0 a1 l2 l3 l4) := fun b hb hn => by
    unfold headBFaultV
    rw [if_neg hn]
    exact ev_step (fun k => spec_HeadBFault.j0.eq_2 _ _ _ _ _ _ _) (ev_pos hb (ev_now rfl))
  unfold spec_HeadBFault.f
  by_cases h2 : l2.length = 32
  · refine ev_pos (by omega) ?_
    by_cases h3 : l3.length = 32
    · refine ev_pos (by omega) ?_
      by_cases h4 : l4.length = 32
      · refine ev_step (fun k => spec_HeadBFault.j0.eq_2 _ _ _ _ _ _ _) (ev_neg (show ¬ ((l4.length : Int) != 32) = true by rw [h4]; decide) (ev_bind (ev_now (l1In_eq _ _ _)) ?_))
        unfold headBFaultV
        rw [if_pos (show l2.length = 32 ∧ l3.length = 32 ∧ l4.length = 32 from ⟨h2, h3, h4⟩)]
        by_cases d0 : 1 ≤ a0 ∧ a0 ≤ 1000000
        · refine ev_pos (decide_eq_true d0) (ev_bind (ev_now (l1In_eq _ _ _)) ?_)
          by_cases d1 : 0 ≤ a1 ∧ a1 ≤ 1099511627776
          · rw [if_pos (show (1 ≤ a0 ∧ a0 ≤ 1000000) ∧ (0 ≤ a1 ∧ a1 ≤ 1099511627776) from ⟨d0, d1⟩)]
            exact ev_pos (decide_eq_true d1) (ev_now rfl)
          · rw [if_neg (show ¬ ((1 ≤ a0 ∧ a0 ≤ 1000000) ∧ (0 ≤ a1 ∧ a1 ≤ 1099511627776)) from fun g => d1 g.2)]
            exact ev_neg (fun g => d1 (of_decide_eq_true g)) (ev_now rfl)
        · rw [if_neg (show ¬ ((1 ≤ a0 ∧ a0 ≤ 1000000) ∧ (0 ≤ a1 ∧ a1 ≤ 1099511627776)) from fun g => d0 g.1)]
          exact ev_neg (fun g => d0 (of_decide_eq_true g)) (ev_now rfl)
      · exact bad _ (bne_iff_ne.2 (by omega)) (fun g => h4 g.2.2)
    · exact ev_neg (by omega) (bad _ rfl (fun g => h3 g.2.1))
  · exact ev_neg (by omega) (bad _ rfl (fun g => h2 g.1))
end Go.Proofs.Ytlnppbcifenanaa.S
namespace Go.Proofs.Ytlnppbcifenanaa.Pure
open Go.RowKit Go.Proofs.Ytlnppbcifenanaa.S Go.Proofs.YtlnppbcifenanaaW.PrintWords Go.Proofs.YtlnppbcifenanaaW.PrintLast Go.Proofs.YtlnppbcifenanaaW.PrintMore Go.Proofs.Ytlnppbcifenanaa.Base

theorem FnExactHeadBFault : ∀ (y0 : S50), (((Lit.int .i64 y0.f0).wf = true) ∧ ((Lit.int .i64 y0.f1).wf = true) ∧ (y0.f2.length ≤ 9223372036854775807 ∧ ∀ y3 ∈ y0.f2, (Lit.int .u8 y3).wf = true) ∧ (y0.f3.length ≤ 9223372036854775807 ∧ ∀ y3 ∈ y0.f3, (Lit.int .u8 y3).wf = true) ∧ (y0.f4.length ≤ 9223372036854775807 ∧ ∀ y3 ∈ y0.f4, (Lit.int .u8 y3).wf = true)) → ∃ k, laws_FnExactHeadBFault.f k y0.f0 y0.f1 y0.f2 y0.f3 y0.f4 = some true := by
  rintro ⟨a0, a1, l2, l3, l4⟩ ⟨_, _, ⟨h2, _⟩, ⟨h3, _⟩, ⟨h4, _⟩⟩
  refine Ev.rounds ?_
  simp only at h2 h3 h4 ⊢
  unfold laws_FnExactHeadBFault.f
  obtain ⟨r, hr, _, hz⟩ := szHeadB_ex a0 a1 l2 l3 l4 1048576 h2 h3 h4 (by omega) (by omega)
  refine ev_bind (ev_now hr) ?_
  by_cases c : r < 0
  · exact ev_pos c (ev_now rfl)
  have hz := hz c
  have t := toHeadB_ev a0 a1 l2 l3 l4 (by omega) (by omega) (by omega)
  have e := eqHeadB_ev a0 a1 l2 l3 l4 (by omega) (by omega) (by omega)
  exact ev_neg c (ev_bind t (ev_bind (spec_headBFault_ev _ _ _ _ _) (ev_bind t (ev_bind (ev_now (impl_headBFault_eq _ _ _ _ _)) (ev_pos rfl (ev_bind t (ev_bind e (ev_pos rfl (ev_now rfl)))))))))
end Go.Proofs.Ytlnppbcifenanaa.Pure
