/- How a tree is split, and on which side the other parts are: the program's splitAt and sides and the reference's l3Split and l3Sides agree for 1 to 16 leaves. -/
import Derived.Test.YtlnppbcifenanaaBase
import Derived.Test.YtlnppbcifenanaaSxSpecL3Sides
import Derived.Test.YtlnppbcifenanaaSxImplSides
set_option linter.unusedVariables false
namespace Go.Proofs.Ytlnppbcifenanaa.S
open Go.RowKit Go.Proofs.YtlnppbcifenanaaW.PrintWords Go.Proofs.YtlnppbcifenanaaW.PrintLast Go.Proofs.YtlnppbcifenanaaW.PrintMore Go.Proofs.Ytlnppbcifenanaa.Base

def splitV (n : Int) : Int := if n ≤ 2 then 1 else if n ≤ 4 then 2 else if n ≤ 8 then 4 else 8
theorem splitV_range {n : Int} (h : 2 ≤ n) (h1 : n ≤ 16) : 1 ≤ splitV n ∧ splitV n < n ∧ splitV n ≤ 8 ∧ n - splitV n ≤ 8 := by
  unfold splitV
  repeat' split
  all_goals omega
theorem wd (x : Int) (h0 : 0 ≤ x) (h1 : x ≤ 16) : wrap64 (2 * x) = 2 * x := w64 (by omega) (by omega)
theorem wd' (x : Int) (h0 : 0 ≤ x) (h1 : x ≤ 16) : wrap64 (x * 2) = 2 * x := by rw [w64 (by omega) (by omega)]; omega
theorem spec_split_ev {n : Int} (h : 2 ≤ n) (h1 : n ≤ 16) : Ev (fun k => spec_l3Split.f k n) (splitV n) := by
  unfold spec_l3Split.f splitV
  refine ev_step (fun k => spec_l3Split.l0.eq_2 _ _ _) ?_
  rw [wd 1 (by omega) (by omega)]
  by_cases c1 : n ≤ 2
  · rw [if_pos c1]; exact ev_neg (by omega) (ev_now rfl)
  rw [if_neg c1]; refine ev_pos (by omega) ?_
  refine ev_step (fun k => spec_l3Split.l0.eq_2 _ _ _) ?_
  rw [wd (2 * 1) (by omega) (by omega)]
  by_cases c2 : n ≤ 4
  · rw [if_pos c2]; exact ev_neg (by omega) (ev_now rfl)
  rw [if_neg c2]; refine ev_pos (by omega) ?_
  refine ev_step (fun k => spec_l3Split.l0.eq_2 _ _ _) ?_
  rw [wd (2 * (2 * 1)) (by omega) (by omega)]
  by_cases c3 : n ≤ 8
  · rw [if_pos c3]; exact ev_neg (by omega) (ev_now rfl)
  rw [if_neg c3]; refine ev_pos (by omega) ?_
  refine ev_step (fun k => spec_l3Split.l0.eq_2 _ _ _) ?_
  rw [wd (2 * (2 * (2 * 1))) (by omega) (by omega)]
  exact ev_neg (by omega) (ev_now rfl)
theorem impl_split_ev {n : Int} (h : 2 ≤ n) (h1 : n ≤ 16) : Ev (fun k => impl_splitAt.f k n) (splitV n) := by
  unfold impl_splitAt.f splitV
  refine ev_step (fun k => impl_splitAt.l0.eq_2 _ _ _) ?_
  rw [wd 1 (by omega) (by omega), wd' 1 (by omega) (by omega)]
  by_cases c1 : n ≤ 2
  · rw [if_pos c1]; exact ev_neg (by omega) (ev_now rfl)
  rw [if_neg c1]; refine ev_pos (by omega) ?_
  refine ev_step (fun k => impl_splitAt.l0.eq_2 _ _ _) ?_
  rw [wd (2 * 1) (by omega) (by omega), wd' (2 * 1) (by omega) (by omega)]
  by_cases c2 : n ≤ 4
  · rw [if_pos c2]; exact ev_neg (by omega) (ev_now rfl)
  rw [if_neg c2]; refine ev_pos (by omega) ?_
  refine ev_step (fun k => impl_splitAt.l0.eq_2 _ _ _) ?_
  rw [wd (2 * (2 * 1)) (by omega) (by omega), wd' (2 * (2 * 1)) (by omega) (by omega)]
  by_cases c3 : n ≤ 8
  · rw [if_pos c3]; exact ev_neg (by omega) (ev_now rfl)
  rw [if_neg c3]; refine ev_pos (by omega) ?_
  refine ev_step (fun k => impl_splitAt.l0.eq_2 _ _ _) ?_
  rw [wd (2 * (2 * (2 * 1))) (by omega) (by omega)]
  exact ev_neg (by omega) (ev_now rfl)
/-- The sides of the way from leaf p up in a tree of n leaves: true: the other part is on the left. -/
theorem sides_ev : ∀ (m : Nat) (n p : Int), n ≤ m → 1 ≤ n → n ≤ 16 → 0 ≤ p → p < n → ∃ L : List Bool, (L.length : Int) < n ∧ Ev (fun k => impl_sides.f k n p) L ∧ Ev (fun k => spec_l3Sides.f k n p) (L.map not) := by
  intro m
  induction m with
  | zero => intro n p h h1; omega
  | succ m ih =>
    intro n p h h1 h2 hp hq
    by_cases e : n = 1
    · refine ⟨[], by simp; omega, ?_, ?_⟩
      · exact ev_step (fun k => impl_sides.f.eq_2 _ _ _) (ev_pos e (ev_now rfl))
      · exact ev_step (fun k => spec_l3Sides.f.eq_2 _ _ _) (ev_pos (by omega) (ev_now rfl))
    · have hr := splitV_range (n := n) (by omega) h2
      have hs := spec_split_ev (n := n) (by omega) h2
      have hi := impl_split_ev (n := n) (by omega) h2
      generalize splitV n = v at hr hs hi
      by_cases c : p < v
      · obtain ⟨L, l1, l2, l3⟩ := ih v p (by omega) (by omega) (by omega) hp c
        refine ⟨L ++ [false], by simp; omega, ?_, ?_⟩
        · refine ev_step (fun k => impl_sides.f.eq_2 _ _ _) (ev_neg e (ev_bind hi (ev_pos c (ev_bind l2 (ev_pos ?_ (ev_now rfl))))))
          omega
        · refine ev_step (fun k => spec_l3Sides.f.eq_2 _ _ _) (ev_neg (by omega) (ev_bind hs (ev_pos c (ev_bind l3 (ev_pos ?_ (ev_now (by simp)))))))
          rw [List.length_map]; omega
      · obtain ⟨L, l1, l2, l3⟩ := ih (n - v) (p - v) (by omega) (by omega) (by omega) (by omega) (by omega)
        have e1 : wrap64 (n - v) = n - v := w64 (by omega) (by omega)
        have e2 : wrap64 (p - v) = p - v := w64 (by omega) (by omega)
        refine ⟨L ++ [true], by simp; omega, ?_, ?_⟩
        · refine ev_step (fun k => impl_sides.f.eq_2 _ _ _) (ev_neg e (ev_bind hi (ev_neg c ?_)))
          rw [e1, e2]
          exact ev_bind l2 (ev_pos (by omega) (ev_now rfl))
        · refine ev_step (fun k => spec_l3Sides.f.eq_2 _ _ _) (ev_neg (by omega) (ev_bind hs (ev_neg c ?_)))
          rw [e1, e2]
          exact ev_bind l3 (ev_pos (by rw [List.length_map]; omega) (ev_now (by simp)))
end Go.Proofs.Ytlnppbcifenanaa.S
