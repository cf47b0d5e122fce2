/- A number as seven bytes: the program's number and the reference's l1Put come to the same bytes. For every number. -/
import Derived.Test.YtlnppbcifenanaaBase
import Derived.Test.YtlnppbcifenanaaSxSpecL1Put
import Derived.Test.YtlnppbcifenanaaSxImplNumber
set_option linter.unusedVariables false
namespace Go.Proofs.Ytlnppbcifenanaa.S
open Go.RowKit Go.Proofs.YtlnppbcifenanaaW.PrintWords Go.Proofs.YtlnppbcifenanaaW.PrintLast Go.Proofs.YtlnppbcifenanaaW.PrintMore Go.Proofs.Ytlnppbcifenanaa.Base

/-- The seven bytes of a number, the highest first. -/
def num7 (n : Int) : List Int := [n / 281474976710656 % 256, n / 1099511627776 % 256, n / 4294967296 % 256, n / 16777216 % 256, n / 65536 % 256, n / 256 % 256, n % 256]
theorem num7_byt (n : Int) : Byt (num7 n) := by
  intro x hx
  simp only [num7, List.mem_cons, List.not_mem_nil, or_false] at hx
  rcases hx with rfl | rfl | rfl | rfl | rfl | rfl | rfl <;> omega
theorem num7_length (n : Int) : (num7 n).length = 7 := rfl
theorem l1Put_ev (n : Int) : Ev (fun k => spec_l1Put.f k n) (num7 n) := by
  unfold spec_l1Put.f
  refine ev_step (fun k => spec_l1Put.l0.eq_2 _ _ _ _) (ev_pos (by decide +kernel) (ev_pos (by decide +kernel) (ev_pos (by simp) ?_)))
  rw [show wrap64 (6 - 1) = 5 from by decide +kernel]
  refine ev_step (fun k => spec_l1Put.l0.eq_2 _ _ _ _) (ev_pos (by decide +kernel) (ev_pos (by decide +kernel) (ev_pos (by simp) ?_)))
  rw [show wrap64 (5 - 1) = 4 from by decide +kernel]
  refine ev_step (fun k => spec_l1Put.l0.eq_2 _ _ _ _) (ev_pos (by decide +kernel) (ev_pos (by decide +kernel) (ev_pos (by simp) ?_)))
  rw [show wrap64 (4 - 1) = 3 from by decide +kernel]
  refine ev_step (fun k => spec_l1Put.l0.eq_2 _ _ _ _) (ev_pos (by decide +kernel) (ev_pos (by decide +kernel) (ev_pos (by simp) ?_)))
  rw [show wrap64 (3 - 1) = 2 from by decide +kernel]
  refine ev_step (fun k => spec_l1Put.l0.eq_2 _ _ _ _) (ev_pos (by decide +kernel) (ev_pos (by decide +kernel) (ev_pos (by simp) ?_)))
  rw [show wrap64 (2 - 1) = 1 from by decide +kernel]
  refine ev_step (fun k => spec_l1Put.l0.eq_2 _ _ _ _) (ev_pos (by decide +kernel) (ev_pos (by decide +kernel) (ev_pos (by simp) ?_)))
  rw [show wrap64 (1 - 1) = 0 from by decide +kernel]
  refine ev_step (fun k => spec_l1Put.l0.eq_2 _ _ _ _) (ev_pos (by decide +kernel) (ev_pos (by decide +kernel) (ev_pos (by simp) ?_)))
  rw [show wrap64 (0 - 1) = -1 from by decide +kernel]
  refine ev_step (fun k => spec_l1Put.l0.eq_2 _ _ _ _) (ev_neg (by decide +kernel) (ev_now ?_))
  rw [show IntKind.u64.wrap (wrap64 (8 * 6)) = 48 from by decide +kernel, show IntKind.u64.wrap (wrap64 (8 * 5)) = 40 from by decide +kernel, show IntKind.u64.wrap (wrap64 (8 * 4)) = 32 from by decide +kernel, show IntKind.u64.wrap (wrap64 (8 * 3)) = 24 from by decide +kernel, show IntKind.u64.wrap (wrap64 (8 * 2)) = 16 from by decide +kernel, show IntKind.u64.wrap (wrap64 (8 * 1)) = 8 from by decide +kernel, show IntKind.u64.wrap (wrap64 (8 * 0)) = 0 from by decide +kernel]
  simp [shr, num7, IntKind.bits]
theorem number_ev (n : Int) : Ev (fun k => impl_number.f k n) (num7 n) := by
  unfold impl_number.f
  refine ev_pos (by omega) ?_
  refine ev_step (fun k => impl_number.l0.eq_2 _ _ _ _) (ev_pos (by decide +kernel) (ev_pos (by decide +kernel) (ev_pos (by simp) ?_)))
  rw [show wrap64 (6 - 1) = 5 from by decide +kernel]
  refine ev_step (fun k => impl_number.l0.eq_2 _ _ _ _) (ev_pos (by decide +kernel) (ev_pos (by decide +kernel) (ev_pos (by simp) ?_)))
  rw [show wrap64 (5 - 1) = 4 from by decide +kernel]
  refine ev_step (fun k => impl_number.l0.eq_2 _ _ _ _) (ev_pos (by decide +kernel) (ev_pos (by decide +kernel) (ev_pos (by simp) ?_)))
  rw [show wrap64 (4 - 1) = 3 from by decide +kernel]
  refine ev_step (fun k => impl_number.l0.eq_2 _ _ _ _) (ev_pos (by decide +kernel) (ev_pos (by decide +kernel) (ev_pos (by simp) ?_)))
  rw [show wrap64 (3 - 1) = 2 from by decide +kernel]
  refine ev_step (fun k => impl_number.l0.eq_2 _ _ _ _) (ev_pos (by decide +kernel) (ev_pos (by decide +kernel) (ev_pos (by simp) ?_)))
  rw [show wrap64 (2 - 1) = 1 from by decide +kernel]
  refine ev_step (fun k => impl_number.l0.eq_2 _ _ _ _) (ev_pos (by decide +kernel) (ev_pos (by decide +kernel) (ev_pos (by simp) ?_)))
  rw [show wrap64 (1 - 1) = 0 from by decide +kernel]
  refine ev_step (fun k => impl_number.l0.eq_2 _ _ _ _) (ev_pos (by decide +kernel) (ev_pos (by decide +kernel) (ev_pos (by simp) ?_)))
  rw [show wrap64 (0 - 1) = -1 from by decide +kernel]
  refine ev_step (fun k => impl_number.l0.eq_2 _ _ _ _) (ev_neg (by decide +kernel) (ev_now ?_))
  simp [num7, List.replicate]
  omega
end Go.Proofs.Ytlnppbcifenanaa.S
