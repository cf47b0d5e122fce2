import Derived.Test.YtcgeajjkfoignaaBase
import Derived.Test.YtcgeajjkfoignaaSxLawsHelp
import Derived.Test.YtcgeajjkfoignaaSxImplSmall
import Derived.Test.YtcgeajjkfoignaaSxSpecL1
import Derived.Test.YtcgeajjkfoignaaSxLawsHelp
import Derived.Test.YtcgeajjkfoignaaSxLawsToHeadBY
import Derived.Test.YtcgeajjkfoignaaSxLawsEqHeadBY
import Derived.Test.YtcgeajjkfoignaaSxLawsSzHeadBY
import Derived.Test.YtcgeajjkfoignaaSxImplHeadBFault
import Derived.Test.YtcgeajjkfoignaaSxSpecHeadBFault
import Derived.Test.YtcgeajjkfoignaaSxImplAreDigestsY
import Derived.Test.YtcgeajjkfoignaaSxSpecL1
import Derived.Test.YtcgeajjkfoignaaSxImplPackedY
import Derived.Test.YtcgeajjkfoignaaSxSpecL1
import Derived.Test.YtcgeajjkfoignaaSxImplSmall
import Derived.Test.YtcgeajjkfoignaaShaI
import Derived.Test.YtcgeajjkfoignaaPStr
import Derived.Test.YtcgeajjkfoignaaSxSpecTaggedDigest
import Derived.Test.YtcgeajjkfoignaaSxImplTaggedY
import Derived.Test.YtcgeajjkfoignaaSxImplDigestY
import Derived.Test.YtcgeajjkfoignaaSxSpecDigest
import Derived.Test.YtcgeajjkfoignaaSxLawsHelp
import Derived.Test.YtcgeajjkfoignaaSxLawsFnExactHeadBDigest
import Derived.Test.YtcgeajjkfoignaaSxLawsMarkHeadBY
import Derived.Test.YtcgeajjkfoignaaSxSpecHeadBDigest
import Derived.Test.YtcgeajjkfoignaaSxImplHeadBDigest
import Derived.Test.YtcgeajjkfoignaaSxImplHeadBDigestM
import Derived.Test.YtcgeajjkfoignaaSxImplPackY
/- What the laws' own helpers on byte slices come to: toByteS copies, eqByteS compares, markByteS and heldByteS count alike. For every slice that fits memory. -/
set_option linter.unusedVariables false
namespace Go.Proofs.Ytcgeajjkfoignaa.S
open Go.RowKit Go.Proofs.YtcgeajjkfoignaaW.PrintWords Go.Proofs.YtcgeajjkfoignaaW.PrintLast Go.Proofs.YtcgeajjkfoignaaW.PrintMore Go.Proofs.Ytcgeajjkfoignaa.Base

theorem toByteS_l0 (l : List Int) (hl : l.length ≤ 281474976710656) : ∀ (d : Nat) (x : List Int) (i : Nat), i + d = l.length → x.length = l.length → (∀ j, j < i → x[j]? = l[j]?) → Ev (fun k => laws_toByteS.l0 k l x (i : Int)) l := by
  intro d
  induction d with
  | zero =>
    intro x i hi hx hj
    refine ev_step (fun k => laws_toByteS.l0.eq_2 _ _ _ _) ?_
    refine ev_neg (by omega) ?_
    rw [fill_all hx (fun j h => hj j (by omega))]
    exact ev_now rfl
  | succ d ih =>
    intro x i hi hx hj
    refine ev_step (fun k => laws_toByteS.l0.eq_2 _ _ _ _) ?_
    refine ev_pos (by omega) ?_
    refine ev_pos (by omega) ?_
    refine ev_pos (by omega) ?_
    rw [w64s (by omega), Int.toNat_natCast]
    exact ih _ (i + 1) (by omega) (by rw [List.length_set]; exact hx) (fill_step (by omega) hx hj)
theorem toByteS_ev (l : List Int) (hl : l.length ≤ 281474976710656) : Ev (fun k => laws_toByteS.f k l) l := by
  unfold laws_toByteS.f
  refine ev_pos (by omega) ?_
  refine ev_pos (by omega) ?_
  exact toByteS_l0 l hl l.length _ 0 (by omega) (by simp) (fun j h => by omega)
theorem eqByteS_l0 (l : List Int) (hl : l.length ≤ 281474976710656) : ∀ (d i : Nat), i + d = l.length → Ev (fun k => laws_eqByteS.l0 k l l (i : Int)) true := by
  intro d
  induction d with
  | zero =>
    intro i hi
    refine ev_step (fun k => laws_eqByteS.l0.eq_2 _ _ _ _) ?_
    refine ev_neg (by omega) ?_
    exact ev_now rfl
  | succ d ih =>
    intro i hi
    refine ev_step (fun k => laws_eqByteS.l0.eq_2 _ _ _ _) ?_
    refine ev_pos (by omega) ?_
    refine ev_pos (by omega) ?_
    refine ev_pos (by omega) ?_
    refine ev_pos rfl ?_
    rw [w64s (by omega)]
    exact ih (i + 1) (by omega)
theorem eqByteS_ev (l : List Int) (hl : l.length ≤ 281474976710656) : Ev (fun k => laws_eqByteS.f k l l) true := by
  unfold laws_eqByteS.f
  refine ev_pos rfl ?_
  exact eqByteS_l0 l hl l.length 0 (by omega)
end Go.Proofs.Ytcgeajjkfoignaa.S

/- Is a number in its bounds: the program's and the reference's answer. -/
set_option linter.unusedVariables false
namespace Go.Proofs.Ytcgeajjkfoignaa.S
open Go.RowKit Go.Proofs.YtcgeajjkfoignaaW.PrintWords Go.Proofs.YtcgeajjkfoignaaW.PrintLast Go.Proofs.YtcgeajjkfoignaaW.PrintMore Go.Proofs.Ytcgeajjkfoignaa.Base

theorem in_eq (a b c : Int) : impl_in.f a b c = some (decide (b ≤ a ∧ a ≤ c)) := by
  unfold impl_in.f
  by_cases h : b ≤ a <;> simp [h]
theorem l1In_eq (a b c : Int) : spec_l1In.f a b c = some (decide (b ≤ a ∧ a ≤ c)) := by
  unfold spec_l1In.f
  by_cases h : b ≤ a <;> simp [h]
end Go.Proofs.Ytcgeajjkfoignaa.S

/- How many places are left behind a slice of bytes. -/
set_option linter.unusedVariables false
namespace Go.Proofs.Ytcgeajjkfoignaa.S
open Go.RowKit Go.Proofs.YtcgeajjkfoignaaW.PrintWords Go.Proofs.YtcgeajjkfoignaaW.PrintLast Go.Proofs.YtcgeajjkfoignaaW.PrintMore Go.Proofs.Ytcgeajjkfoignaa.Base

def szV (n : Nat) (a : Int) : Int := if a - n < 0 then -1 else a - n
theorem szByteS_eq (l : List Int) (a : Int) (hl : l.length ≤ 9223372036854775807) (h0 : 0 ≤ a) (h1 : a ≤ 1048576) : laws_szByteS.f l a = some (szV l.length a) := by
  unfold laws_szByteS.f szV
  rw [w64 (by omega) (by omega)]
  split <;> rfl
theorem szV_range {n : Nat} {a : Int} (h : ¬ szV n a < 0) : (n : Int) ≤ a ∧ szV n a = a - n := by
  unfold szV at h ⊢
  split at h
  · omega
  · rename_i g
    rw [if_neg g]
    exact ⟨by omega, rfl⟩
end Go.Proofs.Ytcgeajjkfoignaa.S

/- The laws' helpers on the second kind of head. For every head that fits. -/
set_option linter.unusedVariables false
namespace Go.Proofs.Ytcgeajjkfoignaa.S
open Go.RowKit Go.Proofs.YtcgeajjkfoignaaW.PrintWords Go.Proofs.YtcgeajjkfoignaaW.PrintLast Go.Proofs.YtcgeajjkfoignaaW.PrintMore Go.Proofs.Ytcgeajjkfoignaa.Base

theorem szHeadB_ex (a0 a1 : Int) (l2 l3 l4 : List Int) (a : Int) (h2 : l2.length ≤ 9223372036854775807) (h3 : l3.length ≤ 9223372036854775807) (h4 : l4.length ≤ 9223372036854775807) (ha : 0 ≤ a) (hb : a ≤ 1048576) :
    ∃ r, laws_szHeadB.f a0 a1 l2 l3 l4 a = some r ∧ r ≤ a ∧ (¬ r < 0 → (l2.length : Int) + l3.length + l4.length + r = a) := by
  unfold laws_szHeadB.f
  rw [szByteS_eq l2 a h2 ha hb, Option.bind_some]
  by_cases c : szV l2.length a < 0
  · rw [if_pos c]
    exact ⟨-1, rfl, by omega, fun h => absurd (by omega) h⟩
  · obtain ⟨g1, g2⟩ := szV_range c
    rw [if_neg c, szByteS_eq l3 _ h3 (by omega) (by omega), Option.bind_some]
    by_cases d : szV l3.length (szV l2.length a) < 0
    · rw [if_pos d]
      exact ⟨-1, rfl, by omega, fun h => absurd (by omega) h⟩
    · obtain ⟨g3, g4⟩ := szV_range d
      rw [if_neg d, szByteS_eq l4 _ h4 (by omega) (by omega), Option.bind_some]
      by_cases e : szV l4.length (szV l3.length (szV l2.length a)) < 0
      · rw [if_pos e]
        exact ⟨-1, rfl, by omega, fun h => absurd (by omega) h⟩
      · obtain ⟨g5, g6⟩ := szV_range e
        rw [if_neg e]
        exact ⟨_, rfl, by omega, fun _ => by omega⟩
theorem toHeadB_ev (a0 a1 : Int) (l2 l3 l4 : List Int) (h2 : l2.length ≤ 281474976710656) (h3 : l3.length ≤ 281474976710656) (h4 : l4.length ≤ 281474976710656) : Ev (fun k => laws_toHeadB.f k a0 a1 l2 l3 l4) (a0, a1, l2, l3, l4) := by
  unfold laws_toHeadB.f
  exact ev_bind (toByteS_ev l2 h2) (ev_bind (toByteS_ev l3 h3) (ev_bind (toByteS_ev l4 h4) (ev_now rfl)))
theorem eqHeadB_ev (a0 a1 : Int) (l2 l3 l4 : List Int) (h2 : l2.length ≤ 281474976710656) (h3 : l3.length ≤ 281474976710656) (h4 : l4.length ≤ 281474976710656) : Ev (fun k => laws_eqHeadB.f k a0 a1 l2 l3 l4 a0 a1 l2 l3 l4) true := by
  unfold laws_eqHeadB.f
  exact ev_pos rfl (ev_pos rfl (ev_bind (eqByteS_ev l2 h2) (ev_pos rfl (ev_bind (eqByteS_ev l3 h3) (ev_pos rfl (ev_bind (eqByteS_ev l4 h4) (ev_pos rfl (ev_now rfl))))))))
end Go.Proofs.Ytcgeajjkfoignaa.S

/- The second kind of head's code: the program's and the reference's. -/
set_option linter.unusedVariables false
namespace Go.Proofs.Ytcgeajjkfoignaa.S
open Go.RowKit Go.Proofs.YtcgeajjkfoignaaW.PrintWords Go.Proofs.YtcgeajjkfoignaaW.PrintLast Go.Proofs.YtcgeajjkfoignaaW.PrintMore Go.Proofs.Ytcgeajjkfoignaa.Base
def headBFaultV (a0 a1 : Int) (l2 l3 l4 : List Int) : Int :=
  if l2.length = 32 ∧ l3.length = 32 ∧ l4.length = 32 then (if (1 ≤ a0 ∧ a0 ≤ 1000000) ∧ (0 ≤ a1 ∧ a1 ≤ 1099511627776) then 0 else 3) else 1
theorem impl_headBFault_eq (a0 a1 : Int) (l2 l3 l4 : List Int) : impl_HeadBFault.f a0 a1 l2 l3 l4 = some (headBFaultV a0 a1 l2 l3 l4) := by
  have e : impl_areDigests.f [l2, l3, l4] = some (decide (l2.length = 32 ∧ l3.length = 32 ∧ l4.length = 32)) := by
    unfold impl_areDigests.f
    congr 1
    rw [Bool.eq_iff_iff]
    simp only [List.all_cons, List.all_nil, Bool.and_true, Bool.and_eq_true, beq_iff_eq, decide_eq_true_iff]
    omega
  unfold impl_HeadBFault.f headBFaultV
  rw [e, Option.bind_some, in_eq, in_eq]
  by_cases h : l2.length = 32 ∧ l3.length = 32 ∧ l4.length = 32
  · rw [if_pos (decide_eq_true h), if_pos h, Option.bind_some]
    by_cases d0 : 1 ≤ a0 ∧ a0 ≤ 1000000
    · rw [if_pos (decide_eq_true d0), Option.bind_some]
      by_cases d1 : 0 ≤ a1 ∧ a1 ≤ 1099511627776
      · rw [if_pos (decide_eq_true d1), if_pos ⟨d0, d1⟩]
      · rw [if_neg (fun g => d1 (of_decide_eq_true g)), if_neg (fun g => d1 g.2)]
    · rw [if_neg (fun g => d0 (of_decide_eq_true g)), if_neg (fun g => d0 g.1)]
  · rw [if_neg (fun g => h (of_decide_eq_true g)), if_neg h]
theorem spec_headBFault_ev (a0 a1 : Int) (l2 l3 l4 : List Int) : Ev (fun k => spec_HeadBFault.f k a0 a1 l2 l3 l4) (headBFaultV a0 a1 l2 l3 l4) := by
  have bad : ∀ b, b = true → ¬ (l2.length = 32 ∧ l3.length = 32 ∧ l4.length = 32) → Ev (fun k => spec_HeadBFault.j0 k b a0 a1 l2 l3 l4) (headBFaultV a0 a1 l2 l3 l4) := fun b hb hn => by
    unfold headBFaultV
    rw [if_neg hn]
    exact ev_step (fun k => spec_HeadBFault.j0.eq_2 _ _ _ _ _ _ _) (ev_pos hb (ev_now rfl))
  unfold spec_HeadBFault.f
  by_cases h2 : l2.length = 32
  · refine ev_pos (by omega) ?_
    by_cases h3 : l3.length = 32
    · refine ev_pos (by omega) ?_
      by_cases h4 : l4.length = 32
      · refine ev_step (fun k => spec_HeadBFault.j0.eq_2 _ _ _ _ _ _ _) (ev_neg (show ¬ ((l4.length : Int) != 32) = true by rw [h4]; decide) (ev_bind (ev_now (l1In_eq _ _ _)) ?_))
        unfold headBFaultV
        rw [if_pos (show l2.length = 32 ∧ l3.length = 32 ∧ l4.length = 32 from ⟨h2, h3, h4⟩)]
        by_cases d0 : 1 ≤ a0 ∧ a0 ≤ 1000000
        · refine ev_pos (decide_eq_true d0) (ev_bind (ev_now (l1In_eq _ _ _)) ?_)
          by_cases d1 : 0 ≤ a1 ∧ a1 ≤ 1099511627776
          · rw [if_pos (show (1 ≤ a0 ∧ a0 ≤ 1000000) ∧ (0 ≤ a1 ∧ a1 ≤ 1099511627776) from ⟨d0, d1⟩)]
            exact ev_pos (decide_eq_true d1) (ev_now rfl)
          · rw [if_neg (show ¬ ((1 ≤ a0 ∧ a0 ≤ 1000000) ∧ (0 ≤ a1 ∧ a1 ≤ 1099511627776)) from fun g => d1 g.2)]
            exact ev_neg (fun g => d1 (of_decide_eq_true g)) (ev_now rfl)
        · rw [if_neg (show ¬ ((1 ≤ a0 ∧ a0 ≤ 1000000) ∧ (0 ≤ a1 ∧ a1 ≤ 1099511627776)) from fun g => d0 g.1)]
          exact ev_neg (fun g => d0 (of_decide_eq_true g)) (ev_now rfl)
      · exact bad _ (bne_iff_ne.2 (by omega)) (fun g => h4 g.2.2)
    · exact ev_neg (by omega) (bad _ rfl (fun g => h3 g.2.1))
  · exact ev_neg (by omega) (bad _ rfl (fun g => h2 g.1))
end Go.Proofs.Ytcgeajjkfoignaa.S

/- Words behind one another, each with its length ahead: what the program's packed and the reference's l1Pack come to. -/
set_option linter.unusedVariables false
namespace Go.Proofs.Ytcgeajjkfoignaa.S
open Go.RowKit Go.Proofs.YtcgeajjkfoignaaW.PrintWords Go.Proofs.YtcgeajjkfoignaaW.PrintLast Go.Proofs.YtcgeajjkfoignaaW.PrintMore Go.Proofs.Ytcgeajjkfoignaa.Base

/-- Words behind one another, each with its length ahead. -/
def packL : List (List Int) → List Int
  | [] => []
  | w :: ws => (((w.length : Int) % 256) :: w) ++ packL ws
theorem packL_cons_length (w : List Int) (ws : List (List Int)) : (packL (w :: ws)).length = 1 + w.length + (packL ws).length := by
  simp [packL]
  omega
theorem rdW (l : List (List Int)) (i : Nat) (h : i < l.length) : rd_L1 l (i : Int) = l[i] := by
  unfold rd_L1
  simp [List.getD_eq_getElem?_getD, List.getElem?_eq_getElem h]
theorem l1Pack_l0 (ws : List (List Int)) (hw : ws.length ≤ 1048576) : ∀ (d i : Nat) (y : List Int), i + d = ws.length → y.length + (packL (ws.drop i)).length < 140737488355328 → Ev (fun k => spec_l1Pack.l0 k ws y (i : Int)) (y ++ packL (ws.drop i)) := by
  intro d
  induction d with
  | zero =>
    intro i y hi hl
    rw [List.drop_of_length_le (by omega)]
    exact ev_step (fun k => spec_l1Pack.l0.eq_2 _ _ _ _) (ev_neg (by omega) (ev_now (by simp [packL])))
  | succ d ih =>
    intro i y hi hl
    rw [List.drop_eq_getElem_cons (by omega)] at hl ⊢
    rw [packL_cons_length] at hl
    refine ev_step (fun k => spec_l1Pack.l0.eq_2 _ _ _ _) (ev_pos (by omega) (ev_pos (by omega) (ev_pos (by omega) ?_)))
    rw [rdW ws i (by omega)]
    refine ev_bind (ev_now rfl) (ev_pos (by simp; omega) ?_)
    rw [w64s (by omega)]
    refine ev_eq (ih (i + 1) _ (by omega) (by simp; omega)) ?_
    simp [packL]
theorem l1Pack_ev (ws : List (List Int)) (hw : ws.length ≤ 1048576) (hl : (packL ws).length < 140737488355328) : Ev (fun k => spec_l1Pack.f k ws) (packL ws) := by
  have h := l1Pack_l0 ws hw ws.length 0 [] (by omega) (by simpa using hl)
  unfold spec_l1Pack.f
  simpa using h
/-- The words that are packed, and whether they are few and short. -/
def packedV (ws : List (List Int)) : List Int × Bool := if ws.length > 60 then ([], false) else if (∀ w ∈ ws, w.length ≤ 200) ∧ (packL ws).length ≤ 4000 then (packL ws, true) else ([], false)
theorem packed_l0 (ws : List (List Int)) (hw : ws.length ≤ 60) (hs : ∀ w ∈ ws, w.length ≤ 9223372036854771000) : ∀ (d i : Nat) (y : List Int), i + d = ws.length → y.length ≤ 4000 → Ev (fun k => impl_packed.l0 k y ws (ws.length : Int) (i : Int)) (if (∀ w ∈ ws.drop i, w.length ≤ 200) ∧ y.length + (packL (ws.drop i)).length ≤ 4000 then (y ++ packL (ws.drop i), true) else ([], false)) := by
  intro d
  induction d with
  | zero =>
    intro i y hi hl
    rw [List.drop_of_length_le (by omega)]
    rw [if_pos ⟨fun w hw => (by cases hw), (by simpa [packL] using hl)⟩]
    exact ev_step (fun k => impl_packed.l0.eq_2 _ _ _ _ _) (ev_neg (by omega) (ev_now (by simp [packL])))
  | succ d ih =>
    intro i y hi hl
    rw [List.drop_eq_getElem_cons (by omega)]
    have hsi := hs ws[i] (List.getElem_mem _)
    refine ev_step (fun k => impl_packed.l0.eq_2 _ _ _ _ _) (ev_pos (by omega) (ev_pos (by omega) (ev_pos (by omega) ?_)))
    rw [rdW ws i (by omega), packL_cons_length]
    by_cases c : ws[i].length > 200
    · rw [if_neg (fun h => by have := h.1 ws[i] List.mem_cons_self; omega)]
      exact ev_pos (by omega) (ev_now rfl)
    · refine ev_neg (by omega) ?_
      rw [w64 (n := (y.length : Int) + 1) (by omega) (by omega), w64 (n := (y.length : Int) + 1 + (ws[i].length : Int)) (by omega) (by omega)]
      by_cases e : (y.length : Int) + 1 + (ws[i].length : Int) > 4000
      · rw [if_neg (fun h => by omega)]
        exact ev_pos e (ev_now rfl)
      · refine ev_neg e (ev_pos (by omega) (ev_bind (ev_now rfl) (ev_pos (by simp; omega) ?_)))
        rw [w64s (by omega)]
        refine ev_eq (ih (i + 1) _ (by omega) (by simp; omega)) ?_
        have hq : ((∀ w ∈ ws[i] :: ws.drop (i + 1), w.length ≤ 200) ∧ y.length + (1 + ws[i].length + (packL (ws.drop (i + 1))).length) ≤ 4000) ↔ ((∀ w ∈ ws.drop (i + 1), w.length ≤ 200) ∧ (y ++ [(ws[i].length : Int) % 256] ++ ws[i]).length + (packL (ws.drop (i + 1))).length ≤ 4000) := by
          have hlen : (y ++ [(ws[i].length : Int) % 256] ++ ws[i]).length = y.length + 1 + ws[i].length := by simp; omega
          rw [hlen]
          constructor
          · rintro ⟨h1, h2⟩
            exact ⟨fun w hw => h1 w (List.mem_cons_of_mem _ hw), by omega⟩
          · rintro ⟨h1, h2⟩
            refine ⟨fun w hw => ?_, by omega⟩
            rcases List.mem_cons.1 hw with rfl | hw
            · omega
            · exact h1 w hw
        by_cases g : (∀ w ∈ ws[i] :: ws.drop (i + 1), w.length ≤ 200) ∧ y.length + (1 + ws[i].length + (packL (ws.drop (i + 1))).length) ≤ 4000
        · rw [if_pos g, if_pos (hq.1 g)]
          simp [packL]
        · rw [if_neg g, if_neg (fun h => g (hq.2 h))]
theorem packed_ev (ws : List (List Int)) (hs : ∀ w ∈ ws, w.length ≤ 9223372036854771000) : Ev (fun k => impl_packed.f k ws) (packedV ws) := by
  unfold impl_packed.f packedV
  by_cases c : ws.length > 60
  · rw [if_pos c]; exact ev_pos (by omega) (ev_now rfl)
  · rw [if_neg c]
    have h := packed_l0 ws (by omega) hs ws.length 0 [] (by omega) (by simp)
    simp only [List.drop_zero, List.length_nil, Nat.zero_add, List.nil_append] at h
    exact ev_neg (by omega) h
end Go.Proofs.Ytcgeajjkfoignaa.S

/- A number as seven bytes: the program's number and the reference's l1Put come to the same bytes. For every number. -/
set_option linter.unusedVariables false
namespace Go.Proofs.Ytcgeajjkfoignaa.S
open Go.RowKit Go.Proofs.YtcgeajjkfoignaaW.PrintWords Go.Proofs.YtcgeajjkfoignaaW.PrintLast Go.Proofs.YtcgeajjkfoignaaW.PrintMore Go.Proofs.Ytcgeajjkfoignaa.Base

/-- The seven bytes of a number, the highest first. -/
def num7 (n : Int) : List Int := [n / 281474976710656 % 256, n / 1099511627776 % 256, n / 4294967296 % 256, n / 16777216 % 256, n / 65536 % 256, n / 256 % 256, n % 256]
theorem num7_byt (n : Int) : Byt (num7 n) := by
  intro x hx
  simp only [num7, List.mem_cons, List.not_mem_nil, or_false] at hx
  rcases hx with rfl | rfl | rfl | rfl | rfl | rfl | rfl <;> omega
theorem num7_length (n : Int) : (num7 n).length = 7 := rfl
theorem l1Put_ev (n : Int) : Ev (fun k => spec_l1Put.f k n) (num7 n) := by
  unfold spec_l1Put.f
  refine ev_step (fun k => spec_l1Put.l0.eq_2 _ _ _ _) (ev_pos (by decide +kernel) (ev_pos (by decide +kernel) (ev_pos (by simp) ?_)))
  rw [show wrap64 (6 - 1) = 5 from by decide +kernel]
  refine ev_step (fun k => spec_l1Put.l0.eq_2 _ _ _ _) (ev_pos (by decide +kernel) (ev_pos (by decide +kernel) (ev_pos (by simp) ?_)))
  rw [show wrap64 (5 - 1) = 4 from by decide +kernel]
  refine ev_step (fun k => spec_l1Put.l0.eq_2 _ _ _ _) (ev_pos (by decide +kernel) (ev_pos (by decide +kernel) (ev_pos (by simp) ?_)))
  rw [show wrap64 (4 - 1) = 3 from by decide +kernel]
  refine ev_step (fun k => spec_l1Put.l0.eq_2 _ _ _ _) (ev_pos (by decide +kernel) (ev_pos (by decide +kernel) (ev_pos (by simp) ?_)))
  rw [show wrap64 (3 - 1) = 2 from by decide +kernel]
  refine ev_step (fun k => spec_l1Put.l0.eq_2 _ _ _ _) (ev_pos (by decide +kernel) (ev_pos (by decide +kernel) (ev_pos (by simp) ?_)))
  rw [show wrap64 (2 - 1) = 1 from by decide +kernel]
  refine ev_step (fun k => spec_l1Put.l0.eq_2 _ _ _ _) (ev_pos (by decide +kernel) (ev_pos (by decide +kernel) (ev_pos (by simp) ?_)))
  rw [show wrap64 (1 - 1) = 0 from by decide +kernel]
  refine ev_step (fun k => spec_l1Put.l0.eq_2 _ _ _ _) (ev_pos (by decide +kernel) (ev_pos (by decide +kernel) (ev_pos (by simp) ?_)))
  rw [show wrap64 (0 - 1) = -1 from by decide +kernel]
  refine ev_step (fun k => spec_l1Put.l0.eq_2 _ _ _ _) (ev_neg (by decide +kernel) (ev_now ?_))
  rw [show IntKind.u64.wrap (wrap64 (8 * 6)) = 48 from by decide +kernel, show IntKind.u64.wrap (wrap64 (8 * 5)) = 40 from by decide +kernel, show IntKind.u64.wrap (wrap64 (8 * 4)) = 32 from by decide +kernel, show IntKind.u64.wrap (wrap64 (8 * 3)) = 24 from by decide +kernel, show IntKind.u64.wrap (wrap64 (8 * 2)) = 16 from by decide +kernel, show IntKind.u64.wrap (wrap64 (8 * 1)) = 8 from by decide +kernel, show IntKind.u64.wrap (wrap64 (8 * 0)) = 0 from by decide +kernel]
  simp [shr, num7, IntKind.bits]
theorem number_ev (n : Int) : Ev (fun k => impl_number.f k n) (num7 n) := by
  unfold impl_number.f
  refine ev_pos (by omega) ?_
  refine ev_step (fun k => impl_number.l0.eq_2 _ _ _ _) (ev_pos (by decide +kernel) (ev_pos (by decide +kernel) (ev_pos (by simp) ?_)))
  rw [show wrap64 (6 - 1) = 5 from by decide +kernel]
  refine ev_step (fun k => impl_number.l0.eq_2 _ _ _ _) (ev_pos (by decide +kernel) (ev_pos (by decide +kernel) (ev_pos (by simp) ?_)))
  rw [show wrap64 (5 - 1) = 4 from by decide +kernel]
  refine ev_step (fun k => impl_number.l0.eq_2 _ _ _ _) (ev_pos (by decide +kernel) (ev_pos (by decide +kernel) (ev_pos (by simp) ?_)))
  rw [show wrap64 (4 - 1) = 3 from by decide +kernel]
  refine ev_step (fun k => impl_number.l0.eq_2 _ _ _ _) (ev_pos (by decide +kernel) (ev_pos (by decide +kernel) (ev_pos (by simp) ?_)))
  rw [show wrap64 (3 - 1) = 2 from by decide +kernel]
  refine ev_step (fun k => impl_number.l0.eq_2 _ _ _ _) (ev_pos (by decide +kernel) (ev_pos (by decide +kernel) (ev_pos (by simp) ?_)))
  rw [show wrap64 (2 - 1) = 1 from by decide +kernel]
  refine ev_step (fun k => impl_number.l0.eq_2 _ _ _ _) (ev_pos (by decide +kernel) (ev_pos (by decide +kernel) (ev_pos (by simp) ?_)))
  rw [show wrap64 (1 - 1) = 0 from by decide +kernel]
  refine ev_step (fun k => impl_number.l0.eq_2 _ _ _ _) (ev_pos (by decide +kernel) (ev_pos (by decide +kernel) (ev_pos (by simp) ?_)))
  rw [show wrap64 (0 - 1) = -1 from by decide +kernel]
  refine ev_step (fun k => impl_number.l0.eq_2 _ _ _ _) (ev_neg (by decide +kernel) (ev_now ?_))
  simp [num7, List.replicate]
  omega
end Go.Proofs.Ytcgeajjkfoignaa.S

/- The digest and the tagged digest, as plain functions: what the program's and the reference's come to. For all bytes that fit. -/
set_option linter.unusedVariables false
namespace Go.Proofs.Ytcgeajjkfoignaa.S
open Go.RowKit Go.Proofs.YtcgeajjkfoignaaW.PrintWords Go.Proofs.YtcgeajjkfoignaaW.PrintLast Go.Proofs.YtcgeajjkfoignaaW.PrintMore Go.Proofs.Ytcgeajjkfoignaa.Base Go.Proofs.Ytcgeajjkfoignaa.Sha

theorem spec_dig {l : List Int} (hl : Byt l) (hn : l.length < 70000000000000) : spec_Digest.f l = some (sha l) := by
  unfold spec_Digest.f
  refine if_pos ?_
  unfold spec_Digest.ok
  rw [Bool.and_eq_true]
  exact ⟨List.all_eq_true.2 (fun x hx => decide_eq_true (hl x hx)), decide_eq_true hn⟩
theorem impl_dig {ls : List (List Int)} (hl : Byt ls.flatten) (hn : ls.flatten.length < 70000000000000) : impl_digest.f ls = some (sha ls.flatten) := by
  unfold impl_digest.f
  refine if_pos ?_
  unfold impl_digest.ok
  rw [Bool.and_eq_true]
  exact ⟨List.all_eq_true.2 (fun x hx => decide_eq_true (hl x hx)), decide_eq_true hn⟩
/-- The tagged digest. -/
def tg (t : ByteArray) (l : List Int) : List Int := sha ([(t.size : Int) % 256] ++ bytesOf t ++ l)
theorem tg_length (t : ByteArray) (l : List Int) : (tg t l).length = 32 := sha_length _
theorem tg_byt (t : ByteArray) (l : List Int) : Byt (tg t l) := sha_byt _
theorem tg_byt0 {t : ByteArray} {l : List Int} (hl : Byt l) : Byt ([(t.size : Int) % 256] ++ bytesOf t ++ l) :=
  byt_append (byt_append (byt_one (by omega) (by omega)) (bytesOf_byt t)) hl
theorem spec_tag {t : ByteArray} {l : List Int} (hl : Byt l) (hn : t.size + l.length < 60000000000000) : spec_TaggedDigest.f t l = some (tg t l) := by
  unfold spec_TaggedDigest.f
  refine spec_dig (tg_byt0 hl) ?_
  rw [List.length_append, List.length_append, bytesOf_length, List.length_singleton]
  omega
theorem impl_tag {t : ByteArray} {ls : List (List Int)} (hl : Byt ls.flatten) (hn : t.size + ls.flatten.length < 60000000000000) (hc : ls.length < 5000000000000) : impl_tagged.f t ls = some (tg t ls.flatten) := by
  unfold impl_tagged.f
  rw [if_pos (by omega)]
  have e : ([[(t.size : Int) % 256], bytesOf t] ++ ls).flatten = [(t.size : Int) % 256] ++ bytesOf t ++ ls.flatten := by simp
  rw [impl_dig (by rw [e]; exact tg_byt0 hl) (by rw [e, List.length_append, List.length_append, bytesOf_length, List.length_singleton]; omega), e]
  rfl
theorem impl_tag1 {t : ByteArray} {l : List Int} (hl : Byt l) (hn : t.size + l.length < 60000000000000) : impl_tagged.f t [l] = some (tg t l) := by
  have e : [l].flatten = l := by simp
  have h := impl_tag (t := t) (ls := [l]) (by rw [e]; exact hl) (by rw [e]; exact hn) (by simp)
  rw [e] at h
  exact h
theorem impl_tag2 {t : ByteArray} {l m : List Int} (hl : Byt l) (hm : Byt m) (hn : t.size + l.length + m.length < 60000000000000) : impl_tagged.f t [l, m] = some (tg t (l ++ m)) := by
  have e : [l, m].flatten = l ++ m := by simp
  have h := impl_tag (t := t) (ls := [l, m]) (by rw [e]; exact byt_append hl hm) (by rw [e, List.length_append]; omega) (by simp)
  rw [e] at h
  exact h
end Go.Proofs.Ytcgeajjkfoignaa.S

/- What the laws' markByteS and heldByteS come to: places are numbered from a start on, and found numbered so. For every slice and start that fit. -/
set_option linter.unusedVariables false
namespace Go.Proofs.Ytcgeajjkfoignaa.S
open Go.RowKit Go.Proofs.YtcgeajjkfoignaaW.PrintWords Go.Proofs.YtcgeajjkfoignaaW.PrintLast Go.Proofs.YtcgeajjkfoignaaW.PrintMore Go.Proofs.Ytcgeajjkfoignaa.Base

/-- n places numbered from a on. -/
def marked (a : Int) (n : Nat) : List Int := (List.range n).map fun (j : Nat) => (a + (j : Int)) % 256
theorem marked_length (a : Int) (n : Nat) : (marked a n).length = n := by simp [marked]
theorem marked_at (a : Int) (n j : Nat) (h : j < n) : (marked a n)[j]? = some ((a + (j : Int)) % 256) := by
  simp [marked, List.getElem?_map, List.getElem?_range h]
theorem markByteS_l0 (a : Int) (n : Nat) (h0 : 0 ≤ a) (h1 : a + n ≤ 4611686018427387904) : ∀ (d i : Nat) (x : List Int), i + d = n → x.length = n → (∀ j, j < i → x[j]? = (marked a n)[j]?) → Ev (fun k => laws_markByteS.l0 k x (a + (i : Int)) (i : Int)) (a + (n : Int), marked a n) := by
  intro d
  induction d with
  | zero =>
    intro i x hi hx hj
    refine ev_step (fun k => laws_markByteS.l0.eq_2 _ _ _ _) (ev_neg (by omega) ?_)
    have e : x = marked a n := fill_all (by rw [marked_length]; exact hx) (fun j h => hj j (by rw [marked_length] at h; omega))
    rw [e, show i = n by omega]
    exact ev_now rfl
  | succ d ih =>
    intro i x hi hx hj
    refine ev_step (fun k => laws_markByteS.l0.eq_2 _ _ _ _) (ev_pos (by omega) (ev_pos (by omega) ?_))
    rw [w64s (by omega), w64 (n := a + (i : Int) + 1) (by omega) (by omega), Int.toNat_natCast, show a + (i : Int) + 1 = a + ((i + 1 : Nat) : Int) by omega]
    refine ih (i + 1) _ (by omega) (by rw [List.length_set]; exact hx) ?_
    intro j hj'
    rw [List.getElem?_set]
    by_cases e : i = j
    · subst e
      rw [if_pos rfl, if_pos (by omega), marked_at a n i (by omega)]
    · rw [if_neg e]; exact hj j (by omega)
theorem markByteS_ev (l : List Int) (a : Int) (h0 : 0 ≤ a) (h1 : a + l.length ≤ 4611686018427387904) : Ev (fun k => laws_markByteS.f k l a) (a + (l.length : Int), marked a l.length) := by
  have h := markByteS_l0 a l.length h0 h1 l.length 0 l (by omega) rfl (fun j h => by omega)
  rw [show a + ((0 : Nat) : Int) = a by omega] at h
  exact h
theorem heldByteS_l0 (a : Int) (n : Nat) (h0 : 0 ≤ a) (h1 : a + n ≤ 4611686018427387904) : ∀ (d i : Nat), i + d = n → Ev (fun k => laws_heldByteS.l0 k (marked a n) (a + (i : Int)) (i : Int)) (a + (n : Int)) := by
  intro d
  induction d with
  | zero =>
    intro i hi
    refine ev_step (fun k => laws_heldByteS.l0.eq_2 _ _ _ _) (ev_neg (by rw [marked_length]; omega) ?_)
    rw [show i = n by omega]
    exact ev_now rfl
  | succ d ih =>
    intro i hi
    refine ev_step (fun k => laws_heldByteS.l0.eq_2 _ _ _ _) (ev_pos (by rw [marked_length]; omega) (ev_pos (by omega) (ev_pos ?_ ?_)))
    · unfold rd
      rw [List.getD_eq_getElem?_getD, Int.toNat_natCast, marked_at a n i (by omega)]
      rfl
    · rw [w64s (by omega), w64 (n := a + (i : Int) + 1) (by omega) (by omega), show a + (i : Int) + 1 = a + ((i + 1 : Nat) : Int) by omega]
      exact ih (i + 1) (by omega)
theorem heldByteS_ev (n : Nat) (a : Int) (h0 : 0 ≤ a) (h1 : a + n ≤ 4611686018427387904) : Ev (fun k => laws_heldByteS.f k (marked a n) a) (a + (n : Int)) := by
  have h := heldByteS_l0 a n h0 h1 n 0 (by omega)
  rw [show a + ((0 : Nat) : Int) = a by omega] at h
  exact h
end Go.Proofs.Ytcgeajjkfoignaa.S

/- The program's HeadBDigest and the reference's answer alike, for every head, in new memory. No condition. -/
set_option linter.unusedVariables false
namespace Go.Proofs.Ytcgeajjkfoignaa.S
open Go.RowKit Go.Proofs.YtcgeajjkfoignaaW.PrintWords Go.Proofs.YtcgeajjkfoignaaW.PrintLast Go.Proofs.YtcgeajjkfoignaaW.PrintMore Go.Proofs.Ytcgeajjkfoignaa.Base Go.Proofs.Ytcgeajjkfoignaa.Sha

theorem packLB_byt : ∀ (ws : List (List Int)), (∀ w ∈ ws, Byt w) → Byt (packL ws) := by
  intro ws
  induction ws with
  | nil => intro _; exact byt_nil
  | cons w ws ih =>
    intro h
    show Byt ((((w.length : Int) % 256) :: w) ++ packL ws)
    exact byt_append (byt_append (byt_one (x := (w.length : Int) % 256) (by omega) (by omega)) (h w List.mem_cons_self)) (ih (fun v hv => h v (List.mem_cons_of_mem _ hv)))
theorem headBOk {a0 a1 : Int} {l2 l3 l4 : List Int} (h : headBFaultV a0 a1 l2 l3 l4 = 0) : l2.length = 32 ∧ l3.length = 32 ∧ l4.length = 32 := by
  unfold headBFaultV at h
  split at h
  · assumption
  · omega
def headBW (a0 a1 : Int) (l2 l3 l4 : List Int) : List (List Int) := [num7 a0, num7 a1, l2, l3, l4]
theorem headBW_length {l2 l3 l4 : List Int} (h2 : l2.length = 32) (h3 : l3.length = 32) (h4 : l4.length = 32) (a0 a1 : Int) : (packL (headBW a0 a1 l2 l3 l4)).length = 115 := by
  unfold headBW
  simp only [packL_cons_length, num7_length, h2, h3, h4]
  rfl
theorem headBW_byt {l2 l3 l4 : List Int} (h2 : Byt l2) (h3 : Byt l3) (h4 : Byt l4) (a0 a1 : Int) : Byt (packL (headBW a0 a1 l2 l3 l4)) := by
  refine packLB_byt _ (fun w hw => ?_)
  simp only [headBW, List.mem_cons, List.not_mem_nil, or_false] at hw
  rcases hw with rfl | rfl | rfl | rfl | rfl
  · exact num7_byt _
  · exact num7_byt _
  · exact h2
  · exact h3
  · exact h4
/-- The digest of a head without a fault. -/
def headBDigestV (a0 a1 : Int) (l2 l3 l4 : List Int) : List Int :=
  if headBFaultV a0 a1 l2 l3 l4 = 0 then tg (⟨#[98, 102, 116]⟩ : ByteArray) (packL (headBW a0 a1 l2 l3 l4)) else []
theorem headBDigestV_length (a0 a1 : Int) (l2 l3 l4 : List Int) : (headBDigestV a0 a1 l2 l3 l4).length ≤ 32 := by
  unfold headBDigestV
  split
  · exact Nat.le_of_eq (tg_length _ _)
  · simp
theorem spec_headBDigest_ev (a0 a1 : Int) {l2 l3 l4 : List Int} (b2 : Byt l2) (b3 : Byt l3) (b4 : Byt l4) : Ev (fun k => spec_HeadBDigest.f k a0 a1 l2 l3 l4) (headBDigestV a0 a1 l2 l3 l4) := by
  unfold spec_HeadBDigest.f headBDigestV
  refine ev_bind (spec_headBFault_ev a0 a1 l2 l3 l4) ?_
  have h3 : (⟨#[98, 102, 116]⟩ : ByteArray).size = 3 := rfl
  by_cases c : headBFaultV a0 a1 l2 l3 l4 = 0
  · obtain ⟨g2, g3, g4⟩ := headBOk c
    have hl := headBW_length g2 g3 g4 a0 a1
    rw [if_pos c]
    exact ev_pos c (ev_bind (l1Put_ev a0) (ev_bind (l1Put_ev a1) (ev_bind (l1Pack_ev (headBW a0 a1 l2 l3 l4) (by simp [headBW]) (by omega)) (ev_bind (ev_now (spec_tag (headBW_byt b2 b3 b4 a0 a1) (by omega))) (ev_now rfl)))))
  · rw [if_neg c]
    exact ev_neg c (ev_now rfl)
theorem impl_headBDigest_ev (a0 a1 : Int) {l2 l3 l4 : List Int} (b2 : Byt l2) (b3 : Byt l3) (b4 : Byt l4) : Ev (fun k => impl_HeadBDigest.f k a0 a1 l2 l3 l4) (headBDigestV a0 a1 l2 l3 l4) := by
  unfold impl_HeadBDigest.f headBDigestV
  refine ev_bind (ev_now (impl_headBFault_eq a0 a1 l2 l3 l4)) ?_
  have h3 : (⟨#[98, 102, 116]⟩ : ByteArray).size = 3 := rfl
  by_cases c : headBFaultV a0 a1 l2 l3 l4 = 0
  · obtain ⟨g2, g3, g4⟩ := headBOk c
    have hl := headBW_length g2 g3 g4 a0 a1
    have hall : ∀ w ∈ headBW a0 a1 l2 l3 l4, w.length ≤ 200 := by
      intro w hw
      simp only [headBW, List.mem_cons, List.not_mem_nil, or_false] at hw
      rcases hw with rfl | rfl | rfl | rfl | rfl <;> (try simp only [num7_length]) <;> omega
    have hp : packedV (headBW a0 a1 l2 l3 l4) = (packL (headBW a0 a1 l2 l3 l4), true) := by
      unfold packedV
      rw [if_neg (by simp [headBW]), if_pos ⟨hall, by omega⟩]
    rw [if_pos c]
    refine ev_pos c (ev_bind (a := tg (⟨#[98, 102, 116]⟩ : ByteArray) (packL (headBW a0 a1 l2 l3 l4))) ?_ (ev_now rfl))
    unfold impl_HeadB_digest.f
    refine ev_bind (number_ev a0) (ev_bind (number_ev a1) (ev_bind (a := packL (headBW a0 a1 l2 l3 l4)) ?_ (ev_bind (ev_now (impl_tag1 (headBW_byt b2 b3 b4 a0 a1) (by omega))) (ev_now rfl))))
    unfold impl_pack.f
    refine ev_bind (packed_ev (headBW a0 a1 l2 l3 l4) (fun w hw => by have := hall w hw; omega)) ?_
    rw [hp]
    exact ev_now rfl
  · rw [if_neg c]
    exact ev_neg c (ev_now rfl)
end Go.Proofs.Ytcgeajjkfoignaa.S
namespace Go.Proofs.Ytcgeajjkfoignaa.Pure
open Go.RowKit Go.Proofs.Ytcgeajjkfoignaa.S Go.Proofs.YtcgeajjkfoignaaW.PrintWords Go.Proofs.YtcgeajjkfoignaaW.PrintLast Go.Proofs.YtcgeajjkfoignaaW.PrintMore Go.Proofs.Ytcgeajjkfoignaa.Base Go.Proofs.Ytcgeajjkfoignaa.Sha

theorem FnExactHeadBDigest : ∀ (y0 : S35), (((Lit.int .i64 y0.f0).wf = true) ∧ ((Lit.int .i64 y0.f1).wf = true) ∧ (y0.f2.length ≤ 9223372036854775807 ∧ ∀ y3 ∈ y0.f2, (Lit.int .u8 y3).wf = true) ∧ (y0.f3.length ≤ 9223372036854775807 ∧ ∀ y3 ∈ y0.f3, (Lit.int .u8 y3).wf = true) ∧ (y0.f4.length ≤ 9223372036854775807 ∧ ∀ y3 ∈ y0.f4, (Lit.int .u8 y3).wf = true)) → ∃ k, laws_FnExactHeadBDigest.f k y0.f0 y0.f1 y0.f2 y0.f3 y0.f4 = some true := by
  rintro ⟨a0, a1, l2, l3, l4⟩ ⟨_, _, ⟨h2, w2⟩, ⟨h3, w3⟩, ⟨h4, w4⟩⟩
  refine Ev.rounds ?_
  simp only at h2 w2 h3 w3 h4 w4 ⊢
  unfold laws_FnExactHeadBDigest.f
  obtain ⟨r, hr, _, hz⟩ := szHeadB_ex a0 a1 l2 l3 l4 1048576 h2 h3 h4 (by omega) (by omega)
  refine ev_bind (ev_now hr) ?_
  by_cases c : r < 0
  · exact ev_pos c (ev_now rfl)
  have hz := hz c
  have t := toHeadB_ev a0 a1 l2 l3 l4 (by omega) (by omega) (by omega)
  have e := eqHeadB_ev a0 a1 l2 l3 l4 (by omega) (by omega) (by omega)
  have hs := spec_headBDigest_ev a0 a1 (byt_of_wf w2) (byt_of_wf w3) (byt_of_wf w4)
  have hi := impl_headBDigest_ev a0 a1 (byt_of_wf w2) (byt_of_wf w3) (byt_of_wf w4)
  have hl := headBDigestV_length a0 a1 l2 l3 l4
  have mh : Ev (fun k => laws_markHeadB.f k a0 a1 l2 l3 l4 1) (1 + (l2.length : Int) + (l3.length : Int) + (l4.length : Int), marked 1 l2.length, marked (1 + (l2.length : Int)) l3.length, marked (1 + (l2.length : Int) + (l3.length : Int)) l4.length) := by
    unfold laws_markHeadB.f
    exact ev_bind (markByteS_ev l2 1 (by omega) (by omega)) (ev_bind (markByteS_ev l3 (1 + (l2.length : Int)) (by omega) (by omega)) (ev_bind (markByteS_ev l4 (1 + (l2.length : Int) + (l3.length : Int)) (by omega) (by omega)) (ev_now rfl)))
  generalize headBDigestV a0 a1 l2 l3 l4 = q at hs hi hl
  have he := eqByteS_ev q (by omega)
  have hm := markByteS_ev q 1 (by omega) (by omega)
  have hh := heldByteS_ev q.length 1 (by omega) (by omega)
  refine ev_neg c (ev_bind t (ev_bind hs (ev_bind t (ev_bind hi (ev_bind he (ev_pos rfl (ev_bind t (ev_bind e (ev_pos rfl (ev_bind mh (ev_neg (by omega) (ev_bind he ?_))))))))))))
  refine ev_step (fun k => laws_FnExactHeadBDigest.j0.eq_2 _ _ _ _ _ _ _ _ _) (ev_neg (by decide) ?_)
  refine ev_bind hm (ev_bind hh (ev_neg (by omega) (ev_pos rfl (ev_bind t (ev_bind hi (ev_bind he (ev_pos rfl (ev_bind hh (ev_neg (by omega) (ev_pos rfl (ev_now rfl)))))))))))
end Go.Proofs.Ytcgeajjkfoignaa.Pure
